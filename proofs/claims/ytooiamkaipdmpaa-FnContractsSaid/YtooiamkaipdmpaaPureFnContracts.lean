/- FnContracts, the pure statement: a contract turned round twice is as it was, and its legs at all shards are all its legs, whatever the bytes draw. No conditions. -/
import Derived.Test.YtooiamkaipdmpaaPFnContractsx13
import Derived.Test.YtooiamkaipdmpaaOFnContracts
namespace Go.Proofs.Ytooiamkaipdmpaa.Pure
open Go.RowKit Go.Proofs.Ytooiamkaipdmpaa.PFnContracts Go.Proofs.YtooiamkaipdmpaaW.PrintWords Go.Proofs.YtooiamkaipdmpaaW.PrintLast Go.Proofs.YtooiamkaipdmpaaW.PrintMore Go.Proofs.Ytooiamkaipdmpaa.Opens
set_option linter.unusedVariables false
set_option linter.unusedSimpArgs false
/-! ### words of this text's own -/
theorem w64 {x : Int} (h0 : -9223372036854775808 ≤ x) (h1 : x ≤ 9223372036854775807) : wrap64 x = x := by
  unfold wrap64
  omega
theorem wfU8 {x : Int} (h : (Lit.int .u8 x).wf = true) : 0 ≤ x ∧ x < 256 := by
  simp [Lit.wf, IntKind.min, IntKind.max, IntKind.signed, IntKind.bits] at h
  omega
theorem wfI64 {x : Int} (h : (Lit.int .i64 x).wf = true) : -9223372036854775808 ≤ x ∧ x ≤ 9223372036854775807 := by
  simp [Lit.wf, IntKind.min, IntKind.max, IntKind.signed, IntKind.bits] at h
  omega
section
variable {α β σ : Type}
theorem Ev.ite {g f : Nat → Option α} {c : Prop} [Decidable c] {r : α} (ht : c → Ev g r) (hf : ¬ c → Ev f r) : Ev (fun k => if c then g k else f k) r := by
  by_cases h : c
  · simp only [if_pos h]; exact ht h
  · simp only [if_neg h]; exact hf h
theorem Ev.pos {g f : Nat → Option α} {c : Prop} [Decidable c] {r : α} (h : c) (ht : Ev g r) : Ev (fun k => if c then g k else f k) r := Ev.ite (fun _ => ht) (fun n => absurd h n)
theorem Ev.neg {g f : Nat → Option α} {c : Prop} [Decidable c] {r : α} (h : ¬ c) (hf : Ev f r) : Ev (fun k => if c then g k else f k) r := Ev.ite (fun y => absurd y h) (fun _ => hf)
theorem Ev.cond {g f : Nat → Option α} {c : Prop} [Decidable c] {r s : α} (ht : c → Ev g r) (hf : ¬ c → Ev f s) : Ev (fun k => if c then g k else f k) (if c then r else s) := by
  by_cases h : c
  · simp only [if_pos h]; exact ht h
  · simp only [if_neg h]; exact hf h
theorem Ev.let {f : Nat → α → Option β} {a : α} {r : β} (k : Ev (fun n => f n a) r) : Ev (fun n => (some a).bind (f n)) r := Ev.bind (Ev.now a) k
theorem Ev.is {a : Option α} {r : α} (h : a = some r) : Ev (fun _ => a) r := ⟨0, fun _ _ => h⟩
theorem Ev.eq {g : Nat → Option α} {a b : α} (h : Ev g a) (e : a = b) : Ev g b := e ▸ h
/-- A loop that counts i up to n, with a state s: what it comes to, if 'P i s' leads from round to round. -/
theorem Ev.upto (F : Nat → σ → Int → Option α) (n : Int) (hn : n ≤ 9223372036854775807) (P : Int → σ → Prop) (R : α → Prop)
    (step : ∀ i s, 0 ≤ i → i < n → P i s → (∃ s', P (i + 1) s' ∧ ∀ r, Ev (fun k => F k s' (wrap64 (i + 1))) r → Ev (fun k => F k s i) r) ∨ (∃ r, R r ∧ Ev (fun k => F k s i) r))
    (stop : ∀ s, P n s → ∃ r, R r ∧ Ev (fun k => F k s n) r) (i : Int) (s : σ) (h0 : 0 ≤ i) (h1 : i ≤ n) (hP : P i s) : ∃ r, R r ∧ Ev (fun k => F k s i) r := by
  obtain ⟨d, hd⟩ : ∃ d : Nat, n - i = d := ⟨(n - i).toNat, by omega⟩
  induction d generalizing i s with
  | zero =>
    obtain rfl : i = n := by omega
    exact stop s hP
  | succ d ih =>
    rcases step i s h0 (by omega) hP with ⟨s', hP', h⟩ | h
    · obtain ⟨r, hr, he⟩ := ih (i + 1) s' (by omega) (by omega) hP' (by omega)
      exact ⟨r, hr, h r (by rw [w64 (by omega) (by omega)]; exact he)⟩
    · exact h
/-- The same, where what it comes to is one value. -/
theorem Ev.upto1 (F : Nat → σ → Int → Option α) (n : Int) (hn : n ≤ 9223372036854775807) (P : Int → σ → Prop) (r : α)
    (step : ∀ i s, 0 ≤ i → i < n → P i s → (∃ s', P (i + 1) s' ∧ (Ev (fun k => F k s' (wrap64 (i + 1))) r → Ev (fun k => F k s i) r)) ∨ Ev (fun k => F k s i) r)
    (stop : ∀ s, P n s → Ev (fun k => F k s n) r) (i : Int) (s : σ) (h0 : 0 ≤ i) (h1 : i ≤ n) (hP : P i s) : Ev (fun k => F k s i) r := by
  obtain ⟨d, hd⟩ : ∃ d : Nat, n - i = d := ⟨(n - i).toNat, by omega⟩
  induction d generalizing i s with
  | zero =>
    obtain rfl : i = n := by omega
    exact stop s hP
  | succ d ih =>
    rcases step i s h0 (by omega) hP with ⟨s', hP', h⟩ | h
    · exact h (by rw [w64 (by omega) (by omega)]; exact ih (i + 1) s' (by omega) (by omega) hP' (by omega))
    · exact h
theorem take_set_succ (l acc : List α) (i : Nat) (v : α) (h : i < acc.length) (ht : acc.take i = l.take i) (hv : l[i]? = some v) : (acc.set i v).take (i + 1) = l.take (i + 1) := by
  rw [List.take_add_one, List.take_add_one, hv, List.getElem?_set_self h, List.take_set_of_le (Nat.le_refl _), ht]
/-- A row filled cell by cell. -/
theorem Ev.fill (F : Nat → List α → Int → Option (List α)) (l : List α) (hl : l.length ≤ 9223372036854775807)
    (step : ∀ (i : Int) s (v : α), 0 ≤ i → i < (l.length : Int) → s.length = l.length → l[i.toNat]? = some v → Ev (fun k => F k (s.set i.toNat v) (wrap64 (i + 1))) l → Ev (fun k => F k s i) l)
    (stop : ∀ s, s.length = l.length → Ev (fun k => F k s (l.length : Int)) s) (s : List α) (hs : s.length = l.length) : Ev (fun k => F k s 0) l :=
  Ev.upto1 F l.length (by omega) (fun i s => s.length = l.length ∧ s.take i.toNat = l.take i.toNat) l
    (fun i s h0 h1 ⟨hs, ht⟩ => .inl ⟨s.set i.toNat (l[i.toNat]'(by omega)), ⟨by simp [hs], by
      rw [show (i + 1).toNat = i.toNat + 1 by omega]
      exact take_set_succ l s _ _ (by omega) ht (List.getElem?_eq_getElem (by omega))⟩, step i s _ h0 h1 hs (List.getElem?_eq_getElem (by omega))⟩)
    (fun s ⟨hs, ht⟩ => by
      rw [List.take_of_length_le (by omega), List.take_of_length_le (by omega)] at ht
      have := stop s hs
      subst ht
      exact this) 0 s (by omega) (by omega) ⟨hs, by simp⟩
/-- A loop that asks of each place, and comes to the end. -/
theorem Ev.each {F : Nat → Int → Option β} {r : β} (n : Nat) (hn : (n : Int) ≤ 9223372036854775807) (step : ∀ i : Int, 0 ≤ i → i < n → Ev (fun k => F k (wrap64 (i + 1))) r → Ev (fun k => F k i) r) (stop : Ev (fun k => F k (n : Int)) r) : Ev (fun k => F k 0) r :=
  Ev.upto1 (fun k (_ : Unit) i => F k i) n hn (fun _ _ => True) r (fun i _ h0 h1 _ => .inl ⟨(), trivial, step i h0 h1⟩) (fun _ _ => stop) 0 () (by omega) (by omega) trivial
end
theorem rd_get (l : List Int) (i : Int) (h0 : 0 ≤ i) (h1 : i < (l.length : Int)) : rd l i = l[i.toNat]'(by omega) := by
  unfold rd
  rw [List.getD_eq_getElem?_getD, List.getElem?_eq_getElem (by omega)]
  rfl
theorem rd_of {l : List Int} {i : Int} {v : Int} (h : l[i.toNat]? = some v) : rd l i = v := by
  unfold rd
  rw [List.getD_eq_getElem?_getD, h]
  rfl
theorem drop_cons_at {α : Type} (l : List α) (i : Nat) (h : i < l.length) : l.drop i = l[i] :: l.drop (i + 1) := List.drop_eq_getElem_cons h
theorem rd_drop (l : List Int) (n : Nat) (j : Int) (h : 0 ≤ j) : rd (l.drop n) j = rd l ((n : Int) + j) := by
  unfold rd
  rw [List.getD_eq_getElem?_getD, List.getD_eq_getElem?_getD, List.getElem?_drop, show ((n : Int) + j).toNat = n + j.toNat by omega]
theorem rd_bound (l : List Int) (hb : ∀ x ∈ l, 0 ≤ x ∧ x < 256) (i : Int) : 0 ≤ rd l i ∧ rd l i < 256 := by
  unfold rd
  rw [List.getD_eq_getElem?_getD]
  cases h : l[i.toNat]? with
  | none => simp
  | some v => exact hb v (List.mem_of_getElem? h)

/-- Bytes. -/
def bytesL (l : List Int) : Prop := ∀ x ∈ l, 0 ≤ x ∧ x < 256
theorem next_ok (c : List Int) (hb : bytesL c) (hl : c.length ≤ 2000000) (s : Int) (h0 : 0 ≤ s) (h1 : s ≤ 100000000000000) (n : Int) :
    ∃ r, spec_l1Next.f c s n = some (r, s + 1) ∧ 0 ≤ r ∧ (1 ≤ n → r < n) ∧ (n < 1 → r = 0) := by
  have e1 : wrap64 (s + 1) = s + 1 := w64 (by omega) (by omega)
  have e2 : wrap64 (s + 1 - 1) = s := by rw [show s + 1 - 1 = s by omega]; exact w64 (by omega) (by omega)
  unfold spec_l1Next.f
  simp only [e1, e2]
  by_cases hn1 : n < 1
  · rw [if_pos hn1]
    exact ⟨0, rfl, by omega, fun h => by omega, fun _ => rfl⟩
  rw [if_neg hn1]
  have fin : ∀ v : Int, 0 ≤ v → ∃ r, (if n = 0 then none else some (Int.tmod v n, s + 1)) = some (r, s + 1) ∧ 0 ≤ r ∧ (1 ≤ n → r < n) ∧ (n < 1 → r = 0) := fun v hv =>
    ⟨Int.tmod v n, if_neg (by omega), Int.tmod_nonneg n hv, fun _ => Int.tmod_lt_of_pos v (by omega), fun h => absurd h hn1⟩
  by_cases hk : (c.length : Int) = 0
  · rw [if_pos hk, w64 (x := s * 7) (by omega) (by omega)]
    exact fin _ (by omega)
  · rw [if_neg hk]
    have m0 := Int.tmod_nonneg (c.length : Int) h0
    have m1 := Int.tmod_lt_of_pos s (show 0 < (c.length : Int) by omega)
    have p0 := Int.tmod_nonneg (c.length : Int) (show 0 ≤ s + 1 by omega)
    have p1 := Int.tmod_lt_of_pos (s + 1) (show 0 < (c.length : Int) by omega)
    have d0 : 0 ≤ Int.tdiv s (c.length : Int) := Int.tdiv_nonneg h0 (by omega)
    have d1 : Int.tdiv s (c.length : Int) ≤ s := by
      rw [Int.tdiv_eq_ediv_of_nonneg h0]
      exact Int.ediv_le_self _ h0
    rw [if_pos m0, if_pos m1]
    have b0 := rd_bound c hb (Int.tmod s (c.length : Int))
    have b1 := rd_bound c hb (Int.tmod (s + 1) (c.length : Int))
    generalize rd c (Int.tmod s (c.length : Int)) = u at b0 ⊢
    generalize rd c (Int.tmod (s + 1) (c.length : Int)) = v at b1 ⊢
    generalize Int.tdiv s (c.length : Int) = q at d0 d1 ⊢
    have w1 : wrap64 u = u := w64 (by omega) (by omega)
    have w2 : wrap64 v = v := w64 (by omega) (by omega)
    have w3 : wrap64 q = q := w64 (by omega) (by omega)
    have w4 : wrap64 (q * 37) = q * 37 := w64 (by omega) (by omega)
    have w5 : wrap64 (u + q * 37) = u + q * 37 := w64 (by omega) (by omega)
    have w6 : wrap64 ((u + q * 37) * 251) = (u + q * 37) * 251 := w64 (by omega) (by omega)
    have w7 : wrap64 (v * 13) = v * 13 := w64 (by omega) (by omega)
    have w8 : wrap64 ((u + q * 37) * 251 + v * 13) = (u + q * 37) * 251 + v * 13 := w64 (by omega) (by omega)
    have w9 : wrap64 ((u + q * 37) * 251 + v * 13 + s) = (u + q * 37) * 251 + v * 13 + s := w64 (by omega) (by omega)
    simp only [w1, w2, w3, w4, w5, w6, w7, w8, w9]
    by_cases h200 : n > 200
    · rw [if_pos h200, if_pos p0, if_pos p1]
      exact fin _ (by omega)
    · rw [if_neg h200]
      exact fin _ (by omega)
theorem pick_ok (c : List Int) (hb : bytesL c) (hl : c.length ≤ 2000000) (s : Int) (h0 : 0 ≤ s) (h1 : s ≤ 100000000000000) (l : List Int) (hn : 1 ≤ l.length) : ∃ v, v ∈ l ∧ spec_l1Pick.f c s l = some (v, s + 1) := by
  obtain ⟨r, hr, p0, p1, _⟩ := next_ok c hb hl s h0 h1 (l.length : Int)
  have p1 := p1 (by omega)
  refine ⟨rd l r, ?_, ?_⟩
  · rw [rd_get l r p0 p1]
    exact List.getElem_mem _
  · unfold spec_l1Pick.f
    rw [hr]
    simp only [Option.bind_some]
    rw [if_pos p0, if_pos p1]
theorem bytesL_mod (l : List Int) (h : bytesL l) (v : Int) : bytesL (l ++ [v % 256]) := fun x hx => by
  rcases List.mem_append.1 hx with h1 | h1
  · exact h x h1
  · have := List.mem_singleton.1 h1; omega
/-- What LegFault tells of a leg. -/
def legFault (s a t m : Int) : Int := if 0 ≤ s ∧ s ≤ 2 ∧ 0 ≤ a ∧ a ≤ 5 ∧ 0 ≤ t ∧ t ≤ 2 ∧ -1000000000000 ≤ m ∧ m ≤ 1000000000000 then (if m = 0 then 1 else 0) else 3
theorem spec_LegFault_ev (s a t m : Int) : Ev (fun k => spec_LegFault.f k s a t m) (legFault s a t m) := by
  refine ⟨1, fun k hk => ?_⟩
  obtain ⟨k, rfl⟩ : ∃ j, k = j + 1 := ⟨k - 1, by omega⟩
  unfold spec_LegFault.f spec_l1In.f legFault
  by_cases h1 : 0 ≤ s <;> by_cases h2 : s ≤ 2 <;> by_cases h3 : 0 ≤ a <;> by_cases h4 : a ≤ 5 <;> by_cases h5 : 0 ≤ t <;> by_cases h6 : t ≤ 2 <;> by_cases h7 : -1000000000000 ≤ m <;> by_cases h8 : m ≤ 1000000000000 <;> by_cases h9 : m = 0 <;> simp [h1, h2, h3, h4, h5, h6, h7, h8, h9, spec_LegFault.j0]
theorem impl_LegFault_ev (s a t m : Int) : Ev (fun k => impl_LegFault.f k s a t m) (legFault s a t m) := by
  refine ⟨1, fun k hk => ?_⟩
  obtain ⟨k, rfl⟩ : ∃ j, k = j + 1 := ⟨k - 1, by omega⟩
  unfold impl_LegFault.f impl_isShard.f impl_isPlace.f impl_isAsset.f impl_within.f legFault
  by_cases h1 : 0 ≤ s <;> by_cases h2 : s ≤ 2 <;> by_cases h3 : 0 ≤ a <;> by_cases h4 : a ≤ 5 <;> by_cases h5 : 0 ≤ t <;> by_cases h6 : t ≤ 2 <;> by_cases h7 : -1000000000000 ≤ m <;> by_cases h8 : m ≤ 1000000000000 <;> by_cases h9 : m = 0 <;> simp [h1, h2, h3, h4, h5, h6, h7, h8, h9, impl_LegFault.j0]

theorem rdLeg {l : List S89} {i : Int} {v : S89} (h : l[i.toNat]? = some v) : rd_T89 l i = v := by
  unfold rd_T89
  rw [List.getD_eq_getElem?_getD, h]
  rfl
theorem rdLeg_at (l : List S89) (i : Int) (h0 : 0 ≤ i) (h1 : i < (l.length : Int)) : rd_T89 l i = l[i.toNat]'(by omega) := rdLeg (List.getElem?_eq_getElem (by omega))

theorem within_eq (x a b : Int) : impl_within.f x a b = some (decide (a ≤ x ∧ x ≤ b)) := by
  unfold impl_within.f
  by_cases h1 : a ≤ x <;> simp [h1]

theorem l1In_eq (x a b : Int) : spec_l1In.f x a b = some (decide (a ≤ x ∧ x ≤ b)) := by
  unfold spec_l1In.f
  by_cases h1 : a ≤ x <;> simp [h1]

theorem containsLeg_ev [FN_slices_IndexFunc_impl_Leg] (q : S89 → Bool) (hq : ∀ x : S89, FN_slices_IndexFunc_impl_Leg.f x.f0 x.f1 x.f2 x.f3 = some (q x)) (l : List S89) (hl : l.length ≤ 1000000) : Ev (fun k => slices_ContainsFunc_impl_Leg.f k l) (l.any q) := by
  unfold slices_ContainsFunc_impl_Leg.f slices_IndexFunc_impl_Leg.f
  obtain ⟨r, hr, he⟩ := Ev.upto (fun k (_ : Unit) i => slices_IndexFunc_impl_Leg.l0 k l (l.length : Int) i) l.length (by omega) (fun i _ => (l.drop i.toNat).any q = l.any q) (fun r => r ≥ 0 ↔ l.any q = true)
    (fun i _ h0 h1 hp => by
      have hr := rdLeg_at l i h0 h1
      rw [drop_cons_at l i.toNat (by omega), List.any_cons] at hp
      generalize l[i.toNat]'(by omega) = x at hr hp
      by_cases hx : q x = true
      · rw [hx, Bool.true_or] at hp
        refine .inr ⟨i, ⟨fun _ => hp.symm, fun _ => h0⟩, Ev.step (fun k => slices_IndexFunc_impl_Leg.l0.eq_2 ..) (Ev.pos h1 (Ev.pos h0 (Ev.pos h1 ?_)))⟩
        rw [hr]
        exact Ev.bind (Ev.is (hq x)) (Ev.pos hx (Ev.now _))
      · have hf : q x = false := by simpa using hx
        rw [hf, Bool.false_or] at hp
        refine .inl ⟨(), by rw [show (i + 1).toNat = i.toNat + 1 by omega]; exact hp, fun r h => Ev.step (fun k => slices_IndexFunc_impl_Leg.l0.eq_2 ..) (Ev.pos h1 (Ev.pos h0 (Ev.pos h1 ?_)))⟩
        rw [hr]
        exact Ev.bind (Ev.is (hq x)) (Ev.neg hx h))
    (fun _ hp => ⟨-1, by rw [← hp, List.drop_eq_nil_of_le (by omega)]; simp, Ev.step (fun k => slices_IndexFunc_impl_Leg.l0.eq_2 ..) (Ev.neg (by omega) (Ev.now _))⟩)
    0 () (by omega) (by omega) rfl
  refine Ev.bind he (Ev.eq (Ev.now _) ?_)
  rw [Bool.eq_iff_iff, decide_eq_true_iff]
  exact hr
/-- Are two legs of one place? -/
def sameP (x w : S89) : Bool := (x.f0 == w.f0 && x.f1 == w.f1) && x.f2 == w.f2
theorem samePlace_eq (x w : S89) : (impl_samePlace.f x.f0 x.f1 x.f2 x.f3 w.f0 w.f1 w.f2 w.f3 == some true) = sameP x w := by
  unfold impl_samePlace.f sameP
  by_cases h0 : x.f0 = w.f0 <;> by_cases h1 : x.f1 = w.f1 <;> by_cases h2 : x.f2 = w.f2 <;> simp [h0, h1, h2]
def placeIn (l : List S89) (i : Int) (w : S89) : Bool := (l.take i.toNat).any fun x => sameP x w
def finCode (l : List S89) : Int := if ∀ g ∈ l, sumA g.f2 l = 0 then 0 else 1
theorem fin_eq (l : List S89) : impl_ContractFault.fin l = some (finCode l) := by
  unfold impl_ContractFault.fin finCode
  split <;> rfl
/-- What ContractFault tells of the last d legs. -/
def contractFrom (l : List S89) : Nat → Int
  | 0 => finCode l
  | d + 1 => (fun i : Int => (fun x : S89 => if legFault x.f0 x.f1 x.f2 x.f3 = 0 then (if placeIn l i x = true then 7 else contractFrom l d) else legFault x.f0 x.f1 x.f2 x.f3) (rd_T89 l i)) ((l.length : Int) - (d + 1))
def contractFault (id : Int) (l : List S89) : Int := if 1 ≤ id ∧ id ≤ 1000000000 then (if 2 ≤ (l.length : Int) ∧ (l.length : Int) ≤ 8 then contractFrom l l.length else 2) else 3
theorem impl_isId_eq (id : Int) : impl_isId.f id = some (decide (1 ≤ id ∧ id ≤ 1000000000)) := by
  unfold impl_isId.f
  rw [within_eq]
  rfl
theorem impl_ContractFault_ev (id : Int) (l : List S89) : Ev (fun k => impl_ContractFault.f k id l) (contractFault id l) := by
  unfold impl_ContractFault.f impl_size_impl_Leg.f contractFault
  refine Ev.bind (Ev.is (impl_isId_eq id)) ?_
  by_cases hid : 1 ≤ id ∧ id ≤ 1000000000
  · rw [if_pos hid]
    refine Ev.pos (decide_eq_true hid) (Ev.let (Ev.bind (Ev.is (within_eq _ _ _)) ?_))
    by_cases hl : 2 ≤ (l.length : Int) ∧ (l.length : Int) ≤ 8
    · rw [if_pos hl]
      refine Ev.pos (decide_eq_true hl) ?_
      have go : ∀ d : Nat, d ≤ l.length → Ev (fun k => impl_ContractFault.l0 k l (l.length : Int) ((l.length : Int) - d) id l) (contractFrom l d) := by
        intro d
        induction d with
        | zero => intro _; exact Ev.step (fun k => impl_ContractFault.l0.eq_2 ..) (Ev.neg (by omega) (Ev.is (fin_eq l)))
        | succ d ih =>
          intro hd
          have h := ih (by omega)
          refine Ev.step (fun k => impl_ContractFault.l0.eq_2 ..) (Ev.pos (by omega) (Ev.pos (by omega) (Ev.pos (by omega) (Ev.bind (impl_LegFault_ev ..) ?_))))
          rw [w64 (x := (l.length : Int) - ((d + 1 : Nat) : Int) + 1) (by omega) (by omega), show (l.length : Int) - ((d + 1 : Nat) : Int) + 1 = (l.length : Int) - d by omega]
          rw [show ((d + 1 : Nat) : Int) = (d : Int) + 1 by omega]
          unfold contractFrom
          refine Ev.cond (fun _ => Ev.pos (by omega) (Ev.bind ?_ (Ev.cond (fun _ => Ev.now _) (fun _ => h)))) (fun _ => Ev.now _)
          unfold CL_77.f
          exact @containsLeg_ev (CL_77.p _ _ _ _) (fun x => sameP x (rd_T89 l ((l.length : Int) - ((d : Int) + 1)))) (fun x => congrArg some (samePlace_eq x _)) _ (by rw [List.length_take]; omega)
      have := go l.length (by omega)
      rw [show (l.length : Int) - (l.length : Nat) = 0 by omega] at this
      exact this
    · rw [if_neg hl]
      exact Ev.neg (fun h => hl (of_decide_eq_true h)) (Ev.now _)
  · rw [if_neg hid]
    exact Ev.neg (fun h => hid (of_decide_eq_true h)) (Ev.now _)
theorem legFault_asset {s a t m : Int} (h : legFault s a t m = 0) : 0 ≤ t ∧ t ≤ 2 := by
  unfold legFault at h
  split at h
  · next hh => exact ⟨hh.2.2.2.2.1, hh.2.2.2.2.2.1⟩
  · omega
/-- The reference's sums. -/
structure SumsAre (x3 : List Int) (l : List S89) (i : Int) : Prop where
  three : x3.length = 3
  is : ∀ a : Int, 0 ≤ a → a ≤ 2 → rd x3 a = sumA a (l.take i.toNat)
  low : ∀ g ∈ l.take i.toNat, 0 ≤ g.f2 ∧ g.f2 ≤ 2
theorem rd_set (l : List Int) (a b v : Int) (ha : 0 ≤ a) (hb : 0 ≤ b) (hl : b < (l.length : Int)) : rd (l.set b.toNat v) a = if a = b then v else rd l a := by
  unfold rd
  rw [List.getD_eq_getElem?_getD, List.getD_eq_getElem?_getD, List.getElem?_set]
  by_cases h : a = b
  · subst h
    rw [if_pos rfl, if_pos rfl, if_pos (by omega)]
    rfl
  · rw [if_neg h, if_neg (by omega)]
theorem take_succ_at (l : List S89) (i : Int) (h0 : 0 ≤ i) (h1 : i < (l.length : Int)) : l.take (i + 1).toNat = l.take i.toNat ++ [rd_T89 l i] := by
  rw [show (i + 1).toNat = i.toNat + 1 by omega, List.take_add_one, List.getElem?_eq_getElem (show i.toNat < l.length by omega), rdLeg_at l i h0 h1]
  rfl
theorem sums_end (x3 : List Int) (l : List S89) (h : SumsAre x3 l (l.length : Int)) : Ev (fun k => spec_ContractFault.l2 k x3 0) (finCode l) := by
  have hall : l.take ((l.length : Int)).toNat = l := List.take_of_length_le (by omega)
  have his := h.is
  have hlow := h.low
  have h3 := h.three
  rw [hall] at his hlow
  refine Ev.upto1 (fun k (_ : Unit) i => spec_ContractFault.l2 k x3 i) 3 (by omega) (fun i _ => ∀ a : Int, 0 ≤ a → a < i → sumA a l = 0) (finCode l) (fun i _ h0 h1 hp => ?_) (fun _ hp => ?_) 0 () (by omega) (by omega) (fun a h0 h1 => by omega)
  · have hi := his i h0 (by omega)
    by_cases hz : rd x3 i = 0
    · refine .inl ⟨(), fun a a0 a1 => ?_, fun hh => Ev.step (fun k => spec_ContractFault.l2.eq_2 ..) (Ev.pos (by omega) (Ev.pos h0 (Ev.pos hz hh)))⟩
      by_cases ha : a = i
      · rw [ha, ← hi, hz]
      · exact hp a a0 (by omega)
    · have hf : finCode l = 1 := if_neg (fun hh => by
        obtain ⟨g, hg, hgi⟩ := sumA_mem (a := i) (l := l) (by rw [← hi]; exact hz)
        apply hz
        rw [hi, ← hgi]
        exact hh g hg)
      rw [hf]
      exact .inr (Ev.step (fun k => spec_ContractFault.l2.eq_2 ..) (Ev.pos (by omega) (Ev.pos h0 (Ev.neg hz (Ev.now _)))))
  · have hf : finCode l = 0 := by
      unfold finCode
      exact if_pos (fun (g : S89) hg => hp g.f2 (hlow g hg).1 (by have := (hlow g hg).2; omega))
    rw [hf]
    exact Ev.step (fun k => spec_ContractFault.l2.eq_2 ..) (Ev.neg (by omega) (Ev.now _))
theorem spec_legs_ev (id : Int) (l : List S89) (hl : (l.length : Int) ≤ 8) : ∀ d : Nat, d ≤ l.length → ∀ x3, SumsAre x3 l ((l.length : Int) - d) → Ev (fun k => spec_ContractFault.l0 k x3 ((l.length : Int) - d) id l) (contractFrom l d) := by
  intro d
  induction d with
  | zero =>
    intro _ x3 hs
    refine Ev.step (fun k => spec_ContractFault.l0.eq_2 ..) (Ev.neg (by omega) ?_)
    rw [show (l.length : Int) - ((0 : Nat) : Int) = (l.length : Int) by omega] at hs
    exact sums_end x3 l hs
  | succ d ih =>
    intro hd x3 hs
    refine Ev.step (fun k => spec_ContractFault.l0.eq_2 ..) (Ev.pos (by omega) (Ev.pos (by omega) (Ev.bind (spec_LegFault_ev ..) ?_)))
    rw [show ((d + 1 : Nat) : Int) = (d : Int) + 1 by omega] at hs ⊢
    unfold contractFrom
    refine Ev.cond (fun hz => ?_) (fun _ => Ev.now _)
    have hlow := legFault_asset hz
    clear hz
    have hi : (l.length : Int) - ((d : Int) + 1) + 1 = (l.length : Int) - d := by omega
    have h0 : 0 ≤ (l.length : Int) - ((d : Int) + 1) := by omega
    have h1 : (l.length : Int) - ((d : Int) + 1) < (l.length : Int) := by omega
    generalize (l.length : Int) - ((d : Int) + 1) = i at hi h0 h1 hs hlow ⊢
    have hst := sumA_take
    have htk := take_succ_at l i h0 h1
    have hsum : ∀ a, sumA a (l.take (i + 1).toNat) = if a = (rd_T89 l i).f2 then wrap64 (sumA a (l.take i.toNat) + (rd_T89 l i).f3) else sumA a (l.take i.toNat) := fun a => sumA_take a l i h0 h1
    generalize rd_T89 l i = w at hlow htk hsum ⊢
    have hlen : (l.take i.toNat).length = i.toNat := by rw [List.length_take]; omega
    refine Ev.upto1 (fun k (_ : Unit) j => spec_ContractFault.l1 k x3 i j id l w.f0 w.f1 w.f2 w.f3) i (by omega) (fun j _ => ((l.take i.toNat).drop j.toNat).any (fun x => sameP x w) = placeIn l i w) (if placeIn l i w = true then 7 else contractFrom l d)
      (fun j _ j0 j1 hp => ?_) (fun _ hp => ?_) 0 () (by omega) (by omega) (by simp [placeIn])
    · have hr := rdLeg_at l j j0 (by omega)
      have e : (l.take i.toNat)[j.toNat]'(by omega) = l[j.toNat]'(by omega) := by simp
      rw [drop_cons_at (l.take i.toNat) j.toNat (by omega), List.any_cons, e] at hp
      generalize l[j.toNat]'(by omega) = x at hr hp
      by_cases hx : sameP x w = true
      · have hk : placeIn l i w = true := by rw [← hp, hx]; rfl
        rw [hk, if_pos rfl]
        unfold sameP at hx
        rw [Bool.and_eq_true, Bool.and_eq_true, beq_iff_eq, beq_iff_eq, beq_iff_eq] at hx
        refine .inr (Ev.step (fun k => spec_ContractFault.l1.eq_2 ..) (Ev.pos j1 (Ev.pos j0 (Ev.pos (by omega) ?_))))
        rw [hr]
        exact Ev.pos hx.1.1 (Ev.pos hx.1.2 (Ev.pos hx.2 (Ev.now _)))
      · have hb : sameP x w = false := by simpa using hx
        rw [hb, Bool.false_or] at hp
        refine .inl ⟨(), by rw [show (j + 1).toNat = j.toNat + 1 by omega]; exact hp, fun hh => Ev.step (fun k => spec_ContractFault.l1.eq_2 ..) (Ev.pos j1 (Ev.pos j0 (Ev.pos (by omega) ?_)))⟩
        rw [hr]
        refine Ev.ite (fun e0 => Ev.ite (fun e1 => Ev.neg (fun e2 => hx ?_) hh) (fun _ => hh)) (fun _ => hh)
        unfold sameP
        simp [e0, e1, e2]
    · rw [List.drop_eq_nil_of_le (by omega)] at hp
      have hk : placeIn l i w = false := by rw [← hp]; rfl
      rw [hk, if_neg (by simp)]
      have h3 := hs.three
      refine Ev.step (fun k => spec_ContractFault.l1.eq_2 ..) (Ev.neg (by omega) (Ev.pos hlow.1 (Ev.pos (by omega) ?_)))
      rw [w64 (x := i + 1) (by omega) (by omega), hi]
      refine ih (by omega) _ ⟨by rw [List.length_set]; exact h3, fun a a0 a1 => ?_, ?_⟩
      · rw [rd_set x3 a w.f2 _ a0 hlow.1 (by omega), ← hi, hsum a, hs.is w.f2 hlow.1 hlow.2]
        by_cases ha : a = w.f2
        · rw [if_pos ha, if_pos ha, ha]
        · rw [if_neg ha, if_neg ha, hs.is a a0 a1]
      · rw [← hi, htk]
        intro g hg
        rcases List.mem_append.mp hg with hg | hg
        · exact hs.low g hg
        · rw [List.mem_singleton.mp hg]
          exact hlow
theorem spec_l1Id_eq (id : Int) : spec_l1Id.f id = some (decide (1 ≤ id ∧ id ≤ 1000000000)) := by
  unfold spec_l1Id.f
  rw [l1In_eq]
  rfl
theorem spec_ContractFault_ev (id : Int) (l : List S89) : Ev (fun k => spec_ContractFault.f k id l) (contractFault id l) := by
  unfold spec_ContractFault.f contractFault
  refine Ev.bind (Ev.is (spec_l1Id_eq id)) ?_
  by_cases hid : 1 ≤ id ∧ id ≤ 1000000000
  · rw [if_pos hid]
    refine Ev.pos (decide_eq_true hid) ?_
    by_cases hl : 2 ≤ (l.length : Int) ∧ (l.length : Int) ≤ 8
    · rw [if_pos hl]
      refine Ev.neg (by omega) (Ev.step (fun k => spec_ContractFault.j0.eq_2 ..) (Ev.neg (by simp only [decide_eq_true_eq]; omega) (Ev.pos (by omega) ?_)))
      have := spec_legs_ev id l hl.2 l.length (by omega) (List.replicate 3 0) ⟨rfl, fun a a0 a1 => by
        have : a = 0 ∨ a = 1 ∨ a = 2 := by omega
        rw [show (l.length : Int) - (l.length : Nat) = 0 by omega]
        rcases this with rfl | rfl | rfl <;> rfl, fun g hg => by
        rw [show (l.length : Int) - (l.length : Nat) = 0 by omega] at hg
        exact absurd hg (by simp)⟩
      rw [show (l.length : Int) - (l.length : Nat) = 0 by omega] at this
      exact this
    · rw [if_neg hl]
      by_cases h1 : (l.length : Int) < 2
      · exact Ev.pos h1 (Ev.step (fun k => spec_ContractFault.j0.eq_2 ..) (Ev.pos rfl (Ev.now _)))
      · exact Ev.neg h1 (Ev.step (fun k => spec_ContractFault.j0.eq_2 ..) (Ev.pos (by simp only [decide_eq_true_eq]; omega) (Ev.now _)))
  · rw [if_neg hid]
    exact Ev.neg (fun h => hid (of_decide_eq_true h)) (Ev.now _)

theorem l1Draw_loop (c : List Int) (hb : bytesL c) (hl : c.length ≤ 2000000) (id : Int) : ∀ (n : Nat) (s i : Int) (l : List S89), n ≤ 2 → 0 ≤ s → s + 10 * n ≤ 100000000000 → l.length + 2 * n ≤ 4 →
    ∃ i' l' s', Ev (fun k => spec_l1Draw.l0 k id (n : Int) c s i l) (i', l', s') ∧ s ≤ s' ∧ s' ≤ s + 10 * n ∧ 1 ≤ l'.length ∧ l'.length ≤ 4 := by
  intro n
  induction n with
  | zero =>
    intro s i l _ h0 h1 h2
    by_cases hz : (l.length : Int) = 0
    · exact ⟨i, _, s, Ev.step (fun k => spec_l1Draw.l0.eq_2 ..) (Ev.neg (by omega) (Ev.pos hz (Ev.now _))), by omega, by omega, by simp, by simp⟩
    · exact ⟨i, l, s, Ev.step (fun k => spec_l1Draw.l0.eq_2 ..) (Ev.neg (by omega) (Ev.neg hz (Ev.now _))), by omega, by omega, by omega, by omega⟩
  | succ n ih =>
    intro s i l hn h0 h1 h2
    have hw : wrap64 (((n + 1 : Nat) : Int) - 1) = (n : Int) := by rw [w64 (by omega) (by omega)]; omega
    obtain ⟨a1, e1, _⟩ := next_ok c hb hl s h0 (by omega) 3
    obtain ⟨a2, e2, _⟩ := next_ok c hb hl (s + 1) (by omega) (by omega) 40
    obtain ⟨a3, e3, _⟩ := next_ok c hb hl (s + 1 + 1) (by omega) (by omega) 3
    obtain ⟨a4, e4, _⟩ := next_ok c hb hl (s + 1 + 1 + 1) (by omega) (by omega) 4
    obtain ⟨a5, e5, _⟩ := next_ok c hb hl (s + 1 + 1 + 1 + 1) (by omega) (by omega) 3
    obtain ⟨a6, e6, _⟩ := next_ok c hb hl (s + 1 + 1 + 1 + 1 + 1) (by omega) (by omega) 4
    obtain ⟨l2, hl2⟩ : ∃ l2 : List S89, l2 = l ++ [⟨a3, a4, a1, wrap64 (-(wrap64 (1 + a2)))⟩, ⟨a5, a6, a1, wrap64 (1 + a2)⟩] := ⟨_, rfl⟩
    have hll : l2.length = l.length + 2 := by rw [hl2, List.length_append]; rfl
    have hf := spec_ContractFault_ev id l2
    by_cases hc : contractFault id l2 = 0
    · obtain ⟨i', l', s', h, p1, p2, p3, p4⟩ := ih (s + 1 + 1 + 1 + 1 + 1 + 1) id l2 (by omega) (by omega) (by omega) (by omega)
      refine ⟨i', l', s', Ev.step (fun k => spec_l1Draw.l0.eq_2 ..) (Ev.pos (by omega) (Ev.bind (Ev.is e1) (Ev.bind (Ev.is e2) (Ev.bind (Ev.is e3) (Ev.bind (Ev.is e4) (Ev.bind (Ev.is e5) (Ev.bind (Ev.is e6) (Ev.let (Ev.pos (by simp; omega) (Ev.let (Ev.let (Ev.pos (by simp; omega) (Ev.let (Ev.bind ?_ (Ev.pos hc ?_))))))))))))))), by omega, by omega, p3, p4⟩
      · simp only [List.nil_append]
        rw [hl2] at hf
        rw [← hl2] at hf ⊢
        exact hf
      · rw [hw]
        simp only [List.nil_append]
        rw [← hl2]
        exact h
    · obtain ⟨i', l', s', h, p1, p2, p3, p4⟩ := ih (s + 1 + 1 + 1 + 1 + 1 + 1) i l (by omega) (by omega) (by omega) (by omega)
      refine ⟨i', l', s', Ev.step (fun k => spec_l1Draw.l0.eq_2 ..) (Ev.pos (by omega) (Ev.bind (Ev.is e1) (Ev.bind (Ev.is e2) (Ev.bind (Ev.is e3) (Ev.bind (Ev.is e4) (Ev.bind (Ev.is e5) (Ev.bind (Ev.is e6) (Ev.let (Ev.pos (by simp; omega) (Ev.let (Ev.let (Ev.pos (by simp; omega) (Ev.let (Ev.bind ?_ (Ev.neg hc ?_))))))))))))))), by omega, by omega, p3, p4⟩
      · simp only [List.nil_append]
        rw [← hl2]
        exact hf
      · rw [hw]
        exact h
theorem l1Draw_ok (c : List Int) (hb : bytesL c) (hl : c.length ≤ 2000000) (s : Int) (h0 : 0 ≤ s) (h1 : s ≤ 1000000000) (id : Int) : ∃ i l s', Ev (fun k => spec_l1Draw.f k c s id) (i, l, s') ∧ s ≤ s' ∧ s' ≤ s + 30 ∧ 1 ≤ l.length ∧ l.length ≤ 4 := by
  obtain ⟨a, ha, a0, a1, _⟩ := next_ok c hb hl s h0 (by omega) 2
  have a1 := a1 (by omega)
  obtain ⟨n, hn⟩ : ∃ n : Nat, wrap64 (1 + a) = (n : Int) := ⟨(1 + a).toNat, by rw [w64 (by omega) (by omega)]; omega⟩
  have hn2 : n ≤ 2 := by rw [w64 (by omega) (by omega)] at hn; omega
  obtain ⟨i, l, s', h, p1, p2, p3, p4⟩ := l1Draw_loop c hb hl id n (s + 1) id [] hn2 (by omega) (by omega) (by simp; omega)
  refine ⟨i, l, s', ?_, by omega, by omega, p3, p4⟩
  unfold spec_l1Draw.f
  refine Ev.bind (Ev.is ha) ?_
  show Ev (fun k => spec_l1Draw.l0 k id (wrap64 (1 + a)) c (s + 1) id []) _
  rw [hn]
  exact h
theorem l1Bent_ok (c : List Int) (hb : bytesL c) (hl : c.length ≤ 2000000) (s : Int) (h0 : 0 ≤ s) (h1 : s ≤ 100000000) : ∃ i l s', Ev (fun k => spec_l1Bent.f k c s) (i, l, s') ∧ s ≤ s' ∧ s' ≤ s + 50 ∧ l.length ≤ 9 := by
  obtain ⟨a, ha, _⟩ := next_ok c hb hl s h0 (by omega) 9
  obtain ⟨i, l, s1, hd, q1, q2, q3, q4⟩ := l1Draw_ok c hb hl (s + 1) (by omega) (by omega) (wrap64 (1 + a))
  obtain ⟨j, hj, j0, j1, _⟩ := next_ok c hb hl s1 (by omega) (by omega) (l.length : Int)
  have j1 := j1 (by omega)
  obtain ⟨b, hbb, b0, b1, _⟩ := next_ok c hb hl (s1 + 1) (by omega) (by omega) 24
  have pk : ∀ xs : List Int, 1 ≤ xs.length → ∃ v, v ∈ xs ∧ spec_l1Pick.f c (s1 + 1 + 1) xs = some (v, s1 + 1 + 1 + 1) := fun xs hx => pick_ok c hb hl (s1 + 1 + 1) (by omega) (by omega) xs hx
  have go : ∀ r : Int × List S89 × Int, s1 ≤ r.2.2 → r.2.2 ≤ s1 + 4 → r.2.1.length ≤ 9 → Ev (fun k => spec_l1Bent.f k c s) r → ∃ i l s', Ev (fun k => spec_l1Bent.f k c s) (i, l, s') ∧ s ≤ s' ∧ s' ≤ s + 50 ∧ l.length ≤ 9 := fun r p1 p2 p3 h => ⟨r.1, r.2.1, r.2.2, h, by omega, by omega, p3⟩
  by_cases c0 : b = 0
  · obtain ⟨v, _, hv⟩ := pk [0, (-1), 1000000000, 1000000001] (by simp)
    refine go (v, l, s1 + 1 + 1 + 1) (by simp only []; omega) (by simp only []; omega) (by simp only []; omega) ?_
    unfold spec_l1Bent.f
    exact Ev.bind (Ev.is ha) (Ev.bind hd (Ev.bind (Ev.is hj) (Ev.bind (Ev.is hbb) (Ev.pos c0 (Ev.bind (Ev.is hv) (Ev.now _))))))
  by_cases c1 : b = 1
  · obtain ⟨v, _, hv⟩ := pk [(-1), 3, 1] (by simp)
    refine go (i, l.set j.toNat ⟨v, (rd_T89 l j).f1, (rd_T89 l j).f2, (rd_T89 l j).f3⟩, s1 + 1 + 1 + 1) (by simp only []; omega) (by simp only []; omega) (by simp only [List.length_set]; omega) ?_
    unfold spec_l1Bent.f
    exact Ev.bind (Ev.is ha) (Ev.bind hd (Ev.bind (Ev.is hj) (Ev.bind (Ev.is hbb) (Ev.neg c0 (Ev.pos c1 (Ev.bind (Ev.is hv) (Ev.pos j0 (Ev.pos j1 (Ev.now _)))))))))
  by_cases c2 : b = 2
  · obtain ⟨v, _, hv⟩ := pk [(-1), 6, 5] (by simp)
    refine go (i, l.set j.toNat ⟨(rd_T89 l j).f0, v, (rd_T89 l j).f2, (rd_T89 l j).f3⟩, s1 + 1 + 1 + 1) (by simp only []; omega) (by simp only []; omega) (by simp only [List.length_set]; omega) ?_
    unfold spec_l1Bent.f
    exact Ev.bind (Ev.is ha) (Ev.bind hd (Ev.bind (Ev.is hj) (Ev.bind (Ev.is hbb) (Ev.neg c0 (Ev.neg c1 (Ev.pos c2 (Ev.bind (Ev.is hv) (Ev.pos j0 (Ev.pos j1 (Ev.now _))))))))))
  by_cases c3 : b = 3
  · obtain ⟨v, _, hv⟩ := pk [(-1), 3, 2] (by simp)
    refine go (i, l.set j.toNat ⟨(rd_T89 l j).f0, (rd_T89 l j).f1, v, (rd_T89 l j).f3⟩, s1 + 1 + 1 + 1) (by simp only []; omega) (by simp only []; omega) (by simp only [List.length_set]; omega) ?_
    unfold spec_l1Bent.f
    exact Ev.bind (Ev.is ha) (Ev.bind hd (Ev.bind (Ev.is hj) (Ev.bind (Ev.is hbb) (Ev.neg c0 (Ev.neg c1 (Ev.neg c2 (Ev.pos c3 (Ev.bind (Ev.is hv) (Ev.pos j0 (Ev.pos j1 (Ev.now _)))))))))))
  by_cases c4 : b = 4
  · obtain ⟨v, _, hv⟩ := pk [0, 1000000000000, 1000000000001, (-9223372036854775808), 3] (by simp)
    refine go (i, l.set j.toNat ⟨(rd_T89 l j).f0, (rd_T89 l j).f1, (rd_T89 l j).f2, v⟩, s1 + 1 + 1 + 1) (by simp only []; omega) (by simp only []; omega) (by simp only [List.length_set]; omega) ?_
    unfold spec_l1Bent.f
    exact Ev.bind (Ev.is ha) (Ev.bind hd (Ev.bind (Ev.is hj) (Ev.bind (Ev.is hbb) (Ev.neg c0 (Ev.neg c1 (Ev.neg c2 (Ev.neg c3 (Ev.pos c4 (Ev.bind (Ev.is hv) (Ev.pos j0 (Ev.pos j1 (Ev.now _))))))))))))
  by_cases c5 : b = 5
  · refine go (i, l ++ [⟨(rd_T89 l j).f0, (rd_T89 l j).f1, (rd_T89 l j).f2, (rd_T89 l j).f3⟩], s1 + 1 + 1) (by simp only []; omega) (by simp only []; omega) (by simp; omega) ?_
    unfold spec_l1Bent.f
    exact Ev.bind (Ev.is ha) (Ev.bind hd (Ev.bind (Ev.is hj) (Ev.bind (Ev.is hbb) (Ev.neg c0 (Ev.neg c1 (Ev.neg c2 (Ev.neg c3 (Ev.neg c4 (Ev.pos c5 (Ev.pos j0 (Ev.pos j1 (Ev.pos (show l.length < 4398046511104 by omega) (Ev.now _)))))))))))))
  by_cases c6 : b = 6
  · refine go (i, l.take (1 : Int).toNat, s1 + 1 + 1) (by simp only []; omega) (by simp only []; omega) (by simp only [List.length_take]; omega) ?_
    unfold spec_l1Bent.f
    exact Ev.bind (Ev.is ha) (Ev.bind hd (Ev.bind (Ev.is hj) (Ev.bind (Ev.is hbb) (Ev.neg c0 (Ev.neg c1 (Ev.neg c2 (Ev.neg c3 (Ev.neg c4 (Ev.neg c5 (Ev.pos c6 (Ev.pos (show (1 : Int) ≤ (l.length : Int) by omega) (Ev.now _))))))))))))
  by_cases c7 : b = 7
  · refine go (i, List.replicate 9 z89, s1 + 1 + 1) (by simp only []; omega) (by simp only []; omega) (by simp) ?_
    unfold spec_l1Bent.f
    exact Ev.bind (Ev.is ha) (Ev.bind hd (Ev.bind (Ev.is hj) (Ev.bind (Ev.is hbb) (Ev.neg c0 (Ev.neg c1 (Ev.neg c2 (Ev.neg c3 (Ev.neg c4 (Ev.neg c5 (Ev.neg c6 (Ev.pos c7 (Ev.pos (by decide) (Ev.now _)))))))))))))
  · refine go (i, l, s1 + 1 + 1) (by simp only []; omega) (by simp only []; omega) (by simp only []; omega) ?_
    unfold spec_l1Bent.f
    exact Ev.bind (Ev.is ha) (Ev.bind hd (Ev.bind (Ev.is hj) (Ev.bind (Ev.is hbb) (Ev.neg c0 (Ev.neg c1 (Ev.neg c2 (Ev.neg c3 (Ev.neg c4 (Ev.neg c5 (Ev.neg c6 (Ev.neg c7 (Ev.now _))))))))))))

theorem legFault_range {s a t m : Int} (h : legFault s a t m = 0) : (0 ≤ s ∧ s ≤ 2) ∧ (0 ≤ a ∧ a ≤ 5) ∧ (0 ≤ t ∧ t ≤ 2) ∧ -1000000000000 ≤ m ∧ m ≤ 1000000000000 ∧ m ≠ 0 := by
  unfold legFault at h
  split at h
  · next hc =>
    split at h
    · cases h
    · omega
  · cases h
theorem legs_zero (l : List S89) : ∀ d : Nat, d ≤ l.length → contractFrom l d = 0 → ∀ i : Int, (l.length : Int) - d ≤ i → i < (l.length : Int) → legFault (rd_T89 l i).f0 (rd_T89 l i).f1 (rd_T89 l i).f2 (rd_T89 l i).f3 = 0 := by
  intro d
  induction d with
  | zero => intro _ _ i h0 h1; omega
  | succ d ih =>
    intro hd h i h0 h1
    unfold contractFrom at h
    simp only at h
    split at h
    · next hf =>
      split at h
      · cases h
      · by_cases hi : i = (l.length : Int) - ((d : Int) + 1)
        · rw [hi]
          exact hf
        · exact ih (by omega) h i (by omega) h1
    · next hn => exact absurd h hn
theorem contract_right {id : Int} {l : List S89} (h : contractFault id l = 0) : (1 ≤ id ∧ id ≤ 1000000000) ∧ (2 ≤ (l.length : Int) ∧ (l.length : Int) ≤ 8) ∧ ∀ g ∈ l, (0 ≤ g.f0 ∧ g.f0 ≤ 2) ∧ (0 ≤ g.f1 ∧ g.f1 ≤ 5) ∧ (0 ≤ g.f2 ∧ g.f2 ≤ 2) ∧ -1000000000000 ≤ g.f3 ∧ g.f3 ≤ 1000000000000 ∧ g.f3 ≠ 0 := by
  unfold contractFault at h
  split at h
  · next hid =>
    split at h
    · next hl =>
      refine ⟨hid, hl, fun g hg => ?_⟩
      obtain ⟨j, hj, rfl⟩ := List.getElem_of_mem hg
      have := legFault_range (legs_zero l l.length (Nat.le_refl _) h (j : Int) (by omega) (by omega))
      unfold rd_T89 at this
      rw [List.getD_eq_getElem?_getD, Int.toNat_natCast, List.getElem?_eq_getElem hj] at this
      exact this
    · cases h
  · cases h

theorem rdLeg_set (l : List S89) (i : Int) (v : S89) (h : i.toNat < l.length) : rd_T89 (l.set i.toNat v) i = v := rdLeg (List.getElem?_set_self h)
/-- A Leg marked from k on. -/
def mkLeg (k : Int) : S89 := ⟨k, k + 1, k + 2, k + 3⟩
def mkLegL (n : Nat) (k : Int) : List S89 := (List.range n).map fun (i : Nat) => mkLeg (k + 4 * i)
theorem mkLegL_len (n : Nat) (k : Int) : (mkLegL n k).length = n := by simp [mkLegL]
theorem mkLegL_get (n : Nat) (k : Int) (i : Nat) (h : i < n) : (mkLegL n k)[i]? = some (mkLeg (k + 4 * i)) := by simp [mkLegL, h]
theorem contractFault_fewV {id : Int} {l : List S89} (h : contractFault id l = 0) : 2 ≤ (l.length : Int) ∧ (l.length : Int) ≤ 8 := by
  unfold contractFault at h
  split at h
  · split at h
    · next h2 => exact h2
    · omega
  · omega
/-- A leg turned round. -/
def revLeg (g : S89) : S89 := ⟨g.f0, g.f1, g.f2, wrap64 (-g.f3)⟩
theorem rev_succ (l : List S89) (i : Int) (h0 : 0 ≤ i) (h1 : i < (l.length : Int)) : (l.take (i + 1).toNat).map revLeg = (l.take i.toNat).map revLeg ++ [revLeg (rd_T89 l i)] := by
  rw [take_succ_at l i h0 h1, List.map_append]
  rfl
theorem impl_rev_ev (l : List S89) (hl : (l.length : Int) ≤ 8) (n : Int) : Ev (fun k => impl_ReverseOf.l0 k l (l.length : Int) 0 n []) (0, n, l.map revLeg) := by
  refine Ev.upto1 (fun k (x : List S89) i => impl_ReverseOf.l0 k l (l.length : Int) i n x) l.length (by omega) (fun i x => x = (l.take i.toNat).map revLeg) (0, n, l.map revLeg) (fun i x h0 h1 hx => .inl ?_) (fun x hx => ?_) 0 [] (by omega) (by omega) rfl
  · have hs := rev_succ l i h0 h1
    have hn : x.length ≤ l.length := by rw [hx, List.length_map, List.length_take]; omega
    rw [← hx] at hs
    exact ⟨x ++ [revLeg (rd_T89 l i)], hs.symm, fun h => Ev.step (fun k => impl_ReverseOf.l0.eq_2 ..) (Ev.pos h1 (Ev.pos h0 (Ev.pos h1 (Ev.pos (by omega) h))))⟩
  · rw [List.take_of_length_le (by omega)] at hx
    rw [← hx]
    exact Ev.step (fun k => impl_ReverseOf.l0.eq_2 ..) (Ev.neg (by omega) (Ev.now _))
theorem spec_rev_ev (id : Int) (l : List S89) (hl : (l.length : Int) ≤ 8) (n : Int) : Ev (fun k => spec_ReverseOf.l0 k 0 id l n []) (0, n, l.map revLeg) := by
  refine Ev.upto1 (fun k (x : List S89) i => spec_ReverseOf.l0 k i id l n x) l.length (by omega) (fun i x => x = (l.take i.toNat).map revLeg) (0, n, l.map revLeg) (fun i x h0 h1 hx => .inl ?_) (fun x hx => ?_) 0 [] (by omega) (by omega) rfl
  · have hs := rev_succ l i h0 h1
    have hn : x.length ≤ l.length := by rw [hx, List.length_map, List.length_take]; omega
    rw [← hx] at hs
    exact ⟨x ++ [revLeg (rd_T89 l i)], hs.symm, fun h => Ev.step (fun k => spec_ReverseOf.l0.eq_2 ..) (Ev.pos h1 (Ev.pos h0 (Ev.pos (by omega) h)))⟩
  · rw [List.take_of_length_le (by omega)] at hx
    rw [← hx]
    exact Ev.step (fun k => spec_ReverseOf.l0.eq_2 ..) (Ev.neg (by omega) (Ev.now _))
def reverseR (id : Int) (l : List S89) (n : Int) : Int × Int × List S89 := if contractFault id l = 0 then (if 1 ≤ n ∧ n ≤ 1000000000 then (0, n, l.map revLeg) else (3, 0, [])) else (contractFault id l, 0, [])
theorem reverseR_len (id : Int) (l : List S89) (n : Int) : (reverseR id l n).2.2.length ≤ 8 := by
  unfold reverseR
  split
  · next h =>
    have := contractFault_fewV h
    split
    · show (l.map revLeg).length ≤ 8
      rw [List.length_map]
      omega
    · simp
  · simp
theorem impl_ReverseOf_ev (id : Int) (l : List S89) (n : Int) : Ev (fun k => impl_ReverseOf.f k id l n) (reverseR id l n) := by
  unfold impl_ReverseOf.f reverseR
  refine Ev.bind (impl_ContractFault_ev id l) (Ev.cond (fun hc => Ev.bind (Ev.is (impl_isId_eq n)) ?_) (fun _ => Ev.now _))
  by_cases ha : 1 ≤ n ∧ n ≤ 1000000000
  · rw [if_pos ha]
    exact Ev.pos (decide_eq_true ha) (impl_rev_ev l (contractFault_fewV hc).2 n)
  · rw [if_neg ha]
    exact Ev.neg (fun h => ha (of_decide_eq_true h)) (Ev.now _)
theorem spec_ReverseOf_ev (id : Int) (l : List S89) (n : Int) : Ev (fun k => spec_ReverseOf.f k id l n) (reverseR id l n) := by
  unfold spec_ReverseOf.f reverseR
  refine Ev.bind (spec_ContractFault_ev id l) (Ev.cond (fun hc => Ev.bind (Ev.is (spec_l1Id_eq n)) ?_) (fun _ => Ev.now _))
  by_cases ha : 1 ≤ n ∧ n ≤ 1000000000
  · rw [if_pos ha]
    exact Ev.pos (decide_eq_true ha) (spec_rev_ev id l (contractFault_fewV hc).2 n)
  · rw [if_neg ha]
    exact Ev.neg (fun h => ha (of_decide_eq_true h)) (Ev.now _)

/-- What the legs of an asset put in, from the last d legs on. -/
def sumTo (l : List S89) (a : Int) : Nat → Int → Int
  | 0, x => x
  | d + 1, x => (fun i : Int => (fun g : S89 => if g.f2 = a then sumTo l a d (wrap64 (x + mx 0 g.f3)) else sumTo l a d x) (rd_T89 l i)) ((l.length : Int) - (d + 1))
theorem sumTo_succ (l : List S89) (a : Int) (d : Nat) (x : Int) : sumTo l a (d + 1) x = if (rd_T89 l ((l.length : Int) - ((d : Int) + 1))).f2 = a then sumTo l a d (wrap64 (x + mx 0 (rd_T89 l ((l.length : Int) - ((d : Int) + 1))).f3)) else sumTo l a d x := rfl
theorem wrap_in (x : Int) : -9223372036854775808 ≤ wrap64 x ∧ wrap64 x ≤ 9223372036854775807 := by
  unfold wrap64
  omega
theorem mx_pos {x : Int} (h : x > 0) : mx 0 x = x := by unfold mx; split <;> omega
theorem mx_neg {x : Int} (h : ¬ x > 0) : mx 0 x = 0 := by unfold mx; split <;> omega
theorem wrap_same {x y : Int} (hx : -9223372036854775808 ≤ x ∧ x ≤ 9223372036854775807) (hy : y = 0) : wrap64 (x + y) = x := by
  subst hy
  rw [Int.add_zero]
  exact w64 hx.1 hx.2
theorem impl_sum_ev (l : List S89) (hl : (l.length : Int) ≤ 8) (a : Int) : ∀ d : Nat, d ≤ l.length → ∀ x, Ev (fun k => impl_SumOf.l0 k a l (l.length : Int) ((l.length : Int) - d) 0 x) (0, sumTo l a d x) := by
  intro d
  induction d with
  | zero => intro _ x; exact Ev.step (fun k => impl_SumOf.l0.eq_2 ..) (Ev.neg (by omega) (Ev.now _))
  | succ d ih =>
    intro hd x
    refine Ev.step (fun k => impl_SumOf.l0.eq_2 ..) (Ev.pos (by omega) (Ev.pos (by omega) (Ev.pos (by omega) ?_)))
    rw [w64 (x := (l.length : Int) - ((d + 1 : Nat) : Int) + 1) (by omega) (by omega), show (l.length : Int) - ((d + 1 : Nat) : Int) + 1 = (l.length : Int) - d by omega]
    rw [show ((d + 1 : Nat) : Int) = (d : Int) + 1 by omega]
    rw [sumTo_succ]
    generalize rd_T89 l ((l.length : Int) - ((d : Int) + 1)) = g
    by_cases ha : g.f2 = a
    · rw [if_pos ha]
      exact Ev.pos ha (ih (by omega) _)
    · rw [if_neg ha]
      exact Ev.neg ha (ih (by omega) _)
def sumOf (id : Int) (l : List S89) (a : Int) : Int × Int := if contractFault id l = 0 then (if 0 ≤ a ∧ a ≤ 2 then (0, sumTo l a l.length 0) else (3, 0)) else (contractFault id l, 0)
theorem contractFault_few {id : Int} {l : List S89} (h : contractFault id l = 0) : 2 ≤ (l.length : Int) ∧ (l.length : Int) ≤ 8 := by
  unfold contractFault at h
  split at h
  · split at h
    · next h2 => exact h2
    · omega
  · omega
theorem impl_isAsset_eq (a : Int) : impl_isAsset.f a = some (decide (0 ≤ a ∧ a ≤ 2)) := by
  unfold impl_isAsset.f
  rw [within_eq]
  rfl
theorem impl_SumOf_ev (id : Int) (l : List S89) (a : Int) : Ev (fun k => impl_SumOf.f k id l a) (sumOf id l a) := by
  unfold impl_SumOf.f sumOf
  refine Ev.bind (impl_ContractFault_ev id l) (Ev.cond (fun hc => Ev.bind (Ev.is (impl_isAsset_eq a)) ?_) (fun _ => Ev.now _))
  by_cases ha : 0 ≤ a ∧ a ≤ 2
  · rw [if_pos ha]
    have := impl_sum_ev l (contractFault_few hc).2 a l.length (Nat.le_refl _) 0
    rw [show (l.length : Int) - (l.length : Nat) = 0 by omega] at this
    exact Ev.pos (decide_eq_true ha) this
  · rw [if_neg ha]
    exact Ev.neg (fun h => ha (of_decide_eq_true h)) (Ev.now _)
def okLeg (g : S89) : Prop := (0 ≤ g.f0 ∧ g.f0 ≤ 2) ∧ (0 ≤ g.f1 ∧ g.f1 ≤ 5) ∧ (0 ≤ g.f2 ∧ g.f2 ≤ 2) ∧ -1000000000000 ≤ g.f3 ∧ g.f3 ≤ 1000000000000 ∧ g.f3 ≠ 0
/-- What the legs of an asset put in. -/
def posS (a : Int) : List S89 → Int
  | [] => 0
  | g :: r => (if g.f2 = a then mx 0 g.f3 else 0) + posS a r
def allS (a : Int) : List S89 → Int
  | [] => 0
  | g :: r => (if g.f2 = a then g.f3 else 0) + allS a r
theorem posS_cons (a : Int) (g : S89) (r : List S89) : posS a (g :: r) = (if g.f2 = a then mx 0 g.f3 else 0) + posS a r := rfl
theorem allS_cons (a : Int) (g : S89) (r : List S89) : allS a (g :: r) = (if g.f2 = a then g.f3 else 0) + allS a r := rfl
theorem revLeg_eq (g : S89) (h : okLeg g) : revLeg g = ⟨g.f0, g.f1, g.f2, -g.f3⟩ := by
  unfold revLeg
  rw [w64 (by have := h.2.2.2; omega) (by have := h.2.2.2; omega)]
theorem revLeg_ok (g : S89) (h : okLeg g) : okLeg (revLeg g) := by
  rw [revLeg_eq g h]
  obtain ⟨h1, h2, h3, h4, h5, h6⟩ := h
  exact ⟨h1, h2, h3, by simp only []; omega, by simp only []; omega, by simp only []; omega⟩
theorem rev_rev (l : List S89) (h : ∀ g ∈ l, okLeg g) : (l.map revLeg).map revLeg = l := by
  rw [List.map_map]
  conv => rhs; rw [← List.map_id l]
  refine List.map_congr_left (fun g hg => ?_)
  show revLeg (revLeg g) = g
  rw [revLeg_eq _ (revLeg_ok g (h g hg)), revLeg_eq g (h g hg)]
  simp only [Int.neg_neg]
theorem allS_rev (a : Int) (l : List S89) (h : ∀ g ∈ l, okLeg g) : allS a (l.map revLeg) = - allS a l := by
  induction l with
  | nil => rfl
  | cons g r ih =>
    have ih := ih (fun x hx => h x (List.mem_cons_of_mem _ hx))
    rw [List.map_cons, allS_cons, allS_cons, ih, revLeg_eq g (h g List.mem_cons_self)]
    simp only
    split <;> omega
theorem posS_rev (a : Int) (l : List S89) (h : ∀ g ∈ l, okLeg g) : posS a l = posS a (l.map revLeg) + allS a l := by
  induction l with
  | nil => rfl
  | cons g r ih =>
    have ih := ih (fun x hx => h x (List.mem_cons_of_mem _ hx))
    rw [List.map_cons, posS_cons, posS_cons, allS_cons, ih, revLeg_eq g (h g List.mem_cons_self)]
    simp only [mx]
    split
    · split <;> split <;> omega
    · omega
theorem posS_bound (a : Int) (l : List S89) (h : ∀ g ∈ l, okLeg g) : 0 ≤ posS a l ∧ posS a l ≤ 1000000000000 * (l.length : Int) := by
  induction l with
  | nil => exact ⟨Int.le_refl 0, Int.le_refl 0⟩
  | cons g r ih =>
    have ih := ih (fun x hx => h x (List.mem_cons_of_mem _ hx))
    have hg := (h g List.mem_cons_self).2.2.2
    rw [posS, List.length_cons]
    simp only [mx]
    split
    · split <;> omega
    · omega
theorem sumA_all (a : Int) (l : List S89) (h : ∀ g ∈ l, okLeg g) (hl : l.length ≤ 1000) : sumA a l = allS a l := by
  have key : ∀ (l : List S89) (s : Int), (∀ g ∈ l, okLeg g) → -9000000000000000000 ≤ s - 1000000000000 * (l.length : Int) → s + 1000000000000 * (l.length : Int) ≤ 9000000000000000000 → l.foldl (fun s g => if a = g.f2 then wrap64 (s + g.f3) else s) s = s + allS a l := by
    intro l
    induction l with
    | nil => intro s _ _ _; simp [allS]
    | cons g r ih =>
      intro s hok h0 h1
      have hg := (hok g List.mem_cons_self).2.2.2
      rw [List.length_cons] at h0 h1
      rw [List.foldl_cons, allS]
      by_cases ha : a = g.f2
      · rw [if_pos ha, if_pos ha.symm, w64 (by omega) (by omega), ih (s + g.f3) (fun x hx => hok x (List.mem_cons_of_mem _ hx)) (by omega) (by omega)]
        omega
      · rw [if_neg ha, if_neg (fun e => ha e.symm), ih s (fun x hx => hok x (List.mem_cons_of_mem _ hx)) (by omega) (by omega)]
        omega
  unfold sumA
  rw [key l 0 h (by omega) (by omega)]
  omega
theorem rdLegN (l : List S89) (i : Nat) (h : i < l.length) : rd_T89 l (i : Int) = l[i] := by
  unfold rd_T89
  rw [List.getD_eq_getElem?_getD, Int.toNat_natCast, List.getElem?_eq_getElem h]
  rfl
theorem sumTo_pos (l : List S89) (h : ∀ g ∈ l, okLeg g) (a : Int) : ∀ d : Nat, d ≤ l.length → ∀ x : Int, 0 ≤ x → x + 1000000000000 * (d : Int) ≤ 9000000000000000000 → sumTo l a d x = x + posS a (l.drop (l.length - d)) := by
  intro d
  induction d with
  | zero => intro _ x _ _; simp [sumTo, posS]
  | succ d ih =>
    intro hd x h0 h1
    have hi : (l.length : Int) - ((d : Int) + 1) = ((l.length - (d + 1) : Nat) : Int) := by omega
    have hlt : l.length - (d + 1) < l.length := by omega
    have hg := (h _ (List.getElem_mem hlt)).2.2.2
    rw [sumTo_succ, hi, rdLegN l _ hlt, List.drop_eq_getElem_cons hlt, posS, show l.length - (d + 1) + 1 = l.length - d by omega]
    generalize l[l.length - (d + 1)] = g at hg ⊢
    have hm : 0 ≤ mx 0 g.f3 ∧ mx 0 g.f3 ≤ 1000000000000 := by unfold mx; split <;> omega
    by_cases ha : g.f2 = a
    · rw [if_pos ha, if_pos ha, w64 (by omega) (by omega), ih (by omega) _ (by omega) (by omega)]
      omega
    · rw [if_neg ha, if_neg ha, ih (by omega) _ h0 (by omega)]
      omega
theorem finCode_zero {l : List S89} (h : finCode l = 0) : ∀ a, sumA a l = 0 := by
  unfold finCode at h
  by_cases hz : ∀ g ∈ l, sumA g.f2 l = 0
  · intro a
    by_cases ha : sumA a l = 0
    · exact ha
    · obtain ⟨g, hg, e⟩ := sumA_mem ha
      have := hz g hg
      rw [e] at this
      exact this
  · rw [if_neg hz] at h; cases h
theorem contractFrom_fin (l : List S89) : ∀ d : Nat, contractFrom l d = 0 → finCode l = 0 := by
  intro d
  induction d with
  | zero => exact fun h => h
  | succ d ih =>
    intro h
    unfold contractFrom at h
    simp only at h
    split at h
    · split at h
      · cases h
      · exact ih h
    · next hn => exact absurd h hn
theorem contract_sums {id : Int} {l : List S89} (h : contractFault id l = 0) : ∀ a, allS a l = 0 := by
  obtain ⟨hid, hl, hg⟩ := contract_right h
  intro a
  rw [← sumA_all a l hg (by omega)]
  refine finCode_zero (contractFrom_fin l l.length ?_) a
  unfold contractFault at h
  rw [if_pos hid, if_pos hl] at h
  exact h
theorem legFault_okLeg {g : S89} (h : okLeg g) : legFault g.f0 g.f1 g.f2 g.f3 = 0 := by
  obtain ⟨h1, h2, h3, h4, h5, h6⟩ := h
  unfold legFault
  rw [if_pos ⟨h1.1, h1.2, h2.1, h2.2, h3.1, h3.2, h4, h5⟩, if_neg h6]
theorem placeIn_rev (l : List S89) (i : Int) (w : S89) : placeIn (l.map revLeg) i (revLeg w) = placeIn l i w := by
  unfold placeIn
  rw [← List.map_take, List.any_map]
  rfl
theorem contractFrom_rev (l : List S89) (h : ∀ g ∈ l, okLeg g) (hf : finCode (l.map revLeg) = 0) : ∀ d : Nat, d ≤ l.length → contractFrom l d = 0 → contractFrom (l.map revLeg) d = 0 := by
  intro d
  induction d with
  | zero => exact fun _ _ => hf
  | succ d ih =>
    intro hd hc
    have hi : (l.length : Int) - ((d : Int) + 1) = ((l.length - (d + 1) : Nat) : Int) := by omega
    have hlt : l.length - (d + 1) < l.length := by omega
    have hg := h _ (List.getElem_mem hlt)
    have e : rd_T89 (l.map revLeg) ((l.length - (d + 1) : Nat) : Int) = revLeg l[l.length - (d + 1)] := by rw [rdLegN _ _ (by rw [List.length_map]; exact hlt), List.getElem_map]
    unfold contractFrom at hc ⊢
    simp only [List.length_map] at hc ⊢
    rw [hi, rdLegN l _ hlt] at hc
    rw [hi, e, legFault_okLeg (revLeg_ok _ hg), if_pos rfl, placeIn_rev]
    rw [legFault_okLeg hg, if_pos rfl] at hc
    by_cases hp : placeIn l ((l.length - (d + 1) : Nat) : Int) l[l.length - (d + 1)] = true
    · rw [if_pos hp] at hc; cases hc
    · rw [if_neg hp] at hc ⊢
      exact ih (by omega) hc
/-- A right contract turned round is right. -/
theorem contract_rev {id n : Int} {l : List S89} (h : contractFault id l = 0) (hn : 1 ≤ n ∧ n ≤ 1000000000) : contractFault n (l.map revLeg) = 0 := by
  obtain ⟨hid, hl, hg⟩ := contract_right h
  have hs := contract_sums h
  have hrev : ∀ g ∈ l.map revLeg, okLeg g := fun g hg' => by obtain ⟨x, hx, rfl⟩ := List.mem_map.1 hg'; exact revLeg_ok x (hg x hx)
  have hfin : finCode (l.map revLeg) = 0 := by
    unfold finCode
    rw [if_pos (fun g _ => by rw [sumA_all g.f2 _ hrev (by rw [List.length_map]; omega), allS_rev _ _ hg, hs]; rfl)]
  have hc : contractFrom l l.length = 0 := by
    unfold contractFault at h
    rw [if_pos hid, if_pos hl] at h
    exact h
  unfold contractFault
  rw [if_pos hn, List.length_map, if_pos hl]
  exact contractFrom_rev l hg hfin l.length (Nat.le_refl _) hc
theorem sumOf_rev {id n : Int} {l : List S89} (h : contractFault id l = 0) (hn : 1 ≤ n ∧ n ≤ 1000000000) (a : Int) : sumOf id l a = sumOf n (l.map revLeg) a := by
  obtain ⟨_, hl, hg⟩ := contract_right h
  have hrev : ∀ g ∈ l.map revLeg, okLeg g := fun g hg' => by obtain ⟨x, hx, rfl⟩ := List.mem_map.1 hg'; exact revLeg_ok x (hg x hx)
  unfold sumOf
  rw [if_pos h, if_pos (contract_rev h hn), sumTo_pos l hg a _ (Nat.le_refl _) 0 (by decide) (by omega), sumTo_pos _ hrev a _ (Nat.le_refl _) 0 (by decide) (by rw [List.length_map]; omega), Nat.sub_self, Nat.sub_self, List.drop_zero, List.drop_zero, posS_rev a l hg, contract_sums h a, Int.add_zero]

theorem contractFault_fewL {id : Int} {l : List S89} (h : contractFault id l = 0) : 2 ≤ (l.length : Int) ∧ (l.length : Int) ≤ 8 := by
  unfold contractFault at h
  split at h
  · split at h
    · next h2 => exact h2
    · omega
  · omega
/-- The legs at a shard. -/
def legsOf (l : List S89) (s : Int) : List S89 := l.filter fun g => decide (g.f0 = s)
theorem legsOf_succ (l : List S89) (s : Int) (i : Int) (h0 : 0 ≤ i) (h1 : i < (l.length : Int)) : legsOf (l.take (i + 1).toNat) s = if (rd_T89 l i).f0 = s then legsOf (l.take i.toNat) s ++ [rd_T89 l i] else legsOf (l.take i.toNat) s := by
  rw [take_succ_at l i h0 h1]
  unfold legsOf
  rw [List.filter_append]
  by_cases h : (rd_T89 l i).f0 = s
  · rw [if_pos h]
    simp [h]
  · rw [if_neg h]
    simp [h]
theorem legsOf_len (l : List S89) (s : Int) : (legsOf l s).length ≤ l.length := List.length_filter_le _ _
theorem impl_legsAt_ev (id : Int) (l : List S89) (hl : (l.length : Int) ≤ 8) (s : Int) : Ev (fun k => impl_legsAt.f k id l s) (legsOf l s) := by
  unfold impl_legsAt.f
  refine Ev.upto1 (fun k (x : List S89) i => impl_legsAt.l0 k s x l (l.length : Int) i) l.length (by omega) (fun i x => x = legsOf (l.take i.toNat) s) (legsOf l s) (fun i x h0 h1 hx => .inl ?_) (fun x hx => ?_) 0 [] (by omega) (by omega) rfl
  · have hs := legsOf_succ l s i h0 h1
    have hn := legsOf_len (l.take i.toNat) s
    rw [← hx, List.length_take] at hn
    rw [← hx] at hs
    generalize hg : rd_T89 l i = g at hs
    by_cases hf : g.f0 = s
    · rw [if_pos hf] at hs
      refine ⟨x ++ [g], hs.symm, fun h => Ev.step (fun k => impl_legsAt.l0.eq_2 ..) (Ev.pos h1 (Ev.pos h0 (Ev.pos h1 ?_)))⟩
      rw [hg]
      exact Ev.pos hf (Ev.pos (by omega) h)
    · rw [if_neg hf] at hs
      refine ⟨x, hs.symm, fun h => Ev.step (fun k => impl_legsAt.l0.eq_2 ..) (Ev.pos h1 (Ev.pos h0 (Ev.pos h1 ?_)))⟩
      rw [hg]
      exact Ev.neg hf h
  · rw [List.take_of_length_le (by omega)] at hx
    rw [← hx]
    exact Ev.step (fun k => impl_legsAt.l0.eq_2 ..) (Ev.neg (by omega) (Ev.now _))
def legsAtR (id : Int) (l : List S89) (s : Int) : Int × List S89 := if contractFault id l = 0 then (if 0 ≤ s ∧ s ≤ 2 then (0, legsOf l s) else (3, [])) else (contractFault id l, [])
theorem legsAtR_len (id : Int) (l : List S89) (s : Int) : (legsAtR id l s).2.length ≤ 8 := by
  unfold legsAtR
  split
  · next h =>
    have := contractFault_fewL h
    have := legsOf_len l s
    split
    · show (legsOf l s).length ≤ 8
      omega
    · simp
  · simp
theorem impl_isShard_eq (a : Int) : impl_isShard.f a = some (decide (0 ≤ a ∧ a ≤ 2)) := by
  unfold impl_isShard.f
  rw [within_eq]
  rfl
theorem impl_LegsAt_ev (id : Int) (l : List S89) (s : Int) : Ev (fun k => impl_LegsAt.f k id l s) (legsAtR id l s) := by
  unfold impl_LegsAt.f legsAtR
  refine Ev.bind (impl_ContractFault_ev id l) (Ev.cond (fun hc => Ev.bind (Ev.is (impl_isShard_eq s)) ?_) (fun _ => Ev.now _))
  by_cases ha : 0 ≤ s ∧ s ≤ 2
  · rw [if_pos ha]
    exact Ev.pos (decide_eq_true ha) (Ev.bind (impl_legsAt_ev id l (contractFault_fewL hc).2 s) (Ev.now _))
  · rw [if_neg ha]
    exact Ev.neg (fun h => ha (of_decide_eq_true h)) (Ev.now _)
/-- Does a row hold a number? -/
def Has (l : List Int) (v : Int) : Prop := ∃ p : Int, 0 ≤ p ∧ p < (l.length : Int) ∧ rd l p = v
theorem has_mem (l : List Int) (v : Int) : Has l v ↔ v ∈ l := by
  constructor
  · rintro ⟨p, h0, h1, rfl⟩
    rw [rd_get l p h0 h1]
    exact List.getElem_mem _
  · intro h
    obtain ⟨i, hi, rfl⟩ := List.getElem_of_mem h
    exact ⟨(i : Int), by omega, by omega, by rw [rd_get l (i : Int) (by omega) (by omega)]; rfl⟩
/-- The first n are rising. -/
def Rises (l : List Int) (n : Int) : Prop := ∀ p q : Int, 0 ≤ p → p < q → q < n → rd l p ≤ rd l q
/-- All but the one at j are rising, up to i; what is behind j is not below it. -/
structure Sinks (l : List Int) (i j : Int) : Prop where
  rest : ∀ p q : Int, 0 ≤ p → p < q → q ≤ i → p ≠ j → q ≠ j → rd l p ≤ rd l q
  up : ∀ q : Int, j < q → q ≤ i → rd l j ≤ rd l q
theorem rd_two (l : List Int) (a j u v : Int) (ha : 0 ≤ a) (hj : 0 < j) (hl : j < (l.length : Int)) : rd ((l.set j.toNat u).set (j - 1).toNat v) a = if a = j - 1 then v else if a = j then u else rd l a := by
  rw [rd_set _ a (j - 1) v ha (by omega) (by rw [List.length_set]; omega), rd_set l a j u ha (by omega) hl]
theorem sort_down_ev (s : List Int) (hs : s.length ≤ 8) (i : Int) (hi0 : 0 ≤ i) (hi : i < (s.length : Int)) (R : List Int → Prop)
    (next : ∀ x : List Int, x.length = s.length → (∀ v, Has x v ↔ Has s v) → Rises x (i + 1) → ∃ t, R t ∧ Ev (fun k => slices_insertionSortOrdered_int64.l0 k x 0 (s.length : Int) (i + 1)) t) :
    ∀ (d : Nat) (x : List Int), (d : Int) ≤ i → x.length = s.length → (∀ v, Has x v ↔ Has s v) → Sinks x i d → ∃ t, R t ∧ Ev (fun k => slices_insertionSortOrdered_int64.l1 k x 0 (s.length : Int) i (d : Int)) t := by
  intro d
  induction d with
  | zero =>
    intro x _ hl hv hk
    obtain ⟨t, ht, he⟩ := next x hl hv (fun p q p0 pq q1 => by
      by_cases hp : p = 0
      · rw [hp]
        exact hk.up q (by show (0 : Int) < q; omega) (by omega)
      · exact hk.rest p q p0 pq (by omega) (by show p ≠ (0 : Int); omega) (by show q ≠ (0 : Int); omega))
    refine ⟨t, ht, Ev.step (fun k => slices_insertionSortOrdered_int64.l1.eq_2 ..) (Ev.neg (by omega) ?_)⟩
    rw [w64 (x := i + 1) (by omega) (by omega)]
    exact he
  | succ d ih =>
    intro x hd hl hv hk
    obtain ⟨j, hj⟩ : ∃ j : Int, ((d + 1 : Nat) : Int) = j := ⟨_, rfl⟩
    rw [hj] at hd hk ⊢
    have hdj : ((d : Nat) : Int) = j - 1 := by omega
    have w1 : wrap64 (j - 1) = j - 1 := w64 (by omega) (by omega)
    by_cases hlt : rd x j < rd x (j - 1)
    · obtain ⟨x', hx'⟩ : ∃ x' : List Int, x' = (x.set j.toNat (rd x (j - 1))).set (j - 1).toNat (rd x j) := ⟨_, rfl⟩
      have hr : ∀ a : Int, 0 ≤ a → rd x' a = if a = j - 1 then rd x j else if a = j then rd x (j - 1) else rd x a := fun a ha => by rw [hx']; exact rd_two x a j _ _ ha (by omega) (by omega)
      have hl' : x'.length = s.length := by rw [hx', List.length_set, List.length_set, hl]
      have hrj : rd x' j = rd x (j - 1) := by rw [hr j (by omega), if_neg (by omega), if_pos rfl]
      have hrj1 : rd x' (j - 1) = rd x j := by rw [hr (j - 1) (by omega), if_pos rfl]
      have hro : ∀ a : Int, 0 ≤ a → a ≠ j → a ≠ j - 1 → rd x' a = rd x a := fun a ha h1 h2 => by rw [hr a ha, if_neg h2, if_neg h1]
      have hv' : ∀ v, Has x' v ↔ Has s v := fun v => by
        rw [← hv v]
        constructor
        · rintro ⟨p, p0, p1, rfl⟩
          by_cases h1 : p = j
          · exact ⟨j - 1, by omega, by omega, by rw [h1, hrj]⟩
          · by_cases h2 : p = j - 1
            · exact ⟨j, by omega, by omega, by rw [h2, hrj1]⟩
            · exact ⟨p, p0, by omega, (hro p p0 h1 h2).symm⟩
        · rintro ⟨p, p0, p1, rfl⟩
          by_cases h1 : p = j
          · exact ⟨j - 1, by omega, by omega, by rw [h1, hrj1]⟩
          · by_cases h2 : p = j - 1
            · exact ⟨j, by omega, by omega, by rw [h2, hrj]⟩
            · exact ⟨p, p0, by omega, hro p p0 h1 h2⟩
      have hk' : Sinks x' i (d : Int) := by
        rw [hdj]
        refine ⟨fun p q p0 pq q1 hp hq => ?_, fun q hq q1 => ?_⟩
        · by_cases h1 : q = j
          · rw [h1, hrj, hro p p0 (by omega) hp]
            exact hk.rest p (j - 1) p0 (by omega) (by omega) (by omega) (by omega)
          · by_cases h2 : p = j
            · rw [h2, hrj, hro q (by omega) h1 hq]
              exact hk.rest (j - 1) q (by omega) (by omega) q1 (by omega) h1
            · rw [hro p p0 h2 hp, hro q (by omega) h1 hq]
              exact hk.rest p q p0 pq q1 h2 h1
        · rw [hrj1]
          by_cases h1 : q = j
          · rw [h1, hrj]
            omega
          · rw [hro q (by omega) h1 (by omega)]
            exact hk.up q (by omega) q1
      obtain ⟨t, ht, he⟩ := ih x' (by omega) hl' hv' hk'
      refine ⟨t, ht, Ev.step (fun k => slices_insertionSortOrdered_int64.l1.eq_2 ..) (Ev.pos (by omega) (Ev.pos (by omega) (Ev.pos (by omega) ?_)))⟩
      rw [w1, ← hx', ← hdj]
      exact Ev.pos (by omega) (Ev.pos (by omega) (Ev.bind (a := true) (Ev.is (by unfold cmp_Less_int64.f cmp_isNaN_int64.f; rw [hdj]; simp [hlt])) (Ev.pos rfl he)))
    · obtain ⟨t, ht, he⟩ := next x hl hv (fun p q p0 pq q1 => by
        by_cases h1 : p = j
        · rw [h1]
          exact hk.up q (by omega) (by omega)
        · by_cases h2 : q = j
          · rw [h2]
            by_cases h3 : p = j - 1
            · rw [h3]
              omega
            · have := hk.rest p (j - 1) p0 (by omega) (by omega) h1 (by omega)
              omega
          · exact hk.rest p q p0 pq (by omega) h1 h2)
      refine ⟨t, ht, Ev.step (fun k => slices_insertionSortOrdered_int64.l1.eq_2 ..) (Ev.pos (by omega) (Ev.pos (by omega) (Ev.pos (by omega) ?_)))⟩
      rw [w1, w64 (x := i + 1) (by omega) (by omega)]
      exact Ev.pos (by omega) (Ev.pos (by omega) (Ev.bind (a := false) (Ev.is (by unfold cmp_Less_int64.f cmp_isNaN_int64.f; simp [hlt])) (Ev.neg (by simp) he)))
theorem sort_ev (s : List Int) (hs : s.length ≤ 8) : ∃ t : List Int, (t.length = s.length ∧ (∀ v, Has t v ↔ Has s v) ∧ Rises t (s.length : Int)) ∧ Ev (fun k => slices_Sort_int64.f k s) t := by
  have go : ∀ (d : Nat) (x : List Int) (i : Int), i = (s.length : Int) - d → 1 ≤ i → x.length = s.length → (∀ v, Has x v ↔ Has s v) → Rises x i → ∃ t : List Int, (t.length = s.length ∧ (∀ v, Has t v ↔ Has s v) ∧ Rises t (s.length : Int)) ∧ Ev (fun k => slices_insertionSortOrdered_int64.l0 k x 0 (s.length : Int) i) t := by
    intro d
    induction d with
    | zero =>
      intro x i hi _ hl hv hk
      have hi : i = (s.length : Int) := by omega
      subst hi
      exact ⟨x, ⟨hl, hv, hk⟩, Ev.step (fun k => slices_insertionSortOrdered_int64.l0.eq_2 ..) (Ev.neg (by omega) (Ev.now _))⟩
    | succ d ih =>
      intro x i hi h1 hl hv hk
      obtain ⟨t, ht, he⟩ := sort_down_ev s hs i (by omega) (by omega) (fun t => t.length = s.length ∧ (∀ v, Has t v ↔ Has s v) ∧ Rises t (s.length : Int)) (fun y hyl hyv hyk => ih y (i + 1) (by omega) (by omega) hyl hyv hyk) i.toNat x (by omega) hl hv
        ⟨fun p q p0 pq q1 hp hq => hk p q p0 pq (by omega), fun q hq q1 => by omega⟩
      rw [show ((i.toNat : Nat) : Int) = i by omega] at he
      exact ⟨t, ht, Ev.step (fun k => slices_insertionSortOrdered_int64.l0.eq_2 ..) (Ev.pos (by omega) he)⟩
  have hu : IntKind.u64.wrap ((s.length : Int)) = (s.length : Int) := by
    show (s.length : Int) % 18446744073709551616 = _
    omega
  have hlen : ∃ n, bits_Len.f (s.length : Int) = some n := by
    unfold bits_Len.f bits_Len64.f
    rw [if_pos (by omega)]
    exact ⟨_, rfl⟩
  obtain ⟨n, hn⟩ := hlen
  by_cases h0 : s.length = 0
  · refine ⟨s, ⟨rfl, fun _ => Iff.rfl, fun p q p0 pq q1 => by omega⟩, ?_⟩
    unfold slices_Sort_int64.f slices_pdqsortOrdered_int64.f
    rw [hu]
    refine Ev.bind (Ev.is hn) (Ev.bind (a := s) (Ev.step (fun k => slices_pdqsortOrdered_int64.l0.eq_2 ..) ?_) (Ev.now _))
    rw [w64 (x := (s.length : Int) - 0) (by omega) (by omega)]
    refine Ev.pos (by omega) (Ev.bind (a := s) ?_ (Ev.now _))
    unfold slices_insertionSortOrdered_int64.f
    rw [w64 (x := 0 + 1) (by decide) (by decide)]
    exact Ev.step (fun k => slices_insertionSortOrdered_int64.l0.eq_2 ..) (Ev.neg (by omega) (Ev.now _))
  · obtain ⟨t, ht, he⟩ := go (s.length - 1) s 1 (by omega) (by omega) rfl (fun _ => Iff.rfl) (fun p q p0 pq q1 => by omega)
    refine ⟨t, ht, ?_⟩
    unfold slices_Sort_int64.f slices_pdqsortOrdered_int64.f
    rw [hu]
    refine Ev.bind (Ev.is hn) (Ev.bind (a := t) (Ev.step (fun k => slices_pdqsortOrdered_int64.l0.eq_2 ..) ?_) (Ev.now _))
    rw [w64 (x := (s.length : Int) - 0) (by omega) (by omega)]
    refine Ev.pos (by omega) (Ev.bind (a := t) ?_ (Ev.now _))
    unfold slices_insertionSortOrdered_int64.f
    rw [w64 (x := 0 + 1) (by decide) (by decide)]
    exact he
/-- Of the first i numbers those that differ from the one ahead of them. -/
def uniqI (s : List Int) : Nat → List Int
  | 0 => []
  | i + 1 => if i ≠ 0 ∧ rd s i = rd s ((i : Int) - 1) then uniqI s i else uniqI s i ++ [rd s i]
theorem uniqI_dup {s : List Int} {i : Nat} (h0 : i ≠ 0) (h : rd s i = rd s ((i : Int) - 1)) : uniqI s (i + 1) = uniqI s i := by
  conv => lhs; unfold uniqI
  rw [if_pos ⟨h0, h⟩]
theorem uniqI_new {s : List Int} {i : Nat} (h : ¬ (i ≠ 0 ∧ rd s i = rd s ((i : Int) - 1))) : uniqI s (i + 1) = uniqI s i ++ [rd s i] := by
  conv => lhs; unfold uniqI
  rw [if_neg h]
theorem takeI_succ (s : List Int) (i : Nat) (h : i < s.length) : s.take (i + 1) = s.take i ++ [rd s i] := by
  rw [List.take_add_one, List.getElem?_eq_getElem h, rd_get s i (by omega) (by omega)]
  rfl
theorem rdI_of {s t : List Int} {i : Int} (h : s[i.toNat]? = t[i.toNat]?) : rd s i = rd t i := by
  unfold rd
  rw [List.getD_eq_getElem?_getD, List.getD_eq_getElem?_getD, h]
theorem compactI_rest_ev (s : List Int) (hs : s.length ≤ 1000000000) (y : List Int) (b : Nat) (hb : (b : Int) = (s.length : Int) - (y.length : Int)) (h1 : 1 ≤ b) (hlt : b < s.length) (hu : uniqI s (b + 1) = s.take b) : Ev (fun k => slices_Compact_int64.l1 k s (b : Int) y 1) (uniqI s s.length) := by
  refine Ev.upto1 (fun k (x : List Int × Int) i => slices_Compact_int64.l1 k x.1 x.2 y i) y.length (by omega) (fun i x => 1 ≤ i ∧ x.1.length = s.length ∧ 0 ≤ x.2 ∧ x.2 < (b : Int) + i ∧ x.1.take x.2.toNat = uniqI s ((b : Int) + i).toNat ∧ ∀ j : Nat, x.2 ≤ (j : Int) → x.1[j]? = s[j]?) (uniqI s s.length)
    (fun i x h0 hi ⟨i1, hl, p0, p1, pt, pj⟩ => ?_) (fun x ⟨_, hl, p0, p1, pt, pj⟩ => ?_) 1 (s, (b : Int)) (by omega) (by omega) ⟨Int.le_refl _, rfl, by omega, by show (b : Int) < (b : Int) + 1; omega, by show s.take ((b : Int)).toNat = _; rw [show ((b : Int)).toNat = b by omega, show ((b : Int) + 1).toNat = b + 1 by omega]; exact hu.symm, fun _ _ => rfl⟩
  · obtain ⟨x0, x3⟩ := x
    simp only at hl p0 p1 pt pj
    obtain ⟨m, hm⟩ : ∃ m : Nat, (m : Int) = (b : Int) + i := ⟨b + i.toNat, by omega⟩
    have hw : wrap64 (i - 1) = i - 1 := w64 (by omega) (by omega)
    have e1 : (x0.length : Int) - (y.length : Int) + i = (m : Int) := by omega
    have e2 : (x0.length : Int) - (y.length : Int) + (i - 1) = (m : Int) - 1 := by omega
    have r1 : rd x0 (m : Int) = rd s (m : Int) := rdI_of (pj _ (by omega))
    have r2 : rd x0 ((m : Int) - 1) = rd s ((m : Int) - 1) := rdI_of (pj _ (by omega))
    rw [← hm, show ((m : Int)).toNat = m by omega] at pt
    by_cases hd : rd s (m : Int) = rd s ((m : Int) - 1)
    · refine .inl ⟨(x0, x3), ⟨by omega, hl, p0, by show x3 < (b : Int) + (i + 1); omega, ?_, pj⟩, fun h => Ev.step (fun k => slices_Compact_int64.l1.eq_2 ..) (Ev.pos hi (Ev.pos (by omega) ?_))⟩
      · show x0.take x3.toNat = _
        rw [show ((b : Int) + (i + 1)).toNat = m + 1 by omega, uniqI_dup (by omega) hd]
        exact pt
      · rw [hw, e1, e2, r1, r2]
        exact Ev.pos (by omega) (Ev.pos (by omega) (Ev.pos hd h))
    · refine .inl ⟨(x0.set x3.toNat (rd s (m : Int)), x3 + 1), ⟨by omega, by simp [hl], by show 0 ≤ x3 + 1; omega, by show x3 + 1 < (b : Int) + (i + 1); omega, ?_, ?_⟩, fun h => Ev.step (fun k => slices_Compact_int64.l1.eq_2 ..) (Ev.pos hi (Ev.pos (by omega) ?_))⟩
      · show (x0.set x3.toNat _).take (x3 + 1).toNat = _
        rw [show ((b : Int) + (i + 1)).toNat = m + 1 by omega, uniqI_new (fun hh => hd hh.2), show (x3 + 1).toNat = x3.toNat + 1 by omega, List.take_add_one, List.getElem?_set_self (by omega), List.take_set_of_le (Nat.le_refl _), pt]
        rfl
      · intro j hj
        show (x0.set x3.toNat _)[j]? = _
        have hj : x3 + 1 ≤ (j : Int) := hj
        rw [List.getElem?_set_ne (by omega)]
        exact pj j (by omega)
      · rw [hw, e1, e2, r1, r2]
        have hx3 : x3 < (x0.length : Int) := by omega
        refine Ev.pos (by omega) (Ev.pos (by omega) (Ev.neg hd (Ev.pos p0 (Ev.pos hx3 ?_))))
        rw [w64 (x := x3 + 1) (by omega) (by omega)]
        exact h
  · obtain ⟨x0, x3⟩ := x
    simp only at hl p0 p1 pt pj
    rw [show ((b : Int) + (y.length : Int)).toNat = s.length by omega] at pt
    rw [← pt]
    have hx3 : x3 < (x0.length : Int) := by omega
    exact Ev.step (fun k => slices_Compact_int64.l1.eq_2 ..) (Ev.neg (by omega) (Ev.pos hx3 (Ev.pos p0 (Ev.pos (Int.le_of_lt hx3) (Ev.now _)))))
theorem compactI_ev (s : List Int) (hs : s.length ≤ 1000000000) : Ev (fun k => slices_Compact_int64.f k s) (uniqI s s.length) := by
  unfold slices_Compact_int64.f
  by_cases h2 : (s.length : Int) < 2
  · refine Ev.pos h2 (Ev.eq (Ev.now _) ?_)
    rcases s with _ | ⟨a, _ | ⟨b, r⟩⟩
    · rfl
    · rfl
    · simp at h2
      omega
  · refine Ev.neg h2 ?_
    refine Ev.upto1 (fun k (_ : Unit) i => slices_Compact_int64.l0 k s i) s.length (by omega) (fun i _ => 1 ≤ i ∧ uniqI s i.toNat = s.take i.toNat) (uniqI s s.length) (fun i _ h0 h1 ⟨p1, pu⟩ => ?_) (fun _ ⟨p1, pu⟩ => ?_) 1 () (by omega) (by omega) ⟨by omega, ?_⟩
    · obtain ⟨m, rfl⟩ : ∃ m : Nat, i = m := ⟨i.toNat, by omega⟩
      rw [show ((m : Int)).toNat = m by omega] at pu
      have hw : wrap64 ((m : Int) - 1) = (m : Int) - 1 := w64 (by omega) (by omega)
      by_cases hd : rd s (m : Int) = rd s ((m : Int) - 1)
      · refine .inr (Ev.step (fun k => slices_Compact_int64.l0.eq_2 ..) (Ev.pos h1 (Ev.pos h0 ?_)))
        rw [hw]
        refine Ev.pos (by omega) (Ev.pos (by omega) (Ev.pos hd (Ev.pos (by omega) ?_)))
        exact compactI_rest_ev s hs (s.drop ((m : Int)).toNat) m (by rw [List.length_drop]; omega) (by omega) (by omega) (by rw [uniqI_dup (by omega) hd]; exact pu)
      · refine .inl ⟨(), ⟨by omega, ?_⟩, fun h => Ev.step (fun k => slices_Compact_int64.l0.eq_2 ..) (Ev.pos h1 (Ev.pos h0 ?_))⟩
        · rw [show ((m : Int) + 1).toNat = m + 1 by omega, uniqI_new (fun hh => hd hh.2), takeI_succ s m (by omega), pu]
        · rw [hw]
          exact Ev.pos (by omega) (Ev.pos (by omega) (Ev.neg hd h))
    · rw [show ((s.length : Int)).toNat = s.length by omega, List.take_of_length_le (Nat.le_refl _)] at pu
      rw [pu]
      exact Ev.step (fun k => slices_Compact_int64.l0.eq_2 ..) (Ev.neg (by omega) (Ev.now _))
    · show uniqI s 1 = s.take 1
      rw [uniqI_new (fun hh => hh.1 rfl), takeI_succ s 0 (by omega)]
      rfl
/-- Strictly rising. -/
def Strict (l : List Int) : Prop := l.Pairwise (· < ·)
theorem uniqI_is (s : List Int) (hr : Rises s (s.length : Int)) : ∀ i : Nat, i ≤ s.length → Strict (uniqI s i) ∧ (∀ w ∈ uniqI s i, w ≤ rd s ((i : Int) - 1)) ∧ (∀ w, w ∈ uniqI s i ↔ ∃ p : Int, 0 ≤ p ∧ p < (i : Int) ∧ rd s p = w)
  | 0, _ => ⟨List.Pairwise.nil, (by intro w hw; cases hw), fun w => ⟨fun h => (by cases h), fun ⟨p, p0, p1, _⟩ => (by omega)⟩⟩
  | i + 1, hi => by
    obtain ⟨h1, h2, h3⟩ := uniqI_is s hr i (by omega)
    rw [show ((i + 1 : Nat) : Int) - 1 = (i : Int) by omega]
    by_cases hd : i ≠ 0 ∧ rd s (i : Int) = rd s ((i : Int) - 1)
    · rw [uniqI_dup hd.1 hd.2]
      refine ⟨h1, fun w hw => by rw [hd.2]; exact h2 w hw, fun w => ?_⟩
      rw [h3 w]
      constructor
      · rintro ⟨p, p0, p1, e⟩
        exact ⟨p, p0, by omega, e⟩
      · rintro ⟨p, p0, p1, e⟩
        by_cases hp : p = (i : Int)
        · exact ⟨(i : Int) - 1, by omega, by omega, by rw [← hd.2, ← hp]; exact e⟩
        · exact ⟨p, p0, by omega, e⟩
    · rw [uniqI_new hd]
      have hlast : ∀ w ∈ uniqI s i, w < rd s (i : Int) := fun w hw => by
        by_cases h0 : i = 0
        · subst h0
          cases hw
        · have a := h2 w hw
          have b := hr ((i : Int) - 1) (i : Int) (by omega) (by omega) (by omega)
          have c : rd s (i : Int) ≠ rd s ((i : Int) - 1) := fun e => hd ⟨h0, e⟩
          omega
      refine ⟨List.pairwise_append.2 ⟨h1, List.pairwise_singleton _ _, fun a ha b hb => by rw [List.mem_singleton.1 hb]; exact hlast a ha⟩, fun w hw => ?_, fun w => ?_⟩
      · rcases List.mem_append.1 hw with hw | hw
        · exact Int.le_of_lt (hlast w hw)
        · rw [List.mem_singleton.1 hw]
          exact Int.le_refl _
      · rw [List.mem_append, h3 w, List.mem_singleton]
        constructor
        · rintro (⟨p, p0, p1, e⟩ | e)
          · exact ⟨p, p0, by omega, e⟩
          · exact ⟨(i : Int), by omega, by omega, e.symm⟩
        · rintro ⟨p, p0, p1, e⟩
          by_cases hp : p = (i : Int)
          · exact .inr (by rw [← e, hp])
          · exact .inl ⟨p, p0, by omega, e⟩
theorem strict_eq : ∀ (a b : List Int), Strict a → Strict b → (∀ v, v ∈ a ↔ v ∈ b) → a = b
  | [], [], _, _, _ => rfl
  | [], y :: b, _, _, h => absurd ((h y).2 List.mem_cons_self) (by simp)
  | x :: a, [], _, _, h => absurd ((h x).1 List.mem_cons_self) (by simp)
  | x :: a, y :: b, ha, hb, h => by
    obtain ⟨ha1, ha2⟩ := List.pairwise_cons.1 ha
    obtain ⟨hb1, hb2⟩ := List.pairwise_cons.1 hb
    have hxy : x = y := by
      rcases List.mem_cons.1 ((h x).1 List.mem_cons_self) with e | e
      · exact e
      · rcases List.mem_cons.1 ((h y).2 List.mem_cons_self) with e2 | e2
        · exact e2.symm
        · have := hb1 x e
          have := ha1 y e2
          omega
    subst hxy
    rw [strict_eq a b ha2 hb2 (fun v => ?_)]
    constructor
    · intro hv
      rcases List.mem_cons.1 ((h v).1 (List.mem_cons_of_mem _ hv)) with e | e
      · have := ha1 v hv
        omega
      · exact e
    · intro hv
      rcases List.mem_cons.1 ((h v).2 (List.mem_cons_of_mem _ hv)) with e | e
      · have := hb1 v hv
        omega
      · exact e
theorem take_rdI (d : List Int) (x : Int) (h0 : 0 ≤ x) (h1 : x < (d.length : Int)) : d.take (x + 1).toNat = d.take x.toNat ++ [rd d x] := by
  rw [show (x + 1).toNat = x.toNat + 1 by omega, List.take_add_one, List.getElem?_eq_getElem (show x.toNat < d.length by omega), rd_get d x h0 h1]
  rfl
/-- The legs' shards. -/
def shardL (l : List S89) : List Int := l.map fun g => g.f0
theorem shards_impl_ev (id : Int) (l : List S89) (hl : (l.length : Int) ≤ 8) (t : List Int) (h1 : Strict t) (h2 : ∀ w, w ∈ t ↔ w ∈ shardL l) : Ev (fun k => impl_shardsOf.f k id l) t := by
  have hsl : (shardL l).length = l.length := by simp [shardL]
  obtain ⟨u, ⟨u1, u2, u3⟩, hs⟩ := sort_ev (shardL l) (by omega)
  have hc := compactI_ev u (by omega)
  rw [← u1] at u3
  obtain ⟨c1, _, c3⟩ := uniqI_is u u3 u.length (Nat.le_refl _)
  have hu : uniqI u u.length = t := strict_eq _ _ c1 h1 (fun v => by
    rw [h2 v, c3 v, ← has_mem]
    exact u2 v)
  rw [hu] at hc
  unfold impl_shardsOf.f
  refine Ev.upto1 (fun k (x : List Int) i => impl_shardsOf.l0 k x l (l.length : Int) i) l.length (by omega) (fun i x => x = shardL (l.take i.toNat)) t (fun i x p0 p1 hx => .inl ?_) (fun x hx => ?_) 0 [] (by omega) (by omega) rfl
  · have hn : x.length ≤ l.length := by rw [hx]; simp only [shardL, List.length_map, List.length_take]; omega
    refine ⟨x ++ [(rd_T89 l i).f0], by rw [take_succ_at l i p0 p1, hx]; simp [shardL], fun h => Ev.step (fun k => impl_shardsOf.l0.eq_2 ..) (Ev.pos p1 (Ev.pos p0 (Ev.pos p1 (Ev.pos (by omega) h))))⟩
  · rw [List.take_of_length_le (by omega)] at hx
    subst hx
    exact Ev.step (fun k => impl_shardsOf.l0.eq_2 ..) (Ev.neg (by omega) (Ev.bind hs (Ev.bind hc (Ev.now _))))
theorem contractFault_fewS {id : Int} {l : List S89} (h : contractFault id l = 0) : 2 ≤ (l.length : Int) ∧ (l.length : Int) ≤ 8 := by
  unfold contractFault at h
  split at h
  · split at h
    · next h2 => exact h2
    · omega
  · omega
theorem leg_ne (a b : S89) : (!(a.f0 == b.f0) || (!(a.f1 == b.f1) || (!(a.f2 == b.f2) || (!(a.f3 == b.f3))))) = true ↔ a ≠ b := by
  cases a; cases b
  simp
  omega
/-- Two lists, place by place. -/
theorem Ev.alike {γ : Type} (F : Nat → Int → Option Bool) (l m : List γ) (hlm : l.length = m.length) (hl : (l.length : Int) ≤ 9223372036854775807)
    (same : ∀ i a r, 0 ≤ i → i < (l.length : Int) → l[i.toNat]? = some a → m[i.toNat]? = some a → Ev (fun k => F k (wrap64 (i + 1))) r → Ev (fun k => F k i) r)
    (other : ∀ i a b, 0 ≤ i → i < (l.length : Int) → l[i.toNat]? = some a → m[i.toNat]? = some b → a ≠ b → Ev (fun k => F k i) false)
    (stop : Ev (fun k => F k (l.length : Int)) true) : ∃ r, (r = true ↔ l = m) ∧ Ev (fun k => F k 0) r := by
  refine Ev.upto (fun k (_ : Unit) i => F k i) l.length hl (fun i _ => l.take i.toNat = m.take i.toNat) (fun r => r = true ↔ l = m) (fun i s h0 h1 ht => ?_) (fun s ht => ?_) 0 () (by omega) (by omega) (by simp)
  · have e1 : l[i.toNat]? = some (l[i.toNat]'(by omega)) := List.getElem?_eq_getElem (by omega)
    have e2 : m[i.toNat]? = some (m[i.toNat]'(by omega)) := List.getElem?_eq_getElem (by omega)
    by_cases e : l[i.toNat]'(by omega) = m[i.toNat]'(by omega)
    · refine .inl ⟨(), ?_, fun r => same i _ r h0 h1 e1 (e ▸ e2)⟩
      rw [show (i + 1).toNat = i.toNat + 1 by omega, List.take_add_one, List.take_add_one, ht, e1, e2, e]
    · refine .inr ⟨false, ⟨fun h => (by cases h), fun h => absurd (by simp only [h]) e⟩, other i _ _ h0 h1 e1 e2 e⟩
  · rw [List.take_of_length_le (by omega), List.take_of_length_le (by omega)] at ht
    exact ⟨true, ⟨fun _ => ht, fun _ => rfl⟩, stop⟩
theorem impl_SameContract_ev (i : Int) (l : List S89) (j : Int) (m : List S89) (hl : (l.length : Int) ≤ 9223372036854775807) : ∃ r, (r = true ↔ i = j ∧ l = m) ∧ Ev (fun k => impl_SameContract.f k i l j m) r := by
  unfold impl_SameContract.f
  by_cases e : i = j
  · by_cases e2 : l.length = m.length
    · obtain ⟨r, hr, h⟩ := Ev.alike (fun k n => slices_Equal_impl_Leg.l0 k l m (l.length : Int) n) l m e2 hl
        (fun n a r h0 h1 ha hb h => Ev.step (fun k => slices_Equal_impl_Leg.l0.eq_2 ..) (Ev.pos h1 (Ev.pos h0 (Ev.pos h1 (Ev.pos (by omega) (Ev.neg (by rw [rdLeg ha, rdLeg hb, leg_ne]; exact fun h => h rfl) h))))))
        (fun n a b h0 h1 ha hb hn => Ev.step (fun k => slices_Equal_impl_Leg.l0.eq_2 ..) (Ev.pos h1 (Ev.pos h0 (Ev.pos h1 (Ev.pos (by omega) (Ev.pos (by rw [rdLeg ha, rdLeg hb, leg_ne]; exact hn) (Ev.now _)))))))
        (Ev.step (fun k => slices_Equal_impl_Leg.l0.eq_2 ..) (Ev.neg (by omega) (Ev.now _)))
      refine ⟨r, by rw [hr]; simp [e], Ev.pos e (Ev.bind (a := r) ?_ (Ev.now _))⟩
      unfold slices_Equal_impl_Leg.f
      exact Ev.pos (by omega) h
    · refine ⟨false, by simp; intro _ h; rw [h] at e2; exact e2 rfl, Ev.pos e (Ev.bind (a := false) ?_ (Ev.now _))⟩
      unfold slices_Equal_impl_Leg.f
      exact Ev.neg (by omega) (Ev.now _)
  · exact ⟨false, by simp [e], Ev.neg e (Ev.now _)⟩

theorem lwBig_eq (c : List Int) : laws_lwBig.f c = some (decide ((c.length : Int) > 1048576)) := rfl
theorem draw_reverse (c : List Int) (hb : bytesL c) (hl : c.length ≤ 2000000) : ∃ i l n, Ev (fun k => spec_DrawReverseOf.f k c) (i, l, n) := by
  obtain ⟨i, l, s, hd, _, _, _⟩ := l1Bent_ok c hb hl 0 (by decide) (by decide)
  obtain ⟨v, _, hv⟩ := pick_ok c hb hl s (by omega) (by omega) [5, 9, 0, 1000000000, 1000000001] (by simp)
  refine ⟨i, l, v, ?_⟩
  unfold spec_DrawReverseOf.f spec_l1Source.f
  exact Ev.let (Ev.bind hd (Ev.bind (Ev.is hv) (Ev.now _)))
theorem one_in (t : List Int) (ht : Strict t) (v : Int) (hv : v ∈ t) : (t.map (fun s => if v = s then 1 else 0)).sum = 1 := by
  induction t with
  | nil => cases hv
  | cons s r ih =>
    have hs := List.pairwise_cons.1 ht
    rw [List.map_cons, List.sum_cons]
    by_cases e : v = s
    · rw [if_pos e]
      have hz : ∀ r' : List Int, (∀ x ∈ r', s < x) → (r'.map (fun s => if v = s then 1 else 0)).sum = 0 := by
        intro r'
        induction r' with
        | nil => intro _; rfl
        | cons x r' ih2 =>
          intro hx
          have := hx x List.mem_cons_self
          rw [List.map_cons, List.sum_cons, if_neg (by omega), ih2 (fun y hy => hx y (List.mem_cons_of_mem _ hy))]
      rw [hz r hs.1]
    · rw [if_neg e, ih hs.2 ((List.mem_cons.1 hv).resolve_left e)]
theorem legs_count (t : List Int) (ht : Strict t) : ∀ l : List S89, (∀ g ∈ l, g.f0 ∈ t) → (t.map (fun s => (legsOf l s).length)).sum = l.length := by
  intro l
  induction l with
  | nil =>
    intro _
    have z : ∀ u : List Int, (u.map (fun s => (legsOf [] s).length)).sum = 0 := by
      intro u
      induction u with
      | nil => rfl
      | cons x u ihu => rw [List.map_cons, List.sum_cons, ihu]; rfl
    exact z t
  | cons g r ih =>
    intro h
    have ih := ih (fun x hx => h x (List.mem_cons_of_mem _ hx))
    have e : ∀ s, (legsOf (g :: r) s).length = (if g.f0 = s then 1 else 0) + (legsOf r s).length := fun s => by
      unfold legsOf
      rw [List.filter_cons]
      by_cases hs : g.f0 = s
      · simp [hs]; omega
      · simp [hs]
    have h1 := one_in t ht g.f0 (h g List.mem_cons_self)
    have add : ∀ u : List Int, (u.map (fun s => (legsOf (g :: r) s).length)).sum = (u.map (fun s => if g.f0 = s then 1 else 0)).sum + (u.map (fun s => (legsOf r s).length)).sum := by
      intro u
      induction u with
      | nil => rfl
      | cons s u ihu =>
        simp only [List.map_cons, List.sum_cons] at ihu ⊢
        rw [ihu, e s]
        omega
    rw [add t, h1, ih, List.length_cons]
    omega
theorem FnContracts : ∀ (l0 : List Int), okL (fun n => (Lit.int .u8 n).wf = true) l0 → ∃ k, laws_FnContracts.f k l0 = some true := by
  intro c hc
  have hb : bytesL c := fun x hx => wfU8 (hc.2 x hx)
  refine Ev.rounds (r := true) ?_
  unfold laws_FnContracts.f
  refine Ev.bind (Ev.is (lwBig_eq c)) (Ev.ite (fun _ => Ev.now _) (fun hbig => ?_))
  have hl : c.length ≤ 2000000 := by simp at hbig; omega
  obtain ⟨i, l, n, hd⟩ := draw_reverse c hb hl
  refine Ev.bind hd (Ev.bind (impl_ReverseOf_ev i l n) ?_)
  by_cases hcode : (reverseR i l n).1 = 0
  · have hok : contractFault i l = 0 ∧ (1 ≤ n ∧ n ≤ 1000000000) ∧ reverseR i l n = (0, n, l.map revLeg) := by
      unfold reverseR at hcode ⊢
      by_cases h1 : contractFault i l = 0
      · rw [if_pos h1] at hcode ⊢
        by_cases h2 : 1 ≤ n ∧ n ≤ 1000000000
        · exact ⟨h1, h2, if_pos h2⟩
        · rw [if_neg h2] at hcode; cases hcode
      · rw [if_neg h1] at hcode; exact absurd hcode h1
    obtain ⟨hz, hn, hr⟩ := hok
    obtain ⟨hid, hlen, hg⟩ := contract_right hz
    have hrz := contract_rev hz hn
    have hrev : reverseR n (l.map revLeg) i = (0, i, l) := by
      unfold reverseR
      rw [if_pos hrz, if_pos hid, rev_rev l hg]
    rw [hr]
    have e1 := impl_ReverseOf_ev n (l.map revLeg) i
    rw [hrev] at e1
    obtain ⟨t, ht⟩ : ∃ t : List Int, t = ([0, 1, 2] : List Int).filter (fun s => decide (s ∈ shardL l)) := ⟨_, rfl⟩
    have hts : Strict t := by rw [ht]; exact List.Pairwise.filter _ (by decide)
    have htm : ∀ w, w ∈ t ↔ w ∈ shardL l := fun w => by
      rw [ht, List.mem_filter]
      refine ⟨fun h => by simpa using h.2, fun h => ⟨?_, by simpa using h⟩⟩
      obtain ⟨g, hgl, rfl⟩ := List.mem_map.1 h
      have := (hg g hgl).1
      simp only [List.mem_cons, List.not_mem_nil, or_false]
      omega
    have htl : t.length ≤ 3 := by rw [ht]; exact List.length_filter_le _ _
    have e2 : Ev (fun k => impl_ShardsOf.f k i l) (0, t) := by
      unfold impl_ShardsOf.f
      exact Ev.bind (impl_ContractFault_ev i l) (Ev.pos hz (Ev.bind (shards_impl_ev i l hlen.2 t hts htm) (Ev.now _)))
    refine Ev.pos rfl (Ev.bind e1 (Ev.bind e2 ?_))
    -- the sums and what is behind them
    have fin : Ev (fun k => laws_FnContracts.l1 k (l.length : Int) 0 i l 0 n (l.map revLeg) 0 i l) true := by
      refine Ev.each (F := fun k x => laws_FnContracts.l1 k (l.length : Int) x i l 0 n (l.map revLeg) 0 i l) 3 (by decide) (fun x x0 x1 e => Ev.step (fun k => laws_FnContracts.l1.eq_2 ..) (Ev.pos (by omega) (Ev.bind (impl_SumOf_ev i l x) (Ev.bind (impl_SumOf_ev n (l.map revLeg) x) (Ev.neg ?_ e))))) (Ev.step (fun k => laws_FnContracts.l1.eq_2 ..) (Ev.neg (by decide) ?_))
      · rw [sumOf_rev hz hn x]
        simp
      · obtain ⟨r, hr2, hs⟩ := impl_SameContract_ev i l i l (by omega)
        have hrt : r = true := hr2.2 ⟨rfl, rfl⟩
        subst hrt
        exact Ev.bind (impl_ContractFault_ev n (l.map revLeg)) (Ev.pos hrz (Ev.pos rfl (Ev.bind hs (Ev.pos rfl (Ev.eq (Ev.now _) (by simp))))))
    have hcnt := legs_count t hts l (fun g hgl => (htm g.f0).2 (List.mem_map.2 ⟨g, hgl, rfl⟩))
    have hlen2 : ∀ s, (legsOf l s).length ≤ 8 := fun s => by have := legsOf_len l s; omega
    show Ev (fun k => laws_FnContracts.l0 k 0 0 i l 0 n (l.map revLeg) 0 i l 0 t) true
    refine Ev.upto1 (fun k (m : Int) x => laws_FnContracts.l0 k m x i l 0 n (l.map revLeg) 0 i l 0 t) t.length (by omega) (fun x m => m = (((t.take x.toNat).map (fun s => (legsOf l s).length)).sum : Nat) ∧ 0 ≤ m ∧ m ≤ 8 * x) true (fun x m x0 x1 hm => .inl ?_) (fun m hm => ?_) 0 0 (by omega) (by omega) ⟨by simp, by decide, by decide⟩
    · have hxt : x.toNat < t.length := by omega
      have hrd : rd t x = t[x.toNat] := rd_get t x x0 x1
      have hmem : rd t x ∈ shardL l := (htm _).1 (by rw [hrd]; exact List.getElem_mem _)
      obtain ⟨g, hgl, hgs⟩ := List.mem_map.1 hmem
      have hgr := (hg g hgl).1
      have hla : legsAtR i l (rd t x) = (0, legsOf l (rd t x)) := by
        unfold legsAtR
        rw [if_pos hz, if_pos (by omega)]
      have hne : (legsOf l (rd t x)).length ≠ 0 := by
        intro h0
        have := List.length_eq_zero_iff.1 h0
        unfold legsOf at this
        have h2 := List.filter_eq_nil_iff.1 this g hgl
        exact h2 (by simpa using hgs)
      have h8 := hlen2 (rd t x)
      have ela := impl_LegsAt_ev i l (rd t x)
      rw [hla] at ela
      refine ⟨m + ((legsOf l (rd t x)).length : Int), ⟨?_, by omega, by omega⟩, fun e => Ev.step (fun k => laws_FnContracts.l0.eq_2 ..) (Ev.pos (by omega) (Ev.pos x0 (Ev.bind ela (Ev.neg (by show ¬ ((legsOf l (rd t x)).length : Int) = 0; omega) ?_))))⟩
      · rw [show (x + 1).toNat = x.toNat + 1 by omega, List.take_add_one, List.getElem?_eq_getElem hxt, List.map_append, List.sum_append, hm.1, hrd]
        simp
      · have w : wrap64 (m + ((legsOf l (rd t x)).length : Int)) = m + ((legsOf l (rd t x)).length : Int) := w64 (by omega) (by omega)
        simp only [w]
        exact e
    · have hm1 : m = (l.length : Int) := by
        rw [hm.1, Int.toNat_natCast, List.take_length, hcnt]
      subst hm1
      exact Ev.step (fun k => laws_FnContracts.l0.eq_2 ..) (Ev.neg (by omega) fin)
  · refine Ev.neg hcode (Ev.bind (spec_ReverseOf_ev i l n) (Ev.eq (Ev.now _) (by simp)))

end Go.Proofs.Ytooiamkaipdmpaa.Pure
