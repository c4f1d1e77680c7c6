/- FnBytes, the pure statement: numbers and contracts that were packed are read back, whatever the bytes draw. No conditions. -/
import Derived.Test.YtooiamkaipdmpaaPFnBytesx12
import Derived.Test.YtooiamkaipdmpaaOFnBytes
namespace Go.Proofs.Ytooiamkaipdmpaa.Pure
open Go.RowKit Go.Proofs.Ytooiamkaipdmpaa.PFnBytes Go.Proofs.YtooiamkaipdmpaaW.PrintWords Go.Proofs.YtooiamkaipdmpaaW.PrintLast Go.Proofs.YtooiamkaipdmpaaW.PrintMore Go.Proofs.Ytooiamkaipdmpaa.Opens
set_option linter.unusedVariables false
set_option linter.unusedSimpArgs false
/-! ### words of this text's own -/
theorem w64 {x : Int} (h0 : -9223372036854775808 ≤ x) (h1 : x ≤ 9223372036854775807) : wrap64 x = x := by
  unfold wrap64
  omega
theorem wfU8 {x : Int} (h : (Lit.int .u8 x).wf = true) : 0 ≤ x ∧ x < 256 := by
  simp [Lit.wf, IntKind.min, IntKind.max, IntKind.signed, IntKind.bits] at h
  omega
theorem wfI64 {x : Int} (h : (Lit.int .i64 x).wf = true) : -9223372036854775808 ≤ x ∧ x ≤ 9223372036854775807 := by
  simp [Lit.wf, IntKind.min, IntKind.max, IntKind.signed, IntKind.bits] at h
  omega
section
variable {α β σ : Type}
theorem Ev.ite {g f : Nat → Option α} {c : Prop} [Decidable c] {r : α} (ht : c → Ev g r) (hf : ¬ c → Ev f r) : Ev (fun k => if c then g k else f k) r := by
  by_cases h : c
  · simp only [if_pos h]; exact ht h
  · simp only [if_neg h]; exact hf h
theorem Ev.pos {g f : Nat → Option α} {c : Prop} [Decidable c] {r : α} (h : c) (ht : Ev g r) : Ev (fun k => if c then g k else f k) r := Ev.ite (fun _ => ht) (fun n => absurd h n)
theorem Ev.neg {g f : Nat → Option α} {c : Prop} [Decidable c] {r : α} (h : ¬ c) (hf : Ev f r) : Ev (fun k => if c then g k else f k) r := Ev.ite (fun y => absurd y h) (fun _ => hf)
theorem Ev.cond {g f : Nat → Option α} {c : Prop} [Decidable c] {r s : α} (ht : c → Ev g r) (hf : ¬ c → Ev f s) : Ev (fun k => if c then g k else f k) (if c then r else s) := by
  by_cases h : c
  · simp only [if_pos h]; exact ht h
  · simp only [if_neg h]; exact hf h
theorem Ev.let {f : Nat → α → Option β} {a : α} {r : β} (k : Ev (fun n => f n a) r) : Ev (fun n => (some a).bind (f n)) r := Ev.bind (Ev.now a) k
theorem Ev.is {a : Option α} {r : α} (h : a = some r) : Ev (fun _ => a) r := ⟨0, fun _ _ => h⟩
theorem Ev.eq {g : Nat → Option α} {a b : α} (h : Ev g a) (e : a = b) : Ev g b := e ▸ h
/-- A loop that counts i up to n, with a state s: what it comes to, if 'P i s' leads from round to round. -/
theorem Ev.upto (F : Nat → σ → Int → Option α) (n : Int) (hn : n ≤ 9223372036854775807) (P : Int → σ → Prop) (R : α → Prop)
    (step : ∀ i s, 0 ≤ i → i < n → P i s → (∃ s', P (i + 1) s' ∧ ∀ r, Ev (fun k => F k s' (wrap64 (i + 1))) r → Ev (fun k => F k s i) r) ∨ (∃ r, R r ∧ Ev (fun k => F k s i) r))
    (stop : ∀ s, P n s → ∃ r, R r ∧ Ev (fun k => F k s n) r) (i : Int) (s : σ) (h0 : 0 ≤ i) (h1 : i ≤ n) (hP : P i s) : ∃ r, R r ∧ Ev (fun k => F k s i) r := by
  obtain ⟨d, hd⟩ : ∃ d : Nat, n - i = d := ⟨(n - i).toNat, by omega⟩
  induction d generalizing i s with
  | zero =>
    obtain rfl : i = n := by omega
    exact stop s hP
  | succ d ih =>
    rcases step i s h0 (by omega) hP with ⟨s', hP', h⟩ | h
    · obtain ⟨r, hr, he⟩ := ih (i + 1) s' (by omega) (by omega) hP' (by omega)
      exact ⟨r, hr, h r (by rw [w64 (by omega) (by omega)]; exact he)⟩
    · exact h
/-- The same, where what it comes to is one value. -/
theorem Ev.upto1 (F : Nat → σ → Int → Option α) (n : Int) (hn : n ≤ 9223372036854775807) (P : Int → σ → Prop) (r : α)
    (step : ∀ i s, 0 ≤ i → i < n → P i s → (∃ s', P (i + 1) s' ∧ (Ev (fun k => F k s' (wrap64 (i + 1))) r → Ev (fun k => F k s i) r)) ∨ Ev (fun k => F k s i) r)
    (stop : ∀ s, P n s → Ev (fun k => F k s n) r) (i : Int) (s : σ) (h0 : 0 ≤ i) (h1 : i ≤ n) (hP : P i s) : Ev (fun k => F k s i) r := by
  obtain ⟨d, hd⟩ : ∃ d : Nat, n - i = d := ⟨(n - i).toNat, by omega⟩
  induction d generalizing i s with
  | zero =>
    obtain rfl : i = n := by omega
    exact stop s hP
  | succ d ih =>
    rcases step i s h0 (by omega) hP with ⟨s', hP', h⟩ | h
    · exact h (by rw [w64 (by omega) (by omega)]; exact ih (i + 1) s' (by omega) (by omega) hP' (by omega))
    · exact h
theorem take_set_succ (l acc : List α) (i : Nat) (v : α) (h : i < acc.length) (ht : acc.take i = l.take i) (hv : l[i]? = some v) : (acc.set i v).take (i + 1) = l.take (i + 1) := by
  rw [List.take_add_one, List.take_add_one, hv, List.getElem?_set_self h, List.take_set_of_le (Nat.le_refl _), ht]
/-- A row filled cell by cell. -/
theorem Ev.fill (F : Nat → List α → Int → Option (List α)) (l : List α) (hl : l.length ≤ 9223372036854775807)
    (step : ∀ (i : Int) s (v : α), 0 ≤ i → i < (l.length : Int) → s.length = l.length → l[i.toNat]? = some v → Ev (fun k => F k (s.set i.toNat v) (wrap64 (i + 1))) l → Ev (fun k => F k s i) l)
    (stop : ∀ s, s.length = l.length → Ev (fun k => F k s (l.length : Int)) s) (s : List α) (hs : s.length = l.length) : Ev (fun k => F k s 0) l :=
  Ev.upto1 F l.length (by omega) (fun i s => s.length = l.length ∧ s.take i.toNat = l.take i.toNat) l
    (fun i s h0 h1 ⟨hs, ht⟩ => .inl ⟨s.set i.toNat (l[i.toNat]'(by omega)), ⟨by simp [hs], by
      rw [show (i + 1).toNat = i.toNat + 1 by omega]
      exact take_set_succ l s _ _ (by omega) ht (List.getElem?_eq_getElem (by omega))⟩, step i s _ h0 h1 hs (List.getElem?_eq_getElem (by omega))⟩)
    (fun s ⟨hs, ht⟩ => by
      rw [List.take_of_length_le (by omega), List.take_of_length_le (by omega)] at ht
      have := stop s hs
      subst ht
      exact this) 0 s (by omega) (by omega) ⟨hs, by simp⟩
/-- A loop that asks of each place, and comes to the end. -/
theorem Ev.each {F : Nat → Int → Option β} {r : β} (n : Nat) (hn : (n : Int) ≤ 9223372036854775807) (step : ∀ i : Int, 0 ≤ i → i < n → Ev (fun k => F k (wrap64 (i + 1))) r → Ev (fun k => F k i) r) (stop : Ev (fun k => F k (n : Int)) r) : Ev (fun k => F k 0) r :=
  Ev.upto1 (fun k (_ : Unit) i => F k i) n hn (fun _ _ => True) r (fun i _ h0 h1 _ => .inl ⟨(), trivial, step i h0 h1⟩) (fun _ _ => stop) 0 () (by omega) (by omega) trivial
end
theorem rd_get (l : List Int) (i : Int) (h0 : 0 ≤ i) (h1 : i < (l.length : Int)) : rd l i = l[i.toNat]'(by omega) := by
  unfold rd
  rw [List.getD_eq_getElem?_getD, List.getElem?_eq_getElem (by omega)]
  rfl
theorem rd_of {l : List Int} {i : Int} {v : Int} (h : l[i.toNat]? = some v) : rd l i = v := by
  unfold rd
  rw [List.getD_eq_getElem?_getD, h]
  rfl
theorem drop_cons_at {α : Type} (l : List α) (i : Nat) (h : i < l.length) : l.drop i = l[i] :: l.drop (i + 1) := List.drop_eq_getElem_cons h
theorem rd_drop (l : List Int) (n : Nat) (j : Int) (h : 0 ≤ j) : rd (l.drop n) j = rd l ((n : Int) + j) := by
  unfold rd
  rw [List.getD_eq_getElem?_getD, List.getD_eq_getElem?_getD, List.getElem?_drop, show ((n : Int) + j).toNat = n + j.toNat by omega]
theorem rd_bound (l : List Int) (hb : ∀ x ∈ l, 0 ≤ x ∧ x < 256) (i : Int) : 0 ≤ rd l i ∧ rd l i < 256 := by
  unfold rd
  rw [List.getD_eq_getElem?_getD]
  cases h : l[i.toNat]? with
  | none => simp
  | some v => exact hb v (List.mem_of_getElem? h)

/-- Bytes. -/
def bytesL (l : List Int) : Prop := ∀ x ∈ l, 0 ≤ x ∧ x < 256
theorem next_ok (c : List Int) (hb : bytesL c) (hl : c.length ≤ 2000000) (s : Int) (h0 : 0 ≤ s) (h1 : s ≤ 100000000000000) (n : Int) :
    ∃ r, spec_l1Next.f c s n = some (r, s + 1) ∧ 0 ≤ r ∧ (1 ≤ n → r < n) ∧ (n < 1 → r = 0) := by
  have e1 : wrap64 (s + 1) = s + 1 := w64 (by omega) (by omega)
  have e2 : wrap64 (s + 1 - 1) = s := by rw [show s + 1 - 1 = s by omega]; exact w64 (by omega) (by omega)
  unfold spec_l1Next.f
  simp only [e1, e2]
  by_cases hn1 : n < 1
  · rw [if_pos hn1]
    exact ⟨0, rfl, by omega, fun h => by omega, fun _ => rfl⟩
  rw [if_neg hn1]
  have fin : ∀ v : Int, 0 ≤ v → ∃ r, (if n = 0 then none else some (Int.tmod v n, s + 1)) = some (r, s + 1) ∧ 0 ≤ r ∧ (1 ≤ n → r < n) ∧ (n < 1 → r = 0) := fun v hv =>
    ⟨Int.tmod v n, if_neg (by omega), Int.tmod_nonneg n hv, fun _ => Int.tmod_lt_of_pos v (by omega), fun h => absurd h hn1⟩
  by_cases hk : (c.length : Int) = 0
  · rw [if_pos hk, w64 (x := s * 7) (by omega) (by omega)]
    exact fin _ (by omega)
  · rw [if_neg hk]
    have m0 := Int.tmod_nonneg (c.length : Int) h0
    have m1 := Int.tmod_lt_of_pos s (show 0 < (c.length : Int) by omega)
    have p0 := Int.tmod_nonneg (c.length : Int) (show 0 ≤ s + 1 by omega)
    have p1 := Int.tmod_lt_of_pos (s + 1) (show 0 < (c.length : Int) by omega)
    have d0 : 0 ≤ Int.tdiv s (c.length : Int) := Int.tdiv_nonneg h0 (by omega)
    have d1 : Int.tdiv s (c.length : Int) ≤ s := by
      rw [Int.tdiv_eq_ediv_of_nonneg h0]
      exact Int.ediv_le_self _ h0
    rw [if_pos m0, if_pos m1]
    have b0 := rd_bound c hb (Int.tmod s (c.length : Int))
    have b1 := rd_bound c hb (Int.tmod (s + 1) (c.length : Int))
    generalize rd c (Int.tmod s (c.length : Int)) = u at b0 ⊢
    generalize rd c (Int.tmod (s + 1) (c.length : Int)) = v at b1 ⊢
    generalize Int.tdiv s (c.length : Int) = q at d0 d1 ⊢
    have w1 : wrap64 u = u := w64 (by omega) (by omega)
    have w2 : wrap64 v = v := w64 (by omega) (by omega)
    have w3 : wrap64 q = q := w64 (by omega) (by omega)
    have w4 : wrap64 (q * 37) = q * 37 := w64 (by omega) (by omega)
    have w5 : wrap64 (u + q * 37) = u + q * 37 := w64 (by omega) (by omega)
    have w6 : wrap64 ((u + q * 37) * 251) = (u + q * 37) * 251 := w64 (by omega) (by omega)
    have w7 : wrap64 (v * 13) = v * 13 := w64 (by omega) (by omega)
    have w8 : wrap64 ((u + q * 37) * 251 + v * 13) = (u + q * 37) * 251 + v * 13 := w64 (by omega) (by omega)
    have w9 : wrap64 ((u + q * 37) * 251 + v * 13 + s) = (u + q * 37) * 251 + v * 13 + s := w64 (by omega) (by omega)
    simp only [w1, w2, w3, w4, w5, w6, w7, w8, w9]
    by_cases h200 : n > 200
    · rw [if_pos h200, if_pos p0, if_pos p1]
      exact fin _ (by omega)
    · rw [if_neg h200]
      exact fin _ (by omega)
theorem pick_ok (c : List Int) (hb : bytesL c) (hl : c.length ≤ 2000000) (s : Int) (h0 : 0 ≤ s) (h1 : s ≤ 100000000000000) (l : List Int) (hn : 1 ≤ l.length) : ∃ v, v ∈ l ∧ spec_l1Pick.f c s l = some (v, s + 1) := by
  obtain ⟨r, hr, p0, p1, _⟩ := next_ok c hb hl s h0 h1 (l.length : Int)
  have p1 := p1 (by omega)
  refine ⟨rd l r, ?_, ?_⟩
  · rw [rd_get l r p0 p1]
    exact List.getElem_mem _
  · unfold spec_l1Pick.f
    rw [hr]
    simp only [Option.bind_some]
    rw [if_pos p0, if_pos p1]
theorem chance_ok (c : List Int) (hb : bytesL c) (hl : c.length ≤ 2000000) (s : Int) (h0 : 0 ≤ s) (h1 : s ≤ 100000000000000) (n : Int) : ∃ b, spec_l1Chance.f c s n = some (b, s + 1) := by
  obtain ⟨r, hr, _⟩ := next_ok c hb hl s h0 h1 n
  unfold spec_l1Chance.f
  rw [hr]
  exact ⟨_, rfl⟩
theorem bytesL_mod (l : List Int) (h : bytesL l) (v : Int) : bytesL (l ++ [v % 256]) := fun x hx => by
  rcases List.mem_append.1 hx with h1 | h1
  · exact h x h1
  · have := List.mem_singleton.1 h1; omega
theorem cut_ok (c : List Int) (hb : bytesL c) (hl : c.length ≤ 2000000) (s : Int) (h0 : 0 ≤ s) (h1 : s ≤ 10000000000000) (l : List Int) (hbl : bytesL l) (hll : l.length ≤ 2000000) :
    ∃ r s', spec_l3Cut.f c s l = some (r, s') ∧ s ≤ s' ∧ s' ≤ s + 5 ∧ r.length ≤ l.length + 1 ∧ bytesL r := by
  unfold spec_l3Cut.f
  simp only [Option.bind_some, List.nil_append, List.length_nil]
  rw [if_pos (show 0 + l.length < 140737488355328 by omega)]
  by_cases hz : (l.length : Int) = 0
  · rw [if_pos hz]
    obtain ⟨v, hv, _⟩ := next_ok c hb hl s h0 (by omega) 256
    rw [hv]
    exact ⟨[v % 256], s + 1, rfl, by omega, by omega, by simp, fun x hx => by have := List.mem_singleton.1 hx; omega⟩
  · rw [if_neg hz]
    obtain ⟨i, hi, i0, i1, _⟩ := next_ok c hb hl s h0 (by omega) (l.length : Int)
    have i1 := i1 (by omega)
    obtain ⟨a, ha, a0, a1, _⟩ := next_ok c hb hl (s + 1) (by omega) (by omega) 3
    rw [hi]
    simp only [Option.bind_some]
    rw [ha]
    simp only [Option.bind_some]
    by_cases ha0 : a = 0
    · rw [if_pos ha0]
      obtain ⟨v, hv, _⟩ := next_ok c hb hl (s + 1 + 1) (by omega) (by omega) 256
      rw [hv]
      simp only [Option.bind_some]
      rw [if_pos i0, if_pos i1]
      refine ⟨_, _, rfl, by omega, by omega, by simp, fun x hx => ?_⟩
      rcases List.mem_or_eq_of_mem_set hx with h | h
      · exact hbl x h
      · omega
    · rw [if_neg ha0]
      by_cases ha1 : a = 1
      · rw [if_pos ha1, if_pos i0, if_pos (show i ≤ (l.length : Int) by omega)]
        exact ⟨_, _, rfl, by omega, by omega, by rw [List.length_take]; omega, fun x hx => hbl x (List.mem_of_mem_take hx)⟩
      · rw [if_neg ha1]
        by_cases ha2 : a = 2
        · rw [if_pos ha2]
          obtain ⟨v, hv, _⟩ := next_ok c hb hl (s + 1 + 1) (by omega) (by omega) 6
          rw [hv]
          simp only [Option.bind_some]
          rw [if_pos (by omega)]
          exact ⟨_, _, rfl, by omega, by omega, by simp, bytesL_mod l hbl v⟩
        · rw [if_neg ha2]
          exact ⟨_, _, rfl, by omega, by omega, by omega, hbl⟩

/-- What LegFault tells of a leg. -/
def legFault (s a t m : Int) : Int := if 0 ≤ s ∧ s ≤ 2 ∧ 0 ≤ a ∧ a ≤ 5 ∧ 0 ≤ t ∧ t ≤ 2 ∧ -1000000000000 ≤ m ∧ m ≤ 1000000000000 then (if m = 0 then 1 else 0) else 3
theorem spec_LegFault_ev (s a t m : Int) : Ev (fun k => spec_LegFault.f k s a t m) (legFault s a t m) := by
  refine ⟨1, fun k hk => ?_⟩
  obtain ⟨k, rfl⟩ : ∃ j, k = j + 1 := ⟨k - 1, by omega⟩
  unfold spec_LegFault.f spec_l1In.f legFault
  by_cases h1 : 0 ≤ s <;> by_cases h2 : s ≤ 2 <;> by_cases h3 : 0 ≤ a <;> by_cases h4 : a ≤ 5 <;> by_cases h5 : 0 ≤ t <;> by_cases h6 : t ≤ 2 <;> by_cases h7 : -1000000000000 ≤ m <;> by_cases h8 : m ≤ 1000000000000 <;> by_cases h9 : m = 0 <;> simp [h1, h2, h3, h4, h5, h6, h7, h8, h9, spec_LegFault.j0]
theorem impl_LegFault_ev (s a t m : Int) : Ev (fun k => impl_LegFault.f k s a t m) (legFault s a t m) := by
  refine ⟨1, fun k hk => ?_⟩
  obtain ⟨k, rfl⟩ : ∃ j, k = j + 1 := ⟨k - 1, by omega⟩
  unfold impl_LegFault.f impl_isShard.f impl_isPlace.f impl_isAsset.f impl_within.f legFault
  by_cases h1 : 0 ≤ s <;> by_cases h2 : s ≤ 2 <;> by_cases h3 : 0 ≤ a <;> by_cases h4 : a ≤ 5 <;> by_cases h5 : 0 ≤ t <;> by_cases h6 : t ≤ 2 <;> by_cases h7 : -1000000000000 ≤ m <;> by_cases h8 : m ≤ 1000000000000 <;> by_cases h9 : m = 0 <;> simp [h1, h2, h3, h4, h5, h6, h7, h8, h9, impl_LegFault.j0]

theorem rdLeg {l : List S89} {i : Int} {v : S89} (h : l[i.toNat]? = some v) : rd_T89 l i = v := by
  unfold rd_T89
  rw [List.getD_eq_getElem?_getD, h]
  rfl
theorem rdLeg_at (l : List S89) (i : Int) (h0 : 0 ≤ i) (h1 : i < (l.length : Int)) : rd_T89 l i = l[i.toNat]'(by omega) := rdLeg (List.getElem?_eq_getElem (by omega))

theorem within_eq (x a b : Int) : impl_within.f x a b = some (decide (a ≤ x ∧ x ≤ b)) := by
  unfold impl_within.f
  by_cases h1 : a ≤ x <;> simp [h1]

theorem l1In_eq (x a b : Int) : spec_l1In.f x a b = some (decide (a ≤ x ∧ x ≤ b)) := by
  unfold spec_l1In.f
  by_cases h1 : a ≤ x <;> simp [h1]

theorem containsLeg_ev [FN_slices_IndexFunc_impl_Leg] (q : S89 → Bool) (hq : ∀ x : S89, FN_slices_IndexFunc_impl_Leg.f x.f0 x.f1 x.f2 x.f3 = some (q x)) (l : List S89) (hl : l.length ≤ 1000000) : Ev (fun k => slices_ContainsFunc_impl_Leg.f k l) (l.any q) := by
  unfold slices_ContainsFunc_impl_Leg.f slices_IndexFunc_impl_Leg.f
  obtain ⟨r, hr, he⟩ := Ev.upto (fun k (_ : Unit) i => slices_IndexFunc_impl_Leg.l0 k l (l.length : Int) i) l.length (by omega) (fun i _ => (l.drop i.toNat).any q = l.any q) (fun r => r ≥ 0 ↔ l.any q = true)
    (fun i _ h0 h1 hp => by
      have hr := rdLeg_at l i h0 h1
      rw [drop_cons_at l i.toNat (by omega), List.any_cons] at hp
      generalize l[i.toNat]'(by omega) = x at hr hp
      by_cases hx : q x = true
      · rw [hx, Bool.true_or] at hp
        refine .inr ⟨i, ⟨fun _ => hp.symm, fun _ => h0⟩, Ev.step (fun k => slices_IndexFunc_impl_Leg.l0.eq_2 ..) (Ev.pos h1 (Ev.pos h0 (Ev.pos h1 ?_)))⟩
        rw [hr]
        exact Ev.bind (Ev.is (hq x)) (Ev.pos hx (Ev.now _))
      · have hf : q x = false := by simpa using hx
        rw [hf, Bool.false_or] at hp
        refine .inl ⟨(), by rw [show (i + 1).toNat = i.toNat + 1 by omega]; exact hp, fun r h => Ev.step (fun k => slices_IndexFunc_impl_Leg.l0.eq_2 ..) (Ev.pos h1 (Ev.pos h0 (Ev.pos h1 ?_)))⟩
        rw [hr]
        exact Ev.bind (Ev.is (hq x)) (Ev.neg hx h))
    (fun _ hp => ⟨-1, by rw [← hp, List.drop_eq_nil_of_le (by omega)]; simp, Ev.step (fun k => slices_IndexFunc_impl_Leg.l0.eq_2 ..) (Ev.neg (by omega) (Ev.now _))⟩)
    0 () (by omega) (by omega) rfl
  refine Ev.bind he (Ev.eq (Ev.now _) ?_)
  rw [Bool.eq_iff_iff, decide_eq_true_iff]
  exact hr
/-- Are two legs of one place? -/
def sameP (x w : S89) : Bool := (x.f0 == w.f0 && x.f1 == w.f1) && x.f2 == w.f2
theorem samePlace_eq (x w : S89) : (impl_samePlace.f x.f0 x.f1 x.f2 x.f3 w.f0 w.f1 w.f2 w.f3 == some true) = sameP x w := by
  unfold impl_samePlace.f sameP
  by_cases h0 : x.f0 = w.f0 <;> by_cases h1 : x.f1 = w.f1 <;> by_cases h2 : x.f2 = w.f2 <;> simp [h0, h1, h2]
def placeIn (l : List S89) (i : Int) (w : S89) : Bool := (l.take i.toNat).any fun x => sameP x w
def finCode (l : List S89) : Int := if ∀ g ∈ l, sumA g.f2 l = 0 then 0 else 1
theorem fin_eq (l : List S89) : impl_ContractFault.fin l = some (finCode l) := by
  unfold impl_ContractFault.fin finCode
  split <;> rfl
/-- What ContractFault tells of the last d legs. -/
def contractFrom (l : List S89) : Nat → Int
  | 0 => finCode l
  | d + 1 => (fun i : Int => (fun x : S89 => if legFault x.f0 x.f1 x.f2 x.f3 = 0 then (if placeIn l i x = true then 7 else contractFrom l d) else legFault x.f0 x.f1 x.f2 x.f3) (rd_T89 l i)) ((l.length : Int) - (d + 1))
def contractFault (id : Int) (l : List S89) : Int := if 1 ≤ id ∧ id ≤ 1000000000 then (if 2 ≤ (l.length : Int) ∧ (l.length : Int) ≤ 8 then contractFrom l l.length else 2) else 3
theorem impl_isId_eq (id : Int) : impl_isId.f id = some (decide (1 ≤ id ∧ id ≤ 1000000000)) := by
  unfold impl_isId.f
  rw [within_eq]
  rfl
theorem impl_ContractFault_ev (id : Int) (l : List S89) : Ev (fun k => impl_ContractFault.f k id l) (contractFault id l) := by
  unfold impl_ContractFault.f impl_size_impl_Leg.f contractFault
  refine Ev.bind (Ev.is (impl_isId_eq id)) ?_
  by_cases hid : 1 ≤ id ∧ id ≤ 1000000000
  · rw [if_pos hid]
    refine Ev.pos (decide_eq_true hid) (Ev.let (Ev.bind (Ev.is (within_eq _ _ _)) ?_))
    by_cases hl : 2 ≤ (l.length : Int) ∧ (l.length : Int) ≤ 8
    · rw [if_pos hl]
      refine Ev.pos (decide_eq_true hl) ?_
      have go : ∀ d : Nat, d ≤ l.length → Ev (fun k => impl_ContractFault.l0 k l (l.length : Int) ((l.length : Int) - d) id l) (contractFrom l d) := by
        intro d
        induction d with
        | zero => intro _; exact Ev.step (fun k => impl_ContractFault.l0.eq_2 ..) (Ev.neg (by omega) (Ev.is (fin_eq l)))
        | succ d ih =>
          intro hd
          have h := ih (by omega)
          refine Ev.step (fun k => impl_ContractFault.l0.eq_2 ..) (Ev.pos (by omega) (Ev.pos (by omega) (Ev.pos (by omega) (Ev.bind (impl_LegFault_ev ..) ?_))))
          rw [w64 (x := (l.length : Int) - ((d + 1 : Nat) : Int) + 1) (by omega) (by omega), show (l.length : Int) - ((d + 1 : Nat) : Int) + 1 = (l.length : Int) - d by omega]
          rw [show ((d + 1 : Nat) : Int) = (d : Int) + 1 by omega]
          unfold contractFrom
          refine Ev.cond (fun _ => Ev.pos (by omega) (Ev.bind ?_ (Ev.cond (fun _ => Ev.now _) (fun _ => h)))) (fun _ => Ev.now _)
          unfold CL_77.f
          exact @containsLeg_ev (CL_77.p _ _ _ _) (fun x => sameP x (rd_T89 l ((l.length : Int) - ((d : Int) + 1)))) (fun x => congrArg some (samePlace_eq x _)) _ (by rw [List.length_take]; omega)
      have := go l.length (by omega)
      rw [show (l.length : Int) - (l.length : Nat) = 0 by omega] at this
      exact this
    · rw [if_neg hl]
      exact Ev.neg (fun h => hl (of_decide_eq_true h)) (Ev.now _)
  · rw [if_neg hid]
    exact Ev.neg (fun h => hid (of_decide_eq_true h)) (Ev.now _)
theorem legFault_asset {s a t m : Int} (h : legFault s a t m = 0) : 0 ≤ t ∧ t ≤ 2 := by
  unfold legFault at h
  split at h
  · next hh => exact ⟨hh.2.2.2.2.1, hh.2.2.2.2.2.1⟩
  · omega
/-- The reference's sums. -/
structure SumsAre (x3 : List Int) (l : List S89) (i : Int) : Prop where
  three : x3.length = 3
  is : ∀ a : Int, 0 ≤ a → a ≤ 2 → rd x3 a = sumA a (l.take i.toNat)
  low : ∀ g ∈ l.take i.toNat, 0 ≤ g.f2 ∧ g.f2 ≤ 2
theorem rd_set (l : List Int) (a b v : Int) (ha : 0 ≤ a) (hb : 0 ≤ b) (hl : b < (l.length : Int)) : rd (l.set b.toNat v) a = if a = b then v else rd l a := by
  unfold rd
  rw [List.getD_eq_getElem?_getD, List.getD_eq_getElem?_getD, List.getElem?_set]
  by_cases h : a = b
  · subst h
    rw [if_pos rfl, if_pos rfl, if_pos (by omega)]
    rfl
  · rw [if_neg h, if_neg (by omega)]
theorem take_succ_at (l : List S89) (i : Int) (h0 : 0 ≤ i) (h1 : i < (l.length : Int)) : l.take (i + 1).toNat = l.take i.toNat ++ [rd_T89 l i] := by
  rw [show (i + 1).toNat = i.toNat + 1 by omega, List.take_add_one, List.getElem?_eq_getElem (show i.toNat < l.length by omega), rdLeg_at l i h0 h1]
  rfl
theorem sums_end (x3 : List Int) (l : List S89) (h : SumsAre x3 l (l.length : Int)) : Ev (fun k => spec_ContractFault.l2 k x3 0) (finCode l) := by
  have hall : l.take ((l.length : Int)).toNat = l := List.take_of_length_le (by omega)
  have his := h.is
  have hlow := h.low
  have h3 := h.three
  rw [hall] at his hlow
  refine Ev.upto1 (fun k (_ : Unit) i => spec_ContractFault.l2 k x3 i) 3 (by omega) (fun i _ => ∀ a : Int, 0 ≤ a → a < i → sumA a l = 0) (finCode l) (fun i _ h0 h1 hp => ?_) (fun _ hp => ?_) 0 () (by omega) (by omega) (fun a h0 h1 => by omega)
  · have hi := his i h0 (by omega)
    by_cases hz : rd x3 i = 0
    · refine .inl ⟨(), fun a a0 a1 => ?_, fun hh => Ev.step (fun k => spec_ContractFault.l2.eq_2 ..) (Ev.pos (by omega) (Ev.pos h0 (Ev.pos hz hh)))⟩
      by_cases ha : a = i
      · rw [ha, ← hi, hz]
      · exact hp a a0 (by omega)
    · have hf : finCode l = 1 := if_neg (fun hh => by
        obtain ⟨g, hg, hgi⟩ := sumA_mem (a := i) (l := l) (by rw [← hi]; exact hz)
        apply hz
        rw [hi, ← hgi]
        exact hh g hg)
      rw [hf]
      exact .inr (Ev.step (fun k => spec_ContractFault.l2.eq_2 ..) (Ev.pos (by omega) (Ev.pos h0 (Ev.neg hz (Ev.now _)))))
  · have hf : finCode l = 0 := by
      unfold finCode
      exact if_pos (fun (g : S89) hg => hp g.f2 (hlow g hg).1 (by have := (hlow g hg).2; omega))
    rw [hf]
    exact Ev.step (fun k => spec_ContractFault.l2.eq_2 ..) (Ev.neg (by omega) (Ev.now _))
theorem spec_legs_ev (id : Int) (l : List S89) (hl : (l.length : Int) ≤ 8) : ∀ d : Nat, d ≤ l.length → ∀ x3, SumsAre x3 l ((l.length : Int) - d) → Ev (fun k => spec_ContractFault.l0 k x3 ((l.length : Int) - d) id l) (contractFrom l d) := by
  intro d
  induction d with
  | zero =>
    intro _ x3 hs
    refine Ev.step (fun k => spec_ContractFault.l0.eq_2 ..) (Ev.neg (by omega) ?_)
    rw [show (l.length : Int) - ((0 : Nat) : Int) = (l.length : Int) by omega] at hs
    exact sums_end x3 l hs
  | succ d ih =>
    intro hd x3 hs
    refine Ev.step (fun k => spec_ContractFault.l0.eq_2 ..) (Ev.pos (by omega) (Ev.pos (by omega) (Ev.bind (spec_LegFault_ev ..) ?_)))
    rw [show ((d + 1 : Nat) : Int) = (d : Int) + 1 by omega] at hs ⊢
    unfold contractFrom
    refine Ev.cond (fun hz => ?_) (fun _ => Ev.now _)
    have hlow := legFault_asset hz
    clear hz
    have hi : (l.length : Int) - ((d : Int) + 1) + 1 = (l.length : Int) - d := by omega
    have h0 : 0 ≤ (l.length : Int) - ((d : Int) + 1) := by omega
    have h1 : (l.length : Int) - ((d : Int) + 1) < (l.length : Int) := by omega
    generalize (l.length : Int) - ((d : Int) + 1) = i at hi h0 h1 hs hlow ⊢
    have hst := sumA_take
    have htk := take_succ_at l i h0 h1
    have hsum : ∀ a, sumA a (l.take (i + 1).toNat) = if a = (rd_T89 l i).f2 then wrap64 (sumA a (l.take i.toNat) + (rd_T89 l i).f3) else sumA a (l.take i.toNat) := fun a => sumA_take a l i h0 h1
    generalize rd_T89 l i = w at hlow htk hsum ⊢
    have hlen : (l.take i.toNat).length = i.toNat := by rw [List.length_take]; omega
    refine Ev.upto1 (fun k (_ : Unit) j => spec_ContractFault.l1 k x3 i j id l w.f0 w.f1 w.f2 w.f3) i (by omega) (fun j _ => ((l.take i.toNat).drop j.toNat).any (fun x => sameP x w) = placeIn l i w) (if placeIn l i w = true then 7 else contractFrom l d)
      (fun j _ j0 j1 hp => ?_) (fun _ hp => ?_) 0 () (by omega) (by omega) (by simp [placeIn])
    · have hr := rdLeg_at l j j0 (by omega)
      have e : (l.take i.toNat)[j.toNat]'(by omega) = l[j.toNat]'(by omega) := by simp
      rw [drop_cons_at (l.take i.toNat) j.toNat (by omega), List.any_cons, e] at hp
      generalize l[j.toNat]'(by omega) = x at hr hp
      by_cases hx : sameP x w = true
      · have hk : placeIn l i w = true := by rw [← hp, hx]; rfl
        rw [hk, if_pos rfl]
        unfold sameP at hx
        rw [Bool.and_eq_true, Bool.and_eq_true, beq_iff_eq, beq_iff_eq, beq_iff_eq] at hx
        refine .inr (Ev.step (fun k => spec_ContractFault.l1.eq_2 ..) (Ev.pos j1 (Ev.pos j0 (Ev.pos (by omega) ?_))))
        rw [hr]
        exact Ev.pos hx.1.1 (Ev.pos hx.1.2 (Ev.pos hx.2 (Ev.now _)))
      · have hb : sameP x w = false := by simpa using hx
        rw [hb, Bool.false_or] at hp
        refine .inl ⟨(), by rw [show (j + 1).toNat = j.toNat + 1 by omega]; exact hp, fun hh => Ev.step (fun k => spec_ContractFault.l1.eq_2 ..) (Ev.pos j1 (Ev.pos j0 (Ev.pos (by omega) ?_)))⟩
        rw [hr]
        refine Ev.ite (fun e0 => Ev.ite (fun e1 => Ev.neg (fun e2 => hx ?_) hh) (fun _ => hh)) (fun _ => hh)
        unfold sameP
        simp [e0, e1, e2]
    · rw [List.drop_eq_nil_of_le (by omega)] at hp
      have hk : placeIn l i w = false := by rw [← hp]; rfl
      rw [hk, if_neg (by simp)]
      have h3 := hs.three
      refine Ev.step (fun k => spec_ContractFault.l1.eq_2 ..) (Ev.neg (by omega) (Ev.pos hlow.1 (Ev.pos (by omega) ?_)))
      rw [w64 (x := i + 1) (by omega) (by omega), hi]
      refine ih (by omega) _ ⟨by rw [List.length_set]; exact h3, fun a a0 a1 => ?_, ?_⟩
      · rw [rd_set x3 a w.f2 _ a0 hlow.1 (by omega), ← hi, hsum a, hs.is w.f2 hlow.1 hlow.2]
        by_cases ha : a = w.f2
        · rw [if_pos ha, if_pos ha, ha]
        · rw [if_neg ha, if_neg ha, hs.is a a0 a1]
      · rw [← hi, htk]
        intro g hg
        rcases List.mem_append.mp hg with hg | hg
        · exact hs.low g hg
        · rw [List.mem_singleton.mp hg]
          exact hlow
theorem spec_l1Id_eq (id : Int) : spec_l1Id.f id = some (decide (1 ≤ id ∧ id ≤ 1000000000)) := by
  unfold spec_l1Id.f
  rw [l1In_eq]
  rfl
theorem spec_ContractFault_ev (id : Int) (l : List S89) : Ev (fun k => spec_ContractFault.f k id l) (contractFault id l) := by
  unfold spec_ContractFault.f contractFault
  refine Ev.bind (Ev.is (spec_l1Id_eq id)) ?_
  by_cases hid : 1 ≤ id ∧ id ≤ 1000000000
  · rw [if_pos hid]
    refine Ev.pos (decide_eq_true hid) ?_
    by_cases hl : 2 ≤ (l.length : Int) ∧ (l.length : Int) ≤ 8
    · rw [if_pos hl]
      refine Ev.neg (by omega) (Ev.step (fun k => spec_ContractFault.j0.eq_2 ..) (Ev.neg (by simp only [decide_eq_true_eq]; omega) (Ev.pos (by omega) ?_)))
      have := spec_legs_ev id l hl.2 l.length (by omega) (List.replicate 3 0) ⟨rfl, fun a a0 a1 => by
        have : a = 0 ∨ a = 1 ∨ a = 2 := by omega
        rw [show (l.length : Int) - (l.length : Nat) = 0 by omega]
        rcases this with rfl | rfl | rfl <;> rfl, fun g hg => by
        rw [show (l.length : Int) - (l.length : Nat) = 0 by omega] at hg
        exact absurd hg (by simp)⟩
      rw [show (l.length : Int) - (l.length : Nat) = 0 by omega] at this
      exact this
    · rw [if_neg hl]
      by_cases h1 : (l.length : Int) < 2
      · exact Ev.pos h1 (Ev.step (fun k => spec_ContractFault.j0.eq_2 ..) (Ev.pos rfl (Ev.now _)))
      · exact Ev.neg h1 (Ev.step (fun k => spec_ContractFault.j0.eq_2 ..) (Ev.pos (by simp only [decide_eq_true_eq]; omega) (Ev.now _)))
  · rw [if_neg hid]
    exact Ev.neg (fun h => hid (of_decide_eq_true h)) (Ev.now _)

theorem l1Draw_loop (c : List Int) (hb : bytesL c) (hl : c.length ≤ 2000000) (id : Int) : ∀ (n : Nat) (s i : Int) (l : List S89), n ≤ 2 → 0 ≤ s → s + 10 * n ≤ 100000000000 → l.length + 2 * n ≤ 4 →
    ∃ i' l' s', Ev (fun k => spec_l1Draw.l0 k id (n : Int) c s i l) (i', l', s') ∧ s ≤ s' ∧ s' ≤ s + 10 * n ∧ 1 ≤ l'.length ∧ l'.length ≤ 4 := by
  intro n
  induction n with
  | zero =>
    intro s i l _ h0 h1 h2
    by_cases hz : (l.length : Int) = 0
    · exact ⟨i, _, s, Ev.step (fun k => spec_l1Draw.l0.eq_2 ..) (Ev.neg (by omega) (Ev.pos hz (Ev.now _))), by omega, by omega, by simp, by simp⟩
    · exact ⟨i, l, s, Ev.step (fun k => spec_l1Draw.l0.eq_2 ..) (Ev.neg (by omega) (Ev.neg hz (Ev.now _))), by omega, by omega, by omega, by omega⟩
  | succ n ih =>
    intro s i l hn h0 h1 h2
    have hw : wrap64 (((n + 1 : Nat) : Int) - 1) = (n : Int) := by rw [w64 (by omega) (by omega)]; omega
    obtain ⟨a1, e1, _⟩ := next_ok c hb hl s h0 (by omega) 3
    obtain ⟨a2, e2, _⟩ := next_ok c hb hl (s + 1) (by omega) (by omega) 40
    obtain ⟨a3, e3, _⟩ := next_ok c hb hl (s + 1 + 1) (by omega) (by omega) 3
    obtain ⟨a4, e4, _⟩ := next_ok c hb hl (s + 1 + 1 + 1) (by omega) (by omega) 4
    obtain ⟨a5, e5, _⟩ := next_ok c hb hl (s + 1 + 1 + 1 + 1) (by omega) (by omega) 3
    obtain ⟨a6, e6, _⟩ := next_ok c hb hl (s + 1 + 1 + 1 + 1 + 1) (by omega) (by omega) 4
    obtain ⟨l2, hl2⟩ : ∃ l2 : List S89, l2 = l ++ [⟨a3, a4, a1, wrap64 (-(wrap64 (1 + a2)))⟩, ⟨a5, a6, a1, wrap64 (1 + a2)⟩] := ⟨_, rfl⟩
    have hll : l2.length = l.length + 2 := by rw [hl2, List.length_append]; rfl
    have hf := spec_ContractFault_ev id l2
    by_cases hc : contractFault id l2 = 0
    · obtain ⟨i', l', s', h, p1, p2, p3, p4⟩ := ih (s + 1 + 1 + 1 + 1 + 1 + 1) id l2 (by omega) (by omega) (by omega) (by omega)
      refine ⟨i', l', s', Ev.step (fun k => spec_l1Draw.l0.eq_2 ..) (Ev.pos (by omega) (Ev.bind (Ev.is e1) (Ev.bind (Ev.is e2) (Ev.bind (Ev.is e3) (Ev.bind (Ev.is e4) (Ev.bind (Ev.is e5) (Ev.bind (Ev.is e6) (Ev.let (Ev.pos (by simp; omega) (Ev.let (Ev.let (Ev.pos (by simp; omega) (Ev.let (Ev.bind ?_ (Ev.pos hc ?_))))))))))))))), by omega, by omega, p3, p4⟩
      · simp only [List.nil_append]
        rw [hl2] at hf
        rw [← hl2] at hf ⊢
        exact hf
      · rw [hw]
        simp only [List.nil_append]
        rw [← hl2]
        exact h
    · obtain ⟨i', l', s', h, p1, p2, p3, p4⟩ := ih (s + 1 + 1 + 1 + 1 + 1 + 1) i l (by omega) (by omega) (by omega) (by omega)
      refine ⟨i', l', s', Ev.step (fun k => spec_l1Draw.l0.eq_2 ..) (Ev.pos (by omega) (Ev.bind (Ev.is e1) (Ev.bind (Ev.is e2) (Ev.bind (Ev.is e3) (Ev.bind (Ev.is e4) (Ev.bind (Ev.is e5) (Ev.bind (Ev.is e6) (Ev.let (Ev.pos (by simp; omega) (Ev.let (Ev.let (Ev.pos (by simp; omega) (Ev.let (Ev.bind ?_ (Ev.neg hc ?_))))))))))))))), by omega, by omega, p3, p4⟩
      · simp only [List.nil_append]
        rw [← hl2]
        exact hf
      · rw [hw]
        exact h
theorem l1Draw_ok (c : List Int) (hb : bytesL c) (hl : c.length ≤ 2000000) (s : Int) (h0 : 0 ≤ s) (h1 : s ≤ 1000000000) (id : Int) : ∃ i l s', Ev (fun k => spec_l1Draw.f k c s id) (i, l, s') ∧ s ≤ s' ∧ s' ≤ s + 30 ∧ 1 ≤ l.length ∧ l.length ≤ 4 := by
  obtain ⟨a, ha, a0, a1, _⟩ := next_ok c hb hl s h0 (by omega) 2
  have a1 := a1 (by omega)
  obtain ⟨n, hn⟩ : ∃ n : Nat, wrap64 (1 + a) = (n : Int) := ⟨(1 + a).toNat, by rw [w64 (by omega) (by omega)]; omega⟩
  have hn2 : n ≤ 2 := by rw [w64 (by omega) (by omega)] at hn; omega
  obtain ⟨i, l, s', h, p1, p2, p3, p4⟩ := l1Draw_loop c hb hl id n (s + 1) id [] hn2 (by omega) (by omega) (by simp; omega)
  refine ⟨i, l, s', ?_, by omega, by omega, p3, p4⟩
  unfold spec_l1Draw.f
  refine Ev.bind (Ev.is ha) ?_
  show Ev (fun k => spec_l1Draw.l0 k id (wrap64 (1 + a)) c (s + 1) id []) _
  rw [hn]
  exact h
theorem l1Bent_ok (c : List Int) (hb : bytesL c) (hl : c.length ≤ 2000000) (s : Int) (h0 : 0 ≤ s) (h1 : s ≤ 100000000) : ∃ i l s', Ev (fun k => spec_l1Bent.f k c s) (i, l, s') ∧ s ≤ s' ∧ s' ≤ s + 50 ∧ l.length ≤ 9 := by
  obtain ⟨a, ha, _⟩ := next_ok c hb hl s h0 (by omega) 9
  obtain ⟨i, l, s1, hd, q1, q2, q3, q4⟩ := l1Draw_ok c hb hl (s + 1) (by omega) (by omega) (wrap64 (1 + a))
  obtain ⟨j, hj, j0, j1, _⟩ := next_ok c hb hl s1 (by omega) (by omega) (l.length : Int)
  have j1 := j1 (by omega)
  obtain ⟨b, hbb, b0, b1, _⟩ := next_ok c hb hl (s1 + 1) (by omega) (by omega) 24
  have pk : ∀ xs : List Int, 1 ≤ xs.length → ∃ v, v ∈ xs ∧ spec_l1Pick.f c (s1 + 1 + 1) xs = some (v, s1 + 1 + 1 + 1) := fun xs hx => pick_ok c hb hl (s1 + 1 + 1) (by omega) (by omega) xs hx
  have go : ∀ r : Int × List S89 × Int, s1 ≤ r.2.2 → r.2.2 ≤ s1 + 4 → r.2.1.length ≤ 9 → Ev (fun k => spec_l1Bent.f k c s) r → ∃ i l s', Ev (fun k => spec_l1Bent.f k c s) (i, l, s') ∧ s ≤ s' ∧ s' ≤ s + 50 ∧ l.length ≤ 9 := fun r p1 p2 p3 h => ⟨r.1, r.2.1, r.2.2, h, by omega, by omega, p3⟩
  by_cases c0 : b = 0
  · obtain ⟨v, _, hv⟩ := pk [0, (-1), 1000000000, 1000000001] (by simp)
    refine go (v, l, s1 + 1 + 1 + 1) (by simp only []; omega) (by simp only []; omega) (by simp only []; omega) ?_
    unfold spec_l1Bent.f
    exact Ev.bind (Ev.is ha) (Ev.bind hd (Ev.bind (Ev.is hj) (Ev.bind (Ev.is hbb) (Ev.pos c0 (Ev.bind (Ev.is hv) (Ev.now _))))))
  by_cases c1 : b = 1
  · obtain ⟨v, _, hv⟩ := pk [(-1), 3, 1] (by simp)
    refine go (i, l.set j.toNat ⟨v, (rd_T89 l j).f1, (rd_T89 l j).f2, (rd_T89 l j).f3⟩, s1 + 1 + 1 + 1) (by simp only []; omega) (by simp only []; omega) (by simp only [List.length_set]; omega) ?_
    unfold spec_l1Bent.f
    exact Ev.bind (Ev.is ha) (Ev.bind hd (Ev.bind (Ev.is hj) (Ev.bind (Ev.is hbb) (Ev.neg c0 (Ev.pos c1 (Ev.bind (Ev.is hv) (Ev.pos j0 (Ev.pos j1 (Ev.now _)))))))))
  by_cases c2 : b = 2
  · obtain ⟨v, _, hv⟩ := pk [(-1), 6, 5] (by simp)
    refine go (i, l.set j.toNat ⟨(rd_T89 l j).f0, v, (rd_T89 l j).f2, (rd_T89 l j).f3⟩, s1 + 1 + 1 + 1) (by simp only []; omega) (by simp only []; omega) (by simp only [List.length_set]; omega) ?_
    unfold spec_l1Bent.f
    exact Ev.bind (Ev.is ha) (Ev.bind hd (Ev.bind (Ev.is hj) (Ev.bind (Ev.is hbb) (Ev.neg c0 (Ev.neg c1 (Ev.pos c2 (Ev.bind (Ev.is hv) (Ev.pos j0 (Ev.pos j1 (Ev.now _))))))))))
  by_cases c3 : b = 3
  · obtain ⟨v, _, hv⟩ := pk [(-1), 3, 2] (by simp)
    refine go (i, l.set j.toNat ⟨(rd_T89 l j).f0, (rd_T89 l j).f1, v, (rd_T89 l j).f3⟩, s1 + 1 + 1 + 1) (by simp only []; omega) (by simp only []; omega) (by simp only [List.length_set]; omega) ?_
    unfold spec_l1Bent.f
    exact Ev.bind (Ev.is ha) (Ev.bind hd (Ev.bind (Ev.is hj) (Ev.bind (Ev.is hbb) (Ev.neg c0 (Ev.neg c1 (Ev.neg c2 (Ev.pos c3 (Ev.bind (Ev.is hv) (Ev.pos j0 (Ev.pos j1 (Ev.now _)))))))))))
  by_cases c4 : b = 4
  · obtain ⟨v, _, hv⟩ := pk [0, 1000000000000, 1000000000001, (-9223372036854775808), 3] (by simp)
    refine go (i, l.set j.toNat ⟨(rd_T89 l j).f0, (rd_T89 l j).f1, (rd_T89 l j).f2, v⟩, s1 + 1 + 1 + 1) (by simp only []; omega) (by simp only []; omega) (by simp only [List.length_set]; omega) ?_
    unfold spec_l1Bent.f
    exact Ev.bind (Ev.is ha) (Ev.bind hd (Ev.bind (Ev.is hj) (Ev.bind (Ev.is hbb) (Ev.neg c0 (Ev.neg c1 (Ev.neg c2 (Ev.neg c3 (Ev.pos c4 (Ev.bind (Ev.is hv) (Ev.pos j0 (Ev.pos j1 (Ev.now _))))))))))))
  by_cases c5 : b = 5
  · refine go (i, l ++ [⟨(rd_T89 l j).f0, (rd_T89 l j).f1, (rd_T89 l j).f2, (rd_T89 l j).f3⟩], s1 + 1 + 1) (by simp only []; omega) (by simp only []; omega) (by simp; omega) ?_
    unfold spec_l1Bent.f
    exact Ev.bind (Ev.is ha) (Ev.bind hd (Ev.bind (Ev.is hj) (Ev.bind (Ev.is hbb) (Ev.neg c0 (Ev.neg c1 (Ev.neg c2 (Ev.neg c3 (Ev.neg c4 (Ev.pos c5 (Ev.pos j0 (Ev.pos j1 (Ev.pos (show l.length < 4398046511104 by omega) (Ev.now _)))))))))))))
  by_cases c6 : b = 6
  · refine go (i, l.take (1 : Int).toNat, s1 + 1 + 1) (by simp only []; omega) (by simp only []; omega) (by simp only [List.length_take]; omega) ?_
    unfold spec_l1Bent.f
    exact Ev.bind (Ev.is ha) (Ev.bind hd (Ev.bind (Ev.is hj) (Ev.bind (Ev.is hbb) (Ev.neg c0 (Ev.neg c1 (Ev.neg c2 (Ev.neg c3 (Ev.neg c4 (Ev.neg c5 (Ev.pos c6 (Ev.pos (show (1 : Int) ≤ (l.length : Int) by omega) (Ev.now _))))))))))))
  by_cases c7 : b = 7
  · refine go (i, List.replicate 9 z89, s1 + 1 + 1) (by simp only []; omega) (by simp only []; omega) (by simp) ?_
    unfold spec_l1Bent.f
    exact Ev.bind (Ev.is ha) (Ev.bind hd (Ev.bind (Ev.is hj) (Ev.bind (Ev.is hbb) (Ev.neg c0 (Ev.neg c1 (Ev.neg c2 (Ev.neg c3 (Ev.neg c4 (Ev.neg c5 (Ev.neg c6 (Ev.pos c7 (Ev.pos (by decide) (Ev.now _)))))))))))))
  · refine go (i, l, s1 + 1 + 1) (by simp only []; omega) (by simp only []; omega) (by simp only []; omega) ?_
    unfold spec_l1Bent.f
    exact Ev.bind (Ev.is ha) (Ev.bind hd (Ev.bind (Ev.is hj) (Ev.bind (Ev.is hbb) (Ev.neg c0 (Ev.neg c1 (Ev.neg c2 (Ev.neg c3 (Ev.neg c4 (Ev.neg c5 (Ev.neg c6 (Ev.neg c7 (Ev.now _))))))))))))

theorem legFault_range {s a t m : Int} (h : legFault s a t m = 0) : (0 ≤ s ∧ s ≤ 2) ∧ (0 ≤ a ∧ a ≤ 5) ∧ (0 ≤ t ∧ t ≤ 2) ∧ -1000000000000 ≤ m ∧ m ≤ 1000000000000 ∧ m ≠ 0 := by
  unfold legFault at h
  split at h
  · next hc =>
    split at h
    · cases h
    · omega
  · cases h
theorem legs_zero (l : List S89) : ∀ d : Nat, d ≤ l.length → contractFrom l d = 0 → ∀ i : Int, (l.length : Int) - d ≤ i → i < (l.length : Int) → legFault (rd_T89 l i).f0 (rd_T89 l i).f1 (rd_T89 l i).f2 (rd_T89 l i).f3 = 0 := by
  intro d
  induction d with
  | zero => intro _ _ i h0 h1; omega
  | succ d ih =>
    intro hd h i h0 h1
    unfold contractFrom at h
    simp only at h
    split at h
    · next hf =>
      split at h
      · cases h
      · by_cases hi : i = (l.length : Int) - ((d : Int) + 1)
        · rw [hi]
          exact hf
        · exact ih (by omega) h i (by omega) h1
    · next hn => exact absurd h hn
theorem contract_right {id : Int} {l : List S89} (h : contractFault id l = 0) : (1 ≤ id ∧ id ≤ 1000000000) ∧ (2 ≤ (l.length : Int) ∧ (l.length : Int) ≤ 8) ∧ ∀ g ∈ l, (0 ≤ g.f0 ∧ g.f0 ≤ 2) ∧ (0 ≤ g.f1 ∧ g.f1 ≤ 5) ∧ (0 ≤ g.f2 ∧ g.f2 ≤ 2) ∧ -1000000000000 ≤ g.f3 ∧ g.f3 ≤ 1000000000000 ∧ g.f3 ≠ 0 := by
  unfold contractFault at h
  split at h
  · next hid =>
    split at h
    · next hl =>
      refine ⟨hid, hl, fun g hg => ?_⟩
      obtain ⟨j, hj, rfl⟩ := List.getElem_of_mem hg
      have := legFault_range (legs_zero l l.length (Nat.le_refl _) h (j : Int) (by omega) (by omega))
      unfold rd_T89 at this
      rw [List.getD_eq_getElem?_getD, Int.toNat_natCast, List.getElem?_eq_getElem hj] at this
      exact this
    · cases h
  · cases h

/-- The eight bytes of a number, the highest ones first. -/
def packL (a : Int) : List Int := [a / 72057594037927936 % 256, a / 281474976710656 % 256, a / 1099511627776 % 256, a / 4294967296 % 256, a / 16777216 % 256, a / 65536 % 256, a / 256 % 256, a % 256]
theorem shrU (a n : Int) : shr .u64 (IntKind.u64.wrap a) n = a % 18446744073709551616 / 2 ^ min n.toNat 64 := rfl
theorem shrI (a n : Int) : shr .i64 a n = a / 2 ^ min n.toNat 64 := rfl
theorem spec_PackNumber_ev (a : Int) : Ev (fun k => spec_PackNumber.f k a) (packL a) := by
  have e : ∀ x : Int, 0 ≤ x → x < 64 → IntKind.u64.wrap (wrap64 x) = x := fun x h0 h1 => by
    rw [w64 (by omega) (by omega)]
    show x % 18446744073709551616 = x
    omega
  have st : ∀ (x3 : List Int) (x4 : Int) (r : List Int), 0 ≤ x4 → x4 < 8 → x3.length < 100 → Ev (fun k => spec_PackNumber.l0 k a (x3 ++ [a % 18446744073709551616 / 2 ^ (8 * x4).toNat % 256]) (x4 - 1)) r → Ev (fun k => spec_PackNumber.l0 k a x3 x4) r := by
    intro x3 x4 r h0 h1 h2 h
    refine Ev.step (fun k => spec_PackNumber.l0.eq_2 ..) (Ev.pos h0 ?_)
    rw [e (8 * x4) (by omega) (by omega), w64 (x := x4 - 1) (by omega) (by omega)]
    refine Ev.pos (by omega) (Ev.pos (by omega) ?_)
    rw [shrU, show min (8 * x4).toNat 64 = (8 * x4).toNat by omega]
    exact h
  unfold spec_PackNumber.f
  refine st _ 7 _ (by decide) (by decide) (by decide) (st _ 6 _ (by decide) (by decide) (by simp) (st _ 5 _ (by decide) (by decide) (by simp) (st _ 4 _ (by decide) (by decide) (by simp) (st _ 3 _ (by decide) (by decide) (by simp) (st _ 2 _ (by decide) (by decide) (by simp) (st _ 1 _ (by decide) (by decide) (by simp) (st _ 0 _ (by decide) (by decide) (by simp) (Ev.step (fun k => spec_PackNumber.l0.eq_2 ..) (Ev.neg (by decide) (Ev.eq (Ev.now _) ?_))))))))))
  simp only [List.nil_append, List.cons_append, packL]
  have p : ∀ n : Nat, ((2 : Int) ^ n) = ((2 ^ n : Nat) : Int) := fun n => by simp
  simp only [p]
  simp
  omega
theorem impl_PackNumber_ev (a : Int) : Ev (fun k => impl_PackNumber.f k a) (packL a) := by
  have st : ∀ (x3 : List Int) (x8 : Int) (r : List Int), 0 ≤ x8 → x8 < 8 → x3.length = 8 → Ev (fun k => impl_PackNumber.l0 k a (x3.set x8.toNat (a / 2 ^ (56 - 8 * x8).toNat % 256)) 8 (x8 + 1)) r → Ev (fun k => impl_PackNumber.l0 k a x3 8 x8) r := by
    intro x3 x8 r h0 h1 h2 h
    refine Ev.step (fun k => impl_PackNumber.l0.eq_2 ..) (Ev.pos h1 ?_)
    rw [w64 (x := 8 * x8) (by omega) (by omega), w64 (x := 56 - 8 * x8) (by omega) (by omega), w64 (x := x8 + 1) (by omega) (by omega)]
    refine Ev.pos (by omega) (Ev.pos h0 (Ev.pos (by omega) ?_))
    rw [shrI, show min (56 - 8 * x8).toNat 64 = (56 - 8 * x8).toNat by omega]
    exact h
  unfold impl_PackNumber.f
  refine Ev.pos (by decide) (Ev.let ?_)
  refine st _ 0 _ (by decide) (by decide) (by decide) (st _ 1 _ (by decide) (by decide) (by simp) (st _ 2 _ (by decide) (by decide) (by simp) (st _ 3 _ (by decide) (by decide) (by simp) (st _ 4 _ (by decide) (by decide) (by simp) (st _ 5 _ (by decide) (by decide) (by simp) (st _ 6 _ (by decide) (by decide) (by simp) (st _ 7 _ (by decide) (by decide) (by simp) (Ev.step (fun k => impl_PackNumber.l0.eq_2 ..) (Ev.neg (by decide) (Ev.eq (Ev.now _) ?_))))))))))
  simp [packL, List.replicate]

theorem packL_len (a : Int) : (packL a).length = 8 := rfl
/-- A leg's eleven bytes. -/
def legB (g : S89) : List Int := [g.f0 % 256, g.f1 % 256, g.f2 % 256] ++ packL g.f3
theorem legB_len (g : S89) : (legB g).length = 11 := rfl
def packC (id : Int) (l : List S89) : List Int := packL id ++ l.flatMap legB
theorem packC_snoc (id : Int) (l : List S89) (g : S89) : packC id (l ++ [g]) = packC id l ++ [g.f0 % 256, g.f1 % 256, g.f2 % 256] ++ packL g.f3 := by
  unfold packC
  rw [List.flatMap_append]
  simp [legB]
theorem packC_len (id : Int) (l : List S89) : (packC id l).length = 8 + 11 * l.length := by
  unfold packC
  rw [List.length_append, packL_len]
  have h : (l.flatMap legB).length = 11 * l.length := by
    induction l with
    | nil => rfl
    | cons g r ih =>
      rw [List.flatMap_cons, List.length_append, ih, legB_len, List.length_cons]
      omega
  omega
theorem impl_packContract_ev (id : Int) (l : List S89) (hl : (l.length : Int) ≤ 1000) : Ev (fun k => impl_packContract.f k id l) (packC id l) := by
  unfold impl_packContract.f
  refine Ev.bind (impl_PackNumber_ev id) ?_
  refine Ev.upto1 (fun k (x : List Int) i => impl_packContract.l0 k x l (l.length : Int) i) l.length (by omega) (fun i x => x = packC id (l.take i.toNat)) (packC id l) (fun i x h0 h1 hx => .inl ?_) (fun x hx => ?_) 0 (packL id) (by omega) (by omega) ?_
  · have ht := take_succ_at l i h0 h1
    have hn := packC_len id (l.take i.toNat)
    rw [← hx, List.length_take] at hn
    refine ⟨x ++ [(rd_T89 l i).f0 % 256, (rd_T89 l i).f1 % 256, (rd_T89 l i).f2 % 256] ++ packL (rd_T89 l i).f3, by rw [ht, packC_snoc, hx], fun h => Ev.step (fun k => impl_packContract.l0.eq_2 ..) (Ev.pos h1 (Ev.pos h0 (Ev.pos h1 (Ev.let (Ev.pos ?_ (Ev.let (Ev.bind (impl_PackNumber_ev _) (Ev.pos ?_ h))))))))⟩
    · simp only [List.length_cons, List.length_nil]
      omega
    · rw [packL_len, List.length_append]
      simp only [List.length_cons, List.length_nil]
      omega
  · rw [List.take_of_length_le (by omega)] at hx
    rw [← hx]
    exact Ev.step (fun k => impl_packContract.l0.eq_2 ..) (Ev.neg (by omega) (Ev.now _))
  · simp [packC]

theorem spec_l3Contract_ev (id : Int) (l : List S89) (hl : (l.length : Int) ≤ 1000) : Ev (fun k => spec_l3Contract.f k id l) (packC id l) := by
  unfold spec_l3Contract.f
  refine Ev.bind (spec_PackNumber_ev id) ?_
  refine Ev.upto1 (fun k (x : List Int) i => spec_l3Contract.l0 k x i id l) l.length (by omega) (fun i x => x = packC id (l.take i.toNat)) (packC id l) (fun i x h0 h1 hx => .inl ?_) (fun x hx => ?_) 0 (packL id) (by omega) (by omega) ?_
  · have ht := take_succ_at l i h0 h1
    have hn := packC_len id (l.take i.toNat)
    rw [← hx, List.length_take] at hn
    refine ⟨x ++ [(rd_T89 l i).f0 % 256, (rd_T89 l i).f1 % 256, (rd_T89 l i).f2 % 256] ++ packL (rd_T89 l i).f3, by rw [ht, packC_snoc, hx], fun h => Ev.step (fun k => spec_l3Contract.l0.eq_2 ..) (Ev.pos h1 (Ev.pos h0 (Ev.let (Ev.pos ?_ (Ev.let (Ev.bind (spec_PackNumber_ev _) (Ev.pos ?_ h)))))))⟩
    · simp only [List.length_cons, List.length_nil]
      omega
    · rw [packL_len, List.length_append]
      simp only [List.length_cons, List.length_nil]
      omega
  · rw [List.take_of_length_le (by omega)] at hx
    rw [← hx]
    exact Ev.step (fun k => spec_l3Contract.l0.eq_2 ..) (Ev.neg (by omega) (Ev.now _))
  · simp [packC]
theorem contractFault_fewP {id : Int} {l : List S89} (h : contractFault id l = 0) : 2 ≤ (l.length : Int) ∧ (l.length : Int) ≤ 8 := by
  unfold contractFault at h
  split at h
  · split at h
    · next h2 => exact h2
    · omega
  · omega
def packR (id : Int) (l : List S89) : Int × List Int := if contractFault id l = 0 then (0, packC id l) else (contractFault id l, [])
theorem packR_len (id : Int) (l : List S89) : (packR id l).2.length ≤ 1000 := by
  unfold packR
  split
  · next h =>
    have := contractFault_fewP h
    show (packC id l).length ≤ 1000
    rw [packC_len]
    omega
  · simp
theorem impl_PackContract_ev (id : Int) (l : List S89) : Ev (fun k => impl_PackContract.f k id l) (packR id l) := by
  unfold impl_PackContract.f packR
  exact Ev.bind (impl_ContractFault_ev id l) (Ev.cond (fun hc => Ev.bind (impl_packContract_ev id l (by have := contractFault_fewP hc; omega)) (Ev.now _)) (fun _ => Ev.now _))
theorem spec_PackContract_ev (id : Int) (l : List S89) : Ev (fun k => spec_PackContract.f k id l) (packR id l) := by
  unfold spec_PackContract.f packR
  exact Ev.bind (spec_ContractFault_ev id l) (Ev.cond (fun hc => Ev.bind (spec_l3Contract_ev id l (by have := contractFault_fewP hc; omega)) (Ev.now _)) (fun _ => Ev.now _))

/-- Eight bytes as a number without a sign, the highest ones first. -/
def numL (n : Int) (l : List Int) : Int := l.foldl (fun n b => (n * 256 + b) % 18446744073709551616) n
theorem u64w (x : Int) : IntKind.u64.wrap x = x % 18446744073709551616 := rfl
theorem numL_next (l : List Int) (i : Int) (s : Int) (h0 : 0 ≤ i) (h1 : i < (l.length : Int)) : numL (IntKind.u64.wrap ((IntKind.u64.wrap (s * 256)) + (IntKind.u64.wrap (rd l i)))) (l.drop (i + 1).toNat) = numL s (l.drop i.toNat) := by
  rw [drop_cons_at l i.toNat (by omega), show (i + 1).toNat = i.toNat + 1 by omega, rd_get l i h0 h1, u64w, u64w, u64w]
  show _ = numL ((s * 256 + l[i.toNat]'(by omega)) % 18446744073709551616) _
  congr 1
  omega
theorem spec_l3Number_ev (l : List Int) (hl : l.length = 8) : Ev (fun k => spec_l3Number.f k l) (wrap64 (numL 0 l)) := by
  unfold spec_l3Number.f
  exact Ev.upto1 (fun k s i => spec_l3Number.l0 k l s i) 8 (by omega) (fun i s => numL s (l.drop i.toNat) = numL 0 l) (wrap64 (numL 0 l))
    (fun i s h0 h1 hs => .inl ⟨_, (numL_next l i s h0 (by omega)).trans hs, fun h => Ev.step (fun k => spec_l3Number.l0.eq_2 ..) (Ev.pos h1 (Ev.pos h0 (Ev.pos (by omega) h)))⟩)
    (fun s hs => Ev.step (fun k => spec_l3Number.l0.eq_2 ..) (Ev.neg (by omega) (Ev.eq (Ev.now _) (by rw [← hs, List.drop_eq_nil_of_le (by rw [hl]; decide)]; rfl))))
    0 0 (by omega) (by omega) rfl
theorem impl_UnpackNumber_ev (l : List Int) : Ev (fun k => impl_UnpackNumber.f k l) (if l.length = 8 then (0, wrap64 (numL 0 l)) else (1, 0)) := by
  unfold impl_UnpackNumber.f
  by_cases h : l.length = 8
  · rw [if_pos h]
    refine Ev.pos (by omega) ?_
    exact Ev.upto1 (fun k s i => impl_UnpackNumber.l0 k s l (l.length : Int) i) l.length (by omega) (fun i s => numL s (l.drop i.toNat) = numL 0 l) (0, wrap64 (numL 0 l))
      (fun i s h0 h1 hs => .inl ⟨_, (numL_next l i s h0 h1).trans hs, fun h => Ev.step (fun k => impl_UnpackNumber.l0.eq_2 ..) (Ev.pos h1 (Ev.pos h0 (Ev.pos h1 h)))⟩)
      (fun s hs => Ev.step (fun k => impl_UnpackNumber.l0.eq_2 ..) (Ev.neg (by omega) (Ev.eq (Ev.now _) (by rw [← hs, List.drop_eq_nil_of_le (by omega)]; rfl))))
      0 0 (by omega) (by omega) rfl
  · rw [if_neg h]
    exact Ev.neg (by omega) (Ev.now _)

def Bytes (l : List Int) : Prop := ∀ x ∈ l, 0 ≤ x ∧ x < 256
/-- Eight bytes are what their number is packed to. -/
theorem packL_num (l : List Int) (hl : l.length = 8) (hb : Bytes l) : packL (wrap64 (numL 0 l)) = l := by
  obtain ⟨b0, b1, b2, b3, b4, b5, b6, b7, rfl⟩ : ∃ b0 b1 b2 b3 b4 b5 b6 b7, l = [b0, b1, b2, b3, b4, b5, b6, b7] := by
    rcases l with _ | ⟨b0, _ | ⟨b1, _ | ⟨b2, _ | ⟨b3, _ | ⟨b4, _ | ⟨b5, _ | ⟨b6, _ | ⟨b7, _ | ⟨b8, r⟩⟩⟩⟩⟩⟩⟩⟩⟩ <;> first | (simp at hl; done) | skip
    · exact ⟨b0, b1, b2, b3, b4, b5, b6, b7, rfl⟩
  have h0 := hb b0 (by simp)
  have h1 := hb b1 (by simp)
  have h2 := hb b2 (by simp)
  have h3 := hb b3 (by simp)
  have h4 := hb b4 (by simp)
  have h5 := hb b5 (by simp)
  have h6 := hb b6 (by simp)
  have h7 := hb b7 (by simp)
  clear hb hl
  have hn : numL 0 [b0, b1, b2, b3, b4, b5, b6, b7] = b0 * 72057594037927936 + b1 * 281474976710656 + b2 * 1099511627776 + b3 * 4294967296 + b4 * 16777216 + b5 * 65536 + b6 * 256 + b7 := by
    have st : ∀ n b : Int, 0 ≤ n → n < 72057594037927936 → 0 ≤ b ∧ b < 256 → (n * 256 + b) % 18446744073709551616 = n * 256 + b := fun n b p q r => by omega
    show ((((((((0 * 256 + b0) % 18446744073709551616 * 256 + b1) % 18446744073709551616 * 256 + b2) % 18446744073709551616 * 256 + b3) % 18446744073709551616 * 256 + b4) % 18446744073709551616 * 256 + b5) % 18446744073709551616 * 256 + b6) % 18446744073709551616 * 256 + b7) % 18446744073709551616 = _
    rw [st 0 b0 (by omega) (by omega) h0]
    rw [st _ b1 (by omega) (by omega) h1]
    rw [st _ b2 (by omega) (by omega) h2]
    rw [st _ b3 (by omega) (by omega) h3]
    rw [st _ b4 (by omega) (by omega) h4]
    rw [st _ b5 (by omega) (by omega) h5]
    rw [st _ b6 (by omega) (by omega) h6]
    rw [st _ b7 (by omega) (by omega) h7]
    omega
  rw [hn]
  generalize hN : b0 * 72057594037927936 + b1 * 281474976710656 + b2 * 1099511627776 + b3 * 4294967296 + b4 * 16777216 + b5 * 65536 + b6 * 256 + b7 = N
  unfold packL
  have e : ∀ d : Int, d ≠ 0 → True := fun _ _ => trivial
  have w : wrap64 N = N ∨ wrap64 N = N - 18446744073709551616 := by unfold wrap64; omega
  have e0 : wrap64 N / 72057594037927936 % 256 = b0 := by omega
  have e1 : wrap64 N / 281474976710656 % 256 = b1 := by omega
  have e2 : wrap64 N / 1099511627776 % 256 = b2 := by omega
  have e3 : wrap64 N / 4294967296 % 256 = b3 := by omega
  have e4 : wrap64 N / 16777216 % 256 = b4 := by omega
  have e5 : wrap64 N / 65536 % 256 = b5 := by omega
  have e6 : wrap64 N / 256 % 256 = b6 := by omega
  have e7 : wrap64 N % 256 = b7 := by omega
  rw [e0, e1, e2, e3, e4, e5, e6, e7]
/-- The leg whose bytes begin at x. -/
def legAt (d : List Int) (x : Int) : S89 := ⟨rd d x, rd d (x + 1), rd d (x + 2), wrap64 (numL 0 ((d.take (x + 11).toNat).drop (x + 3).toNat))⟩
def legsIn (d : List Int) (n : Nat) : List S89 := (List.range n).map fun (j : Nat) => legAt d (8 + 11 * (j : Int))
theorem legsIn_len (d : List Int) (n : Nat) : (legsIn d n).length = n := by simp [legsIn]
theorem legsIn_succ (d : List Int) (n : Nat) : legsIn d (n + 1) = legsIn d n ++ [legAt d (8 + 11 * (n : Int))] := by
  unfold legsIn
  rw [List.range_succ, List.map_append]
  rfl
theorem rd_byte {d : List Int} (hb : Bytes d) {x : Int} (h0 : 0 ≤ x) (h1 : x < (d.length : Int)) : 0 ≤ rd d x ∧ rd d x < 256 := by
  rw [rd_get d x h0 h1]
  exact hb _ (List.getElem_mem _)
theorem take_rd (d : List Int) (x : Int) (h0 : 0 ≤ x) (h1 : x < (d.length : Int)) : d.take (x + 1).toNat = d.take x.toNat ++ [rd d x] := by
  rw [show (x + 1).toNat = x.toNat + 1 by omega, List.take_add_one, List.getElem?_eq_getElem (show x.toNat < d.length by omega), rd_get d x h0 h1]
  rfl
theorem legB_at {d : List Int} (hb : Bytes d) (x : Int) (h0 : 0 ≤ x) (h1 : x + 11 ≤ (d.length : Int)) : d.take (x + 11).toNat = d.take x.toNat ++ legB (legAt d x) := by
  have hlen : ((d.take (x + 11).toNat).drop (x + 3).toNat).length = 8 := by rw [List.length_drop, List.length_take]; omega
  have hb8 : Bytes ((d.take (x + 11).toNat).drop (x + 3).toNat) := fun y hy => hb y (List.mem_of_mem_take (List.mem_of_mem_drop hy))
  have e := packL_num _ hlen hb8
  have b0 := rd_byte hb (x := x) h0 (by omega)
  have b1 := rd_byte hb (x := x + 1) (by omega) (by omega)
  have b2 := rd_byte hb (x := x + 2) (by omega) (by omega)
  have t0 := take_rd d x h0 (by omega)
  have t1 := take_rd d (x + 1) (by omega) (by omega)
  have t2 := take_rd d (x + 2) (by omega) (by omega)
  have t3 : d.take (x + 11).toNat = d.take (x + 3).toNat ++ (d.take (x + 11).toNat).drop (x + 3).toNat := by
    have := List.take_append_drop (x + 3).toNat (d.take (x + 11).toNat)
    rw [List.take_take, show min (x + 3).toNat (x + 11).toNat = (x + 3).toNat by omega] at this
    exact this.symm
  unfold legB legAt
  simp only
  rw [e, Int.emod_eq_of_lt b0.1 b0.2, Int.emod_eq_of_lt b1.1 b1.2, Int.emod_eq_of_lt b2.1 b2.2]
  rw [show x + 2 + 1 = x + 3 by omega] at t2
  rw [show x + 1 + 1 = x + 2 by omega] at t1
  generalize (d.take (x + 11).toNat).drop (x + 3).toNat = q at t3
  rw [t3, t2, t1, t0]
  simp
/-- What is unpacked is packed to the same bytes. -/
theorem pack_unpack {d : List Int} (hb : Bytes d) (n : Nat) (h : (d.length : Int) = 8 + 11 * (n : Int)) : packC (wrap64 (numL 0 (d.take 8))) (legsIn d n) = d := by
  have key : ∀ j : Nat, j ≤ n → packC (wrap64 (numL 0 (d.take 8))) (legsIn d j) = d.take (8 + 11 * (j : Int)).toNat := by
    intro j
    induction j with
    | zero =>
      intro _
      have e := packL_num (d.take 8) (by rw [List.length_take]; omega) (fun y hy => hb y (List.mem_of_mem_take hy))
      unfold packC
      rw [e]
      simp [legsIn]
    | succ j ih =>
      intro hj
      have e := legB_at hb (8 + 11 * (j : Int)) (by omega) (by omega)
      rw [legsIn_succ]
      unfold packC at ih ⊢
      rw [List.flatMap_append, ← List.append_assoc, ih (by omega)]
      rw [show 8 + 11 * ((j + 1 : Nat) : Int) = 8 + 11 * (j : Int) + 11 by omega, e]
      simp
  rw [key n (Nat.le_refl _)]
  exact List.take_of_length_le (by omega)
theorem contractFault_fewU {id : Int} {l : List S89} (h : contractFault id l = 0) : 2 ≤ (l.length : Int) ∧ (l.length : Int) ≤ 8 := by
  unfold contractFault at h
  split at h
  · split at h
    · next h2 => exact h2
    · omega
  · omega
def unpackC (d : List Int) (n : Nat) : Int × Int × List S89 := if contractFault (wrap64 (numL 0 (d.take 8))) (legsIn d n) = 0 then (0, wrap64 (numL 0 (d.take 8)), legsIn d n) else (5, 0, [])
def unpackR (d : List Int) : Int × Int × List S89 := if 8 ≤ (d.length : Int) ∧ ((d.length : Int) - 8) % 11 = 0 ∧ (d.length : Int) ≤ 96 then unpackC d ((d.length - 8) / 11) else (5, 0, [])
theorem unpackR_len (d : List Int) : (unpackR d).2.2.length ≤ 8 := by
  unfold unpackR
  split
  · unfold unpackC
    split
    · next h =>
      have := contractFault_fewU h
      show (legsIn d _).length ≤ 8
      omega
    · simp
  · simp
theorem impl_num_ev (l : List Int) (h : l.length = 8) : Ev (fun k => impl_UnpackNumber.f k l) (0, wrap64 (numL 0 l)) := by
  have := impl_UnpackNumber_ev l
  rwa [if_pos h] at this
theorem impl_unlegs_ev {d : List Int} (hb : Bytes d) (n : Nat) (hd : (d.length : Int) = 8 + 11 * (n : Int)) (hn : n ≤ 8) : ∀ m : Nat, m ≤ n → Ev (fun k => impl_UnpackContract.l0 k d (8 + 11 * ((n - m : Nat) : Int)) (wrap64 (numL 0 (d.take 8))) (legsIn d (n - m))) (unpackC d n) := by
  intro m
  induction m with
  | zero =>
    intro _
    refine Ev.step (fun k => impl_UnpackContract.l0.eq_2 ..) (Ev.neg (by omega) (Ev.bind (impl_ContractFault_ev _ _) ?_))
    unfold unpackC
    refine Ev.cond (fun hc => ?_) (fun _ => Ev.now _)
    have e := pack_unpack hb n hd
    refine Ev.bind (impl_packContract_ev _ _ (by have := legsIn_len d (n - 0); omega)) ?_
    rw [show n - 0 = n from rfl, e]
    exact Ev.bind (a := true) (Ev.is (by unfold bytes_Equal.f; simp)) (Ev.pos rfl (Ev.now _))
  | succ m ih =>
    intro hm
    have h := ih (by omega)
    obtain ⟨j, hj⟩ : ∃ j : Nat, n - (m + 1) = j := ⟨_, rfl⟩
    have hj1 : n - m = j + 1 := by omega
    rw [hj]
    rw [hj1, legsIn_succ] at h
    have hlen := legsIn_len d j
    have p0 : (0 : Int) ≤ 8 + 11 * (j : Int) := by omega
    have p1 : 8 + 11 * (j : Int) + 11 ≤ (d.length : Int) := by omega
    have p2 : 8 + 11 * ((j + 1 : Nat) : Int) = 8 + 11 * (j : Int) + 11 := by omega
    have p3 : 8 + 11 * (j : Int) ≤ 1000 := by omega
    rw [p2] at h
    unfold legAt at h
    generalize 8 + 11 * (j : Int) = x at h p0 p1 p3
    have b0 := rd_byte hb (x := x) p0 (by omega)
    have b1 := rd_byte hb (x := x + 1) (by omega) (by omega)
    have b2 := rd_byte hb (x := x + 2) (by omega) (by omega)
    refine Ev.step (fun k => impl_UnpackContract.l0.eq_2 ..) (Ev.pos (by omega) ?_)
    rw [w64 (x := x + 3) (by omega) (by omega), w64 (x := x + 11) (by omega) (by omega), w64 (x := x + 1) (by omega) (by omega), w64 (x := x + 2) (by omega) (by omega), w64 (x := rd d x) (by omega) (by omega), w64 (x := rd d (x + 1)) (by omega) (by omega), w64 (x := rd d (x + 2)) (by omega) (by omega)]
    refine Ev.pos (by omega) (Ev.pos (by omega) (Ev.pos (by omega) (Ev.bind (impl_num_ev _ (by rw [List.length_drop, List.length_take]; omega)) ?_)))
    exact Ev.pos (by omega) (Ev.pos (by omega) (Ev.pos (by omega) (Ev.pos (by omega) (Ev.pos (by omega) (Ev.pos (by omega) h)))))
theorem spec_unlegs_ev {d : List Int} (hb : Bytes d) (n : Nat) (hd : (d.length : Int) = 8 + 11 * (n : Int)) (hn : n ≤ 8) : ∀ m : Nat, m ≤ n → Ev (fun k => spec_l3Uncontract.l0 k d (8 + 11 * ((n - m : Nat) : Int)) (wrap64 (numL 0 (d.take 8))) (legsIn d (n - m))) (wrap64 (numL 0 (d.take 8)), legsIn d n, (contractFault (wrap64 (numL 0 (d.take 8))) (legsIn d n) == 0)) := by
  intro m
  induction m with
  | zero =>
    intro _
    exact Ev.step (fun k => spec_l3Uncontract.l0.eq_2 ..) (Ev.neg (by omega) (Ev.bind (spec_ContractFault_ev _ _) (Ev.now _)))
  | succ m ih =>
    intro hm
    have h := ih (by omega)
    obtain ⟨j, hj⟩ : ∃ j : Nat, n - (m + 1) = j := ⟨_, rfl⟩
    have hj1 : n - m = j + 1 := by omega
    rw [hj]
    rw [hj1, legsIn_succ] at h
    have hlen := legsIn_len d j
    have p0 : (0 : Int) ≤ 8 + 11 * (j : Int) := by omega
    have p1 : 8 + 11 * (j : Int) + 11 ≤ (d.length : Int) := by omega
    have p2 : 8 + 11 * ((j + 1 : Nat) : Int) = 8 + 11 * (j : Int) + 11 := by omega
    have p3 : 8 + 11 * (j : Int) ≤ 1000 := by omega
    rw [p2] at h
    unfold legAt at h
    generalize 8 + 11 * (j : Int) = x at h p0 p1 p3
    have b0 := rd_byte hb (x := x) p0 (by omega)
    have b1 := rd_byte hb (x := x + 1) (by omega) (by omega)
    have b2 := rd_byte hb (x := x + 2) (by omega) (by omega)
    refine Ev.step (fun k => spec_l3Uncontract.l0.eq_2 ..) (Ev.pos (by omega) ?_)
    rw [w64 (x := x + 3) (by omega) (by omega), w64 (x := x + 11) (by omega) (by omega), w64 (x := x + 1) (by omega) (by omega), w64 (x := x + 2) (by omega) (by omega), w64 (x := rd d x) (by omega) (by omega), w64 (x := rd d (x + 1)) (by omega) (by omega), w64 (x := rd d (x + 2)) (by omega) (by omega)]
    refine Ev.pos (by omega) (Ev.pos (by omega) (Ev.pos (by omega) (Ev.pos (by omega) (Ev.pos (by omega) (Ev.pos (by omega) (Ev.pos (by omega) (Ev.pos (by omega) ?_)))))))
    exact Ev.bind (spec_l3Number_ev _ (by rw [List.length_drop, List.length_take]; omega)) (Ev.pos (by omega) h)
theorem tmod11 {x : Int} (h : 0 ≤ x) : Int.tmod x 11 = x % 11 := Int.tmod_eq_emod_of_nonneg h
theorem spec_UnpackContract_ev {d : List Int} (hb : Bytes d) (hd : (d.length : Int) ≤ 9000000000) : Ev (fun k => spec_UnpackContract.f k d) (unpackR d) := by
  unfold spec_UnpackContract.f spec_l3Uncontract.f unpackR
  have bad : Ev (fun k => spec_l3Uncontract.j0 k d true 0) (0, [], false) := Ev.step (fun k => spec_l3Uncontract.j0.eq_2 ..) (Ev.pos rfl (Ev.now _))
  by_cases h8 : (d.length : Int) < 8
  · rw [if_neg (by omega)]
    exact Ev.bind (Ev.pos h8 bad) (Ev.neg (by simp) (Ev.now _))
  · by_cases h11 : ((d.length : Int) - 8) % 11 = 0
    · by_cases h96 : (d.length : Int) ≤ 96
      · rw [if_pos ⟨by omega, h11, h96⟩]
        obtain ⟨n, hn⟩ : ∃ n : Nat, (d.length - 8) / 11 = n := ⟨_, rfl⟩
        have hdn : (d.length : Int) = 8 + 11 * (n : Int) := by omega
        have hs := spec_unlegs_ev hb n hdn (by omega) n (Nat.le_refl _)
        rw [show n - n = 0 by omega] at hs
        rw [hn]
        refine Ev.bind (Ev.neg h8 (Ev.pos ?_ (Ev.step (fun k => spec_l3Uncontract.j0.eq_2 ..) (Ev.neg (by simp only [decide_eq_true_eq]; omega) (Ev.pos (by omega) (Ev.bind (spec_l3Number_ev _ (by rw [List.length_take]; omega)) hs)))))) ?_
        · rw [w64 (by omega) (by omega), tmod11 (by omega)]
          exact h11
        · unfold unpackC
          simp only [beq_iff_eq]
          exact Ev.cond (fun _ => Ev.now _) (fun _ => Ev.now _)
      · rw [if_neg (by omega)]
        refine Ev.bind (Ev.neg h8 (Ev.pos ?_ (Ev.eq (b := ((0 : Int), ([] : List S89), false)) (Ev.step (fun k => spec_l3Uncontract.j0.eq_2 ..) (Ev.pos (by simp only [decide_eq_true_eq]; omega) (Ev.now _))) rfl))) (Ev.neg (by simp) (Ev.now _))
        rw [w64 (by omega) (by omega), tmod11 (by omega)]
        exact h11
    · rw [if_neg (fun h => h11 h.2.1)]
      refine Ev.bind (Ev.neg h8 (Ev.neg ?_ bad)) (Ev.neg (by simp) (Ev.now _))
      rw [w64 (by omega) (by omega), tmod11 (by omega)]
      exact h11
theorem impl_UnpackContract_ev {d : List Int} (hb : Bytes d) (hd : (d.length : Int) ≤ 9000000000) : Ev (fun k => impl_UnpackContract.f k d) (unpackR d) := by
  unfold impl_UnpackContract.f unpackR
  have bad : Ev (fun k => impl_UnpackContract.j0 k d true) (5, 0, []) := Ev.step (fun k => impl_UnpackContract.j0.eq_2 ..) (Ev.pos rfl (Ev.now _))
  by_cases h8 : (d.length : Int) < 8
  · rw [if_neg (by omega)]
    exact Ev.pos h8 bad
  · by_cases h11 : ((d.length : Int) - 8) % 11 = 0
    · by_cases h96 : (d.length : Int) ≤ 96
      · rw [if_pos ⟨by omega, h11, h96⟩]
        obtain ⟨n, hn⟩ : ∃ n : Nat, (d.length - 8) / 11 = n := ⟨_, rfl⟩
        have hdn : (d.length : Int) = 8 + 11 * (n : Int) := by omega
        have hs := impl_unlegs_ev hb n hdn (by omega) n (Nat.le_refl _)
        rw [show n - n = 0 by omega] at hs
        rw [hn]
        refine Ev.neg h8 (Ev.pos ?_ (Ev.step (fun k => impl_UnpackContract.j0.eq_2 ..) (Ev.neg (by simp only [decide_eq_true_eq]; omega) (Ev.pos (by omega) (Ev.bind (impl_num_ev _ (by rw [List.length_take]; omega)) hs)))))
        rw [w64 (by omega) (by omega), tmod11 (by omega)]
        exact h11
      · rw [if_neg (by omega)]
        refine Ev.neg h8 (Ev.pos ?_ (Ev.step (fun k => impl_UnpackContract.j0.eq_2 ..) (Ev.pos (by simp only [decide_eq_true_eq]; omega) (Ev.now _))))
        rw [w64 (by omega) (by omega), tmod11 (by omega)]
        exact h11
    · rw [if_neg (fun h => h11 h.2.1)]
      refine Ev.neg h8 (Ev.neg ?_ bad)
      rw [w64 (by omega) (by omega), tmod11 (by omega)]
      exact h11

theorem leg_ne (a b : S89) : (!(a.f0 == b.f0) || (!(a.f1 == b.f1) || (!(a.f2 == b.f2) || (!(a.f3 == b.f3))))) = true ↔ a ≠ b := by
  cases a; cases b
  simp
  omega
/-- Two lists, place by place. -/
theorem Ev.alike {γ : Type} (F : Nat → Int → Option Bool) (l m : List γ) (hlm : l.length = m.length) (hl : (l.length : Int) ≤ 9223372036854775807)
    (same : ∀ i a r, 0 ≤ i → i < (l.length : Int) → l[i.toNat]? = some a → m[i.toNat]? = some a → Ev (fun k => F k (wrap64 (i + 1))) r → Ev (fun k => F k i) r)
    (other : ∀ i a b, 0 ≤ i → i < (l.length : Int) → l[i.toNat]? = some a → m[i.toNat]? = some b → a ≠ b → Ev (fun k => F k i) false)
    (stop : Ev (fun k => F k (l.length : Int)) true) : ∃ r, (r = true ↔ l = m) ∧ Ev (fun k => F k 0) r := by
  refine Ev.upto (fun k (_ : Unit) i => F k i) l.length hl (fun i _ => l.take i.toNat = m.take i.toNat) (fun r => r = true ↔ l = m) (fun i s h0 h1 ht => ?_) (fun s ht => ?_) 0 () (by omega) (by omega) (by simp)
  · have e1 : l[i.toNat]? = some (l[i.toNat]'(by omega)) := List.getElem?_eq_getElem (by omega)
    have e2 : m[i.toNat]? = some (m[i.toNat]'(by omega)) := List.getElem?_eq_getElem (by omega)
    by_cases e : l[i.toNat]'(by omega) = m[i.toNat]'(by omega)
    · refine .inl ⟨(), ?_, fun r => same i _ r h0 h1 e1 (e ▸ e2)⟩
      rw [show (i + 1).toNat = i.toNat + 1 by omega, List.take_add_one, List.take_add_one, ht, e1, e2, e]
    · refine .inr ⟨false, ⟨fun h => (by cases h), fun h => absurd (by simp only [h]) e⟩, other i _ _ h0 h1 e1 e2 e⟩
  · rw [List.take_of_length_le (by omega), List.take_of_length_le (by omega)] at ht
    exact ⟨true, ⟨fun _ => ht, fun _ => rfl⟩, stop⟩
theorem impl_SameContract_ev (i : Int) (l : List S89) (j : Int) (m : List S89) (hl : (l.length : Int) ≤ 9223372036854775807) : ∃ r, (r = true ↔ i = j ∧ l = m) ∧ Ev (fun k => impl_SameContract.f k i l j m) r := by
  unfold impl_SameContract.f
  by_cases e : i = j
  · by_cases e2 : l.length = m.length
    · obtain ⟨r, hr, h⟩ := Ev.alike (fun k n => slices_Equal_impl_Leg.l0 k l m (l.length : Int) n) l m e2 hl
        (fun n a r h0 h1 ha hb h => Ev.step (fun k => slices_Equal_impl_Leg.l0.eq_2 ..) (Ev.pos h1 (Ev.pos h0 (Ev.pos h1 (Ev.pos (by omega) (Ev.neg (by rw [rdLeg ha, rdLeg hb, leg_ne]; exact fun h => h rfl) h))))))
        (fun n a b h0 h1 ha hb hn => Ev.step (fun k => slices_Equal_impl_Leg.l0.eq_2 ..) (Ev.pos h1 (Ev.pos h0 (Ev.pos h1 (Ev.pos (by omega) (Ev.pos (by rw [rdLeg ha, rdLeg hb, leg_ne]; exact hn) (Ev.now _)))))))
        (Ev.step (fun k => slices_Equal_impl_Leg.l0.eq_2 ..) (Ev.neg (by omega) (Ev.now _)))
      refine ⟨r, by rw [hr]; simp [e], Ev.pos e (Ev.bind (a := r) ?_ (Ev.now _))⟩
      unfold slices_Equal_impl_Leg.f
      exact Ev.pos (by omega) h
    · refine ⟨false, by simp; intro _ h; rw [h] at e2; exact e2 rfl, Ev.pos e (Ev.bind (a := false) ?_ (Ev.now _))⟩
      unfold slices_Equal_impl_Leg.f
      exact Ev.neg (by omega) (Ev.now _)
  · exact ⟨false, by simp [e], Ev.neg e (Ev.now _)⟩

theorem lwBig_eq (c : List Int) : laws_lwBig.f c = some (decide ((c.length : Int) > 1048576)) := rfl
theorem num_pack (n : Int) (h0 : -9223372036854775808 ≤ n) (h1 : n ≤ 9223372036854775807) : wrap64 (numL 0 (packL n)) = n := by
  have e : numL 0 (packL n) = n % 18446744073709551616 := by
    have a0 : (0 * 256 + n / 72057594037927936 % 256) % 18446744073709551616 = n / 72057594037927936 % 256 := by omega
    have a1 : (n / 72057594037927936 % 256 * 256 + n / 281474976710656 % 256) % 18446744073709551616 = n / 281474976710656 % 65536 := by omega
    have a2 : (n / 281474976710656 % 65536 * 256 + n / 1099511627776 % 256) % 18446744073709551616 = n / 1099511627776 % 16777216 := by omega
    have a3 : (n / 1099511627776 % 16777216 * 256 + n / 4294967296 % 256) % 18446744073709551616 = n / 4294967296 % 4294967296 := by omega
    have a4 : (n / 4294967296 % 4294967296 * 256 + n / 16777216 % 256) % 18446744073709551616 = n / 16777216 % 1099511627776 := by omega
    have a5 : (n / 16777216 % 1099511627776 * 256 + n / 65536 % 256) % 18446744073709551616 = n / 65536 % 281474976710656 := by omega
    have a6 : (n / 65536 % 281474976710656 * 256 + n / 256 % 256) % 18446744073709551616 = n / 256 % 72057594037927936 := by omega
    have a7 : (n / 256 % 72057594037927936 * 256 + n % 256) % 18446744073709551616 = n % 18446744073709551616 := by omega
    show (((((((((0 * 256 + n / 72057594037927936 % 256) % 18446744073709551616) * 256 + n / 281474976710656 % 256) % 18446744073709551616 * 256 + n / 1099511627776 % 256) % 18446744073709551616 * 256 + n / 4294967296 % 256) % 18446744073709551616 * 256 + n / 16777216 % 256) % 18446744073709551616 * 256 + n / 65536 % 256) % 18446744073709551616 * 256 + n / 256 % 256) % 18446744073709551616 * 256 + n % 256) % 18446744073709551616 = _
    rw [a0, a1, a2, a3, a4, a5, a6, a7]
  rw [e]
  unfold wrap64
  omega
theorem packL_bytes (n : Int) : bytesL (packL n) := fun x hx => by
  simp only [packL, List.mem_cons, List.not_mem_nil, or_false] at hx
  omega
theorem legB_bytes (g : S89) : bytesL (legB g) := fun x hx => by
  simp only [legB, List.mem_append, List.mem_cons, List.not_mem_nil, or_false] at hx
  rcases hx with hx | hx
  · omega
  · exact packL_bytes _ x hx
theorem packC_bytes (id : Int) (l : List S89) : bytesL (packC id l) := fun x hx => by
  unfold packC at hx
  rcases List.mem_append.1 hx with hx | hx
  · exact packL_bytes _ x hx
  · obtain ⟨g, _, hg⟩ := List.mem_flatMap.1 hx
    exact legB_bytes g x hg
theorem flat_drop : ∀ (j : Nat) (l : List S89), (l.flatMap legB).drop (11 * j) = (l.drop j).flatMap legB := by
  intro j
  induction j with
  | zero => intro l; simp
  | succ j ih =>
    intro l
    cases l with
    | nil => simp
    | cons g r =>
      rw [List.flatMap_cons, show 11 * (j + 1) = (legB g).length + 11 * j by rw [legB_len]; omega, ← List.drop_drop, List.drop_append_of_le_length (Nat.le_refl _), List.drop_length, List.nil_append, ih r]
      rfl
theorem legAt_pack (id : Int) (l : List S89) (j : Nat) (hj : j < l.length) (hr : (0 ≤ l[j].f0 ∧ l[j].f0 ≤ 2) ∧ (0 ≤ l[j].f1 ∧ l[j].f1 ≤ 5) ∧ (0 ≤ l[j].f2 ∧ l[j].f2 ≤ 2) ∧ -1000000000000 ≤ l[j].f3 ∧ l[j].f3 ≤ 1000000000000 ∧ l[j].f3 ≠ 0) : legAt (packC id l) (8 + 11 * (j : Int)) = l[j] := by
  have hd : (packC id l).drop (8 + 11 * j) = legB l[j] ++ (l.drop (j + 1)).flatMap legB := by
    unfold packC
    rw [show 8 + 11 * j = (packL id).length + 11 * j by rw [packL_len], ← List.drop_drop, List.drop_append_of_le_length (Nat.le_refl _), List.drop_length, List.nil_append, flat_drop, List.drop_eq_getElem_cons hj, List.flatMap_cons]
  have r : ∀ i : Int, 0 ≤ i → rd (packC id l) (8 + 11 * (j : Int) + i) = rd (legB l[j] ++ (l.drop (j + 1)).flatMap legB) i := fun i hi => by
    rw [← hd, rd_drop _ _ _ hi]
    congr 1
  have hn : ((packC id l).take (8 + 11 * (j : Int) + 11).toNat).drop (8 + 11 * (j : Int) + 3).toNat = packL l[j].f3 := by
    rw [List.drop_take, show (8 + 11 * (j : Int) + 3).toNat = (8 + 11 * j) + 3 by omega, ← List.drop_drop, hd, show (8 + 11 * (j : Int) + 11).toNat - ((8 + 11 * j) + 3) = 8 by omega]
    rfl
  unfold legAt
  rw [hn, num_pack _ (by omega) (by omega), show 8 + 11 * (j : Int) = 8 + 11 * (j : Int) + 0 by omega, r 0 (by decide), show 8 + 11 * (j : Int) + 0 + 1 = 8 + 11 * (j : Int) + 1 by omega, r 1 (by decide), show 8 + 11 * (j : Int) + 0 + 2 = 8 + 11 * (j : Int) + 2 by omega, r 2 (by decide)]
  show (⟨l[j].f0 % 256, l[j].f1 % 256, l[j].f2 % 256, l[j].f3⟩ : S89) = l[j]
  rw [Int.emod_eq_of_lt (by omega) (by omega), Int.emod_eq_of_lt (by omega) (by omega), Int.emod_eq_of_lt (by omega) (by omega)]
theorem unpack_pack (id : Int) (l : List S89) (h : contractFault id l = 0) : unpackR (packC id l) = (0, id, l) := by
  obtain ⟨hid, hl, hg⟩ := contract_right h
  have hlen := packC_len id l
  have h8 : (packC id l).take 8 = packL id := by
    unfold packC
    rw [List.take_append_of_le_length (by rw [packL_len]; omega)]
    rfl
  have hlegs : legsIn (packC id l) l.length = l := by
    refine List.ext_getElem? (fun j => ?_)
    unfold legsIn
    rw [List.getElem?_map]
    by_cases hj : j < l.length
    · rw [List.getElem?_range hj, List.getElem?_eq_getElem hj]
      exact congrArg some (legAt_pack id l j hj (hg _ (List.getElem_mem _)))
    · rw [List.getElem?_eq_none (by rw [List.length_range]; omega), List.getElem?_eq_none (by omega)]
      rfl
  unfold unpackR
  rw [if_pos ⟨by omega, by omega, by omega⟩, hlen, show (8 + 11 * l.length - 8) / 11 = l.length by omega]
  unfold unpackC
  rw [h8, num_pack id (by omega) (by omega), hlegs, if_pos h]
theorem unpack_zero {d : List Int} (hb : Bytes d) (h : (unpackR d).1 = 0) : packR (unpackR d).2.1 (unpackR d).2.2 = (0, d) := by
  unfold unpackR at h ⊢
  by_cases hd : 8 ≤ (d.length : Int) ∧ ((d.length : Int) - 8) % 11 = 0 ∧ (d.length : Int) ≤ 96
  · rw [if_pos hd] at h ⊢
    unfold unpackC at h ⊢
    split at h
    · next hc =>
      rw [if_pos hc]
      unfold packR
      simp only
      rw [if_pos hc, pack_unpack hb _ (by omega)]
    · cases h
  · rw [if_neg hd] at h; cases h
theorem draw_number (c : List Int) (hb : bytesL c) (hl : c.length ≤ 2000000) : ∃ n, spec_DrawPackNumber.f c = some n ∧ -9223372036854775808 ≤ n ∧ n ≤ 9223372036854775807 := by
  obtain ⟨a, ha, a0, a1, _⟩ := next_ok c hb hl 0 (by decide) (by decide) 900
  obtain ⟨b, hbb, b0, b1, _⟩ := next_ok c hb hl 1 (by decide) (by decide) 900
  have a1 := a1 (by decide)
  have b1 := b1 (by decide)
  obtain ⟨v, hv, hp⟩ := pick_ok c hb hl 2 (by decide) (by decide) [a, wrap64 (-b), 4611686018427387904, (-9223372036854775808), 9223372036854775807, 0] (by simp)
  refine ⟨v, ?_, ?_⟩
  · unfold spec_DrawPackNumber.f spec_l1Source.f spec_l3Wide.f
    simp only [Option.bind_some]
    rw [ha]
    simp only [Option.bind_some]
    rw [show (0 : Int) + 1 = 1 by rfl, hbb]
    simp only [Option.bind_some]
    rw [show (1 : Int) + 1 = 2 by rfl, hp]
    rfl
  · rw [w64 (x := -b) (by omega) (by omega)] at hv
    simp only [List.mem_cons, List.not_mem_nil, or_false] at hv
    omega
theorem draw_bytes (c : List Int) (hb : bytesL c) (hl : c.length ≤ 2000000) : ∃ d, Ev (fun k => spec_DrawUnpackContract.f k c) d ∧ bytesL d ∧ d.length ≤ 1001 := by
  obtain ⟨i, l, s, hd, q1, q2, q3⟩ := l1Bent_ok c hb hl 0 (by decide) (by decide)
  obtain ⟨b, hch⟩ := chance_ok c hb hl s (by omega) (by omega) 3
  have hp := spec_PackContract_ev i l
  have hpl := packR_len i l
  have hpb : bytesL (packR i l).2 := by
    unfold packR
    split
    · exact packC_bytes i l
    · exact fun x hx => by cases hx
  cases b with
  | true =>
    obtain ⟨r, s', hr, r1, r2, r3, r4⟩ := cut_ok c hb hl (s + 1) (by omega) (by omega) (packR i l).2 hpb (by omega)
    refine ⟨r, ?_, r4, by omega⟩
    unfold spec_DrawUnpackContract.f spec_l1Source.f
    exact Ev.let (Ev.bind hd (Ev.bind hp (Ev.bind (Ev.is hch) (Ev.pos rfl (Ev.bind (Ev.is hr) (Ev.now _))))))
  | false =>
    refine ⟨(packR i l).2, ?_, hpb, by omega⟩
    unfold spec_DrawUnpackContract.f spec_l1Source.f
    exact Ev.let (Ev.bind hd (Ev.bind hp (Ev.bind (Ev.is hch) (Ev.neg (by simp) (Ev.now _)))))
theorem draw_contract (c : List Int) (hb : bytesL c) (hl : c.length ≤ 2000000) : ∃ i l, Ev (fun k => spec_DrawPackContract.f k c) (i, l) := by
  obtain ⟨i, l, s, hd, _⟩ := l1Bent_ok c hb hl 0 (by decide) (by decide)
  refine ⟨i, l, ?_⟩
  unfold spec_DrawPackContract.f spec_l1Source.f
  exact Ev.let (Ev.bind hd (Ev.now _))
theorem packR_code (id : Int) (l : List S89) : (packR id l).1 = contractFault id l := by
  unfold packR
  split
  · next h => exact h.symm
  · rfl
theorem FnBytes : ∀ (l0 : List Int), okL (fun n => (Lit.int .u8 n).wf = true) l0 → ∃ k, laws_FnBytes.f k l0 = some true := by
  intro c hc
  have hb : bytesL c := fun x hx => wfU8 (hc.2 x hx)
  refine Ev.rounds (r := true) ?_
  unfold laws_FnBytes.f
  refine Ev.bind (Ev.is (lwBig_eq c)) (Ev.ite (fun _ => Ev.now _) (fun hbig => ?_))
  have hl : c.length ≤ 2000000 := by simp at hbig; omega
  obtain ⟨n, hn, n0, n1⟩ := draw_number c hb hl
  obtain ⟨d, hd, hdb, hdl⟩ := draw_bytes c hb hl
  obtain ⟨i, l, hc⟩ := draw_contract c hb hl
  have hu := impl_UnpackContract_ev (d := d) hdb (by omega)
  have hus := spec_UnpackContract_ev (d := d) hdb (by omega)
  have hpk := impl_PackContract_ev i l
  have tail : Ev (fun k => (impl_PackContract.f k i l).bind fun p => (if p.1 = 0 then ((impl_UnpackContract.f k p.2).bind fun x => (if x.1 = 0 then ((impl_SameContract.f k x.2.1 x.2.2 i l).bind fun t => (some t)) else (none))) else ((spec_ContractFault.f k i l).bind fun t => (some (t == p.1))))) true := by
    refine Ev.bind hpk ?_
    by_cases hz : contractFault i l = 0
    · have hr : packR i l = (0, packC i l) := by unfold packR; rw [if_pos hz]
      rw [hr]
      have hx := impl_UnpackContract_ev (d := packC i l) (packC_bytes i l) (by rw [packC_len]; have := contractFault_fewP hz; omega)
      rw [unpack_pack i l hz] at hx
      obtain ⟨r, hr2, hs⟩ := impl_SameContract_ev i l i l (by have := contractFault_fewP hz; omega)
      have hrt : r = true := hr2.2 ⟨rfl, rfl⟩
      subst hrt
      exact Ev.pos rfl (Ev.bind hx (Ev.pos rfl (Ev.bind hs (Ev.now _))))
    · refine Ev.neg (by rw [packR_code]; exact hz) (Ev.bind (spec_ContractFault_ev i l) (Ev.eq (Ev.now _) (by rw [packR_code]; simp)))
  have hnum := impl_UnpackNumber_ev (packL n)
  rw [if_pos (packL_len n), num_pack n n0 n1] at hnum
  refine Ev.bind (Ev.is hn) (Ev.bind (impl_PackNumber_ev n) (Ev.bind hd (Ev.bind hu (Ev.pos (by rw [packL_len]; rfl) (Ev.bind hnum (Ev.pos rfl ?_))))))
  by_cases hz : (unpackR d).1 = 0
  · have hp2 := impl_PackContract_ev (unpackR d).2.1 (unpackR d).2.2
    rw [unpack_zero hdb hz] at hp2
    exact Ev.pos hz (Ev.bind hp2 (Ev.pos rfl (Ev.bind hc tail)))
  · exact Ev.neg hz (Ev.bind hus (Ev.pos rfl (Ev.bind hc tail)))

end Go.Proofs.Ytooiamkaipdmpaa.Pure
