/- FnExactLegFault, the pure statement: the program's LegFault and the reference's tell the same code of any leg. No conditions. -/
import Derived.Test.YtmknjjdipfcckaaPFnExactLegFaultx1
import Derived.Test.YtmknjjdipfcckaaOFnExactLegFault
namespace Go.Proofs.Ytmknjjdipfcckaa.Pure
open Go.RowKit Go.Proofs.Ytmknjjdipfcckaa.PFnExactLegFault Go.Proofs.YtmknjjdipfcckaaW.PrintWords Go.Proofs.YtmknjjdipfcckaaW.PrintLast Go.Proofs.YtmknjjdipfcckaaW.PrintMore Go.Proofs.Ytmknjjdipfcckaa.Opens
/-! ### words of this text's own -/
theorem w64 {x : Int} (h0 : -9223372036854775808 ≤ x) (h1 : x ≤ 9223372036854775807) : wrap64 x = x := by
  unfold wrap64
  omega
theorem wfU8 {x : Int} (h : (Lit.int .u8 x).wf = true) : 0 ≤ x ∧ x < 256 := by
  simp [Lit.wf, IntKind.min, IntKind.max, IntKind.signed, IntKind.bits] at h
  omega
theorem wfI64 {x : Int} (h : (Lit.int .i64 x).wf = true) : -9223372036854775808 ≤ x ∧ x ≤ 9223372036854775807 := by
  simp [Lit.wf, IntKind.min, IntKind.max, IntKind.signed, IntKind.bits] at h
  omega
theorem Ev.ite {α : Type} {g f : Nat → Option α} {c : Prop} [Decidable c] {r : α} (ht : c → Ev g r) (hf : ¬ c → Ev f r) : Ev (fun k => if c then g k else f k) r := by
  by_cases h : c
  · simp only [if_pos h]; exact ht h
  · simp only [if_neg h]; exact hf h
theorem Ev.pos {α : Type} {g f : Nat → Option α} {c : Prop} [Decidable c] {r : α} (h : c) (ht : Ev g r) : Ev (fun k => if c then g k else f k) r := Ev.ite (fun _ => ht) (fun n => absurd h n)
theorem Ev.neg {α : Type} {g f : Nat → Option α} {c : Prop} [Decidable c] {r : α} (h : ¬ c) (hf : Ev f r) : Ev (fun k => if c then g k else f k) r := Ev.ite (fun y => absurd y h) (fun _ => hf)
/-- A loop that counts i up to n, with a state s: what it comes to, if 'P i s' leads from round to round. -/
theorem Ev.upto {α σ : Type} (F : Nat → σ → Int → Option α) (n : Int) (P : Int → σ → Prop) (R : α → Prop)
    (step : ∀ i s, 0 ≤ i → i < n → P i s → (∃ s', P (i + 1) s' ∧ ∀ k, F (k + 1) s i = F k s' (i + 1)) ∨ (∃ r, R r ∧ ∀ k, F (k + 1) s i = some r))
    (stop : ∀ s, P n s → ∃ r, R r ∧ ∀ k, F (k + 1) s n = some r) (i : Int) (s : σ) (h0 : 0 ≤ i) (h1 : i ≤ n) (hP : P i s) : ∃ r, R r ∧ Ev (fun k => F k s i) r := by
  obtain ⟨d, hd⟩ : ∃ d : Nat, n - i = d := ⟨(n - i).toNat, by omega⟩
  induction d generalizing i s with
  | zero =>
    obtain rfl : i = n := by omega
    obtain ⟨r, hr, h⟩ := stop s hP
    exact ⟨r, hr, Ev.step (f := fun _ => some r) h (Ev.now r)⟩
  | succ d ih =>
    rcases step i s h0 (by omega) hP with ⟨s', hP', h⟩ | ⟨r, hr, h⟩
    · obtain ⟨r, hr, he⟩ := ih (i + 1) s' (by omega) (by omega) hP' (by omega)
      exact ⟨r, hr, Ev.step h he⟩
    · exact ⟨r, hr, Ev.step (f := fun _ => some r) h (Ev.now r)⟩
theorem rd_get (l : List Int) (i : Int) (h0 : 0 ≤ i) (h1 : i < (l.length : Int)) : rd l i = l[i.toNat]'(by omega) := by
  unfold rd
  rw [List.getD_eq_getElem?_getD, List.getElem?_eq_getElem (by omega)]
  rfl
theorem take_set_succ {α : Type} (l acc : List α) (i : Nat) (v : α) (h : i < acc.length) (ht : acc.take i = l.take i) (hv : l[i]? = some v) : (acc.set i v).take (i + 1) = l.take (i + 1) := by
  rw [List.take_add_one, List.take_add_one, hv, List.getElem?_set_self h, List.take_set_of_le (Nat.le_refl _), ht]
theorem drop_cons_at {α : Type} (l : List α) (i : Nat) (h : i < l.length) : l.drop i = l[i] :: l.drop (i + 1) := List.drop_eq_getElem_cons h
/-- What LegFault tells of a leg. -/
def legFault (s a t m : Int) : Int := if 0 ≤ s ∧ s ≤ 2 ∧ 0 ≤ a ∧ a ≤ 5 ∧ 0 ≤ t ∧ t ≤ 2 ∧ -1000000000000 ≤ m ∧ m ≤ 1000000000000 then (if m = 0 then 1 else 0) else 3
theorem spec_LegFault_ev (s a t m : Int) : Ev (fun k => spec_LegFault.f k s a t m) (legFault s a t m) := by
  refine ⟨1, fun k hk => ?_⟩
  obtain ⟨k, rfl⟩ : ∃ j, k = j + 1 := ⟨k - 1, by omega⟩
  unfold spec_LegFault.f spec_l1In.f legFault
  by_cases h1 : 0 ≤ s <;> by_cases h2 : s ≤ 2 <;> by_cases h3 : 0 ≤ a <;> by_cases h4 : a ≤ 5 <;> by_cases h5 : 0 ≤ t <;> by_cases h6 : t ≤ 2 <;> by_cases h7 : -1000000000000 ≤ m <;> by_cases h8 : m ≤ 1000000000000 <;> by_cases h9 : m = 0 <;> simp [h1, h2, h3, h4, h5, h6, h7, h8, h9, spec_LegFault.j0]
theorem impl_LegFault_ev (s a t m : Int) : Ev (fun k => impl_LegFault.f k s a t m) (legFault s a t m) := by
  refine ⟨1, fun k hk => ?_⟩
  obtain ⟨k, rfl⟩ : ∃ j, k = j + 1 := ⟨k - 1, by omega⟩
  unfold impl_LegFault.f impl_isShard.f impl_isPlace.f impl_isAsset.f impl_within.f legFault
  by_cases h1 : 0 ≤ s <;> by_cases h2 : s ≤ 2 <;> by_cases h3 : 0 ≤ a <;> by_cases h4 : a ≤ 5 <;> by_cases h5 : 0 ≤ t <;> by_cases h6 : t ≤ 2 <;> by_cases h7 : -1000000000000 ≤ m <;> by_cases h8 : m ≤ 1000000000000 <;> by_cases h9 : m = 0 <;> simp [h1, h2, h3, h4, h5, h6, h7, h8, h9, impl_LegFault.j0]
theorem FnExactLegFault : ∀ (a0_0 : Int) (a0_1 : Int) (a0_2 : Int) (a0_3 : Int), (Lit.int .i64 a0_0).wf = true → (Lit.int .i64 a0_1).wf = true → (Lit.int .i64 a0_2).wf = true → (Lit.int .i64 a0_3).wf = true → ∃ k, laws_FnExactLegFault.f k a0_0 a0_1 a0_2 a0_3 = some true := by
  intro s a t m _ _ _ _
  refine Ev.rounds (r := true) ?_
  unfold laws_FnExactLegFault.f laws_toLeg.f
  simp only [Option.bind_some]
  exact Ev.bind (spec_LegFault_ev s a t m) (Ev.bind (impl_LegFault_ev s a t m) (Ev.pos rfl (Ev.now _)))

end Go.Proofs.Ytmknjjdipfcckaa.Pure
