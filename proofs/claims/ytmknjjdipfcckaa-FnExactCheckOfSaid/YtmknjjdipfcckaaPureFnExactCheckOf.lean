/- FnExactCheckOf, the pure statement: the program's CheckOf and the reference's tell the same number of any bytes, and the argument is as it was. No conditions. -/
import Derived.Test.YtmknjjdipfcckaaPFnExactCheckOfx1
import Derived.Test.YtmknjjdipfcckaaOFnExactCheckOf
namespace Go.Proofs.Ytmknjjdipfcckaa.Pure
open Go.RowKit Go.Proofs.Ytmknjjdipfcckaa.PFnExactCheckOf Go.Proofs.YtmknjjdipfcckaaW.PrintWords Go.Proofs.YtmknjjdipfcckaaW.PrintLast Go.Proofs.YtmknjjdipfcckaaW.PrintMore Go.Proofs.Ytmknjjdipfcckaa.Opens
/-! ### words of this text's own -/
theorem w64 {x : Int} (h0 : -9223372036854775808 ≤ x) (h1 : x ≤ 9223372036854775807) : wrap64 x = x := by
  unfold wrap64
  omega
theorem wfU8 {x : Int} (h : (Lit.int .u8 x).wf = true) : 0 ≤ x ∧ x < 256 := by
  simp [Lit.wf, IntKind.min, IntKind.max, IntKind.signed, IntKind.bits] at h
  omega
theorem wfI64 {x : Int} (h : (Lit.int .i64 x).wf = true) : -9223372036854775808 ≤ x ∧ x ≤ 9223372036854775807 := by
  simp [Lit.wf, IntKind.min, IntKind.max, IntKind.signed, IntKind.bits] at h
  omega
theorem Ev.ite {α : Type} {g f : Nat → Option α} {c : Prop} [Decidable c] {r : α} (ht : c → Ev g r) (hf : ¬ c → Ev f r) : Ev (fun k => if c then g k else f k) r := by
  by_cases h : c
  · simp only [if_pos h]; exact ht h
  · simp only [if_neg h]; exact hf h
theorem Ev.pos {α : Type} {g f : Nat → Option α} {c : Prop} [Decidable c] {r : α} (h : c) (ht : Ev g r) : Ev (fun k => if c then g k else f k) r := Ev.ite (fun _ => ht) (fun n => absurd h n)
theorem Ev.neg {α : Type} {g f : Nat → Option α} {c : Prop} [Decidable c] {r : α} (h : ¬ c) (hf : Ev f r) : Ev (fun k => if c then g k else f k) r := Ev.ite (fun y => absurd y h) (fun _ => hf)
/-- A loop that counts i up to n, with a state s: what it comes to, if 'P i s' leads from round to round. -/
theorem Ev.upto {α σ : Type} (F : Nat → σ → Int → Option α) (n : Int) (P : Int → σ → Prop) (R : α → Prop)
    (step : ∀ i s, 0 ≤ i → i < n → P i s → (∃ s', P (i + 1) s' ∧ ∀ k, F (k + 1) s i = F k s' (i + 1)) ∨ (∃ r, R r ∧ ∀ k, F (k + 1) s i = some r))
    (stop : ∀ s, P n s → ∃ r, R r ∧ ∀ k, F (k + 1) s n = some r) (i : Int) (s : σ) (h0 : 0 ≤ i) (h1 : i ≤ n) (hP : P i s) : ∃ r, R r ∧ Ev (fun k => F k s i) r := by
  obtain ⟨d, hd⟩ : ∃ d : Nat, n - i = d := ⟨(n - i).toNat, by omega⟩
  induction d generalizing i s with
  | zero =>
    obtain rfl : i = n := by omega
    obtain ⟨r, hr, h⟩ := stop s hP
    exact ⟨r, hr, Ev.step (f := fun _ => some r) h (Ev.now r)⟩
  | succ d ih =>
    rcases step i s h0 (by omega) hP with ⟨s', hP', h⟩ | ⟨r, hr, h⟩
    · obtain ⟨r, hr, he⟩ := ih (i + 1) s' (by omega) (by omega) hP' (by omega)
      exact ⟨r, hr, Ev.step h he⟩
    · exact ⟨r, hr, Ev.step (f := fun _ => some r) h (Ev.now r)⟩
theorem rd_get (l : List Int) (i : Int) (h0 : 0 ≤ i) (h1 : i < (l.length : Int)) : rd l i = l[i.toNat]'(by omega) := by
  unfold rd
  rw [List.getD_eq_getElem?_getD, List.getElem?_eq_getElem (by omega)]
  rfl
theorem take_set_succ {α : Type} (l acc : List α) (i : Nat) (v : α) (h : i < acc.length) (ht : acc.take i = l.take i) (hv : l[i]? = some v) : (acc.set i v).take (i + 1) = l.take (i + 1) := by
  rw [List.take_add_one, List.take_add_one, hv, List.getElem?_set_self h, List.take_set_of_le (Nat.le_refl _), ht]
theorem drop_cons_at {α : Type} (l : List α) (i : Nat) (h : i < l.length) : l.drop i = l[i] :: l.drop (i + 1) := List.drop_eq_getElem_cons h
theorem toByteS_ev (l : List Int) (hl : l.length ≤ 140737488351232) : Ev (fun k => laws_toByteS.f k l) l := by
  unfold laws_toByteS.f
  refine Ev.pos (by omega) (Ev.pos (by omega) ?_)
  obtain ⟨r, hr, h⟩ := Ev.upto (fun k s i => laws_toByteS.l0 k l s i) l.length (fun i s => s.length = l.length ∧ s.take i.toNat = l.take i.toNat) (fun r => r = l)
    (fun i s h0 h1 ⟨hs, ht⟩ => .inl ⟨s.set i.toNat (rd l i), ⟨by simp [hs], by
      rw [show (i + 1).toNat = i.toNat + 1 by omega]
      exact take_set_succ l s _ _ (by omega) ht (by rw [rd_get l i h0 h1]; exact List.getElem?_eq_getElem (by omega))⟩, fun k => by
      simp only [laws_toByteS.l0]
      rw [if_pos h1, if_pos h0, if_pos (by omega), w64 (by omega) (by omega)]⟩)
    (fun s ⟨hs, ht⟩ => ⟨s, by rw [List.take_of_length_le (by omega), List.take_of_length_le (by omega)] at ht; exact ht, fun k => by
      simp only [laws_toByteS.l0]
      rw [if_neg (by omega)]⟩)
    0 (List.replicate ((l.length : Int)).toNat 0) (by omega) (by omega) ⟨by simp, by simp⟩
  rw [hr] at h
  exact h

theorem eqByteS_ev (l : List Int) (hl : l.length ≤ 140737488351232) : Ev (fun k => laws_eqByteS.f k l l) true := by
  unfold laws_eqByteS.f
  refine Ev.pos rfl ?_
  obtain ⟨r, rfl, h⟩ := Ev.upto (fun k (_ : Unit) i => laws_eqByteS.l0 k l l i) l.length (fun _ _ => True) (fun r => r = true)
    (fun i s h0 h1 _ => .inl ⟨(), trivial, fun k => by
      simp only [laws_eqByteS.l0]
      rw [if_pos h1, if_pos h0, if_pos h1, if_pos trivial, w64 (by omega) (by omega)]⟩)
    (fun s _ => ⟨true, rfl, fun k => by
      simp only [laws_eqByteS.l0]
      rw [if_neg (by omega)]⟩)
    0 () (by omega) (by omega) trivial
  exact h

/-- The check of bytes. -/
def checkL (h : Int) (l : List Int) : Int := l.foldl (fun h b => (h * 257 + b + 1) % 65521) h
theorem check_step (h b : Int) (h0 : 0 ≤ h) (h1 : h < 65521) (b0 : 0 ≤ b) (b1 : b < 256) : Int.tmod (wrap64 ((wrap64 ((wrap64 (h * 257)) + (wrap64 b))) + 1)) 65521 = (h * 257 + b + 1) % 65521 := by
  rw [w64 (x := h * 257) (by omega) (by omega), w64 (x := b) (by omega) (by omega), w64 (x := h * 257 + b) (by omega) (by omega), w64 (x := h * 257 + b + 1) (by omega) (by omega), Int.tmod_eq_emod_of_nonneg (by omega)]
theorem spec_CheckOf_ev (l : List Int) (hl : l.length ≤ 140737488351232) (hb : ∀ x ∈ l, 0 ≤ x ∧ x < 256) : Ev (fun k => spec_CheckOf.f k l) (checkL 1 l) := by
  unfold spec_CheckOf.f
  obtain ⟨r, hr, h⟩ := Ev.upto (fun k s i => spec_CheckOf.l0 k l s i) l.length (fun i s => 0 ≤ s ∧ s < 65521 ∧ checkL s (l.drop i.toNat) = checkL 1 l) (fun r => r = checkL 1 l)
    (fun i s h0 h1 ⟨p0, p1, hs⟩ => .inl ⟨(s * 257 + rd l i + 1) % 65521, ⟨by omega, by omega, by
      rw [← hs, drop_cons_at l i.toNat (by omega), show (i + 1).toNat = i.toNat + 1 by omega, rd_get l i h0 h1]
      rfl⟩, fun k => by
      have := hb _ (List.getElem_mem (l := l) (n := i.toNat) (by omega))
      simp only [spec_CheckOf.l0]
      rw [if_pos h1, if_pos h0, w64 (x := i + 1) (by omega) (by omega), check_step s _ p0 p1 (by rw [rd_get l i h0 h1]; exact this.1) (by rw [rd_get l i h0 h1]; exact this.2)]⟩)
    (fun s ⟨p0, p1, hs⟩ => ⟨s, by rw [← hs, List.drop_eq_nil_of_le (by omega)]; rfl, fun k => by
      simp only [spec_CheckOf.l0]
      rw [if_neg (by omega)]⟩)
    0 1 (by omega) (by omega) ⟨by omega, by omega, rfl⟩
  rw [hr] at h
  exact h
theorem impl_CheckOf_ev (l : List Int) (hl : l.length ≤ 140737488351232) (hb : ∀ x ∈ l, 0 ≤ x ∧ x < 256) : Ev (fun k => impl_CheckOf.f k l) (checkL 1 l) := by
  unfold impl_CheckOf.f
  obtain ⟨r, hr, h⟩ := Ev.upto (fun k s i => impl_CheckOf.l0 k s l (l.length : Int) i) l.length (fun i s => 0 ≤ s ∧ s < 65521 ∧ checkL s (l.drop i.toNat) = checkL 1 l) (fun r => r = checkL 1 l)
    (fun i s h0 h1 ⟨p0, p1, hs⟩ => .inl ⟨(s * 257 + rd l i + 1) % 65521, ⟨by omega, by omega, by
      rw [← hs, drop_cons_at l i.toNat (by omega), show (i + 1).toNat = i.toNat + 1 by omega, rd_get l i h0 h1]
      rfl⟩, fun k => by
      have := hb _ (List.getElem_mem (l := l) (n := i.toNat) (by omega))
      simp only [impl_CheckOf.l0]
      rw [if_pos h1, if_pos h0, if_pos h1, w64 (x := i + 1) (by omega) (by omega), check_step s _ p0 p1 (by rw [rd_get l i h0 h1]; exact this.1) (by rw [rd_get l i h0 h1]; exact this.2)]⟩)
    (fun s ⟨p0, p1, hs⟩ => ⟨s, by rw [← hs, List.drop_eq_nil_of_le (by omega)]; rfl, fun k => by
      simp only [impl_CheckOf.l0]
      rw [if_neg (by omega)]⟩)
    0 1 (by omega) (by omega) ⟨by omega, by omega, rfl⟩
  rw [hr] at h
  exact h
theorem FnExactCheckOf : ∀ (l0 : List Int), okL (fun n => (Lit.int .u8 n).wf = true) l0 → ∃ k, laws_FnExactCheckOf.f k l0 = some true := by
  intro l ⟨hl', hw⟩
  have hb : ∀ x ∈ l, 0 ≤ x ∧ x < 256 := fun x hx => wfU8 (hw x hx)
  refine Ev.rounds (r := true) ?_
  unfold laws_FnExactCheckOf.f
  refine Ev.ite (fun _ => Ev.now _) (fun hl => ?_)
  have ht := toByteS_ev l (by omega)
  exact Ev.bind ht (Ev.bind (spec_CheckOf_ev l (by omega) hb) (Ev.bind ht (Ev.bind (impl_CheckOf_ev l (by omega) hb) (Ev.pos rfl (Ev.bind ht (Ev.bind (eqByteS_ev l (by omega)) (Ev.pos rfl (Ev.now _))))))))

end Go.Proofs.Ytmknjjdipfcckaa.Pure
