/- FnExactUnpackNumber, the pure statement: the program's UnpackNumber and the reference's tell the same of any bytes, and the argument is as it was. No conditions. -/
import Derived.Test.YtmknjjdipfcckaaPFnExactUnpackNumberx1
import Derived.Test.YtmknjjdipfcckaaOFnExactUnpackNumber
namespace Go.Proofs.Ytmknjjdipfcckaa.Pure
open Go.RowKit Go.Proofs.Ytmknjjdipfcckaa.PFnExactUnpackNumber Go.Proofs.YtmknjjdipfcckaaW.PrintWords Go.Proofs.YtmknjjdipfcckaaW.PrintLast Go.Proofs.YtmknjjdipfcckaaW.PrintMore Go.Proofs.Ytmknjjdipfcckaa.Opens
/-! ### words of this text's own -/
theorem w64 {x : Int} (h0 : -9223372036854775808 ≤ x) (h1 : x ≤ 9223372036854775807) : wrap64 x = x := by
  unfold wrap64
  omega
theorem wfU8 {x : Int} (h : (Lit.int .u8 x).wf = true) : 0 ≤ x ∧ x < 256 := by
  simp [Lit.wf, IntKind.min, IntKind.max, IntKind.signed, IntKind.bits] at h
  omega
theorem wfI64 {x : Int} (h : (Lit.int .i64 x).wf = true) : -9223372036854775808 ≤ x ∧ x ≤ 9223372036854775807 := by
  simp [Lit.wf, IntKind.min, IntKind.max, IntKind.signed, IntKind.bits] at h
  omega
section
variable {α β σ : Type}
theorem Ev.ite {g f : Nat → Option α} {c : Prop} [Decidable c] {r : α} (ht : c → Ev g r) (hf : ¬ c → Ev f r) : Ev (fun k => if c then g k else f k) r := by
  by_cases h : c
  · simp only [if_pos h]; exact ht h
  · simp only [if_neg h]; exact hf h
theorem Ev.pos {g f : Nat → Option α} {c : Prop} [Decidable c] {r : α} (h : c) (ht : Ev g r) : Ev (fun k => if c then g k else f k) r := Ev.ite (fun _ => ht) (fun n => absurd h n)
theorem Ev.neg {g f : Nat → Option α} {c : Prop} [Decidable c] {r : α} (h : ¬ c) (hf : Ev f r) : Ev (fun k => if c then g k else f k) r := Ev.ite (fun y => absurd y h) (fun _ => hf)
theorem Ev.let {f : Nat → α → Option β} {a : α} {r : β} (k : Ev (fun n => f n a) r) : Ev (fun n => (some a).bind (f n)) r := Ev.bind (Ev.now a) k
theorem Ev.eq {g : Nat → Option α} {a b : α} (h : Ev g a) (e : a = b) : Ev g b := e ▸ h
/-- A loop that counts i up to n, with a state s: what it comes to, if 'P i s' leads from round to round. -/
theorem Ev.upto (F : Nat → σ → Int → Option α) (n : Int) (hn : n ≤ 9223372036854775807) (P : Int → σ → Prop) (R : α → Prop)
    (step : ∀ i s, 0 ≤ i → i < n → P i s → (∃ s', P (i + 1) s' ∧ ∀ r, Ev (fun k => F k s' (wrap64 (i + 1))) r → Ev (fun k => F k s i) r) ∨ (∃ r, R r ∧ Ev (fun k => F k s i) r))
    (stop : ∀ s, P n s → ∃ r, R r ∧ Ev (fun k => F k s n) r) (i : Int) (s : σ) (h0 : 0 ≤ i) (h1 : i ≤ n) (hP : P i s) : ∃ r, R r ∧ Ev (fun k => F k s i) r := by
  obtain ⟨d, hd⟩ : ∃ d : Nat, n - i = d := ⟨(n - i).toNat, by omega⟩
  induction d generalizing i s with
  | zero =>
    obtain rfl : i = n := by omega
    exact stop s hP
  | succ d ih =>
    rcases step i s h0 (by omega) hP with ⟨s', hP', h⟩ | h
    · obtain ⟨r, hr, he⟩ := ih (i + 1) s' (by omega) (by omega) hP' (by omega)
      exact ⟨r, hr, h r (by rw [w64 (by omega) (by omega)]; exact he)⟩
    · exact h
/-- The same, where what it comes to is one value. -/
theorem Ev.upto1 (F : Nat → σ → Int → Option α) (n : Int) (hn : n ≤ 9223372036854775807) (P : Int → σ → Prop) (r : α)
    (step : ∀ i s, 0 ≤ i → i < n → P i s → (∃ s', P (i + 1) s' ∧ (Ev (fun k => F k s' (wrap64 (i + 1))) r → Ev (fun k => F k s i) r)) ∨ Ev (fun k => F k s i) r)
    (stop : ∀ s, P n s → Ev (fun k => F k s n) r) (i : Int) (s : σ) (h0 : 0 ≤ i) (h1 : i ≤ n) (hP : P i s) : Ev (fun k => F k s i) r := by
  obtain ⟨d, hd⟩ : ∃ d : Nat, n - i = d := ⟨(n - i).toNat, by omega⟩
  induction d generalizing i s with
  | zero =>
    obtain rfl : i = n := by omega
    exact stop s hP
  | succ d ih =>
    rcases step i s h0 (by omega) hP with ⟨s', hP', h⟩ | h
    · exact h (by rw [w64 (by omega) (by omega)]; exact ih (i + 1) s' (by omega) (by omega) hP' (by omega))
    · exact h
theorem take_set_succ (l acc : List α) (i : Nat) (v : α) (h : i < acc.length) (ht : acc.take i = l.take i) (hv : l[i]? = some v) : (acc.set i v).take (i + 1) = l.take (i + 1) := by
  rw [List.take_add_one, List.take_add_one, hv, List.getElem?_set_self h, List.take_set_of_le (Nat.le_refl _), ht]
/-- A row filled cell by cell. -/
theorem Ev.fill (F : Nat → List α → Int → Option (List α)) (l : List α) (hl : l.length ≤ 9223372036854775807)
    (step : ∀ (i : Int) s (v : α), 0 ≤ i → i < (l.length : Int) → s.length = l.length → l[i.toNat]? = some v → Ev (fun k => F k (s.set i.toNat v) (wrap64 (i + 1))) l → Ev (fun k => F k s i) l)
    (stop : ∀ s, s.length = l.length → Ev (fun k => F k s (l.length : Int)) s) (s : List α) (hs : s.length = l.length) : Ev (fun k => F k s 0) l :=
  Ev.upto1 F l.length (by omega) (fun i s => s.length = l.length ∧ s.take i.toNat = l.take i.toNat) l
    (fun i s h0 h1 ⟨hs, ht⟩ => .inl ⟨s.set i.toNat (l[i.toNat]'(by omega)), ⟨by simp [hs], by
      rw [show (i + 1).toNat = i.toNat + 1 by omega]
      exact take_set_succ l s _ _ (by omega) ht (List.getElem?_eq_getElem (by omega))⟩, step i s _ h0 h1 hs (List.getElem?_eq_getElem (by omega))⟩)
    (fun s ⟨hs, ht⟩ => by
      rw [List.take_of_length_le (by omega), List.take_of_length_le (by omega)] at ht
      have := stop s hs
      subst ht
      exact this) 0 s (by omega) (by omega) ⟨hs, by simp⟩
/-- A loop that asks of each place, and comes to the end. -/
theorem Ev.each {F : Nat → Int → Option β} {r : β} (n : Nat) (hn : (n : Int) ≤ 9223372036854775807) (step : ∀ i : Int, 0 ≤ i → i < n → Ev (fun k => F k (wrap64 (i + 1))) r → Ev (fun k => F k i) r) (stop : Ev (fun k => F k (n : Int)) r) : Ev (fun k => F k 0) r :=
  Ev.upto1 (fun k (_ : Unit) i => F k i) n hn (fun _ _ => True) r (fun i _ h0 h1 _ => .inl ⟨(), trivial, step i h0 h1⟩) (fun _ _ => stop) 0 () (by omega) (by omega) trivial
end
theorem rd_get (l : List Int) (i : Int) (h0 : 0 ≤ i) (h1 : i < (l.length : Int)) : rd l i = l[i.toNat]'(by omega) := by
  unfold rd
  rw [List.getD_eq_getElem?_getD, List.getElem?_eq_getElem (by omega)]
  rfl
theorem rd_of {l : List Int} {i : Int} {v : Int} (h : l[i.toNat]? = some v) : rd l i = v := by
  unfold rd
  rw [List.getD_eq_getElem?_getD, h]
  rfl
theorem drop_cons_at {α : Type} (l : List α) (i : Nat) (h : i < l.length) : l.drop i = l[i] :: l.drop (i + 1) := List.drop_eq_getElem_cons h
theorem toByteS_ev (l : List Int) (hl : l.length ≤ 140737488351232) : Ev (fun k => laws_toByteS.f k l) l := by
  unfold laws_toByteS.f
  refine Ev.pos (by omega) (Ev.pos (by omega) ?_)
  exact Ev.fill (fun k s i => laws_toByteS.l0 k l s i) l (by omega)
    (fun i s v h0 h1 hs hv h => Ev.step (fun k => laws_toByteS.l0.eq_2 ..) (Ev.pos h1 (Ev.pos h0 (Ev.pos (by omega) (by rw [rd_of hv]; exact h)))))
    (fun s hs => Ev.step (fun k => laws_toByteS.l0.eq_2 ..) (Ev.neg (by omega) (Ev.now _))) _ (by simp)

theorem eqByteS_ev (l : List Int) (hl : l.length ≤ 140737488351232) : Ev (fun k => laws_eqByteS.f k l l) true := by
  unfold laws_eqByteS.f
  refine Ev.pos rfl ?_
  exact Ev.each (F := fun k i => laws_eqByteS.l0 k l l i) l.length (by omega)
    (fun i h0 h1 h => Ev.step (fun k => laws_eqByteS.l0.eq_2 ..) (Ev.pos h1 (Ev.pos h0 (Ev.pos h1 (Ev.pos rfl h)))))
    (Ev.step (fun k => laws_eqByteS.l0.eq_2 ..) (Ev.neg (by omega) (Ev.now _)))

/-- Eight bytes as a number without a sign, the highest ones first. -/
def numL (n : Int) (l : List Int) : Int := l.foldl (fun n b => (n * 256 + b) % 18446744073709551616) n
theorem u64w (x : Int) : IntKind.u64.wrap x = x % 18446744073709551616 := rfl
theorem numL_next (l : List Int) (i : Int) (s : Int) (h0 : 0 ≤ i) (h1 : i < (l.length : Int)) : numL (IntKind.u64.wrap ((IntKind.u64.wrap (s * 256)) + (IntKind.u64.wrap (rd l i)))) (l.drop (i + 1).toNat) = numL s (l.drop i.toNat) := by
  rw [drop_cons_at l i.toNat (by omega), show (i + 1).toNat = i.toNat + 1 by omega, rd_get l i h0 h1, u64w, u64w, u64w]
  show _ = numL ((s * 256 + l[i.toNat]'(by omega)) % 18446744073709551616) _
  congr 1
  omega
theorem spec_l3Number_ev (l : List Int) (hl : l.length = 8) : Ev (fun k => spec_l3Number.f k l) (wrap64 (numL 0 l)) := by
  unfold spec_l3Number.f
  exact Ev.upto1 (fun k s i => spec_l3Number.l0 k l s i) 8 (by omega) (fun i s => numL s (l.drop i.toNat) = numL 0 l) (wrap64 (numL 0 l))
    (fun i s h0 h1 hs => .inl ⟨_, (numL_next l i s h0 (by omega)).trans hs, fun h => Ev.step (fun k => spec_l3Number.l0.eq_2 ..) (Ev.pos h1 (Ev.pos h0 (Ev.pos (by omega) h)))⟩)
    (fun s hs => Ev.step (fun k => spec_l3Number.l0.eq_2 ..) (Ev.neg (by omega) (Ev.eq (Ev.now _) (by rw [← hs, List.drop_eq_nil_of_le (by rw [hl]; decide)]; rfl))))
    0 0 (by omega) (by omega) rfl
theorem spec_UnpackNumber_ev (l : List Int) : Ev (fun k => spec_UnpackNumber.f k l) (if l.length = 8 then (0, wrap64 (numL 0 l)) else (1, 0)) := by
  unfold spec_UnpackNumber.f
  by_cases h : l.length = 8
  · rw [if_pos h]
    exact Ev.pos (by omega) (Ev.bind (spec_l3Number_ev l h) (Ev.now _))
  · rw [if_neg h]
    exact Ev.neg (by omega) (Ev.now _)
theorem impl_UnpackNumber_ev (l : List Int) : Ev (fun k => impl_UnpackNumber.f k l) (if l.length = 8 then (0, wrap64 (numL 0 l)) else (1, 0)) := by
  unfold impl_UnpackNumber.f
  by_cases h : l.length = 8
  · rw [if_pos h]
    refine Ev.pos (by omega) ?_
    exact Ev.upto1 (fun k s i => impl_UnpackNumber.l0 k s l (l.length : Int) i) l.length (by omega) (fun i s => numL s (l.drop i.toNat) = numL 0 l) (0, wrap64 (numL 0 l))
      (fun i s h0 h1 hs => .inl ⟨_, (numL_next l i s h0 h1).trans hs, fun h => Ev.step (fun k => impl_UnpackNumber.l0.eq_2 ..) (Ev.pos h1 (Ev.pos h0 (Ev.pos h1 h)))⟩)
      (fun s hs => Ev.step (fun k => impl_UnpackNumber.l0.eq_2 ..) (Ev.neg (by omega) (Ev.eq (Ev.now _) (by rw [← hs, List.drop_eq_nil_of_le (by omega)]; rfl))))
      0 0 (by omega) (by omega) rfl
  · rw [if_neg h]
    exact Ev.neg (by omega) (Ev.now _)

theorem eqIntResult_ev (a b : Int) : laws_eqIntResult.f a b a b = some true := by
  unfold laws_eqIntResult.f
  rw [if_pos rfl, if_pos rfl]
theorem FnExactUnpackNumber : ∀ (l0 : List Int), okL (fun n => (Lit.int .u8 n).wf = true) l0 → ∃ k, laws_FnExactUnpackNumber.f k l0 = some true := by
  intro l _
  refine Ev.rounds (r := true) ?_
  unfold laws_FnExactUnpackNumber.f
  refine Ev.ite (fun _ => Ev.now _) (fun hl => ?_)
  have ht := toByteS_ev l (by omega)
  refine Ev.bind ht (Ev.bind (spec_UnpackNumber_ev l) (Ev.bind ht (Ev.bind (impl_UnpackNumber_ev l) ?_)))
  simp only [eqIntResult_ev, Option.bind_some]
  exact Ev.pos trivial (Ev.bind ht (Ev.bind (eqByteS_ev l (by omega)) (Ev.pos rfl (Ev.now _))))

end Go.Proofs.Ytmknjjdipfcckaa.Pure
