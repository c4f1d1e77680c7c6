/- FnExactLogFault, the pure statement: the program's LogFault and the reference's tell the same code of any log, and the argument is as it was. No conditions. -/
import Derived.Test.YtcdpiejcdeedoaaPFnExactLogFaultx2
import Derived.Test.YtcdpiejcdeedoaaOFnExactLogFault
namespace Go.Proofs.Ytcdpiejcdeedoaa.Pure
open Go.RowKit Go.Proofs.Ytcdpiejcdeedoaa.PFnExactLogFault Go.Proofs.YtcdpiejcdeedoaaW.PrintWords Go.Proofs.YtcdpiejcdeedoaaW.PrintLast Go.Proofs.YtcdpiejcdeedoaaW.PrintMore Go.Proofs.Ytcdpiejcdeedoaa.Opens
set_option linter.unusedVariables false
set_option linter.unusedSimpArgs false
/-! ### words of this text's own -/
theorem w64 {x : Int} (h0 : -9223372036854775808 ≤ x) (h1 : x ≤ 9223372036854775807) : wrap64 x = x := by
  unfold wrap64
  omega
theorem wfU8 {x : Int} (h : (Lit.int .u8 x).wf = true) : 0 ≤ x ∧ x < 256 := by
  simp [Lit.wf, IntKind.min, IntKind.max, IntKind.signed, IntKind.bits] at h
  omega
theorem wfI64 {x : Int} (h : (Lit.int .i64 x).wf = true) : -9223372036854775808 ≤ x ∧ x ≤ 9223372036854775807 := by
  simp [Lit.wf, IntKind.min, IntKind.max, IntKind.signed, IntKind.bits] at h
  omega
section
variable {α β σ : Type}
theorem Ev.ite {g f : Nat → Option α} {c : Prop} [Decidable c] {r : α} (ht : c → Ev g r) (hf : ¬ c → Ev f r) : Ev (fun k => if c then g k else f k) r := by
  by_cases h : c
  · simp only [if_pos h]; exact ht h
  · simp only [if_neg h]; exact hf h
theorem Ev.pos {g f : Nat → Option α} {c : Prop} [Decidable c] {r : α} (h : c) (ht : Ev g r) : Ev (fun k => if c then g k else f k) r := Ev.ite (fun _ => ht) (fun n => absurd h n)
theorem Ev.neg {g f : Nat → Option α} {c : Prop} [Decidable c] {r : α} (h : ¬ c) (hf : Ev f r) : Ev (fun k => if c then g k else f k) r := Ev.ite (fun y => absurd y h) (fun _ => hf)
theorem Ev.let {f : Nat → α → Option β} {a : α} {r : β} (k : Ev (fun n => f n a) r) : Ev (fun n => (some a).bind (f n)) r := Ev.bind (Ev.now a) k
theorem Ev.is {a : Option α} {r : α} (h : a = some r) : Ev (fun _ => a) r := ⟨0, fun _ _ => h⟩
theorem Ev.eq {g : Nat → Option α} {a b : α} (h : Ev g a) (e : a = b) : Ev g b := e ▸ h
/-- A loop that counts i up to n, with a state s: what it comes to, if 'P i s' leads from round to round. -/
theorem Ev.upto (F : Nat → σ → Int → Option α) (n : Int) (hn : n ≤ 9223372036854775807) (P : Int → σ → Prop) (R : α → Prop)
    (step : ∀ i s, 0 ≤ i → i < n → P i s → (∃ s', P (i + 1) s' ∧ ∀ r, Ev (fun k => F k s' (wrap64 (i + 1))) r → Ev (fun k => F k s i) r) ∨ (∃ r, R r ∧ Ev (fun k => F k s i) r))
    (stop : ∀ s, P n s → ∃ r, R r ∧ Ev (fun k => F k s n) r) (i : Int) (s : σ) (h0 : 0 ≤ i) (h1 : i ≤ n) (hP : P i s) : ∃ r, R r ∧ Ev (fun k => F k s i) r := by
  obtain ⟨d, hd⟩ : ∃ d : Nat, n - i = d := ⟨(n - i).toNat, by omega⟩
  induction d generalizing i s with
  | zero =>
    obtain rfl : i = n := by omega
    exact stop s hP
  | succ d ih =>
    rcases step i s h0 (by omega) hP with ⟨s', hP', h⟩ | h
    · obtain ⟨r, hr, he⟩ := ih (i + 1) s' (by omega) (by omega) hP' (by omega)
      exact ⟨r, hr, h r (by rw [w64 (by omega) (by omega)]; exact he)⟩
    · exact h
/-- The same, where what it comes to is one value. -/
theorem Ev.upto1 (F : Nat → σ → Int → Option α) (n : Int) (hn : n ≤ 9223372036854775807) (P : Int → σ → Prop) (r : α)
    (step : ∀ i s, 0 ≤ i → i < n → P i s → (∃ s', P (i + 1) s' ∧ (Ev (fun k => F k s' (wrap64 (i + 1))) r → Ev (fun k => F k s i) r)) ∨ Ev (fun k => F k s i) r)
    (stop : ∀ s, P n s → Ev (fun k => F k s n) r) (i : Int) (s : σ) (h0 : 0 ≤ i) (h1 : i ≤ n) (hP : P i s) : Ev (fun k => F k s i) r := by
  obtain ⟨d, hd⟩ : ∃ d : Nat, n - i = d := ⟨(n - i).toNat, by omega⟩
  induction d generalizing i s with
  | zero =>
    obtain rfl : i = n := by omega
    exact stop s hP
  | succ d ih =>
    rcases step i s h0 (by omega) hP with ⟨s', hP', h⟩ | h
    · exact h (by rw [w64 (by omega) (by omega)]; exact ih (i + 1) s' (by omega) (by omega) hP' (by omega))
    · exact h
theorem take_set_succ (l acc : List α) (i : Nat) (v : α) (h : i < acc.length) (ht : acc.take i = l.take i) (hv : l[i]? = some v) : (acc.set i v).take (i + 1) = l.take (i + 1) := by
  rw [List.take_add_one, List.take_add_one, hv, List.getElem?_set_self h, List.take_set_of_le (Nat.le_refl _), ht]
/-- A row filled cell by cell. -/
theorem Ev.fill (F : Nat → List α → Int → Option (List α)) (l : List α) (hl : l.length ≤ 9223372036854775807)
    (step : ∀ (i : Int) s (v : α), 0 ≤ i → i < (l.length : Int) → s.length = l.length → l[i.toNat]? = some v → Ev (fun k => F k (s.set i.toNat v) (wrap64 (i + 1))) l → Ev (fun k => F k s i) l)
    (stop : ∀ s, s.length = l.length → Ev (fun k => F k s (l.length : Int)) s) (s : List α) (hs : s.length = l.length) : Ev (fun k => F k s 0) l :=
  Ev.upto1 F l.length (by omega) (fun i s => s.length = l.length ∧ s.take i.toNat = l.take i.toNat) l
    (fun i s h0 h1 ⟨hs, ht⟩ => .inl ⟨s.set i.toNat (l[i.toNat]'(by omega)), ⟨by simp [hs], by
      rw [show (i + 1).toNat = i.toNat + 1 by omega]
      exact take_set_succ l s _ _ (by omega) ht (List.getElem?_eq_getElem (by omega))⟩, step i s _ h0 h1 hs (List.getElem?_eq_getElem (by omega))⟩)
    (fun s ⟨hs, ht⟩ => by
      rw [List.take_of_length_le (by omega), List.take_of_length_le (by omega)] at ht
      have := stop s hs
      subst ht
      exact this) 0 s (by omega) (by omega) ⟨hs, by simp⟩
/-- A loop that asks of each place, and comes to the end. -/
theorem Ev.each {F : Nat → Int → Option β} {r : β} (n : Nat) (hn : (n : Int) ≤ 9223372036854775807) (step : ∀ i : Int, 0 ≤ i → i < n → Ev (fun k => F k (wrap64 (i + 1))) r → Ev (fun k => F k i) r) (stop : Ev (fun k => F k (n : Int)) r) : Ev (fun k => F k 0) r :=
  Ev.upto1 (fun k (_ : Unit) i => F k i) n hn (fun _ _ => True) r (fun i _ h0 h1 _ => .inl ⟨(), trivial, step i h0 h1⟩) (fun _ _ => stop) 0 () (by omega) (by omega) trivial
end
theorem rd_get (l : List Int) (i : Int) (h0 : 0 ≤ i) (h1 : i < (l.length : Int)) : rd l i = l[i.toNat]'(by omega) := by
  unfold rd
  rw [List.getD_eq_getElem?_getD, List.getElem?_eq_getElem (by omega)]
  rfl
theorem rd_of {l : List Int} {i : Int} {v : Int} (h : l[i.toNat]? = some v) : rd l i = v := by
  unfold rd
  rw [List.getD_eq_getElem?_getD, h]
  rfl
theorem drop_cons_at {α : Type} (l : List α) (i : Nat) (h : i < l.length) : l.drop i = l[i] :: l.drop (i + 1) := List.drop_eq_getElem_cons h
/-- What is left of a bound behind a list, or less than nothing. -/
def szRest (n : Nat) (left : Int) : Int := if left - n < 0 then -1 else left - n
theorem szRest_ok {n : Nat} {left : Int} (h0 : left ≤ 1048576) (h1 : ¬ szRest n left < 0) : (n : Int) ≤ left ∧ szRest n left = left - n := by
  unfold szRest at *
  by_cases h : left - n < 0
  · rw [if_pos h] at h1; omega
  · rw [if_neg h]; exact ⟨by omega, rfl⟩

theorem szByteS_eq (l : List Int) (hl : l.length ≤ maxLen) (left : Int) (h0 : 0 ≤ left) (h1 : left ≤ 1048576) : laws_szByteS.f l left = some (szRest l.length left) := by
  unfold maxLen at hl
  unfold laws_szByteS.f szRest
  rw [w64 (by omega) (by omega)]
  split <;> rfl
theorem szLog_eq (l m : List Int) (hl : l.length ≤ maxLen) (hm : m.length ≤ maxLen) : ∃ r, laws_szLog.f l m 1048576 = some r ∧ (¬ r < 0 → l.length + m.length ≤ 1048576) := by
  unfold laws_szLog.f
  rw [szByteS_eq l hl _ (by decide) (by decide)]
  simp only [Option.bind_some]
  by_cases h : szRest l.length 1048576 < 0
  · rw [if_pos h]; exact ⟨-1, rfl, fun h => absurd (by decide) h⟩
  · obtain ⟨b1, e1⟩ := szRest_ok (by decide) h
    rw [if_neg h, e1, szByteS_eq m hm _ (by omega) (by omega)]
    simp only [Option.bind_some]
    by_cases h : szRest m.length (1048576 - l.length) < 0
    · rw [if_pos h]; exact ⟨-1, rfl, fun h => absurd (by decide) h⟩
    · obtain ⟨b2, e2⟩ := szRest_ok (by omega) h
      rw [if_neg h]
      exact ⟨_, rfl, fun _ => by omega⟩

theorem toByteS_ev (l : List Int) (hl : l.length ≤ 140737488351232) : Ev (fun k => laws_toByteS.f k l) l := by
  unfold laws_toByteS.f
  refine Ev.pos (by omega) (Ev.pos (by omega) ?_)
  exact Ev.fill (fun k s i => laws_toByteS.l0 k l s i) l (by omega)
    (fun i s v h0 h1 hs hv h => Ev.step (fun k => laws_toByteS.l0.eq_2 ..) (Ev.pos h1 (Ev.pos h0 (Ev.pos (by omega) (by rw [rd_of hv]; exact h)))))
    (fun s hs => Ev.step (fun k => laws_toByteS.l0.eq_2 ..) (Ev.neg (by omega) (Ev.now _))) _ (by simp)

theorem toLog_ev (l m : List Int) (h : l.length + m.length ≤ 1048576) : Ev (fun k => laws_toLog.f k l m) (l, m) := by
  unfold laws_toLog.f
  exact Ev.bind (toByteS_ev l (by omega)) (Ev.bind (toByteS_ev m (by omega)) (Ev.now _))

theorem eqByteS_ev (l : List Int) (hl : l.length ≤ 140737488351232) : Ev (fun k => laws_eqByteS.f k l l) true := by
  unfold laws_eqByteS.f
  refine Ev.pos rfl ?_
  exact Ev.each (F := fun k i => laws_eqByteS.l0 k l l i) l.length (by omega)
    (fun i h0 h1 h => Ev.step (fun k => laws_eqByteS.l0.eq_2 ..) (Ev.pos h1 (Ev.pos h0 (Ev.pos h1 (Ev.pos rfl h)))))
    (Ev.step (fun k => laws_eqByteS.l0.eq_2 ..) (Ev.neg (by omega) (Ev.now _)))

theorem eqLog_ev (l m : List Int) (h : l.length + m.length ≤ 2000000) : Ev (fun k => laws_eqLog.f k l m l m) true := by
  unfold laws_eqLog.f
  exact Ev.bind (eqByteS_ev l (by omega)) (Ev.pos rfl (Ev.bind (eqByteS_ev m (by omega)) (Ev.pos rfl (Ev.now _))))

/-- What LogFault tells of a log of so many bytes. -/
def logFault (n m : Nat) : Int := if wrap64 ((n : Int) + (m : Int)) > 6000 then 2 else 0
theorem spec_LogFault_eq (l m : List Int) : spec_LogFault.f l m = some (logFault l.length m.length) := by
  unfold spec_LogFault.f logFault
  split <;> rfl
theorem impl_LogFault_eq (l m : List Int) : impl_LogFault.f l m = some (logFault l.length m.length) := by
  unfold impl_LogFault.f logFault
  split <;> rfl
theorem FnExactLogFault : ∀ (l0_0 : List Int) (l0_1 : List Int), okL (fun n => (Lit.int .u8 n).wf = true) l0_0 → okL (fun n => (Lit.int .u8 n).wf = true) l0_1 → ∃ k, laws_FnExactLogFault.f k l0_0 l0_1 = some true := by
  intro l m hl hm
  refine Ev.rounds (r := true) ?_
  unfold laws_FnExactLogFault.f
  obtain ⟨r, hr, hb⟩ := szLog_eq l m hl.1 hm.1
  rw [hr]
  refine Ev.let (Ev.ite (fun _ => Ev.now _) (fun h => ?_))
  have ht := toLog_ev l m (hb h)
  exact Ev.bind ht (Ev.bind (Ev.is (spec_LogFault_eq l m)) (Ev.bind ht (Ev.bind (Ev.is (impl_LogFault_eq l m)) (Ev.pos rfl (Ev.bind ht (Ev.bind (eqLog_ev l m (by have := hb h; omega)) (Ev.pos rfl (Ev.now _))))))))

end Go.Proofs.Ytcdpiejcdeedoaa.Pure
