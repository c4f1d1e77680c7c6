/- FnExactGetRow, the pure statement: the program's GetRow and the reference's tell the same of any rows, key and version, and the argument is as it was. No conditions. -/
import Derived.Test.YtdhlcnlcpjlliaaPFnExactGetRowx6
import Derived.Test.YtdhlcnlcpjlliaaOFnExactGetRow
namespace Go.Proofs.Ytdhlcnlcpjlliaa.Pure
open Go.RowKit Go.Proofs.Ytdhlcnlcpjlliaa.PFnExactGetRow Go.Proofs.YtdhlcnlcpjlliaaW.PrintWords Go.Proofs.YtdhlcnlcpjlliaaW.PrintLast Go.Proofs.YtdhlcnlcpjlliaaW.PrintMore Go.Proofs.Ytdhlcnlcpjlliaa.Opens
set_option linter.unusedVariables false
set_option linter.unusedSimpArgs false
/-! ### words of this text's own -/
theorem w64 {x : Int} (h0 : -9223372036854775808 ≤ x) (h1 : x ≤ 9223372036854775807) : wrap64 x = x := by
  unfold wrap64
  omega
theorem wfU8 {x : Int} (h : (Lit.int .u8 x).wf = true) : 0 ≤ x ∧ x < 256 := by
  simp [Lit.wf, IntKind.min, IntKind.max, IntKind.signed, IntKind.bits] at h
  omega
theorem wfI64 {x : Int} (h : (Lit.int .i64 x).wf = true) : -9223372036854775808 ≤ x ∧ x ≤ 9223372036854775807 := by
  simp [Lit.wf, IntKind.min, IntKind.max, IntKind.signed, IntKind.bits] at h
  omega
section
variable {α β σ : Type}
theorem Ev.ite {g f : Nat → Option α} {c : Prop} [Decidable c] {r : α} (ht : c → Ev g r) (hf : ¬ c → Ev f r) : Ev (fun k => if c then g k else f k) r := by
  by_cases h : c
  · simp only [if_pos h]; exact ht h
  · simp only [if_neg h]; exact hf h
theorem Ev.pos {g f : Nat → Option α} {c : Prop} [Decidable c] {r : α} (h : c) (ht : Ev g r) : Ev (fun k => if c then g k else f k) r := Ev.ite (fun _ => ht) (fun n => absurd h n)
theorem Ev.neg {g f : Nat → Option α} {c : Prop} [Decidable c] {r : α} (h : ¬ c) (hf : Ev f r) : Ev (fun k => if c then g k else f k) r := Ev.ite (fun y => absurd y h) (fun _ => hf)
theorem Ev.cond {g f : Nat → Option α} {c : Prop} [Decidable c] {r s : α} (ht : c → Ev g r) (hf : ¬ c → Ev f s) : Ev (fun k => if c then g k else f k) (if c then r else s) := by
  by_cases h : c
  · simp only [if_pos h]; exact ht h
  · simp only [if_neg h]; exact hf h
theorem Ev.let {f : Nat → α → Option β} {a : α} {r : β} (k : Ev (fun n => f n a) r) : Ev (fun n => (some a).bind (f n)) r := Ev.bind (Ev.now a) k
theorem Ev.is {a : Option α} {r : α} (h : a = some r) : Ev (fun _ => a) r := ⟨0, fun _ _ => h⟩
theorem Ev.eq {g : Nat → Option α} {a b : α} (h : Ev g a) (e : a = b) : Ev g b := e ▸ h
/-- A loop that counts i up to n, with a state s: what it comes to, if 'P i s' leads from round to round. -/
theorem Ev.upto (F : Nat → σ → Int → Option α) (n : Int) (hn : n ≤ 9223372036854775807) (P : Int → σ → Prop) (R : α → Prop)
    (step : ∀ i s, 0 ≤ i → i < n → P i s → (∃ s', P (i + 1) s' ∧ ∀ r, Ev (fun k => F k s' (wrap64 (i + 1))) r → Ev (fun k => F k s i) r) ∨ (∃ r, R r ∧ Ev (fun k => F k s i) r))
    (stop : ∀ s, P n s → ∃ r, R r ∧ Ev (fun k => F k s n) r) (i : Int) (s : σ) (h0 : 0 ≤ i) (h1 : i ≤ n) (hP : P i s) : ∃ r, R r ∧ Ev (fun k => F k s i) r := by
  obtain ⟨d, hd⟩ : ∃ d : Nat, n - i = d := ⟨(n - i).toNat, by omega⟩
  induction d generalizing i s with
  | zero =>
    obtain rfl : i = n := by omega
    exact stop s hP
  | succ d ih =>
    rcases step i s h0 (by omega) hP with ⟨s', hP', h⟩ | h
    · obtain ⟨r, hr, he⟩ := ih (i + 1) s' (by omega) (by omega) hP' (by omega)
      exact ⟨r, hr, h r (by rw [w64 (by omega) (by omega)]; exact he)⟩
    · exact h
/-- The same, where what it comes to is one value. -/
theorem Ev.upto1 (F : Nat → σ → Int → Option α) (n : Int) (hn : n ≤ 9223372036854775807) (P : Int → σ → Prop) (r : α)
    (step : ∀ i s, 0 ≤ i → i < n → P i s → (∃ s', P (i + 1) s' ∧ (Ev (fun k => F k s' (wrap64 (i + 1))) r → Ev (fun k => F k s i) r)) ∨ Ev (fun k => F k s i) r)
    (stop : ∀ s, P n s → Ev (fun k => F k s n) r) (i : Int) (s : σ) (h0 : 0 ≤ i) (h1 : i ≤ n) (hP : P i s) : Ev (fun k => F k s i) r := by
  obtain ⟨d, hd⟩ : ∃ d : Nat, n - i = d := ⟨(n - i).toNat, by omega⟩
  induction d generalizing i s with
  | zero =>
    obtain rfl : i = n := by omega
    exact stop s hP
  | succ d ih =>
    rcases step i s h0 (by omega) hP with ⟨s', hP', h⟩ | h
    · exact h (by rw [w64 (by omega) (by omega)]; exact ih (i + 1) s' (by omega) (by omega) hP' (by omega))
    · exact h
theorem take_set_succ (l acc : List α) (i : Nat) (v : α) (h : i < acc.length) (ht : acc.take i = l.take i) (hv : l[i]? = some v) : (acc.set i v).take (i + 1) = l.take (i + 1) := by
  rw [List.take_add_one, List.take_add_one, hv, List.getElem?_set_self h, List.take_set_of_le (Nat.le_refl _), ht]
/-- A row filled cell by cell. -/
theorem Ev.fill (F : Nat → List α → Int → Option (List α)) (l : List α) (hl : l.length ≤ 9223372036854775807)
    (step : ∀ (i : Int) s (v : α), 0 ≤ i → i < (l.length : Int) → s.length = l.length → l[i.toNat]? = some v → Ev (fun k => F k (s.set i.toNat v) (wrap64 (i + 1))) l → Ev (fun k => F k s i) l)
    (stop : ∀ s, s.length = l.length → Ev (fun k => F k s (l.length : Int)) s) (s : List α) (hs : s.length = l.length) : Ev (fun k => F k s 0) l :=
  Ev.upto1 F l.length (by omega) (fun i s => s.length = l.length ∧ s.take i.toNat = l.take i.toNat) l
    (fun i s h0 h1 ⟨hs, ht⟩ => .inl ⟨s.set i.toNat (l[i.toNat]'(by omega)), ⟨by simp [hs], by
      rw [show (i + 1).toNat = i.toNat + 1 by omega]
      exact take_set_succ l s _ _ (by omega) ht (List.getElem?_eq_getElem (by omega))⟩, step i s _ h0 h1 hs (List.getElem?_eq_getElem (by omega))⟩)
    (fun s ⟨hs, ht⟩ => by
      rw [List.take_of_length_le (by omega), List.take_of_length_le (by omega)] at ht
      have := stop s hs
      subst ht
      exact this) 0 s (by omega) (by omega) ⟨hs, by simp⟩
/-- A loop that asks of each place, and comes to the end. -/
theorem Ev.each {F : Nat → Int → Option β} {r : β} (n : Nat) (hn : (n : Int) ≤ 9223372036854775807) (step : ∀ i : Int, 0 ≤ i → i < n → Ev (fun k => F k (wrap64 (i + 1))) r → Ev (fun k => F k i) r) (stop : Ev (fun k => F k (n : Int)) r) : Ev (fun k => F k 0) r :=
  Ev.upto1 (fun k (_ : Unit) i => F k i) n hn (fun _ _ => True) r (fun i _ h0 h1 _ => .inl ⟨(), trivial, step i h0 h1⟩) (fun _ _ => stop) 0 () (by omega) (by omega) trivial
end
theorem rd_get (l : List Int) (i : Int) (h0 : 0 ≤ i) (h1 : i < (l.length : Int)) : rd l i = l[i.toNat]'(by omega) := by
  unfold rd
  rw [List.getD_eq_getElem?_getD, List.getElem?_eq_getElem (by omega)]
  rfl
theorem rd_of {l : List Int} {i : Int} {v : Int} (h : l[i.toNat]? = some v) : rd l i = v := by
  unfold rd
  rw [List.getD_eq_getElem?_getD, h]
  rfl
theorem drop_cons_at {α : Type} (l : List α) (i : Nat) (h : i < l.length) : l.drop i = l[i] :: l.drop (i + 1) := List.drop_eq_getElem_cons h
/-- What is left of a bound behind a list, or less than nothing. -/
def szRest (n : Nat) (left : Int) : Int := if left - n < 0 then -1 else left - n
theorem szRest_ok {n : Nat} {left : Int} (h0 : left ≤ 1048576) (h1 : ¬ szRest n left < 0) : (n : Int) ≤ left ∧ szRest n left = left - n := by
  unfold szRest at *
  by_cases h : left - n < 0
  · rw [if_pos h] at h1; omega
  · rw [if_neg h]; exact ⟨by omega, rfl⟩

theorem rdRow {l : List S49} {i : Int} {v : S49} (h : l[i.toNat]? = some v) : rd_T49 l i = v := by
  unfold rd_T49
  rw [List.getD_eq_getElem?_getD, h]
  rfl
theorem rdRowL {l : List S84} {i : Int} {v : S84} (h : l[i.toNat]? = some v) : rd_T84 l i = v := by
  unfold rd_T84
  rw [List.getD_eq_getElem?_getD, h]
  rfl
theorem rdRow_at (l : List S49) (i : Int) (h0 : 0 ≤ i) (h1 : i < (l.length : Int)) : rd_T49 l i = l[i.toNat]'(by omega) := rdRow (List.getElem?_eq_getElem (by omega))

theorem szRowS_ev (l : List S84) (hl : okL ok84 l) (left : Int) (h0 : 0 ≤ left) (h1 : left ≤ 1048576) :
    ∃ r, (¬ r < 0 → 0 ≤ r ∧ r ≤ left - l.length ∧ ∀ x ∈ l, (x.f0.size : Int) ≤ left ∧ (x.f2.size : Int) ≤ left) ∧ Ev (fun k => laws_szRowS.f k l left) r := by
  have hn := hl.1
  unfold maxLen at hn
  unfold laws_szRowS.f
  rw [w64 (by omega) (by omega)]
  by_cases h : left - (l.length : Int) < 0
  · exact ⟨-1, fun h => absurd (by decide) h, Ev.pos h (Ev.now _)⟩
  · obtain ⟨r, hr, he⟩ := Ev.upto (fun k s i => laws_szRowS.l0 k l s i) l.length (by omega) (fun i s => 0 ≤ s ∧ s ≤ left - l.length ∧ ∀ x ∈ l.take i.toNat, (x.f0.size : Int) ≤ left ∧ (x.f2.size : Int) ≤ left) (fun r => ¬ r < 0 → 0 ≤ r ∧ r ≤ left - l.length ∧ ∀ x ∈ l, (x.f0.size : Int) ≤ left ∧ (x.f2.size : Int) ≤ left)
      (fun i s p0 p1 ⟨q0, q1, q2⟩ => by
        have e1 : l[i.toNat]? = some (l[i.toNat]'(by omega)) := List.getElem?_eq_getElem (by omega)
        have ht := List.take_succ_eq_append_getElem (l := l) (i := i.toNat) (by omega)
        have hx := hl.2 _ (List.getElem_mem (l := l) (n := i.toNat) (by omega))
        generalize l[i.toNat]'(by omega) = x at e1 ht hx
        have y0 := hx.1
        have y1 := hx.2.2.1
        unfold maxLen at y0 y1
        by_cases h2 : s - (x.f0.size : Int) < 0
        · refine .inr ⟨-1, fun h => absurd (by decide) h, Ev.step (fun k => laws_szRowS.l0.eq_2 ..) (Ev.pos p1 (Ev.pos p0 ?_))⟩
          rw [rdRowL e1]
          refine Ev.bind (a := -1) ?_ (Ev.pos (by decide) (Ev.now _))
          unfold laws_szRow.f
          rw [w64 (x := s - (x.f0.size : Int)) (by omega) (by omega)]
          exact Ev.pos h2 (Ev.now _)
        · by_cases h3 : s - (x.f0.size : Int) - (x.f2.size : Int) < 0
          · refine .inr ⟨-1, fun h => absurd (by decide) h, Ev.step (fun k => laws_szRowS.l0.eq_2 ..) (Ev.pos p1 (Ev.pos p0 ?_))⟩
            rw [rdRowL e1]
            refine Ev.bind (a := -1) ?_ (Ev.pos (by decide) (Ev.now _))
            unfold laws_szRow.f
            rw [w64 (x := s - (x.f0.size : Int)) (by omega) (by omega), w64 (x := s - (x.f0.size : Int) - (x.f2.size : Int)) (by omega) (by omega)]
            exact Ev.neg h2 (Ev.pos h3 (Ev.now _))
          · refine .inl ⟨s - (x.f0.size : Int) - (x.f2.size : Int), ⟨by omega, by omega, ?_⟩, fun r hr => Ev.step (fun k => laws_szRowS.l0.eq_2 ..) (Ev.pos p1 (Ev.pos p0 ?_))⟩
            · rw [show (i + 1).toNat = i.toNat + 1 by omega, ht]
              intro z hz
              rcases List.mem_append.1 hz with hz | hz
              · exact q2 z hz
              · obtain rfl := List.mem_singleton.1 hz
                omega
            · rw [rdRowL e1]
              refine Ev.bind (a := s - (x.f0.size : Int) - (x.f2.size : Int)) ?_ (Ev.neg (by omega) hr)
              unfold laws_szRow.f
              rw [w64 (x := s - (x.f0.size : Int)) (by omega) (by omega), w64 (x := s - (x.f0.size : Int) - (x.f2.size : Int)) (by omega) (by omega)]
              exact Ev.neg h2 (Ev.neg h3 (Ev.now _)))
      (fun s ⟨q0, q1, q2⟩ => ⟨s, fun _ => ⟨q0, q1, by rw [List.take_of_length_le (by omega)] at q2; exact q2⟩, Ev.step (fun k => laws_szRowS.l0.eq_2 ..) (Ev.neg (by omega) (Ev.now _))⟩)
      0 (left - l.length) (by omega) (by omega) ⟨by omega, by omega, by simp⟩
    exact ⟨r, hr, Ev.neg h he⟩

/-- What the law's mirror of a Row stands for. -/
def rowOf (x : S84) : S49 := ⟨x.f0, x.f1, x.f2, x.f3⟩
theorem toRowS_ev (l : List S84) (hl : l.length ≤ 1048576) : Ev (fun k => laws_toRowS.f k l) (l.map rowOf) := by
  unfold laws_toRowS.f
  refine Ev.pos (by omega) (Ev.pos (by omega) ?_)
  refine Ev.fill (fun k s i => laws_toRowS.l0 k l s i) (l.map rowOf) (by simp; omega)
    (fun i s v h0 h1 hs hv h => ?_)
    (fun s hs => Ev.step (fun k => laws_toRowS.l0.eq_2 ..) (Ev.neg (by simp) (Ev.now _))) _ (by simp)
  rw [List.length_map] at h1 hs
  rw [List.getElem?_map] at hv
  obtain ⟨w, hw, rfl⟩ := Option.map_eq_some_iff.1 hv
  refine Ev.step (fun k => laws_toRowS.l0.eq_2 ..) (Ev.pos h1 (Ev.pos h0 ?_))
  rw [rdRowL hw]
  exact Ev.let (Ev.pos (by omega) h)

theorem eqRow_rfl (a0 : ByteArray) (a1 : Int) (a2 : ByteArray) (a3 : Bool) : laws_eqRow.f a0 a1 a2 a3 a0 a1 a2 a3 = some true := by
  unfold laws_eqRow.f
  simp
theorem eqRowS_ev (l : List S49) (hl : (l.length : Int) ≤ 9223372036854775807) : Ev (fun k => laws_eqRowS.f k l l) true := by
  unfold laws_eqRowS.f
  refine Ev.pos rfl ?_
  refine Ev.each (F := fun k i => laws_eqRowS.l0 k l l i) l.length hl (fun i h0 h1 h => Ev.step (fun k => laws_eqRowS.l0.eq_2 ..) (Ev.pos h1 (Ev.pos h0 (Ev.pos h1 ?_)))) (Ev.step (fun k => laws_eqRowS.l0.eq_2 ..) (Ev.neg (by omega) (Ev.now _)))
  simp only [eqRow_rfl]
  exact Ev.let (Ev.pos rfl h)

/-- What RowFault tells of a row. -/
def rowFault (key : ByteArray) (v : Int) (val : ByteArray) (gone : Bool) : Int :=
  if 1 ≤ (key.size : Int) ∧ (key.size : Int) ≤ 20 ∧ ¬ (gone = true ∧ (val.toList != ([] : List UInt8)) = true) then (if (val.size : Int) > 100 then 2 else if 1 ≤ v ∧ v ≤ 1000000 then 0 else 3) else 1
theorem spec_RowFault_ev (key : ByteArray) (v : Int) (val : ByteArray) (gone : Bool) : Ev (fun k => spec_RowFault.f k key v val gone) (rowFault key v val gone) := by
  refine ⟨1, fun k hk => ?_⟩
  obtain ⟨k, rfl⟩ : ∃ j, k = j + 1 := ⟨k - 1, by omega⟩
  unfold spec_RowFault.f rowFault
  simp only [spec_RowFault.j0, spec_l1In.f]
  generalize (val.toList != ([] : List UInt8)) = e
  generalize (key.size : Int) = n
  generalize (val.size : Int) = m
  by_cases h1 : n < 1
  · have : ¬ 1 ≤ n := by omega
    simp [h1, this]
  · have h1' : 1 ≤ n := by omega
    by_cases h2 : n > 20
    · have : ¬ n ≤ 20 := by omega
      simp [h1, h2, this]
    · have h2' : n ≤ 20 := by omega
      by_cases h3 : m > 100 <;> by_cases h4 : 1 ≤ v <;> by_cases h5 : v ≤ 1000000 <;> cases gone <;> cases e <;> simp [h1, h2, h1', h2', h3, h4, h5]
theorem impl_RowFault_ev (key : ByteArray) (v : Int) (val : ByteArray) (gone : Bool) : Ev (fun k => impl_RowFault.f k key v val gone) (rowFault key v val gone) := by
  refine ⟨1, fun k hk => ?_⟩
  obtain ⟨k, rfl⟩ : ∃ j, k = j + 1 := ⟨k - 1, by omega⟩
  unfold impl_RowFault.f rowFault impl_isKey.f
  simp only [impl_RowFault.j0, impl_within.f, impl_isVersion.f]
  generalize (val.toList != ([] : List UInt8)) = e
  generalize (key.size : Int) = n
  generalize (val.size : Int) = m
  by_cases h1 : 1 ≤ n <;> by_cases h2 : n ≤ 20 <;> by_cases h3 : m > 100 <;> by_cases h4 : 1 ≤ v <;> by_cases h5 : v ≤ 1000000 <;> cases gone <;> cases e <;> simp [h1, h2, h3, h4, h5]

theorem compare_self (l : List UInt8) : Lib.compareBytes l l = 0 := by
  induction l with
  | nil => rfl
  | cons a l ih =>
    have h : ¬ a < a := UInt8.lt_irrefl a
    simp [Lib.compareBytes, h, ih]
/-- strings.Compare: before, the same, behind. -/
theorem compare_cases (l : List UInt8) : ∀ m : List UInt8, (Lib.compareBytes l m = 0 ∧ l = m) ∨ (Lib.compareBytes l m = -1 ∧ l ≠ m ∧ Op.bytesLess l m = true) ∨ (Lib.compareBytes l m = 1 ∧ l ≠ m ∧ Op.bytesLess l m = false) := by
  induction l with
  | nil =>
    intro m
    cases m with
    | nil => exact .inl ⟨rfl, rfl⟩
    | cons b m => exact .inr (.inl ⟨rfl, by simp, rfl⟩)
  | cons a l ih =>
    intro m
    cases m with
    | nil => exact .inr (.inr ⟨rfl, by simp, rfl⟩)
    | cons b m =>
      unfold Lib.compareBytes Op.bytesLess
      by_cases h1 : a < b
      · have hne : a ≠ b := fun h => by subst h; exact UInt8.lt_irrefl a h1
        exact .inr (.inl ⟨by simp [h1], by simp [hne], by simp [h1]⟩)
      · by_cases h2 : b < a
        · have hne : a ≠ b := fun h => by subst h; exact UInt8.lt_irrefl a h2
          exact .inr (.inr ⟨by simp [h1, h2], by simp [hne], by simp [h1, hne]⟩)
        · have he : a = b := by
            rw [UInt8.lt_iff_toNat_lt] at h1 h2
            exact UInt8.toNat_inj.1 (by omega)
          subst he
          rcases ih m with ⟨p, q⟩ | ⟨p, q, r⟩ | ⟨p, q, r⟩
          · exact .inl ⟨by simp [h1, p], by rw [q]⟩
          · exact .inr (.inl ⟨by simp [h1, p], by simp [q], by simp [r]⟩)
          · exact .inr (.inr ⟨by simp [h1, p], by simp [q], by simp [h1, r]⟩)
/-- Does one row stand ahead of another? -/
def aheadR (a b : S49) : Bool := if a.f0.toList = b.f0.toList then decide (a.f1 > b.f1) else Op.bytesLess a.f0.toList b.f0.toList
theorem spec_l5Ahead_eq (a b : S49) : spec_l5Ahead.f a.f0 a.f1 a.f2 a.f3 b.f0 b.f1 b.f2 b.f3 = some (aheadR a b) := by
  unfold spec_l5Ahead.f aheadR
  split <;> rfl
/-- What compareRows tells. -/
def cmpR (a b : S49) : Int := if Lib.compareBytes a.f0.data.toList b.f0.data.toList = 0 then (if b.f1 < a.f1 then -1 else if b.f1 > a.f1 then 1 else 0) else Lib.compareBytes a.f0.data.toList b.f0.data.toList
theorem or_ev (x y : Int) : Ev (fun k => cmp_Or_int.f k [x, y]) (if x = 0 then y else x) := by
  refine ⟨3, fun k hk => ?_⟩
  obtain ⟨k, rfl⟩ : ∃ j, k = j + 3 := ⟨k - 3, by omega⟩
  unfold cmp_Or_int.f
  have w1 : wrap64 (0 + 1) = 1 := by rw [w64 (by decide) (by decide)]; rfl
  have w2 : wrap64 (1 + 1) = 2 := by rw [w64 (by decide) (by decide)]; rfl
  have r0 : rd [x, y] 0 = x := rfl
  have r1 : rd [x, y] 1 = y := rfl
  simp only [cmp_Or_int.l0, List.length_cons, List.length_nil, w1, w2, r0, r1]
  by_cases h1 : x = 0 <;> by_cases h2 : y = 0 <;> simp [h1, h2]
theorem compare64_eq (x y : Int) : cmp_Compare_int64.f x y = some (if x < y then -1 else if x > y then 1 else 0) := by
  unfold cmp_Compare_int64.f cmp_isNaN_int64.f
  by_cases h1 : x < y
  · simp [h1]
  · by_cases h2 : y < x
    · simp [h1, h2]
    · simp [h1, h2]
theorem impl_compareRows_ev (a b : S49) : Ev (fun k => impl_compareRows.f k a.f0 a.f1 a.f2 a.f3 b.f0 b.f1 b.f2 b.f3) (cmpR a b) := by
  unfold impl_compareRows.f cmpR
  refine Ev.bind (a := Lib.compareBytes a.f0.data.toList b.f0.data.toList) (Ev.is rfl) (Ev.bind (Ev.is (compare64_eq _ _)) (Ev.bind (or_ev _ _) (Ev.now _)))
theorem cmpR_ahead (a b : S49) : cmpR a b ≥ 0 ↔ ¬ aheadR a b = true := by
  unfold cmpR aheadR
  rw [ByteArray.toList_eq, ByteArray.toList_eq]
  rcases compare_cases a.f0.data.toList b.f0.data.toList with ⟨p, q⟩ | ⟨p, q, r⟩ | ⟨p, q, r⟩
  · rw [p, if_pos rfl, if_pos q, decide_eq_true_iff]
    split
    · omega
    · split <;> omega
  · rw [p, if_neg (by decide), if_neg q, r]
    simp
  · rw [p, if_neg (by decide), if_neg q, r]
    simp

/-- What TableFault tells of the last d rows. -/
def tableFrom (l : List S49) : Nat → Int
  | 0 => 0
  | d + 1 => (fun i : Int => (fun (x y : S49) => if rowFault x.f0 x.f1 x.f2 x.f3 = 0 then (if i > 0 then (if aheadR y x = true then tableFrom l d else 1) else tableFrom l d) else rowFault x.f0 x.f1 x.f2 x.f3) (rd_T49 l i) (rd_T49 l (i - 1))) ((l.length : Int) - (d + 1))
def tableFault (l : List S49) : Int := if (l.length : Int) > 200 then 2 else tableFrom l l.length
theorem spec_TableFault_ev (l : List S49) : Ev (fun k => spec_TableFault.f k l) (tableFault l) := by
  unfold spec_TableFault.f tableFault
  refine Ev.cond (fun _ => Ev.now _) (fun hl => ?_)
  have go : ∀ d : Nat, d ≤ l.length → Ev (fun k => spec_TableFault.l0 k l ((l.length : Int) - d)) (tableFrom l d) := by
    intro d
    induction d with
    | zero => intro _; exact Ev.step (fun k => spec_TableFault.l0.eq_2 ..) (Ev.neg (by omega) (Ev.now _))
    | succ d ih =>
      intro hd
      have h := ih (by omega)
      refine Ev.step (fun k => spec_TableFault.l0.eq_2 ..) (Ev.pos (by omega) (Ev.pos (by omega) (Ev.bind (spec_RowFault_ev ..) ?_)))
      rw [w64 (x := (l.length : Int) - ((d + 1 : Nat) : Int) + 1) (by omega) (by omega), w64 (x := (l.length : Int) - ((d + 1 : Nat) : Int) - 1) (by omega) (by omega), show (l.length : Int) - ((d + 1 : Nat) : Int) + 1 = (l.length : Int) - d by omega]
      rw [show ((d + 1 : Nat) : Int) = (d : Int) + 1 by omega]
      unfold tableFrom
      refine Ev.cond (fun _ => Ev.cond (fun hp => Ev.pos (by omega) (Ev.pos (by omega) (Ev.bind (Ev.is (spec_l5Ahead_eq ..)) (Ev.cond (fun _ => h) (fun _ => Ev.now _))))) (fun _ => h)) (fun _ => Ev.now _)
  have := go l.length (by omega)
  rw [show (l.length : Int) - (l.length : Nat) = 0 by omega] at this
  exact this
theorem impl_TableFault_ev (l : List S49) : Ev (fun k => impl_TableFault.f k l) (tableFault l) := by
  unfold impl_TableFault.f tableFault
  refine Ev.cond (fun _ => Ev.now _) (fun hl => ?_)
  have go : ∀ d : Nat, d ≤ l.length → Ev (fun k => impl_TableFault.l0 k l l (l.length : Int) ((l.length : Int) - d)) (tableFrom l d) := by
    intro d
    induction d with
    | zero => intro _; exact Ev.step (fun k => impl_TableFault.l0.eq_2 ..) (Ev.neg (by omega) (Ev.now _))
    | succ d ih =>
      intro hd
      have h := ih (by omega)
      refine Ev.step (fun k => impl_TableFault.l0.eq_2 ..) (Ev.pos (by omega) (Ev.pos (by omega) (Ev.pos (by omega) (Ev.bind (impl_RowFault_ev ..) ?_))))
      rw [w64 (x := (l.length : Int) - ((d + 1 : Nat) : Int) + 1) (by omega) (by omega), w64 (x := (l.length : Int) - ((d + 1 : Nat) : Int) - 1) (by omega) (by omega), show (l.length : Int) - ((d + 1 : Nat) : Int) + 1 = (l.length : Int) - d by omega]
      rw [show ((d + 1 : Nat) : Int) = (d : Int) + 1 by omega]
      unfold tableFrom
      refine Ev.cond (fun _ => Ev.cond (fun hp => Ev.pos (by omega) (Ev.pos (by omega) (Ev.bind (impl_compareRows_ev ..) ?_))) (fun _ => h)) (fun _ => Ev.now _)
      by_cases ha : aheadR (rd_T49 l ((l.length : Int) - ((d : Int) + 1) - 1)) (rd_T49 l ((l.length : Int) - ((d : Int) + 1))) = true
      · rw [if_pos ha]
        exact Ev.neg (fun h => (cmpR_ahead _ _).1 h ha) h
      · rw [if_neg ha]
        exact Ev.pos ((cmpR_ahead _ _).2 ha) (Ev.now _)
  have := go l.length (by omega)
  rw [show (l.length : Int) - (l.length : Nat) = 0 by omega] at this
  exact this

/-- Is it a row of this key, not younger? -/
def isGet (key : ByteArray) (v : Int) (x : S49) : Bool := (x.f0.toList == key.toList) && decide (x.f1 ≤ v)
theorem index_ev [FN_slices_IndexFunc_impl_Row] (q : S49 → Bool) (hq : ∀ x : S49, FN_slices_IndexFunc_impl_Row.f x.f0 x.f1 x.f2 x.f3 = some (q x)) (l : List S49) (hl : l.length ≤ 1000000000) :
    ∃ r : Int, (r < 0 ∧ l.find? q = none ∨ 0 ≤ r ∧ r < (l.length : Int) ∧ l.find? q = some (rd_T49 l r)) ∧ Ev (fun k => slices_IndexFunc_impl_Row.f k l) r := by
  unfold slices_IndexFunc_impl_Row.f
  exact Ev.upto (fun k (_ : Unit) i => slices_IndexFunc_impl_Row.l0 k l (l.length : Int) i) l.length (by omega) (fun i _ => (l.drop i.toNat).find? q = l.find? q) (fun r => r < 0 ∧ l.find? q = none ∨ 0 ≤ r ∧ r < (l.length : Int) ∧ l.find? q = some (rd_T49 l r))
    (fun i _ h0 h1 hp => by
      have hr := rdRow_at l i h0 h1
      rw [drop_cons_at l i.toNat (by omega), List.find?_cons] at hp
      generalize l[i.toNat]'(by omega) = x at hr hp
      by_cases hx : q x = true
      · rw [hx] at hp
        refine .inr ⟨i, .inr ⟨h0, h1, by rw [hr]; exact hp.symm⟩, Ev.step (fun k => slices_IndexFunc_impl_Row.l0.eq_2 ..) (Ev.pos h1 (Ev.pos h0 (Ev.pos h1 ?_)))⟩
        rw [hr]
        exact Ev.bind (Ev.is (hq x)) (Ev.pos hx (Ev.now _))
      · have hf : q x = false := by simpa using hx
        rw [hf] at hp
        refine .inl ⟨(), by rw [show (i + 1).toNat = i.toNat + 1 by omega]; exact hp, fun r h => Ev.step (fun k => slices_IndexFunc_impl_Row.l0.eq_2 ..) (Ev.pos h1 (Ev.pos h0 (Ev.pos h1 ?_)))⟩
        rw [hr]
        exact Ev.bind (Ev.is (hq x)) (Ev.neg hx h))
    (fun _ hp => ⟨-1, .inl ⟨by decide, by rw [← hp, List.drop_eq_nil_of_le (by omega)]; rfl⟩, Ev.step (fun k => slices_IndexFunc_impl_Row.l0.eq_2 ..) (Ev.neg (by omega) (Ev.now _))⟩)
    0 () (by omega) (by omega) rfl
/-- What a reading tells of rows. -/
def findR (l : List S49) (key : ByteArray) (v : Int) : Option S49 := l.find? (isGet key v)
theorem spec_l5Get_ev (l : List S49) (key : ByteArray) (v : Int) (hl : l.length ≤ 1000000000) :
    ∃ r : Int, (r < 0 ∧ (∀ x, findR l key v = some x → x.f3 = true) ∨ 0 ≤ r ∧ r < (l.length : Int) ∧ findR l key v = some (rd_T49 l r) ∧ (rd_T49 l r).f3 = false) ∧ Ev (fun k => spec_l5Get.f k l key v) r := by
  unfold spec_l5Get.f findR
  exact Ev.upto (fun k (_ : Unit) i => spec_l5Get.l0 k l key v i) l.length (by omega) (fun i _ => (l.drop i.toNat).find? (isGet key v) = l.find? (isGet key v)) (fun r => r < 0 ∧ (∀ x, l.find? (isGet key v) = some x → x.f3 = true) ∨ 0 ≤ r ∧ r < (l.length : Int) ∧ l.find? (isGet key v) = some (rd_T49 l r) ∧ (rd_T49 l r).f3 = false)
    (fun i _ h0 h1 hp => by
      have hr := rdRow_at l i h0 h1
      rw [drop_cons_at l i.toNat (by omega), List.find?_cons] at hp
      generalize l[i.toNat]'(by omega) = x at hr hp
      have hgo : ∀ r, Ev (fun k => spec_l5Get.j1 k l key v i (isGet key v x)) r → Ev (fun k => spec_l5Get.l0 k l key v i) r := by
        intro r h
        refine Ev.step (fun k => spec_l5Get.l0.eq_2 ..) (Ev.pos h1 (Ev.pos h0 ?_))
        rw [hr]
        unfold isGet at h
        by_cases hk : x.f0.toList = key.toList
        · refine Ev.pos hk ?_
          have e : (x.f0.toList == key.toList) = true := by simpa using hk
          rw [e, Bool.true_and] at h
          exact h
        · refine Ev.neg hk ?_
          have e : (x.f0.toList == key.toList) = false := by simpa using hk
          rw [e, Bool.false_and] at h
          exact h
      by_cases hx : isGet key v x = true
      · rw [hx] at hp
        by_cases hgone : x.f3 = true
        · refine .inr ⟨-1, .inl ⟨by decide, fun y hy => by rw [← hp] at hy; cases hy; exact hgone⟩, hgo _ (Ev.step (fun k => spec_l5Get.j1.eq_2 ..) (Ev.pos hx (Ev.pos h0 (Ev.pos h1 ?_))))⟩
          rw [hr]
          exact Ev.pos hgone (Ev.now _)
        · refine .inr ⟨i, .inr ⟨h0, h1, by rw [hr]; exact hp.symm, by rw [hr]; simpa using hgone⟩, hgo _ (Ev.step (fun k => spec_l5Get.j1.eq_2 ..) (Ev.pos hx (Ev.pos h0 (Ev.pos h1 ?_))))⟩
          rw [hr]
          exact Ev.neg hgone (Ev.now _)
      · have hf : isGet key v x = false := by simpa using hx
        rw [hf] at hp
        exact .inl ⟨(), by rw [show (i + 1).toNat = i.toNat + 1 by omega]; exact hp, fun r h => hgo _ (Ev.step (fun k => spec_l5Get.j1.eq_2 ..) (Ev.neg hx h))⟩)
    (fun _ hp => ⟨-1, .inl ⟨by decide, fun y hy => by rw [← hp, List.drop_eq_nil_of_le (by omega)] at hy; cases hy⟩, Ev.step (fun k => spec_l5Get.l0.eq_2 ..) (Ev.neg (by omega) (Ev.now _))⟩)
    0 () (by omega) (by omega) rfl
/-- What GetRow tells. -/
def getR (l : List S49) (key : ByteArray) (v : Int) : Int × ByteArray :=
  if tableFault l = 0 then (match findR l key v with | some x => if x.f3 = true then (4, ⟨#[]⟩) else (0, x.f2) | none => (4, ⟨#[]⟩)) else (tableFault l, ⟨#[]⟩)
theorem spec_GetRow_ev (l : List S49) (key : ByteArray) (v : Int) (hl : l.length ≤ 1000000000) : Ev (fun k => spec_GetRow.f k l key v) (getR l key v) := by
  unfold spec_GetRow.f getR
  refine Ev.bind (spec_TableFault_ev l) (Ev.cond (fun _ => ?_) (fun _ => Ev.now _))
  obtain ⟨r, hr, he⟩ := spec_l5Get_ev l key v hl
  refine Ev.bind he ?_
  rcases hr with ⟨h0, h1⟩ | ⟨h0, h1, h2, h3⟩
  · refine Ev.pos h0 (Ev.eq (Ev.now _) ?_)
    cases hf : findR l key v with
    | none => rfl
    | some x => simp only [h1 x hf, if_true]
  · refine Ev.neg (by omega) (Ev.pos h0 (Ev.pos h1 (Ev.eq (Ev.now _) ?_)))
    rw [h2]
    simp only [h3, Bool.false_eq_true, if_false]
theorem impl_rowOf_ev (l : List S49) (key : ByteArray) (v : Int) (hl : l.length ≤ 1000000000) : Ev (fun k => impl_rowOf.f k l key v) (match findR l key v with | some x => (x.f0, x.f1, x.f2, x.f3, true) | none => (⟨#[]⟩, 0, ⟨#[]⟩, false, false)) := by
  unfold impl_rowOf.f CL_114.f
  obtain ⟨r, hr, he⟩ := @index_ev (CL_114.p key v) (isGet key v) (fun x => rfl) l hl
  refine Ev.bind he ?_
  unfold findR
  rcases hr with ⟨h0, h1⟩ | ⟨h0, h1, h2⟩
  · rw [h1]
    exact Ev.pos h0 (Ev.now _)
  · rw [h2]
    exact Ev.neg (by omega) (Ev.pos h0 (Ev.pos h1 (Ev.now _)))
theorem impl_GetRow_ev (l : List S49) (key : ByteArray) (v : Int) (hl : l.length ≤ 1000000000) : Ev (fun k => impl_GetRow.f k l key v) (getR l key v) := by
  unfold impl_GetRow.f getR
  refine Ev.bind (impl_TableFault_ev l) (Ev.cond (fun _ => Ev.bind (impl_rowOf_ev l key v hl) ?_) (fun _ => Ev.now _))
  cases hf : findR l key v with
  | none => exact Ev.neg (by simp) (Ev.now _)
  | some x =>
    refine Ev.pos (show (true : Bool) = true from rfl) ?_
    show Ev (fun k => if x.f3 = true then some (4, (⟨#[]⟩ : ByteArray)) else some (0, x.f2)) (if x.f3 = true then (4, (⟨#[]⟩ : ByteArray)) else (0, x.f2))
    by_cases hg : x.f3 = true
    · rw [if_pos hg]
      exact Ev.eq (Ev.now _) (if_pos hg).symm
    · rw [if_neg hg]
      exact Ev.eq (Ev.now _) (if_neg hg).symm
theorem FnExactGetRow : ∀ (l0 : List (S84)) (a1 : ByteArray) (a2 : Int), okL ok84 l0 → a1.size ≤ maxLen → (Lit.int .i64 a2).wf = true → ∃ k, laws_FnExactGetRow.f k l0 a1 a2 = some true := by
  intro l key v hl _ _
  refine Ev.rounds (r := true) ?_
  unfold laws_FnExactGetRow.f
  refine Ev.ite (fun _ => Ev.now _) (fun _ => ?_)
  obtain ⟨r, hr, hsz⟩ := szRowS_ev l hl 1048576 (by decide) (by decide)
  refine Ev.bind hsz (Ev.ite (fun _ => Ev.now _) (fun h => ?_))
  have hr := hr h
  have ht := toRowS_ev l (by omega)
  have hlen : (l.map rowOf).length ≤ 1000000000 := by simp; omega
  refine Ev.bind ht (Ev.bind (spec_GetRow_ev _ key v hlen) (Ev.bind ht (Ev.bind (impl_GetRow_ev _ key v hlen) (Ev.bind (a := true) (Ev.is (by unfold laws_eqTextResult.f; simp)) (Ev.pos rfl ?_)))))
  exact Ev.bind ht (Ev.bind (eqRowS_ev _ (by simp; omega)) (Ev.pos rfl (Ev.now _)))

end Go.Proofs.Ytdhlcnlcpjlliaa.Pure
