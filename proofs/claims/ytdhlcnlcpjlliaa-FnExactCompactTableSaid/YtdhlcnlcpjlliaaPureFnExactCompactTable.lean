/- FnExactCompactTable, the pure statement: the program's CompactTable and the reference's tell the same rows of any rows and floor; the argument is as it was, and the answer is new memory. No conditions. -/
import Derived.Test.YtdhlcnlcpjlliaaPFnExactCompactTablex9
import Derived.Test.YtdhlcnlcpjlliaaOFnExactCompactTable
namespace Go.Proofs.Ytdhlcnlcpjlliaa.Pure
open Go.RowKit Go.Proofs.Ytdhlcnlcpjlliaa.PFnExactCompactTable Go.Proofs.YtdhlcnlcpjlliaaW.PrintWords Go.Proofs.YtdhlcnlcpjlliaaW.PrintLast Go.Proofs.YtdhlcnlcpjlliaaW.PrintMore Go.Proofs.Ytdhlcnlcpjlliaa.Opens
set_option linter.unusedVariables false
set_option linter.unusedSimpArgs false
/-! ### words of this text's own -/
theorem w64 {x : Int} (h0 : -9223372036854775808 ≤ x) (h1 : x ≤ 9223372036854775807) : wrap64 x = x := by
  unfold wrap64
  omega
theorem wfU8 {x : Int} (h : (Lit.int .u8 x).wf = true) : 0 ≤ x ∧ x < 256 := by
  simp [Lit.wf, IntKind.min, IntKind.max, IntKind.signed, IntKind.bits] at h
  omega
theorem wfI64 {x : Int} (h : (Lit.int .i64 x).wf = true) : -9223372036854775808 ≤ x ∧ x ≤ 9223372036854775807 := by
  simp [Lit.wf, IntKind.min, IntKind.max, IntKind.signed, IntKind.bits] at h
  omega
section
variable {α β σ : Type}
theorem Ev.ite {g f : Nat → Option α} {c : Prop} [Decidable c] {r : α} (ht : c → Ev g r) (hf : ¬ c → Ev f r) : Ev (fun k => if c then g k else f k) r := by
  by_cases h : c
  · simp only [if_pos h]; exact ht h
  · simp only [if_neg h]; exact hf h
theorem Ev.pos {g f : Nat → Option α} {c : Prop} [Decidable c] {r : α} (h : c) (ht : Ev g r) : Ev (fun k => if c then g k else f k) r := Ev.ite (fun _ => ht) (fun n => absurd h n)
theorem Ev.neg {g f : Nat → Option α} {c : Prop} [Decidable c] {r : α} (h : ¬ c) (hf : Ev f r) : Ev (fun k => if c then g k else f k) r := Ev.ite (fun y => absurd y h) (fun _ => hf)
theorem Ev.cond {g f : Nat → Option α} {c : Prop} [Decidable c] {r s : α} (ht : c → Ev g r) (hf : ¬ c → Ev f s) : Ev (fun k => if c then g k else f k) (if c then r else s) := by
  by_cases h : c
  · simp only [if_pos h]; exact ht h
  · simp only [if_neg h]; exact hf h
theorem Ev.let {f : Nat → α → Option β} {a : α} {r : β} (k : Ev (fun n => f n a) r) : Ev (fun n => (some a).bind (f n)) r := Ev.bind (Ev.now a) k
theorem Ev.is {a : Option α} {r : α} (h : a = some r) : Ev (fun _ => a) r := ⟨0, fun _ _ => h⟩
theorem Ev.eq {g : Nat → Option α} {a b : α} (h : Ev g a) (e : a = b) : Ev g b := e ▸ h
/-- A loop that counts i up to n, with a state s: what it comes to, if 'P i s' leads from round to round. -/
theorem Ev.upto (F : Nat → σ → Int → Option α) (n : Int) (hn : n ≤ 9223372036854775807) (P : Int → σ → Prop) (R : α → Prop)
    (step : ∀ i s, 0 ≤ i → i < n → P i s → (∃ s', P (i + 1) s' ∧ ∀ r, Ev (fun k => F k s' (wrap64 (i + 1))) r → Ev (fun k => F k s i) r) ∨ (∃ r, R r ∧ Ev (fun k => F k s i) r))
    (stop : ∀ s, P n s → ∃ r, R r ∧ Ev (fun k => F k s n) r) (i : Int) (s : σ) (h0 : 0 ≤ i) (h1 : i ≤ n) (hP : P i s) : ∃ r, R r ∧ Ev (fun k => F k s i) r := by
  obtain ⟨d, hd⟩ : ∃ d : Nat, n - i = d := ⟨(n - i).toNat, by omega⟩
  induction d generalizing i s with
  | zero =>
    obtain rfl : i = n := by omega
    exact stop s hP
  | succ d ih =>
    rcases step i s h0 (by omega) hP with ⟨s', hP', h⟩ | h
    · obtain ⟨r, hr, he⟩ := ih (i + 1) s' (by omega) (by omega) hP' (by omega)
      exact ⟨r, hr, h r (by rw [w64 (by omega) (by omega)]; exact he)⟩
    · exact h
/-- The same, where what it comes to is one value. -/
theorem Ev.upto1 (F : Nat → σ → Int → Option α) (n : Int) (hn : n ≤ 9223372036854775807) (P : Int → σ → Prop) (r : α)
    (step : ∀ i s, 0 ≤ i → i < n → P i s → (∃ s', P (i + 1) s' ∧ (Ev (fun k => F k s' (wrap64 (i + 1))) r → Ev (fun k => F k s i) r)) ∨ Ev (fun k => F k s i) r)
    (stop : ∀ s, P n s → Ev (fun k => F k s n) r) (i : Int) (s : σ) (h0 : 0 ≤ i) (h1 : i ≤ n) (hP : P i s) : Ev (fun k => F k s i) r := by
  obtain ⟨d, hd⟩ : ∃ d : Nat, n - i = d := ⟨(n - i).toNat, by omega⟩
  induction d generalizing i s with
  | zero =>
    obtain rfl : i = n := by omega
    exact stop s hP
  | succ d ih =>
    rcases step i s h0 (by omega) hP with ⟨s', hP', h⟩ | h
    · exact h (by rw [w64 (by omega) (by omega)]; exact ih (i + 1) s' (by omega) (by omega) hP' (by omega))
    · exact h
theorem take_set_succ (l acc : List α) (i : Nat) (v : α) (h : i < acc.length) (ht : acc.take i = l.take i) (hv : l[i]? = some v) : (acc.set i v).take (i + 1) = l.take (i + 1) := by
  rw [List.take_add_one, List.take_add_one, hv, List.getElem?_set_self h, List.take_set_of_le (Nat.le_refl _), ht]
/-- A row filled cell by cell. -/
theorem Ev.fill (F : Nat → List α → Int → Option (List α)) (l : List α) (hl : l.length ≤ 9223372036854775807)
    (step : ∀ (i : Int) s (v : α), 0 ≤ i → i < (l.length : Int) → s.length = l.length → l[i.toNat]? = some v → Ev (fun k => F k (s.set i.toNat v) (wrap64 (i + 1))) l → Ev (fun k => F k s i) l)
    (stop : ∀ s, s.length = l.length → Ev (fun k => F k s (l.length : Int)) s) (s : List α) (hs : s.length = l.length) : Ev (fun k => F k s 0) l :=
  Ev.upto1 F l.length (by omega) (fun i s => s.length = l.length ∧ s.take i.toNat = l.take i.toNat) l
    (fun i s h0 h1 ⟨hs, ht⟩ => .inl ⟨s.set i.toNat (l[i.toNat]'(by omega)), ⟨by simp [hs], by
      rw [show (i + 1).toNat = i.toNat + 1 by omega]
      exact take_set_succ l s _ _ (by omega) ht (List.getElem?_eq_getElem (by omega))⟩, step i s _ h0 h1 hs (List.getElem?_eq_getElem (by omega))⟩)
    (fun s ⟨hs, ht⟩ => by
      rw [List.take_of_length_le (by omega), List.take_of_length_le (by omega)] at ht
      have := stop s hs
      subst ht
      exact this) 0 s (by omega) (by omega) ⟨hs, by simp⟩
/-- A loop that asks of each place, and comes to the end. -/
theorem Ev.each {F : Nat → Int → Option β} {r : β} (n : Nat) (hn : (n : Int) ≤ 9223372036854775807) (step : ∀ i : Int, 0 ≤ i → i < n → Ev (fun k => F k (wrap64 (i + 1))) r → Ev (fun k => F k i) r) (stop : Ev (fun k => F k (n : Int)) r) : Ev (fun k => F k 0) r :=
  Ev.upto1 (fun k (_ : Unit) i => F k i) n hn (fun _ _ => True) r (fun i _ h0 h1 _ => .inl ⟨(), trivial, step i h0 h1⟩) (fun _ _ => stop) 0 () (by omega) (by omega) trivial
end
theorem rd_get (l : List Int) (i : Int) (h0 : 0 ≤ i) (h1 : i < (l.length : Int)) : rd l i = l[i.toNat]'(by omega) := by
  unfold rd
  rw [List.getD_eq_getElem?_getD, List.getElem?_eq_getElem (by omega)]
  rfl
theorem rd_of {l : List Int} {i : Int} {v : Int} (h : l[i.toNat]? = some v) : rd l i = v := by
  unfold rd
  rw [List.getD_eq_getElem?_getD, h]
  rfl
theorem drop_cons_at {α : Type} (l : List α) (i : Nat) (h : i < l.length) : l.drop i = l[i] :: l.drop (i + 1) := List.drop_eq_getElem_cons h
/-- What is left of a bound behind a list, or less than nothing. -/
def szRest (n : Nat) (left : Int) : Int := if left - n < 0 then -1 else left - n
theorem szRest_ok {n : Nat} {left : Int} (h0 : left ≤ 1048576) (h1 : ¬ szRest n left < 0) : (n : Int) ≤ left ∧ szRest n left = left - n := by
  unfold szRest at *
  by_cases h : left - n < 0
  · rw [if_pos h] at h1; omega
  · rw [if_neg h]; exact ⟨by omega, rfl⟩

theorem rdRow {l : List S49} {i : Int} {v : S49} (h : l[i.toNat]? = some v) : rd_T49 l i = v := by
  unfold rd_T49
  rw [List.getD_eq_getElem?_getD, h]
  rfl
theorem rdRowL {l : List S84} {i : Int} {v : S84} (h : l[i.toNat]? = some v) : rd_T84 l i = v := by
  unfold rd_T84
  rw [List.getD_eq_getElem?_getD, h]
  rfl
theorem rdRow_at (l : List S49) (i : Int) (h0 : 0 ≤ i) (h1 : i < (l.length : Int)) : rd_T49 l i = l[i.toNat]'(by omega) := rdRow (List.getElem?_eq_getElem (by omega))

theorem szRowS_ev (l : List S84) (hl : okL ok84 l) (left : Int) (h0 : 0 ≤ left) (h1 : left ≤ 1048576) :
    ∃ r, (¬ r < 0 → 0 ≤ r ∧ r ≤ left - l.length ∧ ∀ x ∈ l, (x.f0.size : Int) ≤ left ∧ (x.f2.size : Int) ≤ left) ∧ Ev (fun k => laws_szRowS.f k l left) r := by
  have hn := hl.1
  unfold maxLen at hn
  unfold laws_szRowS.f
  rw [w64 (by omega) (by omega)]
  by_cases h : left - (l.length : Int) < 0
  · exact ⟨-1, fun h => absurd (by decide) h, Ev.pos h (Ev.now _)⟩
  · obtain ⟨r, hr, he⟩ := Ev.upto (fun k s i => laws_szRowS.l0 k l s i) l.length (by omega) (fun i s => 0 ≤ s ∧ s ≤ left - l.length ∧ ∀ x ∈ l.take i.toNat, (x.f0.size : Int) ≤ left ∧ (x.f2.size : Int) ≤ left) (fun r => ¬ r < 0 → 0 ≤ r ∧ r ≤ left - l.length ∧ ∀ x ∈ l, (x.f0.size : Int) ≤ left ∧ (x.f2.size : Int) ≤ left)
      (fun i s p0 p1 ⟨q0, q1, q2⟩ => by
        have e1 : l[i.toNat]? = some (l[i.toNat]'(by omega)) := List.getElem?_eq_getElem (by omega)
        have ht := List.take_succ_eq_append_getElem (l := l) (i := i.toNat) (by omega)
        have hx := hl.2 _ (List.getElem_mem (l := l) (n := i.toNat) (by omega))
        generalize l[i.toNat]'(by omega) = x at e1 ht hx
        have y0 := hx.1
        have y1 := hx.2.2.1
        unfold maxLen at y0 y1
        by_cases h2 : s - (x.f0.size : Int) < 0
        · refine .inr ⟨-1, fun h => absurd (by decide) h, Ev.step (fun k => laws_szRowS.l0.eq_2 ..) (Ev.pos p1 (Ev.pos p0 ?_))⟩
          rw [rdRowL e1]
          refine Ev.bind (a := -1) ?_ (Ev.pos (by decide) (Ev.now _))
          unfold laws_szRow.f
          rw [w64 (x := s - (x.f0.size : Int)) (by omega) (by omega)]
          exact Ev.pos h2 (Ev.now _)
        · by_cases h3 : s - (x.f0.size : Int) - (x.f2.size : Int) < 0
          · refine .inr ⟨-1, fun h => absurd (by decide) h, Ev.step (fun k => laws_szRowS.l0.eq_2 ..) (Ev.pos p1 (Ev.pos p0 ?_))⟩
            rw [rdRowL e1]
            refine Ev.bind (a := -1) ?_ (Ev.pos (by decide) (Ev.now _))
            unfold laws_szRow.f
            rw [w64 (x := s - (x.f0.size : Int)) (by omega) (by omega), w64 (x := s - (x.f0.size : Int) - (x.f2.size : Int)) (by omega) (by omega)]
            exact Ev.neg h2 (Ev.pos h3 (Ev.now _))
          · refine .inl ⟨s - (x.f0.size : Int) - (x.f2.size : Int), ⟨by omega, by omega, ?_⟩, fun r hr => Ev.step (fun k => laws_szRowS.l0.eq_2 ..) (Ev.pos p1 (Ev.pos p0 ?_))⟩
            · rw [show (i + 1).toNat = i.toNat + 1 by omega, ht]
              intro z hz
              rcases List.mem_append.1 hz with hz | hz
              · exact q2 z hz
              · obtain rfl := List.mem_singleton.1 hz
                omega
            · rw [rdRowL e1]
              refine Ev.bind (a := s - (x.f0.size : Int) - (x.f2.size : Int)) ?_ (Ev.neg (by omega) hr)
              unfold laws_szRow.f
              rw [w64 (x := s - (x.f0.size : Int)) (by omega) (by omega), w64 (x := s - (x.f0.size : Int) - (x.f2.size : Int)) (by omega) (by omega)]
              exact Ev.neg h2 (Ev.neg h3 (Ev.now _)))
      (fun s ⟨q0, q1, q2⟩ => ⟨s, fun _ => ⟨q0, q1, by rw [List.take_of_length_le (by omega)] at q2; exact q2⟩, Ev.step (fun k => laws_szRowS.l0.eq_2 ..) (Ev.neg (by omega) (Ev.now _))⟩)
      0 (left - l.length) (by omega) (by omega) ⟨by omega, by omega, by simp⟩
    exact ⟨r, hr, Ev.neg h he⟩

/-- What the law's mirror of a Row stands for. -/
def rowOf (x : S84) : S49 := ⟨x.f0, x.f1, x.f2, x.f3⟩
theorem toRowS_ev (l : List S84) (hl : l.length ≤ 1048576) : Ev (fun k => laws_toRowS.f k l) (l.map rowOf) := by
  unfold laws_toRowS.f
  refine Ev.pos (by omega) (Ev.pos (by omega) ?_)
  refine Ev.fill (fun k s i => laws_toRowS.l0 k l s i) (l.map rowOf) (by simp; omega)
    (fun i s v h0 h1 hs hv h => ?_)
    (fun s hs => Ev.step (fun k => laws_toRowS.l0.eq_2 ..) (Ev.neg (by simp) (Ev.now _))) _ (by simp)
  rw [List.length_map] at h1 hs
  rw [List.getElem?_map] at hv
  obtain ⟨w, hw, rfl⟩ := Option.map_eq_some_iff.1 hv
  refine Ev.step (fun k => laws_toRowS.l0.eq_2 ..) (Ev.pos h1 (Ev.pos h0 ?_))
  rw [rdRowL hw]
  exact Ev.let (Ev.pos (by omega) h)

theorem eqRow_rfl (a0 : ByteArray) (a1 : Int) (a2 : ByteArray) (a3 : Bool) : laws_eqRow.f a0 a1 a2 a3 a0 a1 a2 a3 = some true := by
  unfold laws_eqRow.f
  simp
theorem eqRowS_ev (l : List S49) (hl : (l.length : Int) ≤ 9223372036854775807) : Ev (fun k => laws_eqRowS.f k l l) true := by
  unfold laws_eqRowS.f
  refine Ev.pos rfl ?_
  refine Ev.each (F := fun k i => laws_eqRowS.l0 k l l i) l.length hl (fun i h0 h1 h => Ev.step (fun k => laws_eqRowS.l0.eq_2 ..) (Ev.pos h1 (Ev.pos h0 (Ev.pos h1 ?_)))) (Ev.step (fun k => laws_eqRowS.l0.eq_2 ..) (Ev.neg (by omega) (Ev.now _)))
  simp only [eqRow_rfl]
  exact Ev.let (Ev.pos rfl h)

/-- What RowFault tells of a row. -/
def rowFault (key : ByteArray) (v : Int) (val : ByteArray) (gone : Bool) : Int :=
  if 1 ≤ (key.size : Int) ∧ (key.size : Int) ≤ 20 ∧ ¬ (gone = true ∧ (val.toList != ([] : List UInt8)) = true) then (if (val.size : Int) > 100 then 2 else if 1 ≤ v ∧ v ≤ 1000000 then 0 else 3) else 1
theorem spec_RowFault_ev (key : ByteArray) (v : Int) (val : ByteArray) (gone : Bool) : Ev (fun k => spec_RowFault.f k key v val gone) (rowFault key v val gone) := by
  refine ⟨1, fun k hk => ?_⟩
  obtain ⟨k, rfl⟩ : ∃ j, k = j + 1 := ⟨k - 1, by omega⟩
  unfold spec_RowFault.f rowFault
  simp only [spec_RowFault.j0, spec_l1In.f]
  generalize (val.toList != ([] : List UInt8)) = e
  generalize (key.size : Int) = n
  generalize (val.size : Int) = m
  by_cases h1 : n < 1
  · have : ¬ 1 ≤ n := by omega
    simp [h1, this]
  · have h1' : 1 ≤ n := by omega
    by_cases h2 : n > 20
    · have : ¬ n ≤ 20 := by omega
      simp [h1, h2, this]
    · have h2' : n ≤ 20 := by omega
      by_cases h3 : m > 100 <;> by_cases h4 : 1 ≤ v <;> by_cases h5 : v ≤ 1000000 <;> cases gone <;> cases e <;> simp [h1, h2, h1', h2', h3, h4, h5]
theorem impl_RowFault_ev (key : ByteArray) (v : Int) (val : ByteArray) (gone : Bool) : Ev (fun k => impl_RowFault.f k key v val gone) (rowFault key v val gone) := by
  refine ⟨1, fun k hk => ?_⟩
  obtain ⟨k, rfl⟩ : ∃ j, k = j + 1 := ⟨k - 1, by omega⟩
  unfold impl_RowFault.f rowFault impl_isKey.f
  simp only [impl_RowFault.j0, impl_within.f, impl_isVersion.f]
  generalize (val.toList != ([] : List UInt8)) = e
  generalize (key.size : Int) = n
  generalize (val.size : Int) = m
  by_cases h1 : 1 ≤ n <;> by_cases h2 : n ≤ 20 <;> by_cases h3 : m > 100 <;> by_cases h4 : 1 ≤ v <;> by_cases h5 : v ≤ 1000000 <;> cases gone <;> cases e <;> simp [h1, h2, h3, h4, h5]

theorem compare_self (l : List UInt8) : Lib.compareBytes l l = 0 := by
  induction l with
  | nil => rfl
  | cons a l ih =>
    have h : ¬ a < a := UInt8.lt_irrefl a
    simp [Lib.compareBytes, h, ih]
/-- strings.Compare: before, the same, behind. -/
theorem compare_cases (l : List UInt8) : ∀ m : List UInt8, (Lib.compareBytes l m = 0 ∧ l = m) ∨ (Lib.compareBytes l m = -1 ∧ l ≠ m ∧ Op.bytesLess l m = true) ∨ (Lib.compareBytes l m = 1 ∧ l ≠ m ∧ Op.bytesLess l m = false) := by
  induction l with
  | nil =>
    intro m
    cases m with
    | nil => exact .inl ⟨rfl, rfl⟩
    | cons b m => exact .inr (.inl ⟨rfl, by simp, rfl⟩)
  | cons a l ih =>
    intro m
    cases m with
    | nil => exact .inr (.inr ⟨rfl, by simp, rfl⟩)
    | cons b m =>
      unfold Lib.compareBytes Op.bytesLess
      by_cases h1 : a < b
      · have hne : a ≠ b := fun h => by subst h; exact UInt8.lt_irrefl a h1
        exact .inr (.inl ⟨by simp [h1], by simp [hne], by simp [h1]⟩)
      · by_cases h2 : b < a
        · have hne : a ≠ b := fun h => by subst h; exact UInt8.lt_irrefl a h2
          exact .inr (.inr ⟨by simp [h1, h2], by simp [hne], by simp [h1, hne]⟩)
        · have he : a = b := by
            rw [UInt8.lt_iff_toNat_lt] at h1 h2
            exact UInt8.toNat_inj.1 (by omega)
          subst he
          rcases ih m with ⟨p, q⟩ | ⟨p, q, r⟩ | ⟨p, q, r⟩
          · exact .inl ⟨by simp [h1, p], by rw [q]⟩
          · exact .inr (.inl ⟨by simp [h1, p], by simp [q], by simp [r]⟩)
          · exact .inr (.inr ⟨by simp [h1, p], by simp [q], by simp [h1, r]⟩)
/-- Does one row stand ahead of another? -/
def aheadR (a b : S49) : Bool := if a.f0.toList = b.f0.toList then decide (a.f1 > b.f1) else Op.bytesLess a.f0.toList b.f0.toList
theorem spec_l5Ahead_eq (a b : S49) : spec_l5Ahead.f a.f0 a.f1 a.f2 a.f3 b.f0 b.f1 b.f2 b.f3 = some (aheadR a b) := by
  unfold spec_l5Ahead.f aheadR
  split <;> rfl
/-- What compareRows tells. -/
def cmpR (a b : S49) : Int := if Lib.compareBytes a.f0.data.toList b.f0.data.toList = 0 then (if b.f1 < a.f1 then -1 else if b.f1 > a.f1 then 1 else 0) else Lib.compareBytes a.f0.data.toList b.f0.data.toList
theorem or_ev (x y : Int) : Ev (fun k => cmp_Or_int.f k [x, y]) (if x = 0 then y else x) := by
  refine ⟨3, fun k hk => ?_⟩
  obtain ⟨k, rfl⟩ : ∃ j, k = j + 3 := ⟨k - 3, by omega⟩
  unfold cmp_Or_int.f
  have w1 : wrap64 (0 + 1) = 1 := by rw [w64 (by decide) (by decide)]; rfl
  have w2 : wrap64 (1 + 1) = 2 := by rw [w64 (by decide) (by decide)]; rfl
  have r0 : rd [x, y] 0 = x := rfl
  have r1 : rd [x, y] 1 = y := rfl
  simp only [cmp_Or_int.l0, List.length_cons, List.length_nil, w1, w2, r0, r1]
  by_cases h1 : x = 0 <;> by_cases h2 : y = 0 <;> simp [h1, h2]
theorem compare64_eq (x y : Int) : cmp_Compare_int64.f x y = some (if x < y then -1 else if x > y then 1 else 0) := by
  unfold cmp_Compare_int64.f cmp_isNaN_int64.f
  by_cases h1 : x < y
  · simp [h1]
  · by_cases h2 : y < x
    · simp [h1, h2]
    · simp [h1, h2]
theorem impl_compareRows_ev (a b : S49) : Ev (fun k => impl_compareRows.f k a.f0 a.f1 a.f2 a.f3 b.f0 b.f1 b.f2 b.f3) (cmpR a b) := by
  unfold impl_compareRows.f cmpR
  refine Ev.bind (a := Lib.compareBytes a.f0.data.toList b.f0.data.toList) (Ev.is rfl) (Ev.bind (Ev.is (compare64_eq _ _)) (Ev.bind (or_ev _ _) (Ev.now _)))
theorem cmpR_ahead (a b : S49) : cmpR a b ≥ 0 ↔ ¬ aheadR a b = true := by
  unfold cmpR aheadR
  rw [ByteArray.toList_eq, ByteArray.toList_eq]
  rcases compare_cases a.f0.data.toList b.f0.data.toList with ⟨p, q⟩ | ⟨p, q, r⟩ | ⟨p, q, r⟩
  · rw [p, if_pos rfl, if_pos q, decide_eq_true_iff]
    split
    · omega
    · split <;> omega
  · rw [p, if_neg (by decide), if_neg q, r]
    simp
  · rw [p, if_neg (by decide), if_neg q, r]
    simp

/-- What TableFault tells of the last d rows. -/
def tableFrom (l : List S49) : Nat → Int
  | 0 => 0
  | d + 1 => (fun i : Int => (fun (x y : S49) => if rowFault x.f0 x.f1 x.f2 x.f3 = 0 then (if i > 0 then (if aheadR y x = true then tableFrom l d else 1) else tableFrom l d) else rowFault x.f0 x.f1 x.f2 x.f3) (rd_T49 l i) (rd_T49 l (i - 1))) ((l.length : Int) - (d + 1))
def tableFault (l : List S49) : Int := if (l.length : Int) > 200 then 2 else tableFrom l l.length
theorem spec_TableFault_ev (l : List S49) : Ev (fun k => spec_TableFault.f k l) (tableFault l) := by
  unfold spec_TableFault.f tableFault
  refine Ev.cond (fun _ => Ev.now _) (fun hl => ?_)
  have go : ∀ d : Nat, d ≤ l.length → Ev (fun k => spec_TableFault.l0 k l ((l.length : Int) - d)) (tableFrom l d) := by
    intro d
    induction d with
    | zero => intro _; exact Ev.step (fun k => spec_TableFault.l0.eq_2 ..) (Ev.neg (by omega) (Ev.now _))
    | succ d ih =>
      intro hd
      have h := ih (by omega)
      refine Ev.step (fun k => spec_TableFault.l0.eq_2 ..) (Ev.pos (by omega) (Ev.pos (by omega) (Ev.bind (spec_RowFault_ev ..) ?_)))
      rw [w64 (x := (l.length : Int) - ((d + 1 : Nat) : Int) + 1) (by omega) (by omega), w64 (x := (l.length : Int) - ((d + 1 : Nat) : Int) - 1) (by omega) (by omega), show (l.length : Int) - ((d + 1 : Nat) : Int) + 1 = (l.length : Int) - d by omega]
      rw [show ((d + 1 : Nat) : Int) = (d : Int) + 1 by omega]
      unfold tableFrom
      refine Ev.cond (fun _ => Ev.cond (fun hp => Ev.pos (by omega) (Ev.pos (by omega) (Ev.bind (Ev.is (spec_l5Ahead_eq ..)) (Ev.cond (fun _ => h) (fun _ => Ev.now _))))) (fun _ => h)) (fun _ => Ev.now _)
  have := go l.length (by omega)
  rw [show (l.length : Int) - (l.length : Nat) = 0 by omega] at this
  exact this
theorem impl_TableFault_ev (l : List S49) : Ev (fun k => impl_TableFault.f k l) (tableFault l) := by
  unfold impl_TableFault.f tableFault
  refine Ev.cond (fun _ => Ev.now _) (fun hl => ?_)
  have go : ∀ d : Nat, d ≤ l.length → Ev (fun k => impl_TableFault.l0 k l l (l.length : Int) ((l.length : Int) - d)) (tableFrom l d) := by
    intro d
    induction d with
    | zero => intro _; exact Ev.step (fun k => impl_TableFault.l0.eq_2 ..) (Ev.neg (by omega) (Ev.now _))
    | succ d ih =>
      intro hd
      have h := ih (by omega)
      refine Ev.step (fun k => impl_TableFault.l0.eq_2 ..) (Ev.pos (by omega) (Ev.pos (by omega) (Ev.pos (by omega) (Ev.bind (impl_RowFault_ev ..) ?_))))
      rw [w64 (x := (l.length : Int) - ((d + 1 : Nat) : Int) + 1) (by omega) (by omega), w64 (x := (l.length : Int) - ((d + 1 : Nat) : Int) - 1) (by omega) (by omega), show (l.length : Int) - ((d + 1 : Nat) : Int) + 1 = (l.length : Int) - d by omega]
      rw [show ((d + 1 : Nat) : Int) = (d : Int) + 1 by omega]
      unfold tableFrom
      refine Ev.cond (fun _ => Ev.cond (fun hp => Ev.pos (by omega) (Ev.pos (by omega) (Ev.bind (impl_compareRows_ev ..) ?_))) (fun _ => h)) (fun _ => Ev.now _)
      by_cases ha : aheadR (rd_T49 l ((l.length : Int) - ((d : Int) + 1) - 1)) (rd_T49 l ((l.length : Int) - ((d : Int) + 1))) = true
      · rw [if_pos ha]
        exact Ev.neg (fun h => (cmpR_ahead _ _).1 h ha) h
      · rw [if_neg ha]
        exact Ev.pos ((cmpR_ahead _ _).2 ha) (Ev.now _)
  have := go l.length (by omega)
  rw [show (l.length : Int) - (l.length : Nat) = 0 by omega] at this
  exact this

theorem markText_loop : ∀ (n : Nat) (x : Int) (s : ByteArray), x.toNat ≤ n → 0 ≤ x → (s.size : Int) + x ≤ 4000000000000000000 → ∃ t, Ev (fun k => laws_markText.l0 k x s) t := by
  intro n
  induction n with
  | zero =>
    intro x s h0 h1 h2
    exact ⟨_, Ev.step (fun k => laws_markText.l0.eq_2 ..) (Ev.neg (by omega) (Ev.pos (by omega) (Ev.now _)))⟩
  | succ n ih =>
    intro x s h0 h1 h2
    by_cases hx : x > 0
    · have hd : Int.tdiv x 10 = x / 10 := Int.tdiv_eq_ediv_of_nonneg h1
      have hz : ∀ c : Int, (strOfNums [c] ++ s).size = 1 + s.size := fun c => by rw [ByteArray.size_append, strOfNums_size]; rfl
      obtain ⟨t, ht⟩ := ih (x / 10) (strOfNums [wrap64 (48 + Int.tmod x 10) % 256] ++ s) (by omega) (by omega) (by rw [hz]; omega)
      refine ⟨t, Ev.step (fun k => laws_markText.l0.eq_2 ..) (Ev.pos hx (Ev.let (Ev.pos (by rw [strOfNums_size]; simp only [List.length_cons, List.length_nil]; omega) ?_)))⟩
      rw [hd, w64 (x := x / 10) (by omega) (by omega)]
      exact ht
    · exact ⟨_, Ev.step (fun k => laws_markText.l0.eq_2 ..) (Ev.neg hx (Ev.pos (by omega) (Ev.now _)))⟩
theorem markText_ev (x : Int) (h : x ≤ 3000000000000000000) : ∃ t, Ev (fun k => laws_markText.f k x) t := by
  unfold laws_markText.f
  by_cases h0 : x ≤ 0
  · exact ⟨_, Ev.pos h0 (Ev.now _)⟩
  · obtain ⟨t, ht⟩ := markText_loop x.toNat x ⟨#[]⟩ (Nat.le_refl _) (by omega) (show ((0 : Nat) : Int) + x ≤ _ by omega)
    exact ⟨t, Ev.neg h0 ht⟩

theorem Ev.eq' {α : Type} {g g' : Nat → Option α} {a : α} (h : Ev g a) (e : g' = g) : Ev g' a := e ▸ h
/-- What the numbers' marks are. -/
def MT (mt : Int → ByteArray) : Prop := ∀ x : Int, x ≤ 3000000000000000000 → Ev (fun k => laws_markText.f k x) (mt x)
theorem markT_all : ∃ mt : Int → ByteArray, MT mt := by
  have h : ∀ x : Int, ∃ t : ByteArray, x ≤ 3000000000000000000 → Ev (fun k => laws_markText.f k x) t := fun x => by
    by_cases hx : x ≤ 3000000000000000000
    · obtain ⟨t, ht⟩ := markText_ev x hx
      exact ⟨t, fun _ => ht⟩
    · exact ⟨⟨#[]⟩, fun h => absurd h hx⟩
  exact ⟨fun x => Classical.choose (h x), fun x hx => Classical.choose_spec (h x) hx⟩

def markRow (mt : Int → ByteArray) (m : Int) : S49 := ⟨mt m, m + 1, mt (m + 2), Int.tmod (m + 3) 3 == 0⟩
def markRows (mt : Int → ByteArray) (n : Nat) : List S49 := (List.range n).map fun (i : Nat) => markRow mt (1 + 4 * (i : Int))
theorem markRows_len (mt : Int → ByteArray) (n : Nat) : (markRows mt n).length = n := by simp [markRows]
theorem markRows_get (mt : Int → ByteArray) (n : Nat) (i : Nat) (h : i < n) : (markRows mt n)[i]? = some (markRow mt (1 + 4 * (i : Int))) := by simp [markRows, h]
theorem rdRow_set (l : List S49) (i : Int) (v : S49) (h0 : 0 ≤ i) (h1 : i < (l.length : Int)) : rd_T49 (l.set i.toNat v) i = v := rdRow (by rw [List.getElem?_set_self (by omega)])
theorem markRowS_ev {mt : Int → ByteArray} (hmt : MT mt) (l : List S49) (hl : l.length ≤ 1000000000) : Ev (fun k => laws_markRowS.f k l 1) (1 + 4 * (l.length : Int), markRows mt l.length) := by
  unfold laws_markRowS.f
  refine Ev.upto1 (fun k (s : List S49 × Int) i => laws_markRowS.l0 k s.1 s.2 i) l.length (by omega) (fun i s => s.1.length = l.length ∧ s.2 = 1 + 4 * i ∧ s.1.take i.toNat = (markRows mt l.length).take i.toNat) (1 + 4 * (l.length : Int), markRows mt l.length)
    (fun i s h0 h1 ⟨hs, hm, ht⟩ => ?_) (fun s ⟨hs, hm, ht⟩ => Ev.step (fun k => laws_markRowS.l0.eq_2 ..) (Ev.neg (by omega) (Ev.eq (Ev.now _) ?_))) 0 (l, 1) (by omega) (by omega) ⟨rfl, by simp, by simp⟩
  · refine .inl ⟨(s.1.set i.toNat (markRow mt s.2), s.2 + 1 + 1 + 1 + 1), ⟨by simp [hs], by show s.2 + 1 + 1 + 1 + 1 = 1 + 4 * (i + 1); omega, ?_⟩, fun h => Ev.step (fun k => laws_markRowS.l0.eq_2 ..) (Ev.pos (by omega) (Ev.bind (hmt s.2 (by omega)) (Ev.pos h0 (Ev.let (Ev.let ?_)))))⟩
    · show (s.1.set i.toNat (markRow mt s.2)).take (i + 1).toNat = _
      rw [show (i + 1).toNat = i.toNat + 1 by omega]
      refine take_set_succ _ _ _ _ (by omega) ht ?_
      rw [markRows_get mt _ _ (by omega), hm, show ((i.toNat : Nat) : Int) = i by omega]
    · rw [w64 (x := s.2 + 1) (by omega) (by omega), w64 (x := s.2 + 1 + 1) (by omega) (by omega), w64 (x := s.2 + 1 + 1 + 1) (by omega) (by omega), w64 (x := s.2 + 1 + 1 + 1 + 1) (by omega) (by omega)]
      refine Ev.bind (hmt (s.2 + 1 + 1) (by omega)) (Ev.let ?_)
      refine Ev.eq' h ?_
      funext k
      have hlen : i < (s.1.length : Int) := by omega
      simp only [rdRow_set s.1 i _ h0 hlen, List.set_set]
      unfold markRow
      rw [show s.2 + 1 + 1 = s.2 + 2 by omega, show s.2 + 2 + 1 = s.2 + 3 by omega]
  · rw [List.take_of_length_le (by omega), List.take_of_length_le (by simp [markRows_len])] at ht
    rw [ht, hm]

theorem heldRowS_ev {mt : Int → ByteArray} (hmt : MT mt) (n : Nat) (hn : n ≤ 1000000000) : Ev (fun k => laws_heldRowS.f k (markRows mt n) 1) (1 + 4 * (n : Int)) := by
  unfold laws_heldRowS.f
  refine Ev.upto1 (fun k (s : Int) i => laws_heldRowS.l0 k (markRows mt n) s i) n (by omega) (fun i s => s = 1 + 4 * i) (1 + 4 * (n : Int))
    (fun i s h0 h1 hs => ?_) (fun s hs => Ev.step (fun k => laws_heldRowS.l0.eq_2 ..) (Ev.neg (by rw [markRows_len mt]; omega) (Ev.eq (Ev.now _) hs))) 0 1 (by omega) (by omega) (by simp)
  have hr : rd_T49 (markRows mt n) i = markRow mt s := rdRow (by rw [markRows_get mt _ _ (by omega), hs, show ((i.toNat : Nat) : Int) = i by omega])
  refine .inl ⟨s + 1 + 1 + 1 + 1, by omega, fun h => Ev.step (fun k => laws_heldRowS.l0.eq_2 ..) (Ev.pos (by rw [markRows_len mt]; exact h1) (Ev.pos h0 (Ev.bind (hmt s (by omega)) ?_)))⟩
  rw [hr, w64 (x := s + 1) (by omega) (by omega), w64 (x := s + 1 + 1) (by omega) (by omega), w64 (x := s + 1 + 1 + 1) (by omega) (by omega), w64 (x := s + 1 + 1 + 1 + 1) (by omega) (by omega)]
  refine Ev.pos rfl (Ev.pos rfl (Ev.bind (hmt (s + 1 + 1) (by omega)) (Ev.pos ?_ (Ev.neg ?_ h))))
  · show (mt (s + 2)).toList = _
    rw [show s + 1 + 1 = s + 2 by omega]
  · show ¬ ((Int.tmod (s + 3) 3 == 0) != (Int.tmod (s + 1 + 1 + 1) 3 == 0)) = true
    rw [show s + 1 + 1 + 1 = s + 3 by omega]
    simp
theorem markRowsResult_ev {mt : Int → ByteArray} (hmt : MT mt) (c : Int) (l : List S49) (hl : l.length ≤ 1000000000) : Ev (fun k => laws_markRowsResult.f k c l 1) (1 + 4 * (l.length : Int), markRows mt l.length) := by
  unfold laws_markRowsResult.f
  exact Ev.bind (markRowS_ev hmt l hl) (Ev.now _)
theorem heldRowsResult_ev {mt : Int → ByteArray} (hmt : MT mt) (c : Int) (n : Nat) (hn : n ≤ 1000000000) : Ev (fun k => laws_heldRowsResult.f k c (markRows mt n) 1) (1 + 4 * (n : Int)) := by
  unfold laws_heldRowsResult.f
  exact Ev.bind (heldRowS_ev hmt n hn) (Ev.neg (by omega) (Ev.now _))

theorem less_irrefl : ∀ l : List UInt8, Op.bytesLess l l = false
  | [] => rfl
  | a :: l => by
    have h : ¬ a < a := UInt8.lt_irrefl a
    simp [Op.bytesLess, h, less_irrefl l]
theorem less_trans : ∀ a b c : List UInt8, Op.bytesLess a b = true → Op.bytesLess b c = true → Op.bytesLess a c = true
  | [], [], _, h, _ => by simp [Op.bytesLess] at h
  | [], _ :: _, [], _, h => by simp [Op.bytesLess] at h
  | [], _ :: _, _ :: _, _, _ => rfl
  | _ :: _, [], _, h, _ => by simp [Op.bytesLess] at h
  | _ :: _, _ :: _, [], _, h => by simp [Op.bytesLess] at h
  | x :: a, y :: b, z :: c, h1, h2 => by
    simp only [Op.bytesLess, Bool.or_eq_true, Bool.and_eq_true, decide_eq_true_eq, beq_iff_eq] at h1 h2 ⊢
    rcases h1 with h1 | ⟨e1, h1⟩
    · rcases h2 with h2 | ⟨e2, h2⟩
      · exact .inl (UInt8.lt_trans h1 h2)
      · exact .inl (e2 ▸ h1)
    · rcases h2 with h2 | ⟨e2, h2⟩
      · exact .inl (e1 ▸ h2)
      · exact .inr ⟨e1.trans e2, less_trans a b c h1 h2⟩
theorem ahead_trans {a b c : S49} (h1 : aheadR a b = true) (h2 : aheadR b c = true) : aheadR a c = true := by
  unfold aheadR at *
  by_cases e1 : a.f0.toList = b.f0.toList
  · rw [if_pos e1, decide_eq_true_iff] at h1
    by_cases e2 : b.f0.toList = c.f0.toList
    · rw [if_pos e2, decide_eq_true_iff] at h2
      rw [if_pos (e1.trans e2), decide_eq_true_iff]
      omega
    · rw [if_neg e2] at h2
      rw [if_neg (fun h => e2 (e1.symm.trans h)), e1]
      exact h2
  · rw [if_neg e1] at h1
    by_cases e2 : b.f0.toList = c.f0.toList
    · rw [if_neg (fun h => e1 (h.trans e2.symm)), ← e2]
      exact h1
    · rw [if_neg e2] at h2
      have h3 := less_trans _ _ _ h1 h2
      rw [if_neg (fun h => by rw [h] at h3; rw [less_irrefl] at h3; cases h3)]
      exact h3
theorem table_next (l : List S49) : ∀ d : Nat, d ≤ l.length → tableFrom l d = 0 → ∀ i : Int, (l.length : Int) - d ≤ i → 0 < i → i < (l.length : Int) → aheadR (rd_T49 l (i - 1)) (rd_T49 l i) = true := by
  intro d
  induction d with
  | zero => intro _ _ i h0 _ h1; omega
  | succ d ih =>
    intro hd h i h0 hp h1
    unfold tableFrom at h
    simp only at h
    split at h
    · split at h
      · split at h
        · next ha =>
          by_cases hi : i = (l.length : Int) - ((d : Int) + 1)
          · rw [hi]
            exact ha
          · exact ih (by omega) h i (by omega) hp h1
        · cases h
      · next hn => exact ih (by omega) h i (by omega) hp h1
    · next hn => exact absurd h hn
theorem table_ahead (l : List S49) (h : tableFault l = 0) : ∀ (d : Nat) (j : Int), 0 ≤ j → j + 1 + d < (l.length : Int) → aheadR (rd_T49 l j) (rd_T49 l (j + 1 + d)) = true := by
  have hs : ∀ i : Int, 0 < i → i < (l.length : Int) → aheadR (rd_T49 l (i - 1)) (rd_T49 l i) = true := by
    unfold tableFault at h
    split at h
    · cases h
    · exact fun i hp h1 => table_next l l.length (Nat.le_refl _) h i (by omega) hp h1
  intro d
  induction d with
  | zero =>
    intro j h0 h1
    have := hs (j + 1) (by omega) (by omega)
    rw [show j + 1 - 1 = j by omega] at this
    rw [show j + 1 + ((0 : Nat) : Int) = j + 1 by omega]
    exact this
  | succ d ih =>
    intro j h0 h1
    have e1 := ih j h0 (by omega)
    have e2 := hs (j + 1 + d + 1) (by omega) (by omega)
    rw [show j + 1 + d + 1 - 1 = j + 1 + d by omega] at e2
    rw [show j + 1 + ((d + 1 : Nat) : Int) = j + 1 + d + 1 by omega]
    exact ahead_trans e1 e2
/-- Is y one that hides x from the floor on? -/
def hides (v : Int) (y x : S49) : Bool := (y.f0.toList == x.f0.toList) && decide (y.f1 ≤ v)
/-- Some row ahead hides it where the one just ahead does. -/
theorem hid_eq (l : List S49) (v : Int) (h : tableFault l = 0) (i : Int) (h0 : 0 < i) (h1 : i < (l.length : Int)) : (l.take i.toNat).any (fun y => hides v y (rd_T49 l i)) = hides v (rd_T49 l (i - 1)) (rd_T49 l i) := by
  have hin : ∀ j : Int, 0 ≤ j → j < i → rd_T49 l j ∈ l.take i.toNat := fun j p q => by
    rw [rdRow_at l j p (by omega)]
    exact List.mem_take_iff_getElem.2 ⟨j.toNat, by omega, rfl⟩
  rw [Bool.eq_iff_iff, List.any_eq_true]
  constructor
  · rintro ⟨y, hy, hh⟩
    obtain ⟨j, hj, rfl⟩ := List.mem_take_iff_getElem.1 hy
    have ej : rd_T49 l (j : Int) = l[j]'(by omega) := rdRow_at l (j : Int) (by omega) (by omega)
    rw [← ej] at hh
    by_cases hji : (j : Int) = i - 1
    · rw [← hji]
      exact hh
    · obtain ⟨d, hd⟩ : ∃ d : Nat, (j : Int) + 1 + d = i - 1 := ⟨(i - 1 - (j + 1)).toNat, by omega⟩
      have a1 := table_ahead l h d (j : Int) (by omega) (by omega)
      rw [hd] at a1
      have a2 := table_ahead l h 0 (i - 1) (by omega) (by omega)
      rw [show i - 1 + 1 + ((0 : Nat) : Int) = i by omega] at a2
      generalize rd_T49 l (j : Int) = y at hh a1
      generalize rd_T49 l (i - 1) = p at a1 a2 ⊢
      generalize rd_T49 l i = x at hh a2 ⊢
      unfold hides at hh ⊢
      rw [Bool.and_eq_true, beq_iff_eq, decide_eq_true_iff] at hh ⊢
      unfold aheadR at a1 a2
      by_cases e2 : p.f0.toList = x.f0.toList
      · rw [if_pos (hh.1.trans e2.symm), decide_eq_true_iff] at a1
        exact ⟨e2, by omega⟩
      · rw [if_neg e2] at a2
        rw [if_neg (fun e => e2 (e.symm.trans hh.1)), hh.1] at a1
        have := less_trans _ _ _ a1 a2
        rw [less_irrefl] at this
        cases this
  · intro hh
    exact ⟨_, hin (i - 1) (by omega) (by omega), hh⟩
/-- The rows that are not hidden, of the first i. -/
def keptTo (l : List S49) (v : Int) : Nat → List S49
  | 0 => []
  | i + 1 => if i ≠ 0 ∧ hides v (rd_T49 l ((i : Int) - 1)) (rd_T49 l (i : Int)) = true then keptTo l v i else keptTo l v i ++ [rd_T49 l (i : Int)]
theorem keptTo_len (l : List S49) (v : Int) : ∀ i : Nat, (keptTo l v i).length ≤ i
  | 0 => Nat.le_refl _
  | i + 1 => by
    have := keptTo_len l v i
    unfold keptTo
    split
    · omega
    · rw [List.length_append, List.length_singleton]
      omega
theorem kept_hid {l : List S49} {v : Int} {i : Nat} (h : i ≠ 0 ∧ hides v (rd_T49 l ((i : Int) - 1)) (rd_T49 l (i : Int)) = true) : keptTo l v (i + 1) = keptTo l v i := by
  conv => lhs; unfold keptTo
  rw [if_pos h]
theorem kept_new {l : List S49} {v : Int} {i : Nat} (h : ¬ (i ≠ 0 ∧ hides v (rd_T49 l ((i : Int) - 1)) (rd_T49 l (i : Int)) = true)) : keptTo l v (i + 1) = keptTo l v i ++ [rd_T49 l (i : Int)] := by
  conv => lhs; unfold keptTo
  rw [if_neg h]
/-- One round of what is left of them. -/
def outStep (ks : List S49) (v : Int) (out : List S49) (i : Int) : List S49 :=
  if i = (ks.length : Int) - 1 then (if (rd_T49 ks i).f3 = true then (if (rd_T49 ks i).f1 > v then out ++ [rd_T49 ks i] else out) else out ++ [rd_T49 ks i])
  else (if (rd_T49 ks i).f3 = true then (if (rd_T49 ks i).f1 > v then out ++ [rd_T49 ks i] else (if ¬ (rd_T49 ks (i + 1)).f0.toList = (rd_T49 ks i).f0.toList then out else out ++ [rd_T49 ks i])) else out ++ [rd_T49 ks i])
theorem outStep_len (ks : List S49) (v : Int) (out : List S49) (i : Int) : (outStep ks v out i).length ≤ out.length + 1 := by
  unfold outStep
  repeat' split
  all_goals first | (rw [List.length_append, List.length_singleton]; exact Nat.le_refl _) | omega
def outTo (ks : List S49) (v : Int) : Nat → List S49
  | 0 => []
  | i + 1 => outStep ks v (outTo ks v i) (i : Int)
theorem outTo_len (ks : List S49) (v : Int) : ∀ i : Nat, (outTo ks v i).length ≤ i
  | 0 => Nat.le_refl _
  | i + 1 => by
    have := outTo_len ks v i
    have := outStep_len ks v (outTo ks v i) (i : Int)
    unfold outTo
    omega
theorem impl_out_ev (ks : List S49) (v : Int) (hk : ks.length ≤ 1000000000) : Ev (fun k => impl_compacted.l1 k v ks [] ks (ks.length : Int) 0) (outTo ks v ks.length) := by
  refine Ev.upto1 (fun k (x : List S49) i => impl_compacted.l1 k v ks x ks (ks.length : Int) i) ks.length (by omega) (fun i x => x = outTo ks v i.toNat) (outTo ks v ks.length) (fun i x h0 h1 hx => .inl ?_) (fun x hx => ?_) 0 [] (by omega) (by omega) rfl
  · have hn := outTo_len ks v i.toNat
    rw [← hx] at hn
    have e_ : outTo ks v (i + 1).toNat = outStep ks v x i := by
      rw [show (i + 1).toNat = i.toNat + 1 by omega, hx]
      show outStep ks v (outTo ks v i.toNat) (i.toNat : Int) = _
      rw [show ((i.toNat : Nat) : Int) = i by omega]
    refine ⟨outStep ks v x i, e_.symm, fun h => Ev.step (fun k => impl_compacted.l1.eq_2 ..) (Ev.pos h1 (Ev.pos h0 (Ev.pos h1 ?_)))⟩
    clear e_ hx
    unfold outStep at h
    have w1 : wrap64 ((ks.length : Int) - 1) = (ks.length : Int) - 1 := w64 (by omega) (by omega)
    have w2 : wrap64 (i + 1) = i + 1 := w64 (by omega) (by omega)
    rw [w1]
    rw [w2] at h ⊢
    by_cases c1 : i = (ks.length : Int) - 1
    · rw [if_pos c1] at h
      refine Ev.pos c1 ?_
      by_cases c2 : (rd_T49 ks i).f3 = true
      · rw [if_pos c2] at h
        refine Ev.pos c2 ?_
        by_cases c3 : (rd_T49 ks i).f1 > v
        · rw [if_pos c3] at h
          exact Ev.pos c3 (Ev.pos (by omega) h)
        · rw [if_neg c3] at h
          exact Ev.neg c3 h
      · rw [if_neg c2] at h
        exact Ev.neg c2 (Ev.pos (by omega) h)
    · rw [if_neg c1] at h
      refine Ev.neg c1 (Ev.pos (by omega) (Ev.pos (by omega) ?_))
      by_cases c2 : (rd_T49 ks i).f3 = true
      · rw [if_pos c2] at h
        refine Ev.pos c2 ?_
        by_cases c3 : (rd_T49 ks i).f1 > v
        · rw [if_pos c3] at h
          exact Ev.pos c3 (Ev.pos (by omega) h)
        · rw [if_neg c3] at h
          refine Ev.neg c3 ?_
          by_cases c4 : ¬ (rd_T49 ks (i + 1)).f0.toList = (rd_T49 ks i).f0.toList
          · rw [if_pos c4] at h
            exact Ev.pos c4 h
          · rw [if_neg c4] at h
            exact Ev.neg c4 (Ev.pos (by omega) h)
      · rw [if_neg c2] at h
        exact Ev.neg c2 (Ev.pos (by omega) h)
  · rw [show ((ks.length : Int)).toNat = ks.length by omega] at hx
    rw [← hx]
    exact Ev.step (fun k => impl_compacted.l1.eq_2 ..) (Ev.neg (by omega) (Ev.now _))
theorem spec_out_ev (ks : List S49) (v : Int) (hk : ks.length ≤ 1000000000) : Ev (fun k => spec_l5Compact.l2 k v ks [] 0) (outTo ks v ks.length) := by
  refine Ev.upto1 (fun k (x : List S49) i => spec_l5Compact.l2 k v ks x i) ks.length (by omega) (fun i x => x = outTo ks v i.toNat) (outTo ks v ks.length) (fun i x h0 h1 hx => .inl ?_) (fun x hx => ?_) 0 [] (by omega) (by omega) rfl
  · have hn := outTo_len ks v i.toNat
    rw [← hx] at hn
    have e_ : outTo ks v (i + 1).toNat = outStep ks v x i := by
      rw [show (i + 1).toNat = i.toNat + 1 by omega, hx]
      show outStep ks v (outTo ks v i.toNat) (i.toNat : Int) = _
      rw [show ((i.toNat : Nat) : Int) = i by omega]
    refine ⟨outStep ks v x i, e_.symm, fun h => Ev.step (fun k => spec_l5Compact.l2.eq_2 ..) (Ev.pos h1 ?_)⟩
    clear e_ hx
    unfold outStep at h
    have w1 : wrap64 ((ks.length : Int) - 1) = (ks.length : Int) - 1 := w64 (by omega) (by omega)
    have w2 : wrap64 (i + 1) = i + 1 := w64 (by omega) (by omega)
    rw [w1]
    rw [w2] at h ⊢
    by_cases c1 : i = (ks.length : Int) - 1
    · rw [if_pos c1] at h
      refine Ev.pos c1 (Ev.pos h0 ?_)
      by_cases c2 : (rd_T49 ks i).f3 = true
      · rw [if_pos c2] at h
        refine Ev.pos c2 ?_
        by_cases c3 : (rd_T49 ks i).f1 > v
        · rw [if_pos c3] at h
          exact Ev.pos c3 (Ev.pos (by omega) h)
        · rw [if_neg c3] at h
          exact Ev.neg c3 h
      · rw [if_neg c2] at h
        exact Ev.neg c2 (Ev.pos (by omega) h)
    · rw [if_neg c1] at h
      refine Ev.neg c1 (Ev.pos (by omega) (Ev.pos (by omega) (Ev.pos h0 ?_)))
      by_cases c2 : (rd_T49 ks i).f3 = true
      · rw [if_pos c2] at h
        refine Ev.pos c2 ?_
        by_cases c3 : (rd_T49 ks i).f1 > v
        · rw [if_pos c3] at h
          exact Ev.pos c3 (Ev.pos (by omega) h)
        · rw [if_neg c3] at h
          refine Ev.neg c3 ?_
          by_cases c4 : ¬ (rd_T49 ks (i + 1)).f0.toList = (rd_T49 ks i).f0.toList
          · rw [if_pos c4] at h
            exact Ev.pos c4 h
          · rw [if_neg c4] at h
            exact Ev.neg c4 (Ev.pos (by omega) h)
      · rw [if_neg c2] at h
        exact Ev.neg c2 (Ev.pos (by omega) h)
  · rw [show ((ks.length : Int)).toNat = ks.length by omega] at hx
    rw [← hx]
    exact Ev.step (fun k => spec_l5Compact.l2.eq_2 ..) (Ev.neg (by omega) (Ev.now _))
def compactR (l : List S49) (v : Int) : List S49 := outTo (keptTo l v l.length) v (keptTo l v l.length).length
theorem compactR_len (l : List S49) (v : Int) : (compactR l v).length ≤ l.length := Nat.le_trans (outTo_len _ _ _) (keptTo_len _ _ _)
theorem impl_compacted_ev (l : List S49) (v : Int) (hl : l.length ≤ 1000000000) : Ev (fun k => impl_compacted.f k l v) (compactR l v) := by
  have hout := impl_out_ev (keptTo l v l.length) v (Nat.le_trans (keptTo_len _ _ _) hl)
  unfold impl_compacted.f compactR
  refine Ev.upto1 (fun k (x : List S49) i => impl_compacted.l0 k l v x l (l.length : Int) i) l.length (by omega) (fun i x => x = keptTo l v i.toNat) _ (fun i x h0 h1 hx => .inl ?_) (fun x hx => ?_) 0 [] (by omega) (by omega) rfl
  · obtain ⟨m, rfl⟩ : ∃ m : Nat, i = m := ⟨i.toNat, by omega⟩
    rw [show ((m : Int)).toNat = m by omega] at hx
    have hn := keptTo_len l v m
    rw [← hx] at hn
    have w1 : wrap64 ((m : Int) - 1) = (m : Int) - 1 := w64 (by omega) (by omega)
    by_cases hm : m = 0
    · refine ⟨x ++ [rd_T49 l (m : Int)], by rw [show ((m : Int) + 1).toNat = m + 1 by omega, kept_new (fun hh => hh.1 hm), hx], fun h => Ev.step (fun k => impl_compacted.l0.eq_2 ..) (Ev.pos h1 (Ev.pos h0 (Ev.pos h1 (Ev.pos (by omega) (Ev.pos (by omega) h)))))⟩
    · by_cases hk : (rd_T49 l ((m : Int) - 1)).f0.toList = (rd_T49 l (m : Int)).f0.toList
      · by_cases hv : (rd_T49 l ((m : Int) - 1)).f1 > v
        · refine ⟨x ++ [rd_T49 l (m : Int)], by rw [show ((m : Int) + 1).toNat = m + 1 by omega, kept_new (fun hh => by have h2 := hh.2; unfold hides at h2; rw [Bool.and_eq_true, decide_eq_true_iff] at h2; omega), hx], fun h => Ev.step (fun k => impl_compacted.l0.eq_2 ..) (Ev.pos h1 (Ev.pos h0 (Ev.pos h1 (Ev.neg (by omega) ?_))))⟩
          rw [w1]
          exact Ev.pos (by omega) (Ev.pos (by omega) (Ev.pos hk (Ev.pos hv (Ev.pos (by omega) h))))
        · refine ⟨x, by rw [show ((m : Int) + 1).toNat = m + 1 by omega, kept_hid ⟨hm, by unfold hides; rw [Bool.and_eq_true, beq_iff_eq, decide_eq_true_iff]; exact ⟨hk, by omega⟩⟩, hx], fun h => Ev.step (fun k => impl_compacted.l0.eq_2 ..) (Ev.pos h1 (Ev.pos h0 (Ev.pos h1 (Ev.neg (by omega) ?_))))⟩
          rw [w1]
          exact Ev.pos (by omega) (Ev.pos (by omega) (Ev.pos hk (Ev.neg hv h)))
      · refine ⟨x ++ [rd_T49 l (m : Int)], by rw [show ((m : Int) + 1).toNat = m + 1 by omega, kept_new (fun hh => by have h2 := hh.2; unfold hides at h2; rw [Bool.and_eq_true, beq_iff_eq] at h2; exact hk h2.1), hx], fun h => Ev.step (fun k => impl_compacted.l0.eq_2 ..) (Ev.pos h1 (Ev.pos h0 (Ev.pos h1 (Ev.neg (by omega) ?_))))⟩
        rw [w1]
        exact Ev.pos (by omega) (Ev.pos (by omega) (Ev.neg hk (Ev.pos (by omega) h)))
  · rw [show ((l.length : Int)).toNat = l.length by omega] at hx
    subst hx
    exact Ev.step (fun k => impl_compacted.l0.eq_2 ..) (Ev.neg (by omega) hout)
theorem spec_compact_ev (l : List S49) (v : Int) (hl : l.length ≤ 1000000000) (ht : tableFault l = 0) : Ev (fun k => spec_l5Compact.f k l v) (compactR l v) := by
  have hout := spec_out_ev (keptTo l v l.length) v (Nat.le_trans (keptTo_len _ _ _) hl)
  unfold spec_l5Compact.f compactR
  refine Ev.upto1 (fun k (x : List S49) i => spec_l5Compact.l0 k l v x i) l.length (by omega) (fun i x => x = keptTo l v i.toNat) _ (fun i x h0 h1 hx => .inl ?_) (fun x hx => ?_) 0 [] (by omega) (by omega) rfl
  · obtain ⟨m, rfl⟩ : ∃ m : Nat, i = m := ⟨i.toNat, by omega⟩
    rw [show ((m : Int)).toNat = m by omega] at hx
    have hn := keptTo_len l v m
    rw [← hx] at hn
    have hany : (l.take m).any (fun y => hides v y (rd_T49 l (m : Int))) = true ↔ (m ≠ 0 ∧ hides v (rd_T49 l ((m : Int) - 1)) (rd_T49 l (m : Int)) = true) := by
      by_cases hm : m = 0
      · subst hm
        simp
      · have := hid_eq l v ht (m : Int) (by omega) h1
        rw [show ((m : Int)).toNat = m by omega] at this
        rw [this]
        exact ⟨fun h => ⟨hm, h⟩, fun h => h.2⟩
    refine ⟨keptTo l v (m + 1), by rw [show ((m : Int) + 1).toNat = m + 1 by omega], fun h => Ev.step (fun k => spec_l5Compact.l0.eq_2 ..) (Ev.pos h1 ?_)⟩
    have hlen : (l.take m).length = m := by rw [List.length_take]; omega
    refine Ev.upto1 (fun k (b : Bool) j => spec_l5Compact.l1 k l v x (m : Int) b j) (m : Int) (by omega) (fun j b => (b || ((l.take m).drop j.toNat).any (fun y => hides v y (rd_T49 l (m : Int)))) = (l.take m).any (fun y => hides v y (rd_T49 l (m : Int)))) _ (fun j b j0 j1 hp => .inl ?_) (fun b hp => ?_) 0 false (by omega) (by omega) (by simp)
    · cases b with
      | true =>
        refine ⟨true, ?_, fun hh => Ev.step (fun k => spec_l5Compact.l1.eq_2 ..) (Ev.pos j1 (Ev.pos rfl hh))⟩
        rw [Bool.true_or] at hp ⊢
        exact hp
      | false =>
        have hr := rdRow_at l j j0 (by omega)
        have e : (l.take m)[j.toNat]'(by omega) = l[j.toNat]'(by omega) := by simp
        rw [drop_cons_at (l.take m) j.toNat (by omega), List.any_cons, e, ← hr, Bool.false_or] at hp
        refine ⟨hides v (rd_T49 l j) (rd_T49 l (m : Int)), by rw [show (j + 1).toNat = j.toNat + 1 by omega]; exact hp, fun hh => Ev.step (fun k => spec_l5Compact.l1.eq_2 ..) (Ev.pos j1 (Ev.neg (by simp) (Ev.pos j0 (Ev.pos (by omega) (Ev.pos h0 (Ev.pos h1 ?_))))))⟩
        unfold hides at hh
        by_cases hk : (rd_T49 l j).f0.toList = (rd_T49 l (m : Int)).f0.toList
        · have e2 : ((rd_T49 l j).f0.toList == (rd_T49 l (m : Int)).f0.toList) = true := beq_iff_eq.mpr hk
          rw [e2, Bool.true_and] at hh
          exact Ev.pos hk hh
        · have e2 : ((rd_T49 l j).f0.toList == (rd_T49 l (m : Int)).f0.toList) = false := beq_eq_false_iff_ne.mpr hk
          rw [e2, Bool.false_and] at hh
          exact Ev.neg hk hh
    · rw [List.drop_eq_nil_of_le (by omega)] at hp
      simp only [List.any_nil, Bool.or_false] at hp
      refine Ev.step (fun k => spec_l5Compact.l1.eq_2 ..) (Ev.neg (by omega) ?_)
      by_cases hb : b = true
      · rw [kept_hid (hany.1 (hp.symm.trans hb)), ← hx] at h
        exact Ev.pos hb h
      · rw [kept_new (fun hh => hb (hp.trans (hany.2 hh))), ← hx] at h
        exact Ev.neg hb (Ev.pos h0 (Ev.pos h1 (Ev.pos (by omega) h)))
  · rw [show ((l.length : Int)).toNat = l.length by omega] at hx
    subst hx
    exact Ev.step (fun k => spec_l5Compact.l0.eq_2 ..) (Ev.neg (by omega) hout)
def compactTR (l : List S49) (v : Int) : Int × List S49 := if tableFault l = 0 then (0, compactR l v) else (tableFault l, [])
theorem compactTR_len (l : List S49) (v : Int) (hl : l.length ≤ 1000000000) : (compactTR l v).2.length ≤ 1000000000 := by
  have := compactR_len l v
  unfold compactTR
  split
  · show (compactR l v).length ≤ _
    omega
  · simp
theorem impl_CompactTable_ev (l : List S49) (v : Int) (hl : l.length ≤ 1000000000) : Ev (fun k => impl_CompactTable.f k l v) (compactTR l v) := by
  unfold impl_CompactTable.f compactTR
  exact Ev.bind (impl_TableFault_ev l) (Ev.cond (fun _ => Ev.bind (impl_compacted_ev l v hl) (Ev.now _)) (fun _ => Ev.now _))
theorem spec_CompactTable_ev (l : List S49) (v : Int) (hl : l.length ≤ 1000000000) : Ev (fun k => spec_CompactTable.f k l v) (compactTR l v) := by
  unfold spec_CompactTable.f compactTR
  exact Ev.bind (spec_TableFault_ev l) (Ev.cond (fun ht => Ev.bind (spec_compact_ev l v hl ht) (Ev.now _)) (fun _ => Ev.now _))
theorem eqRowsResultC_ev (c : Int) (l : List S49) (hl : l.length ≤ 1000000000) : Ev (fun k => laws_eqRowsResult.f k c l c l) true := by
  unfold laws_eqRowsResult.f
  exact Ev.pos rfl (Ev.bind (eqRowS_ev _ (by omega)) (Ev.pos rfl (Ev.now _)))
theorem FnExactCompactTable : ∀ (l0 : List (S84)) (a1 : Int), okL ok84 l0 → (Lit.int .i64 a1).wf = true → ∃ k, laws_FnExactCompactTable.f k l0 a1 = some true := by
  intro l v hl _
  refine Ev.rounds (r := true) ?_
  unfold laws_FnExactCompactTable.f
  obtain ⟨r, hr, hsz⟩ := szRowS_ev l hl 1048576 (by decide) (by decide)
  refine Ev.bind hsz (Ev.ite (fun _ => Ev.now _) (fun h => ?_))
  have hr := hr h
  have ht := toRowS_ev l (by omega)
  have hlen : (l.map rowOf).length ≤ 1000000000 := by simp; omega
  generalize l.map rowOf = m at ht hlen
  obtain ⟨mt, hmt⟩ := markT_all
  have hi := impl_CompactTable_ev m v hlen
  have hs := spec_CompactTable_ev m v hlen
  have hn := compactTR_len m v hlen
  generalize compactTR m v = R at hi hs hn
  have he := eqRowsResultC_ev R.1 R.2 hn
  have hh := heldRowsResult_ev hmt R.1 R.2.length hn
  refine Ev.bind ht (Ev.bind hs (Ev.bind ht (Ev.bind hi (Ev.bind he (Ev.pos rfl ?_)))))
  refine Ev.bind ht (Ev.bind (eqRowS_ev _ (by omega)) (Ev.pos rfl (Ev.bind (markRowS_ev hmt m hlen) (Ev.neg (by simp; omega) (Ev.bind he ?_)))))
  refine Ev.step (fun k => laws_FnExactCompactTable.j0.eq_2 ..) (Ev.neg (by simp) (Ev.bind (markRowsResult_ev hmt R.1 R.2 hn) (Ev.bind hh (Ev.neg (by omega) (Ev.pos rfl ?_)))))
  exact Ev.bind ht (Ev.bind hi (Ev.bind he (Ev.pos rfl (Ev.bind hh (Ev.neg (by omega) (Ev.pos rfl (Ev.now _)))))))

end Go.Proofs.Ytdhlcnlcpjlliaa.Pure
