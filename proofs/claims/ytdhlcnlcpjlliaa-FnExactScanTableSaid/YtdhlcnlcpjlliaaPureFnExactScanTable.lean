/- FnExactScanTable, the pure statement: the program's ScanTable and the reference's tell the same rows of any rows, prefix and version; the argument is as it was, and the answer is new memory. No conditions. -/
import Derived.Test.YtdhlcnlcpjlliaaPFnExactScanTablex10
import Derived.Test.YtdhlcnlcpjlliaaOFnExactScanTable
namespace Go.Proofs.Ytdhlcnlcpjlliaa.Pure
open Go.RowKit Go.Proofs.Ytdhlcnlcpjlliaa.PFnExactScanTable Go.Proofs.YtdhlcnlcpjlliaaW.PrintWords Go.Proofs.YtdhlcnlcpjlliaaW.PrintLast Go.Proofs.YtdhlcnlcpjlliaaW.PrintMore Go.Proofs.Ytdhlcnlcpjlliaa.Opens
set_option linter.unusedVariables false
set_option linter.unusedSimpArgs false
/-! ### words of this text's own -/
theorem w64 {x : Int} (h0 : -9223372036854775808 ≤ x) (h1 : x ≤ 9223372036854775807) : wrap64 x = x := by
  unfold wrap64
  omega
theorem wfU8 {x : Int} (h : (Lit.int .u8 x).wf = true) : 0 ≤ x ∧ x < 256 := by
  simp [Lit.wf, IntKind.min, IntKind.max, IntKind.signed, IntKind.bits] at h
  omega
theorem wfI64 {x : Int} (h : (Lit.int .i64 x).wf = true) : -9223372036854775808 ≤ x ∧ x ≤ 9223372036854775807 := by
  simp [Lit.wf, IntKind.min, IntKind.max, IntKind.signed, IntKind.bits] at h
  omega
section
variable {α β σ : Type}
theorem Ev.ite {g f : Nat → Option α} {c : Prop} [Decidable c] {r : α} (ht : c → Ev g r) (hf : ¬ c → Ev f r) : Ev (fun k => if c then g k else f k) r := by
  by_cases h : c
  · simp only [if_pos h]; exact ht h
  · simp only [if_neg h]; exact hf h
theorem Ev.pos {g f : Nat → Option α} {c : Prop} [Decidable c] {r : α} (h : c) (ht : Ev g r) : Ev (fun k => if c then g k else f k) r := Ev.ite (fun _ => ht) (fun n => absurd h n)
theorem Ev.neg {g f : Nat → Option α} {c : Prop} [Decidable c] {r : α} (h : ¬ c) (hf : Ev f r) : Ev (fun k => if c then g k else f k) r := Ev.ite (fun y => absurd y h) (fun _ => hf)
theorem Ev.cond {g f : Nat → Option α} {c : Prop} [Decidable c] {r s : α} (ht : c → Ev g r) (hf : ¬ c → Ev f s) : Ev (fun k => if c then g k else f k) (if c then r else s) := by
  by_cases h : c
  · simp only [if_pos h]; exact ht h
  · simp only [if_neg h]; exact hf h
theorem Ev.let {f : Nat → α → Option β} {a : α} {r : β} (k : Ev (fun n => f n a) r) : Ev (fun n => (some a).bind (f n)) r := Ev.bind (Ev.now a) k
theorem Ev.is {a : Option α} {r : α} (h : a = some r) : Ev (fun _ => a) r := ⟨0, fun _ _ => h⟩
theorem Ev.eq {g : Nat → Option α} {a b : α} (h : Ev g a) (e : a = b) : Ev g b := e ▸ h
/-- A loop that counts i up to n, with a state s: what it comes to, if 'P i s' leads from round to round. -/
theorem Ev.upto (F : Nat → σ → Int → Option α) (n : Int) (hn : n ≤ 9223372036854775807) (P : Int → σ → Prop) (R : α → Prop)
    (step : ∀ i s, 0 ≤ i → i < n → P i s → (∃ s', P (i + 1) s' ∧ ∀ r, Ev (fun k => F k s' (wrap64 (i + 1))) r → Ev (fun k => F k s i) r) ∨ (∃ r, R r ∧ Ev (fun k => F k s i) r))
    (stop : ∀ s, P n s → ∃ r, R r ∧ Ev (fun k => F k s n) r) (i : Int) (s : σ) (h0 : 0 ≤ i) (h1 : i ≤ n) (hP : P i s) : ∃ r, R r ∧ Ev (fun k => F k s i) r := by
  obtain ⟨d, hd⟩ : ∃ d : Nat, n - i = d := ⟨(n - i).toNat, by omega⟩
  induction d generalizing i s with
  | zero =>
    obtain rfl : i = n := by omega
    exact stop s hP
  | succ d ih =>
    rcases step i s h0 (by omega) hP with ⟨s', hP', h⟩ | h
    · obtain ⟨r, hr, he⟩ := ih (i + 1) s' (by omega) (by omega) hP' (by omega)
      exact ⟨r, hr, h r (by rw [w64 (by omega) (by omega)]; exact he)⟩
    · exact h
/-- The same, where what it comes to is one value. -/
theorem Ev.upto1 (F : Nat → σ → Int → Option α) (n : Int) (hn : n ≤ 9223372036854775807) (P : Int → σ → Prop) (r : α)
    (step : ∀ i s, 0 ≤ i → i < n → P i s → (∃ s', P (i + 1) s' ∧ (Ev (fun k => F k s' (wrap64 (i + 1))) r → Ev (fun k => F k s i) r)) ∨ Ev (fun k => F k s i) r)
    (stop : ∀ s, P n s → Ev (fun k => F k s n) r) (i : Int) (s : σ) (h0 : 0 ≤ i) (h1 : i ≤ n) (hP : P i s) : Ev (fun k => F k s i) r := by
  obtain ⟨d, hd⟩ : ∃ d : Nat, n - i = d := ⟨(n - i).toNat, by omega⟩
  induction d generalizing i s with
  | zero =>
    obtain rfl : i = n := by omega
    exact stop s hP
  | succ d ih =>
    rcases step i s h0 (by omega) hP with ⟨s', hP', h⟩ | h
    · exact h (by rw [w64 (by omega) (by omega)]; exact ih (i + 1) s' (by omega) (by omega) hP' (by omega))
    · exact h
theorem take_set_succ (l acc : List α) (i : Nat) (v : α) (h : i < acc.length) (ht : acc.take i = l.take i) (hv : l[i]? = some v) : (acc.set i v).take (i + 1) = l.take (i + 1) := by
  rw [List.take_add_one, List.take_add_one, hv, List.getElem?_set_self h, List.take_set_of_le (Nat.le_refl _), ht]
/-- A row filled cell by cell. -/
theorem Ev.fill (F : Nat → List α → Int → Option (List α)) (l : List α) (hl : l.length ≤ 9223372036854775807)
    (step : ∀ (i : Int) s (v : α), 0 ≤ i → i < (l.length : Int) → s.length = l.length → l[i.toNat]? = some v → Ev (fun k => F k (s.set i.toNat v) (wrap64 (i + 1))) l → Ev (fun k => F k s i) l)
    (stop : ∀ s, s.length = l.length → Ev (fun k => F k s (l.length : Int)) s) (s : List α) (hs : s.length = l.length) : Ev (fun k => F k s 0) l :=
  Ev.upto1 F l.length (by omega) (fun i s => s.length = l.length ∧ s.take i.toNat = l.take i.toNat) l
    (fun i s h0 h1 ⟨hs, ht⟩ => .inl ⟨s.set i.toNat (l[i.toNat]'(by omega)), ⟨by simp [hs], by
      rw [show (i + 1).toNat = i.toNat + 1 by omega]
      exact take_set_succ l s _ _ (by omega) ht (List.getElem?_eq_getElem (by omega))⟩, step i s _ h0 h1 hs (List.getElem?_eq_getElem (by omega))⟩)
    (fun s ⟨hs, ht⟩ => by
      rw [List.take_of_length_le (by omega), List.take_of_length_le (by omega)] at ht
      have := stop s hs
      subst ht
      exact this) 0 s (by omega) (by omega) ⟨hs, by simp⟩
/-- A loop that asks of each place, and comes to the end. -/
theorem Ev.each {F : Nat → Int → Option β} {r : β} (n : Nat) (hn : (n : Int) ≤ 9223372036854775807) (step : ∀ i : Int, 0 ≤ i → i < n → Ev (fun k => F k (wrap64 (i + 1))) r → Ev (fun k => F k i) r) (stop : Ev (fun k => F k (n : Int)) r) : Ev (fun k => F k 0) r :=
  Ev.upto1 (fun k (_ : Unit) i => F k i) n hn (fun _ _ => True) r (fun i _ h0 h1 _ => .inl ⟨(), trivial, step i h0 h1⟩) (fun _ _ => stop) 0 () (by omega) (by omega) trivial
end
theorem rd_get (l : List Int) (i : Int) (h0 : 0 ≤ i) (h1 : i < (l.length : Int)) : rd l i = l[i.toNat]'(by omega) := by
  unfold rd
  rw [List.getD_eq_getElem?_getD, List.getElem?_eq_getElem (by omega)]
  rfl
theorem rd_of {l : List Int} {i : Int} {v : Int} (h : l[i.toNat]? = some v) : rd l i = v := by
  unfold rd
  rw [List.getD_eq_getElem?_getD, h]
  rfl
theorem drop_cons_at {α : Type} (l : List α) (i : Nat) (h : i < l.length) : l.drop i = l[i] :: l.drop (i + 1) := List.drop_eq_getElem_cons h
/-- What is left of a bound behind a list, or less than nothing. -/
def szRest (n : Nat) (left : Int) : Int := if left - n < 0 then -1 else left - n
theorem szRest_ok {n : Nat} {left : Int} (h0 : left ≤ 1048576) (h1 : ¬ szRest n left < 0) : (n : Int) ≤ left ∧ szRest n left = left - n := by
  unfold szRest at *
  by_cases h : left - n < 0
  · rw [if_pos h] at h1; omega
  · rw [if_neg h]; exact ⟨by omega, rfl⟩

theorem rdRow {l : List S49} {i : Int} {v : S49} (h : l[i.toNat]? = some v) : rd_T49 l i = v := by
  unfold rd_T49
  rw [List.getD_eq_getElem?_getD, h]
  rfl
theorem rdRowL {l : List S84} {i : Int} {v : S84} (h : l[i.toNat]? = some v) : rd_T84 l i = v := by
  unfold rd_T84
  rw [List.getD_eq_getElem?_getD, h]
  rfl
theorem rdRow_at (l : List S49) (i : Int) (h0 : 0 ≤ i) (h1 : i < (l.length : Int)) : rd_T49 l i = l[i.toNat]'(by omega) := rdRow (List.getElem?_eq_getElem (by omega))

theorem szRowS_ev (l : List S84) (hl : okL ok84 l) (left : Int) (h0 : 0 ≤ left) (h1 : left ≤ 1048576) :
    ∃ r, (¬ r < 0 → 0 ≤ r ∧ r ≤ left - l.length ∧ ∀ x ∈ l, (x.f0.size : Int) ≤ left ∧ (x.f2.size : Int) ≤ left) ∧ Ev (fun k => laws_szRowS.f k l left) r := by
  have hn := hl.1
  unfold maxLen at hn
  unfold laws_szRowS.f
  rw [w64 (by omega) (by omega)]
  by_cases h : left - (l.length : Int) < 0
  · exact ⟨-1, fun h => absurd (by decide) h, Ev.pos h (Ev.now _)⟩
  · obtain ⟨r, hr, he⟩ := Ev.upto (fun k s i => laws_szRowS.l0 k l s i) l.length (by omega) (fun i s => 0 ≤ s ∧ s ≤ left - l.length ∧ ∀ x ∈ l.take i.toNat, (x.f0.size : Int) ≤ left ∧ (x.f2.size : Int) ≤ left) (fun r => ¬ r < 0 → 0 ≤ r ∧ r ≤ left - l.length ∧ ∀ x ∈ l, (x.f0.size : Int) ≤ left ∧ (x.f2.size : Int) ≤ left)
      (fun i s p0 p1 ⟨q0, q1, q2⟩ => by
        have e1 : l[i.toNat]? = some (l[i.toNat]'(by omega)) := List.getElem?_eq_getElem (by omega)
        have ht := List.take_succ_eq_append_getElem (l := l) (i := i.toNat) (by omega)
        have hx := hl.2 _ (List.getElem_mem (l := l) (n := i.toNat) (by omega))
        generalize l[i.toNat]'(by omega) = x at e1 ht hx
        have y0 := hx.1
        have y1 := hx.2.2.1
        unfold maxLen at y0 y1
        by_cases h2 : s - (x.f0.size : Int) < 0
        · refine .inr ⟨-1, fun h => absurd (by decide) h, Ev.step (fun k => laws_szRowS.l0.eq_2 ..) (Ev.pos p1 (Ev.pos p0 ?_))⟩
          rw [rdRowL e1]
          refine Ev.bind (a := -1) ?_ (Ev.pos (by decide) (Ev.now _))
          unfold laws_szRow.f
          rw [w64 (x := s - (x.f0.size : Int)) (by omega) (by omega)]
          exact Ev.pos h2 (Ev.now _)
        · by_cases h3 : s - (x.f0.size : Int) - (x.f2.size : Int) < 0
          · refine .inr ⟨-1, fun h => absurd (by decide) h, Ev.step (fun k => laws_szRowS.l0.eq_2 ..) (Ev.pos p1 (Ev.pos p0 ?_))⟩
            rw [rdRowL e1]
            refine Ev.bind (a := -1) ?_ (Ev.pos (by decide) (Ev.now _))
            unfold laws_szRow.f
            rw [w64 (x := s - (x.f0.size : Int)) (by omega) (by omega), w64 (x := s - (x.f0.size : Int) - (x.f2.size : Int)) (by omega) (by omega)]
            exact Ev.neg h2 (Ev.pos h3 (Ev.now _))
          · refine .inl ⟨s - (x.f0.size : Int) - (x.f2.size : Int), ⟨by omega, by omega, ?_⟩, fun r hr => Ev.step (fun k => laws_szRowS.l0.eq_2 ..) (Ev.pos p1 (Ev.pos p0 ?_))⟩
            · rw [show (i + 1).toNat = i.toNat + 1 by omega, ht]
              intro z hz
              rcases List.mem_append.1 hz with hz | hz
              · exact q2 z hz
              · obtain rfl := List.mem_singleton.1 hz
                omega
            · rw [rdRowL e1]
              refine Ev.bind (a := s - (x.f0.size : Int) - (x.f2.size : Int)) ?_ (Ev.neg (by omega) hr)
              unfold laws_szRow.f
              rw [w64 (x := s - (x.f0.size : Int)) (by omega) (by omega), w64 (x := s - (x.f0.size : Int) - (x.f2.size : Int)) (by omega) (by omega)]
              exact Ev.neg h2 (Ev.neg h3 (Ev.now _)))
      (fun s ⟨q0, q1, q2⟩ => ⟨s, fun _ => ⟨q0, q1, by rw [List.take_of_length_le (by omega)] at q2; exact q2⟩, Ev.step (fun k => laws_szRowS.l0.eq_2 ..) (Ev.neg (by omega) (Ev.now _))⟩)
      0 (left - l.length) (by omega) (by omega) ⟨by omega, by omega, by simp⟩
    exact ⟨r, hr, Ev.neg h he⟩

/-- What the law's mirror of a Row stands for. -/
def rowOf (x : S84) : S49 := ⟨x.f0, x.f1, x.f2, x.f3⟩
theorem toRowS_ev (l : List S84) (hl : l.length ≤ 1048576) : Ev (fun k => laws_toRowS.f k l) (l.map rowOf) := by
  unfold laws_toRowS.f
  refine Ev.pos (by omega) (Ev.pos (by omega) ?_)
  refine Ev.fill (fun k s i => laws_toRowS.l0 k l s i) (l.map rowOf) (by simp; omega)
    (fun i s v h0 h1 hs hv h => ?_)
    (fun s hs => Ev.step (fun k => laws_toRowS.l0.eq_2 ..) (Ev.neg (by simp) (Ev.now _))) _ (by simp)
  rw [List.length_map] at h1 hs
  rw [List.getElem?_map] at hv
  obtain ⟨w, hw, rfl⟩ := Option.map_eq_some_iff.1 hv
  refine Ev.step (fun k => laws_toRowS.l0.eq_2 ..) (Ev.pos h1 (Ev.pos h0 ?_))
  rw [rdRowL hw]
  exact Ev.let (Ev.pos (by omega) h)

theorem eqRow_rfl (a0 : ByteArray) (a1 : Int) (a2 : ByteArray) (a3 : Bool) : laws_eqRow.f a0 a1 a2 a3 a0 a1 a2 a3 = some true := by
  unfold laws_eqRow.f
  simp
theorem eqRowS_ev (l : List S49) (hl : (l.length : Int) ≤ 9223372036854775807) : Ev (fun k => laws_eqRowS.f k l l) true := by
  unfold laws_eqRowS.f
  refine Ev.pos rfl ?_
  refine Ev.each (F := fun k i => laws_eqRowS.l0 k l l i) l.length hl (fun i h0 h1 h => Ev.step (fun k => laws_eqRowS.l0.eq_2 ..) (Ev.pos h1 (Ev.pos h0 (Ev.pos h1 ?_)))) (Ev.step (fun k => laws_eqRowS.l0.eq_2 ..) (Ev.neg (by omega) (Ev.now _)))
  simp only [eqRow_rfl]
  exact Ev.let (Ev.pos rfl h)

/-- What RowFault tells of a row. -/
def rowFault (key : ByteArray) (v : Int) (val : ByteArray) (gone : Bool) : Int :=
  if 1 ≤ (key.size : Int) ∧ (key.size : Int) ≤ 20 ∧ ¬ (gone = true ∧ (val.toList != ([] : List UInt8)) = true) then (if (val.size : Int) > 100 then 2 else if 1 ≤ v ∧ v ≤ 1000000 then 0 else 3) else 1
theorem spec_RowFault_ev (key : ByteArray) (v : Int) (val : ByteArray) (gone : Bool) : Ev (fun k => spec_RowFault.f k key v val gone) (rowFault key v val gone) := by
  refine ⟨1, fun k hk => ?_⟩
  obtain ⟨k, rfl⟩ : ∃ j, k = j + 1 := ⟨k - 1, by omega⟩
  unfold spec_RowFault.f rowFault
  simp only [spec_RowFault.j0, spec_l1In.f]
  generalize (val.toList != ([] : List UInt8)) = e
  generalize (key.size : Int) = n
  generalize (val.size : Int) = m
  by_cases h1 : n < 1
  · have : ¬ 1 ≤ n := by omega
    simp [h1, this]
  · have h1' : 1 ≤ n := by omega
    by_cases h2 : n > 20
    · have : ¬ n ≤ 20 := by omega
      simp [h1, h2, this]
    · have h2' : n ≤ 20 := by omega
      by_cases h3 : m > 100 <;> by_cases h4 : 1 ≤ v <;> by_cases h5 : v ≤ 1000000 <;> cases gone <;> cases e <;> simp [h1, h2, h1', h2', h3, h4, h5]
theorem impl_RowFault_ev (key : ByteArray) (v : Int) (val : ByteArray) (gone : Bool) : Ev (fun k => impl_RowFault.f k key v val gone) (rowFault key v val gone) := by
  refine ⟨1, fun k hk => ?_⟩
  obtain ⟨k, rfl⟩ : ∃ j, k = j + 1 := ⟨k - 1, by omega⟩
  unfold impl_RowFault.f rowFault impl_isKey.f
  simp only [impl_RowFault.j0, impl_within.f, impl_isVersion.f]
  generalize (val.toList != ([] : List UInt8)) = e
  generalize (key.size : Int) = n
  generalize (val.size : Int) = m
  by_cases h1 : 1 ≤ n <;> by_cases h2 : n ≤ 20 <;> by_cases h3 : m > 100 <;> by_cases h4 : 1 ≤ v <;> by_cases h5 : v ≤ 1000000 <;> cases gone <;> cases e <;> simp [h1, h2, h3, h4, h5]

theorem compare_self (l : List UInt8) : Lib.compareBytes l l = 0 := by
  induction l with
  | nil => rfl
  | cons a l ih =>
    have h : ¬ a < a := UInt8.lt_irrefl a
    simp [Lib.compareBytes, h, ih]
/-- strings.Compare: before, the same, behind. -/
theorem compare_cases (l : List UInt8) : ∀ m : List UInt8, (Lib.compareBytes l m = 0 ∧ l = m) ∨ (Lib.compareBytes l m = -1 ∧ l ≠ m ∧ Op.bytesLess l m = true) ∨ (Lib.compareBytes l m = 1 ∧ l ≠ m ∧ Op.bytesLess l m = false) := by
  induction l with
  | nil =>
    intro m
    cases m with
    | nil => exact .inl ⟨rfl, rfl⟩
    | cons b m => exact .inr (.inl ⟨rfl, by simp, rfl⟩)
  | cons a l ih =>
    intro m
    cases m with
    | nil => exact .inr (.inr ⟨rfl, by simp, rfl⟩)
    | cons b m =>
      unfold Lib.compareBytes Op.bytesLess
      by_cases h1 : a < b
      · have hne : a ≠ b := fun h => by subst h; exact UInt8.lt_irrefl a h1
        exact .inr (.inl ⟨by simp [h1], by simp [hne], by simp [h1]⟩)
      · by_cases h2 : b < a
        · have hne : a ≠ b := fun h => by subst h; exact UInt8.lt_irrefl a h2
          exact .inr (.inr ⟨by simp [h1, h2], by simp [hne], by simp [h1, hne]⟩)
        · have he : a = b := by
            rw [UInt8.lt_iff_toNat_lt] at h1 h2
            exact UInt8.toNat_inj.1 (by omega)
          subst he
          rcases ih m with ⟨p, q⟩ | ⟨p, q, r⟩ | ⟨p, q, r⟩
          · exact .inl ⟨by simp [h1, p], by rw [q]⟩
          · exact .inr (.inl ⟨by simp [h1, p], by simp [q], by simp [r]⟩)
          · exact .inr (.inr ⟨by simp [h1, p], by simp [q], by simp [h1, r]⟩)
/-- Does one row stand ahead of another? -/
def aheadR (a b : S49) : Bool := if a.f0.toList = b.f0.toList then decide (a.f1 > b.f1) else Op.bytesLess a.f0.toList b.f0.toList
theorem spec_l5Ahead_eq (a b : S49) : spec_l5Ahead.f a.f0 a.f1 a.f2 a.f3 b.f0 b.f1 b.f2 b.f3 = some (aheadR a b) := by
  unfold spec_l5Ahead.f aheadR
  split <;> rfl
/-- What compareRows tells. -/
def cmpR (a b : S49) : Int := if Lib.compareBytes a.f0.data.toList b.f0.data.toList = 0 then (if b.f1 < a.f1 then -1 else if b.f1 > a.f1 then 1 else 0) else Lib.compareBytes a.f0.data.toList b.f0.data.toList
theorem or_ev (x y : Int) : Ev (fun k => cmp_Or_int.f k [x, y]) (if x = 0 then y else x) := by
  refine ⟨3, fun k hk => ?_⟩
  obtain ⟨k, rfl⟩ : ∃ j, k = j + 3 := ⟨k - 3, by omega⟩
  unfold cmp_Or_int.f
  have w1 : wrap64 (0 + 1) = 1 := by rw [w64 (by decide) (by decide)]; rfl
  have w2 : wrap64 (1 + 1) = 2 := by rw [w64 (by decide) (by decide)]; rfl
  have r0 : rd [x, y] 0 = x := rfl
  have r1 : rd [x, y] 1 = y := rfl
  simp only [cmp_Or_int.l0, List.length_cons, List.length_nil, w1, w2, r0, r1]
  by_cases h1 : x = 0 <;> by_cases h2 : y = 0 <;> simp [h1, h2]
theorem compare64_eq (x y : Int) : cmp_Compare_int64.f x y = some (if x < y then -1 else if x > y then 1 else 0) := by
  unfold cmp_Compare_int64.f cmp_isNaN_int64.f
  by_cases h1 : x < y
  · simp [h1]
  · by_cases h2 : y < x
    · simp [h1, h2]
    · simp [h1, h2]
theorem impl_compareRows_ev (a b : S49) : Ev (fun k => impl_compareRows.f k a.f0 a.f1 a.f2 a.f3 b.f0 b.f1 b.f2 b.f3) (cmpR a b) := by
  unfold impl_compareRows.f cmpR
  refine Ev.bind (a := Lib.compareBytes a.f0.data.toList b.f0.data.toList) (Ev.is rfl) (Ev.bind (Ev.is (compare64_eq _ _)) (Ev.bind (or_ev _ _) (Ev.now _)))
theorem cmpR_ahead (a b : S49) : cmpR a b ≥ 0 ↔ ¬ aheadR a b = true := by
  unfold cmpR aheadR
  rw [ByteArray.toList_eq, ByteArray.toList_eq]
  rcases compare_cases a.f0.data.toList b.f0.data.toList with ⟨p, q⟩ | ⟨p, q, r⟩ | ⟨p, q, r⟩
  · rw [p, if_pos rfl, if_pos q, decide_eq_true_iff]
    split
    · omega
    · split <;> omega
  · rw [p, if_neg (by decide), if_neg q, r]
    simp
  · rw [p, if_neg (by decide), if_neg q, r]
    simp

/-- What TableFault tells of the last d rows. -/
def tableFrom (l : List S49) : Nat → Int
  | 0 => 0
  | d + 1 => (fun i : Int => (fun (x y : S49) => if rowFault x.f0 x.f1 x.f2 x.f3 = 0 then (if i > 0 then (if aheadR y x = true then tableFrom l d else 1) else tableFrom l d) else rowFault x.f0 x.f1 x.f2 x.f3) (rd_T49 l i) (rd_T49 l (i - 1))) ((l.length : Int) - (d + 1))
def tableFault (l : List S49) : Int := if (l.length : Int) > 200 then 2 else tableFrom l l.length
theorem spec_TableFault_ev (l : List S49) : Ev (fun k => spec_TableFault.f k l) (tableFault l) := by
  unfold spec_TableFault.f tableFault
  refine Ev.cond (fun _ => Ev.now _) (fun hl => ?_)
  have go : ∀ d : Nat, d ≤ l.length → Ev (fun k => spec_TableFault.l0 k l ((l.length : Int) - d)) (tableFrom l d) := by
    intro d
    induction d with
    | zero => intro _; exact Ev.step (fun k => spec_TableFault.l0.eq_2 ..) (Ev.neg (by omega) (Ev.now _))
    | succ d ih =>
      intro hd
      have h := ih (by omega)
      refine Ev.step (fun k => spec_TableFault.l0.eq_2 ..) (Ev.pos (by omega) (Ev.pos (by omega) (Ev.bind (spec_RowFault_ev ..) ?_)))
      rw [w64 (x := (l.length : Int) - ((d + 1 : Nat) : Int) + 1) (by omega) (by omega), w64 (x := (l.length : Int) - ((d + 1 : Nat) : Int) - 1) (by omega) (by omega), show (l.length : Int) - ((d + 1 : Nat) : Int) + 1 = (l.length : Int) - d by omega]
      rw [show ((d + 1 : Nat) : Int) = (d : Int) + 1 by omega]
      unfold tableFrom
      refine Ev.cond (fun _ => Ev.cond (fun hp => Ev.pos (by omega) (Ev.pos (by omega) (Ev.bind (Ev.is (spec_l5Ahead_eq ..)) (Ev.cond (fun _ => h) (fun _ => Ev.now _))))) (fun _ => h)) (fun _ => Ev.now _)
  have := go l.length (by omega)
  rw [show (l.length : Int) - (l.length : Nat) = 0 by omega] at this
  exact this
theorem impl_TableFault_ev (l : List S49) : Ev (fun k => impl_TableFault.f k l) (tableFault l) := by
  unfold impl_TableFault.f tableFault
  refine Ev.cond (fun _ => Ev.now _) (fun hl => ?_)
  have go : ∀ d : Nat, d ≤ l.length → Ev (fun k => impl_TableFault.l0 k l l (l.length : Int) ((l.length : Int) - d)) (tableFrom l d) := by
    intro d
    induction d with
    | zero => intro _; exact Ev.step (fun k => impl_TableFault.l0.eq_2 ..) (Ev.neg (by omega) (Ev.now _))
    | succ d ih =>
      intro hd
      have h := ih (by omega)
      refine Ev.step (fun k => impl_TableFault.l0.eq_2 ..) (Ev.pos (by omega) (Ev.pos (by omega) (Ev.pos (by omega) (Ev.bind (impl_RowFault_ev ..) ?_))))
      rw [w64 (x := (l.length : Int) - ((d + 1 : Nat) : Int) + 1) (by omega) (by omega), w64 (x := (l.length : Int) - ((d + 1 : Nat) : Int) - 1) (by omega) (by omega), show (l.length : Int) - ((d + 1 : Nat) : Int) + 1 = (l.length : Int) - d by omega]
      rw [show ((d + 1 : Nat) : Int) = (d : Int) + 1 by omega]
      unfold tableFrom
      refine Ev.cond (fun _ => Ev.cond (fun hp => Ev.pos (by omega) (Ev.pos (by omega) (Ev.bind (impl_compareRows_ev ..) ?_))) (fun _ => h)) (fun _ => Ev.now _)
      by_cases ha : aheadR (rd_T49 l ((l.length : Int) - ((d : Int) + 1) - 1)) (rd_T49 l ((l.length : Int) - ((d : Int) + 1))) = true
      · rw [if_pos ha]
        exact Ev.neg (fun h => (cmpR_ahead _ _).1 h ha) h
      · rw [if_neg ha]
        exact Ev.pos ((cmpR_ahead _ _).2 ha) (Ev.now _)
  have := go l.length (by omega)
  rw [show (l.length : Int) - (l.length : Nat) = 0 by omega] at this
  exact this

/-- Of the first i texts those that differ from the one ahead of them. -/
def uniq (s : List ByteArray) : Nat → List ByteArray
  | 0 => []
  | i + 1 => if i ≠ 0 ∧ (rdOf ByteArray.empty s i).toList = (rdOf ByteArray.empty s ((i : Int) - 1)).toList then uniq s i else uniq s i ++ [rdOf ByteArray.empty s i]
theorem uniq_len (s : List ByteArray) : ∀ i : Nat, (uniq s i).length ≤ i
  | 0 => Nat.le_refl _
  | i + 1 => by
    have := uniq_len s i
    unfold uniq
    split
    · omega
    · rw [List.length_append, List.length_singleton]
      omega
theorem rdS (s : List ByteArray) (i : Int) (h0 : 0 ≤ i) (h1 : i < (s.length : Int)) : rdOf ByteArray.empty s i = s[i.toNat]'(by omega) := by
  unfold rdOf
  rw [List.getD_eq_getElem?_getD, List.getElem?_eq_getElem (by omega)]
  rfl
theorem rdS_of {s t : List ByteArray} {i : Int} (h : s[i.toNat]? = t[i.toNat]?) : rdOf ByteArray.empty s i = rdOf ByteArray.empty t i := by
  unfold rdOf
  rw [List.getD_eq_getElem?_getD, List.getD_eq_getElem?_getD, h]
theorem takeS_succ (s : List ByteArray) (i : Nat) (h : i < s.length) : s.take (i + 1) = s.take i ++ [rdOf ByteArray.empty s i] := by
  rw [List.take_add_one, List.getElem?_eq_getElem h, rdS s i (by omega) (by omega)]
  rfl
theorem uniq_dup {s : List ByteArray} {i : Nat} (h0 : i ≠ 0) (h : (rdOf ByteArray.empty s i).toList = (rdOf ByteArray.empty s ((i : Int) - 1)).toList) : uniq s (i + 1) = uniq s i := by
  conv => lhs; unfold uniq
  rw [if_pos ⟨h0, h⟩]
theorem uniq_new {s : List ByteArray} {i : Nat} (h : ¬ (i ≠ 0 ∧ (rdOf ByteArray.empty s i).toList = (rdOf ByteArray.empty s ((i : Int) - 1)).toList)) : uniq s (i + 1) = uniq s i ++ [rdOf ByteArray.empty s i] := by
  conv => lhs; unfold uniq
  rw [if_neg h]
theorem compact_rest_ev (s : List ByteArray) (hs : s.length ≤ 1000000000) (y : List ByteArray) (b : Nat) (hb : (b : Int) = (s.length : Int) - (y.length : Int)) (h1 : 1 ≤ b) (hlt : b < s.length) (hu : uniq s (b + 1) = s.take b) : Ev (fun k => slices_Compact_string.l1 k s (b : Int) y 1) (uniq s s.length) := by
  refine Ev.upto1 (fun k (x : List ByteArray × Int) i => slices_Compact_string.l1 k x.1 x.2 y i) y.length (by omega) (fun i x => 1 ≤ i ∧ x.1.length = s.length ∧ 0 ≤ x.2 ∧ x.2 < (b : Int) + i ∧ x.1.take x.2.toNat = uniq s ((b : Int) + i).toNat ∧ ∀ j : Nat, x.2 ≤ (j : Int) → x.1[j]? = s[j]?) (uniq s s.length)
    (fun i x h0 hi ⟨i1, hl, p0, p1, pt, pj⟩ => ?_) (fun x ⟨_, hl, p0, p1, pt, pj⟩ => ?_) 1 (s, (b : Int)) (by omega) (by omega) ⟨Int.le_refl _, rfl, by omega, by show (b : Int) < (b : Int) + 1; omega, by show s.take ((b : Int)).toNat = _; rw [show ((b : Int)).toNat = b by omega, show ((b : Int) + 1).toNat = b + 1 by omega]; exact hu.symm, fun _ _ => rfl⟩
  · obtain ⟨x0, x3⟩ := x
    simp only at hl p0 p1 pt pj
    obtain ⟨m, hm⟩ : ∃ m : Nat, (m : Int) = (b : Int) + i := ⟨b + i.toNat, by omega⟩
    have hw : wrap64 (i - 1) = i - 1 := w64 (by omega) (by omega)
    have e1 : (x0.length : Int) - (y.length : Int) + i = (m : Int) := by omega
    have e2 : (x0.length : Int) - (y.length : Int) + (i - 1) = (m : Int) - 1 := by omega
    have r1 : rdOf ByteArray.empty x0 (m : Int) = rdOf ByteArray.empty s (m : Int) := rdS_of (pj _ (by omega))
    have r2 : rdOf ByteArray.empty x0 ((m : Int) - 1) = rdOf ByteArray.empty s ((m : Int) - 1) := rdS_of (pj _ (by omega))
    rw [← hm, show ((m : Int)).toNat = m by omega] at pt
    by_cases hd : (rdOf ByteArray.empty s (m : Int)).toList = (rdOf ByteArray.empty s ((m : Int) - 1)).toList
    · refine .inl ⟨(x0, x3), ⟨by omega, hl, p0, by show x3 < (b : Int) + (i + 1); omega, ?_, pj⟩, fun h => Ev.step (fun k => slices_Compact_string.l1.eq_2 ..) (Ev.pos hi (Ev.pos (by omega) ?_))⟩
      · show x0.take x3.toNat = _
        rw [show ((b : Int) + (i + 1)).toNat = m + 1 by omega, uniq_dup (by omega) hd]
        exact pt
      · rw [hw, e1, e2, r1, r2]
        exact Ev.pos (by omega) (Ev.pos (by omega) (Ev.pos hd h))
    · refine .inl ⟨(x0.set x3.toNat (rdOf ByteArray.empty s (m : Int)), x3 + 1), ⟨by omega, by simp [hl], by show 0 ≤ x3 + 1; omega, by show x3 + 1 < (b : Int) + (i + 1); omega, ?_, ?_⟩, fun h => Ev.step (fun k => slices_Compact_string.l1.eq_2 ..) (Ev.pos hi (Ev.pos (by omega) ?_))⟩
      · show (x0.set x3.toNat _).take (x3 + 1).toNat = _
        rw [show ((b : Int) + (i + 1)).toNat = m + 1 by omega, uniq_new (fun hh => hd hh.2), show (x3 + 1).toNat = x3.toNat + 1 by omega, List.take_add_one, List.getElem?_set_self (by omega), List.take_set_of_le (Nat.le_refl _), pt]
        rfl
      · intro j hj
        show (x0.set x3.toNat _)[j]? = _
        have hj : x3 + 1 ≤ (j : Int) := hj
        rw [List.getElem?_set_ne (by omega)]
        exact pj j (by omega)
      · rw [hw, e1, e2, r1, r2]
        have hx3 : x3 < (x0.length : Int) := by omega
        refine Ev.pos (by omega) (Ev.pos (by omega) (Ev.neg hd (Ev.pos p0 (Ev.pos hx3 ?_))))
        rw [w64 (x := x3 + 1) (by omega) (by omega)]
        exact h
  · obtain ⟨x0, x3⟩ := x
    simp only at hl p0 p1 pt pj
    rw [show ((b : Int) + (y.length : Int)).toNat = s.length by omega] at pt
    rw [← pt]
    have hx3 : x3 < (x0.length : Int) := by omega
    exact Ev.step (fun k => slices_Compact_string.l1.eq_2 ..) (Ev.neg (by omega) (Ev.pos hx3 (Ev.pos p0 (Ev.pos (Int.le_of_lt hx3) (Ev.now _)))))
theorem compact_ev (s : List ByteArray) (hs : s.length ≤ 1000000000) : Ev (fun k => slices_Compact_string.f k s) (uniq s s.length) := by
  unfold slices_Compact_string.f
  by_cases h2 : (s.length : Int) < 2
  · refine Ev.pos h2 (Ev.eq (Ev.now _) ?_)
    rcases s with _ | ⟨a, _ | ⟨b, r⟩⟩
    · rfl
    · rfl
    · simp at h2
      omega
  · refine Ev.neg h2 ?_
    refine Ev.upto1 (fun k (_ : Unit) i => slices_Compact_string.l0 k s i) s.length (by omega) (fun i _ => 1 ≤ i ∧ uniq s i.toNat = s.take i.toNat) (uniq s s.length) (fun i _ h0 h1 ⟨p1, pu⟩ => ?_) (fun _ ⟨p1, pu⟩ => ?_) 1 () (by omega) (by omega) ⟨by omega, ?_⟩
    · obtain ⟨m, rfl⟩ : ∃ m : Nat, i = m := ⟨i.toNat, by omega⟩
      rw [show ((m : Int)).toNat = m by omega] at pu
      have hw : wrap64 ((m : Int) - 1) = (m : Int) - 1 := w64 (by omega) (by omega)
      by_cases hd : (rdOf ByteArray.empty s (m : Int)).toList = (rdOf ByteArray.empty s ((m : Int) - 1)).toList
      · refine .inr (Ev.step (fun k => slices_Compact_string.l0.eq_2 ..) (Ev.pos h1 (Ev.pos h0 ?_)))
        rw [hw]
        refine Ev.pos (by omega) (Ev.pos (by omega) (Ev.pos hd (Ev.pos (by omega) ?_)))
        exact compact_rest_ev s hs (s.drop ((m : Int)).toNat) m (by rw [List.length_drop]; omega) (by omega) (by omega) (by rw [uniq_dup (by omega) hd]; exact pu)
      · refine .inl ⟨(), ⟨by omega, ?_⟩, fun h => Ev.step (fun k => slices_Compact_string.l0.eq_2 ..) (Ev.pos h1 (Ev.pos h0 ?_))⟩
        · rw [show ((m : Int) + 1).toNat = m + 1 by omega, uniq_new (fun hh => hd hh.2), takeS_succ s m (by omega), pu]
        · rw [hw]
          exact Ev.pos (by omega) (Ev.pos (by omega) (Ev.neg hd h))
    · rw [show ((s.length : Int)).toNat = s.length by omega, List.take_of_length_le (Nat.le_refl _)] at pu
      rw [pu]
      exact Ev.step (fun k => slices_Compact_string.l0.eq_2 ..) (Ev.neg (by omega) (Ev.now _))
    · show uniq s 1 = s.take 1
      rw [uniq_new (fun hh => hh.1 rfl), takeS_succ s 0 (by omega)]
      rfl
/-- The rows' keys. -/
def keyL (l : List S49) : List ByteArray := l.map fun x => x.f0
theorem keyL_at (l : List S49) (i : Int) (h0 : 0 ≤ i) (h1 : i < (l.length : Int)) : rdOf ByteArray.empty (keyL l) i = (rd_T49 l i).f0 := by
  have hl : (keyL l).length = l.length := by simp [keyL]
  rw [rdS _ i h0 (by omega), rdRow_at l i h0 h1]
  simp [keyL]
def keysR (l : List S49) : List ByteArray := uniq (keyL l) l.length
theorem spec_l5Keys_ev (l : List S49) (hl : l.length ≤ 1000000000) : Ev (fun k => spec_l5Keys.f k l) (keysR l) := by
  unfold spec_l5Keys.f keysR
  refine Ev.upto1 (fun k (x : List ByteArray) i => spec_l5Keys.l0 k l x i) l.length (by omega) (fun i x => x = uniq (keyL l) i.toNat) (uniq (keyL l) l.length) (fun i x h0 h1 hx => .inl ?_) (fun x hx => ?_) 0 [] (by omega) (by omega) rfl
  · obtain ⟨m, rfl⟩ : ∃ m : Nat, i = m := ⟨i.toNat, by omega⟩
    rw [show ((m : Int)).toNat = m by omega] at hx
    have hn := uniq_len (keyL l) m
    rw [← hx] at hn
    have r1 := keyL_at l (m : Int) h0 h1
    have hw : wrap64 ((m : Int) - 1) = (m : Int) - 1 := w64 (by omega) (by omega)
    by_cases hm : m = 0
    · refine ⟨x ++ [rdOf ByteArray.empty (keyL l) (m : Int)], by rw [show ((m : Int) + 1).toNat = m + 1 by omega, uniq_new (fun hh => hh.1 hm), hx], fun h => Ev.step (fun k => spec_l5Keys.l0.eq_2 ..) (Ev.pos h1 (Ev.pos (by omega) (Ev.pos h0 (Ev.pos (by omega) ?_))))⟩
      rw [← r1]
      exact h
    · have r2 := keyL_at l ((m : Int) - 1) (by omega) (by omega)
      by_cases hd : (rdOf ByteArray.empty (keyL l) (m : Int)).toList = (rdOf ByteArray.empty (keyL l) ((m : Int) - 1)).toList
      · refine ⟨x, by rw [show ((m : Int) + 1).toNat = m + 1 by omega, uniq_dup hm hd, hx], fun h => Ev.step (fun k => spec_l5Keys.l0.eq_2 ..) (Ev.pos h1 (Ev.neg (by omega) (Ev.pos h0 ?_)))⟩
        rw [hw, ← r1, ← r2]
        exact Ev.pos (by omega) (Ev.pos (by omega) (Ev.pos hd h))
      · refine ⟨x ++ [rdOf ByteArray.empty (keyL l) (m : Int)], by rw [show ((m : Int) + 1).toNat = m + 1 by omega, uniq_new (fun hh => hd hh.2), hx], fun h => Ev.step (fun k => spec_l5Keys.l0.eq_2 ..) (Ev.pos h1 (Ev.neg (by omega) (Ev.pos h0 ?_)))⟩
        rw [hw, ← r1, ← r2]
        exact Ev.pos (by omega) (Ev.pos (by omega) (Ev.neg hd (Ev.pos (by omega) h)))
  · rw [show ((l.length : Int)).toNat = l.length by omega] at hx
    rw [← hx]
    exact Ev.step (fun k => spec_l5Keys.l0.eq_2 ..) (Ev.neg (by omega) (Ev.now _))
theorem impl_keysOf_ev (l : List S49) (hl : l.length ≤ 1000000000) : Ev (fun k => impl_keysOf.f k l) (keysR l) := by
  unfold impl_keysOf.f keysR
  have hk : (keyL l).length = l.length := by simp [keyL]
  refine Ev.upto1 (fun k (x : List ByteArray) i => impl_keysOf.l0 k x l (l.length : Int) i) l.length (by omega) (fun i x => x = (keyL l).take i.toNat) (uniq (keyL l) l.length) (fun i x h0 h1 hx => .inl ?_) (fun x hx => ?_) 0 [] (by omega) (by omega) rfl
  · obtain ⟨m, rfl⟩ : ∃ m : Nat, i = m := ⟨i.toNat, by omega⟩
    rw [show ((m : Int)).toNat = m by omega] at hx
    have r1 := keyL_at l (m : Int) h0 h1
    have hn : x.length ≤ m := by rw [hx, List.length_take]; omega
    refine ⟨x ++ [rdOf ByteArray.empty (keyL l) (m : Int)], by rw [show ((m : Int) + 1).toNat = m + 1 by omega, takeS_succ _ m (by omega), hx], fun h => Ev.step (fun k => impl_keysOf.l0.eq_2 ..) (Ev.pos h1 (Ev.pos h0 (Ev.pos h1 (Ev.pos (by omega) ?_))))⟩
    rw [← r1]
    exact h
  · rw [show ((l.length : Int)).toNat = l.length by omega, List.take_of_length_le (by omega)] at hx
    subst hx
    have := compact_ev (keyL l) (by omega)
    rw [hk] at this
    exact Ev.step (fun k => impl_keysOf.l0.eq_2 ..) (Ev.neg (by omega) (Ev.bind this (Ev.now _)))
theorem keysR_len (l : List S49) : (keysR l).length ≤ l.length := uniq_len _ _

/-- Is it a row of this key, not younger? -/
def isGet (key : ByteArray) (v : Int) (x : S49) : Bool := (x.f0.toList == key.toList) && decide (x.f1 ≤ v)
theorem index_ev [FN_slices_IndexFunc_impl_Row] (q : S49 → Bool) (hq : ∀ x : S49, FN_slices_IndexFunc_impl_Row.f x.f0 x.f1 x.f2 x.f3 = some (q x)) (l : List S49) (hl : l.length ≤ 1000000000) :
    ∃ r : Int, (r < 0 ∧ l.find? q = none ∨ 0 ≤ r ∧ r < (l.length : Int) ∧ l.find? q = some (rd_T49 l r)) ∧ Ev (fun k => slices_IndexFunc_impl_Row.f k l) r := by
  unfold slices_IndexFunc_impl_Row.f
  exact Ev.upto (fun k (_ : Unit) i => slices_IndexFunc_impl_Row.l0 k l (l.length : Int) i) l.length (by omega) (fun i _ => (l.drop i.toNat).find? q = l.find? q) (fun r => r < 0 ∧ l.find? q = none ∨ 0 ≤ r ∧ r < (l.length : Int) ∧ l.find? q = some (rd_T49 l r))
    (fun i _ h0 h1 hp => by
      have hr := rdRow_at l i h0 h1
      rw [drop_cons_at l i.toNat (by omega), List.find?_cons] at hp
      generalize l[i.toNat]'(by omega) = x at hr hp
      by_cases hx : q x = true
      · rw [hx] at hp
        refine .inr ⟨i, .inr ⟨h0, h1, by rw [hr]; exact hp.symm⟩, Ev.step (fun k => slices_IndexFunc_impl_Row.l0.eq_2 ..) (Ev.pos h1 (Ev.pos h0 (Ev.pos h1 ?_)))⟩
        rw [hr]
        exact Ev.bind (Ev.is (hq x)) (Ev.pos hx (Ev.now _))
      · have hf : q x = false := by simpa using hx
        rw [hf] at hp
        refine .inl ⟨(), by rw [show (i + 1).toNat = i.toNat + 1 by omega]; exact hp, fun r h => Ev.step (fun k => slices_IndexFunc_impl_Row.l0.eq_2 ..) (Ev.pos h1 (Ev.pos h0 (Ev.pos h1 ?_)))⟩
        rw [hr]
        exact Ev.bind (Ev.is (hq x)) (Ev.neg hx h))
    (fun _ hp => ⟨-1, .inl ⟨by decide, by rw [← hp, List.drop_eq_nil_of_le (by omega)]; rfl⟩, Ev.step (fun k => slices_IndexFunc_impl_Row.l0.eq_2 ..) (Ev.neg (by omega) (Ev.now _))⟩)
    0 () (by omega) (by omega) rfl
/-- What a reading tells of rows. -/
def findR (l : List S49) (key : ByteArray) (v : Int) : Option S49 := l.find? (isGet key v)
theorem spec_l5Get_ev (l : List S49) (key : ByteArray) (v : Int) (hl : l.length ≤ 1000000000) :
    ∃ r : Int, (r < 0 ∧ (∀ x, findR l key v = some x → x.f3 = true) ∨ 0 ≤ r ∧ r < (l.length : Int) ∧ findR l key v = some (rd_T49 l r) ∧ (rd_T49 l r).f3 = false) ∧ Ev (fun k => spec_l5Get.f k l key v) r := by
  unfold spec_l5Get.f findR
  exact Ev.upto (fun k (_ : Unit) i => spec_l5Get.l0 k l key v i) l.length (by omega) (fun i _ => (l.drop i.toNat).find? (isGet key v) = l.find? (isGet key v)) (fun r => r < 0 ∧ (∀ x, l.find? (isGet key v) = some x → x.f3 = true) ∨ 0 ≤ r ∧ r < (l.length : Int) ∧ l.find? (isGet key v) = some (rd_T49 l r) ∧ (rd_T49 l r).f3 = false)
    (fun i _ h0 h1 hp => by
      have hr := rdRow_at l i h0 h1
      rw [drop_cons_at l i.toNat (by omega), List.find?_cons] at hp
      generalize l[i.toNat]'(by omega) = x at hr hp
      have hgo : ∀ r, Ev (fun k => spec_l5Get.j1 k l key v i (isGet key v x)) r → Ev (fun k => spec_l5Get.l0 k l key v i) r := by
        intro r h
        refine Ev.step (fun k => spec_l5Get.l0.eq_2 ..) (Ev.pos h1 (Ev.pos h0 ?_))
        rw [hr]
        unfold isGet at h
        by_cases hk : x.f0.toList = key.toList
        · refine Ev.pos hk ?_
          have e : (x.f0.toList == key.toList) = true := by simpa using hk
          rw [e, Bool.true_and] at h
          exact h
        · refine Ev.neg hk ?_
          have e : (x.f0.toList == key.toList) = false := by simpa using hk
          rw [e, Bool.false_and] at h
          exact h
      by_cases hx : isGet key v x = true
      · rw [hx] at hp
        by_cases hgone : x.f3 = true
        · refine .inr ⟨-1, .inl ⟨by decide, fun y hy => by rw [← hp] at hy; cases hy; exact hgone⟩, hgo _ (Ev.step (fun k => spec_l5Get.j1.eq_2 ..) (Ev.pos hx (Ev.pos h0 (Ev.pos h1 ?_))))⟩
          rw [hr]
          exact Ev.pos hgone (Ev.now _)
        · refine .inr ⟨i, .inr ⟨h0, h1, by rw [hr]; exact hp.symm, by rw [hr]; simpa using hgone⟩, hgo _ (Ev.step (fun k => spec_l5Get.j1.eq_2 ..) (Ev.pos hx (Ev.pos h0 (Ev.pos h1 ?_))))⟩
          rw [hr]
          exact Ev.neg hgone (Ev.now _)
      · have hf : isGet key v x = false := by simpa using hx
        rw [hf] at hp
        exact .inl ⟨(), by rw [show (i + 1).toNat = i.toNat + 1 by omega]; exact hp, fun r h => hgo _ (Ev.step (fun k => spec_l5Get.j1.eq_2 ..) (Ev.neg hx h))⟩)
    (fun _ hp => ⟨-1, .inl ⟨by decide, fun y hy => by rw [← hp, List.drop_eq_nil_of_le (by omega)] at hy; cases hy⟩, Ev.step (fun k => spec_l5Get.l0.eq_2 ..) (Ev.neg (by omega) (Ev.now _))⟩)
    0 () (by omega) (by omega) rfl
/-- What GetRow tells. -/
def getR (l : List S49) (key : ByteArray) (v : Int) : Int × ByteArray :=
  if tableFault l = 0 then (match findR l key v with | some x => if x.f3 = true then (4, ⟨#[]⟩) else (0, x.f2) | none => (4, ⟨#[]⟩)) else (tableFault l, ⟨#[]⟩)
theorem impl_rowOf_ev (l : List S49) (key : ByteArray) (v : Int) (hl : l.length ≤ 1000000000) : Ev (fun k => impl_rowOf.f k l key v) (match findR l key v with | some x => (x.f0, x.f1, x.f2, x.f3, true) | none => (⟨#[]⟩, 0, ⟨#[]⟩, false, false)) := by
  unfold impl_rowOf.f CL_114.f
  obtain ⟨r, hr, he⟩ := @index_ev (CL_114.p key v) (isGet key v) (fun x => rfl) l hl
  refine Ev.bind he ?_
  unfold findR
  rcases hr with ⟨h0, h1⟩ | ⟨h0, h1, h2⟩
  · rw [h1]
    exact Ev.pos h0 (Ev.now _)
  · rw [h2]
    exact Ev.neg (by omega) (Ev.pos h0 (Ev.pos h1 (Ev.now _)))
theorem markText_loop : ∀ (n : Nat) (x : Int) (s : ByteArray), x.toNat ≤ n → 0 ≤ x → (s.size : Int) + x ≤ 4000000000000000000 → ∃ t, Ev (fun k => laws_markText.l0 k x s) t := by
  intro n
  induction n with
  | zero =>
    intro x s h0 h1 h2
    exact ⟨_, Ev.step (fun k => laws_markText.l0.eq_2 ..) (Ev.neg (by omega) (Ev.pos (by omega) (Ev.now _)))⟩
  | succ n ih =>
    intro x s h0 h1 h2
    by_cases hx : x > 0
    · have hd : Int.tdiv x 10 = x / 10 := Int.tdiv_eq_ediv_of_nonneg h1
      have hz : ∀ c : Int, (strOfNums [c] ++ s).size = 1 + s.size := fun c => by rw [ByteArray.size_append, strOfNums_size]; rfl
      obtain ⟨t, ht⟩ := ih (x / 10) (strOfNums [wrap64 (48 + Int.tmod x 10) % 256] ++ s) (by omega) (by omega) (by rw [hz]; omega)
      refine ⟨t, Ev.step (fun k => laws_markText.l0.eq_2 ..) (Ev.pos hx (Ev.let (Ev.pos (by rw [strOfNums_size]; simp only [List.length_cons, List.length_nil]; omega) ?_)))⟩
      rw [hd, w64 (x := x / 10) (by omega) (by omega)]
      exact ht
    · exact ⟨_, Ev.step (fun k => laws_markText.l0.eq_2 ..) (Ev.neg hx (Ev.pos (by omega) (Ev.now _)))⟩
theorem markText_ev (x : Int) (h : x ≤ 3000000000000000000) : ∃ t, Ev (fun k => laws_markText.f k x) t := by
  unfold laws_markText.f
  by_cases h0 : x ≤ 0
  · exact ⟨_, Ev.pos h0 (Ev.now _)⟩
  · obtain ⟨t, ht⟩ := markText_loop x.toNat x ⟨#[]⟩ (Nat.le_refl _) (by omega) (show ((0 : Nat) : Int) + x ≤ _ by omega)
    exact ⟨t, Ev.neg h0 ht⟩

theorem Ev.eq' {α : Type} {g g' : Nat → Option α} {a : α} (h : Ev g a) (e : g' = g) : Ev g' a := e ▸ h
/-- What the numbers' marks are. -/
def MT (mt : Int → ByteArray) : Prop := ∀ x : Int, x ≤ 3000000000000000000 → Ev (fun k => laws_markText.f k x) (mt x)
theorem markT_all : ∃ mt : Int → ByteArray, MT mt := by
  have h : ∀ x : Int, ∃ t : ByteArray, x ≤ 3000000000000000000 → Ev (fun k => laws_markText.f k x) t := fun x => by
    by_cases hx : x ≤ 3000000000000000000
    · obtain ⟨t, ht⟩ := markText_ev x hx
      exact ⟨t, fun _ => ht⟩
    · exact ⟨⟨#[]⟩, fun h => absurd h hx⟩
  exact ⟨fun x => Classical.choose (h x), fun x hx => Classical.choose_spec (h x) hx⟩

def markRow (mt : Int → ByteArray) (m : Int) : S49 := ⟨mt m, m + 1, mt (m + 2), Int.tmod (m + 3) 3 == 0⟩
def markRows (mt : Int → ByteArray) (n : Nat) : List S49 := (List.range n).map fun (i : Nat) => markRow mt (1 + 4 * (i : Int))
theorem markRows_len (mt : Int → ByteArray) (n : Nat) : (markRows mt n).length = n := by simp [markRows]
theorem markRows_get (mt : Int → ByteArray) (n : Nat) (i : Nat) (h : i < n) : (markRows mt n)[i]? = some (markRow mt (1 + 4 * (i : Int))) := by simp [markRows, h]
theorem rdRow_set (l : List S49) (i : Int) (v : S49) (h0 : 0 ≤ i) (h1 : i < (l.length : Int)) : rd_T49 (l.set i.toNat v) i = v := rdRow (by rw [List.getElem?_set_self (by omega)])
theorem markRowS_ev {mt : Int → ByteArray} (hmt : MT mt) (l : List S49) (hl : l.length ≤ 1000000000) : Ev (fun k => laws_markRowS.f k l 1) (1 + 4 * (l.length : Int), markRows mt l.length) := by
  unfold laws_markRowS.f
  refine Ev.upto1 (fun k (s : List S49 × Int) i => laws_markRowS.l0 k s.1 s.2 i) l.length (by omega) (fun i s => s.1.length = l.length ∧ s.2 = 1 + 4 * i ∧ s.1.take i.toNat = (markRows mt l.length).take i.toNat) (1 + 4 * (l.length : Int), markRows mt l.length)
    (fun i s h0 h1 ⟨hs, hm, ht⟩ => ?_) (fun s ⟨hs, hm, ht⟩ => Ev.step (fun k => laws_markRowS.l0.eq_2 ..) (Ev.neg (by omega) (Ev.eq (Ev.now _) ?_))) 0 (l, 1) (by omega) (by omega) ⟨rfl, by simp, by simp⟩
  · refine .inl ⟨(s.1.set i.toNat (markRow mt s.2), s.2 + 1 + 1 + 1 + 1), ⟨by simp [hs], by show s.2 + 1 + 1 + 1 + 1 = 1 + 4 * (i + 1); omega, ?_⟩, fun h => Ev.step (fun k => laws_markRowS.l0.eq_2 ..) (Ev.pos (by omega) (Ev.bind (hmt s.2 (by omega)) (Ev.pos h0 (Ev.let (Ev.let ?_)))))⟩
    · show (s.1.set i.toNat (markRow mt s.2)).take (i + 1).toNat = _
      rw [show (i + 1).toNat = i.toNat + 1 by omega]
      refine take_set_succ _ _ _ _ (by omega) ht ?_
      rw [markRows_get mt _ _ (by omega), hm, show ((i.toNat : Nat) : Int) = i by omega]
    · rw [w64 (x := s.2 + 1) (by omega) (by omega), w64 (x := s.2 + 1 + 1) (by omega) (by omega), w64 (x := s.2 + 1 + 1 + 1) (by omega) (by omega), w64 (x := s.2 + 1 + 1 + 1 + 1) (by omega) (by omega)]
      refine Ev.bind (hmt (s.2 + 1 + 1) (by omega)) (Ev.let ?_)
      refine Ev.eq' h ?_
      funext k
      have hlen : i < (s.1.length : Int) := by omega
      simp only [rdRow_set s.1 i _ h0 hlen, List.set_set]
      unfold markRow
      rw [show s.2 + 1 + 1 = s.2 + 2 by omega, show s.2 + 2 + 1 = s.2 + 3 by omega]
  · rw [List.take_of_length_le (by omega), List.take_of_length_le (by simp [markRows_len])] at ht
    rw [ht, hm]

theorem heldRowS_ev {mt : Int → ByteArray} (hmt : MT mt) (n : Nat) (hn : n ≤ 1000000000) : Ev (fun k => laws_heldRowS.f k (markRows mt n) 1) (1 + 4 * (n : Int)) := by
  unfold laws_heldRowS.f
  refine Ev.upto1 (fun k (s : Int) i => laws_heldRowS.l0 k (markRows mt n) s i) n (by omega) (fun i s => s = 1 + 4 * i) (1 + 4 * (n : Int))
    (fun i s h0 h1 hs => ?_) (fun s hs => Ev.step (fun k => laws_heldRowS.l0.eq_2 ..) (Ev.neg (by rw [markRows_len mt]; omega) (Ev.eq (Ev.now _) hs))) 0 1 (by omega) (by omega) (by simp)
  have hr : rd_T49 (markRows mt n) i = markRow mt s := rdRow (by rw [markRows_get mt _ _ (by omega), hs, show ((i.toNat : Nat) : Int) = i by omega])
  refine .inl ⟨s + 1 + 1 + 1 + 1, by omega, fun h => Ev.step (fun k => laws_heldRowS.l0.eq_2 ..) (Ev.pos (by rw [markRows_len mt]; exact h1) (Ev.pos h0 (Ev.bind (hmt s (by omega)) ?_)))⟩
  rw [hr, w64 (x := s + 1) (by omega) (by omega), w64 (x := s + 1 + 1) (by omega) (by omega), w64 (x := s + 1 + 1 + 1) (by omega) (by omega), w64 (x := s + 1 + 1 + 1 + 1) (by omega) (by omega)]
  refine Ev.pos rfl (Ev.pos rfl (Ev.bind (hmt (s + 1 + 1) (by omega)) (Ev.pos ?_ (Ev.neg ?_ h))))
  · show (mt (s + 2)).toList = _
    rw [show s + 1 + 1 = s + 2 by omega]
  · show ¬ ((Int.tmod (s + 3) 3 == 0) != (Int.tmod (s + 1 + 1 + 1) 3 == 0)) = true
    rw [show s + 1 + 1 + 1 = s + 3 by omega]
    simp
theorem markRowsResult_ev {mt : Int → ByteArray} (hmt : MT mt) (c : Int) (l : List S49) (hl : l.length ≤ 1000000000) : Ev (fun k => laws_markRowsResult.f k c l 1) (1 + 4 * (l.length : Int), markRows mt l.length) := by
  unfold laws_markRowsResult.f
  exact Ev.bind (markRowS_ev hmt l hl) (Ev.now _)
theorem heldRowsResult_ev {mt : Int → ByteArray} (hmt : MT mt) (c : Int) (n : Nat) (hn : n ≤ 1000000000) : Ev (fun k => laws_heldRowsResult.f k c (markRows mt n) 1) (1 + 4 * (n : Int)) := by
  unfold laws_heldRowsResult.f
  exact Ev.bind (heldRowS_ev hmt n hn) (Ev.neg (by omega) (Ev.now _))

/-- Does a text begin so? -/
def pre (key p : ByteArray) : Bool := decide ((p.size : Int) ≤ (key.size : Int)) && ((key.extract 0 ((p.size : Int) : Int).toNat).toList == p.toList)
theorem hasPrefix_eq (key p : ByteArray) : strings_HasPrefix.f key p = some (pre key p) := by
  unfold strings_HasPrefix.f stringslite_HasPrefix.f pre
  by_cases h : (key.size : Int) ≥ (p.size : Int)
  · have e : decide ((p.size : Int) ≤ (key.size : Int)) = true := decide_eq_true h
    rw [if_pos h, if_pos (by omega), if_pos h, e, Bool.true_and]
    rfl
  · have e : decide ((p.size : Int) ≤ (key.size : Int)) = false := decide_eq_false h
    rw [if_neg h, e, Bool.false_and]
    rfl
/-- What a key adds to a scan. -/
def scanStep (l : List S49) (v : Int) (p : ByteArray) (out : List S49) (key : ByteArray) : List S49 := match findR l key v with
  | some x => if x.f3 = true then out else if pre key p = true then out ++ [x] else out
  | none => out
theorem scanStep_len (l : List S49) (v : Int) (p : ByteArray) (out : List S49) (key : ByteArray) : (scanStep l v p out key).length ≤ out.length + 1 := by
  unfold scanStep
  split
  · split
    · omega
    · split
      · simp
      · omega
  · omega
def scanTo (l : List S49) (v : Int) (p : ByteArray) (ks : List ByteArray) : Nat → List S49
  | 0 => []
  | i + 1 => scanStep l v p (scanTo l v p ks i) (rdOf ByteArray.empty ks i)
theorem scanTo_len (l : List S49) (v : Int) (p : ByteArray) (ks : List ByteArray) : ∀ i : Nat, (scanTo l v p ks i).length ≤ i
  | 0 => Nat.le_refl _
  | i + 1 => by
    have := scanTo_len l v p ks i
    have := scanStep_len l v p (scanTo l v p ks i) (rdOf ByteArray.empty ks i)
    unfold scanTo
    omega
theorem impl_scan_ev (l : List S49) (v : Int) (p : ByteArray) (ks : List ByteArray) (hl : l.length ≤ 1000000000) (hk : ks.length ≤ 1000000000) : Ev (fun k => impl_ScanTable.l0 k l p v ks (ks.length : Int) 0 0 []) (0, scanTo l v p ks ks.length) := by
  refine Ev.upto1 (fun k (x : List S49) i => impl_ScanTable.l0 k l p v ks (ks.length : Int) i 0 x) ks.length (by omega) (fun i x => x = scanTo l v p ks i.toNat) (0, scanTo l v p ks ks.length) (fun i x h0 h1 hx => .inl ?_) (fun x hx => ?_) 0 [] (by omega) (by omega) rfl
  · obtain ⟨m, rfl⟩ : ∃ m : Nat, i = m := ⟨i.toNat, by omega⟩
    rw [show ((m : Int)).toNat = m by omega] at hx
    have hn := scanTo_len l v p ks m
    rw [← hx] at hn
    refine ⟨scanTo l v p ks (m + 1), by rw [show ((m : Int) + 1).toNat = m + 1 by omega], fun h => Ev.step (fun k => impl_ScanTable.l0.eq_2 ..) (Ev.pos h1 (Ev.pos h0 (Ev.pos h1 (Ev.bind (impl_rowOf_ev l _ v hl) ?_))))⟩
    have e_ : scanTo l v p ks (m + 1) = scanStep l v p x (rdOf ByteArray.empty ks (m : Int)) := by rw [hx]; rfl
    rw [e_] at h
    clear e_
    unfold scanStep at h
    generalize rdOf ByteArray.empty ks (m : Int) = key at h ⊢
    cases hf : findR l key v with
    | none =>
      rw [hf] at h
      simp only at h
      exact Ev.neg (by simp) h
    | some y =>
      rw [hf] at h
      simp only at h
      refine Ev.pos rfl ?_
      by_cases hg : y.f3 = true
      · rw [if_pos hg] at h
        exact Ev.pos hg h
      · rw [if_neg hg] at h
        refine Ev.neg hg (Ev.bind (Ev.is (hasPrefix_eq key p)) ?_)
        by_cases hp : pre key p = true
        · rw [if_pos hp] at h
          exact Ev.pos hp (Ev.pos (by omega) h)
        · rw [if_neg hp] at h
          exact Ev.neg hp h
  · rw [show ((ks.length : Int)).toNat = ks.length by omega] at hx
    rw [← hx]
    exact Ev.step (fun k => impl_ScanTable.l0.eq_2 ..) (Ev.neg (by omega) (Ev.now _))
theorem spec_scan_ev (l : List S49) (v : Int) (p : ByteArray) (ks : List ByteArray) (hl : l.length ≤ 1000000000) (hk : ks.length ≤ 1000000000) : Ev (fun k => spec_ScanTable.l0 k l p v ks 0 0 []) (0, scanTo l v p ks ks.length) := by
  refine Ev.upto1 (fun k (x : List S49) i => spec_ScanTable.l0 k l p v ks i 0 x) ks.length (by omega) (fun i x => x = scanTo l v p ks i.toNat) (0, scanTo l v p ks ks.length) (fun i x h0 h1 hx => .inl ?_) (fun x hx => ?_) 0 [] (by omega) (by omega) rfl
  · obtain ⟨m, rfl⟩ : ∃ m : Nat, i = m := ⟨i.toNat, by omega⟩
    rw [show ((m : Int)).toNat = m by omega] at hx
    have hn := scanTo_len l v p ks m
    rw [← hx] at hn
    refine ⟨scanTo l v p ks (m + 1), by rw [show ((m : Int) + 1).toNat = m + 1 by omega], fun h => ?_⟩
    have e_ : scanTo l v p ks (m + 1) = scanStep l v p x (rdOf ByteArray.empty ks (m : Int)) := by rw [hx]; rfl
    rw [e_] at h
    clear e_
    unfold scanStep at h
    have hgo : ∀ r, Ev (fun k => spec_ScanTable.j1 k l p v ks (m : Int) (!(pre (rdOf ByteArray.empty ks (m : Int)) p)) 0 x) r → Ev (fun k => spec_ScanTable.l0 k l p v ks (m : Int) 0 x) r := by
      intro r hh
      refine Ev.step (fun k => spec_ScanTable.l0.eq_2 ..) (Ev.pos h1 (Ev.pos h0 ?_))
      generalize rdOf ByteArray.empty ks (m : Int) = key at hh ⊢
      unfold pre at hh
      by_cases hs : (key.size : Int) < (p.size : Int)
      · have e : decide ((p.size : Int) ≤ (key.size : Int)) = false := decide_eq_false (by omega)
        rw [e, Bool.false_and] at hh
        exact Ev.pos hs hh
      · have e : decide ((p.size : Int) ≤ (key.size : Int)) = true := decide_eq_true (by omega)
        rw [e, Bool.true_and] at hh
        exact Ev.neg hs (Ev.pos (by omega) (Ev.pos (by omega) hh))
    refine hgo _ (Ev.step (fun k => spec_ScanTable.j1.eq_2 ..) ?_)
    generalize hkey : rdOf ByteArray.empty ks (m : Int) = key at h
    by_cases hp : pre key p = true
    · refine Ev.neg (by rw [hp]; decide) (Ev.pos h0 (Ev.pos h1 ?_))
      obtain ⟨r, hr, he⟩ := spec_l5Get_ev l key v hl
      refine Ev.bind he ?_
      rcases hr with ⟨r0, r1⟩ | ⟨r0, r1, r2, r3⟩
      · refine Ev.neg (by omega) ?_
        cases hf : findR l key v with
        | none =>
          rw [hf] at h
          simp only at h
          exact h
        | some y =>
          rw [hf] at h
          simp only at h
          rw [if_pos (r1 y hf)] at h
          exact h
      · rw [r2] at h
        simp only at h
        rw [if_neg (by rw [r3]; decide), if_pos hp] at h
        exact Ev.pos r0 (Ev.pos r0 (Ev.pos r1 (Ev.pos (by omega) h)))
    · have hpf : pre key p = false := by simpa using hp
      refine Ev.pos (by rw [hpf]; rfl) ?_
      cases hf : findR l key v with
      | none =>
        rw [hf] at h
        simp only at h
        exact h
      | some y =>
        rw [hf] at h
        simp only at h
        by_cases hg : y.f3 = true
        · rw [if_pos hg] at h
          exact h
        · rw [if_neg hg, if_neg hp] at h
          exact h
  · rw [show ((ks.length : Int)).toNat = ks.length by omega] at hx
    rw [← hx]
    exact Ev.step (fun k => spec_ScanTable.l0.eq_2 ..) (Ev.neg (by omega) (Ev.now _))
def scanR (l : List S49) (p : ByteArray) (v : Int) : Int × List S49 := if tableFault l = 0 then (0, scanTo l v p (keysR l) (keysR l).length) else (tableFault l, [])
theorem scanR_len (l : List S49) (p : ByteArray) (v : Int) (hl : l.length ≤ 1000000000) : (scanR l p v).2.length ≤ 1000000000 := by
  have h1 := keysR_len l
  have h2 := scanTo_len l v p (keysR l) (keysR l).length
  unfold scanR
  split
  · show (scanTo l v p (keysR l) (keysR l).length).length ≤ _
    omega
  · simp
theorem impl_ScanTable_ev (l : List S49) (p : ByteArray) (v : Int) (hl : l.length ≤ 1000000000) : Ev (fun k => impl_ScanTable.f k l p v) (scanR l p v) := by
  have h1 := keysR_len l
  unfold impl_ScanTable.f scanR
  exact Ev.bind (impl_TableFault_ev l) (Ev.cond (fun _ => Ev.bind (impl_keysOf_ev l hl) (impl_scan_ev l v p (keysR l) hl (by omega))) (fun _ => Ev.now _))
theorem spec_ScanTable_ev (l : List S49) (p : ByteArray) (v : Int) (hl : l.length ≤ 1000000000) : Ev (fun k => spec_ScanTable.f k l p v) (scanR l p v) := by
  have h1 := keysR_len l
  unfold spec_ScanTable.f scanR
  exact Ev.bind (spec_TableFault_ev l) (Ev.cond (fun _ => Ev.bind (spec_l5Keys_ev l hl) (spec_scan_ev l v p (keysR l) hl (by omega))) (fun _ => Ev.now _))
theorem eqRowsResult_ev (c : Int) (l : List S49) (hl : l.length ≤ 1000000000) : Ev (fun k => laws_eqRowsResult.f k c l c l) true := by
  unfold laws_eqRowsResult.f
  exact Ev.pos rfl (Ev.bind (eqRowS_ev _ (by omega)) (Ev.pos rfl (Ev.now _)))
theorem FnExactScanTable : ∀ (l0 : List (S84)) (a1 : ByteArray) (a2 : Int), okL ok84 l0 → a1.size ≤ maxLen → (Lit.int .i64 a2).wf = true → ∃ k, laws_FnExactScanTable.f k l0 a1 a2 = some true := by
  intro l p v hl _ _
  refine Ev.rounds (r := true) ?_
  unfold laws_FnExactScanTable.f
  refine Ev.ite (fun _ => Ev.now _) (fun _ => ?_)
  obtain ⟨r, hr, hsz⟩ := szRowS_ev l hl 1048576 (by decide) (by decide)
  refine Ev.bind hsz (Ev.ite (fun _ => Ev.now _) (fun h => ?_))
  have hr := hr h
  have ht := toRowS_ev l (by omega)
  have hlen : (l.map rowOf).length ≤ 1000000000 := by simp; omega
  generalize l.map rowOf = m at ht hlen
  obtain ⟨mt, hmt⟩ := markT_all
  have hi := impl_ScanTable_ev m p v hlen
  have hs := spec_ScanTable_ev m p v hlen
  have hn := scanR_len m p v hlen
  generalize scanR m p v = R at hi hs hn
  have he := eqRowsResult_ev R.1 R.2 hn
  have hh := heldRowsResult_ev hmt R.1 R.2.length hn
  refine Ev.bind ht (Ev.bind hs (Ev.bind ht (Ev.bind hi (Ev.bind he (Ev.pos rfl ?_)))))
  refine Ev.bind ht (Ev.bind (eqRowS_ev _ (by omega)) (Ev.pos rfl (Ev.bind (markRowS_ev hmt m hlen) (Ev.neg (by simp; omega) (Ev.bind he ?_)))))
  refine Ev.step (fun k => laws_FnExactScanTable.j0.eq_2 ..) (Ev.neg (by simp) (Ev.bind (markRowsResult_ev hmt R.1 R.2 hn) (Ev.bind hh (Ev.neg (by omega) (Ev.pos rfl ?_)))))
  exact Ev.bind ht (Ev.bind hi (Ev.bind he (Ev.pos rfl (Ev.bind hh (Ev.neg (by omega) (Ev.pos rfl (Ev.now _)))))))

end Go.Proofs.Ytdhlcnlcpjlliaa.Pure
