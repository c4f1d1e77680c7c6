/- FnScans, the pure statement: of any drawn table, prefix and version, a scan tells of each key what reading it tells. No conditions. -/
import Derived.Test.YtdhlcnlcpjlliaaPFnScansx11
import Derived.Test.YtdhlcnlcpjlliaaOFnScans
namespace Go.Proofs.Ytdhlcnlcpjlliaa.Pure
open Go.RowKit Go.Proofs.Ytdhlcnlcpjlliaa.PFnScans Go.Proofs.YtdhlcnlcpjlliaaW.PrintWords Go.Proofs.YtdhlcnlcpjlliaaW.PrintLast Go.Proofs.YtdhlcnlcpjlliaaW.PrintMore Go.Proofs.Ytdhlcnlcpjlliaa.Opens
set_option linter.unusedVariables false
set_option linter.unusedSimpArgs false
/-! ### words of this text's own -/
theorem w64 {x : Int} (h0 : -9223372036854775808 ≤ x) (h1 : x ≤ 9223372036854775807) : wrap64 x = x := by
  unfold wrap64
  omega
theorem wfU8 {x : Int} (h : (Lit.int .u8 x).wf = true) : 0 ≤ x ∧ x < 256 := by
  simp [Lit.wf, IntKind.min, IntKind.max, IntKind.signed, IntKind.bits] at h
  omega
theorem wfI64 {x : Int} (h : (Lit.int .i64 x).wf = true) : -9223372036854775808 ≤ x ∧ x ≤ 9223372036854775807 := by
  simp [Lit.wf, IntKind.min, IntKind.max, IntKind.signed, IntKind.bits] at h
  omega
section
variable {α β σ : Type}
theorem Ev.ite {g f : Nat → Option α} {c : Prop} [Decidable c] {r : α} (ht : c → Ev g r) (hf : ¬ c → Ev f r) : Ev (fun k => if c then g k else f k) r := by
  by_cases h : c
  · simp only [if_pos h]; exact ht h
  · simp only [if_neg h]; exact hf h
theorem Ev.pos {g f : Nat → Option α} {c : Prop} [Decidable c] {r : α} (h : c) (ht : Ev g r) : Ev (fun k => if c then g k else f k) r := Ev.ite (fun _ => ht) (fun n => absurd h n)
theorem Ev.neg {g f : Nat → Option α} {c : Prop} [Decidable c] {r : α} (h : ¬ c) (hf : Ev f r) : Ev (fun k => if c then g k else f k) r := Ev.ite (fun y => absurd y h) (fun _ => hf)
theorem Ev.cond {g f : Nat → Option α} {c : Prop} [Decidable c] {r s : α} (ht : c → Ev g r) (hf : ¬ c → Ev f s) : Ev (fun k => if c then g k else f k) (if c then r else s) := by
  by_cases h : c
  · simp only [if_pos h]; exact ht h
  · simp only [if_neg h]; exact hf h
theorem Ev.let {f : Nat → α → Option β} {a : α} {r : β} (k : Ev (fun n => f n a) r) : Ev (fun n => (some a).bind (f n)) r := Ev.bind (Ev.now a) k
theorem Ev.is {a : Option α} {r : α} (h : a = some r) : Ev (fun _ => a) r := ⟨0, fun _ _ => h⟩
theorem Ev.eq {g : Nat → Option α} {a b : α} (h : Ev g a) (e : a = b) : Ev g b := e ▸ h
/-- A loop that counts i up to n, with a state s: what it comes to, if 'P i s' leads from round to round. -/
theorem Ev.upto (F : Nat → σ → Int → Option α) (n : Int) (hn : n ≤ 9223372036854775807) (P : Int → σ → Prop) (R : α → Prop)
    (step : ∀ i s, 0 ≤ i → i < n → P i s → (∃ s', P (i + 1) s' ∧ ∀ r, Ev (fun k => F k s' (wrap64 (i + 1))) r → Ev (fun k => F k s i) r) ∨ (∃ r, R r ∧ Ev (fun k => F k s i) r))
    (stop : ∀ s, P n s → ∃ r, R r ∧ Ev (fun k => F k s n) r) (i : Int) (s : σ) (h0 : 0 ≤ i) (h1 : i ≤ n) (hP : P i s) : ∃ r, R r ∧ Ev (fun k => F k s i) r := by
  obtain ⟨d, hd⟩ : ∃ d : Nat, n - i = d := ⟨(n - i).toNat, by omega⟩
  induction d generalizing i s with
  | zero =>
    obtain rfl : i = n := by omega
    exact stop s hP
  | succ d ih =>
    rcases step i s h0 (by omega) hP with ⟨s', hP', h⟩ | h
    · obtain ⟨r, hr, he⟩ := ih (i + 1) s' (by omega) (by omega) hP' (by omega)
      exact ⟨r, hr, h r (by rw [w64 (by omega) (by omega)]; exact he)⟩
    · exact h
/-- The same, where what it comes to is one value. -/
theorem Ev.upto1 (F : Nat → σ → Int → Option α) (n : Int) (hn : n ≤ 9223372036854775807) (P : Int → σ → Prop) (r : α)
    (step : ∀ i s, 0 ≤ i → i < n → P i s → (∃ s', P (i + 1) s' ∧ (Ev (fun k => F k s' (wrap64 (i + 1))) r → Ev (fun k => F k s i) r)) ∨ Ev (fun k => F k s i) r)
    (stop : ∀ s, P n s → Ev (fun k => F k s n) r) (i : Int) (s : σ) (h0 : 0 ≤ i) (h1 : i ≤ n) (hP : P i s) : Ev (fun k => F k s i) r := by
  obtain ⟨d, hd⟩ : ∃ d : Nat, n - i = d := ⟨(n - i).toNat, by omega⟩
  induction d generalizing i s with
  | zero =>
    obtain rfl : i = n := by omega
    exact stop s hP
  | succ d ih =>
    rcases step i s h0 (by omega) hP with ⟨s', hP', h⟩ | h
    · exact h (by rw [w64 (by omega) (by omega)]; exact ih (i + 1) s' (by omega) (by omega) hP' (by omega))
    · exact h
theorem take_set_succ (l acc : List α) (i : Nat) (v : α) (h : i < acc.length) (ht : acc.take i = l.take i) (hv : l[i]? = some v) : (acc.set i v).take (i + 1) = l.take (i + 1) := by
  rw [List.take_add_one, List.take_add_one, hv, List.getElem?_set_self h, List.take_set_of_le (Nat.le_refl _), ht]
/-- A row filled cell by cell. -/
theorem Ev.fill (F : Nat → List α → Int → Option (List α)) (l : List α) (hl : l.length ≤ 9223372036854775807)
    (step : ∀ (i : Int) s (v : α), 0 ≤ i → i < (l.length : Int) → s.length = l.length → l[i.toNat]? = some v → Ev (fun k => F k (s.set i.toNat v) (wrap64 (i + 1))) l → Ev (fun k => F k s i) l)
    (stop : ∀ s, s.length = l.length → Ev (fun k => F k s (l.length : Int)) s) (s : List α) (hs : s.length = l.length) : Ev (fun k => F k s 0) l :=
  Ev.upto1 F l.length (by omega) (fun i s => s.length = l.length ∧ s.take i.toNat = l.take i.toNat) l
    (fun i s h0 h1 ⟨hs, ht⟩ => .inl ⟨s.set i.toNat (l[i.toNat]'(by omega)), ⟨by simp [hs], by
      rw [show (i + 1).toNat = i.toNat + 1 by omega]
      exact take_set_succ l s _ _ (by omega) ht (List.getElem?_eq_getElem (by omega))⟩, step i s _ h0 h1 hs (List.getElem?_eq_getElem (by omega))⟩)
    (fun s ⟨hs, ht⟩ => by
      rw [List.take_of_length_le (by omega), List.take_of_length_le (by omega)] at ht
      have := stop s hs
      subst ht
      exact this) 0 s (by omega) (by omega) ⟨hs, by simp⟩
/-- A loop that asks of each place, and comes to the end. -/
theorem Ev.each {F : Nat → Int → Option β} {r : β} (n : Nat) (hn : (n : Int) ≤ 9223372036854775807) (step : ∀ i : Int, 0 ≤ i → i < n → Ev (fun k => F k (wrap64 (i + 1))) r → Ev (fun k => F k i) r) (stop : Ev (fun k => F k (n : Int)) r) : Ev (fun k => F k 0) r :=
  Ev.upto1 (fun k (_ : Unit) i => F k i) n hn (fun _ _ => True) r (fun i _ h0 h1 _ => .inl ⟨(), trivial, step i h0 h1⟩) (fun _ _ => stop) 0 () (by omega) (by omega) trivial
end
theorem rd_get (l : List Int) (i : Int) (h0 : 0 ≤ i) (h1 : i < (l.length : Int)) : rd l i = l[i.toNat]'(by omega) := by
  unfold rd
  rw [List.getD_eq_getElem?_getD, List.getElem?_eq_getElem (by omega)]
  rfl
theorem rd_of {l : List Int} {i : Int} {v : Int} (h : l[i.toNat]? = some v) : rd l i = v := by
  unfold rd
  rw [List.getD_eq_getElem?_getD, h]
  rfl
theorem drop_cons_at {α : Type} (l : List α) (i : Nat) (h : i < l.length) : l.drop i = l[i] :: l.drop (i + 1) := List.drop_eq_getElem_cons h
theorem rdRow {l : List S49} {i : Int} {v : S49} (h : l[i.toNat]? = some v) : rd_T49 l i = v := by
  unfold rd_T49
  rw [List.getD_eq_getElem?_getD, h]
  rfl
theorem rdRow_at (l : List S49) (i : Int) (h0 : 0 ≤ i) (h1 : i < (l.length : Int)) : rd_T49 l i = l[i.toNat]'(by omega) := rdRow (List.getElem?_eq_getElem (by omega))

/-- What RowFault tells of a row. -/
def rowFault (key : ByteArray) (v : Int) (val : ByteArray) (gone : Bool) : Int :=
  if 1 ≤ (key.size : Int) ∧ (key.size : Int) ≤ 20 ∧ ¬ (gone = true ∧ (val.toList != ([] : List UInt8)) = true) then (if (val.size : Int) > 100 then 2 else if 1 ≤ v ∧ v ≤ 1000000 then 0 else 3) else 1
theorem spec_RowFault_ev (key : ByteArray) (v : Int) (val : ByteArray) (gone : Bool) : Ev (fun k => spec_RowFault.f k key v val gone) (rowFault key v val gone) := by
  refine ⟨1, fun k hk => ?_⟩
  obtain ⟨k, rfl⟩ : ∃ j, k = j + 1 := ⟨k - 1, by omega⟩
  unfold spec_RowFault.f rowFault
  simp only [spec_RowFault.j0, spec_l1In.f]
  generalize (val.toList != ([] : List UInt8)) = e
  generalize (key.size : Int) = n
  generalize (val.size : Int) = m
  by_cases h1 : n < 1
  · have : ¬ 1 ≤ n := by omega
    simp [h1, this]
  · have h1' : 1 ≤ n := by omega
    by_cases h2 : n > 20
    · have : ¬ n ≤ 20 := by omega
      simp [h1, h2, this]
    · have h2' : n ≤ 20 := by omega
      by_cases h3 : m > 100 <;> by_cases h4 : 1 ≤ v <;> by_cases h5 : v ≤ 1000000 <;> cases gone <;> cases e <;> simp [h1, h2, h1', h2', h3, h4, h5]
theorem impl_RowFault_ev (key : ByteArray) (v : Int) (val : ByteArray) (gone : Bool) : Ev (fun k => impl_RowFault.f k key v val gone) (rowFault key v val gone) := by
  refine ⟨1, fun k hk => ?_⟩
  obtain ⟨k, rfl⟩ : ∃ j, k = j + 1 := ⟨k - 1, by omega⟩
  unfold impl_RowFault.f rowFault impl_isKey.f
  simp only [impl_RowFault.j0, impl_within.f, impl_isVersion.f]
  generalize (val.toList != ([] : List UInt8)) = e
  generalize (key.size : Int) = n
  generalize (val.size : Int) = m
  by_cases h1 : 1 ≤ n <;> by_cases h2 : n ≤ 20 <;> by_cases h3 : m > 100 <;> by_cases h4 : 1 ≤ v <;> by_cases h5 : v ≤ 1000000 <;> cases gone <;> cases e <;> simp [h1, h2, h3, h4, h5]

theorem compare_self (l : List UInt8) : Lib.compareBytes l l = 0 := by
  induction l with
  | nil => rfl
  | cons a l ih =>
    have h : ¬ a < a := UInt8.lt_irrefl a
    simp [Lib.compareBytes, h, ih]
/-- strings.Compare: before, the same, behind. -/
theorem compare_cases (l : List UInt8) : ∀ m : List UInt8, (Lib.compareBytes l m = 0 ∧ l = m) ∨ (Lib.compareBytes l m = -1 ∧ l ≠ m ∧ Op.bytesLess l m = true) ∨ (Lib.compareBytes l m = 1 ∧ l ≠ m ∧ Op.bytesLess l m = false) := by
  induction l with
  | nil =>
    intro m
    cases m with
    | nil => exact .inl ⟨rfl, rfl⟩
    | cons b m => exact .inr (.inl ⟨rfl, by simp, rfl⟩)
  | cons a l ih =>
    intro m
    cases m with
    | nil => exact .inr (.inr ⟨rfl, by simp, rfl⟩)
    | cons b m =>
      unfold Lib.compareBytes Op.bytesLess
      by_cases h1 : a < b
      · have hne : a ≠ b := fun h => by subst h; exact UInt8.lt_irrefl a h1
        exact .inr (.inl ⟨by simp [h1], by simp [hne], by simp [h1]⟩)
      · by_cases h2 : b < a
        · have hne : a ≠ b := fun h => by subst h; exact UInt8.lt_irrefl a h2
          exact .inr (.inr ⟨by simp [h1, h2], by simp [hne], by simp [h1, hne]⟩)
        · have he : a = b := by
            rw [UInt8.lt_iff_toNat_lt] at h1 h2
            exact UInt8.toNat_inj.1 (by omega)
          subst he
          rcases ih m with ⟨p, q⟩ | ⟨p, q, r⟩ | ⟨p, q, r⟩
          · exact .inl ⟨by simp [h1, p], by rw [q]⟩
          · exact .inr (.inl ⟨by simp [h1, p], by simp [q], by simp [r]⟩)
          · exact .inr (.inr ⟨by simp [h1, p], by simp [q], by simp [h1, r]⟩)
/-- Does one row stand ahead of another? -/
def aheadR (a b : S49) : Bool := if a.f0.toList = b.f0.toList then decide (a.f1 > b.f1) else Op.bytesLess a.f0.toList b.f0.toList
theorem spec_l5Ahead_eq (a b : S49) : spec_l5Ahead.f a.f0 a.f1 a.f2 a.f3 b.f0 b.f1 b.f2 b.f3 = some (aheadR a b) := by
  unfold spec_l5Ahead.f aheadR
  split <;> rfl
/-- What compareRows tells. -/
def cmpR (a b : S49) : Int := if Lib.compareBytes a.f0.data.toList b.f0.data.toList = 0 then (if b.f1 < a.f1 then -1 else if b.f1 > a.f1 then 1 else 0) else Lib.compareBytes a.f0.data.toList b.f0.data.toList
theorem or_ev (x y : Int) : Ev (fun k => cmp_Or_int.f k [x, y]) (if x = 0 then y else x) := by
  refine ⟨3, fun k hk => ?_⟩
  obtain ⟨k, rfl⟩ : ∃ j, k = j + 3 := ⟨k - 3, by omega⟩
  unfold cmp_Or_int.f
  have w1 : wrap64 (0 + 1) = 1 := by rw [w64 (by decide) (by decide)]; rfl
  have w2 : wrap64 (1 + 1) = 2 := by rw [w64 (by decide) (by decide)]; rfl
  have r0 : rd [x, y] 0 = x := rfl
  have r1 : rd [x, y] 1 = y := rfl
  simp only [cmp_Or_int.l0, List.length_cons, List.length_nil, w1, w2, r0, r1]
  by_cases h1 : x = 0 <;> by_cases h2 : y = 0 <;> simp [h1, h2]
theorem compare64_eq (x y : Int) : cmp_Compare_int64.f x y = some (if x < y then -1 else if x > y then 1 else 0) := by
  unfold cmp_Compare_int64.f cmp_isNaN_int64.f
  by_cases h1 : x < y
  · simp [h1]
  · by_cases h2 : y < x
    · simp [h1, h2]
    · simp [h1, h2]
theorem impl_compareRows_ev (a b : S49) : Ev (fun k => impl_compareRows.f k a.f0 a.f1 a.f2 a.f3 b.f0 b.f1 b.f2 b.f3) (cmpR a b) := by
  unfold impl_compareRows.f cmpR
  refine Ev.bind (a := Lib.compareBytes a.f0.data.toList b.f0.data.toList) (Ev.is rfl) (Ev.bind (Ev.is (compare64_eq _ _)) (Ev.bind (or_ev _ _) (Ev.now _)))
theorem cmpR_ahead (a b : S49) : cmpR a b ≥ 0 ↔ ¬ aheadR a b = true := by
  unfold cmpR aheadR
  rw [ByteArray.toList_eq, ByteArray.toList_eq]
  rcases compare_cases a.f0.data.toList b.f0.data.toList with ⟨p, q⟩ | ⟨p, q, r⟩ | ⟨p, q, r⟩
  · rw [p, if_pos rfl, if_pos q, decide_eq_true_iff]
    split
    · omega
    · split <;> omega
  · rw [p, if_neg (by decide), if_neg q, r]
    simp
  · rw [p, if_neg (by decide), if_neg q, r]
    simp

/-- What TableFault tells of the last d rows. -/
def tableFrom (l : List S49) : Nat → Int
  | 0 => 0
  | d + 1 => (fun i : Int => (fun (x y : S49) => if rowFault x.f0 x.f1 x.f2 x.f3 = 0 then (if i > 0 then (if aheadR y x = true then tableFrom l d else 1) else tableFrom l d) else rowFault x.f0 x.f1 x.f2 x.f3) (rd_T49 l i) (rd_T49 l (i - 1))) ((l.length : Int) - (d + 1))
def tableFault (l : List S49) : Int := if (l.length : Int) > 200 then 2 else tableFrom l l.length
theorem spec_TableFault_ev (l : List S49) : Ev (fun k => spec_TableFault.f k l) (tableFault l) := by
  unfold spec_TableFault.f tableFault
  refine Ev.cond (fun _ => Ev.now _) (fun hl => ?_)
  have go : ∀ d : Nat, d ≤ l.length → Ev (fun k => spec_TableFault.l0 k l ((l.length : Int) - d)) (tableFrom l d) := by
    intro d
    induction d with
    | zero => intro _; exact Ev.step (fun k => spec_TableFault.l0.eq_2 ..) (Ev.neg (by omega) (Ev.now _))
    | succ d ih =>
      intro hd
      have h := ih (by omega)
      refine Ev.step (fun k => spec_TableFault.l0.eq_2 ..) (Ev.pos (by omega) (Ev.pos (by omega) (Ev.bind (spec_RowFault_ev ..) ?_)))
      rw [w64 (x := (l.length : Int) - ((d + 1 : Nat) : Int) + 1) (by omega) (by omega), w64 (x := (l.length : Int) - ((d + 1 : Nat) : Int) - 1) (by omega) (by omega), show (l.length : Int) - ((d + 1 : Nat) : Int) + 1 = (l.length : Int) - d by omega]
      rw [show ((d + 1 : Nat) : Int) = (d : Int) + 1 by omega]
      unfold tableFrom
      refine Ev.cond (fun _ => Ev.cond (fun hp => Ev.pos (by omega) (Ev.pos (by omega) (Ev.bind (Ev.is (spec_l5Ahead_eq ..)) (Ev.cond (fun _ => h) (fun _ => Ev.now _))))) (fun _ => h)) (fun _ => Ev.now _)
  have := go l.length (by omega)
  rw [show (l.length : Int) - (l.length : Nat) = 0 by omega] at this
  exact this
theorem impl_TableFault_ev (l : List S49) : Ev (fun k => impl_TableFault.f k l) (tableFault l) := by
  unfold impl_TableFault.f tableFault
  refine Ev.cond (fun _ => Ev.now _) (fun hl => ?_)
  have go : ∀ d : Nat, d ≤ l.length → Ev (fun k => impl_TableFault.l0 k l l (l.length : Int) ((l.length : Int) - d)) (tableFrom l d) := by
    intro d
    induction d with
    | zero => intro _; exact Ev.step (fun k => impl_TableFault.l0.eq_2 ..) (Ev.neg (by omega) (Ev.now _))
    | succ d ih =>
      intro hd
      have h := ih (by omega)
      refine Ev.step (fun k => impl_TableFault.l0.eq_2 ..) (Ev.pos (by omega) (Ev.pos (by omega) (Ev.pos (by omega) (Ev.bind (impl_RowFault_ev ..) ?_))))
      rw [w64 (x := (l.length : Int) - ((d + 1 : Nat) : Int) + 1) (by omega) (by omega), w64 (x := (l.length : Int) - ((d + 1 : Nat) : Int) - 1) (by omega) (by omega), show (l.length : Int) - ((d + 1 : Nat) : Int) + 1 = (l.length : Int) - d by omega]
      rw [show ((d + 1 : Nat) : Int) = (d : Int) + 1 by omega]
      unfold tableFrom
      refine Ev.cond (fun _ => Ev.cond (fun hp => Ev.pos (by omega) (Ev.pos (by omega) (Ev.bind (impl_compareRows_ev ..) ?_))) (fun _ => h)) (fun _ => Ev.now _)
      by_cases ha : aheadR (rd_T49 l ((l.length : Int) - ((d : Int) + 1) - 1)) (rd_T49 l ((l.length : Int) - ((d : Int) + 1))) = true
      · rw [if_pos ha]
        exact Ev.neg (fun h => (cmpR_ahead _ _).1 h ha) h
      · rw [if_neg ha]
        exact Ev.pos ((cmpR_ahead _ _).2 ha) (Ev.now _)
  have := go l.length (by omega)
  rw [show (l.length : Int) - (l.length : Nat) = 0 by omega] at this
  exact this

/-- Of the first i texts those that differ from the one ahead of them. -/
def uniq (s : List ByteArray) : Nat → List ByteArray
  | 0 => []
  | i + 1 => if i ≠ 0 ∧ (rdOf ByteArray.empty s i).toList = (rdOf ByteArray.empty s ((i : Int) - 1)).toList then uniq s i else uniq s i ++ [rdOf ByteArray.empty s i]
theorem uniq_len (s : List ByteArray) : ∀ i : Nat, (uniq s i).length ≤ i
  | 0 => Nat.le_refl _
  | i + 1 => by
    have := uniq_len s i
    unfold uniq
    split
    · omega
    · rw [List.length_append, List.length_singleton]
      omega
theorem rdS (s : List ByteArray) (i : Int) (h0 : 0 ≤ i) (h1 : i < (s.length : Int)) : rdOf ByteArray.empty s i = s[i.toNat]'(by omega) := by
  unfold rdOf
  rw [List.getD_eq_getElem?_getD, List.getElem?_eq_getElem (by omega)]
  rfl
theorem rdS_of {s t : List ByteArray} {i : Int} (h : s[i.toNat]? = t[i.toNat]?) : rdOf ByteArray.empty s i = rdOf ByteArray.empty t i := by
  unfold rdOf
  rw [List.getD_eq_getElem?_getD, List.getD_eq_getElem?_getD, h]
theorem takeS_succ (s : List ByteArray) (i : Nat) (h : i < s.length) : s.take (i + 1) = s.take i ++ [rdOf ByteArray.empty s i] := by
  rw [List.take_add_one, List.getElem?_eq_getElem h, rdS s i (by omega) (by omega)]
  rfl
theorem uniq_dup {s : List ByteArray} {i : Nat} (h0 : i ≠ 0) (h : (rdOf ByteArray.empty s i).toList = (rdOf ByteArray.empty s ((i : Int) - 1)).toList) : uniq s (i + 1) = uniq s i := by
  conv => lhs; unfold uniq
  rw [if_pos ⟨h0, h⟩]
theorem uniq_new {s : List ByteArray} {i : Nat} (h : ¬ (i ≠ 0 ∧ (rdOf ByteArray.empty s i).toList = (rdOf ByteArray.empty s ((i : Int) - 1)).toList)) : uniq s (i + 1) = uniq s i ++ [rdOf ByteArray.empty s i] := by
  conv => lhs; unfold uniq
  rw [if_neg h]
theorem compact_rest_ev (s : List ByteArray) (hs : s.length ≤ 1000000000) (y : List ByteArray) (b : Nat) (hb : (b : Int) = (s.length : Int) - (y.length : Int)) (h1 : 1 ≤ b) (hlt : b < s.length) (hu : uniq s (b + 1) = s.take b) : Ev (fun k => slices_Compact_string.l1 k s (b : Int) y 1) (uniq s s.length) := by
  refine Ev.upto1 (fun k (x : List ByteArray × Int) i => slices_Compact_string.l1 k x.1 x.2 y i) y.length (by omega) (fun i x => 1 ≤ i ∧ x.1.length = s.length ∧ 0 ≤ x.2 ∧ x.2 < (b : Int) + i ∧ x.1.take x.2.toNat = uniq s ((b : Int) + i).toNat ∧ ∀ j : Nat, x.2 ≤ (j : Int) → x.1[j]? = s[j]?) (uniq s s.length)
    (fun i x h0 hi ⟨i1, hl, p0, p1, pt, pj⟩ => ?_) (fun x ⟨_, hl, p0, p1, pt, pj⟩ => ?_) 1 (s, (b : Int)) (by omega) (by omega) ⟨Int.le_refl _, rfl, by omega, by show (b : Int) < (b : Int) + 1; omega, by show s.take ((b : Int)).toNat = _; rw [show ((b : Int)).toNat = b by omega, show ((b : Int) + 1).toNat = b + 1 by omega]; exact hu.symm, fun _ _ => rfl⟩
  · obtain ⟨x0, x3⟩ := x
    simp only at hl p0 p1 pt pj
    obtain ⟨m, hm⟩ : ∃ m : Nat, (m : Int) = (b : Int) + i := ⟨b + i.toNat, by omega⟩
    have hw : wrap64 (i - 1) = i - 1 := w64 (by omega) (by omega)
    have e1 : (x0.length : Int) - (y.length : Int) + i = (m : Int) := by omega
    have e2 : (x0.length : Int) - (y.length : Int) + (i - 1) = (m : Int) - 1 := by omega
    have r1 : rdOf ByteArray.empty x0 (m : Int) = rdOf ByteArray.empty s (m : Int) := rdS_of (pj _ (by omega))
    have r2 : rdOf ByteArray.empty x0 ((m : Int) - 1) = rdOf ByteArray.empty s ((m : Int) - 1) := rdS_of (pj _ (by omega))
    rw [← hm, show ((m : Int)).toNat = m by omega] at pt
    by_cases hd : (rdOf ByteArray.empty s (m : Int)).toList = (rdOf ByteArray.empty s ((m : Int) - 1)).toList
    · refine .inl ⟨(x0, x3), ⟨by omega, hl, p0, by show x3 < (b : Int) + (i + 1); omega, ?_, pj⟩, fun h => Ev.step (fun k => slices_Compact_string.l1.eq_2 ..) (Ev.pos hi (Ev.pos (by omega) ?_))⟩
      · show x0.take x3.toNat = _
        rw [show ((b : Int) + (i + 1)).toNat = m + 1 by omega, uniq_dup (by omega) hd]
        exact pt
      · rw [hw, e1, e2, r1, r2]
        exact Ev.pos (by omega) (Ev.pos (by omega) (Ev.pos hd h))
    · refine .inl ⟨(x0.set x3.toNat (rdOf ByteArray.empty s (m : Int)), x3 + 1), ⟨by omega, by simp [hl], by show 0 ≤ x3 + 1; omega, by show x3 + 1 < (b : Int) + (i + 1); omega, ?_, ?_⟩, fun h => Ev.step (fun k => slices_Compact_string.l1.eq_2 ..) (Ev.pos hi (Ev.pos (by omega) ?_))⟩
      · show (x0.set x3.toNat _).take (x3 + 1).toNat = _
        rw [show ((b : Int) + (i + 1)).toNat = m + 1 by omega, uniq_new (fun hh => hd hh.2), show (x3 + 1).toNat = x3.toNat + 1 by omega, List.take_add_one, List.getElem?_set_self (by omega), List.take_set_of_le (Nat.le_refl _), pt]
        rfl
      · intro j hj
        show (x0.set x3.toNat _)[j]? = _
        have hj : x3 + 1 ≤ (j : Int) := hj
        rw [List.getElem?_set_ne (by omega)]
        exact pj j (by omega)
      · rw [hw, e1, e2, r1, r2]
        have hx3 : x3 < (x0.length : Int) := by omega
        refine Ev.pos (by omega) (Ev.pos (by omega) (Ev.neg hd (Ev.pos p0 (Ev.pos hx3 ?_))))
        rw [w64 (x := x3 + 1) (by omega) (by omega)]
        exact h
  · obtain ⟨x0, x3⟩ := x
    simp only at hl p0 p1 pt pj
    rw [show ((b : Int) + (y.length : Int)).toNat = s.length by omega] at pt
    rw [← pt]
    have hx3 : x3 < (x0.length : Int) := by omega
    exact Ev.step (fun k => slices_Compact_string.l1.eq_2 ..) (Ev.neg (by omega) (Ev.pos hx3 (Ev.pos p0 (Ev.pos (Int.le_of_lt hx3) (Ev.now _)))))
theorem compact_ev (s : List ByteArray) (hs : s.length ≤ 1000000000) : Ev (fun k => slices_Compact_string.f k s) (uniq s s.length) := by
  unfold slices_Compact_string.f
  by_cases h2 : (s.length : Int) < 2
  · refine Ev.pos h2 (Ev.eq (Ev.now _) ?_)
    rcases s with _ | ⟨a, _ | ⟨b, r⟩⟩
    · rfl
    · rfl
    · simp at h2
      omega
  · refine Ev.neg h2 ?_
    refine Ev.upto1 (fun k (_ : Unit) i => slices_Compact_string.l0 k s i) s.length (by omega) (fun i _ => 1 ≤ i ∧ uniq s i.toNat = s.take i.toNat) (uniq s s.length) (fun i _ h0 h1 ⟨p1, pu⟩ => ?_) (fun _ ⟨p1, pu⟩ => ?_) 1 () (by omega) (by omega) ⟨by omega, ?_⟩
    · obtain ⟨m, rfl⟩ : ∃ m : Nat, i = m := ⟨i.toNat, by omega⟩
      rw [show ((m : Int)).toNat = m by omega] at pu
      have hw : wrap64 ((m : Int) - 1) = (m : Int) - 1 := w64 (by omega) (by omega)
      by_cases hd : (rdOf ByteArray.empty s (m : Int)).toList = (rdOf ByteArray.empty s ((m : Int) - 1)).toList
      · refine .inr (Ev.step (fun k => slices_Compact_string.l0.eq_2 ..) (Ev.pos h1 (Ev.pos h0 ?_)))
        rw [hw]
        refine Ev.pos (by omega) (Ev.pos (by omega) (Ev.pos hd (Ev.pos (by omega) ?_)))
        exact compact_rest_ev s hs (s.drop ((m : Int)).toNat) m (by rw [List.length_drop]; omega) (by omega) (by omega) (by rw [uniq_dup (by omega) hd]; exact pu)
      · refine .inl ⟨(), ⟨by omega, ?_⟩, fun h => Ev.step (fun k => slices_Compact_string.l0.eq_2 ..) (Ev.pos h1 (Ev.pos h0 ?_))⟩
        · rw [show ((m : Int) + 1).toNat = m + 1 by omega, uniq_new (fun hh => hd hh.2), takeS_succ s m (by omega), pu]
        · rw [hw]
          exact Ev.pos (by omega) (Ev.pos (by omega) (Ev.neg hd h))
    · rw [show ((s.length : Int)).toNat = s.length by omega, List.take_of_length_le (Nat.le_refl _)] at pu
      rw [pu]
      exact Ev.step (fun k => slices_Compact_string.l0.eq_2 ..) (Ev.neg (by omega) (Ev.now _))
    · show uniq s 1 = s.take 1
      rw [uniq_new (fun hh => hh.1 rfl), takeS_succ s 0 (by omega)]
      rfl
/-- The rows' keys. -/
def keyL (l : List S49) : List ByteArray := l.map fun x => x.f0
theorem keyL_at (l : List S49) (i : Int) (h0 : 0 ≤ i) (h1 : i < (l.length : Int)) : rdOf ByteArray.empty (keyL l) i = (rd_T49 l i).f0 := by
  have hl : (keyL l).length = l.length := by simp [keyL]
  rw [rdS _ i h0 (by omega), rdRow_at l i h0 h1]
  simp [keyL]
def keysR (l : List S49) : List ByteArray := uniq (keyL l) l.length
theorem spec_l5Keys_ev (l : List S49) (hl : l.length ≤ 1000000000) : Ev (fun k => spec_l5Keys.f k l) (keysR l) := by
  unfold spec_l5Keys.f keysR
  refine Ev.upto1 (fun k (x : List ByteArray) i => spec_l5Keys.l0 k l x i) l.length (by omega) (fun i x => x = uniq (keyL l) i.toNat) (uniq (keyL l) l.length) (fun i x h0 h1 hx => .inl ?_) (fun x hx => ?_) 0 [] (by omega) (by omega) rfl
  · obtain ⟨m, rfl⟩ : ∃ m : Nat, i = m := ⟨i.toNat, by omega⟩
    rw [show ((m : Int)).toNat = m by omega] at hx
    have hn := uniq_len (keyL l) m
    rw [← hx] at hn
    have r1 := keyL_at l (m : Int) h0 h1
    have hw : wrap64 ((m : Int) - 1) = (m : Int) - 1 := w64 (by omega) (by omega)
    by_cases hm : m = 0
    · refine ⟨x ++ [rdOf ByteArray.empty (keyL l) (m : Int)], by rw [show ((m : Int) + 1).toNat = m + 1 by omega, uniq_new (fun hh => hh.1 hm), hx], fun h => Ev.step (fun k => spec_l5Keys.l0.eq_2 ..) (Ev.pos h1 (Ev.pos (by omega) (Ev.pos h0 (Ev.pos (by omega) ?_))))⟩
      rw [← r1]
      exact h
    · have r2 := keyL_at l ((m : Int) - 1) (by omega) (by omega)
      by_cases hd : (rdOf ByteArray.empty (keyL l) (m : Int)).toList = (rdOf ByteArray.empty (keyL l) ((m : Int) - 1)).toList
      · refine ⟨x, by rw [show ((m : Int) + 1).toNat = m + 1 by omega, uniq_dup hm hd, hx], fun h => Ev.step (fun k => spec_l5Keys.l0.eq_2 ..) (Ev.pos h1 (Ev.neg (by omega) (Ev.pos h0 ?_)))⟩
        rw [hw, ← r1, ← r2]
        exact Ev.pos (by omega) (Ev.pos (by omega) (Ev.pos hd h))
      · refine ⟨x ++ [rdOf ByteArray.empty (keyL l) (m : Int)], by rw [show ((m : Int) + 1).toNat = m + 1 by omega, uniq_new (fun hh => hd hh.2), hx], fun h => Ev.step (fun k => spec_l5Keys.l0.eq_2 ..) (Ev.pos h1 (Ev.neg (by omega) (Ev.pos h0 ?_)))⟩
        rw [hw, ← r1, ← r2]
        exact Ev.pos (by omega) (Ev.pos (by omega) (Ev.neg hd (Ev.pos (by omega) h)))
  · rw [show ((l.length : Int)).toNat = l.length by omega] at hx
    rw [← hx]
    exact Ev.step (fun k => spec_l5Keys.l0.eq_2 ..) (Ev.neg (by omega) (Ev.now _))
theorem impl_keysOf_ev (l : List S49) (hl : l.length ≤ 1000000000) : Ev (fun k => impl_keysOf.f k l) (keysR l) := by
  unfold impl_keysOf.f keysR
  have hk : (keyL l).length = l.length := by simp [keyL]
  refine Ev.upto1 (fun k (x : List ByteArray) i => impl_keysOf.l0 k x l (l.length : Int) i) l.length (by omega) (fun i x => x = (keyL l).take i.toNat) (uniq (keyL l) l.length) (fun i x h0 h1 hx => .inl ?_) (fun x hx => ?_) 0 [] (by omega) (by omega) rfl
  · obtain ⟨m, rfl⟩ : ∃ m : Nat, i = m := ⟨i.toNat, by omega⟩
    rw [show ((m : Int)).toNat = m by omega] at hx
    have r1 := keyL_at l (m : Int) h0 h1
    have hn : x.length ≤ m := by rw [hx, List.length_take]; omega
    refine ⟨x ++ [rdOf ByteArray.empty (keyL l) (m : Int)], by rw [show ((m : Int) + 1).toNat = m + 1 by omega, takeS_succ _ m (by omega), hx], fun h => Ev.step (fun k => impl_keysOf.l0.eq_2 ..) (Ev.pos h1 (Ev.pos h0 (Ev.pos h1 (Ev.pos (by omega) ?_))))⟩
    rw [← r1]
    exact h
  · rw [show ((l.length : Int)).toNat = l.length by omega, List.take_of_length_le (by omega)] at hx
    subst hx
    have := compact_ev (keyL l) (by omega)
    rw [hk] at this
    exact Ev.step (fun k => impl_keysOf.l0.eq_2 ..) (Ev.neg (by omega) (Ev.bind this (Ev.now _)))
theorem keysR_len (l : List S49) : (keysR l).length ≤ l.length := uniq_len _ _

/-- Is it a row of this key, not younger? -/
def isGet (key : ByteArray) (v : Int) (x : S49) : Bool := (x.f0.toList == key.toList) && decide (x.f1 ≤ v)
theorem index_ev [FN_slices_IndexFunc_impl_Row] (q : S49 → Bool) (hq : ∀ x : S49, FN_slices_IndexFunc_impl_Row.f x.f0 x.f1 x.f2 x.f3 = some (q x)) (l : List S49) (hl : l.length ≤ 1000000000) :
    ∃ r : Int, (r < 0 ∧ l.find? q = none ∨ 0 ≤ r ∧ r < (l.length : Int) ∧ l.find? q = some (rd_T49 l r)) ∧ Ev (fun k => slices_IndexFunc_impl_Row.f k l) r := by
  unfold slices_IndexFunc_impl_Row.f
  exact Ev.upto (fun k (_ : Unit) i => slices_IndexFunc_impl_Row.l0 k l (l.length : Int) i) l.length (by omega) (fun i _ => (l.drop i.toNat).find? q = l.find? q) (fun r => r < 0 ∧ l.find? q = none ∨ 0 ≤ r ∧ r < (l.length : Int) ∧ l.find? q = some (rd_T49 l r))
    (fun i _ h0 h1 hp => by
      have hr := rdRow_at l i h0 h1
      rw [drop_cons_at l i.toNat (by omega), List.find?_cons] at hp
      generalize l[i.toNat]'(by omega) = x at hr hp
      by_cases hx : q x = true
      · rw [hx] at hp
        refine .inr ⟨i, .inr ⟨h0, h1, by rw [hr]; exact hp.symm⟩, Ev.step (fun k => slices_IndexFunc_impl_Row.l0.eq_2 ..) (Ev.pos h1 (Ev.pos h0 (Ev.pos h1 ?_)))⟩
        rw [hr]
        exact Ev.bind (Ev.is (hq x)) (Ev.pos hx (Ev.now _))
      · have hf : q x = false := by simpa using hx
        rw [hf] at hp
        refine .inl ⟨(), by rw [show (i + 1).toNat = i.toNat + 1 by omega]; exact hp, fun r h => Ev.step (fun k => slices_IndexFunc_impl_Row.l0.eq_2 ..) (Ev.pos h1 (Ev.pos h0 (Ev.pos h1 ?_)))⟩
        rw [hr]
        exact Ev.bind (Ev.is (hq x)) (Ev.neg hx h))
    (fun _ hp => ⟨-1, .inl ⟨by decide, by rw [← hp, List.drop_eq_nil_of_le (by omega)]; rfl⟩, Ev.step (fun k => slices_IndexFunc_impl_Row.l0.eq_2 ..) (Ev.neg (by omega) (Ev.now _))⟩)
    0 () (by omega) (by omega) rfl
/-- What a reading tells of rows. -/
def findR (l : List S49) (key : ByteArray) (v : Int) : Option S49 := l.find? (isGet key v)
theorem spec_l5Get_ev (l : List S49) (key : ByteArray) (v : Int) (hl : l.length ≤ 1000000000) :
    ∃ r : Int, (r < 0 ∧ (∀ x, findR l key v = some x → x.f3 = true) ∨ 0 ≤ r ∧ r < (l.length : Int) ∧ findR l key v = some (rd_T49 l r) ∧ (rd_T49 l r).f3 = false) ∧ Ev (fun k => spec_l5Get.f k l key v) r := by
  unfold spec_l5Get.f findR
  exact Ev.upto (fun k (_ : Unit) i => spec_l5Get.l0 k l key v i) l.length (by omega) (fun i _ => (l.drop i.toNat).find? (isGet key v) = l.find? (isGet key v)) (fun r => r < 0 ∧ (∀ x, l.find? (isGet key v) = some x → x.f3 = true) ∨ 0 ≤ r ∧ r < (l.length : Int) ∧ l.find? (isGet key v) = some (rd_T49 l r) ∧ (rd_T49 l r).f3 = false)
    (fun i _ h0 h1 hp => by
      have hr := rdRow_at l i h0 h1
      rw [drop_cons_at l i.toNat (by omega), List.find?_cons] at hp
      generalize l[i.toNat]'(by omega) = x at hr hp
      have hgo : ∀ r, Ev (fun k => spec_l5Get.j1 k l key v i (isGet key v x)) r → Ev (fun k => spec_l5Get.l0 k l key v i) r := by
        intro r h
        refine Ev.step (fun k => spec_l5Get.l0.eq_2 ..) (Ev.pos h1 (Ev.pos h0 ?_))
        rw [hr]
        unfold isGet at h
        by_cases hk : x.f0.toList = key.toList
        · refine Ev.pos hk ?_
          have e : (x.f0.toList == key.toList) = true := by simpa using hk
          rw [e, Bool.true_and] at h
          exact h
        · refine Ev.neg hk ?_
          have e : (x.f0.toList == key.toList) = false := by simpa using hk
          rw [e, Bool.false_and] at h
          exact h
      by_cases hx : isGet key v x = true
      · rw [hx] at hp
        by_cases hgone : x.f3 = true
        · refine .inr ⟨-1, .inl ⟨by decide, fun y hy => by rw [← hp] at hy; cases hy; exact hgone⟩, hgo _ (Ev.step (fun k => spec_l5Get.j1.eq_2 ..) (Ev.pos hx (Ev.pos h0 (Ev.pos h1 ?_))))⟩
          rw [hr]
          exact Ev.pos hgone (Ev.now _)
        · refine .inr ⟨i, .inr ⟨h0, h1, by rw [hr]; exact hp.symm, by rw [hr]; simpa using hgone⟩, hgo _ (Ev.step (fun k => spec_l5Get.j1.eq_2 ..) (Ev.pos hx (Ev.pos h0 (Ev.pos h1 ?_))))⟩
          rw [hr]
          exact Ev.neg hgone (Ev.now _)
      · have hf : isGet key v x = false := by simpa using hx
        rw [hf] at hp
        exact .inl ⟨(), by rw [show (i + 1).toNat = i.toNat + 1 by omega]; exact hp, fun r h => hgo _ (Ev.step (fun k => spec_l5Get.j1.eq_2 ..) (Ev.neg hx h))⟩)
    (fun _ hp => ⟨-1, .inl ⟨by decide, fun y hy => by rw [← hp, List.drop_eq_nil_of_le (by omega)] at hy; cases hy⟩, Ev.step (fun k => spec_l5Get.l0.eq_2 ..) (Ev.neg (by omega) (Ev.now _))⟩)
    0 () (by omega) (by omega) rfl
/-- What GetRow tells. -/
def getR (l : List S49) (key : ByteArray) (v : Int) : Int × ByteArray :=
  if tableFault l = 0 then (match findR l key v with | some x => if x.f3 = true then (4, ⟨#[]⟩) else (0, x.f2) | none => (4, ⟨#[]⟩)) else (tableFault l, ⟨#[]⟩)
theorem impl_rowOf_ev (l : List S49) (key : ByteArray) (v : Int) (hl : l.length ≤ 1000000000) : Ev (fun k => impl_rowOf.f k l key v) (match findR l key v with | some x => (x.f0, x.f1, x.f2, x.f3, true) | none => (⟨#[]⟩, 0, ⟨#[]⟩, false, false)) := by
  unfold impl_rowOf.f CL_114.f
  obtain ⟨r, hr, he⟩ := @index_ev (CL_114.p key v) (isGet key v) (fun x => rfl) l hl
  refine Ev.bind he ?_
  unfold findR
  rcases hr with ⟨h0, h1⟩ | ⟨h0, h1, h2⟩
  · rw [h1]
    exact Ev.pos h0 (Ev.now _)
  · rw [h2]
    exact Ev.neg (by omega) (Ev.pos h0 (Ev.pos h1 (Ev.now _)))
theorem impl_GetRow_ev (l : List S49) (key : ByteArray) (v : Int) (hl : l.length ≤ 1000000000) : Ev (fun k => impl_GetRow.f k l key v) (getR l key v) := by
  unfold impl_GetRow.f getR
  refine Ev.bind (impl_TableFault_ev l) (Ev.cond (fun _ => Ev.bind (impl_rowOf_ev l key v hl) ?_) (fun _ => Ev.now _))
  cases hf : findR l key v with
  | none => exact Ev.neg (by simp) (Ev.now _)
  | some x =>
    refine Ev.pos (show (true : Bool) = true from rfl) ?_
    show Ev (fun k => if x.f3 = true then some (4, (⟨#[]⟩ : ByteArray)) else some (0, x.f2)) (if x.f3 = true then (4, (⟨#[]⟩ : ByteArray)) else (0, x.f2))
    by_cases hg : x.f3 = true
    · rw [if_pos hg]
      exact Ev.eq (Ev.now _) (if_pos hg).symm
    · rw [if_neg hg]
      exact Ev.eq (Ev.now _) (if_neg hg).symm

theorem Ev.eq' {α : Type} {g g' : Nat → Option α} {a : α} (h : Ev g a) (e : g' = g) : Ev g' a := e ▸ h
def markRow (mt : Int → ByteArray) (m : Int) : S49 := ⟨mt m, m + 1, mt (m + 2), Int.tmod (m + 3) 3 == 0⟩
def markRows (mt : Int → ByteArray) (n : Nat) : List S49 := (List.range n).map fun (i : Nat) => markRow mt (1 + 4 * (i : Int))
theorem markRows_len (mt : Int → ByteArray) (n : Nat) : (markRows mt n).length = n := by simp [markRows]
theorem markRows_get (mt : Int → ByteArray) (n : Nat) (i : Nat) (h : i < n) : (markRows mt n)[i]? = some (markRow mt (1 + 4 * (i : Int))) := by simp [markRows, h]
theorem rdRow_set (l : List S49) (i : Int) (v : S49) (h0 : 0 ≤ i) (h1 : i < (l.length : Int)) : rd_T49 (l.set i.toNat v) i = v := rdRow (by rw [List.getElem?_set_self (by omega)])
/-- Does a text begin so? -/
def pre (key p : ByteArray) : Bool := decide ((p.size : Int) ≤ (key.size : Int)) && ((key.extract 0 ((p.size : Int) : Int).toNat).toList == p.toList)
theorem hasPrefix_eq (key p : ByteArray) : strings_HasPrefix.f key p = some (pre key p) := by
  unfold strings_HasPrefix.f stringslite_HasPrefix.f pre
  by_cases h : (key.size : Int) ≥ (p.size : Int)
  · have e : decide ((p.size : Int) ≤ (key.size : Int)) = true := decide_eq_true h
    rw [if_pos h, if_pos (by omega), if_pos h, e, Bool.true_and]
    rfl
  · have e : decide ((p.size : Int) ≤ (key.size : Int)) = false := decide_eq_false h
    rw [if_neg h, e, Bool.false_and]
    rfl
/-- What a key adds to a scan. -/
def scanStep (l : List S49) (v : Int) (p : ByteArray) (out : List S49) (key : ByteArray) : List S49 := match findR l key v with
  | some x => if x.f3 = true then out else if pre key p = true then out ++ [x] else out
  | none => out
theorem scanStep_len (l : List S49) (v : Int) (p : ByteArray) (out : List S49) (key : ByteArray) : (scanStep l v p out key).length ≤ out.length + 1 := by
  unfold scanStep
  split
  · split
    · omega
    · split
      · simp
      · omega
  · omega
def scanTo (l : List S49) (v : Int) (p : ByteArray) (ks : List ByteArray) : Nat → List S49
  | 0 => []
  | i + 1 => scanStep l v p (scanTo l v p ks i) (rdOf ByteArray.empty ks i)
theorem scanTo_len (l : List S49) (v : Int) (p : ByteArray) (ks : List ByteArray) : ∀ i : Nat, (scanTo l v p ks i).length ≤ i
  | 0 => Nat.le_refl _
  | i + 1 => by
    have := scanTo_len l v p ks i
    have := scanStep_len l v p (scanTo l v p ks i) (rdOf ByteArray.empty ks i)
    unfold scanTo
    omega
theorem impl_scan_ev (l : List S49) (v : Int) (p : ByteArray) (ks : List ByteArray) (hl : l.length ≤ 1000000000) (hk : ks.length ≤ 1000000000) : Ev (fun k => impl_ScanTable.l0 k l p v ks (ks.length : Int) 0 0 []) (0, scanTo l v p ks ks.length) := by
  refine Ev.upto1 (fun k (x : List S49) i => impl_ScanTable.l0 k l p v ks (ks.length : Int) i 0 x) ks.length (by omega) (fun i x => x = scanTo l v p ks i.toNat) (0, scanTo l v p ks ks.length) (fun i x h0 h1 hx => .inl ?_) (fun x hx => ?_) 0 [] (by omega) (by omega) rfl
  · obtain ⟨m, rfl⟩ : ∃ m : Nat, i = m := ⟨i.toNat, by omega⟩
    rw [show ((m : Int)).toNat = m by omega] at hx
    have hn := scanTo_len l v p ks m
    rw [← hx] at hn
    refine ⟨scanTo l v p ks (m + 1), by rw [show ((m : Int) + 1).toNat = m + 1 by omega], fun h => Ev.step (fun k => impl_ScanTable.l0.eq_2 ..) (Ev.pos h1 (Ev.pos h0 (Ev.pos h1 (Ev.bind (impl_rowOf_ev l _ v hl) ?_))))⟩
    have e_ : scanTo l v p ks (m + 1) = scanStep l v p x (rdOf ByteArray.empty ks (m : Int)) := by rw [hx]; rfl
    rw [e_] at h
    clear e_
    unfold scanStep at h
    generalize rdOf ByteArray.empty ks (m : Int) = key at h ⊢
    cases hf : findR l key v with
    | none =>
      rw [hf] at h
      simp only at h
      exact Ev.neg (by simp) h
    | some y =>
      rw [hf] at h
      simp only at h
      refine Ev.pos rfl ?_
      by_cases hg : y.f3 = true
      · rw [if_pos hg] at h
        exact Ev.pos hg h
      · rw [if_neg hg] at h
        refine Ev.neg hg (Ev.bind (Ev.is (hasPrefix_eq key p)) ?_)
        by_cases hp : pre key p = true
        · rw [if_pos hp] at h
          exact Ev.pos hp (Ev.pos (by omega) h)
        · rw [if_neg hp] at h
          exact Ev.neg hp h
  · rw [show ((ks.length : Int)).toNat = ks.length by omega] at hx
    rw [← hx]
    exact Ev.step (fun k => impl_ScanTable.l0.eq_2 ..) (Ev.neg (by omega) (Ev.now _))
theorem spec_scan_ev (l : List S49) (v : Int) (p : ByteArray) (ks : List ByteArray) (hl : l.length ≤ 1000000000) (hk : ks.length ≤ 1000000000) : Ev (fun k => spec_ScanTable.l0 k l p v ks 0 0 []) (0, scanTo l v p ks ks.length) := by
  refine Ev.upto1 (fun k (x : List S49) i => spec_ScanTable.l0 k l p v ks i 0 x) ks.length (by omega) (fun i x => x = scanTo l v p ks i.toNat) (0, scanTo l v p ks ks.length) (fun i x h0 h1 hx => .inl ?_) (fun x hx => ?_) 0 [] (by omega) (by omega) rfl
  · obtain ⟨m, rfl⟩ : ∃ m : Nat, i = m := ⟨i.toNat, by omega⟩
    rw [show ((m : Int)).toNat = m by omega] at hx
    have hn := scanTo_len l v p ks m
    rw [← hx] at hn
    refine ⟨scanTo l v p ks (m + 1), by rw [show ((m : Int) + 1).toNat = m + 1 by omega], fun h => ?_⟩
    have e_ : scanTo l v p ks (m + 1) = scanStep l v p x (rdOf ByteArray.empty ks (m : Int)) := by rw [hx]; rfl
    rw [e_] at h
    clear e_
    unfold scanStep at h
    have hgo : ∀ r, Ev (fun k => spec_ScanTable.j1 k l p v ks (m : Int) (!(pre (rdOf ByteArray.empty ks (m : Int)) p)) 0 x) r → Ev (fun k => spec_ScanTable.l0 k l p v ks (m : Int) 0 x) r := by
      intro r hh
      refine Ev.step (fun k => spec_ScanTable.l0.eq_2 ..) (Ev.pos h1 (Ev.pos h0 ?_))
      generalize rdOf ByteArray.empty ks (m : Int) = key at hh ⊢
      unfold pre at hh
      by_cases hs : (key.size : Int) < (p.size : Int)
      · have e : decide ((p.size : Int) ≤ (key.size : Int)) = false := decide_eq_false (by omega)
        rw [e, Bool.false_and] at hh
        exact Ev.pos hs hh
      · have e : decide ((p.size : Int) ≤ (key.size : Int)) = true := decide_eq_true (by omega)
        rw [e, Bool.true_and] at hh
        exact Ev.neg hs (Ev.pos (by omega) (Ev.pos (by omega) hh))
    refine hgo _ (Ev.step (fun k => spec_ScanTable.j1.eq_2 ..) ?_)
    generalize hkey : rdOf ByteArray.empty ks (m : Int) = key at h
    by_cases hp : pre key p = true
    · refine Ev.neg (by rw [hp]; decide) (Ev.pos h0 (Ev.pos h1 ?_))
      obtain ⟨r, hr, he⟩ := spec_l5Get_ev l key v hl
      refine Ev.bind he ?_
      rcases hr with ⟨r0, r1⟩ | ⟨r0, r1, r2, r3⟩
      · refine Ev.neg (by omega) ?_
        cases hf : findR l key v with
        | none =>
          rw [hf] at h
          simp only at h
          exact h
        | some y =>
          rw [hf] at h
          simp only at h
          rw [if_pos (r1 y hf)] at h
          exact h
      · rw [r2] at h
        simp only at h
        rw [if_neg (by rw [r3]; decide), if_pos hp] at h
        exact Ev.pos r0 (Ev.pos r0 (Ev.pos r1 (Ev.pos (by omega) h)))
    · have hpf : pre key p = false := by simpa using hp
      refine Ev.pos (by rw [hpf]; rfl) ?_
      cases hf : findR l key v with
      | none =>
        rw [hf] at h
        simp only at h
        exact h
      | some y =>
        rw [hf] at h
        simp only at h
        by_cases hg : y.f3 = true
        · rw [if_pos hg] at h
          exact h
        · rw [if_neg hg, if_neg hp] at h
          exact h
  · rw [show ((ks.length : Int)).toNat = ks.length by omega] at hx
    rw [← hx]
    exact Ev.step (fun k => spec_ScanTable.l0.eq_2 ..) (Ev.neg (by omega) (Ev.now _))
def scanR (l : List S49) (p : ByteArray) (v : Int) : Int × List S49 := if tableFault l = 0 then (0, scanTo l v p (keysR l) (keysR l).length) else (tableFault l, [])
theorem scanR_len (l : List S49) (p : ByteArray) (v : Int) (hl : l.length ≤ 1000000000) : (scanR l p v).2.length ≤ 1000000000 := by
  have h1 := keysR_len l
  have h2 := scanTo_len l v p (keysR l) (keysR l).length
  unfold scanR
  split
  · show (scanTo l v p (keysR l) (keysR l).length).length ≤ _
    omega
  · simp
theorem impl_ScanTable_ev (l : List S49) (p : ByteArray) (v : Int) (hl : l.length ≤ 1000000000) : Ev (fun k => impl_ScanTable.f k l p v) (scanR l p v) := by
  have h1 := keysR_len l
  unfold impl_ScanTable.f scanR
  exact Ev.bind (impl_TableFault_ev l) (Ev.cond (fun _ => Ev.bind (impl_keysOf_ev l hl) (impl_scan_ev l v p (keysR l) hl (by omega))) (fun _ => Ev.now _))
theorem spec_ScanTable_ev (l : List S49) (p : ByteArray) (v : Int) (hl : l.length ≤ 1000000000) : Ev (fun k => spec_ScanTable.f k l p v) (scanR l p v) := by
  have h1 := keysR_len l
  unfold spec_ScanTable.f scanR
  exact Ev.bind (spec_TableFault_ev l) (Ev.cond (fun _ => Ev.bind (spec_l5Keys_ev l hl) (spec_scan_ev l v p (keysR l) hl (by omega))) (fun _ => Ev.now _))
def keysOfR (l : List S49) : Int × List ByteArray := if tableFault l = 0 then (0, keysR l) else (tableFault l, [])
theorem keysOfR_len (l : List S49) (hl : l.length ≤ 1000000000) : (keysOfR l).2.length ≤ 1000000000 := by
  have := keysR_len l
  unfold keysOfR
  split
  · show (keysR l).length ≤ _
    omega
  · simp
theorem impl_KeysOf_ev (l : List S49) (hl : l.length ≤ 1000000000) : Ev (fun k => impl_KeysOf.f k l) (keysOfR l) := by
  unfold impl_KeysOf.f keysOfR
  exact Ev.bind (impl_TableFault_ev l) (Ev.cond (fun _ => Ev.bind (impl_keysOf_ev l hl) (Ev.now _)) (fun _ => Ev.now _))
theorem spec_KeysOf_ev (l : List S49) (hl : l.length ≤ 1000000000) : Ev (fun k => spec_KeysOf.f k l) (keysOfR l) := by
  unfold spec_KeysOf.f keysOfR
  exact Ev.bind (spec_TableFault_ev l) (Ev.cond (fun _ => Ev.bind (spec_l5Keys_ev l hl) (Ev.now _)) (fun _ => Ev.now _))
def markSL (mt : Int → ByteArray) (n : Nat) : List ByteArray := (List.range n).map fun (i : Nat) => mt (1 + (i : Int))
theorem markSL_len (mt : Int → ByteArray) (n : Nat) : (markSL mt n).length = n := by simp [markSL]
theorem markSL_get (mt : Int → ByteArray) (n : Nat) (i : Nat) (h : i < n) : (markSL mt n)[i]? = some (mt (1 + (i : Int))) := by simp [markSL, h]
theorem rd_drop (l : List Int) (n : Nat) (j : Int) (h : 0 ≤ j) : rd (l.drop n) j = rd l ((n : Int) + j) := by
  unfold rd
  rw [List.getD_eq_getElem?_getD, List.getD_eq_getElem?_getD, List.getElem?_drop, show ((n : Int) + j).toNat = n + j.toNat by omega]
theorem rd_bound (l : List Int) (hb : ∀ x ∈ l, 0 ≤ x ∧ x < 256) (i : Int) : 0 ≤ rd l i ∧ rd l i < 256 := by
  unfold rd
  rw [List.getD_eq_getElem?_getD]
  cases h : l[i.toNat]? with
  | none => simp
  | some v => exact hb v (List.mem_of_getElem? h)

/-- Bytes. -/
def bytesL (l : List Int) : Prop := ∀ x ∈ l, 0 ≤ x ∧ x < 256
theorem next_ok (c : List Int) (hb : bytesL c) (hl : c.length ≤ 2000000) (s : Int) (h0 : 0 ≤ s) (h1 : s ≤ 100000000000000) (n : Int) :
    ∃ r, spec_l1Next.f c s n = some (r, s + 1) ∧ 0 ≤ r ∧ (1 ≤ n → r < n) ∧ (n < 1 → r = 0) := by
  have e1 : wrap64 (s + 1) = s + 1 := w64 (by omega) (by omega)
  have e2 : wrap64 (s + 1 - 1) = s := by rw [show s + 1 - 1 = s by omega]; exact w64 (by omega) (by omega)
  unfold spec_l1Next.f
  simp only [e1, e2]
  by_cases hn1 : n < 1
  · rw [if_pos hn1]
    exact ⟨0, rfl, by omega, fun h => by omega, fun _ => rfl⟩
  rw [if_neg hn1]
  have fin : ∀ v : Int, 0 ≤ v → ∃ r, (if n = 0 then none else some (Int.tmod v n, s + 1)) = some (r, s + 1) ∧ 0 ≤ r ∧ (1 ≤ n → r < n) ∧ (n < 1 → r = 0) := fun v hv =>
    ⟨Int.tmod v n, if_neg (by omega), Int.tmod_nonneg n hv, fun _ => Int.tmod_lt_of_pos v (by omega), fun h => absurd h hn1⟩
  by_cases hk : (c.length : Int) = 0
  · rw [if_pos hk, w64 (x := s * 7) (by omega) (by omega)]
    exact fin _ (by omega)
  · rw [if_neg hk]
    have m0 := Int.tmod_nonneg (c.length : Int) h0
    have m1 := Int.tmod_lt_of_pos s (show 0 < (c.length : Int) by omega)
    have p0 := Int.tmod_nonneg (c.length : Int) (show 0 ≤ s + 1 by omega)
    have p1 := Int.tmod_lt_of_pos (s + 1) (show 0 < (c.length : Int) by omega)
    have d0 : 0 ≤ Int.tdiv s (c.length : Int) := Int.tdiv_nonneg h0 (by omega)
    have d1 : Int.tdiv s (c.length : Int) ≤ s := by
      rw [Int.tdiv_eq_ediv_of_nonneg h0]
      exact Int.ediv_le_self _ h0
    rw [if_pos m0, if_pos m1]
    have b0 := rd_bound c hb (Int.tmod s (c.length : Int))
    have b1 := rd_bound c hb (Int.tmod (s + 1) (c.length : Int))
    generalize rd c (Int.tmod s (c.length : Int)) = u at b0 ⊢
    generalize rd c (Int.tmod (s + 1) (c.length : Int)) = v at b1 ⊢
    generalize Int.tdiv s (c.length : Int) = q at d0 d1 ⊢
    have w1 : wrap64 u = u := w64 (by omega) (by omega)
    have w2 : wrap64 v = v := w64 (by omega) (by omega)
    have w3 : wrap64 q = q := w64 (by omega) (by omega)
    have w4 : wrap64 (q * 37) = q * 37 := w64 (by omega) (by omega)
    have w5 : wrap64 (u + q * 37) = u + q * 37 := w64 (by omega) (by omega)
    have w6 : wrap64 ((u + q * 37) * 251) = (u + q * 37) * 251 := w64 (by omega) (by omega)
    have w7 : wrap64 (v * 13) = v * 13 := w64 (by omega) (by omega)
    have w8 : wrap64 ((u + q * 37) * 251 + v * 13) = (u + q * 37) * 251 + v * 13 := w64 (by omega) (by omega)
    have w9 : wrap64 ((u + q * 37) * 251 + v * 13 + s) = (u + q * 37) * 251 + v * 13 + s := w64 (by omega) (by omega)
    simp only [w1, w2, w3, w4, w5, w6, w7, w8, w9]
    by_cases h200 : n > 200
    · rw [if_pos h200, if_pos p0, if_pos p1]
      exact fin _ (by omega)
    · rw [if_neg h200]
      exact fin _ (by omega)
theorem pick_ok (c : List Int) (hb : bytesL c) (hl : c.length ≤ 2000000) (s : Int) (h0 : 0 ≤ s) (h1 : s ≤ 100000000000000) (l : List Int) (hn : 1 ≤ l.length) : ∃ v, v ∈ l ∧ spec_l1Pick.f c s l = some (v, s + 1) := by
  obtain ⟨r, hr, p0, p1, _⟩ := next_ok c hb hl s h0 h1 (l.length : Int)
  have p1 := p1 (by omega)
  refine ⟨rd l r, ?_, ?_⟩
  · rw [rd_get l r p0 p1]
    exact List.getElem_mem _
  · unfold spec_l1Pick.f
    rw [hr]
    simp only [Option.bind_some]
    rw [if_pos p0, if_pos p1]
theorem chance_ok (c : List Int) (hb : bytesL c) (hl : c.length ≤ 2000000) (s : Int) (h0 : 0 ≤ s) (h1 : s ≤ 100000000000000) (n : Int) : ∃ b, spec_l1Chance.f c s n = some (b, s + 1) := by
  obtain ⟨r, hr, _⟩ := next_ok c hb hl s h0 h1 n
  unfold spec_l1Chance.f
  rw [hr]
  exact ⟨_, rfl⟩
theorem bytesL_mod (l : List Int) (h : bytesL l) (v : Int) : bytesL (l ++ [v % 256]) := fun x hx => by
  rcases List.mem_append.1 hx with h1 | h1
  · exact h x h1
  · have := List.mem_singleton.1 h1; omega
theorem put_ev (l : List S49) (x : S49) (hl : l.length ≤ 1000) : ∃ t, t.length ≤ l.length + 1 ∧ Ev (fun k => spec_l5Put.f k l x.f0 x.f1 x.f2 x.f3) t := by
  unfold spec_l5Put.f
  have hlen : ∀ i : Int, ((([] : List S49) ++ l.take i.toNat ++ ([⟨x.f0, x.f1, x.f2, x.f3⟩] : List S49)) ++ l.drop i.toNat).length ≤ l.length + 1 := fun i => by
    simp only [List.nil_append, List.length_append, List.length_take, List.length_drop, List.length_cons, List.length_nil]; omega
  refine Ev.upto (fun k (_ : Unit) i => spec_l5Put.l0 k l i x.f0 x.f1 x.f2 x.f3) l.length (by omega) (fun _ _ => True) (fun t => t.length ≤ l.length + 1) (fun i _ h0 h1 _ => ?_) (fun _ _ => ?_) 0 () (by omega) (by omega) trivial
  · have e1 := spec_l5Ahead_eq (rd_T49 l i) x
    have e2 := spec_l5Ahead_eq x (rd_T49 l i)
    have ht : (l.take i.toNat).length ≤ l.length := by rw [List.length_take]; exact Nat.min_le_right _ _
    have hd : (l.drop i.toNat).length ≤ l.length := by rw [List.length_drop]; omega
    by_cases a : aheadR (rd_T49 l i) x = true
    · exact .inl ⟨(), trivial, fun r h => Ev.step (fun k => spec_l5Put.l0.eq_2 ..) (Ev.pos h1 (Ev.pos h0 (Ev.bind (Ev.is e1) (Ev.pos a h))))⟩
    · by_cases b : aheadR x (rd_T49 l i) = true
      · refine .inr ⟨_, hlen i, Ev.step (fun k => spec_l5Put.l0.eq_2 ..) (Ev.pos h1 (Ev.pos h0 (Ev.bind (Ev.is e1) (Ev.neg a (Ev.bind (Ev.is e2) (Ev.pos b (Ev.let (Ev.pos (by omega) (Ev.let (Ev.pos ?_ (Ev.let (Ev.let (Ev.pos ?_ (Ev.let (Ev.let (Ev.pos ?_ (Ev.now _)))))))))))))))))⟩
        · simp only [List.length_nil]; omega
        · simp only [List.nil_append, List.length_cons, List.length_nil]; omega
        · simp only [List.nil_append, List.length_append, List.length_cons, List.length_nil]; omega
      · exact .inr ⟨l, by omega, Ev.step (fun k => spec_l5Put.l0.eq_2 ..) (Ev.pos h1 (Ev.pos h0 (Ev.bind (Ev.is e1) (Ev.neg a (Ev.bind (Ev.is e2) (Ev.neg b (Ev.now _)))))))⟩
  · have ht : (l.take ((l.length : Int)).toNat).length ≤ l.length := by rw [List.length_take]; exact Nat.min_le_right _ _
    have hd : (l.drop ((l.length : Int)).toNat).length ≤ l.length := by rw [List.length_drop]; omega
    refine ⟨_, hlen (l.length : Int), Ev.step (fun k => spec_l5Put.l0.eq_2 ..) (Ev.neg (by omega) (Ev.let (Ev.pos (by omega) (Ev.pos (by omega) (Ev.let (Ev.pos ?_ (Ev.let (Ev.let (Ev.pos ?_ (Ev.let (Ev.let (Ev.pos ?_ (Ev.now _)))))))))))))⟩
    · simp only [List.length_nil]; omega
    · simp only [List.nil_append, List.length_cons, List.length_nil]; omega
    · simp only [List.nil_append, List.length_append, List.length_cons, List.length_nil]; omega
theorem key_ok (c : List Int) (hb : bytesL c) (hl : c.length ≤ 2000000) (s : Int) (h0 : 0 ≤ s) (h1 : s ≤ 10000000000000) : ∃ a, spec_l5Key.f c s = some (a, s + 1) := by
  obtain ⟨r, hr, p0, p1, _⟩ := next_ok c hb hl s h0 (by omega) 5
  have p1 := p1 (by decide)
  unfold spec_l5Key.f
  simp only [Option.bind_some, hr, List.length_cons, List.length_nil]
  rw [if_pos p0, if_pos (by omega)]
  exact ⟨_, rfl⟩
theorem row_ok (c : List Int) (hb : bytesL c) (hl : c.length ≤ 2000000) (s : Int) (h0 : 0 ≤ s) (h1 : s ≤ 10000000000000) : ∃ a b v d, spec_l5Row.f c s = some (a, b, v, d, s + 4) := by
  obtain ⟨a, ha⟩ := key_ok c hb hl s h0 h1
  obtain ⟨r, hr, _, _, _⟩ := next_ok c hb hl (s + 1) (by omega) (by omega) 9
  obtain ⟨q, hq, p0, p1, _⟩ := next_ok c hb hl (s + 1 + 1) (by omega) (by omega) 4
  have p1 := p1 (by decide)
  obtain ⟨b, hbb⟩ := chance_ok c hb hl (s + 1 + 1 + 1) (by omega) (by omega) 4
  have e : s + 1 + 1 + 1 + 1 = s + 4 := by omega
  unfold spec_l5Row.f
  simp only [Option.bind_some, ha, hr, hq, List.length_cons, List.length_nil]
  rw [if_pos p0, if_pos (by omega)]
  simp only [Option.bind_some, hbb]
  rw [e]
  cases b
  · exact ⟨_, _, _, _, rfl⟩
  · exact ⟨_, _, _, _, rfl⟩
theorem bent_loop (c : List Int) (hb : bytesL c) (hl : c.length ≤ 2000000) (a : ByteArray) (b : Int) (d : Bool) : ∀ (n : Nat) (v : ByteArray) (s : Int), 101 ≤ v.size + n → 0 ≤ s → s + n ≤ 10000000000000 → ∃ v' s', Ev (fun k => spec_l5Bent.l0 k c s a b v d) (a, b, v', d, s') ∧ s ≤ s' ∧ s' ≤ s + n + 1 := by
  intro n
  induction n with
  | zero =>
    intro v s hv h0 h1
    obtain ⟨r, hr, p0, p1, _⟩ := next_ok c hb hl s h0 (by omega) 2
    have p1 := p1 (by decide)
    refine ⟨v, s + 1, Ev.step (fun k => spec_l5Bent.l0.eq_2 ..) (Ev.bind (Ev.is hr) ?_), by omega, by omega⟩
    rw [w64 (x := 100 + r) (by omega) (by omega)]
    exact Ev.neg (by omega) (Ev.now _)
  | succ n ih =>
    intro v s hv h0 h1
    obtain ⟨r, hr, p0, p1, _⟩ := next_ok c hb hl s h0 (by omega) 2
    have p1 := p1 (by decide)
    by_cases hlt : (v.size : Int) < 100 + r
    · obtain ⟨v', s', he, q0, q1⟩ := ih (v ++ ⟨#[118]⟩) (s + 1) (by rw [ByteArray.size_append]; show 101 ≤ v.size + 1 + n; omega) (by omega) (by omega)
      refine ⟨v', s', Ev.step (fun k => spec_l5Bent.l0.eq_2 ..) (Ev.bind (Ev.is hr) ?_), by omega, by omega⟩
      rw [w64 (x := 100 + r) (by omega) (by omega)]
      exact Ev.pos hlt (Ev.pos (by omega) he)
    · refine ⟨v, s + 1, Ev.step (fun k => spec_l5Bent.l0.eq_2 ..) (Ev.bind (Ev.is hr) ?_), by omega, by omega⟩
      rw [w64 (x := 100 + r) (by omega) (by omega)]
      exact Ev.neg hlt (Ev.now _)
theorem bent_ok (c : List Int) (hb : bytesL c) (hl : c.length ≤ 2000000) (s : Int) (h0 : 0 ≤ s) (h1 : s ≤ 1000000000000) : ∃ a b v d s', Ev (fun k => spec_l5Bent.f k c s) (a, b, v, d, s') ∧ s ≤ s' ∧ s' ≤ s + 200 := by
  obtain ⟨a, b, v, d, hrow⟩ := row_ok c hb hl s h0 (by omega)
  obtain ⟨r, hr, _, _, _⟩ := next_ok c hb hl (s + 4) (by omega) (by omega) 12
  unfold spec_l5Bent.f
  by_cases r0 : r = 0
  · obtain ⟨q, hq, p0, p1, _⟩ := next_ok c hb hl (s + 4 + 1) (by omega) (by omega) 3
    have p1 := p1 (by decide)
    exact ⟨_, _, _, _, _, Ev.bind (Ev.is hrow) (Ev.bind (Ev.is hr) (Ev.pos r0 (Ev.let (Ev.bind (Ev.is hq) (Ev.pos p0 (Ev.pos (by simp only [List.length_cons, List.length_nil]; omega) (Ev.now _))))))), by omega, by omega⟩
  · by_cases r1 : r = 1
    · obtain ⟨q, _, hq⟩ := pick_ok c hb hl (s + 4 + 1) (by omega) (by omega) [0, (-1), 1000000, 1000001] (by simp)
      exact ⟨_, _, _, _, _, Ev.bind (Ev.is hrow) (Ev.bind (Ev.is hr) (Ev.neg r0 (Ev.pos r1 (Ev.bind (Ev.is hq) (Ev.now _))))), by omega, by omega⟩
    · by_cases r2 : r = 2
      · obtain ⟨v', s', he, q0, q1⟩ := bent_loop c hb hl a b d 101 v (s + 4 + 1) (by omega) (by omega) (by omega)
        exact ⟨_, _, _, _, _, Ev.bind (Ev.is hrow) (Ev.bind (Ev.is hr) (Ev.neg r0 (Ev.neg r1 (Ev.pos r2 he)))), by omega, by omega⟩
      · exact ⟨_, _, _, _, _, Ev.bind (Ev.is hrow) (Ev.bind (Ev.is hr) (Ev.neg r0 (Ev.neg r1 (Ev.neg r2 (Ev.now _))))), by omega, by omega⟩
theorem table_loop (c : List Int) (hb : bytesL c) (hl : c.length ≤ 2000000) : ∀ (n : Nat) (rows : List S49) (s : Int), rows.length + n ≤ 100 → 0 ≤ s → s + 4 * n ≤ 100000000000 → ∃ t s', Ev (fun k => spec_l5Table.l0 k rows (n : Int) c s) (t, s') ∧ t.length ≤ 201 ∧ s ≤ s' ∧ s' ≤ s + 4 * n + 300 := by
  intro n
  induction n with
  | zero =>
    intro rows s hn h0 h1
    by_cases hz : (rows.length : Int) = 0
    · exact ⟨_, _, Ev.step (fun k => spec_l5Table.l0.eq_2 ..) (Ev.neg (by omega) (Ev.pos hz (Ev.now _))), by omega, by omega, by omega⟩
    · obtain ⟨r, hr, _, _, _⟩ := next_ok c hb hl s h0 (by omega) 20
      by_cases r0 : r = 0
      · obtain ⟨q, hq, p0, p1, _⟩ := next_ok c hb hl (s + 1) (by omega) (by omega) (rows.length : Int)
        have p1 := p1 (by omega)
        obtain ⟨a, b, v, d, s', hbent, b0, b1⟩ := bent_ok c hb hl (s + 1 + 1) (by omega) (by omega)
        exact ⟨_, s', Ev.step (fun k => spec_l5Table.l0.eq_2 ..) (Ev.neg (by omega) (Ev.neg hz (Ev.bind (Ev.is hr) (Ev.pos r0 (Ev.bind (Ev.is hq) (Ev.bind hbent (Ev.pos p0 (Ev.pos p1 (Ev.now _)))))))) ), by rw [List.length_set]; omega, by omega, by omega⟩
      · by_cases r1 : r = 1
        · exact ⟨_, _, Ev.step (fun k => spec_l5Table.l0.eq_2 ..) (Ev.neg (by omega) (Ev.neg hz (Ev.bind (Ev.is hr) (Ev.neg r0 (Ev.pos r1 (Ev.pos (by omega) (Ev.pos (by omega) (Ev.now _)))))))), by rw [List.length_append, List.length_singleton]; omega, by omega, by omega⟩
        · by_cases r2 : r = 2
          · exact ⟨_, _, Ev.step (fun k => spec_l5Table.l0.eq_2 ..) (Ev.neg (by omega) (Ev.neg hz (Ev.bind (Ev.is hr) (Ev.neg r0 (Ev.neg r1 (Ev.pos r2 (Ev.pos (by decide) (Ev.now _)))))))), by rw [List.length_replicate]; omega, by omega, by omega⟩
          · exact ⟨_, _, Ev.step (fun k => spec_l5Table.l0.eq_2 ..) (Ev.neg (by omega) (Ev.neg hz (Ev.bind (Ev.is hr) (Ev.neg r0 (Ev.neg r1 (Ev.neg r2 (Ev.now _))))))), by omega, by omega, by omega⟩
  | succ n ih =>
    intro rows s hn h0 h1
    obtain ⟨a, b, v, d, hrow⟩ := row_ok c hb hl s h0 (by omega)
    obtain ⟨t, ht, hput⟩ := put_ev rows ⟨a, b, v, d⟩ (by omega)
    obtain ⟨u, s', he, q0, q1, q2⟩ := ih t (s + 4) (by omega) (by omega) (by omega)
    refine ⟨u, s', Ev.step (fun k => spec_l5Table.l0.eq_2 ..) (Ev.pos (by omega) (Ev.bind (Ev.is hrow) (Ev.bind hput ?_))), q0, by omega, by omega⟩
    rw [w64 (x := ((n + 1 : Nat) : Int) - 1) (by omega) (by omega), show ((n + 1 : Nat) : Int) - 1 = (n : Int) by omega]
    exact he
theorem table_ok (c : List Int) (hb : bytesL c) (hl : c.length ≤ 2000000) (s : Int) (h0 : 0 ≤ s) (h1 : s ≤ 10000000000) : ∃ t s', Ev (fun k => spec_l5Table.f k c s) (t, s') ∧ t.length ≤ 201 ∧ s ≤ s' ∧ s' ≤ s + 400 := by
  obtain ⟨r, hr, p0, p1, _⟩ := next_ok c hb hl s h0 (by omega) 9
  have p1 := p1 (by decide)
  obtain ⟨n, rfl⟩ : ∃ n : Nat, r = n := ⟨r.toNat, by omega⟩
  obtain ⟨t, s', he, q0, q1, q2⟩ := table_loop c hb hl n [] (s + 1) (by simp; omega) (by omega) (by omega)
  unfold spec_l5Table.f
  exact ⟨t, s', Ev.bind (Ev.is hr) he, q0, by omega, by omega⟩

theorem lwBig_eq (c : List Int) : laws_lwBig.f c = some (decide ((c.length : Int) > 1048576)) := rfl
theorem draw_scan (c : List Int) (hb : bytesL c) (hl : c.length ≤ 2000000) : ∃ t p v, Ev (fun k => spec_DrawScanTable.f k c) (t, p, v) ∧ t.length ≤ 201 := by
  obtain ⟨t, s, he, h2, h3, h4⟩ := table_ok c hb hl 0 (by decide) (by decide)
  obtain ⟨r, hr, p0, p1, _⟩ := next_ok c hb hl s (by omega) (by omega) 5
  have p1 := p1 (by decide)
  obtain ⟨q, hq, _⟩ := next_ok c hb hl (s + 1) (by omega) (by omega) 11
  obtain ⟨v, _, hv⟩ := pick_ok c hb hl (s + 1 + 1) (by omega) (by omega) [q, 9, 5, 0, 4611686018427387904] (by simp)
  refine ⟨t, rdOf ByteArray.empty [(⟨#[]⟩ : ByteArray), ⟨#[97]⟩, ⟨#[107]⟩, ⟨#[107, 49]⟩, ⟨#[122, 122, 122]⟩] r, v, ?_, h2⟩
  unfold spec_DrawScanTable.f spec_l1Source.f
  exact Ev.let (Ev.bind he (Ev.let (Ev.bind (Ev.is hr) (Ev.pos p0 (Ev.pos (by simp only [List.length_cons, List.length_nil]; omega) (Ev.bind (Ev.is hq) (Ev.bind (Ev.is hv) (Ev.now _))))))))
theorem scanStep_add (l : List S49) (v : Int) (p : ByteArray) (out : List S49) (key : ByteArray) : ∃ t, scanStep l v p out key = out ++ t := by
  unfold scanStep
  split
  · split
    · exact ⟨[], (List.append_nil _).symm⟩
    · split
      · exact ⟨_, rfl⟩
      · exact ⟨[], (List.append_nil _).symm⟩
  · exact ⟨[], (List.append_nil _).symm⟩
theorem scan_more (l : List S49) (v : Int) (p : ByteArray) (ks : List ByteArray) (i : Nat) : ∀ d : Nat, ∃ t, scanTo l v p ks (i + d) = scanTo l v p ks i ++ t := by
  intro d
  induction d with
  | zero => exact ⟨[], (List.append_nil _).symm⟩
  | succ d ih =>
    obtain ⟨t, ht⟩ := ih
    obtain ⟨u, hu⟩ := scanStep_add l v p (scanTo l v p ks (i + d)) (rdOf ByteArray.empty ks ((i + d : Nat) : Int))
    refine ⟨t ++ u, ?_⟩
    show scanStep l v p (scanTo l v p ks (i + d)) (rdOf ByteArray.empty ks ((i + d : Nat) : Int)) = _
    rw [hu, ht, List.append_assoc]
theorem scans_loop (l : List S49) (hl : l.length ≤ 1000000000) (ht : tableFault l = 0) (p : ByteArray) (v : Int) (ks : List ByteArray) (hk : ks.length ≤ 1000000000) (hks : keysOfR l = (0, ks)) :
    Ev (fun k => laws_FnScans.l0 k l p v 0 0 0 (scanTo l v p ks ks.length) 0 ks) true := by
  have hg : ∀ key, getR l key v = (match findR l key v with | some x => if x.f3 = true then (4, ⟨#[]⟩) else (0, x.f2) | none => (4, ⟨#[]⟩)) := fun key => by unfold getR; rw [if_pos ht]
  refine Ev.upto1 (fun k (s : Int) i => laws_FnScans.l0 k l p v s i 0 (scanTo l v p ks ks.length) 0 ks) ks.length (by omega) (fun i s => s = ((scanTo l v p ks i.toNat).length : Int)) true (fun i s h0 h1 hs => .inl ?_) (fun s hs => ?_) 0 0 (by omega) (by omega) rfl
  · obtain ⟨m, rfl⟩ : ∃ m : Nat, i = m := ⟨i.toNat, by omega⟩
    rw [show ((m : Int)).toNat = m by omega] at hs
    have hn := scanTo_len l v p ks m
    have e1 : ((m : Int) + 1).toNat = m + 1 := by omega
    have hstep : scanTo l v p ks (m + 1) = scanStep l v p (scanTo l v p ks m) (rdOf ByteArray.empty ks (m : Int)) := rfl
    obtain ⟨u, hu⟩ := scan_more l v p ks (m + 1) (ks.length - (m + 1))
    rw [show m + 1 + (ks.length - (m + 1)) = ks.length by omega] at hu
    have hget := impl_GetRow_ev l (rdOf ByteArray.empty ks (m : Int)) v hl
    rw [hg] at hget
    generalize hkey : rdOf ByteArray.empty ks (m : Int) = key at hget hstep
    unfold scanStep at hstep
    cases hf : findR l key v with
    | none =>
      rw [hf] at hget hstep
      simp only at hget hstep
      refine ⟨s, by rw [e1, hstep]; exact hs, fun h => Ev.step (fun k => laws_FnScans.l0.eq_2 ..) (Ev.pos h1 (Ev.pos h0 ?_))⟩
      rw [hkey]
      exact Ev.bind hget (Ev.neg (by decide) h)
    | some x =>
      rw [hf] at hget hstep
      simp only at hget hstep
      by_cases hgone : x.f3 = true
      · rw [if_pos hgone] at hget hstep
        refine ⟨s, by rw [e1, hstep]; exact hs, fun h => Ev.step (fun k => laws_FnScans.l0.eq_2 ..) (Ev.pos h1 (Ev.pos h0 ?_))⟩
        rw [hkey]
        exact Ev.bind hget (Ev.neg (by decide) h)
      · rw [if_neg hgone] at hget hstep
        have hp0 : (0 : Int) ≤ (p.size : Int) := by omega
        by_cases hp : pre key p = true
        · rw [if_pos hp] at hstep
          have hx : x.f0.toList = key.toList := by
            have := List.find?_some hf
            unfold isGet at this
            rw [Bool.and_eq_true, beq_iff_eq] at this
            exact this.1
          unfold pre at hp
          rw [Bool.and_eq_true, decide_eq_true_iff, beq_iff_eq] at hp
          have hlen : ((scanTo l v p ks m).length : Int) < ((scanTo l v p ks ks.length).length : Int) := by rw [hu, hstep, List.length_append, List.length_append, List.length_singleton]; omega
          have hrd : rd_T49 (scanTo l v p ks ks.length) s = x := by
            rw [rdRow_at _ s (by omega) (by omega)]
            have hsn : s.toNat = (scanTo l v p ks m).length := by omega
            have : (scanTo l v p ks ks.length)[s.toNat]? = some x := by
              rw [hsn, hu, hstep, List.append_assoc, List.getElem?_append_right (Nat.le_refl _), Nat.sub_self]; rfl
            exact Option.some.inj ((List.getElem?_eq_getElem (by omega)).symm.trans this)
          refine ⟨s + 1, by rw [e1, hstep, List.length_append, List.length_singleton]; omega, fun h => Ev.step (fun k => laws_FnScans.l0.eq_2 ..) (Ev.pos h1 (Ev.pos h0 ?_))⟩
          rw [hkey, hrd, w64 (x := s + 1) (by omega) (by omega)]
          exact Ev.bind hget (Ev.pos rfl (Ev.neg (by omega) (Ev.pos hp0 (Ev.pos hp.1 (Ev.pos hp.2 (Ev.neg (by omega) (Ev.pos (by omega) (Ev.pos (by omega) (Ev.pos hx (Ev.pos rfl (Ev.neg hgone h)))))))))))
        · rw [if_neg hp] at hstep
          refine ⟨s, by rw [e1, hstep]; exact hs, fun h => Ev.step (fun k => laws_FnScans.l0.eq_2 ..) (Ev.pos h1 (Ev.pos h0 ?_))⟩
          rw [hkey]
          refine Ev.bind hget (Ev.pos rfl ?_)
          by_cases hsz : (key.size : Int) < (p.size : Int)
          · exact Ev.pos hsz h
          · refine Ev.neg hsz (Ev.pos hp0 (Ev.pos (by omega) (Ev.neg (fun e => hp ?_) h)))
            unfold pre
            rw [Bool.and_eq_true, decide_eq_true_iff, beq_iff_eq]
            exact ⟨by omega, e⟩
  · rw [show ((ks.length : Int)).toNat = ks.length by omega] at hs
    have hsp := spec_KeysOf_ev l hl
    rw [hks] at hsp
    exact Ev.step (fun k => laws_FnScans.l0.eq_2 ..) (Ev.neg (by omega) (Ev.pos hs (Ev.bind hsp (Ev.eq (Ev.now _) (by simp)))))
theorem FnScans : ∀ (l0 : List Int), okL (fun n => (Lit.int .u8 n).wf = true) l0 → ∃ k, laws_FnScans.f k l0 = some true := by
  intro c hc
  have hb : bytesL c := fun x hx => wfU8 (hc.2 x hx)
  refine Ev.rounds (r := true) ?_
  unfold laws_FnScans.f
  refine Ev.bind (Ev.is (lwBig_eq c)) (Ev.ite (fun _ => Ev.now _) (fun hbig => ?_))
  have hl : c.length ≤ 2000000 := by simp at hbig; omega
  obtain ⟨t, p, v, hd, hlen⟩ := draw_scan c hb hl
  refine Ev.bind hd (Ev.bind (impl_ScanTable_ev t p v (by omega)) ?_)
  by_cases ht : tableFault t = 0
  · have hr : scanR t p v = (0, scanTo t v p (keysR t) (keysR t).length) := by unfold scanR; rw [if_pos ht]
    have hk : keysOfR t = (0, keysR t) := by unfold keysOfR; rw [if_pos ht]
    have hkl := keysR_len t
    have hi := impl_KeysOf_ev t (by omega)
    rw [hk] at hi
    rw [hr]
    exact Ev.pos rfl (Ev.bind hi (scans_loop t (by omega) ht p v (keysR t) (by omega) hk))
  · have hr : scanR t p v = (tableFault t, []) := by unfold scanR; rw [if_neg ht]
    have hs := spec_ScanTable_ev t p v (by omega)
    rw [hr] at hs ⊢
    exact Ev.neg ht (Ev.bind hs (Ev.eq (Ev.now _) (by simp)))

end Go.Proofs.Ytdhlcnlcpjlliaa.Pure
