/- FnCompacts, the pure statement: what is made compact of any drawn table tells the same at all versions from its floor on. No conditions. -/
import Derived.Test.YtdhlcnlcpjlliaaPFnCompactsx10
import Derived.Test.YtdhlcnlcpjlliaaOFnCompacts
namespace Go.Proofs.Ytdhlcnlcpjlliaa.Pure
open Go.RowKit Go.Proofs.Ytdhlcnlcpjlliaa.PFnCompacts Go.Proofs.YtdhlcnlcpjlliaaW.PrintWords Go.Proofs.YtdhlcnlcpjlliaaW.PrintLast Go.Proofs.YtdhlcnlcpjlliaaW.PrintMore Go.Proofs.Ytdhlcnlcpjlliaa.Opens
set_option linter.unusedVariables false
set_option linter.unusedSimpArgs false
/-! ### words of this text's own -/
theorem w64 {x : Int} (h0 : -9223372036854775808 ≤ x) (h1 : x ≤ 9223372036854775807) : wrap64 x = x := by
  unfold wrap64
  omega
theorem wfU8 {x : Int} (h : (Lit.int .u8 x).wf = true) : 0 ≤ x ∧ x < 256 := by
  simp [Lit.wf, IntKind.min, IntKind.max, IntKind.signed, IntKind.bits] at h
  omega
theorem wfI64 {x : Int} (h : (Lit.int .i64 x).wf = true) : -9223372036854775808 ≤ x ∧ x ≤ 9223372036854775807 := by
  simp [Lit.wf, IntKind.min, IntKind.max, IntKind.signed, IntKind.bits] at h
  omega
section
variable {α β σ : Type}
theorem Ev.ite {g f : Nat → Option α} {c : Prop} [Decidable c] {r : α} (ht : c → Ev g r) (hf : ¬ c → Ev f r) : Ev (fun k => if c then g k else f k) r := by
  by_cases h : c
  · simp only [if_pos h]; exact ht h
  · simp only [if_neg h]; exact hf h
theorem Ev.pos {g f : Nat → Option α} {c : Prop} [Decidable c] {r : α} (h : c) (ht : Ev g r) : Ev (fun k => if c then g k else f k) r := Ev.ite (fun _ => ht) (fun n => absurd h n)
theorem Ev.neg {g f : Nat → Option α} {c : Prop} [Decidable c] {r : α} (h : ¬ c) (hf : Ev f r) : Ev (fun k => if c then g k else f k) r := Ev.ite (fun y => absurd y h) (fun _ => hf)
theorem Ev.cond {g f : Nat → Option α} {c : Prop} [Decidable c] {r s : α} (ht : c → Ev g r) (hf : ¬ c → Ev f s) : Ev (fun k => if c then g k else f k) (if c then r else s) := by
  by_cases h : c
  · simp only [if_pos h]; exact ht h
  · simp only [if_neg h]; exact hf h
theorem Ev.let {f : Nat → α → Option β} {a : α} {r : β} (k : Ev (fun n => f n a) r) : Ev (fun n => (some a).bind (f n)) r := Ev.bind (Ev.now a) k
theorem Ev.is {a : Option α} {r : α} (h : a = some r) : Ev (fun _ => a) r := ⟨0, fun _ _ => h⟩
theorem Ev.eq {g : Nat → Option α} {a b : α} (h : Ev g a) (e : a = b) : Ev g b := e ▸ h
/-- A loop that counts i up to n, with a state s: what it comes to, if 'P i s' leads from round to round. -/
theorem Ev.upto (F : Nat → σ → Int → Option α) (n : Int) (hn : n ≤ 9223372036854775807) (P : Int → σ → Prop) (R : α → Prop)
    (step : ∀ i s, 0 ≤ i → i < n → P i s → (∃ s', P (i + 1) s' ∧ ∀ r, Ev (fun k => F k s' (wrap64 (i + 1))) r → Ev (fun k => F k s i) r) ∨ (∃ r, R r ∧ Ev (fun k => F k s i) r))
    (stop : ∀ s, P n s → ∃ r, R r ∧ Ev (fun k => F k s n) r) (i : Int) (s : σ) (h0 : 0 ≤ i) (h1 : i ≤ n) (hP : P i s) : ∃ r, R r ∧ Ev (fun k => F k s i) r := by
  obtain ⟨d, hd⟩ : ∃ d : Nat, n - i = d := ⟨(n - i).toNat, by omega⟩
  induction d generalizing i s with
  | zero =>
    obtain rfl : i = n := by omega
    exact stop s hP
  | succ d ih =>
    rcases step i s h0 (by omega) hP with ⟨s', hP', h⟩ | h
    · obtain ⟨r, hr, he⟩ := ih (i + 1) s' (by omega) (by omega) hP' (by omega)
      exact ⟨r, hr, h r (by rw [w64 (by omega) (by omega)]; exact he)⟩
    · exact h
/-- The same, where what it comes to is one value. -/
theorem Ev.upto1 (F : Nat → σ → Int → Option α) (n : Int) (hn : n ≤ 9223372036854775807) (P : Int → σ → Prop) (r : α)
    (step : ∀ i s, 0 ≤ i → i < n → P i s → (∃ s', P (i + 1) s' ∧ (Ev (fun k => F k s' (wrap64 (i + 1))) r → Ev (fun k => F k s i) r)) ∨ Ev (fun k => F k s i) r)
    (stop : ∀ s, P n s → Ev (fun k => F k s n) r) (i : Int) (s : σ) (h0 : 0 ≤ i) (h1 : i ≤ n) (hP : P i s) : Ev (fun k => F k s i) r := by
  obtain ⟨d, hd⟩ : ∃ d : Nat, n - i = d := ⟨(n - i).toNat, by omega⟩
  induction d generalizing i s with
  | zero =>
    obtain rfl : i = n := by omega
    exact stop s hP
  | succ d ih =>
    rcases step i s h0 (by omega) hP with ⟨s', hP', h⟩ | h
    · exact h (by rw [w64 (by omega) (by omega)]; exact ih (i + 1) s' (by omega) (by omega) hP' (by omega))
    · exact h
theorem take_set_succ (l acc : List α) (i : Nat) (v : α) (h : i < acc.length) (ht : acc.take i = l.take i) (hv : l[i]? = some v) : (acc.set i v).take (i + 1) = l.take (i + 1) := by
  rw [List.take_add_one, List.take_add_one, hv, List.getElem?_set_self h, List.take_set_of_le (Nat.le_refl _), ht]
/-- A row filled cell by cell. -/
theorem Ev.fill (F : Nat → List α → Int → Option (List α)) (l : List α) (hl : l.length ≤ 9223372036854775807)
    (step : ∀ (i : Int) s (v : α), 0 ≤ i → i < (l.length : Int) → s.length = l.length → l[i.toNat]? = some v → Ev (fun k => F k (s.set i.toNat v) (wrap64 (i + 1))) l → Ev (fun k => F k s i) l)
    (stop : ∀ s, s.length = l.length → Ev (fun k => F k s (l.length : Int)) s) (s : List α) (hs : s.length = l.length) : Ev (fun k => F k s 0) l :=
  Ev.upto1 F l.length (by omega) (fun i s => s.length = l.length ∧ s.take i.toNat = l.take i.toNat) l
    (fun i s h0 h1 ⟨hs, ht⟩ => .inl ⟨s.set i.toNat (l[i.toNat]'(by omega)), ⟨by simp [hs], by
      rw [show (i + 1).toNat = i.toNat + 1 by omega]
      exact take_set_succ l s _ _ (by omega) ht (List.getElem?_eq_getElem (by omega))⟩, step i s _ h0 h1 hs (List.getElem?_eq_getElem (by omega))⟩)
    (fun s ⟨hs, ht⟩ => by
      rw [List.take_of_length_le (by omega), List.take_of_length_le (by omega)] at ht
      have := stop s hs
      subst ht
      exact this) 0 s (by omega) (by omega) ⟨hs, by simp⟩
/-- A loop that asks of each place, and comes to the end. -/
theorem Ev.each {F : Nat → Int → Option β} {r : β} (n : Nat) (hn : (n : Int) ≤ 9223372036854775807) (step : ∀ i : Int, 0 ≤ i → i < n → Ev (fun k => F k (wrap64 (i + 1))) r → Ev (fun k => F k i) r) (stop : Ev (fun k => F k (n : Int)) r) : Ev (fun k => F k 0) r :=
  Ev.upto1 (fun k (_ : Unit) i => F k i) n hn (fun _ _ => True) r (fun i _ h0 h1 _ => .inl ⟨(), trivial, step i h0 h1⟩) (fun _ _ => stop) 0 () (by omega) (by omega) trivial
end
theorem rd_get (l : List Int) (i : Int) (h0 : 0 ≤ i) (h1 : i < (l.length : Int)) : rd l i = l[i.toNat]'(by omega) := by
  unfold rd
  rw [List.getD_eq_getElem?_getD, List.getElem?_eq_getElem (by omega)]
  rfl
theorem rd_of {l : List Int} {i : Int} {v : Int} (h : l[i.toNat]? = some v) : rd l i = v := by
  unfold rd
  rw [List.getD_eq_getElem?_getD, h]
  rfl
theorem drop_cons_at {α : Type} (l : List α) (i : Nat) (h : i < l.length) : l.drop i = l[i] :: l.drop (i + 1) := List.drop_eq_getElem_cons h
theorem rdRow {l : List S49} {i : Int} {v : S49} (h : l[i.toNat]? = some v) : rd_T49 l i = v := by
  unfold rd_T49
  rw [List.getD_eq_getElem?_getD, h]
  rfl
theorem rdRow_at (l : List S49) (i : Int) (h0 : 0 ≤ i) (h1 : i < (l.length : Int)) : rd_T49 l i = l[i.toNat]'(by omega) := rdRow (List.getElem?_eq_getElem (by omega))

/-- What RowFault tells of a row. -/
def rowFault (key : ByteArray) (v : Int) (val : ByteArray) (gone : Bool) : Int :=
  if 1 ≤ (key.size : Int) ∧ (key.size : Int) ≤ 20 ∧ ¬ (gone = true ∧ (val.toList != ([] : List UInt8)) = true) then (if (val.size : Int) > 100 then 2 else if 1 ≤ v ∧ v ≤ 1000000 then 0 else 3) else 1
theorem spec_RowFault_ev (key : ByteArray) (v : Int) (val : ByteArray) (gone : Bool) : Ev (fun k => spec_RowFault.f k key v val gone) (rowFault key v val gone) := by
  refine ⟨1, fun k hk => ?_⟩
  obtain ⟨k, rfl⟩ : ∃ j, k = j + 1 := ⟨k - 1, by omega⟩
  unfold spec_RowFault.f rowFault
  simp only [spec_RowFault.j0, spec_l1In.f]
  generalize (val.toList != ([] : List UInt8)) = e
  generalize (key.size : Int) = n
  generalize (val.size : Int) = m
  by_cases h1 : n < 1
  · have : ¬ 1 ≤ n := by omega
    simp [h1, this]
  · have h1' : 1 ≤ n := by omega
    by_cases h2 : n > 20
    · have : ¬ n ≤ 20 := by omega
      simp [h1, h2, this]
    · have h2' : n ≤ 20 := by omega
      by_cases h3 : m > 100 <;> by_cases h4 : 1 ≤ v <;> by_cases h5 : v ≤ 1000000 <;> cases gone <;> cases e <;> simp [h1, h2, h1', h2', h3, h4, h5]
theorem impl_RowFault_ev (key : ByteArray) (v : Int) (val : ByteArray) (gone : Bool) : Ev (fun k => impl_RowFault.f k key v val gone) (rowFault key v val gone) := by
  refine ⟨1, fun k hk => ?_⟩
  obtain ⟨k, rfl⟩ : ∃ j, k = j + 1 := ⟨k - 1, by omega⟩
  unfold impl_RowFault.f rowFault impl_isKey.f
  simp only [impl_RowFault.j0, impl_within.f, impl_isVersion.f]
  generalize (val.toList != ([] : List UInt8)) = e
  generalize (key.size : Int) = n
  generalize (val.size : Int) = m
  by_cases h1 : 1 ≤ n <;> by_cases h2 : n ≤ 20 <;> by_cases h3 : m > 100 <;> by_cases h4 : 1 ≤ v <;> by_cases h5 : v ≤ 1000000 <;> cases gone <;> cases e <;> simp [h1, h2, h3, h4, h5]

theorem compare_self (l : List UInt8) : Lib.compareBytes l l = 0 := by
  induction l with
  | nil => rfl
  | cons a l ih =>
    have h : ¬ a < a := UInt8.lt_irrefl a
    simp [Lib.compareBytes, h, ih]
/-- strings.Compare: before, the same, behind. -/
theorem compare_cases (l : List UInt8) : ∀ m : List UInt8, (Lib.compareBytes l m = 0 ∧ l = m) ∨ (Lib.compareBytes l m = -1 ∧ l ≠ m ∧ Op.bytesLess l m = true) ∨ (Lib.compareBytes l m = 1 ∧ l ≠ m ∧ Op.bytesLess l m = false) := by
  induction l with
  | nil =>
    intro m
    cases m with
    | nil => exact .inl ⟨rfl, rfl⟩
    | cons b m => exact .inr (.inl ⟨rfl, by simp, rfl⟩)
  | cons a l ih =>
    intro m
    cases m with
    | nil => exact .inr (.inr ⟨rfl, by simp, rfl⟩)
    | cons b m =>
      unfold Lib.compareBytes Op.bytesLess
      by_cases h1 : a < b
      · have hne : a ≠ b := fun h => by subst h; exact UInt8.lt_irrefl a h1
        exact .inr (.inl ⟨by simp [h1], by simp [hne], by simp [h1]⟩)
      · by_cases h2 : b < a
        · have hne : a ≠ b := fun h => by subst h; exact UInt8.lt_irrefl a h2
          exact .inr (.inr ⟨by simp [h1, h2], by simp [hne], by simp [h1, hne]⟩)
        · have he : a = b := by
            rw [UInt8.lt_iff_toNat_lt] at h1 h2
            exact UInt8.toNat_inj.1 (by omega)
          subst he
          rcases ih m with ⟨p, q⟩ | ⟨p, q, r⟩ | ⟨p, q, r⟩
          · exact .inl ⟨by simp [h1, p], by rw [q]⟩
          · exact .inr (.inl ⟨by simp [h1, p], by simp [q], by simp [r]⟩)
          · exact .inr (.inr ⟨by simp [h1, p], by simp [q], by simp [h1, r]⟩)
/-- Does one row stand ahead of another? -/
def aheadR (a b : S49) : Bool := if a.f0.toList = b.f0.toList then decide (a.f1 > b.f1) else Op.bytesLess a.f0.toList b.f0.toList
theorem spec_l5Ahead_eq (a b : S49) : spec_l5Ahead.f a.f0 a.f1 a.f2 a.f3 b.f0 b.f1 b.f2 b.f3 = some (aheadR a b) := by
  unfold spec_l5Ahead.f aheadR
  split <;> rfl
/-- What compareRows tells. -/
def cmpR (a b : S49) : Int := if Lib.compareBytes a.f0.data.toList b.f0.data.toList = 0 then (if b.f1 < a.f1 then -1 else if b.f1 > a.f1 then 1 else 0) else Lib.compareBytes a.f0.data.toList b.f0.data.toList
theorem or_ev (x y : Int) : Ev (fun k => cmp_Or_int.f k [x, y]) (if x = 0 then y else x) := by
  refine ⟨3, fun k hk => ?_⟩
  obtain ⟨k, rfl⟩ : ∃ j, k = j + 3 := ⟨k - 3, by omega⟩
  unfold cmp_Or_int.f
  have w1 : wrap64 (0 + 1) = 1 := by rw [w64 (by decide) (by decide)]; rfl
  have w2 : wrap64 (1 + 1) = 2 := by rw [w64 (by decide) (by decide)]; rfl
  have r0 : rd [x, y] 0 = x := rfl
  have r1 : rd [x, y] 1 = y := rfl
  simp only [cmp_Or_int.l0, List.length_cons, List.length_nil, w1, w2, r0, r1]
  by_cases h1 : x = 0 <;> by_cases h2 : y = 0 <;> simp [h1, h2]
theorem compare64_eq (x y : Int) : cmp_Compare_int64.f x y = some (if x < y then -1 else if x > y then 1 else 0) := by
  unfold cmp_Compare_int64.f cmp_isNaN_int64.f
  by_cases h1 : x < y
  · simp [h1]
  · by_cases h2 : y < x
    · simp [h1, h2]
    · simp [h1, h2]
theorem impl_compareRows_ev (a b : S49) : Ev (fun k => impl_compareRows.f k a.f0 a.f1 a.f2 a.f3 b.f0 b.f1 b.f2 b.f3) (cmpR a b) := by
  unfold impl_compareRows.f cmpR
  refine Ev.bind (a := Lib.compareBytes a.f0.data.toList b.f0.data.toList) (Ev.is rfl) (Ev.bind (Ev.is (compare64_eq _ _)) (Ev.bind (or_ev _ _) (Ev.now _)))
theorem cmpR_ahead (a b : S49) : cmpR a b ≥ 0 ↔ ¬ aheadR a b = true := by
  unfold cmpR aheadR
  rw [ByteArray.toList_eq, ByteArray.toList_eq]
  rcases compare_cases a.f0.data.toList b.f0.data.toList with ⟨p, q⟩ | ⟨p, q, r⟩ | ⟨p, q, r⟩
  · rw [p, if_pos rfl, if_pos q, decide_eq_true_iff]
    split
    · omega
    · split <;> omega
  · rw [p, if_neg (by decide), if_neg q, r]
    simp
  · rw [p, if_neg (by decide), if_neg q, r]
    simp

/-- What TableFault tells of the last d rows. -/
def tableFrom (l : List S49) : Nat → Int
  | 0 => 0
  | d + 1 => (fun i : Int => (fun (x y : S49) => if rowFault x.f0 x.f1 x.f2 x.f3 = 0 then (if i > 0 then (if aheadR y x = true then tableFrom l d else 1) else tableFrom l d) else rowFault x.f0 x.f1 x.f2 x.f3) (rd_T49 l i) (rd_T49 l (i - 1))) ((l.length : Int) - (d + 1))
def tableFault (l : List S49) : Int := if (l.length : Int) > 200 then 2 else tableFrom l l.length
theorem spec_TableFault_ev (l : List S49) : Ev (fun k => spec_TableFault.f k l) (tableFault l) := by
  unfold spec_TableFault.f tableFault
  refine Ev.cond (fun _ => Ev.now _) (fun hl => ?_)
  have go : ∀ d : Nat, d ≤ l.length → Ev (fun k => spec_TableFault.l0 k l ((l.length : Int) - d)) (tableFrom l d) := by
    intro d
    induction d with
    | zero => intro _; exact Ev.step (fun k => spec_TableFault.l0.eq_2 ..) (Ev.neg (by omega) (Ev.now _))
    | succ d ih =>
      intro hd
      have h := ih (by omega)
      refine Ev.step (fun k => spec_TableFault.l0.eq_2 ..) (Ev.pos (by omega) (Ev.pos (by omega) (Ev.bind (spec_RowFault_ev ..) ?_)))
      rw [w64 (x := (l.length : Int) - ((d + 1 : Nat) : Int) + 1) (by omega) (by omega), w64 (x := (l.length : Int) - ((d + 1 : Nat) : Int) - 1) (by omega) (by omega), show (l.length : Int) - ((d + 1 : Nat) : Int) + 1 = (l.length : Int) - d by omega]
      rw [show ((d + 1 : Nat) : Int) = (d : Int) + 1 by omega]
      unfold tableFrom
      refine Ev.cond (fun _ => Ev.cond (fun hp => Ev.pos (by omega) (Ev.pos (by omega) (Ev.bind (Ev.is (spec_l5Ahead_eq ..)) (Ev.cond (fun _ => h) (fun _ => Ev.now _))))) (fun _ => h)) (fun _ => Ev.now _)
  have := go l.length (by omega)
  rw [show (l.length : Int) - (l.length : Nat) = 0 by omega] at this
  exact this
theorem impl_TableFault_ev (l : List S49) : Ev (fun k => impl_TableFault.f k l) (tableFault l) := by
  unfold impl_TableFault.f tableFault
  refine Ev.cond (fun _ => Ev.now _) (fun hl => ?_)
  have go : ∀ d : Nat, d ≤ l.length → Ev (fun k => impl_TableFault.l0 k l l (l.length : Int) ((l.length : Int) - d)) (tableFrom l d) := by
    intro d
    induction d with
    | zero => intro _; exact Ev.step (fun k => impl_TableFault.l0.eq_2 ..) (Ev.neg (by omega) (Ev.now _))
    | succ d ih =>
      intro hd
      have h := ih (by omega)
      refine Ev.step (fun k => impl_TableFault.l0.eq_2 ..) (Ev.pos (by omega) (Ev.pos (by omega) (Ev.pos (by omega) (Ev.bind (impl_RowFault_ev ..) ?_))))
      rw [w64 (x := (l.length : Int) - ((d + 1 : Nat) : Int) + 1) (by omega) (by omega), w64 (x := (l.length : Int) - ((d + 1 : Nat) : Int) - 1) (by omega) (by omega), show (l.length : Int) - ((d + 1 : Nat) : Int) + 1 = (l.length : Int) - d by omega]
      rw [show ((d + 1 : Nat) : Int) = (d : Int) + 1 by omega]
      unfold tableFrom
      refine Ev.cond (fun _ => Ev.cond (fun hp => Ev.pos (by omega) (Ev.pos (by omega) (Ev.bind (impl_compareRows_ev ..) ?_))) (fun _ => h)) (fun _ => Ev.now _)
      by_cases ha : aheadR (rd_T49 l ((l.length : Int) - ((d : Int) + 1) - 1)) (rd_T49 l ((l.length : Int) - ((d : Int) + 1))) = true
      · rw [if_pos ha]
        exact Ev.neg (fun h => (cmpR_ahead _ _).1 h ha) h
      · rw [if_neg ha]
        exact Ev.pos ((cmpR_ahead _ _).2 ha) (Ev.now _)
  have := go l.length (by omega)
  rw [show (l.length : Int) - (l.length : Nat) = 0 by omega] at this
  exact this

/-- Is it a row of this key, not younger? -/
def isGet (key : ByteArray) (v : Int) (x : S49) : Bool := (x.f0.toList == key.toList) && decide (x.f1 ≤ v)
theorem index_ev [FN_slices_IndexFunc_impl_Row] (q : S49 → Bool) (hq : ∀ x : S49, FN_slices_IndexFunc_impl_Row.f x.f0 x.f1 x.f2 x.f3 = some (q x)) (l : List S49) (hl : l.length ≤ 1000000000) :
    ∃ r : Int, (r < 0 ∧ l.find? q = none ∨ 0 ≤ r ∧ r < (l.length : Int) ∧ l.find? q = some (rd_T49 l r)) ∧ Ev (fun k => slices_IndexFunc_impl_Row.f k l) r := by
  unfold slices_IndexFunc_impl_Row.f
  exact Ev.upto (fun k (_ : Unit) i => slices_IndexFunc_impl_Row.l0 k l (l.length : Int) i) l.length (by omega) (fun i _ => (l.drop i.toNat).find? q = l.find? q) (fun r => r < 0 ∧ l.find? q = none ∨ 0 ≤ r ∧ r < (l.length : Int) ∧ l.find? q = some (rd_T49 l r))
    (fun i _ h0 h1 hp => by
      have hr := rdRow_at l i h0 h1
      rw [drop_cons_at l i.toNat (by omega), List.find?_cons] at hp
      generalize l[i.toNat]'(by omega) = x at hr hp
      by_cases hx : q x = true
      · rw [hx] at hp
        refine .inr ⟨i, .inr ⟨h0, h1, by rw [hr]; exact hp.symm⟩, Ev.step (fun k => slices_IndexFunc_impl_Row.l0.eq_2 ..) (Ev.pos h1 (Ev.pos h0 (Ev.pos h1 ?_)))⟩
        rw [hr]
        exact Ev.bind (Ev.is (hq x)) (Ev.pos hx (Ev.now _))
      · have hf : q x = false := by simpa using hx
        rw [hf] at hp
        refine .inl ⟨(), by rw [show (i + 1).toNat = i.toNat + 1 by omega]; exact hp, fun r h => Ev.step (fun k => slices_IndexFunc_impl_Row.l0.eq_2 ..) (Ev.pos h1 (Ev.pos h0 (Ev.pos h1 ?_)))⟩
        rw [hr]
        exact Ev.bind (Ev.is (hq x)) (Ev.neg hx h))
    (fun _ hp => ⟨-1, .inl ⟨by decide, by rw [← hp, List.drop_eq_nil_of_le (by omega)]; rfl⟩, Ev.step (fun k => slices_IndexFunc_impl_Row.l0.eq_2 ..) (Ev.neg (by omega) (Ev.now _))⟩)
    0 () (by omega) (by omega) rfl
/-- What a reading tells of rows. -/
def findR (l : List S49) (key : ByteArray) (v : Int) : Option S49 := l.find? (isGet key v)
/-- What GetRow tells. -/
def getR (l : List S49) (key : ByteArray) (v : Int) : Int × ByteArray :=
  if tableFault l = 0 then (match findR l key v with | some x => if x.f3 = true then (4, ⟨#[]⟩) else (0, x.f2) | none => (4, ⟨#[]⟩)) else (tableFault l, ⟨#[]⟩)
theorem impl_rowOf_ev (l : List S49) (key : ByteArray) (v : Int) (hl : l.length ≤ 1000000000) : Ev (fun k => impl_rowOf.f k l key v) (match findR l key v with | some x => (x.f0, x.f1, x.f2, x.f3, true) | none => (⟨#[]⟩, 0, ⟨#[]⟩, false, false)) := by
  unfold impl_rowOf.f CL_114.f
  obtain ⟨r, hr, he⟩ := @index_ev (CL_114.p key v) (isGet key v) (fun x => rfl) l hl
  refine Ev.bind he ?_
  unfold findR
  rcases hr with ⟨h0, h1⟩ | ⟨h0, h1, h2⟩
  · rw [h1]
    exact Ev.pos h0 (Ev.now _)
  · rw [h2]
    exact Ev.neg (by omega) (Ev.pos h0 (Ev.pos h1 (Ev.now _)))
theorem impl_GetRow_ev (l : List S49) (key : ByteArray) (v : Int) (hl : l.length ≤ 1000000000) : Ev (fun k => impl_GetRow.f k l key v) (getR l key v) := by
  unfold impl_GetRow.f getR
  refine Ev.bind (impl_TableFault_ev l) (Ev.cond (fun _ => Ev.bind (impl_rowOf_ev l key v hl) ?_) (fun _ => Ev.now _))
  cases hf : findR l key v with
  | none => exact Ev.neg (by simp) (Ev.now _)
  | some x =>
    refine Ev.pos (show (true : Bool) = true from rfl) ?_
    show Ev (fun k => if x.f3 = true then some (4, (⟨#[]⟩ : ByteArray)) else some (0, x.f2)) (if x.f3 = true then (4, (⟨#[]⟩ : ByteArray)) else (0, x.f2))
    by_cases hg : x.f3 = true
    · rw [if_pos hg]
      exact Ev.eq (Ev.now _) (if_pos hg).symm
    · rw [if_neg hg]
      exact Ev.eq (Ev.now _) (if_neg hg).symm

theorem Ev.eq' {α : Type} {g g' : Nat → Option α} {a : α} (h : Ev g a) (e : g' = g) : Ev g' a := e ▸ h
def markRow (mt : Int → ByteArray) (m : Int) : S49 := ⟨mt m, m + 1, mt (m + 2), Int.tmod (m + 3) 3 == 0⟩
def markRows (mt : Int → ByteArray) (n : Nat) : List S49 := (List.range n).map fun (i : Nat) => markRow mt (1 + 4 * (i : Int))
theorem markRows_len (mt : Int → ByteArray) (n : Nat) : (markRows mt n).length = n := by simp [markRows]
theorem markRows_get (mt : Int → ByteArray) (n : Nat) (i : Nat) (h : i < n) : (markRows mt n)[i]? = some (markRow mt (1 + 4 * (i : Int))) := by simp [markRows, h]
theorem rdRow_set (l : List S49) (i : Int) (v : S49) (h0 : 0 ≤ i) (h1 : i < (l.length : Int)) : rd_T49 (l.set i.toNat v) i = v := rdRow (by rw [List.getElem?_set_self (by omega)])
theorem less_irrefl : ∀ l : List UInt8, Op.bytesLess l l = false
  | [] => rfl
  | a :: l => by
    have h : ¬ a < a := UInt8.lt_irrefl a
    simp [Op.bytesLess, h, less_irrefl l]
theorem less_trans : ∀ a b c : List UInt8, Op.bytesLess a b = true → Op.bytesLess b c = true → Op.bytesLess a c = true
  | [], [], _, h, _ => by simp [Op.bytesLess] at h
  | [], _ :: _, [], _, h => by simp [Op.bytesLess] at h
  | [], _ :: _, _ :: _, _, _ => rfl
  | _ :: _, [], _, h, _ => by simp [Op.bytesLess] at h
  | _ :: _, _ :: _, [], _, h => by simp [Op.bytesLess] at h
  | x :: a, y :: b, z :: c, h1, h2 => by
    simp only [Op.bytesLess, Bool.or_eq_true, Bool.and_eq_true, decide_eq_true_eq, beq_iff_eq] at h1 h2 ⊢
    rcases h1 with h1 | ⟨e1, h1⟩
    · rcases h2 with h2 | ⟨e2, h2⟩
      · exact .inl (UInt8.lt_trans h1 h2)
      · exact .inl (e2 ▸ h1)
    · rcases h2 with h2 | ⟨e2, h2⟩
      · exact .inl (e1 ▸ h2)
      · exact .inr ⟨e1.trans e2, less_trans a b c h1 h2⟩
theorem ahead_trans {a b c : S49} (h1 : aheadR a b = true) (h2 : aheadR b c = true) : aheadR a c = true := by
  unfold aheadR at *
  by_cases e1 : a.f0.toList = b.f0.toList
  · rw [if_pos e1, decide_eq_true_iff] at h1
    by_cases e2 : b.f0.toList = c.f0.toList
    · rw [if_pos e2, decide_eq_true_iff] at h2
      rw [if_pos (e1.trans e2), decide_eq_true_iff]
      omega
    · rw [if_neg e2] at h2
      rw [if_neg (fun h => e2 (e1.symm.trans h)), e1]
      exact h2
  · rw [if_neg e1] at h1
    by_cases e2 : b.f0.toList = c.f0.toList
    · rw [if_neg (fun h => e1 (h.trans e2.symm)), ← e2]
      exact h1
    · rw [if_neg e2] at h2
      have h3 := less_trans _ _ _ h1 h2
      rw [if_neg (fun h => by rw [h] at h3; rw [less_irrefl] at h3; cases h3)]
      exact h3
theorem table_next (l : List S49) : ∀ d : Nat, d ≤ l.length → tableFrom l d = 0 → ∀ i : Int, (l.length : Int) - d ≤ i → 0 < i → i < (l.length : Int) → aheadR (rd_T49 l (i - 1)) (rd_T49 l i) = true := by
  intro d
  induction d with
  | zero => intro _ _ i h0 _ h1; omega
  | succ d ih =>
    intro hd h i h0 hp h1
    unfold tableFrom at h
    simp only at h
    split at h
    · split at h
      · split at h
        · next ha =>
          by_cases hi : i = (l.length : Int) - ((d : Int) + 1)
          · rw [hi]
            exact ha
          · exact ih (by omega) h i (by omega) hp h1
        · cases h
      · next hn => exact ih (by omega) h i (by omega) hp h1
    · next hn => exact absurd h hn
theorem table_ahead (l : List S49) (h : tableFault l = 0) : ∀ (d : Nat) (j : Int), 0 ≤ j → j + 1 + d < (l.length : Int) → aheadR (rd_T49 l j) (rd_T49 l (j + 1 + d)) = true := by
  have hs : ∀ i : Int, 0 < i → i < (l.length : Int) → aheadR (rd_T49 l (i - 1)) (rd_T49 l i) = true := by
    unfold tableFault at h
    split at h
    · cases h
    · exact fun i hp h1 => table_next l l.length (Nat.le_refl _) h i (by omega) hp h1
  intro d
  induction d with
  | zero =>
    intro j h0 h1
    have := hs (j + 1) (by omega) (by omega)
    rw [show j + 1 - 1 = j by omega] at this
    rw [show j + 1 + ((0 : Nat) : Int) = j + 1 by omega]
    exact this
  | succ d ih =>
    intro j h0 h1
    have e1 := ih j h0 (by omega)
    have e2 := hs (j + 1 + d + 1) (by omega) (by omega)
    rw [show j + 1 + d + 1 - 1 = j + 1 + d by omega] at e2
    rw [show j + 1 + ((d + 1 : Nat) : Int) = j + 1 + d + 1 by omega]
    exact ahead_trans e1 e2
/-- Is y one that hides x from the floor on? -/
def hides (v : Int) (y x : S49) : Bool := (y.f0.toList == x.f0.toList) && decide (y.f1 ≤ v)
/-- Some row ahead hides it where the one just ahead does. -/
theorem hid_eq (l : List S49) (v : Int) (h : tableFault l = 0) (i : Int) (h0 : 0 < i) (h1 : i < (l.length : Int)) : (l.take i.toNat).any (fun y => hides v y (rd_T49 l i)) = hides v (rd_T49 l (i - 1)) (rd_T49 l i) := by
  have hin : ∀ j : Int, 0 ≤ j → j < i → rd_T49 l j ∈ l.take i.toNat := fun j p q => by
    rw [rdRow_at l j p (by omega)]
    exact List.mem_take_iff_getElem.2 ⟨j.toNat, by omega, rfl⟩
  rw [Bool.eq_iff_iff, List.any_eq_true]
  constructor
  · rintro ⟨y, hy, hh⟩
    obtain ⟨j, hj, rfl⟩ := List.mem_take_iff_getElem.1 hy
    have ej : rd_T49 l (j : Int) = l[j]'(by omega) := rdRow_at l (j : Int) (by omega) (by omega)
    rw [← ej] at hh
    by_cases hji : (j : Int) = i - 1
    · rw [← hji]
      exact hh
    · obtain ⟨d, hd⟩ : ∃ d : Nat, (j : Int) + 1 + d = i - 1 := ⟨(i - 1 - (j + 1)).toNat, by omega⟩
      have a1 := table_ahead l h d (j : Int) (by omega) (by omega)
      rw [hd] at a1
      have a2 := table_ahead l h 0 (i - 1) (by omega) (by omega)
      rw [show i - 1 + 1 + ((0 : Nat) : Int) = i by omega] at a2
      generalize rd_T49 l (j : Int) = y at hh a1
      generalize rd_T49 l (i - 1) = p at a1 a2 ⊢
      generalize rd_T49 l i = x at hh a2 ⊢
      unfold hides at hh ⊢
      rw [Bool.and_eq_true, beq_iff_eq, decide_eq_true_iff] at hh ⊢
      unfold aheadR at a1 a2
      by_cases e2 : p.f0.toList = x.f0.toList
      · rw [if_pos (hh.1.trans e2.symm), decide_eq_true_iff] at a1
        exact ⟨e2, by omega⟩
      · rw [if_neg e2] at a2
        rw [if_neg (fun e => e2 (e.symm.trans hh.1)), hh.1] at a1
        have := less_trans _ _ _ a1 a2
        rw [less_irrefl] at this
        cases this
  · intro hh
    exact ⟨_, hin (i - 1) (by omega) (by omega), hh⟩
/-- The rows that are not hidden, of the first i. -/
def keptTo (l : List S49) (v : Int) : Nat → List S49
  | 0 => []
  | i + 1 => if i ≠ 0 ∧ hides v (rd_T49 l ((i : Int) - 1)) (rd_T49 l (i : Int)) = true then keptTo l v i else keptTo l v i ++ [rd_T49 l (i : Int)]
theorem keptTo_len (l : List S49) (v : Int) : ∀ i : Nat, (keptTo l v i).length ≤ i
  | 0 => Nat.le_refl _
  | i + 1 => by
    have := keptTo_len l v i
    unfold keptTo
    split
    · omega
    · rw [List.length_append, List.length_singleton]
      omega
theorem kept_hid {l : List S49} {v : Int} {i : Nat} (h : i ≠ 0 ∧ hides v (rd_T49 l ((i : Int) - 1)) (rd_T49 l (i : Int)) = true) : keptTo l v (i + 1) = keptTo l v i := by
  conv => lhs; unfold keptTo
  rw [if_pos h]
theorem kept_new {l : List S49} {v : Int} {i : Nat} (h : ¬ (i ≠ 0 ∧ hides v (rd_T49 l ((i : Int) - 1)) (rd_T49 l (i : Int)) = true)) : keptTo l v (i + 1) = keptTo l v i ++ [rd_T49 l (i : Int)] := by
  conv => lhs; unfold keptTo
  rw [if_neg h]
/-- One round of what is left of them. -/
def outStep (ks : List S49) (v : Int) (out : List S49) (i : Int) : List S49 :=
  if i = (ks.length : Int) - 1 then (if (rd_T49 ks i).f3 = true then (if (rd_T49 ks i).f1 > v then out ++ [rd_T49 ks i] else out) else out ++ [rd_T49 ks i])
  else (if (rd_T49 ks i).f3 = true then (if (rd_T49 ks i).f1 > v then out ++ [rd_T49 ks i] else (if ¬ (rd_T49 ks (i + 1)).f0.toList = (rd_T49 ks i).f0.toList then out else out ++ [rd_T49 ks i])) else out ++ [rd_T49 ks i])
theorem outStep_len (ks : List S49) (v : Int) (out : List S49) (i : Int) : (outStep ks v out i).length ≤ out.length + 1 := by
  unfold outStep
  repeat' split
  all_goals first | (rw [List.length_append, List.length_singleton]; exact Nat.le_refl _) | omega
def outTo (ks : List S49) (v : Int) : Nat → List S49
  | 0 => []
  | i + 1 => outStep ks v (outTo ks v i) (i : Int)
theorem outTo_len (ks : List S49) (v : Int) : ∀ i : Nat, (outTo ks v i).length ≤ i
  | 0 => Nat.le_refl _
  | i + 1 => by
    have := outTo_len ks v i
    have := outStep_len ks v (outTo ks v i) (i : Int)
    unfold outTo
    omega
theorem impl_out_ev (ks : List S49) (v : Int) (hk : ks.length ≤ 1000000000) : Ev (fun k => impl_compacted.l1 k v ks [] ks (ks.length : Int) 0) (outTo ks v ks.length) := by
  refine Ev.upto1 (fun k (x : List S49) i => impl_compacted.l1 k v ks x ks (ks.length : Int) i) ks.length (by omega) (fun i x => x = outTo ks v i.toNat) (outTo ks v ks.length) (fun i x h0 h1 hx => .inl ?_) (fun x hx => ?_) 0 [] (by omega) (by omega) rfl
  · have hn := outTo_len ks v i.toNat
    rw [← hx] at hn
    have e_ : outTo ks v (i + 1).toNat = outStep ks v x i := by
      rw [show (i + 1).toNat = i.toNat + 1 by omega, hx]
      show outStep ks v (outTo ks v i.toNat) (i.toNat : Int) = _
      rw [show ((i.toNat : Nat) : Int) = i by omega]
    refine ⟨outStep ks v x i, e_.symm, fun h => Ev.step (fun k => impl_compacted.l1.eq_2 ..) (Ev.pos h1 (Ev.pos h0 (Ev.pos h1 ?_)))⟩
    clear e_ hx
    unfold outStep at h
    have w1 : wrap64 ((ks.length : Int) - 1) = (ks.length : Int) - 1 := w64 (by omega) (by omega)
    have w2 : wrap64 (i + 1) = i + 1 := w64 (by omega) (by omega)
    rw [w1]
    rw [w2] at h ⊢
    by_cases c1 : i = (ks.length : Int) - 1
    · rw [if_pos c1] at h
      refine Ev.pos c1 ?_
      by_cases c2 : (rd_T49 ks i).f3 = true
      · rw [if_pos c2] at h
        refine Ev.pos c2 ?_
        by_cases c3 : (rd_T49 ks i).f1 > v
        · rw [if_pos c3] at h
          exact Ev.pos c3 (Ev.pos (by omega) h)
        · rw [if_neg c3] at h
          exact Ev.neg c3 h
      · rw [if_neg c2] at h
        exact Ev.neg c2 (Ev.pos (by omega) h)
    · rw [if_neg c1] at h
      refine Ev.neg c1 (Ev.pos (by omega) (Ev.pos (by omega) ?_))
      by_cases c2 : (rd_T49 ks i).f3 = true
      · rw [if_pos c2] at h
        refine Ev.pos c2 ?_
        by_cases c3 : (rd_T49 ks i).f1 > v
        · rw [if_pos c3] at h
          exact Ev.pos c3 (Ev.pos (by omega) h)
        · rw [if_neg c3] at h
          refine Ev.neg c3 ?_
          by_cases c4 : ¬ (rd_T49 ks (i + 1)).f0.toList = (rd_T49 ks i).f0.toList
          · rw [if_pos c4] at h
            exact Ev.pos c4 h
          · rw [if_neg c4] at h
            exact Ev.neg c4 (Ev.pos (by omega) h)
      · rw [if_neg c2] at h
        exact Ev.neg c2 (Ev.pos (by omega) h)
  · rw [show ((ks.length : Int)).toNat = ks.length by omega] at hx
    rw [← hx]
    exact Ev.step (fun k => impl_compacted.l1.eq_2 ..) (Ev.neg (by omega) (Ev.now _))
theorem spec_out_ev (ks : List S49) (v : Int) (hk : ks.length ≤ 1000000000) : Ev (fun k => spec_l5Compact.l2 k v ks [] 0) (outTo ks v ks.length) := by
  refine Ev.upto1 (fun k (x : List S49) i => spec_l5Compact.l2 k v ks x i) ks.length (by omega) (fun i x => x = outTo ks v i.toNat) (outTo ks v ks.length) (fun i x h0 h1 hx => .inl ?_) (fun x hx => ?_) 0 [] (by omega) (by omega) rfl
  · have hn := outTo_len ks v i.toNat
    rw [← hx] at hn
    have e_ : outTo ks v (i + 1).toNat = outStep ks v x i := by
      rw [show (i + 1).toNat = i.toNat + 1 by omega, hx]
      show outStep ks v (outTo ks v i.toNat) (i.toNat : Int) = _
      rw [show ((i.toNat : Nat) : Int) = i by omega]
    refine ⟨outStep ks v x i, e_.symm, fun h => Ev.step (fun k => spec_l5Compact.l2.eq_2 ..) (Ev.pos h1 ?_)⟩
    clear e_ hx
    unfold outStep at h
    have w1 : wrap64 ((ks.length : Int) - 1) = (ks.length : Int) - 1 := w64 (by omega) (by omega)
    have w2 : wrap64 (i + 1) = i + 1 := w64 (by omega) (by omega)
    rw [w1]
    rw [w2] at h ⊢
    by_cases c1 : i = (ks.length : Int) - 1
    · rw [if_pos c1] at h
      refine Ev.pos c1 (Ev.pos h0 ?_)
      by_cases c2 : (rd_T49 ks i).f3 = true
      · rw [if_pos c2] at h
        refine Ev.pos c2 ?_
        by_cases c3 : (rd_T49 ks i).f1 > v
        · rw [if_pos c3] at h
          exact Ev.pos c3 (Ev.pos (by omega) h)
        · rw [if_neg c3] at h
          exact Ev.neg c3 h
      · rw [if_neg c2] at h
        exact Ev.neg c2 (Ev.pos (by omega) h)
    · rw [if_neg c1] at h
      refine Ev.neg c1 (Ev.pos (by omega) (Ev.pos (by omega) (Ev.pos h0 ?_)))
      by_cases c2 : (rd_T49 ks i).f3 = true
      · rw [if_pos c2] at h
        refine Ev.pos c2 ?_
        by_cases c3 : (rd_T49 ks i).f1 > v
        · rw [if_pos c3] at h
          exact Ev.pos c3 (Ev.pos (by omega) h)
        · rw [if_neg c3] at h
          refine Ev.neg c3 ?_
          by_cases c4 : ¬ (rd_T49 ks (i + 1)).f0.toList = (rd_T49 ks i).f0.toList
          · rw [if_pos c4] at h
            exact Ev.pos c4 h
          · rw [if_neg c4] at h
            exact Ev.neg c4 (Ev.pos (by omega) h)
      · rw [if_neg c2] at h
        exact Ev.neg c2 (Ev.pos (by omega) h)
  · rw [show ((ks.length : Int)).toNat = ks.length by omega] at hx
    rw [← hx]
    exact Ev.step (fun k => spec_l5Compact.l2.eq_2 ..) (Ev.neg (by omega) (Ev.now _))
def compactR (l : List S49) (v : Int) : List S49 := outTo (keptTo l v l.length) v (keptTo l v l.length).length
theorem compactR_len (l : List S49) (v : Int) : (compactR l v).length ≤ l.length := Nat.le_trans (outTo_len _ _ _) (keptTo_len _ _ _)
theorem impl_compacted_ev (l : List S49) (v : Int) (hl : l.length ≤ 1000000000) : Ev (fun k => impl_compacted.f k l v) (compactR l v) := by
  have hout := impl_out_ev (keptTo l v l.length) v (Nat.le_trans (keptTo_len _ _ _) hl)
  unfold impl_compacted.f compactR
  refine Ev.upto1 (fun k (x : List S49) i => impl_compacted.l0 k l v x l (l.length : Int) i) l.length (by omega) (fun i x => x = keptTo l v i.toNat) _ (fun i x h0 h1 hx => .inl ?_) (fun x hx => ?_) 0 [] (by omega) (by omega) rfl
  · obtain ⟨m, rfl⟩ : ∃ m : Nat, i = m := ⟨i.toNat, by omega⟩
    rw [show ((m : Int)).toNat = m by omega] at hx
    have hn := keptTo_len l v m
    rw [← hx] at hn
    have w1 : wrap64 ((m : Int) - 1) = (m : Int) - 1 := w64 (by omega) (by omega)
    by_cases hm : m = 0
    · refine ⟨x ++ [rd_T49 l (m : Int)], by rw [show ((m : Int) + 1).toNat = m + 1 by omega, kept_new (fun hh => hh.1 hm), hx], fun h => Ev.step (fun k => impl_compacted.l0.eq_2 ..) (Ev.pos h1 (Ev.pos h0 (Ev.pos h1 (Ev.pos (by omega) (Ev.pos (by omega) h)))))⟩
    · by_cases hk : (rd_T49 l ((m : Int) - 1)).f0.toList = (rd_T49 l (m : Int)).f0.toList
      · by_cases hv : (rd_T49 l ((m : Int) - 1)).f1 > v
        · refine ⟨x ++ [rd_T49 l (m : Int)], by rw [show ((m : Int) + 1).toNat = m + 1 by omega, kept_new (fun hh => by have h2 := hh.2; unfold hides at h2; rw [Bool.and_eq_true, decide_eq_true_iff] at h2; omega), hx], fun h => Ev.step (fun k => impl_compacted.l0.eq_2 ..) (Ev.pos h1 (Ev.pos h0 (Ev.pos h1 (Ev.neg (by omega) ?_))))⟩
          rw [w1]
          exact Ev.pos (by omega) (Ev.pos (by omega) (Ev.pos hk (Ev.pos hv (Ev.pos (by omega) h))))
        · refine ⟨x, by rw [show ((m : Int) + 1).toNat = m + 1 by omega, kept_hid ⟨hm, by unfold hides; rw [Bool.and_eq_true, beq_iff_eq, decide_eq_true_iff]; exact ⟨hk, by omega⟩⟩, hx], fun h => Ev.step (fun k => impl_compacted.l0.eq_2 ..) (Ev.pos h1 (Ev.pos h0 (Ev.pos h1 (Ev.neg (by omega) ?_))))⟩
          rw [w1]
          exact Ev.pos (by omega) (Ev.pos (by omega) (Ev.pos hk (Ev.neg hv h)))
      · refine ⟨x ++ [rd_T49 l (m : Int)], by rw [show ((m : Int) + 1).toNat = m + 1 by omega, kept_new (fun hh => by have h2 := hh.2; unfold hides at h2; rw [Bool.and_eq_true, beq_iff_eq] at h2; exact hk h2.1), hx], fun h => Ev.step (fun k => impl_compacted.l0.eq_2 ..) (Ev.pos h1 (Ev.pos h0 (Ev.pos h1 (Ev.neg (by omega) ?_))))⟩
        rw [w1]
        exact Ev.pos (by omega) (Ev.pos (by omega) (Ev.neg hk (Ev.pos (by omega) h)))
  · rw [show ((l.length : Int)).toNat = l.length by omega] at hx
    subst hx
    exact Ev.step (fun k => impl_compacted.l0.eq_2 ..) (Ev.neg (by omega) hout)
theorem spec_compact_ev (l : List S49) (v : Int) (hl : l.length ≤ 1000000000) (ht : tableFault l = 0) : Ev (fun k => spec_l5Compact.f k l v) (compactR l v) := by
  have hout := spec_out_ev (keptTo l v l.length) v (Nat.le_trans (keptTo_len _ _ _) hl)
  unfold spec_l5Compact.f compactR
  refine Ev.upto1 (fun k (x : List S49) i => spec_l5Compact.l0 k l v x i) l.length (by omega) (fun i x => x = keptTo l v i.toNat) _ (fun i x h0 h1 hx => .inl ?_) (fun x hx => ?_) 0 [] (by omega) (by omega) rfl
  · obtain ⟨m, rfl⟩ : ∃ m : Nat, i = m := ⟨i.toNat, by omega⟩
    rw [show ((m : Int)).toNat = m by omega] at hx
    have hn := keptTo_len l v m
    rw [← hx] at hn
    have hany : (l.take m).any (fun y => hides v y (rd_T49 l (m : Int))) = true ↔ (m ≠ 0 ∧ hides v (rd_T49 l ((m : Int) - 1)) (rd_T49 l (m : Int)) = true) := by
      by_cases hm : m = 0
      · subst hm
        simp
      · have := hid_eq l v ht (m : Int) (by omega) h1
        rw [show ((m : Int)).toNat = m by omega] at this
        rw [this]
        exact ⟨fun h => ⟨hm, h⟩, fun h => h.2⟩
    refine ⟨keptTo l v (m + 1), by rw [show ((m : Int) + 1).toNat = m + 1 by omega], fun h => Ev.step (fun k => spec_l5Compact.l0.eq_2 ..) (Ev.pos h1 ?_)⟩
    have hlen : (l.take m).length = m := by rw [List.length_take]; omega
    refine Ev.upto1 (fun k (b : Bool) j => spec_l5Compact.l1 k l v x (m : Int) b j) (m : Int) (by omega) (fun j b => (b || ((l.take m).drop j.toNat).any (fun y => hides v y (rd_T49 l (m : Int)))) = (l.take m).any (fun y => hides v y (rd_T49 l (m : Int)))) _ (fun j b j0 j1 hp => .inl ?_) (fun b hp => ?_) 0 false (by omega) (by omega) (by simp)
    · cases b with
      | true =>
        refine ⟨true, ?_, fun hh => Ev.step (fun k => spec_l5Compact.l1.eq_2 ..) (Ev.pos j1 (Ev.pos rfl hh))⟩
        rw [Bool.true_or] at hp ⊢
        exact hp
      | false =>
        have hr := rdRow_at l j j0 (by omega)
        have e : (l.take m)[j.toNat]'(by omega) = l[j.toNat]'(by omega) := by simp
        rw [drop_cons_at (l.take m) j.toNat (by omega), List.any_cons, e, ← hr, Bool.false_or] at hp
        refine ⟨hides v (rd_T49 l j) (rd_T49 l (m : Int)), by rw [show (j + 1).toNat = j.toNat + 1 by omega]; exact hp, fun hh => Ev.step (fun k => spec_l5Compact.l1.eq_2 ..) (Ev.pos j1 (Ev.neg (by simp) (Ev.pos j0 (Ev.pos (by omega) (Ev.pos h0 (Ev.pos h1 ?_))))))⟩
        unfold hides at hh
        by_cases hk : (rd_T49 l j).f0.toList = (rd_T49 l (m : Int)).f0.toList
        · have e2 : ((rd_T49 l j).f0.toList == (rd_T49 l (m : Int)).f0.toList) = true := beq_iff_eq.mpr hk
          rw [e2, Bool.true_and] at hh
          exact Ev.pos hk hh
        · have e2 : ((rd_T49 l j).f0.toList == (rd_T49 l (m : Int)).f0.toList) = false := beq_eq_false_iff_ne.mpr hk
          rw [e2, Bool.false_and] at hh
          exact Ev.neg hk hh
    · rw [List.drop_eq_nil_of_le (by omega)] at hp
      simp only [List.any_nil, Bool.or_false] at hp
      refine Ev.step (fun k => spec_l5Compact.l1.eq_2 ..) (Ev.neg (by omega) ?_)
      by_cases hb : b = true
      · rw [kept_hid (hany.1 (hp.symm.trans hb)), ← hx] at h
        exact Ev.pos hb h
      · rw [kept_new (fun hh => hb (hp.trans (hany.2 hh))), ← hx] at h
        exact Ev.neg hb (Ev.pos h0 (Ev.pos h1 (Ev.pos (by omega) h)))
  · rw [show ((l.length : Int)).toNat = l.length by omega] at hx
    subst hx
    exact Ev.step (fun k => spec_l5Compact.l0.eq_2 ..) (Ev.neg (by omega) hout)
def compactTR (l : List S49) (v : Int) : Int × List S49 := if tableFault l = 0 then (0, compactR l v) else (tableFault l, [])
theorem compactTR_len (l : List S49) (v : Int) (hl : l.length ≤ 1000000000) : (compactTR l v).2.length ≤ 1000000000 := by
  have := compactR_len l v
  unfold compactTR
  split
  · show (compactR l v).length ≤ _
    omega
  · simp
theorem impl_CompactTable_ev (l : List S49) (v : Int) (hl : l.length ≤ 1000000000) : Ev (fun k => impl_CompactTable.f k l v) (compactTR l v) := by
  unfold impl_CompactTable.f compactTR
  exact Ev.bind (impl_TableFault_ev l) (Ev.cond (fun _ => Ev.bind (impl_compacted_ev l v hl) (Ev.now _)) (fun _ => Ev.now _))
theorem spec_CompactTable_ev (l : List S49) (v : Int) (hl : l.length ≤ 1000000000) : Ev (fun k => spec_CompactTable.f k l v) (compactTR l v) := by
  unfold spec_CompactTable.f compactTR
  exact Ev.bind (spec_TableFault_ev l) (Ev.cond (fun ht => Ev.bind (spec_compact_ev l v hl ht) (Ev.now _)) (fun _ => Ev.now _))
/-- A table without fault: every row is right, and they stand in their order. -/
theorem table_rows (l : List S49) : ∀ d : Nat, d ≤ l.length → tableFrom l d = 0 → ∀ i : Int, (l.length : Int) - d ≤ i → 0 ≤ i → i < (l.length : Int) → rowFault (rd_T49 l i).f0 (rd_T49 l i).f1 (rd_T49 l i).f2 (rd_T49 l i).f3 = 0 := by
  intro d
  induction d with
  | zero => intro _ _ i h0 _ h1; omega
  | succ d ih =>
    intro hd h i h0 hp h1
    unfold tableFrom at h
    simp only at h
    by_cases hr : rowFault (rd_T49 l ((l.length : Int) - ((d : Int) + 1))).f0 (rd_T49 l ((l.length : Int) - ((d : Int) + 1))).f1 (rd_T49 l ((l.length : Int) - ((d : Int) + 1))).f2 (rd_T49 l ((l.length : Int) - ((d : Int) + 1))).f3 = 0
    · rw [if_pos hr] at h
      by_cases hi : i = (l.length : Int) - ((d : Int) + 1)
      · rw [hi]
        exact hr
      · refine ih (by omega) ?_ i (by omega) hp h1
        by_cases hz : (l.length : Int) - ((d : Int) + 1) > 0
        · rw [if_pos hz] at h
          by_cases ha : aheadR (rd_T49 l ((l.length : Int) - ((d : Int) + 1) - 1)) (rd_T49 l ((l.length : Int) - ((d : Int) + 1))) = true
          · rw [if_pos ha] at h
            exact h
          · rw [if_neg ha] at h
            cases h
        · rw [if_neg hz] at h
          exact h
    · rw [if_neg hr] at h
      exact absurd h hr
def rightR (l : List S49) : Prop := l.length ≤ 200 ∧ (∀ x ∈ l, rowFault x.f0 x.f1 x.f2 x.f3 = 0) ∧ l.Pairwise (fun a b => aheadR a b = true)
theorem table_right (l : List S49) (h : tableFault l = 0) : rightR l := by
  have h2 := h
  unfold tableFault at h2
  by_cases hl : (l.length : Int) > 200
  · rw [if_pos hl] at h2
    cases h2
  rw [if_neg hl] at h2
  refine ⟨by omega, fun x hx => ?_, ?_⟩
  · obtain ⟨i, hi, rfl⟩ := List.getElem_of_mem hx
    have := table_rows l l.length (Nat.le_refl _) h2 (i : Int) (by omega) (by omega) (by omega)
    rw [rdRow_at l (i : Int) (by omega) (by omega)] at this
    exact this
  · refine List.pairwise_iff_getElem.2 (fun i j hi hj hij => ?_)
    have := table_ahead l h (j - (i + 1)) (i : Int) (by omega) (by omega)
    rw [show (i : Int) + 1 + ((j - (i + 1) : Nat) : Int) = (j : Int) by omega, rdRow_at l (i : Int) (by omega) (by omega), rdRow_at l (j : Int) (by omega) (by omega)] at this
    exact this
theorem right_table (l : List S49) (h : rightR l) : tableFault l = 0 := by
  obtain ⟨hl, hr, hp⟩ := h
  unfold tableFault
  rw [if_neg (by omega)]
  have go : ∀ d : Nat, d ≤ l.length → tableFrom l d = 0 := by
    intro d
    induction d with
    | zero => intro _; rfl
    | succ d ih =>
      intro hd
      have hx := hr _ (List.getElem_mem (show l.length - (d + 1) < l.length by omega))
      have e : rd_T49 l ((l.length : Int) - ((d : Int) + 1)) = l[l.length - (d + 1)]'(by omega) := by
        rw [show (l.length : Int) - ((d : Int) + 1) = ((l.length - (d + 1) : Nat) : Int) by omega]
        exact rdRow_at l _ (by omega) (by omega)
      unfold tableFrom
      simp only
      rw [e, if_pos hx]
      by_cases hz : (l.length : Int) - ((d : Int) + 1) > 0
      · have e2 : rd_T49 l ((l.length : Int) - ((d : Int) + 1) - 1) = l[l.length - (d + 2)]'(by omega) := by
          rw [show (l.length : Int) - ((d : Int) + 1) - 1 = ((l.length - (d + 2) : Nat) : Int) by omega]
          exact rdRow_at l _ (by omega) (by omega)
        rw [if_pos hz, e2, if_pos (List.pairwise_iff_getElem.1 hp _ _ (by omega) (by omega) (by omega))]
        exact ih (by omega)
      · rw [if_neg hz]
        exact ih (by omega)
  exact go l.length (Nat.le_refl _)
theorem right_sub {l m : List S49} (h : rightR l) (hs : m.Sublist l) : rightR m :=
  ⟨Nat.le_trans hs.length_le h.1, fun x hx => h.2.1 x (hs.subset hx), h.2.2.sublist hs⟩
theorem take_at (l : List S49) (i : Nat) (h : i < l.length) : l.take (i + 1) = l.take i ++ [rd_T49 l (i : Int)] := by
  rw [List.take_add_one, List.getElem?_eq_getElem h, rdRow_at l (i : Int) (by omega) (by omega)]
  rfl
theorem kept_sub (l : List S49) (v : Int) : ∀ i : Nat, i ≤ l.length → (keptTo l v i).Sublist (l.take i) := by
  intro i
  induction i with
  | zero => intro _; exact List.nil_sublist _
  | succ i ih =>
    intro hi
    have ih := ih (by omega)
    rw [take_at l i (by omega)]
    by_cases h : i ≠ 0 ∧ hides v (rd_T49 l ((i : Int) - 1)) (rd_T49 l (i : Int)) = true
    · rw [kept_hid h]
      exact ih.trans (List.sublist_append_left _ _)
    · rw [kept_new h]
      exact List.Sublist.append ih (List.Sublist.refl _)
theorem outStep_cases (ks : List S49) (v : Int) (out : List S49) (i : Int) :
    outStep ks v out i = out ++ [rd_T49 ks i] ∨ (outStep ks v out i = out ∧ (rd_T49 ks i).f3 = true ∧ (i = (ks.length : Int) - 1 ∨ ¬ (rd_T49 ks (i + 1)).f0.toList = (rd_T49 ks i).f0.toList)) := by
  unfold outStep
  by_cases c1 : i = (ks.length : Int) - 1
  · rw [if_pos c1]
    by_cases c2 : (rd_T49 ks i).f3 = true
    · rw [if_pos c2]
      by_cases c3 : (rd_T49 ks i).f1 > v
      · rw [if_pos c3]; exact .inl rfl
      · rw [if_neg c3]; exact .inr ⟨rfl, c2, .inl c1⟩
    · rw [if_neg c2]; exact .inl rfl
  · rw [if_neg c1]
    by_cases c2 : (rd_T49 ks i).f3 = true
    · rw [if_pos c2]
      by_cases c3 : (rd_T49 ks i).f1 > v
      · rw [if_pos c3]; exact .inl rfl
      · rw [if_neg c3]
        by_cases c4 : ¬ (rd_T49 ks (i + 1)).f0.toList = (rd_T49 ks i).f0.toList
        · rw [if_pos c4]; exact .inr ⟨rfl, c2, .inr c4⟩
        · rw [if_neg c4]; exact .inl rfl
    · rw [if_neg c2]; exact .inl rfl
theorem out_sub (ks : List S49) (v : Int) : ∀ i : Nat, i ≤ ks.length → (outTo ks v i).Sublist (ks.take i) := by
  intro i
  induction i with
  | zero => intro _; exact List.nil_sublist _
  | succ i ih =>
    intro hi
    have ih := ih (by omega)
    rw [take_at ks i (by omega)]
    show (outStep ks v (outTo ks v i) (i : Int)).Sublist _
    rcases outStep_cases ks v (outTo ks v i) (i : Int) with h | ⟨h, _, _⟩
    · rw [h]
      exact List.Sublist.append ih (List.Sublist.refl _)
    · rw [h]
      exact ih.trans (List.sublist_append_left _ _)
theorem kept_all (l : List S49) (v : Int) : (keptTo l v l.length).Sublist l := by
  have := kept_sub l v l.length (Nat.le_refl _)
  rw [List.take_length] at this
  exact this
theorem compact_sub (l : List S49) (v : Int) : (compactR l v).Sublist l := by
  have := out_sub (keptTo l v l.length) v _ (Nat.le_refl _)
  rw [List.take_length] at this
  exact this.trans (kept_all l v)
/-- What is hidden is not what a reading finds. -/
theorem kept_find (l : List S49) (v w : Int) (hw : v ≤ w) (key : ByteArray) : ∀ i : Nat, i ≤ l.length → (keptTo l v i).find? (isGet key w) = (l.take i).find? (isGet key w) := by
  intro i
  induction i with
  | zero => intro _; rw [List.take_zero]; rfl
  | succ i ih =>
    intro hi
    have ih := ih (by omega)
    rw [take_at l i (by omega), List.find?_append, ← ih]
    by_cases h : i ≠ 0 ∧ hides v (rd_T49 l ((i : Int) - 1)) (rd_T49 l (i : Int)) = true
    · rw [kept_hid h]
      obtain ⟨hz, hh⟩ := h
      by_cases hp : isGet key w (rd_T49 l (i : Int)) = true
      · have hp2 : isGet key w (rd_T49 l ((i : Int) - 1)) = true := by
          unfold isGet at hp ⊢
          unfold hides at hh
          rw [Bool.and_eq_true, beq_iff_eq, decide_eq_true_iff] at hp hh ⊢
          exact ⟨hh.1.trans hp.1, by omega⟩
        have hm : rd_T49 l ((i : Int) - 1) ∈ l.take i := by
          rw [rdRow_at l _ (by omega) (by omega)]
          exact List.mem_take_iff_getElem.2 ⟨((i : Int) - 1).toNat, by omega, rfl⟩
        have hs : ((l.take i).find? (isGet key w)).isSome = true := List.find?_isSome.2 ⟨_, hm, hp2⟩
        rw [ih]
        cases hf : (l.take i).find? (isGet key w) with
        | none => rw [hf] at hs; cases hs
        | some y => rfl
      · rw [List.find?_cons, Bool.eq_false_iff.2 hp]
        cases (keptTo l v i).find? (isGet key w) <;> rfl
    · rw [kept_new h, List.find?_append]
theorem out_find (ks : List S49) (hr : rightR ks) (v w : Int) (key : ByteArray) : ∀ i : Nat, i ≤ ks.length →
    (outTo ks v i).find? (isGet key w) = (ks.take i).find? (isGet key w) ∨ ((outTo ks v i).find? (isGet key w) = none ∧ (∃ x, (ks.take i).find? (isGet key w) = some x ∧ x.f3 = true) ∧ ∀ j : Nat, i ≤ j → (h : j < ks.length) → ¬ isGet key w ks[j] = true) := by
  intro i
  induction i with
  | zero => intro _; exact .inl (by rw [List.take_zero]; rfl)
  | succ i ih =>
    intro hi
    have hx : rd_T49 ks (i : Int) = ks[i]'(by omega) := rdRow_at ks (i : Int) (by omega) (by omega)
    rw [take_at ks i (by omega), List.find?_append]
    have hcs := outStep_cases ks v (outTo ks v i) (i : Int)
    rw [show outTo ks v (i + 1) = outStep ks v (outTo ks v i) (i : Int) from rfl]
    rcases ih (by omega) with ih | ⟨i1, ⟨x, i2, i3⟩, i4⟩
    · rcases hcs with h | ⟨h, hg, hl⟩
      · rw [h, List.find?_append, ih]
        exact .inl rfl
      · rw [h]
        cases hf : (ks.take i).find? (isGet key w) with
        | some y => exact .inl (by rw [ih, hf]; rfl)
        | none =>
          by_cases hp : isGet key w (rd_T49 ks (i : Int)) = true
          · refine .inr ⟨ih.trans hf, ⟨_, by rw [List.find?_cons, hp]; rfl, hg⟩, fun j hj hjl hpj => ?_⟩
            rcases hl with hl | hl
            · omega
            · by_cases hlast : i + 1 < ks.length
              · rw [hx, show (i : Int) + 1 = ((i + 1 : Nat) : Int) by omega, rdRow_at ks _ (by omega) (by omega)] at hl
                rw [hx] at hp
                have hk : ks[j].f0.toList = ks[i].f0.toList := by
                  unfold isGet at hp hpj
                  rw [Bool.and_eq_true, beq_iff_eq] at hp hpj
                  exact hpj.1.trans hp.1.symm
                have hl : ¬ ks[i + 1].f0.toList = ks[i].f0.toList := hl
                have hne : j ≠ i + 1 := fun e => by subst e; exact hl hk
                have a1 := List.pairwise_iff_getElem.1 hr.2.2 i (i + 1) (by omega) (by omega) (by omega)
                have a2 := List.pairwise_iff_getElem.1 hr.2.2 (i + 1) j (by omega) (by omega) (by omega)
                unfold aheadR at a1 a2
                rw [if_neg (fun e => hl e.symm)] at a1
                rw [if_neg (fun e => hl (e.trans hk)), hk] at a2
                have := less_trans _ _ _ a1 a2
                rw [less_irrefl] at this
                cases this
              · omega
          · refine .inl ?_
            rw [ih, hf, List.find?_cons, Bool.eq_false_iff.2 hp]
            rfl
    · have hn := i4 i (Nat.le_refl _) (by omega)
      rw [← hx] at hn
      refine .inr ⟨?_, ⟨x, by rw [i2]; rfl, i3⟩, fun j hj hjl => i4 j (by omega) hjl⟩
      rcases hcs with h | ⟨h, _, _⟩
      · rw [h, List.find?_append, i1, List.find?_cons, Bool.eq_false_iff.2 hn]
        rfl
      · rw [h]
        exact i1
theorem compact_right (l : List S49) (v : Int) (h : tableFault l = 0) : tableFault (compactR l v) = 0 := right_table _ (right_sub (table_right l h) (compact_sub l v))
/-- A reading from the floor on tells the same of what was made compact. -/
theorem compact_get (l : List S49) (v w : Int) (hw : v ≤ w) (h : tableFault l = 0) (key : ByteArray) : getR (compactR l v) key w = getR l key w := by
  have hk := kept_find l v w hw key l.length (Nat.le_refl _)
  rw [List.take_length] at hk
  have ho := out_find (keptTo l v l.length) (right_sub (table_right l h) (kept_all l v)) v w key _ (Nat.le_refl _)
  rw [List.take_length, hk] at ho
  unfold getR
  rw [if_pos h, if_pos (compact_right l v h)]
  unfold findR compactR
  rcases ho with ho | ⟨h1, ⟨x, h2, h3⟩, _⟩
  · rw [ho]
  · rw [h1, h2]
    simp only [h3, if_true]

theorem rd_drop (l : List Int) (n : Nat) (j : Int) (h : 0 ≤ j) : rd (l.drop n) j = rd l ((n : Int) + j) := by
  unfold rd
  rw [List.getD_eq_getElem?_getD, List.getD_eq_getElem?_getD, List.getElem?_drop, show ((n : Int) + j).toNat = n + j.toNat by omega]
theorem rd_bound (l : List Int) (hb : ∀ x ∈ l, 0 ≤ x ∧ x < 256) (i : Int) : 0 ≤ rd l i ∧ rd l i < 256 := by
  unfold rd
  rw [List.getD_eq_getElem?_getD]
  cases h : l[i.toNat]? with
  | none => simp
  | some v => exact hb v (List.mem_of_getElem? h)

/-- Bytes. -/
def bytesL (l : List Int) : Prop := ∀ x ∈ l, 0 ≤ x ∧ x < 256
theorem next_ok (c : List Int) (hb : bytesL c) (hl : c.length ≤ 2000000) (s : Int) (h0 : 0 ≤ s) (h1 : s ≤ 100000000000000) (n : Int) :
    ∃ r, spec_l1Next.f c s n = some (r, s + 1) ∧ 0 ≤ r ∧ (1 ≤ n → r < n) ∧ (n < 1 → r = 0) := by
  have e1 : wrap64 (s + 1) = s + 1 := w64 (by omega) (by omega)
  have e2 : wrap64 (s + 1 - 1) = s := by rw [show s + 1 - 1 = s by omega]; exact w64 (by omega) (by omega)
  unfold spec_l1Next.f
  simp only [e1, e2]
  by_cases hn1 : n < 1
  · rw [if_pos hn1]
    exact ⟨0, rfl, by omega, fun h => by omega, fun _ => rfl⟩
  rw [if_neg hn1]
  have fin : ∀ v : Int, 0 ≤ v → ∃ r, (if n = 0 then none else some (Int.tmod v n, s + 1)) = some (r, s + 1) ∧ 0 ≤ r ∧ (1 ≤ n → r < n) ∧ (n < 1 → r = 0) := fun v hv =>
    ⟨Int.tmod v n, if_neg (by omega), Int.tmod_nonneg n hv, fun _ => Int.tmod_lt_of_pos v (by omega), fun h => absurd h hn1⟩
  by_cases hk : (c.length : Int) = 0
  · rw [if_pos hk, w64 (x := s * 7) (by omega) (by omega)]
    exact fin _ (by omega)
  · rw [if_neg hk]
    have m0 := Int.tmod_nonneg (c.length : Int) h0
    have m1 := Int.tmod_lt_of_pos s (show 0 < (c.length : Int) by omega)
    have p0 := Int.tmod_nonneg (c.length : Int) (show 0 ≤ s + 1 by omega)
    have p1 := Int.tmod_lt_of_pos (s + 1) (show 0 < (c.length : Int) by omega)
    have d0 : 0 ≤ Int.tdiv s (c.length : Int) := Int.tdiv_nonneg h0 (by omega)
    have d1 : Int.tdiv s (c.length : Int) ≤ s := by
      rw [Int.tdiv_eq_ediv_of_nonneg h0]
      exact Int.ediv_le_self _ h0
    rw [if_pos m0, if_pos m1]
    have b0 := rd_bound c hb (Int.tmod s (c.length : Int))
    have b1 := rd_bound c hb (Int.tmod (s + 1) (c.length : Int))
    generalize rd c (Int.tmod s (c.length : Int)) = u at b0 ⊢
    generalize rd c (Int.tmod (s + 1) (c.length : Int)) = v at b1 ⊢
    generalize Int.tdiv s (c.length : Int) = q at d0 d1 ⊢
    have w1 : wrap64 u = u := w64 (by omega) (by omega)
    have w2 : wrap64 v = v := w64 (by omega) (by omega)
    have w3 : wrap64 q = q := w64 (by omega) (by omega)
    have w4 : wrap64 (q * 37) = q * 37 := w64 (by omega) (by omega)
    have w5 : wrap64 (u + q * 37) = u + q * 37 := w64 (by omega) (by omega)
    have w6 : wrap64 ((u + q * 37) * 251) = (u + q * 37) * 251 := w64 (by omega) (by omega)
    have w7 : wrap64 (v * 13) = v * 13 := w64 (by omega) (by omega)
    have w8 : wrap64 ((u + q * 37) * 251 + v * 13) = (u + q * 37) * 251 + v * 13 := w64 (by omega) (by omega)
    have w9 : wrap64 ((u + q * 37) * 251 + v * 13 + s) = (u + q * 37) * 251 + v * 13 + s := w64 (by omega) (by omega)
    simp only [w1, w2, w3, w4, w5, w6, w7, w8, w9]
    by_cases h200 : n > 200
    · rw [if_pos h200, if_pos p0, if_pos p1]
      exact fin _ (by omega)
    · rw [if_neg h200]
      exact fin _ (by omega)
theorem pick_ok (c : List Int) (hb : bytesL c) (hl : c.length ≤ 2000000) (s : Int) (h0 : 0 ≤ s) (h1 : s ≤ 100000000000000) (l : List Int) (hn : 1 ≤ l.length) : ∃ v, v ∈ l ∧ spec_l1Pick.f c s l = some (v, s + 1) := by
  obtain ⟨r, hr, p0, p1, _⟩ := next_ok c hb hl s h0 h1 (l.length : Int)
  have p1 := p1 (by omega)
  refine ⟨rd l r, ?_, ?_⟩
  · rw [rd_get l r p0 p1]
    exact List.getElem_mem _
  · unfold spec_l1Pick.f
    rw [hr]
    simp only [Option.bind_some]
    rw [if_pos p0, if_pos p1]
theorem chance_ok (c : List Int) (hb : bytesL c) (hl : c.length ≤ 2000000) (s : Int) (h0 : 0 ≤ s) (h1 : s ≤ 100000000000000) (n : Int) : ∃ b, spec_l1Chance.f c s n = some (b, s + 1) := by
  obtain ⟨r, hr, _⟩ := next_ok c hb hl s h0 h1 n
  unfold spec_l1Chance.f
  rw [hr]
  exact ⟨_, rfl⟩
theorem bytesL_mod (l : List Int) (h : bytesL l) (v : Int) : bytesL (l ++ [v % 256]) := fun x hx => by
  rcases List.mem_append.1 hx with h1 | h1
  · exact h x h1
  · have := List.mem_singleton.1 h1; omega
theorem put_ev (l : List S49) (x : S49) (hl : l.length ≤ 1000) : ∃ t, t.length ≤ l.length + 1 ∧ Ev (fun k => spec_l5Put.f k l x.f0 x.f1 x.f2 x.f3) t := by
  unfold spec_l5Put.f
  have hlen : ∀ i : Int, ((([] : List S49) ++ l.take i.toNat ++ ([⟨x.f0, x.f1, x.f2, x.f3⟩] : List S49)) ++ l.drop i.toNat).length ≤ l.length + 1 := fun i => by
    simp only [List.nil_append, List.length_append, List.length_take, List.length_drop, List.length_cons, List.length_nil]; omega
  refine Ev.upto (fun k (_ : Unit) i => spec_l5Put.l0 k l i x.f0 x.f1 x.f2 x.f3) l.length (by omega) (fun _ _ => True) (fun t => t.length ≤ l.length + 1) (fun i _ h0 h1 _ => ?_) (fun _ _ => ?_) 0 () (by omega) (by omega) trivial
  · have e1 := spec_l5Ahead_eq (rd_T49 l i) x
    have e2 := spec_l5Ahead_eq x (rd_T49 l i)
    have ht : (l.take i.toNat).length ≤ l.length := by rw [List.length_take]; exact Nat.min_le_right _ _
    have hd : (l.drop i.toNat).length ≤ l.length := by rw [List.length_drop]; omega
    by_cases a : aheadR (rd_T49 l i) x = true
    · exact .inl ⟨(), trivial, fun r h => Ev.step (fun k => spec_l5Put.l0.eq_2 ..) (Ev.pos h1 (Ev.pos h0 (Ev.bind (Ev.is e1) (Ev.pos a h))))⟩
    · by_cases b : aheadR x (rd_T49 l i) = true
      · refine .inr ⟨_, hlen i, Ev.step (fun k => spec_l5Put.l0.eq_2 ..) (Ev.pos h1 (Ev.pos h0 (Ev.bind (Ev.is e1) (Ev.neg a (Ev.bind (Ev.is e2) (Ev.pos b (Ev.let (Ev.pos (by omega) (Ev.let (Ev.pos ?_ (Ev.let (Ev.let (Ev.pos ?_ (Ev.let (Ev.let (Ev.pos ?_ (Ev.now _)))))))))))))))))⟩
        · simp only [List.length_nil]; omega
        · simp only [List.nil_append, List.length_cons, List.length_nil]; omega
        · simp only [List.nil_append, List.length_append, List.length_cons, List.length_nil]; omega
      · exact .inr ⟨l, by omega, Ev.step (fun k => spec_l5Put.l0.eq_2 ..) (Ev.pos h1 (Ev.pos h0 (Ev.bind (Ev.is e1) (Ev.neg a (Ev.bind (Ev.is e2) (Ev.neg b (Ev.now _)))))))⟩
  · have ht : (l.take ((l.length : Int)).toNat).length ≤ l.length := by rw [List.length_take]; exact Nat.min_le_right _ _
    have hd : (l.drop ((l.length : Int)).toNat).length ≤ l.length := by rw [List.length_drop]; omega
    refine ⟨_, hlen (l.length : Int), Ev.step (fun k => spec_l5Put.l0.eq_2 ..) (Ev.neg (by omega) (Ev.let (Ev.pos (by omega) (Ev.pos (by omega) (Ev.let (Ev.pos ?_ (Ev.let (Ev.let (Ev.pos ?_ (Ev.let (Ev.let (Ev.pos ?_ (Ev.now _)))))))))))))⟩
    · simp only [List.length_nil]; omega
    · simp only [List.nil_append, List.length_cons, List.length_nil]; omega
    · simp only [List.nil_append, List.length_append, List.length_cons, List.length_nil]; omega
theorem key_ok (c : List Int) (hb : bytesL c) (hl : c.length ≤ 2000000) (s : Int) (h0 : 0 ≤ s) (h1 : s ≤ 10000000000000) : ∃ a, spec_l5Key.f c s = some (a, s + 1) := by
  obtain ⟨r, hr, p0, p1, _⟩ := next_ok c hb hl s h0 (by omega) 5
  have p1 := p1 (by decide)
  unfold spec_l5Key.f
  simp only [Option.bind_some, hr, List.length_cons, List.length_nil]
  rw [if_pos p0, if_pos (by omega)]
  exact ⟨_, rfl⟩
theorem row_ok (c : List Int) (hb : bytesL c) (hl : c.length ≤ 2000000) (s : Int) (h0 : 0 ≤ s) (h1 : s ≤ 10000000000000) : ∃ a b v d, spec_l5Row.f c s = some (a, b, v, d, s + 4) := by
  obtain ⟨a, ha⟩ := key_ok c hb hl s h0 h1
  obtain ⟨r, hr, _, _, _⟩ := next_ok c hb hl (s + 1) (by omega) (by omega) 9
  obtain ⟨q, hq, p0, p1, _⟩ := next_ok c hb hl (s + 1 + 1) (by omega) (by omega) 4
  have p1 := p1 (by decide)
  obtain ⟨b, hbb⟩ := chance_ok c hb hl (s + 1 + 1 + 1) (by omega) (by omega) 4
  have e : s + 1 + 1 + 1 + 1 = s + 4 := by omega
  unfold spec_l5Row.f
  simp only [Option.bind_some, ha, hr, hq, List.length_cons, List.length_nil]
  rw [if_pos p0, if_pos (by omega)]
  simp only [Option.bind_some, hbb]
  rw [e]
  cases b
  · exact ⟨_, _, _, _, rfl⟩
  · exact ⟨_, _, _, _, rfl⟩
theorem bent_loop (c : List Int) (hb : bytesL c) (hl : c.length ≤ 2000000) (a : ByteArray) (b : Int) (d : Bool) : ∀ (n : Nat) (v : ByteArray) (s : Int), 101 ≤ v.size + n → 0 ≤ s → s + n ≤ 10000000000000 → ∃ v' s', Ev (fun k => spec_l5Bent.l0 k c s a b v d) (a, b, v', d, s') ∧ s ≤ s' ∧ s' ≤ s + n + 1 := by
  intro n
  induction n with
  | zero =>
    intro v s hv h0 h1
    obtain ⟨r, hr, p0, p1, _⟩ := next_ok c hb hl s h0 (by omega) 2
    have p1 := p1 (by decide)
    refine ⟨v, s + 1, Ev.step (fun k => spec_l5Bent.l0.eq_2 ..) (Ev.bind (Ev.is hr) ?_), by omega, by omega⟩
    rw [w64 (x := 100 + r) (by omega) (by omega)]
    exact Ev.neg (by omega) (Ev.now _)
  | succ n ih =>
    intro v s hv h0 h1
    obtain ⟨r, hr, p0, p1, _⟩ := next_ok c hb hl s h0 (by omega) 2
    have p1 := p1 (by decide)
    by_cases hlt : (v.size : Int) < 100 + r
    · obtain ⟨v', s', he, q0, q1⟩ := ih (v ++ ⟨#[118]⟩) (s + 1) (by rw [ByteArray.size_append]; show 101 ≤ v.size + 1 + n; omega) (by omega) (by omega)
      refine ⟨v', s', Ev.step (fun k => spec_l5Bent.l0.eq_2 ..) (Ev.bind (Ev.is hr) ?_), by omega, by omega⟩
      rw [w64 (x := 100 + r) (by omega) (by omega)]
      exact Ev.pos hlt (Ev.pos (by omega) he)
    · refine ⟨v, s + 1, Ev.step (fun k => spec_l5Bent.l0.eq_2 ..) (Ev.bind (Ev.is hr) ?_), by omega, by omega⟩
      rw [w64 (x := 100 + r) (by omega) (by omega)]
      exact Ev.neg hlt (Ev.now _)
theorem bent_ok (c : List Int) (hb : bytesL c) (hl : c.length ≤ 2000000) (s : Int) (h0 : 0 ≤ s) (h1 : s ≤ 1000000000000) : ∃ a b v d s', Ev (fun k => spec_l5Bent.f k c s) (a, b, v, d, s') ∧ s ≤ s' ∧ s' ≤ s + 200 := by
  obtain ⟨a, b, v, d, hrow⟩ := row_ok c hb hl s h0 (by omega)
  obtain ⟨r, hr, _, _, _⟩ := next_ok c hb hl (s + 4) (by omega) (by omega) 12
  unfold spec_l5Bent.f
  by_cases r0 : r = 0
  · obtain ⟨q, hq, p0, p1, _⟩ := next_ok c hb hl (s + 4 + 1) (by omega) (by omega) 3
    have p1 := p1 (by decide)
    exact ⟨_, _, _, _, _, Ev.bind (Ev.is hrow) (Ev.bind (Ev.is hr) (Ev.pos r0 (Ev.let (Ev.bind (Ev.is hq) (Ev.pos p0 (Ev.pos (by simp only [List.length_cons, List.length_nil]; omega) (Ev.now _))))))), by omega, by omega⟩
  · by_cases r1 : r = 1
    · obtain ⟨q, _, hq⟩ := pick_ok c hb hl (s + 4 + 1) (by omega) (by omega) [0, (-1), 1000000, 1000001] (by simp)
      exact ⟨_, _, _, _, _, Ev.bind (Ev.is hrow) (Ev.bind (Ev.is hr) (Ev.neg r0 (Ev.pos r1 (Ev.bind (Ev.is hq) (Ev.now _))))), by omega, by omega⟩
    · by_cases r2 : r = 2
      · obtain ⟨v', s', he, q0, q1⟩ := bent_loop c hb hl a b d 101 v (s + 4 + 1) (by omega) (by omega) (by omega)
        exact ⟨_, _, _, _, _, Ev.bind (Ev.is hrow) (Ev.bind (Ev.is hr) (Ev.neg r0 (Ev.neg r1 (Ev.pos r2 he)))), by omega, by omega⟩
      · exact ⟨_, _, _, _, _, Ev.bind (Ev.is hrow) (Ev.bind (Ev.is hr) (Ev.neg r0 (Ev.neg r1 (Ev.neg r2 (Ev.now _))))), by omega, by omega⟩
theorem table_loop (c : List Int) (hb : bytesL c) (hl : c.length ≤ 2000000) : ∀ (n : Nat) (rows : List S49) (s : Int), rows.length + n ≤ 100 → 0 ≤ s → s + 4 * n ≤ 100000000000 → ∃ t s', Ev (fun k => spec_l5Table.l0 k rows (n : Int) c s) (t, s') ∧ t.length ≤ 201 ∧ s ≤ s' ∧ s' ≤ s + 4 * n + 300 := by
  intro n
  induction n with
  | zero =>
    intro rows s hn h0 h1
    by_cases hz : (rows.length : Int) = 0
    · exact ⟨_, _, Ev.step (fun k => spec_l5Table.l0.eq_2 ..) (Ev.neg (by omega) (Ev.pos hz (Ev.now _))), by omega, by omega, by omega⟩
    · obtain ⟨r, hr, _, _, _⟩ := next_ok c hb hl s h0 (by omega) 20
      by_cases r0 : r = 0
      · obtain ⟨q, hq, p0, p1, _⟩ := next_ok c hb hl (s + 1) (by omega) (by omega) (rows.length : Int)
        have p1 := p1 (by omega)
        obtain ⟨a, b, v, d, s', hbent, b0, b1⟩ := bent_ok c hb hl (s + 1 + 1) (by omega) (by omega)
        exact ⟨_, s', Ev.step (fun k => spec_l5Table.l0.eq_2 ..) (Ev.neg (by omega) (Ev.neg hz (Ev.bind (Ev.is hr) (Ev.pos r0 (Ev.bind (Ev.is hq) (Ev.bind hbent (Ev.pos p0 (Ev.pos p1 (Ev.now _)))))))) ), by rw [List.length_set]; omega, by omega, by omega⟩
      · by_cases r1 : r = 1
        · exact ⟨_, _, Ev.step (fun k => spec_l5Table.l0.eq_2 ..) (Ev.neg (by omega) (Ev.neg hz (Ev.bind (Ev.is hr) (Ev.neg r0 (Ev.pos r1 (Ev.pos (by omega) (Ev.pos (by omega) (Ev.now _)))))))), by rw [List.length_append, List.length_singleton]; omega, by omega, by omega⟩
        · by_cases r2 : r = 2
          · exact ⟨_, _, Ev.step (fun k => spec_l5Table.l0.eq_2 ..) (Ev.neg (by omega) (Ev.neg hz (Ev.bind (Ev.is hr) (Ev.neg r0 (Ev.neg r1 (Ev.pos r2 (Ev.pos (by decide) (Ev.now _)))))))), by rw [List.length_replicate]; omega, by omega, by omega⟩
          · exact ⟨_, _, Ev.step (fun k => spec_l5Table.l0.eq_2 ..) (Ev.neg (by omega) (Ev.neg hz (Ev.bind (Ev.is hr) (Ev.neg r0 (Ev.neg r1 (Ev.neg r2 (Ev.now _))))))), by omega, by omega, by omega⟩
  | succ n ih =>
    intro rows s hn h0 h1
    obtain ⟨a, b, v, d, hrow⟩ := row_ok c hb hl s h0 (by omega)
    obtain ⟨t, ht, hput⟩ := put_ev rows ⟨a, b, v, d⟩ (by omega)
    obtain ⟨u, s', he, q0, q1, q2⟩ := ih t (s + 4) (by omega) (by omega) (by omega)
    refine ⟨u, s', Ev.step (fun k => spec_l5Table.l0.eq_2 ..) (Ev.pos (by omega) (Ev.bind (Ev.is hrow) (Ev.bind hput ?_))), q0, by omega, by omega⟩
    rw [w64 (x := ((n + 1 : Nat) : Int) - 1) (by omega) (by omega), show ((n + 1 : Nat) : Int) - 1 = (n : Int) by omega]
    exact he
theorem table_ok (c : List Int) (hb : bytesL c) (hl : c.length ≤ 2000000) (s : Int) (h0 : 0 ≤ s) (h1 : s ≤ 10000000000) : ∃ t s', Ev (fun k => spec_l5Table.f k c s) (t, s') ∧ t.length ≤ 201 ∧ s ≤ s' ∧ s' ≤ s + 400 := by
  obtain ⟨r, hr, p0, p1, _⟩ := next_ok c hb hl s h0 (by omega) 9
  have p1 := p1 (by decide)
  obtain ⟨n, rfl⟩ : ∃ n : Nat, r = n := ⟨r.toNat, by omega⟩
  obtain ⟨t, s', he, q0, q1, q2⟩ := table_loop c hb hl n [] (s + 1) (by simp; omega) (by omega) (by omega)
  unfold spec_l5Table.f
  exact ⟨t, s', Ev.bind (Ev.is hr) he, q0, by omega, by omega⟩

theorem lwBig_eq (c : List Int) : laws_lwBig.f c = some (decide ((c.length : Int) > 1048576)) := rfl
theorem draw_compact (c : List Int) (hb : bytesL c) (hl : c.length ≤ 2000000) : ∃ t v, Ev (fun k => spec_DrawCompactTable.f k c) (t, v) ∧ t.length ≤ 201 := by
  obtain ⟨t, s, he, h2, h3, h4⟩ := table_ok c hb hl 0 (by decide) (by decide)
  obtain ⟨q, hq, _⟩ := next_ok c hb hl s (by omega) (by omega) 11
  obtain ⟨v, _, hv⟩ := pick_ok c hb hl (s + 1) (by omega) (by omega) [q, 5, 0, 9, (-1), 4611686018427387904] (by simp)
  refine ⟨t, v, ?_, h2⟩
  unfold spec_DrawCompactTable.f spec_l1Source.f
  exact Ev.let (Ev.bind he (Ev.bind (Ev.is hq) (Ev.bind (Ev.is hv) (Ev.now _))))
theorem compacts_rows (l : List S49) (hl : l.length ≤ 1000000) (h : tableFault l = 0) (v w : Int) (hw : v ≤ w) (hn : Ev (fun k => laws_FnCompacts.l0 k l v (wrap64 (w + 1)) 0 (compactR l v)) true) : Ev (fun k => laws_FnCompacts.l1 k l v w 0 0 (compactR l v)) true := by
  have hc := compactR_len l v
  refine Ev.each (F := fun k i => laws_FnCompacts.l1 k l v w i 0 (compactR l v)) l.length (by omega) (fun i h0 h1 e => Ev.step (fun k => laws_FnCompacts.l1.eq_2 ..) (Ev.pos h1 (Ev.pos h0 ?_))) (Ev.step (fun k => laws_FnCompacts.l1.eq_2 ..) (Ev.neg (by omega) hn))
  have g1 := impl_GetRow_ev (compactR l v) (rd_T49 l i).f0 w (by omega)
  have g2 := impl_GetRow_ev l (rd_T49 l i).f0 w (by omega)
  rw [compact_get l v w hw h] at g1
  exact Ev.bind g1 (Ev.bind g2 (Ev.neg (by simp) e))
theorem compacts_loop (l : List S49) (hl : l.length ≤ 1000000) (h : tableFault l = 0) (v : Int) : ∀ d : Nat, d ≤ 12 → Ev (fun k => laws_FnCompacts.l0 k l v (12 - (d : Int)) 0 (compactR l v)) true := by
  intro d
  induction d with
  | zero => intro _; exact Ev.step (fun k => laws_FnCompacts.l0.eq_2 ..) (Ev.neg (by omega) (Ev.now _))
  | succ d ih =>
    intro hd
    have ih := ih (by omega)
    have e : wrap64 (12 - ((d + 1 : Nat) : Int) + 1) = 12 - (d : Int) := by rw [w64 (by omega) (by omega)]; omega
    refine Ev.step (fun k => laws_FnCompacts.l0.eq_2 ..) (Ev.pos (by omega) (Ev.ite (fun _ => ?_) (fun hw => compacts_rows l hl h v _ (by omega) ?_)))
    · rw [e]; exact ih
    · rw [e]; exact ih
theorem FnCompacts : ∀ (l0 : List Int), okL (fun n => (Lit.int .u8 n).wf = true) l0 → ∃ k, laws_FnCompacts.f k l0 = some true := by
  intro c hc
  have hb : bytesL c := fun x hx => wfU8 (hc.2 x hx)
  refine Ev.rounds (r := true) ?_
  unfold laws_FnCompacts.f
  refine Ev.bind (Ev.is (lwBig_eq c)) (Ev.ite (fun _ => Ev.now _) (fun hbig => ?_))
  have hl : c.length ≤ 2000000 := by simp at hbig; omega
  obtain ⟨t, v, hd, hlen⟩ := draw_compact c hb hl
  have hi := impl_CompactTable_ev t v (by omega)
  have hs := spec_CompactTable_ev t v (by omega)
  refine Ev.bind hd (Ev.bind hi ?_)
  by_cases ht : tableFault t = 0
  · have hr : compactTR t v = (0, compactR t v) := by unfold compactTR; rw [if_pos ht]
    have hcl := compactR_len t v
    have hf := impl_TableFault_ev (compactR t v)
    rw [compact_right t v ht] at hf
    rw [hr] at hs ⊢
    exact Ev.pos rfl (Ev.bind hf (Ev.pos rfl (Ev.neg (by show ¬ ((compactR t v).length : Int) > (t.length : Int); omega) (Ev.bind hs (Ev.pos rfl (compacts_loop t (by omega) ht v 12 (by omega)))))))
  · have hr : compactTR t v = (tableFault t, []) := by unfold compactTR; rw [if_neg ht]
    rw [hr] at hs ⊢
    exact Ev.neg ht (Ev.bind hs (Ev.eq (Ev.now _) (by simp)))

end Go.Proofs.Ytdhlcnlcpjlliaa.Pure
