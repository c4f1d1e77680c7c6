/- FnExactPackWrites, the pure statement: the program's PackWrites and the reference's tell the same of any number and writes; the argument is as it was, and the answer is new memory. No conditions. -/
import Derived.Test.YtdhlcnlcpjlliaaPFnExactPackWritesx7
import Derived.Test.YtdhlcnlcpjlliaaOFnExactPackWrites
namespace Go.Proofs.Ytdhlcnlcpjlliaa.Pure
open Go.RowKit Go.Proofs.Ytdhlcnlcpjlliaa.PFnExactPackWrites Go.Proofs.YtdhlcnlcpjlliaaW.PrintWords Go.Proofs.YtdhlcnlcpjlliaaW.PrintLast Go.Proofs.YtdhlcnlcpjlliaaW.PrintMore Go.Proofs.Ytdhlcnlcpjlliaa.Opens
set_option linter.unusedVariables false
set_option linter.unusedSimpArgs false
/-! ### words of this text's own -/
theorem w64 {x : Int} (h0 : -9223372036854775808 ≤ x) (h1 : x ≤ 9223372036854775807) : wrap64 x = x := by
  unfold wrap64
  omega
theorem wfU8 {x : Int} (h : (Lit.int .u8 x).wf = true) : 0 ≤ x ∧ x < 256 := by
  simp [Lit.wf, IntKind.min, IntKind.max, IntKind.signed, IntKind.bits] at h
  omega
theorem wfI64 {x : Int} (h : (Lit.int .i64 x).wf = true) : -9223372036854775808 ≤ x ∧ x ≤ 9223372036854775807 := by
  simp [Lit.wf, IntKind.min, IntKind.max, IntKind.signed, IntKind.bits] at h
  omega
section
variable {α β σ : Type}
theorem Ev.ite {g f : Nat → Option α} {c : Prop} [Decidable c] {r : α} (ht : c → Ev g r) (hf : ¬ c → Ev f r) : Ev (fun k => if c then g k else f k) r := by
  by_cases h : c
  · simp only [if_pos h]; exact ht h
  · simp only [if_neg h]; exact hf h
theorem Ev.pos {g f : Nat → Option α} {c : Prop} [Decidable c] {r : α} (h : c) (ht : Ev g r) : Ev (fun k => if c then g k else f k) r := Ev.ite (fun _ => ht) (fun n => absurd h n)
theorem Ev.neg {g f : Nat → Option α} {c : Prop} [Decidable c] {r : α} (h : ¬ c) (hf : Ev f r) : Ev (fun k => if c then g k else f k) r := Ev.ite (fun y => absurd y h) (fun _ => hf)
theorem Ev.cond {g f : Nat → Option α} {c : Prop} [Decidable c] {r s : α} (ht : c → Ev g r) (hf : ¬ c → Ev f s) : Ev (fun k => if c then g k else f k) (if c then r else s) := by
  by_cases h : c
  · simp only [if_pos h]; exact ht h
  · simp only [if_neg h]; exact hf h
theorem Ev.let {f : Nat → α → Option β} {a : α} {r : β} (k : Ev (fun n => f n a) r) : Ev (fun n => (some a).bind (f n)) r := Ev.bind (Ev.now a) k
theorem Ev.is {a : Option α} {r : α} (h : a = some r) : Ev (fun _ => a) r := ⟨0, fun _ _ => h⟩
theorem Ev.eq {g : Nat → Option α} {a b : α} (h : Ev g a) (e : a = b) : Ev g b := e ▸ h
/-- A loop that counts i up to n, with a state s: what it comes to, if 'P i s' leads from round to round. -/
theorem Ev.upto (F : Nat → σ → Int → Option α) (n : Int) (hn : n ≤ 9223372036854775807) (P : Int → σ → Prop) (R : α → Prop)
    (step : ∀ i s, 0 ≤ i → i < n → P i s → (∃ s', P (i + 1) s' ∧ ∀ r, Ev (fun k => F k s' (wrap64 (i + 1))) r → Ev (fun k => F k s i) r) ∨ (∃ r, R r ∧ Ev (fun k => F k s i) r))
    (stop : ∀ s, P n s → ∃ r, R r ∧ Ev (fun k => F k s n) r) (i : Int) (s : σ) (h0 : 0 ≤ i) (h1 : i ≤ n) (hP : P i s) : ∃ r, R r ∧ Ev (fun k => F k s i) r := by
  obtain ⟨d, hd⟩ : ∃ d : Nat, n - i = d := ⟨(n - i).toNat, by omega⟩
  induction d generalizing i s with
  | zero =>
    obtain rfl : i = n := by omega
    exact stop s hP
  | succ d ih =>
    rcases step i s h0 (by omega) hP with ⟨s', hP', h⟩ | h
    · obtain ⟨r, hr, he⟩ := ih (i + 1) s' (by omega) (by omega) hP' (by omega)
      exact ⟨r, hr, h r (by rw [w64 (by omega) (by omega)]; exact he)⟩
    · exact h
/-- The same, where what it comes to is one value. -/
theorem Ev.upto1 (F : Nat → σ → Int → Option α) (n : Int) (hn : n ≤ 9223372036854775807) (P : Int → σ → Prop) (r : α)
    (step : ∀ i s, 0 ≤ i → i < n → P i s → (∃ s', P (i + 1) s' ∧ (Ev (fun k => F k s' (wrap64 (i + 1))) r → Ev (fun k => F k s i) r)) ∨ Ev (fun k => F k s i) r)
    (stop : ∀ s, P n s → Ev (fun k => F k s n) r) (i : Int) (s : σ) (h0 : 0 ≤ i) (h1 : i ≤ n) (hP : P i s) : Ev (fun k => F k s i) r := by
  obtain ⟨d, hd⟩ : ∃ d : Nat, n - i = d := ⟨(n - i).toNat, by omega⟩
  induction d generalizing i s with
  | zero =>
    obtain rfl : i = n := by omega
    exact stop s hP
  | succ d ih =>
    rcases step i s h0 (by omega) hP with ⟨s', hP', h⟩ | h
    · exact h (by rw [w64 (by omega) (by omega)]; exact ih (i + 1) s' (by omega) (by omega) hP' (by omega))
    · exact h
theorem take_set_succ (l acc : List α) (i : Nat) (v : α) (h : i < acc.length) (ht : acc.take i = l.take i) (hv : l[i]? = some v) : (acc.set i v).take (i + 1) = l.take (i + 1) := by
  rw [List.take_add_one, List.take_add_one, hv, List.getElem?_set_self h, List.take_set_of_le (Nat.le_refl _), ht]
/-- A row filled cell by cell. -/
theorem Ev.fill (F : Nat → List α → Int → Option (List α)) (l : List α) (hl : l.length ≤ 9223372036854775807)
    (step : ∀ (i : Int) s (v : α), 0 ≤ i → i < (l.length : Int) → s.length = l.length → l[i.toNat]? = some v → Ev (fun k => F k (s.set i.toNat v) (wrap64 (i + 1))) l → Ev (fun k => F k s i) l)
    (stop : ∀ s, s.length = l.length → Ev (fun k => F k s (l.length : Int)) s) (s : List α) (hs : s.length = l.length) : Ev (fun k => F k s 0) l :=
  Ev.upto1 F l.length (by omega) (fun i s => s.length = l.length ∧ s.take i.toNat = l.take i.toNat) l
    (fun i s h0 h1 ⟨hs, ht⟩ => .inl ⟨s.set i.toNat (l[i.toNat]'(by omega)), ⟨by simp [hs], by
      rw [show (i + 1).toNat = i.toNat + 1 by omega]
      exact take_set_succ l s _ _ (by omega) ht (List.getElem?_eq_getElem (by omega))⟩, step i s _ h0 h1 hs (List.getElem?_eq_getElem (by omega))⟩)
    (fun s ⟨hs, ht⟩ => by
      rw [List.take_of_length_le (by omega), List.take_of_length_le (by omega)] at ht
      have := stop s hs
      subst ht
      exact this) 0 s (by omega) (by omega) ⟨hs, by simp⟩
/-- A loop that asks of each place, and comes to the end. -/
theorem Ev.each {F : Nat → Int → Option β} {r : β} (n : Nat) (hn : (n : Int) ≤ 9223372036854775807) (step : ∀ i : Int, 0 ≤ i → i < n → Ev (fun k => F k (wrap64 (i + 1))) r → Ev (fun k => F k i) r) (stop : Ev (fun k => F k (n : Int)) r) : Ev (fun k => F k 0) r :=
  Ev.upto1 (fun k (_ : Unit) i => F k i) n hn (fun _ _ => True) r (fun i _ h0 h1 _ => .inl ⟨(), trivial, step i h0 h1⟩) (fun _ _ => stop) 0 () (by omega) (by omega) trivial
end
theorem rd_get (l : List Int) (i : Int) (h0 : 0 ≤ i) (h1 : i < (l.length : Int)) : rd l i = l[i.toNat]'(by omega) := by
  unfold rd
  rw [List.getD_eq_getElem?_getD, List.getElem?_eq_getElem (by omega)]
  rfl
theorem rd_of {l : List Int} {i : Int} {v : Int} (h : l[i.toNat]? = some v) : rd l i = v := by
  unfold rd
  rw [List.getD_eq_getElem?_getD, h]
  rfl
theorem drop_cons_at {α : Type} (l : List α) (i : Nat) (h : i < l.length) : l.drop i = l[i] :: l.drop (i + 1) := List.drop_eq_getElem_cons h
/-- What is left of a bound behind a list, or less than nothing. -/
def szRest (n : Nat) (left : Int) : Int := if left - n < 0 then -1 else left - n
theorem szRest_ok {n : Nat} {left : Int} (h0 : left ≤ 1048576) (h1 : ¬ szRest n left < 0) : (n : Int) ≤ left ∧ szRest n left = left - n := by
  unfold szRest at *
  by_cases h : left - n < 0
  · rw [if_pos h] at h1; omega
  · rw [if_neg h]; exact ⟨by omega, rfl⟩

theorem rdWrite {l : List S92} {i : Int} {v : S92} (h : l[i.toNat]? = some v) : rd_T92 l i = v := by
  unfold rd_T92
  rw [List.getD_eq_getElem?_getD, h]
  rfl
theorem rdWriteL {l : List S91} {i : Int} {v : S91} (h : l[i.toNat]? = some v) : rd_T91 l i = v := by
  unfold rd_T91
  rw [List.getD_eq_getElem?_getD, h]
  rfl
theorem rdWrite_at (l : List S92) (i : Int) (h0 : 0 ≤ i) (h1 : i < (l.length : Int)) : rd_T92 l i = l[i.toNat]'(by omega) := rdWrite (List.getElem?_eq_getElem (by omega))

theorem szWriteS_ev (l : List S91) (hl : okL ok91 l) (left : Int) (h0 : 0 ≤ left) (h1 : left ≤ 1048576) :
    ∃ r, (¬ r < 0 → 0 ≤ r ∧ r ≤ left - l.length ∧ ∀ x ∈ l, (x.f0.size : Int) ≤ left ∧ (x.f1.size : Int) ≤ left) ∧ Ev (fun k => laws_szWriteS.f k l left) r := by
  have hn := hl.1
  unfold maxLen at hn
  unfold laws_szWriteS.f
  rw [w64 (by omega) (by omega)]
  by_cases h : left - (l.length : Int) < 0
  · exact ⟨-1, fun h => absurd (by decide) h, Ev.pos h (Ev.now _)⟩
  · obtain ⟨r, hr, he⟩ := Ev.upto (fun k s i => laws_szWriteS.l0 k l s i) l.length (by omega) (fun i s => 0 ≤ s ∧ s ≤ left - l.length ∧ ∀ x ∈ l.take i.toNat, (x.f0.size : Int) ≤ left ∧ (x.f1.size : Int) ≤ left) (fun r => ¬ r < 0 → 0 ≤ r ∧ r ≤ left - l.length ∧ ∀ x ∈ l, (x.f0.size : Int) ≤ left ∧ (x.f1.size : Int) ≤ left)
      (fun i s p0 p1 ⟨q0, q1, q2⟩ => by
        have e1 : l[i.toNat]? = some (l[i.toNat]'(by omega)) := List.getElem?_eq_getElem (by omega)
        have ht := List.take_succ_eq_append_getElem (l := l) (i := i.toNat) (by omega)
        have hx := hl.2 _ (List.getElem_mem (l := l) (n := i.toNat) (by omega))
        generalize l[i.toNat]'(by omega) = x at e1 ht hx
        have y0 := hx.1
        have y1 := hx.2.1
        unfold maxLen at y0 y1
        by_cases h2 : s - (x.f0.size : Int) < 0
        · refine .inr ⟨-1, fun h => absurd (by decide) h, Ev.step (fun k => laws_szWriteS.l0.eq_2 ..) (Ev.pos p1 (Ev.pos p0 ?_))⟩
          rw [rdWriteL e1]
          refine Ev.bind (a := -1) ?_ (Ev.pos (by decide) (Ev.now _))
          unfold laws_szWrite.f
          rw [w64 (x := s - (x.f0.size : Int)) (by omega) (by omega)]
          exact Ev.pos h2 (Ev.now _)
        · by_cases h3 : s - (x.f0.size : Int) - (x.f1.size : Int) < 0
          · refine .inr ⟨-1, fun h => absurd (by decide) h, Ev.step (fun k => laws_szWriteS.l0.eq_2 ..) (Ev.pos p1 (Ev.pos p0 ?_))⟩
            rw [rdWriteL e1]
            refine Ev.bind (a := -1) ?_ (Ev.pos (by decide) (Ev.now _))
            unfold laws_szWrite.f
            rw [w64 (x := s - (x.f0.size : Int)) (by omega) (by omega), w64 (x := s - (x.f0.size : Int) - (x.f1.size : Int)) (by omega) (by omega)]
            exact Ev.neg h2 (Ev.pos h3 (Ev.now _))
          · refine .inl ⟨s - (x.f0.size : Int) - (x.f1.size : Int), ⟨by omega, by omega, ?_⟩, fun r hr => Ev.step (fun k => laws_szWriteS.l0.eq_2 ..) (Ev.pos p1 (Ev.pos p0 ?_))⟩
            · rw [show (i + 1).toNat = i.toNat + 1 by omega, ht]
              intro z hz
              rcases List.mem_append.1 hz with hz | hz
              · exact q2 z hz
              · obtain rfl := List.mem_singleton.1 hz
                omega
            · rw [rdWriteL e1]
              refine Ev.bind (a := s - (x.f0.size : Int) - (x.f1.size : Int)) ?_ (Ev.neg (by omega) hr)
              unfold laws_szWrite.f
              rw [w64 (x := s - (x.f0.size : Int)) (by omega) (by omega), w64 (x := s - (x.f0.size : Int) - (x.f1.size : Int)) (by omega) (by omega)]
              exact Ev.neg h2 (Ev.neg h3 (Ev.now _)))
      (fun s ⟨q0, q1, q2⟩ => ⟨s, fun _ => ⟨q0, q1, by rw [List.take_of_length_le (by omega)] at q2; exact q2⟩, Ev.step (fun k => laws_szWriteS.l0.eq_2 ..) (Ev.neg (by omega) (Ev.now _))⟩)
      0 (left - l.length) (by omega) (by omega) ⟨by omega, by omega, by simp⟩
    exact ⟨r, hr, Ev.neg h he⟩

/-- What the law's mirror of a Write stands for. -/
def writeOf (x : S91) : S92 := ⟨x.f0, x.f1, x.f2⟩
theorem toWriteS_ev (l : List S91) (hl : l.length ≤ 1048576) : Ev (fun k => laws_toWriteS.f k l) (l.map writeOf) := by
  unfold laws_toWriteS.f
  refine Ev.pos (by omega) (Ev.pos (by omega) ?_)
  refine Ev.fill (fun k s i => laws_toWriteS.l0 k l s i) (l.map writeOf) (by simp; omega)
    (fun i s v h0 h1 hs hv h => ?_)
    (fun s hs => Ev.step (fun k => laws_toWriteS.l0.eq_2 ..) (Ev.neg (by simp) (Ev.now _))) _ (by simp)
  rw [List.length_map] at h1 hs
  rw [List.getElem?_map] at hv
  obtain ⟨w, hw, rfl⟩ := Option.map_eq_some_iff.1 hv
  refine Ev.step (fun k => laws_toWriteS.l0.eq_2 ..) (Ev.pos h1 (Ev.pos h0 ?_))
  rw [rdWriteL hw]
  exact Ev.let (Ev.pos (by omega) h)

theorem eqWrite_rfl (a0 : ByteArray) (a1 : ByteArray) (a2 : Bool) : laws_eqWrite.f a0 a1 a2 a0 a1 a2 = some true := by
  unfold laws_eqWrite.f
  simp
theorem eqWriteS_ev (l : List S92) (hl : (l.length : Int) ≤ 9223372036854775807) : Ev (fun k => laws_eqWriteS.f k l l) true := by
  unfold laws_eqWriteS.f
  refine Ev.pos rfl ?_
  refine Ev.each (F := fun k i => laws_eqWriteS.l0 k l l i) l.length hl (fun i h0 h1 h => Ev.step (fun k => laws_eqWriteS.l0.eq_2 ..) (Ev.pos h1 (Ev.pos h0 (Ev.pos h1 ?_)))) (Ev.step (fun k => laws_eqWriteS.l0.eq_2 ..) (Ev.neg (by omega) (Ev.now _)))
  simp only [eqWrite_rfl]
  exact Ev.let (Ev.pos rfl h)

/-- What RowFault tells of a row. -/
def rowFault (key : ByteArray) (v : Int) (val : ByteArray) (gone : Bool) : Int :=
  if 1 ≤ (key.size : Int) ∧ (key.size : Int) ≤ 20 ∧ ¬ (gone = true ∧ (val.toList != ([] : List UInt8)) = true) then (if (val.size : Int) > 100 then 2 else if 1 ≤ v ∧ v ≤ 1000000 then 0 else 3) else 1
theorem spec_RowFault_ev (key : ByteArray) (v : Int) (val : ByteArray) (gone : Bool) : Ev (fun k => spec_RowFault.f k key v val gone) (rowFault key v val gone) := by
  refine ⟨1, fun k hk => ?_⟩
  obtain ⟨k, rfl⟩ : ∃ j, k = j + 1 := ⟨k - 1, by omega⟩
  unfold spec_RowFault.f rowFault
  simp only [spec_RowFault.j0, spec_l1In.f]
  generalize (val.toList != ([] : List UInt8)) = e
  generalize (key.size : Int) = n
  generalize (val.size : Int) = m
  by_cases h1 : n < 1
  · have : ¬ 1 ≤ n := by omega
    simp [h1, this]
  · have h1' : 1 ≤ n := by omega
    by_cases h2 : n > 20
    · have : ¬ n ≤ 20 := by omega
      simp [h1, h2, this]
    · have h2' : n ≤ 20 := by omega
      by_cases h3 : m > 100 <;> by_cases h4 : 1 ≤ v <;> by_cases h5 : v ≤ 1000000 <;> cases gone <;> cases e <;> simp [h1, h2, h1', h2', h3, h4, h5]
theorem impl_RowFault_ev (key : ByteArray) (v : Int) (val : ByteArray) (gone : Bool) : Ev (fun k => impl_RowFault.f k key v val gone) (rowFault key v val gone) := by
  refine ⟨1, fun k hk => ?_⟩
  obtain ⟨k, rfl⟩ : ∃ j, k = j + 1 := ⟨k - 1, by omega⟩
  unfold impl_RowFault.f rowFault impl_isKey.f
  simp only [impl_RowFault.j0, impl_within.f, impl_isVersion.f]
  generalize (val.toList != ([] : List UInt8)) = e
  generalize (key.size : Int) = n
  generalize (val.size : Int) = m
  by_cases h1 : 1 ≤ n <;> by_cases h2 : n ≤ 20 <;> by_cases h3 : m > 100 <;> by_cases h4 : 1 ≤ v <;> by_cases h5 : v ≤ 1000000 <;> cases gone <;> cases e <;> simp [h1, h2, h3, h4, h5]

/-- The eight bytes of a number, the highest ones first. -/
def packL (a : Int) : List Int := [a / 72057594037927936 % 256, a / 281474976710656 % 256, a / 1099511627776 % 256, a / 4294967296 % 256, a / 16777216 % 256, a / 65536 % 256, a / 256 % 256, a % 256]
theorem shrU (a n : Int) : shr .u64 (IntKind.u64.wrap a) n = a % 18446744073709551616 / 2 ^ min n.toNat 64 := rfl
theorem shrI (a n : Int) : shr .i64 a n = a / 2 ^ min n.toNat 64 := rfl
theorem spec_PackNumber_ev (a : Int) : Ev (fun k => spec_PackNumber.f k a) (packL a) := by
  have e : ∀ x : Int, 0 ≤ x → x < 64 → IntKind.u64.wrap (wrap64 x) = x := fun x h0 h1 => by
    rw [w64 (by omega) (by omega)]
    show x % 18446744073709551616 = x
    omega
  have st : ∀ (x3 : List Int) (x4 : Int) (r : List Int), 0 ≤ x4 → x4 < 8 → x3.length < 100 → Ev (fun k => spec_PackNumber.l0 k a (x3 ++ [a % 18446744073709551616 / 2 ^ (8 * x4).toNat % 256]) (x4 - 1)) r → Ev (fun k => spec_PackNumber.l0 k a x3 x4) r := by
    intro x3 x4 r h0 h1 h2 h
    refine Ev.step (fun k => spec_PackNumber.l0.eq_2 ..) (Ev.pos h0 ?_)
    rw [e (8 * x4) (by omega) (by omega), w64 (x := x4 - 1) (by omega) (by omega)]
    refine Ev.pos (by omega) (Ev.pos (by omega) ?_)
    rw [shrU, show min (8 * x4).toNat 64 = (8 * x4).toNat by omega]
    exact h
  unfold spec_PackNumber.f
  refine st _ 7 _ (by decide) (by decide) (by decide) (st _ 6 _ (by decide) (by decide) (by simp) (st _ 5 _ (by decide) (by decide) (by simp) (st _ 4 _ (by decide) (by decide) (by simp) (st _ 3 _ (by decide) (by decide) (by simp) (st _ 2 _ (by decide) (by decide) (by simp) (st _ 1 _ (by decide) (by decide) (by simp) (st _ 0 _ (by decide) (by decide) (by simp) (Ev.step (fun k => spec_PackNumber.l0.eq_2 ..) (Ev.neg (by decide) (Ev.eq (Ev.now _) ?_))))))))))
  simp only [List.nil_append, List.cons_append, packL]
  have p : ∀ n : Nat, ((2 : Int) ^ n) = ((2 ^ n : Nat) : Int) := fun n => by simp
  simp only [p]
  simp
  omega
theorem impl_PackNumber_ev (a : Int) : Ev (fun k => impl_PackNumber.f k a) (packL a) := by
  have st : ∀ (x3 : List Int) (x8 : Int) (r : List Int), 0 ≤ x8 → x8 < 8 → x3.length = 8 → Ev (fun k => impl_PackNumber.l0 k a (x3.set x8.toNat (a / 2 ^ (56 - 8 * x8).toNat % 256)) 8 (x8 + 1)) r → Ev (fun k => impl_PackNumber.l0 k a x3 8 x8) r := by
    intro x3 x8 r h0 h1 h2 h
    refine Ev.step (fun k => impl_PackNumber.l0.eq_2 ..) (Ev.pos h1 ?_)
    rw [w64 (x := 8 * x8) (by omega) (by omega), w64 (x := 56 - 8 * x8) (by omega) (by omega), w64 (x := x8 + 1) (by omega) (by omega)]
    refine Ev.pos (by omega) (Ev.pos h0 (Ev.pos (by omega) ?_))
    rw [shrI, show min (56 - 8 * x8).toNat 64 = (56 - 8 * x8).toNat by omega]
    exact h
  unfold impl_PackNumber.f
  refine Ev.pos (by decide) (Ev.let ?_)
  refine st _ 0 _ (by decide) (by decide) (by decide) (st _ 1 _ (by decide) (by decide) (by simp) (st _ 2 _ (by decide) (by decide) (by simp) (st _ 3 _ (by decide) (by decide) (by simp) (st _ 4 _ (by decide) (by decide) (by simp) (st _ 5 _ (by decide) (by decide) (by simp) (st _ 6 _ (by decide) (by decide) (by simp) (st _ 7 _ (by decide) (by decide) (by simp) (Ev.step (fun k => impl_PackNumber.l0.eq_2 ..) (Ev.neg (by decide) (Ev.eq (Ev.now _) ?_))))))))))
  simp [packL, List.replicate]

theorem bytesOf_len (a : ByteArray) : (bytesOf a).length = a.size := bytesOf_length a
/-- What PackText tells. -/
def packTextR (a : ByteArray) : Int × List Int := if (a.size : Int) > 200 then (2, []) else (0, [(a.size : Int) % 256] ++ bytesOf a)
theorem spec_PackText_eq (a : ByteArray) : spec_PackText.f a = some (packTextR a) := by
  unfold spec_PackText.f packTextR
  simp only [Option.bind_some]
  by_cases h : (a.size : Int) > 200
  · rw [if_pos h, if_pos h]
  · rw [if_neg h, if_neg h, if_pos (by simp; omega)]
theorem impl_PackText_eq (a : ByteArray) : impl_PackText.f a = some (packTextR a) := by
  unfold impl_PackText.f packTextR
  simp only [Option.bind_some]
  by_cases h : (a.size : Int) > 200
  · rw [if_pos h, if_pos h]
  · rw [if_neg h, if_neg h, if_pos (by simp; omega)]
theorem packTextR_len (a : ByteArray) : (packTextR a).2.length ≤ 201 := by
  unfold packTextR
  split
  · simp
  · simp only [List.length_append, List.length_cons, List.length_nil, bytesOf_length]
    omega

/-- What a text is packed as. -/
def ptL (a : ByteArray) : List Int := (packTextR a).2
theorem ptL_len (a : ByteArray) : (ptL a).length ≤ 201 := packTextR_len a
/-- What one write is packed as. -/
def writeL (w : S92) : List Int := [if w.f2 = true then 1 else 0] ++ ptL w.f0 ++ (if w.f2 = true then [] else ptL w.f1)
theorem writeL_len (w : S92) : (writeL w).length ≤ 403 := by
  have h0 := ptL_len w.f0
  have h1 := ptL_len w.f1
  unfold writeL
  by_cases h : w.f2 = true
  · simp only [h, if_true, List.length_append, List.length_cons, List.length_nil]
    omega
  · rw [if_neg h, if_neg h]
    simp only [List.length_append, List.length_cons, List.length_nil]
    omega
/-- What writes are packed as. -/
def packedL (v : Int) (l : List S92) : List Int := packL v ++ (l.map writeL).flatten
theorem spec_l6Pack_ev (v : Int) (l : List S92) (hl : l.length ≤ 1000000) : Ev (fun k => spec_l6Pack.f k v l) (packedL v l) := by
  unfold spec_l6Pack.f
  refine Ev.bind (spec_PackNumber_ev v) ?_
  refine Ev.upto1 (fun k s i => spec_l6Pack.l0 k l s i) l.length (by omega) (fun i s => s ++ ((l.drop i.toNat).map writeL).flatten = packedL v l ∧ (s.length : Int) ≤ 8 + 403 * i) (packedL v l)
    (fun i s h0 h1 ⟨hs, hlen⟩ => ?_) (fun s ⟨hs, _⟩ => Ev.step (fun k => spec_l6Pack.l0.eq_2 ..) (Ev.neg (by omega) (Ev.eq (Ev.now _) (by rw [← hs, List.drop_eq_nil_of_le (by omega)]; simp)))) 0 (packL v) (by omega) (by omega) ⟨by simp [packedL], by simp [packL]⟩
  have hr := rdWrite_at l i h0 h1
  rw [drop_cons_at l i.toNat (by omega)] at hs
  generalize l[i.toNat]'(by omega) = w at hs hr
  rw [List.map_cons, List.flatten_cons] at hs
  have hw := writeL_len w
  have p0 := ptL_len w.f0
  have p1 := ptL_len w.f1
  refine .inl ⟨s ++ writeL w, ⟨by rw [show (i + 1).toNat = i.toNat + 1 by omega, ← hs]; simp, by rw [List.length_append]; omega⟩, fun h => Ev.step (fun k => spec_l6Pack.l0.eq_2 ..) (Ev.pos h1 (Ev.pos h0 ?_))⟩
  rw [hr]
  have hj : ∀ s' : List Int, s'.length ≤ s.length + 1 → s' ++ ptL w.f0 ++ (if w.f2 = true then [] else ptL w.f1) = s ++ writeL w → Ev (fun k => spec_l6Pack.j1 k l s' i w.f0 w.f1 w.f2) (packedL v l) := by
    intro s' h2 h3
    refine Ev.step (fun k => spec_l6Pack.j1.eq_2 ..) (Ev.bind (Ev.is (spec_PackText_eq _)) (Ev.pos (show s'.length + (ptL w.f0).length < 140737488355328 by omega) (Ev.let ?_)))
    by_cases hg : w.f2 = true
    · rw [if_pos hg, List.append_nil] at h3
      refine Ev.pos hg ?_
      rw [show s' ++ (packTextR w.f0).2 = s' ++ ptL w.f0 from rfl, h3]
      exact h
    · rw [if_neg hg] at h3
      refine Ev.neg hg (Ev.bind (Ev.is (spec_PackText_eq _)) (Ev.pos (show (s' ++ ptL w.f0).length + (ptL w.f1).length < 140737488355328 by rw [List.length_append]; omega) ?_))
      rw [show s' ++ (packTextR w.f0).2 ++ (packTextR w.f1).2 = s' ++ ptL w.f0 ++ ptL w.f1 from rfl, h3]
      exact h
  by_cases hg : w.f2 = true
  · refine Ev.pos hg (Ev.pos (by omega) (hj _ (by simp) ?_))
    unfold writeL
    rw [if_pos hg, if_pos hg]
    simp
  · refine Ev.neg hg (Ev.pos (by omega) (hj _ (by simp) ?_))
    unfold writeL
    rw [if_neg hg, if_neg hg]
    simp
theorem impl_packWrites_ev (v : Int) (l : List S92) (hl : l.length ≤ 1000000) : Ev (fun k => impl_packWrites.f k v l) (packedL v l) := by
  unfold impl_packWrites.f
  refine Ev.bind (impl_PackNumber_ev v) ?_
  refine Ev.upto1 (fun k s i => impl_packWrites.l0 k s l (l.length : Int) i) l.length (by omega) (fun i s => s ++ ((l.drop i.toNat).map writeL).flatten = packedL v l ∧ (s.length : Int) ≤ 8 + 403 * i) (packedL v l)
    (fun i s h0 h1 ⟨hs, hlen⟩ => ?_) (fun s ⟨hs, _⟩ => Ev.step (fun k => impl_packWrites.l0.eq_2 ..) (Ev.neg (by omega) (Ev.eq (Ev.now _) (by rw [← hs, List.drop_eq_nil_of_le (by omega)]; simp)))) 0 (packL v) (by omega) (by omega) ⟨by simp [packedL], by simp [packL]⟩
  have hr := rdWrite_at l i h0 h1
  rw [drop_cons_at l i.toNat (by omega)] at hs
  generalize l[i.toNat]'(by omega) = w at hs hr
  rw [List.map_cons, List.flatten_cons] at hs
  have hw := writeL_len w
  have p0 := ptL_len w.f0
  have p1 := ptL_len w.f1
  refine .inl ⟨s ++ writeL w, ⟨by rw [show (i + 1).toNat = i.toNat + 1 by omega, ← hs]; simp, by rw [List.length_append]; omega⟩, fun h => Ev.step (fun k => impl_packWrites.l0.eq_2 ..) (Ev.pos h1 (Ev.pos h0 (Ev.pos h1 ?_)))⟩
  rw [hr]
  have hj : ∀ b : Int, (s ++ [b]) ++ ptL w.f0 ++ (if w.f2 = true then [] else ptL w.f1) = s ++ writeL w → Ev (fun k => impl_packWrites.j1 k s b l (l.length : Int) i w.f0 w.f1 w.f2) (packedL v l) := by
    intro b h3
    have h2 : (s ++ [b]).length = s.length + 1 := by simp
    refine Ev.step (fun k => impl_packWrites.j1.eq_2 ..) (Ev.pos (by omega) (Ev.let (Ev.bind (Ev.is (impl_PackText_eq _)) (Ev.pos (show (s ++ [b]).length + (ptL w.f0).length < 140737488355328 by omega) (Ev.let ?_)))))
    by_cases hg : w.f2 = true
    · rw [if_pos hg, List.append_nil] at h3
      refine Ev.pos hg ?_
      rw [show s ++ [b] ++ (packTextR w.f0).2 = s ++ [b] ++ ptL w.f0 from rfl, h3]
      exact h
    · rw [if_neg hg] at h3
      refine Ev.neg hg (Ev.bind (Ev.is (impl_PackText_eq _)) (Ev.pos (show (s ++ [b] ++ ptL w.f0).length + (ptL w.f1).length < 140737488355328 by rw [List.length_append]; omega) ?_))
      rw [show s ++ [b] ++ (packTextR w.f0).2 ++ (packTextR w.f1).2 = s ++ [b] ++ ptL w.f0 ++ ptL w.f1 from rfl, h3]
      exact h
  by_cases hg : w.f2 = true
  · refine Ev.pos hg (hj _ ?_)
    unfold writeL
    rw [if_pos hg, if_pos hg]
    simp
  · refine Ev.neg hg (hj _ ?_)
    unfold writeL
    rw [if_neg hg, if_neg hg]
    simp

theorem within_eq (x a b : Int) : impl_within.f x a b = some (decide (a ≤ x ∧ x ≤ b)) := by
  unfold impl_within.f
  by_cases h1 : a ≤ x <;> simp [h1]

theorem contains_ev [FN_slices_IndexFunc_impl_Write] (q : S92 → Bool) (hq : ∀ x : S92, FN_slices_IndexFunc_impl_Write.f x.f0 x.f1 x.f2 = some (q x)) (l : List S92) (hl : l.length ≤ 1000000) : Ev (fun k => slices_ContainsFunc_impl_Write.f k l) (l.any q) := by
  unfold slices_ContainsFunc_impl_Write.f slices_IndexFunc_impl_Write.f
  obtain ⟨r, hr, he⟩ := Ev.upto (fun k (_ : Unit) i => slices_IndexFunc_impl_Write.l0 k l (l.length : Int) i) l.length (by omega) (fun i _ => (l.drop i.toNat).any q = l.any q) (fun r => r ≥ 0 ↔ l.any q = true)
    (fun i _ h0 h1 hp => by
      have hr := rdWrite_at l i h0 h1
      rw [drop_cons_at l i.toNat (by omega), List.any_cons] at hp
      generalize l[i.toNat]'(by omega) = x at hr hp
      by_cases hx : q x = true
      · rw [hx, Bool.true_or] at hp
        refine .inr ⟨i, ⟨fun _ => hp.symm, fun _ => h0⟩, Ev.step (fun k => slices_IndexFunc_impl_Write.l0.eq_2 ..) (Ev.pos h1 (Ev.pos h0 (Ev.pos h1 ?_)))⟩
        rw [hr]
        exact Ev.bind (Ev.is (hq x)) (Ev.pos hx (Ev.now _))
      · have hf : q x = false := by simpa using hx
        rw [hf, Bool.false_or] at hp
        refine .inl ⟨(), by rw [show (i + 1).toNat = i.toNat + 1 by omega]; exact hp, fun r h => Ev.step (fun k => slices_IndexFunc_impl_Write.l0.eq_2 ..) (Ev.pos h1 (Ev.pos h0 (Ev.pos h1 ?_)))⟩
        rw [hr]
        exact Ev.bind (Ev.is (hq x)) (Ev.neg hx h))
    (fun _ hp => ⟨-1, by rw [← hp, List.drop_eq_nil_of_le (by omega)]; simp, Ev.step (fun k => slices_IndexFunc_impl_Write.l0.eq_2 ..) (Ev.neg (by omega) (Ev.now _))⟩)
    0 () (by omega) (by omega) rfl
  refine Ev.bind he (Ev.eq (Ev.now _) ?_)
  rw [Bool.eq_iff_iff, decide_eq_true_iff]
  exact hr
/-- Is a key among the first rows'? -/
def keyIn (l : List S92) (i : Int) (key : ByteArray) : Bool := (l.take i.toNat).any fun x => x.f0.toList == key.toList
/-- What WritesFault tells of the last d writes. -/
def writesFrom (l : List S92) : Nat → Int
  | 0 => if ((packedL 1 l).length : Int) > 500 then 2 else 0
  | d + 1 => (fun i : Int => (fun x : S92 => if rowFault x.f0 1 x.f1 x.f2 = 0 then (if keyIn l i x.f0 = true then 7 else writesFrom l d) else rowFault x.f0 1 x.f1 x.f2) (rd_T92 l i)) ((l.length : Int) - (d + 1))
def writesFault (l : List S92) : Int := if 1 ≤ (l.length : Int) ∧ (l.length : Int) ≤ 8 then writesFrom l l.length else 2
theorem impl_WritesFault_ev (l : List S92) : Ev (fun k => impl_WritesFault.f k l) (writesFault l) := by
  unfold impl_WritesFault.f impl_size_impl_Write.f writesFault
  refine Ev.let (Ev.bind (Ev.is (within_eq _ _ _)) ?_)
  by_cases hl : 1 ≤ (l.length : Int) ∧ (l.length : Int) ≤ 8
  · rw [if_pos hl]
    refine Ev.pos (decide_eq_true hl) ?_
    have go : ∀ d : Nat, d ≤ l.length → Ev (fun k => impl_WritesFault.l0 k l l (l.length : Int) ((l.length : Int) - d)) (writesFrom l d) := by
      intro d
      induction d with
      | zero => intro _; exact Ev.step (fun k => impl_WritesFault.l0.eq_2 ..) (Ev.neg (by omega) (Ev.bind (impl_packWrites_ev 1 l (by omega)) (Ev.cond (fun _ => Ev.now _) (fun _ => Ev.now _))))
      | succ d ih =>
        intro hd
        have h := ih (by omega)
        refine Ev.step (fun k => impl_WritesFault.l0.eq_2 ..) (Ev.pos (by omega) (Ev.pos (by omega) (Ev.pos (by omega) (Ev.bind (Ev.is (by unfold impl_Write_row.f; rfl)) (Ev.bind (impl_RowFault_ev ..) ?_)))))
        rw [w64 (x := (l.length : Int) - ((d + 1 : Nat) : Int) + 1) (by omega) (by omega), show (l.length : Int) - ((d + 1 : Nat) : Int) + 1 = (l.length : Int) - d by omega]
        rw [show ((d + 1 : Nat) : Int) = (d : Int) + 1 by omega]
        unfold writesFrom
        refine Ev.cond (fun _ => Ev.pos (by omega) (Ev.bind ?_ (Ev.cond (fun _ => Ev.now _) (fun _ => h)))) (fun _ => Ev.now _)
        unfold CL_76.f
        exact @contains_ev (CL_76.p _ _ _) (fun x => x.f0.toList == (rd_T92 l ((l.length : Int) - ((d : Int) + 1))).f0.toList) (fun x => rfl) _ (by rw [List.length_take]; omega)
    have := go l.length (by omega)
    rw [show (l.length : Int) - (l.length : Nat) = 0 by omega] at this
    exact this
  · rw [if_neg hl]
    exact Ev.neg (fun h => hl (of_decide_eq_true h)) (Ev.now _)
theorem spec_WritesFault_ev (l : List S92) : Ev (fun k => spec_WritesFault.f k l) (writesFault l) := by
  unfold spec_WritesFault.f writesFault
  by_cases hl : 1 ≤ (l.length : Int) ∧ (l.length : Int) ≤ 8
  · rw [if_pos hl]
    refine Ev.neg (by omega) (Ev.step (fun k => spec_WritesFault.j0.eq_2 ..) (Ev.neg (by simp only [decide_eq_true_eq]; omega) ?_))
    have go : ∀ d : Nat, d ≤ l.length → Ev (fun k => spec_WritesFault.l0 k l ((l.length : Int) - d)) (writesFrom l d) := by
      intro d
      induction d with
      | zero => intro _; exact Ev.step (fun k => spec_WritesFault.l0.eq_2 ..) (Ev.neg (by omega) (Ev.bind (spec_l6Pack_ev 1 l (by omega)) (Ev.cond (fun _ => Ev.now _) (fun _ => Ev.now _))))
      | succ d ih =>
        intro hd
        have h := ih (by omega)
        refine Ev.step (fun k => spec_WritesFault.l0.eq_2 ..) (Ev.pos (by omega) (Ev.pos (by omega) (Ev.bind (spec_RowFault_ev ..) ?_)))
        rw [show ((d + 1 : Nat) : Int) = (d : Int) + 1 by omega]
        unfold writesFrom
        refine Ev.cond (fun _ => ?_) (fun _ => Ev.now _)
        have hi : (l.length : Int) - ((d : Int) + 1) + 1 = (l.length : Int) - d := by omega
        generalize hin : (l.length : Int) - ((d : Int) + 1) = i at hi ⊢
        generalize rd_T92 l i = w
        have hlen : (l.take i.toNat).length = i.toNat := by rw [List.length_take]; omega
        refine Ev.upto1 (fun k (_ : Unit) j => spec_WritesFault.l1 k l i j w.f0 w.f1 w.f2) i (by omega) (fun j _ => ((l.take i.toNat).drop j.toNat).any (fun x => x.f0.toList == w.f0.toList) = keyIn l i w.f0) (if keyIn l i w.f0 = true then 7 else writesFrom l d)
          (fun j _ j0 j1 hp => ?_) (fun _ hp => ?_) 0 () (by omega) (by omega) (by simp [keyIn])
        · have hr := rdWrite_at l j j0 (by omega)
          have e : (l.take i.toNat)[j.toNat]'(by omega) = l[j.toNat]'(by omega) := by simp
          rw [drop_cons_at (l.take i.toNat) j.toNat (by omega), List.any_cons, e] at hp
          generalize l[j.toNat]'(by omega) = x at hr hp
          by_cases hx : x.f0.toList = w.f0.toList
          · have hk : keyIn l i w.f0 = true := by rw [← hp]; simp [hx]
            rw [hk, if_pos rfl]
            refine .inr (Ev.step (fun k => spec_WritesFault.l1.eq_2 ..) (Ev.pos j1 (Ev.pos j0 (Ev.pos (by omega) ?_))))
            rw [hr]
            exact Ev.pos hx (Ev.now _)
          · have hb : (x.f0.toList == w.f0.toList) = false := by simpa using hx
            rw [hb, Bool.false_or] at hp
            refine .inl ⟨(), by rw [show (j + 1).toNat = j.toNat + 1 by omega]; exact hp, fun hh => Ev.step (fun k => spec_WritesFault.l1.eq_2 ..) (Ev.pos j1 (Ev.pos j0 (Ev.pos (by omega) ?_)))⟩
            rw [hr]
            exact Ev.neg hx hh
        · rw [List.drop_eq_nil_of_le (by omega)] at hp
          have hk : keyIn l i w.f0 = false := by rw [← hp]; rfl
          rw [hk, if_neg (by simp)]
          refine Ev.step (fun k => spec_WritesFault.l1.eq_2 ..) (Ev.neg (by omega) ?_)
          rw [w64 (by omega) (by omega), hi]
          exact h
    have := go l.length (by omega)
    rw [show (l.length : Int) - (l.length : Nat) = 0 by omega] at this
    exact this
  · rw [if_neg hl]
    by_cases h1 : (l.length : Int) < 1
    · exact Ev.pos h1 (Ev.step (fun k => spec_WritesFault.j0.eq_2 ..) (Ev.pos rfl (Ev.now _)))
    · exact Ev.neg h1 (Ev.step (fun k => spec_WritesFault.j0.eq_2 ..) (Ev.pos (by simp only [decide_eq_true_eq]; omega) (Ev.now _)))

theorem l1In_eq (x a b : Int) : spec_l1In.f x a b = some (decide (a ≤ x ∧ x ≤ b)) := by
  unfold spec_l1In.f
  by_cases h1 : a ≤ x <;> simp [h1]

theorem packedL_len (v : Int) (l : List S92) : (packedL v l).length ≤ 8 + 403 * l.length := by
  have h : ((l.map writeL).flatten).length ≤ 403 * l.length := by
    induction l with
    | nil => simp
    | cons w l ih =>
      have := writeL_len w
      simp only [List.map_cons, List.flatten_cons, List.length_append, List.length_cons]
      omega
  unfold packedL
  rw [List.length_append]
  have : (packL v).length = 8 := rfl
  omega
theorem writesFault_zero (l : List S92) (h : writesFault l = 0) : l.length ≤ 8 := by
  unfold writesFault at h
  by_cases h1 : 1 ≤ (l.length : Int) ∧ (l.length : Int) ≤ 8
  · omega
  · rw [if_neg h1] at h
    exact absurd h (by decide)
/-- What PackWrites tells. -/
def packWR (v : Int) (l : List S92) : Int × List Int := if 1 ≤ v ∧ v ≤ 1000000 then (if writesFault l = 0 then (0, packedL v l) else (writesFault l, [])) else (3, [])
theorem packWR_len (v : Int) (l : List S92) : (packWR v l).2.length ≤ 4000 := by
  unfold packWR
  split
  · split
    · next h =>
      have h1 := writesFault_zero l h
      have h2 := packedL_len v l
      show (packedL v l).length ≤ 4000
      omega
    · simp
  · simp
theorem spec_PackWrites_ev (v : Int) (l : List S92) : Ev (fun k => spec_PackWrites.f k v l) (packWR v l) := by
  unfold spec_PackWrites.f packWR
  refine Ev.bind (Ev.is (l1In_eq _ _ _)) ?_
  by_cases hv : 1 ≤ v ∧ v ≤ 1000000
  · rw [if_pos hv]
    exact Ev.pos (decide_eq_true hv) (Ev.bind (spec_WritesFault_ev l) (Ev.cond (fun h => Ev.bind (spec_l6Pack_ev v l (by have := writesFault_zero l h; omega)) (Ev.now _)) (fun _ => Ev.now _)))
  · rw [if_neg hv]
    exact Ev.neg (fun h => hv (of_decide_eq_true h)) (Ev.now _)
theorem impl_PackWrites_ev (v : Int) (l : List S92) : Ev (fun k => impl_PackWrites.f k v l) (packWR v l) := by
  unfold impl_PackWrites.f packWR impl_isVersion.f
  rw [within_eq]
  refine Ev.bind (a := decide (1 ≤ v ∧ v ≤ 1000000)) (Ev.is rfl) ?_
  by_cases hv : 1 ≤ v ∧ v ≤ 1000000
  · rw [if_pos hv]
    exact Ev.pos (decide_eq_true hv) (Ev.bind (impl_WritesFault_ev l) (Ev.cond (fun h => Ev.bind (impl_packWrites_ev v l (by have := writesFault_zero l h; omega)) (Ev.now _)) (fun _ => Ev.now _)))
  · rw [if_neg hv]
    exact Ev.neg (fun h => hv (of_decide_eq_true h)) (Ev.now _)

theorem markText_loop : ∀ (n : Nat) (x : Int) (s : ByteArray), x.toNat ≤ n → 0 ≤ x → (s.size : Int) + x ≤ 4000000000000000000 → ∃ t, Ev (fun k => laws_markText.l0 k x s) t := by
  intro n
  induction n with
  | zero =>
    intro x s h0 h1 h2
    exact ⟨_, Ev.step (fun k => laws_markText.l0.eq_2 ..) (Ev.neg (by omega) (Ev.pos (by omega) (Ev.now _)))⟩
  | succ n ih =>
    intro x s h0 h1 h2
    by_cases hx : x > 0
    · have hd : Int.tdiv x 10 = x / 10 := Int.tdiv_eq_ediv_of_nonneg h1
      have hz : ∀ c : Int, (strOfNums [c] ++ s).size = 1 + s.size := fun c => by rw [ByteArray.size_append, strOfNums_size]; rfl
      obtain ⟨t, ht⟩ := ih (x / 10) (strOfNums [wrap64 (48 + Int.tmod x 10) % 256] ++ s) (by omega) (by omega) (by rw [hz]; omega)
      refine ⟨t, Ev.step (fun k => laws_markText.l0.eq_2 ..) (Ev.pos hx (Ev.let (Ev.pos (by rw [strOfNums_size]; simp only [List.length_cons, List.length_nil]; omega) ?_)))⟩
      rw [hd, w64 (x := x / 10) (by omega) (by omega)]
      exact ht
    · exact ⟨_, Ev.step (fun k => laws_markText.l0.eq_2 ..) (Ev.neg hx (Ev.pos (by omega) (Ev.now _)))⟩
theorem markText_ev (x : Int) (h : x ≤ 3000000000000000000) : ∃ t, Ev (fun k => laws_markText.f k x) t := by
  unfold laws_markText.f
  by_cases h0 : x ≤ 0
  · exact ⟨_, Ev.pos h0 (Ev.now _)⟩
  · obtain ⟨t, ht⟩ := markText_loop x.toNat x ⟨#[]⟩ (Nat.le_refl _) (by omega) (show ((0 : Nat) : Int) + x ≤ _ by omega)
    exact ⟨t, Ev.neg h0 ht⟩

theorem markWriteS_ev (l : List S92) (hl : l.length ≤ 1000000000) : ∃ l', Ev (fun k => laws_markWriteS.f k l 1) (1 + 3 * (l.length : Int), l') := by
  unfold laws_markWriteS.f
  obtain ⟨r, hr, he⟩ := Ev.upto (fun k (s : List S92 × Int) i => laws_markWriteS.l0 k s.1 s.2 i) l.length (by omega) (fun i s => s.1.length = l.length ∧ s.2 = 1 + 3 * i) (fun r => r.1 = 1 + 3 * (l.length : Int))
    (fun i s h0 h1 ⟨hs, hm⟩ => by
      obtain ⟨t, ht⟩ := markText_ev s.2 (by omega)
      obtain ⟨u, hu⟩ := markText_ev (s.2 + 1) (by omega)
      obtain ⟨y1, e1⟩ : ∃ y : List S92, y = s.1.set i.toNat ⟨t, (rd_T92 s.1 i).f1, (rd_T92 s.1 i).f2⟩ := ⟨_, rfl⟩
      obtain ⟨y2, e2⟩ : ∃ y : List S92, y = y1.set i.toNat ⟨(rd_T92 y1 i).f0, u, (rd_T92 y1 i).f2⟩ := ⟨_, rfl⟩
      obtain ⟨y3, e3⟩ : ∃ y : List S92, y = y2.set i.toNat ⟨(rd_T92 y2 i).f0, (rd_T92 y2 i).f1, (Int.tmod (s.2 + 1 + 1) 3 == 0)⟩ := ⟨_, rfl⟩
      refine .inl ⟨(y3, s.2 + 1 + 1 + 1), ⟨by simp [e3, e2, e1, hs], by show s.2 + 1 + 1 + 1 = 1 + 3 * (i + 1); omega⟩, fun r h => Ev.step (fun k => laws_markWriteS.l0.eq_2 ..) (Ev.pos (by omega) (Ev.bind ht (Ev.pos h0 (Ev.let ?_))))⟩
      rw [w64 (x := s.2 + 1) (by omega) (by omega), w64 (x := s.2 + 1 + 1) (by omega) (by omega), w64 (x := s.2 + 1 + 1 + 1) (by omega) (by omega)]
      refine Ev.bind hu (Ev.let ?_)
      rw [← e1, ← e2, ← e3]
      exact h)
    (fun s ⟨hs, hm⟩ => ⟨(s.2, s.1), hm, Ev.step (fun k => laws_markWriteS.l0.eq_2 ..) (Ev.neg (by omega) (Ev.now _))⟩)
    0 (l, 1) (by omega) (by omega) ⟨rfl, by simp⟩
  obtain ⟨a, b⟩ := r
  simp only at hr
  subst hr
  exact ⟨b, he⟩

theorem eqByteS_ev (l : List Int) (hl : l.length ≤ 140737488351232) : Ev (fun k => laws_eqByteS.f k l l) true := by
  unfold laws_eqByteS.f
  refine Ev.pos rfl ?_
  exact Ev.each (F := fun k i => laws_eqByteS.l0 k l l i) l.length (by omega)
    (fun i h0 h1 h => Ev.step (fun k => laws_eqByteS.l0.eq_2 ..) (Ev.pos h1 (Ev.pos h0 (Ev.pos h1 (Ev.pos rfl h)))))
    (Ev.step (fun k => laws_eqByteS.l0.eq_2 ..) (Ev.neg (by omega) (Ev.now _)))

theorem eqBytesResult_ev (c : Int) (l : List Int) (h : l.length ≤ 140737488351232) : Ev (fun k => laws_eqBytesResult.f k c l c l) true := by
  unfold laws_eqBytesResult.f
  exact Ev.pos rfl (Ev.bind (eqByteS_ev l h) (Ev.pos rfl (Ev.now _)))

/-- Bytes marked one behind the other from k on. -/
def markB (n : Nat) (k : Int) : List Int := (List.range n).map fun (i : Nat) => (k + i) % 256
theorem markB_len (n : Nat) (k : Int) : (markB n k).length = n := by simp [markB]
theorem markB_get (n : Nat) (k : Int) (i : Nat) (h : i < n) : (markB n k)[i]? = some ((k + i) % 256) := by simp [markB, h]
theorem markByteS_ev (l : List Int) (m : Int) (h0 : 0 ≤ m) (h1 : m + l.length ≤ 9000000000000000000) : Ev (fun k => laws_markByteS.f k l m) (m + l.length, markB l.length m) := by
  unfold laws_markByteS.f
  refine Ev.upto1 (fun k (s : List Int × Int) i => laws_markByteS.l0 k s.1 s.2 i) l.length (by omega) (fun i s => s.1.length = l.length ∧ s.2 = m + i ∧ s.1.take i.toNat = (markB l.length m).take i.toNat) (m + l.length, markB l.length m)
    (fun i s p0 p1 ⟨hl, hs, ht⟩ => .inl ⟨(s.1.set i.toNat (s.2 % 256), s.2 + 1), ⟨by simp [hl], by simp [hs]; omega, ?_⟩, fun h => Ev.step (fun k => laws_markByteS.l0.eq_2 ..) (Ev.pos (by omega) (Ev.pos p0 (by rw [w64 (x := s.2 + 1) (by omega) (by omega)]; exact h)))⟩)
    (fun s ⟨hl, hs, ht⟩ => Ev.step (fun k => laws_markByteS.l0.eq_2 ..) (Ev.neg (by omega) (Ev.eq (Ev.now _) ?_)))
    0 (l, m) (by omega) (by omega) ⟨rfl, by simp, by simp⟩
  · show (s.1.set i.toNat (s.2 % 256)).take (i + 1).toNat = _
    rw [show (i + 1).toNat = i.toNat + 1 by omega]
    refine take_set_succ _ _ _ _ (by omega) ht ?_
    rw [markB_get _ _ _ (by omega), hs]
    congr 3
    omega
  · rw [List.take_of_length_le (by omega), List.take_of_length_le (by simp [markB_len])] at ht
    rw [ht, hs]
theorem heldByteS_ev (n : Nat) (m : Int) (h0 : 0 ≤ m) (h1 : m + n ≤ 9000000000000000000) : Ev (fun k => laws_heldByteS.f k (markB n m) m) (m + n) := by
  unfold laws_heldByteS.f
  refine Ev.upto1 (fun k (s : Int) i => laws_heldByteS.l0 k (markB n m) s i) n (by omega) (fun i s => s = m + i) (m + n)
    (fun i s p0 p1 hs => .inl ⟨s + 1, by omega, fun h => Ev.step (fun k => laws_heldByteS.l0.eq_2 ..) (Ev.pos (by rw [markB_len]; exact p1) (Ev.pos p0 (Ev.pos ?_ (by rw [w64 (x := s + 1) (by omega) (by omega)]; exact h))))⟩)
    (fun s hs => Ev.step (fun k => laws_heldByteS.l0.eq_2 ..) (Ev.neg (by rw [markB_len]; omega) (Ev.eq (Ev.now _) hs)))
    0 m (by omega) (by omega) (by omega)
  rw [rd_of (markB_get n m i.toNat (by omega)), hs]
  congr 1
  omega

theorem markBytesResult_ev (c : Int) (l : List Int) (h : l.length ≤ 140737488351232) : Ev (fun k => laws_markBytesResult.f k c l 1) (1 + l.length, markB l.length 1) := by
  unfold laws_markBytesResult.f
  exact Ev.bind (markByteS_ev l 1 (by decide) (by omega)) (Ev.now _)
theorem heldBytesResult_ev (c : Int) (n : Nat) (h : n ≤ 140737488351232) : Ev (fun k => laws_heldBytesResult.f k c (markB n 1) 1) (1 + n) := by
  unfold laws_heldBytesResult.f
  exact Ev.bind (heldByteS_ev n 1 (by decide) (by omega)) (Ev.neg (by omega) (Ev.now _))
theorem FnExactPackWrites : ∀ (a0 : Int) (l1 : List (S91)), (Lit.int .i64 a0).wf = true → okL ok91 l1 → ∃ k, laws_FnExactPackWrites.f k a0 l1 = some true := by
  intro v l _ hl
  refine Ev.rounds (r := true) ?_
  unfold laws_FnExactPackWrites.f
  obtain ⟨r, hr, hsz⟩ := szWriteS_ev l hl 1048576 (by decide) (by decide)
  refine Ev.bind hsz (Ev.ite (fun _ => Ev.now _) (fun h => ?_))
  have hr := hr h
  have ht := toWriteS_ev l (by omega)
  have hm : (l.map writeOf).length = l.length := by simp
  obtain ⟨l', hmk⟩ := markWriteS_ev (l.map writeOf) (by omega)
  have hlen := packWR_len v (l.map writeOf)
  have he := eqBytesResult_ev (packWR v (l.map writeOf)).1 (packWR v (l.map writeOf)).2 (by omega)
  have hh := heldBytesResult_ev (packWR v (l.map writeOf)).1 (packWR v (l.map writeOf)).2.length (by omega)
  have hi := impl_PackWrites_ev v (l.map writeOf)
  refine Ev.bind ht (Ev.bind (spec_PackWrites_ev v _) (Ev.bind ht (Ev.bind hi (Ev.bind he (Ev.pos rfl (Ev.bind ht (Ev.bind (eqWriteS_ev _ (by omega)) (Ev.pos rfl (Ev.bind hmk (Ev.neg ?_ (Ev.bind he ?_)))))))))))
  · show ¬ (1 + 3 * ((l.map writeOf).length : Int)) < 0
    omega
  refine Ev.step (fun k => laws_FnExactPackWrites.j0.eq_2 ..) (Ev.neg (by simp) (Ev.bind (markBytesResult_ev _ _ (by omega)) (Ev.bind hh (Ev.neg (by omega) (Ev.pos rfl ?_)))))
  exact Ev.bind ht (Ev.bind hi (Ev.bind he (Ev.pos rfl (Ev.bind hh (Ev.neg (by omega) (Ev.pos rfl (Ev.now _)))))))

end Go.Proofs.Ytdhlcnlcpjlliaa.Pure
