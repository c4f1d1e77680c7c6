/- FnAppends, the pure statement: of any log and any data, what is appended is read behind all else. No conditions. -/
import Derived.Test.YtcdpiejcdeedoaaPFnAppendsx9
import Derived.Test.YtcdpiejcdeedoaaOFnAppends
namespace Go.Proofs.Ytcdpiejcdeedoaa.Pure
open Go.RowKit Go.Proofs.Ytcdpiejcdeedoaa.PFnAppends Go.Proofs.YtcdpiejcdeedoaaW.PrintWords Go.Proofs.YtcdpiejcdeedoaaW.PrintLast Go.Proofs.YtcdpiejcdeedoaaW.PrintMore Go.Proofs.Ytcdpiejcdeedoaa.Opens
set_option linter.unusedVariables false
set_option linter.unusedSimpArgs false
/-! ### words of this text's own -/
theorem w64 {x : Int} (h0 : -9223372036854775808 ≤ x) (h1 : x ≤ 9223372036854775807) : wrap64 x = x := by
  unfold wrap64
  omega
theorem wfU8 {x : Int} (h : (Lit.int .u8 x).wf = true) : 0 ≤ x ∧ x < 256 := by
  simp [Lit.wf, IntKind.min, IntKind.max, IntKind.signed, IntKind.bits] at h
  omega
theorem wfI64 {x : Int} (h : (Lit.int .i64 x).wf = true) : -9223372036854775808 ≤ x ∧ x ≤ 9223372036854775807 := by
  simp [Lit.wf, IntKind.min, IntKind.max, IntKind.signed, IntKind.bits] at h
  omega
section
variable {α β σ : Type}
theorem Ev.ite {g f : Nat → Option α} {c : Prop} [Decidable c] {r : α} (ht : c → Ev g r) (hf : ¬ c → Ev f r) : Ev (fun k => if c then g k else f k) r := by
  by_cases h : c
  · simp only [if_pos h]; exact ht h
  · simp only [if_neg h]; exact hf h
theorem Ev.pos {g f : Nat → Option α} {c : Prop} [Decidable c] {r : α} (h : c) (ht : Ev g r) : Ev (fun k => if c then g k else f k) r := Ev.ite (fun _ => ht) (fun n => absurd h n)
theorem Ev.neg {g f : Nat → Option α} {c : Prop} [Decidable c] {r : α} (h : ¬ c) (hf : Ev f r) : Ev (fun k => if c then g k else f k) r := Ev.ite (fun y => absurd y h) (fun _ => hf)
theorem Ev.cond {g f : Nat → Option α} {c : Prop} [Decidable c] {r s : α} (ht : c → Ev g r) (hf : ¬ c → Ev f s) : Ev (fun k => if c then g k else f k) (if c then r else s) := by
  by_cases h : c
  · simp only [if_pos h]; exact ht h
  · simp only [if_neg h]; exact hf h
theorem Ev.let {f : Nat → α → Option β} {a : α} {r : β} (k : Ev (fun n => f n a) r) : Ev (fun n => (some a).bind (f n)) r := Ev.bind (Ev.now a) k
theorem Ev.is {a : Option α} {r : α} (h : a = some r) : Ev (fun _ => a) r := ⟨0, fun _ _ => h⟩
theorem Ev.eq {g : Nat → Option α} {a b : α} (h : Ev g a) (e : a = b) : Ev g b := e ▸ h
/-- A loop that counts i up to n, with a state s: what it comes to, if 'P i s' leads from round to round. -/
theorem Ev.upto (F : Nat → σ → Int → Option α) (n : Int) (hn : n ≤ 9223372036854775807) (P : Int → σ → Prop) (R : α → Prop)
    (step : ∀ i s, 0 ≤ i → i < n → P i s → (∃ s', P (i + 1) s' ∧ ∀ r, Ev (fun k => F k s' (wrap64 (i + 1))) r → Ev (fun k => F k s i) r) ∨ (∃ r, R r ∧ Ev (fun k => F k s i) r))
    (stop : ∀ s, P n s → ∃ r, R r ∧ Ev (fun k => F k s n) r) (i : Int) (s : σ) (h0 : 0 ≤ i) (h1 : i ≤ n) (hP : P i s) : ∃ r, R r ∧ Ev (fun k => F k s i) r := by
  obtain ⟨d, hd⟩ : ∃ d : Nat, n - i = d := ⟨(n - i).toNat, by omega⟩
  induction d generalizing i s with
  | zero =>
    obtain rfl : i = n := by omega
    exact stop s hP
  | succ d ih =>
    rcases step i s h0 (by omega) hP with ⟨s', hP', h⟩ | h
    · obtain ⟨r, hr, he⟩ := ih (i + 1) s' (by omega) (by omega) hP' (by omega)
      exact ⟨r, hr, h r (by rw [w64 (by omega) (by omega)]; exact he)⟩
    · exact h
/-- The same, where what it comes to is one value. -/
theorem Ev.upto1 (F : Nat → σ → Int → Option α) (n : Int) (hn : n ≤ 9223372036854775807) (P : Int → σ → Prop) (r : α)
    (step : ∀ i s, 0 ≤ i → i < n → P i s → (∃ s', P (i + 1) s' ∧ (Ev (fun k => F k s' (wrap64 (i + 1))) r → Ev (fun k => F k s i) r)) ∨ Ev (fun k => F k s i) r)
    (stop : ∀ s, P n s → Ev (fun k => F k s n) r) (i : Int) (s : σ) (h0 : 0 ≤ i) (h1 : i ≤ n) (hP : P i s) : Ev (fun k => F k s i) r := by
  obtain ⟨d, hd⟩ : ∃ d : Nat, n - i = d := ⟨(n - i).toNat, by omega⟩
  induction d generalizing i s with
  | zero =>
    obtain rfl : i = n := by omega
    exact stop s hP
  | succ d ih =>
    rcases step i s h0 (by omega) hP with ⟨s', hP', h⟩ | h
    · exact h (by rw [w64 (by omega) (by omega)]; exact ih (i + 1) s' (by omega) (by omega) hP' (by omega))
    · exact h
theorem take_set_succ (l acc : List α) (i : Nat) (v : α) (h : i < acc.length) (ht : acc.take i = l.take i) (hv : l[i]? = some v) : (acc.set i v).take (i + 1) = l.take (i + 1) := by
  rw [List.take_add_one, List.take_add_one, hv, List.getElem?_set_self h, List.take_set_of_le (Nat.le_refl _), ht]
/-- A row filled cell by cell. -/
theorem Ev.fill (F : Nat → List α → Int → Option (List α)) (l : List α) (hl : l.length ≤ 9223372036854775807)
    (step : ∀ (i : Int) s (v : α), 0 ≤ i → i < (l.length : Int) → s.length = l.length → l[i.toNat]? = some v → Ev (fun k => F k (s.set i.toNat v) (wrap64 (i + 1))) l → Ev (fun k => F k s i) l)
    (stop : ∀ s, s.length = l.length → Ev (fun k => F k s (l.length : Int)) s) (s : List α) (hs : s.length = l.length) : Ev (fun k => F k s 0) l :=
  Ev.upto1 F l.length (by omega) (fun i s => s.length = l.length ∧ s.take i.toNat = l.take i.toNat) l
    (fun i s h0 h1 ⟨hs, ht⟩ => .inl ⟨s.set i.toNat (l[i.toNat]'(by omega)), ⟨by simp [hs], by
      rw [show (i + 1).toNat = i.toNat + 1 by omega]
      exact take_set_succ l s _ _ (by omega) ht (List.getElem?_eq_getElem (by omega))⟩, step i s _ h0 h1 hs (List.getElem?_eq_getElem (by omega))⟩)
    (fun s ⟨hs, ht⟩ => by
      rw [List.take_of_length_le (by omega), List.take_of_length_le (by omega)] at ht
      have := stop s hs
      subst ht
      exact this) 0 s (by omega) (by omega) ⟨hs, by simp⟩
/-- A loop that asks of each place, and comes to the end. -/
theorem Ev.each {F : Nat → Int → Option β} {r : β} (n : Nat) (hn : (n : Int) ≤ 9223372036854775807) (step : ∀ i : Int, 0 ≤ i → i < n → Ev (fun k => F k (wrap64 (i + 1))) r → Ev (fun k => F k i) r) (stop : Ev (fun k => F k (n : Int)) r) : Ev (fun k => F k 0) r :=
  Ev.upto1 (fun k (_ : Unit) i => F k i) n hn (fun _ _ => True) r (fun i _ h0 h1 _ => .inl ⟨(), trivial, step i h0 h1⟩) (fun _ _ => stop) 0 () (by omega) (by omega) trivial
end
theorem rd_get (l : List Int) (i : Int) (h0 : 0 ≤ i) (h1 : i < (l.length : Int)) : rd l i = l[i.toNat]'(by omega) := by
  unfold rd
  rw [List.getD_eq_getElem?_getD, List.getElem?_eq_getElem (by omega)]
  rfl
theorem rd_of {l : List Int} {i : Int} {v : Int} (h : l[i.toNat]? = some v) : rd l i = v := by
  unfold rd
  rw [List.getD_eq_getElem?_getD, h]
  rfl
theorem drop_cons_at {α : Type} (l : List α) (i : Nat) (h : i < l.length) : l.drop i = l[i] :: l.drop (i + 1) := List.drop_eq_getElem_cons h
theorem rd_drop (l : List Int) (n : Nat) (j : Int) (h : 0 ≤ j) : rd (l.drop n) j = rd l ((n : Int) + j) := by
  unfold rd
  rw [List.getD_eq_getElem?_getD, List.getD_eq_getElem?_getD, List.getElem?_drop, show ((n : Int) + j).toNat = n + j.toNat by omega]
theorem rd_bound (l : List Int) (hb : ∀ x ∈ l, 0 ≤ x ∧ x < 256) (i : Int) : 0 ≤ rd l i ∧ rd l i < 256 := by
  unfold rd
  rw [List.getD_eq_getElem?_getD]
  cases h : l[i.toNat]? with
  | none => simp
  | some v => exact hb v (List.mem_of_getElem? h)

/-- Bytes. -/
def bytesL (l : List Int) : Prop := ∀ x ∈ l, 0 ≤ x ∧ x < 256
theorem next_ok (c : List Int) (hb : bytesL c) (hl : c.length ≤ 2000000) (s : Int) (h0 : 0 ≤ s) (h1 : s ≤ 100000000000000) (n : Int) :
    ∃ r, spec_l1Next.f c s n = some (r, s + 1) ∧ 0 ≤ r ∧ (1 ≤ n → r < n) ∧ (n < 1 → r = 0) := by
  have e1 : wrap64 (s + 1) = s + 1 := w64 (by omega) (by omega)
  have e2 : wrap64 (s + 1 - 1) = s := by rw [show s + 1 - 1 = s by omega]; exact w64 (by omega) (by omega)
  unfold spec_l1Next.f
  simp only [e1, e2]
  by_cases hn1 : n < 1
  · rw [if_pos hn1]
    exact ⟨0, rfl, by omega, fun h => by omega, fun _ => rfl⟩
  rw [if_neg hn1]
  have fin : ∀ v : Int, 0 ≤ v → ∃ r, (if n = 0 then none else some (Int.tmod v n, s + 1)) = some (r, s + 1) ∧ 0 ≤ r ∧ (1 ≤ n → r < n) ∧ (n < 1 → r = 0) := fun v hv =>
    ⟨Int.tmod v n, if_neg (by omega), Int.tmod_nonneg n hv, fun _ => Int.tmod_lt_of_pos v (by omega), fun h => absurd h hn1⟩
  by_cases hk : (c.length : Int) = 0
  · rw [if_pos hk, w64 (x := s * 7) (by omega) (by omega)]
    exact fin _ (by omega)
  · rw [if_neg hk]
    have m0 := Int.tmod_nonneg (c.length : Int) h0
    have m1 := Int.tmod_lt_of_pos s (show 0 < (c.length : Int) by omega)
    have p0 := Int.tmod_nonneg (c.length : Int) (show 0 ≤ s + 1 by omega)
    have p1 := Int.tmod_lt_of_pos (s + 1) (show 0 < (c.length : Int) by omega)
    have d0 : 0 ≤ Int.tdiv s (c.length : Int) := Int.tdiv_nonneg h0 (by omega)
    have d1 : Int.tdiv s (c.length : Int) ≤ s := by
      rw [Int.tdiv_eq_ediv_of_nonneg h0]
      exact Int.ediv_le_self _ h0
    rw [if_pos m0, if_pos m1]
    have b0 := rd_bound c hb (Int.tmod s (c.length : Int))
    have b1 := rd_bound c hb (Int.tmod (s + 1) (c.length : Int))
    generalize rd c (Int.tmod s (c.length : Int)) = u at b0 ⊢
    generalize rd c (Int.tmod (s + 1) (c.length : Int)) = v at b1 ⊢
    generalize Int.tdiv s (c.length : Int) = q at d0 d1 ⊢
    have w1 : wrap64 u = u := w64 (by omega) (by omega)
    have w2 : wrap64 v = v := w64 (by omega) (by omega)
    have w3 : wrap64 q = q := w64 (by omega) (by omega)
    have w4 : wrap64 (q * 37) = q * 37 := w64 (by omega) (by omega)
    have w5 : wrap64 (u + q * 37) = u + q * 37 := w64 (by omega) (by omega)
    have w6 : wrap64 ((u + q * 37) * 251) = (u + q * 37) * 251 := w64 (by omega) (by omega)
    have w7 : wrap64 (v * 13) = v * 13 := w64 (by omega) (by omega)
    have w8 : wrap64 ((u + q * 37) * 251 + v * 13) = (u + q * 37) * 251 + v * 13 := w64 (by omega) (by omega)
    have w9 : wrap64 ((u + q * 37) * 251 + v * 13 + s) = (u + q * 37) * 251 + v * 13 + s := w64 (by omega) (by omega)
    simp only [w1, w2, w3, w4, w5, w6, w7, w8, w9]
    by_cases h200 : n > 200
    · rw [if_pos h200, if_pos p0, if_pos p1]
      exact fin _ (by omega)
    · rw [if_neg h200]
      exact fin _ (by omega)
theorem pick_ok (c : List Int) (hb : bytesL c) (hl : c.length ≤ 2000000) (s : Int) (h0 : 0 ≤ s) (h1 : s ≤ 100000000000000) (l : List Int) (hn : 1 ≤ l.length) : ∃ v, v ∈ l ∧ spec_l1Pick.f c s l = some (v, s + 1) := by
  obtain ⟨r, hr, p0, p1, _⟩ := next_ok c hb hl s h0 h1 (l.length : Int)
  have p1 := p1 (by omega)
  refine ⟨rd l r, ?_, ?_⟩
  · rw [rd_get l r p0 p1]
    exact List.getElem_mem _
  · unfold spec_l1Pick.f
    rw [hr]
    simp only [Option.bind_some]
    rw [if_pos p0, if_pos p1]
theorem chance_ok (c : List Int) (hb : bytesL c) (hl : c.length ≤ 2000000) (s : Int) (h0 : 0 ≤ s) (h1 : s ≤ 100000000000000) (n : Int) : ∃ b, spec_l1Chance.f c s n = some (b, s + 1) := by
  obtain ⟨r, hr, _⟩ := next_ok c hb hl s h0 h1 n
  unfold spec_l1Chance.f
  rw [hr]
  exact ⟨_, rfl⟩
theorem bytesL_mod (l : List Int) (h : bytesL l) (v : Int) : bytesL (l ++ [v % 256]) := fun x hx => by
  rcases List.mem_append.1 hx with h1 | h1
  · exact h x h1
  · have := List.mem_singleton.1 h1; omega
theorem some_loop (c : List Int) (hb : bytesL c) (hl : c.length ≤ 2000000) : ∀ (n : Nat) (acc : List Int) (s : Int), bytesL acc → acc.length + n ≤ 2000000 → 0 ≤ s → s + n ≤ 100000000000000 →
    ∃ r, Ev (fun k => spec_l3Some.l0 k acc (n : Int) c s) (r, s + n) ∧ r.length = acc.length + n ∧ bytesL r := by
  intro n
  induction n with
  | zero => intro acc s ha h1 h2 h3; exact ⟨acc, Ev.step (fun k => spec_l3Some.l0.eq_2 ..) (Ev.neg (by omega) (Ev.eq (Ev.now _) (by simp))), by simp, ha⟩
  | succ n ih =>
    intro acc s ha h1 h2 h3
    obtain ⟨v, hv, _⟩ := next_ok c hb hl s h2 (by omega) 256
    obtain ⟨r, hr, hlen, hbr⟩ := ih (acc ++ [v % 256]) (s + 1) (bytesL_mod acc ha v) (by simp; omega) (by omega) (by omega)
    refine ⟨r, Ev.step (fun k => spec_l3Some.l0.eq_2 ..) (Ev.pos (by omega) (Ev.bind (Ev.is hv) (Ev.pos (by omega) ?_))), by rw [hlen]; simp; omega, hbr⟩
    rw [w64 (by omega) (by omega), show (((n + 1 : Nat) : Int) - 1) = (n : Int) by omega]
    exact Ev.eq hr (by rw [Prod.mk.injEq]; exact ⟨rfl, by omega⟩)
theorem some_ok (c : List Int) (hb : bytesL c) (hl : c.length ≤ 2000000) (s : Int) (h0 : 0 ≤ s) (h1 : s ≤ 10000000000000) : ∃ r s', Ev (fun k => spec_l3Some.f k c s) (r, s') ∧ s ≤ s' ∧ s' ≤ s + 600 ∧ r.length ≤ 501 ∧ bytesL r := by
  obtain ⟨a, ha, a0, a1, _⟩ := next_ok c hb hl s h0 (by omega) 9
  obtain ⟨b, hb', b0, b1, _⟩ := next_ok c hb hl (s + 1) (by omega) (by omega) 9
  obtain ⟨d, hd, d0, d1, _⟩ := next_ok c hb hl (s + 1 + 1) (by omega) (by omega) 9
  have a1 := a1 (by omega)
  have b1 := b1 (by omega)
  have d1 := d1 (by omega)
  obtain ⟨v, hv, hp⟩ := pick_ok c hb hl (s + 1 + 1 + 1) (by omega) (by omega) [wrap64 (1 + a), wrap64 (1 + b), wrap64 (1 + d), 0, 500, 501] (by simp)
  have hv2 : 0 ≤ v ∧ v ≤ 501 := by
    rw [w64 (x := 1 + a) (by omega) (by omega), w64 (x := 1 + b) (by omega) (by omega), w64 (x := 1 + d) (by omega) (by omega)] at hv
    simp only [List.mem_cons, List.not_mem_nil, or_false] at hv
    omega
  obtain ⟨n, hn⟩ : ∃ n : Nat, v = (n : Int) := ⟨v.toNat, by omega⟩
  obtain ⟨r, hr, hlen, hbr⟩ := some_loop c hb hl n [] (s + 1 + 1 + 1 + 1) (fun x hx => by cases hx) (by simp; omega) (by omega) (by omega)
  refine ⟨r, s + 1 + 1 + 1 + 1 + n, ?_, by omega, by omega, by simp at hlen; omega, hbr⟩
  unfold spec_l3Some.f
  exact Ev.bind (Ev.is ha) (Ev.bind (Ev.is hb') (Ev.bind (Ev.is hd) (Ev.bind (Ev.is hp) (by rw [hn]; exact hr))))
theorem cut_ok (c : List Int) (hb : bytesL c) (hl : c.length ≤ 2000000) (s : Int) (h0 : 0 ≤ s) (h1 : s ≤ 10000000000000) (l : List Int) (hbl : bytesL l) (hll : l.length ≤ 2000000) :
    ∃ r s', spec_l3Cut.f c s l = some (r, s') ∧ s ≤ s' ∧ s' ≤ s + 5 ∧ r.length ≤ l.length + 1 ∧ bytesL r := by
  unfold spec_l3Cut.f
  simp only [Option.bind_some, List.nil_append, List.length_nil]
  rw [if_pos (show 0 + l.length < 140737488355328 by omega)]
  by_cases hz : (l.length : Int) = 0
  · rw [if_pos hz]
    obtain ⟨v, hv, _⟩ := next_ok c hb hl s h0 (by omega) 256
    rw [hv]
    exact ⟨[v % 256], s + 1, rfl, by omega, by omega, by simp, fun x hx => by have := List.mem_singleton.1 hx; omega⟩
  · rw [if_neg hz]
    obtain ⟨i, hi, i0, i1, _⟩ := next_ok c hb hl s h0 (by omega) (l.length : Int)
    have i1 := i1 (by omega)
    obtain ⟨a, ha, a0, a1, _⟩ := next_ok c hb hl (s + 1) (by omega) (by omega) 3
    rw [hi]
    simp only [Option.bind_some]
    rw [ha]
    simp only [Option.bind_some]
    by_cases ha0 : a = 0
    · rw [if_pos ha0]
      obtain ⟨v, hv, _⟩ := next_ok c hb hl (s + 1 + 1) (by omega) (by omega) 256
      rw [hv]
      simp only [Option.bind_some]
      rw [if_pos i0, if_pos i1]
      refine ⟨_, _, rfl, by omega, by omega, by simp, fun x hx => ?_⟩
      rcases List.mem_or_eq_of_mem_set hx with h | h
      · exact hbl x h
      · omega
    · rw [if_neg ha0]
      by_cases ha1 : a = 1
      · rw [if_pos ha1, if_pos i0, if_pos (show i ≤ (l.length : Int) by omega)]
        exact ⟨_, _, rfl, by omega, by omega, by rw [List.length_take]; omega, fun x hx => hbl x (List.mem_of_mem_take hx)⟩
      · rw [if_neg ha1]
        by_cases ha2 : a = 2
        · rw [if_pos ha2]
          obtain ⟨v, hv, _⟩ := next_ok c hb hl (s + 1 + 1) (by omega) (by omega) 6
          rw [hv]
          simp only [Option.bind_some]
          rw [if_pos (by omega)]
          exact ⟨_, _, rfl, by omega, by omega, by simp, bytesL_mod l hbl v⟩
        · rw [if_neg ha2]
          exact ⟨_, _, rfl, by omega, by omega, by omega, hbl⟩

/-- What LogFault tells of a log of so many bytes. -/
def logFault (n m : Nat) : Int := if wrap64 ((n : Int) + (m : Int)) > 6000 then 2 else 0
theorem spec_LogFault_eq (l m : List Int) : spec_LogFault.f l m = some (logFault l.length m.length) := by
  unfold spec_LogFault.f logFault
  split <;> rfl
theorem impl_LogFault_eq (l m : List Int) : impl_LogFault.f l m = some (logFault l.length m.length) := by
  unfold impl_LogFault.f logFault
  split <;> rfl

/-- The check of bytes. -/
def checkL (h : Int) (l : List Int) : Int := l.foldl (fun h b => (h * 257 + b + 1) % 65521) h
theorem check_step (h b : Int) (h0 : 0 ≤ h) (h1 : h < 65521) (b0 : 0 ≤ b) (b1 : b < 256) : Int.tmod (wrap64 ((wrap64 ((wrap64 (h * 257)) + (wrap64 b))) + 1)) 65521 = (h * 257 + b + 1) % 65521 := by
  rw [w64 (x := h * 257) (by omega) (by omega), w64 (x := b) (by omega) (by omega), w64 (x := h * 257 + b) (by omega) (by omega), w64 (x := h * 257 + b + 1) (by omega) (by omega), Int.tmod_eq_emod_of_nonneg (by omega)]
theorem checkL_bound (l : List Int) : ∀ h, 0 ≤ h → h < 65521 → 0 ≤ checkL h l ∧ checkL h l < 65521 := by
  induction l with
  | nil => exact fun h a b => ⟨a, b⟩
  | cons x l ih => exact fun h _ _ => ih ((h * 257 + x + 1) % 65521) (by omega) (by omega)
theorem check_next (l : List Int) (i : Int) (s : Int) (h0 : 0 ≤ i) (h1 : i < (l.length : Int)) : checkL ((s * 257 + rd l i + 1) % 65521) (l.drop (i + 1).toNat) = checkL s (l.drop i.toNat) := by
  rw [drop_cons_at l i.toNat (by omega), show (i + 1).toNat = i.toNat + 1 by omega, rd_get l i h0 h1]
  rfl
theorem rd_byte (l : List Int) (hb : ∀ x ∈ l, 0 ≤ x ∧ x < 256) (i : Int) (h0 : 0 ≤ i) (h1 : i < (l.length : Int)) : 0 ≤ rd l i ∧ rd l i < 256 := by
  rw [rd_get l i h0 h1]
  exact hb _ (List.getElem_mem _)
theorem spec_CheckOf_ev (l : List Int) (hl : l.length ≤ 140737488351232) (hb : ∀ x ∈ l, 0 ≤ x ∧ x < 256) : Ev (fun k => spec_CheckOf.f k l) (checkL 1 l) := by
  unfold spec_CheckOf.f
  refine Ev.upto1 (fun k s i => spec_CheckOf.l0 k l s i) l.length (by omega) (fun i s => 0 ≤ s ∧ s < 65521 ∧ checkL s (l.drop i.toNat) = checkL 1 l) (checkL 1 l)
    (fun i s h0 h1 ⟨p0, p1, hs⟩ => .inl ⟨(s * 257 + rd l i + 1) % 65521, ⟨by omega, by omega, (check_next l i s h0 h1).trans hs⟩, fun h => Ev.step (fun k => spec_CheckOf.l0.eq_2 ..) (Ev.pos h1 (Ev.pos h0 ?_))⟩)
    (fun s ⟨p0, p1, hs⟩ => Ev.step (fun k => spec_CheckOf.l0.eq_2 ..) (Ev.neg (by omega) (Ev.eq (Ev.now _) (by rw [← hs, List.drop_eq_nil_of_le (by omega)]; rfl))))
    0 1 (by omega) (by omega) ⟨by omega, by omega, rfl⟩
  have ⟨b0, b1⟩ := rd_byte l hb i h0 h1
  rw [check_step s _ p0 p1 b0 b1]
  exact h
theorem impl_CheckOf_ev (l : List Int) (hl : l.length ≤ 140737488351232) (hb : ∀ x ∈ l, 0 ≤ x ∧ x < 256) : Ev (fun k => impl_CheckOf.f k l) (checkL 1 l) := by
  unfold impl_CheckOf.f
  refine Ev.upto1 (fun k s i => impl_CheckOf.l0 k s l (l.length : Int) i) l.length (by omega) (fun i s => 0 ≤ s ∧ s < 65521 ∧ checkL s (l.drop i.toNat) = checkL 1 l) (checkL 1 l)
    (fun i s h0 h1 ⟨p0, p1, hs⟩ => .inl ⟨(s * 257 + rd l i + 1) % 65521, ⟨by omega, by omega, (check_next l i s h0 h1).trans hs⟩, fun h => Ev.step (fun k => impl_CheckOf.l0.eq_2 ..) (Ev.pos h1 (Ev.pos h0 (Ev.pos h1 ?_)))⟩)
    (fun s ⟨p0, p1, hs⟩ => Ev.step (fun k => impl_CheckOf.l0.eq_2 ..) (Ev.neg (by omega) (Ev.eq (Ev.now _) (by rw [← hs, List.drop_eq_nil_of_le (by omega)]; rfl))))
    0 1 (by omega) (by omega) ⟨by omega, by omega, rfl⟩
  have ⟨b0, b1⟩ := rd_byte l hb i h0 h1
  rw [check_step s _ p0 p1 b0 b1]
  exact h

/-- A number below 65536 in two bytes, the higher one first. -/
def pairL (n : Int) : List Int := [n / 256 % 256, n % 256]
/-- A record: how many bytes, their check, and they. -/
def frameL (l : List Int) : List Int := pairL l.length ++ pairL (checkL 1 l) ++ l

theorem l3Short_eq (n : Int) (h0 : 0 ≤ n) (h1 : n < 100000) : spec_l3Short.f n = some (pairL n) := by
  unfold spec_l3Short.f pairL
  rw [Int.tdiv_eq_ediv_of_nonneg h0, Int.tmod_eq_emod_of_nonneg h0, w64 (by omega) (by omega)]
  rw [show n % 256 % 256 = n % 256 by omega]
theorem spec_l3Frame_ev (l : List Int) (hl : l.length ≤ 500) (hb : ∀ x ∈ l, 0 ≤ x ∧ x < 256) : Ev (fun k => spec_l3Frame.f k l) (frameL l) := by
  have hc := checkL_bound l 1 (by decide) (by decide)
  unfold spec_l3Frame.f
  rw [l3Short_eq _ (by omega) (by omega)]
  refine Ev.let (Ev.bind (spec_CheckOf_ev l (by omega) hb) ?_)
  rw [l3Short_eq _ hc.1 (by omega)]
  refine Ev.let (Ev.pos ?_ ?_)
  · simp [pairL]
  · refine Ev.let (Ev.pos ?_ (Ev.now _))
    simp [pairL]; omega
theorem impl_frame_ev (l : List Int) (hl : l.length ≤ 500) (hb : ∀ x ∈ l, 0 ≤ x ∧ x < 256) : Ev (fun k => impl_frame.f k l) (frameL l) := by
  unfold impl_frame.f impl_size_byte.f impl_pair.f
  refine Ev.let (Ev.let (Ev.bind (impl_CheckOf_ev l (by omega) hb) (Ev.let (Ev.pos ?_ ?_))))
  · simp
  · refine Ev.let (Ev.pos ?_ (Ev.now _))
    simp; omega
/-- What FrameRecord tells. -/
def frameR (l : List Int) : Int × List Int := if 1 ≤ l.length ∧ l.length ≤ 500 then (0, frameL l) else (2, [])
theorem spec_FrameRecord_ev (l : List Int) (hb : ∀ x ∈ l, 0 ≤ x ∧ x < 256) : Ev (fun k => spec_FrameRecord.f k l) (frameR l) := by
  unfold spec_FrameRecord.f frameR
  by_cases h1 : 1 ≤ l.length
  · by_cases h2 : l.length ≤ 500
    · rw [if_pos ⟨h1, h2⟩]
      exact Ev.neg (by omega) (Ev.neg (by omega) (Ev.bind (spec_l3Frame_ev l h2 hb) (Ev.now _)))
    · rw [if_neg (by omega)]
      exact Ev.neg (by omega) (Ev.pos (by omega) (Ev.now _))
  · rw [if_neg (by omega)]
    exact Ev.pos (by omega) (Ev.now _)
theorem impl_FrameRecord_ev (l : List Int) (hb : ∀ x ∈ l, 0 ≤ x ∧ x < 256) : Ev (fun k => impl_FrameRecord.f k l) (frameR l) := by
  unfold impl_FrameRecord.f frameR impl_size_byte.f impl_within.f
  refine Ev.let ?_
  by_cases h1 : 1 ≤ l.length
  · rw [if_pos (show (l.length : Int) ≥ 1 by omega)]
    by_cases h2 : l.length ≤ 500
    · rw [if_pos ⟨h1, h2⟩]
      exact Ev.let (Ev.pos (by simp; omega) (Ev.bind (impl_frame_ev l h2 hb) (Ev.now _)))
    · rw [if_neg (show ¬ (1 ≤ l.length ∧ l.length ≤ 500) by omega)]
      exact Ev.let (Ev.neg (by simp; omega) (Ev.now _))
  · rw [if_neg (show ¬ ((l.length : Int) ≥ 1) by omega), if_neg (show ¬ (1 ≤ l.length ∧ l.length ≤ 500) by omega)]
    exact Ev.let (Ev.neg (by simp) (Ev.now _))
theorem frameR_len (l : List Int) : (frameR l).2.length ≤ 504 := by
  unfold frameR
  split
  · simp [frameL, pairL]; omega
  · simp

/-- What AppendLog tells. -/
def appendR (l m d : List Int) : Int × List Int × List Int :=
  if logFault l.length m.length = 0 then (if (frameR d).1 = 0 then (if logFault l.length (m ++ (frameR d).2).length = 0 then (0, l, m ++ (frameR d).2) else (2, [], [])) else ((frameR d).1, [], [])) else (logFault l.length m.length, [], [])
theorem logFault_or (n m : Nat) : logFault n m = 0 ∨ logFault n m = 2 := by
  unfold logFault
  split
  · exact .inr rfl
  · exact .inl rfl
theorem frameR_ok (d : List Int) (h : (frameR d).1 = 0) : d.length ≤ 500 ∧ (frameR d).2 = frameL d := by
  unfold frameR at *
  split at h
  · next h2 => rw [if_pos h2]; exact ⟨h2.2, rfl⟩
  · cases h
theorem spec_AppendLog_ev (l m d : List Int) (h : l.length + m.length ≤ 2000000) (hb : ∀ x ∈ d, 0 ≤ x ∧ x < 256) : Ev (fun k => spec_AppendLog.f k l m d) (appendR l m d) := by
  unfold spec_AppendLog.f appendR
  refine Ev.bind (Ev.is (spec_LogFault_eq l m)) (Ev.cond (fun hf => Ev.bind (spec_FrameRecord_ev d hb) (Ev.cond (fun hr => ?_) (fun _ => Ev.now _))) (fun _ => Ev.now _))
  obtain ⟨hd, e⟩ := frameR_ok d hr
  have hlen := frameR_len d
  unfold spec_l4Append.f
  have hc : spec_l4Copy.f l m = some (l, m) := by
    unfold spec_l4Copy.f
    simp only [Option.bind_some, List.nil_append, List.length_nil]
    rw [if_pos (by omega), if_pos (by omega)]
  rw [e] at hlen ⊢
  refine Ev.bind (a := (l, m ++ frameL d, logFault l.length (m ++ frameL d).length)) (Ev.bind (Ev.is hc) (Ev.bind (spec_l3Frame_ev d hd hb) (Ev.pos (by simp; omega) (Ev.let (Ev.bind (Ev.is (spec_LogFault_eq _ _)) (Ev.now _)))))) ?_
  refine Ev.cond (fun _ => Ev.now _) (fun h0 => Ev.eq (Ev.now _) ?_)
  rcases logFault_or l.length (m ++ frameL d).length with h | h
  · exact absurd h h0
  · simp only [h]
theorem clone_eq (l : List Int) (h : l.length ≤ 2000000) : bytes_Clone.f l = some l := by
  unfold bytes_Clone.f
  simp only [Option.bind_some, List.nil_append, List.length_nil]
  rw [if_pos (by omega)]
theorem firstOf_ev (x y : Int) : Ev (fun k => impl_firstOf.f k [x, y]) (if x = 0 then y else x) := by
  refine ⟨3, fun k hk => ?_⟩
  obtain ⟨k, rfl⟩ : ∃ j, k = j + 3 := ⟨k - 3, by omega⟩
  unfold impl_firstOf.f
  have w1 : wrap64 (0 + 1) = 1 := by rw [w64 (by decide) (by decide)]; rfl
  have w2 : wrap64 (1 + 1) = 2 := by rw [w64 (by decide) (by decide)]; rfl
  have r0 : rd [x, y] 0 = x := rfl
  have r1 : rd [x, y] 1 = y := rfl
  simp only [impl_firstOf.l0, List.length_cons, List.length_nil, w1, w2, r0, r1]
  by_cases h1 : x = 0 <;> by_cases h2 : y = 0 <;> simp [h1, h2]
theorem impl_AppendLog_ev (l m d : List Int) (h : l.length + m.length ≤ 2000000) (hb : ∀ x ∈ d, 0 ≤ x ∧ x < 256) : Ev (fun k => impl_AppendLog.f k l m d) (appendR l m d) := by
  unfold impl_AppendLog.f appendR
  refine Ev.bind (impl_FrameRecord_ev d hb) (Ev.bind (Ev.is (impl_LogFault_eq l m)) (Ev.bind (firstOf_ev _ _) ?_))
  have hlen := frameR_len d
  have hc : impl_copyLog.f l m = some (l, m) := by
    unfold impl_copyLog.f
    rw [clone_eq l (by omega), clone_eq m (by omega)]
    rfl
  by_cases hf : logFault l.length m.length = 0
  · simp only [if_pos hf]
    exact Ev.cond (fun _ => Ev.bind (Ev.is hc) (Ev.pos (by simp only []; omega) (Ev.let (Ev.bind (Ev.is (impl_LogFault_eq _ _)) (Ev.cond (fun _ => Ev.now _) (fun _ => Ev.now _)))))) (fun _ => Ev.now _)
  · simp only [if_neg hf]
    exact Ev.now _
theorem appendR_len (l m d : List Int) : (appendR l m d).2.1.length + (appendR l m d).2.2.length ≤ l.length + m.length + 504 := by
  have := frameR_len d
  unfold appendR
  split
  · split
    · split
      · simp; omega
      · simp
    · simp
  · simp

/-- How long rows are together. -/
def sumLen (ls : List (List Int)) : Nat := (ls.map List.length).sum
theorem rdLL {l : List (List Int)} {i : Int} {v : List Int} (h : l[i.toNat]? = some v) : rd_L1 l i = v := by
  unfold rd_L1
  rw [List.getD_eq_getElem?_getD, h]
  rfl
theorem sumLen_drop (ls : List (List Int)) (i : Nat) (h : i < ls.length) : sumLen (ls.drop i) = (ls[i]'h).length + sumLen (ls.drop (i + 1)) := by
  rw [drop_cons_at ls i h]
  simp only [sumLen, List.map_cons, List.sum_cons]
theorem sumLen_drop_le (ls : List (List Int)) (i : Nat) : sumLen (ls.drop i) ≤ sumLen ls := by
  have := List.take_append_drop i ls
  have e : sumLen ls = sumLen (ls.take i) + sumLen (ls.drop i) := by
    conv => lhs; rw [← this]
    simp only [sumLen, List.map_append, List.sum_append]
  omega
theorem concat_ev (ls : List (List Int)) (hn : (ls.length : Int) ≤ 9000000000000000000) (hs : sumLen ls < 140737488355328) : Ev (fun k => slices_Concat_byte.f k ls) ls.flatten := by
  unfold slices_Concat_byte.f
  refine Ev.upto1 (fun k (s : Int) i => slices_Concat_byte.l0 k ls s ls (ls.length : Int) i) ls.length (by omega) (fun i s => 0 ≤ s ∧ s + sumLen (ls.drop i.toNat) = sumLen ls) ls.flatten
    (fun i s h0 h1 ⟨p0, hs'⟩ => ?_) (fun s ⟨p0, hs'⟩ => ?_) 0 0 (by omega) (by omega) ⟨by omega, by simp⟩
  · have e1 : ls[i.toNat]? = some (ls[i.toNat]'(by omega)) := List.getElem?_eq_getElem (by omega)
    have e2 := sumLen_drop ls i.toNat (by omega)
    generalize ls[i.toNat]'(by omega) = l at e1 e2
    refine .inl ⟨s + l.length, ⟨by omega, by rw [show (i + 1).toNat = i.toNat + 1 by omega]; omega⟩, fun h => Ev.step (fun k => slices_Concat_byte.l0.eq_2 ..) (Ev.pos h1 (Ev.pos h0 (Ev.pos h1 ?_)))⟩
    rw [rdLL e1, w64 (x := s + (l.length : Int)) (by omega) (by omega)]
    exact Ev.neg (by omega) h
  · refine Ev.step (fun k => slices_Concat_byte.l0.eq_2 ..) (Ev.neg (by omega) (Ev.bind (a := []) (Ev.is (by
      unfold slices_Grow_byte.f
      rw [if_pos (by omega)])) ?_))
    refine Ev.upto1 (fun k (s : List Int) i => slices_Concat_byte.l1 k s ls (ls.length : Int) i) ls.length (by omega) (fun i s => s ++ (ls.drop i.toNat).flatten = ls.flatten ∧ s.length + sumLen (ls.drop i.toNat) = sumLen ls) ls.flatten
      (fun i s h0 h1 ⟨hf, hl⟩ => ?_) (fun s ⟨hf, hl⟩ => Ev.step (fun k => slices_Concat_byte.l1.eq_2 ..) (Ev.neg (by omega) (Ev.eq (Ev.now _) (by rw [← hf, List.drop_eq_nil_of_le (by omega)]; simp)))) 0 [] (by omega) (by omega) ⟨by simp, by simp⟩
    have e1 : ls[i.toNat]? = some (ls[i.toNat]'(by omega)) := List.getElem?_eq_getElem (by omega)
    have e2 := sumLen_drop ls i.toNat (by omega)
    rw [drop_cons_at ls i.toNat (by omega)] at hf
    generalize ls[i.toNat]'(by omega) = l at e1 e2 hf
    refine .inl ⟨s ++ l, ⟨by rw [show (i + 1).toNat = i.toNat + 1 by omega, ← hf]; simp, by rw [show (i + 1).toNat = i.toNat + 1 by omega]; simp; omega⟩, fun h => Ev.step (fun k => slices_Concat_byte.l1.eq_2 ..) (Ev.pos h1 (Ev.pos h0 (Ev.pos h1 ?_)))⟩
    rw [rdLL e1]
    exact Ev.pos (by omega) h

theorem logFault_zero {n m : Nat} (h : n + m ≤ 2000000) : logFault n m = if n + m ≤ 6000 then 0 else 2 := by
  unfold logFault
  rw [w64 (by omega) (by omega)]
  by_cases h : n + m ≤ 6000
  · rw [if_neg (by omega), if_pos h]
  · rw [if_pos (by omega), if_neg h]
/-- What SyncLog tells. -/
def syncR (l m : List Int) : Int × List Int × List Int := if logFault l.length m.length = 0 then (0, l ++ m, []) else (logFault l.length m.length, [], [])
theorem spec_l4Sync_ev (l m : List Int) (h : l.length + m.length ≤ 2000000) : spec_l4Sync.f l m = some (l ++ m, []) := by
  unfold spec_l4Sync.f
  simp only [Option.bind_some, List.nil_append, List.length_nil]
  rw [if_pos (by omega), if_pos (by omega)]
theorem sync_any (c : Int) (t : Option (List Int × List Int)) (l m : List Int) (h : t = some (l ++ m, [])) :
    ((some c).bind fun x => (if x = 0 then (t.bind fun y => (some (0, y.1, y.2))) else (some (x, ([] : List Int), ([] : List Int))))) = some (if c = 0 then (0, l ++ m, []) else (c, [], [])) := by
  subst h
  by_cases hc : c = 0
  · subst hc
    rfl
  · simp only [Option.bind_some, if_neg hc]
theorem impl_SyncLog_ev (l m : List Int) (h : l.length + m.length ≤ 2000000) : Ev (fun k => impl_SyncLog.f k l m) (syncR l m) := by
  unfold impl_SyncLog.f syncR
  refine Ev.bind (Ev.is (impl_LogFault_eq l m)) ?_
  by_cases hf : logFault l.length m.length = 0
  · rw [if_pos hf]
    refine Ev.pos hf (Ev.bind (concat_ev [l, m] (by simp) (by simp [sumLen]; omega)) ?_)
    simp only [List.flatten_cons, List.flatten_nil, List.append_nil]
    exact Ev.now _
  · rw [if_neg hf]
    exact Ev.neg hf (Ev.now _)
theorem syncR_len (l m : List Int) : (syncR l m).2.1.length + (syncR l m).2.2.length ≤ l.length + m.length := by
  unfold syncR
  split <;> simp

theorem l4Append_any (l m d : List Int) (h : l.length + m.length ≤ 2000000) (hd : d.length ≤ 500) (hb : bytesL d) : Ev (fun k => spec_l4Append.f k l m d) (l, m ++ frameL d, logFault l.length (m ++ frameL d).length) := by
  unfold spec_l4Append.f
  have hc : spec_l4Copy.f l m = some (l, m) := by
    unfold spec_l4Copy.f
    simp only [Option.bind_some, List.nil_append, List.length_nil]
    rw [if_pos (by omega), if_pos (by omega)]
  have hlen : (frameL d).length ≤ 504 := by simp [frameL, pairL]; omega
  exact Ev.bind (Ev.is hc) (Ev.bind (spec_l3Frame_ev d hd hb) (Ev.pos (by simp only []; omega) (Ev.let (Ev.bind (Ev.is (spec_LogFault_eq _ _)) (Ev.now _)))))
theorem frameL_bytes (d : List Int) (h : bytesL d) : bytesL (frameL d) := by
  intro x hx
  simp only [frameL, pairL, List.mem_append, List.mem_cons, List.not_mem_nil, or_false] at hx
  rcases hx with ((h1 | h1) | h1 | h1) | h1
  all_goals first | exact h x h1 | omega
theorem bytesL_append {l m : List Int} (hl : bytesL l) (hm : bytesL m) : bytesL (l ++ m) := fun x hx => (List.mem_append.1 hx).elim (hl x) (hm x)
theorem log_loop (c : List Int) (hb : bytesL c) (hl : c.length ≤ 2000000) : ∀ (n : Nat) (s : Int) (l m : List Int), n ≤ 5 → 0 ≤ s → s + 700 * n ≤ 1000000000 → l.length + m.length ≤ 6000 → bytesL l → bytesL m →
    ∃ l' m' s', Ev (fun k => spec_l4Log.l0 k (n : Int) c s l m) (l', m', s') ∧ 0 ≤ s' ∧ s' ≤ s + 700 * n + 10 ∧ l'.length + m'.length ≤ 13000 ∧ bytesL l' ∧ bytesL m' := by
  intro n
  induction n with
  | zero =>
    intro s l m _ h0 h1 h2 hbl hbm
    obtain ⟨a, ha, a0, a1, _⟩ := next_ok c hb hl s h0 (by omega) 16
    by_cases e0 : a = 0
    · obtain ⟨r, s', hr, q1, q2, q3, q4⟩ := cut_ok c hb hl (s + 1) (by omega) (by omega) m hbm (by omega)
      exact ⟨l, r, s', Ev.step (fun k => spec_l4Log.l0.eq_2 ..) (Ev.neg (by omega) (Ev.bind (Ev.is ha) (Ev.pos e0 (Ev.bind (Ev.is hr) (Ev.now _))))), by omega, by omega, by omega, hbl, q4⟩
    · by_cases e1 : a = 1
      · obtain ⟨r, s', hr, q1, q2, q3, q4⟩ := cut_ok c hb hl (s + 1) (by omega) (by omega) l hbl (by omega)
        exact ⟨r, m, s', Ev.step (fun k => spec_l4Log.l0.eq_2 ..) (Ev.neg (by omega) (Ev.bind (Ev.is ha) (Ev.neg e0 (Ev.pos e1 (Ev.bind (Ev.is hr) (Ev.now _)))))), by omega, by omega, by omega, q4, hbm⟩
      · by_cases e2 : a = 2
        · obtain ⟨v, hv, v0, v1, _⟩ := next_ok c hb hl (s + 1) (by omega) (by omega) 2
          have v1 := v1 (by omega)
          have w : wrap64 (6000 + v) = 6000 + v := w64 (by omega) (by omega)
          refine ⟨List.replicate (6000 + v).toNat 0, m, s + 1 + 1, Ev.step (fun k => spec_l4Log.l0.eq_2 ..) (Ev.neg (by omega) (Ev.bind (Ev.is ha) (Ev.neg e0 (Ev.neg e1 (Ev.pos e2 (Ev.bind (Ev.is hv) ?_)))))), by omega, by omega, by rw [List.length_replicate]; omega, fun x hx => by rw [(List.mem_replicate.1 hx).2]; decide, hbm⟩
          simp only [w]
          exact Ev.pos (by omega) (Ev.pos (by omega) (Ev.now _))
        · exact ⟨l, m, s + 1, Ev.step (fun k => spec_l4Log.l0.eq_2 ..) (Ev.neg (by omega) (Ev.bind (Ev.is ha) (Ev.neg e0 (Ev.neg e1 (Ev.neg e2 (Ev.now _)))))), by omega, by omega, by omega, hbl, hbm⟩
  | succ n ih =>
    intro s l m hn h0 h1 h2 hbl hbm
    obtain ⟨d, s1, hd, d0, d1, d2, d3⟩ := some_ok c hb hl s h0 (by omega)
    have hw : wrap64 (((n + 1 : Nat) : Int) - 1) = (n : Int) := by rw [w64 (by omega) (by omega)]; omega
    -- behind the record: a chance to sync
    have rest : ∀ l2 m2 : List Int, l2.length + m2.length ≤ 6000 → bytesL l2 → bytesL m2 → ∀ s2 : Int, s1 ≤ s2 → s2 ≤ s1 + 1 →
        ∃ l' m' s', Ev (fun k => spec_l4Log.l0 k (n : Int) c s2 l2 m2) (l', m', s') ∧ 0 ≤ s' ∧ s' ≤ s + 700 * ((n + 1 : Nat) : Int) + 10 ∧ l'.length + m'.length ≤ 13000 ∧ bytesL l' ∧ bytesL m' := fun l2 m2 q1 q2 q3 s2 q4 q5 => by
      obtain ⟨l', m', s', h, p1, p2, p3⟩ := ih s2 l2 m2 (by omega) (by omega) (by omega) q1 q2 q3
      exact ⟨l', m', s', h, p1, by omega, p3⟩
    have two : ∀ l2 m2 : List Int, l2.length + m2.length ≤ 6000 → bytesL l2 → bytesL m2 →
        ∃ l' m' s', Ev (fun k => (spec_l1Chance.f c s1 3).bind fun bt => (if bt.1 = true then ((spec_l4Sync.f l2 m2).bind fun b2 => (spec_l4Log.l0 k (wrap64 (((n + 1 : Nat) : Int) - 1)) c bt.2 b2.1 b2.2)) else (spec_l4Log.l0 k (wrap64 (((n + 1 : Nat) : Int) - 1)) c bt.2 l2 m2))) (l', m', s') ∧ 0 ≤ s' ∧ s' ≤ s + 700 * ((n + 1 : Nat) : Int) + 10 ∧ l'.length + m'.length ≤ 13000 ∧ bytesL l' ∧ bytesL m' := fun l2 m2 q1 q2 q3 => by
      obtain ⟨b, hbb⟩ := chance_ok c hb hl s1 (by omega) (by omega) 3
      rw [hw]
      cases b with
      | true =>
        obtain ⟨l', m', s', h, p⟩ := rest (l2 ++ m2) [] (by simpa using q1) (bytesL_append q2 q3) (fun x hx => by cases hx) (s1 + 1) (by omega) (by omega)
        exact ⟨l', m', s', Ev.bind (Ev.is hbb) (Ev.pos rfl (Ev.bind (Ev.is (spec_l4Sync_ev l2 m2 (by omega))) h)), p⟩
      | false =>
        obtain ⟨l', m', s', h, p⟩ := rest l2 m2 q1 q2 q3 (s1 + 1) (by omega) (by omega)
        exact ⟨l', m', s', Ev.bind (Ev.is hbb) (Ev.neg (by simp) h), p⟩
    by_cases c1 : (d.length : Int) < 1
    · obtain ⟨l', m', s', h, p⟩ := rest l m h2 hbl hbm s1 (by omega) (by omega)
      exact ⟨l', m', s', Ev.step (fun k => spec_l4Log.l0.eq_2 ..) (Ev.pos (by omega) (Ev.bind hd (Ev.pos c1 (by rw [hw]; exact h)))), p⟩
    · by_cases c2 : (d.length : Int) > 500
      · obtain ⟨l', m', s', h, p⟩ := rest l m h2 hbl hbm s1 (by omega) (by omega)
        exact ⟨l', m', s', Ev.step (fun k => spec_l4Log.l0.eq_2 ..) (Ev.pos (by omega) (Ev.bind hd (Ev.neg c1 (Ev.pos c2 (by rw [hw]; exact h))))), p⟩
      · have ha := l4Append_any l m d (by omega) (by omega) d3
        by_cases c3 : logFault l.length (m ++ frameL d).length = 0
        · have hz : l.length + (m ++ frameL d).length ≤ 6000 := by
            have hlen : (frameL d).length ≤ 504 := by simp [frameL, pairL]; omega
            rw [logFault_zero (by rw [List.length_append]; omega)] at c3
            split at c3
            · assumption
            · cases c3
          obtain ⟨l', m', s', h, p⟩ := two l (m ++ frameL d) hz hbl (bytesL_append hbm (frameL_bytes d d3))
          exact ⟨l', m', s', Ev.step (fun k => spec_l4Log.l0.eq_2 ..) (Ev.pos (by omega) (Ev.bind hd (Ev.neg c1 (Ev.neg c2 (Ev.bind ha (Ev.pos c3 h)))))), p⟩
        · obtain ⟨l', m', s', h, p⟩ := two l m h2 hbl hbm
          exact ⟨l', m', s', Ev.step (fun k => spec_l4Log.l0.eq_2 ..) (Ev.pos (by omega) (Ev.bind hd (Ev.neg c1 (Ev.neg c2 (Ev.bind ha (Ev.neg c3 h)))))), p⟩
theorem log_ok (c : List Int) (hb : bytesL c) (hl : c.length ≤ 2000000) (s : Int) (h0 : 0 ≤ s) (h1 : s ≤ 1000000) :
    ∃ l m s', Ev (fun k => spec_l4Log.f k c s) (l, m, s') ∧ 0 ≤ s' ∧ s' ≤ 2000000 ∧ l.length + m.length ≤ 13000 ∧ bytesL l ∧ bytesL m := by
  obtain ⟨a, ha, a0, a1, _⟩ := next_ok c hb hl s h0 (by omega) 6
  have a1 := a1 (by omega)
  obtain ⟨n, rfl⟩ : ∃ n : Nat, a = (n : Int) := ⟨a.toNat, by omega⟩
  obtain ⟨l, m, s', h, p1, p2, p3⟩ := log_loop c hb hl n (s + 1) [] [] (by omega) (by omega) (by omega) (by simp) (fun x hx => by cases hx) (fun x hx => by cases hx)
  refine ⟨l, m, s', ?_, p1, by omega, p3⟩
  unfold spec_l4Log.f
  exact Ev.bind (Ev.is ha) h

/-- Bytes marked one behind the other from k on. -/
def markB (n : Nat) (k : Int) : List Int := (List.range n).map fun (i : Nat) => (k + i) % 256
theorem markB_len (n : Nat) (k : Int) : (markB n k).length = n := by simp [markB]
theorem markB_get (n : Nat) (k : Int) (i : Nat) (h : i < n) : (markB n k)[i]? = some ((k + i) % 256) := by simp [markB, h]
/-- How many cells rows have. -/
def totB (ls : List (List Int)) : Nat := (ls.map List.length).sum
/-- Rows of bytes marked one behind the other from m on. -/
def markBs : List (List Int) → Int → List (List Int)
  | [], _ => []
  | l :: ls, m => markB l.length m :: markBs ls (m + l.length)
/-- How many bytes the record at the beginning tells of. -/
def recN (d : List Int) : Int := rd d 0 * 256 + rd d 1
/-- The record at the beginning of bytes: what it holds. -/
def recD (d : List Int) : List Int := (d.drop 4).take (recN d).toNat
/-- Is there a record at the beginning? -/
def isRec (d : List Int) : Bool := decide (4 < d.length ∧ 1 ≤ recN d ∧ recN d ≤ 500 ∧ 4 + recN d ≤ d.length ∧ checkL 1 (recD d) = rd d 2 * 256 + rd d 3)
/-- The records at the beginning, and how many bytes they are. -/
def recs : Nat → List Int → List (List Int) × Nat
  | 0, _ => ([], 0)
  | f + 1, d => if isRec d = true then (recD d :: (recs f (d.drop (4 + (recN d).toNat))).1, 4 + (recN d).toNat + (recs f (d.drop (4 + (recN d).toNat))).2) else ([], 0)
theorem isRec_iff (d : List Int) : isRec d = true ↔ (4 < d.length ∧ 1 ≤ recN d ∧ recN d ≤ 500 ∧ 4 + recN d ≤ d.length ∧ checkL 1 (recD d) = rd d 2 * 256 + rd d 3) := by
  unfold isRec
  simp
theorem recD_len (d : List Int) (h : isRec d = true) : (recD d).length = (recN d).toNat := by
  obtain ⟨h1, h2, h3, h4, _⟩ := (isRec_iff d).1 h
  unfold recD
  rw [List.length_take, List.length_drop]
  omega
theorem recs_used (f : Nat) : ∀ d : List Int, (recs f d).2 ≤ d.length := by
  induction f with
  | zero => intro d; simp [recs]
  | succ f ih =>
    intro d
    unfold recs
    by_cases h : isRec d = true
    · rw [if_pos h]
      obtain ⟨h1, h2, h3, h4, _⟩ := (isRec_iff d).1 h
      have := ih (d.drop (4 + (recN d).toNat))
      rw [List.length_drop] at this
      simp only
      omega
    · rw [if_neg h]
      simp
/-- More rounds tell the same. -/
theorem recs_more : ∀ (f g : Nat) (d : List Int), d.length ≤ f → d.length ≤ g → recs f d = recs g d := by
  intro f
  induction f with
  | zero =>
    intro g d hf hg
    have hd : d = [] := List.length_eq_zero_iff.1 (by omega)
    subst hd
    cases g with
    | zero => rfl
    | succ g => simp [recs, isRec]
  | succ f ih =>
    intro g d hf hg
    cases g with
    | zero =>
      have hd : d = [] := List.length_eq_zero_iff.1 (by omega)
      subst hd
      simp [recs, isRec]
    | succ g =>
      unfold recs
      by_cases h : isRec d = true
      · rw [if_pos h, if_pos h, ih g (d.drop (4 + (recN d).toNat)) (by rw [List.length_drop]; omega) (by rw [List.length_drop]; omega)]
      · rw [if_neg h, if_neg h]
/-- The records at the beginning of bytes. -/
def records (d : List Int) : List (List Int) := (recs d.length d).1
def usedB (d : List Int) : Nat := (recs d.length d).2

theorem spec_l3Records_loop (l : List Int) (hb : ∀ x ∈ l, 0 ≤ x ∧ x < 256) (hl : l.length ≤ 2000000) : ∀ (f : Nat) (acc : List (List Int)) (n : Nat), n ≤ l.length → l.length - n ≤ f → acc.length + (l.length - n) ≤ 5000000 →
    Ev (fun k => spec_l3Records.l0 k l acc (n : Int)) (acc ++ (recs f (l.drop n)).1, (n : Int) + (recs f (l.drop n)).2) := by
  intro f
  induction f with
  | zero =>
    intro acc n h0 h1 h2
    refine Ev.step (fun k => spec_l3Records.l0.eq_2 ..) ?_
    rw [w64 (by omega) (by omega)]
    exact Ev.neg (by omega) (Ev.eq (Ev.now _) (by simp [recs]))
  | succ f ih =>
    intro acc n h0 h1 h2
    have r0 : rd l (n : Int) = rd (l.drop n) 0 := by rw [rd_drop _ _ _ (by decide)]; simp
    have r1 : rd l (wrap64 ((n : Int) + 1)) = rd (l.drop n) 1 := by rw [rd_drop _ _ _ (by decide), w64 (by omega) (by omega)]
    have r2 : rd l (wrap64 ((n : Int) + 2)) = rd (l.drop n) 2 := by rw [rd_drop _ _ _ (by decide), w64 (by omega) (by omega)]
    have r3 : rd l (wrap64 ((n : Int) + 3)) = rd (l.drop n) 3 := by rw [rd_drop _ _ _ (by decide), w64 (by omega) (by omega)]
    have hdb : ∀ x ∈ l.drop n, 0 ≤ x ∧ x < 256 := fun x hx => hb x (List.mem_of_mem_drop hx)
    have b0 := rd_bound _ hdb 0
    have b1 := rd_bound _ hdb 1
    have b2 := rd_bound _ hdb 2
    have b3 := rd_bound _ hdb 3
    have hdl : (l.drop n).length = l.length - n := List.length_drop ..
    have hN : wrap64 (wrap64 (wrap64 (rd (l.drop n) 0) * 256) + wrap64 (rd (l.drop n) 1)) = recN (l.drop n) := by
      unfold recN
      rw [w64 (x := rd (l.drop n) 0) (by omega) (by omega), w64 (x := rd (l.drop n) 1) (by omega) (by omega), w64 (x := rd (l.drop n) 0 * 256) (by omega) (by omega), w64 (by omega) (by omega)]
    have hNb : 0 ≤ recN (l.drop n) ∧ recN (l.drop n) ≤ 65535 := by unfold recN; omega
    refine Ev.step (fun k => spec_l3Records.l0.eq_2 ..) ?_
    rw [w64 (x := (n : Int) + 4) (by omega) (by omega), r0, r1, hN]
    unfold recs
    by_cases hlen : 4 < (l.drop n).length
    · refine Ev.pos (by omega) (Ev.pos (by omega) (Ev.pos (by omega) (Ev.pos (by rw [w64 (by omega) (by omega)]; omega) (Ev.pos (by rw [w64 (by omega) (by omega)]; omega) ?_))))
      by_cases hr : isRec (l.drop n) = true
      · rw [if_pos hr]
        obtain ⟨_, q1, q2, q3, q4⟩ := (isRec_iff _).1 hr
        have hrl := recD_len _ hr
        have hcut : (l.take ((n : Int) + 4 + recN (l.drop n)).toNat).drop ((n : Int) + 4).toNat = recD (l.drop n) := by
          unfold recD
          rw [List.drop_take, List.drop_drop]
          congr 1
          · omega
        refine Ev.neg (by omega) (Ev.neg (by omega) (Ev.step (fun k => spec_l3Records.j1.eq_2 ..) ?_))
        rw [w64 (x := (n : Int) + 4) (by omega) (by omega), w64 (x := (n : Int) + 4 + recN (l.drop n)) (by omega) (by omega), hcut, r2, r3]
        refine Ev.neg (by simp only [decide_eq_true_eq]; omega) (Ev.pos (by omega) (Ev.pos (by omega) (Ev.pos (by omega) (Ev.bind (spec_CheckOf_ev _ (by omega) (fun x hx => hdb x (List.mem_of_mem_drop (List.mem_of_mem_take hx)))) ?_))))
        refine Ev.pos (by rw [w64 (by omega) (by omega)]; omega) (Ev.pos (by rw [w64 (by omega) (by omega)]; omega) (Ev.pos (by rw [w64 (by omega) (by omega)]; omega) (Ev.pos (by rw [w64 (by omega) (by omega)]; omega) (Ev.pos ?_ ?_))))
        · rw [q4, w64 (x := rd (l.drop n) 2) (by omega) (by omega), w64 (x := rd (l.drop n) 3) (by omega) (by omega), w64 (x := rd (l.drop n) 2 * 256) (by omega) (by omega), w64 (by omega) (by omega)]
        · refine Ev.let (Ev.pos (by simp; omega) (Ev.pos (by omega) ?_))
          have e := ih (acc ++ [recD (l.drop n)]) (n + 4 + (recN (l.drop n)).toNat) (by omega) (by omega) (by simp; omega)
          rw [show ((n + 4 + (recN (l.drop n)).toNat : Nat) : Int) = (n : Int) + 4 + recN (l.drop n) by omega] at e
          simp only [List.nil_append]
          refine Ev.eq e ?_
          rw [List.drop_drop, show n + (4 + (recN (l.drop n)).toNat) = n + 4 + (recN (l.drop n)).toNat by omega]
          simp only [List.append_assoc, List.cons_append, List.nil_append, Prod.mk.injEq, true_and]
          omega
      · rw [if_neg hr]
        have hstop : Ev (fun k => spec_l3Records.j1 k l acc n (recN (l.drop n)) true) (acc ++ ([] : List (List Int)), (n : Int) + ((0 : Nat) : Int)) := Ev.step (fun k => spec_l3Records.j1.eq_2 ..) (Ev.pos rfl (Ev.eq (Ev.now _) (by simp)))
        by_cases q1 : recN (l.drop n) < 1
        · exact Ev.pos q1 hstop
        · by_cases q2 : recN (l.drop n) > 500
          · exact Ev.neg q1 (Ev.pos q2 hstop)
          · refine Ev.neg q1 (Ev.neg q2 (Ev.step (fun k => spec_l3Records.j1.eq_2 ..) ?_))
            rw [w64 (x := (n : Int) + 4) (by omega) (by omega), w64 (x := (n : Int) + 4 + recN (l.drop n)) (by omega) (by omega)]
            by_cases q3 : (n : Int) + 4 + recN (l.drop n) > (l.length : Int)
            · exact Ev.pos (by simpa using q3) (Ev.eq (Ev.now _) (by simp))
            · have hcut : (l.take ((n : Int) + 4 + recN (l.drop n)).toNat).drop ((n : Int) + 4).toNat = recD (l.drop n) := by
                unfold recD
                rw [List.drop_take, List.drop_drop]
                congr 1
                · omega
              rw [hcut, r2, r3]
              refine Ev.neg (by simpa using q3) (Ev.pos (by omega) (Ev.pos (by omega) (Ev.pos (by omega) (Ev.bind (spec_CheckOf_ev _ (by unfold recD; rw [List.length_take, List.length_drop]; omega) (fun x hx => hdb x (List.mem_of_mem_drop (List.mem_of_mem_take hx)))) ?_))))
              refine Ev.pos (by rw [w64 (by omega) (by omega)]; omega) (Ev.pos (by rw [w64 (by omega) (by omega)]; omega) (Ev.pos (by rw [w64 (by omega) (by omega)]; omega) (Ev.pos (by rw [w64 (by omega) (by omega)]; omega) (Ev.neg ?_ (Ev.eq (Ev.now _) (by simp))))))
              rw [w64 (x := rd (l.drop n) 2) (by omega) (by omega), w64 (x := rd (l.drop n) 3) (by omega) (by omega), w64 (x := rd (l.drop n) 2 * 256) (by omega) (by omega), w64 (by omega) (by omega)]
              exact fun h => hr ((isRec_iff _).2 ⟨hlen, by omega, by omega, by omega, h⟩)
    · have hr : ¬ isRec (l.drop n) = true := fun h => hlen ((isRec_iff _).1 h).1
      rw [if_neg hr]
      exact Ev.neg (by omega) (Ev.eq (Ev.now _) (by simp))
theorem spec_l3Records_ev (l : List Int) (hb : ∀ x ∈ l, 0 ≤ x ∧ x < 256) (hl : l.length ≤ 2000000) : Ev (fun k => spec_l3Records.f k l) (records l, (usedB l : Int)) := by
  unfold spec_l3Records.f
  exact Ev.eq (spec_l3Records_loop l hb hl l.length [] 0 (by omega) (by omega) (by simp; omega)) (by simp [records, usedB])

theorem within_eq (x a b : Int) : impl_within.f x a b = some (decide (a ≤ x ∧ x ≤ b)) := by
  unfold impl_within.f
  by_cases h1 : a ≤ x <;> simp [h1]

theorem bytes_inj (l m : List Int) (hl : ∀ x ∈ l, 0 ≤ x ∧ x < 256) (hm : ∀ x ∈ m, 0 ≤ x ∧ x < 256) : (strOfNums l).toList = (strOfNums m).toList ↔ l = m := by
  constructor
  · intro h
    rw [ByteArray.toList_eq, ByteArray.toList_eq, strOfNums_data, strOfNums_data] at h
    have h2 := congrArg (List.map fun b : UInt8 => (b.toNat : Int)) h
    have same : ∀ l : List Int, (∀ x ∈ l, 0 ≤ x ∧ x < 256) → (l.map fun n => UInt8.ofNat n.toNat).map (fun b : UInt8 => (b.toNat : Int)) = l := by
      intro l
      induction l with
      | nil => intro _; rfl
      | cons a l ih =>
        intro hl
        have ha := hl a (List.mem_cons_self ..)
        simp only [List.map_cons, ih (fun x hx => hl x (List.mem_cons_of_mem _ hx)), UInt8.toNat_ofNat']
        congr 1
        omega
    rw [same l hl, same m hm] at h2
    exact h2
  · intro h
    rw [h]
theorem clone_any (l : List Int) (h : l.length ≤ 2000000) : bytes_Clone.f l = some l := by
  unfold bytes_Clone.f
  simp only [Option.bind_some, List.nil_append, List.length_nil]
  rw [if_pos (by omega)]
theorem two_of (d : List Int) (h : 4 ≤ d.length) : (d.take 4).drop 2 = [rd d 2, rd d 3] := by
  match d, h with
  | a :: b :: c :: e :: t, _ => rfl
theorem unframe_no (d : List Int) (n : Int) : Ev (fun k => impl_unframe.j0 k d n true) ([], false) := Ev.step (fun k => impl_unframe.j0.eq_2 ..) (Ev.pos rfl (Ev.now _))
theorem impl_unframe_ev (d : List Int) (hb : ∀ x ∈ d, 0 ≤ x ∧ x < 256) (hl : d.length ≤ 2000000) : ∃ x, Ev (fun k => impl_unframe.f k d) (x, isRec d) ∧ (isRec d = true → x = recD d) := by
  have b0 := rd_bound _ hb 0
  have b1 := rd_bound _ hb 1
  have b2 := rd_bound _ hb 2
  have b3 := rd_bound _ hb 3
  have hN : wrap64 (wrap64 (wrap64 (rd d 0) * 256) + wrap64 (rd d 1)) = recN d := by
    unfold recN
    rw [w64 (x := rd d 0) (by omega) (by omega), w64 (x := rd d 1) (by omega) (by omega), w64 (x := rd d 0 * 256) (by omega) (by omega), w64 (by omega) (by omega)]
  have hNb : 0 ≤ recN d ∧ recN d ≤ 65535 := by unfold recN; omega
  have no : ¬ isRec d = true → ∀ x : List Int, ((x, false) : List Int × Bool) = (x, isRec d) := fun h x => by rw [Bool.eq_false_iff.2 h]
  unfold impl_unframe.f
  rw [hN, w64 (x := 4 + recN d) (by omega) (by omega)]
  by_cases h4 : d.length < 4
  · have hr : ¬ isRec d = true := fun h => by have := (isRec_iff d).1 h; omega
    exact ⟨[], Ev.pos (by omega) (Ev.eq (Ev.now _) (no hr [])), fun h => absurd h hr⟩
  · by_cases hw : 1 ≤ recN d ∧ recN d ≤ 500
    · by_cases hs : (d.length : Int) < 4 + recN d
      · have hr : ¬ isRec d = true := fun h => by have := (isRec_iff d).1 h; omega
        refine ⟨[], Ev.neg (by omega) (Ev.pos (by omega) (Ev.pos (by omega) (Ev.bind (Ev.is (within_eq _ _ _)) (Ev.pos (decide_eq_true hw) ?_)))), fun h => absurd h hr⟩
        rw [show decide ((d.length : Int) < 4 + recN d) = true from decide_eq_true hs]
        exact Ev.eq (unframe_no d _) (no hr [])
      · refine ⟨recD d, Ev.neg (by omega) (Ev.pos (by omega) (Ev.pos (by omega) (Ev.bind (Ev.is (within_eq _ _ _)) (Ev.pos (decide_eq_true hw) ?_)))), fun _ => rfl⟩
        rw [show decide ((d.length : Int) < 4 + recN d) = false from decide_eq_false hs]
        refine Ev.step (fun k => impl_unframe.j0.eq_2 ..) ?_
        rw [w64 (x := 4 + recN d) (by omega) (by omega)]
        have hcut : (d.take (4 + recN d).toNat).drop 4 = recD d := by
          unfold recD
          rw [List.drop_take]
          congr 1
          omega
        rw [hcut]
        have hrb : ∀ x ∈ recD d, 0 ≤ x ∧ x < 256 := fun x hx => hb x (List.mem_of_mem_drop (List.mem_of_mem_take hx))
        have hrl : (recD d).length ≤ 2000000 := by
          unfold recD
          rw [List.length_take, List.length_drop]
          omega
        have hcb := checkL_bound (recD d) 1 (by decide) (by decide)
        refine Ev.neg (by simp) (Ev.pos (by omega) (Ev.pos (by omega) (Ev.bind (Ev.now _) (Ev.pos (by decide) (Ev.pos (by omega) (Ev.bind (impl_CheckOf_ev _ (by omega) hrb) (Ev.bind (Ev.is (by unfold impl_pair.f; rfl)) (Ev.bind (Ev.is (by unfold bytes_Equal.f; rfl)) ?_))))))))
        refine Ev.eq (Ev.now _) ?_
        rw [two_of d (by omega)]
        have hx : isRec d = ((strOfNums [rd d 2, rd d 3]).toList == (strOfNums [checkL 1 (recD d) / 256 % 256, checkL 1 (recD d) % 256]).toList) := by
          rw [Bool.eq_iff_iff, beq_iff_eq, bytes_inj _ _ (by intro x hx; simp at hx; rcases hx with rfl | rfl <;> assumption) (by intro x hx; simp at hx; rcases hx with rfl | rfl <;> omega), isRec_iff]
          simp only [List.cons.injEq, and_true]
          constructor
          · rintro ⟨_, _, _, _, h⟩
            omega
          · rintro ⟨h1, h2⟩
            refine ⟨by omega, by omega, by omega, by omega, by omega⟩
        rw [hx]
    · have hr : ¬ isRec d = true := fun h => by have := (isRec_iff d).1 h; omega
      refine ⟨[], Ev.neg (by omega) (Ev.pos (by omega) (Ev.pos (by omega) (Ev.bind (Ev.is (within_eq _ _ _)) (Ev.neg (fun h => hw (of_decide_eq_true h)) (Ev.eq (unframe_no d _) (no hr [])))))), fun h => absurd h hr⟩
theorem impl_UnframeAll_loop (l : List Int) (hb : ∀ x ∈ l, 0 ≤ x ∧ x < 256) (hl : l.length ≤ 2000000) : ∀ (f : Nat) (acc : List (List Int)) (n : Nat), n ≤ l.length → l.length - n ≤ f → acc.length + (l.length - n) ≤ 5000000 →
    Ev (fun k => impl_UnframeAll.l0 k l 0 (n : Int) acc) (0, (n : Int) + (recs f (l.drop n)).2, acc ++ (recs f (l.drop n)).1) := by
  intro f
  induction f with
  | zero =>
    intro acc n h0 h1 h2
    obtain ⟨x, hx, _⟩ := impl_unframe_ev (l.drop n) (fun x hx => hb x (List.mem_of_mem_drop hx)) (by rw [List.length_drop]; omega)
    have hr : isRec (l.drop n) = false := by
      rw [Bool.eq_false_iff]
      intro h
      have := ((isRec_iff _).1 h).1
      rw [List.length_drop] at this
      omega
    rw [hr] at hx
    refine Ev.step (fun k => impl_UnframeAll.l0.eq_2 ..) (Ev.pos (by omega) (Ev.pos (by omega) ?_))
    rw [Int.toNat_natCast]
    exact Ev.bind hx (Ev.neg (by simp) (Ev.eq (Ev.now _) (by simp [recs])))
  | succ f ih =>
    intro acc n h0 h1 h2
    obtain ⟨x, hx, hd⟩ := impl_unframe_ev (l.drop n) (fun x hx => hb x (List.mem_of_mem_drop hx)) (by rw [List.length_drop]; omega)
    refine Ev.step (fun k => impl_UnframeAll.l0.eq_2 ..) (Ev.pos (by omega) (Ev.pos (by omega) ?_))
    rw [Int.toNat_natCast]
    unfold recs
    by_cases hr : isRec (l.drop n) = true
    · rw [if_pos hr]
      have hx2 := hd hr
      subst hx2
      obtain ⟨_, q1, q2, q3, q4⟩ := (isRec_iff _).1 hr
      have hrl := recD_len _ hr
      rw [List.length_drop] at q3
      have e := ih (acc ++ [recD (l.drop n)]) (n + 4 + (recN (l.drop n)).toNat) (by omega) (by omega) (by simp; omega)
      refine Ev.bind hx (Ev.pos hr (Ev.bind (Ev.is (clone_any (recD (l.drop n)) (by omega))) (Ev.pos (by omega) (Ev.bind (Ev.is (by unfold impl_size_byte.f; rfl)) ?_))))
      rw [w64 (x := 4 + ((recD (l.drop n)).length : Int)) (by omega) (by omega), w64 (by omega) (by omega), show (n : Int) + (4 + ((recD (l.drop n)).length : Int)) = ((n + 4 + (recN (l.drop n)).toNat : Nat) : Int) by omega]
      refine Ev.eq e ?_
      rw [List.drop_drop, show n + (4 + (recN (l.drop n)).toNat) = n + 4 + (recN (l.drop n)).toNat by omega]
      simp only [List.append_assoc, List.cons_append, List.nil_append, Prod.mk.injEq, true_and, and_true]
      omega
    · rw [if_neg hr]
      exact Ev.bind hx (Ev.neg hr (Ev.eq (Ev.now _) (by simp)))
theorem impl_UnframeAll_ev (l : List Int) (hb : ∀ x ∈ l, 0 ≤ x ∧ x < 256) (hl : l.length ≤ 6000) : Ev (fun k => impl_UnframeAll.f k l) (0, (usedB l : Int), records l) := by
  unfold impl_UnframeAll.f
  refine Ev.neg (by omega) ?_
  exact Ev.eq (impl_UnframeAll_loop l hb (by omega) l.length [] 0 (by omega) (by omega) (by simp; omega)) (by simp [records, usedB])

theorem recs_tot (f : Nat) : ∀ d : List Int, totB (recs f d).1 + (recs f d).1.length ≤ (recs f d).2 := by
  induction f with
  | zero => intro d; simp [recs, totB]
  | succ f ih =>
    intro d
    unfold recs
    by_cases h : isRec d = true
    · rw [if_pos h]
      have := ih (d.drop (4 + (recN d).toNat))
      have := recD_len d h
      simp only [totB, List.map_cons, List.sum_cons, List.length_cons] at *
      omega
    · rw [if_neg h]
      simp [totB]
theorem records_tot (d : List Int) : totB (records d) + (records d).length ≤ d.length := Nat.le_trans (recs_tot _ d) (recs_used _ d)
theorem totB_mem {ls : List (List Int)} {l : List Int} (h : l ∈ ls) : l.length ≤ totB ls := by
  induction ls with
  | nil => cases h
  | cons a bs ih =>
    rw [show totB (a :: bs) = a.length + totB bs by simp [totB]]
    rcases List.mem_cons.1 h with rfl | h
    · omega
    · have := ih h; omega
/-- What UnframeAll tells. -/
def unR (l : List Int) : Int × Int × List (List Int) := if (l.length : Int) > 6000 then (2, 0, []) else (0, (usedB l : Int), records l)
theorem spec_UnframeAll_ev (l : List Int) (h : l.length ≤ 2000000) (hb : ∀ x ∈ l, 0 ≤ x ∧ x < 256) : Ev (fun k => spec_UnframeAll.f k l) (unR l) := by
  unfold spec_UnframeAll.f unR
  exact Ev.cond (fun _ => Ev.now _) (fun _ => Ev.bind (spec_l3Records_ev l hb h) (Ev.now _))
theorem impl_UnframeAll_any (l : List Int) (hb : ∀ x ∈ l, 0 ≤ x ∧ x < 256) : Ev (fun k => impl_UnframeAll.f k l) (unR l) := by
  by_cases h : (l.length : Int) > 6000
  · unfold impl_UnframeAll.f unR
    rw [if_pos h]
    exact Ev.pos h (Ev.now _)
  · refine Ev.eq (impl_UnframeAll_ev l hb (by omega)) ?_
    unfold unR
    rw [if_neg h]
theorem unR_tot (l : List Int) : totB (unR l).2.2 + (unR l).2.2.length ≤ 6000 := by
  unfold unR
  split
  · simp [totB]
  · have := records_tot l; simp only; omega

/-- What ReadLog tells. -/
def readR (l m : List Int) : Int × Int × List (List Int) := if logFault l.length m.length = 0 then unR (l ++ m) else (logFault l.length m.length, 0, [])
theorem spec_ReadLog_ev (l m : List Int) (h : l.length + m.length ≤ 2000000) (hl : ∀ x ∈ l, 0 ≤ x ∧ x < 256) (hm : ∀ x ∈ m, 0 ≤ x ∧ x < 256) : Ev (fun k => spec_ReadLog.f k l m) (readR l m) := by
  unfold spec_ReadLog.f readR
  refine Ev.bind (Ev.is (spec_LogFault_eq l m)) (Ev.cond (fun _ => ?_) (fun _ => Ev.now _))
  exact Ev.bind (Ev.is (spec_l4Sync_ev l m h)) (Ev.bind (spec_UnframeAll_ev (l ++ m) (by rw [List.length_append]; omega) (fun x hx => (List.mem_append.1 hx).elim (hl x) (hm x))) (Ev.now _))
theorem impl_ReadLog_ev (l m : List Int) (h : l.length + m.length ≤ 2000000) (hl : ∀ x ∈ l, 0 ≤ x ∧ x < 256) (hm : ∀ x ∈ m, 0 ≤ x ∧ x < 256) : Ev (fun k => impl_ReadLog.f k l m) (readR l m) := by
  unfold impl_ReadLog.f readR
  refine Ev.bind (Ev.is (impl_LogFault_eq l m)) (Ev.cond (fun _ => ?_) (fun _ => Ev.now _))
  refine Ev.bind (concat_ev [l, m] (by simp) (by simp [sumLen]; omega)) ?_
  simp only [List.flatten_cons, List.flatten_nil, List.append_nil]
  exact Ev.bind (impl_UnframeAll_any (l ++ m) (fun x hx => (List.mem_append.1 hx).elim (hl x) (hm x))) (Ev.now _)
theorem readR_tot (l m : List Int) : totB (readR l m).2.2 + (readR l m).2.2.length ≤ 6000 := by
  unfold readR
  split
  · exact unR_tot _
  · simp [totB]

theorem rd_append (d e : List Int) (i : Int) (h0 : 0 ≤ i) (h : i < (d.length : Int)) : rd (d ++ e) i = rd d i := by
  unfold rd
  rw [List.getD_eq_getElem?_getD, List.getD_eq_getElem?_getD, List.getElem?_append_left (by omega)]
theorem recN_append (d e : List Int) (h : 4 < d.length) : recN (d ++ e) = recN d := by
  unfold recN
  rw [rd_append d e 0 (by decide) (by omega), rd_append d e 1 (by decide) (by omega)]
theorem recD_append (d e : List Int) (h : isRec d = true) : recD (d ++ e) = recD d := by
  obtain ⟨h1, h2, h3, h4, _⟩ := (isRec_iff d).1 h
  unfold recD
  rw [recN_append d e h1, List.drop_append_of_le_length (by omega), List.take_append_of_le_length (by rw [List.length_drop]; omega)]
theorem isRec_append (d e : List Int) (h : isRec d = true) : isRec (d ++ e) = true := by
  obtain ⟨h1, h2, h3, h4, h5⟩ := (isRec_iff d).1 h
  refine (isRec_iff _).2 ⟨by rw [List.length_append]; omega, by rw [recN_append d e h1]; exact h2, by rw [recN_append d e h1]; exact h3, by rw [recN_append d e h1, List.length_append]; omega, ?_⟩
  rw [recD_append d e h, rd_append d e 2 (by decide) (by omega), rd_append d e 3 (by decide) (by omega)]
  exact h5
/-- What stands behind bytes takes no record away. -/
theorem recs_append (f : Nat) : ∀ d e : List Int, d.length ≤ f → ∃ r u, recs (f + e.length) (d ++ e) = ((recs f d).1 ++ r, (recs f d).2 + u) ∧ (r, u) = recs (f + e.length) ((d ++ e).drop (recs f d).2) := by
  induction f with
  | zero =>
    intro d e hd
    have hz : d = [] := List.length_eq_zero_iff.1 (by omega)
    subst hz
    exact ⟨(recs (0 + e.length) e).1, (recs (0 + e.length) e).2, by simp [recs], by simp [recs]⟩
  | succ f ih =>
    intro d e hd
    by_cases h : isRec d = true
    · have hd2 : recs (f + 1) d = (recD d :: (recs f (d.drop (4 + (recN d).toNat))).1, 4 + (recN d).toNat + (recs f (d.drop (4 + (recN d).toNat))).2) := by rw [recs, if_pos h]
      obtain ⟨h1, h2, h3, h4, _⟩ := (isRec_iff d).1 h
      obtain ⟨r, u, hr, hru⟩ := ih (d.drop (4 + (recN d).toNat)) e (by rw [List.length_drop]; omega)
      refine ⟨r, u, ?_, ?_⟩
      · rw [show f + 1 + e.length = (f + e.length) + 1 by omega, recs, if_pos (isRec_append d e h), recN_append d e h1, recD_append d e h, List.drop_append_of_le_length (by omega), hr, hd2, Prod.mk.injEq]
        exact ⟨rfl, by omega⟩
      · rw [hru, hd2, ← List.drop_append_of_le_length (by omega), List.drop_drop]
        refine recs_more _ _ _ ?_ ?_
        · rw [List.length_drop, List.length_append]; omega
        · rw [List.length_drop, List.length_append]; omega
    · have hd2 : recs (f + 1) d = ([], 0) := by rw [recs, if_neg h]
      rw [hd2]
      exact ⟨(recs (f + 1 + e.length) (d ++ e)).1, (recs (f + 1 + e.length) (d ++ e)).2, by simp, by simp⟩
theorem records_append (d e : List Int) : ∃ r u, records (d ++ e) = records d ++ r ∧ usedB (d ++ e) = usedB d + u ∧ r = records ((d ++ e).drop (usedB d)) ∧ u = usedB ((d ++ e).drop (usedB d)) := by
  obtain ⟨r, u, h, h2⟩ := recs_append d.length d e (Nat.le_refl _)
  have hm : recs (d.length + e.length) ((d ++ e).drop (usedB d)) = recs ((d ++ e).drop (usedB d)).length ((d ++ e).drop (usedB d)) := recs_more _ _ _ (by rw [List.length_drop, List.length_append]; omega) (Nat.le_refl _)
  have h3 : (r, u) = recs ((d ++ e).drop (usedB d)).length ((d ++ e).drop (usedB d)) := h2.trans hm
  rw [Prod.ext_iff] at h3
  unfold records usedB at *
  rw [List.length_append, h]
  exact ⟨r, u, rfl, rfl, h3.1, h3.2⟩
theorem recs_used_take (f : Nat) : ∀ d : List Int, d.length ≤ f → (recs f (d.take (recs f d).2)).2 = (recs f d).2 := by
  induction f with
  | zero => intro d hd; simp [recs]
  | succ f ih =>
    intro d hd
    by_cases h : isRec d = true
    · obtain ⟨h1, h2, h3, h4, h5⟩ := (isRec_iff d).1 h
      have hd2 : recs (f + 1) d = (recD d :: (recs f (d.drop (4 + (recN d).toNat))).1, 4 + (recN d).toNat + (recs f (d.drop (4 + (recN d).toNat))).2) := by rw [recs, if_pos h]
      have hu := recs_used f (d.drop (4 + (recN d).toNat))
      rw [List.length_drop] at hu
      have hrl := recD_len d h
      rw [hd2]
      simp only
      have ih := ih (d.drop (4 + (recN d).toNat)) (by rw [List.length_drop]; omega)
      generalize (recs f (d.drop (4 + (recN d).toNat))).2 = u at hu ih ⊢
      have hN : recN (d.take (4 + (recN d).toNat + u)) = recN d := by
        have := recN_append (d.take (4 + (recN d).toNat + u)) (d.drop (4 + (recN d).toNat + u)) (by rw [List.length_take]; omega)
        rw [List.take_append_drop] at this
        exact this.symm
      have hr : ∀ i : Int, 0 ≤ i → i < 4 → rd (d.take (4 + (recN d).toNat + u)) i = rd d i := fun i i0 i1 => by
        have := rd_append (d.take (4 + (recN d).toNat + u)) (d.drop (4 + (recN d).toNat + u)) i i0 (by rw [List.length_take]; omega)
        rw [List.take_append_drop] at this
        exact this.symm
      have hD : recD (d.take (4 + (recN d).toNat + u)) = recD d := by
        unfold recD
        rw [hN, List.drop_take, List.take_take]
        congr 1
        omega
      have hrec : isRec (d.take (4 + (recN d).toNat + u)) = true := (isRec_iff _).2 ⟨by rw [List.length_take]; omega, by rw [hN]; exact h2, by rw [hN]; exact h3, by rw [hN, List.length_take]; omega, by rw [hD, hr 2 (by decide) (by decide), hr 3 (by decide) (by decide)]; exact h5⟩
      rw [recs, if_pos hrec, hN]
      simp only
      rw [List.drop_take, show 4 + (recN d).toNat + u - (4 + (recN d).toNat) = u by omega, ih]
    · have hd2 : recs (f + 1) d = ([], 0) := by rw [recs, if_neg h]
      rw [hd2]
      simp [recs, isRec]
theorem used_take (d : List Int) : usedB (d.take (usedB d)) = usedB d := by
  have h := recs_used_take d.length d (Nat.le_refl _)
  have hm : recs (d.take (usedB d)).length (d.take (usedB d)) = recs d.length (d.take (usedB d)) := recs_more _ _ _ (Nat.le_refl _) (by rw [List.length_take]; omega)
  unfold usedB at *
  rw [hm]
  exact h

theorem frameL_cons (d : List Int) : frameL d = ((d.length : Int) / 256 % 256) :: ((d.length : Int) % 256) :: (checkL 1 d / 256 % 256) :: (checkL 1 d % 256) :: d := rfl
theorem frameL_len (d : List Int) : (frameL d).length = d.length + 4 := by rw [frameL_cons]; rfl
theorem recN_frame (d e : List Int) (h : d.length ≤ 500) : recN (frameL d ++ e) = d.length := by
  rw [frameL_cons]
  show (d.length : Int) / 256 % 256 * 256 + (d.length : Int) % 256 = _
  omega
theorem recD_frame (d e : List Int) (h : d.length ≤ 500) : recD (frameL d ++ e) = d := by
  unfold recD
  rw [recN_frame d e h, frameL_cons]
  show (d ++ e).take ((d.length : Int)).toNat = d
  rw [Int.toNat_natCast, List.take_append_of_le_length (Nat.le_refl _), List.take_length]
theorem isRec_frame (d e : List Int) (h1 : 1 ≤ d.length) (h : d.length ≤ 500) : isRec (frameL d ++ e) = true := by
  have hc := checkL_bound d 1 (by decide) (by decide)
  refine (isRec_iff _).2 ⟨by rw [List.length_append, frameL_len]; omega, by rw [recN_frame d e h]; omega, by rw [recN_frame d e h]; omega, by rw [recN_frame d e h, List.length_append, frameL_len]; omega, ?_⟩
  rw [recD_frame d e h, frameL_cons]
  show checkL 1 d = checkL 1 d / 256 % 256 * 256 + checkL 1 d % 256
  omega
theorem records_frame (d e : List Int) (h1 : 1 ≤ d.length) (h : d.length ≤ 500) : records (frameL d ++ e) = d :: records e ∧ usedB (frameL d ++ e) = d.length + 4 + usedB e := by
  have hl : (frameL d ++ e).length = (d.length + 3 + e.length) + 1 := by rw [List.length_append, frameL_len]; omega
  have hd : (frameL d ++ e).drop (4 + (recN (frameL d ++ e)).toNat) = e := by
    rw [recN_frame d e h, frameL_cons, Int.toNat_natCast, Nat.add_comm 4]
    show (d ++ e).drop d.length = e
    rw [List.drop_append_of_le_length (Nat.le_refl _), List.drop_length, List.nil_append]
  have hr : recs (frameL d ++ e).length (frameL d ++ e) = (d :: (recs e.length e).1, 4 + d.length + (recs e.length e).2) := by
    rw [hl, recs, if_pos (isRec_frame d e h1 h), hd, recD_frame d e h, recN_frame d e h, Int.toNat_natCast, recs_more (d.length + 3 + e.length) e.length e (by omega) (Nat.le_refl _)]
  unfold records usedB
  rw [hr]
  exact ⟨rfl, by simp only; omega⟩

theorem lwBig_eq (c : List Int) : laws_lwBig.f c = some (decide ((c.length : Int) > 1048576)) := rfl
theorem draw_append (c : List Int) (hb : bytesL c) (hl : c.length ≤ 2000000) : ∃ l m d, Ev (fun k => spec_DrawAppendLog.f k c) (l, m, d) ∧ l.length + m.length ≤ 13000 ∧ bytesL l ∧ bytesL m ∧ d.length ≤ 501 ∧ bytesL d := by
  obtain ⟨l, m, s, h, h0, h1, h2, h3, h4⟩ := log_ok c hb hl 0 (by decide) (by decide)
  obtain ⟨d, s', hd, _, _, h5, h6⟩ := some_ok c hb hl s h0 (by omega)
  refine ⟨l, m, d, ?_, h2, h3, h4, h5, h6⟩
  unfold spec_DrawAppendLog.f spec_l1Source.f
  exact Ev.let (Ev.bind h (Ev.bind hd (Ev.now _)))
theorem readR_ok (l m : List Int) (h : l.length + m.length ≤ 6000) : readR l m = (0, (usedB (l ++ m) : Int), records (l ++ m)) := by
  unfold readR unR
  rw [if_pos (by rw [logFault_zero (by omega), if_pos h]), if_neg (by rw [List.length_append]; omega)]
theorem wsub (n k : Nat) (h : n = k + 1) (hk : k ≤ 2000000) : wrap64 ((n : Int) - 1) = (k : Int) := by
  subst h
  rw [w64 (by omega) (by omega)]
  omega
theorem wadd (n k : Nat) (h : n = k + 1) (hk : k ≤ 2000000) : (n : Int) = wrap64 ((k : Int) + 1) := by
  subst h
  rw [w64 (by omega) (by omega)]
  omega
theorem FnAppends : ∀ (l0 : List Int), okL (fun n => (Lit.int .u8 n).wf = true) l0 → ∃ k, laws_FnAppends.f k l0 = some true := by
  intro c hc
  have hb : bytesL c := fun x hx => wfU8 (hc.2 x hx)
  refine Ev.rounds (r := true) ?_
  unfold laws_FnAppends.f
  refine Ev.bind (Ev.is (lwBig_eq c)) (Ev.ite (fun _ => Ev.now _) (fun hbig => ?_))
  have hl : c.length ≤ 2000000 := by simp at hbig; omega
  obtain ⟨l, m, d, hd, hlen, hbl, hbm, hdl, hbd⟩ := draw_append c hb hl
  refine Ev.bind hd (Ev.bind (impl_AppendLog_ev l m d (by omega) hbd) ?_)
  by_cases hcode : (appendR l m d).1 = 0
  · have hok : 1 ≤ d.length ∧ d.length ≤ 500 ∧ l.length + (m.length + (d.length + 4)) ≤ 6000 ∧ appendR l m d = (0, l, m ++ frameL d) := by
      unfold appendR at hcode ⊢
      by_cases hf : logFault l.length m.length = 0
      · rw [if_pos hf] at hcode ⊢
        by_cases hfr : (frameR d).1 = 0
        · obtain ⟨q1, q2⟩ := frameR_ok d hfr
          have q0 : 1 ≤ d.length := by
            unfold frameR at hfr
            by_cases h : 1 ≤ d.length ∧ d.length ≤ 500
            · exact h.1
            · rw [if_neg h] at hfr; cases hfr
          rw [if_pos hfr, q2] at hcode ⊢
          have hml : (m ++ frameL d).length = m.length + (d.length + 4) := by rw [List.length_append, frameL_len]
          by_cases h2 : logFault l.length (m ++ frameL d).length = 0
          · rw [if_pos h2]
            rw [logFault_zero (by omega)] at h2
            split at h2
            · exact ⟨q0, q1, by omega, rfl⟩
            · cases h2
          · rw [if_neg h2] at hcode; cases hcode
        · rw [if_neg hfr] at hcode; exact absurd hcode hfr
      · rw [if_neg hf] at hcode; exact absurd hcode hf
    obtain ⟨d1, d2, htot, hr⟩ := hok
    rw [hr]
    refine Ev.pos rfl ?_
    have hbf := bytesL_append hbm (frameL_bytes d hbd)
    have hml : (m ++ frameL d).length = m.length + (d.length + 4) := by rw [List.length_append, frameL_len]
    have r1 := readR_ok l m (by omega)
    have r2 : readR l (m ++ frameL d) = (0, (usedB (l ++ m ++ frameL d) : Int), records (l ++ m ++ frameL d)) := by rw [readR_ok l _ (by omega), List.append_assoc]
    have e1 := impl_ReadLog_ev l m (by omega) hbl hbm
    have e2 := impl_ReadLog_ev l (m ++ frameL d) (by omega) hbl hbf
    have e3 := spec_ReadLog_ev l m (by omega) hbl hbm
    rw [r1] at e1 e3
    rw [r2] at e2
    have e4 := impl_SyncLog_ev l (m ++ frameL d) (by omega)
    have s1 : syncR l (m ++ frameL d) = (0, l ++ (m ++ frameL d), []) := by unfold syncR; rw [if_pos (by rw [logFault_zero (by omega), if_pos (by omega)])]
    rw [s1] at e4
    have w1 : wrap64 ((l.length : Int) + (m.length : Int)) = (l.length : Int) + (m.length : Int) := w64 (by omega) (by omega)
    refine Ev.bind e1 (Ev.bind e2 (Ev.pos rfl (Ev.bind e4 (Ev.pos rfl ?_))))
    show Ev (fun k => if (usedB (l ++ m) : Int) < wrap64 ((l.length : Int) + (m.length : Int)) then _ else _) _
    rw [w1]
    refine Ev.ite (fun _ => Ev.bind e3 (Ev.eq (Ev.now _) (by simp))) (fun hu => ?_)
    obtain ⟨r, _, q1, _, q3, _⟩ := records_append (l ++ m) (frameL d)
    have hul : usedB (l ++ m) ≤ (l ++ m).length := recs_used _ _
    rw [List.length_append] at hul
    have hrd : r = [d] := by
      rw [q3, show usedB (l ++ m) = (l ++ m).length by rw [List.length_append]; omega, List.drop_append_of_le_length (Nat.le_refl _), List.drop_length, List.nil_append]
      have := (records_frame d [] d1 d2).1
      rw [List.append_nil] at this
      rw [this]
      rfl
    subst hrd
    have htl := records_tot (l ++ m)
    rw [List.length_append] at htl
    show Ev (fun k => if ((records (l ++ m ++ frameL d)).length : Int) = wrap64 (((records (l ++ m)).length : Int) + 1) then _ else _) _
    have hn : (records (l ++ m ++ frameL d)).length = (records (l ++ m)).length + 1 := by rw [q1, List.length_append]; rfl
    have hk2 : (records (l ++ m)).length ≤ 2000000 := by omega
    have w3 := wsub _ _ hn hk2
    refine Ev.pos (wadd _ _ hn hk2) ?_
    show Ev (fun k => if 0 ≤ wrap64 (((records (l ++ m ++ frameL d)).length : Int) - 1) then (if wrap64 (((records (l ++ m ++ frameL d)).length : Int) - 1) < ((records (l ++ m ++ frameL d)).length : Int) then some ((strOfNums (rd_L1 (records (l ++ m ++ frameL d)) (wrap64 (((records (l ++ m ++ frameL d)).length : Int) - 1)))).toList == (strOfNums d).toList) else none) else none) true
    rw [w3]
    refine Ev.pos (by omega) (Ev.pos (by omega) (Ev.eq (Ev.now _) ?_))
    unfold rd_L1
    rw [q1, List.getD_eq_getElem?_getD, Int.toNat_natCast, List.getElem?_append_right (Nat.le_refl _), Nat.sub_self]
    simp
  · refine Ev.neg hcode (Ev.bind (spec_AppendLog_ev l m d (by omega) hbd) (Ev.eq (Ev.now _) (by simp)))

end Go.Proofs.Ytcdpiejcdeedoaa.Pure
