/- FnExactCrashLog, the pure statement: the program's CrashLog and the reference's tell the same of any log and number; the argument is as it was, and the answer is new memory. No conditions. -/
import Derived.Test.YtcdpiejcdeedoaaPFnExactCrashLogx4
import Derived.Test.YtcdpiejcdeedoaaOFnExactCrashLog
namespace Go.Proofs.Ytcdpiejcdeedoaa.Pure
open Go.RowKit Go.Proofs.Ytcdpiejcdeedoaa.PFnExactCrashLog Go.Proofs.YtcdpiejcdeedoaaW.PrintWords Go.Proofs.YtcdpiejcdeedoaaW.PrintLast Go.Proofs.YtcdpiejcdeedoaaW.PrintMore Go.Proofs.Ytcdpiejcdeedoaa.Opens
set_option linter.unusedVariables false
set_option linter.unusedSimpArgs false
/-! ### words of this text's own -/
theorem w64 {x : Int} (h0 : -9223372036854775808 ≤ x) (h1 : x ≤ 9223372036854775807) : wrap64 x = x := by
  unfold wrap64
  omega
theorem wfU8 {x : Int} (h : (Lit.int .u8 x).wf = true) : 0 ≤ x ∧ x < 256 := by
  simp [Lit.wf, IntKind.min, IntKind.max, IntKind.signed, IntKind.bits] at h
  omega
theorem wfI64 {x : Int} (h : (Lit.int .i64 x).wf = true) : -9223372036854775808 ≤ x ∧ x ≤ 9223372036854775807 := by
  simp [Lit.wf, IntKind.min, IntKind.max, IntKind.signed, IntKind.bits] at h
  omega
section
variable {α β σ : Type}
theorem Ev.ite {g f : Nat → Option α} {c : Prop} [Decidable c] {r : α} (ht : c → Ev g r) (hf : ¬ c → Ev f r) : Ev (fun k => if c then g k else f k) r := by
  by_cases h : c
  · simp only [if_pos h]; exact ht h
  · simp only [if_neg h]; exact hf h
theorem Ev.pos {g f : Nat → Option α} {c : Prop} [Decidable c] {r : α} (h : c) (ht : Ev g r) : Ev (fun k => if c then g k else f k) r := Ev.ite (fun _ => ht) (fun n => absurd h n)
theorem Ev.neg {g f : Nat → Option α} {c : Prop} [Decidable c] {r : α} (h : ¬ c) (hf : Ev f r) : Ev (fun k => if c then g k else f k) r := Ev.ite (fun y => absurd y h) (fun _ => hf)
theorem Ev.cond {g f : Nat → Option α} {c : Prop} [Decidable c] {r s : α} (ht : c → Ev g r) (hf : ¬ c → Ev f s) : Ev (fun k => if c then g k else f k) (if c then r else s) := by
  by_cases h : c
  · simp only [if_pos h]; exact ht h
  · simp only [if_neg h]; exact hf h
theorem Ev.let {f : Nat → α → Option β} {a : α} {r : β} (k : Ev (fun n => f n a) r) : Ev (fun n => (some a).bind (f n)) r := Ev.bind (Ev.now a) k
theorem Ev.is {a : Option α} {r : α} (h : a = some r) : Ev (fun _ => a) r := ⟨0, fun _ _ => h⟩
theorem Ev.eq {g : Nat → Option α} {a b : α} (h : Ev g a) (e : a = b) : Ev g b := e ▸ h
/-- A loop that counts i up to n, with a state s: what it comes to, if 'P i s' leads from round to round. -/
theorem Ev.upto (F : Nat → σ → Int → Option α) (n : Int) (hn : n ≤ 9223372036854775807) (P : Int → σ → Prop) (R : α → Prop)
    (step : ∀ i s, 0 ≤ i → i < n → P i s → (∃ s', P (i + 1) s' ∧ ∀ r, Ev (fun k => F k s' (wrap64 (i + 1))) r → Ev (fun k => F k s i) r) ∨ (∃ r, R r ∧ Ev (fun k => F k s i) r))
    (stop : ∀ s, P n s → ∃ r, R r ∧ Ev (fun k => F k s n) r) (i : Int) (s : σ) (h0 : 0 ≤ i) (h1 : i ≤ n) (hP : P i s) : ∃ r, R r ∧ Ev (fun k => F k s i) r := by
  obtain ⟨d, hd⟩ : ∃ d : Nat, n - i = d := ⟨(n - i).toNat, by omega⟩
  induction d generalizing i s with
  | zero =>
    obtain rfl : i = n := by omega
    exact stop s hP
  | succ d ih =>
    rcases step i s h0 (by omega) hP with ⟨s', hP', h⟩ | h
    · obtain ⟨r, hr, he⟩ := ih (i + 1) s' (by omega) (by omega) hP' (by omega)
      exact ⟨r, hr, h r (by rw [w64 (by omega) (by omega)]; exact he)⟩
    · exact h
/-- The same, where what it comes to is one value. -/
theorem Ev.upto1 (F : Nat → σ → Int → Option α) (n : Int) (hn : n ≤ 9223372036854775807) (P : Int → σ → Prop) (r : α)
    (step : ∀ i s, 0 ≤ i → i < n → P i s → (∃ s', P (i + 1) s' ∧ (Ev (fun k => F k s' (wrap64 (i + 1))) r → Ev (fun k => F k s i) r)) ∨ Ev (fun k => F k s i) r)
    (stop : ∀ s, P n s → Ev (fun k => F k s n) r) (i : Int) (s : σ) (h0 : 0 ≤ i) (h1 : i ≤ n) (hP : P i s) : Ev (fun k => F k s i) r := by
  obtain ⟨d, hd⟩ : ∃ d : Nat, n - i = d := ⟨(n - i).toNat, by omega⟩
  induction d generalizing i s with
  | zero =>
    obtain rfl : i = n := by omega
    exact stop s hP
  | succ d ih =>
    rcases step i s h0 (by omega) hP with ⟨s', hP', h⟩ | h
    · exact h (by rw [w64 (by omega) (by omega)]; exact ih (i + 1) s' (by omega) (by omega) hP' (by omega))
    · exact h
theorem take_set_succ (l acc : List α) (i : Nat) (v : α) (h : i < acc.length) (ht : acc.take i = l.take i) (hv : l[i]? = some v) : (acc.set i v).take (i + 1) = l.take (i + 1) := by
  rw [List.take_add_one, List.take_add_one, hv, List.getElem?_set_self h, List.take_set_of_le (Nat.le_refl _), ht]
/-- A row filled cell by cell. -/
theorem Ev.fill (F : Nat → List α → Int → Option (List α)) (l : List α) (hl : l.length ≤ 9223372036854775807)
    (step : ∀ (i : Int) s (v : α), 0 ≤ i → i < (l.length : Int) → s.length = l.length → l[i.toNat]? = some v → Ev (fun k => F k (s.set i.toNat v) (wrap64 (i + 1))) l → Ev (fun k => F k s i) l)
    (stop : ∀ s, s.length = l.length → Ev (fun k => F k s (l.length : Int)) s) (s : List α) (hs : s.length = l.length) : Ev (fun k => F k s 0) l :=
  Ev.upto1 F l.length (by omega) (fun i s => s.length = l.length ∧ s.take i.toNat = l.take i.toNat) l
    (fun i s h0 h1 ⟨hs, ht⟩ => .inl ⟨s.set i.toNat (l[i.toNat]'(by omega)), ⟨by simp [hs], by
      rw [show (i + 1).toNat = i.toNat + 1 by omega]
      exact take_set_succ l s _ _ (by omega) ht (List.getElem?_eq_getElem (by omega))⟩, step i s _ h0 h1 hs (List.getElem?_eq_getElem (by omega))⟩)
    (fun s ⟨hs, ht⟩ => by
      rw [List.take_of_length_le (by omega), List.take_of_length_le (by omega)] at ht
      have := stop s hs
      subst ht
      exact this) 0 s (by omega) (by omega) ⟨hs, by simp⟩
/-- A loop that asks of each place, and comes to the end. -/
theorem Ev.each {F : Nat → Int → Option β} {r : β} (n : Nat) (hn : (n : Int) ≤ 9223372036854775807) (step : ∀ i : Int, 0 ≤ i → i < n → Ev (fun k => F k (wrap64 (i + 1))) r → Ev (fun k => F k i) r) (stop : Ev (fun k => F k (n : Int)) r) : Ev (fun k => F k 0) r :=
  Ev.upto1 (fun k (_ : Unit) i => F k i) n hn (fun _ _ => True) r (fun i _ h0 h1 _ => .inl ⟨(), trivial, step i h0 h1⟩) (fun _ _ => stop) 0 () (by omega) (by omega) trivial
end
theorem rd_get (l : List Int) (i : Int) (h0 : 0 ≤ i) (h1 : i < (l.length : Int)) : rd l i = l[i.toNat]'(by omega) := by
  unfold rd
  rw [List.getD_eq_getElem?_getD, List.getElem?_eq_getElem (by omega)]
  rfl
theorem rd_of {l : List Int} {i : Int} {v : Int} (h : l[i.toNat]? = some v) : rd l i = v := by
  unfold rd
  rw [List.getD_eq_getElem?_getD, h]
  rfl
theorem drop_cons_at {α : Type} (l : List α) (i : Nat) (h : i < l.length) : l.drop i = l[i] :: l.drop (i + 1) := List.drop_eq_getElem_cons h
/-- What is left of a bound behind a list, or less than nothing. -/
def szRest (n : Nat) (left : Int) : Int := if left - n < 0 then -1 else left - n
theorem szRest_ok {n : Nat} {left : Int} (h0 : left ≤ 1048576) (h1 : ¬ szRest n left < 0) : (n : Int) ≤ left ∧ szRest n left = left - n := by
  unfold szRest at *
  by_cases h : left - n < 0
  · rw [if_pos h] at h1; omega
  · rw [if_neg h]; exact ⟨by omega, rfl⟩

theorem szByteS_eq (l : List Int) (hl : l.length ≤ maxLen) (left : Int) (h0 : 0 ≤ left) (h1 : left ≤ 1048576) : laws_szByteS.f l left = some (szRest l.length left) := by
  unfold maxLen at hl
  unfold laws_szByteS.f szRest
  rw [w64 (by omega) (by omega)]
  split <;> rfl
theorem szLog_eq (l m : List Int) (hl : l.length ≤ maxLen) (hm : m.length ≤ maxLen) : ∃ r, laws_szLog.f l m 1048576 = some r ∧ (¬ r < 0 → l.length + m.length ≤ 1048576) := by
  unfold laws_szLog.f
  rw [szByteS_eq l hl _ (by decide) (by decide)]
  simp only [Option.bind_some]
  by_cases h : szRest l.length 1048576 < 0
  · rw [if_pos h]; exact ⟨-1, rfl, fun h => absurd (by decide) h⟩
  · obtain ⟨b1, e1⟩ := szRest_ok (by decide) h
    rw [if_neg h, e1, szByteS_eq m hm _ (by omega) (by omega)]
    simp only [Option.bind_some]
    by_cases h : szRest m.length (1048576 - l.length) < 0
    · rw [if_pos h]; exact ⟨-1, rfl, fun h => absurd (by decide) h⟩
    · obtain ⟨b2, e2⟩ := szRest_ok (by omega) h
      rw [if_neg h]
      exact ⟨_, rfl, fun _ => by omega⟩

theorem toByteS_ev (l : List Int) (hl : l.length ≤ 140737488351232) : Ev (fun k => laws_toByteS.f k l) l := by
  unfold laws_toByteS.f
  refine Ev.pos (by omega) (Ev.pos (by omega) ?_)
  exact Ev.fill (fun k s i => laws_toByteS.l0 k l s i) l (by omega)
    (fun i s v h0 h1 hs hv h => Ev.step (fun k => laws_toByteS.l0.eq_2 ..) (Ev.pos h1 (Ev.pos h0 (Ev.pos (by omega) (by rw [rd_of hv]; exact h)))))
    (fun s hs => Ev.step (fun k => laws_toByteS.l0.eq_2 ..) (Ev.neg (by omega) (Ev.now _))) _ (by simp)

theorem toLog_ev (l m : List Int) (h : l.length + m.length ≤ 1048576) : Ev (fun k => laws_toLog.f k l m) (l, m) := by
  unfold laws_toLog.f
  exact Ev.bind (toByteS_ev l (by omega)) (Ev.bind (toByteS_ev m (by omega)) (Ev.now _))

theorem eqByteS_ev (l : List Int) (hl : l.length ≤ 140737488351232) : Ev (fun k => laws_eqByteS.f k l l) true := by
  unfold laws_eqByteS.f
  refine Ev.pos rfl ?_
  exact Ev.each (F := fun k i => laws_eqByteS.l0 k l l i) l.length (by omega)
    (fun i h0 h1 h => Ev.step (fun k => laws_eqByteS.l0.eq_2 ..) (Ev.pos h1 (Ev.pos h0 (Ev.pos h1 (Ev.pos rfl h)))))
    (Ev.step (fun k => laws_eqByteS.l0.eq_2 ..) (Ev.neg (by omega) (Ev.now _)))

theorem eqLog_ev (l m : List Int) (h : l.length + m.length ≤ 2000000) : Ev (fun k => laws_eqLog.f k l m l m) true := by
  unfold laws_eqLog.f
  exact Ev.bind (eqByteS_ev l (by omega)) (Ev.pos rfl (Ev.bind (eqByteS_ev m (by omega)) (Ev.pos rfl (Ev.now _))))

/-- Bytes marked one behind the other from k on. -/
def markB (n : Nat) (k : Int) : List Int := (List.range n).map fun (i : Nat) => (k + i) % 256
theorem markB_len (n : Nat) (k : Int) : (markB n k).length = n := by simp [markB]
theorem markB_get (n : Nat) (k : Int) (i : Nat) (h : i < n) : (markB n k)[i]? = some ((k + i) % 256) := by simp [markB, h]
theorem markByteS_ev (l : List Int) (m : Int) (h0 : 0 ≤ m) (h1 : m + l.length ≤ 9000000000000000000) : Ev (fun k => laws_markByteS.f k l m) (m + l.length, markB l.length m) := by
  unfold laws_markByteS.f
  refine Ev.upto1 (fun k (s : List Int × Int) i => laws_markByteS.l0 k s.1 s.2 i) l.length (by omega) (fun i s => s.1.length = l.length ∧ s.2 = m + i ∧ s.1.take i.toNat = (markB l.length m).take i.toNat) (m + l.length, markB l.length m)
    (fun i s p0 p1 ⟨hl, hs, ht⟩ => .inl ⟨(s.1.set i.toNat (s.2 % 256), s.2 + 1), ⟨by simp [hl], by simp [hs]; omega, ?_⟩, fun h => Ev.step (fun k => laws_markByteS.l0.eq_2 ..) (Ev.pos (by omega) (Ev.pos p0 (by rw [w64 (x := s.2 + 1) (by omega) (by omega)]; exact h)))⟩)
    (fun s ⟨hl, hs, ht⟩ => Ev.step (fun k => laws_markByteS.l0.eq_2 ..) (Ev.neg (by omega) (Ev.eq (Ev.now _) ?_)))
    0 (l, m) (by omega) (by omega) ⟨rfl, by simp, by simp⟩
  · show (s.1.set i.toNat (s.2 % 256)).take (i + 1).toNat = _
    rw [show (i + 1).toNat = i.toNat + 1 by omega]
    refine take_set_succ _ _ _ _ (by omega) ht ?_
    rw [markB_get _ _ _ (by omega), hs]
    congr 3
    omega
  · rw [List.take_of_length_le (by omega), List.take_of_length_le (by simp [markB_len])] at ht
    rw [ht, hs]
theorem heldByteS_ev (n : Nat) (m : Int) (h0 : 0 ≤ m) (h1 : m + n ≤ 9000000000000000000) : Ev (fun k => laws_heldByteS.f k (markB n m) m) (m + n) := by
  unfold laws_heldByteS.f
  refine Ev.upto1 (fun k (s : Int) i => laws_heldByteS.l0 k (markB n m) s i) n (by omega) (fun i s => s = m + i) (m + n)
    (fun i s p0 p1 hs => .inl ⟨s + 1, by omega, fun h => Ev.step (fun k => laws_heldByteS.l0.eq_2 ..) (Ev.pos (by rw [markB_len]; exact p1) (Ev.pos p0 (Ev.pos ?_ (by rw [w64 (x := s + 1) (by omega) (by omega)]; exact h))))⟩)
    (fun s hs => Ev.step (fun k => laws_heldByteS.l0.eq_2 ..) (Ev.neg (by rw [markB_len]; omega) (Ev.eq (Ev.now _) hs)))
    0 m (by omega) (by omega) (by omega)
  rw [rd_of (markB_get n m i.toNat (by omega)), hs]
  congr 1
  omega

theorem eqLogResult_ev (c : Int) (l m : List Int) (h : l.length + m.length ≤ 2000000) : Ev (fun k => laws_eqLogResult.f k c l m c l m) true := by
  unfold laws_eqLogResult.f
  exact Ev.pos rfl (Ev.bind (eqLog_ev l m h) (Ev.pos rfl (Ev.now _)))
theorem markLog_ev (l m : List Int) (h : l.length + m.length ≤ 2000000) : Ev (fun k => laws_markLog.f k l m 1) (1 + l.length + m.length, markB l.length 1, markB m.length (1 + l.length)) := by
  unfold laws_markLog.f
  exact Ev.bind (markByteS_ev l 1 (by decide) (by omega)) (Ev.bind (markByteS_ev m _ (by omega) (by omega)) (Ev.now _))
theorem markLogResult_ev (c : Int) (l m : List Int) (h : l.length + m.length ≤ 2000000) : Ev (fun k => laws_markLogResult.f k c l m 1) (1 + l.length + m.length, markB l.length 1, markB m.length (1 + l.length)) := by
  unfold laws_markLogResult.f
  exact Ev.bind (markLog_ev l m h) (Ev.now _)
theorem heldLogResult_ev (c : Int) (n m : Nat) (h : n + m ≤ 2000000) : Ev (fun k => laws_heldLogResult.f k c (markB n 1) (markB m (1 + n)) 1) (1 + n + m) := by
  unfold laws_heldLogResult.f laws_heldLog.f
  refine Ev.bind (Ev.bind (heldByteS_ev n 1 (by decide) (by omega)) (Ev.neg (by omega) (Ev.bind (heldByteS_ev m (1 + n) (by omega) (by omega)) (Ev.neg (by omega) (Ev.now _))))) (Ev.neg (by omega) (Ev.now _))

/-- What LogFault tells of a log of so many bytes. -/
def logFault (n m : Nat) : Int := if wrap64 ((n : Int) + (m : Int)) > 6000 then 2 else 0
theorem spec_LogFault_eq (l m : List Int) : spec_LogFault.f l m = some (logFault l.length m.length) := by
  unfold spec_LogFault.f logFault
  split <;> rfl
theorem impl_LogFault_eq (l m : List Int) : impl_LogFault.f l m = some (logFault l.length m.length) := by
  unfold impl_LogFault.f logFault
  split <;> rfl

/-- How long rows are together. -/
def sumLen (ls : List (List Int)) : Nat := (ls.map List.length).sum
theorem rdLL {l : List (List Int)} {i : Int} {v : List Int} (h : l[i.toNat]? = some v) : rd_L1 l i = v := by
  unfold rd_L1
  rw [List.getD_eq_getElem?_getD, h]
  rfl
theorem sumLen_drop (ls : List (List Int)) (i : Nat) (h : i < ls.length) : sumLen (ls.drop i) = (ls[i]'h).length + sumLen (ls.drop (i + 1)) := by
  rw [drop_cons_at ls i h]
  simp only [sumLen, List.map_cons, List.sum_cons]
theorem sumLen_drop_le (ls : List (List Int)) (i : Nat) : sumLen (ls.drop i) ≤ sumLen ls := by
  have := List.take_append_drop i ls
  have e : sumLen ls = sumLen (ls.take i) + sumLen (ls.drop i) := by
    conv => lhs; rw [← this]
    simp only [sumLen, List.map_append, List.sum_append]
  omega
theorem concat_ev (ls : List (List Int)) (hn : (ls.length : Int) ≤ 9000000000000000000) (hs : sumLen ls < 140737488355328) : Ev (fun k => slices_Concat_byte.f k ls) ls.flatten := by
  unfold slices_Concat_byte.f
  refine Ev.upto1 (fun k (s : Int) i => slices_Concat_byte.l0 k ls s ls (ls.length : Int) i) ls.length (by omega) (fun i s => 0 ≤ s ∧ s + sumLen (ls.drop i.toNat) = sumLen ls) ls.flatten
    (fun i s h0 h1 ⟨p0, hs'⟩ => ?_) (fun s ⟨p0, hs'⟩ => ?_) 0 0 (by omega) (by omega) ⟨by omega, by simp⟩
  · have e1 : ls[i.toNat]? = some (ls[i.toNat]'(by omega)) := List.getElem?_eq_getElem (by omega)
    have e2 := sumLen_drop ls i.toNat (by omega)
    generalize ls[i.toNat]'(by omega) = l at e1 e2
    refine .inl ⟨s + l.length, ⟨by omega, by rw [show (i + 1).toNat = i.toNat + 1 by omega]; omega⟩, fun h => Ev.step (fun k => slices_Concat_byte.l0.eq_2 ..) (Ev.pos h1 (Ev.pos h0 (Ev.pos h1 ?_)))⟩
    rw [rdLL e1, w64 (x := s + (l.length : Int)) (by omega) (by omega)]
    exact Ev.neg (by omega) h
  · refine Ev.step (fun k => slices_Concat_byte.l0.eq_2 ..) (Ev.neg (by omega) (Ev.bind (a := []) (Ev.is (by
      unfold slices_Grow_byte.f
      rw [if_pos (by omega)])) ?_))
    refine Ev.upto1 (fun k (s : List Int) i => slices_Concat_byte.l1 k s ls (ls.length : Int) i) ls.length (by omega) (fun i s => s ++ (ls.drop i.toNat).flatten = ls.flatten ∧ s.length + sumLen (ls.drop i.toNat) = sumLen ls) ls.flatten
      (fun i s h0 h1 ⟨hf, hl⟩ => ?_) (fun s ⟨hf, hl⟩ => Ev.step (fun k => slices_Concat_byte.l1.eq_2 ..) (Ev.neg (by omega) (Ev.eq (Ev.now _) (by rw [← hf, List.drop_eq_nil_of_le (by omega)]; simp)))) 0 [] (by omega) (by omega) ⟨by simp, by simp⟩
    have e1 : ls[i.toNat]? = some (ls[i.toNat]'(by omega)) := List.getElem?_eq_getElem (by omega)
    have e2 := sumLen_drop ls i.toNat (by omega)
    rw [drop_cons_at ls i.toNat (by omega)] at hf
    generalize ls[i.toNat]'(by omega) = l at e1 e2 hf
    refine .inl ⟨s ++ l, ⟨by rw [show (i + 1).toNat = i.toNat + 1 by omega, ← hf]; simp, by rw [show (i + 1).toNat = i.toNat + 1 by omega]; simp; omega⟩, fun h => Ev.step (fun k => slices_Concat_byte.l1.eq_2 ..) (Ev.pos h1 (Ev.pos h0 (Ev.pos h1 ?_)))⟩
    rw [rdLL e1]
    exact Ev.pos (by omega) h

theorem within_eq (x a b : Int) : impl_within.f x a b = some (decide (a ≤ x ∧ x ≤ b)) := by
  unfold impl_within.f
  by_cases h1 : a ≤ x <;> simp [h1]
theorem l1In_eq (x a b : Int) : spec_l1In.f x a b = some (decide (a ≤ x ∧ x ≤ b)) := by
  unfold spec_l1In.f
  by_cases h1 : a ≤ x <;> simp [h1]

/-- What CrashLog tells. -/
def crashR (l m : List Int) (kept : Int) : Int × List Int × List Int := if logFault l.length m.length = 0 then (if 0 ≤ kept ∧ kept ≤ m.length then (0, l ++ m.take kept.toNat, []) else (3, [], [])) else (logFault l.length m.length, [], [])
theorem spec_l4Crash_eq (l m : List Int) (kept : Int) (h : l.length + m.length ≤ 2000000) (h0 : 0 ≤ kept) (h1 : kept ≤ m.length) : spec_l4Crash.f l m kept = some (l ++ m.take kept.toNat, []) := by
  unfold spec_l4Crash.f
  simp only [Option.bind_some, List.nil_append, List.length_nil]
  rw [if_pos (by omega), if_pos h0, if_pos h1, if_pos (by rw [List.length_take]; omega)]
theorem spec_CrashLog_ev (l m : List Int) (kept : Int) (h : l.length + m.length ≤ 2000000) : Ev (fun _ => spec_CrashLog.f l m kept) (crashR l m kept) := by
  unfold spec_CrashLog.f crashR
  refine Ev.bind (Ev.is (spec_LogFault_eq l m)) (Ev.cond (fun _ => Ev.bind (Ev.is (l1In_eq _ _ _)) ?_) (fun _ => Ev.now _))
  by_cases hk : 0 ≤ kept ∧ kept ≤ m.length
  · rw [if_pos hk]
    exact Ev.pos (by simpa using hk) (Ev.bind (Ev.is (spec_l4Crash_eq l m kept h hk.1 hk.2)) (Ev.now _))
  · rw [if_neg hk]
    exact Ev.neg (by simpa using hk) (Ev.now _)
theorem impl_CrashLog_ev (l m : List Int) (kept : Int) (h : l.length + m.length ≤ 2000000) : Ev (fun k => impl_CrashLog.f k l m kept) (crashR l m kept) := by
  unfold impl_CrashLog.f crashR impl_size_byte.f
  refine Ev.bind (Ev.is (impl_LogFault_eq l m)) ?_
  by_cases hf : logFault l.length m.length = 0
  · rw [if_pos hf]
    refine Ev.pos hf (Ev.let (Ev.bind (Ev.is (within_eq _ _ _)) ?_))
    by_cases hk : 0 ≤ kept ∧ kept ≤ m.length
    · rw [if_pos hk]
      refine Ev.pos (by simpa using hk) (Ev.pos hk.1 (Ev.pos hk.2 (Ev.bind (concat_ev [l, m.take kept.toNat] (by simp) (by simp [sumLen]; omega)) ?_)))
      simp only [List.flatten_cons, List.flatten_nil, List.append_nil]
      exact Ev.now _
    · rw [if_neg hk]
      exact Ev.neg (by simpa using hk) (Ev.now _)
  · rw [if_neg hf]
    exact Ev.neg hf (Ev.now _)
theorem crashR_len (l m : List Int) (kept : Int) : (crashR l m kept).2.1.length + (crashR l m kept).2.2.length ≤ l.length + m.length := by
  unfold crashR
  split
  · split
    · simp; omega
    · simp
  · simp
theorem FnExactCrashLog : ∀ (l0_0 : List Int) (l0_1 : List Int) (a1 : Int), okL (fun n => (Lit.int .u8 n).wf = true) l0_0 → okL (fun n => (Lit.int .u8 n).wf = true) l0_1 → (Lit.int .i64 a1).wf = true → ∃ k, laws_FnExactCrashLog.f k l0_0 l0_1 a1 = some true := by
  intro l m kept hl hm _
  refine Ev.rounds (r := true) ?_
  unfold laws_FnExactCrashLog.f
  obtain ⟨r, hr, hb⟩ := szLog_eq l m hl.1 hm.1
  rw [hr]
  refine Ev.let (Ev.ite (fun _ => Ev.now _) (fun h => ?_))
  have hb := hb h
  have ht := toLog_ev l m hb
  have hlen := crashR_len l m kept
  have he := eqLogResult_ev (crashR l m kept).1 (crashR l m kept).2.1 (crashR l m kept).2.2 (by omega)
  have hi := impl_CrashLog_ev l m kept (by omega)
  have hh := heldLogResult_ev (crashR l m kept).1 (crashR l m kept).2.1.length (crashR l m kept).2.2.length (by omega)
  refine Ev.step (fun k => laws_FnExactCrashLog.j0.eq_2 ..) (Ev.bind ht (Ev.bind (spec_CrashLog_ev l m kept (by omega)) (Ev.bind ht (Ev.bind hi (Ev.bind he (Ev.pos rfl ?_))))))
  refine Ev.step (fun k => laws_FnExactCrashLog.j1.eq_2 ..) (Ev.bind ht (Ev.bind (eqLog_ev l m (by omega)) (Ev.pos rfl ?_)))
  refine Ev.step (fun k => laws_FnExactCrashLog.j2.eq_2 ..) (Ev.bind (markLog_ev l m (by omega)) (Ev.neg (by simp; omega) (Ev.bind he ?_)))
  refine Ev.step (fun k => laws_FnExactCrashLog.j3.eq_2 ..) (Ev.neg (by simp) ?_)
  refine Ev.step (fun k => laws_FnExactCrashLog.j4.eq_2 ..) (Ev.bind (markLogResult_ev _ _ _ (by omega)) (Ev.bind hh (Ev.neg (by omega) ?_)))
  refine Ev.step (fun k => laws_FnExactCrashLog.j5.eq_2 ..) (Ev.pos rfl ?_)
  refine Ev.step (fun k => laws_FnExactCrashLog.j6.eq_2 ..) (Ev.bind ht (Ev.bind hi (Ev.bind he (Ev.pos rfl ?_))))
  exact Ev.step (fun k => laws_FnExactCrashLog.j7.eq_2 ..) (Ev.bind hh (Ev.neg (by omega) (Ev.pos rfl (Ev.now _))))

end Go.Proofs.Ytcdpiejcdeedoaa.Pure
