/- FnExactReadLog, the pure statement: the program's ReadLog and the reference's tell the same of any log; the argument is as it was, and the answer is new memory. No conditions. -/
import Derived.Test.YtcdpiejcdeedoaaPFnExactReadLogx6
import Derived.Test.YtcdpiejcdeedoaaOFnExactReadLog
namespace Go.Proofs.Ytcdpiejcdeedoaa.Pure
open Go.RowKit Go.Proofs.Ytcdpiejcdeedoaa.PFnExactReadLog Go.Proofs.YtcdpiejcdeedoaaW.PrintWords Go.Proofs.YtcdpiejcdeedoaaW.PrintLast Go.Proofs.YtcdpiejcdeedoaaW.PrintMore Go.Proofs.Ytcdpiejcdeedoaa.Opens
set_option linter.unusedVariables false
set_option linter.unusedSimpArgs false
/-! ### words of this text's own -/
theorem w64 {x : Int} (h0 : -9223372036854775808 ≤ x) (h1 : x ≤ 9223372036854775807) : wrap64 x = x := by
  unfold wrap64
  omega
theorem wfU8 {x : Int} (h : (Lit.int .u8 x).wf = true) : 0 ≤ x ∧ x < 256 := by
  simp [Lit.wf, IntKind.min, IntKind.max, IntKind.signed, IntKind.bits] at h
  omega
theorem wfI64 {x : Int} (h : (Lit.int .i64 x).wf = true) : -9223372036854775808 ≤ x ∧ x ≤ 9223372036854775807 := by
  simp [Lit.wf, IntKind.min, IntKind.max, IntKind.signed, IntKind.bits] at h
  omega
section
variable {α β σ : Type}
theorem Ev.ite {g f : Nat → Option α} {c : Prop} [Decidable c] {r : α} (ht : c → Ev g r) (hf : ¬ c → Ev f r) : Ev (fun k => if c then g k else f k) r := by
  by_cases h : c
  · simp only [if_pos h]; exact ht h
  · simp only [if_neg h]; exact hf h
theorem Ev.pos {g f : Nat → Option α} {c : Prop} [Decidable c] {r : α} (h : c) (ht : Ev g r) : Ev (fun k => if c then g k else f k) r := Ev.ite (fun _ => ht) (fun n => absurd h n)
theorem Ev.neg {g f : Nat → Option α} {c : Prop} [Decidable c] {r : α} (h : ¬ c) (hf : Ev f r) : Ev (fun k => if c then g k else f k) r := Ev.ite (fun y => absurd y h) (fun _ => hf)
theorem Ev.cond {g f : Nat → Option α} {c : Prop} [Decidable c] {r s : α} (ht : c → Ev g r) (hf : ¬ c → Ev f s) : Ev (fun k => if c then g k else f k) (if c then r else s) := by
  by_cases h : c
  · simp only [if_pos h]; exact ht h
  · simp only [if_neg h]; exact hf h
theorem Ev.let {f : Nat → α → Option β} {a : α} {r : β} (k : Ev (fun n => f n a) r) : Ev (fun n => (some a).bind (f n)) r := Ev.bind (Ev.now a) k
theorem Ev.is {a : Option α} {r : α} (h : a = some r) : Ev (fun _ => a) r := ⟨0, fun _ _ => h⟩
theorem Ev.eq {g : Nat → Option α} {a b : α} (h : Ev g a) (e : a = b) : Ev g b := e ▸ h
/-- A loop that counts i up to n, with a state s: what it comes to, if 'P i s' leads from round to round. -/
theorem Ev.upto (F : Nat → σ → Int → Option α) (n : Int) (hn : n ≤ 9223372036854775807) (P : Int → σ → Prop) (R : α → Prop)
    (step : ∀ i s, 0 ≤ i → i < n → P i s → (∃ s', P (i + 1) s' ∧ ∀ r, Ev (fun k => F k s' (wrap64 (i + 1))) r → Ev (fun k => F k s i) r) ∨ (∃ r, R r ∧ Ev (fun k => F k s i) r))
    (stop : ∀ s, P n s → ∃ r, R r ∧ Ev (fun k => F k s n) r) (i : Int) (s : σ) (h0 : 0 ≤ i) (h1 : i ≤ n) (hP : P i s) : ∃ r, R r ∧ Ev (fun k => F k s i) r := by
  obtain ⟨d, hd⟩ : ∃ d : Nat, n - i = d := ⟨(n - i).toNat, by omega⟩
  induction d generalizing i s with
  | zero =>
    obtain rfl : i = n := by omega
    exact stop s hP
  | succ d ih =>
    rcases step i s h0 (by omega) hP with ⟨s', hP', h⟩ | h
    · obtain ⟨r, hr, he⟩ := ih (i + 1) s' (by omega) (by omega) hP' (by omega)
      exact ⟨r, hr, h r (by rw [w64 (by omega) (by omega)]; exact he)⟩
    · exact h
/-- The same, where what it comes to is one value. -/
theorem Ev.upto1 (F : Nat → σ → Int → Option α) (n : Int) (hn : n ≤ 9223372036854775807) (P : Int → σ → Prop) (r : α)
    (step : ∀ i s, 0 ≤ i → i < n → P i s → (∃ s', P (i + 1) s' ∧ (Ev (fun k => F k s' (wrap64 (i + 1))) r → Ev (fun k => F k s i) r)) ∨ Ev (fun k => F k s i) r)
    (stop : ∀ s, P n s → Ev (fun k => F k s n) r) (i : Int) (s : σ) (h0 : 0 ≤ i) (h1 : i ≤ n) (hP : P i s) : Ev (fun k => F k s i) r := by
  obtain ⟨d, hd⟩ : ∃ d : Nat, n - i = d := ⟨(n - i).toNat, by omega⟩
  induction d generalizing i s with
  | zero =>
    obtain rfl : i = n := by omega
    exact stop s hP
  | succ d ih =>
    rcases step i s h0 (by omega) hP with ⟨s', hP', h⟩ | h
    · exact h (by rw [w64 (by omega) (by omega)]; exact ih (i + 1) s' (by omega) (by omega) hP' (by omega))
    · exact h
theorem take_set_succ (l acc : List α) (i : Nat) (v : α) (h : i < acc.length) (ht : acc.take i = l.take i) (hv : l[i]? = some v) : (acc.set i v).take (i + 1) = l.take (i + 1) := by
  rw [List.take_add_one, List.take_add_one, hv, List.getElem?_set_self h, List.take_set_of_le (Nat.le_refl _), ht]
/-- A row filled cell by cell. -/
theorem Ev.fill (F : Nat → List α → Int → Option (List α)) (l : List α) (hl : l.length ≤ 9223372036854775807)
    (step : ∀ (i : Int) s (v : α), 0 ≤ i → i < (l.length : Int) → s.length = l.length → l[i.toNat]? = some v → Ev (fun k => F k (s.set i.toNat v) (wrap64 (i + 1))) l → Ev (fun k => F k s i) l)
    (stop : ∀ s, s.length = l.length → Ev (fun k => F k s (l.length : Int)) s) (s : List α) (hs : s.length = l.length) : Ev (fun k => F k s 0) l :=
  Ev.upto1 F l.length (by omega) (fun i s => s.length = l.length ∧ s.take i.toNat = l.take i.toNat) l
    (fun i s h0 h1 ⟨hs, ht⟩ => .inl ⟨s.set i.toNat (l[i.toNat]'(by omega)), ⟨by simp [hs], by
      rw [show (i + 1).toNat = i.toNat + 1 by omega]
      exact take_set_succ l s _ _ (by omega) ht (List.getElem?_eq_getElem (by omega))⟩, step i s _ h0 h1 hs (List.getElem?_eq_getElem (by omega))⟩)
    (fun s ⟨hs, ht⟩ => by
      rw [List.take_of_length_le (by omega), List.take_of_length_le (by omega)] at ht
      have := stop s hs
      subst ht
      exact this) 0 s (by omega) (by omega) ⟨hs, by simp⟩
/-- A loop that asks of each place, and comes to the end. -/
theorem Ev.each {F : Nat → Int → Option β} {r : β} (n : Nat) (hn : (n : Int) ≤ 9223372036854775807) (step : ∀ i : Int, 0 ≤ i → i < n → Ev (fun k => F k (wrap64 (i + 1))) r → Ev (fun k => F k i) r) (stop : Ev (fun k => F k (n : Int)) r) : Ev (fun k => F k 0) r :=
  Ev.upto1 (fun k (_ : Unit) i => F k i) n hn (fun _ _ => True) r (fun i _ h0 h1 _ => .inl ⟨(), trivial, step i h0 h1⟩) (fun _ _ => stop) 0 () (by omega) (by omega) trivial
end
theorem rd_get (l : List Int) (i : Int) (h0 : 0 ≤ i) (h1 : i < (l.length : Int)) : rd l i = l[i.toNat]'(by omega) := by
  unfold rd
  rw [List.getD_eq_getElem?_getD, List.getElem?_eq_getElem (by omega)]
  rfl
theorem rd_of {l : List Int} {i : Int} {v : Int} (h : l[i.toNat]? = some v) : rd l i = v := by
  unfold rd
  rw [List.getD_eq_getElem?_getD, h]
  rfl
theorem drop_cons_at {α : Type} (l : List α) (i : Nat) (h : i < l.length) : l.drop i = l[i] :: l.drop (i + 1) := List.drop_eq_getElem_cons h
/-- What is left of a bound behind a list, or less than nothing. -/
def szRest (n : Nat) (left : Int) : Int := if left - n < 0 then -1 else left - n
theorem szRest_ok {n : Nat} {left : Int} (h0 : left ≤ 1048576) (h1 : ¬ szRest n left < 0) : (n : Int) ≤ left ∧ szRest n left = left - n := by
  unfold szRest at *
  by_cases h : left - n < 0
  · rw [if_pos h] at h1; omega
  · rw [if_neg h]; exact ⟨by omega, rfl⟩

theorem szByteS_eq (l : List Int) (hl : l.length ≤ maxLen) (left : Int) (h0 : 0 ≤ left) (h1 : left ≤ 1048576) : laws_szByteS.f l left = some (szRest l.length left) := by
  unfold maxLen at hl
  unfold laws_szByteS.f szRest
  rw [w64 (by omega) (by omega)]
  split <;> rfl
theorem szLog_eq (l m : List Int) (hl : l.length ≤ maxLen) (hm : m.length ≤ maxLen) : ∃ r, laws_szLog.f l m 1048576 = some r ∧ (¬ r < 0 → l.length + m.length ≤ 1048576) := by
  unfold laws_szLog.f
  rw [szByteS_eq l hl _ (by decide) (by decide)]
  simp only [Option.bind_some]
  by_cases h : szRest l.length 1048576 < 0
  · rw [if_pos h]; exact ⟨-1, rfl, fun h => absurd (by decide) h⟩
  · obtain ⟨b1, e1⟩ := szRest_ok (by decide) h
    rw [if_neg h, e1, szByteS_eq m hm _ (by omega) (by omega)]
    simp only [Option.bind_some]
    by_cases h : szRest m.length (1048576 - l.length) < 0
    · rw [if_pos h]; exact ⟨-1, rfl, fun h => absurd (by decide) h⟩
    · obtain ⟨b2, e2⟩ := szRest_ok (by omega) h
      rw [if_neg h]
      exact ⟨_, rfl, fun _ => by omega⟩

theorem toByteS_ev (l : List Int) (hl : l.length ≤ 140737488351232) : Ev (fun k => laws_toByteS.f k l) l := by
  unfold laws_toByteS.f
  refine Ev.pos (by omega) (Ev.pos (by omega) ?_)
  exact Ev.fill (fun k s i => laws_toByteS.l0 k l s i) l (by omega)
    (fun i s v h0 h1 hs hv h => Ev.step (fun k => laws_toByteS.l0.eq_2 ..) (Ev.pos h1 (Ev.pos h0 (Ev.pos (by omega) (by rw [rd_of hv]; exact h)))))
    (fun s hs => Ev.step (fun k => laws_toByteS.l0.eq_2 ..) (Ev.neg (by omega) (Ev.now _))) _ (by simp)

theorem toLog_ev (l m : List Int) (h : l.length + m.length ≤ 1048576) : Ev (fun k => laws_toLog.f k l m) (l, m) := by
  unfold laws_toLog.f
  exact Ev.bind (toByteS_ev l (by omega)) (Ev.bind (toByteS_ev m (by omega)) (Ev.now _))

theorem eqByteS_ev (l : List Int) (hl : l.length ≤ 140737488351232) : Ev (fun k => laws_eqByteS.f k l l) true := by
  unfold laws_eqByteS.f
  refine Ev.pos rfl ?_
  exact Ev.each (F := fun k i => laws_eqByteS.l0 k l l i) l.length (by omega)
    (fun i h0 h1 h => Ev.step (fun k => laws_eqByteS.l0.eq_2 ..) (Ev.pos h1 (Ev.pos h0 (Ev.pos h1 (Ev.pos rfl h)))))
    (Ev.step (fun k => laws_eqByteS.l0.eq_2 ..) (Ev.neg (by omega) (Ev.now _)))

theorem eqLog_ev (l m : List Int) (h : l.length + m.length ≤ 2000000) : Ev (fun k => laws_eqLog.f k l m l m) true := by
  unfold laws_eqLog.f
  exact Ev.bind (eqByteS_ev l (by omega)) (Ev.pos rfl (Ev.bind (eqByteS_ev m (by omega)) (Ev.pos rfl (Ev.now _))))

/-- Bytes marked one behind the other from k on. -/
def markB (n : Nat) (k : Int) : List Int := (List.range n).map fun (i : Nat) => (k + i) % 256
theorem markB_len (n : Nat) (k : Int) : (markB n k).length = n := by simp [markB]
theorem markB_get (n : Nat) (k : Int) (i : Nat) (h : i < n) : (markB n k)[i]? = some ((k + i) % 256) := by simp [markB, h]
theorem markByteS_ev (l : List Int) (m : Int) (h0 : 0 ≤ m) (h1 : m + l.length ≤ 9000000000000000000) : Ev (fun k => laws_markByteS.f k l m) (m + l.length, markB l.length m) := by
  unfold laws_markByteS.f
  refine Ev.upto1 (fun k (s : List Int × Int) i => laws_markByteS.l0 k s.1 s.2 i) l.length (by omega) (fun i s => s.1.length = l.length ∧ s.2 = m + i ∧ s.1.take i.toNat = (markB l.length m).take i.toNat) (m + l.length, markB l.length m)
    (fun i s p0 p1 ⟨hl, hs, ht⟩ => .inl ⟨(s.1.set i.toNat (s.2 % 256), s.2 + 1), ⟨by simp [hl], by simp [hs]; omega, ?_⟩, fun h => Ev.step (fun k => laws_markByteS.l0.eq_2 ..) (Ev.pos (by omega) (Ev.pos p0 (by rw [w64 (x := s.2 + 1) (by omega) (by omega)]; exact h)))⟩)
    (fun s ⟨hl, hs, ht⟩ => Ev.step (fun k => laws_markByteS.l0.eq_2 ..) (Ev.neg (by omega) (Ev.eq (Ev.now _) ?_)))
    0 (l, m) (by omega) (by omega) ⟨rfl, by simp, by simp⟩
  · show (s.1.set i.toNat (s.2 % 256)).take (i + 1).toNat = _
    rw [show (i + 1).toNat = i.toNat + 1 by omega]
    refine take_set_succ _ _ _ _ (by omega) ht ?_
    rw [markB_get _ _ _ (by omega), hs]
    congr 3
    omega
  · rw [List.take_of_length_le (by omega), List.take_of_length_le (by simp [markB_len])] at ht
    rw [ht, hs]
theorem heldByteS_ev (n : Nat) (m : Int) (h0 : 0 ≤ m) (h1 : m + n ≤ 9000000000000000000) : Ev (fun k => laws_heldByteS.f k (markB n m) m) (m + n) := by
  unfold laws_heldByteS.f
  refine Ev.upto1 (fun k (s : Int) i => laws_heldByteS.l0 k (markB n m) s i) n (by omega) (fun i s => s = m + i) (m + n)
    (fun i s p0 p1 hs => .inl ⟨s + 1, by omega, fun h => Ev.step (fun k => laws_heldByteS.l0.eq_2 ..) (Ev.pos (by rw [markB_len]; exact p1) (Ev.pos p0 (Ev.pos ?_ (by rw [w64 (x := s + 1) (by omega) (by omega)]; exact h))))⟩)
    (fun s hs => Ev.step (fun k => laws_heldByteS.l0.eq_2 ..) (Ev.neg (by rw [markB_len]; omega) (Ev.eq (Ev.now _) hs)))
    0 m (by omega) (by omega) (by omega)
  rw [rd_of (markB_get n m i.toNat (by omega)), hs]
  congr 1
  omega

theorem markLog_ev (l m : List Int) (h : l.length + m.length ≤ 2000000) : Ev (fun k => laws_markLog.f k l m 1) (1 + l.length + m.length, markB l.length 1, markB m.length (1 + l.length)) := by
  unfold laws_markLog.f
  exact Ev.bind (markByteS_ev l 1 (by decide) (by omega)) (Ev.bind (markByteS_ev m _ (by omega) (by omega)) (Ev.now _))
/-- What LogFault tells of a log of so many bytes. -/
def logFault (n m : Nat) : Int := if wrap64 ((n : Int) + (m : Int)) > 6000 then 2 else 0
theorem spec_LogFault_eq (l m : List Int) : spec_LogFault.f l m = some (logFault l.length m.length) := by
  unfold spec_LogFault.f logFault
  split <;> rfl
theorem impl_LogFault_eq (l m : List Int) : impl_LogFault.f l m = some (logFault l.length m.length) := by
  unfold impl_LogFault.f logFault
  split <;> rfl

/-- How long rows are together. -/
def sumLen (ls : List (List Int)) : Nat := (ls.map List.length).sum
theorem rdLL {l : List (List Int)} {i : Int} {v : List Int} (h : l[i.toNat]? = some v) : rd_L1 l i = v := by
  unfold rd_L1
  rw [List.getD_eq_getElem?_getD, h]
  rfl
theorem sumLen_drop (ls : List (List Int)) (i : Nat) (h : i < ls.length) : sumLen (ls.drop i) = (ls[i]'h).length + sumLen (ls.drop (i + 1)) := by
  rw [drop_cons_at ls i h]
  simp only [sumLen, List.map_cons, List.sum_cons]
theorem sumLen_drop_le (ls : List (List Int)) (i : Nat) : sumLen (ls.drop i) ≤ sumLen ls := by
  have := List.take_append_drop i ls
  have e : sumLen ls = sumLen (ls.take i) + sumLen (ls.drop i) := by
    conv => lhs; rw [← this]
    simp only [sumLen, List.map_append, List.sum_append]
  omega
theorem concat_ev (ls : List (List Int)) (hn : (ls.length : Int) ≤ 9000000000000000000) (hs : sumLen ls < 140737488355328) : Ev (fun k => slices_Concat_byte.f k ls) ls.flatten := by
  unfold slices_Concat_byte.f
  refine Ev.upto1 (fun k (s : Int) i => slices_Concat_byte.l0 k ls s ls (ls.length : Int) i) ls.length (by omega) (fun i s => 0 ≤ s ∧ s + sumLen (ls.drop i.toNat) = sumLen ls) ls.flatten
    (fun i s h0 h1 ⟨p0, hs'⟩ => ?_) (fun s ⟨p0, hs'⟩ => ?_) 0 0 (by omega) (by omega) ⟨by omega, by simp⟩
  · have e1 : ls[i.toNat]? = some (ls[i.toNat]'(by omega)) := List.getElem?_eq_getElem (by omega)
    have e2 := sumLen_drop ls i.toNat (by omega)
    generalize ls[i.toNat]'(by omega) = l at e1 e2
    refine .inl ⟨s + l.length, ⟨by omega, by rw [show (i + 1).toNat = i.toNat + 1 by omega]; omega⟩, fun h => Ev.step (fun k => slices_Concat_byte.l0.eq_2 ..) (Ev.pos h1 (Ev.pos h0 (Ev.pos h1 ?_)))⟩
    rw [rdLL e1, w64 (x := s + (l.length : Int)) (by omega) (by omega)]
    exact Ev.neg (by omega) h
  · refine Ev.step (fun k => slices_Concat_byte.l0.eq_2 ..) (Ev.neg (by omega) (Ev.bind (a := []) (Ev.is (by
      unfold slices_Grow_byte.f
      rw [if_pos (by omega)])) ?_))
    refine Ev.upto1 (fun k (s : List Int) i => slices_Concat_byte.l1 k s ls (ls.length : Int) i) ls.length (by omega) (fun i s => s ++ (ls.drop i.toNat).flatten = ls.flatten ∧ s.length + sumLen (ls.drop i.toNat) = sumLen ls) ls.flatten
      (fun i s h0 h1 ⟨hf, hl⟩ => ?_) (fun s ⟨hf, hl⟩ => Ev.step (fun k => slices_Concat_byte.l1.eq_2 ..) (Ev.neg (by omega) (Ev.eq (Ev.now _) (by rw [← hf, List.drop_eq_nil_of_le (by omega)]; simp)))) 0 [] (by omega) (by omega) ⟨by simp, by simp⟩
    have e1 : ls[i.toNat]? = some (ls[i.toNat]'(by omega)) := List.getElem?_eq_getElem (by omega)
    have e2 := sumLen_drop ls i.toNat (by omega)
    rw [drop_cons_at ls i.toNat (by omega)] at hf
    generalize ls[i.toNat]'(by omega) = l at e1 e2 hf
    refine .inl ⟨s ++ l, ⟨by rw [show (i + 1).toNat = i.toNat + 1 by omega, ← hf]; simp, by rw [show (i + 1).toNat = i.toNat + 1 by omega]; simp; omega⟩, fun h => Ev.step (fun k => slices_Concat_byte.l1.eq_2 ..) (Ev.pos h1 (Ev.pos h0 (Ev.pos h1 ?_)))⟩
    rw [rdLL e1]
    exact Ev.pos (by omega) h

theorem logFault_zero {n m : Nat} (h : n + m ≤ 2000000) : logFault n m = if n + m ≤ 6000 then 0 else 2 := by
  unfold logFault
  rw [w64 (by omega) (by omega)]
  by_cases h : n + m ≤ 6000
  · rw [if_neg (by omega), if_pos h]
  · rw [if_pos (by omega), if_neg h]
/-- What SyncLog tells. -/
def syncR (l m : List Int) : Int × List Int × List Int := if logFault l.length m.length = 0 then (0, l ++ m, []) else (logFault l.length m.length, [], [])
theorem spec_l4Sync_ev (l m : List Int) (h : l.length + m.length ≤ 2000000) : spec_l4Sync.f l m = some (l ++ m, []) := by
  unfold spec_l4Sync.f
  simp only [Option.bind_some, List.nil_append, List.length_nil]
  rw [if_pos (by omega), if_pos (by omega)]
theorem sync_any (c : Int) (t : Option (List Int × List Int)) (l m : List Int) (h : t = some (l ++ m, [])) :
    ((some c).bind fun x => (if x = 0 then (t.bind fun y => (some (0, y.1, y.2))) else (some (x, ([] : List Int), ([] : List Int))))) = some (if c = 0 then (0, l ++ m, []) else (c, [], [])) := by
  subst h
  by_cases hc : c = 0
  · subst hc
    rfl
  · simp only [Option.bind_some, if_neg hc]
theorem syncR_len (l m : List Int) : (syncR l m).2.1.length + (syncR l m).2.2.length ≤ l.length + m.length := by
  unfold syncR
  split <;> simp

/-- How many cells rows have. -/
def totB (ls : List (List Int)) : Nat := (ls.map List.length).sum
/-- Rows of bytes marked one behind the other from m on. -/
def markBs : List (List Int) → Int → List (List Int)
  | [], _ => []
  | l :: ls, m => markB l.length m :: markBs ls (m + l.length)
theorem markByteSS_loop : ∀ (rest done : List (List Int)) (m : Int), 0 ≤ m → m + totB rest ≤ 9000000000000000000 → done.length + rest.length ≤ 2000000 →
    Ev (fun k => laws_markByteSS.l0 k (done ++ rest) m (done.length : Int)) (m + totB rest, done ++ markBs rest m) := by
  intro rest
  induction rest with
  | nil =>
    intro done m h0 h1 h2
    refine Ev.step (fun k => laws_markByteSS.l0.eq_2 ..) (Ev.neg (by simp) (Ev.eq (Ev.now _) (by simp [totB, markBs])))
  | cons l ls ih =>
    intro done m h0 h1 h2
    have ht : totB (l :: ls) = l.length + totB ls := by simp [totB]
    have hl : (l :: ls).length = ls.length + 1 := rfl
    rw [ht] at h1
    refine Ev.step (fun k => laws_markByteSS.l0.eq_2 ..) (Ev.pos (by rw [List.length_append]; omega) (Ev.pos (by omega) ?_))
    rw [show (done ++ l :: ls).getD ((done.length : Int)).toNat [] = l by simp, w64 (by omega) (by omega)]
    refine Ev.bind (markByteS_ev l m h0 (by omega)) ?_
    have e := ih (done ++ [markB l.length m]) (m + l.length) (by omega) (by omega) (by simp; omega)
    rw [show (((done ++ [markB l.length m]).length : Nat) : Int) = (done.length : Int) + 1 by simp, List.append_assoc] at e
    show Ev (fun k => laws_markByteSS.l0 k ((done ++ l :: ls).set ((done.length : Int)).toNat (markB l.length m)) (m + l.length) ((done.length : Int) + 1)) _
    rw [show (done ++ l :: ls).set ((done.length : Int)).toNat (markB l.length m) = done ++ ([markB l.length m] ++ ls) by simp]
    refine Ev.eq e ?_
    rw [ht, markBs, List.append_assoc, Prod.mk.injEq]
    exact ⟨by omega, rfl⟩
theorem markByteSS_ev (ls : List (List Int)) (h : totB ls ≤ 2000000) (h2 : ls.length ≤ 2000000) : Ev (fun k => laws_markByteSS.f k ls 1) (1 + totB ls, markBs ls 1) := by
  unfold laws_markByteSS.f
  exact Ev.eq (markByteSS_loop ls [] 1 (by decide) (by omega) (by simpa using h2)) (by simp)
theorem heldByteSS_loop : ∀ (rest : List (List Int)) (done : List (List Int)) (m : Int), 0 ≤ m → m + totB rest ≤ 9000000000000000000 → done.length + rest.length ≤ 2000000 →
    Ev (fun k => laws_heldByteSS.l0 k (done ++ markBs rest m) m (done.length : Int)) (m + totB rest) := by
  intro rest
  induction rest with
  | nil =>
    intro done m h0 h1 h2
    refine Ev.step (fun k => laws_heldByteSS.l0.eq_2 ..) (Ev.neg (by simp [markBs]) (Ev.eq (Ev.now _) (by simp [totB])))
  | cons l ls ih =>
    intro done m h0 h1 h2
    have ht : totB (l :: ls) = l.length + totB ls := by simp [totB]
    have hl : (l :: ls).length = ls.length + 1 := rfl
    rw [ht] at h1 ⊢
    rw [markBs]
    refine Ev.step (fun k => laws_heldByteSS.l0.eq_2 ..) (Ev.pos (by rw [List.length_append, List.length_cons]; omega) (Ev.pos (by omega) ?_))
    rw [show rd_L1 (done ++ markB l.length m :: markBs ls (m + l.length)) (done.length : Int) = markB l.length m by simp [rd_L1], w64 (by omega) (by omega)]
    refine Ev.bind (heldByteS_ev l.length m h0 (by omega)) (Ev.neg (by omega) ?_)
    have e := ih (done ++ [markB l.length m]) (m + l.length) (by omega) (by omega) (by simp; omega)
    rw [show (((done ++ [markB l.length m]).length : Nat) : Int) = (done.length : Int) + 1 by simp, List.append_assoc] at e
    exact Ev.eq e (by omega)
theorem heldByteSS_ev (ls : List (List Int)) (h : totB ls ≤ 2000000) (h2 : ls.length ≤ 2000000) : Ev (fun k => laws_heldByteSS.f k (markBs ls 1) 1) (1 + totB ls) := by
  unfold laws_heldByteSS.f
  exact heldByteSS_loop ls [] 1 (by decide) (by omega) (by simpa using h2)
theorem eqByteSS_ev (ls : List (List Int)) (h2 : ls.length ≤ 2000000) (h : ∀ l ∈ ls, l.length ≤ 140737488351232) : Ev (fun k => laws_eqByteSS.f k ls ls) true := by
  unfold laws_eqByteSS.f
  refine Ev.pos rfl (Ev.each ls.length (by omega) (fun i h0 h1 e => Ev.step (fun k => laws_eqByteSS.l0.eq_2 ..) (Ev.pos h1 (Ev.pos h0 (Ev.pos h1 (Ev.bind (eqByteS_ev _ (h _ ?_)) (Ev.pos rfl e)))))) (Ev.step (fun k => laws_eqByteSS.l0.eq_2 ..) (Ev.neg (by omega) (Ev.now _))))
  unfold rd_L1
  rw [List.getD_eq_getElem?_getD, List.getElem?_eq_getElem (show i.toNat < ls.length by omega)]
  exact List.getElem_mem _

/-- The check of bytes. -/
def checkL (h : Int) (l : List Int) : Int := l.foldl (fun h b => (h * 257 + b + 1) % 65521) h
theorem check_step (h b : Int) (h0 : 0 ≤ h) (h1 : h < 65521) (b0 : 0 ≤ b) (b1 : b < 256) : Int.tmod (wrap64 ((wrap64 ((wrap64 (h * 257)) + (wrap64 b))) + 1)) 65521 = (h * 257 + b + 1) % 65521 := by
  rw [w64 (x := h * 257) (by omega) (by omega), w64 (x := b) (by omega) (by omega), w64 (x := h * 257 + b) (by omega) (by omega), w64 (x := h * 257 + b + 1) (by omega) (by omega), Int.tmod_eq_emod_of_nonneg (by omega)]
theorem checkL_bound (l : List Int) : ∀ h, 0 ≤ h → h < 65521 → 0 ≤ checkL h l ∧ checkL h l < 65521 := by
  induction l with
  | nil => exact fun h a b => ⟨a, b⟩
  | cons x l ih => exact fun h _ _ => ih ((h * 257 + x + 1) % 65521) (by omega) (by omega)
theorem check_next (l : List Int) (i : Int) (s : Int) (h0 : 0 ≤ i) (h1 : i < (l.length : Int)) : checkL ((s * 257 + rd l i + 1) % 65521) (l.drop (i + 1).toNat) = checkL s (l.drop i.toNat) := by
  rw [drop_cons_at l i.toNat (by omega), show (i + 1).toNat = i.toNat + 1 by omega, rd_get l i h0 h1]
  rfl
theorem rd_byte (l : List Int) (hb : ∀ x ∈ l, 0 ≤ x ∧ x < 256) (i : Int) (h0 : 0 ≤ i) (h1 : i < (l.length : Int)) : 0 ≤ rd l i ∧ rd l i < 256 := by
  rw [rd_get l i h0 h1]
  exact hb _ (List.getElem_mem _)
theorem spec_CheckOf_ev (l : List Int) (hl : l.length ≤ 140737488351232) (hb : ∀ x ∈ l, 0 ≤ x ∧ x < 256) : Ev (fun k => spec_CheckOf.f k l) (checkL 1 l) := by
  unfold spec_CheckOf.f
  refine Ev.upto1 (fun k s i => spec_CheckOf.l0 k l s i) l.length (by omega) (fun i s => 0 ≤ s ∧ s < 65521 ∧ checkL s (l.drop i.toNat) = checkL 1 l) (checkL 1 l)
    (fun i s h0 h1 ⟨p0, p1, hs⟩ => .inl ⟨(s * 257 + rd l i + 1) % 65521, ⟨by omega, by omega, (check_next l i s h0 h1).trans hs⟩, fun h => Ev.step (fun k => spec_CheckOf.l0.eq_2 ..) (Ev.pos h1 (Ev.pos h0 ?_))⟩)
    (fun s ⟨p0, p1, hs⟩ => Ev.step (fun k => spec_CheckOf.l0.eq_2 ..) (Ev.neg (by omega) (Ev.eq (Ev.now _) (by rw [← hs, List.drop_eq_nil_of_le (by omega)]; rfl))))
    0 1 (by omega) (by omega) ⟨by omega, by omega, rfl⟩
  have ⟨b0, b1⟩ := rd_byte l hb i h0 h1
  rw [check_step s _ p0 p1 b0 b1]
  exact h
theorem impl_CheckOf_ev (l : List Int) (hl : l.length ≤ 140737488351232) (hb : ∀ x ∈ l, 0 ≤ x ∧ x < 256) : Ev (fun k => impl_CheckOf.f k l) (checkL 1 l) := by
  unfold impl_CheckOf.f
  refine Ev.upto1 (fun k s i => impl_CheckOf.l0 k s l (l.length : Int) i) l.length (by omega) (fun i s => 0 ≤ s ∧ s < 65521 ∧ checkL s (l.drop i.toNat) = checkL 1 l) (checkL 1 l)
    (fun i s h0 h1 ⟨p0, p1, hs⟩ => .inl ⟨(s * 257 + rd l i + 1) % 65521, ⟨by omega, by omega, (check_next l i s h0 h1).trans hs⟩, fun h => Ev.step (fun k => impl_CheckOf.l0.eq_2 ..) (Ev.pos h1 (Ev.pos h0 (Ev.pos h1 ?_)))⟩)
    (fun s ⟨p0, p1, hs⟩ => Ev.step (fun k => impl_CheckOf.l0.eq_2 ..) (Ev.neg (by omega) (Ev.eq (Ev.now _) (by rw [← hs, List.drop_eq_nil_of_le (by omega)]; rfl))))
    0 1 (by omega) (by omega) ⟨by omega, by omega, rfl⟩
  have ⟨b0, b1⟩ := rd_byte l hb i h0 h1
  rw [check_step s _ p0 p1 b0 b1]
  exact h

/-- A number below 65536 in two bytes, the higher one first. -/
def pairL (n : Int) : List Int := [n / 256 % 256, n % 256]
/-- A record: how many bytes, their check, and they. -/
def frameL (l : List Int) : List Int := pairL l.length ++ pairL (checkL 1 l) ++ l

theorem rd_drop (l : List Int) (n : Nat) (j : Int) (h : 0 ≤ j) : rd (l.drop n) j = rd l ((n : Int) + j) := by
  unfold rd
  rw [List.getD_eq_getElem?_getD, List.getD_eq_getElem?_getD, List.getElem?_drop, show ((n : Int) + j).toNat = n + j.toNat by omega]
theorem rd_bound (l : List Int) (hb : ∀ x ∈ l, 0 ≤ x ∧ x < 256) (i : Int) : 0 ≤ rd l i ∧ rd l i < 256 := by
  unfold rd
  rw [List.getD_eq_getElem?_getD]
  cases h : l[i.toNat]? with
  | none => simp
  | some v => exact hb v (List.mem_of_getElem? h)

/-- How many bytes the record at the beginning tells of. -/
def recN (d : List Int) : Int := rd d 0 * 256 + rd d 1
/-- The record at the beginning of bytes: what it holds. -/
def recD (d : List Int) : List Int := (d.drop 4).take (recN d).toNat
/-- Is there a record at the beginning? -/
def isRec (d : List Int) : Bool := decide (4 < d.length ∧ 1 ≤ recN d ∧ recN d ≤ 500 ∧ 4 + recN d ≤ d.length ∧ checkL 1 (recD d) = rd d 2 * 256 + rd d 3)
/-- The records at the beginning, and how many bytes they are. -/
def recs : Nat → List Int → List (List Int) × Nat
  | 0, _ => ([], 0)
  | f + 1, d => if isRec d = true then (recD d :: (recs f (d.drop (4 + (recN d).toNat))).1, 4 + (recN d).toNat + (recs f (d.drop (4 + (recN d).toNat))).2) else ([], 0)
theorem isRec_iff (d : List Int) : isRec d = true ↔ (4 < d.length ∧ 1 ≤ recN d ∧ recN d ≤ 500 ∧ 4 + recN d ≤ d.length ∧ checkL 1 (recD d) = rd d 2 * 256 + rd d 3) := by
  unfold isRec
  simp
theorem recD_len (d : List Int) (h : isRec d = true) : (recD d).length = (recN d).toNat := by
  obtain ⟨h1, h2, h3, h4, _⟩ := (isRec_iff d).1 h
  unfold recD
  rw [List.length_take, List.length_drop]
  omega
theorem recs_used (f : Nat) : ∀ d : List Int, (recs f d).2 ≤ d.length := by
  induction f with
  | zero => intro d; simp [recs]
  | succ f ih =>
    intro d
    unfold recs
    by_cases h : isRec d = true
    · rw [if_pos h]
      obtain ⟨h1, h2, h3, h4, _⟩ := (isRec_iff d).1 h
      have := ih (d.drop (4 + (recN d).toNat))
      rw [List.length_drop] at this
      simp only
      omega
    · rw [if_neg h]
      simp
/-- More rounds tell the same. -/
theorem recs_more : ∀ (f g : Nat) (d : List Int), d.length ≤ f → d.length ≤ g → recs f d = recs g d := by
  intro f
  induction f with
  | zero =>
    intro g d hf hg
    have hd : d = [] := List.length_eq_zero_iff.1 (by omega)
    subst hd
    cases g with
    | zero => rfl
    | succ g => simp [recs, isRec]
  | succ f ih =>
    intro g d hf hg
    cases g with
    | zero =>
      have hd : d = [] := List.length_eq_zero_iff.1 (by omega)
      subst hd
      simp [recs, isRec]
    | succ g =>
      unfold recs
      by_cases h : isRec d = true
      · rw [if_pos h, if_pos h, ih g (d.drop (4 + (recN d).toNat)) (by rw [List.length_drop]; omega) (by rw [List.length_drop]; omega)]
      · rw [if_neg h, if_neg h]
/-- The records at the beginning of bytes. -/
def records (d : List Int) : List (List Int) := (recs d.length d).1
def usedB (d : List Int) : Nat := (recs d.length d).2

theorem spec_l3Records_loop (l : List Int) (hb : ∀ x ∈ l, 0 ≤ x ∧ x < 256) (hl : l.length ≤ 2000000) : ∀ (f : Nat) (acc : List (List Int)) (n : Nat), n ≤ l.length → l.length - n ≤ f → acc.length + (l.length - n) ≤ 5000000 →
    Ev (fun k => spec_l3Records.l0 k l acc (n : Int)) (acc ++ (recs f (l.drop n)).1, (n : Int) + (recs f (l.drop n)).2) := by
  intro f
  induction f with
  | zero =>
    intro acc n h0 h1 h2
    refine Ev.step (fun k => spec_l3Records.l0.eq_2 ..) ?_
    rw [w64 (by omega) (by omega)]
    exact Ev.neg (by omega) (Ev.eq (Ev.now _) (by simp [recs]))
  | succ f ih =>
    intro acc n h0 h1 h2
    have r0 : rd l (n : Int) = rd (l.drop n) 0 := by rw [rd_drop _ _ _ (by decide)]; simp
    have r1 : rd l (wrap64 ((n : Int) + 1)) = rd (l.drop n) 1 := by rw [rd_drop _ _ _ (by decide), w64 (by omega) (by omega)]
    have r2 : rd l (wrap64 ((n : Int) + 2)) = rd (l.drop n) 2 := by rw [rd_drop _ _ _ (by decide), w64 (by omega) (by omega)]
    have r3 : rd l (wrap64 ((n : Int) + 3)) = rd (l.drop n) 3 := by rw [rd_drop _ _ _ (by decide), w64 (by omega) (by omega)]
    have hdb : ∀ x ∈ l.drop n, 0 ≤ x ∧ x < 256 := fun x hx => hb x (List.mem_of_mem_drop hx)
    have b0 := rd_bound _ hdb 0
    have b1 := rd_bound _ hdb 1
    have b2 := rd_bound _ hdb 2
    have b3 := rd_bound _ hdb 3
    have hdl : (l.drop n).length = l.length - n := List.length_drop ..
    have hN : wrap64 (wrap64 (wrap64 (rd (l.drop n) 0) * 256) + wrap64 (rd (l.drop n) 1)) = recN (l.drop n) := by
      unfold recN
      rw [w64 (x := rd (l.drop n) 0) (by omega) (by omega), w64 (x := rd (l.drop n) 1) (by omega) (by omega), w64 (x := rd (l.drop n) 0 * 256) (by omega) (by omega), w64 (by omega) (by omega)]
    have hNb : 0 ≤ recN (l.drop n) ∧ recN (l.drop n) ≤ 65535 := by unfold recN; omega
    refine Ev.step (fun k => spec_l3Records.l0.eq_2 ..) ?_
    rw [w64 (x := (n : Int) + 4) (by omega) (by omega), r0, r1, hN]
    unfold recs
    by_cases hlen : 4 < (l.drop n).length
    · refine Ev.pos (by omega) (Ev.pos (by omega) (Ev.pos (by omega) (Ev.pos (by rw [w64 (by omega) (by omega)]; omega) (Ev.pos (by rw [w64 (by omega) (by omega)]; omega) ?_))))
      by_cases hr : isRec (l.drop n) = true
      · rw [if_pos hr]
        obtain ⟨_, q1, q2, q3, q4⟩ := (isRec_iff _).1 hr
        have hrl := recD_len _ hr
        have hcut : (l.take ((n : Int) + 4 + recN (l.drop n)).toNat).drop ((n : Int) + 4).toNat = recD (l.drop n) := by
          unfold recD
          rw [List.drop_take, List.drop_drop]
          congr 1
          · omega
        refine Ev.neg (by omega) (Ev.neg (by omega) (Ev.step (fun k => spec_l3Records.j1.eq_2 ..) ?_))
        rw [w64 (x := (n : Int) + 4) (by omega) (by omega), w64 (x := (n : Int) + 4 + recN (l.drop n)) (by omega) (by omega), hcut, r2, r3]
        refine Ev.neg (by simp only [decide_eq_true_eq]; omega) (Ev.pos (by omega) (Ev.pos (by omega) (Ev.pos (by omega) (Ev.bind (spec_CheckOf_ev _ (by omega) (fun x hx => hdb x (List.mem_of_mem_drop (List.mem_of_mem_take hx)))) ?_))))
        refine Ev.pos (by rw [w64 (by omega) (by omega)]; omega) (Ev.pos (by rw [w64 (by omega) (by omega)]; omega) (Ev.pos (by rw [w64 (by omega) (by omega)]; omega) (Ev.pos (by rw [w64 (by omega) (by omega)]; omega) (Ev.pos ?_ ?_))))
        · rw [q4, w64 (x := rd (l.drop n) 2) (by omega) (by omega), w64 (x := rd (l.drop n) 3) (by omega) (by omega), w64 (x := rd (l.drop n) 2 * 256) (by omega) (by omega), w64 (by omega) (by omega)]
        · refine Ev.let (Ev.pos (by simp; omega) (Ev.pos (by omega) ?_))
          have e := ih (acc ++ [recD (l.drop n)]) (n + 4 + (recN (l.drop n)).toNat) (by omega) (by omega) (by simp; omega)
          rw [show ((n + 4 + (recN (l.drop n)).toNat : Nat) : Int) = (n : Int) + 4 + recN (l.drop n) by omega] at e
          simp only [List.nil_append]
          refine Ev.eq e ?_
          rw [List.drop_drop, show n + (4 + (recN (l.drop n)).toNat) = n + 4 + (recN (l.drop n)).toNat by omega]
          simp only [List.append_assoc, List.cons_append, List.nil_append, Prod.mk.injEq, true_and]
          omega
      · rw [if_neg hr]
        have hstop : Ev (fun k => spec_l3Records.j1 k l acc n (recN (l.drop n)) true) (acc ++ ([] : List (List Int)), (n : Int) + ((0 : Nat) : Int)) := Ev.step (fun k => spec_l3Records.j1.eq_2 ..) (Ev.pos rfl (Ev.eq (Ev.now _) (by simp)))
        by_cases q1 : recN (l.drop n) < 1
        · exact Ev.pos q1 hstop
        · by_cases q2 : recN (l.drop n) > 500
          · exact Ev.neg q1 (Ev.pos q2 hstop)
          · refine Ev.neg q1 (Ev.neg q2 (Ev.step (fun k => spec_l3Records.j1.eq_2 ..) ?_))
            rw [w64 (x := (n : Int) + 4) (by omega) (by omega), w64 (x := (n : Int) + 4 + recN (l.drop n)) (by omega) (by omega)]
            by_cases q3 : (n : Int) + 4 + recN (l.drop n) > (l.length : Int)
            · exact Ev.pos (by simpa using q3) (Ev.eq (Ev.now _) (by simp))
            · have hcut : (l.take ((n : Int) + 4 + recN (l.drop n)).toNat).drop ((n : Int) + 4).toNat = recD (l.drop n) := by
                unfold recD
                rw [List.drop_take, List.drop_drop]
                congr 1
                · omega
              rw [hcut, r2, r3]
              refine Ev.neg (by simpa using q3) (Ev.pos (by omega) (Ev.pos (by omega) (Ev.pos (by omega) (Ev.bind (spec_CheckOf_ev _ (by unfold recD; rw [List.length_take, List.length_drop]; omega) (fun x hx => hdb x (List.mem_of_mem_drop (List.mem_of_mem_take hx)))) ?_))))
              refine Ev.pos (by rw [w64 (by omega) (by omega)]; omega) (Ev.pos (by rw [w64 (by omega) (by omega)]; omega) (Ev.pos (by rw [w64 (by omega) (by omega)]; omega) (Ev.pos (by rw [w64 (by omega) (by omega)]; omega) (Ev.neg ?_ (Ev.eq (Ev.now _) (by simp))))))
              rw [w64 (x := rd (l.drop n) 2) (by omega) (by omega), w64 (x := rd (l.drop n) 3) (by omega) (by omega), w64 (x := rd (l.drop n) 2 * 256) (by omega) (by omega), w64 (by omega) (by omega)]
              exact fun h => hr ((isRec_iff _).2 ⟨hlen, by omega, by omega, by omega, h⟩)
    · have hr : ¬ isRec (l.drop n) = true := fun h => hlen ((isRec_iff _).1 h).1
      rw [if_neg hr]
      exact Ev.neg (by omega) (Ev.eq (Ev.now _) (by simp))
theorem spec_l3Records_ev (l : List Int) (hb : ∀ x ∈ l, 0 ≤ x ∧ x < 256) (hl : l.length ≤ 2000000) : Ev (fun k => spec_l3Records.f k l) (records l, (usedB l : Int)) := by
  unfold spec_l3Records.f
  exact Ev.eq (spec_l3Records_loop l hb hl l.length [] 0 (by omega) (by omega) (by simp; omega)) (by simp [records, usedB])

theorem within_eq (x a b : Int) : impl_within.f x a b = some (decide (a ≤ x ∧ x ≤ b)) := by
  unfold impl_within.f
  by_cases h1 : a ≤ x <;> simp [h1]

theorem bytes_inj (l m : List Int) (hl : ∀ x ∈ l, 0 ≤ x ∧ x < 256) (hm : ∀ x ∈ m, 0 ≤ x ∧ x < 256) : (strOfNums l).toList = (strOfNums m).toList ↔ l = m := by
  constructor
  · intro h
    rw [ByteArray.toList_eq, ByteArray.toList_eq, strOfNums_data, strOfNums_data] at h
    have h2 := congrArg (List.map fun b : UInt8 => (b.toNat : Int)) h
    have same : ∀ l : List Int, (∀ x ∈ l, 0 ≤ x ∧ x < 256) → (l.map fun n => UInt8.ofNat n.toNat).map (fun b : UInt8 => (b.toNat : Int)) = l := by
      intro l
      induction l with
      | nil => intro _; rfl
      | cons a l ih =>
        intro hl
        have ha := hl a (List.mem_cons_self ..)
        simp only [List.map_cons, ih (fun x hx => hl x (List.mem_cons_of_mem _ hx)), UInt8.toNat_ofNat']
        congr 1
        omega
    rw [same l hl, same m hm] at h2
    exact h2
  · intro h
    rw [h]
theorem clone_any (l : List Int) (h : l.length ≤ 2000000) : bytes_Clone.f l = some l := by
  unfold bytes_Clone.f
  simp only [Option.bind_some, List.nil_append, List.length_nil]
  rw [if_pos (by omega)]
theorem two_of (d : List Int) (h : 4 ≤ d.length) : (d.take 4).drop 2 = [rd d 2, rd d 3] := by
  match d, h with
  | a :: b :: c :: e :: t, _ => rfl
theorem unframe_no (d : List Int) (n : Int) : Ev (fun k => impl_unframe.j0 k d n true) ([], false) := Ev.step (fun k => impl_unframe.j0.eq_2 ..) (Ev.pos rfl (Ev.now _))
theorem impl_unframe_ev (d : List Int) (hb : ∀ x ∈ d, 0 ≤ x ∧ x < 256) (hl : d.length ≤ 2000000) : ∃ x, Ev (fun k => impl_unframe.f k d) (x, isRec d) ∧ (isRec d = true → x = recD d) := by
  have b0 := rd_bound _ hb 0
  have b1 := rd_bound _ hb 1
  have b2 := rd_bound _ hb 2
  have b3 := rd_bound _ hb 3
  have hN : wrap64 (wrap64 (wrap64 (rd d 0) * 256) + wrap64 (rd d 1)) = recN d := by
    unfold recN
    rw [w64 (x := rd d 0) (by omega) (by omega), w64 (x := rd d 1) (by omega) (by omega), w64 (x := rd d 0 * 256) (by omega) (by omega), w64 (by omega) (by omega)]
  have hNb : 0 ≤ recN d ∧ recN d ≤ 65535 := by unfold recN; omega
  have no : ¬ isRec d = true → ∀ x : List Int, ((x, false) : List Int × Bool) = (x, isRec d) := fun h x => by rw [Bool.eq_false_iff.2 h]
  unfold impl_unframe.f
  rw [hN, w64 (x := 4 + recN d) (by omega) (by omega)]
  by_cases h4 : d.length < 4
  · have hr : ¬ isRec d = true := fun h => by have := (isRec_iff d).1 h; omega
    exact ⟨[], Ev.pos (by omega) (Ev.eq (Ev.now _) (no hr [])), fun h => absurd h hr⟩
  · by_cases hw : 1 ≤ recN d ∧ recN d ≤ 500
    · by_cases hs : (d.length : Int) < 4 + recN d
      · have hr : ¬ isRec d = true := fun h => by have := (isRec_iff d).1 h; omega
        refine ⟨[], Ev.neg (by omega) (Ev.pos (by omega) (Ev.pos (by omega) (Ev.bind (Ev.is (within_eq _ _ _)) (Ev.pos (decide_eq_true hw) ?_)))), fun h => absurd h hr⟩
        rw [show decide ((d.length : Int) < 4 + recN d) = true from decide_eq_true hs]
        exact Ev.eq (unframe_no d _) (no hr [])
      · refine ⟨recD d, Ev.neg (by omega) (Ev.pos (by omega) (Ev.pos (by omega) (Ev.bind (Ev.is (within_eq _ _ _)) (Ev.pos (decide_eq_true hw) ?_)))), fun _ => rfl⟩
        rw [show decide ((d.length : Int) < 4 + recN d) = false from decide_eq_false hs]
        refine Ev.step (fun k => impl_unframe.j0.eq_2 ..) ?_
        rw [w64 (x := 4 + recN d) (by omega) (by omega)]
        have hcut : (d.take (4 + recN d).toNat).drop 4 = recD d := by
          unfold recD
          rw [List.drop_take]
          congr 1
          omega
        rw [hcut]
        have hrb : ∀ x ∈ recD d, 0 ≤ x ∧ x < 256 := fun x hx => hb x (List.mem_of_mem_drop (List.mem_of_mem_take hx))
        have hrl : (recD d).length ≤ 2000000 := by
          unfold recD
          rw [List.length_take, List.length_drop]
          omega
        have hcb := checkL_bound (recD d) 1 (by decide) (by decide)
        refine Ev.neg (by simp) (Ev.pos (by omega) (Ev.pos (by omega) (Ev.bind (Ev.now _) (Ev.pos (by decide) (Ev.pos (by omega) (Ev.bind (impl_CheckOf_ev _ (by omega) hrb) (Ev.bind (Ev.is (by unfold impl_pair.f; rfl)) (Ev.bind (Ev.is (by unfold bytes_Equal.f; rfl)) ?_))))))))
        refine Ev.eq (Ev.now _) ?_
        rw [two_of d (by omega)]
        have hx : isRec d = ((strOfNums [rd d 2, rd d 3]).toList == (strOfNums [checkL 1 (recD d) / 256 % 256, checkL 1 (recD d) % 256]).toList) := by
          rw [Bool.eq_iff_iff, beq_iff_eq, bytes_inj _ _ (by intro x hx; simp at hx; rcases hx with rfl | rfl <;> assumption) (by intro x hx; simp at hx; rcases hx with rfl | rfl <;> omega), isRec_iff]
          simp only [List.cons.injEq, and_true]
          constructor
          · rintro ⟨_, _, _, _, h⟩
            omega
          · rintro ⟨h1, h2⟩
            refine ⟨by omega, by omega, by omega, by omega, by omega⟩
        rw [hx]
    · have hr : ¬ isRec d = true := fun h => by have := (isRec_iff d).1 h; omega
      refine ⟨[], Ev.neg (by omega) (Ev.pos (by omega) (Ev.pos (by omega) (Ev.bind (Ev.is (within_eq _ _ _)) (Ev.neg (fun h => hw (of_decide_eq_true h)) (Ev.eq (unframe_no d _) (no hr [])))))), fun h => absurd h hr⟩
theorem impl_UnframeAll_loop (l : List Int) (hb : ∀ x ∈ l, 0 ≤ x ∧ x < 256) (hl : l.length ≤ 2000000) : ∀ (f : Nat) (acc : List (List Int)) (n : Nat), n ≤ l.length → l.length - n ≤ f → acc.length + (l.length - n) ≤ 5000000 →
    Ev (fun k => impl_UnframeAll.l0 k l 0 (n : Int) acc) (0, (n : Int) + (recs f (l.drop n)).2, acc ++ (recs f (l.drop n)).1) := by
  intro f
  induction f with
  | zero =>
    intro acc n h0 h1 h2
    obtain ⟨x, hx, _⟩ := impl_unframe_ev (l.drop n) (fun x hx => hb x (List.mem_of_mem_drop hx)) (by rw [List.length_drop]; omega)
    have hr : isRec (l.drop n) = false := by
      rw [Bool.eq_false_iff]
      intro h
      have := ((isRec_iff _).1 h).1
      rw [List.length_drop] at this
      omega
    rw [hr] at hx
    refine Ev.step (fun k => impl_UnframeAll.l0.eq_2 ..) (Ev.pos (by omega) (Ev.pos (by omega) ?_))
    rw [Int.toNat_natCast]
    exact Ev.bind hx (Ev.neg (by simp) (Ev.eq (Ev.now _) (by simp [recs])))
  | succ f ih =>
    intro acc n h0 h1 h2
    obtain ⟨x, hx, hd⟩ := impl_unframe_ev (l.drop n) (fun x hx => hb x (List.mem_of_mem_drop hx)) (by rw [List.length_drop]; omega)
    refine Ev.step (fun k => impl_UnframeAll.l0.eq_2 ..) (Ev.pos (by omega) (Ev.pos (by omega) ?_))
    rw [Int.toNat_natCast]
    unfold recs
    by_cases hr : isRec (l.drop n) = true
    · rw [if_pos hr]
      have hx2 := hd hr
      subst hx2
      obtain ⟨_, q1, q2, q3, q4⟩ := (isRec_iff _).1 hr
      have hrl := recD_len _ hr
      rw [List.length_drop] at q3
      have e := ih (acc ++ [recD (l.drop n)]) (n + 4 + (recN (l.drop n)).toNat) (by omega) (by omega) (by simp; omega)
      refine Ev.bind hx (Ev.pos hr (Ev.bind (Ev.is (clone_any (recD (l.drop n)) (by omega))) (Ev.pos (by omega) (Ev.bind (Ev.is (by unfold impl_size_byte.f; rfl)) ?_))))
      rw [w64 (x := 4 + ((recD (l.drop n)).length : Int)) (by omega) (by omega), w64 (by omega) (by omega), show (n : Int) + (4 + ((recD (l.drop n)).length : Int)) = ((n + 4 + (recN (l.drop n)).toNat : Nat) : Int) by omega]
      refine Ev.eq e ?_
      rw [List.drop_drop, show n + (4 + (recN (l.drop n)).toNat) = n + 4 + (recN (l.drop n)).toNat by omega]
      simp only [List.append_assoc, List.cons_append, List.nil_append, Prod.mk.injEq, true_and, and_true]
      omega
    · rw [if_neg hr]
      exact Ev.bind hx (Ev.neg hr (Ev.eq (Ev.now _) (by simp)))
theorem impl_UnframeAll_ev (l : List Int) (hb : ∀ x ∈ l, 0 ≤ x ∧ x < 256) (hl : l.length ≤ 6000) : Ev (fun k => impl_UnframeAll.f k l) (0, (usedB l : Int), records l) := by
  unfold impl_UnframeAll.f
  refine Ev.neg (by omega) ?_
  exact Ev.eq (impl_UnframeAll_loop l hb (by omega) l.length [] 0 (by omega) (by omega) (by simp; omega)) (by simp [records, usedB])

theorem recs_tot (f : Nat) : ∀ d : List Int, totB (recs f d).1 + (recs f d).1.length ≤ (recs f d).2 := by
  induction f with
  | zero => intro d; simp [recs, totB]
  | succ f ih =>
    intro d
    unfold recs
    by_cases h : isRec d = true
    · rw [if_pos h]
      have := ih (d.drop (4 + (recN d).toNat))
      have := recD_len d h
      simp only [totB, List.map_cons, List.sum_cons, List.length_cons] at *
      omega
    · rw [if_neg h]
      simp [totB]
theorem records_tot (d : List Int) : totB (records d) + (records d).length ≤ d.length := Nat.le_trans (recs_tot _ d) (recs_used _ d)
theorem totB_mem {ls : List (List Int)} {l : List Int} (h : l ∈ ls) : l.length ≤ totB ls := by
  induction ls with
  | nil => cases h
  | cons a bs ih =>
    rw [show totB (a :: bs) = a.length + totB bs by simp [totB]]
    rcases List.mem_cons.1 h with rfl | h
    · omega
    · have := ih h; omega
theorem eqRecordsResult_ev (c u : Int) (ls : List (List Int)) (h : totB ls ≤ 2000000) (h2 : ls.length ≤ 2000000) : Ev (fun k => laws_eqRecordsResult.f k c u ls c u ls) true := by
  unfold laws_eqRecordsResult.f
  exact Ev.pos rfl (Ev.pos rfl (Ev.bind (eqByteSS_ev ls h2 (fun l hl => by have := totB_mem hl; omega)) (Ev.pos rfl (Ev.now _))))
theorem markRecordsResult_ev (c u : Int) (ls : List (List Int)) (h : totB ls ≤ 2000000) (h2 : ls.length ≤ 2000000) : Ev (fun k => laws_markRecordsResult.f k c u ls 1) (1 + totB ls, markBs ls 1) := by
  unfold laws_markRecordsResult.f
  exact markByteSS_ev ls h h2
theorem heldRecordsResult_ev (c u : Int) (ls : List (List Int)) (h : totB ls ≤ 2000000) (h2 : ls.length ≤ 2000000) : Ev (fun k => laws_heldRecordsResult.f k c u (markBs ls 1) 1) (1 + totB ls) := by
  unfold laws_heldRecordsResult.f
  exact Ev.bind (heldByteSS_ev ls h h2) (Ev.neg (by omega) (Ev.now _))
/-- What UnframeAll tells. -/
def unR (l : List Int) : Int × Int × List (List Int) := if (l.length : Int) > 6000 then (2, 0, []) else (0, (usedB l : Int), records l)
theorem spec_UnframeAll_ev (l : List Int) (h : l.length ≤ 2000000) (hb : ∀ x ∈ l, 0 ≤ x ∧ x < 256) : Ev (fun k => spec_UnframeAll.f k l) (unR l) := by
  unfold spec_UnframeAll.f unR
  exact Ev.cond (fun _ => Ev.now _) (fun _ => Ev.bind (spec_l3Records_ev l hb h) (Ev.now _))
theorem impl_UnframeAll_any (l : List Int) (hb : ∀ x ∈ l, 0 ≤ x ∧ x < 256) : Ev (fun k => impl_UnframeAll.f k l) (unR l) := by
  by_cases h : (l.length : Int) > 6000
  · unfold impl_UnframeAll.f unR
    rw [if_pos h]
    exact Ev.pos h (Ev.now _)
  · refine Ev.eq (impl_UnframeAll_ev l hb (by omega)) ?_
    unfold unR
    rw [if_neg h]
theorem unR_tot (l : List Int) : totB (unR l).2.2 + (unR l).2.2.length ≤ 6000 := by
  unfold unR
  split
  · simp [totB]
  · have := records_tot l; simp only; omega

/-- What ReadLog tells. -/
def readR (l m : List Int) : Int × Int × List (List Int) := if logFault l.length m.length = 0 then unR (l ++ m) else (logFault l.length m.length, 0, [])
theorem spec_ReadLog_ev (l m : List Int) (h : l.length + m.length ≤ 2000000) (hl : ∀ x ∈ l, 0 ≤ x ∧ x < 256) (hm : ∀ x ∈ m, 0 ≤ x ∧ x < 256) : Ev (fun k => spec_ReadLog.f k l m) (readR l m) := by
  unfold spec_ReadLog.f readR
  refine Ev.bind (Ev.is (spec_LogFault_eq l m)) (Ev.cond (fun _ => ?_) (fun _ => Ev.now _))
  exact Ev.bind (Ev.is (spec_l4Sync_ev l m h)) (Ev.bind (spec_UnframeAll_ev (l ++ m) (by rw [List.length_append]; omega) (fun x hx => (List.mem_append.1 hx).elim (hl x) (hm x))) (Ev.now _))
theorem impl_ReadLog_ev (l m : List Int) (h : l.length + m.length ≤ 2000000) (hl : ∀ x ∈ l, 0 ≤ x ∧ x < 256) (hm : ∀ x ∈ m, 0 ≤ x ∧ x < 256) : Ev (fun k => impl_ReadLog.f k l m) (readR l m) := by
  unfold impl_ReadLog.f readR
  refine Ev.bind (Ev.is (impl_LogFault_eq l m)) (Ev.cond (fun _ => ?_) (fun _ => Ev.now _))
  refine Ev.bind (concat_ev [l, m] (by simp) (by simp [sumLen]; omega)) ?_
  simp only [List.flatten_cons, List.flatten_nil, List.append_nil]
  exact Ev.bind (impl_UnframeAll_any (l ++ m) (fun x hx => (List.mem_append.1 hx).elim (hl x) (hm x))) (Ev.now _)
theorem readR_tot (l m : List Int) : totB (readR l m).2.2 + (readR l m).2.2.length ≤ 6000 := by
  unfold readR
  split
  · exact unR_tot _
  · simp [totB]
theorem FnExactReadLog : ∀ (l0_0 : List Int) (l0_1 : List Int), okL (fun n => (Lit.int .u8 n).wf = true) l0_0 → okL (fun n => (Lit.int .u8 n).wf = true) l0_1 → ∃ k, laws_FnExactReadLog.f k l0_0 l0_1 = some true := by
  intro l m hl hm
  have hbl : ∀ x ∈ l, 0 ≤ x ∧ x < 256 := fun x hx => wfU8 (hl.2 x hx)
  have hbm : ∀ x ∈ m, 0 ≤ x ∧ x < 256 := fun x hx => wfU8 (hm.2 x hx)
  refine Ev.rounds (r := true) ?_
  unfold laws_FnExactReadLog.f
  obtain ⟨r, hr, hb⟩ := szLog_eq l m hl.1 hm.1
  rw [hr]
  refine Ev.let (Ev.ite (fun _ => Ev.now _) (fun h => ?_))
  have hb := hb h
  have ht := toLog_ev l m hb
  have hs := spec_ReadLog_ev l m (by omega) hbl hbm
  have hi := impl_ReadLog_ev l m (by omega) hbl hbm
  have hu := readR_tot l m
  have he := eqRecordsResult_ev (readR l m).1 (readR l m).2.1 (readR l m).2.2 (by omega) (by omega)
  have hm := markRecordsResult_ev (readR l m).1 (readR l m).2.1 (readR l m).2.2 (by omega) (by omega)
  have hh := heldRecordsResult_ev (readR l m).1 (readR l m).2.1 (readR l m).2.2 (by omega) (by omega)
  refine Ev.bind ht (Ev.bind hs (Ev.bind ht (Ev.bind hi (Ev.bind he (Ev.pos rfl (Ev.bind ht (Ev.bind (eqLog_ev l m (by omega)) (Ev.pos rfl ?_))))))))
  refine Ev.bind (markLog_ev l m (by omega)) (Ev.neg (by simp; omega) (Ev.bind he (Ev.pos rfl (Ev.bind hm (Ev.bind hh (Ev.neg (by omega) (Ev.pos rfl ?_)))))))
  exact Ev.bind ht (Ev.bind hi (Ev.bind he (Ev.pos rfl (Ev.bind hh (Ev.neg (by omega) (Ev.pos rfl (Ev.now _)))))))

end Go.Proofs.Ytcdpiejcdeedoaa.Pure
