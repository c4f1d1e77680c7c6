/- FnExactUnpackWrites, the pure statement: the program's UnpackWrites and the reference's tell the same rows of any bytes; the argument is as it was, and the answer is new memory. No conditions. -/
import Derived.Test.YtdhlcnlcpjlliaaPFnExactUnpackWritesx9
import Derived.Test.YtdhlcnlcpjlliaaOFnExactUnpackWrites
namespace Go.Proofs.Ytdhlcnlcpjlliaa.Pure
open Go.RowKit Go.Proofs.Ytdhlcnlcpjlliaa.PFnExactUnpackWrites Go.Proofs.YtdhlcnlcpjlliaaW.PrintWords Go.Proofs.YtdhlcnlcpjlliaaW.PrintLast Go.Proofs.YtdhlcnlcpjlliaaW.PrintMore Go.Proofs.Ytdhlcnlcpjlliaa.Opens
set_option linter.unusedVariables false
set_option linter.unusedSimpArgs false
/-! ### words of this text's own -/
theorem w64 {x : Int} (h0 : -9223372036854775808 ≤ x) (h1 : x ≤ 9223372036854775807) : wrap64 x = x := by
  unfold wrap64
  omega
theorem wfU8 {x : Int} (h : (Lit.int .u8 x).wf = true) : 0 ≤ x ∧ x < 256 := by
  simp [Lit.wf, IntKind.min, IntKind.max, IntKind.signed, IntKind.bits] at h
  omega
theorem wfI64 {x : Int} (h : (Lit.int .i64 x).wf = true) : -9223372036854775808 ≤ x ∧ x ≤ 9223372036854775807 := by
  simp [Lit.wf, IntKind.min, IntKind.max, IntKind.signed, IntKind.bits] at h
  omega
section
variable {α β σ : Type}
theorem Ev.ite {g f : Nat → Option α} {c : Prop} [Decidable c] {r : α} (ht : c → Ev g r) (hf : ¬ c → Ev f r) : Ev (fun k => if c then g k else f k) r := by
  by_cases h : c
  · simp only [if_pos h]; exact ht h
  · simp only [if_neg h]; exact hf h
theorem Ev.pos {g f : Nat → Option α} {c : Prop} [Decidable c] {r : α} (h : c) (ht : Ev g r) : Ev (fun k => if c then g k else f k) r := Ev.ite (fun _ => ht) (fun n => absurd h n)
theorem Ev.neg {g f : Nat → Option α} {c : Prop} [Decidable c] {r : α} (h : ¬ c) (hf : Ev f r) : Ev (fun k => if c then g k else f k) r := Ev.ite (fun y => absurd y h) (fun _ => hf)
theorem Ev.cond {g f : Nat → Option α} {c : Prop} [Decidable c] {r s : α} (ht : c → Ev g r) (hf : ¬ c → Ev f s) : Ev (fun k => if c then g k else f k) (if c then r else s) := by
  by_cases h : c
  · simp only [if_pos h]; exact ht h
  · simp only [if_neg h]; exact hf h
theorem Ev.let {f : Nat → α → Option β} {a : α} {r : β} (k : Ev (fun n => f n a) r) : Ev (fun n => (some a).bind (f n)) r := Ev.bind (Ev.now a) k
theorem Ev.is {a : Option α} {r : α} (h : a = some r) : Ev (fun _ => a) r := ⟨0, fun _ _ => h⟩
theorem Ev.eq {g : Nat → Option α} {a b : α} (h : Ev g a) (e : a = b) : Ev g b := e ▸ h
/-- A loop that counts i up to n, with a state s: what it comes to, if 'P i s' leads from round to round. -/
theorem Ev.upto (F : Nat → σ → Int → Option α) (n : Int) (hn : n ≤ 9223372036854775807) (P : Int → σ → Prop) (R : α → Prop)
    (step : ∀ i s, 0 ≤ i → i < n → P i s → (∃ s', P (i + 1) s' ∧ ∀ r, Ev (fun k => F k s' (wrap64 (i + 1))) r → Ev (fun k => F k s i) r) ∨ (∃ r, R r ∧ Ev (fun k => F k s i) r))
    (stop : ∀ s, P n s → ∃ r, R r ∧ Ev (fun k => F k s n) r) (i : Int) (s : σ) (h0 : 0 ≤ i) (h1 : i ≤ n) (hP : P i s) : ∃ r, R r ∧ Ev (fun k => F k s i) r := by
  obtain ⟨d, hd⟩ : ∃ d : Nat, n - i = d := ⟨(n - i).toNat, by omega⟩
  induction d generalizing i s with
  | zero =>
    obtain rfl : i = n := by omega
    exact stop s hP
  | succ d ih =>
    rcases step i s h0 (by omega) hP with ⟨s', hP', h⟩ | h
    · obtain ⟨r, hr, he⟩ := ih (i + 1) s' (by omega) (by omega) hP' (by omega)
      exact ⟨r, hr, h r (by rw [w64 (by omega) (by omega)]; exact he)⟩
    · exact h
/-- The same, where what it comes to is one value. -/
theorem Ev.upto1 (F : Nat → σ → Int → Option α) (n : Int) (hn : n ≤ 9223372036854775807) (P : Int → σ → Prop) (r : α)
    (step : ∀ i s, 0 ≤ i → i < n → P i s → (∃ s', P (i + 1) s' ∧ (Ev (fun k => F k s' (wrap64 (i + 1))) r → Ev (fun k => F k s i) r)) ∨ Ev (fun k => F k s i) r)
    (stop : ∀ s, P n s → Ev (fun k => F k s n) r) (i : Int) (s : σ) (h0 : 0 ≤ i) (h1 : i ≤ n) (hP : P i s) : Ev (fun k => F k s i) r := by
  obtain ⟨d, hd⟩ : ∃ d : Nat, n - i = d := ⟨(n - i).toNat, by omega⟩
  induction d generalizing i s with
  | zero =>
    obtain rfl : i = n := by omega
    exact stop s hP
  | succ d ih =>
    rcases step i s h0 (by omega) hP with ⟨s', hP', h⟩ | h
    · exact h (by rw [w64 (by omega) (by omega)]; exact ih (i + 1) s' (by omega) (by omega) hP' (by omega))
    · exact h
theorem take_set_succ (l acc : List α) (i : Nat) (v : α) (h : i < acc.length) (ht : acc.take i = l.take i) (hv : l[i]? = some v) : (acc.set i v).take (i + 1) = l.take (i + 1) := by
  rw [List.take_add_one, List.take_add_one, hv, List.getElem?_set_self h, List.take_set_of_le (Nat.le_refl _), ht]
/-- A row filled cell by cell. -/
theorem Ev.fill (F : Nat → List α → Int → Option (List α)) (l : List α) (hl : l.length ≤ 9223372036854775807)
    (step : ∀ (i : Int) s (v : α), 0 ≤ i → i < (l.length : Int) → s.length = l.length → l[i.toNat]? = some v → Ev (fun k => F k (s.set i.toNat v) (wrap64 (i + 1))) l → Ev (fun k => F k s i) l)
    (stop : ∀ s, s.length = l.length → Ev (fun k => F k s (l.length : Int)) s) (s : List α) (hs : s.length = l.length) : Ev (fun k => F k s 0) l :=
  Ev.upto1 F l.length (by omega) (fun i s => s.length = l.length ∧ s.take i.toNat = l.take i.toNat) l
    (fun i s h0 h1 ⟨hs, ht⟩ => .inl ⟨s.set i.toNat (l[i.toNat]'(by omega)), ⟨by simp [hs], by
      rw [show (i + 1).toNat = i.toNat + 1 by omega]
      exact take_set_succ l s _ _ (by omega) ht (List.getElem?_eq_getElem (by omega))⟩, step i s _ h0 h1 hs (List.getElem?_eq_getElem (by omega))⟩)
    (fun s ⟨hs, ht⟩ => by
      rw [List.take_of_length_le (by omega), List.take_of_length_le (by omega)] at ht
      have := stop s hs
      subst ht
      exact this) 0 s (by omega) (by omega) ⟨hs, by simp⟩
/-- A loop that asks of each place, and comes to the end. -/
theorem Ev.each {F : Nat → Int → Option β} {r : β} (n : Nat) (hn : (n : Int) ≤ 9223372036854775807) (step : ∀ i : Int, 0 ≤ i → i < n → Ev (fun k => F k (wrap64 (i + 1))) r → Ev (fun k => F k i) r) (stop : Ev (fun k => F k (n : Int)) r) : Ev (fun k => F k 0) r :=
  Ev.upto1 (fun k (_ : Unit) i => F k i) n hn (fun _ _ => True) r (fun i _ h0 h1 _ => .inl ⟨(), trivial, step i h0 h1⟩) (fun _ _ => stop) 0 () (by omega) (by omega) trivial
end
theorem rd_get (l : List Int) (i : Int) (h0 : 0 ≤ i) (h1 : i < (l.length : Int)) : rd l i = l[i.toNat]'(by omega) := by
  unfold rd
  rw [List.getD_eq_getElem?_getD, List.getElem?_eq_getElem (by omega)]
  rfl
theorem rd_of {l : List Int} {i : Int} {v : Int} (h : l[i.toNat]? = some v) : rd l i = v := by
  unfold rd
  rw [List.getD_eq_getElem?_getD, h]
  rfl
theorem drop_cons_at {α : Type} (l : List α) (i : Nat) (h : i < l.length) : l.drop i = l[i] :: l.drop (i + 1) := List.drop_eq_getElem_cons h
theorem toByteS_ev (l : List Int) (hl : l.length ≤ 140737488351232) : Ev (fun k => laws_toByteS.f k l) l := by
  unfold laws_toByteS.f
  refine Ev.pos (by omega) (Ev.pos (by omega) ?_)
  exact Ev.fill (fun k s i => laws_toByteS.l0 k l s i) l (by omega)
    (fun i s v h0 h1 hs hv h => Ev.step (fun k => laws_toByteS.l0.eq_2 ..) (Ev.pos h1 (Ev.pos h0 (Ev.pos (by omega) (by rw [rd_of hv]; exact h)))))
    (fun s hs => Ev.step (fun k => laws_toByteS.l0.eq_2 ..) (Ev.neg (by omega) (Ev.now _))) _ (by simp)

theorem eqByteS_ev (l : List Int) (hl : l.length ≤ 140737488351232) : Ev (fun k => laws_eqByteS.f k l l) true := by
  unfold laws_eqByteS.f
  refine Ev.pos rfl ?_
  exact Ev.each (F := fun k i => laws_eqByteS.l0 k l l i) l.length (by omega)
    (fun i h0 h1 h => Ev.step (fun k => laws_eqByteS.l0.eq_2 ..) (Ev.pos h1 (Ev.pos h0 (Ev.pos h1 (Ev.pos rfl h)))))
    (Ev.step (fun k => laws_eqByteS.l0.eq_2 ..) (Ev.neg (by omega) (Ev.now _)))

/-- Bytes marked one behind the other from k on. -/
def markB (n : Nat) (k : Int) : List Int := (List.range n).map fun (i : Nat) => (k + i) % 256
theorem markB_len (n : Nat) (k : Int) : (markB n k).length = n := by simp [markB]
theorem markB_get (n : Nat) (k : Int) (i : Nat) (h : i < n) : (markB n k)[i]? = some ((k + i) % 256) := by simp [markB, h]
theorem markByteS_ev (l : List Int) (m : Int) (h0 : 0 ≤ m) (h1 : m + l.length ≤ 9000000000000000000) : Ev (fun k => laws_markByteS.f k l m) (m + l.length, markB l.length m) := by
  unfold laws_markByteS.f
  refine Ev.upto1 (fun k (s : List Int × Int) i => laws_markByteS.l0 k s.1 s.2 i) l.length (by omega) (fun i s => s.1.length = l.length ∧ s.2 = m + i ∧ s.1.take i.toNat = (markB l.length m).take i.toNat) (m + l.length, markB l.length m)
    (fun i s p0 p1 ⟨hl, hs, ht⟩ => .inl ⟨(s.1.set i.toNat (s.2 % 256), s.2 + 1), ⟨by simp [hl], by simp [hs]; omega, ?_⟩, fun h => Ev.step (fun k => laws_markByteS.l0.eq_2 ..) (Ev.pos (by omega) (Ev.pos p0 (by rw [w64 (x := s.2 + 1) (by omega) (by omega)]; exact h)))⟩)
    (fun s ⟨hl, hs, ht⟩ => Ev.step (fun k => laws_markByteS.l0.eq_2 ..) (Ev.neg (by omega) (Ev.eq (Ev.now _) ?_)))
    0 (l, m) (by omega) (by omega) ⟨rfl, by simp, by simp⟩
  · show (s.1.set i.toNat (s.2 % 256)).take (i + 1).toNat = _
    rw [show (i + 1).toNat = i.toNat + 1 by omega]
    refine take_set_succ _ _ _ _ (by omega) ht ?_
    rw [markB_get _ _ _ (by omega), hs]
    congr 3
    omega
  · rw [List.take_of_length_le (by omega), List.take_of_length_le (by simp [markB_len])] at ht
    rw [ht, hs]
theorem rdRow {l : List S49} {i : Int} {v : S49} (h : l[i.toNat]? = some v) : rd_T49 l i = v := by
  unfold rd_T49
  rw [List.getD_eq_getElem?_getD, h]
  rfl
theorem rdRow_at (l : List S49) (i : Int) (h0 : 0 ≤ i) (h1 : i < (l.length : Int)) : rd_T49 l i = l[i.toNat]'(by omega) := rdRow (List.getElem?_eq_getElem (by omega))

theorem eqRow_rfl (a0 : ByteArray) (a1 : Int) (a2 : ByteArray) (a3 : Bool) : laws_eqRow.f a0 a1 a2 a3 a0 a1 a2 a3 = some true := by
  unfold laws_eqRow.f
  simp
theorem eqRowS_ev (l : List S49) (hl : (l.length : Int) ≤ 9223372036854775807) : Ev (fun k => laws_eqRowS.f k l l) true := by
  unfold laws_eqRowS.f
  refine Ev.pos rfl ?_
  refine Ev.each (F := fun k i => laws_eqRowS.l0 k l l i) l.length hl (fun i h0 h1 h => Ev.step (fun k => laws_eqRowS.l0.eq_2 ..) (Ev.pos h1 (Ev.pos h0 (Ev.pos h1 ?_)))) (Ev.step (fun k => laws_eqRowS.l0.eq_2 ..) (Ev.neg (by omega) (Ev.now _)))
  simp only [eqRow_rfl]
  exact Ev.let (Ev.pos rfl h)

theorem markText_loop : ∀ (n : Nat) (x : Int) (s : ByteArray), x.toNat ≤ n → 0 ≤ x → (s.size : Int) + x ≤ 4000000000000000000 → ∃ t, Ev (fun k => laws_markText.l0 k x s) t := by
  intro n
  induction n with
  | zero =>
    intro x s h0 h1 h2
    exact ⟨_, Ev.step (fun k => laws_markText.l0.eq_2 ..) (Ev.neg (by omega) (Ev.pos (by omega) (Ev.now _)))⟩
  | succ n ih =>
    intro x s h0 h1 h2
    by_cases hx : x > 0
    · have hd : Int.tdiv x 10 = x / 10 := Int.tdiv_eq_ediv_of_nonneg h1
      have hz : ∀ c : Int, (strOfNums [c] ++ s).size = 1 + s.size := fun c => by rw [ByteArray.size_append, strOfNums_size]; rfl
      obtain ⟨t, ht⟩ := ih (x / 10) (strOfNums [wrap64 (48 + Int.tmod x 10) % 256] ++ s) (by omega) (by omega) (by rw [hz]; omega)
      refine ⟨t, Ev.step (fun k => laws_markText.l0.eq_2 ..) (Ev.pos hx (Ev.let (Ev.pos (by rw [strOfNums_size]; simp only [List.length_cons, List.length_nil]; omega) ?_)))⟩
      rw [hd, w64 (x := x / 10) (by omega) (by omega)]
      exact ht
    · exact ⟨_, Ev.step (fun k => laws_markText.l0.eq_2 ..) (Ev.neg hx (Ev.pos (by omega) (Ev.now _)))⟩
theorem markText_ev (x : Int) (h : x ≤ 3000000000000000000) : ∃ t, Ev (fun k => laws_markText.f k x) t := by
  unfold laws_markText.f
  by_cases h0 : x ≤ 0
  · exact ⟨_, Ev.pos h0 (Ev.now _)⟩
  · obtain ⟨t, ht⟩ := markText_loop x.toNat x ⟨#[]⟩ (Nat.le_refl _) (by omega) (show ((0 : Nat) : Int) + x ≤ _ by omega)
    exact ⟨t, Ev.neg h0 ht⟩

theorem Ev.eq' {α : Type} {g g' : Nat → Option α} {a : α} (h : Ev g a) (e : g' = g) : Ev g' a := e ▸ h
/-- What the numbers' marks are. -/
def MT (mt : Int → ByteArray) : Prop := ∀ x : Int, x ≤ 3000000000000000000 → Ev (fun k => laws_markText.f k x) (mt x)
theorem markT_all : ∃ mt : Int → ByteArray, MT mt := by
  have h : ∀ x : Int, ∃ t : ByteArray, x ≤ 3000000000000000000 → Ev (fun k => laws_markText.f k x) t := fun x => by
    by_cases hx : x ≤ 3000000000000000000
    · obtain ⟨t, ht⟩ := markText_ev x hx
      exact ⟨t, fun _ => ht⟩
    · exact ⟨⟨#[]⟩, fun h => absurd h hx⟩
  exact ⟨fun x => Classical.choose (h x), fun x hx => Classical.choose_spec (h x) hx⟩

def markRow (mt : Int → ByteArray) (m : Int) : S49 := ⟨mt m, m + 1, mt (m + 2), Int.tmod (m + 3) 3 == 0⟩
def markRows (mt : Int → ByteArray) (n : Nat) : List S49 := (List.range n).map fun (i : Nat) => markRow mt (1 + 4 * (i : Int))
theorem markRows_len (mt : Int → ByteArray) (n : Nat) : (markRows mt n).length = n := by simp [markRows]
theorem markRows_get (mt : Int → ByteArray) (n : Nat) (i : Nat) (h : i < n) : (markRows mt n)[i]? = some (markRow mt (1 + 4 * (i : Int))) := by simp [markRows, h]
theorem rdRow_set (l : List S49) (i : Int) (v : S49) (h0 : 0 ≤ i) (h1 : i < (l.length : Int)) : rd_T49 (l.set i.toNat v) i = v := rdRow (by rw [List.getElem?_set_self (by omega)])
theorem markRowS_ev {mt : Int → ByteArray} (hmt : MT mt) (l : List S49) (hl : l.length ≤ 1000000000) : Ev (fun k => laws_markRowS.f k l 1) (1 + 4 * (l.length : Int), markRows mt l.length) := by
  unfold laws_markRowS.f
  refine Ev.upto1 (fun k (s : List S49 × Int) i => laws_markRowS.l0 k s.1 s.2 i) l.length (by omega) (fun i s => s.1.length = l.length ∧ s.2 = 1 + 4 * i ∧ s.1.take i.toNat = (markRows mt l.length).take i.toNat) (1 + 4 * (l.length : Int), markRows mt l.length)
    (fun i s h0 h1 ⟨hs, hm, ht⟩ => ?_) (fun s ⟨hs, hm, ht⟩ => Ev.step (fun k => laws_markRowS.l0.eq_2 ..) (Ev.neg (by omega) (Ev.eq (Ev.now _) ?_))) 0 (l, 1) (by omega) (by omega) ⟨rfl, by simp, by simp⟩
  · refine .inl ⟨(s.1.set i.toNat (markRow mt s.2), s.2 + 1 + 1 + 1 + 1), ⟨by simp [hs], by show s.2 + 1 + 1 + 1 + 1 = 1 + 4 * (i + 1); omega, ?_⟩, fun h => Ev.step (fun k => laws_markRowS.l0.eq_2 ..) (Ev.pos (by omega) (Ev.bind (hmt s.2 (by omega)) (Ev.pos h0 (Ev.let (Ev.let ?_)))))⟩
    · show (s.1.set i.toNat (markRow mt s.2)).take (i + 1).toNat = _
      rw [show (i + 1).toNat = i.toNat + 1 by omega]
      refine take_set_succ _ _ _ _ (by omega) ht ?_
      rw [markRows_get mt _ _ (by omega), hm, show ((i.toNat : Nat) : Int) = i by omega]
    · rw [w64 (x := s.2 + 1) (by omega) (by omega), w64 (x := s.2 + 1 + 1) (by omega) (by omega), w64 (x := s.2 + 1 + 1 + 1) (by omega) (by omega), w64 (x := s.2 + 1 + 1 + 1 + 1) (by omega) (by omega)]
      refine Ev.bind (hmt (s.2 + 1 + 1) (by omega)) (Ev.let ?_)
      refine Ev.eq' h ?_
      funext k
      have hlen : i < (s.1.length : Int) := by omega
      simp only [rdRow_set s.1 i _ h0 hlen, List.set_set]
      unfold markRow
      rw [show s.2 + 1 + 1 = s.2 + 2 by omega, show s.2 + 2 + 1 = s.2 + 3 by omega]
  · rw [List.take_of_length_le (by omega), List.take_of_length_le (by simp [markRows_len])] at ht
    rw [ht, hm]

theorem heldRowS_ev {mt : Int → ByteArray} (hmt : MT mt) (n : Nat) (hn : n ≤ 1000000000) : Ev (fun k => laws_heldRowS.f k (markRows mt n) 1) (1 + 4 * (n : Int)) := by
  unfold laws_heldRowS.f
  refine Ev.upto1 (fun k (s : Int) i => laws_heldRowS.l0 k (markRows mt n) s i) n (by omega) (fun i s => s = 1 + 4 * i) (1 + 4 * (n : Int))
    (fun i s h0 h1 hs => ?_) (fun s hs => Ev.step (fun k => laws_heldRowS.l0.eq_2 ..) (Ev.neg (by rw [markRows_len mt]; omega) (Ev.eq (Ev.now _) hs))) 0 1 (by omega) (by omega) (by simp)
  have hr : rd_T49 (markRows mt n) i = markRow mt s := rdRow (by rw [markRows_get mt _ _ (by omega), hs, show ((i.toNat : Nat) : Int) = i by omega])
  refine .inl ⟨s + 1 + 1 + 1 + 1, by omega, fun h => Ev.step (fun k => laws_heldRowS.l0.eq_2 ..) (Ev.pos (by rw [markRows_len mt]; exact h1) (Ev.pos h0 (Ev.bind (hmt s (by omega)) ?_)))⟩
  rw [hr, w64 (x := s + 1) (by omega) (by omega), w64 (x := s + 1 + 1) (by omega) (by omega), w64 (x := s + 1 + 1 + 1) (by omega) (by omega), w64 (x := s + 1 + 1 + 1 + 1) (by omega) (by omega)]
  refine Ev.pos rfl (Ev.pos rfl (Ev.bind (hmt (s + 1 + 1) (by omega)) (Ev.pos ?_ (Ev.neg ?_ h))))
  · show (mt (s + 2)).toList = _
    rw [show s + 1 + 1 = s + 2 by omega]
  · show ¬ ((Int.tmod (s + 3) 3 == 0) != (Int.tmod (s + 1 + 1 + 1) 3 == 0)) = true
    rw [show s + 1 + 1 + 1 = s + 3 by omega]
    simp
theorem markRowsResult_ev {mt : Int → ByteArray} (hmt : MT mt) (c : Int) (l : List S49) (hl : l.length ≤ 1000000000) : Ev (fun k => laws_markRowsResult.f k c l 1) (1 + 4 * (l.length : Int), markRows mt l.length) := by
  unfold laws_markRowsResult.f
  exact Ev.bind (markRowS_ev hmt l hl) (Ev.now _)
theorem heldRowsResult_ev {mt : Int → ByteArray} (hmt : MT mt) (c : Int) (n : Nat) (hn : n ≤ 1000000000) : Ev (fun k => laws_heldRowsResult.f k c (markRows mt n) 1) (1 + 4 * (n : Int)) := by
  unfold laws_heldRowsResult.f
  exact Ev.bind (heldRowS_ev hmt n hn) (Ev.neg (by omega) (Ev.now _))

/-- What RowFault tells of a row. -/
def rowFault (key : ByteArray) (v : Int) (val : ByteArray) (gone : Bool) : Int :=
  if 1 ≤ (key.size : Int) ∧ (key.size : Int) ≤ 20 ∧ ¬ (gone = true ∧ (val.toList != ([] : List UInt8)) = true) then (if (val.size : Int) > 100 then 2 else if 1 ≤ v ∧ v ≤ 1000000 then 0 else 3) else 1
theorem spec_RowFault_ev (key : ByteArray) (v : Int) (val : ByteArray) (gone : Bool) : Ev (fun k => spec_RowFault.f k key v val gone) (rowFault key v val gone) := by
  refine ⟨1, fun k hk => ?_⟩
  obtain ⟨k, rfl⟩ : ∃ j, k = j + 1 := ⟨k - 1, by omega⟩
  unfold spec_RowFault.f rowFault
  simp only [spec_RowFault.j0, spec_l1In.f]
  generalize (val.toList != ([] : List UInt8)) = e
  generalize (key.size : Int) = n
  generalize (val.size : Int) = m
  by_cases h1 : n < 1
  · have : ¬ 1 ≤ n := by omega
    simp [h1, this]
  · have h1' : 1 ≤ n := by omega
    by_cases h2 : n > 20
    · have : ¬ n ≤ 20 := by omega
      simp [h1, h2, this]
    · have h2' : n ≤ 20 := by omega
      by_cases h3 : m > 100 <;> by_cases h4 : 1 ≤ v <;> by_cases h5 : v ≤ 1000000 <;> cases gone <;> cases e <;> simp [h1, h2, h1', h2', h3, h4, h5]
theorem impl_RowFault_ev (key : ByteArray) (v : Int) (val : ByteArray) (gone : Bool) : Ev (fun k => impl_RowFault.f k key v val gone) (rowFault key v val gone) := by
  refine ⟨1, fun k hk => ?_⟩
  obtain ⟨k, rfl⟩ : ∃ j, k = j + 1 := ⟨k - 1, by omega⟩
  unfold impl_RowFault.f rowFault impl_isKey.f
  simp only [impl_RowFault.j0, impl_within.f, impl_isVersion.f]
  generalize (val.toList != ([] : List UInt8)) = e
  generalize (key.size : Int) = n
  generalize (val.size : Int) = m
  by_cases h1 : 1 ≤ n <;> by_cases h2 : n ≤ 20 <;> by_cases h3 : m > 100 <;> by_cases h4 : 1 ≤ v <;> by_cases h5 : v ≤ 1000000 <;> cases gone <;> cases e <;> simp [h1, h2, h3, h4, h5]

/-- The eight bytes of a number, the highest ones first. -/
def packL (a : Int) : List Int := [a / 72057594037927936 % 256, a / 281474976710656 % 256, a / 1099511627776 % 256, a / 4294967296 % 256, a / 16777216 % 256, a / 65536 % 256, a / 256 % 256, a % 256]
theorem shrU (a n : Int) : shr .u64 (IntKind.u64.wrap a) n = a % 18446744073709551616 / 2 ^ min n.toNat 64 := rfl
theorem shrI (a n : Int) : shr .i64 a n = a / 2 ^ min n.toNat 64 := rfl
theorem spec_PackNumber_ev (a : Int) : Ev (fun k => spec_PackNumber.f k a) (packL a) := by
  have e : ∀ x : Int, 0 ≤ x → x < 64 → IntKind.u64.wrap (wrap64 x) = x := fun x h0 h1 => by
    rw [w64 (by omega) (by omega)]
    show x % 18446744073709551616 = x
    omega
  have st : ∀ (x3 : List Int) (x4 : Int) (r : List Int), 0 ≤ x4 → x4 < 8 → x3.length < 100 → Ev (fun k => spec_PackNumber.l0 k a (x3 ++ [a % 18446744073709551616 / 2 ^ (8 * x4).toNat % 256]) (x4 - 1)) r → Ev (fun k => spec_PackNumber.l0 k a x3 x4) r := by
    intro x3 x4 r h0 h1 h2 h
    refine Ev.step (fun k => spec_PackNumber.l0.eq_2 ..) (Ev.pos h0 ?_)
    rw [e (8 * x4) (by omega) (by omega), w64 (x := x4 - 1) (by omega) (by omega)]
    refine Ev.pos (by omega) (Ev.pos (by omega) ?_)
    rw [shrU, show min (8 * x4).toNat 64 = (8 * x4).toNat by omega]
    exact h
  unfold spec_PackNumber.f
  refine st _ 7 _ (by decide) (by decide) (by decide) (st _ 6 _ (by decide) (by decide) (by simp) (st _ 5 _ (by decide) (by decide) (by simp) (st _ 4 _ (by decide) (by decide) (by simp) (st _ 3 _ (by decide) (by decide) (by simp) (st _ 2 _ (by decide) (by decide) (by simp) (st _ 1 _ (by decide) (by decide) (by simp) (st _ 0 _ (by decide) (by decide) (by simp) (Ev.step (fun k => spec_PackNumber.l0.eq_2 ..) (Ev.neg (by decide) (Ev.eq (Ev.now _) ?_))))))))))
  simp only [List.nil_append, List.cons_append, packL]
  have p : ∀ n : Nat, ((2 : Int) ^ n) = ((2 ^ n : Nat) : Int) := fun n => by simp
  simp only [p]
  simp
  omega
theorem impl_PackNumber_ev (a : Int) : Ev (fun k => impl_PackNumber.f k a) (packL a) := by
  have st : ∀ (x3 : List Int) (x8 : Int) (r : List Int), 0 ≤ x8 → x8 < 8 → x3.length = 8 → Ev (fun k => impl_PackNumber.l0 k a (x3.set x8.toNat (a / 2 ^ (56 - 8 * x8).toNat % 256)) 8 (x8 + 1)) r → Ev (fun k => impl_PackNumber.l0 k a x3 8 x8) r := by
    intro x3 x8 r h0 h1 h2 h
    refine Ev.step (fun k => impl_PackNumber.l0.eq_2 ..) (Ev.pos h1 ?_)
    rw [w64 (x := 8 * x8) (by omega) (by omega), w64 (x := 56 - 8 * x8) (by omega) (by omega), w64 (x := x8 + 1) (by omega) (by omega)]
    refine Ev.pos (by omega) (Ev.pos h0 (Ev.pos (by omega) ?_))
    rw [shrI, show min (56 - 8 * x8).toNat 64 = (56 - 8 * x8).toNat by omega]
    exact h
  unfold impl_PackNumber.f
  refine Ev.pos (by decide) (Ev.let ?_)
  refine st _ 0 _ (by decide) (by decide) (by decide) (st _ 1 _ (by decide) (by decide) (by simp) (st _ 2 _ (by decide) (by decide) (by simp) (st _ 3 _ (by decide) (by decide) (by simp) (st _ 4 _ (by decide) (by decide) (by simp) (st _ 5 _ (by decide) (by decide) (by simp) (st _ 6 _ (by decide) (by decide) (by simp) (st _ 7 _ (by decide) (by decide) (by simp) (Ev.step (fun k => impl_PackNumber.l0.eq_2 ..) (Ev.neg (by decide) (Ev.eq (Ev.now _) ?_))))))))))
  simp [packL, List.replicate]

theorem bytesOf_len (a : ByteArray) : (bytesOf a).length = a.size := bytesOf_length a
/-- What PackText tells. -/
def packTextR (a : ByteArray) : Int × List Int := if (a.size : Int) > 200 then (2, []) else (0, [(a.size : Int) % 256] ++ bytesOf a)
theorem spec_PackText_eq (a : ByteArray) : spec_PackText.f a = some (packTextR a) := by
  unfold spec_PackText.f packTextR
  simp only [Option.bind_some]
  by_cases h : (a.size : Int) > 200
  · rw [if_pos h, if_pos h]
  · rw [if_neg h, if_neg h, if_pos (by simp; omega)]
theorem impl_PackText_eq (a : ByteArray) : impl_PackText.f a = some (packTextR a) := by
  unfold impl_PackText.f packTextR
  simp only [Option.bind_some]
  by_cases h : (a.size : Int) > 200
  · rw [if_pos h, if_pos h]
  · rw [if_neg h, if_neg h, if_pos (by simp; omega)]
theorem packTextR_len (a : ByteArray) : (packTextR a).2.length ≤ 201 := by
  unfold packTextR
  split
  · simp
  · simp only [List.length_append, List.length_cons, List.length_nil, bytesOf_length]
    omega

theorem rdWrite {l : List S92} {i : Int} {v : S92} (h : l[i.toNat]? = some v) : rd_T92 l i = v := by
  unfold rd_T92
  rw [List.getD_eq_getElem?_getD, h]
  rfl
theorem rdWrite_at (l : List S92) (i : Int) (h0 : 0 ≤ i) (h1 : i < (l.length : Int)) : rd_T92 l i = l[i.toNat]'(by omega) := rdWrite (List.getElem?_eq_getElem (by omega))

/-- What a text is packed as. -/
def ptL (a : ByteArray) : List Int := (packTextR a).2
theorem ptL_len (a : ByteArray) : (ptL a).length ≤ 201 := packTextR_len a
/-- What one write is packed as. -/
def writeL (w : S92) : List Int := [if w.f2 = true then 1 else 0] ++ ptL w.f0 ++ (if w.f2 = true then [] else ptL w.f1)
theorem writeL_len (w : S92) : (writeL w).length ≤ 403 := by
  have h0 := ptL_len w.f0
  have h1 := ptL_len w.f1
  unfold writeL
  by_cases h : w.f2 = true
  · simp only [h, if_true, List.length_append, List.length_cons, List.length_nil]
    omega
  · rw [if_neg h, if_neg h]
    simp only [List.length_append, List.length_cons, List.length_nil]
    omega
/-- What writes are packed as. -/
def packedL (v : Int) (l : List S92) : List Int := packL v ++ (l.map writeL).flatten
theorem spec_l6Pack_ev (v : Int) (l : List S92) (hl : l.length ≤ 1000000) : Ev (fun k => spec_l6Pack.f k v l) (packedL v l) := by
  unfold spec_l6Pack.f
  refine Ev.bind (spec_PackNumber_ev v) ?_
  refine Ev.upto1 (fun k s i => spec_l6Pack.l0 k l s i) l.length (by omega) (fun i s => s ++ ((l.drop i.toNat).map writeL).flatten = packedL v l ∧ (s.length : Int) ≤ 8 + 403 * i) (packedL v l)
    (fun i s h0 h1 ⟨hs, hlen⟩ => ?_) (fun s ⟨hs, _⟩ => Ev.step (fun k => spec_l6Pack.l0.eq_2 ..) (Ev.neg (by omega) (Ev.eq (Ev.now _) (by rw [← hs, List.drop_eq_nil_of_le (by omega)]; simp)))) 0 (packL v) (by omega) (by omega) ⟨by simp [packedL], by simp [packL]⟩
  have hr := rdWrite_at l i h0 h1
  rw [drop_cons_at l i.toNat (by omega)] at hs
  generalize l[i.toNat]'(by omega) = w at hs hr
  rw [List.map_cons, List.flatten_cons] at hs
  have hw := writeL_len w
  have p0 := ptL_len w.f0
  have p1 := ptL_len w.f1
  refine .inl ⟨s ++ writeL w, ⟨by rw [show (i + 1).toNat = i.toNat + 1 by omega, ← hs]; simp, by rw [List.length_append]; omega⟩, fun h => Ev.step (fun k => spec_l6Pack.l0.eq_2 ..) (Ev.pos h1 (Ev.pos h0 ?_))⟩
  rw [hr]
  have hj : ∀ s' : List Int, s'.length ≤ s.length + 1 → s' ++ ptL w.f0 ++ (if w.f2 = true then [] else ptL w.f1) = s ++ writeL w → Ev (fun k => spec_l6Pack.j1 k l s' i w.f0 w.f1 w.f2) (packedL v l) := by
    intro s' h2 h3
    refine Ev.step (fun k => spec_l6Pack.j1.eq_2 ..) (Ev.bind (Ev.is (spec_PackText_eq _)) (Ev.pos (show s'.length + (ptL w.f0).length < 140737488355328 by omega) (Ev.let ?_)))
    by_cases hg : w.f2 = true
    · rw [if_pos hg, List.append_nil] at h3
      refine Ev.pos hg ?_
      rw [show s' ++ (packTextR w.f0).2 = s' ++ ptL w.f0 from rfl, h3]
      exact h
    · rw [if_neg hg] at h3
      refine Ev.neg hg (Ev.bind (Ev.is (spec_PackText_eq _)) (Ev.pos (show (s' ++ ptL w.f0).length + (ptL w.f1).length < 140737488355328 by rw [List.length_append]; omega) ?_))
      rw [show s' ++ (packTextR w.f0).2 ++ (packTextR w.f1).2 = s' ++ ptL w.f0 ++ ptL w.f1 from rfl, h3]
      exact h
  by_cases hg : w.f2 = true
  · refine Ev.pos hg (Ev.pos (by omega) (hj _ (by simp) ?_))
    unfold writeL
    rw [if_pos hg, if_pos hg]
    simp
  · refine Ev.neg hg (Ev.pos (by omega) (hj _ (by simp) ?_))
    unfold writeL
    rw [if_neg hg, if_neg hg]
    simp
theorem impl_packWrites_ev (v : Int) (l : List S92) (hl : l.length ≤ 1000000) : Ev (fun k => impl_packWrites.f k v l) (packedL v l) := by
  unfold impl_packWrites.f
  refine Ev.bind (impl_PackNumber_ev v) ?_
  refine Ev.upto1 (fun k s i => impl_packWrites.l0 k s l (l.length : Int) i) l.length (by omega) (fun i s => s ++ ((l.drop i.toNat).map writeL).flatten = packedL v l ∧ (s.length : Int) ≤ 8 + 403 * i) (packedL v l)
    (fun i s h0 h1 ⟨hs, hlen⟩ => ?_) (fun s ⟨hs, _⟩ => Ev.step (fun k => impl_packWrites.l0.eq_2 ..) (Ev.neg (by omega) (Ev.eq (Ev.now _) (by rw [← hs, List.drop_eq_nil_of_le (by omega)]; simp)))) 0 (packL v) (by omega) (by omega) ⟨by simp [packedL], by simp [packL]⟩
  have hr := rdWrite_at l i h0 h1
  rw [drop_cons_at l i.toNat (by omega)] at hs
  generalize l[i.toNat]'(by omega) = w at hs hr
  rw [List.map_cons, List.flatten_cons] at hs
  have hw := writeL_len w
  have p0 := ptL_len w.f0
  have p1 := ptL_len w.f1
  refine .inl ⟨s ++ writeL w, ⟨by rw [show (i + 1).toNat = i.toNat + 1 by omega, ← hs]; simp, by rw [List.length_append]; omega⟩, fun h => Ev.step (fun k => impl_packWrites.l0.eq_2 ..) (Ev.pos h1 (Ev.pos h0 (Ev.pos h1 ?_)))⟩
  rw [hr]
  have hj : ∀ b : Int, (s ++ [b]) ++ ptL w.f0 ++ (if w.f2 = true then [] else ptL w.f1) = s ++ writeL w → Ev (fun k => impl_packWrites.j1 k s b l (l.length : Int) i w.f0 w.f1 w.f2) (packedL v l) := by
    intro b h3
    have h2 : (s ++ [b]).length = s.length + 1 := by simp
    refine Ev.step (fun k => impl_packWrites.j1.eq_2 ..) (Ev.pos (by omega) (Ev.let (Ev.bind (Ev.is (impl_PackText_eq _)) (Ev.pos (show (s ++ [b]).length + (ptL w.f0).length < 140737488355328 by omega) (Ev.let ?_)))))
    by_cases hg : w.f2 = true
    · rw [if_pos hg, List.append_nil] at h3
      refine Ev.pos hg ?_
      rw [show s ++ [b] ++ (packTextR w.f0).2 = s ++ [b] ++ ptL w.f0 from rfl, h3]
      exact h
    · rw [if_neg hg] at h3
      refine Ev.neg hg (Ev.bind (Ev.is (impl_PackText_eq _)) (Ev.pos (show (s ++ [b] ++ ptL w.f0).length + (ptL w.f1).length < 140737488355328 by rw [List.length_append]; omega) ?_))
      rw [show s ++ [b] ++ (packTextR w.f0).2 ++ (packTextR w.f1).2 = s ++ [b] ++ ptL w.f0 ++ ptL w.f1 from rfl, h3]
      exact h
  by_cases hg : w.f2 = true
  · refine Ev.pos hg (hj _ ?_)
    unfold writeL
    rw [if_pos hg, if_pos hg]
    simp
  · refine Ev.neg hg (hj _ ?_)
    unfold writeL
    rw [if_neg hg, if_neg hg]
    simp

theorem within_eq (x a b : Int) : impl_within.f x a b = some (decide (a ≤ x ∧ x ≤ b)) := by
  unfold impl_within.f
  by_cases h1 : a ≤ x <;> simp [h1]

theorem contains_ev [FN_slices_IndexFunc_impl_Write] (q : S92 → Bool) (hq : ∀ x : S92, FN_slices_IndexFunc_impl_Write.f x.f0 x.f1 x.f2 = some (q x)) (l : List S92) (hl : l.length ≤ 1000000) : Ev (fun k => slices_ContainsFunc_impl_Write.f k l) (l.any q) := by
  unfold slices_ContainsFunc_impl_Write.f slices_IndexFunc_impl_Write.f
  obtain ⟨r, hr, he⟩ := Ev.upto (fun k (_ : Unit) i => slices_IndexFunc_impl_Write.l0 k l (l.length : Int) i) l.length (by omega) (fun i _ => (l.drop i.toNat).any q = l.any q) (fun r => r ≥ 0 ↔ l.any q = true)
    (fun i _ h0 h1 hp => by
      have hr := rdWrite_at l i h0 h1
      rw [drop_cons_at l i.toNat (by omega), List.any_cons] at hp
      generalize l[i.toNat]'(by omega) = x at hr hp
      by_cases hx : q x = true
      · rw [hx, Bool.true_or] at hp
        refine .inr ⟨i, ⟨fun _ => hp.symm, fun _ => h0⟩, Ev.step (fun k => slices_IndexFunc_impl_Write.l0.eq_2 ..) (Ev.pos h1 (Ev.pos h0 (Ev.pos h1 ?_)))⟩
        rw [hr]
        exact Ev.bind (Ev.is (hq x)) (Ev.pos hx (Ev.now _))
      · have hf : q x = false := by simpa using hx
        rw [hf, Bool.false_or] at hp
        refine .inl ⟨(), by rw [show (i + 1).toNat = i.toNat + 1 by omega]; exact hp, fun r h => Ev.step (fun k => slices_IndexFunc_impl_Write.l0.eq_2 ..) (Ev.pos h1 (Ev.pos h0 (Ev.pos h1 ?_)))⟩
        rw [hr]
        exact Ev.bind (Ev.is (hq x)) (Ev.neg hx h))
    (fun _ hp => ⟨-1, by rw [← hp, List.drop_eq_nil_of_le (by omega)]; simp, Ev.step (fun k => slices_IndexFunc_impl_Write.l0.eq_2 ..) (Ev.neg (by omega) (Ev.now _))⟩)
    0 () (by omega) (by omega) rfl
  refine Ev.bind he (Ev.eq (Ev.now _) ?_)
  rw [Bool.eq_iff_iff, decide_eq_true_iff]
  exact hr
/-- Is a key among the first rows'? -/
def keyIn (l : List S92) (i : Int) (key : ByteArray) : Bool := (l.take i.toNat).any fun x => x.f0.toList == key.toList
/-- What WritesFault tells of the last d writes. -/
def writesFrom (l : List S92) : Nat → Int
  | 0 => if ((packedL 1 l).length : Int) > 500 then 2 else 0
  | d + 1 => (fun i : Int => (fun x : S92 => if rowFault x.f0 1 x.f1 x.f2 = 0 then (if keyIn l i x.f0 = true then 7 else writesFrom l d) else rowFault x.f0 1 x.f1 x.f2) (rd_T92 l i)) ((l.length : Int) - (d + 1))
def writesFault (l : List S92) : Int := if 1 ≤ (l.length : Int) ∧ (l.length : Int) ≤ 8 then writesFrom l l.length else 2
theorem impl_WritesFault_ev (l : List S92) : Ev (fun k => impl_WritesFault.f k l) (writesFault l) := by
  unfold impl_WritesFault.f impl_size_impl_Write.f writesFault
  refine Ev.let (Ev.bind (Ev.is (within_eq _ _ _)) ?_)
  by_cases hl : 1 ≤ (l.length : Int) ∧ (l.length : Int) ≤ 8
  · rw [if_pos hl]
    refine Ev.pos (decide_eq_true hl) ?_
    have go : ∀ d : Nat, d ≤ l.length → Ev (fun k => impl_WritesFault.l0 k l l (l.length : Int) ((l.length : Int) - d)) (writesFrom l d) := by
      intro d
      induction d with
      | zero => intro _; exact Ev.step (fun k => impl_WritesFault.l0.eq_2 ..) (Ev.neg (by omega) (Ev.bind (impl_packWrites_ev 1 l (by omega)) (Ev.cond (fun _ => Ev.now _) (fun _ => Ev.now _))))
      | succ d ih =>
        intro hd
        have h := ih (by omega)
        refine Ev.step (fun k => impl_WritesFault.l0.eq_2 ..) (Ev.pos (by omega) (Ev.pos (by omega) (Ev.pos (by omega) (Ev.bind (Ev.is (by unfold impl_Write_row.f; rfl)) (Ev.bind (impl_RowFault_ev ..) ?_)))))
        rw [w64 (x := (l.length : Int) - ((d + 1 : Nat) : Int) + 1) (by omega) (by omega), show (l.length : Int) - ((d + 1 : Nat) : Int) + 1 = (l.length : Int) - d by omega]
        rw [show ((d + 1 : Nat) : Int) = (d : Int) + 1 by omega]
        unfold writesFrom
        refine Ev.cond (fun _ => Ev.pos (by omega) (Ev.bind ?_ (Ev.cond (fun _ => Ev.now _) (fun _ => h)))) (fun _ => Ev.now _)
        unfold CL_76.f
        exact @contains_ev (CL_76.p _ _ _) (fun x => x.f0.toList == (rd_T92 l ((l.length : Int) - ((d : Int) + 1))).f0.toList) (fun x => rfl) _ (by rw [List.length_take]; omega)
    have := go l.length (by omega)
    rw [show (l.length : Int) - (l.length : Nat) = 0 by omega] at this
    exact this
  · rw [if_neg hl]
    exact Ev.neg (fun h => hl (of_decide_eq_true h)) (Ev.now _)
theorem spec_WritesFault_ev (l : List S92) : Ev (fun k => spec_WritesFault.f k l) (writesFault l) := by
  unfold spec_WritesFault.f writesFault
  by_cases hl : 1 ≤ (l.length : Int) ∧ (l.length : Int) ≤ 8
  · rw [if_pos hl]
    refine Ev.neg (by omega) (Ev.step (fun k => spec_WritesFault.j0.eq_2 ..) (Ev.neg (by simp only [decide_eq_true_eq]; omega) ?_))
    have go : ∀ d : Nat, d ≤ l.length → Ev (fun k => spec_WritesFault.l0 k l ((l.length : Int) - d)) (writesFrom l d) := by
      intro d
      induction d with
      | zero => intro _; exact Ev.step (fun k => spec_WritesFault.l0.eq_2 ..) (Ev.neg (by omega) (Ev.bind (spec_l6Pack_ev 1 l (by omega)) (Ev.cond (fun _ => Ev.now _) (fun _ => Ev.now _))))
      | succ d ih =>
        intro hd
        have h := ih (by omega)
        refine Ev.step (fun k => spec_WritesFault.l0.eq_2 ..) (Ev.pos (by omega) (Ev.pos (by omega) (Ev.bind (spec_RowFault_ev ..) ?_)))
        rw [show ((d + 1 : Nat) : Int) = (d : Int) + 1 by omega]
        unfold writesFrom
        refine Ev.cond (fun _ => ?_) (fun _ => Ev.now _)
        have hi : (l.length : Int) - ((d : Int) + 1) + 1 = (l.length : Int) - d := by omega
        generalize hin : (l.length : Int) - ((d : Int) + 1) = i at hi ⊢
        generalize rd_T92 l i = w
        have hlen : (l.take i.toNat).length = i.toNat := by rw [List.length_take]; omega
        refine Ev.upto1 (fun k (_ : Unit) j => spec_WritesFault.l1 k l i j w.f0 w.f1 w.f2) i (by omega) (fun j _ => ((l.take i.toNat).drop j.toNat).any (fun x => x.f0.toList == w.f0.toList) = keyIn l i w.f0) (if keyIn l i w.f0 = true then 7 else writesFrom l d)
          (fun j _ j0 j1 hp => ?_) (fun _ hp => ?_) 0 () (by omega) (by omega) (by simp [keyIn])
        · have hr := rdWrite_at l j j0 (by omega)
          have e : (l.take i.toNat)[j.toNat]'(by omega) = l[j.toNat]'(by omega) := by simp
          rw [drop_cons_at (l.take i.toNat) j.toNat (by omega), List.any_cons, e] at hp
          generalize l[j.toNat]'(by omega) = x at hr hp
          by_cases hx : x.f0.toList = w.f0.toList
          · have hk : keyIn l i w.f0 = true := by rw [← hp]; simp [hx]
            rw [hk, if_pos rfl]
            refine .inr (Ev.step (fun k => spec_WritesFault.l1.eq_2 ..) (Ev.pos j1 (Ev.pos j0 (Ev.pos (by omega) ?_))))
            rw [hr]
            exact Ev.pos hx (Ev.now _)
          · have hb : (x.f0.toList == w.f0.toList) = false := by simpa using hx
            rw [hb, Bool.false_or] at hp
            refine .inl ⟨(), by rw [show (j + 1).toNat = j.toNat + 1 by omega]; exact hp, fun hh => Ev.step (fun k => spec_WritesFault.l1.eq_2 ..) (Ev.pos j1 (Ev.pos j0 (Ev.pos (by omega) ?_)))⟩
            rw [hr]
            exact Ev.neg hx hh
        · rw [List.drop_eq_nil_of_le (by omega)] at hp
          have hk : keyIn l i w.f0 = false := by rw [← hp]; rfl
          rw [hk, if_neg (by simp)]
          refine Ev.step (fun k => spec_WritesFault.l1.eq_2 ..) (Ev.neg (by omega) ?_)
          rw [w64 (by omega) (by omega), hi]
          exact h
    have := go l.length (by omega)
    rw [show (l.length : Int) - (l.length : Nat) = 0 by omega] at this
    exact this
  · rw [if_neg hl]
    by_cases h1 : (l.length : Int) < 1
    · exact Ev.pos h1 (Ev.step (fun k => spec_WritesFault.j0.eq_2 ..) (Ev.pos rfl (Ev.now _)))
    · exact Ev.neg h1 (Ev.step (fun k => spec_WritesFault.j0.eq_2 ..) (Ev.pos (by simp only [decide_eq_true_eq]; omega) (Ev.now _)))

theorem l1In_eq (x a b : Int) : spec_l1In.f x a b = some (decide (a ≤ x ∧ x ≤ b)) := by
  unfold spec_l1In.f
  by_cases h1 : a ≤ x <;> simp [h1]

theorem packedL_len (v : Int) (l : List S92) : (packedL v l).length ≤ 8 + 403 * l.length := by
  have h : ((l.map writeL).flatten).length ≤ 403 * l.length := by
    induction l with
    | nil => simp
    | cons w l ih =>
      have := writeL_len w
      simp only [List.map_cons, List.flatten_cons, List.length_append, List.length_cons]
      omega
  unfold packedL
  rw [List.length_append]
  have : (packL v).length = 8 := rfl
  omega
theorem writesFault_zero (l : List S92) (h : writesFault l = 0) : l.length ≤ 8 := by
  unfold writesFault at h
  by_cases h1 : 1 ≤ (l.length : Int) ∧ (l.length : Int) ≤ 8
  · omega
  · rw [if_neg h1] at h
    exact absurd h (by decide)
/-- What PackWrites tells. -/
def packWR (v : Int) (l : List S92) : Int × List Int := if 1 ≤ v ∧ v ≤ 1000000 then (if writesFault l = 0 then (0, packedL v l) else (writesFault l, [])) else (3, [])
theorem packWR_len (v : Int) (l : List S92) : (packWR v l).2.length ≤ 4000 := by
  unfold packWR
  split
  · split
    · next h =>
      have h1 := writesFault_zero l h
      have h2 := packedL_len v l
      show (packedL v l).length ≤ 4000
      omega
    · simp
  · simp
theorem spec_PackWrites_ev (v : Int) (l : List S92) : Ev (fun k => spec_PackWrites.f k v l) (packWR v l) := by
  unfold spec_PackWrites.f packWR
  refine Ev.bind (Ev.is (l1In_eq _ _ _)) ?_
  by_cases hv : 1 ≤ v ∧ v ≤ 1000000
  · rw [if_pos hv]
    exact Ev.pos (decide_eq_true hv) (Ev.bind (spec_WritesFault_ev l) (Ev.cond (fun h => Ev.bind (spec_l6Pack_ev v l (by have := writesFault_zero l h; omega)) (Ev.now _)) (fun _ => Ev.now _)))
  · rw [if_neg hv]
    exact Ev.neg (fun h => hv (of_decide_eq_true h)) (Ev.now _)
theorem impl_PackWrites_ev (v : Int) (l : List S92) : Ev (fun k => impl_PackWrites.f k v l) (packWR v l) := by
  unfold impl_PackWrites.f packWR impl_isVersion.f
  rw [within_eq]
  refine Ev.bind (a := decide (1 ≤ v ∧ v ≤ 1000000)) (Ev.is rfl) ?_
  by_cases hv : 1 ≤ v ∧ v ≤ 1000000
  · rw [if_pos hv]
    exact Ev.pos (decide_eq_true hv) (Ev.bind (impl_WritesFault_ev l) (Ev.cond (fun h => Ev.bind (impl_packWrites_ev v l (by have := writesFault_zero l h; omega)) (Ev.now _)) (fun _ => Ev.now _)))
  · rw [if_neg hv]
    exact Ev.neg (fun h => hv (of_decide_eq_true h)) (Ev.now _)

/-- Eight bytes as a number without a sign, the highest ones first. -/
def numL (n : Int) (l : List Int) : Int := l.foldl (fun n b => (n * 256 + b) % 18446744073709551616) n
theorem u64w (x : Int) : IntKind.u64.wrap x = x % 18446744073709551616 := rfl
theorem numL_next (l : List Int) (i : Int) (s : Int) (h0 : 0 ≤ i) (h1 : i < (l.length : Int)) : numL (IntKind.u64.wrap ((IntKind.u64.wrap (s * 256)) + (IntKind.u64.wrap (rd l i)))) (l.drop (i + 1).toNat) = numL s (l.drop i.toNat) := by
  rw [drop_cons_at l i.toNat (by omega), show (i + 1).toNat = i.toNat + 1 by omega, rd_get l i h0 h1, u64w, u64w, u64w]
  show _ = numL ((s * 256 + l[i.toNat]'(by omega)) % 18446744073709551616) _
  congr 1
  omega
theorem spec_l3Number_ev (l : List Int) (hl : l.length = 8) : Ev (fun k => spec_l3Number.f k l) (wrap64 (numL 0 l)) := by
  unfold spec_l3Number.f
  exact Ev.upto1 (fun k s i => spec_l3Number.l0 k l s i) 8 (by omega) (fun i s => numL s (l.drop i.toNat) = numL 0 l) (wrap64 (numL 0 l))
    (fun i s h0 h1 hs => .inl ⟨_, (numL_next l i s h0 (by omega)).trans hs, fun h => Ev.step (fun k => spec_l3Number.l0.eq_2 ..) (Ev.pos h1 (Ev.pos h0 (Ev.pos (by omega) h)))⟩)
    (fun s hs => Ev.step (fun k => spec_l3Number.l0.eq_2 ..) (Ev.neg (by omega) (Ev.eq (Ev.now _) (by rw [← hs, List.drop_eq_nil_of_le (by rw [hl]; decide)]; rfl))))
    0 0 (by omega) (by omega) rfl
theorem impl_UnpackNumber_ev (l : List Int) : Ev (fun k => impl_UnpackNumber.f k l) (if l.length = 8 then (0, wrap64 (numL 0 l)) else (1, 0)) := by
  unfold impl_UnpackNumber.f
  by_cases h : l.length = 8
  · rw [if_pos h]
    refine Ev.pos (by omega) ?_
    exact Ev.upto1 (fun k s i => impl_UnpackNumber.l0 k s l (l.length : Int) i) l.length (by omega) (fun i s => numL s (l.drop i.toNat) = numL 0 l) (0, wrap64 (numL 0 l))
      (fun i s h0 h1 hs => .inl ⟨_, (numL_next l i s h0 h1).trans hs, fun h => Ev.step (fun k => impl_UnpackNumber.l0.eq_2 ..) (Ev.pos h1 (Ev.pos h0 (Ev.pos h1 h)))⟩)
      (fun s hs => Ev.step (fun k => impl_UnpackNumber.l0.eq_2 ..) (Ev.neg (by omega) (Ev.eq (Ev.now _) (by rw [← hs, List.drop_eq_nil_of_le (by omega)]; rfl))))
      0 0 (by omega) (by omega) rfl
  · rw [if_neg h]
    exact Ev.neg (by omega) (Ev.now _)

theorem rd_drop (l : List Int) (n : Nat) (j : Int) (h : 0 ≤ j) : rd (l.drop n) j = rd l ((n : Int) + j) := by
  unfold rd
  rw [List.getD_eq_getElem?_getD, List.getD_eq_getElem?_getD, List.getElem?_drop, show ((n : Int) + j).toNat = n + j.toNat by omega]
theorem rd_bound (l : List Int) (hb : ∀ x ∈ l, 0 ≤ x ∧ x < 256) (i : Int) : 0 ≤ rd l i ∧ rd l i < 256 := by
  unfold rd
  rw [List.getD_eq_getElem?_getD]
  cases h : l[i.toNat]? with
  | none => simp
  | some v => exact hb v (List.mem_of_getElem? h)

theorem bytesOf_strOfNums (l : List Int) (h : ∀ x ∈ l, 0 ≤ x ∧ x < 256) : bytesOf (strOfNums l) = l := by
  unfold bytesOf
  rw [strOfNums_data]
  induction l with
  | nil => rfl
  | cons a l ih =>
    have ha := h a (List.mem_cons_self ..)
    simp only [List.map_cons, ih (fun x hx => h x (List.mem_cons_of_mem _ hx)), UInt8.toNat_ofNat']
    congr 1
    omega
/-- A text at the beginning of bytes, and what is behind it. -/
def takeT (r : List Int) : Option (ByteArray × List Int) :=
  if r.length = 0 then none else if (r.length : Int) < 1 + rd r 0 then none else some (strOfNums ((r.take (1 + rd r 0).toNat).drop 1), r.drop (1 + rd r 0).toNat)
theorem takeT_bytes {r r' : List Int} {a : ByteArray} (h : takeT r = some (a, r')) (hb : ∀ x ∈ r, 0 ≤ x ∧ x < 256) : (∀ x ∈ r', 0 ≤ x ∧ x < 256) ∧ r'.length < r.length := by
  have b0 := rd_bound _ hb 0
  unfold takeT at h
  by_cases h1 : r.length = 0
  · rw [if_pos h1] at h; cases h
  · rw [if_neg h1] at h
    by_cases h2 : (r.length : Int) < 1 + rd r 0
    · rw [if_pos h2] at h; cases h
    · rw [if_neg h2] at h
      cases h
      exact ⟨fun x hx => hb x (List.mem_of_mem_drop hx), by rw [List.length_drop]; omega⟩
theorem takeT_pack {r r' : List Int} {a : ByteArray} (h : takeT r = some (a, r')) (hb : ∀ x ∈ r, 0 ≤ x ∧ x < 256) (ha : a.size ≤ 200) : ptL a ++ r' = r := by
  have b0 := rd_bound _ hb 0
  unfold takeT at h
  by_cases h1 : r.length = 0
  · rw [if_pos h1] at h; cases h
  · rw [if_neg h1] at h
    by_cases h2 : (r.length : Int) < 1 + rd r 0
    · rw [if_pos h2] at h; cases h
    · rw [if_neg h2] at h
      cases h
      match r, h1 with
      | n :: t, _ =>
        have hn : rd (n :: t) 0 = n := rfl
        rw [hn] at b0 h2 ha ⊢
        have e1 : (1 + n).toNat = n.toNat + 1 := by omega
        rw [e1, List.take_succ_cons, List.drop_succ_cons, List.drop_zero] at ha ⊢
        rw [List.drop_succ_cons]
        simp only [List.length_cons] at h2
        have hl : (t.take n.toNat).length = n.toNat := by rw [List.length_take]; omega
        unfold ptL packTextR
        rw [strOfNums_size, hl] at ha
        rw [strOfNums_size, hl, if_neg (by omega), bytesOf_strOfNums _ (fun x hx => hb x (List.mem_cons_of_mem _ (List.mem_of_mem_take hx)))]
        show [((n.toNat : Nat) : Int) % 256] ++ t.take n.toNat ++ t.drop n.toNat = n :: t
        rw [List.append_assoc, List.take_append_drop, show ((n.toNat : Nat) : Int) % 256 = n by omega]
        rfl
/-- A write at the beginning of bytes, and what is behind it. -/
def takeW (r : List Int) : Option (S92 × List Int) :=
  if rd r 0 > 1 then none else
  match takeT (r.drop 1) with
  | none => none
  | some (key, r1) => if rd r 0 = 1 then some (⟨key, ⟨#[]⟩, true⟩, r1) else
    match takeT r1 with
    | none => none
    | some (v, r2) => some (⟨key, v, false⟩, r2)
theorem takeW_bytes {r r' : List Int} {w : S92} (h : takeW r = some (w, r')) (hb : ∀ x ∈ r, 0 ≤ x ∧ x < 256) : (∀ x ∈ r', 0 ≤ x ∧ x < 256) ∧ r'.length < r.length := by
  unfold takeW at h
  by_cases h1 : rd r 0 > 1
  · rw [if_pos h1] at h; cases h
  · rw [if_neg h1] at h
    have hb1 : ∀ x ∈ r.drop 1, 0 ≤ x ∧ x < 256 := fun x hx => hb x (List.mem_of_mem_drop hx)
    have hl : (r.drop 1).length ≤ r.length := by rw [List.length_drop]; omega
    cases ht : takeT (r.drop 1) with
    | none => rw [ht] at h; cases h
    | some p =>
      obtain ⟨key, r1⟩ := p
      obtain ⟨q1, q2⟩ := takeT_bytes ht hb1
      rw [ht] at h
      simp only at h
      by_cases h2 : rd r 0 = 1
      · rw [if_pos h2] at h
        cases h
        exact ⟨q1, by omega⟩
      · rw [if_neg h2] at h
        cases hu : takeT r1 with
        | none => rw [hu] at h; cases h
        | some p =>
          obtain ⟨v, r2⟩ := p
          obtain ⟨s1, s2⟩ := takeT_bytes hu q1
          rw [hu] at h
          cases h
          exact ⟨s1, by omega⟩
theorem takeW_pack {r r' : List Int} {w : S92} (h0 : r ≠ []) (h : takeW r = some (w, r')) (hb : ∀ x ∈ r, 0 ≤ x ∧ x < 256) (hk : w.f0.size ≤ 200) (hv : w.f1.size ≤ 200) : writeL w ++ r' = r := by
  have b0 := rd_bound _ hb 0
  unfold takeW at h
  by_cases h1 : rd r 0 > 1
  · rw [if_pos h1] at h; cases h
  · rw [if_neg h1] at h
    have hb1 : ∀ x ∈ r.drop 1, 0 ≤ x ∧ x < 256 := fun x hx => hb x (List.mem_of_mem_drop hx)
    have hr : r = rd r 0 :: r.drop 1 := by
      match r, h0 with
      | a :: t, _ => rfl
    cases ht : takeT (r.drop 1) with
    | none => rw [ht] at h; cases h
    | some p =>
      obtain ⟨key, r1⟩ := p
      obtain ⟨q1, q2⟩ := takeT_bytes ht hb1
      rw [ht] at h
      simp only at h
      unfold writeL
      by_cases h2 : rd r 0 = 1
      · rw [if_pos h2] at h
        cases h
        have e := takeT_pack ht hb1 hk
        simp only [if_true, List.append_nil]
        rw [List.append_assoc, e, hr, h2]
        rfl
      · rw [if_neg h2] at h
        cases hu : takeT r1 with
        | none => rw [hu] at h; cases h
        | some p =>
          obtain ⟨v, r2⟩ := p
          rw [hu] at h
          cases h
          have e := takeT_pack ht hb1 hk
          have e2 := takeT_pack hu q1 hv
          simp only [Bool.false_eq_true, if_false]
          rw [List.append_assoc, List.append_assoc, e2, e, hr, show rd r 0 = 0 by omega]
          rfl
/-- The writes in bytes. -/
def unpackL : Nat → List Int → Option (List S92)
  | 0, r => if r = [] then some [] else none
  | n + 1, r => if r = [] then some [] else
    match takeW r with
    | none => none
    | some (w, r') => (unpackL n r').map (w :: ·)
theorem unpackL_pack (n : Nat) : ∀ (r : List Int) (ws : List S92), unpackL n r = some ws → (∀ x ∈ r, 0 ≤ x ∧ x < 256) → (∀ w ∈ ws, w.f0.size ≤ 200 ∧ w.f1.size ≤ 200) → (ws.map writeL).flatten = r := by
  induction n with
  | zero =>
    intro r ws h _ _
    unfold unpackL at h
    by_cases hr : r = []
    · rw [if_pos hr] at h; cases h; rw [hr]; rfl
    · rw [if_neg hr] at h; cases h
  | succ n ih =>
    intro r ws h hb hs
    unfold unpackL at h
    by_cases hr : r = []
    · rw [if_pos hr] at h; cases h; rw [hr]; rfl
    · rw [if_neg hr] at h
      cases ht : takeW r with
      | none => rw [ht] at h; cases h
      | some p =>
        obtain ⟨w, r'⟩ := p
        rw [ht] at h
        obtain ⟨vs, hv, rfl⟩ := Option.map_eq_some_iff.1 h
        obtain ⟨q1, q2⟩ := takeW_bytes ht hb
        have := ih r' vs hv q1 (fun x hx => hs x (List.mem_cons_of_mem _ hx))
        have hw := hs w (List.mem_cons_self ..)
        rw [List.map_cons, List.flatten_cons, this]
        exact takeW_pack hr ht hb hw.1 hw.2
theorem writesFrom_zero (l : List S92) : ∀ d : Nat, d ≤ l.length → writesFrom l d = 0 → ∀ (i : Nat) (h : i < l.length), l.length - d ≤ i → rowFault (l[i]'h).f0 1 (l[i]'h).f1 (l[i]'h).f2 = 0 := by
  intro d
  induction d with
  | zero => intro _ _ i h hi; omega
  | succ d ih =>
    intro hd h i hil hi
    unfold writesFrom at h
    simp only at h
    have hr := rdWrite_at l ((l.length : Int) - ((d : Int) + 1)) (by omega) (by omega)
    rw [hr] at h
    have hidx : ((l.length : Int) - ((d : Int) + 1)).toNat = l.length - (d + 1) := by omega
    by_cases h1 : rowFault (l[((l.length : Int) - ((d : Int) + 1)).toNat]'(by omega)).f0 1 (l[((l.length : Int) - ((d : Int) + 1)).toNat]'(by omega)).f1 (l[((l.length : Int) - ((d : Int) + 1)).toNat]'(by omega)).f2 = 0
    · rw [if_pos h1] at h
      by_cases he : i = l.length - (d + 1)
      · subst he
        simpa only [hidx] using h1
      · split at h
        · cases h
        · exact ih (by omega) h i hil (by omega)
    · rw [if_neg h1] at h
      exact absurd h h1
theorem packWR_sizes (v : Int) (l : List S92) (h : (packWR v l).1 = 0) : packWR v l = (0, packedL v l) ∧ ∀ w ∈ l, w.f0.size ≤ 200 ∧ w.f1.size ≤ 200 := by
  unfold packWR at h ⊢
  by_cases hv : 1 ≤ v ∧ v ≤ 1000000
  · rw [if_pos hv] at h ⊢
    by_cases hw : writesFault l = 0
    · rw [if_pos hw]
      refine ⟨rfl, fun w hm => ?_⟩
      unfold writesFault at hw
      by_cases hl : 1 ≤ (l.length : Int) ∧ (l.length : Int) ≤ 8
      · rw [if_pos hl] at hw
        obtain ⟨i, hi, rfl⟩ := List.getElem_of_mem hm
        have hz := writesFrom_zero l l.length (Nat.le_refl _) hw i hi (by omega)
        unfold rowFault at hz
        split at hz
        · next hk =>
          split at hz
          · cases hz
          · omega
        · cases hz
      · rw [if_neg hl] at hw
        exact absurd hw (by decide)
    · rw [if_neg hw] at h
      exact absurd h hw
  · rw [if_neg hv] at h
    exact absurd h (by decide)

/-- How a text at a place is told. -/
theorem takeText_eq (r : List Int) (hb : ∀ x ∈ r, 0 ≤ x ∧ x < 256) (hl : r.length ≤ 2000000) : impl_takeText.f r = some (match takeT r with | some (a, r') => (a, r', true) | none => (⟨#[]⟩, [], false)) := by
  have b0 := rd_bound _ hb 0
  unfold impl_takeText.f takeT
  rw [w64 (x := rd r 0) (by omega) (by omega), w64 (x := 1 + rd r 0) (by omega) (by omega)]
  by_cases h1 : r.length = 0
  · rw [if_pos (by omega), if_pos h1]
  · rw [if_neg (by omega), if_neg h1, if_pos (by omega)]
    by_cases h2 : (r.length : Int) < 1 + rd r 0
    · rw [if_pos h2, if_pos h2]
    · rw [if_neg h2, if_neg h2, if_pos (by omega), if_pos (by omega), if_pos (by omega)]
theorem takeWrite_eq (r : List Int) (h0 : r ≠ []) (hb : ∀ x ∈ r, 0 ≤ x ∧ x < 256) (hl : r.length ≤ 2000000) :
    ∃ x, impl_takeWrite.f r = some x ∧ (∀ w r', takeW r = some (w, r') → x = (w.f0, w.f1, w.f2, r', true)) ∧ (takeW r = none → x.2.2.2.2 = false) := by
  have hp : 0 < r.length := List.length_pos_iff.2 h0
  have hb1 : ∀ x ∈ r.drop 1, 0 ≤ x ∧ x < 256 := fun x hx => hb x (List.mem_of_mem_drop hx)
  have hl1 : (r.drop 1).length ≤ 2000000 := by rw [List.length_drop]; omega
  unfold impl_takeWrite.f takeW
  rw [if_pos (by omega)]
  by_cases h1 : rd r 0 > 1
  · rw [if_pos h1, if_pos h1]
    exact ⟨_, rfl, (fun w r' h => by cases h), fun _ => rfl⟩
  · rw [if_neg h1, if_neg h1, if_pos (by omega), takeText_eq _ hb1 hl1]
    cases ht : takeT (r.drop 1) with
    | none =>
      simp only [Option.bind_some, Bool.false_eq_true, if_false]
      exact ⟨_, rfl, (fun w r' h => by cases h), fun _ => rfl⟩
    | some p =>
      obtain ⟨key, r1⟩ := p
      obtain ⟨q1, q2⟩ := takeT_bytes ht hb1
      simp only [Option.bind_some, if_true]
      by_cases h2 : rd r 0 = 1
      · rw [if_pos h2, if_pos h2]
        refine ⟨_, rfl, fun w r' h => ?_, fun h => by cases h⟩
        cases h
        simp [h2]
      · rw [if_neg h2, if_neg h2, takeText_eq _ q1 (by omega)]
        cases hu : takeT r1 with
        | none => exact ⟨_, rfl, (fun w r' h => by cases h), fun _ => rfl⟩
        | some p =>
          obtain ⟨v, r2⟩ := p
          refine ⟨_, rfl, fun w r' h => ?_, fun h => by cases h⟩
          cases h
          simp [h2]
theorem l6Text_eq (l : List Int) (hb : ∀ x ∈ l, 0 ≤ x ∧ x < 256) (hl : l.length ≤ 2000000) (a : Nat) (ha : a ≤ l.length) :
    (takeT (l.drop a) = none ∧ spec_l6Text.f l (a : Int) = some (⟨#[]⟩, -1)) ∨ ∃ t, ∃ b : Nat, takeT (l.drop a) = some (t, l.drop b) ∧ a < b ∧ b ≤ l.length ∧ spec_l6Text.f l (a : Int) = some (t, (b : Int)) := by
  have b0 := rd_bound _ hb (a : Int)
  have hr : rd (l.drop a) 0 = rd l (a : Int) := by rw [rd_drop _ _ _ (by decide)]; simp
  unfold spec_l6Text.f takeT
  rw [hr, List.length_drop, w64 (x := rd l (a : Int)) (by omega) (by omega), w64 (x := (a : Int) + 1) (by omega) (by omega), w64 (x := (a : Int) + 1 + rd l (a : Int)) (by omega) (by omega)]
  by_cases h1 : a = l.length
  · left
    rw [if_pos (by omega), if_pos (by omega)]
    exact ⟨rfl, rfl⟩
  · rw [if_neg (show ¬ (l.length - a = 0) by omega), if_neg (show ¬ ((a : Int) ≥ (l.length : Int)) by omega), if_pos (show (0 : Int) ≤ (a : Int) by omega), if_pos (show (a : Int) < (l.length : Int) by omega)]
    by_cases h2 : (a : Int) + 1 + rd l (a : Int) > (l.length : Int)
    · left
      rw [if_pos h2, if_pos (by omega)]
      exact ⟨rfl, rfl⟩
    · right
      rw [if_neg h2, if_neg (by omega), if_pos (by omega), if_pos (by omega), if_pos (by omega)]
      refine ⟨strOfNums (((l.drop a).take (1 + rd l (a : Int)).toNat).drop 1), a + 1 + (rd l (a : Int)).toNat, ?_, by omega, by omega, ?_⟩
      · rw [List.drop_drop, show a + (1 + rd l (a : Int)).toNat = a + 1 + (rd l (a : Int)).toNat by omega]
      · have e1 : ((l.take ((a : Int) + 1 + rd l (a : Int)).toNat).drop ((a : Int) + 1).toNat) = (((l.drop a).take (1 + rd l (a : Int)).toNat).drop 1) := by
          rw [List.drop_take, List.drop_take, List.drop_drop]
          congr 1
          omega
        rw [e1]
        congr 2
        omega
/-- What is told at the end of the bytes. -/
def endI (l : List Int) (v : Int) (ws : List S92) : Bool := if (packWR v ws).1 = 0 then (strOfNums (packWR v ws).2).toList == (strOfNums l).toList else false
theorem impl_unpack_loop (l : List Int) (v : Int) : ∀ (n : Nat) (r : List Int) (acc : List S92), r.length ≤ n → (∀ x ∈ r, 0 ≤ x ∧ x < 256) → acc.length + r.length ≤ 2000000 →
    Ev (fun k => impl_unpackWrites.l0 k l v acc r) (match unpackL n r with | some ws => (v, acc ++ ws, endI l v (acc ++ ws)) | none => (0, [], false)) := by
  have hend : ∀ (acc : List S92) (r : List Int), r = [] → Ev (fun k => impl_unpackWrites.l0 k l v acc r) (v, acc, endI l v acc) := by
    intro acc r hr
    subst hr
    refine Ev.step (fun k => impl_unpackWrites.l0.eq_2 ..) (Ev.neg (by simp) (Ev.bind (impl_PackWrites_ev v acc) ?_))
    by_cases hc : (packWR v acc).1 = 0
    · have e1 : endI l v acc = ((strOfNums (packWR v acc).2).toList == (strOfNums l).toList) := by unfold endI; exact if_pos hc
      rw [e1]
      exact Ev.pos hc (Ev.bind (a := ((strOfNums (packWR v acc).2).toList == (strOfNums l).toList)) (Ev.is (by unfold bytes_Equal.f; rfl)) (Ev.now _))
    · have e1 : endI l v acc = false := by unfold endI; exact if_neg hc
      rw [e1]
      exact Ev.neg hc (Ev.now _)
  intro n
  induction n with
  | zero =>
    intro r acc h0 _ _
    have hr : r = [] := List.length_eq_zero_iff.1 (by omega)
    unfold unpackL
    rw [if_pos hr]
    simp only [List.append_nil]
    exact hend acc r hr
  | succ n ih =>
    intro r acc h0 hb hl
    unfold unpackL
    by_cases hr : r = []
    · rw [if_pos hr]
      simp only [List.append_nil]
      exact hend acc r hr
    · rw [if_neg hr]
      obtain ⟨x, hx, hs, hn⟩ := takeWrite_eq r hr hb (by omega)
      have hp : 0 < r.length := List.length_pos_iff.2 hr
      refine Ev.step (fun k => impl_unpackWrites.l0.eq_2 ..) (Ev.pos (by omega) (Ev.bind (Ev.is hx) ?_))
      cases ht : takeW r with
      | none => exact Ev.neg (by rw [hn ht]; simp) (Ev.now _)
      | some p =>
        obtain ⟨w, r'⟩ := p
        obtain ⟨q1, q2⟩ := takeW_bytes ht hb
        have hx2 := hs w r' ht
        subst hx2
        refine Ev.pos rfl (Ev.pos (by omega) ?_)
        have e := ih r' (acc ++ [w]) (by omega) q1 (by simp; omega)
        refine Ev.eq e ?_
        dsimp only
        cases unpackL n r' with
        | none => rfl
        | some ws => simp
theorem spec_unpack_loop (l : List Int) (v : Int) (hb : ∀ x ∈ l, 0 ≤ x ∧ x < 256) (hl : l.length ≤ 1500000) : ∀ (n : Nat) (a : Nat) (acc : List S92), a ≤ l.length → l.length - a ≤ n → acc.length + (l.length - a) ≤ 2000000 →
    Ev (fun k => spec_l6Unpack.l0 k l v acc (a : Int)) (match unpackL n (l.drop a) with | some ws => (v, acc ++ ws, (packWR v (acc ++ ws)).1 == 0) | none => (0, [], false)) := by
  have hend : ∀ (acc : List S92) (a : Nat), a = l.length → Ev (fun k => spec_l6Unpack.l0 k l v acc (a : Int)) (v, acc, (packWR v acc).1 == 0) := by
    intro acc a ha
    exact Ev.step (fun k => spec_l6Unpack.l0.eq_2 ..) (Ev.neg (by omega) (Ev.bind (spec_PackWrites_ev v acc) (Ev.now _)))
  intro n
  induction n with
  | zero =>
    intro a acc ha h0 _
    have hr : l.drop a = [] := List.drop_eq_nil_of_le (by omega)
    unfold unpackL
    rw [if_pos hr]
    simp only [List.append_nil]
    exact hend acc a (by omega)
  | succ n ih =>
    intro a acc ha h0 hacc
    unfold unpackL
    by_cases hz : a = l.length
    · have hr : l.drop a = [] := List.drop_eq_nil_of_le (by omega)
      rw [if_pos hr]
      simp only [List.append_nil]
      exact hend acc a hz
    · have hr : l.drop a ≠ [] := fun h => by have := congrArg List.length h; rw [List.length_drop] at this; simp at this; omega
      rw [if_neg hr]
      have hrd : rd (l.drop a) 0 = rd l (a : Int) := by rw [rd_drop _ _ _ (by decide)]; simp
      have b0 := rd_bound _ hb (a : Int)
      unfold takeW
      rw [hrd, List.drop_drop]
      refine Ev.step (fun k => spec_l6Unpack.l0.eq_2 ..) (Ev.pos (by omega) (Ev.pos (by omega) ?_))
      by_cases h1 : rd l (a : Int) > 1
      · rw [if_pos h1]
        exact Ev.pos h1 (Ev.now _)
      · rw [if_neg h1]
        refine Ev.neg h1 ?_
        rw [w64 (x := (a : Int) + 1) (by omega) (by omega), show (a : Int) + 1 = ((a + 1 : Nat) : Int) by omega]
        rcases l6Text_eq l hb (by omega) (a + 1) (by omega) with ⟨ht, hs⟩ | ⟨key, b, ht, hab, hbl, hs⟩
        · rw [ht]
          exact Ev.bind (Ev.is hs) (Ev.pos (show (-1 : Int) < 0 by decide) (Ev.now _))
        · rw [ht]
          refine Ev.bind (Ev.is hs) (Ev.neg (show ¬ ((b : Int) < 0) by omega) ?_)
          by_cases h2 : rd l (a : Int) = 1
          · simp only [if_pos h2]
            refine Ev.pos (by omega) ?_
            have e := ih b (acc ++ [⟨key, ⟨#[]⟩, true⟩]) hbl (by omega) (by simp; omega)
            rw [show (rd l (a : Int) == 1) = true by simpa using h2]
            refine Ev.eq e ?_
            (try dsimp only)
            cases unpackL n (l.drop b) with
            | none => rfl
            | some ws => simp
          · simp only [if_neg h2]
            rcases l6Text_eq l hb (by omega) b hbl with ⟨hu, hs2⟩ | ⟨val, c, hu, hbc, hcl, hs2⟩
            · rw [hu]
              exact Ev.bind (Ev.is hs2) (Ev.pos (show (-1 : Int) < 0 by decide) (Ev.now _))
            · rw [hu]
              refine Ev.bind (Ev.is hs2) (Ev.neg (show ¬ ((c : Int) < 0) by omega) (Ev.pos (by omega) ?_))
              have e := ih c (acc ++ [⟨key, val, false⟩]) hcl (by omega) (by simp; omega)
              rw [show (rd l (a : Int) == 1) = false by simpa using h2]
              refine Ev.eq e ?_
              dsimp only
              cases unpackL n (l.drop c) with
              | none => rfl
              | some ws => simp
/-- A write as a row. -/
def rowW (v : Int) (w : S92) : S49 := ⟨w.f0, v, w.f1, w.f2⟩
theorem spec_l6Rows_ev (v : Int) (l : List S92) (hl : l.length ≤ 2000000) : Ev (fun k => spec_l6Rows.f k v l) (l.map (rowW v)) := by
  unfold spec_l6Rows.f
  refine Ev.upto1 (fun k s i => spec_l6Rows.l0 k v l s i) l.length (by omega) (fun i s => s ++ (l.drop i.toNat).map (rowW v) = l.map (rowW v) ∧ (s.length : Int) = i) (l.map (rowW v))
    (fun i s h0 h1 ⟨hs, hn⟩ => ?_) (fun s ⟨hs, _⟩ => Ev.step (fun k => spec_l6Rows.l0.eq_2 ..) (Ev.neg (by omega) (Ev.eq (Ev.now _) (by rw [← hs, List.drop_eq_nil_of_le (by omega)]; simp)))) 0 [] (by omega) (by omega) ⟨by simp, by simp⟩
  have hr := rdWrite_at l i h0 h1
  rw [drop_cons_at l i.toNat (by omega)] at hs
  generalize l[i.toNat]'(by omega) = w at hs hr
  refine .inl ⟨s ++ [rowW v w], ⟨by rw [show (i + 1).toNat = i.toNat + 1 by omega, ← hs]; simp, by simp; omega⟩, fun h => Ev.step (fun k => spec_l6Rows.l0.eq_2 ..) (Ev.pos h1 (Ev.pos h0 (Ev.pos (by omega) ?_)))⟩
  rw [hr]
  exact h
theorem impl_rowsOf_ev (v : Int) (l : List S92) (hl : l.length ≤ 2000000) : Ev (fun k => impl_rowsOf.f k v l) (l.map (rowW v)) := by
  unfold impl_rowsOf.f
  refine Ev.upto1 (fun k s i => impl_rowsOf.l0 k v s l (l.length : Int) i) l.length (by omega) (fun i s => s ++ (l.drop i.toNat).map (rowW v) = l.map (rowW v) ∧ (s.length : Int) = i) (l.map (rowW v))
    (fun i s h0 h1 ⟨hs, hn⟩ => ?_) (fun s ⟨hs, _⟩ => Ev.step (fun k => impl_rowsOf.l0.eq_2 ..) (Ev.neg (by omega) (Ev.eq (Ev.now _) (by rw [← hs, List.drop_eq_nil_of_le (by omega)]; simp)))) 0 [] (by omega) (by omega) ⟨by simp, by simp⟩
  have hr := rdWrite_at l i h0 h1
  rw [drop_cons_at l i.toNat (by omega)] at hs
  generalize l[i.toNat]'(by omega) = w at hs hr
  refine .inl ⟨s ++ [rowW v w], ⟨by rw [show (i + 1).toNat = i.toNat + 1 by omega, ← hs]; simp, by simp; omega⟩, fun h => Ev.step (fun k => impl_rowsOf.l0.eq_2 ..) (Ev.pos h1 (Ev.pos h0 (Ev.pos h1 ?_)))⟩
  rw [hr]
  exact Ev.bind (Ev.is (by unfold impl_Write_row.f; rfl)) (Ev.pos (by omega) h)
theorem packL_num (l : List Int) (hl : l.length = 8) (hb : ∀ x ∈ l, 0 ≤ x ∧ x < 256) : packL (wrap64 (numL 0 l)) = l := by
  match l, hl with
  | [a, b, c, d, e, f, g, h], _ =>
    have qa := hb a (by simp)
    have qb := hb b (by simp)
    have qc := hb c (by simp)
    have qd := hb d (by simp)
    have qe := hb e (by simp)
    have qf := hb f (by simp)
    have qg := hb g (by simp)
    have qh := hb h (by simp)
    have hn : numL 0 [a, b, c, d, e, f, g, h] = ((((((a * 256 + b) * 256 + c) * 256 + d) * 256 + e) * 256 + f) * 256 + g) * 256 + h := by
      simp only [numL, List.foldl_cons, List.foldl_nil]
      omega
    have hw : wrap64 (numL 0 [a, b, c, d, e, f, g, h]) = numL 0 [a, b, c, d, e, f, g, h] ∨ wrap64 (numL 0 [a, b, c, d, e, f, g, h]) = numL 0 [a, b, c, d, e, f, g, h] - 18446744073709551616 := by
      unfold wrap64
      omega
    rw [hn] at hw
    rw [hn]
    generalize wrap64 (((((((a * 256 + b) * 256 + c) * 256 + d) * 256 + e) * 256 + f) * 256 + g) * 256 + h) = z at hw
    unfold packL
    simp only [List.cons.injEq, and_true]
    refine ⟨?_, ?_, ?_, ?_, ?_, ?_, ?_, ?_⟩ <;> omega
/-- The number at the beginning. -/
def verOf (l : List Int) : Int := wrap64 (numL 0 (l.take 8))
/-- What UnpackWrites tells. -/
def unpackWR (l : List Int) : Int × List S49 :=
  if l.length < 8 then (5, []) else
  match unpackL l.length (l.drop 8) with
  | none => (5, [])
  | some ws => if (packWR (verOf l) ws).1 = 0 then (0, ws.map (rowW (verOf l))) else (5, [])
theorem end_same (l : List Int) (hb : ∀ x ∈ l, 0 ≤ x ∧ x < 256) (h8 : ¬ l.length < 8) (ws : List S92) (h : unpackL l.length (l.drop 8) = some ws) : endI l (verOf l) ws = ((packWR (verOf l) ws).1 == 0) := by
  unfold endI
  by_cases hc : (packWR (verOf l) ws).1 = 0
  · rw [if_pos hc]
    obtain ⟨e, hs⟩ := packWR_sizes _ _ hc
    have hp := unpackL_pack _ _ _ h (fun x hx => hb x (List.mem_of_mem_drop hx)) hs
    rw [e]
    have hl : packedL (verOf l) ws = l := by
      unfold packedL verOf
      rw [hp, packL_num _ (by rw [List.length_take]; omega) (fun x hx => hb x (List.mem_of_mem_take hx)), List.take_append_drop]
    simp [hl]
  · rw [if_neg hc]
    simpa using hc
theorem packWR_zero_len (v : Int) (ws : List S92) (h : (packWR v ws).1 = 0) : ws.length ≤ 8 := by
  unfold packWR at h
  by_cases hv : 1 ≤ v ∧ v ≤ 1000000
  · rw [if_pos hv] at h
    by_cases hw : writesFault ws = 0
    · exact writesFault_zero ws hw
    · rw [if_neg hw] at h
      exact absurd h hw
  · rw [if_neg hv] at h
    exact absurd h (by decide)
theorem unpackWR_len (l : List Int) : (unpackWR l).2.length ≤ 8 := by
  unfold unpackWR
  split
  · simp
  · split
    · simp
    · split
      · next h =>
        have := packWR_zero_len _ _ h
        simpa using this
      · simp
theorem spec_UnpackWrites_ev (l : List Int) (hb : ∀ x ∈ l, 0 ≤ x ∧ x < 256) (hl : l.length ≤ 1500000) : Ev (fun k => spec_UnpackWrites.f k l) (unpackWR l) := by
  unfold spec_UnpackWrites.f spec_l6Unpack.f unpackWR
  by_cases h8 : l.length < 8
  · rw [if_pos h8]
    exact Ev.bind (Ev.pos (by omega) (Ev.now _)) (Ev.neg (by simp) (Ev.now _))
  · rw [if_neg h8]
    have e := spec_unpack_loop l (verOf l) hb hl l.length 8 [] (by omega) (by omega) (by simp; omega)
    refine Ev.bind (Ev.neg (by omega) (Ev.pos (by omega) (Ev.bind (spec_l3Number_ev (l.take 8) (by rw [List.length_take]; omega)) e))) ?_
    cases unpackL l.length (l.drop 8) with
    | none => exact Ev.neg (by simp) (Ev.now _)
    | some ws =>
      simp only [List.nil_append]
      by_cases hc : (packWR (verOf l) ws).1 = 0
      · rw [if_pos hc]
        exact Ev.pos (by simpa using hc) (Ev.bind (spec_l6Rows_ev _ ws (by have := packWR_zero_len _ _ hc; omega)) (Ev.now _))
      · rw [if_neg hc]
        exact Ev.neg (by simpa using hc) (Ev.now _)
theorem impl_UnpackWrites_ev (l : List Int) (hb : ∀ x ∈ l, 0 ≤ x ∧ x < 256) (hl : l.length ≤ 1500000) : Ev (fun k => impl_UnpackWrites.f k l) (unpackWR l) := by
  unfold impl_UnpackWrites.f impl_unpackWrites.f unpackWR
  by_cases h8 : l.length < 8
  · rw [if_pos h8]
    exact Ev.bind (Ev.pos (by omega) (Ev.now _)) (Ev.neg (by simp) (Ev.now _))
  · rw [if_neg h8]
    have e := impl_unpack_loop l (verOf l) l.length (l.drop 8) [] (by rw [List.length_drop]; omega) (fun x hx => hb x (List.mem_of_mem_drop hx)) (by rw [List.length_drop]; simp; omega)
    have hu := impl_UnpackNumber_ev (l.take 8)
    rw [if_pos (by rw [List.length_take]; omega)] at hu
    refine Ev.bind (Ev.neg (by omega) (Ev.pos (by omega) (Ev.bind hu e))) ?_
    cases hw : unpackL l.length (l.drop 8) with
    | none => exact Ev.neg (by simp) (Ev.now _)
    | some ws =>
      simp only [List.nil_append]
      rw [end_same l hb h8 ws hw]
      by_cases hc : (packWR (verOf l) ws).1 = 0
      · rw [if_pos hc]
        exact Ev.pos (by simpa using hc) (Ev.bind (impl_rowsOf_ev _ ws (by have := packWR_zero_len _ _ hc; omega)) (Ev.now _))
      · rw [if_neg hc]
        exact Ev.neg (by simpa using hc) (Ev.now _)
theorem FnExactUnpackWrites : ∀ (l0 : List Int), okL (fun n => (Lit.int .u8 n).wf = true) l0 → ∃ k, laws_FnExactUnpackWrites.f k l0 = some true := by
  intro l hl
  have hb : ∀ x ∈ l, 0 ≤ x ∧ x < 256 := fun x hx => wfU8 (hl.2 x hx)
  refine Ev.rounds (r := true) ?_
  unfold laws_FnExactUnpackWrites.f
  refine Ev.ite (fun _ => Ev.now _) (fun h => ?_)
  have ht := toByteS_ev l (by omega)
  obtain ⟨mt, hmt⟩ := markT_all
  have hlen := unpackWR_len l
  have hi := impl_UnpackWrites_ev l hb (by omega)
  have he : Ev (fun k => laws_eqRowsResult.f k (unpackWR l).1 (unpackWR l).2 (unpackWR l).1 (unpackWR l).2) true := by
    unfold laws_eqRowsResult.f
    exact Ev.pos rfl (Ev.bind (eqRowS_ev _ (by omega)) (Ev.pos rfl (Ev.now _)))
  have hm := markRowsResult_ev hmt (unpackWR l).1 (unpackWR l).2 (by omega)
  have hh := heldRowsResult_ev hmt (unpackWR l).1 (unpackWR l).2.length (by omega)
  refine Ev.bind ht (Ev.bind (spec_UnpackWrites_ev l hb (by omega)) (Ev.bind ht (Ev.bind hi (Ev.bind he (Ev.pos rfl (Ev.bind ht (Ev.bind (eqByteS_ev l (by omega)) (Ev.pos rfl (Ev.bind (markByteS_ev l 1 (by decide) (by omega)) (Ev.neg ?_ (Ev.bind he ?_)))))))))))
  · show ¬ (1 + (l.length : Int)) < 0
    omega
  refine Ev.step (fun k => laws_FnExactUnpackWrites.j0.eq_2 ..) (Ev.neg (by simp) (Ev.bind hm (Ev.bind hh (Ev.neg (by omega) (Ev.pos rfl ?_)))))
  exact Ev.bind ht (Ev.bind hi (Ev.bind he (Ev.pos rfl (Ev.bind hh (Ev.neg (by omega) (Ev.pos rfl (Ev.now _)))))))

end Go.Proofs.Ytdhlcnlcpjlliaa.Pure
