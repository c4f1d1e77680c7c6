/- FnFrames, the pure statement: records that are framed one behind the other are read again, and of what is cut those that it holds whole. No conditions. -/
import Derived.Test.YtcdpiejcdeedoaaPFnFramesx4
import Derived.Test.YtcdpiejcdeedoaaOFnFrames
namespace Go.Proofs.Ytcdpiejcdeedoaa.Pure
open Go.RowKit Go.Proofs.Ytcdpiejcdeedoaa.PFnFrames Go.Proofs.YtcdpiejcdeedoaaW.PrintWords Go.Proofs.YtcdpiejcdeedoaaW.PrintLast Go.Proofs.YtcdpiejcdeedoaaW.PrintMore Go.Proofs.Ytcdpiejcdeedoaa.Opens
set_option linter.unusedVariables false
set_option linter.unusedSimpArgs false
/-! ### words of this text's own -/
theorem w64 {x : Int} (h0 : -9223372036854775808 ≤ x) (h1 : x ≤ 9223372036854775807) : wrap64 x = x := by
  unfold wrap64
  omega
theorem wfU8 {x : Int} (h : (Lit.int .u8 x).wf = true) : 0 ≤ x ∧ x < 256 := by
  simp [Lit.wf, IntKind.min, IntKind.max, IntKind.signed, IntKind.bits] at h
  omega
theorem wfI64 {x : Int} (h : (Lit.int .i64 x).wf = true) : -9223372036854775808 ≤ x ∧ x ≤ 9223372036854775807 := by
  simp [Lit.wf, IntKind.min, IntKind.max, IntKind.signed, IntKind.bits] at h
  omega
section
variable {α β σ : Type}
theorem Ev.ite {g f : Nat → Option α} {c : Prop} [Decidable c] {r : α} (ht : c → Ev g r) (hf : ¬ c → Ev f r) : Ev (fun k => if c then g k else f k) r := by
  by_cases h : c
  · simp only [if_pos h]; exact ht h
  · simp only [if_neg h]; exact hf h
theorem Ev.pos {g f : Nat → Option α} {c : Prop} [Decidable c] {r : α} (h : c) (ht : Ev g r) : Ev (fun k => if c then g k else f k) r := Ev.ite (fun _ => ht) (fun n => absurd h n)
theorem Ev.neg {g f : Nat → Option α} {c : Prop} [Decidable c] {r : α} (h : ¬ c) (hf : Ev f r) : Ev (fun k => if c then g k else f k) r := Ev.ite (fun y => absurd y h) (fun _ => hf)
theorem Ev.cond {g f : Nat → Option α} {c : Prop} [Decidable c] {r s : α} (ht : c → Ev g r) (hf : ¬ c → Ev f s) : Ev (fun k => if c then g k else f k) (if c then r else s) := by
  by_cases h : c
  · simp only [if_pos h]; exact ht h
  · simp only [if_neg h]; exact hf h
theorem Ev.let {f : Nat → α → Option β} {a : α} {r : β} (k : Ev (fun n => f n a) r) : Ev (fun n => (some a).bind (f n)) r := Ev.bind (Ev.now a) k
theorem Ev.is {a : Option α} {r : α} (h : a = some r) : Ev (fun _ => a) r := ⟨0, fun _ _ => h⟩
theorem Ev.eq {g : Nat → Option α} {a b : α} (h : Ev g a) (e : a = b) : Ev g b := e ▸ h
/-- A loop that counts i up to n, with a state s: what it comes to, if 'P i s' leads from round to round. -/
theorem Ev.upto (F : Nat → σ → Int → Option α) (n : Int) (hn : n ≤ 9223372036854775807) (P : Int → σ → Prop) (R : α → Prop)
    (step : ∀ i s, 0 ≤ i → i < n → P i s → (∃ s', P (i + 1) s' ∧ ∀ r, Ev (fun k => F k s' (wrap64 (i + 1))) r → Ev (fun k => F k s i) r) ∨ (∃ r, R r ∧ Ev (fun k => F k s i) r))
    (stop : ∀ s, P n s → ∃ r, R r ∧ Ev (fun k => F k s n) r) (i : Int) (s : σ) (h0 : 0 ≤ i) (h1 : i ≤ n) (hP : P i s) : ∃ r, R r ∧ Ev (fun k => F k s i) r := by
  obtain ⟨d, hd⟩ : ∃ d : Nat, n - i = d := ⟨(n - i).toNat, by omega⟩
  induction d generalizing i s with
  | zero =>
    obtain rfl : i = n := by omega
    exact stop s hP
  | succ d ih =>
    rcases step i s h0 (by omega) hP with ⟨s', hP', h⟩ | h
    · obtain ⟨r, hr, he⟩ := ih (i + 1) s' (by omega) (by omega) hP' (by omega)
      exact ⟨r, hr, h r (by rw [w64 (by omega) (by omega)]; exact he)⟩
    · exact h
/-- The same, where what it comes to is one value. -/
theorem Ev.upto1 (F : Nat → σ → Int → Option α) (n : Int) (hn : n ≤ 9223372036854775807) (P : Int → σ → Prop) (r : α)
    (step : ∀ i s, 0 ≤ i → i < n → P i s → (∃ s', P (i + 1) s' ∧ (Ev (fun k => F k s' (wrap64 (i + 1))) r → Ev (fun k => F k s i) r)) ∨ Ev (fun k => F k s i) r)
    (stop : ∀ s, P n s → Ev (fun k => F k s n) r) (i : Int) (s : σ) (h0 : 0 ≤ i) (h1 : i ≤ n) (hP : P i s) : Ev (fun k => F k s i) r := by
  obtain ⟨d, hd⟩ : ∃ d : Nat, n - i = d := ⟨(n - i).toNat, by omega⟩
  induction d generalizing i s with
  | zero =>
    obtain rfl : i = n := by omega
    exact stop s hP
  | succ d ih =>
    rcases step i s h0 (by omega) hP with ⟨s', hP', h⟩ | h
    · exact h (by rw [w64 (by omega) (by omega)]; exact ih (i + 1) s' (by omega) (by omega) hP' (by omega))
    · exact h
theorem take_set_succ (l acc : List α) (i : Nat) (v : α) (h : i < acc.length) (ht : acc.take i = l.take i) (hv : l[i]? = some v) : (acc.set i v).take (i + 1) = l.take (i + 1) := by
  rw [List.take_add_one, List.take_add_one, hv, List.getElem?_set_self h, List.take_set_of_le (Nat.le_refl _), ht]
/-- A row filled cell by cell. -/
theorem Ev.fill (F : Nat → List α → Int → Option (List α)) (l : List α) (hl : l.length ≤ 9223372036854775807)
    (step : ∀ (i : Int) s (v : α), 0 ≤ i → i < (l.length : Int) → s.length = l.length → l[i.toNat]? = some v → Ev (fun k => F k (s.set i.toNat v) (wrap64 (i + 1))) l → Ev (fun k => F k s i) l)
    (stop : ∀ s, s.length = l.length → Ev (fun k => F k s (l.length : Int)) s) (s : List α) (hs : s.length = l.length) : Ev (fun k => F k s 0) l :=
  Ev.upto1 F l.length (by omega) (fun i s => s.length = l.length ∧ s.take i.toNat = l.take i.toNat) l
    (fun i s h0 h1 ⟨hs, ht⟩ => .inl ⟨s.set i.toNat (l[i.toNat]'(by omega)), ⟨by simp [hs], by
      rw [show (i + 1).toNat = i.toNat + 1 by omega]
      exact take_set_succ l s _ _ (by omega) ht (List.getElem?_eq_getElem (by omega))⟩, step i s _ h0 h1 hs (List.getElem?_eq_getElem (by omega))⟩)
    (fun s ⟨hs, ht⟩ => by
      rw [List.take_of_length_le (by omega), List.take_of_length_le (by omega)] at ht
      have := stop s hs
      subst ht
      exact this) 0 s (by omega) (by omega) ⟨hs, by simp⟩
/-- A loop that asks of each place, and comes to the end. -/
theorem Ev.each {F : Nat → Int → Option β} {r : β} (n : Nat) (hn : (n : Int) ≤ 9223372036854775807) (step : ∀ i : Int, 0 ≤ i → i < n → Ev (fun k => F k (wrap64 (i + 1))) r → Ev (fun k => F k i) r) (stop : Ev (fun k => F k (n : Int)) r) : Ev (fun k => F k 0) r :=
  Ev.upto1 (fun k (_ : Unit) i => F k i) n hn (fun _ _ => True) r (fun i _ h0 h1 _ => .inl ⟨(), trivial, step i h0 h1⟩) (fun _ _ => stop) 0 () (by omega) (by omega) trivial
end
theorem rd_get (l : List Int) (i : Int) (h0 : 0 ≤ i) (h1 : i < (l.length : Int)) : rd l i = l[i.toNat]'(by omega) := by
  unfold rd
  rw [List.getD_eq_getElem?_getD, List.getElem?_eq_getElem (by omega)]
  rfl
theorem rd_of {l : List Int} {i : Int} {v : Int} (h : l[i.toNat]? = some v) : rd l i = v := by
  unfold rd
  rw [List.getD_eq_getElem?_getD, h]
  rfl
theorem drop_cons_at {α : Type} (l : List α) (i : Nat) (h : i < l.length) : l.drop i = l[i] :: l.drop (i + 1) := List.drop_eq_getElem_cons h
/-- The check of bytes. -/
def checkL (h : Int) (l : List Int) : Int := l.foldl (fun h b => (h * 257 + b + 1) % 65521) h
theorem check_step (h b : Int) (h0 : 0 ≤ h) (h1 : h < 65521) (b0 : 0 ≤ b) (b1 : b < 256) : Int.tmod (wrap64 ((wrap64 ((wrap64 (h * 257)) + (wrap64 b))) + 1)) 65521 = (h * 257 + b + 1) % 65521 := by
  rw [w64 (x := h * 257) (by omega) (by omega), w64 (x := b) (by omega) (by omega), w64 (x := h * 257 + b) (by omega) (by omega), w64 (x := h * 257 + b + 1) (by omega) (by omega), Int.tmod_eq_emod_of_nonneg (by omega)]
theorem checkL_bound (l : List Int) : ∀ h, 0 ≤ h → h < 65521 → 0 ≤ checkL h l ∧ checkL h l < 65521 := by
  induction l with
  | nil => exact fun h a b => ⟨a, b⟩
  | cons x l ih => exact fun h _ _ => ih ((h * 257 + x + 1) % 65521) (by omega) (by omega)
theorem check_next (l : List Int) (i : Int) (s : Int) (h0 : 0 ≤ i) (h1 : i < (l.length : Int)) : checkL ((s * 257 + rd l i + 1) % 65521) (l.drop (i + 1).toNat) = checkL s (l.drop i.toNat) := by
  rw [drop_cons_at l i.toNat (by omega), show (i + 1).toNat = i.toNat + 1 by omega, rd_get l i h0 h1]
  rfl
theorem rd_byte (l : List Int) (hb : ∀ x ∈ l, 0 ≤ x ∧ x < 256) (i : Int) (h0 : 0 ≤ i) (h1 : i < (l.length : Int)) : 0 ≤ rd l i ∧ rd l i < 256 := by
  rw [rd_get l i h0 h1]
  exact hb _ (List.getElem_mem _)
theorem spec_CheckOf_ev (l : List Int) (hl : l.length ≤ 140737488351232) (hb : ∀ x ∈ l, 0 ≤ x ∧ x < 256) : Ev (fun k => spec_CheckOf.f k l) (checkL 1 l) := by
  unfold spec_CheckOf.f
  refine Ev.upto1 (fun k s i => spec_CheckOf.l0 k l s i) l.length (by omega) (fun i s => 0 ≤ s ∧ s < 65521 ∧ checkL s (l.drop i.toNat) = checkL 1 l) (checkL 1 l)
    (fun i s h0 h1 ⟨p0, p1, hs⟩ => .inl ⟨(s * 257 + rd l i + 1) % 65521, ⟨by omega, by omega, (check_next l i s h0 h1).trans hs⟩, fun h => Ev.step (fun k => spec_CheckOf.l0.eq_2 ..) (Ev.pos h1 (Ev.pos h0 ?_))⟩)
    (fun s ⟨p0, p1, hs⟩ => Ev.step (fun k => spec_CheckOf.l0.eq_2 ..) (Ev.neg (by omega) (Ev.eq (Ev.now _) (by rw [← hs, List.drop_eq_nil_of_le (by omega)]; rfl))))
    0 1 (by omega) (by omega) ⟨by omega, by omega, rfl⟩
  have ⟨b0, b1⟩ := rd_byte l hb i h0 h1
  rw [check_step s _ p0 p1 b0 b1]
  exact h
theorem impl_CheckOf_ev (l : List Int) (hl : l.length ≤ 140737488351232) (hb : ∀ x ∈ l, 0 ≤ x ∧ x < 256) : Ev (fun k => impl_CheckOf.f k l) (checkL 1 l) := by
  unfold impl_CheckOf.f
  refine Ev.upto1 (fun k s i => impl_CheckOf.l0 k s l (l.length : Int) i) l.length (by omega) (fun i s => 0 ≤ s ∧ s < 65521 ∧ checkL s (l.drop i.toNat) = checkL 1 l) (checkL 1 l)
    (fun i s h0 h1 ⟨p0, p1, hs⟩ => .inl ⟨(s * 257 + rd l i + 1) % 65521, ⟨by omega, by omega, (check_next l i s h0 h1).trans hs⟩, fun h => Ev.step (fun k => impl_CheckOf.l0.eq_2 ..) (Ev.pos h1 (Ev.pos h0 (Ev.pos h1 ?_)))⟩)
    (fun s ⟨p0, p1, hs⟩ => Ev.step (fun k => impl_CheckOf.l0.eq_2 ..) (Ev.neg (by omega) (Ev.eq (Ev.now _) (by rw [← hs, List.drop_eq_nil_of_le (by omega)]; rfl))))
    0 1 (by omega) (by omega) ⟨by omega, by omega, rfl⟩
  have ⟨b0, b1⟩ := rd_byte l hb i h0 h1
  rw [check_step s _ p0 p1 b0 b1]
  exact h

/-- A number below 65536 in two bytes, the higher one first. -/
def pairL (n : Int) : List Int := [n / 256 % 256, n % 256]
/-- A record: how many bytes, their check, and they. -/
def frameL (l : List Int) : List Int := pairL l.length ++ pairL (checkL 1 l) ++ l

theorem rd_drop (l : List Int) (n : Nat) (j : Int) (h : 0 ≤ j) : rd (l.drop n) j = rd l ((n : Int) + j) := by
  unfold rd
  rw [List.getD_eq_getElem?_getD, List.getD_eq_getElem?_getD, List.getElem?_drop, show ((n : Int) + j).toNat = n + j.toNat by omega]
theorem rd_bound (l : List Int) (hb : ∀ x ∈ l, 0 ≤ x ∧ x < 256) (i : Int) : 0 ≤ rd l i ∧ rd l i < 256 := by
  unfold rd
  rw [List.getD_eq_getElem?_getD]
  cases h : l[i.toNat]? with
  | none => simp
  | some v => exact hb v (List.mem_of_getElem? h)

/-- How many bytes the record at the beginning tells of. -/
def recN (d : List Int) : Int := rd d 0 * 256 + rd d 1
/-- The record at the beginning of bytes: what it holds. -/
def recD (d : List Int) : List Int := (d.drop 4).take (recN d).toNat
/-- Is there a record at the beginning? -/
def isRec (d : List Int) : Bool := decide (4 < d.length ∧ 1 ≤ recN d ∧ recN d ≤ 500 ∧ 4 + recN d ≤ d.length ∧ checkL 1 (recD d) = rd d 2 * 256 + rd d 3)
/-- The records at the beginning, and how many bytes they are. -/
def recs : Nat → List Int → List (List Int) × Nat
  | 0, _ => ([], 0)
  | f + 1, d => if isRec d = true then (recD d :: (recs f (d.drop (4 + (recN d).toNat))).1, 4 + (recN d).toNat + (recs f (d.drop (4 + (recN d).toNat))).2) else ([], 0)
theorem isRec_iff (d : List Int) : isRec d = true ↔ (4 < d.length ∧ 1 ≤ recN d ∧ recN d ≤ 500 ∧ 4 + recN d ≤ d.length ∧ checkL 1 (recD d) = rd d 2 * 256 + rd d 3) := by
  unfold isRec
  simp
theorem recD_len (d : List Int) (h : isRec d = true) : (recD d).length = (recN d).toNat := by
  obtain ⟨h1, h2, h3, h4, _⟩ := (isRec_iff d).1 h
  unfold recD
  rw [List.length_take, List.length_drop]
  omega
theorem recs_used (f : Nat) : ∀ d : List Int, (recs f d).2 ≤ d.length := by
  induction f with
  | zero => intro d; simp [recs]
  | succ f ih =>
    intro d
    unfold recs
    by_cases h : isRec d = true
    · rw [if_pos h]
      obtain ⟨h1, h2, h3, h4, _⟩ := (isRec_iff d).1 h
      have := ih (d.drop (4 + (recN d).toNat))
      rw [List.length_drop] at this
      simp only
      omega
    · rw [if_neg h]
      simp
/-- More rounds tell the same. -/
theorem recs_more : ∀ (f g : Nat) (d : List Int), d.length ≤ f → d.length ≤ g → recs f d = recs g d := by
  intro f
  induction f with
  | zero =>
    intro g d hf hg
    have hd : d = [] := List.length_eq_zero_iff.1 (by omega)
    subst hd
    cases g with
    | zero => rfl
    | succ g => simp [recs, isRec]
  | succ f ih =>
    intro g d hf hg
    cases g with
    | zero =>
      have hd : d = [] := List.length_eq_zero_iff.1 (by omega)
      subst hd
      simp [recs, isRec]
    | succ g =>
      unfold recs
      by_cases h : isRec d = true
      · rw [if_pos h, if_pos h, ih g (d.drop (4 + (recN d).toNat)) (by rw [List.length_drop]; omega) (by rw [List.length_drop]; omega)]
      · rw [if_neg h, if_neg h]
/-- The records at the beginning of bytes. -/
def records (d : List Int) : List (List Int) := (recs d.length d).1
def usedB (d : List Int) : Nat := (recs d.length d).2

/-- Bytes marked one behind the other from k on. -/
def markB (n : Nat) (k : Int) : List Int := (List.range n).map fun (i : Nat) => (k + i) % 256
theorem markB_len (n : Nat) (k : Int) : (markB n k).length = n := by simp [markB]
theorem markB_get (n : Nat) (k : Int) (i : Nat) (h : i < n) : (markB n k)[i]? = some ((k + i) % 256) := by simp [markB, h]
/-- How many cells rows have. -/
def totB (ls : List (List Int)) : Nat := (ls.map List.length).sum
/-- Rows of bytes marked one behind the other from m on. -/
def markBs : List (List Int) → Int → List (List Int)
  | [], _ => []
  | l :: ls, m => markB l.length m :: markBs ls (m + l.length)
theorem within_eq (x a b : Int) : impl_within.f x a b = some (decide (a ≤ x ∧ x ≤ b)) := by
  unfold impl_within.f
  by_cases h1 : a ≤ x <;> simp [h1]

theorem bytes_inj (l m : List Int) (hl : ∀ x ∈ l, 0 ≤ x ∧ x < 256) (hm : ∀ x ∈ m, 0 ≤ x ∧ x < 256) : (strOfNums l).toList = (strOfNums m).toList ↔ l = m := by
  constructor
  · intro h
    rw [ByteArray.toList_eq, ByteArray.toList_eq, strOfNums_data, strOfNums_data] at h
    have h2 := congrArg (List.map fun b : UInt8 => (b.toNat : Int)) h
    have same : ∀ l : List Int, (∀ x ∈ l, 0 ≤ x ∧ x < 256) → (l.map fun n => UInt8.ofNat n.toNat).map (fun b : UInt8 => (b.toNat : Int)) = l := by
      intro l
      induction l with
      | nil => intro _; rfl
      | cons a l ih =>
        intro hl
        have ha := hl a (List.mem_cons_self ..)
        simp only [List.map_cons, ih (fun x hx => hl x (List.mem_cons_of_mem _ hx)), UInt8.toNat_ofNat']
        congr 1
        omega
    rw [same l hl, same m hm] at h2
    exact h2
  · intro h
    rw [h]
theorem clone_any (l : List Int) (h : l.length ≤ 2000000) : bytes_Clone.f l = some l := by
  unfold bytes_Clone.f
  simp only [Option.bind_some, List.nil_append, List.length_nil]
  rw [if_pos (by omega)]
theorem two_of (d : List Int) (h : 4 ≤ d.length) : (d.take 4).drop 2 = [rd d 2, rd d 3] := by
  match d, h with
  | a :: b :: c :: e :: t, _ => rfl
theorem unframe_no (d : List Int) (n : Int) : Ev (fun k => impl_unframe.j0 k d n true) ([], false) := Ev.step (fun k => impl_unframe.j0.eq_2 ..) (Ev.pos rfl (Ev.now _))
theorem impl_unframe_ev (d : List Int) (hb : ∀ x ∈ d, 0 ≤ x ∧ x < 256) (hl : d.length ≤ 2000000) : ∃ x, Ev (fun k => impl_unframe.f k d) (x, isRec d) ∧ (isRec d = true → x = recD d) := by
  have b0 := rd_bound _ hb 0
  have b1 := rd_bound _ hb 1
  have b2 := rd_bound _ hb 2
  have b3 := rd_bound _ hb 3
  have hN : wrap64 (wrap64 (wrap64 (rd d 0) * 256) + wrap64 (rd d 1)) = recN d := by
    unfold recN
    rw [w64 (x := rd d 0) (by omega) (by omega), w64 (x := rd d 1) (by omega) (by omega), w64 (x := rd d 0 * 256) (by omega) (by omega), w64 (by omega) (by omega)]
  have hNb : 0 ≤ recN d ∧ recN d ≤ 65535 := by unfold recN; omega
  have no : ¬ isRec d = true → ∀ x : List Int, ((x, false) : List Int × Bool) = (x, isRec d) := fun h x => by rw [Bool.eq_false_iff.2 h]
  unfold impl_unframe.f
  rw [hN, w64 (x := 4 + recN d) (by omega) (by omega)]
  by_cases h4 : d.length < 4
  · have hr : ¬ isRec d = true := fun h => by have := (isRec_iff d).1 h; omega
    exact ⟨[], Ev.pos (by omega) (Ev.eq (Ev.now _) (no hr [])), fun h => absurd h hr⟩
  · by_cases hw : 1 ≤ recN d ∧ recN d ≤ 500
    · by_cases hs : (d.length : Int) < 4 + recN d
      · have hr : ¬ isRec d = true := fun h => by have := (isRec_iff d).1 h; omega
        refine ⟨[], Ev.neg (by omega) (Ev.pos (by omega) (Ev.pos (by omega) (Ev.bind (Ev.is (within_eq _ _ _)) (Ev.pos (decide_eq_true hw) ?_)))), fun h => absurd h hr⟩
        rw [show decide ((d.length : Int) < 4 + recN d) = true from decide_eq_true hs]
        exact Ev.eq (unframe_no d _) (no hr [])
      · refine ⟨recD d, Ev.neg (by omega) (Ev.pos (by omega) (Ev.pos (by omega) (Ev.bind (Ev.is (within_eq _ _ _)) (Ev.pos (decide_eq_true hw) ?_)))), fun _ => rfl⟩
        rw [show decide ((d.length : Int) < 4 + recN d) = false from decide_eq_false hs]
        refine Ev.step (fun k => impl_unframe.j0.eq_2 ..) ?_
        rw [w64 (x := 4 + recN d) (by omega) (by omega)]
        have hcut : (d.take (4 + recN d).toNat).drop 4 = recD d := by
          unfold recD
          rw [List.drop_take]
          congr 1
          omega
        rw [hcut]
        have hrb : ∀ x ∈ recD d, 0 ≤ x ∧ x < 256 := fun x hx => hb x (List.mem_of_mem_drop (List.mem_of_mem_take hx))
        have hrl : (recD d).length ≤ 2000000 := by
          unfold recD
          rw [List.length_take, List.length_drop]
          omega
        have hcb := checkL_bound (recD d) 1 (by decide) (by decide)
        refine Ev.neg (by simp) (Ev.pos (by omega) (Ev.pos (by omega) (Ev.bind (Ev.now _) (Ev.pos (by decide) (Ev.pos (by omega) (Ev.bind (impl_CheckOf_ev _ (by omega) hrb) (Ev.bind (Ev.is (by unfold impl_pair.f; rfl)) (Ev.bind (Ev.is (by unfold bytes_Equal.f; rfl)) ?_))))))))
        refine Ev.eq (Ev.now _) ?_
        rw [two_of d (by omega)]
        have hx : isRec d = ((strOfNums [rd d 2, rd d 3]).toList == (strOfNums [checkL 1 (recD d) / 256 % 256, checkL 1 (recD d) % 256]).toList) := by
          rw [Bool.eq_iff_iff, beq_iff_eq, bytes_inj _ _ (by intro x hx; simp at hx; rcases hx with rfl | rfl <;> assumption) (by intro x hx; simp at hx; rcases hx with rfl | rfl <;> omega), isRec_iff]
          simp only [List.cons.injEq, and_true]
          constructor
          · rintro ⟨_, _, _, _, h⟩
            omega
          · rintro ⟨h1, h2⟩
            refine ⟨by omega, by omega, by omega, by omega, by omega⟩
        rw [hx]
    · have hr : ¬ isRec d = true := fun h => by have := (isRec_iff d).1 h; omega
      refine ⟨[], Ev.neg (by omega) (Ev.pos (by omega) (Ev.pos (by omega) (Ev.bind (Ev.is (within_eq _ _ _)) (Ev.neg (fun h => hw (of_decide_eq_true h)) (Ev.eq (unframe_no d _) (no hr [])))))), fun h => absurd h hr⟩
theorem impl_UnframeAll_loop (l : List Int) (hb : ∀ x ∈ l, 0 ≤ x ∧ x < 256) (hl : l.length ≤ 2000000) : ∀ (f : Nat) (acc : List (List Int)) (n : Nat), n ≤ l.length → l.length - n ≤ f → acc.length + (l.length - n) ≤ 5000000 →
    Ev (fun k => impl_UnframeAll.l0 k l 0 (n : Int) acc) (0, (n : Int) + (recs f (l.drop n)).2, acc ++ (recs f (l.drop n)).1) := by
  intro f
  induction f with
  | zero =>
    intro acc n h0 h1 h2
    obtain ⟨x, hx, _⟩ := impl_unframe_ev (l.drop n) (fun x hx => hb x (List.mem_of_mem_drop hx)) (by rw [List.length_drop]; omega)
    have hr : isRec (l.drop n) = false := by
      rw [Bool.eq_false_iff]
      intro h
      have := ((isRec_iff _).1 h).1
      rw [List.length_drop] at this
      omega
    rw [hr] at hx
    refine Ev.step (fun k => impl_UnframeAll.l0.eq_2 ..) (Ev.pos (by omega) (Ev.pos (by omega) ?_))
    rw [Int.toNat_natCast]
    exact Ev.bind hx (Ev.neg (by simp) (Ev.eq (Ev.now _) (by simp [recs])))
  | succ f ih =>
    intro acc n h0 h1 h2
    obtain ⟨x, hx, hd⟩ := impl_unframe_ev (l.drop n) (fun x hx => hb x (List.mem_of_mem_drop hx)) (by rw [List.length_drop]; omega)
    refine Ev.step (fun k => impl_UnframeAll.l0.eq_2 ..) (Ev.pos (by omega) (Ev.pos (by omega) ?_))
    rw [Int.toNat_natCast]
    unfold recs
    by_cases hr : isRec (l.drop n) = true
    · rw [if_pos hr]
      have hx2 := hd hr
      subst hx2
      obtain ⟨_, q1, q2, q3, q4⟩ := (isRec_iff _).1 hr
      have hrl := recD_len _ hr
      rw [List.length_drop] at q3
      have e := ih (acc ++ [recD (l.drop n)]) (n + 4 + (recN (l.drop n)).toNat) (by omega) (by omega) (by simp; omega)
      refine Ev.bind hx (Ev.pos hr (Ev.bind (Ev.is (clone_any (recD (l.drop n)) (by omega))) (Ev.pos (by omega) (Ev.bind (Ev.is (by unfold impl_size_byte.f; rfl)) ?_))))
      rw [w64 (x := 4 + ((recD (l.drop n)).length : Int)) (by omega) (by omega), w64 (by omega) (by omega), show (n : Int) + (4 + ((recD (l.drop n)).length : Int)) = ((n + 4 + (recN (l.drop n)).toNat : Nat) : Int) by omega]
      refine Ev.eq e ?_
      rw [List.drop_drop, show n + (4 + (recN (l.drop n)).toNat) = n + 4 + (recN (l.drop n)).toNat by omega]
      simp only [List.append_assoc, List.cons_append, List.nil_append, Prod.mk.injEq, true_and, and_true]
      omega
    · rw [if_neg hr]
      exact Ev.bind hx (Ev.neg hr (Ev.eq (Ev.now _) (by simp)))
theorem impl_UnframeAll_ev (l : List Int) (hb : ∀ x ∈ l, 0 ≤ x ∧ x < 256) (hl : l.length ≤ 6000) : Ev (fun k => impl_UnframeAll.f k l) (0, (usedB l : Int), records l) := by
  unfold impl_UnframeAll.f
  refine Ev.neg (by omega) ?_
  exact Ev.eq (impl_UnframeAll_loop l hb (by omega) l.length [] 0 (by omega) (by omega) (by simp; omega)) (by simp [records, usedB])

theorem recs_tot (f : Nat) : ∀ d : List Int, totB (recs f d).1 + (recs f d).1.length ≤ (recs f d).2 := by
  induction f with
  | zero => intro d; simp [recs, totB]
  | succ f ih =>
    intro d
    unfold recs
    by_cases h : isRec d = true
    · rw [if_pos h]
      have := ih (d.drop (4 + (recN d).toNat))
      have := recD_len d h
      simp only [totB, List.map_cons, List.sum_cons, List.length_cons] at *
      omega
    · rw [if_neg h]
      simp [totB]
theorem records_tot (d : List Int) : totB (records d) + (records d).length ≤ d.length := Nat.le_trans (recs_tot _ d) (recs_used _ d)
theorem totB_mem {ls : List (List Int)} {l : List Int} (h : l ∈ ls) : l.length ≤ totB ls := by
  induction ls with
  | nil => cases h
  | cons a bs ih =>
    rw [show totB (a :: bs) = a.length + totB bs by simp [totB]]
    rcases List.mem_cons.1 h with rfl | h
    · omega
    · have := ih h; omega
/-- What UnframeAll tells. -/
def unR (l : List Int) : Int × Int × List (List Int) := if (l.length : Int) > 6000 then (2, 0, []) else (0, (usedB l : Int), records l)
theorem impl_UnframeAll_any (l : List Int) (hb : ∀ x ∈ l, 0 ≤ x ∧ x < 256) : Ev (fun k => impl_UnframeAll.f k l) (unR l) := by
  by_cases h : (l.length : Int) > 6000
  · unfold impl_UnframeAll.f unR
    rw [if_pos h]
    exact Ev.pos h (Ev.now _)
  · refine Ev.eq (impl_UnframeAll_ev l hb (by omega)) ?_
    unfold unR
    rw [if_neg h]
theorem unR_tot (l : List Int) : totB (unR l).2.2 + (unR l).2.2.length ≤ 6000 := by
  unfold unR
  split
  · simp [totB]
  · have := records_tot l; simp only; omega

theorem rd_append (d e : List Int) (i : Int) (h0 : 0 ≤ i) (h : i < (d.length : Int)) : rd (d ++ e) i = rd d i := by
  unfold rd
  rw [List.getD_eq_getElem?_getD, List.getD_eq_getElem?_getD, List.getElem?_append_left (by omega)]
theorem recN_append (d e : List Int) (h : 4 < d.length) : recN (d ++ e) = recN d := by
  unfold recN
  rw [rd_append d e 0 (by decide) (by omega), rd_append d e 1 (by decide) (by omega)]
theorem recD_append (d e : List Int) (h : isRec d = true) : recD (d ++ e) = recD d := by
  obtain ⟨h1, h2, h3, h4, _⟩ := (isRec_iff d).1 h
  unfold recD
  rw [recN_append d e h1, List.drop_append_of_le_length (by omega), List.take_append_of_le_length (by rw [List.length_drop]; omega)]
theorem isRec_append (d e : List Int) (h : isRec d = true) : isRec (d ++ e) = true := by
  obtain ⟨h1, h2, h3, h4, h5⟩ := (isRec_iff d).1 h
  refine (isRec_iff _).2 ⟨by rw [List.length_append]; omega, by rw [recN_append d e h1]; exact h2, by rw [recN_append d e h1]; exact h3, by rw [recN_append d e h1, List.length_append]; omega, ?_⟩
  rw [recD_append d e h, rd_append d e 2 (by decide) (by omega), rd_append d e 3 (by decide) (by omega)]
  exact h5
/-- What stands behind bytes takes no record away. -/
theorem recs_append (f : Nat) : ∀ d e : List Int, d.length ≤ f → ∃ r u, recs (f + e.length) (d ++ e) = ((recs f d).1 ++ r, (recs f d).2 + u) ∧ (r, u) = recs (f + e.length) ((d ++ e).drop (recs f d).2) := by
  induction f with
  | zero =>
    intro d e hd
    have hz : d = [] := List.length_eq_zero_iff.1 (by omega)
    subst hz
    exact ⟨(recs (0 + e.length) e).1, (recs (0 + e.length) e).2, by simp [recs], by simp [recs]⟩
  | succ f ih =>
    intro d e hd
    by_cases h : isRec d = true
    · have hd2 : recs (f + 1) d = (recD d :: (recs f (d.drop (4 + (recN d).toNat))).1, 4 + (recN d).toNat + (recs f (d.drop (4 + (recN d).toNat))).2) := by rw [recs, if_pos h]
      obtain ⟨h1, h2, h3, h4, _⟩ := (isRec_iff d).1 h
      obtain ⟨r, u, hr, hru⟩ := ih (d.drop (4 + (recN d).toNat)) e (by rw [List.length_drop]; omega)
      refine ⟨r, u, ?_, ?_⟩
      · rw [show f + 1 + e.length = (f + e.length) + 1 by omega, recs, if_pos (isRec_append d e h), recN_append d e h1, recD_append d e h, List.drop_append_of_le_length (by omega), hr, hd2, Prod.mk.injEq]
        exact ⟨rfl, by omega⟩
      · rw [hru, hd2, ← List.drop_append_of_le_length (by omega), List.drop_drop]
        refine recs_more _ _ _ ?_ ?_
        · rw [List.length_drop, List.length_append]; omega
        · rw [List.length_drop, List.length_append]; omega
    · have hd2 : recs (f + 1) d = ([], 0) := by rw [recs, if_neg h]
      rw [hd2]
      exact ⟨(recs (f + 1 + e.length) (d ++ e)).1, (recs (f + 1 + e.length) (d ++ e)).2, by simp, by simp⟩
theorem records_append (d e : List Int) : ∃ r u, records (d ++ e) = records d ++ r ∧ usedB (d ++ e) = usedB d + u ∧ r = records ((d ++ e).drop (usedB d)) ∧ u = usedB ((d ++ e).drop (usedB d)) := by
  obtain ⟨r, u, h, h2⟩ := recs_append d.length d e (Nat.le_refl _)
  have hm : recs (d.length + e.length) ((d ++ e).drop (usedB d)) = recs ((d ++ e).drop (usedB d)).length ((d ++ e).drop (usedB d)) := recs_more _ _ _ (by rw [List.length_drop, List.length_append]; omega) (Nat.le_refl _)
  have h3 : (r, u) = recs ((d ++ e).drop (usedB d)).length ((d ++ e).drop (usedB d)) := h2.trans hm
  rw [Prod.ext_iff] at h3
  unfold records usedB at *
  rw [List.length_append, h]
  exact ⟨r, u, rfl, rfl, h3.1, h3.2⟩
theorem recs_used_take (f : Nat) : ∀ d : List Int, d.length ≤ f → (recs f (d.take (recs f d).2)).2 = (recs f d).2 := by
  induction f with
  | zero => intro d hd; simp [recs]
  | succ f ih =>
    intro d hd
    by_cases h : isRec d = true
    · obtain ⟨h1, h2, h3, h4, h5⟩ := (isRec_iff d).1 h
      have hd2 : recs (f + 1) d = (recD d :: (recs f (d.drop (4 + (recN d).toNat))).1, 4 + (recN d).toNat + (recs f (d.drop (4 + (recN d).toNat))).2) := by rw [recs, if_pos h]
      have hu := recs_used f (d.drop (4 + (recN d).toNat))
      rw [List.length_drop] at hu
      have hrl := recD_len d h
      rw [hd2]
      simp only
      have ih := ih (d.drop (4 + (recN d).toNat)) (by rw [List.length_drop]; omega)
      generalize (recs f (d.drop (4 + (recN d).toNat))).2 = u at hu ih ⊢
      have hN : recN (d.take (4 + (recN d).toNat + u)) = recN d := by
        have := recN_append (d.take (4 + (recN d).toNat + u)) (d.drop (4 + (recN d).toNat + u)) (by rw [List.length_take]; omega)
        rw [List.take_append_drop] at this
        exact this.symm
      have hr : ∀ i : Int, 0 ≤ i → i < 4 → rd (d.take (4 + (recN d).toNat + u)) i = rd d i := fun i i0 i1 => by
        have := rd_append (d.take (4 + (recN d).toNat + u)) (d.drop (4 + (recN d).toNat + u)) i i0 (by rw [List.length_take]; omega)
        rw [List.take_append_drop] at this
        exact this.symm
      have hD : recD (d.take (4 + (recN d).toNat + u)) = recD d := by
        unfold recD
        rw [hN, List.drop_take, List.take_take]
        congr 1
        omega
      have hrec : isRec (d.take (4 + (recN d).toNat + u)) = true := (isRec_iff _).2 ⟨by rw [List.length_take]; omega, by rw [hN]; exact h2, by rw [hN]; exact h3, by rw [hN, List.length_take]; omega, by rw [hD, hr 2 (by decide) (by decide), hr 3 (by decide) (by decide)]; exact h5⟩
      rw [recs, if_pos hrec, hN]
      simp only
      rw [List.drop_take, show 4 + (recN d).toNat + u - (4 + (recN d).toNat) = u by omega, ih]
    · have hd2 : recs (f + 1) d = ([], 0) := by rw [recs, if_neg h]
      rw [hd2]
      simp [recs, isRec]
theorem used_take (d : List Int) : usedB (d.take (usedB d)) = usedB d := by
  have h := recs_used_take d.length d (Nat.le_refl _)
  have hm : recs (d.take (usedB d)).length (d.take (usedB d)) = recs d.length (d.take (usedB d)) := recs_more _ _ _ (Nat.le_refl _) (by rw [List.length_take]; omega)
  unfold usedB at *
  rw [hm]
  exact h

theorem l3Short_eq (n : Int) (h0 : 0 ≤ n) (h1 : n < 100000) : spec_l3Short.f n = some (pairL n) := by
  unfold spec_l3Short.f pairL
  rw [Int.tdiv_eq_ediv_of_nonneg h0, Int.tmod_eq_emod_of_nonneg h0, w64 (by omega) (by omega)]
  rw [show n % 256 % 256 = n % 256 by omega]
theorem spec_l3Frame_ev (l : List Int) (hl : l.length ≤ 500) (hb : ∀ x ∈ l, 0 ≤ x ∧ x < 256) : Ev (fun k => spec_l3Frame.f k l) (frameL l) := by
  have hc := checkL_bound l 1 (by decide) (by decide)
  unfold spec_l3Frame.f
  rw [l3Short_eq _ (by omega) (by omega)]
  refine Ev.let (Ev.bind (spec_CheckOf_ev l (by omega) hb) ?_)
  rw [l3Short_eq _ hc.1 (by omega)]
  refine Ev.let (Ev.pos ?_ ?_)
  · simp [pairL]
  · refine Ev.let (Ev.pos ?_ (Ev.now _))
    simp [pairL]; omega
theorem impl_frame_ev (l : List Int) (hl : l.length ≤ 500) (hb : ∀ x ∈ l, 0 ≤ x ∧ x < 256) : Ev (fun k => impl_frame.f k l) (frameL l) := by
  unfold impl_frame.f impl_size_byte.f impl_pair.f
  refine Ev.let (Ev.let (Ev.bind (impl_CheckOf_ev l (by omega) hb) (Ev.let (Ev.pos ?_ ?_))))
  · simp
  · refine Ev.let (Ev.pos ?_ (Ev.now _))
    simp; omega
/-- What FrameRecord tells. -/
def frameR (l : List Int) : Int × List Int := if 1 ≤ l.length ∧ l.length ≤ 500 then (0, frameL l) else (2, [])
theorem spec_FrameRecord_ev (l : List Int) (hb : ∀ x ∈ l, 0 ≤ x ∧ x < 256) : Ev (fun k => spec_FrameRecord.f k l) (frameR l) := by
  unfold spec_FrameRecord.f frameR
  by_cases h1 : 1 ≤ l.length
  · by_cases h2 : l.length ≤ 500
    · rw [if_pos ⟨h1, h2⟩]
      exact Ev.neg (by omega) (Ev.neg (by omega) (Ev.bind (spec_l3Frame_ev l h2 hb) (Ev.now _)))
    · rw [if_neg (by omega)]
      exact Ev.neg (by omega) (Ev.pos (by omega) (Ev.now _))
  · rw [if_neg (by omega)]
    exact Ev.pos (by omega) (Ev.now _)
theorem impl_FrameRecord_ev (l : List Int) (hb : ∀ x ∈ l, 0 ≤ x ∧ x < 256) : Ev (fun k => impl_FrameRecord.f k l) (frameR l) := by
  unfold impl_FrameRecord.f frameR impl_size_byte.f impl_within.f
  refine Ev.let ?_
  by_cases h1 : 1 ≤ l.length
  · rw [if_pos (show (l.length : Int) ≥ 1 by omega)]
    by_cases h2 : l.length ≤ 500
    · rw [if_pos ⟨h1, h2⟩]
      exact Ev.let (Ev.pos (by simp; omega) (Ev.bind (impl_frame_ev l h2 hb) (Ev.now _)))
    · rw [if_neg (show ¬ (1 ≤ l.length ∧ l.length ≤ 500) by omega)]
      exact Ev.let (Ev.neg (by simp; omega) (Ev.now _))
  · rw [if_neg (show ¬ ((l.length : Int) ≥ 1) by omega), if_neg (show ¬ (1 ≤ l.length ∧ l.length ≤ 500) by omega)]
    exact Ev.let (Ev.neg (by simp) (Ev.now _))
theorem frameR_len (l : List Int) : (frameR l).2.length ≤ 504 := by
  unfold frameR
  split
  · simp [frameL, pairL]; omega
  · simp

theorem frameL_cons (d : List Int) : frameL d = ((d.length : Int) / 256 % 256) :: ((d.length : Int) % 256) :: (checkL 1 d / 256 % 256) :: (checkL 1 d % 256) :: d := rfl
theorem frameL_len (d : List Int) : (frameL d).length = d.length + 4 := by rw [frameL_cons]; rfl
theorem recN_frame (d e : List Int) (h : d.length ≤ 500) : recN (frameL d ++ e) = d.length := by
  rw [frameL_cons]
  show (d.length : Int) / 256 % 256 * 256 + (d.length : Int) % 256 = _
  omega
theorem recD_frame (d e : List Int) (h : d.length ≤ 500) : recD (frameL d ++ e) = d := by
  unfold recD
  rw [recN_frame d e h, frameL_cons]
  show (d ++ e).take ((d.length : Int)).toNat = d
  rw [Int.toNat_natCast, List.take_append_of_le_length (Nat.le_refl _), List.take_length]
theorem isRec_frame (d e : List Int) (h1 : 1 ≤ d.length) (h : d.length ≤ 500) : isRec (frameL d ++ e) = true := by
  have hc := checkL_bound d 1 (by decide) (by decide)
  refine (isRec_iff _).2 ⟨by rw [List.length_append, frameL_len]; omega, by rw [recN_frame d e h]; omega, by rw [recN_frame d e h]; omega, by rw [recN_frame d e h, List.length_append, frameL_len]; omega, ?_⟩
  rw [recD_frame d e h, frameL_cons]
  show checkL 1 d = checkL 1 d / 256 % 256 * 256 + checkL 1 d % 256
  omega
theorem records_frame (d e : List Int) (h1 : 1 ≤ d.length) (h : d.length ≤ 500) : records (frameL d ++ e) = d :: records e ∧ usedB (frameL d ++ e) = d.length + 4 + usedB e := by
  have hl : (frameL d ++ e).length = (d.length + 3 + e.length) + 1 := by rw [List.length_append, frameL_len]; omega
  have hd : (frameL d ++ e).drop (4 + (recN (frameL d ++ e)).toNat) = e := by
    rw [recN_frame d e h, frameL_cons, Int.toNat_natCast, Nat.add_comm 4]
    show (d ++ e).drop d.length = e
    rw [List.drop_append_of_le_length (Nat.le_refl _), List.drop_length, List.nil_append]
  have hr : recs (frameL d ++ e).length (frameL d ++ e) = (d :: (recs e.length e).1, 4 + d.length + (recs e.length e).2) := by
    rw [hl, recs, if_pos (isRec_frame d e h1 h), hd, recD_frame d e h, recN_frame d e h, Int.toNat_natCast, recs_more (d.length + 3 + e.length) e.length e (by omega) (Nat.le_refl _)]
  unfold records usedB
  rw [hr]
  exact ⟨rfl, by simp only; omega⟩

/-- The frames of records, one behind the other. -/
def flat (L : List (List Int)) : List Int := (L.map frameL).flatten
def totF : List (List Int) → Nat
  | [] => 0
  | d :: r => d.length + 4 + totF r
def okR (L : List (List Int)) : Prop := ∀ d ∈ L, 1 ≤ d.length ∧ d.length ≤ 500
theorem flat_cons (d : List Int) (r : List (List Int)) : flat (d :: r) = frameL d ++ flat r := rfl
theorem totF_cons (d : List Int) (r : List (List Int)) : totF (d :: r) = d.length + 4 + totF r := rfl
theorem flat_add (L : List (List Int)) (d : List Int) : flat (L ++ [d]) = flat L ++ frameL d := by simp [flat]
theorem flat_len (L : List (List Int)) : (flat L).length = totF L := by
  induction L with
  | nil => rfl
  | cons d r ih => rw [flat_cons, List.length_append, frameL_len, ih, totF_cons]
theorem totF_add (L : List (List Int)) (d : List Int) : totF (L ++ [d]) = totF L + (d.length + 4) := by
  induction L with
  | nil =>
    rw [List.nil_append, totF_cons]
    show d.length + 4 + 0 = 0 + (d.length + 4)
    omega
  | cons e r ih => rw [List.cons_append, totF_cons, totF_cons, ih]; omega
theorem totF_le (L : List (List Int)) (h : okR L) : totF L ≤ 504 * L.length := by
  induction L with
  | nil => exact Nat.le_refl 0
  | cons d r ih =>
    have h1 := h d List.mem_cons_self
    have ih := ih (fun x hx => h x (List.mem_cons_of_mem _ hx))
    rw [totF_cons, List.length_cons]; omega
theorem records_flat (L : List (List Int)) (h : okR L) : records (flat L) = L ∧ usedB (flat L) = totF L := by
  induction L with
  | nil => exact ⟨rfl, rfl⟩
  | cons d r ih =>
    have h1 := h d List.mem_cons_self
    obtain ⟨i1, i2⟩ := ih (fun x hx => h x (List.mem_cons_of_mem _ hx))
    obtain ⟨p, q⟩ := records_frame d (flat r) h1.1 h1.2
    rw [flat_cons, p, q, i1, i2]
    exact ⟨rfl, rfl⟩
theorem records_none (x : List Int) (h : ¬ isRec x = true) : records x = [] := by
  unfold records
  cases hx : x.length with
  | zero => rfl
  | succ n => rw [recs, if_neg h]
theorem records_short (d e : List Int) (h : d.length ≤ 500) (c : Nat) (hc : c < d.length + 4) : records ((frameL d ++ e).take c) = [] := by
  refine records_none _ (fun hr => ?_)
  obtain ⟨h1, _, _, h4, _⟩ := (isRec_iff _).1 hr
  have hN := recN_append ((frameL d ++ e).take c) ((frameL d ++ e).drop c) h1
  rw [List.take_append_drop, recN_frame d e h] at hN
  rw [← hN] at h4
  have hl : ((frameL d ++ e).take c).length ≤ c := by rw [List.length_take]; exact Nat.min_le_left _ _
  omega
/-- What is cut has the records whose frames it holds whole. -/
theorem cut_flat (L : List (List Int)) : ∀ c : Nat, okR L → ∃ m, m ≤ L.length ∧ records ((flat L).take c) = L.take m ∧ ∀ i, i < L.length → (totF (L.take (i + 1)) ≤ c ↔ i < m) := by
  induction L with
  | nil =>
    intro c _
    refine ⟨0, Nat.le_refl 0, ?_, fun i h => absurd h (by simp)⟩
    rw [show flat [] = [] from rfl, List.take_nil]
    rfl
  | cons d r ih =>
    intro c h
    have h1 := h d List.mem_cons_self
    by_cases hc : d.length + 4 ≤ c
    · obtain ⟨m, hm, hr, hi⟩ := ih (c - (d.length + 4)) (fun x hx => h x (List.mem_cons_of_mem _ hx))
      refine ⟨m + 1, by rw [List.length_cons]; omega, ?_, fun i hi' => ?_⟩
      · have e : (frameL d ++ flat r).take c = frameL d ++ (flat r).take (c - (d.length + 4)) := by
          rw [List.take_append, frameL_len, List.take_of_length_le (by rw [frameL_len]; omega)]
        rw [flat_cons, e, (records_frame d _ h1.1 h1.2).1, hr, List.take_succ_cons]
      · rw [List.take_succ_cons, totF_cons]
        cases i with
        | zero => rw [List.take_zero, show totF [] = 0 from rfl]; omega
        | succ i =>
          have := hi i (by rw [List.length_cons] at hi'; omega)
          omega
    · refine ⟨0, Nat.zero_le _, by rw [flat_cons, records_short d (flat r) h1.2 c (by omega), List.take_zero], fun i _ => ?_⟩
      rw [List.take_succ_cons, totF_cons]
      omega
theorem totF_take (L : List (List Int)) (i : Nat) (h : i < L.length) : totF (L.take (i + 1)) = totF (L.take i) + (L[i].length + 4) := by
  rw [List.take_add_one, List.getElem?_eq_getElem h]
  exact totF_add _ _
theorem totF_take_le (L : List (List Int)) (h : okR L) (i : Nat) : totF (L.take i) ≤ 504 * L.length := by
  have := totF_le (L.take i) (fun x hx => h x (List.mem_of_mem_take hx))
  have hl : (L.take i).length ≤ L.length := by rw [List.length_take]; exact Nat.min_le_right _ _
  omega
theorem usedB_le' (l : List Int) : usedB l ≤ l.length := recs_used _ l

/-- Bytes. -/
def bytesL (l : List Int) : Prop := ∀ x ∈ l, 0 ≤ x ∧ x < 256
theorem next_ok (c : List Int) (hb : bytesL c) (hl : c.length ≤ 2000000) (s : Int) (h0 : 0 ≤ s) (h1 : s ≤ 100000000000000) (n : Int) :
    ∃ r, spec_l1Next.f c s n = some (r, s + 1) ∧ 0 ≤ r ∧ (1 ≤ n → r < n) ∧ (n < 1 → r = 0) := by
  have e1 : wrap64 (s + 1) = s + 1 := w64 (by omega) (by omega)
  have e2 : wrap64 (s + 1 - 1) = s := by rw [show s + 1 - 1 = s by omega]; exact w64 (by omega) (by omega)
  unfold spec_l1Next.f
  simp only [e1, e2]
  by_cases hn1 : n < 1
  · rw [if_pos hn1]
    exact ⟨0, rfl, by omega, fun h => by omega, fun _ => rfl⟩
  rw [if_neg hn1]
  have fin : ∀ v : Int, 0 ≤ v → ∃ r, (if n = 0 then none else some (Int.tmod v n, s + 1)) = some (r, s + 1) ∧ 0 ≤ r ∧ (1 ≤ n → r < n) ∧ (n < 1 → r = 0) := fun v hv =>
    ⟨Int.tmod v n, if_neg (by omega), Int.tmod_nonneg n hv, fun _ => Int.tmod_lt_of_pos v (by omega), fun h => absurd h hn1⟩
  by_cases hk : (c.length : Int) = 0
  · rw [if_pos hk, w64 (x := s * 7) (by omega) (by omega)]
    exact fin _ (by omega)
  · rw [if_neg hk]
    have m0 := Int.tmod_nonneg (c.length : Int) h0
    have m1 := Int.tmod_lt_of_pos s (show 0 < (c.length : Int) by omega)
    have p0 := Int.tmod_nonneg (c.length : Int) (show 0 ≤ s + 1 by omega)
    have p1 := Int.tmod_lt_of_pos (s + 1) (show 0 < (c.length : Int) by omega)
    have d0 : 0 ≤ Int.tdiv s (c.length : Int) := Int.tdiv_nonneg h0 (by omega)
    have d1 : Int.tdiv s (c.length : Int) ≤ s := by
      rw [Int.tdiv_eq_ediv_of_nonneg h0]
      exact Int.ediv_le_self _ h0
    rw [if_pos m0, if_pos m1]
    have b0 := rd_bound c hb (Int.tmod s (c.length : Int))
    have b1 := rd_bound c hb (Int.tmod (s + 1) (c.length : Int))
    generalize rd c (Int.tmod s (c.length : Int)) = u at b0 ⊢
    generalize rd c (Int.tmod (s + 1) (c.length : Int)) = v at b1 ⊢
    generalize Int.tdiv s (c.length : Int) = q at d0 d1 ⊢
    have w1 : wrap64 u = u := w64 (by omega) (by omega)
    have w2 : wrap64 v = v := w64 (by omega) (by omega)
    have w3 : wrap64 q = q := w64 (by omega) (by omega)
    have w4 : wrap64 (q * 37) = q * 37 := w64 (by omega) (by omega)
    have w5 : wrap64 (u + q * 37) = u + q * 37 := w64 (by omega) (by omega)
    have w6 : wrap64 ((u + q * 37) * 251) = (u + q * 37) * 251 := w64 (by omega) (by omega)
    have w7 : wrap64 (v * 13) = v * 13 := w64 (by omega) (by omega)
    have w8 : wrap64 ((u + q * 37) * 251 + v * 13) = (u + q * 37) * 251 + v * 13 := w64 (by omega) (by omega)
    have w9 : wrap64 ((u + q * 37) * 251 + v * 13 + s) = (u + q * 37) * 251 + v * 13 + s := w64 (by omega) (by omega)
    simp only [w1, w2, w3, w4, w5, w6, w7, w8, w9]
    by_cases h200 : n > 200
    · rw [if_pos h200, if_pos p0, if_pos p1]
      exact fin _ (by omega)
    · rw [if_neg h200]
      exact fin _ (by omega)
theorem pick_ok (c : List Int) (hb : bytesL c) (hl : c.length ≤ 2000000) (s : Int) (h0 : 0 ≤ s) (h1 : s ≤ 100000000000000) (l : List Int) (hn : 1 ≤ l.length) : ∃ v, v ∈ l ∧ spec_l1Pick.f c s l = some (v, s + 1) := by
  obtain ⟨r, hr, p0, p1, _⟩ := next_ok c hb hl s h0 h1 (l.length : Int)
  have p1 := p1 (by omega)
  refine ⟨rd l r, ?_, ?_⟩
  · rw [rd_get l r p0 p1]
    exact List.getElem_mem _
  · unfold spec_l1Pick.f
    rw [hr]
    simp only [Option.bind_some]
    rw [if_pos p0, if_pos p1]
theorem bytesL_mod (l : List Int) (h : bytesL l) (v : Int) : bytesL (l ++ [v % 256]) := fun x hx => by
  rcases List.mem_append.1 hx with h1 | h1
  · exact h x h1
  · have := List.mem_singleton.1 h1; omega
theorem some_loop (c : List Int) (hb : bytesL c) (hl : c.length ≤ 2000000) : ∀ (n : Nat) (acc : List Int) (s : Int), bytesL acc → acc.length + n ≤ 2000000 → 0 ≤ s → s + n ≤ 100000000000000 →
    ∃ r, Ev (fun k => spec_l3Some.l0 k acc (n : Int) c s) (r, s + n) ∧ r.length = acc.length + n ∧ bytesL r := by
  intro n
  induction n with
  | zero => intro acc s ha h1 h2 h3; exact ⟨acc, Ev.step (fun k => spec_l3Some.l0.eq_2 ..) (Ev.neg (by omega) (Ev.eq (Ev.now _) (by simp))), by simp, ha⟩
  | succ n ih =>
    intro acc s ha h1 h2 h3
    obtain ⟨v, hv, _⟩ := next_ok c hb hl s h2 (by omega) 256
    obtain ⟨r, hr, hlen, hbr⟩ := ih (acc ++ [v % 256]) (s + 1) (bytesL_mod acc ha v) (by simp; omega) (by omega) (by omega)
    refine ⟨r, Ev.step (fun k => spec_l3Some.l0.eq_2 ..) (Ev.pos (by omega) (Ev.bind (Ev.is hv) (Ev.pos (by omega) ?_))), by rw [hlen]; simp; omega, hbr⟩
    rw [w64 (by omega) (by omega), show (((n + 1 : Nat) : Int) - 1) = (n : Int) by omega]
    exact Ev.eq hr (by rw [Prod.mk.injEq]; exact ⟨rfl, by omega⟩)
theorem some_ok (c : List Int) (hb : bytesL c) (hl : c.length ≤ 2000000) (s : Int) (h0 : 0 ≤ s) (h1 : s ≤ 10000000000000) : ∃ r s', Ev (fun k => spec_l3Some.f k c s) (r, s') ∧ s ≤ s' ∧ s' ≤ s + 600 ∧ r.length ≤ 501 ∧ bytesL r := by
  obtain ⟨a, ha, a0, a1, _⟩ := next_ok c hb hl s h0 (by omega) 9
  obtain ⟨b, hb', b0, b1, _⟩ := next_ok c hb hl (s + 1) (by omega) (by omega) 9
  obtain ⟨d, hd, d0, d1, _⟩ := next_ok c hb hl (s + 1 + 1) (by omega) (by omega) 9
  have a1 := a1 (by omega)
  have b1 := b1 (by omega)
  have d1 := d1 (by omega)
  obtain ⟨v, hv, hp⟩ := pick_ok c hb hl (s + 1 + 1 + 1) (by omega) (by omega) [wrap64 (1 + a), wrap64 (1 + b), wrap64 (1 + d), 0, 500, 501] (by simp)
  have hv2 : 0 ≤ v ∧ v ≤ 501 := by
    rw [w64 (x := 1 + a) (by omega) (by omega), w64 (x := 1 + b) (by omega) (by omega), w64 (x := 1 + d) (by omega) (by omega)] at hv
    simp only [List.mem_cons, List.not_mem_nil, or_false] at hv
    omega
  obtain ⟨n, hn⟩ : ∃ n : Nat, v = (n : Int) := ⟨v.toNat, by omega⟩
  obtain ⟨r, hr, hlen, hbr⟩ := some_loop c hb hl n [] (s + 1 + 1 + 1 + 1) (fun x hx => by cases hx) (by simp; omega) (by omega) (by omega)
  refine ⟨r, s + 1 + 1 + 1 + 1 + n, ?_, by omega, by omega, by simp at hlen; omega, hbr⟩
  unfold spec_l3Some.f
  exact Ev.bind (Ev.is ha) (Ev.bind (Ev.is hb') (Ev.bind (Ev.is hd) (Ev.bind (Ev.is hp) (by rw [hn]; exact hr))))
theorem lwBig_eq (c : List Int) : laws_lwBig.f c = some (decide ((c.length : Int) > 1048576)) := rfl
theorem lwAt_ok (c : List Int) (hb : bytesL c) (n : Int) (hn : 1 ≤ n) : ∃ v, laws_lwAt.f c 1 n = some v ∧ 0 ≤ v ∧ v < n := by
  unfold laws_lwAt.f
  by_cases h1 : n ≤ 1
  · exact ⟨0, if_pos h1, by omega, by omega⟩
  rw [if_neg h1]
  have fin : ∀ x : Int, 0 ≤ x → ∃ v, (if n = 0 then none else some (Int.tmod x n)) = some v ∧ 0 ≤ v ∧ v < n := fun x hx =>
    ⟨Int.tmod x n, if_neg (by omega), Int.tmod_nonneg n hx, Int.tmod_lt_of_pos x (by omega)⟩
  by_cases hk : (c.length : Int) = 0
  · rw [if_pos hk]
    exact fin _ (by rw [w64 (x := 1 * 7) (by decide) (by decide)]; decide)
  rw [if_neg hk, show wrap64 (1 + 1) = 2 from (w64 (x := 1 + 1) (by decide) (by decide)).trans rfl]
  have m0 := Int.tmod_nonneg (c.length : Int) (show (0 : Int) ≤ 1 by decide)
  have m1 := Int.tmod_lt_of_pos 1 (show 0 < (c.length : Int) by omega)
  have p0 := Int.tmod_nonneg (c.length : Int) (show (0 : Int) ≤ 2 by decide)
  have p1 := Int.tmod_lt_of_pos 2 (show 0 < (c.length : Int) by omega)
  have d0 : 0 ≤ Int.tdiv 1 (c.length : Int) := Int.tdiv_nonneg (by decide) (by omega)
  have d1 : Int.tdiv 1 (c.length : Int) ≤ 1 := by
    rw [Int.tdiv_eq_ediv_of_nonneg (by decide)]
    exact Int.ediv_le_self _ (by decide)
  rw [if_pos m0, if_pos m1, if_pos p0, if_pos p1]
  have b0 := rd_bound c hb (Int.tmod 1 (c.length : Int))
  have b1 := rd_bound c hb (Int.tmod 2 (c.length : Int))
  generalize rd c (Int.tmod 1 (c.length : Int)) = u at b0 ⊢
  generalize rd c (Int.tmod 2 (c.length : Int)) = v at b1 ⊢
  generalize Int.tdiv 1 (c.length : Int) = q at d0 d1 ⊢
  have w1 : wrap64 u = u := w64 (by omega) (by omega)
  have w2 : wrap64 v = v := w64 (by omega) (by omega)
  have w3 : wrap64 q = q := w64 (by omega) (by omega)
  have w4 : wrap64 (q * 3) = q * 3 := w64 (by omega) (by omega)
  have w5 : wrap64 (u + q * 3) = u + q * 3 := w64 (by omega) (by omega)
  have w6 : wrap64 ((u + q * 3) * 251) = (u + q * 3) * 251 := w64 (by omega) (by omega)
  have w7 : wrap64 ((u + q * 3) * 251 + v) = (u + q * 3) * 251 + v := w64 (by omega) (by omega)
  simp only [w1, w2, w3, w4, w5, w6, w7]
  by_cases h200 : n > 200
  · rw [if_pos h200]
    exact fin _ (by omega)
  · rw [if_neg h200]
    exact fin _ (by omega)
def okRb (L : List (List Int)) : Prop := ∀ d ∈ L, (1 ≤ d.length ∧ d.length ≤ 500) ∧ bytesL d
theorem bytesL_frame (d : List Int) (h : bytesL d) : bytesL (frameL d) := fun x hx => by
  rw [frameL_cons] at hx
  simp only [List.mem_cons] at hx
  rcases hx with h1 | h1 | h1 | h1 | h1
  · omega
  · omega
  · omega
  · omega
  · exact h x h1
theorem bytesL_flat (L : List (List Int)) (h : okRb L) : bytesL (flat L) := by
  induction L with
  | nil => exact fun x hx => by cases hx
  | cons d r ih =>
    rw [flat_cons]
    intro x hx
    rcases List.mem_append.1 hx with h1 | h1
    · exact bytesL_frame d (h d List.mem_cons_self).2 x h1
    · exact ih (fun y hy => h y (List.mem_cons_of_mem _ hy)) x h1
theorem draw_frame (c : List Int) (hb : bytesL c) (hl : c.length ≤ 2000000) : ∃ d, Ev (fun k => spec_DrawFrameRecord.f k c) d ∧ d.length ≤ 501 ∧ bytesL d := by
  obtain ⟨d, s, h, _, _, h3, h4⟩ := some_ok c hb hl 0 (by decide) (by decide)
  refine ⟨d, ?_, h3, h4⟩
  unfold spec_DrawFrameRecord.f spec_l1Source.f
  exact Ev.let (Ev.bind h (Ev.now _))
theorem frames_loop (c : List Int) (hb : bytesL c) (hl : c.length ≤ 1048576) (fin : ∀ L, okRb L → L.length ≤ 4 → Ev (fun k => laws_FnFrames.l0 k c (flat L) L 4) true) : ∀ (n : Nat) (L : List (List Int)), n ≤ 4 → okRb L → L.length + n ≤ 4 → Ev (fun k => laws_FnFrames.l0 k c (flat L) L (4 - (n : Int))) true := by
  intro n
  induction n with
  | zero => intro L _ h1 h2; exact fin L h1 h2
  | succ n ih =>
    intro L hn h1 h2
    have hx : bytesL ([4 - ((n + 1 : Nat) : Int)] ++ c) := fun x hx => by
      rcases List.mem_append.1 hx with h | h
      · have := List.mem_singleton.1 h; omega
      · exact hb x h
    obtain ⟨d, hd, hdl, hdb⟩ := draw_frame _ hx (by simp; omega)
    have hnext : (4 - ((n + 1 : Nat) : Int) + 1) % 256 = 4 - (n : Int) := by omega
    have ht := totF_le L (fun d hd => (h1 d hd).1)
    refine Ev.step (fun k => laws_FnFrames.l0.eq_2 ..) (Ev.pos (by omega) (Ev.let (Ev.pos (by simp; omega) (Ev.bind hd (Ev.bind (impl_FrameRecord_ev d hdb) ?_)))))
    by_cases hr : 1 ≤ d.length ∧ d.length ≤ 500
    · have hf : frameR d = (0, frameL d) := by unfold frameR; rw [if_pos hr]
      rw [hf, hnext]
      refine Ev.pos rfl (Ev.pos ?_ (Ev.pos ?_ ?_))
      · show (flat L).length + (frameL d).length < 140737488355328
        rw [flat_len, frameL_len]; omega
      · omega
      · show Ev (fun k => laws_FnFrames.l0 k c (flat L ++ frameL d) (L ++ [d]) (4 - (n : Int))) true
        rw [← flat_add]
        refine ih (L ++ [d]) (by omega) (fun x hx => ?_) (by simp; omega)
        rcases List.mem_append.1 hx with h | h
        · exact h1 x h
        · rw [List.mem_singleton.1 h]; exact ⟨hr, hdb⟩
    · have hf : frameR d = (2, []) := by unfold frameR; rw [if_neg hr]
      rw [hf, hnext]
      refine Ev.neg (by decide) (Ev.bind (spec_FrameRecord_ev d hdb) ?_)
      rw [hf]
      exact Ev.pos rfl (ih L (by omega) h1 (by omega))
theorem frames_end (c : List Int) (hb : bytesL c) (L : List (List Int)) (h1 : okRb L) (h2 : L.length ≤ 4) : Ev (fun k => laws_FnFrames.l0 k c (flat L) L 4) true := by
  have hok : okR L := fun d hd => (h1 d hd).1
  have ht := totF_le L hok
  have hfl := flat_len L
  obtain ⟨hrec, huse⟩ := records_flat L hok
  have hbf := bytesL_flat L h1
  obtain ⟨cut, hcut, c0, c1⟩ := lwAt_ok c hb ((flat L).length + 1) (by omega)
  obtain ⟨m, hm, hrc, hi⟩ := cut_flat L cut.toNat hok
  have e1 := impl_UnframeAll_ev (flat L) hbf (by omega)
  have hcl : ((flat L).take cut.toNat).length ≤ cut.toNat := by rw [List.length_take]; exact Nat.min_le_left _ _
  have e2 := impl_UnframeAll_ev ((flat L).take cut.toNat) (fun x hx => hbf x (List.mem_of_mem_take hx)) (by omega)
  have hu := usedB_le' ((flat L).take cut.toNat)
  rw [hrec, huse] at e1
  rw [hrc] at e2
  have hml : (L.take m).length = m := by rw [List.length_take]; omega
  generalize usedB ((flat L).take cut.toNat) = U at e2 hu
  refine Ev.step (fun k => laws_FnFrames.l0.eq_2 ..) (Ev.neg (by decide) ?_)
  rw [w64 (x := ((flat L).length : Int) + 1) (by omega) (by omega)]
  refine Ev.bind (Ev.is hcut) (Ev.bind e1 (Ev.pos c0 (Ev.pos (by omega) (Ev.bind e2 (Ev.pos rfl (Ev.pos rfl (Ev.pos rfl (Ev.pos ?_ (Ev.neg ?_ (Ev.neg ?_ ?_))))))))))
  · show ((totF L : Nat) : Int) = ((flat L).length : Int); rw [hfl]
  · show ¬ ((L.take m).length : Int) > (L.length : Int); omega
  · show ¬ (U : Int) > cut; omega
  · show Ev (fun k => laws_FnFrames.l1 k L cut 0 0 0 (totF L : Int) L 0 (U : Int) (L.take m)) true
    refine Ev.upto1 (fun k (s : Int) i => laws_FnFrames.l1 k L cut s i 0 (totF L : Int) L 0 (U : Int) (L.take m)) L.length (by omega) (fun i s => s = (totF (L.take i.toNat) : Int)) true (fun i s i0 i1 hs => .inl ⟨(totF (L.take (i + 1).toNat) : Int), rfl, fun h => ?_⟩) (fun s _ => Ev.step (fun k => laws_FnFrames.l1.eq_2 ..) (Ev.neg (by omega) (Ev.now _))) 0 0 (by omega) (by omega) rfl
    have hlt : i.toNat < L.length := by omega
    have hd : rd_L2 L i = L[i.toNat] := by unfold rd_L2; rw [List.getD_eq_getElem?_getD, List.getElem?_eq_getElem hlt]; rfl
    have hst := totF_take L i.toNat hlt
    have hs1 : (i + 1).toNat = i.toNat + 1 := by omega
    have hb1 := totF_take_le L hok i.toNat
    have hdl := (hok _ (List.getElem_mem hlt)).2
    have hii := hi i.toNat hlt
    have hn : wrap64 (wrap64 (s + ((rd_L2 L i).length : Int)) + 4) = (totF (L.take (i + 1).toNat) : Int) := by
      rw [hd, hs1, hst, hs, w64 (x := (totF (L.take i.toNat) : Int) + _) (by omega) (by omega), w64 (by omega) (by omega)]
      omega
    have hcmp : ¬ ((decide ((totF (L.take (i + 1).toNat) : Int) ≤ cut)) != (decide (i < ((L.take m).length : Int)))) = true := by
      have : ((totF (L.take (i + 1).toNat) : Int) ≤ cut) ↔ (i < ((L.take m).length : Int)) := by rw [hs1, hml]; omega
      simp [this]
    refine Ev.step (fun k => laws_FnFrames.l1.eq_2 ..) (Ev.pos i1 (Ev.pos i0 (Ev.pos i1 (Ev.pos rfl ?_))))
    rw [hn]
    by_cases him : i < ((L.take m).length : Int)
    · refine Ev.pos him (Ev.pos ?_ (Ev.neg hcmp h))
      have : rd_L2 (L.take m) i = rd_L2 L i := by unfold rd_L2; rw [List.getD_eq_getElem?_getD, List.getD_eq_getElem?_getD, List.getElem?_take_of_lt (by omega)]
      rw [this]
    · exact Ev.neg him (Ev.neg hcmp h)
theorem FnFrames : ∀ (l0 : List Int), okL (fun n => (Lit.int .u8 n).wf = true) l0 → ∃ k, laws_FnFrames.f k l0 = some true := by
  intro c hc
  have hb : bytesL c := fun x hx => wfU8 (hc.2 x hx)
  refine Ev.rounds (r := true) ?_
  unfold laws_FnFrames.f
  refine Ev.bind (Ev.is (lwBig_eq c)) (Ev.ite (fun _ => Ev.now _) (fun hbig => ?_))
  have hl : c.length ≤ 1048576 := by simp at hbig; omega
  exact frames_loop c hb hl (fun L h1 h2 => frames_end c hb L h1 h2) 4 [] (by omega) (fun x hx => by cases hx) (by simp)

end Go.Proofs.Ytcdpiejcdeedoaa.Pure
