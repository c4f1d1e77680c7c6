/- FnTables, the pure statement: what is merged of any drawn tables is a right table that has a row for each Key and Version of them, of the first table the very rows, and no more. No conditions. -/
import Derived.Test.YtdhlcnlcpjlliaaPFnTablesx15
import Derived.Test.YtdhlcnlcpjlliaaOFnTables
namespace Go.Proofs.Ytdhlcnlcpjlliaa.Pure
open Go.RowKit Go.Proofs.Ytdhlcnlcpjlliaa.PFnTables Go.Proofs.YtdhlcnlcpjlliaaW.PrintWords Go.Proofs.YtdhlcnlcpjlliaaW.PrintLast Go.Proofs.YtdhlcnlcpjlliaaW.PrintMore Go.Proofs.Ytdhlcnlcpjlliaa.Opens
set_option linter.unusedVariables false
set_option linter.unusedSimpArgs false
/-! ### words of this text's own -/
theorem w64 {x : Int} (h0 : -9223372036854775808 ≤ x) (h1 : x ≤ 9223372036854775807) : wrap64 x = x := by
  unfold wrap64
  omega
theorem wfU8 {x : Int} (h : (Lit.int .u8 x).wf = true) : 0 ≤ x ∧ x < 256 := by
  simp [Lit.wf, IntKind.min, IntKind.max, IntKind.signed, IntKind.bits] at h
  omega
theorem wfI64 {x : Int} (h : (Lit.int .i64 x).wf = true) : -9223372036854775808 ≤ x ∧ x ≤ 9223372036854775807 := by
  simp [Lit.wf, IntKind.min, IntKind.max, IntKind.signed, IntKind.bits] at h
  omega
section
variable {α β σ : Type}
theorem Ev.ite {g f : Nat → Option α} {c : Prop} [Decidable c] {r : α} (ht : c → Ev g r) (hf : ¬ c → Ev f r) : Ev (fun k => if c then g k else f k) r := by
  by_cases h : c
  · simp only [if_pos h]; exact ht h
  · simp only [if_neg h]; exact hf h
theorem Ev.pos {g f : Nat → Option α} {c : Prop} [Decidable c] {r : α} (h : c) (ht : Ev g r) : Ev (fun k => if c then g k else f k) r := Ev.ite (fun _ => ht) (fun n => absurd h n)
theorem Ev.neg {g f : Nat → Option α} {c : Prop} [Decidable c] {r : α} (h : ¬ c) (hf : Ev f r) : Ev (fun k => if c then g k else f k) r := Ev.ite (fun y => absurd y h) (fun _ => hf)
theorem Ev.cond {g f : Nat → Option α} {c : Prop} [Decidable c] {r s : α} (ht : c → Ev g r) (hf : ¬ c → Ev f s) : Ev (fun k => if c then g k else f k) (if c then r else s) := by
  by_cases h : c
  · simp only [if_pos h]; exact ht h
  · simp only [if_neg h]; exact hf h
theorem Ev.let {f : Nat → α → Option β} {a : α} {r : β} (k : Ev (fun n => f n a) r) : Ev (fun n => (some a).bind (f n)) r := Ev.bind (Ev.now a) k
theorem Ev.is {a : Option α} {r : α} (h : a = some r) : Ev (fun _ => a) r := ⟨0, fun _ _ => h⟩
theorem Ev.eq {g : Nat → Option α} {a b : α} (h : Ev g a) (e : a = b) : Ev g b := e ▸ h
/-- A loop that counts i up to n, with a state s: what it comes to, if 'P i s' leads from round to round. -/
theorem Ev.upto (F : Nat → σ → Int → Option α) (n : Int) (hn : n ≤ 9223372036854775807) (P : Int → σ → Prop) (R : α → Prop)
    (step : ∀ i s, 0 ≤ i → i < n → P i s → (∃ s', P (i + 1) s' ∧ ∀ r, Ev (fun k => F k s' (wrap64 (i + 1))) r → Ev (fun k => F k s i) r) ∨ (∃ r, R r ∧ Ev (fun k => F k s i) r))
    (stop : ∀ s, P n s → ∃ r, R r ∧ Ev (fun k => F k s n) r) (i : Int) (s : σ) (h0 : 0 ≤ i) (h1 : i ≤ n) (hP : P i s) : ∃ r, R r ∧ Ev (fun k => F k s i) r := by
  obtain ⟨d, hd⟩ : ∃ d : Nat, n - i = d := ⟨(n - i).toNat, by omega⟩
  induction d generalizing i s with
  | zero =>
    obtain rfl : i = n := by omega
    exact stop s hP
  | succ d ih =>
    rcases step i s h0 (by omega) hP with ⟨s', hP', h⟩ | h
    · obtain ⟨r, hr, he⟩ := ih (i + 1) s' (by omega) (by omega) hP' (by omega)
      exact ⟨r, hr, h r (by rw [w64 (by omega) (by omega)]; exact he)⟩
    · exact h
/-- The same, where what it comes to is one value. -/
theorem Ev.upto1 (F : Nat → σ → Int → Option α) (n : Int) (hn : n ≤ 9223372036854775807) (P : Int → σ → Prop) (r : α)
    (step : ∀ i s, 0 ≤ i → i < n → P i s → (∃ s', P (i + 1) s' ∧ (Ev (fun k => F k s' (wrap64 (i + 1))) r → Ev (fun k => F k s i) r)) ∨ Ev (fun k => F k s i) r)
    (stop : ∀ s, P n s → Ev (fun k => F k s n) r) (i : Int) (s : σ) (h0 : 0 ≤ i) (h1 : i ≤ n) (hP : P i s) : Ev (fun k => F k s i) r := by
  obtain ⟨d, hd⟩ : ∃ d : Nat, n - i = d := ⟨(n - i).toNat, by omega⟩
  induction d generalizing i s with
  | zero =>
    obtain rfl : i = n := by omega
    exact stop s hP
  | succ d ih =>
    rcases step i s h0 (by omega) hP with ⟨s', hP', h⟩ | h
    · exact h (by rw [w64 (by omega) (by omega)]; exact ih (i + 1) s' (by omega) (by omega) hP' (by omega))
    · exact h
theorem take_set_succ (l acc : List α) (i : Nat) (v : α) (h : i < acc.length) (ht : acc.take i = l.take i) (hv : l[i]? = some v) : (acc.set i v).take (i + 1) = l.take (i + 1) := by
  rw [List.take_add_one, List.take_add_one, hv, List.getElem?_set_self h, List.take_set_of_le (Nat.le_refl _), ht]
/-- A row filled cell by cell. -/
theorem Ev.fill (F : Nat → List α → Int → Option (List α)) (l : List α) (hl : l.length ≤ 9223372036854775807)
    (step : ∀ (i : Int) s (v : α), 0 ≤ i → i < (l.length : Int) → s.length = l.length → l[i.toNat]? = some v → Ev (fun k => F k (s.set i.toNat v) (wrap64 (i + 1))) l → Ev (fun k => F k s i) l)
    (stop : ∀ s, s.length = l.length → Ev (fun k => F k s (l.length : Int)) s) (s : List α) (hs : s.length = l.length) : Ev (fun k => F k s 0) l :=
  Ev.upto1 F l.length (by omega) (fun i s => s.length = l.length ∧ s.take i.toNat = l.take i.toNat) l
    (fun i s h0 h1 ⟨hs, ht⟩ => .inl ⟨s.set i.toNat (l[i.toNat]'(by omega)), ⟨by simp [hs], by
      rw [show (i + 1).toNat = i.toNat + 1 by omega]
      exact take_set_succ l s _ _ (by omega) ht (List.getElem?_eq_getElem (by omega))⟩, step i s _ h0 h1 hs (List.getElem?_eq_getElem (by omega))⟩)
    (fun s ⟨hs, ht⟩ => by
      rw [List.take_of_length_le (by omega), List.take_of_length_le (by omega)] at ht
      have := stop s hs
      subst ht
      exact this) 0 s (by omega) (by omega) ⟨hs, by simp⟩
/-- A loop that asks of each place, and comes to the end. -/
theorem Ev.each {F : Nat → Int → Option β} {r : β} (n : Nat) (hn : (n : Int) ≤ 9223372036854775807) (step : ∀ i : Int, 0 ≤ i → i < n → Ev (fun k => F k (wrap64 (i + 1))) r → Ev (fun k => F k i) r) (stop : Ev (fun k => F k (n : Int)) r) : Ev (fun k => F k 0) r :=
  Ev.upto1 (fun k (_ : Unit) i => F k i) n hn (fun _ _ => True) r (fun i _ h0 h1 _ => .inl ⟨(), trivial, step i h0 h1⟩) (fun _ _ => stop) 0 () (by omega) (by omega) trivial
end
theorem rd_get (l : List Int) (i : Int) (h0 : 0 ≤ i) (h1 : i < (l.length : Int)) : rd l i = l[i.toNat]'(by omega) := by
  unfold rd
  rw [List.getD_eq_getElem?_getD, List.getElem?_eq_getElem (by omega)]
  rfl
theorem rd_of {l : List Int} {i : Int} {v : Int} (h : l[i.toNat]? = some v) : rd l i = v := by
  unfold rd
  rw [List.getD_eq_getElem?_getD, h]
  rfl
theorem drop_cons_at {α : Type} (l : List α) (i : Nat) (h : i < l.length) : l.drop i = l[i] :: l.drop (i + 1) := List.drop_eq_getElem_cons h
/-! ### a stable order: what a sort by blocks and merges keeps -/
/-- A strict order, of which what stands level is one class. -/
structure Swo {α : Type} (lt : α → α → Bool) : Prop where
  asymm : ∀ a b, lt a b = true → lt b a = false
  ntrans : ∀ a b c, lt a b = false → lt b c = false → lt a c = false
namespace Stab
variable {α : Type} {lt : α → α → Bool}
theorem irrefl (h : Swo lt) (a : α) : lt a a = false := by
  cases e : lt a a with
  | false => rfl
  | true => have := h.asymm a a e; rw [e] at this; exact this
theorem trans (h : Swo lt) {a b c : α} (h1 : lt a b = true) (h2 : lt b c = true) : lt a c = true := by
  cases e : lt a c with
  | true => rfl
  | false => have := h.ntrans a c b e (h.asymm b c h2); rw [h1] at this; cases this
/-- a stands ahead, b no further ahead than c. -/
theorem lt_le (h : Swo lt) {a b c : α} (h1 : lt a b = true) (h2 : lt c b = false) : lt a c = true := by
  cases e : lt a c with
  | true => rfl
  | false => have := h.ntrans a c b e h2; rw [h1] at this; cases this
theorem le_lt (h : Swo lt) {a b c : α} (h1 : lt b a = false) (h2 : lt b c = true) : lt a c = true := by
  cases e : lt a c with
  | true => rfl
  | false => have := h.ntrans b a c h1 e; rw [h2] at this; cases this
/-- Of one class. -/
def lev (lt : α → α → Bool) (c x : α) : Bool := !lt x c && !lt c x
theorem lev_iff (c x : α) : lev lt c x = true ↔ lt x c = false ∧ lt c x = false := by simp [lev]
/-- Rising (what stands level may stand in any order). -/
def Up (lt : α → α → Bool) (xs : List α) : Prop := xs.Pairwise (fun a b => lt b a = false)
/-- Class for class the same, in the same order. -/
def Same (lt : α → α → Bool) (xs ys : List α) : Prop := ∀ c, xs.filter (lev lt c) = ys.filter (lev lt c)
theorem Same.refl (xs : List α) : Same lt xs xs := fun _ => rfl
theorem Same.symm {xs ys : List α} (h : Same lt xs ys) : Same lt ys xs := fun c => (h c).symm
theorem Same.trans {xs ys zs : List α} (h : Same lt xs ys) (k : Same lt ys zs) : Same lt xs zs := fun c => (h c).trans (k c)
theorem Same.append {xs ys xs' ys' : List α} (h : Same lt xs ys) (k : Same lt xs' ys') : Same lt (xs ++ xs') (ys ++ ys') := fun c => by
  rw [List.filter_append, List.filter_append, h c, k c]
theorem Same.mem (h0 : Swo lt) {xs ys : List α} (h : Same lt xs ys) (x : α) : x ∈ xs ↔ x ∈ ys := by
  have hx : lev lt x x = true := (lev_iff x x).2 ⟨irrefl h0 x, irrefl h0 x⟩
  have e : (x ∈ xs.filter (lev lt x)) = (x ∈ ys.filter (lev lt x)) := by rw [h x]
  simp only [List.mem_filter, hx, and_true] at e
  exact Iff.of_eq e
/-- Two blocks change places: what stood behind stands ahead, in the order's own words. -/
theorem Same.swap (h0 : Swo lt) {us vs : List α} (h : ∀ u ∈ us, ∀ v ∈ vs, lt v u = true) : Same lt (us ++ vs) (vs ++ us) := fun c => by
  rw [List.filter_append, List.filter_append]
  by_cases hu : ∃ u ∈ us, lev lt c u = true
  · obtain ⟨u, hu, hc⟩ := hu
    have hv : vs.filter (lev lt c) = [] := by
      rw [List.filter_eq_nil_iff]
      intro v hv he
      have h1 := (lev_iff c u).1 hc
      have h2 := (lev_iff c v).1 he
      have h3 := h0.ntrans v c u h2.1 h1.2
      rw [h u hu v hv] at h3
      cases h3
    rw [hv, List.append_nil, List.nil_append]
  · have hn : us.filter (lev lt c) = [] := by
      rw [List.filter_eq_nil_iff]
      intro u hu' he
      exact hu ⟨u, hu', he⟩
    rw [hn, List.append_nil, List.nil_append]
theorem up_nil : Up lt ([] : List α) := List.Pairwise.nil
theorem up_one (a : α) : Up lt [a] := List.pairwise_singleton _ _
theorem up_append {xs ys : List α} : Up lt (xs ++ ys) ↔ Up lt xs ∧ Up lt ys ∧ ∀ a ∈ xs, ∀ b ∈ ys, lt b a = false := List.pairwise_append
theorem up_short (xs : List α) (h : xs.length ≤ 1) : Up lt xs := by
  cases xs with
  | nil => exact up_nil
  | cons a r => cases r with
    | nil => exact up_one a
    | cons b r => simp at h
/-- The places of a rising row are in order. -/
theorem up_at (h0 : Swo lt) {xs : List α} (h : Up lt xs) {i j : Nat} {a b : α} (hi : xs[i]? = some a) (hj : xs[j]? = some b) (hij : i ≤ j) : lt b a = false := by
  by_cases he : i = j
  · subst he
    rw [hi] at hj
    obtain rfl := Option.some.inj hj
    exact irrefl h0 a
  · obtain ⟨h1, rfl⟩ := List.getElem?_eq_some_iff.1 hi
    obtain ⟨h2, rfl⟩ := List.getElem?_eq_some_iff.1 hj
    exact List.pairwise_iff_getElem.1 h i j h1 h2 (by omega)
/-! #### a search by halves: the first place where a test is true -/
def half (p : Nat → Bool) : Nat → Nat → Nat → Nat
  | 0, i, _ => i
  | n + 1, i, j => if i < j then (if p ((i + j) / 2) = true then half p n ((i + j) / 2 + 1) j else half p n i ((i + j) / 2)) else i
theorem half_spec (p : Nat → Bool) (lo hi : Nat) (down : ∀ a b, lo ≤ a → a ≤ b → b < hi → p b = true → p a = true) : ∀ n i j, j - i ≤ n → lo ≤ i → i ≤ j → j ≤ hi → (∀ a, lo ≤ a → a < i → p a = true) → (∀ a, j ≤ a → a < hi → p a = false) →
    lo ≤ half p n i j ∧ half p n i j ≤ hi ∧ (∀ a, lo ≤ a → a < half p n i j → p a = true) ∧ (∀ a, half p n i j ≤ a → a < hi → p a = false) := by
  intro n
  induction n with
  | zero =>
    intro i j hn hl hij hj h1 h2
    have : i = j := by omega
    subst this
    exact ⟨hl, hj, h1, h2⟩
  | succ n ih =>
    intro i j hn hl hij hj h1 h2
    unfold half
    by_cases hc : i < j
    · rw [if_pos hc]
      have hm1 : i ≤ (i + j) / 2 := by omega
      have hm2 : (i + j) / 2 < j := by omega
      cases hp : p ((i + j) / 2) with
      | true =>
        rw [if_pos rfl]
        exact ih _ _ (by omega) (by omega) (by omega) hj (fun a ha hb => down a ((i + j) / 2) ha (by omega) (by omega) hp) h2
      | false =>
        rw [if_neg (by simp)]
        refine ih _ _ (by omega) hl hm1 (by omega) h1 (fun a ha hb => ?_)
        cases hq : p a with
        | false => rfl
        | true => have := down ((i + j) / 2) a (by omega) ha hb hq; rw [hp] at this; cases this
    · rw [if_neg hc]
      have : i = j := by omega
      subst this
      exact ⟨hl, hj, h1, h2⟩
end Stab
namespace Stab
variable {α : Type} {lt : α → α → Bool}
/-- What a merge of two rising rows owes. -/
def Merged (lt : α → α → Bool) (us vs ws : List α) : Prop := Up lt ws ∧ Same lt ws (us ++ vs)
theorem Merged.nil_left {vs : List α} (h : Up lt vs) : Merged lt [] vs vs := ⟨h, Same.refl _⟩
theorem Merged.nil_right {us : List α} (h : Up lt us) : Merged lt us [] us := ⟨h, by rw [List.append_nil]; exact Same.refl _⟩
/-- Both halves merged by themselves, the inner blocks turned round. -/
theorem Merged.halves (h0 : Swo lt) {u1 u2 v1 v2 l r : List α} (hu : Up lt (u1 ++ u2)) (hv : Up lt (v1 ++ v2)) (h1 : ∀ u ∈ u2, ∀ v ∈ v1, lt v u = true) (h2 : ∀ u ∈ u1, ∀ v ∈ v2, lt v u = false)
    (hl : Merged lt u1 v1 l) (hr : Merged lt u2 v2 r) : Merged lt (u1 ++ u2) (v1 ++ v2) (l ++ r) := by
  obtain ⟨hul, hsl⟩ := hl
  obtain ⟨hur, hsr⟩ := hr
  obtain ⟨_, _, hu12⟩ := up_append.1 hu
  obtain ⟨_, _, hv12⟩ := up_append.1 hv
  refine ⟨up_append.2 ⟨hul, hur, fun a ha b hb => ?_⟩, ?_⟩
  · rcases List.mem_append.1 ((hsl.mem h0 a).1 ha) with ha | ha <;> rcases List.mem_append.1 ((hsr.mem h0 b).1 hb) with hb | hb
    · exact hu12 a ha b hb
    · exact h2 a ha b hb
    · exact h0.asymm _ _ (h1 b hb a ha)
    · exact hv12 a ha b hb
  · have e1 : Same lt (l ++ r) ((u1 ++ v1) ++ (u2 ++ v2)) := hsl.append hsr
    have e2 : Same lt ((u1 ++ v1) ++ (u2 ++ v2)) ((u1 ++ u2) ++ (v1 ++ v2)) := by
      have : Same lt (v1 ++ u2) (u2 ++ v1) := (Same.swap h0 h1).symm
      have e3 := ((Same.refl u1).append this).append (Same.refl v2)
      simpa only [List.append_assoc] using e3
    exact e1.trans e2
/-- One element put into a rising row. -/
theorem Merged.one_left (h0 : Swo lt) {x : α} {v1 v2 : List α} (hv : Up lt (v1 ++ v2)) (h1 : ∀ v ∈ v1, lt v x = true) (h2 : ∀ v ∈ v2, lt v x = false) : Merged lt [x] (v1 ++ v2) (v1 ++ x :: v2) := by
  obtain ⟨q1, q2, q3⟩ := up_append.1 hv
  have := Merged.halves (u1 := []) (u2 := [x]) (v1 := v1) (v2 := v2) (l := v1) (r := x :: v2) h0 (up_one x) hv (fun u hu v hv => by obtain rfl := List.mem_singleton.1 hu; exact h1 v hv) (fun u hu => by cases hu)
    (Merged.nil_left q1) ⟨List.pairwise_cons.2 ⟨h2, q2⟩, Same.refl _⟩
  exact this
theorem Merged.one_right (h0 : Swo lt) {y : α} {u1 u2 : List α} (hu : Up lt (u1 ++ u2)) (h1 : ∀ u ∈ u1, lt y u = false) (h2 : ∀ u ∈ u2, lt y u = true) : Merged lt (u1 ++ u2) [y] (u1 ++ y :: u2) := by
  obtain ⟨q1, q2, q3⟩ := up_append.1 hu
  refine ⟨up_append.2 ⟨q1, List.pairwise_cons.2 ⟨fun a ha => h0.asymm _ _ (h2 a ha), q2⟩, fun a ha b hb => ?_⟩, ?_⟩
  · rcases List.mem_cons.1 hb with rfl | hb
    · exact h1 a ha
    · exact q3 a ha b hb
  · have e : Same lt ([y] ++ u2) (u2 ++ [y]) := (Same.swap h0 (fun u hu v hv => by obtain rfl := List.mem_singleton.1 hv; exact h2 u hu)).symm
    have := (Same.refl (lt := lt) u1).append e
    simpa only [List.append_assoc, List.singleton_append] using this
/-- Blocks of n, each rising. -/
def Blocks (lt : α → α → Bool) (n : Nat) (xs : List α) : Prop := ∀ t, Up lt ((xs.drop (t * n)).take n)
theorem Blocks.whole {n : Nat} {xs : List α} (h : Blocks lt n xs) (hn : xs.length ≤ n) : Up lt xs := by
  have := h 0
  rw [Nat.zero_mul, List.drop_zero, List.take_of_length_le hn] at this
  exact this
theorem blocks_nil (n : Nat) : Blocks lt n ([] : List α) := fun t => by simp [up_nil]
theorem Blocks.cons {n : Nat} {xs ys : List α} (hl : xs.length = n) (hx : Up lt xs) (hy : Blocks lt n ys) : Blocks lt n (xs ++ ys) := fun t => by
  cases t with
  | zero => rw [Nat.zero_mul, List.drop_zero, ← hl, List.take_left]; exact hx
  | succ t => rw [show (t + 1) * n = xs.length + t * n by rw [Nat.succ_mul, hl]; omega, List.drop_length_add_append]; exact hy t
theorem Blocks.tail {n : Nat} {xs ys : List α} (hl : xs.length = n) (h : Blocks lt n (xs ++ ys)) : Blocks lt n ys := fun t => by
  have := h (t + 1)
  rw [show (t + 1) * n = xs.length + t * n by rw [Nat.succ_mul, hl]; omega, List.drop_length_add_append] at this
  exact this
theorem Blocks.head {n : Nat} {xs : List α} (h : Blocks lt n xs) : Up lt (xs.take n) := by
  have := h 0
  rw [Nat.zero_mul, List.drop_zero] at this
  exact this
theorem Blocks.short {n : Nat} {xs : List α} (hl : xs.length ≤ n) (h : Up lt xs) : Blocks lt n xs := fun t => by
  cases t with
  | zero => rw [Nat.zero_mul, List.drop_zero, List.take_of_length_le hl]; exact h
  | succ t => rw [List.drop_of_length_le (by rw [Nat.succ_mul]; omega), List.take_nil]; exact up_nil
theorem Blocks.drop {n : Nat} {xs : List α} (h : Blocks lt n xs) : Blocks lt n (xs.drop n) := fun t => by
  rw [List.drop_drop, show n + t * n = (t + 1) * n by rw [Nat.succ_mul]; omega]
  exact h (t + 1)
/-- Finished blocks, then more. -/
def Front (lt : α → α → Bool) (n : Nat) (ds : List α) : Prop := (∃ t, ds.length = t * n) ∧ Blocks lt n ds
theorem front_nil (n : Nat) : Front lt n ([] : List α) := ⟨⟨0, by simp⟩, blocks_nil n⟩
theorem Front.blocks {n : Nat} {ds ys : List α} (h : Front lt n ds) (hy : Blocks lt n ys) : Blocks lt n (ds ++ ys) := by
  obtain ⟨⟨t, ht⟩, hb⟩ := h
  induction t generalizing ds with
  | zero =>
    have : ds = [] := List.length_eq_zero_iff.1 (by rw [ht]; simp)
    subst this
    exact hy
  | succ t ih =>
    have hl : (ds.take n).length = n := by rw [List.length_take, ht, Nat.succ_mul]; omega
    have e : ds.take n ++ ds.drop n = ds := List.take_append_drop n ds
    have h2 := ih (ds := ds.drop n) hb.drop (by rw [List.length_drop, ht, Nat.succ_mul]; omega)
    rw [← e, List.append_assoc]
    exact Blocks.cons hl hb.head h2
theorem Front.snoc {n : Nat} {ds xs : List α} (h : Front lt n ds) (hl : xs.length = n) (hx : Up lt xs) : Front lt n (ds ++ xs) := by
  refine ⟨?_, h.blocks (Blocks.short (by omega) hx)⟩
  obtain ⟨⟨t, ht⟩, _⟩ := h
  exact ⟨t + 1, by rw [List.length_append, ht, hl, Nat.succ_mul]⟩
/-! #### the first of each class -/
theorem Same.first {xs ys : List α} (h : Same lt xs ys) (c : α) : (xs.filter (lev lt c)).head? = (ys.filter (lev lt c)).head? := by rw [h c]
/-- Two rows, each in strict order, with the same elements are one row. -/
theorem strict_ext (h0 : Swo lt) : ∀ xs ys : List α, xs.Pairwise (fun a b => lt a b = true) → ys.Pairwise (fun a b => lt a b = true) → (∀ x, x ∈ xs ↔ x ∈ ys) → xs = ys := by
  intro xs
  induction xs with
  | nil =>
    intro ys _ _ h
    cases ys with
    | nil => rfl
    | cons y r => exact absurd ((h y).2 List.mem_cons_self) (by simp)
  | cons x xs ih =>
    intro ys hx hy h
    cases ys with
    | nil => exact absurd ((h x).1 List.mem_cons_self) (by simp)
    | cons y ys =>
      obtain ⟨x1, x2⟩ := List.pairwise_cons.1 hx
      obtain ⟨y1, y2⟩ := List.pairwise_cons.1 hy
      have e : x = y := by
        rcases List.mem_cons.1 ((h x).1 List.mem_cons_self) with e | m
        · exact e
        · rcases List.mem_cons.1 ((h y).2 List.mem_cons_self) with e | m2
          · exact e.symm
          · have := h0.asymm _ _ (y1 x m)
            rw [x1 y m2] at this
            cases this
      subst e
      congr 1
      refine ih ys x2 y2 (fun z => ⟨fun hz => ?_, fun hz => ?_⟩)
      · rcases List.mem_cons.1 ((h z).1 (List.mem_cons_of_mem _ hz)) with rfl | m
        · have := x1 z hz; rw [irrefl h0] at this; cases this
        · exact m
      · rcases List.mem_cons.1 ((h z).2 (List.mem_cons_of_mem _ hz)) with rfl | m
        · have := y1 z hz; rw [irrefl h0] at this; cases this
        · exact m
/-- Of neighbours that stand level the first (p: the last one that was kept). -/
def firsts (lt : α → α → Bool) : Option α → List α → List α
  | _, [] => []
  | none, x :: r => x :: firsts lt (some x) r
  | some p, x :: r => if lev lt p x = true then firsts lt (some p) r else x :: firsts lt (some x) r
theorem firsts_some (h0 : Swo lt) (xs : List α) : ∀ p : α, Up lt (p :: xs) → (∀ x ∈ firsts lt (some p) xs, lt p x = true) ∧ (firsts lt (some p) xs).Pairwise (fun a b => lt a b = true) ∧ ∀ x, x ∈ firsts lt (some p) xs ↔ lev lt p x = false ∧ (xs.filter (lev lt x)).head? = some x := by
  induction xs with
  | nil => intro p _; exact ⟨by simp [firsts], .nil, by simp [firsts]⟩
  | cons y r ih =>
    intro p hp
    obtain ⟨p1, p2⟩ := List.pairwise_cons.1 hp
    obtain ⟨y1, y2⟩ := List.pairwise_cons.1 p2
    unfold firsts
    cases hl : lev lt p y with
    | true =>
      rw [if_pos rfl]
      obtain ⟨i1, i2, i3⟩ := ih p (List.pairwise_cons.2 ⟨fun b hb => p1 b (List.mem_cons_of_mem _ hb), y2⟩)
      refine ⟨i1, i2, fun x => (i3 x).trans ⟨fun ⟨a, b⟩ => ⟨a, ?_⟩, fun ⟨a, b⟩ => ⟨a, ?_⟩⟩⟩
      all_goals
        have hn : lev lt x y = false := by
          cases e : lev lt x y with
          | false => rfl
          | true =>
            exfalso
            have h1 := (lev_iff p y).1 hl
            have h2 := (lev_iff x y).1 e
            have := (lev_iff p x).2 ⟨h0.ntrans x y p h2.2 h1.1, h0.ntrans p y x h1.2 h2.1⟩
            rw [a] at this
            cases this
      · rw [List.filter_cons_of_neg (by simp [hn])]; exact b
      · rw [List.filter_cons_of_neg (by simp [hn])] at b; exact b
    | false =>
      rw [if_neg (by simp)]
      have hpy : lt p y = true := by
        cases e : lt p y with
        | true => rfl
        | false => have := (lev_iff p y).2 ⟨p1 y List.mem_cons_self, e⟩; rw [hl] at this; cases this
      obtain ⟨i1, i2, i3⟩ := ih y p2
      refine ⟨fun x hx => ?_, List.pairwise_cons.2 ⟨i1, i2⟩, fun x => ?_⟩
      · rcases List.mem_cons.1 hx with rfl | hx
        · exact hpy
        · exact trans h0 hpy (i1 x hx)
      · rw [List.mem_cons]
        constructor
        · rintro (rfl | hx)
          · refine ⟨hl, ?_⟩
            rw [List.filter_cons_of_pos ((lev_iff x x).2 ⟨irrefl h0 x, irrefl h0 x⟩)]
            rfl
          · obtain ⟨a, b⟩ := (i3 x).1 hx
            have hyx := i1 x hx
            refine ⟨?_, ?_⟩
            · cases e : lev lt p x with
              | false => rfl
              | true => have := ((lev_iff p x).1 e).2; rw [trans h0 hpy hyx] at this; cases this
            · rw [List.filter_cons_of_neg]
              · exact b
              · intro e
                have := ((lev_iff x y).1 e).1
                rw [hyx] at this
                cases this
        · rintro ⟨a, b⟩
          by_cases e : lev lt x y = true
          · rw [List.filter_cons_of_pos e] at b
            exact .inl (Option.some.inj b).symm
          · rw [List.filter_cons_of_neg e] at b
            refine .inr ((i3 x).2 ⟨?_, b⟩)
            cases e2 : lev lt y x with
            | false => rfl
            | true => exact absurd ((lev_iff x y).2 (((lev_iff y x).1 e2).symm)) e
/-- Of a rising row: the first of each class, in strict order. -/
theorem firsts_none (h0 : Swo lt) (xs : List α) (h : Up lt xs) : (firsts lt none xs).Pairwise (fun a b => lt a b = true) ∧ ∀ x, x ∈ firsts lt none xs ↔ (xs.filter (lev lt x)).head? = some x := by
  cases xs with
  | nil => exact ⟨.nil, by simp [firsts]⟩
  | cons y r =>
    obtain ⟨i1, i2, i3⟩ := firsts_some h0 r y h
    unfold firsts
    refine ⟨List.pairwise_cons.2 ⟨i1, i2⟩, fun x => ?_⟩
    rw [List.mem_cons]
    constructor
    · rintro (rfl | hx)
      · rw [List.filter_cons_of_pos ((lev_iff x x).2 ⟨irrefl h0 x, irrefl h0 x⟩)]
        rfl
      · obtain ⟨a, b⟩ := (i3 x).1 hx
        rw [List.filter_cons_of_neg]
        · exact b
        · intro e
          have := (lev_iff y x).2 ((lev_iff x y).1 e).symm
          rw [a] at this
          cases this
    · rintro b
      by_cases e : lev lt x y = true
      · rw [List.filter_cons_of_pos e] at b
        exact .inl (Option.some.inj b).symm
      · rw [List.filter_cons_of_neg e] at b
        refine .inr ((i3 x).2 ⟨?_, b⟩)
        cases e2 : lev lt y x with
        | false => rfl
        | true => exact absurd ((lev_iff x y).2 (((lev_iff y x).1 e2).symm)) e
/-- A row put where it belongs, if none of its class is there. -/
def put (lt : α → α → Bool) (x : α) : List α → List α
  | [] => [x]
  | y :: r => if lt y x = true then y :: put lt x r else if lt x y = true then x :: y :: r else y :: r
theorem put_mem (x : α) (ys : List α) : ∀ z, z ∈ put lt x ys → z = x ∨ z ∈ ys := by
  induction ys with
  | nil => intro z hz; exact .inl (List.mem_singleton.1 hz)
  | cons y r ih =>
    intro z hz
    unfold put at hz
    split at hz
    · rcases List.mem_cons.1 hz with rfl | hz
      · exact .inr List.mem_cons_self
      · rcases ih z hz with h | h
        · exact .inl h
        · exact .inr (List.mem_cons_of_mem _ h)
    · split at hz
      · rcases List.mem_cons.1 hz with rfl | hz
        · exact .inl rfl
        · exact .inr hz
      · exact .inr hz
theorem put_strict (h0 : Swo lt) (x : α) (ys : List α) (h : ys.Pairwise (fun a b => lt a b = true)) : (put lt x ys).Pairwise (fun a b => lt a b = true) ∧ ∀ z, z ∈ put lt x ys ↔ z ∈ ys ∨ (z = x ∧ ∀ y ∈ ys, lev lt x y = false) := by
  induction ys with
  | nil => exact ⟨List.pairwise_singleton _ _, fun z => by simp [put]⟩
  | cons y r ih =>
    obtain ⟨y1, y2⟩ := List.pairwise_cons.1 h
    obtain ⟨i1, i2⟩ := ih y2
    unfold put
    by_cases c1 : lt y x = true
    · rw [if_pos c1]
      refine ⟨List.pairwise_cons.2 ⟨fun z hz => ?_, i1⟩, fun z => ?_⟩
      · rcases put_mem x r z hz with rfl | hz
        · exact c1
        · exact y1 z hz
      · rw [List.mem_cons, i2, List.mem_cons]
        have hn : lev lt x y = false := by
          cases e : lev lt x y with
          | false => rfl
          | true => have := ((lev_iff x y).1 e).1; rw [c1] at this; cases this
        constructor
        · rintro (rfl | h | ⟨rfl, h⟩)
          · exact .inl (.inl rfl)
          · exact .inl (.inr h)
          · refine .inr ⟨rfl, fun u hu => ?_⟩
            rcases List.mem_cons.1 hu with rfl | hu
            · exact hn
            · exact h u hu
        · rintro ((rfl | h) | ⟨rfl, h⟩)
          · exact .inl rfl
          · exact .inr (.inl h)
          · exact .inr (.inr ⟨rfl, fun u hu => h u (List.mem_cons_of_mem _ hu)⟩)
    · rw [if_neg c1]
      by_cases c2 : lt x y = true
      · rw [if_pos c2]
        refine ⟨List.pairwise_cons.2 ⟨fun z hz => ?_, h⟩, fun z => ?_⟩
        · rcases List.mem_cons.1 hz with rfl | hz
          · exact c2
          · exact trans h0 c2 (y1 z hz)
        · rw [List.mem_cons]
          constructor
          · rintro (rfl | h)
            · refine .inr ⟨rfl, fun u hu => ?_⟩
              have hxu : lt z u = true := by
                rcases List.mem_cons.1 hu with rfl | hu
                · exact c2
                · exact trans h0 c2 (y1 u hu)
              cases e : lev lt z u with
              | false => rfl
              | true => have := ((lev_iff z u).1 e).2; rw [hxu] at this; cases this
            · exact .inl h
          · rintro (h | ⟨rfl, _⟩)
            · exact .inr h
            · exact .inl rfl
      · rw [if_neg c2]
        refine ⟨h, fun z => ⟨.inl, ?_⟩⟩
        rintro (h | ⟨rfl, h⟩)
        · exact h
        · have := h y List.mem_cons_self
          rw [(lev_iff z y).2 ⟨by simpa using c1, by simpa using c2⟩] at this
          cases this
/-- Put one behind the other: the first of each class. -/
theorem puts_firsts (h0 : Swo lt) (xs : List α) : (xs.foldl (fun s x => put lt x s) []).Pairwise (fun a b => lt a b = true) ∧ ∀ x, x ∈ xs.foldl (fun s x => put lt x s) [] ↔ (xs.filter (lev lt x)).head? = some x := by
  have go : ∀ (n : Nat) (xs : List α), xs.length = n → (xs.foldl (fun s x => put lt x s) []).Pairwise (fun a b => lt a b = true) ∧ ∀ x, x ∈ xs.foldl (fun s x => put lt x s) [] ↔ (xs.filter (lev lt x)).head? = some x := by
    intro n
    induction n with
    | zero =>
      intro xs hl
      obtain rfl := List.length_eq_zero_iff.1 hl
      exact ⟨.nil, by simp⟩
    | succ n ih =>
      intro xs hl
      have hne : xs ≠ [] := by rintro rfl; simp at hl
      obtain ⟨i1, i2⟩ := ih xs.dropLast (by rw [List.length_dropLast, hl]; rfl)
      rw [← List.dropLast_concat_getLast hne, List.foldl_append]
      generalize xs.getLast hne = y
      generalize xs.dropLast = r at i1 i2
      simp only [List.foldl_cons, List.foldl_nil]
      obtain ⟨p1, p2⟩ := put_strict h0 y _ i1
      refine ⟨p1, fun x => ?_⟩
      rw [p2, i2, List.filter_append, List.head?_append]
      constructor
      · rintro (h | ⟨rfl, h⟩)
        · rw [h]; rfl
        · have hn : r.filter (lev lt x) = [] := by
            rw [List.filter_eq_nil_iff]
            intro u hu hlu
            -- the first of u's class is there
            cases hf : r.filter (lev lt u) with
            | nil =>
              have := List.filter_eq_nil_iff.1 hf u hu
              exact this ((lev_iff u u).2 ⟨irrefl h0 u, irrefl h0 u⟩)
            | cons f t =>
              have hfu : f ∈ r.filter (lev lt u) := by rw [hf]; exact List.mem_cons_self
              have hfl := (List.mem_filter.1 hfu).2
              have e : lev lt f = lev lt u := by
                funext z
                have a1 := (lev_iff u f).1 hfl
                cases e1 : lev lt f z with
                | true =>
                  have b1 := (lev_iff f z).1 e1
                  exact ((lev_iff u z).2 ⟨h0.ntrans z f u b1.1 a1.1, h0.ntrans u f z a1.2 b1.2⟩).symm
                | false =>
                  cases e2 : lev lt u z with
                  | false => rfl
                  | true =>
                    have b1 := (lev_iff u z).1 e2
                    have := (lev_iff f z).2 ⟨h0.ntrans z u f b1.1 a1.2, h0.ntrans f u z a1.1 b1.2⟩
                    rw [e1] at this
                    cases this
              have hm := h f ((i2 f).2 (by rw [e, hf]; rfl))
              have a1 := (lev_iff u f).1 hfl
              have b1 := (lev_iff x u).1 hlu
              rw [(lev_iff x f).2 ⟨h0.ntrans f u x a1.1 b1.1, h0.ntrans x u f b1.2 a1.2⟩] at hm
              cases hm
          rw [hn, List.filter_cons_of_pos ((lev_iff x x).2 ⟨irrefl h0 x, irrefl h0 x⟩)]
          rfl
      · intro h
        cases hf : r.filter (lev lt x) with
        | cons f t =>
          rw [hf] at h
          exact .inl h
        | nil =>
          rw [hf] at h
          simp only [List.head?_nil, Option.none_or] at h
          by_cases e : lev lt x y = true
          · rw [List.filter_cons_of_pos e] at h
            obtain rfl : y = x := Option.some.inj h
            refine .inr ⟨rfl, fun u hu => ?_⟩
            have hm := (i2 u).1 hu
            cases e2 : lev lt y u with
            | false => rfl
            | true =>
              have : u ∈ r.filter (lev lt u) := by
                cases hq : r.filter (lev lt u) with
                | nil => rw [hq] at hm; cases hm
                | cons a b => rw [hq] at hm; obtain rfl : a = u := Option.some.inj hm; exact List.mem_cons_self
              have hur := (List.mem_filter.1 this).1
              exact absurd e2 (by have := List.filter_eq_nil_iff.1 hf u hur; exact this)
          · rw [List.filter_cons_of_neg e, List.filter_nil] at h
            cases h
  exact go _ xs rfl
theorem merged_first (h0 : Swo lt) (xs s : List α) (hu : Up lt s) (hs : Same lt s xs) : firsts lt none s = xs.foldl (fun s x => put lt x s) [] := by
  obtain ⟨a1, a2⟩ := firsts_none h0 s hu
  obtain ⟨b1, b2⟩ := puts_firsts h0 xs
  exact strict_ext h0 _ _ a1 b1 (fun x => by rw [a2, b2, hs x])
end Stab

theorem compare_self (l : List UInt8) : Lib.compareBytes l l = 0 := by
  induction l with
  | nil => rfl
  | cons a l ih =>
    have h : ¬ a < a := UInt8.lt_irrefl a
    simp [Lib.compareBytes, h, ih]
/-- strings.Compare: before, the same, behind. -/
theorem compare_cases (l : List UInt8) : ∀ m : List UInt8, (Lib.compareBytes l m = 0 ∧ l = m) ∨ (Lib.compareBytes l m = -1 ∧ l ≠ m ∧ Op.bytesLess l m = true) ∨ (Lib.compareBytes l m = 1 ∧ l ≠ m ∧ Op.bytesLess l m = false) := by
  induction l with
  | nil =>
    intro m
    cases m with
    | nil => exact .inl ⟨rfl, rfl⟩
    | cons b m => exact .inr (.inl ⟨rfl, by simp, rfl⟩)
  | cons a l ih =>
    intro m
    cases m with
    | nil => exact .inr (.inr ⟨rfl, by simp, rfl⟩)
    | cons b m =>
      unfold Lib.compareBytes Op.bytesLess
      by_cases h1 : a < b
      · have hne : a ≠ b := fun h => by subst h; exact UInt8.lt_irrefl a h1
        exact .inr (.inl ⟨by simp [h1], by simp [hne], by simp [h1]⟩)
      · by_cases h2 : b < a
        · have hne : a ≠ b := fun h => by subst h; exact UInt8.lt_irrefl a h2
          exact .inr (.inr ⟨by simp [h1, h2], by simp [hne], by simp [h1, hne]⟩)
        · have he : a = b := by
            rw [UInt8.lt_iff_toNat_lt] at h1 h2
            exact UInt8.toNat_inj.1 (by omega)
          subst he
          rcases ih m with ⟨p, q⟩ | ⟨p, q, r⟩ | ⟨p, q, r⟩
          · exact .inl ⟨by simp [h1, p], by rw [q]⟩
          · exact .inr (.inl ⟨by simp [h1, p], by simp [q], by simp [r]⟩)
          · exact .inr (.inr ⟨by simp [h1, p], by simp [q], by simp [h1, r]⟩)
/-- Does one row stand ahead of another? -/
def aheadR (a b : S49) : Bool := if a.f0.toList = b.f0.toList then decide (a.f1 > b.f1) else Op.bytesLess a.f0.toList b.f0.toList
theorem spec_l5Ahead_eq (a b : S49) : spec_l5Ahead.f a.f0 a.f1 a.f2 a.f3 b.f0 b.f1 b.f2 b.f3 = some (aheadR a b) := by
  unfold spec_l5Ahead.f aheadR
  split <;> rfl
/-- What compareRows tells. -/
def cmpR (a b : S49) : Int := if Lib.compareBytes a.f0.data.toList b.f0.data.toList = 0 then (if b.f1 < a.f1 then -1 else if b.f1 > a.f1 then 1 else 0) else Lib.compareBytes a.f0.data.toList b.f0.data.toList
theorem or_ev (x y : Int) : Ev (fun k => cmp_Or_int.f k [x, y]) (if x = 0 then y else x) := by
  refine ⟨3, fun k hk => ?_⟩
  obtain ⟨k, rfl⟩ : ∃ j, k = j + 3 := ⟨k - 3, by omega⟩
  unfold cmp_Or_int.f
  have w1 : wrap64 (0 + 1) = 1 := by rw [w64 (by decide) (by decide)]; rfl
  have w2 : wrap64 (1 + 1) = 2 := by rw [w64 (by decide) (by decide)]; rfl
  have r0 : rd [x, y] 0 = x := rfl
  have r1 : rd [x, y] 1 = y := rfl
  simp only [cmp_Or_int.l0, List.length_cons, List.length_nil, w1, w2, r0, r1]
  by_cases h1 : x = 0 <;> by_cases h2 : y = 0 <;> simp [h1, h2]
theorem compare64_eq (x y : Int) : cmp_Compare_int64.f x y = some (if x < y then -1 else if x > y then 1 else 0) := by
  unfold cmp_Compare_int64.f cmp_isNaN_int64.f
  by_cases h1 : x < y
  · simp [h1]
  · by_cases h2 : y < x
    · simp [h1, h2]
    · simp [h1, h2]
theorem impl_compareRows_ev (a b : S49) : Ev (fun k => impl_compareRows.f k a.f0 a.f1 a.f2 a.f3 b.f0 b.f1 b.f2 b.f3) (cmpR a b) := by
  unfold impl_compareRows.f cmpR
  refine Ev.bind (a := Lib.compareBytes a.f0.data.toList b.f0.data.toList) (Ev.is rfl) (Ev.bind (Ev.is (compare64_eq _ _)) (Ev.bind (or_ev _ _) (Ev.now _)))
theorem cmpR_ahead (a b : S49) : cmpR a b ≥ 0 ↔ ¬ aheadR a b = true := by
  unfold cmpR aheadR
  rw [ByteArray.toList_eq, ByteArray.toList_eq]
  rcases compare_cases a.f0.data.toList b.f0.data.toList with ⟨p, q⟩ | ⟨p, q, r⟩ | ⟨p, q, r⟩
  · rw [p, if_pos rfl, if_pos q, decide_eq_true_iff]
    split
    · omega
    · split <;> omega
  · rw [p, if_neg (by decide), if_neg q, r]
    simp
  · rw [p, if_neg (by decide), if_neg q, r]
    simp

/-- What RowFault tells of a row. -/
def rowFault (key : ByteArray) (v : Int) (val : ByteArray) (gone : Bool) : Int :=
  if 1 ≤ (key.size : Int) ∧ (key.size : Int) ≤ 20 ∧ ¬ (gone = true ∧ (val.toList != ([] : List UInt8)) = true) then (if (val.size : Int) > 100 then 2 else if 1 ≤ v ∧ v ≤ 1000000 then 0 else 3) else 1
theorem spec_RowFault_ev (key : ByteArray) (v : Int) (val : ByteArray) (gone : Bool) : Ev (fun k => spec_RowFault.f k key v val gone) (rowFault key v val gone) := by
  refine ⟨1, fun k hk => ?_⟩
  obtain ⟨k, rfl⟩ : ∃ j, k = j + 1 := ⟨k - 1, by omega⟩
  unfold spec_RowFault.f rowFault
  simp only [spec_RowFault.j0, spec_l1In.f]
  generalize (val.toList != ([] : List UInt8)) = e
  generalize (key.size : Int) = n
  generalize (val.size : Int) = m
  by_cases h1 : n < 1
  · have : ¬ 1 ≤ n := by omega
    simp [h1, this]
  · have h1' : 1 ≤ n := by omega
    by_cases h2 : n > 20
    · have : ¬ n ≤ 20 := by omega
      simp [h1, h2, this]
    · have h2' : n ≤ 20 := by omega
      by_cases h3 : m > 100 <;> by_cases h4 : 1 ≤ v <;> by_cases h5 : v ≤ 1000000 <;> cases gone <;> cases e <;> simp [h1, h2, h1', h2', h3, h4, h5]
theorem impl_RowFault_ev (key : ByteArray) (v : Int) (val : ByteArray) (gone : Bool) : Ev (fun k => impl_RowFault.f k key v val gone) (rowFault key v val gone) := by
  refine ⟨1, fun k hk => ?_⟩
  obtain ⟨k, rfl⟩ : ∃ j, k = j + 1 := ⟨k - 1, by omega⟩
  unfold impl_RowFault.f rowFault impl_isKey.f
  simp only [impl_RowFault.j0, impl_within.f, impl_isVersion.f]
  generalize (val.toList != ([] : List UInt8)) = e
  generalize (key.size : Int) = n
  generalize (val.size : Int) = m
  by_cases h1 : 1 ≤ n <;> by_cases h2 : n ≤ 20 <;> by_cases h3 : m > 100 <;> by_cases h4 : 1 ≤ v <;> by_cases h5 : v ≤ 1000000 <;> cases gone <;> cases e <;> simp [h1, h2, h3, h4, h5]

/-- What TableFault tells of the last d rows. -/
def tableFrom (l : List S49) : Nat → Int
  | 0 => 0
  | d + 1 => (fun i : Int => (fun (x y : S49) => if rowFault x.f0 x.f1 x.f2 x.f3 = 0 then (if i > 0 then (if aheadR y x = true then tableFrom l d else 1) else tableFrom l d) else rowFault x.f0 x.f1 x.f2 x.f3) (rd_T49 l i) (rd_T49 l (i - 1))) ((l.length : Int) - (d + 1))
def tableFault (l : List S49) : Int := if (l.length : Int) > 200 then 2 else tableFrom l l.length
theorem spec_TableFault_ev (l : List S49) : Ev (fun k => spec_TableFault.f k l) (tableFault l) := by
  unfold spec_TableFault.f tableFault
  refine Ev.cond (fun _ => Ev.now _) (fun hl => ?_)
  have go : ∀ d : Nat, d ≤ l.length → Ev (fun k => spec_TableFault.l0 k l ((l.length : Int) - d)) (tableFrom l d) := by
    intro d
    induction d with
    | zero => intro _; exact Ev.step (fun k => spec_TableFault.l0.eq_2 ..) (Ev.neg (by omega) (Ev.now _))
    | succ d ih =>
      intro hd
      have h := ih (by omega)
      refine Ev.step (fun k => spec_TableFault.l0.eq_2 ..) (Ev.pos (by omega) (Ev.pos (by omega) (Ev.bind (spec_RowFault_ev ..) ?_)))
      rw [w64 (x := (l.length : Int) - ((d + 1 : Nat) : Int) + 1) (by omega) (by omega), w64 (x := (l.length : Int) - ((d + 1 : Nat) : Int) - 1) (by omega) (by omega), show (l.length : Int) - ((d + 1 : Nat) : Int) + 1 = (l.length : Int) - d by omega]
      rw [show ((d + 1 : Nat) : Int) = (d : Int) + 1 by omega]
      unfold tableFrom
      refine Ev.cond (fun _ => Ev.cond (fun hp => Ev.pos (by omega) (Ev.pos (by omega) (Ev.bind (Ev.is (spec_l5Ahead_eq ..)) (Ev.cond (fun _ => h) (fun _ => Ev.now _))))) (fun _ => h)) (fun _ => Ev.now _)
  have := go l.length (by omega)
  rw [show (l.length : Int) - (l.length : Nat) = 0 by omega] at this
  exact this
theorem impl_TableFault_ev (l : List S49) : Ev (fun k => impl_TableFault.f k l) (tableFault l) := by
  unfold impl_TableFault.f tableFault
  refine Ev.cond (fun _ => Ev.now _) (fun hl => ?_)
  have go : ∀ d : Nat, d ≤ l.length → Ev (fun k => impl_TableFault.l0 k l l (l.length : Int) ((l.length : Int) - d)) (tableFrom l d) := by
    intro d
    induction d with
    | zero => intro _; exact Ev.step (fun k => impl_TableFault.l0.eq_2 ..) (Ev.neg (by omega) (Ev.now _))
    | succ d ih =>
      intro hd
      have h := ih (by omega)
      refine Ev.step (fun k => impl_TableFault.l0.eq_2 ..) (Ev.pos (by omega) (Ev.pos (by omega) (Ev.pos (by omega) (Ev.bind (impl_RowFault_ev ..) ?_))))
      rw [w64 (x := (l.length : Int) - ((d + 1 : Nat) : Int) + 1) (by omega) (by omega), w64 (x := (l.length : Int) - ((d + 1 : Nat) : Int) - 1) (by omega) (by omega), show (l.length : Int) - ((d + 1 : Nat) : Int) + 1 = (l.length : Int) - d by omega]
      rw [show ((d + 1 : Nat) : Int) = (d : Int) + 1 by omega]
      unfold tableFrom
      refine Ev.cond (fun _ => Ev.cond (fun hp => Ev.pos (by omega) (Ev.pos (by omega) (Ev.bind (impl_compareRows_ev ..) ?_))) (fun _ => h)) (fun _ => Ev.now _)
      by_cases ha : aheadR (rd_T49 l ((l.length : Int) - ((d : Int) + 1) - 1)) (rd_T49 l ((l.length : Int) - ((d : Int) + 1))) = true
      · rw [if_pos ha]
        exact Ev.neg (fun h => (cmpR_ahead _ _).1 h ha) h
      · rw [if_neg ha]
        exact Ev.pos ((cmpR_ahead _ _).2 ha) (Ev.now _)
  have := go l.length (by omega)
  rw [show (l.length : Int) - (l.length : Nat) = 0 by omega] at this
  exact this

theorem Ev.eq' {α : Type} {g g' : Nat → Option α} {a : α} (h : Ev g a) (e : g' = g) : Ev g' a := e ▸ h
theorem rdRow {l : List S49} {i : Int} {v : S49} (h : l[i.toNat]? = some v) : rd_T49 l i = v := by
  unfold rd_T49
  rw [List.getD_eq_getElem?_getD, h]
  rfl
theorem rdRow_at (l : List S49) (i : Int) (h0 : 0 ≤ i) (h1 : i < (l.length : Int)) : rd_T49 l i = l[i.toNat]'(by omega) := rdRow (List.getElem?_eq_getElem (by omega))

def markRow (mt : Int → ByteArray) (m : Int) : S49 := ⟨mt m, m + 1, mt (m + 2), Int.tmod (m + 3) 3 == 0⟩
def markRows (mt : Int → ByteArray) (n : Nat) : List S49 := (List.range n).map fun (i : Nat) => markRow mt (1 + 4 * (i : Int))
theorem markRows_len (mt : Int → ByteArray) (n : Nat) : (markRows mt n).length = n := by simp [markRows]
theorem markRows_get (mt : Int → ByteArray) (n : Nat) (i : Nat) (h : i < n) : (markRows mt n)[i]? = some (markRow mt (1 + 4 * (i : Int))) := by simp [markRows, h]
theorem rdRow_set (l : List S49) (i : Int) (v : S49) (h0 : 0 ≤ i) (h1 : i < (l.length : Int)) : rd_T49 (l.set i.toNat v) i = v := rdRow (by rw [List.getElem?_set_self (by omega)])
theorem less_irrefl : ∀ l : List UInt8, Op.bytesLess l l = false
  | [] => rfl
  | a :: l => by
    have h : ¬ a < a := UInt8.lt_irrefl a
    simp [Op.bytesLess, h, less_irrefl l]
theorem less_trans : ∀ a b c : List UInt8, Op.bytesLess a b = true → Op.bytesLess b c = true → Op.bytesLess a c = true
  | [], [], _, h, _ => by simp [Op.bytesLess] at h
  | [], _ :: _, [], _, h => by simp [Op.bytesLess] at h
  | [], _ :: _, _ :: _, _, _ => rfl
  | _ :: _, [], _, h, _ => by simp [Op.bytesLess] at h
  | _ :: _, _ :: _, [], _, h => by simp [Op.bytesLess] at h
  | x :: a, y :: b, z :: c, h1, h2 => by
    simp only [Op.bytesLess, Bool.or_eq_true, Bool.and_eq_true, decide_eq_true_eq, beq_iff_eq] at h1 h2 ⊢
    rcases h1 with h1 | ⟨e1, h1⟩
    · rcases h2 with h2 | ⟨e2, h2⟩
      · exact .inl (UInt8.lt_trans h1 h2)
      · exact .inl (e2 ▸ h1)
    · rcases h2 with h2 | ⟨e2, h2⟩
      · exact .inl (e1 ▸ h2)
      · exact .inr ⟨e1.trans e2, less_trans a b c h1 h2⟩
theorem ahead_trans {a b c : S49} (h1 : aheadR a b = true) (h2 : aheadR b c = true) : aheadR a c = true := by
  unfold aheadR at *
  by_cases e1 : a.f0.toList = b.f0.toList
  · rw [if_pos e1, decide_eq_true_iff] at h1
    by_cases e2 : b.f0.toList = c.f0.toList
    · rw [if_pos e2, decide_eq_true_iff] at h2
      rw [if_pos (e1.trans e2), decide_eq_true_iff]
      omega
    · rw [if_neg e2] at h2
      rw [if_neg (fun h => e2 (e1.symm.trans h)), e1]
      exact h2
  · rw [if_neg e1] at h1
    by_cases e2 : b.f0.toList = c.f0.toList
    · rw [if_neg (fun h => e1 (h.trans e2.symm)), ← e2]
      exact h1
    · rw [if_neg e2] at h2
      have h3 := less_trans _ _ _ h1 h2
      rw [if_neg (fun h => by rw [h] at h3; rw [less_irrefl] at h3; cases h3)]
      exact h3
theorem table_next (l : List S49) : ∀ d : Nat, d ≤ l.length → tableFrom l d = 0 → ∀ i : Int, (l.length : Int) - d ≤ i → 0 < i → i < (l.length : Int) → aheadR (rd_T49 l (i - 1)) (rd_T49 l i) = true := by
  intro d
  induction d with
  | zero => intro _ _ i h0 _ h1; omega
  | succ d ih =>
    intro hd h i h0 hp h1
    unfold tableFrom at h
    simp only at h
    split at h
    · split at h
      · split at h
        · next ha =>
          by_cases hi : i = (l.length : Int) - ((d : Int) + 1)
          · rw [hi]
            exact ha
          · exact ih (by omega) h i (by omega) hp h1
        · cases h
      · next hn => exact ih (by omega) h i (by omega) hp h1
    · next hn => exact absurd h hn
theorem table_ahead (l : List S49) (h : tableFault l = 0) : ∀ (d : Nat) (j : Int), 0 ≤ j → j + 1 + d < (l.length : Int) → aheadR (rd_T49 l j) (rd_T49 l (j + 1 + d)) = true := by
  have hs : ∀ i : Int, 0 < i → i < (l.length : Int) → aheadR (rd_T49 l (i - 1)) (rd_T49 l i) = true := by
    unfold tableFault at h
    split at h
    · cases h
    · exact fun i hp h1 => table_next l l.length (Nat.le_refl _) h i (by omega) hp h1
  intro d
  induction d with
  | zero =>
    intro j h0 h1
    have := hs (j + 1) (by omega) (by omega)
    rw [show j + 1 - 1 = j by omega] at this
    rw [show j + 1 + ((0 : Nat) : Int) = j + 1 by omega]
    exact this
  | succ d ih =>
    intro j h0 h1
    have e1 := ih j h0 (by omega)
    have e2 := hs (j + 1 + d + 1) (by omega) (by omega)
    rw [show j + 1 + d + 1 - 1 = j + 1 + d by omega] at e2
    rw [show j + 1 + ((d + 1 : Nat) : Int) = j + 1 + d + 1 by omega]
    exact ahead_trans e1 e2
/-- Is y one that hides x from the floor on? -/
def hides (v : Int) (y x : S49) : Bool := (y.f0.toList == x.f0.toList) && decide (y.f1 ≤ v)
/-- Some row ahead hides it where the one just ahead does. -/
theorem hid_eq (l : List S49) (v : Int) (h : tableFault l = 0) (i : Int) (h0 : 0 < i) (h1 : i < (l.length : Int)) : (l.take i.toNat).any (fun y => hides v y (rd_T49 l i)) = hides v (rd_T49 l (i - 1)) (rd_T49 l i) := by
  have hin : ∀ j : Int, 0 ≤ j → j < i → rd_T49 l j ∈ l.take i.toNat := fun j p q => by
    rw [rdRow_at l j p (by omega)]
    exact List.mem_take_iff_getElem.2 ⟨j.toNat, by omega, rfl⟩
  rw [Bool.eq_iff_iff, List.any_eq_true]
  constructor
  · rintro ⟨y, hy, hh⟩
    obtain ⟨j, hj, rfl⟩ := List.mem_take_iff_getElem.1 hy
    have ej : rd_T49 l (j : Int) = l[j]'(by omega) := rdRow_at l (j : Int) (by omega) (by omega)
    rw [← ej] at hh
    by_cases hji : (j : Int) = i - 1
    · rw [← hji]
      exact hh
    · obtain ⟨d, hd⟩ : ∃ d : Nat, (j : Int) + 1 + d = i - 1 := ⟨(i - 1 - (j + 1)).toNat, by omega⟩
      have a1 := table_ahead l h d (j : Int) (by omega) (by omega)
      rw [hd] at a1
      have a2 := table_ahead l h 0 (i - 1) (by omega) (by omega)
      rw [show i - 1 + 1 + ((0 : Nat) : Int) = i by omega] at a2
      generalize rd_T49 l (j : Int) = y at hh a1
      generalize rd_T49 l (i - 1) = p at a1 a2 ⊢
      generalize rd_T49 l i = x at hh a2 ⊢
      unfold hides at hh ⊢
      rw [Bool.and_eq_true, beq_iff_eq, decide_eq_true_iff] at hh ⊢
      unfold aheadR at a1 a2
      by_cases e2 : p.f0.toList = x.f0.toList
      · rw [if_pos (hh.1.trans e2.symm), decide_eq_true_iff] at a1
        exact ⟨e2, by omega⟩
      · rw [if_neg e2] at a2
        rw [if_neg (fun e => e2 (e.symm.trans hh.1)), hh.1] at a1
        have := less_trans _ _ _ a1 a2
        rw [less_irrefl] at this
        cases this
  · intro hh
    exact ⟨_, hin (i - 1) (by omega) (by omega), hh⟩
/-- The rows that are not hidden, of the first i. -/
def keptTo (l : List S49) (v : Int) : Nat → List S49
  | 0 => []
  | i + 1 => if i ≠ 0 ∧ hides v (rd_T49 l ((i : Int) - 1)) (rd_T49 l (i : Int)) = true then keptTo l v i else keptTo l v i ++ [rd_T49 l (i : Int)]
theorem keptTo_len (l : List S49) (v : Int) : ∀ i : Nat, (keptTo l v i).length ≤ i
  | 0 => Nat.le_refl _
  | i + 1 => by
    have := keptTo_len l v i
    unfold keptTo
    split
    · omega
    · rw [List.length_append, List.length_singleton]
      omega
theorem kept_hid {l : List S49} {v : Int} {i : Nat} (h : i ≠ 0 ∧ hides v (rd_T49 l ((i : Int) - 1)) (rd_T49 l (i : Int)) = true) : keptTo l v (i + 1) = keptTo l v i := by
  conv => lhs; unfold keptTo
  rw [if_pos h]
theorem kept_new {l : List S49} {v : Int} {i : Nat} (h : ¬ (i ≠ 0 ∧ hides v (rd_T49 l ((i : Int) - 1)) (rd_T49 l (i : Int)) = true)) : keptTo l v (i + 1) = keptTo l v i ++ [rd_T49 l (i : Int)] := by
  conv => lhs; unfold keptTo
  rw [if_neg h]
/-- One round of what is left of them. -/
def outStep (ks : List S49) (v : Int) (out : List S49) (i : Int) : List S49 :=
  if i = (ks.length : Int) - 1 then (if (rd_T49 ks i).f3 = true then (if (rd_T49 ks i).f1 > v then out ++ [rd_T49 ks i] else out) else out ++ [rd_T49 ks i])
  else (if (rd_T49 ks i).f3 = true then (if (rd_T49 ks i).f1 > v then out ++ [rd_T49 ks i] else (if ¬ (rd_T49 ks (i + 1)).f0.toList = (rd_T49 ks i).f0.toList then out else out ++ [rd_T49 ks i])) else out ++ [rd_T49 ks i])
theorem outStep_len (ks : List S49) (v : Int) (out : List S49) (i : Int) : (outStep ks v out i).length ≤ out.length + 1 := by
  unfold outStep
  repeat' split
  all_goals first | (rw [List.length_append, List.length_singleton]; exact Nat.le_refl _) | omega
def outTo (ks : List S49) (v : Int) : Nat → List S49
  | 0 => []
  | i + 1 => outStep ks v (outTo ks v i) (i : Int)
theorem outTo_len (ks : List S49) (v : Int) : ∀ i : Nat, (outTo ks v i).length ≤ i
  | 0 => Nat.le_refl _
  | i + 1 => by
    have := outTo_len ks v i
    have := outStep_len ks v (outTo ks v i) (i : Int)
    unfold outTo
    omega
def compactR (l : List S49) (v : Int) : List S49 := outTo (keptTo l v l.length) v (keptTo l v l.length).length
theorem compactR_len (l : List S49) (v : Int) : (compactR l v).length ≤ l.length := Nat.le_trans (outTo_len _ _ _) (keptTo_len _ _ _)
def compactTR (l : List S49) (v : Int) : Int × List S49 := if tableFault l = 0 then (0, compactR l v) else (tableFault l, [])
theorem compactTR_len (l : List S49) (v : Int) (hl : l.length ≤ 1000000000) : (compactTR l v).2.length ≤ 1000000000 := by
  have := compactR_len l v
  unfold compactTR
  split
  · show (compactR l v).length ≤ _
    omega
  · simp
theorem less_total : ∀ a b : List UInt8, a ≠ b → Op.bytesLess a b = false → Op.bytesLess b a = true
  | [], [], h, _ => absurd rfl h
  | [], _ :: _, _, h => by simp [Op.bytesLess] at h
  | _ :: _, [], _, _ => rfl
  | x :: a, y :: b, hn, h => by
    simp only [Op.bytesLess, Bool.or_eq_false_iff, Bool.and_eq_false_iff, decide_eq_false_iff_not, Bool.or_eq_true, Bool.and_eq_true, decide_eq_true_eq, beq_iff_eq, beq_eq_false_iff_ne] at h ⊢
    obtain ⟨h1, h2⟩ := h
    by_cases e : x = y
    · subst e
      rcases h2 with h2 | h2
      · exact absurd rfl h2
      · exact .inr ⟨rfl, less_total a b (fun h => hn (by rw [h])) h2⟩
    · left
      rw [UInt8.lt_iff_toNat_lt] at h1 ⊢
      have : x.toNat ≠ y.toNat := fun h => e (UInt8.toNat_inj.1 h)
      omega
theorem ahead_irrefl (a : S49) : aheadR a a = false := by simp [aheadR]
theorem ahead_level {a b : S49} (h1 : aheadR a b = false) (h2 : aheadR b a = false) : a.f0.toList = b.f0.toList ∧ a.f1 = b.f1 := by
  unfold aheadR at h1 h2
  by_cases e : a.f0.toList = b.f0.toList
  · rw [if_pos e, decide_eq_false_iff_not] at h1
    rw [if_pos e.symm, decide_eq_false_iff_not] at h2
    exact ⟨e, by omega⟩
  · rw [if_neg e] at h1
    rw [if_neg (fun h => e h.symm)] at h2
    have := less_total _ _ e h1
    rw [h2] at this
    cases this
theorem ahead_congr {a b c : S49} (h0 : a.f0.toList = b.f0.toList) (h1 : a.f1 = b.f1) : aheadR a c = aheadR b c := by
  unfold aheadR
  rw [h0, h1]
theorem ahead_swo : Swo aheadR where
  asymm := fun a b h => by
    cases e : aheadR b a with
    | false => rfl
    | true => have := ahead_trans h e; rw [ahead_irrefl] at this; cases this
  ntrans := fun a b c h1 h2 => by
    cases e : aheadR a c with
    | false => rfl
    | true =>
      cases e2 : aheadR b a with
      | true => have := ahead_trans e2 e; rw [h2] at this; cases this
      | false =>
        obtain ⟨q0, q1⟩ := ahead_level h1 e2
        rw [ahead_congr q0 q1, h2] at e
        cases e
theorem cmp_lt (a b : S49) : (cmpR a b < 0 ↔ aheadR a b = true) := by
  have := cmpR_ahead a b
  cases h : aheadR a b with
  | true => rw [h] at this; simp at this; simp; omega
  | false => rw [h] at this; simp at this; simp; omega
/-- Two places of a row. -/
theorem two_at (P Q R : List S49) (x y : S49) (i j : Int) (hi : i = (P.length : Int)) (hj : j = (P.length : Int) + 1 + (Q.length : Int)) :
    rd_T49 (P ++ x :: (Q ++ y :: R)) i = x ∧ rd_T49 (P ++ x :: (Q ++ y :: R)) j = y ∧ ((P ++ x :: (Q ++ y :: R)).set i.toNat y).set j.toNat x = P ++ y :: (Q ++ x :: R) ∧ ((P ++ x :: (Q ++ y :: R)).set j.toNat x).set i.toNat y = P ++ y :: (Q ++ x :: R) ∧ 0 ≤ i ∧ i < ((P ++ x :: (Q ++ y :: R)).length : Int) ∧ 0 ≤ j ∧ j < ((P ++ x :: (Q ++ y :: R)).length : Int) := by
  have h1 : i.toNat = P.length := by omega
  have h2 : j.toNat = P.length + (Q.length + 1) := by omega
  have hs1 : ∀ (l : List S49) z, (P ++ l).set (P.length + z) = fun v => P ++ l.set z v := fun l z => by funext v; rw [List.set_append_right _ _ (by omega)]; congr 2; omega
  have hs2 : ∀ v, (P ++ x :: (Q ++ y :: R)).set P.length v = P ++ v :: (Q ++ y :: R) := fun v => by simp
  have hs3 : ∀ u v, (P ++ u :: (Q ++ y :: R)).set (P.length + (Q.length + 1)) v = P ++ u :: (Q ++ v :: R) := fun u v => by
    have := congrFun (hs1 (u :: (Q ++ y :: R)) (Q.length + 1)) v
    rw [this, List.set_cons_succ, List.set_append_right _ _ (by omega), Nat.sub_self, List.set_cons_zero]
  have hs4 : ∀ v u, (P ++ x :: (Q ++ u :: R)).set P.length v = P ++ v :: (Q ++ u :: R) := fun v u => by simp
  refine ⟨rdRow (by rw [h1]; simp), rdRow (by rw [h2]; simp [List.getElem?_append_right, List.getElem?_cons_succ]), by rw [h1, h2, hs2, hs3], by rw [h1, h2, hs3, hs4], by omega, by simp; omega, by omega, by simp; omega⟩
/-- Two stretches of one length change places. -/
theorem swapRange_loop : ∀ (X Y P Q C : List S49) (x1 x2 x3 i : Int), X.length = Y.length → x1 + i = (P.length : Int) → x2 + i = (P.length : Int) + X.length + Q.length → x3 - i = (X.length : Int) → 0 ≤ i → 0 ≤ x1 → 0 ≤ x2 → (P ++ (X ++ (Q ++ (Y ++ C)))).length ≤ 1000000 →
    Ev (fun k => slices_swapRangeCmpFunc_impl_Row.l0 k (P ++ (X ++ (Q ++ (Y ++ C)))) x1 x2 x3 i) (P ++ (Y ++ (Q ++ (X ++ C)))) := by
  intro X
  induction X with
  | nil =>
    intro Y P Q C x1 x2 x3 i hl h1 h2 h3 _ _ _ _
    obtain rfl := List.length_eq_zero_iff.1 hl.symm
    simp only [List.length_nil] at h3
    exact Ev.step (fun k => slices_swapRangeCmpFunc_impl_Row.l0.eq_2 ..) (Ev.neg (by omega) (Ev.now _))
  | cons x X ih =>
    intro Y P Q C x1 x2 x3 i hl h1 h2 h3 h4 h5 h6 hb
    cases Y with
    | nil => simp at hl
    | cons y Y =>
      simp only [List.length_cons, List.length_append] at hl h1 h2 h3 hb
      have e0 : P ++ (x :: X ++ (Q ++ (y :: Y ++ C))) = P ++ x :: ((X ++ Q) ++ y :: (Y ++ C)) := by simp
      have w1 : wrap64 (x1 + i) = x1 + i := w64 (by omega) (by omega)
      have w2 : wrap64 (x2 + i) = x2 + i := w64 (by omega) (by omega)
      have w3 : wrap64 (i + 1) = i + 1 := w64 (by omega) (by omega)
      obtain ⟨q1, q2, q3, _, q5, q6, q7, q8⟩ := two_at P (X ++ Q) (Y ++ C) x y (x1 + i) (x2 + i) (by omega) (by rw [List.length_append]; omega)
      have := ih Y (P ++ [y]) (Q ++ [x]) C x1 x2 x3 (i + 1) (by omega) (by simp; omega) (by simp; omega) (by omega) (by omega) h5 h6 (by simp; omega)
      rw [e0]
      refine Ev.step (fun k => slices_swapRangeCmpFunc_impl_Row.l0.eq_2 ..) (Ev.pos (by omega) ?_)
      rw [w1, w2, w3]
      refine Ev.pos q7 (Ev.pos q8 (Ev.pos q5 (Ev.pos q6 ?_)))
      rw [q1, q2]
      show Ev (fun k => slices_swapRangeCmpFunc_impl_Row.l0 k (((P ++ x :: ((X ++ Q) ++ y :: (Y ++ C))).set (x1 + i).toNat y).set (x2 + i).toNat x) x1 x2 x3 (i + 1)) _
      rw [q3, show P ++ y :: ((X ++ Q) ++ x :: (Y ++ C)) = (P ++ [y]) ++ (X ++ ((Q ++ [x]) ++ (Y ++ C))) by simp]
      exact Ev.eq this (by simp)
theorem swapRange_ev (P X Q Y C : List S49) (x1 x2 x3 : Int) (hl : X.length = Y.length) (h1 : x1 = (P.length : Int)) (h2 : x2 = (P.length : Int) + X.length + Q.length) (h3 : x3 = (X.length : Int)) (hb : (P ++ (X ++ (Q ++ (Y ++ C)))).length ≤ 1000000) :
    Ev (fun k => slices_swapRangeCmpFunc_impl_Row.f k (P ++ (X ++ (Q ++ (Y ++ C)))) x1 x2 x3) (P ++ (Y ++ (Q ++ (X ++ C)))) := by
  unfold slices_swapRangeCmpFunc_impl_Row.f
  exact swapRange_loop X Y P Q C x1 x2 x3 0 hl (by omega) (by omega) (by omega) (by omega) (by omega) (by omega) hb
/-- Two stretches that stand side by side change places. -/
theorem rotate_loop : ∀ (n : Nat) (U V A C : List S49), U.length + V.length ≤ n → 0 < U.length → 0 < V.length → (A ++ (U ++ (V ++ C))).length ≤ 1000000 →
    Ev (fun k => slices_rotateCmpFunc_impl_Row.l0 k (A ++ (U ++ (V ++ C))) ((A.length : Int) + U.length) (U.length : Int) (V.length : Int)) (A ++ (V ++ (U ++ C))) := by
  intro n
  induction n with
  | zero => intro U V A C hn hu; omega
  | succ n ih =>
    intro U V A C hn hu hv hb
    have hb' := hb
    simp only [List.length_append] at hb'
    have w1 : wrap64 ((A.length : Int) + U.length - U.length) = (A.length : Int) := by rw [w64 (by omega) (by omega)]; omega
    refine Ev.step (fun k => slices_rotateCmpFunc_impl_Row.l0.eq_2 ..) ?_
    by_cases he : (U.length : Int) = (V.length : Int)
    · refine Ev.pos he (Ev.bind (a := A ++ (V ++ (U ++ C))) ?_ (Ev.now _))
      rw [w1]
      have := swapRange_ev A U [] V C (A.length : Int) ((A.length : Int) + U.length) (U.length : Int) (by omega) rfl (by simp) rfl (by simpa using hb)
      simpa using this
    · refine Ev.neg he ?_
      by_cases hg : (U.length : Int) > (V.length : Int)
      · refine Ev.pos hg ?_
        rw [w1, w64 (x := (U.length : Int) - V.length) (by omega) (by omega)]
        obtain ⟨U1, U2, rfl, hU1⟩ : ∃ U1 U2, U = U1 ++ U2 ∧ U1.length = V.length := ⟨U.take V.length, U.drop V.length, (List.take_append_drop _ _).symm, by rw [List.length_take]; omega⟩
        simp only [List.length_append] at hn hu hb' hg he ⊢
        have s := swapRange_ev A U1 U2 V C (A.length : Int) ((A.length : Int) + ((U1.length + U2.length : Nat) : Int)) (V.length : Int) hU1 rfl (by omega) (by omega) (by simp; omega)
        have r := ih U2 U1 (A ++ V) C (by omega) (by omega) (by omega) (by simp; omega)
        rw [show A ++ ((U1 ++ U2) ++ (V ++ C)) = A ++ (U1 ++ (U2 ++ (V ++ C))) by simp]
        refine Ev.bind s ?_
        rw [show ((A ++ V).length : Int) + U2.length = (A.length : Int) + ((U1.length + U2.length : Nat) : Int) by simp; omega, show (A ++ V) ++ (U2 ++ (U1 ++ C)) = A ++ (V ++ (U2 ++ (U1 ++ C))) by simp] at r
        rw [show ((U1.length + U2.length : Nat) : Int) - (V.length : Int) = (U2.length : Int) by omega, show (V.length : Int) = (U1.length : Int) by omega]
        exact Ev.eq r (by simp)
      · refine Ev.neg hg ?_
        obtain ⟨V1, V2, rfl, hV2⟩ : ∃ V1 V2, V = V1 ++ V2 ∧ V2.length = U.length := ⟨V.take (V.length - U.length), V.drop (V.length - U.length), (List.take_append_drop _ _).symm, by rw [List.length_drop]; omega⟩
        simp only [List.length_append] at hn hv hb' hg he ⊢
        rw [w1, w64 (x := (A.length : Int) + U.length + ((V1.length + V2.length : Nat) : Int)) (by omega) (by omega), w64 (x := (A.length : Int) + U.length + ((V1.length + V2.length : Nat) : Int) - U.length) (by omega) (by omega), w64 (x := ((V1.length + V2.length : Nat) : Int) - U.length) (by omega) (by omega)]
        have s := swapRange_ev A U V1 V2 C (A.length : Int) ((A.length : Int) + U.length + ((V1.length + V2.length : Nat) : Int) - U.length) (U.length : Int) hV2.symm rfl (by omega) rfl (by simp; omega)
        have r := ih V2 V1 A (U ++ C) (by omega) (by omega) (by omega) (by simp; omega)
        rw [show A ++ (U ++ ((V1 ++ V2) ++ C)) = A ++ (U ++ (V1 ++ (V2 ++ C))) by simp]
        refine Ev.bind s ?_
        rw [show (A.length : Int) + V2.length = (A.length : Int) + U.length by omega, show (V2.length : Int) = (U.length : Int) by omega] at r
        rw [show ((V1.length + V2.length : Nat) : Int) - (U.length : Int) = (V1.length : Int) by omega]
        exact Ev.eq r (by simp)

/-- A row at the place behind P. -/
theorem one_at (P R : List S49) (x : S49) (i : Int) (hi : i = (P.length : Int)) : rd_T49 (P ++ x :: R) i = x ∧ 0 ≤ i ∧ i < ((P ++ x :: R).length : Int) :=
  ⟨rdRow (by rw [show i.toNat = P.length by omega]; simp), by omega, by simp; omega⟩
/-- What is sorted, of the same length. -/
def SortedOf (us ws : List S49) : Prop := Stab.Up aheadR ws ∧ Stab.Same aheadR ws us ∧ ws.length = us.length
/-- One row put into those ahead of it that stand in order, from behind. -/
theorem ins_inner (A R : List S49) (x : S49) (b i : Int) (hi0 : 0 ≤ i) (hi1 : i ≤ 1000000) : ∀ (n : Nat) (W1 W2 : List S49), W1.length = n → Stab.Up aheadR (W1 ++ W2) → (∀ w ∈ W2, aheadR x w = true) → (A ++ (W1 ++ x :: (W2 ++ R))).length ≤ 1000000 →
    ∃ W, SortedOf ((W1 ++ W2) ++ [x]) W ∧ ∀ r, Ev (fun k => slices_insertionSortCmpFunc_impl_Row.l0 k (A ++ (W ++ R)) (A.length : Int) b (i + 1)) r → Ev (fun k => slices_insertionSortCmpFunc_impl_Row.l1 k (A ++ (W1 ++ x :: (W2 ++ R))) (A.length : Int) b i ((A.length : Int) + W1.length)) r := by
  have wi : wrap64 (i + 1) = i + 1 := w64 (by omega) (by omega)
  intro n
  induction n with
  | zero =>
    intro W1 W2 hn hu hx hb
    obtain rfl := List.length_eq_zero_iff.1 hn
    obtain ⟨m1, m2⟩ := Stab.Merged.one_right ahead_swo (y := x) (u1 := []) (u2 := W2) hu (by simp) hx
    refine ⟨x :: W2, ⟨m1, m2, by simp⟩, fun r h => Ev.step (fun k => slices_insertionSortCmpFunc_impl_Row.l1.eq_2 ..) (Ev.neg (by simp) ?_)⟩
    rw [wi]
    exact h
  | succ n ih =>
    intro W1 W2 hn hu hx hb
    have hne : W1 ≠ [] := by rintro rfl; simp at hn
    obtain ⟨V, w, rfl⟩ : ∃ V w, W1 = V ++ [w] := ⟨W1.dropLast, W1.getLast hne, (List.dropLast_concat_getLast hne).symm⟩
    simp only [List.length_append, List.length_cons, List.length_nil] at hn hb
    have e0 : A ++ ((V ++ [w]) ++ x :: (W2 ++ R)) = (A ++ V) ++ w :: ([] ++ x :: (W2 ++ R)) := by simp
    obtain ⟨q1, q2, _, q4, q5, q6, q7, q8⟩ := two_at (A ++ V) [] (W2 ++ R) w x ((A.length : Int) + V.length) ((A.length : Int) + V.length + 1) (by simp) (by simp)
    have wj : wrap64 ((A.length : Int) + ((V.length + 1 : Nat) : Int) - 1) = (A.length : Int) + V.length := by rw [w64 (by omega) (by omega)]; omega
    have ej : (A.length : Int) + ((V.length + 1 : Nat) : Int) = (A.length : Int) + V.length + 1 := by omega
    rw [e0]
    simp only [List.length_append, List.length_cons, List.length_nil]
    have hgo : ∀ r, Ev (fun k => if cmpR x w < 0 then slices_insertionSortCmpFunc_impl_Row.l1 k ((A ++ V) ++ x :: ([] ++ w :: (W2 ++ R))) (A.length : Int) b i ((A.length : Int) + V.length) else slices_insertionSortCmpFunc_impl_Row.l0 k ((A ++ V) ++ w :: ([] ++ x :: (W2 ++ R))) (A.length : Int) b (i + 1)) r →
        Ev (fun k => slices_insertionSortCmpFunc_impl_Row.l1 k ((A ++ V) ++ w :: ([] ++ x :: (W2 ++ R))) (A.length : Int) b i ((A.length : Int) + ((V.length + 1 : Nat) : Int))) r := fun r h => by
      refine Ev.step (fun k => slices_insertionSortCmpFunc_impl_Row.l1.eq_2 ..) (Ev.pos (by omega) ?_)
      rw [wj, wi, ej]
      refine Ev.pos q7 (Ev.pos q8 (Ev.pos q5 (Ev.pos q6 ?_)))
      rw [q1, q2]
      refine Ev.bind (impl_compareRows_ev x w) ?_
      show Ev (fun k => if cmpR x w < 0 then slices_insertionSortCmpFunc_impl_Row.l1 k ((((A ++ V) ++ w :: ([] ++ x :: (W2 ++ R))).set ((A.length : Int) + V.length + 1).toNat w).set ((A.length : Int) + V.length).toNat x) (A.length : Int) b i ((A.length : Int) + V.length) else slices_insertionSortCmpFunc_impl_Row.l0 k ((A ++ V) ++ w :: ([] ++ x :: (W2 ++ R))) (A.length : Int) b (i + 1)) r
      rw [q4]
      exact h
    by_cases hc : aheadR x w = true
    · obtain ⟨W, ⟨s1, s2, s3⟩, h⟩ := ih V (w :: W2) (by omega) (by simpa using hu) (fun z hz => by
        rcases List.mem_cons.1 hz with rfl | hz
        · exact hc
        · exact hx z hz) (by simp; omega)
      refine ⟨W, ⟨s1, by simpa using s2, by simp at s3 ⊢; omega⟩, fun r hr => hgo r (Ev.pos ((cmp_lt x w).2 hc) ?_)⟩
      have := h r hr
      rw [show A ++ (V ++ x :: (w :: W2 ++ R)) = (A ++ V) ++ x :: ([] ++ w :: (W2 ++ R)) by simp] at this
      exact this
    · have hcf : aheadR x w = false := by simpa using hc
      have hup := (Stab.up_append.1 (Stab.up_append.1 hu).1).2.2
      obtain ⟨m1, m2⟩ := Stab.Merged.one_right ahead_swo (y := x) (u1 := V ++ [w]) (u2 := W2) hu (fun u hm => by
        rcases List.mem_append.1 hm with hm | hm
        · exact ahead_swo.ntrans x w u hcf (hup u hm w (List.mem_singleton.2 rfl))
        · obtain rfl := List.mem_singleton.1 hm
          exact hcf) hx
      refine ⟨(V ++ [w]) ++ x :: W2, ⟨m1, m2, by simp⟩, fun r hr => hgo r (Ev.neg (fun h => hc ((cmp_lt x w).1 h)) ?_)⟩
      rw [show A ++ (((V ++ [w]) ++ x :: W2) ++ R) = (A ++ V) ++ w :: ([] ++ x :: (W2 ++ R)) by simp] at hr
      exact hr
theorem ins_outer (A C : List S49) (b : Int) : ∀ (U W : List S49), Stab.Up aheadR W → (A ++ (W ++ (U ++ C))).length ≤ 1000000 → b = (A.length : Int) + W.length + U.length →
    ∃ W', SortedOf (W ++ U) W' ∧ Ev (fun k => slices_insertionSortCmpFunc_impl_Row.l0 k (A ++ (W ++ (U ++ C))) (A.length : Int) b ((A.length : Int) + W.length)) (A ++ (W' ++ C)) := by
  intro U
  induction U with
  | nil =>
    intro W hw hb hbb
    simp only [List.length_nil] at hbb
    exact ⟨W, ⟨hw, by rw [List.append_nil]; exact Stab.Same.refl _, by simp⟩, Ev.step (fun k => slices_insertionSortCmpFunc_impl_Row.l0.eq_2 ..) (Ev.neg (by omega) (Ev.now _))⟩
  | cons x U ih =>
    intro W hw hb hbb
    simp only [List.length_append, List.length_cons] at hb hbb
    obtain ⟨W1, ⟨s1, s2, s3⟩, h⟩ := ins_inner A (U ++ C) x b ((A.length : Int) + W.length) (by omega) (by omega) W.length W [] rfl (by simpa using hw) (by simp) (by simp; omega)
    rw [List.append_nil] at s2 s3
    simp only [List.length_append, List.length_cons, List.length_nil] at s3
    obtain ⟨W', ⟨t1, t2, t3⟩, e⟩ := ih W1 s1 (by simp; omega) (by omega)
    refine ⟨W', ⟨t1, ?_, by simp at t3 ⊢; omega⟩, Ev.step (fun k => slices_insertionSortCmpFunc_impl_Row.l0.eq_2 ..) (Ev.pos (by omega) ?_)⟩
    · have := t2.trans (s2.append (Stab.Same.refl U))
      simpa using this
    · rw [show (A.length : Int) + W1.length = (A.length : Int) + W.length + 1 by omega] at e
      have := h _ e
      simpa using this
theorem insertion_ev (A U C : List S49) (a b : Int) (ha : a = (A.length : Int)) (hb : b = (A.length : Int) + U.length) (hl : (A ++ (U ++ C)).length ≤ 1000000) :
    ∃ W, SortedOf U W ∧ Ev (fun k => slices_insertionSortCmpFunc_impl_Row.f k (A ++ (U ++ C)) a b) (A ++ (W ++ C)) := by
  subst ha
  have hl' := hl
  simp only [List.length_append] at hl'
  unfold slices_insertionSortCmpFunc_impl_Row.f
  rw [w64 (x := (A.length : Int) + 1) (by omega) (by omega)]
  cases U with
  | nil =>
    simp only [List.length_nil] at hb
    exact ⟨[], ⟨Stab.up_nil, Stab.Same.refl _, rfl⟩, Ev.step (fun k => slices_insertionSortCmpFunc_impl_Row.l0.eq_2 ..) (Ev.neg (by omega) (Ev.now _))⟩
  | cons u U =>
    simp only [List.length_cons] at hb hl'
    obtain ⟨W, s, e⟩ := ins_outer A C b U [u] (Stab.up_one u) (by simp; omega) (by simp; omega)
    exact ⟨W, s, e⟩
theorem half_w (lo hi : Nat) (h : lo + hi ≤ 4000000000) : wrap64 ((IntKind.u64.wrap (wrap64 ((lo : Int) + (hi : Int)))) / 2) = (((lo + hi) / 2 : Nat) : Int) := by
  rw [w64 (x := (lo : Int) + (hi : Int)) (by omega) (by omega)]
  have hw : IntKind.u64.wrap ((lo : Int) + (hi : Int)) = (lo : Int) + (hi : Int) := by
    show ((lo : Int) + (hi : Int)) % 18446744073709551616 = _
    omega
  rw [hw, w64 (by omega) (by omega)]
  omega
/-- The search by halves, of a symMerge with one row on the left. -/
theorem sym_left (l : List S49) (x : S49) (a : Int) (hx : rd_T49 l a = x) (ha0 : 0 ≤ a) (ha1 : a < (l.length : Int)) (hl : l.length ≤ 1000000) (b : Nat) (hb : b ≤ l.length) (m : Nat) :
    ∀ (d lo hi : Nat), hi - lo ≤ d → m ≤ lo → lo ≤ hi → hi ≤ b → (∀ (h : Nat) (_ : h < l.length), m ≤ h → h < lo → aheadR (l[h]) x = true) → (∀ (h : Nat) (_ : h < l.length), hi ≤ h → h < b → aheadR (l[h]) x = false) →
      (∀ (h g : Nat) (_ : h < l.length) (_ : g < l.length), m ≤ h → h ≤ g → g < b → aheadR (l[g]) (l[h]) = false) →
      ∃ i : Nat, m ≤ i ∧ i ≤ b ∧ (∀ (h : Nat) (_ : h < l.length), m ≤ h → h < i → aheadR (l[h]) x = true) ∧ (∀ (h : Nat) (_ : h < l.length), i ≤ h → h < b → aheadR (l[h]) x = false) ∧
        ∀ r : List S49, (Ev (fun k => slices_symMergeCmpFunc_impl_Row.l1 k l (i : Int) a) r → Ev (fun k => slices_symMergeCmpFunc_impl_Row.l0 k l a (lo : Int) (hi : Int)) r) := by
  intro d
  induction d with
  | zero =>
    intro lo hi hd h1 h2 h3 p1 p2 _
    obtain rfl : lo = hi := by omega
    exact ⟨lo, h1, h3, p1, p2, fun r h => Ev.step (fun k => slices_symMergeCmpFunc_impl_Row.l0.eq_2 ..) (Ev.neg (by omega) h)⟩
  | succ d ih =>
    intro lo hi hd h1 h2 h3 p1 p2 hs
    by_cases hlt : lo < hi
    · have hmid : wrap64 ((IntKind.u64.wrap (wrap64 ((lo : Int) + (hi : Int)))) / 2) = (((lo + hi) / 2 : Nat) : Int) := half_w lo hi (by omega)
      have g1 : lo ≤ (lo + hi) / 2 := by omega
      have g2 : (lo + hi) / 2 < hi := by omega
      generalize (lo + hi) / 2 = c at hmid g1 g2
      have hcl : c < l.length := by omega
      have hr := rdRow_at l (c : Int) (by omega) (by omega)
      simp only [Int.toNat_natCast] at hr
      by_cases hc : aheadR l[c] x = true
      · obtain ⟨i, q1, q2, q3, q4, he⟩ := ih (c + 1) hi (by omega) (by omega) (by omega) h3 (fun h hh a1 a2 => by
          rcases Nat.lt_or_ge h c with h5 | h5
          · exact Stab.le_lt ahead_swo (hs h c hh hcl a1 (by omega) (by omega)) hc
          · obtain rfl : h = c := by omega
            exact hc) p2 hs
        refine ⟨i, q1, q2, q3, q4, fun r h => Ev.step (fun k => slices_symMergeCmpFunc_impl_Row.l0.eq_2 ..) (Ev.pos (by omega) ?_)⟩
        rw [hmid, w64 (x := (c : Int) + 1) (by omega) (by omega)]
        refine Ev.pos (by omega) (Ev.pos (by omega) (Ev.pos ha0 (Ev.pos ha1 ?_)))
        rw [hr, hx]
        exact Ev.bind (impl_compareRows_ev l[c] x) (Ev.pos ((cmp_lt _ _).2 hc) (he r h))
      · have hcf : aheadR l[c] x = false := by simpa using hc
        obtain ⟨i, q1, q2, q3, q4, he⟩ := ih lo c (by omega) h1 g1 (by omega) p1 (fun h hh a1 a2 => by
          cases e : aheadR l[h] x with
          | false => rfl
          | true => have := Stab.le_lt ahead_swo (hs c h hcl hh (by omega) a1 a2) e; rw [hcf] at this; cases this) hs
        refine ⟨i, q1, q2, q3, q4, fun r h => Ev.step (fun k => slices_symMergeCmpFunc_impl_Row.l0.eq_2 ..) (Ev.pos (by omega) ?_)⟩
        rw [hmid]
        refine Ev.pos (by omega) (Ev.pos (by omega) (Ev.pos ha0 (Ev.pos ha1 ?_)))
        rw [hr, hx]
        exact Ev.bind (impl_compareRows_ev l[c] x) (Ev.neg (fun h => hc ((cmp_lt _ _).1 h)) (he r h))
    · exact ih lo hi (by omega) h1 h2 h3 p1 p2 hs

/-- The row moved behind those that stand ahead of it. -/
theorem move_left (x : S49) (R : List S49) (i : Int) : ∀ (V A : List S49), i - 1 = (A.length : Int) + V.length → (A ++ x :: (V ++ R)).length ≤ 1000000 →
    Ev (fun k => slices_symMergeCmpFunc_impl_Row.l1 k (A ++ x :: (V ++ R)) i (A.length : Int)) (A ++ (V ++ x :: R)) := by
  intro V
  induction V with
  | nil =>
    intro A hi hl
    simp only [List.length_append, List.length_cons, List.length_nil] at hi hl
    refine Ev.step (fun k => slices_symMergeCmpFunc_impl_Row.l1.eq_2 ..) (Ev.neg ?_ (Ev.now _))
    rw [w64 (by omega) (by omega)]
    omega
  | cons v V ih =>
    intro A hi hl
    simp only [List.length_append, List.length_cons] at hi hl
    have e0 : A ++ x :: (v :: V ++ R) = A ++ x :: ([] ++ v :: (V ++ R)) := by simp
    obtain ⟨q1, q2, q3, _, q5, q6, q7, q8⟩ := two_at A [] (V ++ R) x v (A.length : Int) ((A.length : Int) + 1) rfl (by simp)
    have r := ih (A ++ [v]) (by simp; omega) (by simp; omega)
    have w1 : wrap64 ((A.length : Int) + 1) = (A.length : Int) + 1 := w64 (by omega) (by omega)
    have wi : wrap64 (i - 1) = i - 1 := w64 (by omega) (by omega)
    rw [e0]
    refine Ev.step (fun k => slices_symMergeCmpFunc_impl_Row.l1.eq_2 ..) ?_
    rw [wi, w1]
    refine Ev.pos (by omega) (Ev.pos q7 (Ev.pos q8 (Ev.pos q5 (Ev.pos q6 ?_))))
    rw [q1, q2]
    show Ev (fun k => slices_symMergeCmpFunc_impl_Row.l1 k (((A ++ x :: ([] ++ v :: (V ++ R))).set ((A.length : Int)).toNat v).set ((A.length : Int) + 1).toNat x) i ((A.length : Int) + 1)) _
    rw [q3]
    rw [show ((A ++ [v]).length : Int) = (A.length : Int) + 1 by simp, show (A ++ [v]) ++ x :: (V ++ R) = A ++ v :: ([] ++ x :: (V ++ R)) by simp] at r
    exact Ev.eq r (by simp)
theorem move_right (y : S49) (A R : List S49) : ∀ (n : Nat) (U1 U2 : List S49), U2.length = n → (A ++ (U1 ++ (U2 ++ y :: R))).length ≤ 1000000 →
    Ev (fun k => slices_symMergeCmpFunc_impl_Row.l3 k (A ++ (U1 ++ (U2 ++ y :: R))) ((A.length : Int) + U1.length) ((A.length : Int) + U1.length + U2.length)) (A ++ (U1 ++ y :: (U2 ++ R))) := by
  intro n
  induction n generalizing R with
  | zero =>
    intro U1 U2 hn hl
    obtain rfl := List.length_eq_zero_iff.1 hn
    exact Ev.step (fun k => slices_symMergeCmpFunc_impl_Row.l3.eq_2 ..) (Ev.neg (by simp) (Ev.now _))
  | succ n ih =>
    intro U1 U2 hn hl
    have hne : U2 ≠ [] := by rintro rfl; simp at hn
    obtain ⟨V, u, rfl⟩ : ∃ V u, U2 = V ++ [u] := ⟨U2.dropLast, U2.getLast hne, (List.dropLast_concat_getLast hne).symm⟩
    simp only [List.length_append, List.length_cons, List.length_nil] at hn hl
    have e0 : A ++ (U1 ++ ((V ++ [u]) ++ y :: R)) = (A ++ (U1 ++ V)) ++ u :: ([] ++ y :: R) := by simp
    obtain ⟨q1, q2, _, q4, q5, q6, q7, q8⟩ := two_at (A ++ (U1 ++ V)) [] R u y ((A.length : Int) + U1.length + V.length) ((A.length : Int) + U1.length + V.length + 1) (by simp; omega) (by simp; omega)
    have r := ih (u :: R) U1 V (by omega) (by simp; omega)
    have w1 : wrap64 ((A.length : Int) + U1.length + ((V.length + 1 : Nat) : Int) - 1) = (A.length : Int) + U1.length + V.length := by rw [w64 (by omega) (by omega)]; omega
    rw [e0]
    simp only [List.length_append, List.length_cons, List.length_nil]
    refine Ev.step (fun k => slices_symMergeCmpFunc_impl_Row.l3.eq_2 ..) ?_
    rw [w1, show (A.length : Int) + U1.length + ((V.length + 1 : Nat) : Int) = (A.length : Int) + U1.length + V.length + 1 by omega]
    refine Ev.pos (by omega) (Ev.pos q5 (Ev.pos q6 (Ev.pos q7 (Ev.pos q8 ?_))))
    rw [q1, q2]
    show Ev (fun k => slices_symMergeCmpFunc_impl_Row.l3 k ((((A ++ (U1 ++ V)) ++ u :: ([] ++ y :: R)).set ((A.length : Int) + U1.length + V.length + 1).toNat u).set ((A.length : Int) + U1.length + V.length).toNat y) ((A.length : Int) + U1.length) ((A.length : Int) + U1.length + V.length)) _
    rw [q4]
    rw [show A ++ (U1 ++ (V ++ y :: u :: R)) = (A ++ (U1 ++ V)) ++ y :: ([] ++ u :: R) by simp] at r
    exact Ev.eq r (by simp)
/-- The search by halves, of a symMerge with one row on the right. -/
theorem sym_right (l : List S49) (y : S49) (m : Int) (hy : rd_T49 l m = y) (hm0 : 0 ≤ m) (hm1 : m < (l.length : Int)) (hl : l.length ≤ 1000000) (b : Nat) (hb : b ≤ l.length) (a : Nat) :
    ∀ (d lo hi : Nat), hi - lo ≤ d → a ≤ lo → lo ≤ hi → hi ≤ b → (∀ (h : Nat) (_ : h < l.length), a ≤ h → h < lo → aheadR y (l[h]) = false) → (∀ (h : Nat) (_ : h < l.length), hi ≤ h → h < b → aheadR y (l[h]) = true) →
      (∀ (h g : Nat) (_ : h < l.length) (_ : g < l.length), a ≤ h → h ≤ g → g < b → aheadR (l[g]) (l[h]) = false) →
      ∃ i : Nat, a ≤ i ∧ i ≤ b ∧ (∀ (h : Nat) (_ : h < l.length), a ≤ h → h < i → aheadR y (l[h]) = false) ∧ (∀ (h : Nat) (_ : h < l.length), i ≤ h → h < b → aheadR y (l[h]) = true) ∧
        ∀ r : List S49, (Ev (fun k => slices_symMergeCmpFunc_impl_Row.l3 k l (i : Int) m) r → Ev (fun k => slices_symMergeCmpFunc_impl_Row.l2 k l m (lo : Int) (hi : Int)) r) := by
  intro d
  induction d with
  | zero =>
    intro lo hi hd h1 h2 h3 p1 p2 _
    obtain rfl : lo = hi := by omega
    exact ⟨lo, h1, h3, p1, p2, fun r h => Ev.step (fun k => slices_symMergeCmpFunc_impl_Row.l2.eq_2 ..) (Ev.neg (by omega) h)⟩
  | succ d ih =>
    intro lo hi hd h1 h2 h3 p1 p2 hs
    by_cases hlt : lo < hi
    · have hmid : wrap64 ((IntKind.u64.wrap (wrap64 ((lo : Int) + (hi : Int)))) / 2) = (((lo + hi) / 2 : Nat) : Int) := half_w lo hi (by omega)
      have g1 : lo ≤ (lo + hi) / 2 := by omega
      have g2 : (lo + hi) / 2 < hi := by omega
      generalize (lo + hi) / 2 = c at hmid g1 g2
      have hcl : c < l.length := by omega
      have hr := rdRow_at l (c : Int) (by omega) (by omega)
      simp only [Int.toNat_natCast] at hr
      by_cases hc : aheadR y l[c] = true
      · obtain ⟨i, q1, q2, q3, q4, he⟩ := ih lo c (by omega) h1 g1 (by omega) p1 (fun h hh a1 a2 => Stab.lt_le ahead_swo hc (hs c h hcl hh (by omega) a1 a2)) hs
        refine ⟨i, q1, q2, q3, q4, fun r h => Ev.step (fun k => slices_symMergeCmpFunc_impl_Row.l2.eq_2 ..) (Ev.pos (by omega) ?_)⟩
        rw [hmid]
        refine Ev.pos hm0 (Ev.pos hm1 (Ev.pos (by omega) (Ev.pos (by omega) ?_)))
        rw [hr, hy]
        exact Ev.bind (impl_compareRows_ev y l[c]) (Ev.pos ((cmp_lt _ _).2 hc) (he r h))
      · have hcf : aheadR y l[c] = false := by simpa using hc
        obtain ⟨i, q1, q2, q3, q4, he⟩ := ih (c + 1) hi (by omega) (by omega) (by omega) h3 (fun h hh a1 a2 => by
          rcases Nat.lt_or_ge h c with h5 | h5
          · exact ahead_swo.ntrans y l[c] l[h] hcf (hs h c hh hcl a1 (by omega) (by omega))
          · obtain rfl : h = c := by omega
            exact hcf) p2 hs
        refine ⟨i, q1, q2, q3, q4, fun r h => Ev.step (fun k => slices_symMergeCmpFunc_impl_Row.l2.eq_2 ..) (Ev.pos (by omega) ?_)⟩
        rw [hmid, w64 (x := (c : Int) + 1) (by omega) (by omega)]
        refine Ev.pos hm0 (Ev.pos hm1 (Ev.pos (by omega) (Ev.pos (by omega) ?_)))
        rw [hr, hy]
        exact Ev.bind (impl_compareRows_ev y l[c]) (Ev.neg (fun h => hc ((cmp_lt _ _).1 h)) (he r h))
    · exact ih lo hi (by omega) h1 h2 h3 p1 p2 hs
/-- The search of a symMerge: the first place from which the right side's rows stand ahead. -/
theorem sym_mid (l : List S49) (x1 x2 x3 x18 x19 : Int) (p : Nat) (hl : l.length ≤ 1000000) (lo0 hi0 : Nat) (hb : hi0 ≤ l.length) (hp0 : hi0 ≤ p + 1) (hp1 : p - lo0 < l.length)
    (mono : ∀ (c d : Nat) (_ : c < l.length) (_ : d < l.length) (_ : p - c < l.length) (_ : p - d < l.length), lo0 ≤ c → c ≤ d → d < hi0 → aheadR (l[p - c]) (l[c]) = true → aheadR (l[p - d]) (l[d]) = true) :
    ∀ (d lo hi : Nat), hi - lo ≤ d → lo0 ≤ lo → lo ≤ hi → hi ≤ hi0 → (∀ (c : Nat) (_ : c < l.length) (_ : p - c < l.length), lo0 ≤ c → c < lo → aheadR (l[p - c]) (l[c]) = false) → (∀ (c : Nat) (_ : c < l.length) (_ : p - c < l.length), hi ≤ c → c < hi0 → aheadR (l[p - c]) (l[c]) = true) →
      ∃ s : Nat, lo0 ≤ s ∧ s ≤ hi0 ∧ (∀ (c : Nat) (_ : c < l.length) (_ : p - c < l.length), lo0 ≤ c → c < s → aheadR (l[p - c]) (l[c]) = false) ∧ (∀ (c : Nat) (_ : c < l.length) (_ : p - c < l.length), s ≤ c → c < hi0 → aheadR (l[p - c]) (l[c]) = true) ∧
        ∀ r : List S49, (Ev (fun k => if (s : Int) < x2 then slices_symMergeCmpFunc_impl_Row.j6 k l x1 x2 x3 x18 (s : Int) (wrap64 (x19 - (s : Int))) (decide (x2 < (wrap64 (x19 - (s : Int))))) else slices_symMergeCmpFunc_impl_Row.j6 k l x1 x2 x3 x18 (s : Int) (wrap64 (x19 - (s : Int))) false) r → Ev (fun k => slices_symMergeCmpFunc_impl_Row.l4 k l x1 x2 x3 x18 x19 (lo : Int) (hi : Int) (p : Int)) r) := by
  intro d
  induction d with
  | zero =>
    intro lo hi hd h1 h2 h3 p1 p2
    obtain rfl : lo = hi := by omega
    exact ⟨lo, h1, h3, p1, p2, fun r h => Ev.step (fun k => slices_symMergeCmpFunc_impl_Row.l4.eq_2 ..) (Ev.neg (by omega) h)⟩
  | succ d ih =>
    intro lo hi hd h1 h2 h3 p1 p2
    by_cases hlt : lo < hi
    · have hmid : wrap64 ((IntKind.u64.wrap (wrap64 ((lo : Int) + (hi : Int)))) / 2) = (((lo + hi) / 2 : Nat) : Int) := half_w lo hi (by omega)
      have g1 : lo ≤ (lo + hi) / 2 := by omega
      have g2 : (lo + hi) / 2 < hi := by omega
      generalize (lo + hi) / 2 = c at hmid g1 g2
      have hcl : c < l.length := by omega
      have hpc : p - c < l.length := by omega
      have wp : wrap64 ((p : Int) - (c : Int)) = ((p - c : Nat) : Int) := by rw [w64 (by omega) (by omega)]; omega
      have hr := rdRow_at l (c : Int) (by omega) (by omega)
      have hr2 := rdRow_at l ((p - c : Nat) : Int) (by omega) (by omega)
      simp only [Int.toNat_natCast] at hr hr2
      by_cases hc : aheadR l[p - c] l[c] = true
      · obtain ⟨s, q1, q2, q3, q4, he⟩ := ih lo c (by omega) h1 g1 (by omega) p1 (fun h hh hh2 a1 a2 => mono c h hcl hh hpc hh2 (by omega) a1 a2 hc)
        refine ⟨s, q1, q2, q3, q4, fun r h => Ev.step (fun k => slices_symMergeCmpFunc_impl_Row.l4.eq_2 ..) (Ev.pos (by omega) ?_)⟩
        rw [hmid, wp]
        refine Ev.pos (by omega) (Ev.pos (by omega) (Ev.pos (by omega) (Ev.pos (by omega) ?_)))
        rw [hr, hr2]
        exact Ev.bind (impl_compareRows_ev l[p - c] l[c]) (Ev.pos ((cmp_lt _ _).2 hc) (he r h))
      · have hcf : aheadR l[p - c] l[c] = false := by simpa using hc
        obtain ⟨s, q1, q2, q3, q4, he⟩ := ih (c + 1) hi (by omega) (by omega) (by omega) h3 (fun h hh hh2 a1 a2 => by
          cases e : aheadR l[p - h] l[h] with
          | false => rfl
          | true => have := mono h c hh hcl hh2 hpc a1 (by omega) (by omega) e; rw [hcf] at this; cases this) p2
        refine ⟨s, q1, q2, q3, q4, fun r h => Ev.step (fun k => slices_symMergeCmpFunc_impl_Row.l4.eq_2 ..) (Ev.pos (by omega) ?_)⟩
        rw [hmid, wp, w64 (x := (c : Int) + 1) (by omega) (by omega)]
        refine Ev.pos (by omega) (Ev.pos (by omega) (Ev.pos (by omega) (Ev.pos (by omega) ?_)))
        rw [hr, hr2]
        exact Ev.bind (impl_compareRows_ev l[p - c] l[c]) (Ev.neg (fun h => hc ((cmp_lt _ _).1 h)) (he r h))
    · exact ih lo hi (by omega) h1 h2 h3 p1 p2

theorem at_eq {l P R : List S49} {x : S49} {i : Nat} (hl : l = P ++ x :: R) (hi : i = P.length) (h : i < l.length) : l[i] = x := by
  subst hl hi
  simp
theorem seg_mem {l A V R : List S49} (hl : l = A ++ (V ++ R)) {v : S49} (hv : v ∈ V) : ∃ (h : Nat) (hh : h < l.length), A.length ≤ h ∧ h < A.length + V.length ∧ l[h] = v := by
  obtain ⟨k, hk, rfl⟩ := List.getElem_of_mem hv
  subst hl
  refine ⟨A.length + k, by simp; omega, by omega, by omega, ?_⟩
  rw [List.getElem_append_right (by omega), List.getElem_append_left (by omega)]
  congr 1
  omega
theorem seg_up {l A V R : List S49} (hl : l = A ++ (V ++ R)) (hV : Stab.Up aheadR V) (h g : Nat) (hh : h < l.length) (hg : g < l.length) (h1 : A.length ≤ h) (h2 : h ≤ g) (h3 : g < A.length + V.length) : aheadR (l[g]) (l[h]) = false := by
  subst hl
  refine Stab.up_at ahead_swo hV (i := h - A.length) (j := g - A.length) ?_ ?_ (by omega)
  all_goals
    rw [List.getElem_append_right (by omega), List.getElem_append_left (by omega)]
    exact List.getElem?_eq_getElem (by omega)
theorem up_first {x u : S49} {R : List S49} (h : Stab.Up aheadR (x :: R)) (hu : u ∈ x :: R) : aheadR u x = false := by
  rcases List.mem_cons.1 hu with rfl | hu
  · exact ahead_irrefl _
  · exact (List.pairwise_cons.1 h).1 u hu
theorem up_last {y v : S49} {R : List S49} (h : Stab.Up aheadR (R ++ [y])) (hv : v ∈ R ++ [y]) : aheadR y v = false := by
  rcases List.mem_append.1 hv with hv | hv
  · exact (Stab.up_append.1 h).2.2 v hv y (List.mem_singleton.2 rfl)
  · obtain rfl := List.mem_singleton.1 hv
    exact ahead_irrefl _
theorem sym_one_left (x : S49) (V A C : List S49) (hV : Stab.Up aheadR V) (hb : (A ++ ([x] ++ (V ++ C))).length ≤ 1000000) :
    ∃ W, Stab.Merged aheadR [x] V W ∧ W.length = 1 + V.length ∧ Ev (fun k => slices_symMergeCmpFunc_impl_Row.l0 k (A ++ ([x] ++ (V ++ C))) (A.length : Int) (((A.length + 1 : Nat)) : Int) ((A.length + 1 + V.length : Nat) : Int)) (A ++ (W ++ C)) := by
  have hb' := hb
  simp only [List.length_append, List.length_cons, List.length_nil] at hb'
  have e0 : A ++ ([x] ++ (V ++ C)) = (A ++ [x]) ++ (V ++ C) := by simp
  have hlen : (A ++ ([x] ++ (V ++ C))).length = A.length + 1 + V.length + C.length := by simp; omega
  obtain ⟨i, q1, q2, q3, q4, he⟩ := sym_left (A ++ ([x] ++ (V ++ C))) x (A.length : Int) (one_at A (V ++ C) x _ rfl).1 (by omega) (by omega) hb (A.length + 1 + V.length) (by omega) (A.length + 1) V.length (A.length + 1) (A.length + 1 + V.length) (by omega) (by omega) (by omega) (by omega)
    (fun h _ h1 h2 => by omega) (fun h _ h1 h2 => by omega) (fun h g hh hg h1 h2 h3 => seg_up e0 hV h g hh hg (by simp; omega) h2 (by simp; omega))
  obtain ⟨V1, V2, rfl, hl1⟩ : ∃ V1 V2, V = V1 ++ V2 ∧ V1.length = i - (A.length + 1) := ⟨V.take (i - (A.length + 1)), V.drop (i - (A.length + 1)), (List.take_append_drop _ _).symm, by rw [List.length_take]; omega⟩
  refine ⟨V1 ++ x :: V2, Stab.Merged.one_left ahead_swo hV (fun v hv => ?_) (fun v hv => ?_), by simp; omega, he _ ?_⟩
  · obtain ⟨h, hh, h1, h2, rfl⟩ := seg_mem (l := A ++ ([x] ++ ((V1 ++ V2) ++ C))) (A := A ++ [x]) (V := V1) (R := V2 ++ C) (by simp) hv
    simp only [List.length_append, List.length_cons, List.length_nil] at h1 h2
    exact q3 h hh (by omega) (by omega)
  · obtain ⟨h, hh, h1, h2, rfl⟩ := seg_mem (l := A ++ ([x] ++ ((V1 ++ V2) ++ C))) (A := A ++ ([x] ++ V1)) (V := V2) (R := C) (by simp) hv
    simp only [List.length_append, List.length_cons, List.length_nil] at h1 h2
    exact q4 h hh (by omega) (by simp only [List.length_append]; omega)
  · have := move_left x (V2 ++ C) (i : Int) V1 A (by omega) (by simp at hb' ⊢; omega)
    rw [show A ++ ([x] ++ ((V1 ++ V2) ++ C)) = A ++ x :: (V1 ++ (V2 ++ C)) by simp]
    exact Ev.eq this (by simp)
theorem sym_one_right (y : S49) (U A C : List S49) (hU : Stab.Up aheadR U) (hb : (A ++ (U ++ ([y] ++ C))).length ≤ 1000000) :
    ∃ W, Stab.Merged aheadR U [y] W ∧ W.length = U.length + 1 ∧ Ev (fun k => slices_symMergeCmpFunc_impl_Row.l2 k (A ++ (U ++ ([y] ++ C))) ((A.length + U.length : Nat) : Int) (A.length : Int) ((A.length + U.length : Nat) : Int)) (A ++ (W ++ C)) := by
  have hb' := hb
  simp only [List.length_append, List.length_cons, List.length_nil] at hb'
  have hlen : (A ++ (U ++ ([y] ++ C))).length = A.length + U.length + 1 + C.length := by simp; omega
  obtain ⟨i, q1, q2, q3, q4, he⟩ := sym_right (A ++ (U ++ ([y] ++ C))) y ((A.length + U.length : Nat) : Int) (by rw [show A ++ (U ++ ([y] ++ C)) = (A ++ U) ++ y :: C by simp]; exact (one_at (A ++ U) C y _ (by simp)).1) (by omega) (by omega) hb (A.length + U.length) (by omega) A.length U.length A.length (A.length + U.length) (by omega) (by omega) (by omega) (by omega)
    (fun h _ h1 h2 => by omega) (fun h _ h1 h2 => by omega) (fun h g hh hg h1 h2 h3 => seg_up rfl hU h g hh hg h1 h2 h3)
  obtain ⟨U1, U2, rfl, hl1⟩ : ∃ U1 U2, U = U1 ++ U2 ∧ U1.length = i - A.length := ⟨U.take (i - A.length), U.drop (i - A.length), (List.take_append_drop _ _).symm, by rw [List.length_take]; omega⟩
  refine ⟨U1 ++ y :: U2, Stab.Merged.one_right ahead_swo hU (fun v hv => ?_) (fun v hv => ?_), by simp; omega, he _ ?_⟩
  · obtain ⟨h, hh, h1, h2, rfl⟩ := seg_mem (l := A ++ ((U1 ++ U2) ++ ([y] ++ C))) (A := A) (V := U1) (R := U2 ++ ([y] ++ C)) (by simp) hv
    exact q3 h hh (by omega) (by omega)
  · obtain ⟨h, hh, h1, h2, rfl⟩ := seg_mem (l := A ++ ((U1 ++ U2) ++ ([y] ++ C))) (A := A ++ U1) (V := U2) (R := [y] ++ C) (by simp) hv
    simp only [List.length_append] at h1 h2
    exact q4 h hh (by omega) (by simp only [List.length_append]; omega)
  · have := move_right y A C U2.length U1 U2 rfl (by simp at hb' ⊢; omega)
    rw [show A ++ ((U1 ++ U2) ++ ([y] ++ C)) = A ++ (U1 ++ (U2 ++ y :: C)) by simp, show ((A.length + (U1 ++ U2).length : Nat) : Int) = (A.length : Int) + U1.length + U2.length by simp; omega, show (i : Int) = (A.length : Int) + U1.length by omega]
    exact Ev.eq this (by simp)
/-- The place of the cut of a symMerge, and what is known of the four stretches. -/
theorem sym_cut (l U V A C : List S49) (hl : l = A ++ (U ++ (V ++ C))) (hU : Stab.Up aheadR U) (hV : Stab.Up aheadR V) (hb : l.length ≤ 1000000) (mid lo0 hi0 : Nat) (g7 : 0 < U.length) (g0 : lo0 ≤ hi0) (g1 : A.length ≤ lo0) (g2 : hi0 ≤ A.length + U.length) (g3 : hi0 ≤ mid)
    (g4 : mid + (A.length + U.length) ≤ lo0 + (A.length + U.length + V.length)) (g5 : lo0 = A.length ∨ mid + (A.length + U.length) = lo0 + (A.length + U.length + V.length)) (g6 : hi0 = A.length + U.length ∨ hi0 = mid) (x1 x3 : Int) :
    ∃ U1 U2 V1 V2, U = U1 ++ U2 ∧ V = V1 ++ V2 ∧ A.length + U1.length + V1.length = mid ∧ (∀ u ∈ U2, ∀ v ∈ V1, aheadR v u = true) ∧ (∀ u ∈ U1, ∀ v ∈ V2, aheadR v u = false) ∧
      ∀ r, (∀ b : Bool, (b = true → U2 ≠ [] ∧ V1 ≠ []) → (b = false → U2 = [] ∨ V1 = []) → Ev (fun k => slices_symMergeCmpFunc_impl_Row.j6 k l x1 ((A.length + U.length : Nat) : Int) x3 (mid : Int) ((A.length + U1.length : Nat) : Int) ((A.length + U.length + V1.length : Nat) : Int) b) r) →
        Ev (fun k => slices_symMergeCmpFunc_impl_Row.l4 k l x1 ((A.length + U.length : Nat) : Int) x3 (mid : Int) ((mid + (A.length + U.length) : Nat) : Int) (lo0 : Int) (hi0 : Int) ((mid + (A.length + U.length) - 1 : Nat) : Int)) r := by
  have hll : l.length = A.length + U.length + V.length + C.length := by rw [hl]; simp; omega
  have eV : l = (A ++ U) ++ (V ++ C) := by rw [hl]; simp
  obtain ⟨s, q1, q2, q3, q4, he⟩ := sym_mid l x1 ((A.length + U.length : Nat) : Int) x3 (mid : Int) ((mid + (A.length + U.length) : Nat) : Int) (mid + (A.length + U.length) - 1) hb lo0 hi0 (by omega) (by omega) (by omega)
    (fun c d hc hd hpc hpd h1 h2 h3 ht => by
      have a1 := seg_up hl hU c d hc hd (by omega) h2 (by omega)
      have a2 := seg_up eV hV (mid + (A.length + U.length) - 1 - d) (mid + (A.length + U.length) - 1 - c) hpd hpc (by simp; omega) (by omega) (by simp; omega)
      exact Stab.lt_le ahead_swo (Stab.le_lt ahead_swo a2 ht) a1)
    (hi0 - lo0) lo0 hi0 (by omega) (by omega) g0 (by omega) (fun c _ _ h1 h2 => by omega) (fun c _ _ h1 h2 => by omega)
  obtain ⟨z1, hz1⟩ : ∃ z1, A.length + z1 = s := ⟨s - A.length, by omega⟩
  obtain ⟨z2, hz2⟩ : ∃ z2, s + z2 = mid := ⟨mid - s, by omega⟩
  obtain ⟨U1, U2, hUe, hU1⟩ : ∃ U1 U2, U = U1 ++ U2 ∧ U1.length = z1 := ⟨U.take z1, U.drop z1, (List.take_append_drop _ _).symm, by rw [List.length_take]; omega⟩
  obtain ⟨V1, V2, hVe, hV1⟩ : ∃ V1 V2, V = V1 ++ V2 ∧ V1.length = z2 := ⟨V.take z2, V.drop z2, (List.take_append_drop _ _).symm, by rw [List.length_take]; omega⟩
  have hUl : U.length = U1.length + U2.length := by rw [hUe]; simp
  have hVl : V.length = V1.length + V2.length := by rw [hVe]; simp
  obtain ⟨u1, u2, u3⟩ := Stab.up_append.1 (hUe ▸ hU)
  obtain ⟨v1, v2, v3⟩ := Stab.up_append.1 (hVe ▸ hV)
  have hle : l = A ++ (U1 ++ (U2 ++ (V1 ++ (V2 ++ C)))) := by rw [hl, hUe, hVe]; simp
  subst hU1 hV1
  have hp : mid + (A.length + U.length) = s + (A.length + U.length + V1.length) := by omega
  refine ⟨U1, U2, V1, V2, hUe, hVe, by omega, ?_, ?_, ?_⟩
  · intro u hu v hv
    obtain ⟨x, U2', rfl⟩ : ∃ x U2', U2 = x :: U2' := by
      cases U2 with
      | nil => cases hu
      | cons x r => exact ⟨x, r, rfl⟩
    have hne1 : V1 ≠ [] := by rintro rfl; cases hv
    obtain ⟨V1', y, rfl⟩ : ∃ V1' y, V1 = V1' ++ [y] := ⟨V1.dropLast, V1.getLast hne1, (List.dropLast_concat_getLast hne1).symm⟩
    simp only [List.length_append, List.length_cons, List.length_nil] at hUl hVl hz2 hp
    have hi : s < hi0 := by omega
    have h1 : s < l.length := by omega
    have h2 : mid + (A.length + U.length) - 1 - s < l.length := by omega
    have := q4 s h1 h2 (Nat.le_refl _) hi
    rw [at_eq (l := l) (i := s) (x := x) (P := A ++ U1) (R := U2' ++ ((V1' ++ [y]) ++ (V2 ++ C))) (by rw [hle]; simp) (by simp; omega), at_eq (l := l) (i := mid + (A.length + U.length) - 1 - s) (x := y) (P := A ++ (U1 ++ (x :: U2' ++ V1'))) (R := V2 ++ C) (by rw [hle]; simp) (by simp; omega)] at this
    exact Stab.lt_le ahead_swo (Stab.le_lt ahead_swo (up_last v1 hv) this) (up_first u2 hu)
  · intro u hu v hv
    obtain ⟨y, V2', rfl⟩ : ∃ y V2', V2 = y :: V2' := by
      cases V2 with
      | nil => cases hv
      | cons x r => exact ⟨x, r, rfl⟩
    have hne1 : U1 ≠ [] := by rintro rfl; cases hu
    obtain ⟨U1', x, rfl⟩ : ∃ U1' x, U1 = U1' ++ [x] := ⟨U1.dropLast, U1.getLast hne1, (List.dropLast_concat_getLast hne1).symm⟩
    simp only [List.length_append, List.length_cons, List.length_nil] at hUl hVl hz1
    have hi : lo0 ≤ s - 1 := by omega
    have h1 : s - 1 < l.length := by omega
    have h2 : mid + (A.length + U.length) - 1 - (s - 1) < l.length := by omega
    have := q3 (s - 1) h1 h2 hi (by omega)
    rw [at_eq (l := l) (i := s - 1) (x := x) (P := A ++ U1') (R := U2 ++ (V1 ++ (y :: V2' ++ C))) (by rw [hle]; simp) (by simp; omega), at_eq (l := l) (i := mid + (A.length + U.length) - 1 - (s - 1)) (x := y) (P := A ++ ((U1' ++ [x]) ++ (U2 ++ V1))) (R := V2' ++ C) (by rw [hle]; simp) (by simp; omega)] at this
    exact ahead_swo.ntrans _ _ _ (up_first v2 hv) (ahead_swo.ntrans _ _ _ this (up_last u1 hu))
  · intro r hr
    refine he r ?_
    have we : wrap64 (((mid + (A.length + U.length) : Nat) : Int) - (s : Int)) = ((A.length + U.length + V1.length : Nat) : Int) := by rw [w64 (by omega) (by omega)]; omega
    rw [we]
    rw [hz1] at hr
    by_cases c1 : U2 = []
    · exact Ev.neg (by rw [c1] at hUl; simp at hUl; omega) (hr false (by simp) (fun _ => .inl c1))
    · have hp1 := List.length_pos_iff.2 c1
      refine Ev.pos (by omega) (hr _ (fun h => ⟨c1, ?_⟩) (fun h => .inr ?_))
      · rintro rfl
        simp only [decide_eq_true_eq, List.length_nil] at h
        omega
      · simp only [decide_eq_false_iff_not] at h
        exact List.length_eq_zero_iff.1 (by omega)
/-- Two rising stretches side by side, merged in place. -/
theorem sym_ev : ∀ (n : Nat) (U V A C : List S49), U.length + V.length ≤ n → Stab.Up aheadR U → Stab.Up aheadR V → (A ++ (U ++ (V ++ C))).length ≤ 1000000 →
    ∃ W, Stab.Merged aheadR U V W ∧ W.length = U.length + V.length ∧ (U = [] ∨ V = [] → W = U ++ V) ∧
      (U ≠ [] → V ≠ [] → Ev (fun k => slices_symMergeCmpFunc_impl_Row.f k (A ++ (U ++ (V ++ C))) (A.length : Int) ((A.length + U.length : Nat) : Int) ((A.length + U.length + V.length : Nat) : Int)) (A ++ (W ++ C))) := by
  intro n
  induction n with
  | zero =>
    intro U V A C hn hU hV _
    obtain rfl := List.length_eq_zero_iff.1 (show U.length = 0 by omega)
    exact ⟨V, Stab.Merged.nil_left hV, by simp, fun _ => rfl, fun h => absurd rfl h⟩
  | succ n ih =>
    intro U V A C hn hU hV hb
    have hb' := hb
    simp only [List.length_append] at hb'
    by_cases hu0 : U.length = 0
    · obtain rfl := List.length_eq_zero_iff.1 hu0
      exact ⟨V, Stab.Merged.nil_left hV, by simp, fun _ => rfl, fun h => absurd rfl h⟩
    by_cases hv0 : V.length = 0
    · obtain rfl := List.length_eq_zero_iff.1 hv0
      exact ⟨U, Stab.Merged.nil_right hU, by simp, fun _ => by simp, fun _ h => absurd rfl h⟩
    have hne : U = [] ∨ V = [] → False := by rintro (rfl | rfl) <;> simp at hu0 hv0
    have w1 := am (show wrap64 (((A.length + U.length : Nat) : Int) - (A.length : Int)) = (U.length : Int) from by rw [w64 (by omega) (by omega)]; omega)
    have w2 := am (show wrap64 (((A.length + U.length + V.length : Nat) : Int) - ((A.length + U.length : Nat) : Int)) = (V.length : Int) from by rw [w64 (by omega) (by omega)]; omega)
    by_cases hu1 : U.length = 1
    · obtain ⟨x, rfl⟩ := List.length_eq_one_iff.1 hu1
      obtain ⟨W, m1, m2, m3⟩ := sym_one_left x V A C hV hb
      refine ⟨W, m1, by simpa using m2, fun h => (hne h).elim, fun _ _ => Ev.step (fun k => slices_symMergeCmpFunc_impl_Row.f.eq_2 ..) (Ev.pos (by rw [w1.out]; rfl) m3)⟩
    by_cases hv1 : V.length = 1
    · obtain ⟨y, rfl⟩ := List.length_eq_one_iff.1 hv1
      obtain ⟨W, m1, m2, m3⟩ := sym_one_right y U A C hU hb
      refine ⟨W, m1, by simpa using m2, fun h => (hne h).elim, fun _ _ => Ev.step (fun k => slices_symMergeCmpFunc_impl_Row.f.eq_2 ..) (Ev.neg (by rw [w1.out]; omega) (Ev.pos (by rw [w2.out]; rfl) m3))⟩
    have wm := am (show wrap64 ((IntKind.u64.wrap (wrap64 ((A.length : Int) + ((A.length + U.length + V.length : Nat) : Int)))) / 2) = (((A.length + (A.length + U.length + V.length)) / 2 : Nat) : Int) from half_w A.length (A.length + U.length + V.length) (by omega))
    obtain ⟨mid, hmid⟩ : ∃ mid, mid = (A.length + (A.length + U.length + V.length)) / 2 := ⟨_, rfl⟩
    have wn := am (show wrap64 ((mid : Int) + ((A.length + U.length : Nat) : Int)) = ((mid + (A.length + U.length) : Nat) : Int) from by rw [w64 (by omega) (by omega)]; omega)
    have wp := am (show wrap64 (((mid + (A.length + U.length) : Nat) : Int) - 1) = ((mid + (A.length + U.length) - 1 : Nat) : Int) from by rw [w64 (by omega) (by omega)]; omega)
    have hll : (A ++ (U ++ (V ++ C))).length = A.length + U.length + V.length + C.length := by simp; omega
    obtain ⟨lo0, hi0, U1, U2, V1, V2, hUe, hVe, hmd, H1, H2, he⟩ : ∃ (lo0 hi0 : Nat) (U1 U2 V1 V2 : List S49), U = U1 ++ U2 ∧ V = V1 ++ V2 ∧ A.length + U1.length + V1.length = mid ∧ (∀ u ∈ U2, ∀ v ∈ V1, aheadR v u = true) ∧ (∀ u ∈ U1, ∀ v ∈ V2, aheadR v u = false) ∧
        ∀ r, (∀ b : Bool, (b = true → U2 ≠ [] ∧ V1 ≠ []) → (b = false → U2 = [] ∨ V1 = []) → Ev (fun k => slices_symMergeCmpFunc_impl_Row.j6 k (A ++ (U ++ (V ++ C))) (A.length : Int) ((A.length + U.length : Nat) : Int) ((A.length + U.length + V.length : Nat) : Int) (mid : Int) ((A.length + U1.length : Nat) : Int) ((A.length + U.length + V1.length : Nat) : Int) b) r) →
          Ev (fun k => slices_symMergeCmpFunc_impl_Row.f k (A ++ (U ++ (V ++ C))) (A.length : Int) ((A.length + U.length : Nat) : Int) ((A.length + U.length + V.length : Nat) : Int)) r := by
      by_cases h : mid < A.length + U.length
      · obtain ⟨lo0, hlo⟩ : ∃ lo0, lo0 + (A.length + U.length + V.length) = mid + (A.length + U.length) := ⟨mid + (A.length + U.length) - (A.length + U.length + V.length), by omega⟩
        have wl := am (show wrap64 (((mid + (A.length + U.length) : Nat) : Int) - ((A.length + U.length + V.length : Nat) : Int)) = (lo0 : Int) from by rw [w64 (by omega) (by omega)]; omega)
        obtain ⟨U1, U2, V1, V2, e1, e2, e3, e4, e5, e6⟩ := sym_cut _ U V A C rfl hU hV hb mid lo0 mid (by omega) (by omega) (by omega) (by omega) (by omega) (by omega) (.inr hlo.symm) (.inr rfl) (A.length : Int) ((A.length + U.length + V.length : Nat) : Int)
        refine ⟨lo0, mid, U1, U2, V1, V2, e1, e2, e3, e4, e5, fun r hr => Ev.step (fun k => slices_symMergeCmpFunc_impl_Row.f.eq_2 ..) (Ev.neg (by rw [w1.out]; omega) (Ev.neg (by rw [w2.out]; omega) ?_))⟩
        rw [wm.out, ← hmid, wn.out]
        refine Ev.pos (by omega) (Ev.step (fun k => slices_symMergeCmpFunc_impl_Row.j4.eq_2 ..) ?_)
        rw [wl.out, wp.out]
        exact e6 r hr
      · obtain ⟨U1, U2, V1, V2, e1, e2, e3, e4, e5, e6⟩ := sym_cut _ U V A C rfl hU hV hb mid A.length (A.length + U.length) (by omega) (by omega) (by omega) (by omega) (by omega) (by omega) (.inl rfl) (.inl rfl) (A.length : Int) ((A.length + U.length + V.length : Nat) : Int)
        refine ⟨A.length, A.length + U.length, U1, U2, V1, V2, e1, e2, e3, e4, e5, fun r hr => Ev.step (fun k => slices_symMergeCmpFunc_impl_Row.f.eq_2 ..) (Ev.neg (by rw [w1.out]; omega) (Ev.neg (by rw [w2.out]; omega) ?_))⟩
        rw [wm.out, ← hmid, wn.out]
        refine Ev.neg (by omega) (Ev.step (fun k => slices_symMergeCmpFunc_impl_Row.j4.eq_2 ..) ?_)
        rw [wp.out]
        exact e6 r hr
    have hUl : U.length = U1.length + U2.length := by rw [hUe]; simp
    have hVl : V.length = V1.length + V2.length := by rw [hVe]; simp
    obtain ⟨u1, u2, u3⟩ := Stab.up_append.1 (hUe ▸ hU)
    obtain ⟨v1, v2, v3⟩ := Stab.up_append.1 (hVe ▸ hV)
    have hm1 : U1.length + V1.length ≤ n := by omega
    have hm2 : U2.length + V2.length ≤ n := by omega
    clear hmid wm wn wp w1 w2 hu0 hv0 hu1 hv1 hn
    obtain ⟨W1, k1, k2, k3, k4⟩ := ih U1 V1 A (U2 ++ (V2 ++ C)) hm1 u1 v1 (by simp; omega)
    obtain ⟨W2, j1, j2, j3, j4⟩ := ih U2 V2 (A ++ W1) C hm2 u2 v2 (by simp; omega)
    refine ⟨W1 ++ W2, ?_, by simp; omega, fun h => (hne h).elim, fun _ _ => ?_⟩
    · rw [hUe, hVe]
      exact Stab.Merged.halves ahead_swo (hUe ▸ hU) (hVe ▸ hV) H1 H2 k1 j1
    · refine he _ ?_
      have hmv : (mid : Int) = ((A.length + W1.length : Nat) : Int) := by omega
      obtain ⟨s, hs⟩ : ∃ s, s = A.length + U1.length := ⟨_, rfl⟩
      obtain ⟨e_, he1⟩ : ∃ e_, e_ = A.length + U.length + V1.length := ⟨_, rfl⟩
      obtain ⟨z, hz⟩ : ∃ z, z = A.length + U.length + V.length := ⟨_, rfl⟩
      obtain ⟨m, hm⟩ : ∃ m, m = A.length + U.length := ⟨_, rfl⟩
      have hle : A ++ (U ++ (V ++ C)) = A ++ (U1 ++ (U2 ++ (V1 ++ (V2 ++ C)))) := by rw [hUe, hVe]; simp
      rw [← hs, ← he1, ← hz, ← hm, hle]
      clear he H1 H2 k1 j1 u1 u2 u3 v1 v2 v3 hU hV ih hne
      have hb2 : (A ++ (U1 ++ (V1 ++ (U2 ++ (V2 ++ C))))).length ≤ 1000000 := by simp; omega
      -- the row after both blocks have changed places
      have tail : Ev (fun k => if (mid : Int) < (e_ : Int) then (if (e_ : Int) < (z : Int) then ((slices_symMergeCmpFunc_impl_Row.f k (A ++ (W1 ++ (U2 ++ (V2 ++ C)))) (mid : Int) (e_ : Int) (z : Int)).bind fun t => some t) else some (A ++ (W1 ++ (U2 ++ (V2 ++ C))))) else some (A ++ (W1 ++ (U2 ++ (V2 ++ C))))) (A ++ ((W1 ++ W2) ++ C)) := by
        by_cases c1 : U2 = []
        · refine Ev.neg (by subst c1; simp at hUl; omega) (Ev.eq (Ev.now _) ?_)
          rw [j3 (.inl c1), c1]; simp
        · refine Ev.pos (by have := List.length_pos_iff.2 c1; omega) ?_
          by_cases c2 : V2 = []
          · refine Ev.neg (by subst c2; simp at hVl; simp; omega) (Ev.eq (Ev.now _) ?_)
            rw [j3 (.inr c2), c2]; simp
          · refine Ev.pos (by have := List.length_pos_iff.2 c2; omega) ?_
            have r := j4 c1 c2
            rw [show ((A ++ W1).length : Int) = (mid : Int) by rw [hmv]; simp, show (((A ++ W1).length + U2.length : Nat) : Int) = (e_ : Int) by simp; omega, show (((A ++ W1).length + U2.length + V2.length : Nat) : Int) = (z : Int) by simp; omega, List.append_assoc] at r
            exact Ev.bind r (Ev.eq (Ev.now _) (by simp))
      have last : Ev (fun k => slices_symMergeCmpFunc_impl_Row.j7 k (A ++ (U1 ++ (V1 ++ (U2 ++ (V2 ++ C))))) (A.length : Int) (z : Int) (mid : Int) (s : Int) (e_ : Int)) (A ++ ((W1 ++ W2) ++ C)) := by
        refine Ev.step (fun k => slices_symMergeCmpFunc_impl_Row.j7.eq_2 ..) ?_
        by_cases c1 : U1 = []
        · refine Ev.neg (by subst c1; simp at hs; omega) (Ev.step (fun k => slices_symMergeCmpFunc_impl_Row.j8.eq_2 ..) (Ev.neg (by simp) ?_))
          have e1 : W1 = V1 := by rw [k3 (.inl c1), c1]; rfl
          rw [c1, List.nil_append, ← e1]
          exact tail
        · have hp1 := List.length_pos_iff.2 c1
          refine Ev.pos (by omega) (Ev.step (fun k => slices_symMergeCmpFunc_impl_Row.j8.eq_2 ..) ?_)
          by_cases c2 : V1 = []
          · refine Ev.neg (by have h0 : V1.length = 0 := by { rw [c2]; rfl }; simp; omega) ?_
            have e1 : W1 = U1 := by rw [k3 (.inr c2), c2, List.append_nil]
            rw [c2, List.nil_append, ← e1]
            exact tail
          · have hp2 := List.length_pos_iff.2 c2
            refine Ev.pos (by simp; omega) ?_
            have r := k4 c1 c2
            rw [show ((A.length + U1.length : Nat) : Int) = (s : Int) by omega, show ((A.length + U1.length + V1.length : Nat) : Int) = (mid : Int) by omega] at r
            exact Ev.bind r tail
      show ∀ b : Bool, (b = true → U2 ≠ [] ∧ V1 ≠ []) → (b = false → U2 = [] ∨ V1 = []) → Ev (fun k => slices_symMergeCmpFunc_impl_Row.j6 k (A ++ (U1 ++ (U2 ++ (V1 ++ (V2 ++ C))))) (A.length : Int) (m : Int) (z : Int) (mid : Int) (s : Int) (e_ : Int) b) (A ++ ((W1 ++ W2) ++ C))
      intro b hb1 hb0
      refine Ev.step (fun k => slices_symMergeCmpFunc_impl_Row.j6.eq_2 ..) ?_
      cases b with
      | true =>
        obtain ⟨c1, c2⟩ := hb1 rfl
        have hp1 := List.length_pos_iff.2 c1
        have hp2 := List.length_pos_iff.2 c2
        refine Ev.pos rfl ?_
        have r := rotate_loop (U2.length + V1.length) U2 V1 (A ++ U1) (V2 ++ C) (Nat.le_refl _) hp1 hp2 (by simp; omega)
        rw [show (((A ++ U1).length : Int) + U2.length) = (m : Int) by simp; omega] at r
        have wr1 := am (show wrap64 ((m : Int) - (s : Int)) = (U2.length : Int) from by rw [w64 (by omega) (by omega)]; omega)
        have wr2 := am (show wrap64 ((e_ : Int) - (m : Int)) = (V1.length : Int) from by rw [w64 (by omega) (by omega)]; omega)
        have r2 : Ev (fun k => slices_rotateCmpFunc_impl_Row.f k (A ++ (U1 ++ (U2 ++ (V1 ++ (V2 ++ C))))) (s : Int) (m : Int) (e_ : Int)) (A ++ (U1 ++ (V1 ++ (U2 ++ (V2 ++ C))))) := by
          unfold slices_rotateCmpFunc_impl_Row.f
          rw [wr1.out, wr2.out]
          simp only [List.append_assoc] at r
          exact r
        exact Ev.bind r2 last
      | false =>
        refine Ev.neg (by simp) ?_
        rw [show A ++ (U1 ++ (U2 ++ (V1 ++ (V2 ++ C)))) = A ++ (U1 ++ (V1 ++ (U2 ++ (V2 ++ C)))) by rcases hb0 rfl with h | h <;> rw [h] <;> simp]
        exact last

/-- Blocks of twenty, each put in order by insertion. -/
theorem stable_first (N : Nat) (hN : N ≤ 1000000) : ∀ (m : Nat) (ds rest : List S49), rest.length ≤ m → Stab.Front aheadR 20 ds → (ds ++ rest).length = N →
    ∃ ws, Stab.Blocks aheadR 20 ws ∧ Stab.Same aheadR ws (ds ++ rest) ∧ ws.length = N ∧ ∀ r, Ev (fun k => slices_stableCmpFunc_impl_Row.l1 k ws (N : Int) 20) r → Ev (fun k => slices_stableCmpFunc_impl_Row.l0 k (ds ++ rest) (N : Int) 20 (ds.length : Int) ((ds.length : Int) + 20)) r := by
  intro m
  induction m with
  | zero =>
    intro ds rest hm hf hl
    obtain rfl := List.length_eq_zero_iff.1 (show rest.length = 0 by omega)
    rw [List.append_nil] at hl
    obtain ⟨W, ⟨w1, w2, w3⟩, he⟩ := insertion_ev ds [] [] (ds.length : Int) (N : Int) rfl (by simp; omega) (by simp; omega)
    obtain rfl : W = [] := List.length_eq_zero_iff.1 (by rw [w3]; rfl)
    refine ⟨ds, hf.2, by rw [List.append_nil]; exact Stab.Same.refl _, hl, fun r h => Ev.step (fun k => slices_stableCmpFunc_impl_Row.l0.eq_2 ..) (Ev.neg (by omega) ?_)⟩
    exact Ev.bind (Ev.eq he (by simp)) h
  | succ m ih =>
    intro ds rest hm hf hl
    have hl' := hl
    rw [List.length_append] at hl'
    by_cases hc : ds.length + 20 ≤ N
    · obtain ⟨U, C, rfl, hU⟩ : ∃ U C, rest = U ++ C ∧ U.length = 20 := ⟨rest.take 20, rest.drop 20, (List.take_append_drop _ _).symm, by rw [List.length_take]; omega⟩
      rw [List.length_append] at hl' hm
      obtain ⟨W, ⟨w1, w2, w3⟩, he⟩ := insertion_ev ds U C (ds.length : Int) ((ds.length : Int) + 20) rfl (by omega) (by omega)
      obtain ⟨ws, q1, q2, q3, q4⟩ := ih (ds ++ W) C (by omega) (hf.snoc (by omega) w1) (by simp; omega)
      have hw := am (show wrap64 ((ds.length : Int) + 20 + 20) = (ds.length : Int) + 20 + 20 from w64 (by omega) (by omega))
      refine ⟨ws, q1, q2.trans ?_, q3, fun r h => Ev.step (fun k => slices_stableCmpFunc_impl_Row.l0.eq_2 ..) (Ev.pos (by omega) (Ev.bind he ?_))⟩
      · rw [List.append_assoc]
        exact (Stab.Same.refl ds).append (w2.append (Stab.Same.refl C))
      · have := q4 r h
        rw [show ((ds ++ W).length : Int) = (ds.length : Int) + 20 by simp; omega, List.append_assoc] at this
        rw [hw.out]
        exact this
    · obtain ⟨W, ⟨w1, w2, w3⟩, he⟩ := insertion_ev ds rest [] (ds.length : Int) (N : Int) rfl (by omega) (by simp; omega)
      refine ⟨ds ++ W, hf.blocks (Stab.Blocks.short (by omega) w1), (Stab.Same.refl ds).append w2, by simp; omega, fun r h => Ev.step (fun k => slices_stableCmpFunc_impl_Row.l0.eq_2 ..) (Ev.neg (by omega) ?_)⟩
      rw [List.append_nil, List.append_nil] at he
      exact Ev.bind he h
/-- One round of merges: blocks of bs become blocks of twice as many. -/
theorem stable_round (N : Nat) (hN : N ≤ 1000000) (bs : Nat) (hb0 : 0 < bs) (hb1 : bs < N) : ∀ (m : Nat) (ds rest : List S49), rest.length ≤ m → Stab.Front aheadR (2 * bs) ds → Stab.Blocks aheadR bs rest → (ds ++ rest).length = N →
    ∃ ws, Stab.Blocks aheadR (2 * bs) ws ∧ Stab.Same aheadR ws (ds ++ rest) ∧ ws.length = N ∧ ∀ r, Ev (fun k => slices_stableCmpFunc_impl_Row.l1 k ws (N : Int) ((2 * bs : Nat) : Int)) r → Ev (fun k => slices_stableCmpFunc_impl_Row.l2 k (ds ++ rest) (N : Int) (bs : Int) (ds.length : Int) ((ds.length + 2 * bs : Nat) : Int)) r := by
  have wb := am (show wrap64 ((bs : Int) * 2) = ((2 * bs : Nat) : Int) from by rw [w64 (by omega) (by omega)]; omega)
  intro m
  induction m with
  | zero =>
    intro ds rest hm hf hr hl
    obtain rfl := List.length_eq_zero_iff.1 (show rest.length = 0 by omega)
    rw [List.append_nil] at hl
    have wd := am (show wrap64 ((ds.length : Int) + (bs : Int)) = ((ds.length + bs : Nat) : Int) from by rw [w64 (by omega) (by omega)]; omega)
    refine ⟨ds, hf.2, by rw [List.append_nil]; exact Stab.Same.refl _, hl, fun r h => Ev.step (fun k => slices_stableCmpFunc_impl_Row.l2.eq_2 ..) (Ev.neg (by omega) (Ev.neg (by rw [wd.out]; omega) ?_))⟩
    rw [wb.out, List.append_nil]
    exact h
  | succ m ih =>
    intro ds rest hm hf hr hl
    have hl' := hl
    rw [List.length_append] at hl'
    have wd := am (show wrap64 ((ds.length : Int) + (bs : Int)) = ((ds.length + bs : Nat) : Int) from by rw [w64 (by omega) (by omega)]; omega)
    by_cases hc : ds.length + 2 * bs ≤ N
    · have e1 : rest.take bs ++ ((rest.drop bs).take bs ++ (rest.drop bs).drop bs) = rest := by rw [List.take_append_drop, List.take_append_drop]
      have hU := hr.head
      have hV := hr.drop.head
      have hC := hr.drop.drop
      have n1 : (rest.take bs).length = bs := by rw [List.length_take]; omega
      have n2 : ((rest.drop bs).take bs).length = bs := by rw [List.length_take, List.length_drop]; omega
      generalize rest.take bs = U at e1 hU n1
      generalize (rest.drop bs).take bs = V at e1 hV n2
      generalize (rest.drop bs).drop bs = C at e1 hC
      subst e1
      rw [List.length_append, List.length_append] at hl' hm
      obtain ⟨W, ⟨m1, m2⟩, m3, _, m4⟩ := sym_ev (U.length + V.length) U V ds C (Nat.le_refl _) hU hV (by omega)
      have he := m4 (by rintro rfl; simp at n1; omega) (by rintro rfl; simp at n2; omega)
      obtain ⟨ws, q1, q2, q3, q4⟩ := ih (ds ++ W) C (by omega) (hf.snoc (by omega) m1) hC (by simp; omega)
      have w2 := am (show wrap64 (2 * (bs : Int)) = ((2 * bs : Nat) : Int) from by rw [w64 (by omega) (by omega)]; omega)
      have w3 := am (show wrap64 (((ds.length + 2 * bs : Nat) : Int) + ((2 * bs : Nat) : Int)) = ((ds.length + 2 * bs + 2 * bs : Nat) : Int) from by rw [w64 (by omega) (by omega)]; omega)
      refine ⟨ws, q1, q2.trans ?_, q3, fun r h => Ev.step (fun k => slices_stableCmpFunc_impl_Row.l2.eq_2 ..) (Ev.pos (by omega) ?_)⟩
      · have := (Stab.Same.refl (lt := aheadR) ds).append (m2.append (Stab.Same.refl C))
        simpa using this
      · have := q4 r h
        rw [show (((ds ++ W).length : Nat) : Int) = ((ds.length + 2 * bs : Nat) : Int) by simp; omega, show (((ds ++ W).length + 2 * bs : Nat) : Int) = ((ds.length + 2 * bs + 2 * bs : Nat) : Int) by simp; omega, List.append_assoc] at this
        rw [wd.out, w2.out, w3.out]
        rw [n1, n2, show ds.length + bs + bs = ds.length + 2 * bs by omega] at he
        exact Ev.bind he this
    · by_cases hc2 : ds.length + bs < N
      · have e1 : rest.take bs ++ rest.drop bs = rest := List.take_append_drop _ _
        have hU := hr.head
        have n1 : (rest.take bs).length = bs := by rw [List.length_take]; omega
        have n2 : (rest.drop bs).length = rest.length - bs := List.length_drop ..
        have hV := hr.drop.whole (by omega)
        generalize rest.take bs = U at e1 hU n1
        generalize rest.drop bs = V at e1 hV n2
        subst e1
        rw [List.length_append] at hl' hm n2
        obtain ⟨W, ⟨m1, m2⟩, m3, _, m4⟩ := sym_ev (U.length + V.length) U V ds [] (Nat.le_refl _) hU hV (by simp; omega)
        have he := m4 (by rintro rfl; simp at n1; omega) (by rintro rfl; simp at hl'; omega)
        refine ⟨ds ++ W, hf.blocks (Stab.Blocks.short (by omega) m1), (Stab.Same.refl ds).append m2, by simp; omega, fun r h => Ev.step (fun k => slices_stableCmpFunc_impl_Row.l2.eq_2 ..) (Ev.neg (by omega) (Ev.pos (by rw [wd.out]; omega) ?_))⟩
        rw [wd.out, wb.out]
        rw [n1, show ds.length + bs + V.length = N by omega, List.append_nil, List.append_nil] at he
        exact Ev.bind he h
      · refine ⟨ds ++ rest, hf.blocks (Stab.Blocks.short (by omega) (hr.whole (by omega))), Stab.Same.refl _, hl, fun r h => Ev.step (fun k => slices_stableCmpFunc_impl_Row.l2.eq_2 ..) (Ev.neg (by omega) (Ev.neg (by rw [wd.out]; omega) ?_))⟩
        rw [wb.out]
        exact h
theorem stable_rounds (N : Nat) (hN : N ≤ 1000000) : ∀ (d bs : Nat) (xs : List S49), N - bs ≤ d → 0 < bs → Stab.Blocks aheadR bs xs → xs.length = N →
    ∃ ws, SortedOf xs ws ∧ Ev (fun k => slices_stableCmpFunc_impl_Row.l1 k xs (N : Int) (bs : Int)) ws := by
  intro d
  induction d with
  | zero =>
    intro bs xs hd h0 hb hl
    exact ⟨xs, ⟨hb.whole (by omega), Stab.Same.refl _, rfl⟩, Ev.step (fun k => slices_stableCmpFunc_impl_Row.l1.eq_2 ..) (Ev.neg (by omega) (Ev.now _))⟩
  | succ d ih =>
    intro bs xs hd h0 hb hl
    by_cases hc : bs < N
    · obtain ⟨ws, q1, q2, q3, q4⟩ := stable_round N hN bs h0 hc xs.length [] xs (Nat.le_refl _) (Stab.front_nil _) hb (by simpa using hl)
      obtain ⟨vs, ⟨v1, v2, v3⟩, he⟩ := ih (2 * bs) ws (by omega) (by omega) q1 q3
      have w2 := am (show wrap64 (2 * (bs : Int)) = ((2 * bs : Nat) : Int) from by rw [w64 (by omega) (by omega)]; omega)
      refine ⟨vs, ⟨v1, v2.trans q2, by omega⟩, Ev.step (fun k => slices_stableCmpFunc_impl_Row.l1.eq_2 ..) (Ev.pos (by omega) ?_)⟩
      rw [w2.out]
      have := q4 vs he
      simpa using this
    · exact ⟨xs, ⟨hb.whole (by omega), Stab.Same.refl _, rfl⟩, Ev.step (fun k => slices_stableCmpFunc_impl_Row.l1.eq_2 ..) (Ev.neg (by omega) (Ev.now _))⟩
/-- The stable sort: in order, class for class as before. -/
theorem slices_SortStableFunc_impl_Row_ev (xs : List S49) (hl : xs.length ≤ 1000000) : ∃ ws, SortedOf xs ws ∧ Ev (fun k => slices_SortStableFunc_impl_Row.f k xs) ws := by
  obtain ⟨ws, q1, q2, q3, q4⟩ := stable_first xs.length hl xs.length [] xs (Nat.le_refl _) (Stab.front_nil _) rfl
  obtain ⟨vs, ⟨v1, v2, v3⟩, he⟩ := stable_rounds xs.length hl xs.length 20 ws (by omega) (by omega) q1 q3
  refine ⟨vs, ⟨v1, v2.trans q2, by omega⟩, ?_⟩
  have h2 : Ev (fun k => slices_stableCmpFunc_impl_Row.f k xs (xs.length : Int)) vs := by
    unfold slices_stableCmpFunc_impl_Row.f
    have := q4 vs he
    simpa using this
  unfold slices_SortStableFunc_impl_Row.f
  exact Ev.bind h2 (Ev.now _)

theorem cmp_lev (a b : S49) : (cmpR b a == 0) = Stab.lev aheadR a b := by
  apply Bool.eq_iff_iff.2
  rw [beq_iff_eq, Stab.lev_iff]
  constructor
  · intro h
    unfold cmpR at h
    rcases compare_cases b.f0.data.toList a.f0.data.toList with ⟨p, q⟩ | ⟨p, _⟩ | ⟨p, _⟩
    · rw [p, if_pos rfl] at h
      have e0 : b.f0.toList = a.f0.toList := by rw [ByteArray.toList_eq, ByteArray.toList_eq, q]
      have e1 : b.f1 = a.f1 := by
        split at h
        · cases h
        · split at h
          · cases h
          · omega
      exact ⟨by rw [ahead_congr e0 e1, ahead_irrefl], by rw [ahead_congr e0.symm e1.symm, ahead_irrefl]⟩
    · rw [p, if_neg (by decide)] at h
      cases h
    · rw [p, if_neg (by decide)] at h
      cases h
  · rintro ⟨h1, h2⟩
    obtain ⟨e0, e1⟩ := ahead_level h1 h2
    rw [ByteArray.toList_eq, ByteArray.toList_eq] at e0
    unfold cmpR
    rw [e0, e1, compare_self, if_pos rfl, if_neg (by omega), if_neg (by omega)]
/-- Of neighbours that stand level the first, each told by its neighbour. -/
def nbs : S49 → List S49 → List S49
  | _, [] => []
  | p, x :: r => if Stab.lev aheadR p x = true then nbs x r else x :: nbs x r
theorem lev_trans {a b c : S49} (h1 : Stab.lev aheadR a b = true) : Stab.lev aheadR b c = Stab.lev aheadR a c := by
  obtain ⟨p1, p2⟩ := (Stab.lev_iff a b).1 h1
  apply Bool.eq_iff_iff.2
  rw [Stab.lev_iff, Stab.lev_iff]
  exact ⟨fun ⟨q1, q2⟩ => ⟨ahead_swo.ntrans _ _ _ q1 p1, ahead_swo.ntrans _ _ _ p2 q2⟩, fun ⟨q1, q2⟩ => ⟨ahead_swo.ntrans _ _ _ q1 p2, ahead_swo.ntrans _ _ _ p1 q2⟩⟩
theorem nbs_firsts (xs : List S49) : ∀ p q : S49, Stab.lev aheadR p q = true → nbs q xs = Stab.firsts aheadR (some p) xs := by
  induction xs with
  | nil => intro p q _; rfl
  | cons x r ih =>
    intro p q h
    unfold nbs Stab.firsts
    rw [lev_trans h]
    by_cases e : Stab.lev aheadR p x = true
    · rw [if_pos e, if_pos e]
      exact ih p x e
    · rw [if_neg e, if_neg e]
      rw [ih x x ((Stab.lev_iff x x).2 ⟨ahead_irrefl _, ahead_irrefl _⟩)]
theorem merged1_ev (a b : S49) : Ev (fun k => impl_merged_1.f k a.f0 a.f1 a.f2 a.f3 b.f0 b.f1 b.f2 b.f3) (Stab.lev aheadR b a) := by
  unfold impl_merged_1.f
  refine Ev.bind (impl_compareRows_ev a b) ?_
  exact Ev.eq (Ev.now _) (cmp_lev b a)
theorem compact_l1 (off : Nat) : ∀ (rest D Q0 : List S49) (prev : S49) (x6 : List S49) (kk : Nat), (D ++ (Q0 ++ prev :: rest)).length ≤ 1000000 → off + kk = D.length + Q0.length + 1 → 1 ≤ kk → x6.length + off = (D ++ (Q0 ++ prev :: rest)).length →
    Ev (fun k => slices_CompactFunc_impl_Row.l1 k (D ++ (Q0 ++ prev :: rest)) (D.length : Int) x6 (kk : Int)) (D ++ nbs prev rest) := by
  intro rest
  induction rest with
  | nil =>
    intro D Q0 prev x6 kk hb h1 h2 h3
    simp only [List.length_append, List.length_cons, List.length_nil] at h3
    refine Ev.step (fun k => slices_CompactFunc_impl_Row.l1.eq_2 ..) (Ev.neg (by omega) (Ev.pos (by simp; omega) (Ev.pos (by omega) (Ev.pos (by simp; omega) (Ev.eq (Ev.now _) ?_)))))
    simp [nbs]
  | cons y rest ih =>
    intro D Q0 prev x6 kk hb h1 h2 h3
    have hb' := hb
    have h3' := h3
    simp only [List.length_append, List.length_cons] at h3' hb'
    have w1 := am (show wrap64 ((kk : Int) - 1) = (kk : Int) - 1 from w64 (by omega) (by omega))
    have w2 := am (show wrap64 ((kk : Int) + 1) = ((kk + 1 : Nat) : Int) from by rw [w64 (by omega) (by omega)]; omega)
    have w3 := am (show wrap64 ((D.length : Int) + 1) = ((D.length + 1 : Nat) : Int) from by rw [w64 (by omega) (by omega)]; omega)
    have e1 : (D ++ (Q0 ++ prev :: y :: rest)).length - x6.length = off := by omega
    have eD : (D ++ (Q0 ++ prev :: y :: rest)) = ((D ++ Q0) ++ [prev]) ++ y :: rest := by simp
    have r1 : rd_T49 ((D ++ (Q0 ++ prev :: y :: rest)).drop off) (kk : Int) = y := rdRow (by
      rw [Int.toNat_natCast, List.getElem?_drop, eD, List.getElem?_append_right (by simp; omega)]
      simp
      rw [show off + kk - (D.length + (Q0.length + 1)) = 0 by omega]
      rfl)
    have r2 : rd_T49 ((D ++ (Q0 ++ prev :: y :: rest)).drop off) ((kk : Int) - 1) = prev := rdRow (by
      rw [show ((kk : Int) - 1).toNat = kk - 1 by omega, List.getElem?_drop, ← List.append_assoc, List.getElem?_append_right (by simp; omega), show off + (kk - 1) - (D ++ Q0).length = 0 by simp; omega]
      rfl)
    refine Ev.step (fun k => slices_CompactFunc_impl_Row.l1.eq_2 ..) (Ev.pos (by omega) (Ev.pos (by omega) ?_))
    rw [w1.out, w2.out, w3.out, e1, r1, r2]
    refine Ev.pos (by omega) (Ev.pos (by omega) (Ev.bind (merged1_ev y prev) ?_))
    unfold nbs
    by_cases e : Stab.lev aheadR prev y = true
    · rw [if_pos e]
      refine Ev.pos e ?_
      have := ih D (Q0 ++ [prev]) y x6 (kk + 1) (by simp at hb ⊢; omega) (by simp; omega) (by omega) (by simp at h3 ⊢; omega)
      simpa using this
    · rw [if_neg e]
      refine Ev.neg e (Ev.pos (by omega) (Ev.pos (by simp; omega) ?_))
      rw [Int.toNat_natCast]
      show Ev (fun k => slices_CompactFunc_impl_Row.l1 k ((D ++ (Q0 ++ prev :: y :: rest)).set D.length y) ((D.length + 1 : Nat) : Int) x6 ((kk + 1 : Nat) : Int)) _
      obtain ⟨q, Q1, hq⟩ : ∃ q Q1, Q0 ++ [prev] = q :: Q1 := by
        cases Q0 with
        | nil => exact ⟨prev, [], rfl⟩
        | cons q r => exact ⟨q, r ++ [prev], rfl⟩
      have hql : Q1.length = Q0.length := by have := congrArg List.length hq; simp at this; omega
      have e2 : (D ++ (Q0 ++ prev :: y :: rest)).set D.length y = (D ++ [y]) ++ (Q1 ++ y :: rest) := by
        rw [show D ++ (Q0 ++ prev :: y :: rest) = D ++ ((Q0 ++ [prev]) ++ y :: rest) by simp, hq, List.set_append_right _ _ (Nat.le_refl _)]
        simp
      have := ih (D ++ [y]) Q1 y x6 (kk + 1) (by simp at hb ⊢; omega) (by simp; omega) (by omega) (by simp at h3 ⊢; omega)
      rw [e2]
      rw [show ((D ++ [y]).length) = D.length + 1 by simp] at this
      exact Ev.eq this (by simp)
/-- The walk to the first pair of neighbours that stand level. -/
theorem compact_l0 : ∀ (rest D : List S49) (prev : S49), (D ++ prev :: rest).length ≤ 1000000 →
    Ev (fun k => slices_CompactFunc_impl_Row.l0 k (D ++ prev :: rest) ((D.length + 1 : Nat) : Int)) (D ++ prev :: nbs prev rest) := by
  intro rest
  induction rest with
  | nil =>
    intro D prev hb
    exact Ev.step (fun k => slices_CompactFunc_impl_Row.l0.eq_2 ..) (Ev.neg (by simp) (Ev.eq (Ev.now _) (by simp [nbs])))
  | cons y rest ih =>
    intro D prev hb
    have hb' := hb
    simp only [List.length_append, List.length_cons] at hb'
    obtain ⟨q1, q2, _, _, q5, q6, q7, q8⟩ := two_at D [] rest prev y (D.length : Int) ((D.length + 1 : Nat) : Int) rfl (by simp)
    rw [List.nil_append] at q1 q2 q6 q8
    have w1 := am (show wrap64 (((D.length + 1 : Nat) : Int) - 1) = (D.length : Int) from by rw [w64 (by omega) (by omega)]; omega)
    have w2 := am (show wrap64 (((D.length + 1 : Nat) : Int) + 1) = ((D.length + 1 + 1 : Nat) : Int) from by rw [w64 (by omega) (by omega)]; omega)
    refine Ev.step (fun k => slices_CompactFunc_impl_Row.l0.eq_2 ..) (Ev.pos q8 (Ev.pos q7 ?_))
    rw [w1.out, w2.out, q1, q2]
    refine Ev.pos q5 (Ev.pos q6 (Ev.bind (merged1_ev y prev) ?_))
    unfold nbs
    by_cases e : Stab.lev aheadR prev y = true
    · rw [if_pos e]
      refine Ev.pos e (Ev.pos (by omega) ?_)
      rw [Int.toNat_natCast]
      have := compact_l1 (D.length + 1) rest (D ++ [prev]) [] y ((D ++ prev :: y :: rest).drop (D.length + 1)) 1 (by simp at hb ⊢; omega) (by simp) (Nat.le_refl _) (by simp; omega)
      rw [show ((D ++ [prev]).length) = D.length + 1 by simp] at this
      simpa using this
    · rw [if_neg e]
      refine Ev.neg e ?_
      have := ih (D ++ [prev]) y (by simp at hb ⊢; omega)
      rw [show ((D ++ [prev]).length) = D.length + 1 by simp] at this
      simpa using this
theorem slices_CompactFunc_impl_Row_ev (xs : List S49) (hl : xs.length ≤ 1000000) : Ev (fun k => slices_CompactFunc_impl_Row.f k xs) (Stab.firsts aheadR none xs) := by
  unfold slices_CompactFunc_impl_Row.f
  cases xs with
  | nil => exact Ev.pos (by simp) (Ev.now _)
  | cons x r =>
    have e : Stab.firsts aheadR none (x :: r) = x :: nbs x r := by rw [nbs_firsts r x x ((Stab.lev_iff x x).2 ⟨ahead_irrefl _, ahead_irrefl _⟩)]; rfl
    rw [e]
    by_cases hr : r = []
    · subst hr
      exact Ev.pos (by simp) (Ev.now _)
    · have hp := List.length_pos_iff.2 hr
      refine Ev.neg (by simp; omega) ?_
      exact compact_l0 r [] x hl

/-- Put as the reference puts. -/
theorem put_loop (x : S49) : ∀ (R D : List S49), (D ++ R).length ≤ 1000000 → Ev (fun k => spec_l5Put.l0 k (D ++ R) (D.length : Int) x.f0 x.f1 x.f2 x.f3) (D ++ Stab.put aheadR x R) := by
  intro R
  induction R with
  | nil =>
    intro D hb
    have hb' := hb
    simp only [List.length_append, List.length_nil] at hb'
    have hq : (D ++ []).length = D.length := by simp
    refine Ev.step (fun k => spec_l5Put.l0.eq_2 ..) (Ev.neg (by simp) (Ev.let (Ev.pos (by simp) (Ev.pos (by omega) (Ev.let (Ev.pos ?_ (Ev.let (Ev.let (Ev.pos ?_ (Ev.let (Ev.let (Ev.pos ?_ (Ev.eq (Ev.now _) ?_)))))))))))))
    · simp; omega
    · simp; omega
    · simp; omega
    · simp [Stab.put]
  | cons y R ih =>
    intro D hb
    have hb' := hb
    simp only [List.length_append, List.length_cons] at hb'
    have h0 : (0 : Int) ≤ (D.length : Int) := by omega
    have h1 : (D.length : Int) < ((D ++ y :: R).length : Int) := by simp; omega
    have hr : rd_T49 (D ++ y :: R) (D.length : Int) = y := rdRow (by simp)
    have w1 := am (show wrap64 ((D.length : Int) + 1) = ((D.length + 1 : Nat) : Int) from by rw [w64 (by omega) (by omega)]; omega)
    refine Ev.step (fun k => spec_l5Put.l0.eq_2 ..) (Ev.pos h1 (Ev.pos h0 ?_))
    rw [hr, w1.out]
    refine Ev.bind (Ev.is (spec_l5Ahead_eq y x)) ?_
    unfold Stab.put
    by_cases a : aheadR y x = true
    · rw [show (if aheadR y x = true then y :: Stab.put aheadR x R else if aheadR x y = true then x :: y :: R else y :: R) = y :: Stab.put aheadR x R from if_pos a]
      have := ih (D ++ [y]) (by simp at hb ⊢; omega)
      rw [show ((D ++ [y]).length) = D.length + 1 by simp] at this
      exact Ev.pos a (by simpa using this)
    · rw [show (if aheadR y x = true then y :: Stab.put aheadR x R else if aheadR x y = true then x :: y :: R else y :: R) = if aheadR x y = true then x :: y :: R else y :: R from if_neg a]
      refine Ev.neg a (Ev.bind (Ev.is (spec_l5Ahead_eq x y)) ?_)
      by_cases b : aheadR x y = true
      · rw [show (if aheadR x y = true then x :: y :: R else y :: R) = x :: y :: R from if_pos b]
        refine Ev.pos b (Ev.let (Ev.pos (by omega) (Ev.let (Ev.pos ?_ (Ev.let (Ev.let (Ev.pos ?_ (Ev.let (Ev.let (Ev.pos ?_ (Ev.eq (Ev.now _) ?_)))))))))))
        · simp; omega
        · simp; omega
        · simp; omega
        · simp
      · rw [show (if aheadR x y = true then x :: y :: R else y :: R) = y :: R from if_neg b]
        exact Ev.neg b (Ev.now _)
theorem l5Put_ev (l : List S49) (x : S49) (hl : l.length ≤ 1000000) : Ev (fun k => spec_l5Put.f k l x.f0 x.f1 x.f2 x.f3) (Stab.put aheadR x l) := by
  unfold spec_l5Put.f
  exact put_loop x l [] hl
theorem put_len (x : S49) : ∀ l : List S49, (Stab.put aheadR x l).length ≤ l.length + 1
  | [] => by simp [Stab.put]
  | y :: r => by
    have := put_len x r
    unfold Stab.put
    split
    · simp; omega
    · split <;> simp
def puts (s : List S49) (xs : List S49) : List S49 := xs.foldl (fun s x => Stab.put aheadR x s) s
theorem puts_len : ∀ (xs s : List S49), (puts s xs).length ≤ s.length + xs.length
  | [], s => by simp [puts]
  | x :: xs, s => by
    have h1 := puts_len xs (Stab.put aheadR x s)
    have h2 := put_len x s
    show (puts (Stab.put aheadR x s) xs).length ≤ _
    simp only [List.length_cons]
    omega
/-- How many rows tables have. -/
def sumR (ls : List (List S49)) : Nat := (ls.map List.length).sum
theorem sumR_cons (l : List S49) (r : List (List S49)) : sumR (l :: r) = l.length + sumR r := by simp [sumR]
theorem sumR_append (a b : List (List S49)) : sumR (a ++ b) = sumR a + sumR b := by simp [sumR]
theorem flatten_len (ls : List (List S49)) : ls.flatten.length = sumR ls := by simp [sumR, List.length_flatten]
theorem rdRR {l : List (List S49)} {i : Int} {v : List S49} (h : l[i.toNat]? = some v) : rd_L5 l i = v := by
  unfold rd_L5
  rw [List.getD_eq_getElem?_getD, h]
  rfl
theorem sumR_mem {l : List S49} {ls : List (List S49)} (h : l ∈ ls) : l.length ≤ sumR ls := by
  induction ls with
  | nil => cases h
  | cons a r ih =>
    rw [sumR_cons]
    rcases List.mem_cons.1 h with rfl | h
    · omega
    · have := ih h; omega
theorem rdRR_mid (D R : List (List S49)) (l : List S49) : rd_L5 (D ++ l :: R) (D.length : Int) = l := rdRR (by simp)
theorem sumR_drop (ls : List (List S49)) (i : Nat) (h : i < ls.length) : sumR (ls.drop i) = (ls[i]'h).length + sumR (ls.drop (i + 1)) := by
  rw [drop_cons_at ls i h, sumR_cons]
theorem concatR_ev (ls : List (List S49)) (hn : (ls.length : Int) ≤ 1000000) (hs : sumR ls < 1000000) : Ev (fun k => slices_Concat_impl_Row.f k ls) ls.flatten := by
  unfold slices_Concat_impl_Row.f
  refine Ev.upto1 (fun k (s : Int) i => slices_Concat_impl_Row.l0 k ls s ls (ls.length : Int) i) ls.length (by omega) (fun i s => 0 ≤ s ∧ s + sumR (ls.drop i.toNat) = sumR ls) ls.flatten
    (fun i s h0 h1 ⟨p0, hs'⟩ => ?_) (fun s ⟨p0, hs'⟩ => ?_) 0 0 (by omega) (by omega) ⟨by omega, by simp⟩
  · have e1 : ls[i.toNat]? = some (ls[i.toNat]'(by omega)) := List.getElem?_eq_getElem (by omega)
    have e2 := sumR_drop ls i.toNat (by omega)
    generalize ls[i.toNat]'(by omega) = l at e1 e2
    refine .inl ⟨s + l.length, ⟨by omega, by rw [show (i + 1).toNat = i.toNat + 1 by omega]; omega⟩, fun h => Ev.step (fun k => slices_Concat_impl_Row.l0.eq_2 ..) (Ev.pos h1 (Ev.pos h0 (Ev.pos h1 ?_)))⟩
    rw [rdRR e1, w64 (x := s + (l.length : Int)) (by omega) (by omega)]
    exact Ev.neg (by omega) h
  · refine Ev.step (fun k => slices_Concat_impl_Row.l0.eq_2 ..) (Ev.neg (by omega) (Ev.bind (a := []) (Ev.is (by
      unfold slices_Grow_impl_Row.f
      rw [if_pos (by omega)])) ?_))
    refine Ev.upto1 (fun k (s : List S49) i => slices_Concat_impl_Row.l1 k s ls (ls.length : Int) i) ls.length (by omega) (fun i s => s ++ (ls.drop i.toNat).flatten = ls.flatten ∧ s.length + sumR (ls.drop i.toNat) = sumR ls) ls.flatten
      (fun i s h0 h1 ⟨hf, hl⟩ => ?_) (fun s ⟨hf, hl⟩ => Ev.step (fun k => slices_Concat_impl_Row.l1.eq_2 ..) (Ev.neg (by omega) (Ev.eq (Ev.now _) (by rw [← hf, List.drop_eq_nil_of_le (by omega)]; simp)))) 0 [] (by omega) (by omega) ⟨by simp, by simp⟩
    have e1 : ls[i.toNat]? = some (ls[i.toNat]'(by omega)) := List.getElem?_eq_getElem (by omega)
    have e2 := sumR_drop ls i.toNat (by omega)
    rw [drop_cons_at ls i.toNat (by omega)] at hf
    generalize ls[i.toNat]'(by omega) = l at e1 e2 hf
    refine .inl ⟨s ++ l, ⟨by rw [show (i + 1).toNat = i.toNat + 1 by omega, ← hf]; simp, by rw [show (i + 1).toNat = i.toNat + 1 by omega]; simp; omega⟩, fun h => Ev.step (fun k => slices_Concat_impl_Row.l1.eq_2 ..) (Ev.pos h1 (Ev.pos h0 (Ev.pos h1 ?_)))⟩
    rw [rdRR e1]
    exact Ev.pos (by omega) h
theorem impl_merged_ev (ls : List (List S49)) (hn : (ls.length : Int) ≤ 1000000) (hs : sumR ls < 1000000) : Ev (fun k => impl_merged.f k ls) (puts [] ls.flatten) := by
  have hf := flatten_len ls
  obtain ⟨ws, ⟨u1, u2, u3⟩, he⟩ := slices_SortStableFunc_impl_Row_ev ls.flatten (by omega)
  have hc := slices_CompactFunc_impl_Row_ev ws (by omega)
  rw [Stab.merged_first ahead_swo ls.flatten ws u1 u2] at hc
  unfold impl_merged.f
  exact Ev.bind (concatR_ev ls hn hs) (Ev.bind he (Ev.bind hc (Ev.now _)))
theorem merge_inner (ls : List (List S49)) (i : Int) (l : List S49) (h : rd_L5 ls i = l) (h0 : 0 ≤ i) (h1 : i < (ls.length : Int)) (r : List S49) : ∀ (rest done s : List S49), l = done ++ rest → s.length + rest.length ≤ 1000000 → l.length ≤ 1000000 →
    Ev (fun k => spec_l5Merge.l0 k ls (puts s rest) (wrap64 (i + 1))) r → Ev (fun k => spec_l5Merge.l1 k ls s i (done.length : Int)) r := by
  intro rest
  induction rest with
  | nil =>
    intro done s hl hs hb hr
    refine Ev.step (fun k => spec_l5Merge.l1.eq_2 ..) (Ev.pos h0 (Ev.pos h1 ?_))
    rw [h]
    exact Ev.neg (by rw [hl]; simp) hr
  | cons x rest ih =>
    intro done s hl hs hb hr
    have hb' := hb
    rw [hl] at hb'
    simp only [List.length_append, List.length_cons] at hb' hs
    have hx : rd_T49 l (done.length : Int) = x := rdRow (by rw [hl]; simp)
    have w1 := am (show wrap64 ((done.length : Int) + 1) = ((done.length + 1 : Nat) : Int) from by rw [w64 (by omega) (by omega)]; omega)
    have hp := put_len x s
    refine Ev.step (fun k => spec_l5Merge.l1.eq_2 ..) (Ev.pos h0 (Ev.pos h1 ?_))
    rw [h, hx, w1.out]
    refine Ev.pos (by rw [hl]; simp; omega) (Ev.pos (by omega) (Ev.bind (l5Put_ev s x (by omega)) ?_))
    have := ih (done ++ [x]) (Stab.put aheadR x s) (by rw [hl]; simp) (by omega) hb hr
    rw [show ((done ++ [x]).length) = done.length + 1 by simp] at this
    exact this
theorem l5Merge_ev (ls : List (List S49)) (hn : ls.length ≤ 1000000) (hs : sumR ls ≤ 1000000) : Ev (fun k => spec_l5Merge.f k ls) (puts [] ls.flatten) := by
  have go : ∀ (rest done : List (List S49)) (s : List S49), s.length + sumR rest ≤ 1000000 → (done ++ rest).length ≤ 1000000 → Ev (fun k => spec_l5Merge.l0 k (done ++ rest) s (done.length : Int)) (puts s rest.flatten) := by
    intro rest
    induction rest with
    | nil =>
      intro done s h1 h2
      exact Ev.step (fun k => spec_l5Merge.l0.eq_2 ..) (Ev.neg (by simp) (Ev.now _))
    | cons l rest ih =>
      intro done s h1 h2
      have h2' := h2
      simp only [List.length_append, List.length_cons] at h2'
      rw [sumR_cons] at h1
      have hp := puts_len l s
      refine Ev.step (fun k => spec_l5Merge.l0.eq_2 ..) (Ev.pos (by simp; omega) ?_)
      refine merge_inner (done ++ l :: rest) (done.length : Int) l (rdRR_mid done rest l) (by omega) (by simp; omega) _ l [] s rfl (by omega) (by omega) ?_
      have w1 := am (show wrap64 ((done.length : Int) + 1) = ((done.length + 1 : Nat) : Int) from by rw [w64 (by omega) (by omega)]; omega)
      have := ih (done ++ [l]) (puts s l) (by omega) (by simp; omega)
      rw [show ((done ++ [l]).length) = done.length + 1 by simp] at this
      rw [w1.out]
      have e : puts (puts s l) rest.flatten = puts s (l :: rest).flatten := by simp [puts, List.foldl_append]
      rw [e] at this
      simpa using this
  have := go ls [] [] (by simp; omega) (by simpa using hn)
  unfold spec_l5Merge.f
  simpa using this
/-- The first fault of tables. -/
def firstFault : List (List S49) → Int
  | [] => 0
  | l :: r => if tableFault l = 0 then firstFault r else tableFault l
theorem faultless {ls : List (List S49)} (h : firstFault ls = 0) : ∀ l ∈ ls, tableFault l = 0 := by
  induction ls with
  | nil => intro l h; cases h
  | cons a r ih =>
    unfold firstFault at h
    by_cases e : tableFault a = 0
    · rw [if_pos e] at h
      intro l hl
      rcases List.mem_cons.1 hl with rfl | hl
      · exact e
      · exact ih h l hl
    · rw [if_neg e] at h
      exact absurd h e
theorem fault_len {l : List S49} (h : tableFault l = 0) : l.length ≤ 200 := by
  unfold tableFault at h
  by_cases e : (l.length : Int) > 200
  · rw [if_pos e] at h; cases h
  · omega
theorem sumR_le {ls : List (List S49)} (h : ∀ l ∈ ls, l.length ≤ 200) : sumR ls ≤ 200 * ls.length := by
  induction ls with
  | nil => simp [sumR]
  | cons a r ih =>
    have h1 := h a List.mem_cons_self
    have h2 := ih (fun l hl => h l (List.mem_cons_of_mem _ hl))
    rw [sumR_cons, List.length_cons]
    omega
/-- What merging tells. -/
def mergeR (ls : List (List S49)) : Int × List S49 := if (ls.length : Int) > 8 then (2, []) else if firstFault ls = 0 then (if ((puts [] ls.flatten).length : Int) > 200 then (2, []) else (0, puts [] ls.flatten)) else (firstFault ls, [])
theorem mergeR_len (ls : List (List S49)) : (mergeR ls).2.length ≤ 200 := by
  unfold mergeR
  split
  · simp
  · split
    · split
      · simp
      · show (puts [] ls.flatten).length ≤ 200
        omega
    · simp
theorem impl_MergeTables_ev (ls : List (List S49)) : Ev (fun k => impl_MergeTables.f k ls) (mergeR ls) := by
  unfold impl_MergeTables.f mergeR
  refine Ev.cond (fun _ => Ev.now _) (fun h8 => ?_)
  have hm : firstFault ls = 0 → Ev (fun k => impl_merged.f k ls) (puts [] ls.flatten) := fun h => by
    have := sumR_le (fun l hl => fault_len (faultless h l hl))
    exact impl_merged_ev ls (by omega) (by omega)
  have go : ∀ (rest done : List (List S49)), ls = done ++ rest → (firstFault rest = 0 → firstFault ls = 0) → Ev (fun k => impl_MergeTables.l0 k ls ls (ls.length : Int) (done.length : Int)) (if firstFault rest = 0 then (if ((puts [] ls.flatten).length : Int) > 200 then (2, []) else (0, puts [] ls.flatten)) else (firstFault rest, [])) := by
    intro rest
    induction rest with
    | nil =>
      intro done hl hf
      refine Ev.step (fun k => impl_MergeTables.l0.eq_2 ..) (Ev.neg (by rw [hl]; simp) (Ev.bind (hm (hf rfl)) ?_))
      rw [if_pos (show firstFault [] = 0 from rfl)]
      exact Ev.cond (fun _ => Ev.now _) (fun _ => Ev.now _)
    | cons l rest ih =>
      intro done hl hf
      have hn := congrArg List.length hl
      simp only [List.length_append, List.length_cons] at hn
      have w1 := am (show wrap64 ((done.length : Int) + 1) = ((done.length + 1 : Nat) : Int) from by rw [w64 (by omega) (by omega)]; omega)
      have hr : rd_L5 ls (done.length : Int) = l := by rw [hl]; exact rdRR_mid done rest l
      refine Ev.step (fun k => impl_MergeTables.l0.eq_2 ..) (Ev.pos (by omega) (Ev.pos (by omega) (Ev.pos (by omega) ?_)))
      rw [hr, w1.out]
      refine Ev.bind (impl_TableFault_ev l) ?_
      unfold firstFault
      by_cases e : tableFault l = 0
      · rw [if_pos e]
        have := ih (done ++ [l]) (by rw [hl]; simp) (fun h => hf (by unfold firstFault; rw [if_pos e]; exact h))
        rw [show ((done ++ [l]).length) = done.length + 1 by simp] at this
        exact Ev.pos e this
      · rw [if_neg e, if_neg e]
        exact Ev.neg e (Ev.now _)
  exact go ls [] rfl id
theorem spec_MergeTables_ev (ls : List (List S49)) : Ev (fun k => spec_MergeTables.f k ls) (mergeR ls) := by
  unfold spec_MergeTables.f mergeR
  refine Ev.cond (fun _ => Ev.now _) (fun h8 => ?_)
  have hm : firstFault ls = 0 → Ev (fun k => spec_l5Merge.f k ls) (puts [] ls.flatten) := fun h => by
    have := sumR_le (fun l hl => fault_len (faultless h l hl))
    exact l5Merge_ev ls (by omega) (by omega)
  have go : ∀ (rest done : List (List S49)), ls = done ++ rest → (firstFault rest = 0 → firstFault ls = 0) → Ev (fun k => spec_MergeTables.l0 k ls (done.length : Int)) (if firstFault rest = 0 then (if ((puts [] ls.flatten).length : Int) > 200 then (2, []) else (0, puts [] ls.flatten)) else (firstFault rest, [])) := by
    intro rest
    induction rest with
    | nil =>
      intro done hl hf
      refine Ev.step (fun k => spec_MergeTables.l0.eq_2 ..) (Ev.neg (by rw [hl]; simp) (Ev.bind (hm (hf rfl)) ?_))
      rw [if_pos (show firstFault [] = 0 from rfl)]
      exact Ev.cond (fun _ => Ev.now _) (fun _ => Ev.now _)
    | cons l rest ih =>
      intro done hl hf
      have hn := congrArg List.length hl
      simp only [List.length_append, List.length_cons] at hn
      have w1 := am (show wrap64 ((done.length : Int) + 1) = ((done.length + 1 : Nat) : Int) from by rw [w64 (by omega) (by omega)]; omega)
      have hr : rd_L5 ls (done.length : Int) = l := by rw [hl]; exact rdRR_mid done rest l
      refine Ev.step (fun k => spec_MergeTables.l0.eq_2 ..) (Ev.pos (by omega) (Ev.pos (by omega) ?_))
      rw [hr, w1.out]
      refine Ev.bind (spec_TableFault_ev l) ?_
      unfold firstFault
      by_cases e : tableFault l = 0
      · rw [if_pos e]
        have := ih (done ++ [l]) (by rw [hl]; simp) (fun h => hf (by unfold firstFault; rw [if_pos e]; exact h))
        rw [show ((done ++ [l]).length) = done.length + 1 by simp] at this
        exact Ev.pos e this
      · rw [if_neg e, if_neg e]
        exact Ev.neg e (Ev.now _)
  exact go ls [] rfl id

/-- Is it a row of this key, not younger? -/
def isGet (key : ByteArray) (v : Int) (x : S49) : Bool := (x.f0.toList == key.toList) && decide (x.f1 ≤ v)
/-- What a reading tells of rows. -/
def findR (l : List S49) (key : ByteArray) (v : Int) : Option S49 := l.find? (isGet key v)
/-- What GetRow tells. -/
def getR (l : List S49) (key : ByteArray) (v : Int) : Int × ByteArray :=
  if tableFault l = 0 then (match findR l key v with | some x => if x.f3 = true then (4, ⟨#[]⟩) else (0, x.f2) | none => (4, ⟨#[]⟩)) else (tableFault l, ⟨#[]⟩)
/-- A table without fault: every row is right, and they stand in their order. -/
theorem table_rows (l : List S49) : ∀ d : Nat, d ≤ l.length → tableFrom l d = 0 → ∀ i : Int, (l.length : Int) - d ≤ i → 0 ≤ i → i < (l.length : Int) → rowFault (rd_T49 l i).f0 (rd_T49 l i).f1 (rd_T49 l i).f2 (rd_T49 l i).f3 = 0 := by
  intro d
  induction d with
  | zero => intro _ _ i h0 _ h1; omega
  | succ d ih =>
    intro hd h i h0 hp h1
    unfold tableFrom at h
    simp only at h
    by_cases hr : rowFault (rd_T49 l ((l.length : Int) - ((d : Int) + 1))).f0 (rd_T49 l ((l.length : Int) - ((d : Int) + 1))).f1 (rd_T49 l ((l.length : Int) - ((d : Int) + 1))).f2 (rd_T49 l ((l.length : Int) - ((d : Int) + 1))).f3 = 0
    · rw [if_pos hr] at h
      by_cases hi : i = (l.length : Int) - ((d : Int) + 1)
      · rw [hi]
        exact hr
      · refine ih (by omega) ?_ i (by omega) hp h1
        by_cases hz : (l.length : Int) - ((d : Int) + 1) > 0
        · rw [if_pos hz] at h
          by_cases ha : aheadR (rd_T49 l ((l.length : Int) - ((d : Int) + 1) - 1)) (rd_T49 l ((l.length : Int) - ((d : Int) + 1))) = true
          · rw [if_pos ha] at h
            exact h
          · rw [if_neg ha] at h
            cases h
        · rw [if_neg hz] at h
          exact h
    · rw [if_neg hr] at h
      exact absurd h hr
def rightR (l : List S49) : Prop := l.length ≤ 200 ∧ (∀ x ∈ l, rowFault x.f0 x.f1 x.f2 x.f3 = 0) ∧ l.Pairwise (fun a b => aheadR a b = true)
theorem table_right (l : List S49) (h : tableFault l = 0) : rightR l := by
  have h2 := h
  unfold tableFault at h2
  by_cases hl : (l.length : Int) > 200
  · rw [if_pos hl] at h2
    cases h2
  rw [if_neg hl] at h2
  refine ⟨by omega, fun x hx => ?_, ?_⟩
  · obtain ⟨i, hi, rfl⟩ := List.getElem_of_mem hx
    have := table_rows l l.length (Nat.le_refl _) h2 (i : Int) (by omega) (by omega) (by omega)
    rw [rdRow_at l (i : Int) (by omega) (by omega)] at this
    exact this
  · refine List.pairwise_iff_getElem.2 (fun i j hi hj hij => ?_)
    have := table_ahead l h (j - (i + 1)) (i : Int) (by omega) (by omega)
    rw [show (i : Int) + 1 + ((j - (i + 1) : Nat) : Int) = (j : Int) by omega, rdRow_at l (i : Int) (by omega) (by omega), rdRow_at l (j : Int) (by omega) (by omega)] at this
    exact this
theorem right_table (l : List S49) (h : rightR l) : tableFault l = 0 := by
  obtain ⟨hl, hr, hp⟩ := h
  unfold tableFault
  rw [if_neg (by omega)]
  have go : ∀ d : Nat, d ≤ l.length → tableFrom l d = 0 := by
    intro d
    induction d with
    | zero => intro _; rfl
    | succ d ih =>
      intro hd
      have hx := hr _ (List.getElem_mem (show l.length - (d + 1) < l.length by omega))
      have e : rd_T49 l ((l.length : Int) - ((d : Int) + 1)) = l[l.length - (d + 1)]'(by omega) := by
        rw [show (l.length : Int) - ((d : Int) + 1) = ((l.length - (d + 1) : Nat) : Int) by omega]
        exact rdRow_at l _ (by omega) (by omega)
      unfold tableFrom
      simp only
      rw [e, if_pos hx]
      by_cases hz : (l.length : Int) - ((d : Int) + 1) > 0
      · have e2 : rd_T49 l ((l.length : Int) - ((d : Int) + 1) - 1) = l[l.length - (d + 2)]'(by omega) := by
          rw [show (l.length : Int) - ((d : Int) + 1) - 1 = ((l.length - (d + 2) : Nat) : Int) by omega]
          exact rdRow_at l _ (by omega) (by omega)
        rw [if_pos hz, e2, if_pos (List.pairwise_iff_getElem.1 hp _ _ (by omega) (by omega) (by omega))]
        exact ih (by omega)
      · rw [if_neg hz]
        exact ih (by omega)
  exact go l.length (Nat.le_refl _)
theorem right_sub {l m : List S49} (h : rightR l) (hs : m.Sublist l) : rightR m :=
  ⟨Nat.le_trans hs.length_le h.1, fun x hx => h.2.1 x (hs.subset hx), h.2.2.sublist hs⟩
theorem take_at (l : List S49) (i : Nat) (h : i < l.length) : l.take (i + 1) = l.take i ++ [rd_T49 l (i : Int)] := by
  rw [List.take_add_one, List.getElem?_eq_getElem h, rdRow_at l (i : Int) (by omega) (by omega)]
  rfl
theorem kept_sub (l : List S49) (v : Int) : ∀ i : Nat, i ≤ l.length → (keptTo l v i).Sublist (l.take i) := by
  intro i
  induction i with
  | zero => intro _; exact List.nil_sublist _
  | succ i ih =>
    intro hi
    have ih := ih (by omega)
    rw [take_at l i (by omega)]
    by_cases h : i ≠ 0 ∧ hides v (rd_T49 l ((i : Int) - 1)) (rd_T49 l (i : Int)) = true
    · rw [kept_hid h]
      exact ih.trans (List.sublist_append_left _ _)
    · rw [kept_new h]
      exact List.Sublist.append ih (List.Sublist.refl _)
theorem outStep_cases (ks : List S49) (v : Int) (out : List S49) (i : Int) :
    outStep ks v out i = out ++ [rd_T49 ks i] ∨ (outStep ks v out i = out ∧ (rd_T49 ks i).f3 = true ∧ (i = (ks.length : Int) - 1 ∨ ¬ (rd_T49 ks (i + 1)).f0.toList = (rd_T49 ks i).f0.toList)) := by
  unfold outStep
  by_cases c1 : i = (ks.length : Int) - 1
  · rw [if_pos c1]
    by_cases c2 : (rd_T49 ks i).f3 = true
    · rw [if_pos c2]
      by_cases c3 : (rd_T49 ks i).f1 > v
      · rw [if_pos c3]; exact .inl rfl
      · rw [if_neg c3]; exact .inr ⟨rfl, c2, .inl c1⟩
    · rw [if_neg c2]; exact .inl rfl
  · rw [if_neg c1]
    by_cases c2 : (rd_T49 ks i).f3 = true
    · rw [if_pos c2]
      by_cases c3 : (rd_T49 ks i).f1 > v
      · rw [if_pos c3]; exact .inl rfl
      · rw [if_neg c3]
        by_cases c4 : ¬ (rd_T49 ks (i + 1)).f0.toList = (rd_T49 ks i).f0.toList
        · rw [if_pos c4]; exact .inr ⟨rfl, c2, .inr c4⟩
        · rw [if_neg c4]; exact .inl rfl
    · rw [if_neg c2]; exact .inl rfl
theorem out_sub (ks : List S49) (v : Int) : ∀ i : Nat, i ≤ ks.length → (outTo ks v i).Sublist (ks.take i) := by
  intro i
  induction i with
  | zero => intro _; exact List.nil_sublist _
  | succ i ih =>
    intro hi
    have ih := ih (by omega)
    rw [take_at ks i (by omega)]
    show (outStep ks v (outTo ks v i) (i : Int)).Sublist _
    rcases outStep_cases ks v (outTo ks v i) (i : Int) with h | ⟨h, _, _⟩
    · rw [h]
      exact List.Sublist.append ih (List.Sublist.refl _)
    · rw [h]
      exact ih.trans (List.sublist_append_left _ _)
theorem kept_all (l : List S49) (v : Int) : (keptTo l v l.length).Sublist l := by
  have := kept_sub l v l.length (Nat.le_refl _)
  rw [List.take_length] at this
  exact this
theorem compact_sub (l : List S49) (v : Int) : (compactR l v).Sublist l := by
  have := out_sub (keptTo l v l.length) v _ (Nat.le_refl _)
  rw [List.take_length] at this
  exact this.trans (kept_all l v)
/-- What is hidden is not what a reading finds. -/
theorem kept_find (l : List S49) (v w : Int) (hw : v ≤ w) (key : ByteArray) : ∀ i : Nat, i ≤ l.length → (keptTo l v i).find? (isGet key w) = (l.take i).find? (isGet key w) := by
  intro i
  induction i with
  | zero => intro _; rw [List.take_zero]; rfl
  | succ i ih =>
    intro hi
    have ih := ih (by omega)
    rw [take_at l i (by omega), List.find?_append, ← ih]
    by_cases h : i ≠ 0 ∧ hides v (rd_T49 l ((i : Int) - 1)) (rd_T49 l (i : Int)) = true
    · rw [kept_hid h]
      obtain ⟨hz, hh⟩ := h
      by_cases hp : isGet key w (rd_T49 l (i : Int)) = true
      · have hp2 : isGet key w (rd_T49 l ((i : Int) - 1)) = true := by
          unfold isGet at hp ⊢
          unfold hides at hh
          rw [Bool.and_eq_true, beq_iff_eq, decide_eq_true_iff] at hp hh ⊢
          exact ⟨hh.1.trans hp.1, by omega⟩
        have hm : rd_T49 l ((i : Int) - 1) ∈ l.take i := by
          rw [rdRow_at l _ (by omega) (by omega)]
          exact List.mem_take_iff_getElem.2 ⟨((i : Int) - 1).toNat, by omega, rfl⟩
        have hs : ((l.take i).find? (isGet key w)).isSome = true := List.find?_isSome.2 ⟨_, hm, hp2⟩
        rw [ih]
        cases hf : (l.take i).find? (isGet key w) with
        | none => rw [hf] at hs; cases hs
        | some y => rfl
      · rw [List.find?_cons, Bool.eq_false_iff.2 hp]
        cases (keptTo l v i).find? (isGet key w) <;> rfl
    · rw [kept_new h, List.find?_append]
theorem out_find (ks : List S49) (hr : rightR ks) (v w : Int) (key : ByteArray) : ∀ i : Nat, i ≤ ks.length →
    (outTo ks v i).find? (isGet key w) = (ks.take i).find? (isGet key w) ∨ ((outTo ks v i).find? (isGet key w) = none ∧ (∃ x, (ks.take i).find? (isGet key w) = some x ∧ x.f3 = true) ∧ ∀ j : Nat, i ≤ j → (h : j < ks.length) → ¬ isGet key w ks[j] = true) := by
  intro i
  induction i with
  | zero => intro _; exact .inl (by rw [List.take_zero]; rfl)
  | succ i ih =>
    intro hi
    have hx : rd_T49 ks (i : Int) = ks[i]'(by omega) := rdRow_at ks (i : Int) (by omega) (by omega)
    rw [take_at ks i (by omega), List.find?_append]
    have hcs := outStep_cases ks v (outTo ks v i) (i : Int)
    rw [show outTo ks v (i + 1) = outStep ks v (outTo ks v i) (i : Int) from rfl]
    rcases ih (by omega) with ih | ⟨i1, ⟨x, i2, i3⟩, i4⟩
    · rcases hcs with h | ⟨h, hg, hl⟩
      · rw [h, List.find?_append, ih]
        exact .inl rfl
      · rw [h]
        cases hf : (ks.take i).find? (isGet key w) with
        | some y => exact .inl (by rw [ih, hf]; rfl)
        | none =>
          by_cases hp : isGet key w (rd_T49 ks (i : Int)) = true
          · refine .inr ⟨ih.trans hf, ⟨_, by rw [List.find?_cons, hp]; rfl, hg⟩, fun j hj hjl hpj => ?_⟩
            rcases hl with hl | hl
            · omega
            · by_cases hlast : i + 1 < ks.length
              · rw [hx, show (i : Int) + 1 = ((i + 1 : Nat) : Int) by omega, rdRow_at ks _ (by omega) (by omega)] at hl
                rw [hx] at hp
                have hk : ks[j].f0.toList = ks[i].f0.toList := by
                  unfold isGet at hp hpj
                  rw [Bool.and_eq_true, beq_iff_eq] at hp hpj
                  exact hpj.1.trans hp.1.symm
                have hl : ¬ ks[i + 1].f0.toList = ks[i].f0.toList := hl
                have hne : j ≠ i + 1 := fun e => by subst e; exact hl hk
                have a1 := List.pairwise_iff_getElem.1 hr.2.2 i (i + 1) (by omega) (by omega) (by omega)
                have a2 := List.pairwise_iff_getElem.1 hr.2.2 (i + 1) j (by omega) (by omega) (by omega)
                unfold aheadR at a1 a2
                rw [if_neg (fun e => hl e.symm)] at a1
                rw [if_neg (fun e => hl (e.trans hk)), hk] at a2
                have := less_trans _ _ _ a1 a2
                rw [less_irrefl] at this
                cases this
              · omega
          · refine .inl ?_
            rw [ih, hf, List.find?_cons, Bool.eq_false_iff.2 hp]
            rfl
    · have hn := i4 i (Nat.le_refl _) (by omega)
      rw [← hx] at hn
      refine .inr ⟨?_, ⟨x, by rw [i2]; rfl, i3⟩, fun j hj hjl => i4 j (by omega) hjl⟩
      rcases hcs with h | ⟨h, _, _⟩
      · rw [h, List.find?_append, i1, List.find?_cons, Bool.eq_false_iff.2 hn]
        rfl
      · rw [h]
        exact i1
theorem compact_right (l : List S49) (v : Int) (h : tableFault l = 0) : tableFault (compactR l v) = 0 := right_table _ (right_sub (table_right l h) (compact_sub l v))
/-- A reading from the floor on tells the same of what was made compact. -/
theorem compact_get (l : List S49) (v w : Int) (hw : v ≤ w) (h : tableFault l = 0) (key : ByteArray) : getR (compactR l v) key w = getR l key w := by
  have hk := kept_find l v w hw key l.length (Nat.le_refl _)
  rw [List.take_length] at hk
  have ho := out_find (keptTo l v l.length) (right_sub (table_right l h) (kept_all l v)) v w key _ (Nat.le_refl _)
  rw [List.take_length, hk] at ho
  unfold getR
  rw [if_pos h, if_pos (compact_right l v h)]
  unfold findR compactR
  rcases ho with ho | ⟨h1, ⟨x, h2, h3⟩, _⟩
  · rw [ho]
  · rw [h1, h2]
    simp only [h3, if_true]

theorem rd_drop (l : List Int) (n : Nat) (j : Int) (h : 0 ≤ j) : rd (l.drop n) j = rd l ((n : Int) + j) := by
  unfold rd
  rw [List.getD_eq_getElem?_getD, List.getD_eq_getElem?_getD, List.getElem?_drop, show ((n : Int) + j).toNat = n + j.toNat by omega]
theorem rd_bound (l : List Int) (hb : ∀ x ∈ l, 0 ≤ x ∧ x < 256) (i : Int) : 0 ≤ rd l i ∧ rd l i < 256 := by
  unfold rd
  rw [List.getD_eq_getElem?_getD]
  cases h : l[i.toNat]? with
  | none => simp
  | some v => exact hb v (List.mem_of_getElem? h)

/-- Bytes. -/
def bytesL (l : List Int) : Prop := ∀ x ∈ l, 0 ≤ x ∧ x < 256
theorem next_ok (c : List Int) (hb : bytesL c) (hl : c.length ≤ 2000000) (s : Int) (h0 : 0 ≤ s) (h1 : s ≤ 100000000000000) (n : Int) :
    ∃ r, spec_l1Next.f c s n = some (r, s + 1) ∧ 0 ≤ r ∧ (1 ≤ n → r < n) ∧ (n < 1 → r = 0) := by
  have e1 : wrap64 (s + 1) = s + 1 := w64 (by omega) (by omega)
  have e2 : wrap64 (s + 1 - 1) = s := by rw [show s + 1 - 1 = s by omega]; exact w64 (by omega) (by omega)
  unfold spec_l1Next.f
  simp only [e1, e2]
  by_cases hn1 : n < 1
  · rw [if_pos hn1]
    exact ⟨0, rfl, by omega, fun h => by omega, fun _ => rfl⟩
  rw [if_neg hn1]
  have fin : ∀ v : Int, 0 ≤ v → ∃ r, (if n = 0 then none else some (Int.tmod v n, s + 1)) = some (r, s + 1) ∧ 0 ≤ r ∧ (1 ≤ n → r < n) ∧ (n < 1 → r = 0) := fun v hv =>
    ⟨Int.tmod v n, if_neg (by omega), Int.tmod_nonneg n hv, fun _ => Int.tmod_lt_of_pos v (by omega), fun h => absurd h hn1⟩
  by_cases hk : (c.length : Int) = 0
  · rw [if_pos hk, w64 (x := s * 7) (by omega) (by omega)]
    exact fin _ (by omega)
  · rw [if_neg hk]
    have m0 := Int.tmod_nonneg (c.length : Int) h0
    have m1 := Int.tmod_lt_of_pos s (show 0 < (c.length : Int) by omega)
    have p0 := Int.tmod_nonneg (c.length : Int) (show 0 ≤ s + 1 by omega)
    have p1 := Int.tmod_lt_of_pos (s + 1) (show 0 < (c.length : Int) by omega)
    have d0 : 0 ≤ Int.tdiv s (c.length : Int) := Int.tdiv_nonneg h0 (by omega)
    have d1 : Int.tdiv s (c.length : Int) ≤ s := by
      rw [Int.tdiv_eq_ediv_of_nonneg h0]
      exact Int.ediv_le_self _ h0
    rw [if_pos m0, if_pos m1]
    have b0 := rd_bound c hb (Int.tmod s (c.length : Int))
    have b1 := rd_bound c hb (Int.tmod (s + 1) (c.length : Int))
    generalize rd c (Int.tmod s (c.length : Int)) = u at b0 ⊢
    generalize rd c (Int.tmod (s + 1) (c.length : Int)) = v at b1 ⊢
    generalize Int.tdiv s (c.length : Int) = q at d0 d1 ⊢
    have w1 : wrap64 u = u := w64 (by omega) (by omega)
    have w2 : wrap64 v = v := w64 (by omega) (by omega)
    have w3 : wrap64 q = q := w64 (by omega) (by omega)
    have w4 : wrap64 (q * 37) = q * 37 := w64 (by omega) (by omega)
    have w5 : wrap64 (u + q * 37) = u + q * 37 := w64 (by omega) (by omega)
    have w6 : wrap64 ((u + q * 37) * 251) = (u + q * 37) * 251 := w64 (by omega) (by omega)
    have w7 : wrap64 (v * 13) = v * 13 := w64 (by omega) (by omega)
    have w8 : wrap64 ((u + q * 37) * 251 + v * 13) = (u + q * 37) * 251 + v * 13 := w64 (by omega) (by omega)
    have w9 : wrap64 ((u + q * 37) * 251 + v * 13 + s) = (u + q * 37) * 251 + v * 13 + s := w64 (by omega) (by omega)
    simp only [w1, w2, w3, w4, w5, w6, w7, w8, w9]
    by_cases h200 : n > 200
    · rw [if_pos h200, if_pos p0, if_pos p1]
      exact fin _ (by omega)
    · rw [if_neg h200]
      exact fin _ (by omega)
theorem pick_ok (c : List Int) (hb : bytesL c) (hl : c.length ≤ 2000000) (s : Int) (h0 : 0 ≤ s) (h1 : s ≤ 100000000000000) (l : List Int) (hn : 1 ≤ l.length) : ∃ v, v ∈ l ∧ spec_l1Pick.f c s l = some (v, s + 1) := by
  obtain ⟨r, hr, p0, p1, _⟩ := next_ok c hb hl s h0 h1 (l.length : Int)
  have p1 := p1 (by omega)
  refine ⟨rd l r, ?_, ?_⟩
  · rw [rd_get l r p0 p1]
    exact List.getElem_mem _
  · unfold spec_l1Pick.f
    rw [hr]
    simp only [Option.bind_some]
    rw [if_pos p0, if_pos p1]
theorem chance_ok (c : List Int) (hb : bytesL c) (hl : c.length ≤ 2000000) (s : Int) (h0 : 0 ≤ s) (h1 : s ≤ 100000000000000) (n : Int) : ∃ b, spec_l1Chance.f c s n = some (b, s + 1) := by
  obtain ⟨r, hr, _⟩ := next_ok c hb hl s h0 h1 n
  unfold spec_l1Chance.f
  rw [hr]
  exact ⟨_, rfl⟩
theorem bytesL_mod (l : List Int) (h : bytesL l) (v : Int) : bytesL (l ++ [v % 256]) := fun x hx => by
  rcases List.mem_append.1 hx with h1 | h1
  · exact h x h1
  · have := List.mem_singleton.1 h1; omega
theorem put_ev (l : List S49) (x : S49) (hl : l.length ≤ 1000) : ∃ t, t.length ≤ l.length + 1 ∧ Ev (fun k => spec_l5Put.f k l x.f0 x.f1 x.f2 x.f3) t := by
  unfold spec_l5Put.f
  have hlen : ∀ i : Int, ((([] : List S49) ++ l.take i.toNat ++ ([⟨x.f0, x.f1, x.f2, x.f3⟩] : List S49)) ++ l.drop i.toNat).length ≤ l.length + 1 := fun i => by
    simp only [List.nil_append, List.length_append, List.length_take, List.length_drop, List.length_cons, List.length_nil]; omega
  refine Ev.upto (fun k (_ : Unit) i => spec_l5Put.l0 k l i x.f0 x.f1 x.f2 x.f3) l.length (by omega) (fun _ _ => True) (fun t => t.length ≤ l.length + 1) (fun i _ h0 h1 _ => ?_) (fun _ _ => ?_) 0 () (by omega) (by omega) trivial
  · have e1 := spec_l5Ahead_eq (rd_T49 l i) x
    have e2 := spec_l5Ahead_eq x (rd_T49 l i)
    have ht : (l.take i.toNat).length ≤ l.length := by rw [List.length_take]; exact Nat.min_le_right _ _
    have hd : (l.drop i.toNat).length ≤ l.length := by rw [List.length_drop]; omega
    by_cases a : aheadR (rd_T49 l i) x = true
    · exact .inl ⟨(), trivial, fun r h => Ev.step (fun k => spec_l5Put.l0.eq_2 ..) (Ev.pos h1 (Ev.pos h0 (Ev.bind (Ev.is e1) (Ev.pos a h))))⟩
    · by_cases b : aheadR x (rd_T49 l i) = true
      · refine .inr ⟨_, hlen i, Ev.step (fun k => spec_l5Put.l0.eq_2 ..) (Ev.pos h1 (Ev.pos h0 (Ev.bind (Ev.is e1) (Ev.neg a (Ev.bind (Ev.is e2) (Ev.pos b (Ev.let (Ev.pos (by omega) (Ev.let (Ev.pos ?_ (Ev.let (Ev.let (Ev.pos ?_ (Ev.let (Ev.let (Ev.pos ?_ (Ev.now _)))))))))))))))))⟩
        · simp only [List.length_nil]; omega
        · simp only [List.nil_append, List.length_cons, List.length_nil]; omega
        · simp only [List.nil_append, List.length_append, List.length_cons, List.length_nil]; omega
      · exact .inr ⟨l, by omega, Ev.step (fun k => spec_l5Put.l0.eq_2 ..) (Ev.pos h1 (Ev.pos h0 (Ev.bind (Ev.is e1) (Ev.neg a (Ev.bind (Ev.is e2) (Ev.neg b (Ev.now _)))))))⟩
  · have ht : (l.take ((l.length : Int)).toNat).length ≤ l.length := by rw [List.length_take]; exact Nat.min_le_right _ _
    have hd : (l.drop ((l.length : Int)).toNat).length ≤ l.length := by rw [List.length_drop]; omega
    refine ⟨_, hlen (l.length : Int), Ev.step (fun k => spec_l5Put.l0.eq_2 ..) (Ev.neg (by omega) (Ev.let (Ev.pos (by omega) (Ev.pos (by omega) (Ev.let (Ev.pos ?_ (Ev.let (Ev.let (Ev.pos ?_ (Ev.let (Ev.let (Ev.pos ?_ (Ev.now _)))))))))))))⟩
    · simp only [List.length_nil]; omega
    · simp only [List.nil_append, List.length_cons, List.length_nil]; omega
    · simp only [List.nil_append, List.length_append, List.length_cons, List.length_nil]; omega
theorem key_ok (c : List Int) (hb : bytesL c) (hl : c.length ≤ 2000000) (s : Int) (h0 : 0 ≤ s) (h1 : s ≤ 10000000000000) : ∃ a, spec_l5Key.f c s = some (a, s + 1) := by
  obtain ⟨r, hr, p0, p1, _⟩ := next_ok c hb hl s h0 (by omega) 5
  have p1 := p1 (by decide)
  unfold spec_l5Key.f
  simp only [Option.bind_some, hr, List.length_cons, List.length_nil]
  rw [if_pos p0, if_pos (by omega)]
  exact ⟨_, rfl⟩
theorem row_ok (c : List Int) (hb : bytesL c) (hl : c.length ≤ 2000000) (s : Int) (h0 : 0 ≤ s) (h1 : s ≤ 10000000000000) : ∃ a b v d, spec_l5Row.f c s = some (a, b, v, d, s + 4) := by
  obtain ⟨a, ha⟩ := key_ok c hb hl s h0 h1
  obtain ⟨r, hr, _, _, _⟩ := next_ok c hb hl (s + 1) (by omega) (by omega) 9
  obtain ⟨q, hq, p0, p1, _⟩ := next_ok c hb hl (s + 1 + 1) (by omega) (by omega) 4
  have p1 := p1 (by decide)
  obtain ⟨b, hbb⟩ := chance_ok c hb hl (s + 1 + 1 + 1) (by omega) (by omega) 4
  have e : s + 1 + 1 + 1 + 1 = s + 4 := by omega
  unfold spec_l5Row.f
  simp only [Option.bind_some, ha, hr, hq, List.length_cons, List.length_nil]
  rw [if_pos p0, if_pos (by omega)]
  simp only [Option.bind_some, hbb]
  rw [e]
  cases b
  · exact ⟨_, _, _, _, rfl⟩
  · exact ⟨_, _, _, _, rfl⟩
theorem bent_loop (c : List Int) (hb : bytesL c) (hl : c.length ≤ 2000000) (a : ByteArray) (b : Int) (d : Bool) : ∀ (n : Nat) (v : ByteArray) (s : Int), 101 ≤ v.size + n → 0 ≤ s → s + n ≤ 10000000000000 → ∃ v' s', Ev (fun k => spec_l5Bent.l0 k c s a b v d) (a, b, v', d, s') ∧ s ≤ s' ∧ s' ≤ s + n + 1 := by
  intro n
  induction n with
  | zero =>
    intro v s hv h0 h1
    obtain ⟨r, hr, p0, p1, _⟩ := next_ok c hb hl s h0 (by omega) 2
    have p1 := p1 (by decide)
    refine ⟨v, s + 1, Ev.step (fun k => spec_l5Bent.l0.eq_2 ..) (Ev.bind (Ev.is hr) ?_), by omega, by omega⟩
    rw [w64 (x := 100 + r) (by omega) (by omega)]
    exact Ev.neg (by omega) (Ev.now _)
  | succ n ih =>
    intro v s hv h0 h1
    obtain ⟨r, hr, p0, p1, _⟩ := next_ok c hb hl s h0 (by omega) 2
    have p1 := p1 (by decide)
    by_cases hlt : (v.size : Int) < 100 + r
    · obtain ⟨v', s', he, q0, q1⟩ := ih (v ++ ⟨#[118]⟩) (s + 1) (by rw [ByteArray.size_append]; show 101 ≤ v.size + 1 + n; omega) (by omega) (by omega)
      refine ⟨v', s', Ev.step (fun k => spec_l5Bent.l0.eq_2 ..) (Ev.bind (Ev.is hr) ?_), by omega, by omega⟩
      rw [w64 (x := 100 + r) (by omega) (by omega)]
      exact Ev.pos hlt (Ev.pos (by omega) he)
    · refine ⟨v, s + 1, Ev.step (fun k => spec_l5Bent.l0.eq_2 ..) (Ev.bind (Ev.is hr) ?_), by omega, by omega⟩
      rw [w64 (x := 100 + r) (by omega) (by omega)]
      exact Ev.neg hlt (Ev.now _)
theorem bent_ok (c : List Int) (hb : bytesL c) (hl : c.length ≤ 2000000) (s : Int) (h0 : 0 ≤ s) (h1 : s ≤ 1000000000000) : ∃ a b v d s', Ev (fun k => spec_l5Bent.f k c s) (a, b, v, d, s') ∧ s ≤ s' ∧ s' ≤ s + 200 := by
  obtain ⟨a, b, v, d, hrow⟩ := row_ok c hb hl s h0 (by omega)
  obtain ⟨r, hr, _, _, _⟩ := next_ok c hb hl (s + 4) (by omega) (by omega) 12
  unfold spec_l5Bent.f
  by_cases r0 : r = 0
  · obtain ⟨q, hq, p0, p1, _⟩ := next_ok c hb hl (s + 4 + 1) (by omega) (by omega) 3
    have p1 := p1 (by decide)
    exact ⟨_, _, _, _, _, Ev.bind (Ev.is hrow) (Ev.bind (Ev.is hr) (Ev.pos r0 (Ev.let (Ev.bind (Ev.is hq) (Ev.pos p0 (Ev.pos (by simp only [List.length_cons, List.length_nil]; omega) (Ev.now _))))))), by omega, by omega⟩
  · by_cases r1 : r = 1
    · obtain ⟨q, _, hq⟩ := pick_ok c hb hl (s + 4 + 1) (by omega) (by omega) [0, (-1), 1000000, 1000001] (by simp)
      exact ⟨_, _, _, _, _, Ev.bind (Ev.is hrow) (Ev.bind (Ev.is hr) (Ev.neg r0 (Ev.pos r1 (Ev.bind (Ev.is hq) (Ev.now _))))), by omega, by omega⟩
    · by_cases r2 : r = 2
      · obtain ⟨v', s', he, q0, q1⟩ := bent_loop c hb hl a b d 101 v (s + 4 + 1) (by omega) (by omega) (by omega)
        exact ⟨_, _, _, _, _, Ev.bind (Ev.is hrow) (Ev.bind (Ev.is hr) (Ev.neg r0 (Ev.neg r1 (Ev.pos r2 he)))), by omega, by omega⟩
      · exact ⟨_, _, _, _, _, Ev.bind (Ev.is hrow) (Ev.bind (Ev.is hr) (Ev.neg r0 (Ev.neg r1 (Ev.neg r2 (Ev.now _))))), by omega, by omega⟩
theorem table_loop (c : List Int) (hb : bytesL c) (hl : c.length ≤ 2000000) : ∀ (n : Nat) (rows : List S49) (s : Int), rows.length + n ≤ 100 → 0 ≤ s → s + 4 * n ≤ 100000000000 → ∃ t s', Ev (fun k => spec_l5Table.l0 k rows (n : Int) c s) (t, s') ∧ t.length ≤ 201 ∧ s ≤ s' ∧ s' ≤ s + 4 * n + 300 := by
  intro n
  induction n with
  | zero =>
    intro rows s hn h0 h1
    by_cases hz : (rows.length : Int) = 0
    · exact ⟨_, _, Ev.step (fun k => spec_l5Table.l0.eq_2 ..) (Ev.neg (by omega) (Ev.pos hz (Ev.now _))), by omega, by omega, by omega⟩
    · obtain ⟨r, hr, _, _, _⟩ := next_ok c hb hl s h0 (by omega) 20
      by_cases r0 : r = 0
      · obtain ⟨q, hq, p0, p1, _⟩ := next_ok c hb hl (s + 1) (by omega) (by omega) (rows.length : Int)
        have p1 := p1 (by omega)
        obtain ⟨a, b, v, d, s', hbent, b0, b1⟩ := bent_ok c hb hl (s + 1 + 1) (by omega) (by omega)
        exact ⟨_, s', Ev.step (fun k => spec_l5Table.l0.eq_2 ..) (Ev.neg (by omega) (Ev.neg hz (Ev.bind (Ev.is hr) (Ev.pos r0 (Ev.bind (Ev.is hq) (Ev.bind hbent (Ev.pos p0 (Ev.pos p1 (Ev.now _)))))))) ), by rw [List.length_set]; omega, by omega, by omega⟩
      · by_cases r1 : r = 1
        · exact ⟨_, _, Ev.step (fun k => spec_l5Table.l0.eq_2 ..) (Ev.neg (by omega) (Ev.neg hz (Ev.bind (Ev.is hr) (Ev.neg r0 (Ev.pos r1 (Ev.pos (by omega) (Ev.pos (by omega) (Ev.now _)))))))), by rw [List.length_append, List.length_singleton]; omega, by omega, by omega⟩
        · by_cases r2 : r = 2
          · exact ⟨_, _, Ev.step (fun k => spec_l5Table.l0.eq_2 ..) (Ev.neg (by omega) (Ev.neg hz (Ev.bind (Ev.is hr) (Ev.neg r0 (Ev.neg r1 (Ev.pos r2 (Ev.pos (by decide) (Ev.now _)))))))), by rw [List.length_replicate]; omega, by omega, by omega⟩
          · exact ⟨_, _, Ev.step (fun k => spec_l5Table.l0.eq_2 ..) (Ev.neg (by omega) (Ev.neg hz (Ev.bind (Ev.is hr) (Ev.neg r0 (Ev.neg r1 (Ev.neg r2 (Ev.now _))))))), by omega, by omega, by omega⟩
  | succ n ih =>
    intro rows s hn h0 h1
    obtain ⟨a, b, v, d, hrow⟩ := row_ok c hb hl s h0 (by omega)
    obtain ⟨t, ht, hput⟩ := put_ev rows ⟨a, b, v, d⟩ (by omega)
    obtain ⟨u, s', he, q0, q1, q2⟩ := ih t (s + 4) (by omega) (by omega) (by omega)
    refine ⟨u, s', Ev.step (fun k => spec_l5Table.l0.eq_2 ..) (Ev.pos (by omega) (Ev.bind (Ev.is hrow) (Ev.bind hput ?_))), q0, by omega, by omega⟩
    rw [w64 (x := ((n + 1 : Nat) : Int) - 1) (by omega) (by omega), show ((n + 1 : Nat) : Int) - 1 = (n : Int) by omega]
    exact he
theorem table_ok (c : List Int) (hb : bytesL c) (hl : c.length ≤ 2000000) (s : Int) (h0 : 0 ≤ s) (h1 : s ≤ 10000000000) : ∃ t s', Ev (fun k => spec_l5Table.f k c s) (t, s') ∧ t.length ≤ 201 ∧ s ≤ s' ∧ s' ≤ s + 400 := by
  obtain ⟨r, hr, p0, p1, _⟩ := next_ok c hb hl s h0 (by omega) 9
  have p1 := p1 (by decide)
  obtain ⟨n, rfl⟩ : ∃ n : Nat, r = n := ⟨r.toNat, by omega⟩
  obtain ⟨t, s', he, q0, q1, q2⟩ := table_loop c hb hl n [] (s + 1) (by simp; omega) (by omega) (by omega)
  unfold spec_l5Table.f
  exact ⟨t, s', Ev.bind (Ev.is hr) he, q0, by omega, by omega⟩

theorem lwBig_eq (c : List Int) : laws_lwBig.f c = some (decide ((c.length : Int) > 1048576)) := rfl
/-- Tables without fault: all their rows. -/
def flatR (ls : List (List S49)) : List S49 := puts [] ls.flatten
theorem flatR_mem (ls : List (List S49)) (x : S49) : x ∈ flatR ls ↔ (ls.flatten.filter (Stab.lev aheadR x)).head? = some x := (Stab.puts_firsts ahead_swo ls.flatten).2 x
theorem flatR_right (ls : List (List S49)) (h : firstFault ls = 0) (hl : (flatR ls).length ≤ 200) : tableFault (flatR ls) = 0 := by
  refine right_table _ ⟨hl, fun x hx => ?_, (Stab.puts_firsts ahead_swo ls.flatten).1⟩
  have h1 := List.mem_of_mem_head? (Option.mem_def.2 ((flatR_mem ls x).1 hx))
  obtain ⟨l, hl, hm⟩ := List.mem_flatten.1 (List.mem_filter.1 h1).1
  exact (table_right l (faultless h l hl)).2.1 x hm
/-- Is this row told by that one? (i: its table) -/
def hit (i : Int) (x z : S49) : Bool := z.f0.toList == x.f0.toList && (z.f1 == x.f1 && (decide (i > 0) || (z.f2.toList == x.f2.toList && z.f3 == x.f3)))
theorem hit_level {i : Int} (hi : i > 0) {x z : S49} (h : Stab.lev aheadR x z = true) : hit i x z = true := by
  obtain ⟨h1, h2⟩ := (Stab.lev_iff x z).1 h
  obtain ⟨e0, e1⟩ := ahead_level h1 h2
  unfold hit
  rw [e0, e1]
  simp [hi]
theorem hit_self (i : Int) (x : S49) : hit i x x = true := by simp [hit]
theorem lev_self (x : S49) : Stab.lev aheadR x x = true := (Stab.lev_iff x x).2 ⟨ahead_irrefl _, ahead_irrefl _⟩
theorem level_in (ls : List (List S49)) (x : S49) (hx : x ∈ ls.flatten) : ∃ y, y ∈ flatR ls ∧ Stab.lev aheadR x y = true := by
  have hm : x ∈ ls.flatten.filter (Stab.lev aheadR x) := List.mem_filter.2 ⟨hx, lev_self x⟩
  cases hf : ls.flatten.filter (Stab.lev aheadR x) with
  | nil => rw [hf] at hm; cases hm
  | cons y r =>
    have hy : y ∈ ls.flatten.filter (Stab.lev aheadR x) := by rw [hf]; exact List.mem_cons_self
    have hl := (List.mem_filter.1 hy).2
    refine ⟨y, (flatR_mem ls y).2 ?_, hl⟩
    have : Stab.lev aheadR y = Stab.lev aheadR x := by funext z; exact lev_trans hl
    rw [this, hf]
    rfl
theorem first_in (l : List S49) (r : List (List S49)) (hl : tableFault l = 0) (x : S49) (hx : x ∈ l) : x ∈ flatR (l :: r) := by
  refine (flatR_mem (l :: r) x).2 ?_
  obtain ⟨A, B, rfl⟩ := List.append_of_mem hx
  have hp := (table_right _ hl).2.2
  have hA : A.filter (Stab.lev aheadR x) = [] := List.filter_eq_nil_iff.2 (fun a ha h => by
    have h1 := (List.pairwise_append.1 hp).2.2 a ha x List.mem_cons_self
    have h2 := ((Stab.lev_iff x a).1 h).1
    rw [h1] at h2
    cases h2)
  rw [List.flatten_cons, List.filter_append, List.filter_append, hA, List.filter_cons, if_pos (lev_self x)]
  rfl
theorem hits (ls : List (List S49)) (h : firstFault ls = 0) (i : Nat) (l : List S49) (hi : ls[i]? = some l) (x : S49) (hx : x ∈ l) : (flatR ls).any (hit (i : Int) x) = true := by
  rw [List.any_eq_true]
  by_cases h0 : i = 0
  · subst h0
    cases ls with
    | nil => cases hi
    | cons a r =>
      obtain rfl : a = l := by simpa using hi
      exact ⟨x, first_in a r (faultless h a List.mem_cons_self) x hx, hit_self _ x⟩
  · obtain ⟨y, hy, hl⟩ := level_in ls x (List.mem_flatten.2 ⟨l, List.mem_of_getElem? hi, hx⟩)
    exact ⟨y, hy, hit_level (by omega) hl⟩
theorem tables_row (ls : List (List S49)) (R : List S49) (hR : R.length ≤ 200) (i kk : Int) (x : S49) (hN : Ev (fun k => laws_FnTables.l1 k ls i (wrap64 (kk + 1)) 0 R) true) : ∀ (rest done : List S49) (b : Bool), R = done ++ rest → (b || rest.any (hit i x)) = true →
    Ev (fun k => laws_FnTables.l2 k ls i kk b (done.length : Int) 0 R x.f0 x.f1 x.f2 x.f3) true := by
  intro rest
  induction rest with
  | nil =>
    intro done b hd hb
    obtain rfl : b = true := by simpa using hb
    exact Ev.step (fun k => laws_FnTables.l2.eq_2 ..) (Ev.neg (by rw [hd]; simp) (Ev.pos rfl hN))
  | cons z rest ih =>
    intro done b hd hb
    have hl := congrArg List.length hd
    simp only [List.length_append, List.length_cons] at hl
    have hz : rd_T49 R (done.length : Int) = z := rdRow (by rw [hd]; simp)
    have w1 := am (show wrap64 ((done.length : Int) + 1) = ((done.length + 1 : Nat) : Int) from by rw [w64 (by omega) (by omega)]; omega)
    have go : ∀ b', (b' || rest.any (hit i x)) = true → Ev (fun k => laws_FnTables.l2 k ls i kk b' ((done.length + 1 : Nat) : Int) 0 R x.f0 x.f1 x.f2 x.f3) true := fun b' h => by
      have := ih (done ++ [z]) b' (by rw [hd]; simp) h
      rw [show ((done ++ [z]).length) = done.length + 1 by simp] at this
      exact this
    refine Ev.step (fun k => laws_FnTables.l2.eq_2 ..) (Ev.pos (by omega) ?_)
    rw [w1.out, hz]
    by_cases hb1 : b = true
    · exact Ev.pos hb1 (go true rfl)
    · have hb2 : b = false := by simpa using hb1
      subst hb2
      rw [Bool.false_or, List.any_cons] at hb
      refine Ev.neg hb1 (Ev.pos (by omega) ?_)
      by_cases c1 : z.f0.toList = x.f0.toList
      · refine Ev.pos c1 ?_
        have e1 : (z.f0.toList == x.f0.toList) = true := beq_iff_eq.2 c1
        by_cases c2 : z.f1 = x.f1
        · refine Ev.pos c2 ?_
          have e2 : (z.f1 == x.f1) = true := beq_iff_eq.2 c2
          by_cases c3 : i > 0
          · exact Ev.pos c3 (go true rfl)
          · refine Ev.neg c3 (go _ ?_)
            have e3 : decide (i > 0) = false := decide_eq_false c3
            have e4 : hit i x z = (z.f0.toList == x.f0.toList && (z.f1 == x.f1 && (z.f2.toList == x.f2.toList && z.f3 == x.f3))) := by
              unfold hit
              rw [e3, Bool.false_or]
            rw [e4] at hb
            exact hb
        · refine Ev.neg c2 (go false ?_)
          have e2 : (z.f1 == x.f1) = false := beq_eq_false_iff_ne.2 c2
          unfold hit at hb
          rw [e2, Bool.false_and, Bool.and_false, Bool.false_or] at hb
          rw [Bool.false_or]
          exact hb
      · refine Ev.neg c1 (go false ?_)
        have e1 : (z.f0.toList == x.f0.toList) = false := beq_eq_false_iff_ne.2 c1
        unfold hit at hb
        rw [e1, Bool.false_and, Bool.false_or] at hb
        rw [Bool.false_or]
        exact hb
theorem tables_rows (ls : List (List S49)) (R : List S49) (hR : R.length ≤ 200) (i : Int) (l : List S49) (hl : rd_L5 ls i = l) (h0 : 0 ≤ i) (h1 : i < (ls.length : Int)) (hb : l.length ≤ 200) (hh : ∀ x ∈ l, R.any (hit i x) = true) (hN : Ev (fun k => laws_FnTables.l0 k ls (wrap64 (i - 1)) 0 R) true) : ∀ (rest done : List S49), l = done ++ rest →
    Ev (fun k => laws_FnTables.l1 k ls i (done.length : Int) 0 R) true := by
  intro rest
  induction rest with
  | nil =>
    intro done hd
    refine Ev.step (fun k => laws_FnTables.l1.eq_2 ..) (Ev.pos h0 (Ev.pos h1 ?_))
    rw [hl]
    exact Ev.neg (by rw [hd]; simp) hN
  | cons x rest ih =>
    intro done hd
    have hn := congrArg List.length hd
    simp only [List.length_append, List.length_cons] at hn
    have hx : rd_T49 l (done.length : Int) = x := rdRow (by rw [hd]; simp)
    have w1 := am (show wrap64 ((done.length : Int) + 1) = ((done.length + 1 : Nat) : Int) from by rw [w64 (by omega) (by omega)]; omega)
    refine Ev.step (fun k => laws_FnTables.l1.eq_2 ..) (Ev.pos h0 (Ev.pos h1 ?_))
    rw [hl, hx]
    refine Ev.pos (by omega) (Ev.pos (by omega) ?_)
    refine tables_row ls R hR i (done.length : Int) x ?_ R [] false rfl (by rw [Bool.false_or]; exact hh x (by rw [hd]; simp))
    have := ih (done ++ [x]) (by rw [hd]; simp)
    rw [show ((done ++ [x]).length) = done.length + 1 by simp] at this
    rw [w1.out]
    exact this
theorem tables_loop (ls : List (List S49)) (h : firstFault ls = 0) (h8 : ls.length ≤ 8) (hR : (flatR ls).length ≤ 200) (hs : Ev (fun k => spec_MergeTables.f k ls) (0, flatR ls)) : ∀ n : Nat, n ≤ ls.length → Ev (fun k => laws_FnTables.l0 k ls ((n : Int) - 1) 0 (flatR ls)) true := by
  intro n
  induction n with
  | zero =>
    intro _
    exact Ev.step (fun k => laws_FnTables.l0.eq_2 ..) (Ev.neg (by omega) (Ev.bind hs (Ev.eq (Ev.now _) (by simp))))
  | succ n ih =>
    intro hn
    have ih := ih (by omega)
    have e : ((n + 1 : Nat) : Int) - 1 = (n : Int) := by omega
    have hg : ls[n]? = some (ls[n]'(by omega)) := List.getElem?_eq_getElem (by omega)
    have hm := List.getElem_mem (show n < ls.length by omega)
    generalize ls[n]'(by omega) = l at hg hm
    refine Ev.step (fun k => laws_FnTables.l0.eq_2 ..) (Ev.pos (by omega) ?_)
    rw [e]
    refine tables_rows ls (flatR ls) hR (n : Int) l (rdRR (by rw [Int.toNat_natCast]; exact hg)) (by omega) (by omega) (fault_len (faultless h l hm)) (fun x hx => hits ls h n l hg x hx) ?_ l [] rfl
    rw [w64 (x := (n : Int) - 1) (by omega) (by omega)]
    exact ih
theorem draw_tables (c : List Int) (hb : bytesL c) (hl : c.length ≤ 2000000) : ∀ (n : Nat) (acc : List (List S49)) (s : Int), acc.length + n ≤ 100 → 0 ≤ s → s + 400 * (n : Int) ≤ 1000000000 → ∃ ls, ls.length ≤ 100 ∧ Ev (fun k => spec_DrawMergeTables.l0 k acc (n : Int) c s) ls := by
  intro n
  induction n with
  | zero =>
    intro acc s ha h0 h1
    exact ⟨acc, by omega, Ev.step (fun k => spec_DrawMergeTables.l0.eq_2 ..) (Ev.neg (by omega) (Ev.now _))⟩
  | succ n ih =>
    intro acc s ha h0 h1
    obtain ⟨t, s', he, h2, h3, h4⟩ := table_ok c hb hl s h0 (by omega)
    obtain ⟨ls, hls, hr⟩ := ih (acc ++ [t]) s' (by simp; omega) (by omega) (by omega)
    refine ⟨ls, hls, Ev.step (fun k => spec_DrawMergeTables.l0.eq_2 ..) (Ev.pos (by omega) (Ev.bind he (Ev.pos (by omega) ?_)))⟩
    rw [w64 (x := ((n + 1 : Nat) : Int) - 1) (by omega) (by omega), show ((n + 1 : Nat) : Int) - 1 = (n : Int) by omega]
    exact hr
theorem draw_merge (c : List Int) (hb : bytesL c) (hl : c.length ≤ 2000000) : ∃ ls, ls.length ≤ 100 ∧ Ev (fun k => spec_DrawMergeTables.f k c) ls := by
  obtain ⟨v, hv, hp⟩ := pick_ok c hb hl 0 (by decide) (by decide) [2, 3, 1, 0, 8, 9] (by simp)
  have hv2 : 0 ≤ v ∧ v ≤ 9 := by
    simp only [List.mem_cons, List.not_mem_nil, or_false] at hv
    omega
  obtain ⟨n, rfl⟩ : ∃ n : Nat, v = n := ⟨v.toNat, by omega⟩
  obtain ⟨ls, h1, h2⟩ := draw_tables c hb hl n [] (0 + 1) (by simp; omega) (by omega) (by omega)
  refine ⟨ls, h1, ?_⟩
  unfold spec_DrawMergeTables.f spec_l1Source.f
  exact Ev.let (Ev.bind (Ev.is hp) h2)
theorem FnTables : ∀ (l0 : List Int), okL (fun n => (Lit.int .u8 n).wf = true) l0 → ∃ k, laws_FnTables.f k l0 = some true := by
  intro c hc
  have hb : bytesL c := fun x hx => wfU8 (hc.2 x hx)
  refine Ev.rounds (r := true) ?_
  unfold laws_FnTables.f
  refine Ev.bind (Ev.is (lwBig_eq c)) (Ev.ite (fun _ => Ev.now _) (fun hbig => ?_))
  have hl : c.length ≤ 2000000 := by simp at hbig; omega
  obtain ⟨ls, hn, hd⟩ := draw_merge c hb hl
  have hi := impl_MergeTables_ev ls
  have hs := spec_MergeTables_ev ls
  refine Ev.bind hd (Ev.bind hi ?_)
  by_cases hz : (mergeR ls).1 = 0
  · refine Ev.pos hz ?_
    have hr : mergeR ls = (0, flatR ls) ∧ (ls.length : Int) ≤ 8 ∧ firstFault ls = 0 ∧ (flatR ls).length ≤ 200 := by
      unfold mergeR at hz ⊢
      by_cases c1 : (ls.length : Int) > 8
      · rw [if_pos c1] at hz; exact absurd hz (by decide)
      · rw [if_neg c1] at hz ⊢
        by_cases c2 : firstFault ls = 0
        · rw [if_pos c2] at hz ⊢
          by_cases c3 : ((puts [] ls.flatten).length : Int) > 200
          · rw [if_pos c3] at hz; exact absurd hz (by decide)
          · rw [if_neg c3]
            exact ⟨rfl, by omega, c2, by unfold flatR; omega⟩
        · rw [if_neg c2] at hz; exact absurd hz c2
    obtain ⟨hr, h8, hf, h200⟩ := hr
    rw [hr] at hs ⊢
    have ht := impl_TableFault_ev (flatR ls)
    rw [flatR_right ls hf h200] at ht
    refine Ev.bind ht (Ev.pos rfl ?_)
    rw [w64 (x := (ls.length : Int) - 1) (by omega) (by omega)]
    exact tables_loop ls hf (by omega) h200 hs ls.length (Nat.le_refl _)
  · exact Ev.neg hz (Ev.bind hs (Ev.eq (Ev.now _) (by simp)))

end Go.Proofs.Ytdhlcnlcpjlliaa.Pure
