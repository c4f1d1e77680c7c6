/- FnExactSameLedgers, the pure statement: the program's SameLedgers and the reference's tell the same of any two ledgers, and the arguments are as they were. No conditions. -/
import Derived.Test.YtanegggacfmkcaaPFnExactSameLedgersx5
import Derived.Test.YtanegggacfmkcaaOFnExactSameLedgers
namespace Go.Proofs.Ytanegggacfmkcaa.Pure
open Go.RowKit Go.Proofs.Ytanegggacfmkcaa.PFnExactSameLedgers Go.Proofs.YtanegggacfmkcaaW.PrintWords Go.Proofs.YtanegggacfmkcaaW.PrintLast Go.Proofs.YtanegggacfmkcaaW.PrintMore Go.Proofs.Ytanegggacfmkcaa.Opens
set_option linter.unusedVariables false
set_option linter.unusedSimpArgs false
/-! ### words of this text's own -/
theorem w64 {x : Int} (h0 : -9223372036854775808 ≤ x) (h1 : x ≤ 9223372036854775807) : wrap64 x = x := by
  unfold wrap64
  omega
theorem wfU8 {x : Int} (h : (Lit.int .u8 x).wf = true) : 0 ≤ x ∧ x < 256 := by
  simp [Lit.wf, IntKind.min, IntKind.max, IntKind.signed, IntKind.bits] at h
  omega
theorem wfI64 {x : Int} (h : (Lit.int .i64 x).wf = true) : -9223372036854775808 ≤ x ∧ x ≤ 9223372036854775807 := by
  simp [Lit.wf, IntKind.min, IntKind.max, IntKind.signed, IntKind.bits] at h
  omega
section
variable {α β σ : Type}
theorem Ev.ite {g f : Nat → Option α} {c : Prop} [Decidable c] {r : α} (ht : c → Ev g r) (hf : ¬ c → Ev f r) : Ev (fun k => if c then g k else f k) r := by
  by_cases h : c
  · simp only [if_pos h]; exact ht h
  · simp only [if_neg h]; exact hf h
theorem Ev.pos {g f : Nat → Option α} {c : Prop} [Decidable c] {r : α} (h : c) (ht : Ev g r) : Ev (fun k => if c then g k else f k) r := Ev.ite (fun _ => ht) (fun n => absurd h n)
theorem Ev.neg {g f : Nat → Option α} {c : Prop} [Decidable c] {r : α} (h : ¬ c) (hf : Ev f r) : Ev (fun k => if c then g k else f k) r := Ev.ite (fun y => absurd y h) (fun _ => hf)
theorem Ev.cond {g f : Nat → Option α} {c : Prop} [Decidable c] {r s : α} (ht : c → Ev g r) (hf : ¬ c → Ev f s) : Ev (fun k => if c then g k else f k) (if c then r else s) := by
  by_cases h : c
  · simp only [if_pos h]; exact ht h
  · simp only [if_neg h]; exact hf h
theorem Ev.let {f : Nat → α → Option β} {a : α} {r : β} (k : Ev (fun n => f n a) r) : Ev (fun n => (some a).bind (f n)) r := Ev.bind (Ev.now a) k
theorem Ev.is {a : Option α} {r : α} (h : a = some r) : Ev (fun _ => a) r := ⟨0, fun _ _ => h⟩
theorem Ev.eq {g : Nat → Option α} {a b : α} (h : Ev g a) (e : a = b) : Ev g b := e ▸ h
/-- A loop that counts i up to n, with a state s: what it comes to, if 'P i s' leads from round to round. -/
theorem Ev.upto (F : Nat → σ → Int → Option α) (n : Int) (hn : n ≤ 9223372036854775807) (P : Int → σ → Prop) (R : α → Prop)
    (step : ∀ i s, 0 ≤ i → i < n → P i s → (∃ s', P (i + 1) s' ∧ ∀ r, Ev (fun k => F k s' (wrap64 (i + 1))) r → Ev (fun k => F k s i) r) ∨ (∃ r, R r ∧ Ev (fun k => F k s i) r))
    (stop : ∀ s, P n s → ∃ r, R r ∧ Ev (fun k => F k s n) r) (i : Int) (s : σ) (h0 : 0 ≤ i) (h1 : i ≤ n) (hP : P i s) : ∃ r, R r ∧ Ev (fun k => F k s i) r := by
  obtain ⟨d, hd⟩ : ∃ d : Nat, n - i = d := ⟨(n - i).toNat, by omega⟩
  induction d generalizing i s with
  | zero =>
    obtain rfl : i = n := by omega
    exact stop s hP
  | succ d ih =>
    rcases step i s h0 (by omega) hP with ⟨s', hP', h⟩ | h
    · obtain ⟨r, hr, he⟩ := ih (i + 1) s' (by omega) (by omega) hP' (by omega)
      exact ⟨r, hr, h r (by rw [w64 (by omega) (by omega)]; exact he)⟩
    · exact h
/-- The same, where what it comes to is one value. -/
theorem Ev.upto1 (F : Nat → σ → Int → Option α) (n : Int) (hn : n ≤ 9223372036854775807) (P : Int → σ → Prop) (r : α)
    (step : ∀ i s, 0 ≤ i → i < n → P i s → (∃ s', P (i + 1) s' ∧ (Ev (fun k => F k s' (wrap64 (i + 1))) r → Ev (fun k => F k s i) r)) ∨ Ev (fun k => F k s i) r)
    (stop : ∀ s, P n s → Ev (fun k => F k s n) r) (i : Int) (s : σ) (h0 : 0 ≤ i) (h1 : i ≤ n) (hP : P i s) : Ev (fun k => F k s i) r := by
  obtain ⟨d, hd⟩ : ∃ d : Nat, n - i = d := ⟨(n - i).toNat, by omega⟩
  induction d generalizing i s with
  | zero =>
    obtain rfl : i = n := by omega
    exact stop s hP
  | succ d ih =>
    rcases step i s h0 (by omega) hP with ⟨s', hP', h⟩ | h
    · exact h (by rw [w64 (by omega) (by omega)]; exact ih (i + 1) s' (by omega) (by omega) hP' (by omega))
    · exact h
theorem take_set_succ (l acc : List α) (i : Nat) (v : α) (h : i < acc.length) (ht : acc.take i = l.take i) (hv : l[i]? = some v) : (acc.set i v).take (i + 1) = l.take (i + 1) := by
  rw [List.take_add_one, List.take_add_one, hv, List.getElem?_set_self h, List.take_set_of_le (Nat.le_refl _), ht]
/-- A row filled cell by cell. -/
theorem Ev.fill (F : Nat → List α → Int → Option (List α)) (l : List α) (hl : l.length ≤ 9223372036854775807)
    (step : ∀ (i : Int) s (v : α), 0 ≤ i → i < (l.length : Int) → s.length = l.length → l[i.toNat]? = some v → Ev (fun k => F k (s.set i.toNat v) (wrap64 (i + 1))) l → Ev (fun k => F k s i) l)
    (stop : ∀ s, s.length = l.length → Ev (fun k => F k s (l.length : Int)) s) (s : List α) (hs : s.length = l.length) : Ev (fun k => F k s 0) l :=
  Ev.upto1 F l.length (by omega) (fun i s => s.length = l.length ∧ s.take i.toNat = l.take i.toNat) l
    (fun i s h0 h1 ⟨hs, ht⟩ => .inl ⟨s.set i.toNat (l[i.toNat]'(by omega)), ⟨by simp [hs], by
      rw [show (i + 1).toNat = i.toNat + 1 by omega]
      exact take_set_succ l s _ _ (by omega) ht (List.getElem?_eq_getElem (by omega))⟩, step i s _ h0 h1 hs (List.getElem?_eq_getElem (by omega))⟩)
    (fun s ⟨hs, ht⟩ => by
      rw [List.take_of_length_le (by omega), List.take_of_length_le (by omega)] at ht
      have := stop s hs
      subst ht
      exact this) 0 s (by omega) (by omega) ⟨hs, by simp⟩
/-- A loop that asks of each place, and comes to the end. -/
theorem Ev.each {F : Nat → Int → Option β} {r : β} (n : Nat) (hn : (n : Int) ≤ 9223372036854775807) (step : ∀ i : Int, 0 ≤ i → i < n → Ev (fun k => F k (wrap64 (i + 1))) r → Ev (fun k => F k i) r) (stop : Ev (fun k => F k (n : Int)) r) : Ev (fun k => F k 0) r :=
  Ev.upto1 (fun k (_ : Unit) i => F k i) n hn (fun _ _ => True) r (fun i _ h0 h1 _ => .inl ⟨(), trivial, step i h0 h1⟩) (fun _ _ => stop) 0 () (by omega) (by omega) trivial
end
theorem rd_get (l : List Int) (i : Int) (h0 : 0 ≤ i) (h1 : i < (l.length : Int)) : rd l i = l[i.toNat]'(by omega) := by
  unfold rd
  rw [List.getD_eq_getElem?_getD, List.getElem?_eq_getElem (by omega)]
  rfl
theorem rd_of {l : List Int} {i : Int} {v : Int} (h : l[i.toNat]? = some v) : rd l i = v := by
  unfold rd
  rw [List.getD_eq_getElem?_getD, h]
  rfl
theorem drop_cons_at {α : Type} (l : List α) (i : Nat) (h : i < l.length) : l.drop i = l[i] :: l.drop (i + 1) := List.drop_eq_getElem_cons h
/-- What is left of a bound behind a list, or less than nothing. -/
def szRest (n : Nat) (left : Int) : Int := if left - n < 0 then -1 else left - n
theorem szRest_ok {n : Nat} {left : Int} (h0 : left ≤ 1048576) (h1 : ¬ szRest n left < 0) : (n : Int) ≤ left ∧ szRest n left = left - n := by
  unfold szRest at *
  by_cases h : left - n < 0
  · rw [if_pos h] at h1; omega
  · rw [if_neg h]; exact ⟨by omega, rfl⟩

theorem szBalanceS_eq (l : List S115) (hl : l.length ≤ maxLen) (left : Int) (h0 : 0 ≤ left) (h1 : left ≤ 1048576) : laws_szBalanceS.f l left = some (szRest l.length left) := by
  unfold maxLen at hl
  unfold laws_szBalanceS.f szRest
  rw [w64 (by omega) (by omega)]
  split <;> rfl

theorem rdBalance {l : List S104} {i : Int} {v : S104} (h : l[i.toNat]? = some v) : rd_T104 l i = v := by
  unfold rd_T104
  rw [List.getD_eq_getElem?_getD, h]
  rfl
theorem rdBalanceL {l : List S115} {i : Int} {v : S115} (h : l[i.toNat]? = some v) : rd_T115 l i = v := by
  unfold rd_T115
  rw [List.getD_eq_getElem?_getD, h]
  rfl
theorem rdBalance_at (l : List S104) (i : Int) (h0 : 0 ≤ i) (h1 : i < (l.length : Int)) : rd_T104 l i = l[i.toNat]'(by omega) := rdBalance (List.getElem?_eq_getElem (by omega))

/-- What the law's mirror of a Balance stands for. -/
def balanceOf (x : S115) : S104 := ⟨x.f0, x.f1, x.f2⟩
theorem toBalanceS_ev (l : List S115) (hl : l.length ≤ 1048576) : Ev (fun k => laws_toBalanceS.f k l) (l.map balanceOf) := by
  unfold laws_toBalanceS.f
  refine Ev.pos (by omega) (Ev.pos (by omega) ?_)
  refine Ev.fill (fun k s i => laws_toBalanceS.l0 k l s i) (l.map balanceOf) (by simp; omega)
    (fun i s v h0 h1 hs hv h => ?_)
    (fun s hs => Ev.step (fun k => laws_toBalanceS.l0.eq_2 ..) (Ev.neg (by simp) (Ev.now _))) _ (by simp)
  rw [List.length_map] at h1 hs
  rw [List.getElem?_map] at hv
  obtain ⟨w, hw, rfl⟩ := Option.map_eq_some_iff.1 hv
  refine Ev.step (fun k => laws_toBalanceS.l0.eq_2 ..) (Ev.pos h1 (Ev.pos h0 ?_))
  rw [rdBalanceL hw]
  exact Ev.let (Ev.pos (by omega) h)

theorem eqBalance_rfl (a0 : Int) (a1 : Int) (a2 : Int) : laws_eqBalance.f a0 a1 a2 a0 a1 a2 = some true := by
  unfold laws_eqBalance.f
  simp
theorem eqBalanceS_ev (l : List S104) (hl : (l.length : Int) ≤ 9223372036854775807) : Ev (fun k => laws_eqBalanceS.f k l l) true := by
  unfold laws_eqBalanceS.f
  refine Ev.pos rfl ?_
  refine Ev.each (F := fun k i => laws_eqBalanceS.l0 k l l i) l.length hl (fun i h0 h1 h => Ev.step (fun k => laws_eqBalanceS.l0.eq_2 ..) (Ev.pos h1 (Ev.pos h0 (Ev.pos h1 ?_)))) (Ev.step (fun k => laws_eqBalanceS.l0.eq_2 ..) (Ev.neg (by omega) (Ev.now _)))
  simp only [eqBalance_rfl]
  exact Ev.let (Ev.pos rfl h)

theorem rdBB {l : List (List S104)} {i : Int} {v : List S104} (h : l[i.toNat]? = some v) : rd_L2 l i = v := by
  unfold rd_L2
  rw [List.getD_eq_getElem?_getD, h]
  rfl
theorem rdBBL {l : List (List S115)} {i : Int} {v : List S115} (h : l[i.toNat]? = some v) : rd_L4 l i = v := by
  unfold rd_L4
  rw [List.getD_eq_getElem?_getD, h]
  rfl
/-- How many balances there are in all. -/
def allB {α : Type} (g : List (List α)) : Nat := (g.map List.length).sum
theorem allB_take {α : Type} (g : List (List α)) (i : Nat) (h : i < g.length) : allB (g.take (i + 1)) = allB (g.take i) + (g[i]'h).length := by
  unfold allB
  rw [List.take_add_one, List.getElem?_eq_getElem h, List.map_append, List.sum_append]
  simp
theorem mem_allB {α : Type} (g : List (List α)) (x : List α) (h : x ∈ g) : x.length ≤ allB g := by
  unfold allB
  induction g with
  | nil => cases h
  | cons y g ih =>
    rcases List.mem_cons.1 h with rfl | h
    · simp
    · have := ih h
      simp only [List.map_cons, List.sum_cons]
      omega
theorem szBalanceSS_ev (g : List (List S115)) (hg : okL (okL ok115) g) (left : Int) (h0 : 0 ≤ left) (h1 : left ≤ 1048576) :
    ∃ r, (¬ r < 0 → r = left - g.length - allB g) ∧ Ev (fun k => laws_szBalanceSS.f k g left) r := by
  have hl := hg.1
  unfold maxLen at hl
  unfold laws_szBalanceSS.f
  rw [w64 (by omega) (by omega)]
  by_cases h : left - (g.length : Int) < 0
  · exact ⟨-1, fun h => absurd (by decide) h, Ev.pos h (Ev.now _)⟩
  · obtain ⟨r, hr, he⟩ := Ev.upto (fun k s i => laws_szBalanceSS.l0 k g s i) g.length (by omega) (fun i s => 0 ≤ s ∧ s = left - g.length - allB (g.take i.toNat)) (fun r => ¬ r < 0 → r = left - g.length - allB g)
      (fun i s p0 p1 ⟨q0, q1⟩ => by
        have e1 : g[i.toNat]? = some (g[i.toNat]'(by omega)) := List.getElem?_eq_getElem (by omega)
        have ht := allB_take g i.toNat (by omega)
        have hsz := szBalanceS_eq (g[i.toNat]'(by omega)) (hg.2 _ (List.getElem_mem _)).1 s q0 (by omega)
        by_cases h2 : szRest (g[i.toNat]'(by omega)).length s < 0
        · refine .inr ⟨-1, fun h => absurd (by decide) h, Ev.step (fun k => laws_szBalanceSS.l0.eq_2 ..) (Ev.pos p1 (Ev.pos p0 ?_))⟩
          rw [rdBBL e1]
          exact Ev.bind (Ev.is hsz) (Ev.pos h2 (Ev.now _))
        · obtain ⟨b1, b2⟩ := szRest_ok (by omega) h2
          refine .inl ⟨s - (g[i.toNat]'(by omega)).length, ⟨by omega, by rw [show (i + 1).toNat = i.toNat + 1 by omega, ht]; omega⟩, fun r hr => Ev.step (fun k => laws_szBalanceSS.l0.eq_2 ..) (Ev.pos p1 (Ev.pos p0 ?_))⟩
          rw [rdBBL e1]
          rw [b2] at hsz
          exact Ev.bind (Ev.is hsz) (Ev.neg (by omega) hr))
      (fun s ⟨q0, q1⟩ => ⟨s, fun _ => by rw [q1, List.take_of_length_le (by omega)], Ev.step (fun k => laws_szBalanceSS.l0.eq_2 ..) (Ev.neg (by omega) (Ev.now _))⟩)
      0 (left - g.length) (by omega) (by omega) ⟨by omega, by simp [allB]⟩
    exact ⟨r, hr, Ev.neg h he⟩
theorem szLedger_ev (g : List (List S115)) (hg : okL (okL ok115) g) (left : Int) (h0 : 0 ≤ left) (h1 : left ≤ 1048576) :
    ∃ r, (¬ r < 0 → r = left - g.length - allB g) ∧ Ev (fun k => laws_szLedger.f k g left) r := by
  obtain ⟨r, hr, he⟩ := szBalanceSS_ev g hg left h0 h1
  unfold laws_szLedger.f
  by_cases h : r < 0
  · exact ⟨-1, fun h => absurd (by decide) h, Ev.bind he (Ev.pos h (Ev.now _))⟩
  · exact ⟨r, hr, Ev.bind he (Ev.neg h (Ev.now _))⟩
/-- What the law's mirror of a ledger stands for. -/
def ledgerOf (g : List (List S115)) : List (List S104) := g.map fun l => l.map balanceOf
theorem toLedger_ev (g : List (List S115)) (hl : g.length ≤ 1048576) (hb : ∀ l ∈ g, l.length ≤ 1048576) : Ev (fun k => laws_toLedger.f k g) (ledgerOf g) := by
  unfold laws_toLedger.f laws_toBalanceSS.f
  refine Ev.bind (a := ledgerOf g) (Ev.pos (by omega) (Ev.pos (by omega) ?_)) (Ev.now _)
  refine Ev.fill (fun k s i => laws_toBalanceSS.l0 k g s i) (ledgerOf g) (by simp [ledgerOf]; omega)
    (fun i s v h0 h1 hs hv h => ?_)
    (fun s hs => Ev.step (fun k => laws_toBalanceSS.l0.eq_2 ..) (Ev.neg (by simp [ledgerOf]) (Ev.now _))) _ (by simp [ledgerOf])
  unfold ledgerOf at h1 hs hv
  rw [List.length_map] at h1 hs
  rw [List.getElem?_map] at hv
  obtain ⟨w, hw, rfl⟩ := Option.map_eq_some_iff.1 hv
  refine Ev.step (fun k => laws_toBalanceSS.l0.eq_2 ..) (Ev.pos h1 (Ev.pos h0 ?_))
  rw [rdBBL hw]
  exact Ev.bind (toBalanceS_ev w (hb w (List.mem_of_getElem? hw))) (Ev.pos (by omega) h)
theorem eqLedger_ev (g : List (List S104)) (hl : (g.length : Int) ≤ 9223372036854775807) (hb : ∀ l ∈ g, (l.length : Int) ≤ 9223372036854775807) : Ev (fun k => laws_eqLedger.f k g g) true := by
  unfold laws_eqLedger.f laws_eqBalanceSS.f
  refine Ev.bind (a := true) (Ev.pos rfl ?_) (Ev.pos rfl (Ev.now _))
  refine Ev.each (F := fun k i => laws_eqBalanceSS.l0 k g g i) g.length hl (fun i h0 h1 h => Ev.step (fun k => laws_eqBalanceSS.l0.eq_2 ..) (Ev.pos h1 (Ev.pos h0 (Ev.pos h1 ?_)))) (Ev.step (fun k => laws_eqBalanceSS.l0.eq_2 ..) (Ev.neg (by omega) (Ev.now _)))
  have e1 : g[i.toNat]? = some (g[i.toNat]'(by omega)) := List.getElem?_eq_getElem (by omega)
  rw [rdBB e1]
  exact Ev.bind (eqBalanceS_ev _ (hb _ (List.getElem_mem _))) (Ev.pos rfl h)

instance decBalance : DecidableEq S104 := fun a b => decidable_of_iff (a.f0 = b.f0 ∧ a.f1 = b.f1 ∧ a.f2 = b.f2) (by cases a; cases b; simp)
theorem balance_ne (a b : S104) : ((!(a.f0 == b.f0) || (!(a.f1 == b.f1) || !(a.f2 == b.f2))) = true) ↔ ¬ a = b := by
  obtain ⟨a0, a1, a2⟩ := a
  obtain ⟨b0, b1, b2⟩ := b
  simp
  omega
theorem drop_end {α : Type} (a b : List α) (n : Nat) (h : a.length = b.length) (hn : a.length ≤ n) : a.drop n = b.drop n := by
  rw [List.drop_eq_nil_of_le hn, List.drop_eq_nil_of_le (by omega)]
theorem drop_both {α : Type} (a b : List α) (i : Nat) (h0 : i < a.length) (h1 : i < b.length) : a.drop i = b.drop i ↔ a[i] = b[i] ∧ a.drop (i + 1) = b.drop (i + 1) := by
  rw [drop_cons_at a i h0, drop_cons_at b i h1, List.cons.injEq]
theorem equal_ev (a b : List S104) (hn : (a.length : Int) ≤ 9000000000000000000) : Ev (fun k => slices_Equal_impl_Balance.f k a b) (decide (a = b)) := by
  unfold slices_Equal_impl_Balance.f
  by_cases hl : a.length = b.length
  · refine Ev.pos (by omega) ?_
    refine Ev.upto1 (fun k (_ : Unit) i => slices_Equal_impl_Balance.l0 k a b (a.length : Int) i) a.length (by omega) (fun i _ => a.drop i.toNat = b.drop i.toNat ↔ a = b) (decide (a = b))
      (fun i _ h0 h1 hp => ?_) (fun _ hp => ?_) 0 () (by omega) (by omega) (by simp)
    · rw [drop_both a b i.toNat (by omega) (by omega)] at hp
      by_cases he : a[i.toNat]'(by omega) = b[i.toNat]'(by omega)
      · refine .inl ⟨(), by rw [show (i + 1).toNat = i.toNat + 1 by omega]; simpa [he] using hp, fun h => Ev.step (fun k => slices_Equal_impl_Balance.l0.eq_2 ..) (Ev.pos h1 (Ev.pos h0 (Ev.pos h1 (Ev.pos (by omega) ?_))))⟩
        rw [rdBalance_at a i h0 h1, rdBalance_at b i h0 (by omega)]
        exact Ev.neg (by rw [balance_ne]; exact not_not_intro he) h
      · refine .inr (Ev.step (fun k => slices_Equal_impl_Balance.l0.eq_2 ..) (Ev.pos h1 (Ev.pos h0 (Ev.pos h1 (Ev.pos (by omega) ?_)))))
        rw [rdBalance_at a i h0 h1, rdBalance_at b i h0 (by omega)]
        refine Ev.pos (by rw [balance_ne]; exact he) (Ev.eq (Ev.now _) ?_)
        rw [eq_comm, decide_eq_false_iff_not, ← hp]
        exact fun h => he h.1
    · refine Ev.step (fun k => slices_Equal_impl_Balance.l0.eq_2 ..) (Ev.neg (by omega) (Ev.eq (Ev.now _) ?_))
      rw [eq_comm, decide_eq_true_iff, ← hp]
      exact drop_end a b _ hl (by omega)
  · refine Ev.neg (by omega) (Ev.eq (Ev.now _) ?_)
    rw [eq_comm, decide_eq_false_iff_not]
    exact fun h => hl (by rw [h])
theorem impl_SameLedgers_ev (g h : List (List S104)) (hg : (g.length : Int) ≤ 9000000000000000000) (hb : ∀ l ∈ g, (l.length : Int) ≤ 9000000000000000000) : Ev (fun k => impl_SameLedgers.f k g h) (decide (g = h)) := by
  unfold impl_SameLedgers.f
  refine Ev.bind (a := decide (g = h)) ?_ (Ev.now _)
  unfold slices_EqualFunc_impl_Balance.f
  by_cases hl : g.length = h.length
  · refine Ev.pos (by omega) ?_
    refine Ev.upto1 (fun k (_ : Unit) i => slices_EqualFunc_impl_Balance.l0 k h g (g.length : Int) i) g.length (by omega) (fun i _ => g.drop i.toNat = h.drop i.toNat ↔ g = h) (decide (g = h))
      (fun i _ h0 h1 hp => ?_) (fun _ hp => ?_) 0 () (by omega) (by omega) (by simp)
    · rw [drop_both g h i.toNat (by omega) (by omega)] at hp
      have e1 : g[i.toNat]? = some (g[i.toNat]'(by omega)) := List.getElem?_eq_getElem (by omega)
      have e2 : h[i.toNat]? = some (h[i.toNat]'(by omega)) := List.getElem?_eq_getElem (by omega)
      have hx := equal_ev (g[i.toNat]'(by omega)) (h[i.toNat]'(by omega)) (hb _ (List.getElem_mem _))
      by_cases he : g[i.toNat]'(by omega) = h[i.toNat]'(by omega)
      · refine .inl ⟨(), by rw [show (i + 1).toNat = i.toNat + 1 by omega]; simpa [he] using hp, fun h => Ev.step (fun k => slices_EqualFunc_impl_Balance.l0.eq_2 ..) (Ev.pos h1 (Ev.pos h0 (Ev.pos h1 (Ev.pos (by omega) ?_))))⟩
        rw [rdBB e1, rdBB e2]
        exact Ev.bind hx (Ev.pos (decide_eq_true he) h)
      · refine .inr (Ev.step (fun k => slices_EqualFunc_impl_Balance.l0.eq_2 ..) (Ev.pos h1 (Ev.pos h0 (Ev.pos h1 (Ev.pos (by omega) ?_)))))
        rw [rdBB e1, rdBB e2]
        refine Ev.bind hx (Ev.neg (by simpa using he) (Ev.eq (Ev.now _) ?_))
        rw [eq_comm, decide_eq_false_iff_not, ← hp]
        exact fun h => he h.1
    · refine Ev.step (fun k => slices_EqualFunc_impl_Balance.l0.eq_2 ..) (Ev.neg (by omega) (Ev.eq (Ev.now _) ?_))
      rw [eq_comm, decide_eq_true_iff, ← hp]
      exact drop_end g h _ hl (by omega)
  · refine Ev.neg (by omega) (Ev.eq (Ev.now _) ?_)
    rw [eq_comm, decide_eq_false_iff_not]
    exact fun h => hl (by rw [h])
theorem spec_SameLedgers_ev (g h : List (List S104)) (hg : (g.length : Int) ≤ 9000000000000000000) (hb : ∀ l ∈ g, (l.length : Int) ≤ 9000000000000000000) : Ev (fun k => spec_SameLedgers.f k g h) (decide (g = h)) := by
  unfold spec_SameLedgers.f
  by_cases hl : g.length = h.length
  · refine Ev.pos (by omega) ?_
    refine Ev.upto1 (fun k (_ : Unit) i => spec_SameLedgers.l0 k i g h) g.length (by omega) (fun i _ => g.drop i.toNat = h.drop i.toNat ↔ g = h) (decide (g = h))
      (fun i _ h0 h1 hp => ?_) (fun _ hp => ?_) 0 () (by omega) (by omega) (by simp)
    · rw [drop_both g h i.toNat (by omega) (by omega)] at hp
      have e1 : g[i.toNat]? = some (g[i.toNat]'(by omega)) := List.getElem?_eq_getElem (by omega)
      have e2 : h[i.toNat]? = some (h[i.toNat]'(by omega)) := List.getElem?_eq_getElem (by omega)
      have hla := hb _ (List.getElem_mem (l := g) (n := i.toNat) (by omega))
      have r1 := rdBB e1
      have r2 := rdBB e2
      generalize g[i.toNat]'(by omega) = a at *
      generalize h[i.toNat]'(by omega) = b at *
      by_cases he : a = b
      · subst he
        refine .inl ⟨(), by rw [show (i + 1).toNat = i.toNat + 1 by omega]; simpa using hp, fun hh => Ev.step (fun k => spec_SameLedgers.l0.eq_2 ..) (Ev.pos h1 (Ev.pos h0 (Ev.pos (by omega) ?_)))⟩
        rw [r1, r2]
        refine Ev.pos rfl ?_
        refine Ev.each (F := fun k j => spec_SameLedgers.l1 k i j g h) a.length (by omega) (fun j j0 j1 hj => Ev.step (fun k => spec_SameLedgers.l1.eq_2 ..) (Ev.pos h0 (Ev.pos h1 ?_))) (Ev.step (fun k => spec_SameLedgers.l1.eq_2 ..) (Ev.pos h0 (Ev.pos h1 ?_)))
        · rw [r1, r2]
          exact Ev.pos j1 (Ev.pos j0 (Ev.pos (by omega) (Ev.pos j1 (Ev.neg (by simp) hj))))
        · rw [r1]
          exact Ev.neg (by omega) hh
      · have hf : decide (g = h) = false := by
          rw [decide_eq_false_iff_not, ← hp]
          exact fun h => he h.1
        rw [hf]
        refine .inr (Ev.step (fun k => spec_SameLedgers.l0.eq_2 ..) (Ev.pos h1 (Ev.pos h0 (Ev.pos (by omega) ?_))))
        rw [r1, r2]
        by_cases hn : a.length = b.length
        · refine Ev.pos (by omega) ?_
          refine Ev.upto1 (fun k (_ : Unit) j => spec_SameLedgers.l1 k i j g h) a.length (by omega) (fun j _ => ¬ a.drop j.toNat = b.drop j.toNat) false
            (fun j _ j0 j1 hq => ?_) (fun _ hq => absurd (drop_end a b _ hn (by omega)) hq) 0 () (by omega) (by omega) (by simpa using he)
          rw [drop_both a b j.toNat (by omega) (by omega)] at hq
          by_cases hx : a[j.toNat]'(by omega) = b[j.toNat]'(by omega)
          · refine .inl ⟨(), by rw [show (j + 1).toNat = j.toNat + 1 by omega]; simpa [hx] using hq, fun hh => Ev.step (fun k => spec_SameLedgers.l1.eq_2 ..) (Ev.pos h0 (Ev.pos h1 ?_))⟩
            rw [r1, r2, rdBalance_at a j j0 j1, rdBalance_at b j j0 (by omega)]
            exact Ev.pos j1 (Ev.pos j0 (Ev.pos (by omega) (Ev.pos (by omega) (Ev.neg (by rw [balance_ne]; exact not_not_intro hx) hh))))
          · refine .inr (Ev.step (fun k => spec_SameLedgers.l1.eq_2 ..) (Ev.pos h0 (Ev.pos h1 ?_)))
            rw [r1, r2, rdBalance_at a j j0 j1, rdBalance_at b j j0 (by omega)]
            exact Ev.pos j1 (Ev.pos j0 (Ev.pos (by omega) (Ev.pos (by omega) (Ev.pos (by rw [balance_ne]; exact hx) (Ev.now _)))))
        · exact Ev.neg (by omega) (Ev.now _)
    · refine Ev.step (fun k => spec_SameLedgers.l0.eq_2 ..) (Ev.neg (by omega) (Ev.eq (Ev.now _) ?_))
      rw [eq_comm, decide_eq_true_iff, ← hp]
      exact drop_end g h _ hl (by omega)
  · refine Ev.neg (by omega) (Ev.eq (Ev.now _) ?_)
    rw [eq_comm, decide_eq_false_iff_not]
    exact fun h => hl (by rw [h])
theorem FnExactSameLedgers : ∀ (l0_0 : List (List (S115))) (l1_0 : List (List (S115))), okL (okL ok115) l0_0 → okL (okL ok115) l1_0 → ∃ k, laws_FnExactSameLedgers.f k l0_0 l1_0 = some true := by
  intro g h hg hh
  refine Ev.rounds (r := true) ?_
  unfold laws_FnExactSameLedgers.f
  obtain ⟨r, hr, hsz⟩ := szLedger_ev g hg 1048576 (by decide) (by decide)
  refine Ev.bind hsz (Ev.ite (fun _ => Ev.now _) (fun h0 => ?_))
  have hr := hr h0
  obtain ⟨r2, hr2, hsz2⟩ := szLedger_ev h hh r (by omega) (by omega)
  refine Ev.bind hsz2 (Ev.ite (fun _ => Ev.now _) (fun h1 => ?_))
  have hr2 := hr2 h1
  have hin : ∀ l ∈ g, l.length ≤ 1048576 := fun l hl => by have := mem_allB g l hl; omega
  have hin' : ∀ l ∈ h, l.length ≤ 1048576 := fun l hl => by have := mem_allB h l hl; omega
  have big : ∀ g : List (List S115), (∀ l ∈ g, l.length ≤ 1048576) → ∀ l ∈ ledgerOf g, (l.length : Int) ≤ 9000000000000000000 := fun g hin l hl => by
    obtain ⟨l', hl', rfl⟩ := List.mem_map.1 hl
    have := hin l' hl'
    simp
    omega
  have hlg : ((ledgerOf g).length : Int) ≤ 9000000000000000000 := by simp [ledgerOf]; omega
  have hlh : ((ledgerOf h).length : Int) ≤ 9000000000000000000 := by simp [ledgerOf]; omega
  have t1 := toLedger_ev g (by omega) hin
  have t2 := toLedger_ev h (by omega) hin'
  have q1 := eqLedger_ev (ledgerOf g) (by omega) (fun l hl => by have := big g hin l hl; omega)
  have q2 := eqLedger_ev (ledgerOf h) (by omega) (fun l hl => by have := big h hin' l hl; omega)
  refine Ev.bind t1 (Ev.bind t2 (Ev.bind (spec_SameLedgers_ev _ _ hlg (big g hin)) (Ev.bind t1 (Ev.bind t2 (Ev.bind (impl_SameLedgers_ev _ _ hlg (big g hin)) (Ev.neg (by simp) ?_))))))
  exact Ev.bind t1 (Ev.bind q1 (Ev.pos rfl (Ev.bind t2 (Ev.bind q2 (Ev.pos rfl (Ev.now _))))))

end Go.Proofs.Ytanegggacfmkcaa.Pure
