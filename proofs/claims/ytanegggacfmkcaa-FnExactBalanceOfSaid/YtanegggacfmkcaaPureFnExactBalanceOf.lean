/- FnExactBalanceOf, the pure statement: the program's BalanceOf and the reference's tell the same of any ledger, shard, account and asset, and the argument is as it was. No conditions. -/
import Derived.Test.YtanegggacfmkcaaPFnExactBalanceOfx7
import Derived.Test.YtanegggacfmkcaaOFnExactBalanceOf
namespace Go.Proofs.Ytanegggacfmkcaa.Pure
open Go.RowKit Go.Proofs.Ytanegggacfmkcaa.PFnExactBalanceOf Go.Proofs.YtanegggacfmkcaaW.PrintWords Go.Proofs.YtanegggacfmkcaaW.PrintLast Go.Proofs.YtanegggacfmkcaaW.PrintMore Go.Proofs.Ytanegggacfmkcaa.Opens
set_option linter.unusedVariables false
set_option linter.unusedSimpArgs false
/-! ### words of this text's own -/
theorem w64 {x : Int} (h0 : -9223372036854775808 ≤ x) (h1 : x ≤ 9223372036854775807) : wrap64 x = x := by
  unfold wrap64
  omega
theorem wfU8 {x : Int} (h : (Lit.int .u8 x).wf = true) : 0 ≤ x ∧ x < 256 := by
  simp [Lit.wf, IntKind.min, IntKind.max, IntKind.signed, IntKind.bits] at h
  omega
theorem wfI64 {x : Int} (h : (Lit.int .i64 x).wf = true) : -9223372036854775808 ≤ x ∧ x ≤ 9223372036854775807 := by
  simp [Lit.wf, IntKind.min, IntKind.max, IntKind.signed, IntKind.bits] at h
  omega
section
variable {α β σ : Type}
theorem Ev.ite {g f : Nat → Option α} {c : Prop} [Decidable c] {r : α} (ht : c → Ev g r) (hf : ¬ c → Ev f r) : Ev (fun k => if c then g k else f k) r := by
  by_cases h : c
  · simp only [if_pos h]; exact ht h
  · simp only [if_neg h]; exact hf h
theorem Ev.pos {g f : Nat → Option α} {c : Prop} [Decidable c] {r : α} (h : c) (ht : Ev g r) : Ev (fun k => if c then g k else f k) r := Ev.ite (fun _ => ht) (fun n => absurd h n)
theorem Ev.neg {g f : Nat → Option α} {c : Prop} [Decidable c] {r : α} (h : ¬ c) (hf : Ev f r) : Ev (fun k => if c then g k else f k) r := Ev.ite (fun y => absurd y h) (fun _ => hf)
theorem Ev.cond {g f : Nat → Option α} {c : Prop} [Decidable c] {r s : α} (ht : c → Ev g r) (hf : ¬ c → Ev f s) : Ev (fun k => if c then g k else f k) (if c then r else s) := by
  by_cases h : c
  · simp only [if_pos h]; exact ht h
  · simp only [if_neg h]; exact hf h
theorem Ev.let {f : Nat → α → Option β} {a : α} {r : β} (k : Ev (fun n => f n a) r) : Ev (fun n => (some a).bind (f n)) r := Ev.bind (Ev.now a) k
theorem Ev.is {a : Option α} {r : α} (h : a = some r) : Ev (fun _ => a) r := ⟨0, fun _ _ => h⟩
theorem Ev.eq {g : Nat → Option α} {a b : α} (h : Ev g a) (e : a = b) : Ev g b := e ▸ h
/-- A loop that counts i up to n, with a state s: what it comes to, if 'P i s' leads from round to round. -/
theorem Ev.upto (F : Nat → σ → Int → Option α) (n : Int) (hn : n ≤ 9223372036854775807) (P : Int → σ → Prop) (R : α → Prop)
    (step : ∀ i s, 0 ≤ i → i < n → P i s → (∃ s', P (i + 1) s' ∧ ∀ r, Ev (fun k => F k s' (wrap64 (i + 1))) r → Ev (fun k => F k s i) r) ∨ (∃ r, R r ∧ Ev (fun k => F k s i) r))
    (stop : ∀ s, P n s → ∃ r, R r ∧ Ev (fun k => F k s n) r) (i : Int) (s : σ) (h0 : 0 ≤ i) (h1 : i ≤ n) (hP : P i s) : ∃ r, R r ∧ Ev (fun k => F k s i) r := by
  obtain ⟨d, hd⟩ : ∃ d : Nat, n - i = d := ⟨(n - i).toNat, by omega⟩
  induction d generalizing i s with
  | zero =>
    obtain rfl : i = n := by omega
    exact stop s hP
  | succ d ih =>
    rcases step i s h0 (by omega) hP with ⟨s', hP', h⟩ | h
    · obtain ⟨r, hr, he⟩ := ih (i + 1) s' (by omega) (by omega) hP' (by omega)
      exact ⟨r, hr, h r (by rw [w64 (by omega) (by omega)]; exact he)⟩
    · exact h
/-- The same, where what it comes to is one value. -/
theorem Ev.upto1 (F : Nat → σ → Int → Option α) (n : Int) (hn : n ≤ 9223372036854775807) (P : Int → σ → Prop) (r : α)
    (step : ∀ i s, 0 ≤ i → i < n → P i s → (∃ s', P (i + 1) s' ∧ (Ev (fun k => F k s' (wrap64 (i + 1))) r → Ev (fun k => F k s i) r)) ∨ Ev (fun k => F k s i) r)
    (stop : ∀ s, P n s → Ev (fun k => F k s n) r) (i : Int) (s : σ) (h0 : 0 ≤ i) (h1 : i ≤ n) (hP : P i s) : Ev (fun k => F k s i) r := by
  obtain ⟨d, hd⟩ : ∃ d : Nat, n - i = d := ⟨(n - i).toNat, by omega⟩
  induction d generalizing i s with
  | zero =>
    obtain rfl : i = n := by omega
    exact stop s hP
  | succ d ih =>
    rcases step i s h0 (by omega) hP with ⟨s', hP', h⟩ | h
    · exact h (by rw [w64 (by omega) (by omega)]; exact ih (i + 1) s' (by omega) (by omega) hP' (by omega))
    · exact h
theorem take_set_succ (l acc : List α) (i : Nat) (v : α) (h : i < acc.length) (ht : acc.take i = l.take i) (hv : l[i]? = some v) : (acc.set i v).take (i + 1) = l.take (i + 1) := by
  rw [List.take_add_one, List.take_add_one, hv, List.getElem?_set_self h, List.take_set_of_le (Nat.le_refl _), ht]
/-- A row filled cell by cell. -/
theorem Ev.fill (F : Nat → List α → Int → Option (List α)) (l : List α) (hl : l.length ≤ 9223372036854775807)
    (step : ∀ (i : Int) s (v : α), 0 ≤ i → i < (l.length : Int) → s.length = l.length → l[i.toNat]? = some v → Ev (fun k => F k (s.set i.toNat v) (wrap64 (i + 1))) l → Ev (fun k => F k s i) l)
    (stop : ∀ s, s.length = l.length → Ev (fun k => F k s (l.length : Int)) s) (s : List α) (hs : s.length = l.length) : Ev (fun k => F k s 0) l :=
  Ev.upto1 F l.length (by omega) (fun i s => s.length = l.length ∧ s.take i.toNat = l.take i.toNat) l
    (fun i s h0 h1 ⟨hs, ht⟩ => .inl ⟨s.set i.toNat (l[i.toNat]'(by omega)), ⟨by simp [hs], by
      rw [show (i + 1).toNat = i.toNat + 1 by omega]
      exact take_set_succ l s _ _ (by omega) ht (List.getElem?_eq_getElem (by omega))⟩, step i s _ h0 h1 hs (List.getElem?_eq_getElem (by omega))⟩)
    (fun s ⟨hs, ht⟩ => by
      rw [List.take_of_length_le (by omega), List.take_of_length_le (by omega)] at ht
      have := stop s hs
      subst ht
      exact this) 0 s (by omega) (by omega) ⟨hs, by simp⟩
/-- A loop that asks of each place, and comes to the end. -/
theorem Ev.each {F : Nat → Int → Option β} {r : β} (n : Nat) (hn : (n : Int) ≤ 9223372036854775807) (step : ∀ i : Int, 0 ≤ i → i < n → Ev (fun k => F k (wrap64 (i + 1))) r → Ev (fun k => F k i) r) (stop : Ev (fun k => F k (n : Int)) r) : Ev (fun k => F k 0) r :=
  Ev.upto1 (fun k (_ : Unit) i => F k i) n hn (fun _ _ => True) r (fun i _ h0 h1 _ => .inl ⟨(), trivial, step i h0 h1⟩) (fun _ _ => stop) 0 () (by omega) (by omega) trivial
end
theorem rd_get (l : List Int) (i : Int) (h0 : 0 ≤ i) (h1 : i < (l.length : Int)) : rd l i = l[i.toNat]'(by omega) := by
  unfold rd
  rw [List.getD_eq_getElem?_getD, List.getElem?_eq_getElem (by omega)]
  rfl
theorem rd_of {l : List Int} {i : Int} {v : Int} (h : l[i.toNat]? = some v) : rd l i = v := by
  unfold rd
  rw [List.getD_eq_getElem?_getD, h]
  rfl
theorem drop_cons_at {α : Type} (l : List α) (i : Nat) (h : i < l.length) : l.drop i = l[i] :: l.drop (i + 1) := List.drop_eq_getElem_cons h
theorem rdBalance {l : List S104} {i : Int} {v : S104} (h : l[i.toNat]? = some v) : rd_T104 l i = v := by
  unfold rd_T104
  rw [List.getD_eq_getElem?_getD, h]
  rfl
theorem rdBalanceL {l : List S115} {i : Int} {v : S115} (h : l[i.toNat]? = some v) : rd_T115 l i = v := by
  unfold rd_T115
  rw [List.getD_eq_getElem?_getD, h]
  rfl
theorem rdBalance_at (l : List S104) (i : Int) (h0 : 0 ≤ i) (h1 : i < (l.length : Int)) : rd_T104 l i = l[i.toNat]'(by omega) := rdBalance (List.getElem?_eq_getElem (by omega))

/-- Is a balance's place and amount right? -/
def balOk (b : S104) : Prop := 0 ≤ b.f0 ∧ b.f0 ≤ 5 ∧ 0 ≤ b.f1 ∧ b.f1 ≤ 2 ∧ 1 ≤ b.f2 ∧ b.f2 ≤ 1000000000000
/-- Does one stand ahead of the other? -/
def balLt (a b : S104) : Prop := a.f0 < b.f0 ∨ a.f0 = b.f0 ∧ a.f1 < b.f1
open Classical in
/-- What BalancesFault tells of balances from one on, the one ahead of it known. -/
noncomputable def balsR : Option S104 → List S104 → Int
  | _, [] => 0
  | p, b :: l => if balOk b then (if ∀ a, p = some a → balLt a b then balsR (some b) l else 1) else 3
noncomputable def balsFault (l : List S104) : Int := if l.length > 18 then 2 else balsR none l
/-- The one ahead. -/
def ahead {α : Type} (l : List α) (i : Nat) : Option α := if i = 0 then none else l[i - 1]?
theorem ahead_succ {α : Type} (l : List α) (i : Nat) (v : α) (h : l[i]? = some v) : ahead l (i + 1) = some v := by
  unfold ahead
  simp [h]
theorem balsR_ok (b : S104) (p : Option S104) (l : List S104) (h : balOk b) (h2 : ∀ a, p = some a → balLt a b) : balsR p (b :: l) = balsR (some b) l := by
  unfold balsR
  rw [if_pos h, if_pos h2]
  cases l <;> rfl
theorem comparePlaces_ev (a b : S104) : ∃ r : Int, (r ≥ 0 ↔ ¬ balLt a b) ∧ (r > 0 ↔ balLt b a) ∧ Ev (fun k => impl_comparePlaces.f k a.f0 a.f1 a.f2 b.f0 b.f1 b.f2) r := by
  have hc : ∀ x y : Int, cmp_Compare_int64.f x y = some (if x < y then -1 else if x > y then 1 else 0) := fun x y => by
    unfold cmp_Compare_int64.f cmp_isNaN_int64.f
    simp only [Option.bind_some, bne_self_eq_false, Bool.false_eq_true, if_false]
    split
    · rfl
    · split <;> rfl
  have hor : ∀ x y : Int, Ev (fun k => cmp_Or_int.f k [x, y]) (if x = 0 then y else x) := fun x y => by
    refine ⟨3, fun k hk => ?_⟩
    obtain ⟨k, rfl⟩ : ∃ j, k = j + 3 := ⟨k - 3, by omega⟩
    unfold cmp_Or_int.f
    have w1 : wrap64 (0 + 1) = 1 := by rw [w64 (by decide) (by decide)]; rfl
    have w2 : wrap64 (1 + 1) = 2 := by rw [w64 (by decide) (by decide)]; rfl
    have r0 : rd [x, y] 0 = x := rfl
    have r1 : rd [x, y] 1 = y := rfl
    simp only [cmp_Or_int.l0, List.length_cons, List.length_nil, w1, w2, r0, r1]
    by_cases h1 : x = 0 <;> by_cases h2 : y = 0 <;> simp [h1, h2]
  unfold impl_comparePlaces.f
  rw [hc, hc]
  unfold balLt
  refine ⟨_, ?_, ?_, Ev.let (Ev.let (Ev.bind (hor _ _) (Ev.now _)))⟩
  · by_cases h1 : a.f0 < b.f0
    · simp [h1]
    · by_cases h2 : a.f0 > b.f0
      · have : ¬ a.f0 = b.f0 := by omega
        simp [h1, h2, this]
      · have : a.f0 = b.f0 := by omega
        by_cases h3 : a.f1 < b.f1
        · simp [h1, h2, this, h3]
        · by_cases h4 : a.f1 > b.f1 <;> simp [h1, h2, this, h3, h4]
  · by_cases h1 : a.f0 < b.f0
    · have : ¬ b.f0 < a.f0 := by omega
      have : ¬ b.f0 = a.f0 := by omega
      simp [*]
    · by_cases h2 : a.f0 > b.f0
      · simp [h1, h2]
      · have e : a.f0 = b.f0 := by omega
        by_cases h3 : a.f1 < b.f1
        · have : ¬ b.f1 < a.f1 := by omega
          simp [e, h3, this]
        · by_cases h4 : a.f1 > b.f1
          · simp [e, h3, h4]
          · have : ¬ b.f1 < a.f1 := by omega
            simp [e, h3, h4, this]
theorem isPlace_eq (x y : Int) : impl_isPlace.f x y = some (decide (0 ≤ x ∧ x ≤ 5 ∧ 0 ≤ y ∧ y ≤ 2)) := by
  unfold impl_isPlace.f impl_isAsset.f impl_within.f
  by_cases h1 : 0 ≤ x <;> by_cases h2 : x ≤ 5 <;> by_cases h3 : 0 ≤ y <;> by_cases h4 : y ≤ 2 <;> simp [h1, h2, h3, h4]
theorem l2Key_eq (x y : Int) : spec_l2Key.f x y = some (decide (0 ≤ x ∧ x ≤ 5 ∧ 0 ≤ y ∧ y ≤ 2)) := by
  unfold spec_l2Key.f spec_l1In.f
  by_cases h1 : 0 ≤ x <;> by_cases h2 : x ≤ 5 <;> by_cases h3 : 0 ≤ y <;> by_cases h4 : y ≤ 2 <;> simp [h1, h2, h3, h4]
theorem within_eq (x a b : Int) : impl_within.f x a b = some (decide (a ≤ x ∧ x ≤ b)) := by
  unfold impl_within.f
  by_cases h1 : a ≤ x <;> simp [h1]
theorem l1In_eq (x a b : Int) : spec_l1In.f x a b = some (decide (a ≤ x ∧ x ≤ b)) := by
  unfold spec_l1In.f
  by_cases h1 : a ≤ x <;> simp [h1]
theorem impl_BalancesFault_ev (l : List S104) (hl : (l.length : Int) ≤ 9000000000000000000) : Ev (fun k => impl_BalancesFault.f k l) (balsFault l) := by
  unfold impl_BalancesFault.f balsFault
  by_cases hm : l.length > 18
  · rw [if_pos hm]
    exact Ev.pos (by omega) (Ev.now _)
  rw [if_neg hm]
  refine Ev.neg (by omega) ?_
  refine Ev.upto1 (fun k (_ : Unit) i => impl_BalancesFault.l0 k l l (l.length : Int) i) l.length (by omega) (fun i _ => balsR (ahead l i.toNat) (l.drop i.toNat) = balsR none l) (balsR none l)
    (fun i s h0 h1 hs => ?_) (fun s hs => Ev.step (fun k => impl_BalancesFault.l0.eq_2 ..) (Ev.neg (by omega) (Ev.eq (Ev.now _) (by rw [← hs, List.drop_eq_nil_of_le (by omega)]; cases ahead l _ <;> rfl)))) 0 () (by omega) (by omega) rfl
  have e1 : l[i.toNat]? = some (l[i.toNat]'(by omega)) := List.getElem?_eq_getElem (by omega)
  rw [drop_cons_at l i.toNat (by omega)] at hs
  generalize hb : l[i.toNat]'(by omega) = b at hs e1
  have hstep : ∀ g : Nat → Option Int, Ev g (balsR none l) → Ev (fun k => (impl_isPlace.f b.f0 b.f1).bind fun t => if t = true then (impl_within.f b.f2 1 1000000000000).bind fun u => impl_BalancesFault.j1 k l i l (l.length : Int) i (!u) b.f0 b.f1 b.f2 else impl_BalancesFault.j1 k l i l (l.length : Int) i true b.f0 b.f1 b.f2) (balsR none l) → Ev (fun k => impl_BalancesFault.l0 k l l (l.length : Int) i) (balsR none l) := fun g _ h => by
    refine Ev.step (fun k => impl_BalancesFault.l0.eq_2 ..) (Ev.pos h1 (Ev.pos h0 (Ev.pos h1 ?_)))
    rw [rdBalance e1]
    exact h
  by_cases hok : balOk b
  · have hj : ∀ r, (Ev (fun k => if i > 0 then (if 0 ≤ (wrap64 (i - 1)) then (if (wrap64 (i - 1)) < (l.length : Int) then ((impl_comparePlaces.f k ((rd_T104 l (wrap64 (i - 1))).f0) ((rd_T104 l (wrap64 (i - 1))).f1) ((rd_T104 l (wrap64 (i - 1))).f2) b.f0 b.f1 b.f2).bind fun t120 => (if t120 ≥ 0 then (some 1) else (impl_BalancesFault.l0 k l l (l.length : Int) (wrap64 (i + 1))))) else (none)) else (none)) else (impl_BalancesFault.l0 k l l (l.length : Int) (wrap64 (i + 1)))) r) → r = balsR none l → Ev (fun k => impl_BalancesFault.l0 k l l (l.length : Int) i) (balsR none l) := fun r h e => by
      refine hstep (fun _ => some _) (Ev.now _) ?_
      rw [isPlace_eq, within_eq]
      refine Ev.let (Ev.pos (by simp only [decide_eq_true_eq]; exact ⟨hok.1, hok.2.1, hok.2.2.1, hok.2.2.2.1⟩) (Ev.let ?_))
      refine Ev.step (fun k => impl_BalancesFault.j1.eq_2 ..) (Ev.neg ?_ (Ev.eq h e))
      simp only [Bool.not_eq_true', decide_eq_false_iff_not, Classical.not_not]
      exact ⟨hok.2.2.2.2.1, hok.2.2.2.2.2⟩
    by_cases hi : i > 0
    · have e2 : l[(wrap64 (i - 1)).toNat]? = some (l[i.toNat - 1]'(by omega)) := by
        rw [w64 (by omega) (by omega), show (i - 1).toNat = i.toNat - 1 by omega]
        exact List.getElem?_eq_getElem (by omega)
      have ha : ahead l i.toNat = some (l[i.toNat - 1]'(by omega)) := by
        unfold ahead
        rw [if_neg (by omega)]
        exact List.getElem?_eq_getElem (by omega)
      generalize hp : l[i.toNat - 1]'(by omega) = p at e2 ha
      obtain ⟨c, hc1, _, hc⟩ := comparePlaces_ev p b
      by_cases hlt : balLt p b
      · refine .inl ⟨(), ?_, fun h => hj _ (Ev.pos hi (Ev.pos (by rw [w64 (by omega) (by omega)]; omega) (Ev.pos (by rw [w64 (by omega) (by omega)]; omega) (by rw [rdBalance e2]; exact Ev.bind hc (Ev.neg (fun h2 => (hc1.1 h2) hlt) h))))) rfl⟩
        rw [show (i + 1).toNat = i.toNat + 1 by omega, ahead_succ l i.toNat b e1, ← hs, ha, balsR_ok b _ _ hok (fun a e => by cases e; exact hlt)]
      · refine .inr (hj 1 (Ev.pos hi (Ev.pos (by rw [w64 (by omega) (by omega)]; omega) (Ev.pos (by rw [w64 (by omega) (by omega)]; omega) (by rw [rdBalance e2]; exact Ev.bind hc (Ev.pos (hc1.2 hlt) (Ev.now _)))))) ?_)
        rw [← hs, ha]
        unfold balsR
        rw [if_pos hok, if_neg (fun h => hlt (h p rfl))]
    · have hz : ahead l i.toNat = none := by unfold ahead; rw [if_pos (by omega)]
      refine .inl ⟨(), ?_, fun h => hj _ (Ev.neg hi h) rfl⟩
      rw [show (i + 1).toNat = i.toNat + 1 by omega, ahead_succ l i.toNat b e1, ← hs, hz, balsR_ok b _ _ hok (fun a e => by cases e)]
  · have hr : balsR none l = 3 := by
      rw [← hs]
      unfold balsR
      rw [if_neg hok]
    refine .inr (hstep (fun _ => some _) (Ev.now _) ?_)
    rw [isPlace_eq, within_eq, hr]
    refine Ev.let (Ev.ite (fun h => Ev.let (Ev.step (fun k => impl_BalancesFault.j1.eq_2 ..) (Ev.pos ?_ (Ev.now _)))) (fun _ => Ev.step (fun k => impl_BalancesFault.j1.eq_2 ..) (Ev.pos rfl (Ev.now _))))
    simp only [decide_eq_true_eq] at h
    simp only [Bool.not_eq_true', decide_eq_false_iff_not]
    exact fun h2 => hok ⟨h.1, h.2.1, h.2.2.1, h.2.2.2, h2.1, h2.2⟩

theorem spec_BalancesFault_ev (l : List S104) (hl : (l.length : Int) ≤ 9000000000000000000) : Ev (fun k => spec_BalancesFault.f k l) (balsFault l) := by
  unfold spec_BalancesFault.f balsFault
  by_cases hm : l.length > 18
  · rw [if_pos hm]
    exact Ev.pos (by omega) (Ev.now _)
  rw [if_neg hm]
  refine Ev.neg (by omega) ?_
  refine Ev.upto1 (fun k (_ : Unit) i => spec_BalancesFault.l0 k l i) l.length (by omega) (fun i _ => balsR (ahead l i.toNat) (l.drop i.toNat) = balsR none l ∧ ∀ a, ahead l i.toNat = some a → balOk a) (balsR none l)
    (fun i s h0 h1 ⟨hs, hpo⟩ => ?_) (fun s ⟨hs, _⟩ => Ev.step (fun k => spec_BalancesFault.l0.eq_2 ..) (Ev.neg (by omega) (Ev.eq (Ev.now _) (by rw [← hs, List.drop_eq_nil_of_le (by omega)]; cases ahead l _ <;> rfl)))) 0 () (by omega) (by omega) ⟨rfl, fun a h => by simp [ahead] at h⟩
  have e1 : l[i.toNat]? = some (l[i.toNat]'(by omega)) := List.getElem?_eq_getElem (by omega)
  rw [drop_cons_at l i.toNat (by omega)] at hs
  generalize hb : l[i.toNat]'(by omega) = b at hs e1
  have hstep : Ev (fun k => (spec_l2Key.f b.f0 b.f1).bind fun t => if t = true then (spec_l1In.f b.f2 1 1000000000000).bind fun u => spec_BalancesFault.j1 k l i (!u) b.f0 b.f1 b.f2 else spec_BalancesFault.j1 k l i true b.f0 b.f1 b.f2) (balsR none l) → Ev (fun k => spec_BalancesFault.l0 k l i) (balsR none l) := fun h => by
    refine Ev.step (fun k => spec_BalancesFault.l0.eq_2 ..) (Ev.pos h1 (Ev.pos h0 ?_))
    rw [rdBalance e1]
    exact h
  by_cases hok : balOk b
  · have hj : ∀ r, (Ev (fun k => if i > 0 then (if 0 ≤ (wrap64 (i - 1)) then (if (wrap64 (i - 1)) < (l.length : Int) then (if (wrap64 ((wrap64 (b.f0 * 3)) + b.f1)) ≤ (wrap64 ((wrap64 (((rd_T104 l (wrap64 (i - 1))).f0) * 3)) + ((rd_T104 l (wrap64 (i - 1))).f1))) then (some 1) else (spec_BalancesFault.l0 k l (wrap64 (i + 1)))) else (none)) else (none)) else (spec_BalancesFault.l0 k l (wrap64 (i + 1)))) r) → r = balsR none l → Ev (fun k => spec_BalancesFault.l0 k l i) (balsR none l) := fun r h e => by
      refine hstep ?_
      rw [l2Key_eq, l1In_eq]
      refine Ev.let (Ev.pos (by simp only [decide_eq_true_eq]; exact ⟨hok.1, hok.2.1, hok.2.2.1, hok.2.2.2.1⟩) (Ev.let ?_))
      refine Ev.step (fun k => spec_BalancesFault.j1.eq_2 ..) (Ev.neg ?_ (Ev.eq h e))
      simp only [Bool.not_eq_true', decide_eq_false_iff_not, Classical.not_not]
      exact ⟨hok.2.2.2.2.1, hok.2.2.2.2.2⟩
    have hnext : ∀ a, ahead l (i + 1).toNat = some a → balOk a := fun a ha => by
      rw [show (i + 1).toNat = i.toNat + 1 by omega, ahead_succ l i.toNat b e1] at ha
      cases ha
      exact hok
    by_cases hi : i > 0
    · have e2 : l[(wrap64 (i - 1)).toNat]? = some (l[i.toNat - 1]'(by omega)) := by
        rw [w64 (by omega) (by omega), show (i - 1).toNat = i.toNat - 1 by omega]
        exact List.getElem?_eq_getElem (by omega)
      have ha : ahead l i.toNat = some (l[i.toNat - 1]'(by omega)) := by
        unfold ahead
        rw [if_neg (by omega)]
        exact List.getElem?_eq_getElem (by omega)
      generalize hp : l[i.toNat - 1]'(by omega) = p at e2 ha
      have hpok := hpo p ha
      have hcmp : ((wrap64 ((wrap64 (b.f0 * 3)) + b.f1)) ≤ (wrap64 ((wrap64 (p.f0 * 3)) + p.f1))) ↔ ¬ balLt p b := by
        unfold balOk at hok hpok
        unfold balLt
        rw [w64 (x := b.f0 * 3) (by omega) (by omega), w64 (x := p.f0 * 3) (by omega) (by omega), w64 (x := b.f0 * 3 + b.f1) (by omega) (by omega), w64 (x := p.f0 * 3 + p.f1) (by omega) (by omega)]
        omega
      by_cases hlt : balLt p b
      · refine .inl ⟨(), ⟨?_, hnext⟩, fun h => hj _ (Ev.pos hi (Ev.pos (by rw [w64 (by omega) (by omega)]; omega) (Ev.pos (by rw [w64 (by omega) (by omega)]; omega) (by rw [rdBalance e2]; exact Ev.neg (fun h2 => (hcmp.1 h2) hlt) h)))) rfl⟩
        rw [show (i + 1).toNat = i.toNat + 1 by omega, ahead_succ l i.toNat b e1, ← hs, ha, balsR_ok b _ _ hok (fun a e => by cases e; exact hlt)]
      · refine .inr (hj 1 (Ev.pos hi (Ev.pos (by rw [w64 (by omega) (by omega)]; omega) (Ev.pos (by rw [w64 (by omega) (by omega)]; omega) (by rw [rdBalance e2]; exact Ev.pos (hcmp.2 hlt) (Ev.now _))))) ?_)
        rw [← hs, ha]
        unfold balsR
        rw [if_pos hok, if_neg (fun h => hlt (h p rfl))]
    · have hz : ahead l i.toNat = none := by unfold ahead; rw [if_pos (by omega)]
      refine .inl ⟨(), ⟨?_, hnext⟩, fun h => hj _ (Ev.neg hi h) rfl⟩
      rw [show (i + 1).toNat = i.toNat + 1 by omega, ahead_succ l i.toNat b e1, ← hs, hz, balsR_ok b _ _ hok (fun a e => by cases e)]
  · have hr : balsR none l = 3 := by
      rw [← hs]
      unfold balsR
      rw [if_neg hok]
    refine .inr (hstep ?_)
    rw [l2Key_eq, l1In_eq, hr]
    refine Ev.let (Ev.ite (fun h => Ev.let (Ev.step (fun k => spec_BalancesFault.j1.eq_2 ..) (Ev.pos ?_ (Ev.now _)))) (fun _ => Ev.step (fun k => spec_BalancesFault.j1.eq_2 ..) (Ev.pos rfl (Ev.now _))))
    simp only [decide_eq_true_eq] at h
    simp only [Bool.not_eq_true', decide_eq_false_iff_not]
    exact fun h2 => hok ⟨h.1, h.2.1, h.2.2.1, h.2.2.2, h2.1, h2.2⟩

/-- What is left of a bound behind a list, or less than nothing. -/
def szRest (n : Nat) (left : Int) : Int := if left - n < 0 then -1 else left - n
theorem szRest_ok {n : Nat} {left : Int} (h0 : left ≤ 1048576) (h1 : ¬ szRest n left < 0) : (n : Int) ≤ left ∧ szRest n left = left - n := by
  unfold szRest at *
  by_cases h : left - n < 0
  · rw [if_pos h] at h1; omega
  · rw [if_neg h]; exact ⟨by omega, rfl⟩

theorem szBalanceS_eq (l : List S115) (hl : l.length ≤ maxLen) (left : Int) (h0 : 0 ≤ left) (h1 : left ≤ 1048576) : laws_szBalanceS.f l left = some (szRest l.length left) := by
  unfold maxLen at hl
  unfold laws_szBalanceS.f szRest
  rw [w64 (by omega) (by omega)]
  split <;> rfl

/-- What the law's mirror of a Balance stands for. -/
def balanceOf (x : S115) : S104 := ⟨x.f0, x.f1, x.f2⟩
theorem toBalanceS_ev (l : List S115) (hl : l.length ≤ 1048576) : Ev (fun k => laws_toBalanceS.f k l) (l.map balanceOf) := by
  unfold laws_toBalanceS.f
  refine Ev.pos (by omega) (Ev.pos (by omega) ?_)
  refine Ev.fill (fun k s i => laws_toBalanceS.l0 k l s i) (l.map balanceOf) (by simp; omega)
    (fun i s v h0 h1 hs hv h => ?_)
    (fun s hs => Ev.step (fun k => laws_toBalanceS.l0.eq_2 ..) (Ev.neg (by simp) (Ev.now _))) _ (by simp)
  rw [List.length_map] at h1 hs
  rw [List.getElem?_map] at hv
  obtain ⟨w, hw, rfl⟩ := Option.map_eq_some_iff.1 hv
  refine Ev.step (fun k => laws_toBalanceS.l0.eq_2 ..) (Ev.pos h1 (Ev.pos h0 ?_))
  rw [rdBalanceL hw]
  exact Ev.let (Ev.pos (by omega) h)

theorem eqBalance_rfl (a0 : Int) (a1 : Int) (a2 : Int) : laws_eqBalance.f a0 a1 a2 a0 a1 a2 = some true := by
  unfold laws_eqBalance.f
  simp
theorem eqBalanceS_ev (l : List S104) (hl : (l.length : Int) ≤ 9223372036854775807) : Ev (fun k => laws_eqBalanceS.f k l l) true := by
  unfold laws_eqBalanceS.f
  refine Ev.pos rfl ?_
  refine Ev.each (F := fun k i => laws_eqBalanceS.l0 k l l i) l.length hl (fun i h0 h1 h => Ev.step (fun k => laws_eqBalanceS.l0.eq_2 ..) (Ev.pos h1 (Ev.pos h0 (Ev.pos h1 ?_)))) (Ev.step (fun k => laws_eqBalanceS.l0.eq_2 ..) (Ev.neg (by omega) (Ev.now _)))
  simp only [eqBalance_rfl]
  exact Ev.let (Ev.pos rfl h)

theorem rdBB {l : List (List S104)} {i : Int} {v : List S104} (h : l[i.toNat]? = some v) : rd_L4 l i = v := by
  unfold rd_L4
  rw [List.getD_eq_getElem?_getD, h]
  rfl
theorem rdBBL {l : List (List S115)} {i : Int} {v : List S115} (h : l[i.toNat]? = some v) : rd_L2 l i = v := by
  unfold rd_L2
  rw [List.getD_eq_getElem?_getD, h]
  rfl
/-- How many balances there are in all. -/
def allB {α : Type} (g : List (List α)) : Nat := (g.map List.length).sum
theorem allB_take {α : Type} (g : List (List α)) (i : Nat) (h : i < g.length) : allB (g.take (i + 1)) = allB (g.take i) + (g[i]'h).length := by
  unfold allB
  rw [List.take_add_one, List.getElem?_eq_getElem h, List.map_append, List.sum_append]
  simp
theorem mem_allB {α : Type} (g : List (List α)) (x : List α) (h : x ∈ g) : x.length ≤ allB g := by
  unfold allB
  induction g with
  | nil => cases h
  | cons y g ih =>
    rcases List.mem_cons.1 h with rfl | h
    · simp
    · have := ih h
      simp only [List.map_cons, List.sum_cons]
      omega
theorem szBalanceSS_ev (g : List (List S115)) (hg : okL (okL ok115) g) (left : Int) (h0 : 0 ≤ left) (h1 : left ≤ 1048576) :
    ∃ r, (¬ r < 0 → r = left - g.length - allB g) ∧ Ev (fun k => laws_szBalanceSS.f k g left) r := by
  have hl := hg.1
  unfold maxLen at hl
  unfold laws_szBalanceSS.f
  rw [w64 (by omega) (by omega)]
  by_cases h : left - (g.length : Int) < 0
  · exact ⟨-1, fun h => absurd (by decide) h, Ev.pos h (Ev.now _)⟩
  · obtain ⟨r, hr, he⟩ := Ev.upto (fun k s i => laws_szBalanceSS.l0 k g s i) g.length (by omega) (fun i s => 0 ≤ s ∧ s = left - g.length - allB (g.take i.toNat)) (fun r => ¬ r < 0 → r = left - g.length - allB g)
      (fun i s p0 p1 ⟨q0, q1⟩ => by
        have e1 : g[i.toNat]? = some (g[i.toNat]'(by omega)) := List.getElem?_eq_getElem (by omega)
        have ht := allB_take g i.toNat (by omega)
        have hsz := szBalanceS_eq (g[i.toNat]'(by omega)) (hg.2 _ (List.getElem_mem _)).1 s q0 (by omega)
        by_cases h2 : szRest (g[i.toNat]'(by omega)).length s < 0
        · refine .inr ⟨-1, fun h => absurd (by decide) h, Ev.step (fun k => laws_szBalanceSS.l0.eq_2 ..) (Ev.pos p1 (Ev.pos p0 ?_))⟩
          rw [rdBBL e1]
          exact Ev.bind (Ev.is hsz) (Ev.pos h2 (Ev.now _))
        · obtain ⟨b1, b2⟩ := szRest_ok (by omega) h2
          refine .inl ⟨s - (g[i.toNat]'(by omega)).length, ⟨by omega, by rw [show (i + 1).toNat = i.toNat + 1 by omega, ht]; omega⟩, fun r hr => Ev.step (fun k => laws_szBalanceSS.l0.eq_2 ..) (Ev.pos p1 (Ev.pos p0 ?_))⟩
          rw [rdBBL e1]
          rw [b2] at hsz
          exact Ev.bind (Ev.is hsz) (Ev.neg (by omega) hr))
      (fun s ⟨q0, q1⟩ => ⟨s, fun _ => by rw [q1, List.take_of_length_le (by omega)], Ev.step (fun k => laws_szBalanceSS.l0.eq_2 ..) (Ev.neg (by omega) (Ev.now _))⟩)
      0 (left - g.length) (by omega) (by omega) ⟨by omega, by simp [allB]⟩
    exact ⟨r, hr, Ev.neg h he⟩
theorem szLedger_ev (g : List (List S115)) (hg : okL (okL ok115) g) (left : Int) (h0 : 0 ≤ left) (h1 : left ≤ 1048576) :
    ∃ r, (¬ r < 0 → r = left - g.length - allB g) ∧ Ev (fun k => laws_szLedger.f k g left) r := by
  obtain ⟨r, hr, he⟩ := szBalanceSS_ev g hg left h0 h1
  unfold laws_szLedger.f
  by_cases h : r < 0
  · exact ⟨-1, fun h => absurd (by decide) h, Ev.bind he (Ev.pos h (Ev.now _))⟩
  · exact ⟨r, hr, Ev.bind he (Ev.neg h (Ev.now _))⟩
/-- What the law's mirror of a ledger stands for. -/
def ledgerOf (g : List (List S115)) : List (List S104) := g.map fun l => l.map balanceOf
theorem toLedger_ev (g : List (List S115)) (hl : g.length ≤ 1048576) (hb : ∀ l ∈ g, l.length ≤ 1048576) : Ev (fun k => laws_toLedger.f k g) (ledgerOf g) := by
  unfold laws_toLedger.f laws_toBalanceSS.f
  refine Ev.bind (a := ledgerOf g) (Ev.pos (by omega) (Ev.pos (by omega) ?_)) (Ev.now _)
  refine Ev.fill (fun k s i => laws_toBalanceSS.l0 k g s i) (ledgerOf g) (by simp [ledgerOf]; omega)
    (fun i s v h0 h1 hs hv h => ?_)
    (fun s hs => Ev.step (fun k => laws_toBalanceSS.l0.eq_2 ..) (Ev.neg (by simp [ledgerOf]) (Ev.now _))) _ (by simp [ledgerOf])
  unfold ledgerOf at h1 hs hv
  rw [List.length_map] at h1 hs
  rw [List.getElem?_map] at hv
  obtain ⟨w, hw, rfl⟩ := Option.map_eq_some_iff.1 hv
  refine Ev.step (fun k => laws_toBalanceSS.l0.eq_2 ..) (Ev.pos h1 (Ev.pos h0 ?_))
  rw [rdBBL hw]
  exact Ev.bind (toBalanceS_ev w (hb w (List.mem_of_getElem? hw))) (Ev.pos (by omega) h)
theorem eqLedger_ev (g : List (List S104)) (hl : (g.length : Int) ≤ 9223372036854775807) (hb : ∀ l ∈ g, (l.length : Int) ≤ 9223372036854775807) : Ev (fun k => laws_eqLedger.f k g g) true := by
  unfold laws_eqLedger.f laws_eqBalanceSS.f
  refine Ev.bind (a := true) (Ev.pos rfl ?_) (Ev.pos rfl (Ev.now _))
  refine Ev.each (F := fun k i => laws_eqBalanceSS.l0 k g g i) g.length hl (fun i h0 h1 h => Ev.step (fun k => laws_eqBalanceSS.l0.eq_2 ..) (Ev.pos h1 (Ev.pos h0 (Ev.pos h1 ?_)))) (Ev.step (fun k => laws_eqBalanceSS.l0.eq_2 ..) (Ev.neg (by omega) (Ev.now _)))
  have e1 : g[i.toNat]? = some (g[i.toNat]'(by omega)) := List.getElem?_eq_getElem (by omega)
  rw [rdBB e1]
  exact Ev.bind (eqBalanceS_ev _ (hb _ (List.getElem_mem _))) (Ev.pos rfl h)

open Classical in
/-- What LedgerFault tells of shards, one behind the other. -/
noncomputable def shardsR : List (List S104) → Int
  | [] => 0
  | l :: g => if balsFault l = 0 then shardsR g else balsFault l
open Classical in
theorem shardsR_cons (l : List S104) (g : List (List S104)) : shardsR (l :: g) = if balsFault l = 0 then shardsR g else balsFault l := rfl
noncomputable def ledgerFault (g : List (List S104)) : Int := if 1 ≤ g.length ∧ g.length ≤ 3 then shardsR g else 2
theorem impl_LedgerFault_ev (g : List (List S104)) (hb : ∀ l ∈ g, (l.length : Int) ≤ 9000000000000000000) : Ev (fun k => impl_LedgerFault.f k g) (ledgerFault g) := by
  unfold impl_LedgerFault.f impl_size_impl_Balance.f ledgerFault
  refine Ev.let (Ev.bind (Ev.is (within_eq _ _ _)) ?_)
  by_cases hg : 1 ≤ g.length ∧ g.length ≤ 3
  · rw [if_pos hg]
    refine Ev.pos (by simp only [decide_eq_true_eq]; omega) ?_
    refine Ev.upto1 (fun k (_ : Unit) i => impl_LedgerFault.l0 k g (g.length : Int) i) g.length (by omega) (fun i _ => shardsR (g.drop i.toNat) = shardsR g) (shardsR g)
      (fun i s h0 h1 hs => ?_) (fun s hs => Ev.step (fun k => impl_LedgerFault.l0.eq_2 ..) (Ev.neg (by omega) (Ev.eq (Ev.now _) (by rw [← hs, List.drop_eq_nil_of_le (by omega)]; rfl)))) 0 () (by omega) (by omega) rfl
    have e1 : g[i.toNat]? = some (g[i.toNat]'(by omega)) := List.getElem?_eq_getElem (by omega)
    have hl := hb _ (List.getElem_mem (l := g) (n := i.toNat) (by omega))
    rw [drop_cons_at g i.toNat (by omega)] at hs
    generalize g[i.toNat]'(by omega) = l at hs e1 hl
    rw [shardsR_cons] at hs
    by_cases hf : balsFault l = 0
    · rw [if_pos hf] at hs
      refine .inl ⟨(), by rw [show (i + 1).toNat = i.toNat + 1 by omega]; exact hs, fun h => Ev.step (fun k => impl_LedgerFault.l0.eq_2 ..) (Ev.pos h1 (Ev.pos h0 (Ev.pos h1 ?_)))⟩
      rw [rdBB e1]
      exact Ev.bind (impl_BalancesFault_ev l hl) (Ev.pos hf h)
    · rw [if_neg hf] at hs
      refine .inr (Ev.step (fun k => impl_LedgerFault.l0.eq_2 ..) (Ev.pos h1 (Ev.pos h0 (Ev.pos h1 ?_))))
      rw [rdBB e1, ← hs]
      exact Ev.bind (impl_BalancesFault_ev l hl) (Ev.neg hf (Ev.now _))
  · rw [if_neg hg]
    exact Ev.neg (by simp only [decide_eq_true_eq]; omega) (Ev.now _)
theorem spec_LedgerFault_ev (g : List (List S104)) (hb : ∀ l ∈ g, (l.length : Int) ≤ 9000000000000000000) : Ev (fun k => spec_LedgerFault.f k g) (ledgerFault g) := by
  unfold spec_LedgerFault.f ledgerFault
  by_cases hg : 1 ≤ g.length ∧ g.length ≤ 3
  · rw [if_pos hg]
    refine Ev.neg (by omega) (Ev.step (fun k => spec_LedgerFault.j0.eq_2 ..) (Ev.neg (by simp only [decide_eq_true_eq]; omega) ?_))
    refine Ev.upto1 (fun k (_ : Unit) i => spec_LedgerFault.l0 k i g) g.length (by omega) (fun i _ => shardsR (g.drop i.toNat) = shardsR g) (shardsR g)
      (fun i s h0 h1 hs => ?_) (fun s hs => Ev.step (fun k => spec_LedgerFault.l0.eq_2 ..) (Ev.neg (by omega) (Ev.eq (Ev.now _) (by rw [← hs, List.drop_eq_nil_of_le (by omega)]; rfl)))) 0 () (by omega) (by omega) rfl
    have e1 : g[i.toNat]? = some (g[i.toNat]'(by omega)) := List.getElem?_eq_getElem (by omega)
    have hl := hb _ (List.getElem_mem (l := g) (n := i.toNat) (by omega))
    rw [drop_cons_at g i.toNat (by omega)] at hs
    generalize g[i.toNat]'(by omega) = l at hs e1 hl
    rw [shardsR_cons] at hs
    by_cases hf : balsFault l = 0
    · rw [if_pos hf] at hs
      refine .inl ⟨(), by rw [show (i + 1).toNat = i.toNat + 1 by omega]; exact hs, fun h => Ev.step (fun k => spec_LedgerFault.l0.eq_2 ..) (Ev.pos h1 (Ev.pos h0 ?_))⟩
      rw [rdBB e1]
      exact Ev.bind (spec_BalancesFault_ev l hl) (Ev.pos hf h)
    · rw [if_neg hf] at hs
      refine .inr (Ev.step (fun k => spec_LedgerFault.l0.eq_2 ..) (Ev.pos h1 (Ev.pos h0 ?_)))
      rw [rdBB e1, ← hs]
      exact Ev.bind (spec_BalancesFault_ev l hl) (Ev.neg hf (Ev.now _))
  · rw [if_neg hg]
    by_cases h1 : (g.length : Int) < 1
    · exact Ev.pos h1 (Ev.step (fun k => spec_LedgerFault.j0.eq_2 ..) (Ev.pos rfl (Ev.now _)))
    · exact Ev.neg h1 (Ev.step (fun k => spec_LedgerFault.j0.eq_2 ..) (Ev.pos (by simp only [decide_eq_true_eq]; omega) (Ev.now _)))

theorem balLt_trans {a b c : S104} (h : balLt a b) (k : balLt b c) : balLt a c := by
  unfold balLt at *
  omega
open Classical in
theorem balsR_sorted (l : List S104) : ∀ p, balsR p l = 0 → (∀ b ∈ l, balOk b) ∧ l.Pairwise balLt ∧ ∀ a, p = some a → ∀ b ∈ l, balLt a b := by
  induction l with
  | nil => intro p _; exact ⟨by simp, .nil, by simp⟩
  | cons b l ih =>
    intro p h
    unfold balsR at h
    by_cases h1 : balOk b
    · rw [if_pos h1] at h
      by_cases h2 : ∀ a, p = some a → balLt a b
      · rw [if_pos h2] at h
        obtain ⟨q1, q2, q3⟩ := ih _ h
        have q4 := q3 b rfl
        refine ⟨fun c hc => ?_, List.pairwise_cons.2 ⟨q4, q2⟩, fun a ha c hc => ?_⟩
        · rcases List.mem_cons.1 hc with rfl | hc
          · exact h1
          · exact q1 c hc
        · rcases List.mem_cons.1 hc with rfl | hc
          · exact h2 a ha
          · exact balLt_trans (h2 a ha) (q4 c hc)
      · rw [if_neg h2] at h
        exact absurd h (by decide)
    · rw [if_neg h1] at h
      exact absurd h (by decide)
theorem shardsR_zero (g : List (List S104)) (h : shardsR g = 0) : ∀ l ∈ g, balsFault l = 0 := by
  induction g with
  | nil => simp
  | cons l g ih =>
    rw [shardsR_cons] at h
    by_cases hf : balsFault l = 0
    · rw [if_pos hf] at h
      intro m hm
      rcases List.mem_cons.1 hm with rfl | hm
      · exact hf
      · exact ih h m hm
    · rw [if_neg hf] at h
      exact absurd h hf
theorem ledger_sorted (g : List (List S104)) (h : ledgerFault g = 0) : g.length ≤ 3 ∧ ∀ l ∈ g, l.length ≤ 18 ∧ (∀ b ∈ l, balOk b) ∧ l.Pairwise balLt := by
  unfold ledgerFault at h
  by_cases hg : 1 ≤ g.length ∧ g.length ≤ 3
  · rw [if_pos hg] at h
    refine ⟨hg.2, fun l hl => ?_⟩
    have := shardsR_zero g h l hl
    unfold balsFault at this
    by_cases h18 : l.length > 18
    · rw [if_pos h18] at this
      exact absurd this (by decide)
    · rw [if_neg h18] at this
      obtain ⟨q1, q2, _⟩ := balsR_sorted l none this
      exact ⟨by omega, q1, q2⟩
  · rw [if_neg hg] at h
    exact absurd h (by decide)
/-- Does a balance stand at this place? -/
def atPlace (x y : Int) (b : S104) : Prop := b.f0 = x ∧ b.f1 = y
instance (x y : Int) (b : S104) : Decidable (atPlace x y b) := by unfold atPlace; infer_instance
/-- The amount at a place. -/
def amountL (x y : Int) : List S104 → Int
  | [] => 0
  | b :: l => if atPlace x y b then b.f2 else amountL x y l
theorem amountL_cons (x y : Int) (b : S104) (l : List S104) : amountL x y (b :: l) = if atPlace x y b then b.f2 else amountL x y l := rfl
theorem amount_at (x y : Int) (l : List S104) : l.Pairwise balLt → ∀ (i : Nat) (h : i < l.length), atPlace x y (l[i]'h) → amountL x y l = (l[i]'h).f2 := by
  induction l with
  | nil => intro _ i h; exact absurd h (by simp)
  | cons b l ih =>
    intro hp i h hm
    obtain ⟨h1, h2⟩ := List.pairwise_cons.1 hp
    unfold amountL
    cases i with
    | zero => exact if_pos hm
    | succ i =>
      have hi : i < l.length := by simpa using h
      have hlt := h1 _ (List.getElem_mem (l := l) (n := i) hi)
      rw [if_neg]
      · exact ih h2 i hi hm
      · rintro ⟨p, q⟩
        obtain ⟨p', q'⟩ := hm
        simp only [List.getElem_cons_succ] at p' q'
        unfold balLt at hlt
        omega
theorem amount_none (x y : Int) (l : List S104) (h : ∀ (i : Nat) (hi : i < l.length), ¬ atPlace x y (l[i]'hi)) : amountL x y l = 0 := by
  induction l with
  | nil => rfl
  | cons b l ih =>
    unfold amountL
    have h0 : ¬ atPlace x y b := h 0 (by simp)
    rw [if_neg h0]
    exact ih (fun i hi => h (i + 1) (by simpa using hi))

theorem spec_l2Has_ev (l : List S104) (x y : Int) (hl : (l.length : Int) ≤ 9000000000000000000) : Ev (fun k => spec_l2Has.f k l x y) (amountL x y l) := by
  unfold spec_l2Has.f
  refine Ev.upto1 (fun k (_ : Unit) i => spec_l2Has.l0 k l x y i) l.length (by omega) (fun i _ => amountL x y (l.drop i.toNat) = amountL x y l) (amountL x y l)
    (fun i s h0 h1 hs => ?_) (fun s hs => Ev.step (fun k => spec_l2Has.l0.eq_2 ..) (Ev.neg (by omega) (Ev.eq (Ev.now _) (by rw [← hs, List.drop_eq_nil_of_le (by omega)]; rfl)))) 0 () (by omega) (by omega) rfl
  have hr := rdBalance_at l i h0 h1
  rw [drop_cons_at l i.toNat (by omega)] at hs
  generalize l[i.toNat]'(by omega) = b at hs hr
  rw [amountL_cons] at hs
  by_cases h2 : b.f0 = x
  · by_cases h3 : b.f1 = y
    · rw [if_pos ⟨h2, h3⟩] at hs
      refine .inr (Ev.step (fun k => spec_l2Has.l0.eq_2 ..) (Ev.pos h1 (Ev.pos h0 ?_)))
      rw [hr]
      exact Ev.pos h2 (Ev.pos h3 (Ev.eq (Ev.now _) hs))
    · rw [if_neg (fun h => h3 h.2)] at hs
      refine .inl ⟨(), by rw [show (i + 1).toNat = i.toNat + 1 by omega]; exact hs, fun h => Ev.step (fun k => spec_l2Has.l0.eq_2 ..) (Ev.pos h1 (Ev.pos h0 ?_))⟩
      rw [hr]
      exact Ev.pos h2 (Ev.neg h3 h)
  · rw [if_neg (fun h => h2 h.1)] at hs
    refine .inl ⟨(), by rw [show (i + 1).toNat = i.toNat + 1 by omega]; exact hs, fun h => Ev.step (fun k => spec_l2Has.l0.eq_2 ..) (Ev.pos h1 (Ev.pos h0 ?_))⟩
    rw [hr]
    exact Ev.neg h2 h
/-- The place searched, as a balance. -/
def placeB (x y : Int) : S104 := ⟨x, y, 0⟩
theorem search_ev (l : List S104) (x y : Int) (hl : l.length ≤ 1000000) (hp : l.Pairwise balLt) : ∀ (d lo hi : Nat), hi - lo ≤ d → lo ≤ hi → hi ≤ l.length → (∀ (j : Nat) (h : j < l.length), j < lo → balLt (l[j]'h) (placeB x y)) → (∀ (j : Nat) (h : j < l.length), hi ≤ j → ¬ balLt (l[j]'h) (placeB x y)) →
    ∃ i : Nat, ∃ f : Bool, Ev (fun k => slices_BinarySearchFunc_impl_Balance.l0 k l (l.length : Int) (lo : Int) (hi : Int) x y 0) ((i : Int), f) ∧ (f = true → ∃ h : i < l.length, atPlace x y (l[i]'h)) ∧ (f = false → ∀ (j : Nat) (h : j < l.length), ¬ atPlace x y (l[j]'h)) := by
  have hpw := List.pairwise_iff_getElem.1 hp
  intro d
  induction d with
  | zero =>
    intro lo hi hd h1 h2 ha hb
    obtain rfl : lo = hi := by omega
    by_cases hn : lo < l.length
    · obtain ⟨c, c1, c2, hc⟩ := comparePlaces_ev (l[lo]'hn) (placeB x y)
      have hr := rdBalance_at l (lo : Int) (by omega) (by omega)
      have hlo := hb lo hn (Nat.le_refl _)
      refine ⟨lo, (c == 0), Ev.step (fun k => slices_BinarySearchFunc_impl_Balance.l0.eq_2 ..) (Ev.neg (by omega) (Ev.pos (by omega) (Ev.pos (by omega) (Ev.pos (by omega) ?_)))), fun hf => ⟨hn, ?_⟩, fun hf j hj => ?_⟩
      · rw [hr]
        exact Ev.bind hc (Ev.now _)
      · have hc0 : c = 0 := by simpa using hf
        have h3 : ¬ balLt (placeB x y) (l[lo]'hn) := fun h => by have := c2.2 h; omega
        unfold balLt placeB at hlo h3
        unfold atPlace
        simp only at hlo h3
        omega
      · have hc0 : c ≠ 0 := by simpa using hf
        have h3 : balLt (placeB x y) (l[lo]'hn) := c2.1 (by have := c1.2 hlo; omega)
        rintro ⟨p, q⟩
        rcases Nat.lt_trichotomy j lo with hjl | hjl | hjl
        · have := ha j hj hjl
          unfold balLt placeB at this
          simp only at this
          omega
        · subst hjl
          unfold balLt placeB at h3
          simp only at h3
          omega
        · have := balLt_trans h3 (hpw lo j hn hj hjl)
          unfold balLt placeB at this
          simp only at this
          omega
    · refine ⟨lo, false, Ev.step (fun k => slices_BinarySearchFunc_impl_Balance.l0.eq_2 ..) (Ev.neg (by omega) (Ev.neg (by omega) (Ev.now _))), fun hf => absurd hf (by decide), fun _ j hj => ?_⟩
      rintro ⟨p, q⟩
      have := ha j hj (by omega)
      unfold balLt placeB at this
      simp only at this
      omega
  | succ d ih =>
    intro lo hi hd h1 h2 ha hb
    by_cases hlt : lo < hi
    · have hmid : wrap64 ((IntKind.u64.wrap (wrap64 ((lo : Int) + (hi : Int)))) / 2) = (((lo + hi) / 2 : Nat) : Int) := by
        rw [w64 (x := (lo : Int) + (hi : Int)) (by omega) (by omega)]
        have hw : IntKind.u64.wrap ((lo : Int) + (hi : Int)) = (lo : Int) + (hi : Int) := by
          show ((lo : Int) + (hi : Int)) % 18446744073709551616 = _
          omega
        rw [hw, w64 (by omega) (by omega)]
        omega
      have hm1 : lo ≤ (lo + hi) / 2 := by omega
      have hm2 : (lo + hi) / 2 < hi := by omega
      generalize (lo + hi) / 2 = m at hmid hm1 hm2
      have hml : m < l.length := by omega
      obtain ⟨c, c1, c2, hc⟩ := comparePlaces_ev (l[m]'hml) (placeB x y)
      have hr := rdBalance_at l (m : Int) (by omega) (by omega)
      by_cases hcn : c < 0
      · have hbl : balLt (l[m]'hml) (placeB x y) := Classical.byContradiction fun h => by have := c1.2 h; omega
        obtain ⟨i, f, he, hf⟩ := ih (m + 1) hi (by omega) (by omega) h2 (fun j hj hjm => by
          rcases Nat.lt_or_ge j m with h | h
          · exact balLt_trans (hpw j m hj hml h) hbl
          · obtain rfl : j = m := by omega
            exact hbl) hb
        refine ⟨i, f, Ev.step (fun k => slices_BinarySearchFunc_impl_Balance.l0.eq_2 ..) (Ev.pos (by omega) ?_), hf⟩
        rw [hmid, w64 (x := (m : Int) + 1) (by omega) (by omega)]
        refine Ev.pos (by omega) (Ev.pos (by omega) ?_)
        rw [hr]
        exact Ev.bind hc (Ev.pos hcn he)
      · have hbl : ¬ balLt (l[m]'hml) (placeB x y) := c1.1 (by omega)
        obtain ⟨i, f, he, hf⟩ := ih lo m (by omega) (by omega) (by omega) ha (fun j hj hjm => by
          rcases Nat.lt_or_ge m j with h | h
          · exact fun hx => hbl (balLt_trans (hpw m j hml hj h) hx)
          · obtain rfl : j = m := by omega
            exact hbl)
        refine ⟨i, f, Ev.step (fun k => slices_BinarySearchFunc_impl_Balance.l0.eq_2 ..) (Ev.pos (by omega) ?_), hf⟩
        rw [hmid]
        refine Ev.pos (by omega) (Ev.pos (by omega) ?_)
        rw [hr]
        exact Ev.bind hc (Ev.neg hcn he)
    · exact ih lo hi (by omega) h1 h2 ha hb
theorem impl_amountIn_ev (l : List S104) (x y : Int) (hl : l.length ≤ 1000000) (hp : l.Pairwise balLt) : Ev (fun k => impl_amountIn.f k l x y) (amountL x y l) := by
  obtain ⟨i, f, he, h1, h2⟩ := search_ev l x y hl hp l.length 0 l.length (by omega) (by omega) (by omega) (by omega) (by omega)
  unfold impl_amountIn.f slices_BinarySearchFunc_impl_Balance.f
  refine Ev.bind he ?_
  cases f with
  | true =>
    obtain ⟨hi, hm⟩ := h1 rfl
    refine Ev.pos rfl (Ev.pos (show (0 : Int) ≤ (i : Int) by omega) (Ev.pos (show (i : Int) < (l.length : Int) by omega) (Ev.eq (Ev.now _) ?_)))
    show (rd_T104 l (i : Int)).f2 = _
    rw [rdBalance_at l (i : Int) (by omega) (by omega), amount_at x y l hp i hi hm]
    rfl
  | false => exact Ev.neg (by simp) (Ev.eq (Ev.now _) (amount_none x y l (h2 rfl)).symm)
/-- What BalanceOf tells. -/
noncomputable def balanceR (g : List (List S104)) (s x y : Int) : Int × Int :=
  if ledgerFault g = 0 then (if 0 ≤ s ∧ s ≤ (g.length : Int) - 1 then (if 0 ≤ x ∧ x ≤ 5 ∧ 0 ≤ y ∧ y ≤ 2 then (0, amountL x y (rd_L4 g s)) else (3, 0)) else (3, 0)) else (ledgerFault g, 0)
theorem rdBB_mem (g : List (List S104)) (s : Int) (h0 : 0 ≤ s) (h1 : s ≤ (g.length : Int) - 1) : rd_L4 g s ∈ g := by
  rw [rdBB (List.getElem?_eq_getElem (show s.toNat < g.length by omega))]
  exact List.getElem_mem _
theorem spec_BalanceOf_ev (g : List (List S104)) (s x y : Int) (hb : ∀ l ∈ g, (l.length : Int) ≤ 9000000000000000000) (hg : (g.length : Int) ≤ 9000000000000000000) : Ev (fun k => spec_BalanceOf.f k g s x y) (balanceR g s x y) := by
  unfold spec_BalanceOf.f balanceR
  rw [w64 (by omega) (by omega)]
  refine Ev.bind (spec_LedgerFault_ev g hb) (Ev.cond (fun hf => Ev.bind (Ev.is (l1In_eq _ _ _)) ?_) (fun _ => Ev.now _))
  by_cases h1 : 0 ≤ s ∧ s ≤ (g.length : Int) - 1
  · rw [if_pos h1]
    refine Ev.pos (decide_eq_true h1) (Ev.bind (Ev.is (l2Key_eq _ _)) ?_)
    by_cases h2 : 0 ≤ x ∧ x ≤ 5 ∧ 0 ≤ y ∧ y ≤ 2
    · rw [if_pos h2]
      exact Ev.pos (decide_eq_true h2) (Ev.pos h1.1 (Ev.pos (by omega) (Ev.bind (spec_l2Has_ev _ x y (hb _ (rdBB_mem g s h1.1 h1.2))) (Ev.now _))))
    · rw [if_neg h2]
      exact Ev.neg (fun h => h2 (of_decide_eq_true h)) (Ev.now _)
  · rw [if_neg h1]
    exact Ev.neg (fun h => h1 (of_decide_eq_true h)) (Ev.now _)
theorem impl_BalanceOf_ev (g : List (List S104)) (s x y : Int) (hb : ∀ l ∈ g, (l.length : Int) ≤ 9000000000000000000) (hg : (g.length : Int) ≤ 9000000000000000000) : Ev (fun k => impl_BalanceOf.f k g s x y) (balanceR g s x y) := by
  unfold impl_BalanceOf.f balanceR impl_size_impl_Balance.f
  refine Ev.bind (impl_LedgerFault_ev g hb) (Ev.cond (fun hf => Ev.let ?_) (fun _ => Ev.now _))
  rw [w64 (by omega) (by omega)]
  refine Ev.bind (Ev.is (within_eq _ _ _)) ?_
  by_cases h1 : 0 ≤ s ∧ s ≤ (g.length : Int) - 1
  · rw [if_pos h1]
    refine Ev.pos (decide_eq_true h1) (Ev.bind (Ev.is (isPlace_eq _ _)) ?_)
    by_cases h2 : 0 ≤ x ∧ x ≤ 5 ∧ 0 ≤ y ∧ y ≤ 2
    · rw [if_pos h2]
      obtain ⟨_, hs⟩ := ledger_sorted g hf
      obtain ⟨q1, _, q3⟩ := hs _ (rdBB_mem g s h1.1 h1.2)
      exact Ev.pos (decide_eq_true h2) (Ev.pos h1.1 (Ev.pos (by omega) (Ev.bind (impl_amountIn_ev _ x y (by omega) q3) (Ev.now _))))
    · rw [if_neg h2]
      exact Ev.neg (fun h => h2 (of_decide_eq_true h)) (Ev.now _)
  · rw [if_neg h1]
    exact Ev.neg (fun h => h1 (of_decide_eq_true h)) (Ev.now _)
theorem FnExactBalanceOf : ∀ (l0_0 : List (List (S115))) (a1 : Int) (a2 : Int) (a3 : Int), okL (okL ok115) l0_0 → (Lit.int .i64 a1).wf = true → (Lit.int .i64 a2).wf = true → (Lit.int .i64 a3).wf = true → ∃ k, laws_FnExactBalanceOf.f k l0_0 a1 a2 a3 = some true := by
  intro g s x y hg _ _ _
  refine Ev.rounds (r := true) ?_
  unfold laws_FnExactBalanceOf.f
  obtain ⟨r, hr, hsz⟩ := szLedger_ev g hg 1048576 (by decide) (by decide)
  refine Ev.bind hsz (Ev.ite (fun _ => Ev.now _) (fun h => ?_))
  have hr := hr h
  have hin : ∀ l ∈ g, l.length ≤ 1048576 := fun l hl => by have := mem_allB g l hl; omega
  have hin2 : ∀ l ∈ ledgerOf g, (l.length : Int) ≤ 9000000000000000000 := fun l hl => by
    obtain ⟨l', hl', rfl⟩ := List.mem_map.1 hl
    have := hin l' hl'
    simp
    omega
  have hlg : ((ledgerOf g).length : Int) ≤ 9000000000000000000 := by simp [ledgerOf]; omega
  have ht := toLedger_ev g (by omega) hin
  refine Ev.bind ht (Ev.bind (spec_BalanceOf_ev _ s x y hin2 hlg) (Ev.bind ht (Ev.bind (impl_BalanceOf_ev _ s x y hin2 hlg) (Ev.bind (a := true) (Ev.is (by unfold laws_eqIntResult.f; simp)) (Ev.pos rfl ?_)))))
  exact Ev.bind ht (Ev.bind (eqLedger_ev _ (by omega) (fun l hl => by have := hin2 l hl; omega)) (Ev.pos rfl (Ev.now _)))

end Go.Proofs.Ytanegggacfmkcaa.Pure
