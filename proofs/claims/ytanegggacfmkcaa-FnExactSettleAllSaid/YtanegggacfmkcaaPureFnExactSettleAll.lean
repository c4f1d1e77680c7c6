/- FnExactSettleAll, the pure statement: the program's SettleAll and the reference's tell the same of any ledger and list of contracts, the arguments are as they were, and what is handed back is new memory. No conditions. -/
import Derived.Test.YtanegggacfmkcaaPFnExactSettleAllx21
import Derived.Test.YtanegggacfmkcaaOFnExactSettleAll
namespace Go.Proofs.Ytanegggacfmkcaa.Pure
open Go.RowKit Go.Proofs.Ytanegggacfmkcaa.PFnExactSettleAll Go.Proofs.YtanegggacfmkcaaW.PrintWords Go.Proofs.YtanegggacfmkcaaW.PrintLast Go.Proofs.YtanegggacfmkcaaW.PrintMore Go.Proofs.Ytanegggacfmkcaa.Opens
set_option linter.unusedVariables false
set_option linter.unusedSimpArgs false
/-! ### words of this text's own -/
theorem w64 {x : Int} (h0 : -9223372036854775808 ≤ x) (h1 : x ≤ 9223372036854775807) : wrap64 x = x := by
  unfold wrap64
  omega
section
variable {α β σ : Type}
theorem Ev.ite {g f : Nat → Option α} {c : Prop} [Decidable c] {r : α} (ht : c → Ev g r) (hf : ¬ c → Ev f r) : Ev (fun k => if c then g k else f k) r := by
  by_cases h : c
  · simp only [if_pos h]; exact ht h
  · simp only [if_neg h]; exact hf h
theorem Ev.pos {g f : Nat → Option α} {c : Prop} [Decidable c] {r : α} (h : c) (ht : Ev g r) : Ev (fun k => if c then g k else f k) r := Ev.ite (fun _ => ht) (fun n => absurd h n)
theorem Ev.neg {g f : Nat → Option α} {c : Prop} [Decidable c] {r : α} (h : ¬ c) (hf : Ev f r) : Ev (fun k => if c then g k else f k) r := Ev.ite (fun y => absurd y h) (fun _ => hf)
theorem Ev.cond {g f : Nat → Option α} {c : Prop} [Decidable c] {r s : α} (ht : c → Ev g r) (hf : ¬ c → Ev f s) : Ev (fun k => if c then g k else f k) (if c then r else s) := by
  by_cases h : c
  · simp only [if_pos h]; exact ht h
  · simp only [if_neg h]; exact hf h
theorem Ev.let {f : Nat → α → Option β} {a : α} {r : β} (k : Ev (fun n => f n a) r) : Ev (fun n => (some a).bind (f n)) r := Ev.bind (Ev.now a) k
theorem Ev.is {a : Option α} {r : α} (h : a = some r) : Ev (fun _ => a) r := ⟨0, fun _ _ => h⟩
theorem Ev.eq {g : Nat → Option α} {a b : α} (h : Ev g a) (e : a = b) : Ev g b := e ▸ h
/-- A loop that counts i up to n, with a state s: what it comes to, if 'P i s' leads from round to round. -/
theorem Ev.upto (F : Nat → σ → Int → Option α) (n : Int) (hn : n ≤ 9223372036854775807) (P : Int → σ → Prop) (R : α → Prop)
    (step : ∀ i s, 0 ≤ i → i < n → P i s → (∃ s', P (i + 1) s' ∧ ∀ r, Ev (fun k => F k s' (wrap64 (i + 1))) r → Ev (fun k => F k s i) r) ∨ (∃ r, R r ∧ Ev (fun k => F k s i) r))
    (stop : ∀ s, P n s → ∃ r, R r ∧ Ev (fun k => F k s n) r) (i : Int) (s : σ) (h0 : 0 ≤ i) (h1 : i ≤ n) (hP : P i s) : ∃ r, R r ∧ Ev (fun k => F k s i) r := by
  obtain ⟨d, hd⟩ : ∃ d : Nat, n - i = d := ⟨(n - i).toNat, by omega⟩
  induction d generalizing i s with
  | zero =>
    obtain rfl : i = n := by omega
    exact stop s hP
  | succ d ih =>
    rcases step i s h0 (by omega) hP with ⟨s', hP', h⟩ | h
    · obtain ⟨r, hr, he⟩ := ih (i + 1) s' (by omega) (by omega) hP' (by omega)
      exact ⟨r, hr, h r (by rw [w64 (by omega) (by omega)]; exact he)⟩
    · exact h
/-- The same, where what it comes to is one value. -/
theorem Ev.upto1 (F : Nat → σ → Int → Option α) (n : Int) (hn : n ≤ 9223372036854775807) (P : Int → σ → Prop) (r : α)
    (step : ∀ i s, 0 ≤ i → i < n → P i s → (∃ s', P (i + 1) s' ∧ (Ev (fun k => F k s' (wrap64 (i + 1))) r → Ev (fun k => F k s i) r)) ∨ Ev (fun k => F k s i) r)
    (stop : ∀ s, P n s → Ev (fun k => F k s n) r) (i : Int) (s : σ) (h0 : 0 ≤ i) (h1 : i ≤ n) (hP : P i s) : Ev (fun k => F k s i) r := by
  obtain ⟨d, hd⟩ : ∃ d : Nat, n - i = d := ⟨(n - i).toNat, by omega⟩
  induction d generalizing i s with
  | zero =>
    obtain rfl : i = n := by omega
    exact stop s hP
  | succ d ih =>
    rcases step i s h0 (by omega) hP with ⟨s', hP', h⟩ | h
    · exact h (by rw [w64 (by omega) (by omega)]; exact ih (i + 1) s' (by omega) (by omega) hP' (by omega))
    · exact h
theorem take_set_succ (l acc : List α) (i : Nat) (v : α) (h : i < acc.length) (ht : acc.take i = l.take i) (hv : l[i]? = some v) : (acc.set i v).take (i + 1) = l.take (i + 1) := by
  rw [List.take_add_one, List.take_add_one, hv, List.getElem?_set_self h, List.take_set_of_le (Nat.le_refl _), ht]
/-- A row filled cell by cell. -/
theorem Ev.fill (F : Nat → List α → Int → Option (List α)) (l : List α) (hl : l.length ≤ 9223372036854775807)
    (step : ∀ (i : Int) s (v : α), 0 ≤ i → i < (l.length : Int) → s.length = l.length → l[i.toNat]? = some v → Ev (fun k => F k (s.set i.toNat v) (wrap64 (i + 1))) l → Ev (fun k => F k s i) l)
    (stop : ∀ s, s.length = l.length → Ev (fun k => F k s (l.length : Int)) s) (s : List α) (hs : s.length = l.length) : Ev (fun k => F k s 0) l :=
  Ev.upto1 F l.length (by omega) (fun i s => s.length = l.length ∧ s.take i.toNat = l.take i.toNat) l
    (fun i s h0 h1 ⟨hs, ht⟩ => .inl ⟨s.set i.toNat (l[i.toNat]'(by omega)), ⟨by simp [hs], by
      rw [show (i + 1).toNat = i.toNat + 1 by omega]
      exact take_set_succ l s _ _ (by omega) ht (List.getElem?_eq_getElem (by omega))⟩, step i s _ h0 h1 hs (List.getElem?_eq_getElem (by omega))⟩)
    (fun s ⟨hs, ht⟩ => by
      rw [List.take_of_length_le (by omega), List.take_of_length_le (by omega)] at ht
      have := stop s hs
      subst ht
      exact this) 0 s (by omega) (by omega) ⟨hs, by simp⟩
/-- A loop that asks of each place, and comes to the end. -/
theorem Ev.each {F : Nat → Int → Option β} {r : β} (n : Nat) (hn : (n : Int) ≤ 9223372036854775807) (step : ∀ i : Int, 0 ≤ i → i < n → Ev (fun k => F k (wrap64 (i + 1))) r → Ev (fun k => F k i) r) (stop : Ev (fun k => F k (n : Int)) r) : Ev (fun k => F k 0) r :=
  Ev.upto1 (fun k (_ : Unit) i => F k i) n hn (fun _ _ => True) r (fun i _ h0 h1 _ => .inl ⟨(), trivial, step i h0 h1⟩) (fun _ _ => stop) 0 () (by omega) (by omega) trivial
end
theorem rd_of {l : List Int} {i : Int} {v : Int} (h : l[i.toNat]? = some v) : rd l i = v := by
  unfold rd
  rw [List.getD_eq_getElem?_getD, h]
  rfl
theorem drop_cons_at {α : Type} (l : List α) (i : Nat) (h : i < l.length) : l.drop i = l[i] :: l.drop (i + 1) := List.drop_eq_getElem_cons h
theorem rdBalance {l : List S104} {i : Int} {v : S104} (h : l[i.toNat]? = some v) : rd_T104 l i = v := by
  unfold rd_T104
  rw [List.getD_eq_getElem?_getD, h]
  rfl
theorem rdBalanceL {l : List S115} {i : Int} {v : S115} (h : l[i.toNat]? = some v) : rd_T115 l i = v := by
  unfold rd_T115
  rw [List.getD_eq_getElem?_getD, h]
  rfl
theorem rdBalance_at (l : List S104) (i : Int) (h0 : 0 ≤ i) (h1 : i < (l.length : Int)) : rd_T104 l i = l[i.toNat]'(by omega) := rdBalance (List.getElem?_eq_getElem (by omega))

theorem rdLeg {l : List S86} {i : Int} {v : S86} (h : l[i.toNat]? = some v) : rd_T86 l i = v := by
  unfold rd_T86
  rw [List.getD_eq_getElem?_getD, h]
  rfl
theorem rdLegL {l : List S137} {i : Int} {v : S137} (h : l[i.toNat]? = some v) : rd_T137 l i = v := by
  unfold rd_T137
  rw [List.getD_eq_getElem?_getD, h]
  rfl
theorem rdLeg_at (l : List S86) (i : Int) (h0 : 0 ≤ i) (h1 : i < (l.length : Int)) : rd_T86 l i = l[i.toNat]'(by omega) := rdLeg (List.getElem?_eq_getElem (by omega))

theorem within_eq (x a b : Int) : impl_within.f x a b = some (decide (a ≤ x ∧ x ≤ b)) := by
  unfold impl_within.f
  by_cases h1 : a ≤ x <;> simp [h1]

theorem l1In_eq (x a b : Int) : spec_l1In.f x a b = some (decide (a ≤ x ∧ x ≤ b)) := by
  unfold spec_l1In.f
  by_cases h1 : a ≤ x <;> simp [h1]

/-- Is a balance's place and amount right? -/
def balOk (b : S104) : Prop := 0 ≤ b.f0 ∧ b.f0 ≤ 5 ∧ 0 ≤ b.f1 ∧ b.f1 ≤ 2 ∧ 1 ≤ b.f2 ∧ b.f2 ≤ 1000000000000
/-- Does one stand ahead of the other? -/
def balLt (a b : S104) : Prop := a.f0 < b.f0 ∨ a.f0 = b.f0 ∧ a.f1 < b.f1
open Classical in
/-- What BalancesFault tells of balances from one on, the one ahead of it known. -/
noncomputable def balsR : Option S104 → List S104 → Int
  | _, [] => 0
  | p, b :: l => if balOk b then (if ∀ a, p = some a → balLt a b then balsR (some b) l else 1) else 3
noncomputable def balsFault (l : List S104) : Int := if l.length > 18 then 2 else balsR none l
/-- The one ahead. -/
def ahead {α : Type} (l : List α) (i : Nat) : Option α := if i = 0 then none else l[i - 1]?
theorem ahead_succ {α : Type} (l : List α) (i : Nat) (v : α) (h : l[i]? = some v) : ahead l (i + 1) = some v := by
  unfold ahead
  simp [h]
theorem balsR_ok (b : S104) (p : Option S104) (l : List S104) (h : balOk b) (h2 : ∀ a, p = some a → balLt a b) : balsR p (b :: l) = balsR (some b) l := by
  unfold balsR
  rw [if_pos h, if_pos h2]
  cases l <;> rfl
theorem comparePlaces_ev (a b : S104) : ∃ r : Int, (r ≥ 0 ↔ ¬ balLt a b) ∧ (r > 0 ↔ balLt b a) ∧ Ev (fun k => impl_comparePlaces.f k a.f0 a.f1 a.f2 b.f0 b.f1 b.f2) r := by
  have hc : ∀ x y : Int, cmp_Compare_int64.f x y = some (if x < y then -1 else if x > y then 1 else 0) := fun x y => by
    unfold cmp_Compare_int64.f cmp_isNaN_int64.f
    simp only [Option.bind_some, bne_self_eq_false, Bool.false_eq_true, if_false]
    split
    · rfl
    · split <;> rfl
  have hor : ∀ x y : Int, Ev (fun k => cmp_Or_int.f k [x, y]) (if x = 0 then y else x) := fun x y => by
    refine ⟨3, fun k hk => ?_⟩
    obtain ⟨k, rfl⟩ : ∃ j, k = j + 3 := ⟨k - 3, by omega⟩
    unfold cmp_Or_int.f
    have w1 : wrap64 (0 + 1) = 1 := by rw [w64 (by decide) (by decide)]; rfl
    have w2 : wrap64 (1 + 1) = 2 := by rw [w64 (by decide) (by decide)]; rfl
    have r0 : rd [x, y] 0 = x := rfl
    have r1 : rd [x, y] 1 = y := rfl
    simp only [cmp_Or_int.l0, List.length_cons, List.length_nil, w1, w2, r0, r1]
    by_cases h1 : x = 0 <;> by_cases h2 : y = 0 <;> simp [h1, h2]
  unfold impl_comparePlaces.f
  rw [hc, hc]
  unfold balLt
  refine ⟨_, ?_, ?_, Ev.let (Ev.let (Ev.bind (hor _ _) (Ev.now _)))⟩
  · by_cases h1 : a.f0 < b.f0
    · simp [h1]
    · by_cases h2 : a.f0 > b.f0
      · have : ¬ a.f0 = b.f0 := by omega
        simp [h1, h2, this]
      · have : a.f0 = b.f0 := by omega
        by_cases h3 : a.f1 < b.f1
        · simp [h1, h2, this, h3]
        · by_cases h4 : a.f1 > b.f1 <;> simp [h1, h2, this, h3, h4]
  · by_cases h1 : a.f0 < b.f0
    · have : ¬ b.f0 < a.f0 := by omega
      have : ¬ b.f0 = a.f0 := by omega
      simp [*]
    · by_cases h2 : a.f0 > b.f0
      · simp [h1, h2]
      · have e : a.f0 = b.f0 := by omega
        by_cases h3 : a.f1 < b.f1
        · have : ¬ b.f1 < a.f1 := by omega
          simp [e, h3, this]
        · by_cases h4 : a.f1 > b.f1
          · simp [e, h3, h4]
          · have : ¬ b.f1 < a.f1 := by omega
            simp [e, h3, h4, this]
theorem isPlace_eq (x y : Int) : impl_isPlace.f x y = some (decide (0 ≤ x ∧ x ≤ 5 ∧ 0 ≤ y ∧ y ≤ 2)) := by
  unfold impl_isPlace.f impl_isAsset.f impl_within.f
  by_cases h1 : 0 ≤ x <;> by_cases h2 : x ≤ 5 <;> by_cases h3 : 0 ≤ y <;> by_cases h4 : y ≤ 2 <;> simp [h1, h2, h3, h4]
theorem l2Key_eq (x y : Int) : spec_l2Key.f x y = some (decide (0 ≤ x ∧ x ≤ 5 ∧ 0 ≤ y ∧ y ≤ 2)) := by
  unfold spec_l2Key.f spec_l1In.f
  by_cases h1 : 0 ≤ x <;> by_cases h2 : x ≤ 5 <;> by_cases h3 : 0 ≤ y <;> by_cases h4 : y ≤ 2 <;> simp [h1, h2, h3, h4]
theorem impl_BalancesFault_ev (l : List S104) (hl : (l.length : Int) ≤ 9000000000000000000) : Ev (fun k => impl_BalancesFault.f k l) (balsFault l) := by
  unfold impl_BalancesFault.f balsFault
  by_cases hm : l.length > 18
  · rw [if_pos hm]
    exact Ev.pos (by omega) (Ev.now _)
  rw [if_neg hm]
  refine Ev.neg (by omega) ?_
  refine Ev.upto1 (fun k (_ : Unit) i => impl_BalancesFault.l0 k l l (l.length : Int) i) l.length (by omega) (fun i _ => balsR (ahead l i.toNat) (l.drop i.toNat) = balsR none l) (balsR none l)
    (fun i s h0 h1 hs => ?_) (fun s hs => Ev.step (fun k => impl_BalancesFault.l0.eq_2 ..) (Ev.neg (by omega) (Ev.eq (Ev.now _) (by rw [← hs, List.drop_eq_nil_of_le (by omega)]; cases ahead l _ <;> rfl)))) 0 () (by omega) (by omega) rfl
  have e1 : l[i.toNat]? = some (l[i.toNat]'(by omega)) := List.getElem?_eq_getElem (by omega)
  rw [drop_cons_at l i.toNat (by omega)] at hs
  generalize hb : l[i.toNat]'(by omega) = b at hs e1
  have hstep : ∀ g : Nat → Option Int, Ev g (balsR none l) → Ev (fun k => (impl_isPlace.f b.f0 b.f1).bind fun t => if t = true then (impl_within.f b.f2 1 1000000000000).bind fun u => impl_BalancesFault.j1 k l i l (l.length : Int) i (!u) b.f0 b.f1 b.f2 else impl_BalancesFault.j1 k l i l (l.length : Int) i true b.f0 b.f1 b.f2) (balsR none l) → Ev (fun k => impl_BalancesFault.l0 k l l (l.length : Int) i) (balsR none l) := fun g _ h => by
    refine Ev.step (fun k => impl_BalancesFault.l0.eq_2 ..) (Ev.pos h1 (Ev.pos h0 (Ev.pos h1 ?_)))
    rw [rdBalance e1]
    exact h
  by_cases hok : balOk b
  · have hj : ∀ r, (Ev (fun k => if i > 0 then (if 0 ≤ (wrap64 (i - 1)) then (if (wrap64 (i - 1)) < (l.length : Int) then ((impl_comparePlaces.f k ((rd_T104 l (wrap64 (i - 1))).f0) ((rd_T104 l (wrap64 (i - 1))).f1) ((rd_T104 l (wrap64 (i - 1))).f2) b.f0 b.f1 b.f2).bind fun t120 => (if t120 ≥ 0 then (some 1) else (impl_BalancesFault.l0 k l l (l.length : Int) (wrap64 (i + 1))))) else (none)) else (none)) else (impl_BalancesFault.l0 k l l (l.length : Int) (wrap64 (i + 1)))) r) → r = balsR none l → Ev (fun k => impl_BalancesFault.l0 k l l (l.length : Int) i) (balsR none l) := fun r h e => by
      refine hstep (fun _ => some _) (Ev.now _) ?_
      rw [isPlace_eq, within_eq]
      refine Ev.let (Ev.pos (by simp only [decide_eq_true_eq]; exact ⟨hok.1, hok.2.1, hok.2.2.1, hok.2.2.2.1⟩) (Ev.let ?_))
      refine Ev.step (fun k => impl_BalancesFault.j1.eq_2 ..) (Ev.neg ?_ (Ev.eq h e))
      simp only [Bool.not_eq_true', decide_eq_false_iff_not, Classical.not_not]
      exact ⟨hok.2.2.2.2.1, hok.2.2.2.2.2⟩
    by_cases hi : i > 0
    · have e2 : l[(wrap64 (i - 1)).toNat]? = some (l[i.toNat - 1]'(by omega)) := by
        rw [w64 (by omega) (by omega), show (i - 1).toNat = i.toNat - 1 by omega]
        exact List.getElem?_eq_getElem (by omega)
      have ha : ahead l i.toNat = some (l[i.toNat - 1]'(by omega)) := by
        unfold ahead
        rw [if_neg (by omega)]
        exact List.getElem?_eq_getElem (by omega)
      generalize hp : l[i.toNat - 1]'(by omega) = p at e2 ha
      obtain ⟨c, hc1, _, hc⟩ := comparePlaces_ev p b
      by_cases hlt : balLt p b
      · refine .inl ⟨(), ?_, fun h => hj _ (Ev.pos hi (Ev.pos (by rw [w64 (by omega) (by omega)]; omega) (Ev.pos (by rw [w64 (by omega) (by omega)]; omega) (by rw [rdBalance e2]; exact Ev.bind hc (Ev.neg (fun h2 => (hc1.1 h2) hlt) h))))) rfl⟩
        rw [show (i + 1).toNat = i.toNat + 1 by omega, ahead_succ l i.toNat b e1, ← hs, ha, balsR_ok b _ _ hok (fun a e => by cases e; exact hlt)]
      · refine .inr (hj 1 (Ev.pos hi (Ev.pos (by rw [w64 (by omega) (by omega)]; omega) (Ev.pos (by rw [w64 (by omega) (by omega)]; omega) (by rw [rdBalance e2]; exact Ev.bind hc (Ev.pos (hc1.2 hlt) (Ev.now _)))))) ?_)
        rw [← hs, ha]
        unfold balsR
        rw [if_pos hok, if_neg (fun h => hlt (h p rfl))]
    · have hz : ahead l i.toNat = none := by unfold ahead; rw [if_pos (by omega)]
      refine .inl ⟨(), ?_, fun h => hj _ (Ev.neg hi h) rfl⟩
      rw [show (i + 1).toNat = i.toNat + 1 by omega, ahead_succ l i.toNat b e1, ← hs, hz, balsR_ok b _ _ hok (fun a e => by cases e)]
  · have hr : balsR none l = 3 := by
      rw [← hs]
      unfold balsR
      rw [if_neg hok]
    refine .inr (hstep (fun _ => some _) (Ev.now _) ?_)
    rw [isPlace_eq, within_eq, hr]
    refine Ev.let (Ev.ite (fun h => Ev.let (Ev.step (fun k => impl_BalancesFault.j1.eq_2 ..) (Ev.pos ?_ (Ev.now _)))) (fun _ => Ev.step (fun k => impl_BalancesFault.j1.eq_2 ..) (Ev.pos rfl (Ev.now _))))
    simp only [decide_eq_true_eq] at h
    simp only [Bool.not_eq_true', decide_eq_false_iff_not]
    exact fun h2 => hok ⟨h.1, h.2.1, h.2.2.1, h.2.2.2, h2.1, h2.2⟩

theorem spec_BalancesFault_ev (l : List S104) (hl : (l.length : Int) ≤ 9000000000000000000) : Ev (fun k => spec_BalancesFault.f k l) (balsFault l) := by
  unfold spec_BalancesFault.f balsFault
  by_cases hm : l.length > 18
  · rw [if_pos hm]
    exact Ev.pos (by omega) (Ev.now _)
  rw [if_neg hm]
  refine Ev.neg (by omega) ?_
  refine Ev.upto1 (fun k (_ : Unit) i => spec_BalancesFault.l0 k l i) l.length (by omega) (fun i _ => balsR (ahead l i.toNat) (l.drop i.toNat) = balsR none l ∧ ∀ a, ahead l i.toNat = some a → balOk a) (balsR none l)
    (fun i s h0 h1 ⟨hs, hpo⟩ => ?_) (fun s ⟨hs, _⟩ => Ev.step (fun k => spec_BalancesFault.l0.eq_2 ..) (Ev.neg (by omega) (Ev.eq (Ev.now _) (by rw [← hs, List.drop_eq_nil_of_le (by omega)]; cases ahead l _ <;> rfl)))) 0 () (by omega) (by omega) ⟨rfl, fun a h => by simp [ahead] at h⟩
  have e1 : l[i.toNat]? = some (l[i.toNat]'(by omega)) := List.getElem?_eq_getElem (by omega)
  rw [drop_cons_at l i.toNat (by omega)] at hs
  generalize hb : l[i.toNat]'(by omega) = b at hs e1
  have hstep : Ev (fun k => (spec_l2Key.f b.f0 b.f1).bind fun t => if t = true then (spec_l1In.f b.f2 1 1000000000000).bind fun u => spec_BalancesFault.j1 k l i (!u) b.f0 b.f1 b.f2 else spec_BalancesFault.j1 k l i true b.f0 b.f1 b.f2) (balsR none l) → Ev (fun k => spec_BalancesFault.l0 k l i) (balsR none l) := fun h => by
    refine Ev.step (fun k => spec_BalancesFault.l0.eq_2 ..) (Ev.pos h1 (Ev.pos h0 ?_))
    rw [rdBalance e1]
    exact h
  by_cases hok : balOk b
  · have hj : ∀ r, (Ev (fun k => if i > 0 then (if 0 ≤ (wrap64 (i - 1)) then (if (wrap64 (i - 1)) < (l.length : Int) then (if (wrap64 ((wrap64 (b.f0 * 3)) + b.f1)) ≤ (wrap64 ((wrap64 (((rd_T104 l (wrap64 (i - 1))).f0) * 3)) + ((rd_T104 l (wrap64 (i - 1))).f1))) then (some 1) else (spec_BalancesFault.l0 k l (wrap64 (i + 1)))) else (none)) else (none)) else (spec_BalancesFault.l0 k l (wrap64 (i + 1)))) r) → r = balsR none l → Ev (fun k => spec_BalancesFault.l0 k l i) (balsR none l) := fun r h e => by
      refine hstep ?_
      rw [l2Key_eq, l1In_eq]
      refine Ev.let (Ev.pos (by simp only [decide_eq_true_eq]; exact ⟨hok.1, hok.2.1, hok.2.2.1, hok.2.2.2.1⟩) (Ev.let ?_))
      refine Ev.step (fun k => spec_BalancesFault.j1.eq_2 ..) (Ev.neg ?_ (Ev.eq h e))
      simp only [Bool.not_eq_true', decide_eq_false_iff_not, Classical.not_not]
      exact ⟨hok.2.2.2.2.1, hok.2.2.2.2.2⟩
    have hnext : ∀ a, ahead l (i + 1).toNat = some a → balOk a := fun a ha => by
      rw [show (i + 1).toNat = i.toNat + 1 by omega, ahead_succ l i.toNat b e1] at ha
      cases ha
      exact hok
    by_cases hi : i > 0
    · have e2 : l[(wrap64 (i - 1)).toNat]? = some (l[i.toNat - 1]'(by omega)) := by
        rw [w64 (by omega) (by omega), show (i - 1).toNat = i.toNat - 1 by omega]
        exact List.getElem?_eq_getElem (by omega)
      have ha : ahead l i.toNat = some (l[i.toNat - 1]'(by omega)) := by
        unfold ahead
        rw [if_neg (by omega)]
        exact List.getElem?_eq_getElem (by omega)
      generalize hp : l[i.toNat - 1]'(by omega) = p at e2 ha
      have hpok := hpo p ha
      have hcmp : ((wrap64 ((wrap64 (b.f0 * 3)) + b.f1)) ≤ (wrap64 ((wrap64 (p.f0 * 3)) + p.f1))) ↔ ¬ balLt p b := by
        unfold balOk at hok hpok
        unfold balLt
        rw [w64 (x := b.f0 * 3) (by omega) (by omega), w64 (x := p.f0 * 3) (by omega) (by omega), w64 (x := b.f0 * 3 + b.f1) (by omega) (by omega), w64 (x := p.f0 * 3 + p.f1) (by omega) (by omega)]
        omega
      by_cases hlt : balLt p b
      · refine .inl ⟨(), ⟨?_, hnext⟩, fun h => hj _ (Ev.pos hi (Ev.pos (by rw [w64 (by omega) (by omega)]; omega) (Ev.pos (by rw [w64 (by omega) (by omega)]; omega) (by rw [rdBalance e2]; exact Ev.neg (fun h2 => (hcmp.1 h2) hlt) h)))) rfl⟩
        rw [show (i + 1).toNat = i.toNat + 1 by omega, ahead_succ l i.toNat b e1, ← hs, ha, balsR_ok b _ _ hok (fun a e => by cases e; exact hlt)]
      · refine .inr (hj 1 (Ev.pos hi (Ev.pos (by rw [w64 (by omega) (by omega)]; omega) (Ev.pos (by rw [w64 (by omega) (by omega)]; omega) (by rw [rdBalance e2]; exact Ev.pos (hcmp.2 hlt) (Ev.now _))))) ?_)
        rw [← hs, ha]
        unfold balsR
        rw [if_pos hok, if_neg (fun h => hlt (h p rfl))]
    · have hz : ahead l i.toNat = none := by unfold ahead; rw [if_pos (by omega)]
      refine .inl ⟨(), ⟨?_, hnext⟩, fun h => hj _ (Ev.neg hi h) rfl⟩
      rw [show (i + 1).toNat = i.toNat + 1 by omega, ahead_succ l i.toNat b e1, ← hs, hz, balsR_ok b _ _ hok (fun a e => by cases e)]
  · have hr : balsR none l = 3 := by
      rw [← hs]
      unfold balsR
      rw [if_neg hok]
    refine .inr (hstep ?_)
    rw [l2Key_eq, l1In_eq, hr]
    refine Ev.let (Ev.ite (fun h => Ev.let (Ev.step (fun k => spec_BalancesFault.j1.eq_2 ..) (Ev.pos ?_ (Ev.now _)))) (fun _ => Ev.step (fun k => spec_BalancesFault.j1.eq_2 ..) (Ev.pos rfl (Ev.now _))))
    simp only [decide_eq_true_eq] at h
    simp only [Bool.not_eq_true', decide_eq_false_iff_not]
    exact fun h2 => hok ⟨h.1, h.2.1, h.2.2.1, h.2.2.2, h2.1, h2.2⟩

/-- What is left of a bound behind a list, or less than nothing. -/
def szRest (n : Nat) (left : Int) : Int := if left - n < 0 then -1 else left - n
theorem szRest_ok {n : Nat} {left : Int} (h0 : left ≤ 1048576) (h1 : ¬ szRest n left < 0) : (n : Int) ≤ left ∧ szRest n left = left - n := by
  unfold szRest at *
  by_cases h : left - n < 0
  · rw [if_pos h] at h1; omega
  · rw [if_neg h]; exact ⟨by omega, rfl⟩

theorem szBalanceS_eq (l : List S115) (hl : l.length ≤ maxLen) (left : Int) (h0 : 0 ≤ left) (h1 : left ≤ 1048576) : laws_szBalanceS.f l left = some (szRest l.length left) := by
  unfold maxLen at hl
  unfold laws_szBalanceS.f szRest
  rw [w64 (by omega) (by omega)]
  split <;> rfl

/-- What the law's mirror of a Balance stands for. -/
def balanceOf (x : S115) : S104 := ⟨x.f0, x.f1, x.f2⟩
theorem toBalanceS_ev (l : List S115) (hl : l.length ≤ 1048576) : Ev (fun k => laws_toBalanceS.f k l) (l.map balanceOf) := by
  unfold laws_toBalanceS.f
  refine Ev.pos (by omega) (Ev.pos (by omega) ?_)
  refine Ev.fill (fun k s i => laws_toBalanceS.l0 k l s i) (l.map balanceOf) (by simp; omega)
    (fun i s v h0 h1 hs hv h => ?_)
    (fun s hs => Ev.step (fun k => laws_toBalanceS.l0.eq_2 ..) (Ev.neg (by simp) (Ev.now _))) _ (by simp)
  rw [List.length_map] at h1 hs
  rw [List.getElem?_map] at hv
  obtain ⟨w, hw, rfl⟩ := Option.map_eq_some_iff.1 hv
  refine Ev.step (fun k => laws_toBalanceS.l0.eq_2 ..) (Ev.pos h1 (Ev.pos h0 ?_))
  rw [rdBalanceL hw]
  exact Ev.let (Ev.pos (by omega) h)

theorem eqBalance_rfl (a0 : Int) (a1 : Int) (a2 : Int) : laws_eqBalance.f a0 a1 a2 a0 a1 a2 = some true := by
  unfold laws_eqBalance.f
  simp
theorem eqBalanceS_ev (l : List S104) (hl : (l.length : Int) ≤ 9223372036854775807) : Ev (fun k => laws_eqBalanceS.f k l l) true := by
  unfold laws_eqBalanceS.f
  refine Ev.pos rfl ?_
  refine Ev.each (F := fun k i => laws_eqBalanceS.l0 k l l i) l.length hl (fun i h0 h1 h => Ev.step (fun k => laws_eqBalanceS.l0.eq_2 ..) (Ev.pos h1 (Ev.pos h0 (Ev.pos h1 ?_)))) (Ev.step (fun k => laws_eqBalanceS.l0.eq_2 ..) (Ev.neg (by omega) (Ev.now _)))
  simp only [eqBalance_rfl]
  exact Ev.let (Ev.pos rfl h)

theorem rdBB {l : List (List S104)} {i : Int} {v : List S104} (h : l[i.toNat]? = some v) : rd_L2 l i = v := by
  unfold rd_L2
  rw [List.getD_eq_getElem?_getD, h]
  rfl
theorem rdBBL {l : List (List S115)} {i : Int} {v : List S115} (h : l[i.toNat]? = some v) : rd_L7 l i = v := by
  unfold rd_L7
  rw [List.getD_eq_getElem?_getD, h]
  rfl
/-- How many balances there are in all. -/
def allB {α : Type} (g : List (List α)) : Nat := (g.map List.length).sum
theorem allB_take {α : Type} (g : List (List α)) (i : Nat) (h : i < g.length) : allB (g.take (i + 1)) = allB (g.take i) + (g[i]'h).length := by
  unfold allB
  rw [List.take_add_one, List.getElem?_eq_getElem h, List.map_append, List.sum_append]
  simp
theorem mem_allB {α : Type} (g : List (List α)) (x : List α) (h : x ∈ g) : x.length ≤ allB g := by
  unfold allB
  induction g with
  | nil => cases h
  | cons y g ih =>
    rcases List.mem_cons.1 h with rfl | h
    · simp
    · have := ih h
      simp only [List.map_cons, List.sum_cons]
      omega
theorem szBalanceSS_ev (g : List (List S115)) (hg : okL (okL ok115) g) (left : Int) (h0 : 0 ≤ left) (h1 : left ≤ 1048576) :
    ∃ r, (¬ r < 0 → r = left - g.length - allB g) ∧ Ev (fun k => laws_szBalanceSS.f k g left) r := by
  have hl := hg.1
  unfold maxLen at hl
  unfold laws_szBalanceSS.f
  rw [w64 (by omega) (by omega)]
  by_cases h : left - (g.length : Int) < 0
  · exact ⟨-1, fun h => absurd (by decide) h, Ev.pos h (Ev.now _)⟩
  · obtain ⟨r, hr, he⟩ := Ev.upto (fun k s i => laws_szBalanceSS.l0 k g s i) g.length (by omega) (fun i s => 0 ≤ s ∧ s = left - g.length - allB (g.take i.toNat)) (fun r => ¬ r < 0 → r = left - g.length - allB g)
      (fun i s p0 p1 ⟨q0, q1⟩ => by
        have e1 : g[i.toNat]? = some (g[i.toNat]'(by omega)) := List.getElem?_eq_getElem (by omega)
        have ht := allB_take g i.toNat (by omega)
        have hsz := szBalanceS_eq (g[i.toNat]'(by omega)) (hg.2 _ (List.getElem_mem _)).1 s q0 (by omega)
        by_cases h2 : szRest (g[i.toNat]'(by omega)).length s < 0
        · refine .inr ⟨-1, fun h => absurd (by decide) h, Ev.step (fun k => laws_szBalanceSS.l0.eq_2 ..) (Ev.pos p1 (Ev.pos p0 ?_))⟩
          rw [rdBBL e1]
          exact Ev.bind (Ev.is hsz) (Ev.pos h2 (Ev.now _))
        · obtain ⟨b1, b2⟩ := szRest_ok (by omega) h2
          refine .inl ⟨s - (g[i.toNat]'(by omega)).length, ⟨by omega, by rw [show (i + 1).toNat = i.toNat + 1 by omega, ht]; omega⟩, fun r hr => Ev.step (fun k => laws_szBalanceSS.l0.eq_2 ..) (Ev.pos p1 (Ev.pos p0 ?_))⟩
          rw [rdBBL e1]
          rw [b2] at hsz
          exact Ev.bind (Ev.is hsz) (Ev.neg (by omega) hr))
      (fun s ⟨q0, q1⟩ => ⟨s, fun _ => by rw [q1, List.take_of_length_le (by omega)], Ev.step (fun k => laws_szBalanceSS.l0.eq_2 ..) (Ev.neg (by omega) (Ev.now _))⟩)
      0 (left - g.length) (by omega) (by omega) ⟨by omega, by simp [allB]⟩
    exact ⟨r, hr, Ev.neg h he⟩
theorem szLedger_ev (g : List (List S115)) (hg : okL (okL ok115) g) (left : Int) (h0 : 0 ≤ left) (h1 : left ≤ 1048576) :
    ∃ r, (¬ r < 0 → r = left - g.length - allB g) ∧ Ev (fun k => laws_szLedger.f k g left) r := by
  obtain ⟨r, hr, he⟩ := szBalanceSS_ev g hg left h0 h1
  unfold laws_szLedger.f
  by_cases h : r < 0
  · exact ⟨-1, fun h => absurd (by decide) h, Ev.bind he (Ev.pos h (Ev.now _))⟩
  · exact ⟨r, hr, Ev.bind he (Ev.neg h (Ev.now _))⟩
/-- What the law's mirror of a ledger stands for. -/
def ledgerOf (g : List (List S115)) : List (List S104) := g.map fun l => l.map balanceOf
theorem toLedger_ev (g : List (List S115)) (hl : g.length ≤ 1048576) (hb : ∀ l ∈ g, l.length ≤ 1048576) : Ev (fun k => laws_toLedger.f k g) (ledgerOf g) := by
  unfold laws_toLedger.f laws_toBalanceSS.f
  refine Ev.bind (a := ledgerOf g) (Ev.pos (by omega) (Ev.pos (by omega) ?_)) (Ev.now _)
  refine Ev.fill (fun k s i => laws_toBalanceSS.l0 k g s i) (ledgerOf g) (by simp [ledgerOf]; omega)
    (fun i s v h0 h1 hs hv h => ?_)
    (fun s hs => Ev.step (fun k => laws_toBalanceSS.l0.eq_2 ..) (Ev.neg (by simp [ledgerOf]) (Ev.now _))) _ (by simp [ledgerOf])
  unfold ledgerOf at h1 hs hv
  rw [List.length_map] at h1 hs
  rw [List.getElem?_map] at hv
  obtain ⟨w, hw, rfl⟩ := Option.map_eq_some_iff.1 hv
  refine Ev.step (fun k => laws_toBalanceSS.l0.eq_2 ..) (Ev.pos h1 (Ev.pos h0 ?_))
  rw [rdBBL hw]
  exact Ev.bind (toBalanceS_ev w (hb w (List.mem_of_getElem? hw))) (Ev.pos (by omega) h)
theorem eqLedger_ev (g : List (List S104)) (hl : (g.length : Int) ≤ 9223372036854775807) (hb : ∀ l ∈ g, (l.length : Int) ≤ 9223372036854775807) : Ev (fun k => laws_eqLedger.f k g g) true := by
  unfold laws_eqLedger.f laws_eqBalanceSS.f
  refine Ev.bind (a := true) (Ev.pos rfl ?_) (Ev.pos rfl (Ev.now _))
  refine Ev.each (F := fun k i => laws_eqBalanceSS.l0 k g g i) g.length hl (fun i h0 h1 h => Ev.step (fun k => laws_eqBalanceSS.l0.eq_2 ..) (Ev.pos h1 (Ev.pos h0 (Ev.pos h1 ?_)))) (Ev.step (fun k => laws_eqBalanceSS.l0.eq_2 ..) (Ev.neg (by omega) (Ev.now _)))
  have e1 : g[i.toNat]? = some (g[i.toNat]'(by omega)) := List.getElem?_eq_getElem (by omega)
  rw [rdBB e1]
  exact Ev.bind (eqBalanceS_ev _ (hb _ (List.getElem_mem _))) (Ev.pos rfl h)

open Classical in
/-- What LedgerFault tells of shards, one behind the other. -/
noncomputable def shardsR : List (List S104) → Int
  | [] => 0
  | l :: g => if balsFault l = 0 then shardsR g else balsFault l
open Classical in
theorem shardsR_cons (l : List S104) (g : List (List S104)) : shardsR (l :: g) = if balsFault l = 0 then shardsR g else balsFault l := rfl
noncomputable def ledgerFault (g : List (List S104)) : Int := if 1 ≤ g.length ∧ g.length ≤ 3 then shardsR g else 2
theorem impl_LedgerFault_ev (g : List (List S104)) (hb : ∀ l ∈ g, (l.length : Int) ≤ 9000000000000000000) : Ev (fun k => impl_LedgerFault.f k g) (ledgerFault g) := by
  unfold impl_LedgerFault.f impl_size_impl_Balance.f ledgerFault
  refine Ev.let (Ev.bind (Ev.is (within_eq _ _ _)) ?_)
  by_cases hg : 1 ≤ g.length ∧ g.length ≤ 3
  · rw [if_pos hg]
    refine Ev.pos (by simp only [decide_eq_true_eq]; omega) ?_
    refine Ev.upto1 (fun k (_ : Unit) i => impl_LedgerFault.l0 k g (g.length : Int) i) g.length (by omega) (fun i _ => shardsR (g.drop i.toNat) = shardsR g) (shardsR g)
      (fun i s h0 h1 hs => ?_) (fun s hs => Ev.step (fun k => impl_LedgerFault.l0.eq_2 ..) (Ev.neg (by omega) (Ev.eq (Ev.now _) (by rw [← hs, List.drop_eq_nil_of_le (by omega)]; rfl)))) 0 () (by omega) (by omega) rfl
    have e1 : g[i.toNat]? = some (g[i.toNat]'(by omega)) := List.getElem?_eq_getElem (by omega)
    have hl := hb _ (List.getElem_mem (l := g) (n := i.toNat) (by omega))
    rw [drop_cons_at g i.toNat (by omega)] at hs
    generalize g[i.toNat]'(by omega) = l at hs e1 hl
    rw [shardsR_cons] at hs
    by_cases hf : balsFault l = 0
    · rw [if_pos hf] at hs
      refine .inl ⟨(), by rw [show (i + 1).toNat = i.toNat + 1 by omega]; exact hs, fun h => Ev.step (fun k => impl_LedgerFault.l0.eq_2 ..) (Ev.pos h1 (Ev.pos h0 (Ev.pos h1 ?_)))⟩
      rw [rdBB e1]
      exact Ev.bind (impl_BalancesFault_ev l hl) (Ev.pos hf h)
    · rw [if_neg hf] at hs
      refine .inr (Ev.step (fun k => impl_LedgerFault.l0.eq_2 ..) (Ev.pos h1 (Ev.pos h0 (Ev.pos h1 ?_))))
      rw [rdBB e1, ← hs]
      exact Ev.bind (impl_BalancesFault_ev l hl) (Ev.neg hf (Ev.now _))
  · rw [if_neg hg]
    exact Ev.neg (by simp only [decide_eq_true_eq]; omega) (Ev.now _)
theorem spec_LedgerFault_ev (g : List (List S104)) (hb : ∀ l ∈ g, (l.length : Int) ≤ 9000000000000000000) : Ev (fun k => spec_LedgerFault.f k g) (ledgerFault g) := by
  unfold spec_LedgerFault.f ledgerFault
  by_cases hg : 1 ≤ g.length ∧ g.length ≤ 3
  · rw [if_pos hg]
    refine Ev.neg (by omega) (Ev.step (fun k => spec_LedgerFault.j0.eq_2 ..) (Ev.neg (by simp only [decide_eq_true_eq]; omega) ?_))
    refine Ev.upto1 (fun k (_ : Unit) i => spec_LedgerFault.l0 k i g) g.length (by omega) (fun i _ => shardsR (g.drop i.toNat) = shardsR g) (shardsR g)
      (fun i s h0 h1 hs => ?_) (fun s hs => Ev.step (fun k => spec_LedgerFault.l0.eq_2 ..) (Ev.neg (by omega) (Ev.eq (Ev.now _) (by rw [← hs, List.drop_eq_nil_of_le (by omega)]; rfl)))) 0 () (by omega) (by omega) rfl
    have e1 : g[i.toNat]? = some (g[i.toNat]'(by omega)) := List.getElem?_eq_getElem (by omega)
    have hl := hb _ (List.getElem_mem (l := g) (n := i.toNat) (by omega))
    rw [drop_cons_at g i.toNat (by omega)] at hs
    generalize g[i.toNat]'(by omega) = l at hs e1 hl
    rw [shardsR_cons] at hs
    by_cases hf : balsFault l = 0
    · rw [if_pos hf] at hs
      refine .inl ⟨(), by rw [show (i + 1).toNat = i.toNat + 1 by omega]; exact hs, fun h => Ev.step (fun k => spec_LedgerFault.l0.eq_2 ..) (Ev.pos h1 (Ev.pos h0 ?_))⟩
      rw [rdBB e1]
      exact Ev.bind (spec_BalancesFault_ev l hl) (Ev.pos hf h)
    · rw [if_neg hf] at hs
      refine .inr (Ev.step (fun k => spec_LedgerFault.l0.eq_2 ..) (Ev.pos h1 (Ev.pos h0 ?_)))
      rw [rdBB e1, ← hs]
      exact Ev.bind (spec_BalancesFault_ev l hl) (Ev.neg hf (Ev.now _))
  · rw [if_neg hg]
    by_cases h1 : (g.length : Int) < 1
    · exact Ev.pos h1 (Ev.step (fun k => spec_LedgerFault.j0.eq_2 ..) (Ev.pos rfl (Ev.now _)))
    · exact Ev.neg h1 (Ev.step (fun k => spec_LedgerFault.j0.eq_2 ..) (Ev.pos (by simp only [decide_eq_true_eq]; omega) (Ev.now _)))

theorem balLt_trans {a b c : S104} (h : balLt a b) (k : balLt b c) : balLt a c := by
  unfold balLt at *
  omega
open Classical in
theorem balsR_sorted (l : List S104) : ∀ p, balsR p l = 0 → (∀ b ∈ l, balOk b) ∧ l.Pairwise balLt ∧ ∀ a, p = some a → ∀ b ∈ l, balLt a b := by
  induction l with
  | nil => intro p _; exact ⟨by simp, .nil, by simp⟩
  | cons b l ih =>
    intro p h
    unfold balsR at h
    by_cases h1 : balOk b
    · rw [if_pos h1] at h
      by_cases h2 : ∀ a, p = some a → balLt a b
      · rw [if_pos h2] at h
        obtain ⟨q1, q2, q3⟩ := ih _ h
        have q4 := q3 b rfl
        refine ⟨fun c hc => ?_, List.pairwise_cons.2 ⟨q4, q2⟩, fun a ha c hc => ?_⟩
        · rcases List.mem_cons.1 hc with rfl | hc
          · exact h1
          · exact q1 c hc
        · rcases List.mem_cons.1 hc with rfl | hc
          · exact h2 a ha
          · exact balLt_trans (h2 a ha) (q4 c hc)
      · rw [if_neg h2] at h
        exact absurd h (by decide)
    · rw [if_neg h1] at h
      exact absurd h (by decide)
theorem shardsR_zero (g : List (List S104)) (h : shardsR g = 0) : ∀ l ∈ g, balsFault l = 0 := by
  induction g with
  | nil => simp
  | cons l g ih =>
    rw [shardsR_cons] at h
    by_cases hf : balsFault l = 0
    · rw [if_pos hf] at h
      intro m hm
      rcases List.mem_cons.1 hm with rfl | hm
      · exact hf
      · exact ih h m hm
    · rw [if_neg hf] at h
      exact absurd h hf
theorem ledger_sorted (g : List (List S104)) (h : ledgerFault g = 0) : g.length ≤ 3 ∧ ∀ l ∈ g, l.length ≤ 18 ∧ (∀ b ∈ l, balOk b) ∧ l.Pairwise balLt := by
  unfold ledgerFault at h
  by_cases hg : 1 ≤ g.length ∧ g.length ≤ 3
  · rw [if_pos hg] at h
    refine ⟨hg.2, fun l hl => ?_⟩
    have := shardsR_zero g h l hl
    unfold balsFault at this
    by_cases h18 : l.length > 18
    · rw [if_pos h18] at this
      exact absurd this (by decide)
    · rw [if_neg h18] at this
      obtain ⟨q1, q2, _⟩ := balsR_sorted l none this
      exact ⟨by omega, q1, q2⟩
  · rw [if_neg hg] at h
    exact absurd h (by decide)
/-- Does a balance stand at this place? -/
def atPlace (x y : Int) (b : S104) : Prop := b.f0 = x ∧ b.f1 = y
instance (x y : Int) (b : S104) : Decidable (atPlace x y b) := by unfold atPlace; infer_instance
/-- The amount at a place. -/
def amountL (x y : Int) : List S104 → Int
  | [] => 0
  | b :: l => if atPlace x y b then b.f2 else amountL x y l
theorem amountL_cons (x y : Int) (b : S104) (l : List S104) : amountL x y (b :: l) = if atPlace x y b then b.f2 else amountL x y l := rfl
theorem amount_at (x y : Int) (l : List S104) : l.Pairwise balLt → ∀ (i : Nat) (h : i < l.length), atPlace x y (l[i]'h) → amountL x y l = (l[i]'h).f2 := by
  induction l with
  | nil => intro _ i h; exact absurd h (by simp)
  | cons b l ih =>
    intro hp i h hm
    obtain ⟨h1, h2⟩ := List.pairwise_cons.1 hp
    unfold amountL
    cases i with
    | zero => exact if_pos hm
    | succ i =>
      have hi : i < l.length := by simpa using h
      have hlt := h1 _ (List.getElem_mem (l := l) (n := i) hi)
      rw [if_neg]
      · exact ih h2 i hi hm
      · rintro ⟨p, q⟩
        obtain ⟨p', q'⟩ := hm
        simp only [List.getElem_cons_succ] at p' q'
        unfold balLt at hlt
        omega
theorem amount_none (x y : Int) (l : List S104) (h : ∀ (i : Nat) (hi : i < l.length), ¬ atPlace x y (l[i]'hi)) : amountL x y l = 0 := by
  induction l with
  | nil => rfl
  | cons b l ih =>
    unfold amountL
    have h0 : ¬ atPlace x y b := h 0 (by simp)
    rw [if_neg h0]
    exact ih (fun i hi => h (i + 1) (by simpa using hi))

theorem spec_l2Has_ev (l : List S104) (x y : Int) (hl : (l.length : Int) ≤ 9000000000000000000) : Ev (fun k => spec_l2Has.f k l x y) (amountL x y l) := by
  unfold spec_l2Has.f
  refine Ev.upto1 (fun k (_ : Unit) i => spec_l2Has.l0 k l x y i) l.length (by omega) (fun i _ => amountL x y (l.drop i.toNat) = amountL x y l) (amountL x y l)
    (fun i s h0 h1 hs => ?_) (fun s hs => Ev.step (fun k => spec_l2Has.l0.eq_2 ..) (Ev.neg (by omega) (Ev.eq (Ev.now _) (by rw [← hs, List.drop_eq_nil_of_le (by omega)]; rfl)))) 0 () (by omega) (by omega) rfl
  have hr := rdBalance_at l i h0 h1
  rw [drop_cons_at l i.toNat (by omega)] at hs
  generalize l[i.toNat]'(by omega) = b at hs hr
  rw [amountL_cons] at hs
  by_cases h2 : b.f0 = x
  · by_cases h3 : b.f1 = y
    · rw [if_pos ⟨h2, h3⟩] at hs
      refine .inr (Ev.step (fun k => spec_l2Has.l0.eq_2 ..) (Ev.pos h1 (Ev.pos h0 ?_)))
      rw [hr]
      exact Ev.pos h2 (Ev.pos h3 (Ev.eq (Ev.now _) hs))
    · rw [if_neg (fun h => h3 h.2)] at hs
      refine .inl ⟨(), by rw [show (i + 1).toNat = i.toNat + 1 by omega]; exact hs, fun h => Ev.step (fun k => spec_l2Has.l0.eq_2 ..) (Ev.pos h1 (Ev.pos h0 ?_))⟩
      rw [hr]
      exact Ev.pos h2 (Ev.neg h3 h)
  · rw [if_neg (fun h => h2 h.1)] at hs
    refine .inl ⟨(), by rw [show (i + 1).toNat = i.toNat + 1 by omega]; exact hs, fun h => Ev.step (fun k => spec_l2Has.l0.eq_2 ..) (Ev.pos h1 (Ev.pos h0 ?_))⟩
    rw [hr]
    exact Ev.neg h2 h
/-- The place searched, as a balance. -/
def placeB (x y : Int) : S104 := ⟨x, y, 0⟩
theorem search_ev (l : List S104) (x y : Int) (hl : l.length ≤ 1000000) (hp : l.Pairwise balLt) : ∀ (d lo hi : Nat), hi - lo ≤ d → lo ≤ hi → hi ≤ l.length → (∀ (j : Nat) (h : j < l.length), j < lo → balLt (l[j]'h) (placeB x y)) → (∀ (j : Nat) (h : j < l.length), hi ≤ j → ¬ balLt (l[j]'h) (placeB x y)) →
    ∃ i : Nat, ∃ f : Bool, Ev (fun k => slices_BinarySearchFunc_impl_Balance.l0 k l (l.length : Int) (lo : Int) (hi : Int) x y 0) ((i : Int), f) ∧ (f = true → ∃ h : i < l.length, atPlace x y (l[i]'h)) ∧ (f = false → ∀ (j : Nat) (h : j < l.length), ¬ atPlace x y (l[j]'h)) := by
  have hpw := List.pairwise_iff_getElem.1 hp
  intro d
  induction d with
  | zero =>
    intro lo hi hd h1 h2 ha hb
    obtain rfl : lo = hi := by omega
    by_cases hn : lo < l.length
    · obtain ⟨c, c1, c2, hc⟩ := comparePlaces_ev (l[lo]'hn) (placeB x y)
      have hr := rdBalance_at l (lo : Int) (by omega) (by omega)
      have hlo := hb lo hn (Nat.le_refl _)
      refine ⟨lo, (c == 0), Ev.step (fun k => slices_BinarySearchFunc_impl_Balance.l0.eq_2 ..) (Ev.neg (by omega) (Ev.pos (by omega) (Ev.pos (by omega) (Ev.pos (by omega) ?_)))), fun hf => ⟨hn, ?_⟩, fun hf j hj => ?_⟩
      · rw [hr]
        exact Ev.bind hc (Ev.now _)
      · have hc0 : c = 0 := by simpa using hf
        have h3 : ¬ balLt (placeB x y) (l[lo]'hn) := fun h => by have := c2.2 h; omega
        unfold balLt placeB at hlo h3
        unfold atPlace
        simp only at hlo h3
        omega
      · have hc0 : c ≠ 0 := by simpa using hf
        have h3 : balLt (placeB x y) (l[lo]'hn) := c2.1 (by have := c1.2 hlo; omega)
        rintro ⟨p, q⟩
        rcases Nat.lt_trichotomy j lo with hjl | hjl | hjl
        · have := ha j hj hjl
          unfold balLt placeB at this
          simp only at this
          omega
        · subst hjl
          unfold balLt placeB at h3
          simp only at h3
          omega
        · have := balLt_trans h3 (hpw lo j hn hj hjl)
          unfold balLt placeB at this
          simp only at this
          omega
    · refine ⟨lo, false, Ev.step (fun k => slices_BinarySearchFunc_impl_Balance.l0.eq_2 ..) (Ev.neg (by omega) (Ev.neg (by omega) (Ev.now _))), fun hf => absurd hf (by decide), fun _ j hj => ?_⟩
      rintro ⟨p, q⟩
      have := ha j hj (by omega)
      unfold balLt placeB at this
      simp only at this
      omega
  | succ d ih =>
    intro lo hi hd h1 h2 ha hb
    by_cases hlt : lo < hi
    · have hmid : wrap64 ((IntKind.u64.wrap (wrap64 ((lo : Int) + (hi : Int)))) / 2) = (((lo + hi) / 2 : Nat) : Int) := by
        rw [w64 (x := (lo : Int) + (hi : Int)) (by omega) (by omega)]
        have hw : IntKind.u64.wrap ((lo : Int) + (hi : Int)) = (lo : Int) + (hi : Int) := by
          show ((lo : Int) + (hi : Int)) % 18446744073709551616 = _
          omega
        rw [hw, w64 (by omega) (by omega)]
        omega
      have hm1 : lo ≤ (lo + hi) / 2 := by omega
      have hm2 : (lo + hi) / 2 < hi := by omega
      generalize (lo + hi) / 2 = m at hmid hm1 hm2
      have hml : m < l.length := by omega
      obtain ⟨c, c1, c2, hc⟩ := comparePlaces_ev (l[m]'hml) (placeB x y)
      have hr := rdBalance_at l (m : Int) (by omega) (by omega)
      by_cases hcn : c < 0
      · have hbl : balLt (l[m]'hml) (placeB x y) := Classical.byContradiction fun h => by have := c1.2 h; omega
        obtain ⟨i, f, he, hf⟩ := ih (m + 1) hi (by omega) (by omega) h2 (fun j hj hjm => by
          rcases Nat.lt_or_ge j m with h | h
          · exact balLt_trans (hpw j m hj hml h) hbl
          · obtain rfl : j = m := by omega
            exact hbl) hb
        refine ⟨i, f, Ev.step (fun k => slices_BinarySearchFunc_impl_Balance.l0.eq_2 ..) (Ev.pos (by omega) ?_), hf⟩
        rw [hmid, w64 (x := (m : Int) + 1) (by omega) (by omega)]
        refine Ev.pos (by omega) (Ev.pos (by omega) ?_)
        rw [hr]
        exact Ev.bind hc (Ev.pos hcn he)
      · have hbl : ¬ balLt (l[m]'hml) (placeB x y) := c1.1 (by omega)
        obtain ⟨i, f, he, hf⟩ := ih lo m (by omega) (by omega) (by omega) ha (fun j hj hjm => by
          rcases Nat.lt_or_ge m j with h | h
          · exact fun hx => hbl (balLt_trans (hpw m j hml hj h) hx)
          · obtain rfl : j = m := by omega
            exact hbl)
        refine ⟨i, f, Ev.step (fun k => slices_BinarySearchFunc_impl_Balance.l0.eq_2 ..) (Ev.pos (by omega) ?_), hf⟩
        rw [hmid]
        refine Ev.pos (by omega) (Ev.pos (by omega) ?_)
        rw [hr]
        exact Ev.bind hc (Ev.neg hcn he)
    · exact ih lo hi (by omega) h1 h2 ha hb
theorem impl_amountIn_ev (l : List S104) (x y : Int) (hl : l.length ≤ 1000000) (hp : l.Pairwise balLt) : Ev (fun k => impl_amountIn.f k l x y) (amountL x y l) := by
  obtain ⟨i, f, he, h1, h2⟩ := search_ev l x y hl hp l.length 0 l.length (by omega) (by omega) (by omega) (by omega) (by omega)
  unfold impl_amountIn.f slices_BinarySearchFunc_impl_Balance.f
  refine Ev.bind he ?_
  cases f with
  | true =>
    obtain ⟨hi, hm⟩ := h1 rfl
    refine Ev.pos rfl (Ev.pos (show (0 : Int) ≤ (i : Int) by omega) (Ev.pos (show (i : Int) < (l.length : Int) by omega) (Ev.eq (Ev.now _) ?_)))
    show (rd_T104 l (i : Int)).f2 = _
    rw [rdBalance_at l (i : Int) (by omega) (by omega), amount_at x y l hp i hi hm]
    rfl
  | false => exact Ev.neg (by simp) (Ev.eq (Ev.now _) (amount_none x y l (h2 rfl)).symm)
theorem rdBB_mem (g : List (List S104)) (s : Int) (h0 : 0 ≤ s) (h1 : s ≤ (g.length : Int) - 1) : rd_L2 g s ∈ g := by
  rw [rdBB (List.getElem?_eq_getElem (show s.toNat < g.length by omega))]
  exact List.getElem_mem _
/-- What LegFault tells of a leg. -/
def legFault (s a t m : Int) : Int := if 0 ≤ s ∧ s ≤ 2 ∧ 0 ≤ a ∧ a ≤ 5 ∧ 0 ≤ t ∧ t ≤ 2 ∧ -1000000000000 ≤ m ∧ m ≤ 1000000000000 then (if m = 0 then 1 else 0) else 3
theorem spec_LegFault_ev (s a t m : Int) : Ev (fun k => spec_LegFault.f k s a t m) (legFault s a t m) := by
  refine ⟨1, fun k hk => ?_⟩
  obtain ⟨k, rfl⟩ : ∃ j, k = j + 1 := ⟨k - 1, by omega⟩
  unfold spec_LegFault.f spec_l1In.f legFault
  by_cases h1 : 0 ≤ s <;> by_cases h2 : s ≤ 2 <;> by_cases h3 : 0 ≤ a <;> by_cases h4 : a ≤ 5 <;> by_cases h5 : 0 ≤ t <;> by_cases h6 : t ≤ 2 <;> by_cases h7 : -1000000000000 ≤ m <;> by_cases h8 : m ≤ 1000000000000 <;> by_cases h9 : m = 0 <;> simp [h1, h2, h3, h4, h5, h6, h7, h8, h9, spec_LegFault.j0]
theorem impl_LegFault_ev (s a t m : Int) : Ev (fun k => impl_LegFault.f k s a t m) (legFault s a t m) := by
  refine ⟨1, fun k hk => ?_⟩
  obtain ⟨k, rfl⟩ : ∃ j, k = j + 1 := ⟨k - 1, by omega⟩
  unfold impl_LegFault.f impl_isShard.f impl_isPlace.f impl_isAsset.f impl_within.f legFault
  by_cases h1 : 0 ≤ s <;> by_cases h2 : s ≤ 2 <;> by_cases h3 : 0 ≤ a <;> by_cases h4 : a ≤ 5 <;> by_cases h5 : 0 ≤ t <;> by_cases h6 : t ≤ 2 <;> by_cases h7 : -1000000000000 ≤ m <;> by_cases h8 : m ≤ 1000000000000 <;> by_cases h9 : m = 0 <;> simp [h1, h2, h3, h4, h5, h6, h7, h8, h9, impl_LegFault.j0]

theorem containsLeg_ev [FN_slices_IndexFunc_impl_Leg] (q : S86 → Bool) (hq : ∀ x : S86, FN_slices_IndexFunc_impl_Leg.f x.f0 x.f1 x.f2 x.f3 = some (q x)) (l : List S86) (hl : l.length ≤ 1000000) : Ev (fun k => slices_ContainsFunc_impl_Leg.f k l) (l.any q) := by
  unfold slices_ContainsFunc_impl_Leg.f slices_IndexFunc_impl_Leg.f
  obtain ⟨r, hr, he⟩ := Ev.upto (fun k (_ : Unit) i => slices_IndexFunc_impl_Leg.l0 k l (l.length : Int) i) l.length (by omega) (fun i _ => (l.drop i.toNat).any q = l.any q) (fun r => r ≥ 0 ↔ l.any q = true)
    (fun i _ h0 h1 hp => by
      have hr := rdLeg_at l i h0 h1
      rw [drop_cons_at l i.toNat (by omega), List.any_cons] at hp
      generalize l[i.toNat]'(by omega) = x at hr hp
      by_cases hx : q x = true
      · rw [hx, Bool.true_or] at hp
        refine .inr ⟨i, ⟨fun _ => hp.symm, fun _ => h0⟩, Ev.step (fun k => slices_IndexFunc_impl_Leg.l0.eq_2 ..) (Ev.pos h1 (Ev.pos h0 (Ev.pos h1 ?_)))⟩
        rw [hr]
        exact Ev.bind (Ev.is (hq x)) (Ev.pos hx (Ev.now _))
      · have hf : q x = false := by simpa using hx
        rw [hf, Bool.false_or] at hp
        refine .inl ⟨(), by rw [show (i + 1).toNat = i.toNat + 1 by omega]; exact hp, fun r h => Ev.step (fun k => slices_IndexFunc_impl_Leg.l0.eq_2 ..) (Ev.pos h1 (Ev.pos h0 (Ev.pos h1 ?_)))⟩
        rw [hr]
        exact Ev.bind (Ev.is (hq x)) (Ev.neg hx h))
    (fun _ hp => ⟨-1, by rw [← hp, List.drop_eq_nil_of_le (by omega)]; simp, Ev.step (fun k => slices_IndexFunc_impl_Leg.l0.eq_2 ..) (Ev.neg (by omega) (Ev.now _))⟩)
    0 () (by omega) (by omega) rfl
  refine Ev.bind he (Ev.eq (Ev.now _) ?_)
  rw [Bool.eq_iff_iff, decide_eq_true_iff]
  exact hr
/-- Are two legs of one place? -/
def sameP (x w : S86) : Bool := (x.f0 == w.f0 && x.f1 == w.f1) && x.f2 == w.f2
theorem samePlace_eq (x w : S86) : (impl_samePlace.f x.f0 x.f1 x.f2 x.f3 w.f0 w.f1 w.f2 w.f3 == some true) = sameP x w := by
  unfold impl_samePlace.f sameP
  by_cases h0 : x.f0 = w.f0 <;> by_cases h1 : x.f1 = w.f1 <;> by_cases h2 : x.f2 = w.f2 <;> simp [h0, h1, h2]
def placeIn (l : List S86) (i : Int) (w : S86) : Bool := (l.take i.toNat).any fun x => sameP x w
def finCode (l : List S86) : Int := if ∀ g ∈ l, sumA g.f2 l = 0 then 0 else 1
theorem fin_eq (l : List S86) : impl_ContractFault.fin l = some (finCode l) := by
  unfold impl_ContractFault.fin finCode
  split <;> rfl
/-- What ContractFault tells of the last d legs. -/
def contractFrom (l : List S86) : Nat → Int
  | 0 => finCode l
  | d + 1 => (fun i : Int => (fun x : S86 => if legFault x.f0 x.f1 x.f2 x.f3 = 0 then (if placeIn l i x = true then 7 else contractFrom l d) else legFault x.f0 x.f1 x.f2 x.f3) (rd_T86 l i)) ((l.length : Int) - (d + 1))
def contractFault (id : Int) (l : List S86) : Int := if 1 ≤ id ∧ id ≤ 1000000000 then (if 2 ≤ (l.length : Int) ∧ (l.length : Int) ≤ 8 then contractFrom l l.length else 2) else 3
theorem impl_isId_eq (id : Int) : impl_isId.f id = some (decide (1 ≤ id ∧ id ≤ 1000000000)) := by
  unfold impl_isId.f
  rw [within_eq]
  rfl
theorem impl_ContractFault_ev (id : Int) (l : List S86) : Ev (fun k => impl_ContractFault.f k id l) (contractFault id l) := by
  unfold impl_ContractFault.f impl_size_impl_Leg.f contractFault
  refine Ev.bind (Ev.is (impl_isId_eq id)) ?_
  by_cases hid : 1 ≤ id ∧ id ≤ 1000000000
  · rw [if_pos hid]
    refine Ev.pos (decide_eq_true hid) (Ev.let (Ev.bind (Ev.is (within_eq _ _ _)) ?_))
    by_cases hl : 2 ≤ (l.length : Int) ∧ (l.length : Int) ≤ 8
    · rw [if_pos hl]
      refine Ev.pos (decide_eq_true hl) ?_
      have go : ∀ d : Nat, d ≤ l.length → Ev (fun k => impl_ContractFault.l0 k l (l.length : Int) ((l.length : Int) - d) id l) (contractFrom l d) := by
        intro d
        induction d with
        | zero => intro _; exact Ev.step (fun k => impl_ContractFault.l0.eq_2 ..) (Ev.neg (by omega) (Ev.is (fin_eq l)))
        | succ d ih =>
          intro hd
          have h := ih (by omega)
          refine Ev.step (fun k => impl_ContractFault.l0.eq_2 ..) (Ev.pos (by omega) (Ev.pos (by omega) (Ev.pos (by omega) (Ev.bind (impl_LegFault_ev ..) ?_))))
          rw [w64 (x := (l.length : Int) - ((d + 1 : Nat) : Int) + 1) (by omega) (by omega), show (l.length : Int) - ((d + 1 : Nat) : Int) + 1 = (l.length : Int) - d by omega]
          rw [show ((d + 1 : Nat) : Int) = (d : Int) + 1 by omega]
          unfold contractFrom
          refine Ev.cond (fun _ => Ev.pos (by omega) (Ev.bind ?_ (Ev.cond (fun _ => Ev.now _) (fun _ => h)))) (fun _ => Ev.now _)
          unfold CL_117.f
          exact @containsLeg_ev (CL_117.p _ _ _ _) (fun x => sameP x (rd_T86 l ((l.length : Int) - ((d : Int) + 1)))) (fun x => congrArg some (samePlace_eq x _)) _ (by rw [List.length_take]; omega)
      have := go l.length (by omega)
      rw [show (l.length : Int) - (l.length : Nat) = 0 by omega] at this
      exact this
    · rw [if_neg hl]
      exact Ev.neg (fun h => hl (of_decide_eq_true h)) (Ev.now _)
  · rw [if_neg hid]
    exact Ev.neg (fun h => hid (of_decide_eq_true h)) (Ev.now _)
theorem legFault_asset {s a t m : Int} (h : legFault s a t m = 0) : 0 ≤ t ∧ t ≤ 2 := by
  unfold legFault at h
  split at h
  · next hh => exact ⟨hh.2.2.2.2.1, hh.2.2.2.2.2.1⟩
  · omega
/-- The reference's sums. -/
structure SumsAre (x3 : List Int) (l : List S86) (i : Int) : Prop where
  three : x3.length = 3
  is : ∀ a : Int, 0 ≤ a → a ≤ 2 → rd x3 a = sumA a (l.take i.toNat)
  low : ∀ g ∈ l.take i.toNat, 0 ≤ g.f2 ∧ g.f2 ≤ 2
theorem rd_set (l : List Int) (a b v : Int) (ha : 0 ≤ a) (hb : 0 ≤ b) (hl : b < (l.length : Int)) : rd (l.set b.toNat v) a = if a = b then v else rd l a := by
  unfold rd
  rw [List.getD_eq_getElem?_getD, List.getD_eq_getElem?_getD, List.getElem?_set]
  by_cases h : a = b
  · subst h
    rw [if_pos rfl, if_pos rfl, if_pos (by omega)]
    rfl
  · rw [if_neg h, if_neg (by omega)]
theorem take_succ_at (l : List S86) (i : Int) (h0 : 0 ≤ i) (h1 : i < (l.length : Int)) : l.take (i + 1).toNat = l.take i.toNat ++ [rd_T86 l i] := by
  rw [show (i + 1).toNat = i.toNat + 1 by omega, List.take_add_one, List.getElem?_eq_getElem (show i.toNat < l.length by omega), rdLeg_at l i h0 h1]
  rfl
theorem sums_end (x3 : List Int) (l : List S86) (h : SumsAre x3 l (l.length : Int)) : Ev (fun k => spec_ContractFault.l2 k x3 0) (finCode l) := by
  have hall : l.take ((l.length : Int)).toNat = l := List.take_of_length_le (by omega)
  have his := h.is
  have hlow := h.low
  have h3 := h.three
  rw [hall] at his hlow
  refine Ev.upto1 (fun k (_ : Unit) i => spec_ContractFault.l2 k x3 i) 3 (by omega) (fun i _ => ∀ a : Int, 0 ≤ a → a < i → sumA a l = 0) (finCode l) (fun i _ h0 h1 hp => ?_) (fun _ hp => ?_) 0 () (by omega) (by omega) (fun a h0 h1 => by omega)
  · have hi := his i h0 (by omega)
    by_cases hz : rd x3 i = 0
    · refine .inl ⟨(), fun a a0 a1 => ?_, fun hh => Ev.step (fun k => spec_ContractFault.l2.eq_2 ..) (Ev.pos (by omega) (Ev.pos h0 (Ev.pos hz hh)))⟩
      by_cases ha : a = i
      · rw [ha, ← hi, hz]
      · exact hp a a0 (by omega)
    · have hf : finCode l = 1 := if_neg (fun hh => by
        obtain ⟨g, hg, hgi⟩ := sumA_mem (a := i) (l := l) (by rw [← hi]; exact hz)
        apply hz
        rw [hi, ← hgi]
        exact hh g hg)
      rw [hf]
      exact .inr (Ev.step (fun k => spec_ContractFault.l2.eq_2 ..) (Ev.pos (by omega) (Ev.pos h0 (Ev.neg hz (Ev.now _)))))
  · have hf : finCode l = 0 := by
      unfold finCode
      exact if_pos (fun (g : S86) hg => hp g.f2 (hlow g hg).1 (by have := (hlow g hg).2; omega))
    rw [hf]
    exact Ev.step (fun k => spec_ContractFault.l2.eq_2 ..) (Ev.neg (by omega) (Ev.now _))
theorem spec_legs_ev (id : Int) (l : List S86) (hl : (l.length : Int) ≤ 8) : ∀ d : Nat, d ≤ l.length → ∀ x3, SumsAre x3 l ((l.length : Int) - d) → Ev (fun k => spec_ContractFault.l0 k x3 ((l.length : Int) - d) id l) (contractFrom l d) := by
  intro d
  induction d with
  | zero =>
    intro _ x3 hs
    refine Ev.step (fun k => spec_ContractFault.l0.eq_2 ..) (Ev.neg (by omega) ?_)
    rw [show (l.length : Int) - ((0 : Nat) : Int) = (l.length : Int) by omega] at hs
    exact sums_end x3 l hs
  | succ d ih =>
    intro hd x3 hs
    refine Ev.step (fun k => spec_ContractFault.l0.eq_2 ..) (Ev.pos (by omega) (Ev.pos (by omega) (Ev.bind (spec_LegFault_ev ..) ?_)))
    rw [show ((d + 1 : Nat) : Int) = (d : Int) + 1 by omega] at hs ⊢
    unfold contractFrom
    refine Ev.cond (fun hz => ?_) (fun _ => Ev.now _)
    have hlow := legFault_asset hz
    clear hz
    have hi : (l.length : Int) - ((d : Int) + 1) + 1 = (l.length : Int) - d := by omega
    have h0 : 0 ≤ (l.length : Int) - ((d : Int) + 1) := by omega
    have h1 : (l.length : Int) - ((d : Int) + 1) < (l.length : Int) := by omega
    generalize (l.length : Int) - ((d : Int) + 1) = i at hi h0 h1 hs hlow ⊢
    have hst := sumA_take
    have htk := take_succ_at l i h0 h1
    have hsum : ∀ a, sumA a (l.take (i + 1).toNat) = if a = (rd_T86 l i).f2 then wrap64 (sumA a (l.take i.toNat) + (rd_T86 l i).f3) else sumA a (l.take i.toNat) := fun a => sumA_take a l i h0 h1
    generalize rd_T86 l i = w at hlow htk hsum ⊢
    have hlen : (l.take i.toNat).length = i.toNat := by rw [List.length_take]; omega
    refine Ev.upto1 (fun k (_ : Unit) j => spec_ContractFault.l1 k x3 i j id l w.f0 w.f1 w.f2 w.f3) i (by omega) (fun j _ => ((l.take i.toNat).drop j.toNat).any (fun x => sameP x w) = placeIn l i w) (if placeIn l i w = true then 7 else contractFrom l d)
      (fun j _ j0 j1 hp => ?_) (fun _ hp => ?_) 0 () (by omega) (by omega) (by simp [placeIn])
    · have hr := rdLeg_at l j j0 (by omega)
      have e : (l.take i.toNat)[j.toNat]'(by omega) = l[j.toNat]'(by omega) := by simp
      rw [drop_cons_at (l.take i.toNat) j.toNat (by omega), List.any_cons, e] at hp
      generalize l[j.toNat]'(by omega) = x at hr hp
      by_cases hx : sameP x w = true
      · have hk : placeIn l i w = true := by rw [← hp, hx]; rfl
        rw [hk, if_pos rfl]
        unfold sameP at hx
        rw [Bool.and_eq_true, Bool.and_eq_true, beq_iff_eq, beq_iff_eq, beq_iff_eq] at hx
        refine .inr (Ev.step (fun k => spec_ContractFault.l1.eq_2 ..) (Ev.pos j1 (Ev.pos j0 (Ev.pos (by omega) ?_))))
        rw [hr]
        exact Ev.pos hx.1.1 (Ev.pos hx.1.2 (Ev.pos hx.2 (Ev.now _)))
      · have hb : sameP x w = false := by simpa using hx
        rw [hb, Bool.false_or] at hp
        refine .inl ⟨(), by rw [show (j + 1).toNat = j.toNat + 1 by omega]; exact hp, fun hh => Ev.step (fun k => spec_ContractFault.l1.eq_2 ..) (Ev.pos j1 (Ev.pos j0 (Ev.pos (by omega) ?_)))⟩
        rw [hr]
        refine Ev.ite (fun e0 => Ev.ite (fun e1 => Ev.neg (fun e2 => hx ?_) hh) (fun _ => hh)) (fun _ => hh)
        unfold sameP
        simp [e0, e1, e2]
    · rw [List.drop_eq_nil_of_le (by omega)] at hp
      have hk : placeIn l i w = false := by rw [← hp]; rfl
      rw [hk, if_neg (by simp)]
      have h3 := hs.three
      refine Ev.step (fun k => spec_ContractFault.l1.eq_2 ..) (Ev.neg (by omega) (Ev.pos hlow.1 (Ev.pos (by omega) ?_)))
      rw [w64 (x := i + 1) (by omega) (by omega), hi]
      refine ih (by omega) _ ⟨by rw [List.length_set]; exact h3, fun a a0 a1 => ?_, ?_⟩
      · rw [rd_set x3 a w.f2 _ a0 hlow.1 (by omega), ← hi, hsum a, hs.is w.f2 hlow.1 hlow.2]
        by_cases ha : a = w.f2
        · rw [if_pos ha, if_pos ha, ha]
        · rw [if_neg ha, if_neg ha, hs.is a a0 a1]
      · rw [← hi, htk]
        intro g hg
        rcases List.mem_append.mp hg with hg | hg
        · exact hs.low g hg
        · rw [List.mem_singleton.mp hg]
          exact hlow
theorem spec_l1Id_eq (id : Int) : spec_l1Id.f id = some (decide (1 ≤ id ∧ id ≤ 1000000000)) := by
  unfold spec_l1Id.f
  rw [l1In_eq]
  rfl
theorem spec_ContractFault_ev (id : Int) (l : List S86) : Ev (fun k => spec_ContractFault.f k id l) (contractFault id l) := by
  unfold spec_ContractFault.f contractFault
  refine Ev.bind (Ev.is (spec_l1Id_eq id)) ?_
  by_cases hid : 1 ≤ id ∧ id ≤ 1000000000
  · rw [if_pos hid]
    refine Ev.pos (decide_eq_true hid) ?_
    by_cases hl : 2 ≤ (l.length : Int) ∧ (l.length : Int) ≤ 8
    · rw [if_pos hl]
      refine Ev.neg (by omega) (Ev.step (fun k => spec_ContractFault.j0.eq_2 ..) (Ev.neg (by simp only [decide_eq_true_eq]; omega) (Ev.pos (by omega) ?_)))
      have := spec_legs_ev id l hl.2 l.length (by omega) (List.replicate 3 0) ⟨rfl, fun a a0 a1 => by
        have : a = 0 ∨ a = 1 ∨ a = 2 := by omega
        rw [show (l.length : Int) - (l.length : Nat) = 0 by omega]
        rcases this with rfl | rfl | rfl <;> rfl, fun g hg => by
        rw [show (l.length : Int) - (l.length : Nat) = 0 by omega] at hg
        exact absurd hg (by simp)⟩
      rw [show (l.length : Int) - (l.length : Nat) = 0 by omega] at this
      exact this
    · rw [if_neg hl]
      by_cases h1 : (l.length : Int) < 2
      · exact Ev.pos h1 (Ev.step (fun k => spec_ContractFault.j0.eq_2 ..) (Ev.pos rfl (Ev.now _)))
      · exact Ev.neg h1 (Ev.step (fun k => spec_ContractFault.j0.eq_2 ..) (Ev.pos (by simp only [decide_eq_true_eq]; omega) (Ev.now _)))
  · rw [if_neg hid]
    exact Ev.neg (fun h => hid (of_decide_eq_true h)) (Ev.now _)

theorem rdLeg_set (l : List S86) (i : Int) (v : S86) (h : i.toNat < l.length) : rd_T86 (l.set i.toNat v) i = v := rdLeg (List.getElem?_set_self h)
/-- A Leg marked from k on. -/
def mkLeg (k : Int) : S86 := ⟨k, k + 1, k + 2, k + 3⟩
def mkLegL (n : Nat) (k : Int) : List S86 := (List.range n).map fun (i : Nat) => mkLeg (k + 4 * i)
theorem mkLegL_len (n : Nat) (k : Int) : (mkLegL n k).length = n := by simp [mkLegL]
theorem mkLegL_get (n : Nat) (k : Int) (i : Nat) (h : i < n) : (mkLegL n k)[i]? = some (mkLeg (k + 4 * i)) := by simp [mkLegL, h]
theorem markLegS_ev (l : List S86) (m : Int) (h0 : 0 ≤ m) (h1 : m + 4 * l.length ≤ 9000000000000000000) : Ev (fun k => laws_markLegS.f k l m) (m + 4 * l.length, mkLegL l.length m) := by
  unfold laws_markLegS.f
  refine Ev.upto1 (fun k (s : List S86 × Int) i => laws_markLegS.l0 k s.1 s.2 i) l.length (by omega) (fun i s => s.1.length = l.length ∧ s.2 = m + 4 * i ∧ s.1.take i.toNat = (mkLegL l.length m).take i.toNat) (m + 4 * l.length, mkLegL l.length m)
    (fun i s p0 p1 ⟨hl, hs, ht⟩ => .inl ⟨(s.1.set i.toNat (mkLeg s.2), s.2 + 4), ⟨by simp [hl], by simp [hs]; omega, ?_⟩, fun h => Ev.step (fun k => laws_markLegS.l0.eq_2 ..) (Ev.pos (by omega) ?_)⟩)
    (fun s ⟨hl, hs, ht⟩ => Ev.step (fun k => laws_markLegS.l0.eq_2 ..) (Ev.neg (by omega) (Ev.eq (Ev.now _) ?_)))
    0 (l, m) (by omega) (by omega) ⟨rfl, by simp, by simp⟩
  · show (s.1.set i.toNat (mkLeg s.2)).take (i + 1).toNat = _
    rw [show (i + 1).toNat = i.toNat + 1 by omega]
    refine take_set_succ _ _ _ _ (by omega) ht ?_
    rw [mkLegL_get _ _ _ (by omega), hs]
    congr 2
    omega
  · have b0 : 0 ≤ s.2 := by omega
    have b1 : s.2 + 4 ≤ 9000000000000000000 := by omega
    have w1 : wrap64 (s.2 + 1) = s.2 + 1 := by rw [w64 (by omega) (by omega)]
    have w2 : wrap64 (s.2 + 1 + 1) = s.2 + 2 := by rw [w64 (by omega) (by omega)]; omega
    have w3 : wrap64 (s.2 + 2 + 1) = s.2 + 3 := by rw [w64 (by omega) (by omega)]; omega
    have w4 : wrap64 (s.2 + 3 + 1) = s.2 + 4 := by rw [w64 (by omega) (by omega)]; omega
    refine Ev.pos p0 ?_
    simp only [w1, w2, w3, w4, Option.bind_some]
    simp only [rdLeg_set _ _ _ (show i.toNat < s.1.length by omega), List.set_set]
    exact h
  · rw [List.take_of_length_le (by omega), List.take_of_length_le (by simp [mkLegL_len])] at ht
    rw [ht, hs]
theorem eqLeg_rfl (a0 : Int) (a1 : Int) (a2 : Int) (a3 : Int) : laws_eqLeg.f a0 a1 a2 a3 a0 a1 a2 a3 = some true := by
  unfold laws_eqLeg.f
  simp
theorem eqLegS_ev (l : List S86) (hl : (l.length : Int) ≤ 9223372036854775807) : Ev (fun k => laws_eqLegS.f k l l) true := by
  unfold laws_eqLegS.f
  refine Ev.pos rfl ?_
  refine Ev.each (F := fun k i => laws_eqLegS.l0 k l l i) l.length hl (fun i h0 h1 h => Ev.step (fun k => laws_eqLegS.l0.eq_2 ..) (Ev.pos h1 (Ev.pos h0 (Ev.pos h1 ?_)))) (Ev.step (fun k => laws_eqLegS.l0.eq_2 ..) (Ev.neg (by omega) (Ev.now _)))
  simp only [eqLeg_rfl]
  exact Ev.let (Ev.pos rfl h)

/-- The legs at a shard. -/
def legsOf (l : List S86) (s : Int) : List S86 := l.filter fun g => decide (g.f0 = s)
theorem legsOf_succ (l : List S86) (s : Int) (i : Int) (h0 : 0 ≤ i) (h1 : i < (l.length : Int)) : legsOf (l.take (i + 1).toNat) s = if (rd_T86 l i).f0 = s then legsOf (l.take i.toNat) s ++ [rd_T86 l i] else legsOf (l.take i.toNat) s := by
  rw [take_succ_at l i h0 h1]
  unfold legsOf
  rw [List.filter_append]
  by_cases h : (rd_T86 l i).f0 = s
  · rw [if_pos h]
    simp [h]
  · rw [if_neg h]
    simp [h]
theorem legsOf_len (l : List S86) (s : Int) : (legsOf l s).length ≤ l.length := List.length_filter_le _ _
theorem spec_l1Legs_ev (id : Int) (l : List S86) (hl : (l.length : Int) ≤ 8) (s : Int) : Ev (fun k => spec_l1Legs.f k id l s) (legsOf l s) := by
  unfold spec_l1Legs.f
  refine Ev.upto1 (fun k (x : List S86) i => spec_l1Legs.l0 k s x i id l) l.length (by omega) (fun i x => x = legsOf (l.take i.toNat) s) (legsOf l s) (fun i x h0 h1 hx => .inl ?_) (fun x hx => ?_) 0 [] (by omega) (by omega) rfl
  · have hs := legsOf_succ l s i h0 h1
    have hn := legsOf_len (l.take i.toNat) s
    rw [← hx, List.length_take] at hn
    rw [← hx] at hs
    generalize hg : rd_T86 l i = g at hs
    by_cases hf : g.f0 = s
    · rw [if_pos hf] at hs
      refine ⟨x ++ [g], hs.symm, fun h => Ev.step (fun k => spec_l1Legs.l0.eq_2 ..) (Ev.pos h1 (Ev.pos h0 ?_))⟩
      rw [hg]
      exact Ev.pos hf (Ev.pos (by omega) h)
    · rw [if_neg hf] at hs
      refine ⟨x, hs.symm, fun h => Ev.step (fun k => spec_l1Legs.l0.eq_2 ..) (Ev.pos h1 (Ev.pos h0 ?_))⟩
      rw [hg]
      exact Ev.neg hf h
  · rw [List.take_of_length_le (by omega)] at hx
    rw [← hx]
    exact Ev.step (fun k => spec_l1Legs.l0.eq_2 ..) (Ev.neg (by omega) (Ev.now _))
/-- An amount set at a place of balances; 0: the balance goes. -/
def setL (x y m : Int) : Bool → List S104 → List S104
  | done, [] => if done = true then [] else [⟨x, y, m⟩]
  | done, b :: r => if b.f0 = x ∧ b.f1 = y then setL x y m done r else if done = true then b :: setL x y m done r else if b.f0 * 3 + b.f1 > x * 3 + y then ⟨x, y, m⟩ :: b :: setL x y m true r else b :: setL x y m done r
/-- Balances at places, of amounts that are no more than n. -/
def smallB (n : Int) (l : List S104) : Prop := ∀ b ∈ l, (0 ≤ b.f0 ∧ b.f0 ≤ 5) ∧ (0 ≤ b.f1 ∧ b.f1 ≤ 2) ∧ -n ≤ b.f2 ∧ b.f2 ≤ n
theorem setL_nil (x y m : Int) (done : Bool) : setL x y m done [] = if done = true then [] else [⟨x, y, m⟩] := rfl
theorem setL_cons (x y m : Int) (done : Bool) (b : S104) (r : List S104) : setL x y m done (b :: r) = if b.f0 = x ∧ b.f1 = y then setL x y m done r else if done = true then b :: setL x y m done r else if b.f0 * 3 + b.f1 > x * 3 + y then ⟨x, y, m⟩ :: b :: setL x y m true r else b :: setL x y m done r := rfl
theorem setL_len2 (x y m : Int) (l : List S104) : (setL x y m true l).length ≤ l.length ∧ (setL x y m false l).length ≤ l.length + 1 := by
  induction l with
  | nil => exact ⟨Nat.le_refl 0, Nat.le_refl 1⟩
  | cons b r ih =>
    obtain ⟨i1, i2⟩ := ih
    rw [setL_cons, setL_cons]
    by_cases h1 : b.f0 = x ∧ b.f1 = y
    · rw [if_pos h1, if_pos h1, List.length_cons]
      omega
    · rw [if_neg h1, if_neg h1, if_pos rfl, if_neg Bool.false_ne_true]
      refine ⟨by rw [List.length_cons, List.length_cons]; omega, ?_⟩
      by_cases h3 : b.f0 * 3 + b.f1 > x * 3 + y
      · rw [if_pos h3, List.length_cons, List.length_cons, List.length_cons]; omega
      · rw [if_neg h3, List.length_cons, List.length_cons]; omega
theorem setL_len (x y m : Int) (l : List S104) (done : Bool) : (setL x y m done l).length ≤ l.length + 1 := by
  have := setL_len2 x y m l
  cases done
  · exact this.2
  · omega
theorem setL_small (n x y m : Int) (hx : 0 ≤ x ∧ x ≤ 5) (hy : 0 ≤ y ∧ y ≤ 2) (hm : -n ≤ m ∧ m ≤ n) (l : List S104) (h : smallB n l) : ∀ done, smallB n (setL x y m done l) := by
  induction l with
  | nil =>
    intro done b hb
    rw [setL_nil] at hb
    cases done
    · rw [if_neg Bool.false_ne_true] at hb
      obtain rfl := List.mem_singleton.1 hb
      exact ⟨hx, hy, hm⟩
    · rw [if_pos rfl] at hb
      cases hb
  | cons c r ih =>
    intro done b hb
    have ih := ih (fun b hb => h b (List.mem_cons_of_mem _ hb))
    rw [setL_cons] at hb
    by_cases h1 : c.f0 = x ∧ c.f1 = y
    · rw [if_pos h1] at hb
      exact ih done b hb
    · rw [if_neg h1] at hb
      by_cases h2 : done = true
      · rw [if_pos h2] at hb
        rcases List.mem_cons.1 hb with rfl | hb
        · exact h _ List.mem_cons_self
        · exact ih done b hb
      · rw [if_neg h2] at hb
        by_cases h3 : c.f0 * 3 + c.f1 > x * 3 + y
        · rw [if_pos h3] at hb
          rcases List.mem_cons.1 hb with rfl | hb
          · exact ⟨hx, hy, hm⟩
          · rcases List.mem_cons.1 hb with rfl | hb
            · exact h _ List.mem_cons_self
            · exact ih true b hb
        · rw [if_neg h3] at hb
          rcases List.mem_cons.1 hb with rfl | hb
          · exact h _ List.mem_cons_self
          · exact ih done b hb
theorem spec_l2Set_ev (n : Int) (l : List S104) (h : smallB n l) (hl : l.length ≤ 1000000) (x y m : Int) (hx : 0 ≤ x ∧ x ≤ 5) (hy : 0 ≤ y ∧ y ≤ 2) : Ev (fun k => spec_l2Set.f k l x y m) (setL x y m (m == 0) l) := by
  unfold spec_l2Set.f
  refine Ev.upto1 (fun k (s : List S104 × Bool) i => spec_l2Set.l0 k l x y m s.1 s.2 i) l.length (by omega) (fun i s => s.1 ++ setL x y m s.2 (l.drop i.toNat) = setL x y m (m == 0) l ∧ (s.1.length : Int) ≤ 2 * i) _
    (fun i s h0 h1 ⟨hs, hn⟩ => .inl ?_) (fun s ⟨hs, hn⟩ => ?_) 0 ([], m == 0) (by omega) (by omega) ⟨by simp, by simp⟩
  · have hr := rdBalance_at l i h0 h1
    have hb := h _ (List.getElem_mem (show i.toNat < l.length by omega))
    rw [drop_cons_at l i.toNat (by omega)] at hs
    rw [← hr] at hs hb
    have e1 : (i + 1).toNat = i.toNat + 1 := by omega
    obtain ⟨⟨b0, b1⟩, ⟨b2, b3⟩, _⟩ := hb
    have w1 : wrap64 (wrap64 ((rd_T104 l i).f0 * 3) + (rd_T104 l i).f1) = (rd_T104 l i).f0 * 3 + (rd_T104 l i).f1 := by rw [w64 (x := (rd_T104 l i).f0 * 3) (by omega) (by omega), w64 (by omega) (by omega)]
    have w2 : wrap64 (wrap64 (x * 3) + y) = x * 3 + y := by rw [w64 (x := x * 3) (by omega) (by omega), w64 (by omega) (by omega)]
    have hgo : ∀ r, Ev (fun k => spec_l2Set.j1 k l x y m s.1 s.2 i (decide ((rd_T104 l i).f0 = x ∧ (rd_T104 l i).f1 = y)) (rd_T104 l i).f0 (rd_T104 l i).f1 (rd_T104 l i).f2) r → Ev (fun k => spec_l2Set.l0 k l x y m s.1 s.2 i) r := fun r hh => by
      refine Ev.step (fun k => spec_l2Set.l0.eq_2 ..) (Ev.pos h1 (Ev.pos h0 ?_))
      by_cases hx' : (rd_T104 l i).f0 = x
      · refine Ev.pos hx' ?_
        have : ((rd_T104 l i).f1 == y) = decide ((rd_T104 l i).f0 = x ∧ (rd_T104 l i).f1 = y) := by
          by_cases hy' : (rd_T104 l i).f1 = y <;> simp [hx', hy']
        rw [this]
        exact hh
      · refine Ev.neg hx' ?_
        have : false = decide ((rd_T104 l i).f0 = x ∧ (rd_T104 l i).f1 = y) := by simp [hx']
        rw [this]
        exact hh
    generalize hbv : rd_T104 l i = b at hs hgo w1
    rw [setL_cons] at hs
    by_cases c1 : b.f0 = x ∧ b.f1 = y
    · rw [if_pos c1] at hs
      exact ⟨s, ⟨by rw [e1]; exact hs, by omega⟩, fun hh => hgo _ (Ev.step (fun k => spec_l2Set.j1.eq_2 ..) (Ev.pos (decide_eq_true c1) hh))⟩
    · rw [if_neg c1] at hs
      by_cases c2 : s.2 = true
      · rw [if_pos c2] at hs
        exact ⟨(s.1 ++ [⟨b.f0, b.f1, b.f2⟩], s.2), ⟨by rw [e1, List.append_assoc]; exact hs, by simp; omega⟩, fun hh => hgo _ (Ev.step (fun k => spec_l2Set.j1.eq_2 ..) (Ev.neg (by simpa using c1) (Ev.pos c2 (Ev.pos (by omega) hh))))⟩
      · rw [if_neg c2] at hs
        by_cases c3 : b.f0 * 3 + b.f1 > x * 3 + y
        · rw [if_pos c3] at hs
          refine ⟨(s.1 ++ [⟨x, y, m⟩] ++ [⟨b.f0, b.f1, b.f2⟩], true), ⟨by rw [e1, List.append_assoc, List.append_assoc]; exact hs, by simp; omega⟩, fun hh => hgo _ (Ev.step (fun k => spec_l2Set.j1.eq_2 ..) (Ev.neg (by simpa using c1) (Ev.neg c2 ?_)))⟩
          rw [w1, w2]
          exact Ev.pos c3 (Ev.pos (by omega) (Ev.let (Ev.pos (by simp; omega) hh)))
        · rw [if_neg c3] at hs
          refine ⟨(s.1 ++ [⟨b.f0, b.f1, b.f2⟩], s.2), ⟨by rw [e1, List.append_assoc]; exact hs, by simp; omega⟩, fun hh => hgo _ (Ev.step (fun k => spec_l2Set.j1.eq_2 ..) (Ev.neg (by simpa using c1) (Ev.neg c2 ?_)))⟩
          rw [w1, w2]
          exact Ev.neg c3 (Ev.pos (by omega) hh)
  · rw [show ((l.length : Int)).toNat = l.length by omega, List.drop_length, setL_nil] at hs
    refine Ev.step (fun k => spec_l2Set.l0.eq_2 ..) (Ev.neg (by omega) ?_)
    by_cases c2 : s.2 = true
    · rw [if_pos c2, List.append_nil] at hs
      exact Ev.pos c2 (Ev.eq (Ev.now _) hs)
    · rw [if_neg c2] at hs
      exact Ev.neg c2 (Ev.pos (by omega) (Ev.eq (Ev.now _) hs))
/-- A leg added to balances. -/
def addL (l : List S104) (g : S86) : List S104 := setL g.f1 g.f2 (amountL g.f1 g.f2 l + g.f3) (amountL g.f1 g.f2 l + g.f3 == 0) l
def smallG (g : S86) : Prop := (0 ≤ g.f1 ∧ g.f1 ≤ 5) ∧ (0 ≤ g.f2 ∧ g.f2 ≤ 2) ∧ -1000000000000 ≤ g.f3 ∧ g.f3 ≤ 1000000000000
theorem amount_small (n x y : Int) (h0 : 0 ≤ n) (l : List S104) (h : smallB n l) : -n ≤ amountL x y l ∧ amountL x y l ≤ n := by
  induction l with
  | nil => exact ⟨by show -n ≤ 0; omega, h0⟩
  | cons b r ih =>
    rw [amountL_cons]
    split
    · exact (h b List.mem_cons_self).2.2
    · exact ih (fun x hx => h x (List.mem_cons_of_mem _ hx))
theorem addL_small (n : Int) (h0 : 0 ≤ n) (l : List S104) (h : smallB n l) (g : S86) (hg : smallG g) : smallB (n + 1000000000000) (addL l g) := by
  have ha := amount_small n g.f1 g.f2 h0 l h
  exact setL_small _ _ _ _ hg.1 hg.2.1 ⟨by have := hg.2.2; omega, by have := hg.2.2; omega⟩ l (fun b hb => ⟨(h b hb).1, (h b hb).2.1, by have := (h b hb).2.2; omega, by have := (h b hb).2.2; omega⟩) _
theorem addL_len (l : List S104) (g : S86) : (addL l g).length ≤ l.length + 1 := by
  have := setL_len g.f1 g.f2 (amountL g.f1 g.f2 l + g.f3) l (amountL g.f1 g.f2 l + g.f3 == 0)
  exact this
def addsL (l : List S104) (gs : List S86) : List S104 := gs.foldl addL l
theorem spec_l2Add_loop (gs : List S86) (hg : ∀ g ∈ gs, smallG g) (hl : gs.length ≤ 8) : ∀ (d : Nat) (l : List S104) (n : Int), d ≤ gs.length → 0 ≤ n → n + 1000000000000 * (d : Int) ≤ 1000000000000000 → smallB n l → l.length + d ≤ 100000 →
    Ev (fun k => spec_l2Add.l0 k gs l ((gs.length : Int) - d)) (addsL l (gs.drop (gs.length - d))) := by
  intro d
  induction d with
  | zero =>
    intro l n _ _ _ _ _
    rw [Nat.sub_zero, List.drop_length]
    exact Ev.step (fun k => spec_l2Add.l0.eq_2 ..) (Ev.neg (by omega) (Ev.now _))
  | succ d ih =>
    intro l n hd h0 hn hs hlen
    have hlt : gs.length - (d + 1) < gs.length := by omega
    have hi : (gs.length : Int) - ((d + 1 : Nat) : Int) = ((gs.length - (d + 1) : Nat) : Int) := by omega
    have hr : rd_T86 gs ((gs.length : Int) - ((d + 1 : Nat) : Int)) = gs[gs.length - (d + 1)] := by rw [hi]; exact rdLeg_at gs _ (by omega) (by omega)
    have hgg := hg _ (List.getElem_mem hlt)
    have ham := amount_small n gs[gs.length - (d + 1)].f1 gs[gs.length - (d + 1)].f2 h0 l hs
    have h1 := spec_l2Has_ev l gs[gs.length - (d + 1)].f1 gs[gs.length - (d + 1)].f2 (by omega)
    have h2 := spec_l2Set_ev n l hs (by omega) gs[gs.length - (d + 1)].f1 gs[gs.length - (d + 1)].f2 (amountL gs[gs.length - (d + 1)].f1 gs[gs.length - (d + 1)].f2 l + gs[gs.length - (d + 1)].f3) hgg.1 hgg.2.1
    have hsm := addL_small n h0 l hs _ hgg
    have hal := addL_len l gs[gs.length - (d + 1)]
    have ih := ih (addL l gs[gs.length - (d + 1)]) (n + 1000000000000) (by omega) (by omega) (by omega) hsm (by omega)
    rw [List.drop_eq_getElem_cons hlt, show gs.length - (d + 1) + 1 = gs.length - d by omega]
    show Ev _ (addsL (addL l gs[gs.length - (d + 1)]) (gs.drop (gs.length - d)))
    refine Ev.step (fun k => spec_l2Add.l0.eq_2 ..) (Ev.pos (by omega) (Ev.pos (by omega) ?_))
    rw [hr, w64 (x := (gs.length : Int) - ((d + 1 : Nat) : Int) + 1) (by omega) (by omega), show (gs.length : Int) - ((d + 1 : Nat) : Int) + 1 = (gs.length : Int) - (d : Int) by omega]
    refine Ev.bind h1 ?_
    rw [w64 (x := amountL gs[gs.length - (d + 1)].f1 gs[gs.length - (d + 1)].f2 l + gs[gs.length - (d + 1)].f3) (by have := hgg.2.2; omega) (by have := hgg.2.2; omega)]
    exact Ev.bind h2 ih
theorem spec_l2Add_ev (gs : List S86) (hg : ∀ g ∈ gs, smallG g) (hl : gs.length ≤ 8) (l : List S104) (hs : smallB 900000000000000 l) (hlen : l.length ≤ 1000) : Ev (fun k => spec_l2Add.f k l gs) (addsL l gs) := by
  unfold spec_l2Add.f
  have := spec_l2Add_loop gs hg hl gs.length l 900000000000000 (Nat.le_refl _) (by decide) (by omega) hs (by omega)
  rw [Nat.sub_self, List.drop_zero, Int.sub_self] at this
  exact Ev.let (Ev.pos (by simp; omega) this)
/-- A ledger with a contract's legs added, shard for shard. -/
def settleL (g : List (List S104)) (l : List S86) : List (List S104) := g.mapIdx fun i s => addsL s (legsOf l (i : Int))
theorem spec_l2Settle_ev (g : List (List S104)) (hg : g.length ≤ 1000) (hb : ∀ s ∈ g, smallB 900000000000000 s ∧ s.length ≤ 1000) (id : Int) (l : List S86) (hl : (l.length : Int) ≤ 8) (hs : ∀ w ∈ l, smallG w) : Ev (fun k => spec_l2Settle.f k g id l) (settleL g l) := by
  unfold spec_l2Settle.f
  have hlen : (settleL g l).length = g.length := by unfold settleL; rw [List.length_mapIdx]
  refine Ev.upto1 (fun k (x : List (List S104)) i => spec_l2Settle.l0 k i g id l x) g.length (by omega) (fun i x => x = (settleL g l).take i.toNat) (settleL g l) (fun i x h0 h1 hx => .inl ?_) (fun x hx => ?_) 0 [] (by omega) (by omega) rfl
  · have hlt : i.toNat < g.length := by omega
    have hr : rd_L2 g i = g[i.toNat] := rdBB (List.getElem?_eq_getElem hlt)
    have hbs := hb _ (List.getElem_mem hlt)
    have hxl : x.length ≤ 1000 := by rw [hx, List.length_take]; omega
    refine ⟨x ++ [addsL g[i.toNat] (legsOf l i)], ?_, fun h => Ev.step (fun k => spec_l2Settle.l0.eq_2 ..) (Ev.pos h1 (Ev.pos h0 (Ev.bind (spec_l1Legs_ev id l hl i) ?_)))⟩
    · rw [show (i + 1).toNat = i.toNat + 1 by omega, List.take_add_one, ← hx]
      congr 1
      rw [List.getElem?_eq_getElem (by rw [hlen]; exact hlt)]
      unfold settleL
      rw [List.getElem_mapIdx, show ((i.toNat : Nat) : Int) = i by omega]
      rfl
    · rw [hr]
      exact Ev.bind (spec_l2Add_ev (legsOf l i) (fun w hw => hs w (List.mem_filter.1 hw).1) (by have := legsOf_len l i; omega) _ hbs.1 hbs.2) (Ev.pos (by omega) h)
  · rw [show ((g.length : Int)).toNat = g.length by omega, List.take_of_length_le (by omega)] at hx
    rw [← hx]
    exact Ev.step (fun k => spec_l2Settle.l0.eq_2 ..) (Ev.neg (by omega) (Ev.now _))
/-- One leg added where it belongs: what impl.settled does, leg by leg. -/
def settleStep (g : List (List S104)) (w : S86) : List (List S104) := g.set w.f0.toNat (addL (g.getD w.f0.toNat []) w)
theorem legsOf_cons (w : S86) (l : List S86) (s : Int) : legsOf (w :: l) s = if w.f0 = s then w :: legsOf l s else legsOf l s := by
  unfold legsOf
  rw [List.filter_cons]
  by_cases h : w.f0 = s
  · rw [if_pos (decide_eq_true h), if_pos h]
  · rw [if_neg (by simpa using h), if_neg h]
theorem settle_seq (l : List S86) : ∀ g : List (List S104), (∀ w ∈ l, 0 ≤ w.f0 ∧ w.f0 < (g.length : Int)) → l.foldl settleStep g = settleL g l := by
  induction l with
  | nil =>
    intro g _
    unfold settleL
    refine List.ext_getElem (by rw [List.length_mapIdx]; rfl) (fun i h1 h2 => ?_)
    rw [List.getElem_mapIdx]
    rfl
  | cons w l ih =>
    intro g h
    obtain ⟨w0, w1⟩ := h w List.mem_cons_self
    have hlen : (settleStep g w).length = g.length := by unfold settleStep; rw [List.length_set]
    rw [List.foldl_cons, ih (settleStep g w) (fun v hv => by rw [hlen]; exact h v (List.mem_cons_of_mem _ hv))]
    unfold settleL
    refine List.ext_getElem (by rw [List.length_mapIdx, List.length_mapIdx, hlen]) (fun i h1 h2 => ?_)
    rw [List.length_mapIdx] at h1 h2
    rw [List.getElem_mapIdx, List.getElem_mapIdx, legsOf_cons]
    by_cases hi : w.f0 = (i : Int)
    · rw [if_pos hi]
      have hj : w.f0.toNat = i := by omega
      have e : (settleStep g w)[i] = addL g[i] w := (List.getElem_eq_iff _).2 (by
        unfold settleStep
        rw [hj, List.getElem?_set_self h2, List.getD_eq_getElem?_getD, List.getElem?_eq_getElem h2]
        rfl)
      rw [e]
      rfl
    · rw [if_neg hi]
      have e : (settleStep g w)[i] = g[i] := (List.getElem_eq_iff _).2 (by
        unfold settleStep
        rw [List.getElem?_set_ne (by omega), List.getElem?_eq_getElem h2])
      rw [e]
/-- In balances that stand in order: what is set stands where the search finds it. -/
theorem setL_ahead (x y m : Int) (l : List S104) (h : ∀ b ∈ l, balLt b ⟨x, y, 0⟩) (hs : ∀ b ∈ l, 0 ≤ b.f1 ∧ b.f1 ≤ 2) (hy : 0 ≤ y ∧ y ≤ 2) (r : List S104) (done : Bool) : setL x y m done (l ++ r) = l ++ setL x y m done r := by
  induction l with
  | nil => rfl
  | cons b l ih =>
    have hb := h b List.mem_cons_self
    have hb2 := hs b List.mem_cons_self
    unfold balLt at hb
    simp only at hb
    rw [List.cons_append, setL_cons, if_neg (by omega), ih (fun b hb => h b (List.mem_cons_of_mem _ hb)) (fun b hb => hs b (List.mem_cons_of_mem _ hb))]
    cases done
    · rw [if_neg Bool.false_ne_true, if_neg (by omega)]
      rfl
    · rw [if_pos rfl]
      rfl
theorem setL_done (x y m : Int) (l : List S104) (h : ∀ b ∈ l, balLt ⟨x, y, 0⟩ b) : setL x y m true l = l := by
  induction l with
  | nil => rfl
  | cons b l ih =>
    have hb := h b List.mem_cons_self
    unfold balLt at hb
    simp only at hb
    rw [setL_cons, if_neg (by omega), if_pos rfl, ih (fun b hb => h b (List.mem_cons_of_mem _ hb))]
theorem setL_behind (x y m : Int) (l : List S104) (h : ∀ b ∈ l, balLt ⟨x, y, 0⟩ b) (hs : ∀ b ∈ l, 0 ≤ b.f1 ∧ b.f1 ≤ 2) (hy : 0 ≤ y ∧ y ≤ 2) : setL x y m false l = ⟨x, y, m⟩ :: l := by
  cases l with
  | nil => rfl
  | cons b l =>
    have hb := h b List.mem_cons_self
    have hb2 := hs b List.mem_cons_self
    unfold balLt at hb
    simp only at hb
    rw [setL_cons, if_neg (by omega), if_neg Bool.false_ne_true, if_pos (by omega), setL_done x y m l (fun b hb => h b (List.mem_cons_of_mem _ hb))]

theorem legFault_shard {s a t m : Int} (h : legFault s a t m = 0) : 0 ≤ s := by
  unfold legFault at h
  split at h
  · next hc => exact hc.1
  · cases h
theorem legs_ok (l : List S86) : ∀ d : Nat, d ≤ l.length → contractFrom l d = 0 → ∀ i : Int, (l.length : Int) - d ≤ i → i < (l.length : Int) → legFault (rd_T86 l i).f0 (rd_T86 l i).f1 (rd_T86 l i).f2 (rd_T86 l i).f3 = 0 := by
  intro d
  induction d with
  | zero => intro _ _ i h0 h1; omega
  | succ d ih =>
    intro hd h i h0 h1
    unfold contractFrom at h
    simp only at h
    split at h
    · next hf =>
      split at h
      · cases h
      · by_cases hi : i = (l.length : Int) - ((d : Int) + 1)
        · rw [hi]
          exact hf
        · exact ih (by omega) h i (by omega) h1
    · next hn => exact absurd h hn
theorem contract_legs {id : Int} {l : List S86} (h : contractFault id l = 0) : (2 ≤ (l.length : Int) ∧ (l.length : Int) ≤ 8) ∧ ∀ i : Int, 0 ≤ i → i < (l.length : Int) → 0 ≤ (rd_T86 l i).f0 := by
  unfold contractFault at h
  split at h
  · split at h
    · next hl => exact ⟨hl, fun i h0 h1 => legFault_shard (legs_ok l l.length (Nat.le_refl _) h i (by omega) h1)⟩
    · cases h
  · cases h
def codeL (n : Int) : Int := if n < 0 then 6 else if n > 1000000000000 then 3 else 0
/-- What a leg's code is, where am tells amounts. -/
def canLeg (am : List S104 → Int → Int → Int) (s : List S104) (w : S86) : Int := codeL (wrap64 (am s w.f1 w.f2 + w.f3))
def canFrom (am : List S104 → Int → Int → Int) (g : List (List S104)) (l : List S86) : Nat → Int
  | 0 => 0
  | d + 1 => (fun w : S86 => if canLeg am (rd_L2 g w.f0) w = 0 then canFrom am g l d else canLeg am (rd_L2 g w.f0) w) (rd_T86 l ((l.length : Int) - ((d : Int) + 1)))
def farLeg (g : List (List S104)) (w : S86) : Bool := decide (w.f0 ≥ (g.length : Int))
def canR (am : List S104 → Int → Int → Int) (g : List (List S104)) (id : Int) (l : List S86) : Int :=
  if contractFault id l = 0 then (if l.any (farLeg g) = true then 4 else canFrom am g l l.length) else contractFault id l
theorem impl_legCode_ev (am : List S104 → Int → Int → Int) (s : List S104) (ham : ∀ x y, Ev (fun k => impl_amountIn.f k s x y) (am s x y)) (w : S86) : Ev (fun k => impl_legCode.f k s w.f0 w.f1 w.f2 w.f3) (canLeg am s w) := by
  unfold impl_legCode.f canLeg codeL
  exact Ev.bind (ham _ _) (Ev.cond (fun _ => Ev.now _) (fun _ => Ev.cond (fun _ => Ev.now _) (fun _ => Ev.now _)))
theorem near_legs {g : List (List S104)} {l : List S86} (h : ¬ l.any (farLeg g) = true) (i : Int) (h0 : 0 ≤ i) (h1 : i < (l.length : Int)) : (rd_T86 l i).f0 < (g.length : Int) := by
  rw [rdLeg_at l i h0 h1]
  have h2 : ∀ w ∈ l, ¬ farLeg g w = true := fun w hw hf => h (List.any_eq_true.2 ⟨w, hw, hf⟩)
  have h3 := h2 _ (List.getElem_mem (show i.toNat < l.length by omega))
  unfold farLeg at h3
  rw [decide_eq_true_iff] at h3
  omega
theorem impl_canSettle_ev (am : List S104 → Int → Int → Int) (g : List (List S104)) (ham : ∀ s ∈ g, ∀ x y, Ev (fun k => impl_amountIn.f k s x y) (am s x y)) (id : Int) (l : List S86) : Ev (fun k => impl_canSettle.f k g id l) (canR am g id l) := by
  unfold impl_canSettle.f canR
  refine Ev.bind (impl_ContractFault_ev id l) (Ev.cond (fun h0 => ?_) (fun _ => Ev.now _))
  obtain ⟨hl, hsh⟩ := contract_legs h0
  refine Ev.bind (a := l.any (farLeg g)) ?_ (Ev.cond (fun _ => Ev.now _) (fun hn => ?_))
  · unfold CL_100.f
    exact @containsLeg_ev (CL_100.p g) (farLeg g) (fun x => rfl) l (by omega)
  · have go : ∀ d : Nat, d ≤ l.length → Ev (fun k => impl_canSettle.l0 k l (l.length : Int) ((l.length : Int) - d) g) (canFrom am g l d) := by
      intro d
      induction d with
      | zero => intro _; exact Ev.step (fun k => impl_canSettle.l0.eq_2 ..) (Ev.neg (by omega) (Ev.now _))
      | succ d ih =>
        intro hd
        have h := ih (by omega)
        have q0 := hsh ((l.length : Int) - ((d + 1 : Nat) : Int)) (by omega) (by omega)
        have q1 := near_legs hn ((l.length : Int) - ((d + 1 : Nat) : Int)) (by omega) (by omega)
        refine Ev.step (fun k => impl_canSettle.l0.eq_2 ..) (Ev.pos (by omega) (Ev.pos (by omega) (Ev.pos (by omega) (Ev.pos q0 (Ev.pos q1 (Ev.bind (impl_legCode_ev am _ (ham _ (rdBB_mem g _ q0 (by omega))) _) ?_))))))
        rw [w64 (x := (l.length : Int) - ((d + 1 : Nat) : Int) + 1) (by omega) (by omega), show (l.length : Int) - ((d + 1 : Nat) : Int) + 1 = (l.length : Int) - d by omega]
        rw [show ((d + 1 : Nat) : Int) = (d : Int) + 1 by omega]
        unfold canFrom
        exact Ev.cond (fun _ => h) (fun _ => Ev.now _)
    have := go l.length (by omega)
    rw [show (l.length : Int) - (l.length : Nat) = 0 by omega] at this
    exact this
theorem leg_cut (l : List S86) (i : Int) (h0 : 0 ≤ i) (h1 : i < (l.length : Int)) : (l.take (i + 1).toNat).drop i.toNat = [rd_T86 l i] := by
  rw [take_succ_at l i h0 h1]
  exact List.drop_left' (by rw [List.length_take]; omega)
theorem spec_legs1_ev (am : List S104 → Int → Int → Int) (s : List S104) (ham : ∀ x y, Ev (fun k => spec_l2Has.f k s x y) (am s x y)) (w : S86) : Ev (fun k => spec_l2Legs.f k s [w]) (canLeg am s w) := by
  have e0 : rd_T86 [w] 0 = w := rfl
  unfold spec_l2Legs.f canLeg codeL
  refine Ev.step (fun k => spec_l2Legs.l0.eq_2 ..) (Ev.pos (by simp) (Ev.pos (by decide) (Ev.bind (ham _ _) ?_)))
  rw [e0]
  exact Ev.cond (fun _ => Ev.now _) (fun _ => Ev.cond (fun _ => Ev.now _) (fun _ => Ev.step (fun k => spec_l2Legs.l0.eq_2 ..) (Ev.neg (by rw [w64 (by omega) (by omega)]; simp) (Ev.now _))))
theorem spec_can_any (R : Int) (id : Int) (g : List (List S104)) (l : List S86) (hl : (l.length : Int) ≤ 8) (hR : ¬ l.any (farLeg g) = true → Ev (fun k => spec_l2Can.l1 k 0 g id l) R) : ∀ d : Nat, d ≤ l.length → (∀ i : Int, 0 ≤ i → i < (l.length : Int) - d → ¬ farLeg g (rd_T86 l i) = true) → Ev (fun k => spec_l2Can.l0 k ((l.length : Int) - d) g id l) (if l.any (farLeg g) = true then 4 else R) := by
  intro d
  induction d with
  | zero =>
    intro _ hp
    have hn : ¬ l.any (farLeg g) = true := fun hh => by
      obtain ⟨w, hw, hf⟩ := List.any_eq_true.1 hh
      obtain ⟨j, hj, rfl⟩ := List.getElem_of_mem hw
      exact hp (j : Int) (by omega) (by omega) (by rw [rdLeg_at l (j : Int) (by omega) (by omega)]; exact hf)
    rw [if_neg hn]
    exact Ev.step (fun k => spec_l2Can.l0.eq_2 ..) (Ev.neg (by omega) (hR hn))
  | succ d ih =>
    intro hd hp
    refine Ev.step (fun k => spec_l2Can.l0.eq_2 ..) (Ev.pos (by omega) (Ev.pos (by omega) ?_))
    by_cases hf : farLeg g (rd_T86 l ((l.length : Int) - ((d + 1 : Nat) : Int))) = true
    · have hy : l.any (farLeg g) = true := List.any_eq_true.2 ⟨_, by rw [rdLeg_at l _ (by omega) (by omega)]; exact List.getElem_mem _, hf⟩
      rw [if_pos hy]
      exact Ev.pos (of_decide_eq_true hf) (Ev.now _)
    · refine Ev.neg (fun h => hf (decide_eq_true h)) ?_
      rw [w64 (x := (l.length : Int) - ((d + 1 : Nat) : Int) + 1) (by omega) (by omega), show (l.length : Int) - ((d + 1 : Nat) : Int) + 1 = (l.length : Int) - d by omega]
      exact ih (by omega) (fun i h0 h1 => by
        by_cases hi : i = (l.length : Int) - ((d + 1 : Nat) : Int)
        · rw [hi]
          exact hf
        · exact hp i h0 (by omega))
theorem spec_l2Can_ev (am : List S104 → Int → Int → Int) (g : List (List S104)) (ham : ∀ s ∈ g, ∀ x y, Ev (fun k => spec_l2Has.f k s x y) (am s x y)) (id : Int) (l : List S86) : Ev (fun k => spec_l2Can.f k g id l) (canR am g id l) := by
  unfold spec_l2Can.f canR
  refine Ev.bind (spec_ContractFault_ev id l) (Ev.cond (fun h0 => ?_) (fun _ => Ev.now _))
  obtain ⟨hl, hsh⟩ := contract_legs h0
  have hrest : ¬ l.any (farLeg g) = true → Ev (fun k => spec_l2Can.l1 k 0 g id l) (canFrom am g l l.length) := by
    intro hn
    have go : ∀ d : Nat, d ≤ l.length → Ev (fun k => spec_l2Can.l1 k ((l.length : Int) - d) g id l) (canFrom am g l d) := by
      intro d
      induction d with
      | zero => intro _; exact Ev.step (fun k => spec_l2Can.l1.eq_2 ..) (Ev.neg (by omega) (Ev.now _))
      | succ d ih =>
        intro hd
        have h := ih (by omega)
        have q0 := hsh ((l.length : Int) - ((d + 1 : Nat) : Int)) (by omega) (by omega)
        have q1 := near_legs hn ((l.length : Int) - ((d + 1 : Nat) : Int)) (by omega) (by omega)
        have e1 : wrap64 ((l.length : Int) - ((d + 1 : Nat) : Int) + 1) = (l.length : Int) - ((d + 1 : Nat) : Int) + 1 := w64 (by omega) (by omega)
        refine Ev.step (fun k => spec_l2Can.l1.eq_2 ..) ?_
        rw [e1, leg_cut l _ (by omega) (by omega)]
        refine Ev.pos (by omega) (Ev.pos (by omega) (Ev.pos q0 (Ev.pos q1 (Ev.pos (by omega) (Ev.pos (by omega) (Ev.bind (spec_legs1_ev am _ (ham _ (rdBB_mem g _ q0 (by omega))) _) ?_))))))
        rw [show (l.length : Int) - ((d + 1 : Nat) : Int) + 1 = (l.length : Int) - d by omega]
        rw [show ((d + 1 : Nat) : Int) = (d : Int) + 1 by omega]
        unfold canFrom
        exact Ev.cond (fun _ => h) (fun _ => Ev.now _)
    have := go l.length (by omega)
    rw [show (l.length : Int) - (l.length : Nat) = 0 by omega] at this
    exact this
  have := spec_can_any _ id g l hl.2 hrest l.length (Nat.le_refl _) (fun i h0 h1 => by omega)
  rw [show (l.length : Int) - (l.length : Nat) = 0 by omega] at this
  exact this
open Classical in
/-- Where the search stops. -/
theorem search_pos (l : List S104) (x y : Int) (hl : l.length ≤ 1000000) (hp : l.Pairwise balLt) : ∀ (d lo hi : Nat), hi - lo ≤ d → lo ≤ hi → hi ≤ l.length → (∀ (j : Nat) (h : j < l.length), j < lo → balLt (l[j]'h) (placeB x y)) → (∀ (j : Nat) (h : j < l.length), hi ≤ j → ¬ balLt (l[j]'h) (placeB x y)) →
    ∃ i : Nat, ∃ f : Bool, Ev (fun k => slices_BinarySearchFunc_impl_Balance.l0 k l (l.length : Int) (lo : Int) (hi : Int) x y 0) ((i : Int), f) ∧ i ≤ l.length ∧ (∀ (j : Nat) (h : j < l.length), j < i → balLt (l[j]'h) (placeB x y)) ∧ (f = true → ∃ h : i < l.length, atPlace x y (l[i]'h)) ∧ (f = false → ∀ (j : Nat) (h : j < l.length), i ≤ j → balLt (placeB x y) (l[j]'h)) := by
  have hpw := List.pairwise_iff_getElem.1 hp
  intro d
  induction d with
  | zero =>
    intro lo hi hd h1 h2 ha hb
    obtain rfl : lo = hi := by omega
    by_cases hn : lo < l.length
    · obtain ⟨c, c1, c2, hc⟩ := comparePlaces_ev (l[lo]'hn) (placeB x y)
      have hr := rdBalance_at l (lo : Int) (by omega) (by omega)
      have hlo := hb lo hn (Nat.le_refl _)
      refine ⟨lo, (c == 0), Ev.step (fun k => slices_BinarySearchFunc_impl_Balance.l0.eq_2 ..) (Ev.neg (by omega) (Ev.pos (by omega) (Ev.pos (by omega) (Ev.pos (by omega) ?_)))), h2, ha, fun hf => ⟨hn, ?_⟩, fun hf j hj hij => ?_⟩
      · rw [hr]
        exact Ev.bind hc (Ev.now _)
      · have hc0 : c = 0 := by simpa using hf
        have h3 : ¬ balLt (placeB x y) (l[lo]'hn) := fun h => by have := c2.2 h; omega
        unfold balLt placeB at hlo h3
        unfold atPlace
        simp only at hlo h3
        omega
      · have hc0 : c ≠ 0 := by simpa using hf
        have h3 : balLt (placeB x y) (l[lo]'hn) := c2.1 (by have := c1.2 hlo; omega)
        rcases Nat.lt_or_ge lo j with hjl | hjl
        · exact balLt_trans h3 (hpw lo j hn hj hjl)
        · obtain rfl : j = lo := by omega
          exact h3
    · exact ⟨lo, false, Ev.step (fun k => slices_BinarySearchFunc_impl_Balance.l0.eq_2 ..) (Ev.neg (by omega) (Ev.neg (by omega) (Ev.now _))), h2, ha, fun hf => absurd hf (by decide), fun _ j hj hij => absurd hj (by omega)⟩
  | succ d ih =>
    intro lo hi hd h1 h2 ha hb
    by_cases hlt : lo < hi
    · have hmid : wrap64 ((IntKind.u64.wrap (wrap64 ((lo : Int) + (hi : Int)))) / 2) = (((lo + hi) / 2 : Nat) : Int) := by
        rw [w64 (x := (lo : Int) + (hi : Int)) (by omega) (by omega)]
        have hw : IntKind.u64.wrap ((lo : Int) + (hi : Int)) = (lo : Int) + (hi : Int) := by
          show ((lo : Int) + (hi : Int)) % 18446744073709551616 = _
          omega
        rw [hw, w64 (by omega) (by omega)]
        omega
      have hm1 : lo ≤ (lo + hi) / 2 := by omega
      have hm2 : (lo + hi) / 2 < hi := by omega
      generalize (lo + hi) / 2 = m at hmid hm1 hm2
      have hml : m < l.length := by omega
      obtain ⟨c, c1, c2, hc⟩ := comparePlaces_ev (l[m]'hml) (placeB x y)
      have hr := rdBalance_at l (m : Int) (by omega) (by omega)
      by_cases hcn : c < 0
      · have hbl : balLt (l[m]'hml) (placeB x y) := Classical.byContradiction fun h => by have := c1.2 h; omega
        obtain ⟨i, f, he, hf⟩ := ih (m + 1) hi (by omega) (by omega) h2 (fun j hj hjm => by
          rcases Nat.lt_or_ge j m with h | h
          · exact balLt_trans (hpw j m hj hml h) hbl
          · obtain rfl : j = m := by omega
            exact hbl) hb
        refine ⟨i, f, Ev.step (fun k => slices_BinarySearchFunc_impl_Balance.l0.eq_2 ..) (Ev.pos (by omega) ?_), hf⟩
        rw [hmid, w64 (x := (m : Int) + 1) (by omega) (by omega)]
        refine Ev.pos (by omega) (Ev.pos (by omega) ?_)
        rw [hr]
        exact Ev.bind hc (Ev.pos hcn he)
      · have hbl : ¬ balLt (l[m]'hml) (placeB x y) := c1.1 (by omega)
        obtain ⟨i, f, he, hf⟩ := ih lo m (by omega) (by omega) (by omega) ha (fun j hj hjm => by
          rcases Nat.lt_or_ge m j with h | h
          · exact fun hx => hbl (balLt_trans (hpw m j hml hj h) hx)
          · obtain rfl : j = m := by omega
            exact hbl)
        refine ⟨i, f, Ev.step (fun k => slices_BinarySearchFunc_impl_Balance.l0.eq_2 ..) (Ev.pos (by omega) ?_), hf⟩
        rw [hmid]
        refine Ev.pos (by omega) (Ev.pos (by omega) ?_)
        rw [hr]
        exact Ev.bind hc (Ev.neg hcn he)
    · exact ih lo hi (by omega) h1 h2 ha hb
/-- The balances ahead of a place, what stands at it, the balances behind it. -/
theorem added_parts (l : List S104) (x y : Int) (hl : l.length ≤ 1000000) (hp : l.Pairwise balLt) : ∃ (p q : List S104) (o : Option S104),
    l = p ++ o.toList ++ q ∧ Ev (fun k => slices_BinarySearchFunc_impl_Balance.f k l x y 0) ((p.length : Int), o.isSome) ∧ (∀ b ∈ p, balLt b ⟨x, y, 0⟩) ∧ (∀ b ∈ q, balLt ⟨x, y, 0⟩ b) ∧ (∀ b, o = some b → atPlace x y b) := by
  obtain ⟨i, f, he, hi, h1, h2, h3⟩ := search_pos l x y hl hp l.length 0 l.length (by omega) (by omega) (by omega) (by omega) (by omega)
  have hpw := List.pairwise_iff_getElem.1 hp
  have htl : (l.take i).length = i := by rw [List.length_take]; omega
  have hta : ∀ b ∈ l.take i, balLt b ⟨x, y, 0⟩ := fun b hb => by
    obtain ⟨j, hj, rfl⟩ := List.getElem_of_mem hb
    rw [List.getElem_take]
    exact h1 j (by omega) (by omega)
  cases f with
  | true =>
    obtain ⟨hlt, hat⟩ := h2 rfl
    refine ⟨l.take i, l.drop (i + 1), some l[i], ?_, ?_, hta, fun b hb => ?_, fun b hb => by cases hb; exact hat⟩
    · rw [Option.toList_some, List.append_assoc, List.singleton_append, ← List.drop_eq_getElem_cons hlt, List.take_append_drop]
    · rw [htl]
      exact he
    · obtain ⟨j, hj, rfl⟩ := List.getElem_of_mem hb
      rw [List.getElem_drop]
      rw [List.length_drop] at hj
      have := hpw i (i + 1 + j) hlt (by omega) (by omega)
      obtain ⟨a1, a2⟩ := hat
      unfold balLt at *
      simp only
      omega
  | false =>
    refine ⟨l.take i, l.drop i, none, ?_, ?_, hta, fun b hb => ?_, fun b hb => by cases hb⟩
    · rw [Option.toList_none, List.append_nil, List.take_append_drop]
    · rw [htl]
      exact he
    · obtain ⟨j, hj, rfl⟩ := List.getElem_of_mem hb
      rw [List.getElem_drop]
      rw [List.length_drop] at hj
      exact h3 rfl (i + j) (by omega) (by omega)
theorem amount_skip (x y : Int) (p r : List S104) (h : ∀ b ∈ p, ¬ atPlace x y b) : amountL x y (p ++ r) = amountL x y r := by
  induction p with
  | nil => rfl
  | cons b p ih => rw [List.cons_append, amountL_cons, if_neg (h b List.mem_cons_self), ih (fun b hb => h b (List.mem_cons_of_mem _ hb))]
theorem lt_off {x y : Int} {b : S104} (h : balLt b ⟨x, y, 0⟩ ∨ balLt ⟨x, y, 0⟩ b) : ¬ atPlace x y b := by
  rintro ⟨a1, a2⟩
  unfold balLt at h
  simp only at h
  omega
/-- What is added, told by the parts. -/
theorem addL_parts (p q : List S104) (o : Option S104) (w : S86) (h1 : ∀ b ∈ p, balLt b ⟨w.f1, w.f2, 0⟩) (h2 : ∀ b ∈ q, balLt ⟨w.f1, w.f2, 0⟩ b) (h3 : ∀ b, o = some b → atPlace w.f1 w.f2 b)
    (hp : ∀ b ∈ p, 0 ≤ b.f1 ∧ b.f1 ≤ 2) (hq : ∀ b ∈ q, 0 ≤ b.f1 ∧ b.f1 ≤ 2) (hy : 0 ≤ w.f2 ∧ w.f2 ≤ 2) :
    amountL w.f1 w.f2 (p ++ o.toList ++ q) = (o.map (·.f2)).getD 0 ∧
    addL (p ++ o.toList ++ q) w = p ++ (if (o.map (·.f2)).getD 0 + w.f3 = 0 then [] else [⟨w.f1, w.f2, (o.map (·.f2)).getD 0 + w.f3⟩]) ++ q := by
  have e : amountL w.f1 w.f2 (p ++ o.toList ++ q) = (o.map (·.f2)).getD 0 := by
    rw [List.append_assoc, amount_skip _ _ _ _ (fun b hb => lt_off (.inl (h1 b hb)))]
    cases o with
    | none =>
      have := amount_skip w.f1 w.f2 q [] (fun b hb => lt_off (.inr (h2 b hb)))
      rw [List.append_nil] at this
      exact this
    | some b => rw [Option.toList_some, List.singleton_append, amountL_cons, if_pos (h3 b rfl)]; rfl
  refine ⟨e, ?_⟩
  unfold addL
  rw [e]
  generalize (o.map (·.f2)).getD 0 + w.f3 = m
  rw [List.append_assoc, setL_ahead _ _ _ _ h1 hp hy, List.append_assoc]
  congr 1
  have e2 : ∀ done, setL w.f1 w.f2 m done (o.toList ++ q) = setL w.f1 w.f2 m done q := fun done => by
    cases o with
    | none => rfl
    | some b =>
      have hb := h3 b rfl
      unfold atPlace at hb
      rw [Option.toList_some, List.singleton_append, setL_cons, if_pos hb]
  rw [e2]
  by_cases hm : m = 0
  · rw [if_pos hm, show (m == 0) = true by simpa using hm, setL_done _ _ _ _ h2]
    rfl
  · rw [if_neg hm, show (m == 0) = false by simpa using hm, setL_behind _ _ _ _ h2 hq hy]
    rfl
theorem impl_added_ev (n : Int) (hn0 : 0 ≤ n) (hn : n ≤ 1000000000000000) (l : List S104) (hs : smallB n l) (hl : l.length ≤ 100000) (hp : l.Pairwise balLt) (w : S86) (hw : smallG w) :
    Ev (fun k => impl_added.f k l w.f0 w.f1 w.f2 w.f3) (addL l w) := by
  obtain ⟨p, q, o, hpq, he, h1, h2, h3⟩ := added_parts l w.f1 w.f2 (by omega) hp
  obtain ⟨ea, el⟩ := addL_parts p q o w h1 h2 h3 (fun b hb => (hs b (by rw [hpq]; simp [hb])).2.1) (fun b hb => (hs b (by rw [hpq]; simp [hb])).2.1) hw.2.1
  have hlen : p.length + o.toList.length + q.length ≤ 100000 := by rw [hpq] at hl; simp only [List.length_append] at hl; omega
  unfold impl_added.f
  have hc : slices_Clone_impl_Balance.f l = some l := by
    unfold slices_Clone_impl_Balance.f
    rw [Option.bind_some, if_pos (by simp; omega), List.nil_append]
  refine Ev.bind (Ev.is hc) (Ev.bind he ?_)
  have hw1 : wrap64 ((p.length : Int) + 1) = (p.length : Int) + 1 := w64 (by omega) (by omega)
  have hset : ∀ (a c : S104), (p ++ a :: q).set ((p.length : Int)).toNat c = p ++ c :: q := fun a c => by
    rw [Int.toNat_natCast, List.set_append_right _ _ (Nat.le_refl _), Nat.sub_self, List.set_cons_zero]
  have hrd : ∀ (a : S104), rd_T104 (p ++ a :: q) (p.length : Int) = a := fun a => by
    rw [rdBalance_at _ _ (by omega) (by simp; omega)]
    simp
  have hdel : ∀ (a : S104), slices_Delete_impl_Balance.f (p ++ a :: q) (p.length : Int) ((p.length : Int) + 1) = some (p ++ q) := fun a => by
    unfold slices_Delete_impl_Balance.f
    rw [if_pos (by omega), if_pos (by simp; omega), if_pos rfl, Int.toNat_natCast, List.take_left, List.drop_append, List.drop_of_length_le (by omega), show p.length + 1 - p.length = 1 by omega]
    simp
  rw [hpq, el]
  cases o with
  | some b =>
    obtain ⟨b1, b2⟩ := h3 b rfl
    have hb := hs b (by rw [hpq]; simp)
    have hq2 : p ++ (some b).toList ++ q = p ++ b :: q := by simp
    rw [hq2]
    have hw2 : wrap64 (b.f2 + w.f3) = b.f2 + w.f3 := w64 (by have := hb.2.2; have := hw.2.2; omega) (by have := hb.2.2; have := hw.2.2; omega)
    refine Ev.pos rfl (Ev.pos (by omega) (Ev.pos (by simp; omega) ?_))
    rw [hrd b, hw2, hset, hw1]
    refine Ev.let ?_
    show Ev _ (p ++ (if b.f2 + w.f3 = 0 then [] else [⟨w.f1, w.f2, b.f2 + w.f3⟩]) ++ q)
    by_cases hm : b.f2 + w.f3 = 0
    · have e3 : p ++ (if b.f2 + w.f3 = 0 then [] else [(⟨w.f1, w.f2, b.f2 + w.f3⟩ : S104)]) ++ q = p ++ q := by rw [if_pos hm, List.append_nil]
      rw [e3]
      exact Ev.pos hm (Ev.bind (Ev.is (hdel _)) (Ev.now _))
    · have e3 : p ++ (if b.f2 + w.f3 = 0 then [] else [(⟨w.f1, w.f2, b.f2 + w.f3⟩ : S104)]) ++ q = p ++ ⟨b.f0, b.f1, b.f2 + w.f3⟩ :: q := by rw [if_neg hm, b1, b2, List.append_assoc]; rfl
      rw [e3]
      exact Ev.neg hm (Ev.now _)
  | none =>
    have hq2 : p ++ (none : Option S104).toList ++ q = p ++ q := by simp
    rw [hq2]
    have hins : slices_Insert_impl_Balance.f (p ++ q) (p.length : Int) [(⟨w.f1, w.f2, 0⟩ : S104)] = some (p ++ (⟨w.f1, w.f2, 0⟩ : S104) :: q) := by
      unfold slices_Insert_impl_Balance.f
      have hle : (p ++ q).length = p.length + q.length := List.length_append
      have h1' : ([(⟨w.f1, w.f2, 0⟩ : S104)]).length = 1 := rfl
      rw [if_pos (by omega), if_pos (by omega), if_pos (by omega), if_pos h1', Int.toNat_natCast, List.take_left, List.drop_left, List.append_assoc]
      rfl
    have hw2 : wrap64 (0 + w.f3) = w.f3 := by rw [Int.zero_add]; exact w64 (by have := hw.2.2; omega) (by have := hw.2.2; omega)
    refine Ev.neg (by simp) (Ev.bind (Ev.is hins) (Ev.pos (by omega) (Ev.pos (by simp; omega) ?_)))
    rw [hrd, hset, hw1]
    show Ev _ (p ++ (if 0 + w.f3 = 0 then [] else [⟨w.f1, w.f2, 0 + w.f3⟩]) ++ q)
    simp only [hw2]
    refine Ev.let ?_
    rw [Int.zero_add]
    by_cases hm : w.f3 = 0
    · have e3 : p ++ (if w.f3 = 0 then [] else [(⟨w.f1, w.f2, w.f3⟩ : S104)]) ++ q = p ++ q := by rw [if_pos hm, List.append_nil]
      rw [e3]
      exact Ev.pos hm (Ev.bind (Ev.is (hdel _)) (Ev.now _))
    · have e3 : p ++ (if w.f3 = 0 then [] else [(⟨w.f1, w.f2, w.f3⟩ : S104)]) ++ q = p ++ ⟨w.f1, w.f2, w.f3⟩ :: q := by rw [if_neg hm, List.append_assoc]; rfl
      rw [e3]
      exact Ev.neg hm (Ev.now _)
/-- Balances that stand in order still do. -/
theorem addL_sorted (l : List S104) (hp : l.Pairwise balLt) (hl : l.length ≤ 1000000) (hs : ∀ b ∈ l, 0 ≤ b.f1 ∧ b.f1 ≤ 2) (w : S86) (hy : 0 ≤ w.f2 ∧ w.f2 ≤ 2) : (addL l w).Pairwise balLt := by
  obtain ⟨p, q, o, hpq, _, h1, h2, h3⟩ := added_parts l w.f1 w.f2 hl hp
  obtain ⟨_, el⟩ := addL_parts p q o w h1 h2 h3 (fun b hb => hs b (by rw [hpq]; simp [hb])) (fun b hb => hs b (by rw [hpq]; simp [hb])) hy
  have hpq2 : (p ++ q).Pairwise balLt := by
    refine List.Pairwise.sublist ?_ hp
    rw [hpq, List.append_assoc]
    exact List.Sublist.append (List.Sublist.refl _) (List.sublist_append_right _ _)
  rw [hpq, el]
  obtain ⟨q1, q2, q3⟩ := List.pairwise_append.1 hpq2
  split
  · rw [List.append_nil]
    exact hpq2
  · rw [List.append_assoc, List.singleton_append]
    refine List.pairwise_append.2 ⟨q1, List.pairwise_cons.2 ⟨fun b hb => ?_, q2⟩, fun a ha b hb => ?_⟩
    · have := h2 b hb
      unfold balLt at *
      simpa using this
    · rcases List.mem_cons.1 hb with rfl | hb
      · have := h1 a ha
        unfold balLt at *
        simpa using this
      · exact q3 a ha b hb
/-- A ledger that can be settled: in order, of amounts no more than n. -/
def goodL (n : Int) (m : Nat) (g : List (List S104)) : Prop := ∀ s ∈ g, smallB n s ∧ s.length ≤ m ∧ s.Pairwise balLt
theorem goodL_mono {n n' : Int} {m m' : Nat} {g : List (List S104)} (h : goodL n m g) (hn : n ≤ n') (hm : m ≤ m') : goodL n' m' g := fun s hs => by
  obtain ⟨a, b, c⟩ := h s hs
  exact ⟨fun x hx => by have := a x hx; exact ⟨this.1, this.2.1, by omega, by omega⟩, by omega, c⟩
theorem goodL_step {n : Int} {m : Nat} {g : List (List S104)} (h : goodL n m g) (h0 : 0 ≤ n) (hm : m ≤ 1000000) (w : S86) (hw : smallG w) : goodL (n + 1000000000000) (m + 1) (settleStep g w) := fun s hs => by
  unfold settleStep at hs
  rcases List.mem_or_eq_of_mem_set hs with hs | rfl
  · exact goodL_mono h (by omega) (by omega) s hs
  · by_cases hlt : w.f0.toNat < g.length
    · rw [List.getD_eq_getElem?_getD, List.getElem?_eq_getElem hlt, Option.getD_some]
      obtain ⟨a, b, c⟩ := h _ (List.getElem_mem hlt)
      have := addL_len g[w.f0.toNat] w
      exact ⟨addL_small n h0 _ a w hw, by omega, addL_sorted _ c (by omega) (fun x hx => (a x hx).2.1) w hw.2.1⟩
    · rw [List.set_eq_of_length_le (by omega)] at hs
      exact goodL_mono h (by omega) (by omega) _ hs
theorem impl_copyLedger_ev (g : List (List S104)) (hg : g.length ≤ 1000000) (hb : ∀ s ∈ g, s.length ≤ 1000000) : Ev (fun k => impl_copyLedger.f k g) g := by
  unfold impl_copyLedger.f
  refine Ev.upto1 (fun k (x : List (List S104)) i => impl_copyLedger.l0 k g (g.length : Int) i x) g.length (by omega) (fun i x => x = g.take i.toNat) g (fun i x h0 h1 hx => .inl ?_) (fun x hx => ?_) 0 [] (by omega) (by omega) rfl
  · have hlt : i.toNat < g.length := by omega
    have hr : rd_L2 g i = g[i.toNat] := rdBB (List.getElem?_eq_getElem hlt)
    have hc : slices_Clone_impl_Balance.f g[i.toNat] = some g[i.toNat] := by
      have := hb _ (List.getElem_mem hlt)
      unfold slices_Clone_impl_Balance.f
      rw [Option.bind_some, if_pos (by simp; omega), List.nil_append]
    have hxl : x.length ≤ 1000000 := by rw [hx, List.length_take]; omega
    refine ⟨x ++ [g[i.toNat]], ?_, fun h => Ev.step (fun k => impl_copyLedger.l0.eq_2 ..) (Ev.pos h1 (Ev.pos h0 (Ev.pos h1 ?_)))⟩
    · rw [show (i + 1).toNat = i.toNat + 1 by omega, List.take_add_one, ← hx, List.getElem?_eq_getElem hlt]
      rfl
    · rw [hr]
      exact Ev.bind (Ev.is hc) (Ev.pos (by omega) h)
  · rw [show ((g.length : Int)).toNat = g.length by omega, List.take_length] at hx
    rw [hx]
    exact Ev.step (fun k => impl_copyLedger.l0.eq_2 ..) (Ev.neg (by omega) (Ev.now _))
theorem impl_settled_loop (l : List S86) (hl : l.length ≤ 8) (hw : ∀ w ∈ l, smallG w) : ∀ (d : Nat) (g : List (List S104)) (n : Int) (m : Nat), d ≤ l.length → 0 ≤ n → n + 1000000000000 * (d : Int) ≤ 1000000000000000 → m + d ≤ 100000 → goodL n m g → (∀ w ∈ l, 0 ≤ w.f0 ∧ w.f0 < (g.length : Int)) →
    Ev (fun k => impl_settled.l0 k l (l.length : Int) ((l.length : Int) - d) g) ((l.drop (l.length - d)).foldl settleStep g) := by
  intro d
  induction d with
  | zero =>
    intro g n m _ _ _ _ _ _
    rw [Nat.sub_zero, List.drop_length]
    exact Ev.step (fun k => impl_settled.l0.eq_2 ..) (Ev.neg (by omega) (Ev.now _))
  | succ d ih =>
    intro g n m hd h0 hn hm hg hn2
    have hlt : l.length - (d + 1) < l.length := by omega
    have hi : (l.length : Int) - ((d + 1 : Nat) : Int) = ((l.length - (d + 1) : Nat) : Int) := by omega
    have hr : rd_T86 l ((l.length : Int) - ((d + 1 : Nat) : Int)) = l[l.length - (d + 1)] := by rw [hi]; exact rdLeg_at l _ (by omega) (by omega)
    have hmem := List.getElem_mem hlt
    have hwg := hw _ hmem
    have hng := hn2 _ hmem
    have hgs : l[l.length - (d + 1)].f0.toNat < g.length := by omega
    have hs := hg _ (List.getElem_mem hgs)
    have hrb : rd_L2 g l[l.length - (d + 1)].f0 = g[l[l.length - (d + 1)].f0.toNat] := rdBB (List.getElem?_eq_getElem hgs)
    have hst : settleStep g l[l.length - (d + 1)] = g.set l[l.length - (d + 1)].f0.toNat (addL g[l[l.length - (d + 1)].f0.toNat] l[l.length - (d + 1)]) := by
      unfold settleStep
      rw [List.getD_eq_getElem?_getD, List.getElem?_eq_getElem hgs]
      rfl
    have ih := ih (settleStep g l[l.length - (d + 1)]) (n + 1000000000000) (m + 1) (by omega) (by omega) (by omega) (by omega) (goodL_step hg h0 (by omega) _ hwg) (fun w hw => by rw [hst, List.length_set]; exact hn2 w hw)
    rw [List.drop_eq_getElem_cons hlt, List.foldl_cons, show l.length - (d + 1) + 1 = l.length - d by omega]
    refine Ev.step (fun k => impl_settled.l0.eq_2 ..) (Ev.pos (by omega) (Ev.pos (by omega) (Ev.pos (by omega) ?_)))
    rw [hr, w64 (x := (l.length : Int) - ((d + 1 : Nat) : Int) + 1) (by omega) (by omega), show (l.length : Int) - ((d + 1 : Nat) : Int) + 1 = (l.length : Int) - (d : Int) by omega]
    refine Ev.pos hng.1 (Ev.pos hng.2 ?_)
    rw [hrb]
    have hadd := impl_added_ev n h0 (by omega) _ hs.1 (by omega) hs.2.2 _ hwg
    refine Ev.bind hadd ?_
    rw [← hst]
    exact ih
theorem impl_settled_ev (g : List (List S104)) (n : Int) (m : Nat) (h0 : 0 ≤ n) (hn : n ≤ 900000000000000) (hm : m ≤ 10000) (hgl : g.length ≤ 1000) (hg : goodL n m g) (id : Int) (l : List S86) (hl : l.length ≤ 8) (hw : ∀ w ∈ l, smallG w) (hn2 : ∀ w ∈ l, 0 ≤ w.f0 ∧ w.f0 < (g.length : Int)) :
    Ev (fun k => impl_settled.f k g id l) (settleL g l) := by
  unfold impl_settled.f
  have := impl_settled_loop l hl hw l.length g n m (Nat.le_refl _) h0 (by omega) (by omega) hg hn2
  rw [Nat.sub_self, List.drop_zero, Int.sub_self, settle_seq l g hn2] at this
  exact Ev.bind (impl_copyLedger_ev g (by omega) (fun s hs => by have := (hg s hs).2.1; omega)) this

theorem contract_small {id : Int} {l : List S86} (h : contractFault id l = 0) : l.length ≤ 8 ∧ ∀ w ∈ l, smallG w ∧ 0 ≤ w.f0 ∧ w.f0 ≤ 2 ∧ w.f3 ≠ 0 := by
  obtain ⟨hl, _⟩ := contract_legs h
  unfold contractFault at h
  split at h
  · refine ⟨by omega, fun w hw => ?_⟩
    obtain ⟨i, hi, rfl⟩ := List.getElem_of_mem hw
    have hf := legs_ok l l.length (Nat.le_refl _) h (i : Int) (by omega) (by omega)
    rw [rdLeg_at l (i : Int) (by omega) (by omega)] at hf
    simp only [Int.toNat_natCast] at hf
    unfold legFault at hf
    split at hf
    · next hc =>
      split at hf
      · cases hf
      · next hz => exact ⟨⟨⟨hc.2.2.1, hc.2.2.2.1⟩, ⟨hc.2.2.2.2.1, hc.2.2.2.2.2.1⟩, hc.2.2.2.2.2.2⟩, hc.1, hc.2.1, hz⟩
    · cases hf
  · cases h
theorem can_parts {am : List S104 → Int → Int → Int} {g : List (List S104)} {id : Int} {l : List S86} (h : canR am g id l = 0) : contractFault id l = 0 ∧ (∀ w ∈ l, w.f0 < (g.length : Int)) ∧ canFrom am g l l.length = 0 := by
  unfold canR at h
  split at h
  · next hc =>
    split at h
    · cases h
    · next hn =>
      refine ⟨hc, fun w hw => ?_, h⟩
      have : ¬ farLeg g w = true := fun hf => hn (List.any_eq_true.2 ⟨w, hw, hf⟩)
      unfold farLeg at this
      rw [decide_eq_true_iff] at this
      omega
  · next hn => exact absurd h hn
theorem ledger_good {g : List (List S104)} (h : ledgerFault g = 0) : g.length ≤ 3 ∧ goodL 1000000000000 18 g := by
  obtain ⟨h1, h2⟩ := ledger_sorted g h
  refine ⟨h1, fun s hs => ?_⟩
  obtain ⟨a, b, c⟩ := h2 s hs
  refine ⟨fun x hx => ?_, a, c⟩
  have := b x hx
  unfold balOk at this
  exact ⟨by omega, by omega, by omega, by omega⟩
theorem rd_con (l : List S40) (i : Int) (h0 : 0 ≤ i) (h1 : i < (l.length : Int)) : rd_T40 l i = l[i.toNat]'(by omega) := by
  unfold rd_T40
  rw [List.getD_eq_getElem?_getD, List.getElem?_eq_getElem (by omega)]
  rfl
/-- One contract behind the others: its outcome, the ledger then. -/
noncomputable def nextR (s : List Int × List (List S104)) (c : S40) : List Int × List (List S104) := if canR (fun s x y => amountL x y s) s.2 c.f0 c.f1 = 0 then (s.1 ++ [1], settleL s.2 c.f1) else (s.1 ++ [2], s.2)
/-- What SettleAll tells. -/
noncomputable def settleAllR (g : List (List S104)) (l : List S40) : Int × List Int × List (List S104) :=
  if ledgerFault g = 0 then (if (l.length : Int) > 100 then (2, [], []) else (0, l.foldl nextR ([], g))) else (ledgerFault g, [], [])
theorem goodL_steps (n : Int) (m : Nat) (l : List S86) : ∀ (g : List (List S104)) (n : Int) (m : Nat), goodL n m g → 0 ≤ n → m + l.length ≤ 1000000 → (∀ w ∈ l, smallG w) → goodL (n + 1000000000000 * (l.length : Int)) (m + l.length) (l.foldl settleStep g) := by
  induction l with
  | nil => intro g n m h _ _ _; simpa using h
  | cons w l ih =>
    intro g n m h h0 hm hw
    rw [List.length_cons] at hm
    have := ih (settleStep g w) (n + 1000000000000) (m + 1) (goodL_step h h0 (by omega) w (hw w List.mem_cons_self)) (by omega) (by omega) (fun v hv => hw v (List.mem_cons_of_mem _ hv))
    rw [List.foldl_cons, List.length_cons]
    exact goodL_mono this (by omega) (by omega)
theorem goodL_settle {n : Int} {m : Nat} {g : List (List S104)} (h : goodL n m g) (h0 : 0 ≤ n) (hm : m ≤ 10000) (id : Int) (l : List S86) (hc : canR (fun s x y => amountL x y s) g id l = 0) :
    goodL (n + 8000000000000) (m + 8) (settleL g l) ∧ (settleL g l).length = g.length := by
  obtain ⟨hc1, hc2, _⟩ := can_parts hc
  obtain ⟨hl, hw⟩ := contract_small hc1
  have hq := settle_seq l g (fun w h => ⟨(hw w h).2.1, hc2 w h⟩)
  have := goodL_steps n m l g n m h h0 (by omega) (fun w h => (hw w h).1)
  rw [hq] at this
  exact ⟨goodL_mono this (by omega) (by omega), by unfold settleL; rw [List.length_mapIdx]⟩
/-- A ledger behind i contracts. -/
def farL (i : Nat) (g : List (List S104)) : Prop := g.length ≤ 3 ∧ goodL (1000000000000 + 8000000000000 * (i : Int)) (18 + 8 * i) g
theorem nextR_far {i : Nat} (hi : i ≤ 100) {s : List Int × List (List S104)} (h : farL i s.2) (c : S40) : farL (i + 1) (nextR s c).2 ∧ (nextR s c).1.length = s.1.length + 1 := by
  obtain ⟨h1, h2⟩ := h
  unfold nextR
  split
  · next hc =>
    obtain ⟨a, b⟩ := goodL_settle h2 (by omega) (by omega) c.f0 c.f1 hc
    exact ⟨⟨by show (settleL s.2 c.f1).length ≤ 3; omega, goodL_mono a (by omega) (by omega)⟩, by simp⟩
  · exact ⟨⟨h1, goodL_mono h2 (by omega) (by omega)⟩, by simp⟩
theorem nextR_len (l : List S40) : ∀ (i : Nat) (s : List Int × List (List S104)), farL i s.2 → i + l.length ≤ 101 → (l.foldl nextR s).1.length = s.1.length + l.length ∧ farL (i + l.length) (l.foldl nextR s).2 := by
  induction l with
  | nil => intro i s h _; exact ⟨rfl, h⟩
  | cons c l ih =>
    intro i s h hl
    rw [List.length_cons] at hl
    obtain ⟨a, b⟩ := nextR_far (by omega) h c
    obtain ⟨p, q⟩ := ih (i + 1) (nextR s c) a (by omega)
    rw [List.foldl_cons, List.length_cons]
    exact ⟨by omega, by rw [show i + (l.length + 1) = i + 1 + l.length by omega]; exact q⟩
theorem far_can {i : Nat} (hi : i ≤ 100) {g : List (List S104)} (h : farL i g) (id : Int) (l : List S86) :
    Ev (fun k => impl_canSettle.f k g id l) (canR (fun s x y => amountL x y s) g id l) ∧ Ev (fun k => spec_l2Can.f k g id l) (canR (fun s x y => amountL x y s) g id l) :=
  ⟨impl_canSettle_ev (fun s x y => amountL x y s) g (fun s hm x y => by obtain ⟨_, q1, q3⟩ := h.2 s hm; exact impl_amountIn_ev s x y (by omega) q3) id l,
   spec_l2Can_ev (fun s x y => amountL x y s) g (fun s hm x y => by obtain ⟨_, q1, _⟩ := h.2 s hm; exact spec_l2Has_ev s x y (by omega)) id l⟩
theorem far_settle {i : Nat} (hi : i ≤ 100) {g : List (List S104)} (h : farL i g) (id : Int) (l : List S86) (hc : canR (fun s x y => amountL x y s) g id l = 0) :
    Ev (fun k => impl_settled.f k g id l) (settleL g l) ∧ Ev (fun k => spec_l2Settle.f k g id l) (settleL g l) := by
  obtain ⟨hc1, hc2, _⟩ := can_parts hc
  obtain ⟨hl, hw⟩ := contract_small hc1
  obtain ⟨h1, h2⟩ := h
  exact ⟨impl_settled_ev g _ _ (by omega) (by omega) (by omega) (by omega) h2 id l hl (fun w h => (hw w h).1) (fun w h => ⟨(hw w h).2.1, hc2 w h⟩),
    spec_l2Settle_ev g (by omega) (fun s hs => by
      obtain ⟨a, b, _⟩ := h2 s hs
      exact ⟨fun x hx => by have := a x hx; exact ⟨this.1, this.2.1, by omega, by omega⟩, by omega⟩) id l (by omega) (fun w h => (hw w h).1)⟩
theorem foldl_at (l : List S40) (i : Nat) (h : i < l.length) (s : List Int × List (List S104)) : (l.drop i).foldl nextR s = (l.drop (i + 1)).foldl nextR (nextR s l[i]) := by rw [List.drop_eq_getElem_cons h]; rfl
theorem impl_SettleAll_ev (g : List (List S104)) (hb : ∀ s ∈ g, s.length ≤ 1048576) (l : List S40) : Ev (fun k => impl_SettleAll.f k g l) (settleAllR g l) := by
  unfold impl_SettleAll.f settleAllR
  refine Ev.bind (impl_LedgerFault_ev g (fun s hs => by have := hb s hs; omega)) (Ev.cond (fun hf => Ev.cond (fun _ => Ev.now _) (fun hl => ?_)) (fun _ => Ev.now _))
  obtain ⟨hg, hgood⟩ := ledger_good hf
  refine Ev.bind (impl_copyLedger_ev g (by omega) (fun s hs => by have := (hgood s hs).2.1; omega)) ?_
  refine Ev.upto1 (fun k (s : List Int × List (List S104)) i => impl_SettleAll.l0 k l (l.length : Int) i 0 s.1 s.2) l.length (by omega) (fun i s => s.1.length = i.toNat ∧ farL i.toNat s.2 ∧ (l.drop i.toNat).foldl nextR s = l.foldl nextR ([], g)) (0, l.foldl nextR ([], g)) (fun i s h0 h1 ⟨p1, p2, p3⟩ => .inl ?_) (fun s ⟨p1, p2, p3⟩ => ?_) 0 ([], g) (by omega) (by omega) ⟨rfl, ⟨hg, goodL_mono hgood (by decide) (by decide)⟩, rfl⟩
  · have hlt : i.toNat < l.length := by omega
    have hr := rd_con l i h0 h1
    rw [foldl_at l i.toNat hlt] at p3
    obtain ⟨q1, q2⟩ := nextR_far (i := i.toNat) (by omega) p2 l[i.toNat]
    refine ⟨nextR s l[i.toNat], ⟨by rw [q2]; omega, by rw [show (i + 1).toNat = i.toNat + 1 by omega]; exact q1, by rw [show (i + 1).toNat = i.toNat + 1 by omega]; exact p3⟩, fun h => Ev.step (fun k => impl_SettleAll.l0.eq_2 ..) (Ev.pos h1 (Ev.pos h0 (Ev.pos h1 ?_)))⟩
    rw [hr]
    refine Ev.bind (far_can (by omega) p2 l[i.toNat].f0 l[i.toNat].f1).1 ?_
    unfold nextR at h
    by_cases hc : canR (fun s x y => amountL x y s) s.2 l[i.toNat].f0 l[i.toNat].f1 = 0
    · rw [if_pos hc] at h
      exact Ev.pos hc (Ev.bind (far_settle (by omega) p2 _ _ hc).1 (Ev.pos (by omega) h))
    · rw [if_neg hc] at h
      exact Ev.neg hc (Ev.pos (by omega) h)
  · rw [show ((l.length : Int)).toNat = l.length by omega, List.drop_length] at p3
    rw [← p3]
    exact Ev.step (fun k => impl_SettleAll.l0.eq_2 ..) (Ev.neg (by omega) (Ev.now _))
theorem spec_SettleAll_ev (g : List (List S104)) (hb : ∀ s ∈ g, s.length ≤ 1048576) (l : List S40) : Ev (fun k => spec_SettleAll.f k g l) (settleAllR g l) := by
  unfold spec_SettleAll.f settleAllR
  refine Ev.bind (spec_LedgerFault_ev g (fun s hs => by have := hb s hs; omega)) (Ev.cond (fun hf => Ev.cond (fun _ => Ev.now _) (fun hl => ?_)) (fun _ => Ev.now _))
  obtain ⟨hg, hgood⟩ := ledger_good hf
  have hz : settleL g [] = g := (settle_seq [] g (by simp)).symm
  have hcopy := spec_l2Settle_ev g (by omega) (fun s hs => by
      obtain ⟨a, b, _⟩ := hgood s hs
      exact ⟨fun x hx => by have := a x hx; exact ⟨this.1, this.2.1, by omega, by omega⟩, by omega⟩) 0 [] (by decide) (by simp)
  rw [hz] at hcopy
  refine Ev.bind hcopy ?_
  refine Ev.upto1 (fun k (s : List Int × List (List S104)) i => spec_SettleAll.l0 k l i 0 s.1 s.2) l.length (by omega) (fun i s => s.1.length = i.toNat ∧ farL i.toNat s.2 ∧ (l.drop i.toNat).foldl nextR s = l.foldl nextR ([], g)) (0, l.foldl nextR ([], g)) (fun i s h0 h1 ⟨p1, p2, p3⟩ => .inl ?_) (fun s ⟨p1, p2, p3⟩ => ?_) 0 ([], g) (by omega) (by omega) ⟨rfl, ⟨hg, goodL_mono hgood (by decide) (by decide)⟩, rfl⟩
  · have hlt : i.toNat < l.length := by omega
    have hr := rd_con l i h0 h1
    rw [foldl_at l i.toNat hlt] at p3
    obtain ⟨q1, q2⟩ := nextR_far (i := i.toNat) (by omega) p2 l[i.toNat]
    refine ⟨nextR s l[i.toNat], ⟨by rw [q2]; omega, by rw [show (i + 1).toNat = i.toNat + 1 by omega]; exact q1, by rw [show (i + 1).toNat = i.toNat + 1 by omega]; exact p3⟩, fun h => Ev.step (fun k => spec_SettleAll.l0.eq_2 ..) (Ev.pos h1 (Ev.pos h0 ?_))⟩
    rw [hr]
    refine Ev.bind (far_can (by omega) p2 l[i.toNat].f0 l[i.toNat].f1).2 ?_
    unfold nextR at h
    by_cases hc : canR (fun s x y => amountL x y s) s.2 l[i.toNat].f0 l[i.toNat].f1 = 0
    · rw [if_pos hc] at h
      exact Ev.pos hc (Ev.bind (far_settle (by omega) p2 _ _ hc).2 (Ev.pos (by omega) h))
    · rw [if_neg hc] at h
      exact Ev.neg hc (Ev.pos (by omega) h)
  · rw [show ((l.length : Int)).toNat = l.length by omega, List.drop_length] at p3
    rw [← p3]
    exact Ev.step (fun k => spec_SettleAll.l0.eq_2 ..) (Ev.neg (by omega) (Ev.now _))
theorem settleAllR_size (g : List (List S104)) (l : List S40) : (settleAllR g l).2.1.length ≤ 100 ∧ (settleAllR g l).2.2.length ≤ 3 ∧ ∀ s ∈ (settleAllR g l).2.2, s.length ≤ 818 := by
  unfold settleAllR
  split
  · next hf =>
    split
    · exact ⟨by simp, by simp, by simp⟩
    · next hl =>
      obtain ⟨hg, hgood⟩ := ledger_good hf
      obtain ⟨p, q1, q2⟩ := nextR_len l 0 ([], g) ⟨hg, goodL_mono hgood (by decide) (by decide)⟩ (by omega)
      rw [List.length_nil] at p
      exact ⟨by show (l.foldl nextR ([], g)).1.length ≤ 100; omega, q1, fun s hs => by have := (q2 s hs).2.1; omega⟩
  · exact ⟨by simp, by simp, by simp⟩

theorem rdBalance_set (l : List S104) (i : Int) (v : S104) (h : i.toNat < l.length) : rd_T104 (l.set i.toNat v) i = v := rdBalance (List.getElem?_set_self h)
/-- A Balance marked from k on. -/
def mkBalance (k : Int) : S104 := ⟨k, k + 1, k + 2⟩
def mkBalanceL (n : Nat) (k : Int) : List S104 := (List.range n).map fun (i : Nat) => mkBalance (k + 3 * i)
theorem mkBalanceL_len (n : Nat) (k : Int) : (mkBalanceL n k).length = n := by simp [mkBalanceL]
theorem mkBalanceL_get (n : Nat) (k : Int) (i : Nat) (h : i < n) : (mkBalanceL n k)[i]? = some (mkBalance (k + 3 * i)) := by simp [mkBalanceL, h]
theorem markBalanceS_ev (l : List S104) (m : Int) (h0 : 0 ≤ m) (h1 : m + 3 * l.length ≤ 9000000000000000000) : Ev (fun k => laws_markBalanceS.f k l m) (m + 3 * l.length, mkBalanceL l.length m) := by
  unfold laws_markBalanceS.f
  refine Ev.upto1 (fun k (s : List S104 × Int) i => laws_markBalanceS.l0 k s.1 s.2 i) l.length (by omega) (fun i s => s.1.length = l.length ∧ s.2 = m + 3 * i ∧ s.1.take i.toNat = (mkBalanceL l.length m).take i.toNat) (m + 3 * l.length, mkBalanceL l.length m)
    (fun i s p0 p1 ⟨hl, hs, ht⟩ => .inl ⟨(s.1.set i.toNat (mkBalance s.2), s.2 + 3), ⟨by simp [hl], by simp [hs]; omega, ?_⟩, fun h => Ev.step (fun k => laws_markBalanceS.l0.eq_2 ..) (Ev.pos (by omega) ?_)⟩)
    (fun s ⟨hl, hs, ht⟩ => Ev.step (fun k => laws_markBalanceS.l0.eq_2 ..) (Ev.neg (by omega) (Ev.eq (Ev.now _) ?_)))
    0 (l, m) (by omega) (by omega) ⟨rfl, by simp, by simp⟩
  · show (s.1.set i.toNat (mkBalance s.2)).take (i + 1).toNat = _
    rw [show (i + 1).toNat = i.toNat + 1 by omega]
    refine take_set_succ _ _ _ _ (by omega) ht ?_
    rw [mkBalanceL_get _ _ _ (by omega), hs]
    congr 2
    omega
  · have b0 : 0 ≤ s.2 := by omega
    have b1 : s.2 + 3 ≤ 9000000000000000000 := by omega
    have w1 : wrap64 (s.2 + 1) = s.2 + 1 := by rw [w64 (by omega) (by omega)]
    have w2 : wrap64 (s.2 + 1 + 1) = s.2 + 2 := by rw [w64 (by omega) (by omega)]; omega
    have w3 : wrap64 (s.2 + 2 + 1) = s.2 + 3 := by rw [w64 (by omega) (by omega)]; omega
    refine Ev.pos p0 ?_
    simp only [w1, w2, w3, Option.bind_some]
    simp only [rdBalance_set _ _ _ (show i.toNat < s.1.length by omega), List.set_set]
    exact h
  · rw [List.take_of_length_le (by omega), List.take_of_length_le (by simp [mkBalanceL_len])] at ht
    rw [ht, hs]
theorem heldBalanceS_ev (n : Nat) (m : Int) (h0 : 0 ≤ m) (h1 : m + 3 * n ≤ 9000000000000000000) : Ev (fun k => laws_heldBalanceS.f k (mkBalanceL n m) m) (m + 3 * n) := by
  unfold laws_heldBalanceS.f
  refine Ev.upto1 (fun k (s : Int) i => laws_heldBalanceS.l0 k (mkBalanceL n m) s i) n (by omega) (fun i s => s = m + 3 * i) (m + 3 * n)
    (fun i s p0 p1 hs => .inl ⟨s + 3, by omega, fun h => Ev.step (fun k => laws_heldBalanceS.l0.eq_2 ..) (Ev.pos (by rw [mkBalanceL_len]; exact p1) (Ev.pos p0 ?_))⟩)
    (fun s hs => Ev.step (fun k => laws_heldBalanceS.l0.eq_2 ..) (Ev.neg (by rw [mkBalanceL_len]; omega) (Ev.eq (Ev.now _) hs)))
    0 m (by omega) (by omega) (by omega)
  rw [rdBalance (mkBalanceL_get n m i.toNat (by omega)), show m + 3 * ((i.toNat : Nat) : Int) = s by omega]
  have w1 : wrap64 (s + 1) = s + 1 := by rw [w64 (by omega) (by omega)]
  have w2 : wrap64 (s + 1 + 1) = s + 2 := by rw [w64 (by omega) (by omega)]; omega
  have w3 : wrap64 (s + 2 + 1) = s + 3 := by rw [w64 (by omega) (by omega)]; omega
  simp only [w1, w2, w3]
  exact Ev.pos rfl (Ev.pos rfl (Ev.pos rfl (h)))

/-- Rows of balances marked one behind the other from m on. -/
def markBals : List (List S104) → Int → List (List S104)
  | [], _ => []
  | l :: ls, m => mkBalanceL l.length m :: markBals ls (m + 3 * l.length)
theorem allB_cons (l : List S104) (ls : List (List S104)) : allB (l :: ls) = l.length + allB ls := by simp [allB]
theorem markBalanceSS_loop : ∀ (rest done : List (List S104)) (m : Int), 0 ≤ m → m + 3 * (allB rest : Int) ≤ 9000000000000000000 → done.length + rest.length ≤ 4000000 →
    Ev (fun k => laws_markBalanceSS.l0 k (done ++ rest) m (done.length : Int)) (m + 3 * (allB rest : Int), done ++ markBals rest m) := by
  intro rest
  induction rest with
  | nil =>
    intro done m h0 h1 h2
    refine Ev.step (fun k => laws_markBalanceSS.l0.eq_2 ..) (Ev.neg (by simp) (Ev.eq (Ev.now _) (by simp [allB, markBals])))
  | cons l ls ih =>
    intro done m h0 h1 h2
    have ht := allB_cons l ls
    have hl : (l :: ls).length = ls.length + 1 := rfl
    rw [ht] at h1
    refine Ev.step (fun k => laws_markBalanceSS.l0.eq_2 ..) (Ev.pos (by rw [List.length_append]; omega) (Ev.pos (by omega) ?_))
    rw [show (done ++ l :: ls).getD ((done.length : Int)).toNat [] = l by simp, w64 (by omega) (by omega)]
    refine Ev.bind (markBalanceS_ev l m h0 (by omega)) ?_
    have e := ih (done ++ [mkBalanceL l.length m]) (m + 3 * l.length) (by omega) (by omega) (by simp; omega)
    rw [show (((done ++ [mkBalanceL l.length m]).length : Nat) : Int) = (done.length : Int) + 1 by simp, List.append_assoc] at e
    show Ev (fun k => laws_markBalanceSS.l0 k ((done ++ l :: ls).set ((done.length : Int)).toNat (mkBalanceL l.length m)) (m + 3 * l.length) ((done.length : Int) + 1)) _
    rw [show (done ++ l :: ls).set ((done.length : Int)).toNat (mkBalanceL l.length m) = done ++ ([mkBalanceL l.length m] ++ ls) by simp]
    refine Ev.eq e ?_
    rw [ht, markBals, List.append_assoc, Prod.mk.injEq]
    exact ⟨by omega, rfl⟩
theorem markBalanceSS_ev (ls : List (List S104)) (m : Int) (h0 : 0 ≤ m) (hm : m ≤ 8000000000000000000) (h : allB ls ≤ 4000000) (h2 : ls.length ≤ 2000000) : Ev (fun k => laws_markBalanceSS.f k ls m) (m + 3 * (allB ls : Int), markBals ls m) := by
  unfold laws_markBalanceSS.f
  exact Ev.eq (markBalanceSS_loop ls [] m h0 (by omega) (by simp; omega)) (by simp)
theorem heldBalanceSS_loop : ∀ (rest : List (List S104)) (done : List (List S104)) (m : Int), 0 ≤ m → m + 3 * (allB rest : Int) ≤ 9000000000000000000 → done.length + rest.length ≤ 4000000 →
    Ev (fun k => laws_heldBalanceSS.l0 k (done ++ markBals rest m) m (done.length : Int)) (m + 3 * (allB rest : Int)) := by
  intro rest
  induction rest with
  | nil =>
    intro done m h0 h1 h2
    refine Ev.step (fun k => laws_heldBalanceSS.l0.eq_2 ..) (Ev.neg (by simp [markBals]) (Ev.eq (Ev.now _) (by simp [allB])))
  | cons l ls ih =>
    intro done m h0 h1 h2
    have ht := allB_cons l ls
    have hl : (l :: ls).length = ls.length + 1 := rfl
    rw [ht] at h1 ⊢
    rw [markBals]
    refine Ev.step (fun k => laws_heldBalanceSS.l0.eq_2 ..) (Ev.pos (by rw [List.length_append, List.length_cons]; omega) (Ev.pos (by omega) ?_))
    rw [show rd_L2 (done ++ mkBalanceL l.length m :: markBals ls (m + 3 * l.length)) (done.length : Int) = mkBalanceL l.length m from rdBB (by simp), w64 (by omega) (by omega)]
    refine Ev.bind (heldBalanceS_ev l.length m h0 (by omega)) (Ev.neg (by omega) ?_)
    have e := ih (done ++ [mkBalanceL l.length m]) (m + 3 * l.length) (by omega) (by omega) (by simp; omega)
    rw [show (((done ++ [mkBalanceL l.length m]).length : Nat) : Int) = (done.length : Int) + 1 by simp, List.append_assoc] at e
    exact Ev.eq e (by omega)
theorem heldBalanceSS_ev (ls : List (List S104)) (m : Int) (h0 : 0 ≤ m) (hm : m ≤ 8000000000000000000) (h : allB ls ≤ 4000000) (h2 : ls.length ≤ 2000000) : Ev (fun k => laws_heldBalanceSS.f k (markBals ls m) m) (m + 3 * (allB ls : Int)) := by
  unfold laws_heldBalanceSS.f
  exact heldBalanceSS_loop ls [] m h0 (by omega) (by simp; omega)
theorem markLedger_ev (ls : List (List S104)) (m : Int) (h0 : 0 ≤ m) (hm : m ≤ 8000000000000000000) (h : allB ls ≤ 4000000) (h2 : ls.length ≤ 2000000) : Ev (fun k => laws_markLedger.f k ls m) (m + 3 * (allB ls : Int), markBals ls m) := by
  unfold laws_markLedger.f
  exact markBalanceSS_ev ls m h0 hm h h2
theorem heldLedger_ev (ls : List (List S104)) (m : Int) (h0 : 0 ≤ m) (hm : m ≤ 8000000000000000000) (h : allB ls ≤ 4000000) (h2 : ls.length ≤ 2000000) : Ev (fun k => laws_heldLedger.f k (markBals ls m) m) (m + 3 * (allB ls : Int)) := by
  unfold laws_heldLedger.f
  exact Ev.bind (heldBalanceSS_ev ls m h0 hm h h2) (Ev.neg (by omega) (Ev.now _))
theorem allB_le (ls : List (List S104)) (n m : Nat) (h : ls.length ≤ n) (hs : ∀ s ∈ ls, s.length ≤ m) : allB ls ≤ n * m := by
  induction ls generalizing n with
  | nil => simp [allB]
  | cons l ls ih =>
    rw [allB_cons]
    obtain ⟨n, rfl⟩ : ∃ j, n = j + 1 := ⟨n - 1, by simp at h; omega⟩
    have := ih n (by simpa using h) (fun s hs' => hs s (List.mem_cons_of_mem _ hs'))
    have := hs l List.mem_cons_self
    rw [Nat.succ_mul]
    omega

theorem szLegS_eq (l : List S137) (hl : l.length ≤ maxLen) (left : Int) (h0 : 0 ≤ left) (h1 : left ≤ 1048576) : laws_szLegS.f l left = some (szRest l.length left) := by
  unfold maxLen at hl
  unfold laws_szLegS.f szRest
  rw [w64 (by omega) (by omega)]
  split <;> rfl
theorem szContract_eq (id : Int) (l : List S137) (hl : l.length ≤ maxLen) (left : Int) (h0 : 0 ≤ left) (h1 : left ≤ 1048576) : laws_szContract.f id l left = some (szRest l.length left) := by
  unfold laws_szContract.f
  rw [szLegS_eq l hl left h0 h1]
  simp only [Option.bind_some]
  split
  · next h => unfold szRest at *; split at h <;> simp_all <;> omega
  · rfl

/-- What the law's mirror of a Leg stands for. -/
def legOf (x : S137) : S86 := ⟨x.f0, x.f1, x.f2, x.f3⟩
theorem toLegS_ev (l : List S137) (hl : l.length ≤ 1048576) : Ev (fun k => laws_toLegS.f k l) (l.map legOf) := by
  unfold laws_toLegS.f
  refine Ev.pos (by omega) (Ev.pos (by omega) ?_)
  refine Ev.fill (fun k s i => laws_toLegS.l0 k l s i) (l.map legOf) (by simp; omega)
    (fun i s v h0 h1 hs hv h => ?_)
    (fun s hs => Ev.step (fun k => laws_toLegS.l0.eq_2 ..) (Ev.neg (by simp) (Ev.now _))) _ (by simp)
  rw [List.length_map] at h1 hs
  rw [List.getElem?_map] at hv
  obtain ⟨w, hw, rfl⟩ := Option.map_eq_some_iff.1 hv
  refine Ev.step (fun k => laws_toLegS.l0.eq_2 ..) (Ev.pos h1 (Ev.pos h0 ?_))
  rw [rdLegL hw]
  exact Ev.let (Ev.pos (by omega) h)

theorem toContract_ev (id : Int) (l : List S137) (hl : l.length ≤ 1048576) : Ev (fun k => laws_toContract.f k id l) (id, l.map legOf) := by
  unfold laws_toContract.f
  exact Ev.bind (toLegS_ev l hl) (Ev.now _)

theorem eqContract_ev (id : Int) (l : List S86) (hl : (l.length : Int) ≤ 9223372036854775807) : Ev (fun k => laws_eqContract.f k id l id l) true := by
  unfold laws_eqContract.f
  exact Ev.pos rfl (Ev.bind (eqLegS_ev l hl) (Ev.pos rfl (Ev.now _)))
/-- How many legs contracts have. -/
def allC (l : List S50) : Nat := (l.map (fun c => c.f1.length)).sum
def allD (l : List S40) : Nat := (l.map (fun c => c.f1.length)).sum
def conOf (c : S50) : S40 := ⟨c.f0, c.f1.map legOf⟩
theorem allB_of (g : List (List S115)) : allB (ledgerOf g) = allB g := by
  unfold allB ledgerOf
  rw [List.map_map]
  congr 1
  exact List.map_congr_left (fun l _ => by simp)
theorem allD_of (l : List S50) : allD (l.map conOf) = allC l := by
  unfold allD allC
  rw [List.map_map]
  congr 1
  exact List.map_congr_left (fun l _ => by simp [conOf])
theorem mem_allC (l : List S50) (c : S50) (h : c ∈ l) : c.f1.length ≤ allC l := by
  induction l with
  | nil => cases h
  | cons a l ih =>
    rw [show allC (a :: l) = a.f1.length + allC l by simp [allC]]
    rcases List.mem_cons.1 h with rfl | h
    · omega
    · have := ih h; omega
theorem rd_lcon (l : List S50) (i : Int) (h0 : 0 ≤ i) (h1 : i < (l.length : Int)) : rd_T50 l i = l[i.toNat]'(by omega) := by
  unfold rd_T50
  rw [List.getD_eq_getElem?_getD, List.getElem?_eq_getElem (by omega)]
  rfl
theorem szContractS_ev (l : List S50) (hl : l.length ≤ maxLen) (hok : ∀ c ∈ l, c.f1.length ≤ maxLen) (left : Int) (h0 : 0 ≤ left) (h1 : left ≤ 1048576) :
    ∃ r, (¬ r < 0 → 0 ≤ r ∧ (l.length : Int) + (allC l : Int) + r = left) ∧ Ev (fun k => laws_szContractS.f k l left) r := by
  unfold laws_szContractS.f
  unfold maxLen at hl
  rw [w64 (by omega) (by omega)]
  by_cases hn : left - (l.length : Int) < 0
  · exact ⟨-1, fun h => absurd (show (-1 : Int) < 0 by decide) h, Ev.pos hn (Ev.now _)⟩
  have key := Ev.upto (fun k (s : Int) i => laws_szContractS.l0 k l s i) l.length (by omega) (fun i s => 0 ≤ s ∧ (allC (l.take i.toNat) : Int) + s = left - l.length) (fun r => ¬ r < 0 → 0 ≤ r ∧ (l.length : Int) + (allC l : Int) + r = left)
    (fun i s p0 p1 ⟨q0, q1⟩ => ?_) (fun s ⟨q0, q1⟩ => ⟨s, fun _ => ⟨q0, by rw [show ((l.length : Int)).toNat = l.length by omega, List.take_length] at q1; omega⟩, Ev.step (fun k => laws_szContractS.l0.eq_2 ..) (Ev.neg (by omega) (Ev.now _))⟩) 0 (left - l.length) (by omega) (by omega) ⟨by omega, by simp [allC]⟩
  · obtain ⟨r, hr, he⟩ := key
    exact ⟨r, hr, Ev.neg hn he⟩
  · have hlt : i.toNat < l.length := by omega
    have hr := rd_lcon l i p0 p1
    have hz := szContract_eq l[i.toNat].f0 l[i.toNat].f1 (hok _ (List.getElem_mem hlt)) s q0 (by omega)
    have ht : (allC (l.take (i.toNat + 1)) : Int) = allC (l.take i.toNat) + l[i.toNat].f1.length := by
      rw [List.take_add_one, List.getElem?_eq_getElem hlt]
      unfold allC
      rw [List.map_append, List.sum_append]
      show (_ : Int) = _
      simp only [Option.toList_some, List.map_cons, List.map_nil, List.sum_cons, List.sum_nil]
      omega
    by_cases hb : szRest l[i.toNat].f1.length s < 0
    · refine .inr ⟨-1, fun h => absurd (show (-1 : Int) < 0 by decide) h, Ev.step (fun k => laws_szContractS.l0.eq_2 ..) (Ev.pos p1 (Ev.pos p0 ?_))⟩
      rw [hr]
      exact Ev.bind (Ev.is hz) (Ev.pos hb (Ev.now _))
    · obtain ⟨b1, b2⟩ := szRest_ok (by omega) hb
      refine .inl ⟨szRest l[i.toNat].f1.length s, ⟨by omega, by rw [show (i + 1).toNat = i.toNat + 1 by omega]; omega⟩, fun r h => Ev.step (fun k => laws_szContractS.l0.eq_2 ..) (Ev.pos p1 (Ev.pos p0 ?_))⟩
      rw [hr]
      exact Ev.bind (Ev.is hz) (Ev.neg hb h)
theorem toContractS_ev (l : List S50) (hl : l.length ≤ 1048576) (hok : ∀ c ∈ l, c.f1.length ≤ 1048576) : Ev (fun k => laws_toContractS.f k l) (l.map conOf) := by
  unfold laws_toContractS.f
  refine Ev.pos (by omega) (Ev.pos (by omega) ?_)
  rw [show ((l.length : Int)).toNat = (l.map conOf).length by simp]
  refine Ev.fill (fun k s i => laws_toContractS.l0 k l s i) (l.map conOf) (by simp; omega) (fun i s v h0 h1 hs hv h => Ev.step (fun k => laws_toContractS.l0.eq_2 ..) ?_) (fun s hs => Ev.step (fun k => laws_toContractS.l0.eq_2 ..) (Ev.neg (by simp) (Ev.now _))) _ (by simp)
  simp only [List.length_map] at h1 hs
  have hlt : i.toNat < l.length := by omega
  rw [List.getElem?_map, List.getElem?_eq_getElem hlt] at hv
  obtain rfl := Option.some.inj hv
  refine Ev.pos h1 (Ev.pos h0 ?_)
  rw [rd_lcon l i h0 h1]
  exact Ev.bind (toContract_ev _ _ (hok _ (List.getElem_mem hlt))) (Ev.pos (by omega) h)
theorem eqContractS_ev (l : List S40) (hl : l.length ≤ 1048576) (hok : ∀ c ∈ l, c.f1.length ≤ 1048576) : Ev (fun k => laws_eqContractS.f k l l) true := by
  unfold laws_eqContractS.f
  refine Ev.pos rfl (Ev.each l.length (by omega) (fun i h0 h1 e => Ev.step (fun k => laws_eqContractS.l0.eq_2 ..) (Ev.pos h1 (Ev.pos h0 (Ev.pos h1 ?_)))) (Ev.step (fun k => laws_eqContractS.l0.eq_2 ..) (Ev.neg (by omega) (Ev.now _))))
  rw [rd_con l i h0 h1]
  have := hok _ (List.getElem_mem (show i.toNat < l.length by omega))
  exact Ev.bind (eqContract_ev _ _ (by omega)) (Ev.pos rfl e)
theorem markContractS_loop : ∀ (rest done : List S40) (m : Int), 0 ≤ m → m + rest.length + 4 * (allD rest : Int) ≤ 9000000000000000000 → done.length + rest.length ≤ 4000000 →
    ∃ z, Ev (fun k => laws_markContractS.l0 k (done ++ rest) m (done.length : Int)) (m + rest.length + 4 * (allD rest : Int), z) := by
  intro rest
  induction rest with
  | nil =>
    intro done m h0 h1 h2
    exact ⟨done, Ev.step (fun k => laws_markContractS.l0.eq_2 ..) (Ev.neg (by simp) (Ev.eq (Ev.now _) (by simp [allD])))⟩
  | cons c cs ih =>
    intro done m h0 h1 h2
    have ht : allD (c :: cs) = c.f1.length + allD cs := by simp [allD]
    have hl : (c :: cs).length = cs.length + 1 := rfl
    rw [ht, hl] at h1
    have e1 := markLegS_ev c.f1 (m + 1) (by omega) (by omega)
    obtain ⟨z, e⟩ := ih (done ++ [⟨m, mkLegL c.f1.length (m + 1)⟩]) (m + 1 + 4 * (c.f1.length : Int)) (by omega) (by omega) (by simp; omega)
    refine ⟨z, Ev.step (fun k => laws_markContractS.l0.eq_2 ..) (Ev.pos (by rw [List.length_append]; omega) (Ev.pos (by omega) ?_))⟩
    rw [show (done ++ c :: cs).getD ((done.length : Int)).toNat z40 = c by simp, w64 (x := m + 1) (by omega) (by omega), w64 (x := (done.length : Int) + 1) (by omega) (by omega)]
    refine Ev.bind e1 ?_
    rw [show (((done ++ [(⟨m, mkLegL c.f1.length (m + 1)⟩ : S40)]).length : Nat) : Int) = (done.length : Int) + 1 by simp, List.append_assoc] at e
    show Ev (fun k => laws_markContractS.l0 k ((done ++ c :: cs).set ((done.length : Int)).toNat ⟨m, mkLegL c.f1.length (m + 1)⟩) (m + 1 + 4 * (c.f1.length : Int)) ((done.length : Int) + 1)) _
    rw [show (done ++ c :: cs).set ((done.length : Int)).toNat ⟨m, mkLegL c.f1.length (m + 1)⟩ = done ++ ([⟨m, mkLegL c.f1.length (m + 1)⟩] ++ cs) by simp]
    refine Ev.eq e ?_
    rw [ht, hl, Prod.mk.injEq]
    exact ⟨by omega, rfl⟩
/-- Numbers marked one behind the other from k on. -/
def markI (n : Nat) (k : Int) : List Int := (List.range n).map fun (i : Nat) => k + i
theorem markI_len (n : Nat) (k : Int) : (markI n k).length = n := by simp [markI]
theorem markI_get (n : Nat) (k : Int) (i : Nat) (h : i < n) : (markI n k)[i]? = some (k + i) := by simp [markI, h]
theorem eqInt64S_ev (l : List Int) (h : l.length ≤ 1000) : Ev (fun k => laws_eqInt64S.f k l l) true := by
  unfold laws_eqInt64S.f
  exact Ev.pos rfl (Ev.each (F := fun k i => laws_eqInt64S.l0 k l l i) l.length (by omega) (fun i h0 h1 h => Ev.step (fun k => laws_eqInt64S.l0.eq_2 ..) (Ev.pos h1 (Ev.pos h0 (Ev.pos h1 (Ev.pos rfl h))))) (Ev.step (fun k => laws_eqInt64S.l0.eq_2 ..) (Ev.neg (by omega) (Ev.now _))))
theorem markInt64S_ev (l : List Int) (h : l.length ≤ 1000) : Ev (fun k => laws_markInt64S.f k l 1) (1 + (l.length : Int), markI l.length 1) := by
  unfold laws_markInt64S.f
  refine Ev.upto1 (fun k (s : List Int × Int) i => laws_markInt64S.l0 k s.1 s.2 i) l.length (by omega) (fun i s => s.1.length = l.length ∧ s.2 = 1 + i ∧ s.1.take i.toNat = (markI l.length 1).take i.toNat) (1 + (l.length : Int), markI l.length 1)
    (fun i s p0 p1 ⟨hl, hs, ht⟩ => .inl ⟨(s.1.set i.toNat s.2, s.2 + 1), ⟨by simp [hl], by show s.2 + 1 = 1 + (i + 1); omega, ?_⟩, fun h => Ev.step (fun k => laws_markInt64S.l0.eq_2 ..) (Ev.pos (by omega) (Ev.pos p0 ?_))⟩)
    (fun s ⟨hl, hs, ht⟩ => Ev.step (fun k => laws_markInt64S.l0.eq_2 ..) (Ev.neg (by omega) (Ev.eq (Ev.now _) ?_)))
    0 (l, 1) (by omega) (by omega) ⟨rfl, by simp, by simp⟩
  · show (s.1.set i.toNat s.2).take (i + 1).toNat = _
    rw [show (i + 1).toNat = i.toNat + 1 by omega]
    refine take_set_succ _ _ _ _ (by omega) ht ?_
    rw [markI_get _ _ _ (by omega), hs, show ((i.toNat : Nat) : Int) = i by omega]
  · rw [w64 (x := s.2 + 1) (by omega) (by omega)]
    exact h
  · rw [List.take_of_length_le (by omega), List.take_of_length_le (by simp [markI_len])] at ht
    rw [ht, hs]
theorem heldInt64S_ev (n : Nat) (h : n ≤ 1000) : Ev (fun k => laws_heldInt64S.f k (markI n 1) 1) (1 + (n : Int)) := by
  unfold laws_heldInt64S.f
  refine Ev.upto1 (fun k (s : Int) i => laws_heldInt64S.l0 k (markI n 1) s i) n (by omega) (fun i s => s = 1 + i) (1 + (n : Int))
    (fun i s p0 p1 hs => .inl ⟨s + 1, by omega, fun h => Ev.step (fun k => laws_heldInt64S.l0.eq_2 ..) (Ev.pos (by rw [markI_len]; exact p1) (Ev.pos p0 (Ev.pos ?_ (by rw [w64 (x := s + 1) (by omega) (by omega)]; exact h))))⟩)
    (fun s hs => Ev.step (fun k => laws_heldInt64S.l0.eq_2 ..) (Ev.neg (by rw [markI_len]; omega) (Ev.eq (Ev.now _) hs)))
    0 1 (by omega) (by omega) (by simp)
  rw [rd_of (markI_get n 1 i.toNat (by omega)), hs, show ((i.toNat : Nat) : Int) = i by omega]
theorem eqOutcomes_ev (c : Int) (o : List Int) (g : List (List S104)) (ho : o.length ≤ 1000) (hl : (g.length : Int) ≤ 9223372036854775807) (hb : ∀ l ∈ g, (l.length : Int) ≤ 9223372036854775807) : Ev (fun k => laws_eqOutcomesResult.f k c o g c o g) true := by
  unfold laws_eqOutcomesResult.f
  exact Ev.pos rfl (Ev.bind (eqInt64S_ev o ho) (Ev.pos rfl (Ev.bind (eqLedger_ev g hl hb) (Ev.pos rfl (Ev.now _)))))
theorem markOutcomes_ev (c : Int) (o : List Int) (ls : List (List S104)) (ho : o.length ≤ 1000) (h : allB ls ≤ 4000000) (h2 : ls.length ≤ 2000000) : Ev (fun k => laws_markOutcomesResult.f k c o ls 1) (1 + (o.length : Int) + 3 * (allB ls : Int), markI o.length 1, markBals ls (1 + (o.length : Int))) := by
  unfold laws_markOutcomesResult.f
  exact Ev.bind (markInt64S_ev o ho) (Ev.bind (markLedger_ev ls (1 + (o.length : Int)) (by omega) (by omega) h h2) (Ev.now _))
theorem heldOutcomes_ev (c : Int) (n : Nat) (ls : List (List S104)) (ho : n ≤ 1000) (h : allB ls ≤ 4000000) (h2 : ls.length ≤ 2000000) : Ev (fun k => laws_heldOutcomesResult.f k c (markI n 1) (markBals ls (1 + (n : Int))) 1) (1 + (n : Int) + 3 * (allB ls : Int)) := by
  unfold laws_heldOutcomesResult.f
  exact Ev.bind (heldInt64S_ev n ho) (Ev.neg (by omega) (Ev.bind (heldLedger_ev ls (1 + (n : Int)) (by omega) (by omega) h h2) (Ev.neg (by omega) (Ev.now _))))
theorem FnExactSettleAll : ∀ (l0_0 : List (List (S115))) (l1 : List (S50)), okL (okL ok115) l0_0 → okL ok50 l1 → ∃ k, laws_FnExactSettleAll.f k l0_0 l1 = some true := by
  intro g l hg hlk
  refine Ev.rounds (r := true) ?_
  unfold laws_FnExactSettleAll.f
  obtain ⟨r, hr, hsz⟩ := szLedger_ev g hg 1048576 (by decide) (by decide)
  refine Ev.bind hsz (Ev.ite (fun _ => Ev.now _) (fun h => ?_))
  have hr := hr h
  obtain ⟨r2, hr2, hsz2⟩ := szContractS_ev l hlk.1 (fun c hc => (hlk.2 c hc).2.1) r (by omega) (by omega)
  refine Ev.bind hsz2 (Ev.ite (fun _ => Ev.now _) (fun h2 => ?_))
  have hr2 := hr2 h2
  have hin : ∀ s ∈ g, s.length ≤ 1048576 := fun s hs => by have := mem_allB g s hs; omega
  have hin2 : ∀ s ∈ ledgerOf g, s.length ≤ 1048576 := fun s hs => by
    obtain ⟨s', hs', rfl⟩ := List.mem_map.1 hs
    have := hin s' hs'
    simp
    omega
  have hcin : ∀ c ∈ l, c.f1.length ≤ 1048576 := fun c hc => by have := mem_allC l c hc; omega
  have hcin2 : ∀ c ∈ l.map conOf, c.f1.length ≤ 1048576 := fun c hc => by
    obtain ⟨c', hc', rfl⟩ := List.mem_map.1 hc
    have := hcin c' hc'
    simp [conOf]
    omega
  have hlen : (ledgerOf g).length ≤ 1048576 := by simp [ledgerOf]; omega
  have hclen : (l.map conOf).length ≤ 1048576 := by simp; omega
  have hal : allB (ledgerOf g) ≤ 1048576 := by rw [allB_of]; omega
  have hcl : allD (l.map conOf) ≤ 1048576 := by rw [allD_of]; omega
  have ht := toLedger_ev g (by omega) hin
  have t1 := toContractS_ev l (by omega) hcin
  have hs := spec_SettleAll_ev _ hin2 (l.map conOf)
  have hi := impl_SettleAll_ev _ hin2 (l.map conOf)
  obtain ⟨z0, z1, z2⟩ := settleAllR_size (ledgerOf g) (l.map conOf)
  generalize settleAllR (ledgerOf g) (l.map conOf) = R at hs hi z0 z1 z2
  have za : allB R.2.2 ≤ 2454 := allB_le R.2.2 3 818 z1 z2
  have he := eqOutcomes_ev R.1 R.2.1 R.2.2 (by omega) (by omega) (fun s hs => by have := z2 s hs; omega)
  have hm := markOutcomes_ev R.1 R.2.1 R.2.2 (by omega) (by omega) (by omega)
  have hh := heldOutcomes_ev R.1 R.2.1.length R.2.2 (by omega) (by omega) (by omega)
  obtain ⟨z, hmc⟩ := markContractS_loop (l.map conOf) [] (1 + 3 * (allB (ledgerOf g) : Int)) (by omega) (by omega) (by simp; omega)
  refine Ev.bind ht (Ev.bind t1 (Ev.bind hs (Ev.bind ht (Ev.bind t1 (Ev.bind hi (Ev.bind he (Ev.pos rfl ?_)))))))
  refine Ev.bind ht (Ev.bind (eqLedger_ev _ (by omega) (fun s hs => by have := hin2 s hs; omega)) (Ev.pos rfl (Ev.bind t1 (Ev.bind (eqContractS_ev _ hclen hcin2) (Ev.pos rfl ?_)))))
  refine Ev.bind (markLedger_ev (ledgerOf g) 1 (by decide) (by decide) (by omega) (by omega)) (Ev.bind (a := (1 + 3 * (allB (ledgerOf g) : Int) + (l.map conOf).length + 4 * (allD (l.map conOf) : Int), z)) hmc (Ev.neg (by simp; omega) (Ev.bind he (Ev.pos rfl (Ev.bind hm (Ev.bind hh (Ev.neg (by omega) (Ev.pos rfl ?_))))))))
  exact Ev.bind ht (Ev.bind t1 (Ev.bind hi (Ev.bind he (Ev.pos rfl (Ev.bind hh (Ev.neg (by omega) (Ev.pos rfl (Ev.now _))))))))

end Go.Proofs.Ytanegggacfmkcaa.Pure
