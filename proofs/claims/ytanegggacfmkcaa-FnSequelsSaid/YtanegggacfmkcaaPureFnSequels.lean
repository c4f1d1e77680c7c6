/- FnSequels, the pure statement: whatever drawn ledger and contracts, what SettleAll tells is what settling each by itself tells, and no total changes. No conditions. -/
import Derived.Test.YtanegggacfmkcaaPFnSequelsx22
import Derived.Test.YtanegggacfmkcaaOFnSequels
namespace Go.Proofs.Ytanegggacfmkcaa.Pure
open Go.RowKit Go.Proofs.Ytanegggacfmkcaa.PFnSequels Go.Proofs.YtanegggacfmkcaaW.PrintWords Go.Proofs.YtanegggacfmkcaaW.PrintLast Go.Proofs.YtanegggacfmkcaaW.PrintMore Go.Proofs.Ytanegggacfmkcaa.Opens
set_option linter.unusedVariables false
set_option linter.unusedSimpArgs false
/-! ### words of this text's own -/
theorem w64 {x : Int} (h0 : -9223372036854775808 ≤ x) (h1 : x ≤ 9223372036854775807) : wrap64 x = x := by
  unfold wrap64
  omega
theorem wfU8 {x : Int} (h : (Lit.int .u8 x).wf = true) : 0 ≤ x ∧ x < 256 := by
  simp [Lit.wf, IntKind.min, IntKind.max, IntKind.signed, IntKind.bits] at h
  omega
section
variable {α β σ : Type}
theorem Ev.ite {g f : Nat → Option α} {c : Prop} [Decidable c] {r : α} (ht : c → Ev g r) (hf : ¬ c → Ev f r) : Ev (fun k => if c then g k else f k) r := by
  by_cases h : c
  · simp only [if_pos h]; exact ht h
  · simp only [if_neg h]; exact hf h
theorem Ev.pos {g f : Nat → Option α} {c : Prop} [Decidable c] {r : α} (h : c) (ht : Ev g r) : Ev (fun k => if c then g k else f k) r := Ev.ite (fun _ => ht) (fun n => absurd h n)
theorem Ev.neg {g f : Nat → Option α} {c : Prop} [Decidable c] {r : α} (h : ¬ c) (hf : Ev f r) : Ev (fun k => if c then g k else f k) r := Ev.ite (fun y => absurd y h) (fun _ => hf)
theorem Ev.cond {g f : Nat → Option α} {c : Prop} [Decidable c] {r s : α} (ht : c → Ev g r) (hf : ¬ c → Ev f s) : Ev (fun k => if c then g k else f k) (if c then r else s) := by
  by_cases h : c
  · simp only [if_pos h]; exact ht h
  · simp only [if_neg h]; exact hf h
theorem Ev.let {f : Nat → α → Option β} {a : α} {r : β} (k : Ev (fun n => f n a) r) : Ev (fun n => (some a).bind (f n)) r := Ev.bind (Ev.now a) k
theorem Ev.is {a : Option α} {r : α} (h : a = some r) : Ev (fun _ => a) r := ⟨0, fun _ _ => h⟩
theorem Ev.eq {g : Nat → Option α} {a b : α} (h : Ev g a) (e : a = b) : Ev g b := e ▸ h
/-- A loop that counts i up to n, with a state s: what it comes to, if 'P i s' leads from round to round. -/
theorem Ev.upto (F : Nat → σ → Int → Option α) (n : Int) (hn : n ≤ 9223372036854775807) (P : Int → σ → Prop) (R : α → Prop)
    (step : ∀ i s, 0 ≤ i → i < n → P i s → (∃ s', P (i + 1) s' ∧ ∀ r, Ev (fun k => F k s' (wrap64 (i + 1))) r → Ev (fun k => F k s i) r) ∨ (∃ r, R r ∧ Ev (fun k => F k s i) r))
    (stop : ∀ s, P n s → ∃ r, R r ∧ Ev (fun k => F k s n) r) (i : Int) (s : σ) (h0 : 0 ≤ i) (h1 : i ≤ n) (hP : P i s) : ∃ r, R r ∧ Ev (fun k => F k s i) r := by
  obtain ⟨d, hd⟩ : ∃ d : Nat, n - i = d := ⟨(n - i).toNat, by omega⟩
  induction d generalizing i s with
  | zero =>
    obtain rfl : i = n := by omega
    exact stop s hP
  | succ d ih =>
    rcases step i s h0 (by omega) hP with ⟨s', hP', h⟩ | h
    · obtain ⟨r, hr, he⟩ := ih (i + 1) s' (by omega) (by omega) hP' (by omega)
      exact ⟨r, hr, h r (by rw [w64 (by omega) (by omega)]; exact he)⟩
    · exact h
/-- The same, where what it comes to is one value. -/
theorem Ev.upto1 (F : Nat → σ → Int → Option α) (n : Int) (hn : n ≤ 9223372036854775807) (P : Int → σ → Prop) (r : α)
    (step : ∀ i s, 0 ≤ i → i < n → P i s → (∃ s', P (i + 1) s' ∧ (Ev (fun k => F k s' (wrap64 (i + 1))) r → Ev (fun k => F k s i) r)) ∨ Ev (fun k => F k s i) r)
    (stop : ∀ s, P n s → Ev (fun k => F k s n) r) (i : Int) (s : σ) (h0 : 0 ≤ i) (h1 : i ≤ n) (hP : P i s) : Ev (fun k => F k s i) r := by
  obtain ⟨d, hd⟩ : ∃ d : Nat, n - i = d := ⟨(n - i).toNat, by omega⟩
  induction d generalizing i s with
  | zero =>
    obtain rfl : i = n := by omega
    exact stop s hP
  | succ d ih =>
    rcases step i s h0 (by omega) hP with ⟨s', hP', h⟩ | h
    · exact h (by rw [w64 (by omega) (by omega)]; exact ih (i + 1) s' (by omega) (by omega) hP' (by omega))
    · exact h
end
theorem rd_get (l : List Int) (i : Int) (h0 : 0 ≤ i) (h1 : i < (l.length : Int)) : rd l i = l[i.toNat]'(by omega) := by
  unfold rd
  rw [List.getD_eq_getElem?_getD, List.getElem?_eq_getElem (by omega)]
  rfl
theorem rd_of {l : List Int} {i : Int} {v : Int} (h : l[i.toNat]? = some v) : rd l i = v := by
  unfold rd
  rw [List.getD_eq_getElem?_getD, h]
  rfl
theorem drop_cons_at {α : Type} (l : List α) (i : Nat) (h : i < l.length) : l.drop i = l[i] :: l.drop (i + 1) := List.drop_eq_getElem_cons h
theorem rdBalance {l : List S104} {i : Int} {v : S104} (h : l[i.toNat]? = some v) : rd_T104 l i = v := by
  unfold rd_T104
  rw [List.getD_eq_getElem?_getD, h]
  rfl
theorem rdBalance_at (l : List S104) (i : Int) (h0 : 0 ≤ i) (h1 : i < (l.length : Int)) : rd_T104 l i = l[i.toNat]'(by omega) := rdBalance (List.getElem?_eq_getElem (by omega))

theorem rdLeg {l : List S86} {i : Int} {v : S86} (h : l[i.toNat]? = some v) : rd_T86 l i = v := by
  unfold rd_T86
  rw [List.getD_eq_getElem?_getD, h]
  rfl
theorem rdLeg_at (l : List S86) (i : Int) (h0 : 0 ≤ i) (h1 : i < (l.length : Int)) : rd_T86 l i = l[i.toNat]'(by omega) := rdLeg (List.getElem?_eq_getElem (by omega))

theorem within_eq (x a b : Int) : impl_within.f x a b = some (decide (a ≤ x ∧ x ≤ b)) := by
  unfold impl_within.f
  by_cases h1 : a ≤ x <;> simp [h1]

theorem l1In_eq (x a b : Int) : spec_l1In.f x a b = some (decide (a ≤ x ∧ x ≤ b)) := by
  unfold spec_l1In.f
  by_cases h1 : a ≤ x <;> simp [h1]

/-- Is a balance's place and amount right? -/
def balOk (b : S104) : Prop := 0 ≤ b.f0 ∧ b.f0 ≤ 5 ∧ 0 ≤ b.f1 ∧ b.f1 ≤ 2 ∧ 1 ≤ b.f2 ∧ b.f2 ≤ 1000000000000
/-- Does one stand ahead of the other? -/
def balLt (a b : S104) : Prop := a.f0 < b.f0 ∨ a.f0 = b.f0 ∧ a.f1 < b.f1
open Classical in
/-- What BalancesFault tells of balances from one on, the one ahead of it known. -/
noncomputable def balsR : Option S104 → List S104 → Int
  | _, [] => 0
  | p, b :: l => if balOk b then (if ∀ a, p = some a → balLt a b then balsR (some b) l else 1) else 3
noncomputable def balsFault (l : List S104) : Int := if l.length > 18 then 2 else balsR none l
/-- The one ahead. -/
def ahead {α : Type} (l : List α) (i : Nat) : Option α := if i = 0 then none else l[i - 1]?
theorem ahead_succ {α : Type} (l : List α) (i : Nat) (v : α) (h : l[i]? = some v) : ahead l (i + 1) = some v := by
  unfold ahead
  simp [h]
theorem balsR_ok (b : S104) (p : Option S104) (l : List S104) (h : balOk b) (h2 : ∀ a, p = some a → balLt a b) : balsR p (b :: l) = balsR (some b) l := by
  unfold balsR
  rw [if_pos h, if_pos h2]
  cases l <;> rfl
theorem comparePlaces_ev (a b : S104) : ∃ r : Int, (r ≥ 0 ↔ ¬ balLt a b) ∧ (r > 0 ↔ balLt b a) ∧ Ev (fun k => impl_comparePlaces.f k a.f0 a.f1 a.f2 b.f0 b.f1 b.f2) r := by
  have hc : ∀ x y : Int, cmp_Compare_int64.f x y = some (if x < y then -1 else if x > y then 1 else 0) := fun x y => by
    unfold cmp_Compare_int64.f cmp_isNaN_int64.f
    simp only [Option.bind_some, bne_self_eq_false, Bool.false_eq_true, if_false]
    split
    · rfl
    · split <;> rfl
  have hor : ∀ x y : Int, Ev (fun k => cmp_Or_int.f k [x, y]) (if x = 0 then y else x) := fun x y => by
    refine ⟨3, fun k hk => ?_⟩
    obtain ⟨k, rfl⟩ : ∃ j, k = j + 3 := ⟨k - 3, by omega⟩
    unfold cmp_Or_int.f
    have w1 : wrap64 (0 + 1) = 1 := by rw [w64 (by decide) (by decide)]; rfl
    have w2 : wrap64 (1 + 1) = 2 := by rw [w64 (by decide) (by decide)]; rfl
    have r0 : rd [x, y] 0 = x := rfl
    have r1 : rd [x, y] 1 = y := rfl
    simp only [cmp_Or_int.l0, List.length_cons, List.length_nil, w1, w2, r0, r1]
    by_cases h1 : x = 0 <;> by_cases h2 : y = 0 <;> simp [h1, h2]
  unfold impl_comparePlaces.f
  rw [hc, hc]
  unfold balLt
  refine ⟨_, ?_, ?_, Ev.let (Ev.let (Ev.bind (hor _ _) (Ev.now _)))⟩
  · by_cases h1 : a.f0 < b.f0
    · simp [h1]
    · by_cases h2 : a.f0 > b.f0
      · have : ¬ a.f0 = b.f0 := by omega
        simp [h1, h2, this]
      · have : a.f0 = b.f0 := by omega
        by_cases h3 : a.f1 < b.f1
        · simp [h1, h2, this, h3]
        · by_cases h4 : a.f1 > b.f1 <;> simp [h1, h2, this, h3, h4]
  · by_cases h1 : a.f0 < b.f0
    · have : ¬ b.f0 < a.f0 := by omega
      have : ¬ b.f0 = a.f0 := by omega
      simp [*]
    · by_cases h2 : a.f0 > b.f0
      · simp [h1, h2]
      · have e : a.f0 = b.f0 := by omega
        by_cases h3 : a.f1 < b.f1
        · have : ¬ b.f1 < a.f1 := by omega
          simp [e, h3, this]
        · by_cases h4 : a.f1 > b.f1
          · simp [e, h3, h4]
          · have : ¬ b.f1 < a.f1 := by omega
            simp [e, h3, h4, this]
theorem isPlace_eq (x y : Int) : impl_isPlace.f x y = some (decide (0 ≤ x ∧ x ≤ 5 ∧ 0 ≤ y ∧ y ≤ 2)) := by
  unfold impl_isPlace.f impl_isAsset.f impl_within.f
  by_cases h1 : 0 ≤ x <;> by_cases h2 : x ≤ 5 <;> by_cases h3 : 0 ≤ y <;> by_cases h4 : y ≤ 2 <;> simp [h1, h2, h3, h4]
theorem l2Key_eq (x y : Int) : spec_l2Key.f x y = some (decide (0 ≤ x ∧ x ≤ 5 ∧ 0 ≤ y ∧ y ≤ 2)) := by
  unfold spec_l2Key.f spec_l1In.f
  by_cases h1 : 0 ≤ x <;> by_cases h2 : x ≤ 5 <;> by_cases h3 : 0 ≤ y <;> by_cases h4 : y ≤ 2 <;> simp [h1, h2, h3, h4]
theorem impl_BalancesFault_ev (l : List S104) (hl : (l.length : Int) ≤ 9000000000000000000) : Ev (fun k => impl_BalancesFault.f k l) (balsFault l) := by
  unfold impl_BalancesFault.f balsFault
  by_cases hm : l.length > 18
  · rw [if_pos hm]
    exact Ev.pos (by omega) (Ev.now _)
  rw [if_neg hm]
  refine Ev.neg (by omega) ?_
  refine Ev.upto1 (fun k (_ : Unit) i => impl_BalancesFault.l0 k l l (l.length : Int) i) l.length (by omega) (fun i _ => balsR (ahead l i.toNat) (l.drop i.toNat) = balsR none l) (balsR none l)
    (fun i s h0 h1 hs => ?_) (fun s hs => Ev.step (fun k => impl_BalancesFault.l0.eq_2 ..) (Ev.neg (by omega) (Ev.eq (Ev.now _) (by rw [← hs, List.drop_eq_nil_of_le (by omega)]; cases ahead l _ <;> rfl)))) 0 () (by omega) (by omega) rfl
  have e1 : l[i.toNat]? = some (l[i.toNat]'(by omega)) := List.getElem?_eq_getElem (by omega)
  rw [drop_cons_at l i.toNat (by omega)] at hs
  generalize hb : l[i.toNat]'(by omega) = b at hs e1
  have hstep : ∀ g : Nat → Option Int, Ev g (balsR none l) → Ev (fun k => (impl_isPlace.f b.f0 b.f1).bind fun t => if t = true then (impl_within.f b.f2 1 1000000000000).bind fun u => impl_BalancesFault.j1 k l i l (l.length : Int) i (!u) b.f0 b.f1 b.f2 else impl_BalancesFault.j1 k l i l (l.length : Int) i true b.f0 b.f1 b.f2) (balsR none l) → Ev (fun k => impl_BalancesFault.l0 k l l (l.length : Int) i) (balsR none l) := fun g _ h => by
    refine Ev.step (fun k => impl_BalancesFault.l0.eq_2 ..) (Ev.pos h1 (Ev.pos h0 (Ev.pos h1 ?_)))
    rw [rdBalance e1]
    exact h
  by_cases hok : balOk b
  · have hj : ∀ r, (Ev (fun k => if i > 0 then (if 0 ≤ (wrap64 (i - 1)) then (if (wrap64 (i - 1)) < (l.length : Int) then ((impl_comparePlaces.f k ((rd_T104 l (wrap64 (i - 1))).f0) ((rd_T104 l (wrap64 (i - 1))).f1) ((rd_T104 l (wrap64 (i - 1))).f2) b.f0 b.f1 b.f2).bind fun t120 => (if t120 ≥ 0 then (some 1) else (impl_BalancesFault.l0 k l l (l.length : Int) (wrap64 (i + 1))))) else (none)) else (none)) else (impl_BalancesFault.l0 k l l (l.length : Int) (wrap64 (i + 1)))) r) → r = balsR none l → Ev (fun k => impl_BalancesFault.l0 k l l (l.length : Int) i) (balsR none l) := fun r h e => by
      refine hstep (fun _ => some _) (Ev.now _) ?_
      rw [isPlace_eq, within_eq]
      refine Ev.let (Ev.pos (by simp only [decide_eq_true_eq]; exact ⟨hok.1, hok.2.1, hok.2.2.1, hok.2.2.2.1⟩) (Ev.let ?_))
      refine Ev.step (fun k => impl_BalancesFault.j1.eq_2 ..) (Ev.neg ?_ (Ev.eq h e))
      simp only [Bool.not_eq_true', decide_eq_false_iff_not, Classical.not_not]
      exact ⟨hok.2.2.2.2.1, hok.2.2.2.2.2⟩
    by_cases hi : i > 0
    · have e2 : l[(wrap64 (i - 1)).toNat]? = some (l[i.toNat - 1]'(by omega)) := by
        rw [w64 (by omega) (by omega), show (i - 1).toNat = i.toNat - 1 by omega]
        exact List.getElem?_eq_getElem (by omega)
      have ha : ahead l i.toNat = some (l[i.toNat - 1]'(by omega)) := by
        unfold ahead
        rw [if_neg (by omega)]
        exact List.getElem?_eq_getElem (by omega)
      generalize hp : l[i.toNat - 1]'(by omega) = p at e2 ha
      obtain ⟨c, hc1, _, hc⟩ := comparePlaces_ev p b
      by_cases hlt : balLt p b
      · refine .inl ⟨(), ?_, fun h => hj _ (Ev.pos hi (Ev.pos (by rw [w64 (by omega) (by omega)]; omega) (Ev.pos (by rw [w64 (by omega) (by omega)]; omega) (by rw [rdBalance e2]; exact Ev.bind hc (Ev.neg (fun h2 => (hc1.1 h2) hlt) h))))) rfl⟩
        rw [show (i + 1).toNat = i.toNat + 1 by omega, ahead_succ l i.toNat b e1, ← hs, ha, balsR_ok b _ _ hok (fun a e => by cases e; exact hlt)]
      · refine .inr (hj 1 (Ev.pos hi (Ev.pos (by rw [w64 (by omega) (by omega)]; omega) (Ev.pos (by rw [w64 (by omega) (by omega)]; omega) (by rw [rdBalance e2]; exact Ev.bind hc (Ev.pos (hc1.2 hlt) (Ev.now _)))))) ?_)
        rw [← hs, ha]
        unfold balsR
        rw [if_pos hok, if_neg (fun h => hlt (h p rfl))]
    · have hz : ahead l i.toNat = none := by unfold ahead; rw [if_pos (by omega)]
      refine .inl ⟨(), ?_, fun h => hj _ (Ev.neg hi h) rfl⟩
      rw [show (i + 1).toNat = i.toNat + 1 by omega, ahead_succ l i.toNat b e1, ← hs, hz, balsR_ok b _ _ hok (fun a e => by cases e)]
  · have hr : balsR none l = 3 := by
      rw [← hs]
      unfold balsR
      rw [if_neg hok]
    refine .inr (hstep (fun _ => some _) (Ev.now _) ?_)
    rw [isPlace_eq, within_eq, hr]
    refine Ev.let (Ev.ite (fun h => Ev.let (Ev.step (fun k => impl_BalancesFault.j1.eq_2 ..) (Ev.pos ?_ (Ev.now _)))) (fun _ => Ev.step (fun k => impl_BalancesFault.j1.eq_2 ..) (Ev.pos rfl (Ev.now _))))
    simp only [decide_eq_true_eq] at h
    simp only [Bool.not_eq_true', decide_eq_false_iff_not]
    exact fun h2 => hok ⟨h.1, h.2.1, h.2.2.1, h.2.2.2, h2.1, h2.2⟩

theorem spec_BalancesFault_ev (l : List S104) (hl : (l.length : Int) ≤ 9000000000000000000) : Ev (fun k => spec_BalancesFault.f k l) (balsFault l) := by
  unfold spec_BalancesFault.f balsFault
  by_cases hm : l.length > 18
  · rw [if_pos hm]
    exact Ev.pos (by omega) (Ev.now _)
  rw [if_neg hm]
  refine Ev.neg (by omega) ?_
  refine Ev.upto1 (fun k (_ : Unit) i => spec_BalancesFault.l0 k l i) l.length (by omega) (fun i _ => balsR (ahead l i.toNat) (l.drop i.toNat) = balsR none l ∧ ∀ a, ahead l i.toNat = some a → balOk a) (balsR none l)
    (fun i s h0 h1 ⟨hs, hpo⟩ => ?_) (fun s ⟨hs, _⟩ => Ev.step (fun k => spec_BalancesFault.l0.eq_2 ..) (Ev.neg (by omega) (Ev.eq (Ev.now _) (by rw [← hs, List.drop_eq_nil_of_le (by omega)]; cases ahead l _ <;> rfl)))) 0 () (by omega) (by omega) ⟨rfl, fun a h => by simp [ahead] at h⟩
  have e1 : l[i.toNat]? = some (l[i.toNat]'(by omega)) := List.getElem?_eq_getElem (by omega)
  rw [drop_cons_at l i.toNat (by omega)] at hs
  generalize hb : l[i.toNat]'(by omega) = b at hs e1
  have hstep : Ev (fun k => (spec_l2Key.f b.f0 b.f1).bind fun t => if t = true then (spec_l1In.f b.f2 1 1000000000000).bind fun u => spec_BalancesFault.j1 k l i (!u) b.f0 b.f1 b.f2 else spec_BalancesFault.j1 k l i true b.f0 b.f1 b.f2) (balsR none l) → Ev (fun k => spec_BalancesFault.l0 k l i) (balsR none l) := fun h => by
    refine Ev.step (fun k => spec_BalancesFault.l0.eq_2 ..) (Ev.pos h1 (Ev.pos h0 ?_))
    rw [rdBalance e1]
    exact h
  by_cases hok : balOk b
  · have hj : ∀ r, (Ev (fun k => if i > 0 then (if 0 ≤ (wrap64 (i - 1)) then (if (wrap64 (i - 1)) < (l.length : Int) then (if (wrap64 ((wrap64 (b.f0 * 3)) + b.f1)) ≤ (wrap64 ((wrap64 (((rd_T104 l (wrap64 (i - 1))).f0) * 3)) + ((rd_T104 l (wrap64 (i - 1))).f1))) then (some 1) else (spec_BalancesFault.l0 k l (wrap64 (i + 1)))) else (none)) else (none)) else (spec_BalancesFault.l0 k l (wrap64 (i + 1)))) r) → r = balsR none l → Ev (fun k => spec_BalancesFault.l0 k l i) (balsR none l) := fun r h e => by
      refine hstep ?_
      rw [l2Key_eq, l1In_eq]
      refine Ev.let (Ev.pos (by simp only [decide_eq_true_eq]; exact ⟨hok.1, hok.2.1, hok.2.2.1, hok.2.2.2.1⟩) (Ev.let ?_))
      refine Ev.step (fun k => spec_BalancesFault.j1.eq_2 ..) (Ev.neg ?_ (Ev.eq h e))
      simp only [Bool.not_eq_true', decide_eq_false_iff_not, Classical.not_not]
      exact ⟨hok.2.2.2.2.1, hok.2.2.2.2.2⟩
    have hnext : ∀ a, ahead l (i + 1).toNat = some a → balOk a := fun a ha => by
      rw [show (i + 1).toNat = i.toNat + 1 by omega, ahead_succ l i.toNat b e1] at ha
      cases ha
      exact hok
    by_cases hi : i > 0
    · have e2 : l[(wrap64 (i - 1)).toNat]? = some (l[i.toNat - 1]'(by omega)) := by
        rw [w64 (by omega) (by omega), show (i - 1).toNat = i.toNat - 1 by omega]
        exact List.getElem?_eq_getElem (by omega)
      have ha : ahead l i.toNat = some (l[i.toNat - 1]'(by omega)) := by
        unfold ahead
        rw [if_neg (by omega)]
        exact List.getElem?_eq_getElem (by omega)
      generalize hp : l[i.toNat - 1]'(by omega) = p at e2 ha
      have hpok := hpo p ha
      have hcmp : ((wrap64 ((wrap64 (b.f0 * 3)) + b.f1)) ≤ (wrap64 ((wrap64 (p.f0 * 3)) + p.f1))) ↔ ¬ balLt p b := by
        unfold balOk at hok hpok
        unfold balLt
        rw [w64 (x := b.f0 * 3) (by omega) (by omega), w64 (x := p.f0 * 3) (by omega) (by omega), w64 (x := b.f0 * 3 + b.f1) (by omega) (by omega), w64 (x := p.f0 * 3 + p.f1) (by omega) (by omega)]
        omega
      by_cases hlt : balLt p b
      · refine .inl ⟨(), ⟨?_, hnext⟩, fun h => hj _ (Ev.pos hi (Ev.pos (by rw [w64 (by omega) (by omega)]; omega) (Ev.pos (by rw [w64 (by omega) (by omega)]; omega) (by rw [rdBalance e2]; exact Ev.neg (fun h2 => (hcmp.1 h2) hlt) h)))) rfl⟩
        rw [show (i + 1).toNat = i.toNat + 1 by omega, ahead_succ l i.toNat b e1, ← hs, ha, balsR_ok b _ _ hok (fun a e => by cases e; exact hlt)]
      · refine .inr (hj 1 (Ev.pos hi (Ev.pos (by rw [w64 (by omega) (by omega)]; omega) (Ev.pos (by rw [w64 (by omega) (by omega)]; omega) (by rw [rdBalance e2]; exact Ev.pos (hcmp.2 hlt) (Ev.now _))))) ?_)
        rw [← hs, ha]
        unfold balsR
        rw [if_pos hok, if_neg (fun h => hlt (h p rfl))]
    · have hz : ahead l i.toNat = none := by unfold ahead; rw [if_pos (by omega)]
      refine .inl ⟨(), ⟨?_, hnext⟩, fun h => hj _ (Ev.neg hi h) rfl⟩
      rw [show (i + 1).toNat = i.toNat + 1 by omega, ahead_succ l i.toNat b e1, ← hs, hz, balsR_ok b _ _ hok (fun a e => by cases e)]
  · have hr : balsR none l = 3 := by
      rw [← hs]
      unfold balsR
      rw [if_neg hok]
    refine .inr (hstep ?_)
    rw [l2Key_eq, l1In_eq, hr]
    refine Ev.let (Ev.ite (fun h => Ev.let (Ev.step (fun k => spec_BalancesFault.j1.eq_2 ..) (Ev.pos ?_ (Ev.now _)))) (fun _ => Ev.step (fun k => spec_BalancesFault.j1.eq_2 ..) (Ev.pos rfl (Ev.now _))))
    simp only [decide_eq_true_eq] at h
    simp only [Bool.not_eq_true', decide_eq_false_iff_not]
    exact fun h2 => hok ⟨h.1, h.2.1, h.2.2.1, h.2.2.2, h2.1, h2.2⟩

theorem rdBB {l : List (List S104)} {i : Int} {v : List S104} (h : l[i.toNat]? = some v) : rd_L3 l i = v := by
  unfold rd_L3
  rw [List.getD_eq_getElem?_getD, h]
  rfl
open Classical in
/-- What LedgerFault tells of shards, one behind the other. -/
noncomputable def shardsR : List (List S104) → Int
  | [] => 0
  | l :: g => if balsFault l = 0 then shardsR g else balsFault l
open Classical in
theorem shardsR_cons (l : List S104) (g : List (List S104)) : shardsR (l :: g) = if balsFault l = 0 then shardsR g else balsFault l := rfl
noncomputable def ledgerFault (g : List (List S104)) : Int := if 1 ≤ g.length ∧ g.length ≤ 3 then shardsR g else 2
theorem impl_LedgerFault_ev (g : List (List S104)) (hb : ∀ l ∈ g, (l.length : Int) ≤ 9000000000000000000) : Ev (fun k => impl_LedgerFault.f k g) (ledgerFault g) := by
  unfold impl_LedgerFault.f impl_size_impl_Balance.f ledgerFault
  refine Ev.let (Ev.bind (Ev.is (within_eq _ _ _)) ?_)
  by_cases hg : 1 ≤ g.length ∧ g.length ≤ 3
  · rw [if_pos hg]
    refine Ev.pos (by simp only [decide_eq_true_eq]; omega) ?_
    refine Ev.upto1 (fun k (_ : Unit) i => impl_LedgerFault.l0 k g (g.length : Int) i) g.length (by omega) (fun i _ => shardsR (g.drop i.toNat) = shardsR g) (shardsR g)
      (fun i s h0 h1 hs => ?_) (fun s hs => Ev.step (fun k => impl_LedgerFault.l0.eq_2 ..) (Ev.neg (by omega) (Ev.eq (Ev.now _) (by rw [← hs, List.drop_eq_nil_of_le (by omega)]; rfl)))) 0 () (by omega) (by omega) rfl
    have e1 : g[i.toNat]? = some (g[i.toNat]'(by omega)) := List.getElem?_eq_getElem (by omega)
    have hl := hb _ (List.getElem_mem (l := g) (n := i.toNat) (by omega))
    rw [drop_cons_at g i.toNat (by omega)] at hs
    generalize g[i.toNat]'(by omega) = l at hs e1 hl
    rw [shardsR_cons] at hs
    by_cases hf : balsFault l = 0
    · rw [if_pos hf] at hs
      refine .inl ⟨(), by rw [show (i + 1).toNat = i.toNat + 1 by omega]; exact hs, fun h => Ev.step (fun k => impl_LedgerFault.l0.eq_2 ..) (Ev.pos h1 (Ev.pos h0 (Ev.pos h1 ?_)))⟩
      rw [rdBB e1]
      exact Ev.bind (impl_BalancesFault_ev l hl) (Ev.pos hf h)
    · rw [if_neg hf] at hs
      refine .inr (Ev.step (fun k => impl_LedgerFault.l0.eq_2 ..) (Ev.pos h1 (Ev.pos h0 (Ev.pos h1 ?_))))
      rw [rdBB e1, ← hs]
      exact Ev.bind (impl_BalancesFault_ev l hl) (Ev.neg hf (Ev.now _))
  · rw [if_neg hg]
    exact Ev.neg (by simp only [decide_eq_true_eq]; omega) (Ev.now _)
theorem spec_LedgerFault_ev (g : List (List S104)) (hb : ∀ l ∈ g, (l.length : Int) ≤ 9000000000000000000) : Ev (fun k => spec_LedgerFault.f k g) (ledgerFault g) := by
  unfold spec_LedgerFault.f ledgerFault
  by_cases hg : 1 ≤ g.length ∧ g.length ≤ 3
  · rw [if_pos hg]
    refine Ev.neg (by omega) (Ev.step (fun k => spec_LedgerFault.j0.eq_2 ..) (Ev.neg (by simp only [decide_eq_true_eq]; omega) ?_))
    refine Ev.upto1 (fun k (_ : Unit) i => spec_LedgerFault.l0 k i g) g.length (by omega) (fun i _ => shardsR (g.drop i.toNat) = shardsR g) (shardsR g)
      (fun i s h0 h1 hs => ?_) (fun s hs => Ev.step (fun k => spec_LedgerFault.l0.eq_2 ..) (Ev.neg (by omega) (Ev.eq (Ev.now _) (by rw [← hs, List.drop_eq_nil_of_le (by omega)]; rfl)))) 0 () (by omega) (by omega) rfl
    have e1 : g[i.toNat]? = some (g[i.toNat]'(by omega)) := List.getElem?_eq_getElem (by omega)
    have hl := hb _ (List.getElem_mem (l := g) (n := i.toNat) (by omega))
    rw [drop_cons_at g i.toNat (by omega)] at hs
    generalize g[i.toNat]'(by omega) = l at hs e1 hl
    rw [shardsR_cons] at hs
    by_cases hf : balsFault l = 0
    · rw [if_pos hf] at hs
      refine .inl ⟨(), by rw [show (i + 1).toNat = i.toNat + 1 by omega]; exact hs, fun h => Ev.step (fun k => spec_LedgerFault.l0.eq_2 ..) (Ev.pos h1 (Ev.pos h0 ?_))⟩
      rw [rdBB e1]
      exact Ev.bind (spec_BalancesFault_ev l hl) (Ev.pos hf h)
    · rw [if_neg hf] at hs
      refine .inr (Ev.step (fun k => spec_LedgerFault.l0.eq_2 ..) (Ev.pos h1 (Ev.pos h0 ?_)))
      rw [rdBB e1, ← hs]
      exact Ev.bind (spec_BalancesFault_ev l hl) (Ev.neg hf (Ev.now _))
  · rw [if_neg hg]
    by_cases h1 : (g.length : Int) < 1
    · exact Ev.pos h1 (Ev.step (fun k => spec_LedgerFault.j0.eq_2 ..) (Ev.pos rfl (Ev.now _)))
    · exact Ev.neg h1 (Ev.step (fun k => spec_LedgerFault.j0.eq_2 ..) (Ev.pos (by simp only [decide_eq_true_eq]; omega) (Ev.now _)))

theorem balLt_trans {a b c : S104} (h : balLt a b) (k : balLt b c) : balLt a c := by
  unfold balLt at *
  omega
open Classical in
theorem balsR_sorted (l : List S104) : ∀ p, balsR p l = 0 → (∀ b ∈ l, balOk b) ∧ l.Pairwise balLt ∧ ∀ a, p = some a → ∀ b ∈ l, balLt a b := by
  induction l with
  | nil => intro p _; exact ⟨by simp, .nil, by simp⟩
  | cons b l ih =>
    intro p h
    unfold balsR at h
    by_cases h1 : balOk b
    · rw [if_pos h1] at h
      by_cases h2 : ∀ a, p = some a → balLt a b
      · rw [if_pos h2] at h
        obtain ⟨q1, q2, q3⟩ := ih _ h
        have q4 := q3 b rfl
        refine ⟨fun c hc => ?_, List.pairwise_cons.2 ⟨q4, q2⟩, fun a ha c hc => ?_⟩
        · rcases List.mem_cons.1 hc with rfl | hc
          · exact h1
          · exact q1 c hc
        · rcases List.mem_cons.1 hc with rfl | hc
          · exact h2 a ha
          · exact balLt_trans (h2 a ha) (q4 c hc)
      · rw [if_neg h2] at h
        exact absurd h (by decide)
    · rw [if_neg h1] at h
      exact absurd h (by decide)
theorem shardsR_zero (g : List (List S104)) (h : shardsR g = 0) : ∀ l ∈ g, balsFault l = 0 := by
  induction g with
  | nil => simp
  | cons l g ih =>
    rw [shardsR_cons] at h
    by_cases hf : balsFault l = 0
    · rw [if_pos hf] at h
      intro m hm
      rcases List.mem_cons.1 hm with rfl | hm
      · exact hf
      · exact ih h m hm
    · rw [if_neg hf] at h
      exact absurd h hf
theorem ledger_sorted (g : List (List S104)) (h : ledgerFault g = 0) : g.length ≤ 3 ∧ ∀ l ∈ g, l.length ≤ 18 ∧ (∀ b ∈ l, balOk b) ∧ l.Pairwise balLt := by
  unfold ledgerFault at h
  by_cases hg : 1 ≤ g.length ∧ g.length ≤ 3
  · rw [if_pos hg] at h
    refine ⟨hg.2, fun l hl => ?_⟩
    have := shardsR_zero g h l hl
    unfold balsFault at this
    by_cases h18 : l.length > 18
    · rw [if_pos h18] at this
      exact absurd this (by decide)
    · rw [if_neg h18] at this
      obtain ⟨q1, q2, _⟩ := balsR_sorted l none this
      exact ⟨by omega, q1, q2⟩
  · rw [if_neg hg] at h
    exact absurd h (by decide)
/-- Does a balance stand at this place? -/
def atPlace (x y : Int) (b : S104) : Prop := b.f0 = x ∧ b.f1 = y
instance (x y : Int) (b : S104) : Decidable (atPlace x y b) := by unfold atPlace; infer_instance
/-- The amount at a place. -/
def amountL (x y : Int) : List S104 → Int
  | [] => 0
  | b :: l => if atPlace x y b then b.f2 else amountL x y l
theorem amountL_cons (x y : Int) (b : S104) (l : List S104) : amountL x y (b :: l) = if atPlace x y b then b.f2 else amountL x y l := rfl
theorem amount_at (x y : Int) (l : List S104) : l.Pairwise balLt → ∀ (i : Nat) (h : i < l.length), atPlace x y (l[i]'h) → amountL x y l = (l[i]'h).f2 := by
  induction l with
  | nil => intro _ i h; exact absurd h (by simp)
  | cons b l ih =>
    intro hp i h hm
    obtain ⟨h1, h2⟩ := List.pairwise_cons.1 hp
    unfold amountL
    cases i with
    | zero => exact if_pos hm
    | succ i =>
      have hi : i < l.length := by simpa using h
      have hlt := h1 _ (List.getElem_mem (l := l) (n := i) hi)
      rw [if_neg]
      · exact ih h2 i hi hm
      · rintro ⟨p, q⟩
        obtain ⟨p', q'⟩ := hm
        simp only [List.getElem_cons_succ] at p' q'
        unfold balLt at hlt
        omega
theorem amount_none (x y : Int) (l : List S104) (h : ∀ (i : Nat) (hi : i < l.length), ¬ atPlace x y (l[i]'hi)) : amountL x y l = 0 := by
  induction l with
  | nil => rfl
  | cons b l ih =>
    unfold amountL
    have h0 : ¬ atPlace x y b := h 0 (by simp)
    rw [if_neg h0]
    exact ih (fun i hi => h (i + 1) (by simpa using hi))

theorem spec_l2Has_ev (l : List S104) (x y : Int) (hl : (l.length : Int) ≤ 9000000000000000000) : Ev (fun k => spec_l2Has.f k l x y) (amountL x y l) := by
  unfold spec_l2Has.f
  refine Ev.upto1 (fun k (_ : Unit) i => spec_l2Has.l0 k l x y i) l.length (by omega) (fun i _ => amountL x y (l.drop i.toNat) = amountL x y l) (amountL x y l)
    (fun i s h0 h1 hs => ?_) (fun s hs => Ev.step (fun k => spec_l2Has.l0.eq_2 ..) (Ev.neg (by omega) (Ev.eq (Ev.now _) (by rw [← hs, List.drop_eq_nil_of_le (by omega)]; rfl)))) 0 () (by omega) (by omega) rfl
  have hr := rdBalance_at l i h0 h1
  rw [drop_cons_at l i.toNat (by omega)] at hs
  generalize l[i.toNat]'(by omega) = b at hs hr
  rw [amountL_cons] at hs
  by_cases h2 : b.f0 = x
  · by_cases h3 : b.f1 = y
    · rw [if_pos ⟨h2, h3⟩] at hs
      refine .inr (Ev.step (fun k => spec_l2Has.l0.eq_2 ..) (Ev.pos h1 (Ev.pos h0 ?_)))
      rw [hr]
      exact Ev.pos h2 (Ev.pos h3 (Ev.eq (Ev.now _) hs))
    · rw [if_neg (fun h => h3 h.2)] at hs
      refine .inl ⟨(), by rw [show (i + 1).toNat = i.toNat + 1 by omega]; exact hs, fun h => Ev.step (fun k => spec_l2Has.l0.eq_2 ..) (Ev.pos h1 (Ev.pos h0 ?_))⟩
      rw [hr]
      exact Ev.pos h2 (Ev.neg h3 h)
  · rw [if_neg (fun h => h2 h.1)] at hs
    refine .inl ⟨(), by rw [show (i + 1).toNat = i.toNat + 1 by omega]; exact hs, fun h => Ev.step (fun k => spec_l2Has.l0.eq_2 ..) (Ev.pos h1 (Ev.pos h0 ?_))⟩
    rw [hr]
    exact Ev.neg h2 h
/-- The place searched, as a balance. -/
def placeB (x y : Int) : S104 := ⟨x, y, 0⟩
theorem search_ev (l : List S104) (x y : Int) (hl : l.length ≤ 1000000) (hp : l.Pairwise balLt) : ∀ (d lo hi : Nat), hi - lo ≤ d → lo ≤ hi → hi ≤ l.length → (∀ (j : Nat) (h : j < l.length), j < lo → balLt (l[j]'h) (placeB x y)) → (∀ (j : Nat) (h : j < l.length), hi ≤ j → ¬ balLt (l[j]'h) (placeB x y)) →
    ∃ i : Nat, ∃ f : Bool, Ev (fun k => slices_BinarySearchFunc_impl_Balance.l0 k l (l.length : Int) (lo : Int) (hi : Int) x y 0) ((i : Int), f) ∧ (f = true → ∃ h : i < l.length, atPlace x y (l[i]'h)) ∧ (f = false → ∀ (j : Nat) (h : j < l.length), ¬ atPlace x y (l[j]'h)) := by
  have hpw := List.pairwise_iff_getElem.1 hp
  intro d
  induction d with
  | zero =>
    intro lo hi hd h1 h2 ha hb
    obtain rfl : lo = hi := by omega
    by_cases hn : lo < l.length
    · obtain ⟨c, c1, c2, hc⟩ := comparePlaces_ev (l[lo]'hn) (placeB x y)
      have hr := rdBalance_at l (lo : Int) (by omega) (by omega)
      have hlo := hb lo hn (Nat.le_refl _)
      refine ⟨lo, (c == 0), Ev.step (fun k => slices_BinarySearchFunc_impl_Balance.l0.eq_2 ..) (Ev.neg (by omega) (Ev.pos (by omega) (Ev.pos (by omega) (Ev.pos (by omega) ?_)))), fun hf => ⟨hn, ?_⟩, fun hf j hj => ?_⟩
      · rw [hr]
        exact Ev.bind hc (Ev.now _)
      · have hc0 : c = 0 := by simpa using hf
        have h3 : ¬ balLt (placeB x y) (l[lo]'hn) := fun h => by have := c2.2 h; omega
        unfold balLt placeB at hlo h3
        unfold atPlace
        simp only at hlo h3
        omega
      · have hc0 : c ≠ 0 := by simpa using hf
        have h3 : balLt (placeB x y) (l[lo]'hn) := c2.1 (by have := c1.2 hlo; omega)
        rintro ⟨p, q⟩
        rcases Nat.lt_trichotomy j lo with hjl | hjl | hjl
        · have := ha j hj hjl
          unfold balLt placeB at this
          simp only at this
          omega
        · subst hjl
          unfold balLt placeB at h3
          simp only at h3
          omega
        · have := balLt_trans h3 (hpw lo j hn hj hjl)
          unfold balLt placeB at this
          simp only at this
          omega
    · refine ⟨lo, false, Ev.step (fun k => slices_BinarySearchFunc_impl_Balance.l0.eq_2 ..) (Ev.neg (by omega) (Ev.neg (by omega) (Ev.now _))), fun hf => absurd hf (by decide), fun _ j hj => ?_⟩
      rintro ⟨p, q⟩
      have := ha j hj (by omega)
      unfold balLt placeB at this
      simp only at this
      omega
  | succ d ih =>
    intro lo hi hd h1 h2 ha hb
    by_cases hlt : lo < hi
    · have hmid : wrap64 ((IntKind.u64.wrap (wrap64 ((lo : Int) + (hi : Int)))) / 2) = (((lo + hi) / 2 : Nat) : Int) := by
        rw [w64 (x := (lo : Int) + (hi : Int)) (by omega) (by omega)]
        have hw : IntKind.u64.wrap ((lo : Int) + (hi : Int)) = (lo : Int) + (hi : Int) := by
          show ((lo : Int) + (hi : Int)) % 18446744073709551616 = _
          omega
        rw [hw, w64 (by omega) (by omega)]
        omega
      have hm1 : lo ≤ (lo + hi) / 2 := by omega
      have hm2 : (lo + hi) / 2 < hi := by omega
      generalize (lo + hi) / 2 = m at hmid hm1 hm2
      have hml : m < l.length := by omega
      obtain ⟨c, c1, c2, hc⟩ := comparePlaces_ev (l[m]'hml) (placeB x y)
      have hr := rdBalance_at l (m : Int) (by omega) (by omega)
      by_cases hcn : c < 0
      · have hbl : balLt (l[m]'hml) (placeB x y) := Classical.byContradiction fun h => by have := c1.2 h; omega
        obtain ⟨i, f, he, hf⟩ := ih (m + 1) hi (by omega) (by omega) h2 (fun j hj hjm => by
          rcases Nat.lt_or_ge j m with h | h
          · exact balLt_trans (hpw j m hj hml h) hbl
          · obtain rfl : j = m := by omega
            exact hbl) hb
        refine ⟨i, f, Ev.step (fun k => slices_BinarySearchFunc_impl_Balance.l0.eq_2 ..) (Ev.pos (by omega) ?_), hf⟩
        rw [hmid, w64 (x := (m : Int) + 1) (by omega) (by omega)]
        refine Ev.pos (by omega) (Ev.pos (by omega) ?_)
        rw [hr]
        exact Ev.bind hc (Ev.pos hcn he)
      · have hbl : ¬ balLt (l[m]'hml) (placeB x y) := c1.1 (by omega)
        obtain ⟨i, f, he, hf⟩ := ih lo m (by omega) (by omega) (by omega) ha (fun j hj hjm => by
          rcases Nat.lt_or_ge m j with h | h
          · exact fun hx => hbl (balLt_trans (hpw m j hml hj h) hx)
          · obtain rfl : j = m := by omega
            exact hbl)
        refine ⟨i, f, Ev.step (fun k => slices_BinarySearchFunc_impl_Balance.l0.eq_2 ..) (Ev.pos (by omega) ?_), hf⟩
        rw [hmid]
        refine Ev.pos (by omega) (Ev.pos (by omega) ?_)
        rw [hr]
        exact Ev.bind hc (Ev.neg hcn he)
    · exact ih lo hi (by omega) h1 h2 ha hb
theorem impl_amountIn_ev (l : List S104) (x y : Int) (hl : l.length ≤ 1000000) (hp : l.Pairwise balLt) : Ev (fun k => impl_amountIn.f k l x y) (amountL x y l) := by
  obtain ⟨i, f, he, h1, h2⟩ := search_ev l x y hl hp l.length 0 l.length (by omega) (by omega) (by omega) (by omega) (by omega)
  unfold impl_amountIn.f slices_BinarySearchFunc_impl_Balance.f
  refine Ev.bind he ?_
  cases f with
  | true =>
    obtain ⟨hi, hm⟩ := h1 rfl
    refine Ev.pos rfl (Ev.pos (show (0 : Int) ≤ (i : Int) by omega) (Ev.pos (show (i : Int) < (l.length : Int) by omega) (Ev.eq (Ev.now _) ?_)))
    show (rd_T104 l (i : Int)).f2 = _
    rw [rdBalance_at l (i : Int) (by omega) (by omega), amount_at x y l hp i hi hm]
    rfl
  | false => exact Ev.neg (by simp) (Ev.eq (Ev.now _) (amount_none x y l (h2 rfl)).symm)
theorem rdBB_mem (g : List (List S104)) (s : Int) (h0 : 0 ≤ s) (h1 : s ≤ (g.length : Int) - 1) : rd_L3 g s ∈ g := by
  rw [rdBB (List.getElem?_eq_getElem (show s.toNat < g.length by omega))]
  exact List.getElem_mem _
/-- What LegFault tells of a leg. -/
def legFault (s a t m : Int) : Int := if 0 ≤ s ∧ s ≤ 2 ∧ 0 ≤ a ∧ a ≤ 5 ∧ 0 ≤ t ∧ t ≤ 2 ∧ -1000000000000 ≤ m ∧ m ≤ 1000000000000 then (if m = 0 then 1 else 0) else 3
theorem spec_LegFault_ev (s a t m : Int) : Ev (fun k => spec_LegFault.f k s a t m) (legFault s a t m) := by
  refine ⟨1, fun k hk => ?_⟩
  obtain ⟨k, rfl⟩ : ∃ j, k = j + 1 := ⟨k - 1, by omega⟩
  unfold spec_LegFault.f spec_l1In.f legFault
  by_cases h1 : 0 ≤ s <;> by_cases h2 : s ≤ 2 <;> by_cases h3 : 0 ≤ a <;> by_cases h4 : a ≤ 5 <;> by_cases h5 : 0 ≤ t <;> by_cases h6 : t ≤ 2 <;> by_cases h7 : -1000000000000 ≤ m <;> by_cases h8 : m ≤ 1000000000000 <;> by_cases h9 : m = 0 <;> simp [h1, h2, h3, h4, h5, h6, h7, h8, h9, spec_LegFault.j0]
theorem impl_LegFault_ev (s a t m : Int) : Ev (fun k => impl_LegFault.f k s a t m) (legFault s a t m) := by
  refine ⟨1, fun k hk => ?_⟩
  obtain ⟨k, rfl⟩ : ∃ j, k = j + 1 := ⟨k - 1, by omega⟩
  unfold impl_LegFault.f impl_isShard.f impl_isPlace.f impl_isAsset.f impl_within.f legFault
  by_cases h1 : 0 ≤ s <;> by_cases h2 : s ≤ 2 <;> by_cases h3 : 0 ≤ a <;> by_cases h4 : a ≤ 5 <;> by_cases h5 : 0 ≤ t <;> by_cases h6 : t ≤ 2 <;> by_cases h7 : -1000000000000 ≤ m <;> by_cases h8 : m ≤ 1000000000000 <;> by_cases h9 : m = 0 <;> simp [h1, h2, h3, h4, h5, h6, h7, h8, h9, impl_LegFault.j0]

theorem containsLeg_ev [FN_slices_IndexFunc_impl_Leg] (q : S86 → Bool) (hq : ∀ x : S86, FN_slices_IndexFunc_impl_Leg.f x.f0 x.f1 x.f2 x.f3 = some (q x)) (l : List S86) (hl : l.length ≤ 1000000) : Ev (fun k => slices_ContainsFunc_impl_Leg.f k l) (l.any q) := by
  unfold slices_ContainsFunc_impl_Leg.f slices_IndexFunc_impl_Leg.f
  obtain ⟨r, hr, he⟩ := Ev.upto (fun k (_ : Unit) i => slices_IndexFunc_impl_Leg.l0 k l (l.length : Int) i) l.length (by omega) (fun i _ => (l.drop i.toNat).any q = l.any q) (fun r => r ≥ 0 ↔ l.any q = true)
    (fun i _ h0 h1 hp => by
      have hr := rdLeg_at l i h0 h1
      rw [drop_cons_at l i.toNat (by omega), List.any_cons] at hp
      generalize l[i.toNat]'(by omega) = x at hr hp
      by_cases hx : q x = true
      · rw [hx, Bool.true_or] at hp
        refine .inr ⟨i, ⟨fun _ => hp.symm, fun _ => h0⟩, Ev.step (fun k => slices_IndexFunc_impl_Leg.l0.eq_2 ..) (Ev.pos h1 (Ev.pos h0 (Ev.pos h1 ?_)))⟩
        rw [hr]
        exact Ev.bind (Ev.is (hq x)) (Ev.pos hx (Ev.now _))
      · have hf : q x = false := by simpa using hx
        rw [hf, Bool.false_or] at hp
        refine .inl ⟨(), by rw [show (i + 1).toNat = i.toNat + 1 by omega]; exact hp, fun r h => Ev.step (fun k => slices_IndexFunc_impl_Leg.l0.eq_2 ..) (Ev.pos h1 (Ev.pos h0 (Ev.pos h1 ?_)))⟩
        rw [hr]
        exact Ev.bind (Ev.is (hq x)) (Ev.neg hx h))
    (fun _ hp => ⟨-1, by rw [← hp, List.drop_eq_nil_of_le (by omega)]; simp, Ev.step (fun k => slices_IndexFunc_impl_Leg.l0.eq_2 ..) (Ev.neg (by omega) (Ev.now _))⟩)
    0 () (by omega) (by omega) rfl
  refine Ev.bind he (Ev.eq (Ev.now _) ?_)
  rw [Bool.eq_iff_iff, decide_eq_true_iff]
  exact hr
/-- Are two legs of one place? -/
def sameP (x w : S86) : Bool := (x.f0 == w.f0 && x.f1 == w.f1) && x.f2 == w.f2
theorem samePlace_eq (x w : S86) : (impl_samePlace.f x.f0 x.f1 x.f2 x.f3 w.f0 w.f1 w.f2 w.f3 == some true) = sameP x w := by
  unfold impl_samePlace.f sameP
  by_cases h0 : x.f0 = w.f0 <;> by_cases h1 : x.f1 = w.f1 <;> by_cases h2 : x.f2 = w.f2 <;> simp [h0, h1, h2]
def placeIn (l : List S86) (i : Int) (w : S86) : Bool := (l.take i.toNat).any fun x => sameP x w
def finCode (l : List S86) : Int := if ∀ g ∈ l, sumA g.f2 l = 0 then 0 else 1
theorem fin_eq (l : List S86) : impl_ContractFault.fin l = some (finCode l) := by
  unfold impl_ContractFault.fin finCode
  split <;> rfl
/-- What ContractFault tells of the last d legs. -/
def contractFrom (l : List S86) : Nat → Int
  | 0 => finCode l
  | d + 1 => (fun i : Int => (fun x : S86 => if legFault x.f0 x.f1 x.f2 x.f3 = 0 then (if placeIn l i x = true then 7 else contractFrom l d) else legFault x.f0 x.f1 x.f2 x.f3) (rd_T86 l i)) ((l.length : Int) - (d + 1))
def contractFault (id : Int) (l : List S86) : Int := if 1 ≤ id ∧ id ≤ 1000000000 then (if 2 ≤ (l.length : Int) ∧ (l.length : Int) ≤ 8 then contractFrom l l.length else 2) else 3
theorem impl_isId_eq (id : Int) : impl_isId.f id = some (decide (1 ≤ id ∧ id ≤ 1000000000)) := by
  unfold impl_isId.f
  rw [within_eq]
  rfl
theorem impl_ContractFault_ev (id : Int) (l : List S86) : Ev (fun k => impl_ContractFault.f k id l) (contractFault id l) := by
  unfold impl_ContractFault.f impl_size_impl_Leg.f contractFault
  refine Ev.bind (Ev.is (impl_isId_eq id)) ?_
  by_cases hid : 1 ≤ id ∧ id ≤ 1000000000
  · rw [if_pos hid]
    refine Ev.pos (decide_eq_true hid) (Ev.let (Ev.bind (Ev.is (within_eq _ _ _)) ?_))
    by_cases hl : 2 ≤ (l.length : Int) ∧ (l.length : Int) ≤ 8
    · rw [if_pos hl]
      refine Ev.pos (decide_eq_true hl) ?_
      have go : ∀ d : Nat, d ≤ l.length → Ev (fun k => impl_ContractFault.l0 k l (l.length : Int) ((l.length : Int) - d) id l) (contractFrom l d) := by
        intro d
        induction d with
        | zero => intro _; exact Ev.step (fun k => impl_ContractFault.l0.eq_2 ..) (Ev.neg (by omega) (Ev.is (fin_eq l)))
        | succ d ih =>
          intro hd
          have h := ih (by omega)
          refine Ev.step (fun k => impl_ContractFault.l0.eq_2 ..) (Ev.pos (by omega) (Ev.pos (by omega) (Ev.pos (by omega) (Ev.bind (impl_LegFault_ev ..) ?_))))
          rw [w64 (x := (l.length : Int) - ((d + 1 : Nat) : Int) + 1) (by omega) (by omega), show (l.length : Int) - ((d + 1 : Nat) : Int) + 1 = (l.length : Int) - d by omega]
          rw [show ((d + 1 : Nat) : Int) = (d : Int) + 1 by omega]
          unfold contractFrom
          refine Ev.cond (fun _ => Ev.pos (by omega) (Ev.bind ?_ (Ev.cond (fun _ => Ev.now _) (fun _ => h)))) (fun _ => Ev.now _)
          unfold CL_117.f
          exact @containsLeg_ev (CL_117.p _ _ _ _) (fun x => sameP x (rd_T86 l ((l.length : Int) - ((d : Int) + 1)))) (fun x => congrArg some (samePlace_eq x _)) _ (by rw [List.length_take]; omega)
      have := go l.length (by omega)
      rw [show (l.length : Int) - (l.length : Nat) = 0 by omega] at this
      exact this
    · rw [if_neg hl]
      exact Ev.neg (fun h => hl (of_decide_eq_true h)) (Ev.now _)
  · rw [if_neg hid]
    exact Ev.neg (fun h => hid (of_decide_eq_true h)) (Ev.now _)
theorem legFault_asset {s a t m : Int} (h : legFault s a t m = 0) : 0 ≤ t ∧ t ≤ 2 := by
  unfold legFault at h
  split at h
  · next hh => exact ⟨hh.2.2.2.2.1, hh.2.2.2.2.2.1⟩
  · omega
/-- The reference's sums. -/
structure SumsAre (x3 : List Int) (l : List S86) (i : Int) : Prop where
  three : x3.length = 3
  is : ∀ a : Int, 0 ≤ a → a ≤ 2 → rd x3 a = sumA a (l.take i.toNat)
  low : ∀ g ∈ l.take i.toNat, 0 ≤ g.f2 ∧ g.f2 ≤ 2
theorem rd_set (l : List Int) (a b v : Int) (ha : 0 ≤ a) (hb : 0 ≤ b) (hl : b < (l.length : Int)) : rd (l.set b.toNat v) a = if a = b then v else rd l a := by
  unfold rd
  rw [List.getD_eq_getElem?_getD, List.getD_eq_getElem?_getD, List.getElem?_set]
  by_cases h : a = b
  · subst h
    rw [if_pos rfl, if_pos rfl, if_pos (by omega)]
    rfl
  · rw [if_neg h, if_neg (by omega)]
theorem take_succ_at (l : List S86) (i : Int) (h0 : 0 ≤ i) (h1 : i < (l.length : Int)) : l.take (i + 1).toNat = l.take i.toNat ++ [rd_T86 l i] := by
  rw [show (i + 1).toNat = i.toNat + 1 by omega, List.take_add_one, List.getElem?_eq_getElem (show i.toNat < l.length by omega), rdLeg_at l i h0 h1]
  rfl
theorem sums_end (x3 : List Int) (l : List S86) (h : SumsAre x3 l (l.length : Int)) : Ev (fun k => spec_ContractFault.l2 k x3 0) (finCode l) := by
  have hall : l.take ((l.length : Int)).toNat = l := List.take_of_length_le (by omega)
  have his := h.is
  have hlow := h.low
  have h3 := h.three
  rw [hall] at his hlow
  refine Ev.upto1 (fun k (_ : Unit) i => spec_ContractFault.l2 k x3 i) 3 (by omega) (fun i _ => ∀ a : Int, 0 ≤ a → a < i → sumA a l = 0) (finCode l) (fun i _ h0 h1 hp => ?_) (fun _ hp => ?_) 0 () (by omega) (by omega) (fun a h0 h1 => by omega)
  · have hi := his i h0 (by omega)
    by_cases hz : rd x3 i = 0
    · refine .inl ⟨(), fun a a0 a1 => ?_, fun hh => Ev.step (fun k => spec_ContractFault.l2.eq_2 ..) (Ev.pos (by omega) (Ev.pos h0 (Ev.pos hz hh)))⟩
      by_cases ha : a = i
      · rw [ha, ← hi, hz]
      · exact hp a a0 (by omega)
    · have hf : finCode l = 1 := if_neg (fun hh => by
        obtain ⟨g, hg, hgi⟩ := sumA_mem (a := i) (l := l) (by rw [← hi]; exact hz)
        apply hz
        rw [hi, ← hgi]
        exact hh g hg)
      rw [hf]
      exact .inr (Ev.step (fun k => spec_ContractFault.l2.eq_2 ..) (Ev.pos (by omega) (Ev.pos h0 (Ev.neg hz (Ev.now _)))))
  · have hf : finCode l = 0 := by
      unfold finCode
      exact if_pos (fun (g : S86) hg => hp g.f2 (hlow g hg).1 (by have := (hlow g hg).2; omega))
    rw [hf]
    exact Ev.step (fun k => spec_ContractFault.l2.eq_2 ..) (Ev.neg (by omega) (Ev.now _))
theorem spec_legs_ev (id : Int) (l : List S86) (hl : (l.length : Int) ≤ 8) : ∀ d : Nat, d ≤ l.length → ∀ x3, SumsAre x3 l ((l.length : Int) - d) → Ev (fun k => spec_ContractFault.l0 k x3 ((l.length : Int) - d) id l) (contractFrom l d) := by
  intro d
  induction d with
  | zero =>
    intro _ x3 hs
    refine Ev.step (fun k => spec_ContractFault.l0.eq_2 ..) (Ev.neg (by omega) ?_)
    rw [show (l.length : Int) - ((0 : Nat) : Int) = (l.length : Int) by omega] at hs
    exact sums_end x3 l hs
  | succ d ih =>
    intro hd x3 hs
    refine Ev.step (fun k => spec_ContractFault.l0.eq_2 ..) (Ev.pos (by omega) (Ev.pos (by omega) (Ev.bind (spec_LegFault_ev ..) ?_)))
    rw [show ((d + 1 : Nat) : Int) = (d : Int) + 1 by omega] at hs ⊢
    unfold contractFrom
    refine Ev.cond (fun hz => ?_) (fun _ => Ev.now _)
    have hlow := legFault_asset hz
    clear hz
    have hi : (l.length : Int) - ((d : Int) + 1) + 1 = (l.length : Int) - d := by omega
    have h0 : 0 ≤ (l.length : Int) - ((d : Int) + 1) := by omega
    have h1 : (l.length : Int) - ((d : Int) + 1) < (l.length : Int) := by omega
    generalize (l.length : Int) - ((d : Int) + 1) = i at hi h0 h1 hs hlow ⊢
    have hst := sumA_take
    have htk := take_succ_at l i h0 h1
    have hsum : ∀ a, sumA a (l.take (i + 1).toNat) = if a = (rd_T86 l i).f2 then wrap64 (sumA a (l.take i.toNat) + (rd_T86 l i).f3) else sumA a (l.take i.toNat) := fun a => sumA_take a l i h0 h1
    generalize rd_T86 l i = w at hlow htk hsum ⊢
    have hlen : (l.take i.toNat).length = i.toNat := by rw [List.length_take]; omega
    refine Ev.upto1 (fun k (_ : Unit) j => spec_ContractFault.l1 k x3 i j id l w.f0 w.f1 w.f2 w.f3) i (by omega) (fun j _ => ((l.take i.toNat).drop j.toNat).any (fun x => sameP x w) = placeIn l i w) (if placeIn l i w = true then 7 else contractFrom l d)
      (fun j _ j0 j1 hp => ?_) (fun _ hp => ?_) 0 () (by omega) (by omega) (by simp [placeIn])
    · have hr := rdLeg_at l j j0 (by omega)
      have e : (l.take i.toNat)[j.toNat]'(by omega) = l[j.toNat]'(by omega) := by simp
      rw [drop_cons_at (l.take i.toNat) j.toNat (by omega), List.any_cons, e] at hp
      generalize l[j.toNat]'(by omega) = x at hr hp
      by_cases hx : sameP x w = true
      · have hk : placeIn l i w = true := by rw [← hp, hx]; rfl
        rw [hk, if_pos rfl]
        unfold sameP at hx
        rw [Bool.and_eq_true, Bool.and_eq_true, beq_iff_eq, beq_iff_eq, beq_iff_eq] at hx
        refine .inr (Ev.step (fun k => spec_ContractFault.l1.eq_2 ..) (Ev.pos j1 (Ev.pos j0 (Ev.pos (by omega) ?_))))
        rw [hr]
        exact Ev.pos hx.1.1 (Ev.pos hx.1.2 (Ev.pos hx.2 (Ev.now _)))
      · have hb : sameP x w = false := by simpa using hx
        rw [hb, Bool.false_or] at hp
        refine .inl ⟨(), by rw [show (j + 1).toNat = j.toNat + 1 by omega]; exact hp, fun hh => Ev.step (fun k => spec_ContractFault.l1.eq_2 ..) (Ev.pos j1 (Ev.pos j0 (Ev.pos (by omega) ?_)))⟩
        rw [hr]
        refine Ev.ite (fun e0 => Ev.ite (fun e1 => Ev.neg (fun e2 => hx ?_) hh) (fun _ => hh)) (fun _ => hh)
        unfold sameP
        simp [e0, e1, e2]
    · rw [List.drop_eq_nil_of_le (by omega)] at hp
      have hk : placeIn l i w = false := by rw [← hp]; rfl
      rw [hk, if_neg (by simp)]
      have h3 := hs.three
      refine Ev.step (fun k => spec_ContractFault.l1.eq_2 ..) (Ev.neg (by omega) (Ev.pos hlow.1 (Ev.pos (by omega) ?_)))
      rw [w64 (x := i + 1) (by omega) (by omega), hi]
      refine ih (by omega) _ ⟨by rw [List.length_set]; exact h3, fun a a0 a1 => ?_, ?_⟩
      · rw [rd_set x3 a w.f2 _ a0 hlow.1 (by omega), ← hi, hsum a, hs.is w.f2 hlow.1 hlow.2]
        by_cases ha : a = w.f2
        · rw [if_pos ha, if_pos ha, ha]
        · rw [if_neg ha, if_neg ha, hs.is a a0 a1]
      · rw [← hi, htk]
        intro g hg
        rcases List.mem_append.mp hg with hg | hg
        · exact hs.low g hg
        · rw [List.mem_singleton.mp hg]
          exact hlow
theorem spec_l1Id_eq (id : Int) : spec_l1Id.f id = some (decide (1 ≤ id ∧ id ≤ 1000000000)) := by
  unfold spec_l1Id.f
  rw [l1In_eq]
  rfl
theorem spec_ContractFault_ev (id : Int) (l : List S86) : Ev (fun k => spec_ContractFault.f k id l) (contractFault id l) := by
  unfold spec_ContractFault.f contractFault
  refine Ev.bind (Ev.is (spec_l1Id_eq id)) ?_
  by_cases hid : 1 ≤ id ∧ id ≤ 1000000000
  · rw [if_pos hid]
    refine Ev.pos (decide_eq_true hid) ?_
    by_cases hl : 2 ≤ (l.length : Int) ∧ (l.length : Int) ≤ 8
    · rw [if_pos hl]
      refine Ev.neg (by omega) (Ev.step (fun k => spec_ContractFault.j0.eq_2 ..) (Ev.neg (by simp only [decide_eq_true_eq]; omega) (Ev.pos (by omega) ?_)))
      have := spec_legs_ev id l hl.2 l.length (by omega) (List.replicate 3 0) ⟨rfl, fun a a0 a1 => by
        have : a = 0 ∨ a = 1 ∨ a = 2 := by omega
        rw [show (l.length : Int) - (l.length : Nat) = 0 by omega]
        rcases this with rfl | rfl | rfl <;> rfl, fun g hg => by
        rw [show (l.length : Int) - (l.length : Nat) = 0 by omega] at hg
        exact absurd hg (by simp)⟩
      rw [show (l.length : Int) - (l.length : Nat) = 0 by omega] at this
      exact this
    · rw [if_neg hl]
      by_cases h1 : (l.length : Int) < 2
      · exact Ev.pos h1 (Ev.step (fun k => spec_ContractFault.j0.eq_2 ..) (Ev.pos rfl (Ev.now _)))
      · exact Ev.neg h1 (Ev.step (fun k => spec_ContractFault.j0.eq_2 ..) (Ev.pos (by simp only [decide_eq_true_eq]; omega) (Ev.now _)))
  · rw [if_neg hid]
    exact Ev.neg (fun h => hid (of_decide_eq_true h)) (Ev.now _)

/-- The legs at a shard. -/
def legsOf (l : List S86) (s : Int) : List S86 := l.filter fun g => decide (g.f0 = s)
theorem legsOf_succ (l : List S86) (s : Int) (i : Int) (h0 : 0 ≤ i) (h1 : i < (l.length : Int)) : legsOf (l.take (i + 1).toNat) s = if (rd_T86 l i).f0 = s then legsOf (l.take i.toNat) s ++ [rd_T86 l i] else legsOf (l.take i.toNat) s := by
  rw [take_succ_at l i h0 h1]
  unfold legsOf
  rw [List.filter_append]
  by_cases h : (rd_T86 l i).f0 = s
  · rw [if_pos h]
    simp [h]
  · rw [if_neg h]
    simp [h]
theorem legsOf_len (l : List S86) (s : Int) : (legsOf l s).length ≤ l.length := List.length_filter_le _ _
theorem spec_l1Legs_ev (id : Int) (l : List S86) (hl : (l.length : Int) ≤ 8) (s : Int) : Ev (fun k => spec_l1Legs.f k id l s) (legsOf l s) := by
  unfold spec_l1Legs.f
  refine Ev.upto1 (fun k (x : List S86) i => spec_l1Legs.l0 k s x i id l) l.length (by omega) (fun i x => x = legsOf (l.take i.toNat) s) (legsOf l s) (fun i x h0 h1 hx => .inl ?_) (fun x hx => ?_) 0 [] (by omega) (by omega) rfl
  · have hs := legsOf_succ l s i h0 h1
    have hn := legsOf_len (l.take i.toNat) s
    rw [← hx, List.length_take] at hn
    rw [← hx] at hs
    generalize hg : rd_T86 l i = g at hs
    by_cases hf : g.f0 = s
    · rw [if_pos hf] at hs
      refine ⟨x ++ [g], hs.symm, fun h => Ev.step (fun k => spec_l1Legs.l0.eq_2 ..) (Ev.pos h1 (Ev.pos h0 ?_))⟩
      rw [hg]
      exact Ev.pos hf (Ev.pos (by omega) h)
    · rw [if_neg hf] at hs
      refine ⟨x, hs.symm, fun h => Ev.step (fun k => spec_l1Legs.l0.eq_2 ..) (Ev.pos h1 (Ev.pos h0 ?_))⟩
      rw [hg]
      exact Ev.neg hf h
  · rw [List.take_of_length_le (by omega)] at hx
    rw [← hx]
    exact Ev.step (fun k => spec_l1Legs.l0.eq_2 ..) (Ev.neg (by omega) (Ev.now _))
/-- An amount set at a place of balances; 0: the balance goes. -/
def setL (x y m : Int) : Bool → List S104 → List S104
  | done, [] => if done = true then [] else [⟨x, y, m⟩]
  | done, b :: r => if b.f0 = x ∧ b.f1 = y then setL x y m done r else if done = true then b :: setL x y m done r else if b.f0 * 3 + b.f1 > x * 3 + y then ⟨x, y, m⟩ :: b :: setL x y m true r else b :: setL x y m done r
/-- Balances at places, of amounts that are no more than n. -/
def smallB (n : Int) (l : List S104) : Prop := ∀ b ∈ l, (0 ≤ b.f0 ∧ b.f0 ≤ 5) ∧ (0 ≤ b.f1 ∧ b.f1 ≤ 2) ∧ -n ≤ b.f2 ∧ b.f2 ≤ n
theorem setL_nil (x y m : Int) (done : Bool) : setL x y m done [] = if done = true then [] else [⟨x, y, m⟩] := rfl
theorem setL_cons (x y m : Int) (done : Bool) (b : S104) (r : List S104) : setL x y m done (b :: r) = if b.f0 = x ∧ b.f1 = y then setL x y m done r else if done = true then b :: setL x y m done r else if b.f0 * 3 + b.f1 > x * 3 + y then ⟨x, y, m⟩ :: b :: setL x y m true r else b :: setL x y m done r := rfl
theorem setL_len2 (x y m : Int) (l : List S104) : (setL x y m true l).length ≤ l.length ∧ (setL x y m false l).length ≤ l.length + 1 := by
  induction l with
  | nil => exact ⟨Nat.le_refl 0, Nat.le_refl 1⟩
  | cons b r ih =>
    obtain ⟨i1, i2⟩ := ih
    rw [setL_cons, setL_cons]
    by_cases h1 : b.f0 = x ∧ b.f1 = y
    · rw [if_pos h1, if_pos h1, List.length_cons]
      omega
    · rw [if_neg h1, if_neg h1, if_pos rfl, if_neg Bool.false_ne_true]
      refine ⟨by rw [List.length_cons, List.length_cons]; omega, ?_⟩
      by_cases h3 : b.f0 * 3 + b.f1 > x * 3 + y
      · rw [if_pos h3, List.length_cons, List.length_cons, List.length_cons]; omega
      · rw [if_neg h3, List.length_cons, List.length_cons]; omega
theorem setL_len (x y m : Int) (l : List S104) (done : Bool) : (setL x y m done l).length ≤ l.length + 1 := by
  have := setL_len2 x y m l
  cases done
  · exact this.2
  · omega
theorem setL_small (n x y m : Int) (hx : 0 ≤ x ∧ x ≤ 5) (hy : 0 ≤ y ∧ y ≤ 2) (hm : -n ≤ m ∧ m ≤ n) (l : List S104) (h : smallB n l) : ∀ done, smallB n (setL x y m done l) := by
  induction l with
  | nil =>
    intro done b hb
    rw [setL_nil] at hb
    cases done
    · rw [if_neg Bool.false_ne_true] at hb
      obtain rfl := List.mem_singleton.1 hb
      exact ⟨hx, hy, hm⟩
    · rw [if_pos rfl] at hb
      cases hb
  | cons c r ih =>
    intro done b hb
    have ih := ih (fun b hb => h b (List.mem_cons_of_mem _ hb))
    rw [setL_cons] at hb
    by_cases h1 : c.f0 = x ∧ c.f1 = y
    · rw [if_pos h1] at hb
      exact ih done b hb
    · rw [if_neg h1] at hb
      by_cases h2 : done = true
      · rw [if_pos h2] at hb
        rcases List.mem_cons.1 hb with rfl | hb
        · exact h _ List.mem_cons_self
        · exact ih done b hb
      · rw [if_neg h2] at hb
        by_cases h3 : c.f0 * 3 + c.f1 > x * 3 + y
        · rw [if_pos h3] at hb
          rcases List.mem_cons.1 hb with rfl | hb
          · exact ⟨hx, hy, hm⟩
          · rcases List.mem_cons.1 hb with rfl | hb
            · exact h _ List.mem_cons_self
            · exact ih true b hb
        · rw [if_neg h3] at hb
          rcases List.mem_cons.1 hb with rfl | hb
          · exact h _ List.mem_cons_self
          · exact ih done b hb
theorem spec_l2Set_ev (n : Int) (l : List S104) (h : smallB n l) (hl : l.length ≤ 1000000) (x y m : Int) (hx : 0 ≤ x ∧ x ≤ 5) (hy : 0 ≤ y ∧ y ≤ 2) : Ev (fun k => spec_l2Set.f k l x y m) (setL x y m (m == 0) l) := by
  unfold spec_l2Set.f
  refine Ev.upto1 (fun k (s : List S104 × Bool) i => spec_l2Set.l0 k l x y m s.1 s.2 i) l.length (by omega) (fun i s => s.1 ++ setL x y m s.2 (l.drop i.toNat) = setL x y m (m == 0) l ∧ (s.1.length : Int) ≤ 2 * i) _
    (fun i s h0 h1 ⟨hs, hn⟩ => .inl ?_) (fun s ⟨hs, hn⟩ => ?_) 0 ([], m == 0) (by omega) (by omega) ⟨by simp, by simp⟩
  · have hr := rdBalance_at l i h0 h1
    have hb := h _ (List.getElem_mem (show i.toNat < l.length by omega))
    rw [drop_cons_at l i.toNat (by omega)] at hs
    rw [← hr] at hs hb
    have e1 : (i + 1).toNat = i.toNat + 1 := by omega
    obtain ⟨⟨b0, b1⟩, ⟨b2, b3⟩, _⟩ := hb
    have w1 : wrap64 (wrap64 ((rd_T104 l i).f0 * 3) + (rd_T104 l i).f1) = (rd_T104 l i).f0 * 3 + (rd_T104 l i).f1 := by rw [w64 (x := (rd_T104 l i).f0 * 3) (by omega) (by omega), w64 (by omega) (by omega)]
    have w2 : wrap64 (wrap64 (x * 3) + y) = x * 3 + y := by rw [w64 (x := x * 3) (by omega) (by omega), w64 (by omega) (by omega)]
    have hgo : ∀ r, Ev (fun k => spec_l2Set.j1 k l x y m s.1 s.2 i (decide ((rd_T104 l i).f0 = x ∧ (rd_T104 l i).f1 = y)) (rd_T104 l i).f0 (rd_T104 l i).f1 (rd_T104 l i).f2) r → Ev (fun k => spec_l2Set.l0 k l x y m s.1 s.2 i) r := fun r hh => by
      refine Ev.step (fun k => spec_l2Set.l0.eq_2 ..) (Ev.pos h1 (Ev.pos h0 ?_))
      by_cases hx' : (rd_T104 l i).f0 = x
      · refine Ev.pos hx' ?_
        have : ((rd_T104 l i).f1 == y) = decide ((rd_T104 l i).f0 = x ∧ (rd_T104 l i).f1 = y) := by
          by_cases hy' : (rd_T104 l i).f1 = y <;> simp [hx', hy']
        rw [this]
        exact hh
      · refine Ev.neg hx' ?_
        have : false = decide ((rd_T104 l i).f0 = x ∧ (rd_T104 l i).f1 = y) := by simp [hx']
        rw [this]
        exact hh
    generalize hbv : rd_T104 l i = b at hs hgo w1
    rw [setL_cons] at hs
    by_cases c1 : b.f0 = x ∧ b.f1 = y
    · rw [if_pos c1] at hs
      exact ⟨s, ⟨by rw [e1]; exact hs, by omega⟩, fun hh => hgo _ (Ev.step (fun k => spec_l2Set.j1.eq_2 ..) (Ev.pos (decide_eq_true c1) hh))⟩
    · rw [if_neg c1] at hs
      by_cases c2 : s.2 = true
      · rw [if_pos c2] at hs
        exact ⟨(s.1 ++ [⟨b.f0, b.f1, b.f2⟩], s.2), ⟨by rw [e1, List.append_assoc]; exact hs, by simp; omega⟩, fun hh => hgo _ (Ev.step (fun k => spec_l2Set.j1.eq_2 ..) (Ev.neg (by simpa using c1) (Ev.pos c2 (Ev.pos (by omega) hh))))⟩
      · rw [if_neg c2] at hs
        by_cases c3 : b.f0 * 3 + b.f1 > x * 3 + y
        · rw [if_pos c3] at hs
          refine ⟨(s.1 ++ [⟨x, y, m⟩] ++ [⟨b.f0, b.f1, b.f2⟩], true), ⟨by rw [e1, List.append_assoc, List.append_assoc]; exact hs, by simp; omega⟩, fun hh => hgo _ (Ev.step (fun k => spec_l2Set.j1.eq_2 ..) (Ev.neg (by simpa using c1) (Ev.neg c2 ?_)))⟩
          rw [w1, w2]
          exact Ev.pos c3 (Ev.pos (by omega) (Ev.let (Ev.pos (by simp; omega) hh)))
        · rw [if_neg c3] at hs
          refine ⟨(s.1 ++ [⟨b.f0, b.f1, b.f2⟩], s.2), ⟨by rw [e1, List.append_assoc]; exact hs, by simp; omega⟩, fun hh => hgo _ (Ev.step (fun k => spec_l2Set.j1.eq_2 ..) (Ev.neg (by simpa using c1) (Ev.neg c2 ?_)))⟩
          rw [w1, w2]
          exact Ev.neg c3 (Ev.pos (by omega) hh)
  · rw [show ((l.length : Int)).toNat = l.length by omega, List.drop_length, setL_nil] at hs
    refine Ev.step (fun k => spec_l2Set.l0.eq_2 ..) (Ev.neg (by omega) ?_)
    by_cases c2 : s.2 = true
    · rw [if_pos c2, List.append_nil] at hs
      exact Ev.pos c2 (Ev.eq (Ev.now _) hs)
    · rw [if_neg c2] at hs
      exact Ev.neg c2 (Ev.pos (by omega) (Ev.eq (Ev.now _) hs))
/-- A leg added to balances. -/
def addL (l : List S104) (g : S86) : List S104 := setL g.f1 g.f2 (amountL g.f1 g.f2 l + g.f3) (amountL g.f1 g.f2 l + g.f3 == 0) l
def smallG (g : S86) : Prop := (0 ≤ g.f1 ∧ g.f1 ≤ 5) ∧ (0 ≤ g.f2 ∧ g.f2 ≤ 2) ∧ -1000000000000 ≤ g.f3 ∧ g.f3 ≤ 1000000000000
theorem amount_small (n x y : Int) (h0 : 0 ≤ n) (l : List S104) (h : smallB n l) : -n ≤ amountL x y l ∧ amountL x y l ≤ n := by
  induction l with
  | nil => exact ⟨by show -n ≤ 0; omega, h0⟩
  | cons b r ih =>
    rw [amountL_cons]
    split
    · exact (h b List.mem_cons_self).2.2
    · exact ih (fun x hx => h x (List.mem_cons_of_mem _ hx))
theorem addL_small (n : Int) (h0 : 0 ≤ n) (l : List S104) (h : smallB n l) (g : S86) (hg : smallG g) : smallB (n + 1000000000000) (addL l g) := by
  have ha := amount_small n g.f1 g.f2 h0 l h
  exact setL_small _ _ _ _ hg.1 hg.2.1 ⟨by have := hg.2.2; omega, by have := hg.2.2; omega⟩ l (fun b hb => ⟨(h b hb).1, (h b hb).2.1, by have := (h b hb).2.2; omega, by have := (h b hb).2.2; omega⟩) _
theorem addL_len (l : List S104) (g : S86) : (addL l g).length ≤ l.length + 1 := by
  have := setL_len g.f1 g.f2 (amountL g.f1 g.f2 l + g.f3) l (amountL g.f1 g.f2 l + g.f3 == 0)
  exact this
def addsL (l : List S104) (gs : List S86) : List S104 := gs.foldl addL l
theorem spec_l2Add_loop (gs : List S86) (hg : ∀ g ∈ gs, smallG g) (hl : gs.length ≤ 8) : ∀ (d : Nat) (l : List S104) (n : Int), d ≤ gs.length → 0 ≤ n → n + 1000000000000 * (d : Int) ≤ 1000000000000000 → smallB n l → l.length + d ≤ 100000 →
    Ev (fun k => spec_l2Add.l0 k gs l ((gs.length : Int) - d)) (addsL l (gs.drop (gs.length - d))) := by
  intro d
  induction d with
  | zero =>
    intro l n _ _ _ _ _
    rw [Nat.sub_zero, List.drop_length]
    exact Ev.step (fun k => spec_l2Add.l0.eq_2 ..) (Ev.neg (by omega) (Ev.now _))
  | succ d ih =>
    intro l n hd h0 hn hs hlen
    have hlt : gs.length - (d + 1) < gs.length := by omega
    have hi : (gs.length : Int) - ((d + 1 : Nat) : Int) = ((gs.length - (d + 1) : Nat) : Int) := by omega
    have hr : rd_T86 gs ((gs.length : Int) - ((d + 1 : Nat) : Int)) = gs[gs.length - (d + 1)] := by rw [hi]; exact rdLeg_at gs _ (by omega) (by omega)
    have hgg := hg _ (List.getElem_mem hlt)
    have ham := amount_small n gs[gs.length - (d + 1)].f1 gs[gs.length - (d + 1)].f2 h0 l hs
    have h1 := spec_l2Has_ev l gs[gs.length - (d + 1)].f1 gs[gs.length - (d + 1)].f2 (by omega)
    have h2 := spec_l2Set_ev n l hs (by omega) gs[gs.length - (d + 1)].f1 gs[gs.length - (d + 1)].f2 (amountL gs[gs.length - (d + 1)].f1 gs[gs.length - (d + 1)].f2 l + gs[gs.length - (d + 1)].f3) hgg.1 hgg.2.1
    have hsm := addL_small n h0 l hs _ hgg
    have hal := addL_len l gs[gs.length - (d + 1)]
    have ih := ih (addL l gs[gs.length - (d + 1)]) (n + 1000000000000) (by omega) (by omega) (by omega) hsm (by omega)
    rw [List.drop_eq_getElem_cons hlt, show gs.length - (d + 1) + 1 = gs.length - d by omega]
    show Ev _ (addsL (addL l gs[gs.length - (d + 1)]) (gs.drop (gs.length - d)))
    refine Ev.step (fun k => spec_l2Add.l0.eq_2 ..) (Ev.pos (by omega) (Ev.pos (by omega) ?_))
    rw [hr, w64 (x := (gs.length : Int) - ((d + 1 : Nat) : Int) + 1) (by omega) (by omega), show (gs.length : Int) - ((d + 1 : Nat) : Int) + 1 = (gs.length : Int) - (d : Int) by omega]
    refine Ev.bind h1 ?_
    rw [w64 (x := amountL gs[gs.length - (d + 1)].f1 gs[gs.length - (d + 1)].f2 l + gs[gs.length - (d + 1)].f3) (by have := hgg.2.2; omega) (by have := hgg.2.2; omega)]
    exact Ev.bind h2 ih
theorem spec_l2Add_ev (gs : List S86) (hg : ∀ g ∈ gs, smallG g) (hl : gs.length ≤ 8) (l : List S104) (hs : smallB 900000000000000 l) (hlen : l.length ≤ 1000) : Ev (fun k => spec_l2Add.f k l gs) (addsL l gs) := by
  unfold spec_l2Add.f
  have := spec_l2Add_loop gs hg hl gs.length l 900000000000000 (Nat.le_refl _) (by decide) (by omega) hs (by omega)
  rw [Nat.sub_self, List.drop_zero, Int.sub_self] at this
  exact Ev.let (Ev.pos (by simp; omega) this)
/-- A ledger with a contract's legs added, shard for shard. -/
def settleL (g : List (List S104)) (l : List S86) : List (List S104) := g.mapIdx fun i s => addsL s (legsOf l (i : Int))
theorem spec_l2Settle_ev (g : List (List S104)) (hg : g.length ≤ 1000) (hb : ∀ s ∈ g, smallB 900000000000000 s ∧ s.length ≤ 1000) (id : Int) (l : List S86) (hl : (l.length : Int) ≤ 8) (hs : ∀ w ∈ l, smallG w) : Ev (fun k => spec_l2Settle.f k g id l) (settleL g l) := by
  unfold spec_l2Settle.f
  have hlen : (settleL g l).length = g.length := by unfold settleL; rw [List.length_mapIdx]
  refine Ev.upto1 (fun k (x : List (List S104)) i => spec_l2Settle.l0 k i g id l x) g.length (by omega) (fun i x => x = (settleL g l).take i.toNat) (settleL g l) (fun i x h0 h1 hx => .inl ?_) (fun x hx => ?_) 0 [] (by omega) (by omega) rfl
  · have hlt : i.toNat < g.length := by omega
    have hr : rd_L3 g i = g[i.toNat] := rdBB (List.getElem?_eq_getElem hlt)
    have hbs := hb _ (List.getElem_mem hlt)
    have hxl : x.length ≤ 1000 := by rw [hx, List.length_take]; omega
    refine ⟨x ++ [addsL g[i.toNat] (legsOf l i)], ?_, fun h => Ev.step (fun k => spec_l2Settle.l0.eq_2 ..) (Ev.pos h1 (Ev.pos h0 (Ev.bind (spec_l1Legs_ev id l hl i) ?_)))⟩
    · rw [show (i + 1).toNat = i.toNat + 1 by omega, List.take_add_one, ← hx]
      congr 1
      rw [List.getElem?_eq_getElem (by rw [hlen]; exact hlt)]
      unfold settleL
      rw [List.getElem_mapIdx, show ((i.toNat : Nat) : Int) = i by omega]
      rfl
    · rw [hr]
      exact Ev.bind (spec_l2Add_ev (legsOf l i) (fun w hw => hs w (List.mem_filter.1 hw).1) (by have := legsOf_len l i; omega) _ hbs.1 hbs.2) (Ev.pos (by omega) h)
  · rw [show ((g.length : Int)).toNat = g.length by omega, List.take_of_length_le (by omega)] at hx
    rw [← hx]
    exact Ev.step (fun k => spec_l2Settle.l0.eq_2 ..) (Ev.neg (by omega) (Ev.now _))
/-- One leg added where it belongs: what impl.settled does, leg by leg. -/
def settleStep (g : List (List S104)) (w : S86) : List (List S104) := g.set w.f0.toNat (addL (g.getD w.f0.toNat []) w)
theorem legsOf_cons (w : S86) (l : List S86) (s : Int) : legsOf (w :: l) s = if w.f0 = s then w :: legsOf l s else legsOf l s := by
  unfold legsOf
  rw [List.filter_cons]
  by_cases h : w.f0 = s
  · rw [if_pos (decide_eq_true h), if_pos h]
  · rw [if_neg (by simpa using h), if_neg h]
theorem settle_seq (l : List S86) : ∀ g : List (List S104), (∀ w ∈ l, 0 ≤ w.f0 ∧ w.f0 < (g.length : Int)) → l.foldl settleStep g = settleL g l := by
  induction l with
  | nil =>
    intro g _
    unfold settleL
    refine List.ext_getElem (by rw [List.length_mapIdx]; rfl) (fun i h1 h2 => ?_)
    rw [List.getElem_mapIdx]
    rfl
  | cons w l ih =>
    intro g h
    obtain ⟨w0, w1⟩ := h w List.mem_cons_self
    have hlen : (settleStep g w).length = g.length := by unfold settleStep; rw [List.length_set]
    rw [List.foldl_cons, ih (settleStep g w) (fun v hv => by rw [hlen]; exact h v (List.mem_cons_of_mem _ hv))]
    unfold settleL
    refine List.ext_getElem (by rw [List.length_mapIdx, List.length_mapIdx, hlen]) (fun i h1 h2 => ?_)
    rw [List.length_mapIdx] at h1 h2
    rw [List.getElem_mapIdx, List.getElem_mapIdx, legsOf_cons]
    by_cases hi : w.f0 = (i : Int)
    · rw [if_pos hi]
      have hj : w.f0.toNat = i := by omega
      have e : (settleStep g w)[i] = addL g[i] w := (List.getElem_eq_iff _).2 (by
        unfold settleStep
        rw [hj, List.getElem?_set_self h2, List.getD_eq_getElem?_getD, List.getElem?_eq_getElem h2]
        rfl)
      rw [e]
      rfl
    · rw [if_neg hi]
      have e : (settleStep g w)[i] = g[i] := (List.getElem_eq_iff _).2 (by
        unfold settleStep
        rw [List.getElem?_set_ne (by omega), List.getElem?_eq_getElem h2])
      rw [e]
/-- In balances that stand in order: what is set stands where the search finds it. -/
theorem setL_ahead (x y m : Int) (l : List S104) (h : ∀ b ∈ l, balLt b ⟨x, y, 0⟩) (hs : ∀ b ∈ l, 0 ≤ b.f1 ∧ b.f1 ≤ 2) (hy : 0 ≤ y ∧ y ≤ 2) (r : List S104) (done : Bool) : setL x y m done (l ++ r) = l ++ setL x y m done r := by
  induction l with
  | nil => rfl
  | cons b l ih =>
    have hb := h b List.mem_cons_self
    have hb2 := hs b List.mem_cons_self
    unfold balLt at hb
    simp only at hb
    rw [List.cons_append, setL_cons, if_neg (by omega), ih (fun b hb => h b (List.mem_cons_of_mem _ hb)) (fun b hb => hs b (List.mem_cons_of_mem _ hb))]
    cases done
    · rw [if_neg Bool.false_ne_true, if_neg (by omega)]
      rfl
    · rw [if_pos rfl]
      rfl
theorem setL_done (x y m : Int) (l : List S104) (h : ∀ b ∈ l, balLt ⟨x, y, 0⟩ b) : setL x y m true l = l := by
  induction l with
  | nil => rfl
  | cons b l ih =>
    have hb := h b List.mem_cons_self
    unfold balLt at hb
    simp only at hb
    rw [setL_cons, if_neg (by omega), if_pos rfl, ih (fun b hb => h b (List.mem_cons_of_mem _ hb))]
theorem setL_behind (x y m : Int) (l : List S104) (h : ∀ b ∈ l, balLt ⟨x, y, 0⟩ b) (hs : ∀ b ∈ l, 0 ≤ b.f1 ∧ b.f1 ≤ 2) (hy : 0 ≤ y ∧ y ≤ 2) : setL x y m false l = ⟨x, y, m⟩ :: l := by
  cases l with
  | nil => rfl
  | cons b l =>
    have hb := h b List.mem_cons_self
    have hb2 := hs b List.mem_cons_self
    unfold balLt at hb
    simp only at hb
    rw [setL_cons, if_neg (by omega), if_neg Bool.false_ne_true, if_pos (by omega), setL_done x y m l (fun b hb => h b (List.mem_cons_of_mem _ hb))]

/-- The search comes to an end on any balances. -/
theorem search_any (l : List S104) (x y : Int) (hl : l.length ≤ 1048576) : ∀ (d lo hi : Nat), hi - lo ≤ d → lo ≤ hi → hi ≤ l.length →
    ∃ i : Nat, ∃ f : Bool, Ev (fun k => slices_BinarySearchFunc_impl_Balance.l0 k l (l.length : Int) (lo : Int) (hi : Int) x y 0) ((i : Int), f) ∧ (f = true → i < l.length) := by
  intro d
  induction d with
  | zero =>
    intro lo hi hd h1 h2
    obtain rfl : lo = hi := by omega
    by_cases hn : lo < l.length
    · obtain ⟨c, _, _, hc⟩ := comparePlaces_ev (l[lo]'hn) (placeB x y)
      have hr := rdBalance_at l (lo : Int) (by omega) (by omega)
      refine ⟨lo, (c == 0), Ev.step (fun k => slices_BinarySearchFunc_impl_Balance.l0.eq_2 ..) (Ev.neg (by omega) (Ev.pos (by omega) (Ev.pos (by omega) (Ev.pos (by omega) ?_)))), fun _ => hn⟩
      rw [hr]
      exact Ev.bind hc (Ev.now _)
    · exact ⟨lo, false, Ev.step (fun k => slices_BinarySearchFunc_impl_Balance.l0.eq_2 ..) (Ev.neg (by omega) (Ev.neg (by omega) (Ev.now _))), fun hf => absurd hf (by decide)⟩
  | succ d ih =>
    intro lo hi hd h1 h2
    by_cases hlt : lo < hi
    · have hmid : wrap64 ((IntKind.u64.wrap (wrap64 ((lo : Int) + (hi : Int)))) / 2) = (((lo + hi) / 2 : Nat) : Int) := by
        rw [w64 (x := (lo : Int) + (hi : Int)) (by omega) (by omega)]
        have hw : IntKind.u64.wrap ((lo : Int) + (hi : Int)) = (lo : Int) + (hi : Int) := by
          show ((lo : Int) + (hi : Int)) % 18446744073709551616 = _
          omega
        rw [hw, w64 (by omega) (by omega)]
        omega
      have hm1 : lo ≤ (lo + hi) / 2 := by omega
      have hm2 : (lo + hi) / 2 < hi := by omega
      generalize (lo + hi) / 2 = m at hmid hm1 hm2
      have hml : m < l.length := by omega
      obtain ⟨c, _, _, hc⟩ := comparePlaces_ev (l[m]'hml) (placeB x y)
      have hr := rdBalance_at l (m : Int) (by omega) (by omega)
      by_cases hcn : c < 0
      · obtain ⟨i, f, he, hf⟩ := ih (m + 1) hi (by omega) (by omega) h2
        refine ⟨i, f, Ev.step (fun k => slices_BinarySearchFunc_impl_Balance.l0.eq_2 ..) (Ev.pos (by omega) ?_), hf⟩
        rw [hmid, w64 (x := (m : Int) + 1) (by omega) (by omega)]
        refine Ev.pos (by omega) (Ev.pos (by omega) ?_)
        rw [hr]
        exact Ev.bind hc (Ev.pos hcn he)
      · obtain ⟨i, f, he, hf⟩ := ih lo m (by omega) (by omega) (by omega)
        refine ⟨i, f, Ev.step (fun k => slices_BinarySearchFunc_impl_Balance.l0.eq_2 ..) (Ev.pos (by omega) ?_), hf⟩
        rw [hmid]
        refine Ev.pos (by omega) (Ev.pos (by omega) ?_)
        rw [hr]
        exact Ev.bind hc (Ev.neg hcn he)
    · exact ih lo hi (by omega) h1 h2
theorem amountIn_any (l : List S104) (x y : Int) (hl : l.length ≤ 1048576) : ∃ r, Ev (fun k => impl_amountIn.f k l x y) r := by
  obtain ⟨i, f, he, h1⟩ := search_any l x y hl l.length 0 l.length (by omega) (by omega) (by omega)
  cases f with
  | true =>
    have hi := h1 rfl
    refine ⟨(rd_T104 l (i : Int)).f2, ?_⟩
    unfold impl_amountIn.f slices_BinarySearchFunc_impl_Balance.f
    exact Ev.bind he (Ev.pos rfl (Ev.pos (show (0 : Int) ≤ (i : Int) by omega) (Ev.pos (show (i : Int) < (l.length : Int) by omega) (Ev.now _))))
  | false =>
    refine ⟨0, ?_⟩
    unfold impl_amountIn.f slices_BinarySearchFunc_impl_Balance.f
    exact Ev.bind he (Ev.neg (by simp) (Ev.now _))
theorem legFault_shard {s a t m : Int} (h : legFault s a t m = 0) : 0 ≤ s := by
  unfold legFault at h
  split at h
  · next hc => exact hc.1
  · cases h
theorem legs_ok (l : List S86) : ∀ d : Nat, d ≤ l.length → contractFrom l d = 0 → ∀ i : Int, (l.length : Int) - d ≤ i → i < (l.length : Int) → legFault (rd_T86 l i).f0 (rd_T86 l i).f1 (rd_T86 l i).f2 (rd_T86 l i).f3 = 0 := by
  intro d
  induction d with
  | zero => intro _ _ i h0 h1; omega
  | succ d ih =>
    intro hd h i h0 h1
    unfold contractFrom at h
    simp only at h
    split at h
    · next hf =>
      split at h
      · cases h
      · by_cases hi : i = (l.length : Int) - ((d : Int) + 1)
        · rw [hi]
          exact hf
        · exact ih (by omega) h i (by omega) h1
    · next hn => exact absurd h hn
theorem contract_legs {id : Int} {l : List S86} (h : contractFault id l = 0) : (2 ≤ (l.length : Int) ∧ (l.length : Int) ≤ 8) ∧ ∀ i : Int, 0 ≤ i → i < (l.length : Int) → 0 ≤ (rd_T86 l i).f0 := by
  unfold contractFault at h
  split at h
  · split at h
    · next hl => exact ⟨hl, fun i h0 h1 => legFault_shard (legs_ok l l.length (Nat.le_refl _) h i (by omega) h1)⟩
    · cases h
  · cases h
def codeL (n : Int) : Int := if n < 0 then 6 else if n > 1000000000000 then 3 else 0
/-- What a leg's code is, where am tells amounts. -/
def canLeg (am : List S104 → Int → Int → Int) (s : List S104) (w : S86) : Int := codeL (wrap64 (am s w.f1 w.f2 + w.f3))
def canFrom (am : List S104 → Int → Int → Int) (g : List (List S104)) (l : List S86) : Nat → Int
  | 0 => 0
  | d + 1 => (fun w : S86 => if canLeg am (rd_L3 g w.f0) w = 0 then canFrom am g l d else canLeg am (rd_L3 g w.f0) w) (rd_T86 l ((l.length : Int) - ((d : Int) + 1)))
def farLeg (g : List (List S104)) (w : S86) : Bool := decide (w.f0 ≥ (g.length : Int))
def canR (am : List S104 → Int → Int → Int) (g : List (List S104)) (id : Int) (l : List S86) : Int :=
  if contractFault id l = 0 then (if l.any (farLeg g) = true then 4 else canFrom am g l l.length) else contractFault id l
theorem impl_legCode_ev (am : List S104 → Int → Int → Int) (s : List S104) (ham : ∀ x y, Ev (fun k => impl_amountIn.f k s x y) (am s x y)) (w : S86) : Ev (fun k => impl_legCode.f k s w.f0 w.f1 w.f2 w.f3) (canLeg am s w) := by
  unfold impl_legCode.f canLeg codeL
  exact Ev.bind (ham _ _) (Ev.cond (fun _ => Ev.now _) (fun _ => Ev.cond (fun _ => Ev.now _) (fun _ => Ev.now _)))
theorem near_legs {g : List (List S104)} {l : List S86} (h : ¬ l.any (farLeg g) = true) (i : Int) (h0 : 0 ≤ i) (h1 : i < (l.length : Int)) : (rd_T86 l i).f0 < (g.length : Int) := by
  rw [rdLeg_at l i h0 h1]
  have h2 : ∀ w ∈ l, ¬ farLeg g w = true := fun w hw hf => h (List.any_eq_true.2 ⟨w, hw, hf⟩)
  have h3 := h2 _ (List.getElem_mem (show i.toNat < l.length by omega))
  unfold farLeg at h3
  rw [decide_eq_true_iff] at h3
  omega
theorem impl_canSettle_ev (am : List S104 → Int → Int → Int) (g : List (List S104)) (ham : ∀ s ∈ g, ∀ x y, Ev (fun k => impl_amountIn.f k s x y) (am s x y)) (id : Int) (l : List S86) : Ev (fun k => impl_canSettle.f k g id l) (canR am g id l) := by
  unfold impl_canSettle.f canR
  refine Ev.bind (impl_ContractFault_ev id l) (Ev.cond (fun h0 => ?_) (fun _ => Ev.now _))
  obtain ⟨hl, hsh⟩ := contract_legs h0
  refine Ev.bind (a := l.any (farLeg g)) ?_ (Ev.cond (fun _ => Ev.now _) (fun hn => ?_))
  · unfold CL_100.f
    exact @containsLeg_ev (CL_100.p g) (farLeg g) (fun x => rfl) l (by omega)
  · have go : ∀ d : Nat, d ≤ l.length → Ev (fun k => impl_canSettle.l0 k l (l.length : Int) ((l.length : Int) - d) g) (canFrom am g l d) := by
      intro d
      induction d with
      | zero => intro _; exact Ev.step (fun k => impl_canSettle.l0.eq_2 ..) (Ev.neg (by omega) (Ev.now _))
      | succ d ih =>
        intro hd
        have h := ih (by omega)
        have q0 := hsh ((l.length : Int) - ((d + 1 : Nat) : Int)) (by omega) (by omega)
        have q1 := near_legs hn ((l.length : Int) - ((d + 1 : Nat) : Int)) (by omega) (by omega)
        refine Ev.step (fun k => impl_canSettle.l0.eq_2 ..) (Ev.pos (by omega) (Ev.pos (by omega) (Ev.pos (by omega) (Ev.pos q0 (Ev.pos q1 (Ev.bind (impl_legCode_ev am _ (ham _ (rdBB_mem g _ q0 (by omega))) _) ?_))))))
        rw [w64 (x := (l.length : Int) - ((d + 1 : Nat) : Int) + 1) (by omega) (by omega), show (l.length : Int) - ((d + 1 : Nat) : Int) + 1 = (l.length : Int) - d by omega]
        rw [show ((d + 1 : Nat) : Int) = (d : Int) + 1 by omega]
        unfold canFrom
        exact Ev.cond (fun _ => h) (fun _ => Ev.now _)
    have := go l.length (by omega)
    rw [show (l.length : Int) - (l.length : Nat) = 0 by omega] at this
    exact this
theorem leg_cut (l : List S86) (i : Int) (h0 : 0 ≤ i) (h1 : i < (l.length : Int)) : (l.take (i + 1).toNat).drop i.toNat = [rd_T86 l i] := by
  rw [take_succ_at l i h0 h1]
  exact List.drop_left' (by rw [List.length_take]; omega)
theorem spec_legs1_ev (am : List S104 → Int → Int → Int) (s : List S104) (ham : ∀ x y, Ev (fun k => spec_l2Has.f k s x y) (am s x y)) (w : S86) : Ev (fun k => spec_l2Legs.f k s [w]) (canLeg am s w) := by
  have e0 : rd_T86 [w] 0 = w := rfl
  unfold spec_l2Legs.f canLeg codeL
  refine Ev.step (fun k => spec_l2Legs.l0.eq_2 ..) (Ev.pos (by simp) (Ev.pos (by decide) (Ev.bind (ham _ _) ?_)))
  rw [e0]
  exact Ev.cond (fun _ => Ev.now _) (fun _ => Ev.cond (fun _ => Ev.now _) (fun _ => Ev.step (fun k => spec_l2Legs.l0.eq_2 ..) (Ev.neg (by rw [w64 (by omega) (by omega)]; simp) (Ev.now _))))
theorem spec_can_any (R : Int) (id : Int) (g : List (List S104)) (l : List S86) (hl : (l.length : Int) ≤ 8) (hR : ¬ l.any (farLeg g) = true → Ev (fun k => spec_l2Can.l1 k 0 g id l) R) : ∀ d : Nat, d ≤ l.length → (∀ i : Int, 0 ≤ i → i < (l.length : Int) - d → ¬ farLeg g (rd_T86 l i) = true) → Ev (fun k => spec_l2Can.l0 k ((l.length : Int) - d) g id l) (if l.any (farLeg g) = true then 4 else R) := by
  intro d
  induction d with
  | zero =>
    intro _ hp
    have hn : ¬ l.any (farLeg g) = true := fun hh => by
      obtain ⟨w, hw, hf⟩ := List.any_eq_true.1 hh
      obtain ⟨j, hj, rfl⟩ := List.getElem_of_mem hw
      exact hp (j : Int) (by omega) (by omega) (by rw [rdLeg_at l (j : Int) (by omega) (by omega)]; exact hf)
    rw [if_neg hn]
    exact Ev.step (fun k => spec_l2Can.l0.eq_2 ..) (Ev.neg (by omega) (hR hn))
  | succ d ih =>
    intro hd hp
    refine Ev.step (fun k => spec_l2Can.l0.eq_2 ..) (Ev.pos (by omega) (Ev.pos (by omega) ?_))
    by_cases hf : farLeg g (rd_T86 l ((l.length : Int) - ((d + 1 : Nat) : Int))) = true
    · have hy : l.any (farLeg g) = true := List.any_eq_true.2 ⟨_, by rw [rdLeg_at l _ (by omega) (by omega)]; exact List.getElem_mem _, hf⟩
      rw [if_pos hy]
      exact Ev.pos (of_decide_eq_true hf) (Ev.now _)
    · refine Ev.neg (fun h => hf (decide_eq_true h)) ?_
      rw [w64 (x := (l.length : Int) - ((d + 1 : Nat) : Int) + 1) (by omega) (by omega), show (l.length : Int) - ((d + 1 : Nat) : Int) + 1 = (l.length : Int) - d by omega]
      exact ih (by omega) (fun i h0 h1 => by
        by_cases hi : i = (l.length : Int) - ((d + 1 : Nat) : Int)
        · rw [hi]
          exact hf
        · exact hp i h0 (by omega))
theorem spec_l2Can_ev (am : List S104 → Int → Int → Int) (g : List (List S104)) (ham : ∀ s ∈ g, ∀ x y, Ev (fun k => spec_l2Has.f k s x y) (am s x y)) (id : Int) (l : List S86) : Ev (fun k => spec_l2Can.f k g id l) (canR am g id l) := by
  unfold spec_l2Can.f canR
  refine Ev.bind (spec_ContractFault_ev id l) (Ev.cond (fun h0 => ?_) (fun _ => Ev.now _))
  obtain ⟨hl, hsh⟩ := contract_legs h0
  have hrest : ¬ l.any (farLeg g) = true → Ev (fun k => spec_l2Can.l1 k 0 g id l) (canFrom am g l l.length) := by
    intro hn
    have go : ∀ d : Nat, d ≤ l.length → Ev (fun k => spec_l2Can.l1 k ((l.length : Int) - d) g id l) (canFrom am g l d) := by
      intro d
      induction d with
      | zero => intro _; exact Ev.step (fun k => spec_l2Can.l1.eq_2 ..) (Ev.neg (by omega) (Ev.now _))
      | succ d ih =>
        intro hd
        have h := ih (by omega)
        have q0 := hsh ((l.length : Int) - ((d + 1 : Nat) : Int)) (by omega) (by omega)
        have q1 := near_legs hn ((l.length : Int) - ((d + 1 : Nat) : Int)) (by omega) (by omega)
        have e1 : wrap64 ((l.length : Int) - ((d + 1 : Nat) : Int) + 1) = (l.length : Int) - ((d + 1 : Nat) : Int) + 1 := w64 (by omega) (by omega)
        refine Ev.step (fun k => spec_l2Can.l1.eq_2 ..) ?_
        rw [e1, leg_cut l _ (by omega) (by omega)]
        refine Ev.pos (by omega) (Ev.pos (by omega) (Ev.pos q0 (Ev.pos q1 (Ev.pos (by omega) (Ev.pos (by omega) (Ev.bind (spec_legs1_ev am _ (ham _ (rdBB_mem g _ q0 (by omega))) _) ?_))))))
        rw [show (l.length : Int) - ((d + 1 : Nat) : Int) + 1 = (l.length : Int) - d by omega]
        rw [show ((d + 1 : Nat) : Int) = (d : Int) + 1 by omega]
        unfold canFrom
        exact Ev.cond (fun _ => h) (fun _ => Ev.now _)
    have := go l.length (by omega)
    rw [show (l.length : Int) - (l.length : Nat) = 0 by omega] at this
    exact this
  have := spec_can_any _ id g l hl.2 hrest l.length (Nat.le_refl _) (fun i h0 h1 => by omega)
  rw [show (l.length : Int) - (l.length : Nat) = 0 by omega] at this
  exact this
theorem firstOf_ev (a b : Int) : Ev (fun k => impl_firstOf.f k [a, b]) (if a = 0 then b else a) := by
  have ea : rd [a, b] 0 = a := rfl
  have eb : rd [a, b] 1 = b := rfl
  unfold impl_firstOf.f
  refine Ev.step (fun k => impl_firstOf.l0.eq_2 ..) (Ev.pos (by simp) (Ev.pos (by decide) (Ev.pos (by simp) ?_)))
  rw [ea]
  refine Ev.cond (fun _ => ?_) (fun _ => Ev.now _)
  rw [w64 (x := (0 : Int) + 1) (by omega) (by omega), show (0 : Int) + 1 = 1 by omega]
  refine Ev.step (fun k => impl_firstOf.l0.eq_2 ..) (Ev.pos (by simp) (Ev.pos (by decide) (Ev.pos (by simp) ?_)))
  rw [eb]
  by_cases h : b = 0
  · subst h
    refine Ev.pos rfl ?_
    rw [w64 (x := (1 : Int) + 1) (by omega) (by omega), show (1 : Int) + 1 = 2 by omega]
    exact Ev.step (fun k => impl_firstOf.l0.eq_2 ..) (Ev.neg (by simp) (Ev.now _))
  · exact Ev.neg h (Ev.now _)
noncomputable def canSettleR (g : List (List S104)) (id : Int) (l : List S86) : Int := if ledgerFault g = 0 then canR (fun s x y => amountL x y s) g id l else ledgerFault g
open Classical in
theorem impl_CanSettle_ev (g : List (List S104)) (hb : ∀ s ∈ g, s.length ≤ 1048576) (id : Int) (l : List S86) : Ev (fun k => impl_CanSettle.f k g id l) (canSettleR g id l) := by
  unfold impl_CanSettle.f canSettleR
  refine Ev.bind (impl_LedgerFault_ev g (fun s hs => by have := hb s hs; omega)) ?_
  by_cases hf : ledgerFault g = 0
  · rw [if_pos hf, hf]
    obtain ⟨_, hs⟩ := ledger_sorted g hf
    refine Ev.bind (impl_canSettle_ev (fun s x y => amountL x y s) g (fun s hm x y => by obtain ⟨q1, _, q3⟩ := hs s hm; exact impl_amountIn_ev s x y (by omega) q3) id l) (Ev.bind (firstOf_ev _ _) ?_)
    rw [if_pos rfl]
    exact Ev.now _
  · rw [if_neg hf]
    refine Ev.bind (impl_canSettle_ev (fun s x y => if h : ∃ r, Ev (fun k => impl_amountIn.f k s x y) r then Classical.choose h else 0) g (fun s hm x y => ?_) id l) (Ev.bind (firstOf_ev _ _) ?_)
    · have h := amountIn_any s x y (hb s hm)
      show Ev _ (if h : ∃ r, Ev (fun k => impl_amountIn.f k s x y) r then Classical.choose h else 0)
      rw [dif_pos h]
      exact Classical.choose_spec h
    · rw [if_neg hf]
      exact Ev.now _
/-- Where the search stops. -/
theorem search_pos (l : List S104) (x y : Int) (hl : l.length ≤ 1000000) (hp : l.Pairwise balLt) : ∀ (d lo hi : Nat), hi - lo ≤ d → lo ≤ hi → hi ≤ l.length → (∀ (j : Nat) (h : j < l.length), j < lo → balLt (l[j]'h) (placeB x y)) → (∀ (j : Nat) (h : j < l.length), hi ≤ j → ¬ balLt (l[j]'h) (placeB x y)) →
    ∃ i : Nat, ∃ f : Bool, Ev (fun k => slices_BinarySearchFunc_impl_Balance.l0 k l (l.length : Int) (lo : Int) (hi : Int) x y 0) ((i : Int), f) ∧ i ≤ l.length ∧ (∀ (j : Nat) (h : j < l.length), j < i → balLt (l[j]'h) (placeB x y)) ∧ (f = true → ∃ h : i < l.length, atPlace x y (l[i]'h)) ∧ (f = false → ∀ (j : Nat) (h : j < l.length), i ≤ j → balLt (placeB x y) (l[j]'h)) := by
  have hpw := List.pairwise_iff_getElem.1 hp
  intro d
  induction d with
  | zero =>
    intro lo hi hd h1 h2 ha hb
    obtain rfl : lo = hi := by omega
    by_cases hn : lo < l.length
    · obtain ⟨c, c1, c2, hc⟩ := comparePlaces_ev (l[lo]'hn) (placeB x y)
      have hr := rdBalance_at l (lo : Int) (by omega) (by omega)
      have hlo := hb lo hn (Nat.le_refl _)
      refine ⟨lo, (c == 0), Ev.step (fun k => slices_BinarySearchFunc_impl_Balance.l0.eq_2 ..) (Ev.neg (by omega) (Ev.pos (by omega) (Ev.pos (by omega) (Ev.pos (by omega) ?_)))), h2, ha, fun hf => ⟨hn, ?_⟩, fun hf j hj hij => ?_⟩
      · rw [hr]
        exact Ev.bind hc (Ev.now _)
      · have hc0 : c = 0 := by simpa using hf
        have h3 : ¬ balLt (placeB x y) (l[lo]'hn) := fun h => by have := c2.2 h; omega
        unfold balLt placeB at hlo h3
        unfold atPlace
        simp only at hlo h3
        omega
      · have hc0 : c ≠ 0 := by simpa using hf
        have h3 : balLt (placeB x y) (l[lo]'hn) := c2.1 (by have := c1.2 hlo; omega)
        rcases Nat.lt_or_ge lo j with hjl | hjl
        · exact balLt_trans h3 (hpw lo j hn hj hjl)
        · obtain rfl : j = lo := by omega
          exact h3
    · exact ⟨lo, false, Ev.step (fun k => slices_BinarySearchFunc_impl_Balance.l0.eq_2 ..) (Ev.neg (by omega) (Ev.neg (by omega) (Ev.now _))), h2, ha, fun hf => absurd hf (by decide), fun _ j hj hij => absurd hj (by omega)⟩
  | succ d ih =>
    intro lo hi hd h1 h2 ha hb
    by_cases hlt : lo < hi
    · have hmid : wrap64 ((IntKind.u64.wrap (wrap64 ((lo : Int) + (hi : Int)))) / 2) = (((lo + hi) / 2 : Nat) : Int) := by
        rw [w64 (x := (lo : Int) + (hi : Int)) (by omega) (by omega)]
        have hw : IntKind.u64.wrap ((lo : Int) + (hi : Int)) = (lo : Int) + (hi : Int) := by
          show ((lo : Int) + (hi : Int)) % 18446744073709551616 = _
          omega
        rw [hw, w64 (by omega) (by omega)]
        omega
      have hm1 : lo ≤ (lo + hi) / 2 := by omega
      have hm2 : (lo + hi) / 2 < hi := by omega
      generalize (lo + hi) / 2 = m at hmid hm1 hm2
      have hml : m < l.length := by omega
      obtain ⟨c, c1, c2, hc⟩ := comparePlaces_ev (l[m]'hml) (placeB x y)
      have hr := rdBalance_at l (m : Int) (by omega) (by omega)
      by_cases hcn : c < 0
      · have hbl : balLt (l[m]'hml) (placeB x y) := Classical.byContradiction fun h => by have := c1.2 h; omega
        obtain ⟨i, f, he, hf⟩ := ih (m + 1) hi (by omega) (by omega) h2 (fun j hj hjm => by
          rcases Nat.lt_or_ge j m with h | h
          · exact balLt_trans (hpw j m hj hml h) hbl
          · obtain rfl : j = m := by omega
            exact hbl) hb
        refine ⟨i, f, Ev.step (fun k => slices_BinarySearchFunc_impl_Balance.l0.eq_2 ..) (Ev.pos (by omega) ?_), hf⟩
        rw [hmid, w64 (x := (m : Int) + 1) (by omega) (by omega)]
        refine Ev.pos (by omega) (Ev.pos (by omega) ?_)
        rw [hr]
        exact Ev.bind hc (Ev.pos hcn he)
      · have hbl : ¬ balLt (l[m]'hml) (placeB x y) := c1.1 (by omega)
        obtain ⟨i, f, he, hf⟩ := ih lo m (by omega) (by omega) (by omega) ha (fun j hj hjm => by
          rcases Nat.lt_or_ge m j with h | h
          · exact fun hx => hbl (balLt_trans (hpw m j hml hj h) hx)
          · obtain rfl : j = m := by omega
            exact hbl)
        refine ⟨i, f, Ev.step (fun k => slices_BinarySearchFunc_impl_Balance.l0.eq_2 ..) (Ev.pos (by omega) ?_), hf⟩
        rw [hmid]
        refine Ev.pos (by omega) (Ev.pos (by omega) ?_)
        rw [hr]
        exact Ev.bind hc (Ev.neg hcn he)
    · exact ih lo hi (by omega) h1 h2 ha hb
/-- The balances ahead of a place, what stands at it, the balances behind it. -/
theorem added_parts (l : List S104) (x y : Int) (hl : l.length ≤ 1000000) (hp : l.Pairwise balLt) : ∃ (p q : List S104) (o : Option S104),
    l = p ++ o.toList ++ q ∧ Ev (fun k => slices_BinarySearchFunc_impl_Balance.f k l x y 0) ((p.length : Int), o.isSome) ∧ (∀ b ∈ p, balLt b ⟨x, y, 0⟩) ∧ (∀ b ∈ q, balLt ⟨x, y, 0⟩ b) ∧ (∀ b, o = some b → atPlace x y b) := by
  obtain ⟨i, f, he, hi, h1, h2, h3⟩ := search_pos l x y hl hp l.length 0 l.length (by omega) (by omega) (by omega) (by omega) (by omega)
  have hpw := List.pairwise_iff_getElem.1 hp
  have htl : (l.take i).length = i := by rw [List.length_take]; omega
  have hta : ∀ b ∈ l.take i, balLt b ⟨x, y, 0⟩ := fun b hb => by
    obtain ⟨j, hj, rfl⟩ := List.getElem_of_mem hb
    rw [List.getElem_take]
    exact h1 j (by omega) (by omega)
  cases f with
  | true =>
    obtain ⟨hlt, hat⟩ := h2 rfl
    refine ⟨l.take i, l.drop (i + 1), some l[i], ?_, ?_, hta, fun b hb => ?_, fun b hb => by cases hb; exact hat⟩
    · rw [Option.toList_some, List.append_assoc, List.singleton_append, ← List.drop_eq_getElem_cons hlt, List.take_append_drop]
    · rw [htl]
      exact he
    · obtain ⟨j, hj, rfl⟩ := List.getElem_of_mem hb
      rw [List.getElem_drop]
      rw [List.length_drop] at hj
      have := hpw i (i + 1 + j) hlt (by omega) (by omega)
      obtain ⟨a1, a2⟩ := hat
      unfold balLt at *
      simp only
      omega
  | false =>
    refine ⟨l.take i, l.drop i, none, ?_, ?_, hta, fun b hb => ?_, fun b hb => by cases hb⟩
    · rw [Option.toList_none, List.append_nil, List.take_append_drop]
    · rw [htl]
      exact he
    · obtain ⟨j, hj, rfl⟩ := List.getElem_of_mem hb
      rw [List.getElem_drop]
      rw [List.length_drop] at hj
      exact h3 rfl (i + j) (by omega) (by omega)
theorem amount_skip (x y : Int) (p r : List S104) (h : ∀ b ∈ p, ¬ atPlace x y b) : amountL x y (p ++ r) = amountL x y r := by
  induction p with
  | nil => rfl
  | cons b p ih => rw [List.cons_append, amountL_cons, if_neg (h b List.mem_cons_self), ih (fun b hb => h b (List.mem_cons_of_mem _ hb))]
theorem lt_off {x y : Int} {b : S104} (h : balLt b ⟨x, y, 0⟩ ∨ balLt ⟨x, y, 0⟩ b) : ¬ atPlace x y b := by
  rintro ⟨a1, a2⟩
  unfold balLt at h
  simp only at h
  omega
/-- What is added, told by the parts. -/
theorem addL_parts (p q : List S104) (o : Option S104) (w : S86) (h1 : ∀ b ∈ p, balLt b ⟨w.f1, w.f2, 0⟩) (h2 : ∀ b ∈ q, balLt ⟨w.f1, w.f2, 0⟩ b) (h3 : ∀ b, o = some b → atPlace w.f1 w.f2 b)
    (hp : ∀ b ∈ p, 0 ≤ b.f1 ∧ b.f1 ≤ 2) (hq : ∀ b ∈ q, 0 ≤ b.f1 ∧ b.f1 ≤ 2) (hy : 0 ≤ w.f2 ∧ w.f2 ≤ 2) :
    amountL w.f1 w.f2 (p ++ o.toList ++ q) = (o.map (·.f2)).getD 0 ∧
    addL (p ++ o.toList ++ q) w = p ++ (if (o.map (·.f2)).getD 0 + w.f3 = 0 then [] else [⟨w.f1, w.f2, (o.map (·.f2)).getD 0 + w.f3⟩]) ++ q := by
  have e : amountL w.f1 w.f2 (p ++ o.toList ++ q) = (o.map (·.f2)).getD 0 := by
    rw [List.append_assoc, amount_skip _ _ _ _ (fun b hb => lt_off (.inl (h1 b hb)))]
    cases o with
    | none =>
      have := amount_skip w.f1 w.f2 q [] (fun b hb => lt_off (.inr (h2 b hb)))
      rw [List.append_nil] at this
      exact this
    | some b => rw [Option.toList_some, List.singleton_append, amountL_cons, if_pos (h3 b rfl)]; rfl
  refine ⟨e, ?_⟩
  unfold addL
  rw [e]
  generalize (o.map (·.f2)).getD 0 + w.f3 = m
  rw [List.append_assoc, setL_ahead _ _ _ _ h1 hp hy, List.append_assoc]
  congr 1
  have e2 : ∀ done, setL w.f1 w.f2 m done (o.toList ++ q) = setL w.f1 w.f2 m done q := fun done => by
    cases o with
    | none => rfl
    | some b =>
      have hb := h3 b rfl
      unfold atPlace at hb
      rw [Option.toList_some, List.singleton_append, setL_cons, if_pos hb]
  rw [e2]
  by_cases hm : m = 0
  · rw [if_pos hm, show (m == 0) = true by simpa using hm, setL_done _ _ _ _ h2]
    rfl
  · rw [if_neg hm, show (m == 0) = false by simpa using hm, setL_behind _ _ _ _ h2 hq hy]
    rfl
theorem impl_added_ev (n : Int) (hn0 : 0 ≤ n) (hn : n ≤ 1000000000000000) (l : List S104) (hs : smallB n l) (hl : l.length ≤ 100000) (hp : l.Pairwise balLt) (w : S86) (hw : smallG w) :
    Ev (fun k => impl_added.f k l w.f0 w.f1 w.f2 w.f3) (addL l w) := by
  obtain ⟨p, q, o, hpq, he, h1, h2, h3⟩ := added_parts l w.f1 w.f2 (by omega) hp
  obtain ⟨ea, el⟩ := addL_parts p q o w h1 h2 h3 (fun b hb => (hs b (by rw [hpq]; simp [hb])).2.1) (fun b hb => (hs b (by rw [hpq]; simp [hb])).2.1) hw.2.1
  have hlen : p.length + o.toList.length + q.length ≤ 100000 := by rw [hpq] at hl; simp only [List.length_append] at hl; omega
  unfold impl_added.f
  have hc : slices_Clone_impl_Balance.f l = some l := by
    unfold slices_Clone_impl_Balance.f
    rw [Option.bind_some, if_pos (by simp; omega), List.nil_append]
  refine Ev.bind (Ev.is hc) (Ev.bind he ?_)
  have hw1 : wrap64 ((p.length : Int) + 1) = (p.length : Int) + 1 := w64 (by omega) (by omega)
  have hset : ∀ (a c : S104), (p ++ a :: q).set ((p.length : Int)).toNat c = p ++ c :: q := fun a c => by
    rw [Int.toNat_natCast, List.set_append_right _ _ (Nat.le_refl _), Nat.sub_self, List.set_cons_zero]
  have hrd : ∀ (a : S104), rd_T104 (p ++ a :: q) (p.length : Int) = a := fun a => by
    rw [rdBalance_at _ _ (by omega) (by simp; omega)]
    simp
  have hdel : ∀ (a : S104), slices_Delete_impl_Balance.f (p ++ a :: q) (p.length : Int) ((p.length : Int) + 1) = some (p ++ q) := fun a => by
    unfold slices_Delete_impl_Balance.f
    rw [if_pos (by omega), if_pos (by simp; omega), if_pos rfl, Int.toNat_natCast, List.take_left, List.drop_append, List.drop_of_length_le (by omega), show p.length + 1 - p.length = 1 by omega]
    simp
  rw [hpq, el]
  cases o with
  | some b =>
    obtain ⟨b1, b2⟩ := h3 b rfl
    have hb := hs b (by rw [hpq]; simp)
    have hq2 : p ++ (some b).toList ++ q = p ++ b :: q := by simp
    rw [hq2]
    have hw2 : wrap64 (b.f2 + w.f3) = b.f2 + w.f3 := w64 (by have := hb.2.2; have := hw.2.2; omega) (by have := hb.2.2; have := hw.2.2; omega)
    refine Ev.pos rfl (Ev.pos (by omega) (Ev.pos (by simp; omega) ?_))
    rw [hrd b, hw2, hset, hw1]
    refine Ev.let ?_
    show Ev _ (p ++ (if b.f2 + w.f3 = 0 then [] else [⟨w.f1, w.f2, b.f2 + w.f3⟩]) ++ q)
    by_cases hm : b.f2 + w.f3 = 0
    · have e3 : p ++ (if b.f2 + w.f3 = 0 then [] else [(⟨w.f1, w.f2, b.f2 + w.f3⟩ : S104)]) ++ q = p ++ q := by rw [if_pos hm, List.append_nil]
      rw [e3]
      exact Ev.pos hm (Ev.bind (Ev.is (hdel _)) (Ev.now _))
    · have e3 : p ++ (if b.f2 + w.f3 = 0 then [] else [(⟨w.f1, w.f2, b.f2 + w.f3⟩ : S104)]) ++ q = p ++ ⟨b.f0, b.f1, b.f2 + w.f3⟩ :: q := by rw [if_neg hm, b1, b2, List.append_assoc]; rfl
      rw [e3]
      exact Ev.neg hm (Ev.now _)
  | none =>
    have hq2 : p ++ (none : Option S104).toList ++ q = p ++ q := by simp
    rw [hq2]
    have hins : slices_Insert_impl_Balance.f (p ++ q) (p.length : Int) [(⟨w.f1, w.f2, 0⟩ : S104)] = some (p ++ (⟨w.f1, w.f2, 0⟩ : S104) :: q) := by
      unfold slices_Insert_impl_Balance.f
      have hle : (p ++ q).length = p.length + q.length := List.length_append
      have h1' : ([(⟨w.f1, w.f2, 0⟩ : S104)]).length = 1 := rfl
      rw [if_pos (by omega), if_pos (by omega), if_pos (by omega), if_pos h1', Int.toNat_natCast, List.take_left, List.drop_left, List.append_assoc]
      rfl
    have hw2 : wrap64 (0 + w.f3) = w.f3 := by rw [Int.zero_add]; exact w64 (by have := hw.2.2; omega) (by have := hw.2.2; omega)
    refine Ev.neg (by simp) (Ev.bind (Ev.is hins) (Ev.pos (by omega) (Ev.pos (by simp; omega) ?_)))
    rw [hrd, hset, hw1]
    show Ev _ (p ++ (if 0 + w.f3 = 0 then [] else [⟨w.f1, w.f2, 0 + w.f3⟩]) ++ q)
    simp only [hw2]
    refine Ev.let ?_
    rw [Int.zero_add]
    by_cases hm : w.f3 = 0
    · have e3 : p ++ (if w.f3 = 0 then [] else [(⟨w.f1, w.f2, w.f3⟩ : S104)]) ++ q = p ++ q := by rw [if_pos hm, List.append_nil]
      rw [e3]
      exact Ev.pos hm (Ev.bind (Ev.is (hdel _)) (Ev.now _))
    · have e3 : p ++ (if w.f3 = 0 then [] else [(⟨w.f1, w.f2, w.f3⟩ : S104)]) ++ q = p ++ ⟨w.f1, w.f2, w.f3⟩ :: q := by rw [if_neg hm, List.append_assoc]; rfl
      rw [e3]
      exact Ev.neg hm (Ev.now _)
/-- Balances that stand in order still do. -/
theorem addL_sorted (l : List S104) (hp : l.Pairwise balLt) (hl : l.length ≤ 1000000) (hs : ∀ b ∈ l, 0 ≤ b.f1 ∧ b.f1 ≤ 2) (w : S86) (hy : 0 ≤ w.f2 ∧ w.f2 ≤ 2) : (addL l w).Pairwise balLt := by
  obtain ⟨p, q, o, hpq, _, h1, h2, h3⟩ := added_parts l w.f1 w.f2 hl hp
  obtain ⟨_, el⟩ := addL_parts p q o w h1 h2 h3 (fun b hb => hs b (by rw [hpq]; simp [hb])) (fun b hb => hs b (by rw [hpq]; simp [hb])) hy
  have hpq2 : (p ++ q).Pairwise balLt := by
    refine List.Pairwise.sublist ?_ hp
    rw [hpq, List.append_assoc]
    exact List.Sublist.append (List.Sublist.refl _) (List.sublist_append_right _ _)
  rw [hpq, el]
  obtain ⟨q1, q2, q3⟩ := List.pairwise_append.1 hpq2
  split
  · rw [List.append_nil]
    exact hpq2
  · rw [List.append_assoc, List.singleton_append]
    refine List.pairwise_append.2 ⟨q1, List.pairwise_cons.2 ⟨fun b hb => ?_, q2⟩, fun a ha b hb => ?_⟩
    · have := h2 b hb
      unfold balLt at *
      simpa using this
    · rcases List.mem_cons.1 hb with rfl | hb
      · have := h1 a ha
        unfold balLt at *
        simpa using this
      · exact q3 a ha b hb
/-- A ledger that can be settled: in order, of amounts no more than n. -/
def goodL (n : Int) (m : Nat) (g : List (List S104)) : Prop := ∀ s ∈ g, smallB n s ∧ s.length ≤ m ∧ s.Pairwise balLt
theorem goodL_mono {n n' : Int} {m m' : Nat} {g : List (List S104)} (h : goodL n m g) (hn : n ≤ n') (hm : m ≤ m') : goodL n' m' g := fun s hs => by
  obtain ⟨a, b, c⟩ := h s hs
  exact ⟨fun x hx => by have := a x hx; exact ⟨this.1, this.2.1, by omega, by omega⟩, by omega, c⟩
theorem goodL_step {n : Int} {m : Nat} {g : List (List S104)} (h : goodL n m g) (h0 : 0 ≤ n) (hm : m ≤ 1000000) (w : S86) (hw : smallG w) : goodL (n + 1000000000000) (m + 1) (settleStep g w) := fun s hs => by
  unfold settleStep at hs
  rcases List.mem_or_eq_of_mem_set hs with hs | rfl
  · exact goodL_mono h (by omega) (by omega) s hs
  · by_cases hlt : w.f0.toNat < g.length
    · rw [List.getD_eq_getElem?_getD, List.getElem?_eq_getElem hlt, Option.getD_some]
      obtain ⟨a, b, c⟩ := h _ (List.getElem_mem hlt)
      have := addL_len g[w.f0.toNat] w
      exact ⟨addL_small n h0 _ a w hw, by omega, addL_sorted _ c (by omega) (fun x hx => (a x hx).2.1) w hw.2.1⟩
    · rw [List.set_eq_of_length_le (by omega)] at hs
      exact goodL_mono h (by omega) (by omega) _ hs
theorem impl_copyLedger_ev (g : List (List S104)) (hg : g.length ≤ 1000000) (hb : ∀ s ∈ g, s.length ≤ 1000000) : Ev (fun k => impl_copyLedger.f k g) g := by
  unfold impl_copyLedger.f
  refine Ev.upto1 (fun k (x : List (List S104)) i => impl_copyLedger.l0 k g (g.length : Int) i x) g.length (by omega) (fun i x => x = g.take i.toNat) g (fun i x h0 h1 hx => .inl ?_) (fun x hx => ?_) 0 [] (by omega) (by omega) rfl
  · have hlt : i.toNat < g.length := by omega
    have hr : rd_L3 g i = g[i.toNat] := rdBB (List.getElem?_eq_getElem hlt)
    have hc : slices_Clone_impl_Balance.f g[i.toNat] = some g[i.toNat] := by
      have := hb _ (List.getElem_mem hlt)
      unfold slices_Clone_impl_Balance.f
      rw [Option.bind_some, if_pos (by simp; omega), List.nil_append]
    have hxl : x.length ≤ 1000000 := by rw [hx, List.length_take]; omega
    refine ⟨x ++ [g[i.toNat]], ?_, fun h => Ev.step (fun k => impl_copyLedger.l0.eq_2 ..) (Ev.pos h1 (Ev.pos h0 (Ev.pos h1 ?_)))⟩
    · rw [show (i + 1).toNat = i.toNat + 1 by omega, List.take_add_one, ← hx, List.getElem?_eq_getElem hlt]
      rfl
    · rw [hr]
      exact Ev.bind (Ev.is hc) (Ev.pos (by omega) h)
  · rw [show ((g.length : Int)).toNat = g.length by omega, List.take_length] at hx
    rw [hx]
    exact Ev.step (fun k => impl_copyLedger.l0.eq_2 ..) (Ev.neg (by omega) (Ev.now _))
theorem impl_settled_loop (l : List S86) (hl : l.length ≤ 8) (hw : ∀ w ∈ l, smallG w) : ∀ (d : Nat) (g : List (List S104)) (n : Int) (m : Nat), d ≤ l.length → 0 ≤ n → n + 1000000000000 * (d : Int) ≤ 1000000000000000 → m + d ≤ 100000 → goodL n m g → (∀ w ∈ l, 0 ≤ w.f0 ∧ w.f0 < (g.length : Int)) →
    Ev (fun k => impl_settled.l0 k l (l.length : Int) ((l.length : Int) - d) g) ((l.drop (l.length - d)).foldl settleStep g) := by
  intro d
  induction d with
  | zero =>
    intro g n m _ _ _ _ _ _
    rw [Nat.sub_zero, List.drop_length]
    exact Ev.step (fun k => impl_settled.l0.eq_2 ..) (Ev.neg (by omega) (Ev.now _))
  | succ d ih =>
    intro g n m hd h0 hn hm hg hn2
    have hlt : l.length - (d + 1) < l.length := by omega
    have hi : (l.length : Int) - ((d + 1 : Nat) : Int) = ((l.length - (d + 1) : Nat) : Int) := by omega
    have hr : rd_T86 l ((l.length : Int) - ((d + 1 : Nat) : Int)) = l[l.length - (d + 1)] := by rw [hi]; exact rdLeg_at l _ (by omega) (by omega)
    have hmem := List.getElem_mem hlt
    have hwg := hw _ hmem
    have hng := hn2 _ hmem
    have hgs : l[l.length - (d + 1)].f0.toNat < g.length := by omega
    have hs := hg _ (List.getElem_mem hgs)
    have hrb : rd_L3 g l[l.length - (d + 1)].f0 = g[l[l.length - (d + 1)].f0.toNat] := rdBB (List.getElem?_eq_getElem hgs)
    have hst : settleStep g l[l.length - (d + 1)] = g.set l[l.length - (d + 1)].f0.toNat (addL g[l[l.length - (d + 1)].f0.toNat] l[l.length - (d + 1)]) := by
      unfold settleStep
      rw [List.getD_eq_getElem?_getD, List.getElem?_eq_getElem hgs]
      rfl
    have ih := ih (settleStep g l[l.length - (d + 1)]) (n + 1000000000000) (m + 1) (by omega) (by omega) (by omega) (by omega) (goodL_step hg h0 (by omega) _ hwg) (fun w hw => by rw [hst, List.length_set]; exact hn2 w hw)
    rw [List.drop_eq_getElem_cons hlt, List.foldl_cons, show l.length - (d + 1) + 1 = l.length - d by omega]
    refine Ev.step (fun k => impl_settled.l0.eq_2 ..) (Ev.pos (by omega) (Ev.pos (by omega) (Ev.pos (by omega) ?_)))
    rw [hr, w64 (x := (l.length : Int) - ((d + 1 : Nat) : Int) + 1) (by omega) (by omega), show (l.length : Int) - ((d + 1 : Nat) : Int) + 1 = (l.length : Int) - (d : Int) by omega]
    refine Ev.pos hng.1 (Ev.pos hng.2 ?_)
    rw [hrb]
    have hadd := impl_added_ev n h0 (by omega) _ hs.1 (by omega) hs.2.2 _ hwg
    refine Ev.bind hadd ?_
    rw [← hst]
    exact ih
theorem impl_settled_ev (g : List (List S104)) (n : Int) (m : Nat) (h0 : 0 ≤ n) (hn : n ≤ 900000000000000) (hm : m ≤ 10000) (hgl : g.length ≤ 1000) (hg : goodL n m g) (id : Int) (l : List S86) (hl : l.length ≤ 8) (hw : ∀ w ∈ l, smallG w) (hn2 : ∀ w ∈ l, 0 ≤ w.f0 ∧ w.f0 < (g.length : Int)) :
    Ev (fun k => impl_settled.f k g id l) (settleL g l) := by
  unfold impl_settled.f
  have := impl_settled_loop l hl hw l.length g n m (Nat.le_refl _) h0 (by omega) (by omega) hg hn2
  rw [Nat.sub_self, List.drop_zero, Int.sub_self, settle_seq l g hn2] at this
  exact Ev.bind (impl_copyLedger_ev g (by omega) (fun s hs => by have := (hg s hs).2.1; omega)) this

theorem contract_small {id : Int} {l : List S86} (h : contractFault id l = 0) : l.length ≤ 8 ∧ ∀ w ∈ l, smallG w ∧ 0 ≤ w.f0 ∧ w.f0 ≤ 2 ∧ w.f3 ≠ 0 := by
  obtain ⟨hl, _⟩ := contract_legs h
  unfold contractFault at h
  split at h
  · refine ⟨by omega, fun w hw => ?_⟩
    obtain ⟨i, hi, rfl⟩ := List.getElem_of_mem hw
    have hf := legs_ok l l.length (Nat.le_refl _) h (i : Int) (by omega) (by omega)
    rw [rdLeg_at l (i : Int) (by omega) (by omega)] at hf
    simp only [Int.toNat_natCast] at hf
    unfold legFault at hf
    split at hf
    · next hc =>
      split at hf
      · cases hf
      · next hz => exact ⟨⟨⟨hc.2.2.1, hc.2.2.2.1⟩, ⟨hc.2.2.2.2.1, hc.2.2.2.2.2.1⟩, hc.2.2.2.2.2.2⟩, hc.1, hc.2.1, hz⟩
    · cases hf
  · cases h
theorem can_parts {am : List S104 → Int → Int → Int} {g : List (List S104)} {id : Int} {l : List S86} (h : canR am g id l = 0) : contractFault id l = 0 ∧ (∀ w ∈ l, w.f0 < (g.length : Int)) ∧ canFrom am g l l.length = 0 := by
  unfold canR at h
  split at h
  · next hc =>
    split at h
    · cases h
    · next hn =>
      refine ⟨hc, fun w hw => ?_, h⟩
      have : ¬ farLeg g w = true := fun hf => hn (List.any_eq_true.2 ⟨w, hw, hf⟩)
      unfold farLeg at this
      rw [decide_eq_true_iff] at this
      omega
  · next hn => exact absurd h hn
theorem ledger_good {g : List (List S104)} (h : ledgerFault g = 0) : g.length ≤ 3 ∧ goodL 1000000000000 18 g := by
  obtain ⟨h1, h2⟩ := ledger_sorted g h
  refine ⟨h1, fun s hs => ?_⟩
  obtain ⟨a, b, c⟩ := h2 s hs
  refine ⟨fun x hx => ?_, a, c⟩
  have := b x hx
  unfold balOk at this
  exact ⟨by omega, by omega, by omega, by omega⟩
/-- What SettleOne tells. -/
noncomputable def settleR (g : List (List S104)) (id : Int) (l : List S86) : Int × List (List S104) := if canSettleR g id l = 0 then (0, settleL g l) else (canSettleR g id l, [])
theorem canSettle_parts {g : List (List S104)} {id : Int} {l : List S86} (h : canSettleR g id l = 0) : ledgerFault g = 0 ∧ canR (fun s x y => amountL x y s) g id l = 0 := by
  unfold canSettleR at h
  split at h
  · next hf => exact ⟨hf, h⟩
  · next hn => exact absurd h hn
theorem impl_SettleOne_ev (g : List (List S104)) (hb : ∀ s ∈ g, s.length ≤ 1048576) (id : Int) (l : List S86) : Ev (fun k => impl_SettleOne.f k g id l) (settleR g id l) := by
  unfold impl_SettleOne.f settleR
  refine Ev.bind (impl_CanSettle_ev g hb id l) (Ev.cond (fun h0 => ?_) (fun _ => Ev.now _))
  obtain ⟨hf, hc⟩ := canSettle_parts h0
  obtain ⟨hg, hgood⟩ := ledger_good hf
  obtain ⟨hc1, hc2, _⟩ := can_parts hc
  obtain ⟨hl, hw⟩ := contract_small hc1
  exact Ev.bind (impl_settled_ev g 1000000000000 18 (by decide) (by decide) (by decide) (by omega) hgood id l hl (fun w h => (hw w h).1) (fun w h => ⟨(hw w h).2.1, hc2 w h⟩)) (Ev.now _)
theorem wrap_add (x y : Int) : wrap64 (wrap64 x + y) = wrap64 (x + y) := by
  unfold wrap64
  omega
theorem wrap_add2 (x y : Int) : wrap64 (wrap64 x + wrap64 y) = wrap64 (x + y) := by
  unfold wrap64
  omega
theorem wrap_zero : wrap64 0 = 0 := w64 (by decide) (by decide)
/-- The amounts of an asset, together. -/
def totIn (a : Int) : List S104 → Int
  | [] => 0
  | b :: l => (if b.f1 = a then b.f2 else 0) + totIn a l
def totAll (a : Int) : List (List S104) → Int
  | [] => 0
  | l :: g => totIn a l + totAll a g
theorem impl_totalIn_ev (l : List S104) (a : Int) (hl : (l.length : Int) ≤ 9000000000000000000) : Ev (fun k => impl_totalIn.f k l a) (wrap64 (totIn a l)) := by
  unfold impl_totalIn.f
  refine Ev.upto1 (fun k s i => impl_totalIn.l0 k a s l (l.length : Int) i) l.length (by omega) (fun i s => ∃ y, s = wrap64 y ∧ y + totIn a (l.drop i.toNat) = totIn a l) (wrap64 (totIn a l))
    (fun i s h0 h1 ⟨y, hs, hy⟩ => ?_) (fun s ⟨y, hs, hy⟩ => Ev.step (fun k => impl_totalIn.l0.eq_2 ..) (Ev.neg (by omega) (Ev.eq (Ev.now _) (by rw [hs, ← hy, List.drop_eq_nil_of_le (by omega)]; simp [totIn])))) 0 0 (by omega) (by omega) ⟨0, wrap_zero.symm, by simp⟩
  have e1 : l[i.toNat]? = some (l[i.toNat]'(by omega)) := List.getElem?_eq_getElem (by omega)
  rw [drop_cons_at l i.toNat (by omega)] at hy
  generalize l[i.toNat]'(by omega) = b at hy e1
  simp only [totIn] at hy
  by_cases hb : b.f1 = a
  · rw [if_pos hb] at hy
    refine .inl ⟨wrap64 (s + b.f2), ⟨y + b.f2, by rw [hs, wrap_add], by rw [show (i + 1).toNat = i.toNat + 1 by omega]; omega⟩, fun h => Ev.step (fun k => impl_totalIn.l0.eq_2 ..) (Ev.pos h1 (Ev.pos h0 (Ev.pos h1 ?_)))⟩
    rw [rdBalance e1]
    exact Ev.pos hb h
  · rw [if_neg hb] at hy
    refine .inl ⟨s, ⟨y, hs, by rw [show (i + 1).toNat = i.toNat + 1 by omega]; omega⟩, fun h => Ev.step (fun k => impl_totalIn.l0.eq_2 ..) (Ev.pos h1 (Ev.pos h0 (Ev.pos h1 ?_)))⟩
    rw [rdBalance e1]
    exact Ev.neg hb h
noncomputable def totalR (g : List (List S104)) (a : Int) : Int × Int := if ledgerFault g = 0 then (if 0 ≤ a ∧ a ≤ 2 then (0, wrap64 (totAll a g)) else (3, 0)) else (ledgerFault g, 0)
theorem impl_TotalOf_ev (g : List (List S104)) (a : Int) (hg : (g.length : Int) ≤ 9000000000000000000) (hb : ∀ l ∈ g, (l.length : Int) ≤ 9000000000000000000) : Ev (fun k => impl_TotalOf.f k g a) (totalR g a) := by
  unfold impl_TotalOf.f impl_isAsset.f totalR
  refine Ev.bind (impl_LedgerFault_ev g hb) ?_
  by_cases hf : ledgerFault g = 0
  · rw [if_pos hf]
    refine Ev.pos hf (Ev.bind (Ev.bind (Ev.is (within_eq _ _ _)) (Ev.now _)) ?_)
    by_cases ha : 0 ≤ a ∧ a ≤ 2
    · rw [if_pos ha]
      refine Ev.pos (by simpa using ha) ?_
      refine Ev.upto1 (fun k s i => impl_TotalOf.l0 k a g (g.length : Int) i 0 s) g.length (by omega) (fun i s => ∃ y, s = wrap64 y ∧ y + totAll a (g.drop i.toNat) = totAll a g) (0, wrap64 (totAll a g))
        (fun i s h0 h1 ⟨y, hs, hy⟩ => ?_) (fun s ⟨y, hs, hy⟩ => Ev.step (fun k => impl_TotalOf.l0.eq_2 ..) (Ev.neg (by omega) (Ev.eq (Ev.now _) (by rw [hs, ← hy, List.drop_eq_nil_of_le (by omega)]; simp [totAll])))) 0 0 (by omega) (by omega) ⟨0, wrap_zero.symm, by simp⟩
      have e1 : g[i.toNat]? = some (g[i.toNat]'(by omega)) := List.getElem?_eq_getElem (by omega)
      have hl := hb _ (List.getElem_mem (l := g) (n := i.toNat) (by omega))
      rw [drop_cons_at g i.toNat (by omega)] at hy
      generalize g[i.toNat]'(by omega) = l at hy e1 hl
      simp only [totAll] at hy
      refine .inl ⟨wrap64 (s + wrap64 (totIn a l)), ⟨y + totIn a l, by rw [hs, wrap_add2], by rw [show (i + 1).toNat = i.toNat + 1 by omega]; omega⟩, fun h => Ev.step (fun k => impl_TotalOf.l0.eq_2 ..) (Ev.pos h1 (Ev.pos h0 (Ev.pos h1 ?_)))⟩
      rw [rdBB e1]
      exact Ev.bind (impl_totalIn_ev l a hl) h
    · rw [if_neg ha]
      exact Ev.neg (by simpa using ha) (Ev.now _)
  · rw [if_neg hf]
    exact Ev.neg hf (Ev.now _)
/-- A shard that is right. -/
def shOk (l : List S104) : Prop := (∀ b ∈ l, balOk b) ∧ l.Pairwise balLt
def okG (g : List (List S104)) : Prop := 1 ≤ g.length ∧ g.length ≤ 3 ∧ ∀ s ∈ g, shOk s
theorem keys_few : ∀ (l : List S104) (k : Int), l.Pairwise balLt → (∀ b ∈ l, balOk b ∧ k ≤ b.f0 * 3 + b.f1) → k ≤ 18 → (l.length : Int) ≤ 18 - k := by
  intro l
  induction l with
  | nil => intro k _ _ hk; simp; omega
  | cons b l ih =>
    intro k hp h hk
    obtain ⟨h1, h2⟩ := List.pairwise_cons.1 hp
    have hb := h b List.mem_cons_self
    have hb2 := hb.1
    unfold balOk at hb2
    have := ih (b.f0 * 3 + b.f1 + 1) h2 (fun c hc => by
      have hc1 := h c (List.mem_cons_of_mem _ hc)
      have hc2 := hc1.1
      have hlt := h1 c hc
      unfold balOk at hc2
      unfold balLt at hlt
      exact ⟨hc1.1, by omega⟩) (by omega)
    rw [List.length_cons]
    omega
theorem shOk_len {l : List S104} (h : shOk l) : l.length ≤ 18 := by
  have := keys_few l 0 h.2 (fun b hb => ⟨h.1 b hb, by have := h.1 b hb; unfold balOk at this; omega⟩) (by decide)
  omega
theorem balsR_of (l : List S104) : ∀ p, (∀ b ∈ l, balOk b) → l.Pairwise balLt → (∀ a, p = some a → ∀ b ∈ l, balLt a b) → balsR p l = 0 := by
  induction l with
  | nil => intro p _ _ _; rfl
  | cons b l ih =>
    intro p h1 h2 h3
    obtain ⟨h4, h5⟩ := List.pairwise_cons.1 h2
    rw [balsR_ok b p l (h1 b List.mem_cons_self) (fun a ha => h3 a ha b List.mem_cons_self)]
    exact ih (some b) (fun c hc => h1 c (List.mem_cons_of_mem _ hc)) h5 (fun a ha c hc => by obtain rfl := Option.some.inj ha; exact h4 c hc)
theorem shardsR_of (g : List (List S104)) (h : ∀ s ∈ g, shOk s) : shardsR g = 0 := by
  induction g with
  | nil => rfl
  | cons l g ih =>
    have hl := h l List.mem_cons_self
    have e : balsFault l = 0 := by
      unfold balsFault
      rw [if_neg (by have := shOk_len hl; omega)]
      exact balsR_of l none hl.1 hl.2 (fun a ha => by cases ha)
    rw [shardsR_cons, if_pos e]
    exact ih (fun s hs => h s (List.mem_cons_of_mem _ hs))
theorem okG_fault {g : List (List S104)} (h : okG g) : ledgerFault g = 0 := by
  unfold ledgerFault
  rw [if_pos ⟨h.1, h.2.1⟩]
  exact shardsR_of g h.2.2
theorem fault_okG {g : List (List S104)} (h : ledgerFault g = 0) : okG g := by
  obtain ⟨h1, h2⟩ := ledger_sorted g h
  refine ⟨?_, h1, fun s hs => (h2 s hs).2⟩
  unfold ledgerFault at h
  by_cases hg : 1 ≤ g.length ∧ g.length ≤ 3
  · exact hg.1
  · rw [if_neg hg] at h; exact absurd h (by decide)
theorem totIn_append (a : Int) (l m : List S104) : totIn a (l ++ m) = totIn a l + totIn a m := by
  induction l with
  | nil => simp [totIn]
  | cons b l ih => simp only [List.cons_append, totIn, ih]; omega
theorem amount_mid (x y : Int) (p m q : List S104) (h : ∀ b ∈ m, ¬ atPlace x y b) : amountL x y (p ++ m ++ q) = amountL x y (p ++ q) := by
  induction p with
  | nil => exact amount_skip x y m q h
  | cons b p ih =>
    simp only [List.cons_append, amountL_cons]
    rw [ih]
/-- What a leg does to a shard. -/
theorem addL_keep (l : List S104) (hl : shOk l) (w : S86) (hw : smallG w) (h0 : 0 ≤ amountL w.f1 w.f2 l + w.f3) (h1 : amountL w.f1 w.f2 l + w.f3 ≤ 1000000000000) :
    shOk (addL l w) ∧ (∀ x y, amountL x y (addL l w) = if x = w.f1 ∧ y = w.f2 then amountL x y l + w.f3 else amountL x y l) ∧ ∀ a, totIn a (addL l w) = totIn a l + if w.f2 = a then w.f3 else 0 := by
  have hn := shOk_len hl
  have hs : ∀ b ∈ l, 0 ≤ b.f1 ∧ b.f1 ≤ 2 := fun b hb => by have := hl.1 b hb; unfold balOk at this; omega
  have hso := addL_sorted l hl.2 (by omega) hs w hw.2.1
  obtain ⟨p, q, o, rfl, _, hp, hq, ho⟩ := added_parts l w.f1 w.f2 (by omega) hl.2
  obtain ⟨e1, e2⟩ := addL_parts p q o w hp hq ho (fun b hb => hs b (by simp [hb])) (fun b hb => hs b (by simp [hb])) hw.2.1
  rw [e1] at h0 h1
  have hop : ∀ b ∈ o.toList, atPlace w.f1 w.f2 b := fun b hb => ho b (by simpa using hb)
  have hmo : ∀ b ∈ (if (o.map (·.f2)).getD 0 + w.f3 = 0 then [] else [(⟨w.f1, w.f2, (o.map (·.f2)).getD 0 + w.f3⟩ : S104)]), atPlace w.f1 w.f2 b := fun b hb => by
    split at hb
    · cases hb
    · rw [List.mem_singleton.1 hb]; exact ⟨rfl, rfl⟩
  refine ⟨⟨fun b hb => ?_, hso⟩, fun x y => ?_, fun a => ?_⟩
  · rw [e2] at hb
    rcases List.mem_append.1 hb with hb | hb
    · rcases List.mem_append.1 hb with hb | hb
      · exact hl.1 b (by simp [hb])
      · split at hb
        · cases hb
        · next hm =>
          rw [List.mem_singleton.1 hb]
          have h2 := hw.1
          have h3 := hw.2.1
          unfold balOk
          simp only
          omega
    · exact hl.1 b (by simp [hb])
  · rw [e2]
    by_cases hxy : x = w.f1 ∧ y = w.f2
    · rw [if_pos hxy]
      obtain ⟨rfl, rfl⟩ := hxy
      rw [e1, List.append_assoc, amount_skip _ _ _ _ (fun b hb => lt_off (.inl (hp b hb)))]
      by_cases hm : (o.map (·.f2)).getD 0 + w.f3 = 0
      · rw [if_pos hm, List.nil_append, hm]
        have := amount_skip w.f1 w.f2 q [] (fun b hb => lt_off (.inr (hq b hb)))
        rw [List.append_nil] at this
        exact this
      · rw [if_neg hm, List.singleton_append, amountL_cons, if_pos ⟨rfl, rfl⟩]
    · rw [if_neg hxy]
      have off : ∀ b, atPlace w.f1 w.f2 b → ¬ atPlace x y b := fun b ⟨a1, a2⟩ ⟨a3, a4⟩ => hxy ⟨a3.symm.trans a1, a4.symm.trans a2⟩
      rw [amount_mid x y p _ q (fun b hb => off b (hmo b hb)), amount_mid x y p _ q (fun b hb => off b (hop b hb))]
  · rw [e2]
    simp only [totIn_append]
    have e3 : totIn a o.toList = if w.f2 = a then (o.map (·.f2)).getD 0 else 0 := by
      cases o with
      | none => simp [totIn]
      | some b =>
        have := ho b rfl
        unfold atPlace at this
        simp only [Option.toList_some, totIn, this.2, Option.map_some, Option.getD_some]
        omega
    have e4 : totIn a (if (o.map (·.f2)).getD 0 + w.f3 = 0 then [] else [(⟨w.f1, w.f2, (o.map (·.f2)).getD 0 + w.f3⟩ : S104)]) = if w.f2 = a then (o.map (·.f2)).getD 0 + w.f3 else 0 := by
      by_cases hm : (o.map (·.f2)).getD 0 + w.f3 = 0
      · rw [if_pos hm, hm]; simp [totIn]
      · rw [if_neg hm]; simp [totIn]
    rw [e3, e4]
    split <;> omega
/-- The amount at a shard's place. -/
def amt (g : List (List S104)) (s x y : Int) : Int := amountL x y (g.getD s.toNat [])
theorem totAll_set (a : Int) : ∀ (g : List (List S104)) (i : Nat) (l : List S104), i < g.length → totAll a (g.set i l) = totAll a g - totIn a (g.getD i []) + totIn a l := by
  intro g
  induction g with
  | nil => intro i l h; simp at h
  | cons b g ih =>
    intro i l h
    cases i with
    | zero => simp [totAll]; omega
    | succ i =>
      have := ih i l (by simpa using h)
      simp only [List.set_cons_succ, totAll, this, List.getD_cons_succ]
      omega
def fitG (g : List (List S104)) (w : S86) : Prop := smallG w ∧ 0 ≤ w.f0 ∧ w.f0 < (g.length : Int) ∧ 0 ≤ amt g w.f0 w.f1 w.f2 + w.f3 ∧ amt g w.f0 w.f1 w.f2 + w.f3 ≤ 1000000000000
theorem step_keep (g : List (List S104)) (hg : okG g) (w : S86) (hw : fitG g w) :
    okG (settleStep g w) ∧ (settleStep g w).length = g.length ∧ (∀ s x y, 0 ≤ s → amt (settleStep g w) s x y = if s = w.f0 ∧ x = w.f1 ∧ y = w.f2 then amt g s x y + w.f3 else amt g s x y) ∧ ∀ a, totAll a (settleStep g w) = totAll a g + if w.f2 = a then w.f3 else 0 := by
  obtain ⟨h1, h2, h3, h4, h5⟩ := hw
  have hlt : w.f0.toNat < g.length := by omega
  have he : g.getD w.f0.toNat [] = g[w.f0.toNat] := by rw [List.getD_eq_getElem?_getD, List.getElem?_eq_getElem hlt]; rfl
  have hm : g.getD w.f0.toNat [] ∈ g := by rw [he]; exact List.getElem_mem hlt
  unfold amt at h4 h5
  obtain ⟨k1, k2, k3⟩ := addL_keep (g.getD w.f0.toNat []) (hg.2.2 _ hm) w h1 h4 h5
  unfold settleStep
  refine ⟨⟨by rw [List.length_set]; exact hg.1, by rw [List.length_set]; exact hg.2.1, fun s hs => ?_⟩, List.length_set, fun s x y hs => ?_, fun a => ?_⟩
  · rcases List.mem_or_eq_of_mem_set hs with h | h
    · exact hg.2.2 s h
    · rw [h]; exact k1
  · unfold amt
    by_cases e : s = w.f0
    · subst e
      have : (g.set w.f0.toNat (addL (g.getD w.f0.toNat []) w)).getD w.f0.toNat [] = addL (g.getD w.f0.toNat []) w := by
        rw [List.getD_eq_getElem?_getD, List.getElem?_set_self hlt]; rfl
      rw [this, k2]
      simp
    · have : (g.set w.f0.toNat (addL (g.getD w.f0.toNat []) w)).getD s.toNat [] = g.getD s.toNat [] := by
        rw [List.getD_eq_getElem?_getD, List.getElem?_set_ne (by omega), ← List.getD_eq_getElem?_getD]
      rw [this, if_neg (fun h => e h.1)]
  · rw [totAll_set a g _ _ hlt, k3]
    omega
/-- Are two legs' places apart? -/
def apartL (v w : S86) : Prop := ¬ (v.f0 = w.f0 ∧ v.f1 = w.f1 ∧ v.f2 = w.f2)
/-- All that legs add at a place. -/
def addAt (s x y : Int) : List S86 → Int
  | [] => 0
  | w :: l => (if s = w.f0 ∧ x = w.f1 ∧ y = w.f2 then w.f3 else 0) + addAt s x y l
def addOf (a : Int) : List S86 → Int
  | [] => 0
  | w :: l => (if w.f2 = a then w.f3 else 0) + addOf a l
theorem steps_keep : ∀ (l : List S86) (g : List (List S104)), okG g → (∀ w ∈ l, fitG g w) → l.Pairwise apartL →
    okG (l.foldl settleStep g) ∧ (l.foldl settleStep g).length = g.length ∧ (∀ s x y, 0 ≤ s → amt (l.foldl settleStep g) s x y = amt g s x y + addAt s x y l) ∧ ∀ a, totAll a (l.foldl settleStep g) = totAll a g + addOf a l := by
  intro l
  induction l with
  | nil => intro g hg _ _; exact ⟨hg, rfl, fun s x y _ => by simp [addAt], fun a => by simp [addOf]⟩
  | cons w l ih =>
    intro g hg hf hp
    obtain ⟨p1, p2⟩ := List.pairwise_cons.1 hp
    obtain ⟨k1, k2, k3, k4⟩ := step_keep g hg w (hf w List.mem_cons_self)
    obtain ⟨i1, i2, i3, i4⟩ := ih (settleStep g w) k1 (fun v hv => by
      obtain ⟨a1, a2, a3, a4, a5⟩ := hf v (List.mem_cons_of_mem _ hv)
      have e := k3 v.f0 v.f1 v.f2 a2
      rw [if_neg (fun h => p1 v hv ⟨h.1.symm, h.2.1.symm, h.2.2.symm⟩)] at e
      exact ⟨a1, a2, by rw [k2]; exact a3, by rw [e]; exact a4, by rw [e]; exact a5⟩) p2
    refine ⟨i1, i2.trans k2, fun s x y hs => ?_, fun a => ?_⟩
    · rw [List.foldl_cons, i3 s x y hs, k3 s x y hs]
      simp only [addAt]
      split <;> omega
    · rw [List.foldl_cons, i4 a, k4 a]
      simp only [addOf]
      omega
theorem legFault_range {s a t m : Int} (h : legFault s a t m = 0) : (0 ≤ s ∧ s ≤ 2) ∧ (0 ≤ a ∧ a ≤ 5) ∧ (0 ≤ t ∧ t ≤ 2) ∧ -1000000000000 ≤ m ∧ m ≤ 1000000000000 ∧ m ≠ 0 := by
  unfold legFault at h
  split at h
  · next hc =>
    split at h
    · cases h
    · omega
  · cases h
theorem legs_zero (l : List S86) : ∀ d : Nat, d ≤ l.length → contractFrom l d = 0 → ∀ i : Int, (l.length : Int) - d ≤ i → i < (l.length : Int) → legFault (rd_T86 l i).f0 (rd_T86 l i).f1 (rd_T86 l i).f2 (rd_T86 l i).f3 = 0 := by
  intro d
  induction d with
  | zero => intro _ _ i h0 h1; omega
  | succ d ih =>
    intro hd h i h0 h1
    unfold contractFrom at h
    simp only at h
    split at h
    · next hf =>
      split at h
      · cases h
      · by_cases hi : i = (l.length : Int) - ((d : Int) + 1)
        · rw [hi]
          exact hf
        · exact ih (by omega) h i (by omega) h1
    · next hn => exact absurd h hn
theorem contract_right {id : Int} {l : List S86} (h : contractFault id l = 0) : (1 ≤ id ∧ id ≤ 1000000000) ∧ (2 ≤ (l.length : Int) ∧ (l.length : Int) ≤ 8) ∧ ∀ g ∈ l, (0 ≤ g.f0 ∧ g.f0 ≤ 2) ∧ (0 ≤ g.f1 ∧ g.f1 ≤ 5) ∧ (0 ≤ g.f2 ∧ g.f2 ≤ 2) ∧ -1000000000000 ≤ g.f3 ∧ g.f3 ≤ 1000000000000 ∧ g.f3 ≠ 0 := by
  unfold contractFault at h
  split at h
  · next hid =>
    split at h
    · next hl =>
      refine ⟨hid, hl, fun g hg => ?_⟩
      obtain ⟨j, hj, rfl⟩ := List.getElem_of_mem hg
      have := legFault_range (legs_zero l l.length (Nat.le_refl _) h (j : Int) (by omega) (by omega))
      unfold rd_T86 at this
      rw [List.getD_eq_getElem?_getD, Int.toNat_natCast, List.getElem?_eq_getElem hj] at this
      exact this
    · cases h
  · cases h

def okLeg (g : S86) : Prop := (0 ≤ g.f0 ∧ g.f0 ≤ 2) ∧ (0 ≤ g.f1 ∧ g.f1 ≤ 5) ∧ (0 ≤ g.f2 ∧ g.f2 ≤ 2) ∧ -1000000000000 ≤ g.f3 ∧ g.f3 ≤ 1000000000000 ∧ g.f3 ≠ 0
def allS (a : Int) : List S86 → Int
  | [] => 0
  | g :: r => (if g.f2 = a then g.f3 else 0) + allS a r
theorem sumA_all (a : Int) (l : List S86) (h : ∀ g ∈ l, okLeg g) (hl : l.length ≤ 1000) : sumA a l = allS a l := by
  have key : ∀ (l : List S86) (s : Int), (∀ g ∈ l, okLeg g) → -9000000000000000000 ≤ s - 1000000000000 * (l.length : Int) → s + 1000000000000 * (l.length : Int) ≤ 9000000000000000000 → l.foldl (fun s g => if a = g.f2 then wrap64 (s + g.f3) else s) s = s + allS a l := by
    intro l
    induction l with
    | nil => intro s _ _ _; simp [allS]
    | cons g r ih =>
      intro s hok h0 h1
      have hg := (hok g List.mem_cons_self).2.2.2
      rw [List.length_cons] at h0 h1
      rw [List.foldl_cons, allS]
      by_cases ha : a = g.f2
      · rw [if_pos ha, if_pos ha.symm, w64 (by omega) (by omega), ih (s + g.f3) (fun x hx => hok x (List.mem_cons_of_mem _ hx)) (by omega) (by omega)]
        omega
      · rw [if_neg ha, if_neg (fun e => ha e.symm), ih s (fun x hx => hok x (List.mem_cons_of_mem _ hx)) (by omega) (by omega)]
        omega
  unfold sumA
  rw [key l 0 h (by omega) (by omega)]
  omega
theorem rdLegN (l : List S86) (i : Nat) (h : i < l.length) : rd_T86 l (i : Int) = l[i] := by
  unfold rd_T86
  rw [List.getD_eq_getElem?_getD, Int.toNat_natCast, List.getElem?_eq_getElem h]
  rfl
theorem finCode_zero {l : List S86} (h : finCode l = 0) : ∀ a, sumA a l = 0 := by
  unfold finCode at h
  by_cases hz : ∀ g ∈ l, sumA g.f2 l = 0
  · intro a
    by_cases ha : sumA a l = 0
    · exact ha
    · obtain ⟨g, hg, e⟩ := sumA_mem ha
      have := hz g hg
      rw [e] at this
      exact this
  · rw [if_neg hz] at h; cases h
theorem contractFrom_fin (l : List S86) : ∀ d : Nat, contractFrom l d = 0 → finCode l = 0 := by
  intro d
  induction d with
  | zero => exact fun h => h
  | succ d ih =>
    intro h
    unfold contractFrom at h
    simp only at h
    split at h
    · split at h
      · cases h
      · exact ih h
    · next hn => exact absurd h hn
theorem contract_sums {id : Int} {l : List S86} (h : contractFault id l = 0) : ∀ a, allS a l = 0 := by
  obtain ⟨hid, hl, hg⟩ := contract_right h
  intro a
  rw [← sumA_all a l hg (by omega)]
  refine finCode_zero (contractFrom_fin l l.length ?_) a
  unfold contractFault at h
  rw [if_pos hid, if_pos hl] at h
  exact h
theorem addOf_all (a : Int) (l : List S86) : addOf a l = allS a l := by
  induction l with
  | nil => rfl
  | cons w l ih => simp only [addOf, allS, ih]
theorem legs_apart (l : List S86) : ∀ d : Nat, d ≤ l.length → contractFrom l d = 0 → ∀ (i : Nat) (h : i < l.length), l.length - d ≤ i → placeIn l (i : Int) l[i] = false := by
  intro d
  induction d with
  | zero => intro _ _ i h h1; omega
  | succ d ih =>
    intro hd h i hi h0
    have he : (l.length : Int) - ((d : Int) + 1) = ((l.length - (d + 1) : Nat) : Int) := by omega
    unfold contractFrom at h
    simp only at h
    rw [he, rdLegN l _ (by omega)] at h
    split at h
    · next hf =>
      split at h
      · cases h
      · next hp =>
        by_cases e : i = l.length - (d + 1)
        · subst e
          simpa using hp
        · exact ih (by omega) h i hi (by omega)
    · next hn => exact absurd h hn
theorem contract_apart {id : Int} {l : List S86} (h : contractFault id l = 0) : l.Pairwise apartL := by
  obtain ⟨hid, hl, hg⟩ := contract_right h
  unfold contractFault at h
  rw [if_pos hid, if_pos hl] at h
  refine List.pairwise_iff_getElem.2 (fun i j hi hj hij he => ?_)
  have hp := legs_apart l l.length (Nat.le_refl _) h j hj (by omega)
  unfold placeIn at hp
  rw [List.any_eq_false] at hp
  have := hp l[i] (by rw [Int.toNat_natCast]; exact List.mem_take_iff_getElem.2 ⟨i, by omega, rfl⟩)
  unfold sameP at this
  obtain ⟨e1, e2, e3⟩ := he
  rw [e1, e2, e3] at this
  simp at this
theorem amount_range (l : List S104) (h : ∀ b ∈ l, balOk b) (x y : Int) : 0 ≤ amountL x y l ∧ amountL x y l ≤ 1000000000000 := by
  induction l with
  | nil => exact ⟨by simp [amountL], by simp [amountL]⟩
  | cons b l ih =>
    have hb := h b List.mem_cons_self
    unfold balOk at hb
    rw [amountL_cons]
    split
    · omega
    · exact ih (fun c hc => h c (List.mem_cons_of_mem _ hc))
theorem rdL_getD (g : List (List S104)) (s : Int) : rd_L3 g s = g.getD s.toNat [] := rfl
theorem amt_range {g : List (List S104)} (h : okG g) (s x y : Int) (h0 : 0 ≤ s) (h1 : s < (g.length : Int)) : 0 ≤ amt g s x y ∧ amt g s x y ≤ 1000000000000 := by
  unfold amt
  refine amount_range _ (h.2.2 _ ?_).1 x y
  have hlt : s.toNat < g.length := by omega
  rw [List.getD_eq_getElem?_getD, List.getElem?_eq_getElem hlt]
  exact List.getElem_mem hlt
theorem codeL_zero {n : Int} : codeL n = 0 ↔ 0 ≤ n ∧ n ≤ 1000000000000 := by
  unfold codeL
  constructor
  · intro h
    split at h
    · cases h
    · split at h
      · cases h
      · omega
  · rintro ⟨h0, h1⟩
    rw [if_neg (by omega), if_neg (by omega)]
theorem canFrom_iff (am : List S104 → Int → Int → Int) (g : List (List S104)) (l : List S86) : ∀ d : Nat, d ≤ l.length → (canFrom am g l d = 0 ↔ ∀ (i : Nat) (h : i < l.length), l.length - d ≤ i → canLeg am (rd_L3 g l[i].f0) l[i] = 0) := by
  intro d
  induction d with
  | zero => intro _; exact ⟨fun _ i h h1 => by omega, fun _ => rfl⟩
  | succ d ih =>
    intro hd
    have he : (l.length : Int) - ((d : Int) + 1) = ((l.length - (d + 1) : Nat) : Int) := by omega
    have ih := ih (by omega)
    unfold canFrom
    simp only
    rw [he, rdLegN l _ (by omega)]
    constructor
    · intro h i hi h0
      split at h
      · next hc =>
        by_cases e : i = l.length - (d + 1)
        · subst e; exact hc
        · exact ih.1 h i hi (by omega)
      · next hn => exact absurd h hn
    · intro h
      rw [if_pos (h _ (by omega) (Nat.le_refl _))]
      exact ih.2 (fun i hi h0 => h i hi (by omega))
/-- The amounts as the ledger tells them. -/
def amL : List S104 → Int → Int → Int := fun s x y => amountL x y s
theorem can_fit {g : List (List S104)} (hg : okG g) {id : Int} {l : List S86} (h : canR amL g id l = 0) : ∀ w ∈ l, fitG g w := by
  obtain ⟨h1, h2, h3⟩ := can_parts h
  obtain ⟨_, hs⟩ := contract_small h1
  intro w hw
  obtain ⟨a1, a2, a3, a4⟩ := hs w hw
  obtain ⟨i, hi, rfl⟩ := List.getElem_of_mem hw
  have hc := (canFrom_iff amL g l l.length (Nat.le_refl _)).1 h3 i hi (by omega)
  have hr := amt_range hg l[i].f0 l[i].f1 l[i].f2 a2 (h2 _ hw)
  have hm := a1.2.2
  unfold canLeg amL at hc
  rw [rdL_getD] at hc
  unfold amt at hr
  rw [w64 (by omega) (by omega), codeL_zero] at hc
  exact ⟨a1, a2, h2 _ hw, hc.1, hc.2⟩
theorem settle_keep {g : List (List S104)} (hg : okG g) {id : Int} {l : List S86} (h : canR amL g id l = 0) :
    okG (settleL g l) ∧ (settleL g l).length = g.length ∧ (∀ s x y, 0 ≤ s → amt (settleL g l) s x y = amt g s x y + addAt s x y l) ∧ ∀ a, totAll a (settleL g l) = totAll a g := by
  have hf := can_fit hg h
  have hc := (can_parts h).1
  have hs := settle_seq l g (fun w hw => ⟨(hf w hw).2.1, (hf w hw).2.2.1⟩)
  obtain ⟨k1, k2, k3, k4⟩ := steps_keep l g hg hf (contract_apart hc)
  rw [hs] at k1 k2 k3 k4
  exact ⟨k1, k2, k3, fun a => by rw [k4, addOf_all, contract_sums hc]; omega⟩
theorem rd_bound (l : List Int) (hb : ∀ x ∈ l, 0 ≤ x ∧ x < 256) (i : Int) : 0 ≤ rd l i ∧ rd l i < 256 := by
  unfold rd
  rw [List.getD_eq_getElem?_getD]
  cases h : l[i.toNat]? with
  | none => simp
  | some v => exact hb v (List.mem_of_getElem? h)

/-- Bytes. -/
def bytesL (l : List Int) : Prop := ∀ x ∈ l, 0 ≤ x ∧ x < 256
theorem next_ok (c : List Int) (hb : bytesL c) (hl : c.length ≤ 2000000) (s : Int) (h0 : 0 ≤ s) (h1 : s ≤ 100000000000000) (n : Int) :
    ∃ r, spec_l1Next.f c s n = some (r, s + 1) ∧ 0 ≤ r ∧ (1 ≤ n → r < n) ∧ (n < 1 → r = 0) := by
  have e1 : wrap64 (s + 1) = s + 1 := w64 (by omega) (by omega)
  have e2 : wrap64 (s + 1 - 1) = s := by rw [show s + 1 - 1 = s by omega]; exact w64 (by omega) (by omega)
  unfold spec_l1Next.f
  simp only [e1, e2]
  by_cases hn1 : n < 1
  · rw [if_pos hn1]
    exact ⟨0, rfl, by omega, fun h => by omega, fun _ => rfl⟩
  rw [if_neg hn1]
  have fin : ∀ v : Int, 0 ≤ v → ∃ r, (if n = 0 then none else some (Int.tmod v n, s + 1)) = some (r, s + 1) ∧ 0 ≤ r ∧ (1 ≤ n → r < n) ∧ (n < 1 → r = 0) := fun v hv =>
    ⟨Int.tmod v n, if_neg (by omega), Int.tmod_nonneg n hv, fun _ => Int.tmod_lt_of_pos v (by omega), fun h => absurd h hn1⟩
  by_cases hk : (c.length : Int) = 0
  · rw [if_pos hk, w64 (x := s * 7) (by omega) (by omega)]
    exact fin _ (by omega)
  · rw [if_neg hk]
    have m0 := Int.tmod_nonneg (c.length : Int) h0
    have m1 := Int.tmod_lt_of_pos s (show 0 < (c.length : Int) by omega)
    have p0 := Int.tmod_nonneg (c.length : Int) (show 0 ≤ s + 1 by omega)
    have p1 := Int.tmod_lt_of_pos (s + 1) (show 0 < (c.length : Int) by omega)
    have d0 : 0 ≤ Int.tdiv s (c.length : Int) := Int.tdiv_nonneg h0 (by omega)
    have d1 : Int.tdiv s (c.length : Int) ≤ s := by
      rw [Int.tdiv_eq_ediv_of_nonneg h0]
      exact Int.ediv_le_self _ h0
    rw [if_pos m0, if_pos m1]
    have b0 := rd_bound c hb (Int.tmod s (c.length : Int))
    have b1 := rd_bound c hb (Int.tmod (s + 1) (c.length : Int))
    generalize rd c (Int.tmod s (c.length : Int)) = u at b0 ⊢
    generalize rd c (Int.tmod (s + 1) (c.length : Int)) = v at b1 ⊢
    generalize Int.tdiv s (c.length : Int) = q at d0 d1 ⊢
    have w1 : wrap64 u = u := w64 (by omega) (by omega)
    have w2 : wrap64 v = v := w64 (by omega) (by omega)
    have w3 : wrap64 q = q := w64 (by omega) (by omega)
    have w4 : wrap64 (q * 37) = q * 37 := w64 (by omega) (by omega)
    have w5 : wrap64 (u + q * 37) = u + q * 37 := w64 (by omega) (by omega)
    have w6 : wrap64 ((u + q * 37) * 251) = (u + q * 37) * 251 := w64 (by omega) (by omega)
    have w7 : wrap64 (v * 13) = v * 13 := w64 (by omega) (by omega)
    have w8 : wrap64 ((u + q * 37) * 251 + v * 13) = (u + q * 37) * 251 + v * 13 := w64 (by omega) (by omega)
    have w9 : wrap64 ((u + q * 37) * 251 + v * 13 + s) = (u + q * 37) * 251 + v * 13 + s := w64 (by omega) (by omega)
    simp only [w1, w2, w3, w4, w5, w6, w7, w8, w9]
    by_cases h200 : n > 200
    · rw [if_pos h200, if_pos p0, if_pos p1]
      exact fin _ (by omega)
    · rw [if_neg h200]
      exact fin _ (by omega)
theorem pick_ok (c : List Int) (hb : bytesL c) (hl : c.length ≤ 2000000) (s : Int) (h0 : 0 ≤ s) (h1 : s ≤ 100000000000000) (l : List Int) (hn : 1 ≤ l.length) : ∃ v, v ∈ l ∧ spec_l1Pick.f c s l = some (v, s + 1) := by
  obtain ⟨r, hr, p0, p1, _⟩ := next_ok c hb hl s h0 h1 (l.length : Int)
  have p1 := p1 (by omega)
  refine ⟨rd l r, ?_, ?_⟩
  · rw [rd_get l r p0 p1]
    exact List.getElem_mem _
  · unfold spec_l1Pick.f
    rw [hr]
    simp only [Option.bind_some]
    rw [if_pos p0, if_pos p1]
theorem chance_ok (c : List Int) (hb : bytesL c) (hl : c.length ≤ 2000000) (s : Int) (h0 : 0 ≤ s) (h1 : s ≤ 100000000000000) (n : Int) : ∃ b, spec_l1Chance.f c s n = some (b, s + 1) := by
  obtain ⟨r, hr, _⟩ := next_ok c hb hl s h0 h1 n
  unfold spec_l1Chance.f
  rw [hr]
  exact ⟨_, rfl⟩
theorem l2Set_any (l : List S104) (x y m : Int) (hl : l.length ≤ 1000) : ∃ r, r.length ≤ l.length + 1 ∧ Ev (fun k => spec_l2Set.f k l x y m) r := by
  unfold spec_l2Set.f
  have jn : ∀ (i : Int) (acc : List S104) (done flag : Bool) (b0 b1 b2 : Int), 0 ≤ i → i < (l.length : Int) → (acc.length : Int) + (if done = true then 0 else 1) ≤ i + 1 →
      ∃ s : List S104 × Bool, (s.1.length : Int) + (if s.2 = true then 0 else 1) ≤ i + 2 ∧ ∀ r, Ev (fun k => spec_l2Set.l0 k l x y m s.1 s.2 (wrap64 (i + 1))) r → Ev (fun k => spec_l2Set.j1 k l x y m acc done i flag b0 b1 b2) r := by
    intro i acc done flag b0 b1 b2 h0 h1 h2
    by_cases hf : flag = true
    · exact ⟨(acc, done), by simp only; omega, fun r h => Ev.step (fun k => spec_l2Set.j1.eq_2 ..) (Ev.pos hf h)⟩
    · by_cases hd : done = true
      · rw [if_pos hd] at h2
        exact ⟨(acc ++ [⟨b0, b1, b2⟩], done), by simp [hd]; omega, fun r h => Ev.step (fun k => spec_l2Set.j1.eq_2 ..) (Ev.neg hf (Ev.pos hd (Ev.pos (by omega) h)))⟩
      · rw [if_neg hd] at h2
        by_cases hw : wrap64 (wrap64 (b0 * 3) + b1) > wrap64 (wrap64 (x * 3) + y)
        · exact ⟨(acc ++ [⟨x, y, m⟩] ++ [⟨b0, b1, b2⟩], true), by simp; omega, fun r h => Ev.step (fun k => spec_l2Set.j1.eq_2 ..) (Ev.neg hf (Ev.neg hd (Ev.pos hw (Ev.pos (by omega) (Ev.let (Ev.pos (by simp; omega) h))))))⟩
        · exact ⟨(acc ++ [⟨b0, b1, b2⟩], done), by simp [hd]; omega, fun r h => Ev.step (fun k => spec_l2Set.j1.eq_2 ..) (Ev.neg hf (Ev.neg hd (Ev.neg hw (Ev.pos (by omega) h))))⟩
  obtain ⟨r, hr, he⟩ := Ev.upto (fun k (s : List S104 × Bool) i => spec_l2Set.l0 k l x y m s.1 s.2 i) l.length (by omega) (fun i s => (s.1.length : Int) + (if s.2 = true then 0 else 1) ≤ i + 1) (fun r => r.length ≤ l.length + 1)
    (fun i s h0 h1 hp => by
      by_cases hx : (rd_T104 l i).f0 = x
      · obtain ⟨s', h2, h3⟩ := jn i s.1 s.2 ((rd_T104 l i).f1 == y) (rd_T104 l i).f0 (rd_T104 l i).f1 (rd_T104 l i).f2 h0 h1 hp
        exact .inl ⟨s', by omega, fun r h => Ev.step (fun k => spec_l2Set.l0.eq_2 ..) (Ev.pos h1 (Ev.pos h0 (Ev.pos hx (h3 r h))))⟩
      · obtain ⟨s', h2, h3⟩ := jn i s.1 s.2 false (rd_T104 l i).f0 (rd_T104 l i).f1 (rd_T104 l i).f2 h0 h1 hp
        exact .inl ⟨s', by omega, fun r h => Ev.step (fun k => spec_l2Set.l0.eq_2 ..) (Ev.pos h1 (Ev.pos h0 (Ev.neg hx (h3 r h))))⟩)
    (fun s hp => by
      by_cases hd : s.2 = true
      · rw [if_pos hd] at hp
        exact ⟨s.1, by omega, Ev.step (fun k => spec_l2Set.l0.eq_2 ..) (Ev.neg (by omega) (Ev.pos hd (Ev.now _)))⟩
      · rw [if_neg hd] at hp
        exact ⟨s.1 ++ [⟨x, y, m⟩], by simp; omega, Ev.step (fun k => spec_l2Set.l0.eq_2 ..) (Ev.neg (by omega) (Ev.neg hd (Ev.pos (by omega) (Ev.now _))))⟩)
    0 ([], (m == 0)) (by omega) (by omega) (by simp only [List.length_nil]; split <;> omega)
  exact ⟨r, hr, he⟩
theorem balances_in (c : List Int) (hb : bytesL c) (hl : c.length ≤ 2000000) (a : Int) : ∀ (d : Nat) (l : List S104) (s : Int), d ≤ 3 → l.length + d ≤ 100 → 0 ≤ s → s + 10 * (d : Int) ≤ 100000000000 →
    ∃ l' s', l'.length ≤ l.length + d ∧ s ≤ s' ∧ s' ≤ s + 2 * (d : Int) ∧ ∀ r, Ev (fun k => spec_l2Balances.l0 k l' (wrap64 (a + 1)) c s') r → Ev (fun k => spec_l2Balances.l1 k l a (3 - (d : Int)) c s) r := by
  intro d
  induction d with
  | zero => intro l s _ _ h0 h1; exact ⟨l, s, by omega, by omega, by omega, fun r h => Ev.step (fun k => spec_l2Balances.l1.eq_2 ..) (Ev.neg (by omega) h)⟩
  | succ d ih =>
    intro l s hd hn h0 h1
    obtain ⟨b, hbb⟩ := chance_ok c hb hl s h0 (by omega) 3
    have hw := am (show wrap64 (3 - ((d + 1 : Nat) : Int) + 1) = 3 - (d : Int) from by rw [w64 (by omega) (by omega)]; omega)
    cases b with
    | true =>
      obtain ⟨l', s', p1, p2, p3, p4⟩ := ih l (s + 1) (by omega) (by omega) (by omega) (by omega)
      refine ⟨l', s', by omega, by omega, by omega, fun r h => Ev.step (fun k => spec_l2Balances.l1.eq_2 ..) (Ev.pos (by omega) (Ev.bind (Ev.is hbb) (Ev.pos rfl ?_)))⟩
      rw [hw.out]
      exact p4 r h
    | false =>
      obtain ⟨v, hv, _⟩ := next_ok c hb hl (s + 1) (by omega) (by omega) 90
      obtain ⟨m, hm, he⟩ := l2Set_any l a (3 - ((d + 1 : Nat) : Int)) (wrap64 (1 + v)) (by omega)
      obtain ⟨l', s', p1, p2, p3, p4⟩ := ih m (s + 1 + 1) (by omega) (by omega) (by omega) (by omega)
      refine ⟨l', s', by omega, by omega, by omega, fun r h => Ev.step (fun k => spec_l2Balances.l1.eq_2 ..) (Ev.pos (by omega) (Ev.bind (Ev.is hbb) (Ev.neg (by simp) (Ev.bind (Ev.is hv) (Ev.bind he ?_)))))⟩
      rw [hw.out]
      exact p4 r h
theorem balances_ok (c : List Int) (hb : bytesL c) (hl : c.length ≤ 2000000) (s : Int) (h0 : 0 ≤ s) (h1 : s ≤ 1000000000) : ∃ l s', Ev (fun k => spec_l2Balances.f k c s) (l, s') ∧ l.length ≤ 12 ∧ s ≤ s' ∧ s' ≤ s + 24 := by
  have go : ∀ (d : Nat) (l : List S104) (s : Int), d ≤ 4 → l.length + 3 * d ≤ 12 → 0 ≤ s → s + 30 * (d : Int) ≤ 10000000000 → ∃ l' s', Ev (fun k => spec_l2Balances.l0 k l (4 - (d : Int)) c s) (l', s') ∧ l'.length ≤ 12 ∧ s ≤ s' ∧ s' ≤ s + 6 * (d : Int) := by
    intro d
    induction d with
    | zero => intro l s _ hn h0 h1; exact ⟨l, s, Ev.step (fun k => spec_l2Balances.l0.eq_2 ..) (Ev.neg (by omega) (Ev.now _)), by omega, by omega, by omega⟩
    | succ d ih =>
      intro l s hd hn h0 h1
      have hw := am (show wrap64 (4 - ((d + 1 : Nat) : Int) + 1) = 4 - (d : Int) from by rw [w64 (by omega) (by omega)]; omega)
      obtain ⟨l1, s1, p1, p2, p3, p4⟩ := balances_in c hb hl (4 - ((d + 1 : Nat) : Int)) 3 l s (by omega) (by omega) h0 (by omega)
      obtain ⟨l2, s2, q1, q2, q3, q4⟩ := ih l1 s1 (by omega) (by omega) (by omega) (by omega)
      refine ⟨l2, s2, Ev.step (fun k => spec_l2Balances.l0.eq_2 ..) (Ev.pos (by omega) (p4 _ ?_)), q2, by omega, by omega⟩
      rw [hw.out]
      exact q1
  obtain ⟨l, s', p1, p2, p3, p4⟩ := go 4 [] s (by omega) (by simp) h0 (by omega)
  exact ⟨l, s', p1, p2, p3, by omega⟩
theorem ledger_draw (c : List Int) (hb : bytesL c) (hl : c.length ≤ 2000000) (n : Nat) (hn : n ≤ 3) (s : Int) (h0 : 0 ≤ s) (h1 : s ≤ 100000000) : ∃ g s', Ev (fun k => spec_l2Ledger.f k c s (n : Int)) (g, s') ∧ g.length = n ∧ (∀ l ∈ g, l.length ≤ 12) ∧ s ≤ s' ∧ s' ≤ s + 80 := by
  have go : ∀ (d : Nat) (g : List (List S104)) (s : Int), d ≤ n → g.length = n - d → (∀ l ∈ g, l.length ≤ 12) → 0 ≤ s → s + 30 * (d : Int) ≤ 1000000000 → ∃ g' s', Ev (fun k => spec_l2Ledger.l0 k (n : Int) ((n : Int) - (d : Int)) c s g) (g', s') ∧ g'.length = n ∧ (∀ l ∈ g', l.length ≤ 12) ∧ s ≤ s' ∧ s' ≤ s + 24 * (d : Int) := by
    intro d
    induction d with
    | zero => intro g s _ hg hg2 h0 h1; exact ⟨g, s, Ev.step (fun k => spec_l2Ledger.l0.eq_2 ..) (Ev.neg (by omega) (Ev.now _)), by omega, hg2, by omega, by omega⟩
    | succ d ih =>
      intro g s hd hg hg2 h0 h1
      obtain ⟨l, s1, p1, p2, p3, p4⟩ := balances_ok c hb hl s h0 (by omega)
      have hw := am (show wrap64 ((n : Int) - ((d + 1 : Nat) : Int) + 1) = (n : Int) - (d : Int) from by rw [w64 (by omega) (by omega)]; omega)
      obtain ⟨g2, s2, q1, q2, q3, q4, q5⟩ := ih (g ++ [l]) s1 (by omega) (by simp; omega) (fun m hm => by
        rcases List.mem_append.1 hm with hm | hm
        · exact hg2 m hm
        · rw [List.mem_singleton.1 hm]; exact p2) (by omega) (by omega)
      refine ⟨g2, s2, Ev.step (fun k => spec_l2Ledger.l0.eq_2 ..) (Ev.pos (by omega) (Ev.bind p1 (Ev.pos (by omega) ?_))), q2, q3, by omega, by omega⟩
      rw [hw.out]
      exact q1
  obtain ⟨g, s', p1, p2, p3, p4, p5⟩ := go n [] s (Nat.le_refl _) (by simp) (by simp) h0 (by omega)
  refine ⟨g, s', ?_, p2, p3, p4, by omega⟩
  unfold spec_l2Ledger.f
  have e : (n : Int) - (n : Int) = 0 := by omega
  rw [e] at p1
  exact p1
theorem mem_set_len {g : List (List S104)} {n : Nat} (h : ∀ l ∈ g, l.length ≤ n) {i : Nat} {x : List S104} (hx : x.length ≤ n) : ∀ l ∈ g.set i x, l.length ≤ n := fun l hl => by
  rcases List.mem_or_eq_of_mem_set hl with h1 | h1
  · exact h l h1
  · rw [h1]; exact hx
theorem l2Bent_ok (c : List Int) (hb : bytesL c) (hl : c.length ≤ 2000000) (s : Int) (h0 : 0 ≤ s) (h1 : s ≤ 10000000) : ∃ g s', Ev (fun k => spec_l2Bent.f k c s) (g, s') ∧ g.length ≤ 6 ∧ (∀ l ∈ g, l.length ≤ 19) ∧ s ≤ s' ∧ s' ≤ s + 100 := by
  obtain ⟨v, hv, hp⟩ := pick_ok c hb hl s h0 (by omega) [3, 3, 2, 1] (by simp)
  have hv2 : 1 ≤ v ∧ v ≤ 3 := by simp only [List.mem_cons, List.not_mem_nil, or_false] at hv; omega
  obtain ⟨n, rfl⟩ : ∃ n : Nat, v = n := ⟨v.toNat, by omega⟩
  obtain ⟨g, s1, hg, g1, g2, g3, g4⟩ := ledger_draw c hb hl n (by omega) (s + 1) (by omega) (by omega)
  have g19 : ∀ l ∈ g, l.length ≤ 19 := fun l hl => by have := g2 l hl; omega
  have hx12 : (g.getD 0 []).length ≤ 12 := by
    rw [List.getD_eq_getElem?_getD, List.getElem?_eq_getElem (by omega)]
    exact g2 _ (List.getElem_mem _)
  by_cases cx : ((g.getD 0 []).length : Int) = 0
  · refine ⟨g, s1, ?_, by omega, g19, by omega, by omega⟩
    unfold spec_l2Bent.f
    exact Ev.bind (Ev.is hp) (Ev.bind hg (Ev.pos (show (0 : Int) < (g.length : Int) by omega) (Ev.pos cx (Ev.now _))))
  obtain ⟨j, hj, j0, j1, _⟩ := next_ok c hb hl s1 (by omega) (by omega) ((g.getD 0 []).length : Int)
  have j1 := j1 (by omega)
  obtain ⟨b, hbb, b0, b1, _⟩ := next_ok c hb hl (s1 + 1) (by omega) (by omega) 24
  have pk : ∀ xs : List Int, 1 ≤ xs.length → ∃ v, v ∈ xs ∧ spec_l1Pick.f c (s1 + 1 + 1) xs = some (v, s1 + 1 + 1 + 1) := fun xs hx => pick_ok c hb hl (s1 + 1 + 1) (by omega) (by omega) xs hx
  have go : ∀ r : List (List S104) × Int, s1 ≤ r.2 → r.2 ≤ s1 + 4 → r.1.length ≤ 6 → (∀ l ∈ r.1, l.length ≤ 19) → Ev (fun k => spec_l2Bent.f k c s) r → ∃ g s', Ev (fun k => spec_l2Bent.f k c s) (g, s') ∧ g.length ≤ 6 ∧ (∀ l ∈ g, l.length ≤ 19) ∧ s ≤ s' ∧ s' ≤ s + 100 := fun r p1 p2 p3 p4 h => ⟨r.1, r.2, h, p3, p4, by omega, by omega⟩
  by_cases c0 : b = 0
  · obtain ⟨v, _, hv⟩ := pk [(-1), 6, 5] (by simp)
    refine go (g.set 0 ((g.getD 0 []).set j.toNat ⟨v, (rd_T104 (g.getD 0 []) j).f1, (rd_T104 (g.getD 0 []) j).f2⟩), s1 + 1 + 1 + 1) (by simp only []; omega) (by simp only []; omega) (by simp only [List.length_set]; omega) (mem_set_len g19 (by rw [List.length_set]; omega)) ?_
    unfold spec_l2Bent.f
    exact Ev.bind (Ev.is hp) (Ev.bind hg (Ev.pos (show (0 : Int) < (g.length : Int) by omega) (Ev.neg cx (Ev.bind (Ev.is hj) (Ev.bind (Ev.is hbb) (Ev.pos c0 (Ev.bind (Ev.is hv) (Ev.pos j0 (Ev.pos j1 (Ev.now _))))))))))
  by_cases c1 : b = 1
  · obtain ⟨v, _, hv⟩ := pk [(-1), 3, 2] (by simp)
    refine go (g.set 0 ((g.getD 0 []).set j.toNat ⟨(rd_T104 (g.getD 0 []) j).f0, v, (rd_T104 (g.getD 0 []) j).f2⟩), s1 + 1 + 1 + 1) (by simp only []; omega) (by simp only []; omega) (by simp only [List.length_set]; omega) (mem_set_len g19 (by rw [List.length_set]; omega)) ?_
    unfold spec_l2Bent.f
    exact Ev.bind (Ev.is hp) (Ev.bind hg (Ev.pos (show (0 : Int) < (g.length : Int) by omega) (Ev.neg cx (Ev.bind (Ev.is hj) (Ev.bind (Ev.is hbb) (Ev.neg c0 (Ev.pos c1 (Ev.bind (Ev.is hv) (Ev.pos j0 (Ev.pos j1 (Ev.now _)))))))))))
  by_cases c2 : b = 2
  · obtain ⟨v, _, hv⟩ := pk [0, 1000000000000, 1000000000001, (-3)] (by simp)
    refine go (g.set 0 ((g.getD 0 []).set j.toNat ⟨(rd_T104 (g.getD 0 []) j).f0, (rd_T104 (g.getD 0 []) j).f1, v⟩), s1 + 1 + 1 + 1) (by simp only []; omega) (by simp only []; omega) (by simp only [List.length_set]; omega) (mem_set_len g19 (by rw [List.length_set]; omega)) ?_
    unfold spec_l2Bent.f
    exact Ev.bind (Ev.is hp) (Ev.bind hg (Ev.pos (show (0 : Int) < (g.length : Int) by omega) (Ev.neg cx (Ev.bind (Ev.is hj) (Ev.bind (Ev.is hbb) (Ev.neg c0 (Ev.neg c1 (Ev.pos c2 (Ev.bind (Ev.is hv) (Ev.pos j0 (Ev.pos j1 (Ev.now _))))))))))))
  by_cases c3 : b = 3
  · refine go (g.set 0 ((g.getD 0 []) ++ [rd_T104 (g.getD 0 []) j]), s1 + 1 + 1) (by simp only []; omega) (by simp only []; omega) (by simp only [List.length_set]; omega) (mem_set_len g19 (by rw [List.length_append, List.length_singleton]; omega)) ?_
    unfold spec_l2Bent.f
    exact Ev.bind (Ev.is hp) (Ev.bind hg (Ev.pos (show (0 : Int) < (g.length : Int) by omega) (Ev.neg cx (Ev.bind (Ev.is hj) (Ev.bind (Ev.is hbb) (Ev.neg c0 (Ev.neg c1 (Ev.neg c2 (Ev.pos c3 (Ev.pos j0 (Ev.pos j1 (Ev.pos (show (g.getD 0 []).length < 1000000 by omega) (Ev.now _)))))))))))))
  by_cases c4 : b = 4
  · refine go ([], s1 + 1 + 1) (by simp only []; omega) (by simp only []; omega) (by simp) (by simp) ?_
    unfold spec_l2Bent.f
    exact Ev.bind (Ev.is hp) (Ev.bind hg (Ev.pos (show (0 : Int) < (g.length : Int) by omega) (Ev.neg cx (Ev.bind (Ev.is hj) (Ev.bind (Ev.is hbb) (Ev.neg c0 (Ev.neg c1 (Ev.neg c2 (Ev.neg c3 (Ev.pos c4 (Ev.now _)))))))))))
  by_cases c5 : b = 5
  · refine go (g ++ List.replicate 3 [], s1 + 1 + 1) (by simp only []; omega) (by simp only []; omega) (by simp; omega) (fun l hl => by
      rcases List.mem_append.1 hl with hl | hl
      · exact g19 l hl
      · rw [List.eq_of_mem_replicate hl]; simp) ?_
    unfold spec_l2Bent.f
    exact Ev.bind (Ev.is hp) (Ev.bind hg (Ev.pos (show (0 : Int) < (g.length : Int) by omega) (Ev.neg cx (Ev.bind (Ev.is hj) (Ev.bind (Ev.is hbb) (Ev.neg c0 (Ev.neg c1 (Ev.neg c2 (Ev.neg c3 (Ev.neg c4 (Ev.pos c5 (Ev.pos (show g.length < 1000000 by omega) (Ev.now _)))))))))))))
  by_cases c6 : b = 6
  · refine go (g.set 0 (List.replicate 19 z104), s1 + 1 + 1) (by simp only []; omega) (by simp only []; omega) (by simp only [List.length_set]; omega) (mem_set_len g19 (by simp)) ?_
    unfold spec_l2Bent.f
    exact Ev.bind (Ev.is hp) (Ev.bind hg (Ev.pos (show (0 : Int) < (g.length : Int) by omega) (Ev.neg cx (Ev.bind (Ev.is hj) (Ev.bind (Ev.is hbb) (Ev.neg c0 (Ev.neg c1 (Ev.neg c2 (Ev.neg c3 (Ev.neg c4 (Ev.neg c5 (Ev.pos c6 (Ev.now _)))))))))))))
  · refine go (g, s1 + 1 + 1) (by simp only []; omega) (by simp only []; omega) (by simp only []; omega) g19 ?_
    unfold spec_l2Bent.f
    exact Ev.bind (Ev.is hp) (Ev.bind hg (Ev.pos (show (0 : Int) < (g.length : Int) by omega) (Ev.neg cx (Ev.bind (Ev.is hj) (Ev.bind (Ev.is hbb) (Ev.neg c0 (Ev.neg c1 (Ev.neg c2 (Ev.neg c3 (Ev.neg c4 (Ev.neg c5 (Ev.neg c6 (Ev.now _)))))))))))))

theorem l1Draw_loop (c : List Int) (hb : bytesL c) (hl : c.length ≤ 2000000) (id : Int) : ∀ (n : Nat) (s i : Int) (l : List S86), n ≤ 2 → 0 ≤ s → s + 10 * n ≤ 100000000000 → l.length + 2 * n ≤ 4 →
    ∃ i' l' s', Ev (fun k => spec_l1Draw.l0 k id (n : Int) c s i l) (i', l', s') ∧ s ≤ s' ∧ s' ≤ s + 10 * n ∧ 1 ≤ l'.length ∧ l'.length ≤ 4 := by
  intro n
  induction n with
  | zero =>
    intro s i l _ h0 h1 h2
    by_cases hz : (l.length : Int) = 0
    · exact ⟨i, _, s, Ev.step (fun k => spec_l1Draw.l0.eq_2 ..) (Ev.neg (by omega) (Ev.pos hz (Ev.now _))), by omega, by omega, by simp, by simp⟩
    · exact ⟨i, l, s, Ev.step (fun k => spec_l1Draw.l0.eq_2 ..) (Ev.neg (by omega) (Ev.neg hz (Ev.now _))), by omega, by omega, by omega, by omega⟩
  | succ n ih =>
    intro s i l hn h0 h1 h2
    have hw : wrap64 (((n + 1 : Nat) : Int) - 1) = (n : Int) := by rw [w64 (by omega) (by omega)]; omega
    obtain ⟨a1, e1, _⟩ := next_ok c hb hl s h0 (by omega) 3
    obtain ⟨a2, e2, _⟩ := next_ok c hb hl (s + 1) (by omega) (by omega) 40
    obtain ⟨a3, e3, _⟩ := next_ok c hb hl (s + 1 + 1) (by omega) (by omega) 3
    obtain ⟨a4, e4, _⟩ := next_ok c hb hl (s + 1 + 1 + 1) (by omega) (by omega) 4
    obtain ⟨a5, e5, _⟩ := next_ok c hb hl (s + 1 + 1 + 1 + 1) (by omega) (by omega) 3
    obtain ⟨a6, e6, _⟩ := next_ok c hb hl (s + 1 + 1 + 1 + 1 + 1) (by omega) (by omega) 4
    obtain ⟨l2, hl2⟩ : ∃ l2 : List S86, l2 = l ++ [⟨a3, a4, a1, wrap64 (-(wrap64 (1 + a2)))⟩, ⟨a5, a6, a1, wrap64 (1 + a2)⟩] := ⟨_, rfl⟩
    have hll : l2.length = l.length + 2 := by rw [hl2, List.length_append]; rfl
    have hf := spec_ContractFault_ev id l2
    by_cases hc : contractFault id l2 = 0
    · obtain ⟨i', l', s', h, p1, p2, p3, p4⟩ := ih (s + 1 + 1 + 1 + 1 + 1 + 1) id l2 (by omega) (by omega) (by omega) (by omega)
      refine ⟨i', l', s', Ev.step (fun k => spec_l1Draw.l0.eq_2 ..) (Ev.pos (by omega) (Ev.bind (Ev.is e1) (Ev.bind (Ev.is e2) (Ev.bind (Ev.is e3) (Ev.bind (Ev.is e4) (Ev.bind (Ev.is e5) (Ev.bind (Ev.is e6) (Ev.let (Ev.pos (by simp; omega) (Ev.let (Ev.let (Ev.pos (by simp; omega) (Ev.let (Ev.bind ?_ (Ev.pos hc ?_))))))))))))))), by omega, by omega, p3, p4⟩
      · simp only [List.nil_append]
        rw [hl2] at hf
        rw [← hl2] at hf ⊢
        exact hf
      · rw [hw]
        simp only [List.nil_append]
        rw [← hl2]
        exact h
    · obtain ⟨i', l', s', h, p1, p2, p3, p4⟩ := ih (s + 1 + 1 + 1 + 1 + 1 + 1) i l (by omega) (by omega) (by omega) (by omega)
      refine ⟨i', l', s', Ev.step (fun k => spec_l1Draw.l0.eq_2 ..) (Ev.pos (by omega) (Ev.bind (Ev.is e1) (Ev.bind (Ev.is e2) (Ev.bind (Ev.is e3) (Ev.bind (Ev.is e4) (Ev.bind (Ev.is e5) (Ev.bind (Ev.is e6) (Ev.let (Ev.pos (by simp; omega) (Ev.let (Ev.let (Ev.pos (by simp; omega) (Ev.let (Ev.bind ?_ (Ev.neg hc ?_))))))))))))))), by omega, by omega, p3, p4⟩
      · simp only [List.nil_append]
        rw [← hl2]
        exact hf
      · rw [hw]
        exact h
theorem l1Draw_ok (c : List Int) (hb : bytesL c) (hl : c.length ≤ 2000000) (s : Int) (h0 : 0 ≤ s) (h1 : s ≤ 1000000000) (id : Int) : ∃ i l s', Ev (fun k => spec_l1Draw.f k c s id) (i, l, s') ∧ s ≤ s' ∧ s' ≤ s + 30 ∧ 1 ≤ l.length ∧ l.length ≤ 4 := by
  obtain ⟨a, ha, a0, a1, _⟩ := next_ok c hb hl s h0 (by omega) 2
  have a1 := a1 (by omega)
  obtain ⟨n, hn⟩ : ∃ n : Nat, wrap64 (1 + a) = (n : Int) := ⟨(1 + a).toNat, by rw [w64 (by omega) (by omega)]; omega⟩
  have hn2 : n ≤ 2 := by rw [w64 (by omega) (by omega)] at hn; omega
  obtain ⟨i, l, s', h, p1, p2, p3, p4⟩ := l1Draw_loop c hb hl id n (s + 1) id [] hn2 (by omega) (by omega) (by simp; omega)
  refine ⟨i, l, s', ?_, by omega, by omega, p3, p4⟩
  unfold spec_l1Draw.f
  refine Ev.bind (Ev.is ha) ?_
  show Ev (fun k => spec_l1Draw.l0 k id (wrap64 (1 + a)) c (s + 1) id []) _
  rw [hn]
  exact h
theorem l1Bent_ok (c : List Int) (hb : bytesL c) (hl : c.length ≤ 2000000) (s : Int) (h0 : 0 ≤ s) (h1 : s ≤ 100000000) : ∃ i l s', Ev (fun k => spec_l1Bent.f k c s) (i, l, s') ∧ s ≤ s' ∧ s' ≤ s + 50 ∧ l.length ≤ 9 := by
  obtain ⟨a, ha, _⟩ := next_ok c hb hl s h0 (by omega) 9
  obtain ⟨i, l, s1, hd, q1, q2, q3, q4⟩ := l1Draw_ok c hb hl (s + 1) (by omega) (by omega) (wrap64 (1 + a))
  obtain ⟨j, hj, j0, j1, _⟩ := next_ok c hb hl s1 (by omega) (by omega) (l.length : Int)
  have j1 := j1 (by omega)
  obtain ⟨b, hbb, b0, b1, _⟩ := next_ok c hb hl (s1 + 1) (by omega) (by omega) 24
  have pk : ∀ xs : List Int, 1 ≤ xs.length → ∃ v, v ∈ xs ∧ spec_l1Pick.f c (s1 + 1 + 1) xs = some (v, s1 + 1 + 1 + 1) := fun xs hx => pick_ok c hb hl (s1 + 1 + 1) (by omega) (by omega) xs hx
  have go : ∀ r : Int × List S86 × Int, s1 ≤ r.2.2 → r.2.2 ≤ s1 + 4 → r.2.1.length ≤ 9 → Ev (fun k => spec_l1Bent.f k c s) r → ∃ i l s', Ev (fun k => spec_l1Bent.f k c s) (i, l, s') ∧ s ≤ s' ∧ s' ≤ s + 50 ∧ l.length ≤ 9 := fun r p1 p2 p3 h => ⟨r.1, r.2.1, r.2.2, h, by omega, by omega, p3⟩
  by_cases c0 : b = 0
  · obtain ⟨v, _, hv⟩ := pk [0, (-1), 1000000000, 1000000001] (by simp)
    refine go (v, l, s1 + 1 + 1 + 1) (by simp only []; omega) (by simp only []; omega) (by simp only []; omega) ?_
    unfold spec_l1Bent.f
    exact Ev.bind (Ev.is ha) (Ev.bind hd (Ev.bind (Ev.is hj) (Ev.bind (Ev.is hbb) (Ev.pos c0 (Ev.bind (Ev.is hv) (Ev.now _))))))
  by_cases c1 : b = 1
  · obtain ⟨v, _, hv⟩ := pk [(-1), 3, 1] (by simp)
    refine go (i, l.set j.toNat ⟨v, (rd_T86 l j).f1, (rd_T86 l j).f2, (rd_T86 l j).f3⟩, s1 + 1 + 1 + 1) (by simp only []; omega) (by simp only []; omega) (by simp only [List.length_set]; omega) ?_
    unfold spec_l1Bent.f
    exact Ev.bind (Ev.is ha) (Ev.bind hd (Ev.bind (Ev.is hj) (Ev.bind (Ev.is hbb) (Ev.neg c0 (Ev.pos c1 (Ev.bind (Ev.is hv) (Ev.pos j0 (Ev.pos j1 (Ev.now _)))))))))
  by_cases c2 : b = 2
  · obtain ⟨v, _, hv⟩ := pk [(-1), 6, 5] (by simp)
    refine go (i, l.set j.toNat ⟨(rd_T86 l j).f0, v, (rd_T86 l j).f2, (rd_T86 l j).f3⟩, s1 + 1 + 1 + 1) (by simp only []; omega) (by simp only []; omega) (by simp only [List.length_set]; omega) ?_
    unfold spec_l1Bent.f
    exact Ev.bind (Ev.is ha) (Ev.bind hd (Ev.bind (Ev.is hj) (Ev.bind (Ev.is hbb) (Ev.neg c0 (Ev.neg c1 (Ev.pos c2 (Ev.bind (Ev.is hv) (Ev.pos j0 (Ev.pos j1 (Ev.now _))))))))))
  by_cases c3 : b = 3
  · obtain ⟨v, _, hv⟩ := pk [(-1), 3, 2] (by simp)
    refine go (i, l.set j.toNat ⟨(rd_T86 l j).f0, (rd_T86 l j).f1, v, (rd_T86 l j).f3⟩, s1 + 1 + 1 + 1) (by simp only []; omega) (by simp only []; omega) (by simp only [List.length_set]; omega) ?_
    unfold spec_l1Bent.f
    exact Ev.bind (Ev.is ha) (Ev.bind hd (Ev.bind (Ev.is hj) (Ev.bind (Ev.is hbb) (Ev.neg c0 (Ev.neg c1 (Ev.neg c2 (Ev.pos c3 (Ev.bind (Ev.is hv) (Ev.pos j0 (Ev.pos j1 (Ev.now _)))))))))))
  by_cases c4 : b = 4
  · obtain ⟨v, _, hv⟩ := pk [0, 1000000000000, 1000000000001, (-9223372036854775808), 3] (by simp)
    refine go (i, l.set j.toNat ⟨(rd_T86 l j).f0, (rd_T86 l j).f1, (rd_T86 l j).f2, v⟩, s1 + 1 + 1 + 1) (by simp only []; omega) (by simp only []; omega) (by simp only [List.length_set]; omega) ?_
    unfold spec_l1Bent.f
    exact Ev.bind (Ev.is ha) (Ev.bind hd (Ev.bind (Ev.is hj) (Ev.bind (Ev.is hbb) (Ev.neg c0 (Ev.neg c1 (Ev.neg c2 (Ev.neg c3 (Ev.pos c4 (Ev.bind (Ev.is hv) (Ev.pos j0 (Ev.pos j1 (Ev.now _))))))))))))
  by_cases c5 : b = 5
  · refine go (i, l ++ [⟨(rd_T86 l j).f0, (rd_T86 l j).f1, (rd_T86 l j).f2, (rd_T86 l j).f3⟩], s1 + 1 + 1) (by simp only []; omega) (by simp only []; omega) (by simp; omega) ?_
    unfold spec_l1Bent.f
    exact Ev.bind (Ev.is ha) (Ev.bind hd (Ev.bind (Ev.is hj) (Ev.bind (Ev.is hbb) (Ev.neg c0 (Ev.neg c1 (Ev.neg c2 (Ev.neg c3 (Ev.neg c4 (Ev.pos c5 (Ev.pos j0 (Ev.pos j1 (Ev.pos (show l.length < 4398046511104 by omega) (Ev.now _)))))))))))))
  by_cases c6 : b = 6
  · refine go (i, l.take (1 : Int).toNat, s1 + 1 + 1) (by simp only []; omega) (by simp only []; omega) (by simp only [List.length_take]; omega) ?_
    unfold spec_l1Bent.f
    exact Ev.bind (Ev.is ha) (Ev.bind hd (Ev.bind (Ev.is hj) (Ev.bind (Ev.is hbb) (Ev.neg c0 (Ev.neg c1 (Ev.neg c2 (Ev.neg c3 (Ev.neg c4 (Ev.neg c5 (Ev.pos c6 (Ev.pos (show (1 : Int) ≤ (l.length : Int) by omega) (Ev.now _))))))))))))
  by_cases c7 : b = 7
  · refine go (i, List.replicate 9 z86, s1 + 1 + 1) (by simp only []; omega) (by simp only []; omega) (by simp) ?_
    unfold spec_l1Bent.f
    exact Ev.bind (Ev.is ha) (Ev.bind hd (Ev.bind (Ev.is hj) (Ev.bind (Ev.is hbb) (Ev.neg c0 (Ev.neg c1 (Ev.neg c2 (Ev.neg c3 (Ev.neg c4 (Ev.neg c5 (Ev.neg c6 (Ev.pos c7 (Ev.pos (by decide) (Ev.now _)))))))))))))
  · refine go (i, l, s1 + 1 + 1) (by simp only []; omega) (by simp only []; omega) (by simp only []; omega) ?_
    unfold spec_l1Bent.f
    exact Ev.bind (Ev.is ha) (Ev.bind hd (Ev.bind (Ev.is hj) (Ev.bind (Ev.is hbb) (Ev.neg c0 (Ev.neg c1 (Ev.neg c2 (Ev.neg c3 (Ev.neg c4 (Ev.neg c5 (Ev.neg c6 (Ev.neg c7 (Ev.now _))))))))))))

instance decBalance : DecidableEq S104 := fun a b => decidable_of_iff (a.f0 = b.f0 ∧ a.f1 = b.f1 ∧ a.f2 = b.f2) (by cases a; cases b; simp)
theorem balance_ne (a b : S104) : ((!(a.f0 == b.f0) || (!(a.f1 == b.f1) || !(a.f2 == b.f2))) = true) ↔ ¬ a = b := by
  obtain ⟨a0, a1, a2⟩ := a
  obtain ⟨b0, b1, b2⟩ := b
  simp
  omega
theorem drop_end {α : Type} (a b : List α) (n : Nat) (h : a.length = b.length) (hn : a.length ≤ n) : a.drop n = b.drop n := by
  rw [List.drop_eq_nil_of_le hn, List.drop_eq_nil_of_le (by omega)]
theorem drop_both {α : Type} (a b : List α) (i : Nat) (h0 : i < a.length) (h1 : i < b.length) : a.drop i = b.drop i ↔ a[i] = b[i] ∧ a.drop (i + 1) = b.drop (i + 1) := by
  rw [drop_cons_at a i h0, drop_cons_at b i h1, List.cons.injEq]
theorem equal_ev (a b : List S104) (hn : (a.length : Int) ≤ 9000000000000000000) : Ev (fun k => slices_Equal_impl_Balance.f k a b) (decide (a = b)) := by
  unfold slices_Equal_impl_Balance.f
  by_cases hl : a.length = b.length
  · refine Ev.pos (by omega) ?_
    refine Ev.upto1 (fun k (_ : Unit) i => slices_Equal_impl_Balance.l0 k a b (a.length : Int) i) a.length (by omega) (fun i _ => a.drop i.toNat = b.drop i.toNat ↔ a = b) (decide (a = b))
      (fun i _ h0 h1 hp => ?_) (fun _ hp => ?_) 0 () (by omega) (by omega) (by simp)
    · rw [drop_both a b i.toNat (by omega) (by omega)] at hp
      by_cases he : a[i.toNat]'(by omega) = b[i.toNat]'(by omega)
      · refine .inl ⟨(), by rw [show (i + 1).toNat = i.toNat + 1 by omega]; simpa [he] using hp, fun h => Ev.step (fun k => slices_Equal_impl_Balance.l0.eq_2 ..) (Ev.pos h1 (Ev.pos h0 (Ev.pos h1 (Ev.pos (by omega) ?_))))⟩
        rw [rdBalance_at a i h0 h1, rdBalance_at b i h0 (by omega)]
        exact Ev.neg (by rw [balance_ne]; exact not_not_intro he) h
      · refine .inr (Ev.step (fun k => slices_Equal_impl_Balance.l0.eq_2 ..) (Ev.pos h1 (Ev.pos h0 (Ev.pos h1 (Ev.pos (by omega) ?_)))))
        rw [rdBalance_at a i h0 h1, rdBalance_at b i h0 (by omega)]
        refine Ev.pos (by rw [balance_ne]; exact he) (Ev.eq (Ev.now _) ?_)
        rw [eq_comm, decide_eq_false_iff_not, ← hp]
        exact fun h => he h.1
    · refine Ev.step (fun k => slices_Equal_impl_Balance.l0.eq_2 ..) (Ev.neg (by omega) (Ev.eq (Ev.now _) ?_))
      rw [eq_comm, decide_eq_true_iff, ← hp]
      exact drop_end a b _ hl (by omega)
  · refine Ev.neg (by omega) (Ev.eq (Ev.now _) ?_)
    rw [eq_comm, decide_eq_false_iff_not]
    exact fun h => hl (by rw [h])
theorem impl_SameLedgers_ev (g h : List (List S104)) (hg : (g.length : Int) ≤ 9000000000000000000) (hb : ∀ l ∈ g, (l.length : Int) ≤ 9000000000000000000) : Ev (fun k => impl_SameLedgers.f k g h) (decide (g = h)) := by
  unfold impl_SameLedgers.f
  refine Ev.bind (a := decide (g = h)) ?_ (Ev.now _)
  unfold slices_EqualFunc_impl_Balance.f
  by_cases hl : g.length = h.length
  · refine Ev.pos (by omega) ?_
    refine Ev.upto1 (fun k (_ : Unit) i => slices_EqualFunc_impl_Balance.l0 k h g (g.length : Int) i) g.length (by omega) (fun i _ => g.drop i.toNat = h.drop i.toNat ↔ g = h) (decide (g = h))
      (fun i _ h0 h1 hp => ?_) (fun _ hp => ?_) 0 () (by omega) (by omega) (by simp)
    · rw [drop_both g h i.toNat (by omega) (by omega)] at hp
      have e1 : g[i.toNat]? = some (g[i.toNat]'(by omega)) := List.getElem?_eq_getElem (by omega)
      have e2 : h[i.toNat]? = some (h[i.toNat]'(by omega)) := List.getElem?_eq_getElem (by omega)
      have hx := equal_ev (g[i.toNat]'(by omega)) (h[i.toNat]'(by omega)) (hb _ (List.getElem_mem _))
      by_cases he : g[i.toNat]'(by omega) = h[i.toNat]'(by omega)
      · refine .inl ⟨(), by rw [show (i + 1).toNat = i.toNat + 1 by omega]; simpa [he] using hp, fun h => Ev.step (fun k => slices_EqualFunc_impl_Balance.l0.eq_2 ..) (Ev.pos h1 (Ev.pos h0 (Ev.pos h1 (Ev.pos (by omega) ?_))))⟩
        rw [rdBB e1, rdBB e2]
        exact Ev.bind hx (Ev.pos (decide_eq_true he) h)
      · refine .inr (Ev.step (fun k => slices_EqualFunc_impl_Balance.l0.eq_2 ..) (Ev.pos h1 (Ev.pos h0 (Ev.pos h1 (Ev.pos (by omega) ?_)))))
        rw [rdBB e1, rdBB e2]
        refine Ev.bind hx (Ev.neg (by simpa using he) (Ev.eq (Ev.now _) ?_))
        rw [eq_comm, decide_eq_false_iff_not, ← hp]
        exact fun h => he h.1
    · refine Ev.step (fun k => slices_EqualFunc_impl_Balance.l0.eq_2 ..) (Ev.neg (by omega) (Ev.eq (Ev.now _) ?_))
      rw [eq_comm, decide_eq_true_iff, ← hp]
      exact drop_end g h _ hl (by omega)
  · refine Ev.neg (by omega) (Ev.eq (Ev.now _) ?_)
    rw [eq_comm, decide_eq_false_iff_not]
    exact fun h => hl (by rw [h])
theorem rd_con (l : List S40) (i : Int) (h0 : 0 ≤ i) (h1 : i < (l.length : Int)) : rd_T40 l i = l[i.toNat]'(by omega) := by
  unfold rd_T40
  rw [List.getD_eq_getElem?_getD, List.getElem?_eq_getElem (by omega)]
  rfl
/-- One contract behind the others: its outcome, the ledger then. -/
noncomputable def nextR (s : List Int × List (List S104)) (c : S40) : List Int × List (List S104) := if canR (fun s x y => amountL x y s) s.2 c.f0 c.f1 = 0 then (s.1 ++ [1], settleL s.2 c.f1) else (s.1 ++ [2], s.2)
/-- What SettleAll tells. -/
noncomputable def settleAllR (g : List (List S104)) (l : List S40) : Int × List Int × List (List S104) :=
  if ledgerFault g = 0 then (if (l.length : Int) > 100 then (2, [], []) else (0, l.foldl nextR ([], g))) else (ledgerFault g, [], [])
theorem goodL_steps (n : Int) (m : Nat) (l : List S86) : ∀ (g : List (List S104)) (n : Int) (m : Nat), goodL n m g → 0 ≤ n → m + l.length ≤ 1000000 → (∀ w ∈ l, smallG w) → goodL (n + 1000000000000 * (l.length : Int)) (m + l.length) (l.foldl settleStep g) := by
  induction l with
  | nil => intro g n m h _ _ _; simpa using h
  | cons w l ih =>
    intro g n m h h0 hm hw
    rw [List.length_cons] at hm
    have := ih (settleStep g w) (n + 1000000000000) (m + 1) (goodL_step h h0 (by omega) w (hw w List.mem_cons_self)) (by omega) (by omega) (fun v hv => hw v (List.mem_cons_of_mem _ hv))
    rw [List.foldl_cons, List.length_cons]
    exact goodL_mono this (by omega) (by omega)
theorem goodL_settle {n : Int} {m : Nat} {g : List (List S104)} (h : goodL n m g) (h0 : 0 ≤ n) (hm : m ≤ 10000) (id : Int) (l : List S86) (hc : canR (fun s x y => amountL x y s) g id l = 0) :
    goodL (n + 8000000000000) (m + 8) (settleL g l) ∧ (settleL g l).length = g.length := by
  obtain ⟨hc1, hc2, _⟩ := can_parts hc
  obtain ⟨hl, hw⟩ := contract_small hc1
  have hq := settle_seq l g (fun w h => ⟨(hw w h).2.1, hc2 w h⟩)
  have := goodL_steps n m l g n m h h0 (by omega) (fun w h => (hw w h).1)
  rw [hq] at this
  exact ⟨goodL_mono this (by omega) (by omega), by unfold settleL; rw [List.length_mapIdx]⟩
/-- A ledger behind i contracts. -/
def farL (i : Nat) (g : List (List S104)) : Prop := g.length ≤ 3 ∧ goodL (1000000000000 + 8000000000000 * (i : Int)) (18 + 8 * i) g
theorem nextR_far {i : Nat} (hi : i ≤ 100) {s : List Int × List (List S104)} (h : farL i s.2) (c : S40) : farL (i + 1) (nextR s c).2 ∧ (nextR s c).1.length = s.1.length + 1 := by
  obtain ⟨h1, h2⟩ := h
  unfold nextR
  split
  · next hc =>
    obtain ⟨a, b⟩ := goodL_settle h2 (by omega) (by omega) c.f0 c.f1 hc
    exact ⟨⟨by show (settleL s.2 c.f1).length ≤ 3; omega, goodL_mono a (by omega) (by omega)⟩, by simp⟩
  · exact ⟨⟨h1, goodL_mono h2 (by omega) (by omega)⟩, by simp⟩
theorem far_can {i : Nat} (hi : i ≤ 100) {g : List (List S104)} (h : farL i g) (id : Int) (l : List S86) :
    Ev (fun k => impl_canSettle.f k g id l) (canR (fun s x y => amountL x y s) g id l) ∧ Ev (fun k => spec_l2Can.f k g id l) (canR (fun s x y => amountL x y s) g id l) :=
  ⟨impl_canSettle_ev (fun s x y => amountL x y s) g (fun s hm x y => by obtain ⟨_, q1, q3⟩ := h.2 s hm; exact impl_amountIn_ev s x y (by omega) q3) id l,
   spec_l2Can_ev (fun s x y => amountL x y s) g (fun s hm x y => by obtain ⟨_, q1, _⟩ := h.2 s hm; exact spec_l2Has_ev s x y (by omega)) id l⟩
theorem far_settle {i : Nat} (hi : i ≤ 100) {g : List (List S104)} (h : farL i g) (id : Int) (l : List S86) (hc : canR (fun s x y => amountL x y s) g id l = 0) :
    Ev (fun k => impl_settled.f k g id l) (settleL g l) ∧ Ev (fun k => spec_l2Settle.f k g id l) (settleL g l) := by
  obtain ⟨hc1, hc2, _⟩ := can_parts hc
  obtain ⟨hl, hw⟩ := contract_small hc1
  obtain ⟨h1, h2⟩ := h
  exact ⟨impl_settled_ev g _ _ (by omega) (by omega) (by omega) (by omega) h2 id l hl (fun w h => (hw w h).1) (fun w h => ⟨(hw w h).2.1, hc2 w h⟩),
    spec_l2Settle_ev g (by omega) (fun s hs => by
      obtain ⟨a, b, _⟩ := h2 s hs
      exact ⟨fun x hx => by have := a x hx; exact ⟨this.1, this.2.1, by omega, by omega⟩, by omega⟩) id l (by omega) (fun w h => (hw w h).1)⟩
theorem foldl_at (l : List S40) (i : Nat) (h : i < l.length) (s : List Int × List (List S104)) : (l.drop i).foldl nextR s = (l.drop (i + 1)).foldl nextR (nextR s l[i]) := by rw [List.drop_eq_getElem_cons h]; rfl
theorem impl_SettleAll_ev (g : List (List S104)) (hb : ∀ s ∈ g, s.length ≤ 1048576) (l : List S40) : Ev (fun k => impl_SettleAll.f k g l) (settleAllR g l) := by
  unfold impl_SettleAll.f settleAllR
  refine Ev.bind (impl_LedgerFault_ev g (fun s hs => by have := hb s hs; omega)) (Ev.cond (fun hf => Ev.cond (fun _ => Ev.now _) (fun hl => ?_)) (fun _ => Ev.now _))
  obtain ⟨hg, hgood⟩ := ledger_good hf
  refine Ev.bind (impl_copyLedger_ev g (by omega) (fun s hs => by have := (hgood s hs).2.1; omega)) ?_
  refine Ev.upto1 (fun k (s : List Int × List (List S104)) i => impl_SettleAll.l0 k l (l.length : Int) i 0 s.1 s.2) l.length (by omega) (fun i s => s.1.length = i.toNat ∧ farL i.toNat s.2 ∧ (l.drop i.toNat).foldl nextR s = l.foldl nextR ([], g)) (0, l.foldl nextR ([], g)) (fun i s h0 h1 ⟨p1, p2, p3⟩ => .inl ?_) (fun s ⟨p1, p2, p3⟩ => ?_) 0 ([], g) (by omega) (by omega) ⟨rfl, ⟨hg, goodL_mono hgood (by decide) (by decide)⟩, rfl⟩
  · have hlt : i.toNat < l.length := by omega
    have hr := rd_con l i h0 h1
    rw [foldl_at l i.toNat hlt] at p3
    obtain ⟨q1, q2⟩ := nextR_far (i := i.toNat) (by omega) p2 l[i.toNat]
    refine ⟨nextR s l[i.toNat], ⟨by rw [q2]; omega, by rw [show (i + 1).toNat = i.toNat + 1 by omega]; exact q1, by rw [show (i + 1).toNat = i.toNat + 1 by omega]; exact p3⟩, fun h => Ev.step (fun k => impl_SettleAll.l0.eq_2 ..) (Ev.pos h1 (Ev.pos h0 (Ev.pos h1 ?_)))⟩
    rw [hr]
    refine Ev.bind (far_can (by omega) p2 l[i.toNat].f0 l[i.toNat].f1).1 ?_
    unfold nextR at h
    by_cases hc : canR (fun s x y => amountL x y s) s.2 l[i.toNat].f0 l[i.toNat].f1 = 0
    · rw [if_pos hc] at h
      exact Ev.pos hc (Ev.bind (far_settle (by omega) p2 _ _ hc).1 (Ev.pos (by omega) h))
    · rw [if_neg hc] at h
      exact Ev.neg hc (Ev.pos (by omega) h)
  · rw [show ((l.length : Int)).toNat = l.length by omega, List.drop_length] at p3
    rw [← p3]
    exact Ev.step (fun k => impl_SettleAll.l0.eq_2 ..) (Ev.neg (by omega) (Ev.now _))
theorem spec_SettleAll_ev (g : List (List S104)) (hb : ∀ s ∈ g, s.length ≤ 1048576) (l : List S40) : Ev (fun k => spec_SettleAll.f k g l) (settleAllR g l) := by
  unfold spec_SettleAll.f settleAllR
  refine Ev.bind (spec_LedgerFault_ev g (fun s hs => by have := hb s hs; omega)) (Ev.cond (fun hf => Ev.cond (fun _ => Ev.now _) (fun hl => ?_)) (fun _ => Ev.now _))
  obtain ⟨hg, hgood⟩ := ledger_good hf
  have hz : settleL g [] = g := (settle_seq [] g (by simp)).symm
  have hcopy := spec_l2Settle_ev g (by omega) (fun s hs => by
      obtain ⟨a, b, _⟩ := hgood s hs
      exact ⟨fun x hx => by have := a x hx; exact ⟨this.1, this.2.1, by omega, by omega⟩, by omega⟩) 0 [] (by decide) (by simp)
  rw [hz] at hcopy
  refine Ev.bind hcopy ?_
  refine Ev.upto1 (fun k (s : List Int × List (List S104)) i => spec_SettleAll.l0 k l i 0 s.1 s.2) l.length (by omega) (fun i s => s.1.length = i.toNat ∧ farL i.toNat s.2 ∧ (l.drop i.toNat).foldl nextR s = l.foldl nextR ([], g)) (0, l.foldl nextR ([], g)) (fun i s h0 h1 ⟨p1, p2, p3⟩ => .inl ?_) (fun s ⟨p1, p2, p3⟩ => ?_) 0 ([], g) (by omega) (by omega) ⟨rfl, ⟨hg, goodL_mono hgood (by decide) (by decide)⟩, rfl⟩
  · have hlt : i.toNat < l.length := by omega
    have hr := rd_con l i h0 h1
    rw [foldl_at l i.toNat hlt] at p3
    obtain ⟨q1, q2⟩ := nextR_far (i := i.toNat) (by omega) p2 l[i.toNat]
    refine ⟨nextR s l[i.toNat], ⟨by rw [q2]; omega, by rw [show (i + 1).toNat = i.toNat + 1 by omega]; exact q1, by rw [show (i + 1).toNat = i.toNat + 1 by omega]; exact p3⟩, fun h => Ev.step (fun k => spec_SettleAll.l0.eq_2 ..) (Ev.pos h1 (Ev.pos h0 ?_))⟩
    rw [hr]
    refine Ev.bind (far_can (by omega) p2 l[i.toNat].f0 l[i.toNat].f1).2 ?_
    unfold nextR at h
    by_cases hc : canR (fun s x y => amountL x y s) s.2 l[i.toNat].f0 l[i.toNat].f1 = 0
    · rw [if_pos hc] at h
      exact Ev.pos hc (Ev.bind (far_settle (by omega) p2 _ _ hc).2 (Ev.pos (by omega) h))
    · rw [if_neg hc] at h
      exact Ev.neg hc (Ev.pos (by omega) h)
  · rw [show ((l.length : Int)).toNat = l.length by omega, List.drop_length] at p3
    rw [← p3]
    exact Ev.step (fun k => spec_SettleAll.l0.eq_2 ..) (Ev.neg (by omega) (Ev.now _))
theorem lwBig_eq (c : List Int) : laws_lwBig.f c = some (decide ((c.length : Int) > 1048576)) := rfl
theorem contracts_in (c : List Int) (hb : bytesL c) (hl : c.length ≤ 2000000) (g : List (List S104)) : ∀ (d : Nat) (l : List S40) (s : Int), d ≤ 100 → l.length + d ≤ 200 → 0 ≤ s → s + 50 * (d : Int) ≤ 100000000 →
    ∃ r, Ev (fun k => spec_DrawSettleAll.l0 k l (d : Int) c s g) (g, r) := by
  intro d
  induction d with
  | zero =>
    intro l s _ _ h0 h1
    obtain ⟨b, hbb⟩ := chance_ok c hb hl s h0 (by omega) 60
    by_cases e : b = true
    · exact ⟨_, Ev.step (fun k => spec_DrawSettleAll.l0.eq_2 ..) (Ev.neg (by omega) (Ev.bind (Ev.is hbb) (Ev.pos e (Ev.pos (by decide) (Ev.now _)))))⟩
    · exact ⟨_, Ev.step (fun k => spec_DrawSettleAll.l0.eq_2 ..) (Ev.neg (by omega) (Ev.bind (Ev.is hbb) (Ev.neg e (Ev.now _))))⟩
  | succ d ih =>
    intro l s h h' h0 h1
    obtain ⟨i, m, s', he, q1, q2, q3⟩ := l1Bent_ok c hb hl s h0 (by omega)
    obtain ⟨r, hr⟩ := ih (l ++ [⟨i, m⟩]) s' (by omega) (by simp; omega) (by omega) (by omega)
    refine ⟨r, Ev.step (fun k => spec_DrawSettleAll.l0.eq_2 ..) (Ev.pos (by omega) (Ev.bind he (Ev.pos (by omega) ?_)))⟩
    rw [show wrap64 (((d + 1 : Nat) : Int) - 1) = (d : Int) by rw [w64 (by omega) (by omega)]; omega]
    exact hr
theorem all_ok (c : List Int) (hb : bytesL c) (hl : c.length ≤ 2000000) : ∃ g l, Ev (fun k => spec_DrawSettleAll.f k c) (g, l) ∧ ∀ s ∈ g, s.length ≤ 1048576 := by
  obtain ⟨g, s1, hg, g1, g2, g3, g4⟩ := l2Bent_ok c hb hl 0 (by decide) (by decide)
  obtain ⟨v, hv, v1, v2, _⟩ := next_ok c hb hl s1 (by omega) (by omega) 7
  have v2 := v2 (by decide)
  obtain ⟨r, hr⟩ := contracts_in c hb hl g v.toNat [] (s1 + 1) (by omega) (by simp; omega) (by omega) (by omega)
  rw [show ((v.toNat : Nat) : Int) = v by omega] at hr
  unfold spec_DrawSettleAll.f
  exact ⟨g, r, Ev.let (Ev.bind hg (Ev.bind (Ev.is hv) hr)), fun s hs => by have := g2 s hs; omega⟩
theorem total_same {g h : List (List S104)} (hg : okG g) (hh : okG h) (a : Int) (e : totAll a g = totAll a h) : totalR g a = totalR h a := by
  unfold totalR
  rw [okG_fault hg, okG_fault hh, e]
theorem okG_len {g : List (List S104)} (hg : okG g) : ((g.length : Int) ≤ 9000000000000000000) ∧ (∀ l ∈ g, (l.length : Int) ≤ 9000000000000000000) ∧ ∀ l ∈ g, l.length ≤ 1048576 :=
  ⟨by have := hg.2.1; omega, fun l hl => by have := shOk_len (hg.2.2 l hl); omega, fun l hl => by have := shOk_len (hg.2.2 l hl); omega⟩
/-- What stays, contract for contract. -/
theorem nextR_keep (g : List (List S104)) (s : List Int × List (List S104)) (c : S40) (h : okG s.2 ∧ ∀ a, totAll a s.2 = totAll a g) : okG (nextR s c).2 ∧ ∀ a, totAll a (nextR s c).2 = totAll a g := by
  unfold nextR
  split
  · next hc =>
    obtain ⟨k1, k2, k3, k4⟩ := settle_keep h.1 (show canR amL s.2 c.f0 c.f1 = 0 from hc)
    exact ⟨k1, fun a => (k4 a).trans (h.2 a)⟩
  · exact h
theorem foldl_front (l : List S40) : ∀ s : List Int × List (List S104), ∃ t, (l.foldl nextR s).1 = s.1 ++ t := by
  induction l with
  | nil => intro s; exact ⟨[], by simp⟩
  | cons c l ih =>
    intro s
    obtain ⟨t, ht⟩ := ih (nextR s c)
    rw [List.foldl_cons, ht]
    unfold nextR
    split
    · exact ⟨[1] ++ t, by simp⟩
    · exact ⟨[2] ++ t, by simp⟩
theorem foldl_keep (g : List (List S104)) (l : List S40) : ∀ s : List Int × List (List S104), (okG s.2 ∧ ∀ a, totAll a s.2 = totAll a g) → (l.foldl nextR s).1.length = s.1.length + l.length ∧ okG (l.foldl nextR s).2 ∧ ∀ a, totAll a (l.foldl nextR s).2 = totAll a g := by
  induction l with
  | nil => intro s h; exact ⟨rfl, h⟩
  | cons c l ih =>
    intro s h
    obtain ⟨p, q⟩ := ih (nextR s c) (nextR_keep g s c h)
    rw [List.foldl_cons]
    refine ⟨?_, q⟩
    rw [p, List.length_cons]
    have : (nextR s c).1.length = s.1.length + 1 := by unfold nextR; split <;> simp
    omega
theorem next_out (s : List Int × List (List S104)) (c : S40) (l : List S40) : (canR amL s.2 c.f0 c.f1 = 0 → (l.foldl nextR (nextR s c)).1[s.1.length]? = some 1) ∧ (¬ canR amL s.2 c.f0 c.f1 = 0 → (l.foldl nextR (nextR s c)).1[s.1.length]? = some 2) := by
  obtain ⟨t, ht⟩ := foldl_front l (nextR s c)
  rw [ht]
  unfold nextR
  constructor
  · intro h
    rw [if_pos (show canR (fun s x y => amountL x y s) s.2 c.f0 c.f1 = 0 from h)]
    simp
  · intro h
    rw [if_neg (show ¬ canR (fun s x y => amountL x y s) s.2 c.f0 c.f1 = 0 from h)]
    simp
theorem FnSequels : ∀ (l0 : List Int), okL (fun n => (Lit.int .u8 n).wf = true) l0 → ∃ k, laws_FnSequels.f k l0 = some true := by
  intro c hc
  have hb : bytesL c := fun x hx => wfU8 (hc.2 x hx)
  refine Ev.rounds (r := true) ?_
  unfold laws_FnSequels.f
  refine Ev.bind (Ev.is (lwBig_eq c)) (Ev.ite (fun _ => Ev.now _) (fun hbig => ?_))
  have hl : c.length ≤ 2000000 := by simp at hbig; omega
  obtain ⟨g, l, hd, hgb⟩ := all_ok c hb hl
  have hi := impl_SettleAll_ev g hgb l
  have hs := spec_SettleAll_ev g hgb l
  refine Ev.bind hd ?_
  by_cases hf : ledgerFault g = 0
  · by_cases hn : (l.length : Int) > 100
    · have hr : settleAllR g l = (2, [], []) := by unfold settleAllR; rw [if_pos hf, if_pos hn]
      rw [hr] at hi hs
      exact Ev.bind hi (Ev.neg (by decide) (Ev.bind hs (Ev.now _)))
    · have hr : settleAllR g l = (0, l.foldl nextR ([], g)) := by unfold settleAllR; rw [if_pos hf, if_neg hn]
      rw [hr] at hi
      have hg := fault_okG hf
      obtain ⟨e1, e2, e3⟩ := foldl_keep g l ([], g) ⟨hg, fun _ => rfl⟩
      have hfront := fun (s : List Int × List (List S104)) (i : Nat) (hi : i < l.length) (hs : s.1.length = i) (he : (l.drop i).foldl nextR s = l.foldl nextR ([], g)) => (by
        rw [foldl_at l i hi] at he
        have := next_out s l[i] (l.drop (i + 1))
        rw [he, hs] at this
        exact this : (canR amL s.2 l[i].f0 l[i].f1 = 0 → (l.foldl nextR ([], g)).1[i]? = some 1) ∧ (¬ canR amL s.2 l[i].f0 l[i].f1 = 0 → (l.foldl nextR ([], g)).1[i]? = some 2))
      obtain ⟨R, hR⟩ : ∃ R, R = l.foldl nextR ([], g) := ⟨_, rfl⟩
      rw [← hR] at hi e1 e2 e3 hfront
      obtain ⟨n1, n2, n3⟩ := okG_len hg
      obtain ⟨m1, m2, m3⟩ := okG_len e2
      have hfault := impl_LedgerFault_ev R.2 m2
      rw [okG_fault e2] at hfault
      have hsame := impl_SameLedgers_ev R.2 R.2 m1 m2
      rw [show decide (R.2 = R.2) = true by simp] at hsame
      refine Ev.bind hi (Ev.pos rfl (Ev.pos (by simpa using e1) (Ev.bind hfault (Ev.pos rfl ?_))))
      have tots : ∀ d : Nat, d ≤ 3 → Ev (fun k => laws_FnSequels.l1 k (3 - (d : Int)) R.2 g R.2) true := by
        intro d
        induction d with
        | zero => intro _; exact Ev.step (fun k => laws_FnSequels.l1.eq_2 ..) (Ev.neg (by omega) hsame)
        | succ d ih =>
          intro hd
          have ih := ih (by omega)
          have hw : wrap64 (3 - ((d + 1 : Nat) : Int) + 1) = 3 - (d : Int) := by rw [w64 (by omega) (by omega)]; omega
          have t1 := impl_TotalOf_ev R.2 (3 - ((d + 1 : Nat) : Int)) m1 m2
          have t2 := impl_TotalOf_ev g (3 - ((d + 1 : Nat) : Int)) n1 n2
          rw [total_same e2 hg _ (e3 _)] at t1
          refine Ev.step (fun k => laws_FnSequels.l1.eq_2 ..) (Ev.pos (by omega) (Ev.bind t1 (Ev.bind t2 (Ev.pos rfl ?_))))
          rw [hw]
          exact ih
      have legs := tots 3 (Nat.le_refl _)
      refine Ev.upto1 (fun k (s : List Int × List (List S104)) i => laws_FnSequels.l0 k i s.2 l R.1 g R.2) l.length (by omega) (fun i s => s.1.length = i.toNat ∧ (okG s.2 ∧ ∀ a, totAll a s.2 = totAll a g) ∧ (l.drop i.toNat).foldl nextR s = R) true (fun i s h0 h1 ⟨p1, p2, p3⟩ => .inl ?_) (fun s ⟨p1, p2, p3⟩ => ?_) 0 ([], g) (by omega) (by omega) ⟨rfl, ⟨hg, fun _ => rfl⟩, hR.symm⟩
      · have hlt : i.toNat < l.length := by omega
        obtain ⟨o1, o2⟩ := hfront s i.toNat hlt p1 p3
        have hr := rd_con l i h0 h1
        have p4 := p3
        rw [foldl_at l i.toNat hlt] at p4
        obtain ⟨j1, j2, j3⟩ := okG_len p2.1
        have hone := impl_SettleOne_ev s.2 j3 l[i.toNat].f0 l[i.toNat].f1
        have hlen : (nextR s l[i.toNat]).1.length = s.1.length + 1 := by unfold nextR; split <;> simp
        refine ⟨nextR s l[i.toNat], ⟨by rw [hlen]; omega, nextR_keep g s _ p2, by rw [show (i + 1).toNat = i.toNat + 1 by omega]; exact p4⟩, fun h => Ev.step (fun k => laws_FnSequels.l0.eq_2 ..) (Ev.pos h1 (Ev.pos h0 ?_))⟩
        rw [hr]
        have hcs : canSettleR s.2 l[i.toNat].f0 l[i.toNat].f1 = canR amL s.2 l[i.toNat].f0 l[i.toNat].f1 := by unfold canSettleR; rw [if_pos (okG_fault p2.1)]; rfl
        by_cases hc : canR amL s.2 l[i.toNat].f0 l[i.toNat].f1 = 0
        · have hsr : settleR s.2 l[i.toNat].f0 l[i.toNat].f1 = (0, settleL s.2 l[i.toNat].f1) := by unfold settleR; rw [if_pos (hcs.trans hc)]
          rw [hsr] at hone
          have hnx : (nextR s l[i.toNat]).2 = settleL s.2 l[i.toNat].f1 := by unfold nextR; rw [if_pos (show canR (fun s x y => amountL x y s) s.2 _ _ = 0 from hc)]
          rw [hnx] at h
          exact Ev.bind hone (Ev.pos rfl (Ev.pos (rd_of (o1 hc)) h))
        · have hsr : settleR s.2 l[i.toNat].f0 l[i.toNat].f1 = (canR amL s.2 l[i.toNat].f0 l[i.toNat].f1, []) := by unfold settleR; rw [if_neg (fun e => hc (hcs.symm.trans e)), hcs]
          rw [hsr] at hone
          have hnx : (nextR s l[i.toNat]).2 = s.2 := by unfold nextR; rw [if_neg (show ¬ canR (fun s x y => amountL x y s) s.2 _ _ = 0 from hc)]
          rw [hnx] at h
          exact Ev.bind hone (Ev.neg hc (Ev.neg (by rw [rd_of (o2 hc)]; decide) h))
      · rw [show ((l.length : Int)).toNat = l.length by omega, List.drop_length] at p3
        obtain rfl : s = R := p3
        exact Ev.step (fun k => laws_FnSequels.l0.eq_2 ..) (Ev.neg (by omega) legs)
  · have hr : settleAllR g l = (ledgerFault g, [], []) := by unfold settleAllR; rw [if_neg hf]
    rw [hr] at hi hs
    exact Ev.bind hi (Ev.neg hf (Ev.bind hs (Ev.eq (Ev.now _) (by simp))))

end Go.Proofs.Ytanegggacfmkcaa.Pure
