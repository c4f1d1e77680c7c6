/- The functions that a law reaches, each as a plain Lean function with the proof that the machine comes to its answer: written by program (the kit's print, turned by wip/gen). No conditions. -/
import Derived.Test.YtooiamkaipdmpaaPFnBytesx0
import Derived.Test.YtooiamkaipdmpaaPFnBytesx3
namespace Go.Proofs.Ytooiamkaipdmpaa.PFnBytes
open Go.RowKit Go.Proofs.YtooiamkaipdmpaaW.PrintWords Go.Proofs.YtooiamkaipdmpaaW.PrintLast Go.Proofs.YtooiamkaipdmpaaW.PrintMore
attribute [local go_sem] max2_int min2_int max_two min_two max_three min_three max_four min_four   -- for this text's walks alone
set_option linter.unusedVariables false
set_option linter.unusedSimpArgs false

/-- A state of type 130 at block g of W; what its slices lead to came in by w0. -/
def IsS130 (w0 W : World) (g : Nat) (f0 : List Int) (f1 : Int) : Prop := ∃ A0 c0, W.heap[g]? = some (.cells #[.slice A0 f0.length c0, .int .i64 f1] 130 (0, 0)) ∧ w0.heap.size ≤ g ∧ Kd.C (Kd.int .u8) w0 A0 f0.length f0
theorem IsS130.grown {w0 W : World} {g : Nat} {f0 : List Int} {f1 : Int} {W1 : World} {row : Option Nat} (h : IsS130 w0 W g f0 f1) (hw : W.grownBy W1 row) (hne : some g ≠ row) : IsS130 w0 W1 g f0 f1 := by
  obtain ⟨A0, c0, hb, hg, hr0⟩ := h
  exact ⟨A0, c0, blk_grown hb hw hne, hg, hr0⟩
theorem IsS130.own_neN {w0 W : World} {g : Nat} {f0 : List Int} {f1 : Int} {α : Type} {d : Kd α} {e : Nat} {base : Nat} {ok : Nat → Prop} {v : Value} {xs : List α} (h : IsS130 w0 W g f0 f1) (ho : Kd.N d e W base ok v xs) (ht : e ≠ 130) : some g ≠ v.ownBlock := by
  obtain ⟨A0, c0, hb, hg, hr0⟩ := h
  exact Kd.N_ne ho hb ht
theorem IsS130.fresh {w0 W : World} {g : Nat} {f0 : List Int} {f1 : Int} (h : IsS130 w0 W g f0 f1) : ∀ k, W.heap.size ≤ k → k ≠ g := by
  obtain ⟨A0, c0, hb, hg, hr0⟩ := h
  exact Kd.freshB hb
theorem IsS130.kept {w0 W : World} {g : Nat} {f0 : List Int} {f1 : Int} {W1 : World} {S : Nat → Prop} (h : IsS130 w0 W g f0 f1) (hk : Kept W W1 S) (hne : ¬ S g) : IsS130 w0 W1 g f0 f1 := by
  obtain ⟨A0, c0, hb, hg, hr0⟩ := h
  exact ⟨A0, c0, blk_kept hb hk hne, hg, hr0⟩
theorem IsS130.below {w0 W : World} {g : Nat} {f0 : List Int} {f1 : Int} {W1 : World} (h : IsS130 w0 W g f0 f1) (hw : Below W.heap.size W W1) : IsS130 w0 W1 g f0 f1 := h.grown (grown_of_below hw none) (by simp)
theorem IsS130.alloc {w0 W : World} {g : Nat} {f0 : List Int} {f1 : Int} (h : IsS130 w0 W g f0 f1) (o : Obj) : IsS130 w0 (W.alloc o) g f0 f1 := h.below (below_alloc (Below.refl _ _) o)
theorem IsS130.drewN {w0 W : World} {g : Nat} {f0 : List Int} {f1 : Int} (h : IsS130 w0 W g f0 f1) (m : Nat) : IsS130 w0 (W.drewN m) g f0 f1 := h
theorem IsS130.drew {w0 W : World} {g : Nat} {f0 : List Int} {f1 : Int} (h : IsS130 w0 W g f0 f1) : IsS130 w0 W.drew g f0 f1 := h
theorem IsS130.at_ {w0 W : World} {g : Nat} {f0 : List Int} {f1 : Int} {w' : World} {m : Nat} (hq : W.drewN m = w') (h : IsS130 w0 W g f0 f1) : IsS130 w0 w' g f0 f1 := by subst hq; exact IsS130.drewN h m
theorem IsS130.apart {w0 W : World} {g : Nat} {f0 : List Int} {f1 : Int} {α : Type} {d : Kd α} {e : Nat} {base : Nat} {ok : Nat → Prop} {v : Value} {xs : List α} (h : IsS130 w0 W g f0 f1) (ho : d.R e W base ok v xs) (ht : ∀ q, q ∈ e :: d.E → q ≠ 130) : d.R e W base (fun k => ok k ∧ k ≠ g) v xs := by
  obtain ⟨A0, c0, hb, hg, hr0⟩ := h
  exact Kd.R_types ho hb ht
theorem IsS130.own_ne {w0 W : World} {g : Nat} {f0 : List Int} {f1 : Int} {α : Type} {d : Kd α} {e : Nat} {base : Nat} {ok : Nat → Prop} {v : Value} {xs : List α} (h : IsS130 w0 W g f0 f1) (ho : d.R e W base ok v xs) (ht : e ≠ 130) : some g ≠ v.ownBlock := by
  obtain ⟨A0, c0, hb, hg, hr0⟩ := h
  exact Kd.R_ne ho hb ht
theorem IsS130.apartQ {w0 W : World} {g : Nat} {f0 : List Int} {f1 : Int} {α : Type} {d : Kd α} {e : Nat} {base : Nat} {ok : Nat → Prop} {v : Value} {xs : List α} (h : IsS130 w0 W g f0 f1) (ho : d.Q e W base ok v xs) (ht : ∀ q, q ∈ e :: d.E → q ≠ 130) : d.Q e W base (fun k => ok k ∧ k ≠ g) v xs := by
  obtain ⟨A0, c0, hb, hg, hr0⟩ := h
  exact Kd.Q_types ho hb ht
theorem IsS130.own_neQ {w0 W : World} {g : Nat} {f0 : List Int} {f1 : Int} {α : Type} {d : Kd α} {e : Nat} {base : Nat} {ok : Nat → Prop} {v : Value} {xs : List α} (h : IsS130 w0 W g f0 f1) (ho : d.Q e W base ok v xs) (ht : e ≠ 130) : some g ≠ v.ownBlock := by
  obtain ⟨A0, c0, hb, hg, hr0⟩ := h
  exact Kd.Q_ne ho hb ht
theorem IsS130.apartS {w0 W : World} {g : Nat} {f0 : List Int} {f1 : Int} {α : Type} {d : Kd α} {e : Nat} {base : Nat} {ok : Nat → Prop} {v : Value} {xs : List α} (h : IsS130 w0 W g f0 f1) (ho : d.S e W base ok v xs) (ht : ∀ q, q ∈ e :: d.E → q ≠ 130) : d.S e W base (fun k => ok k ∧ k ≠ g) v xs := by
  obtain ⟨A0, c0, hb, hg, hr0⟩ := h
  exact Kd.S_types ho hb ht
theorem IsS130.own_neS {w0 W : World} {g : Nat} {f0 : List Int} {f1 : Int} {α : Type} {d : Kd α} {e : Nat} {base : Nat} {ok : Nat → Prop} {v : Value} {xs : List α} (h : IsS130 w0 W g f0 f1) (ho : d.S e W base ok v xs) (ht : e ≠ 130) : some g ≠ v.ownBlock := by
  obtain ⟨A0, c0, hb, hg, hr0⟩ := h
  exact Kd.S_ne ho hb ht
theorem IsS130.lt {w0 W : World} {g : Nat} {f0 : List Int} {f1 : Int} (h : IsS130 w0 W g f0 f1) : g < W.heap.size := by
  obtain ⟨A0, c0, hb, hg, hr0⟩ := h
  exact blk_lt hb
theorem IsS130.ge {w0 W : World} {g : Nat} {f0 : List Int} {f1 : Int} (h : IsS130 w0 W g f0 f1) : w0.heap.size ≤ g := by
  obtain ⟨A0, c0, hb, hg, hr0⟩ := h
  exact hg
theorem IsS130.ne_blk {w0 W : World} {g : Nat} {f0 : List Int} {f1 : Int} {a : Nat} {cs : Array Value} {t : TypeId} {fr : Nat × Nat} (h : IsS130 w0 W g f0 f1) (hb2 : W.heap[a]? = some (.cells cs t fr)) (ht : t ≠ 130) : g ≠ a := by
  obtain ⟨A0, c0, hb, hg, hr0⟩ := h
  rintro rfl
  rw [hb] at hb2
  injection hb2 with hb2
  injection hb2 with _ ht2
  exact ht ht2.symm
theorem IsS130.far {w0 W : World} {g : Nat} {f0 : List Int} {f1 : Int} {p : Addr} (h : IsS130 w0 W g f0 f1) (hne : g ≠ p.block) (u : Value) : IsS130 w0 (W.setCell p u) g f0 f1 := by
  obtain ⟨A0, c0, hb, hg, hr0⟩ := h
  exact ⟨A0, c0, blk_far hb hne u, hg, hr0⟩
theorem cellS130_0 {W : World} {g : Nat} {A0 : Option Addr} {c0 : Nat} {f0 : List Int} {f1 : Int} (h : W.heap[g]? = some (.cells #[.slice A0 f0.length c0, .int .i64 f1] 130 (0, 0))) : W.cell? ⟨g, 0, none⟩ = some (.slice A0 f0.length c0) := (blk_cell h 0).trans rfl
theorem cellS130_1 {W : World} {g : Nat} {A0 : Option Addr} {c0 : Nat} {f0 : List Int} {f1 : Int} (h : W.heap[g]? = some (.cells #[.slice A0 f0.length c0, .int .i64 f1] 130 (0, 0))) : W.cell? ⟨g, 1, none⟩ = some (.int .i64 f1) := (blk_cell h 1).trans rfl
theorem IsS130.set_1 {w0 W : World} {g : Nat} {f0 : List Int} {f1 : Int} (h : IsS130 w0 W g f0 f1) (x : Int) : IsS130 w0 (W.setCell ⟨g, 1, none⟩ (.int .i64 x)) g f0 x := by
  obtain ⟨A0, c0, hb, hg, hr0⟩ := h
  exact ⟨A0, c0, by simpa using blk_set hb 1 (.int .i64 x), hg, hr0⟩
theorem IsS130.new (w0 W : World) (A0 : Option Addr) (c0 : Nat) (f0 : List Int) (f1 : Int) (hB : Below w0.heap.size w0 W) (hr0 : Kd.C (Kd.int .u8) w0 A0 f0.length f0) : IsS130 w0 (W.alloc (.cells #[.slice A0 f0.length c0, .int .i64 f1] 130)) W.heap.size f0 f1 := ⟨A0, c0, by simpa using heap_alloc_new W _, hB.size, hr0⟩

/-! ### spec_l1Next: function 121 -/
def spec_l1Next.f (s0_0 : List Int) (s0_1 : Int) (a1 : Int) : Option (Int × Int) := if a1 < 1 then (some (0, wrap64 (s0_1 + 1))) else (if (s0_0.length : Int) = 0 then (if a1 = 0 then (none) else (some (Int.tmod (wrap64 ((wrap64 ((wrap64 (s0_1 + 1)) - 1)) * 7)) a1, wrap64 (s0_1 + 1)))) else (if 0 ≤ (Int.tmod (wrap64 ((wrap64 (s0_1 + 1)) - 1)) (s0_0.length : Int)) then (if (Int.tmod (wrap64 ((wrap64 (s0_1 + 1)) - 1)) (s0_0.length : Int)) < (s0_0.length : Int) then (if a1 > 200 then (if 0 ≤ (Int.tmod (wrap64 ((wrap64 ((wrap64 (s0_1 + 1)) - 1)) + 1)) (s0_0.length : Int)) then (if (Int.tmod (wrap64 ((wrap64 ((wrap64 (s0_1 + 1)) - 1)) + 1)) (s0_0.length : Int)) < (s0_0.length : Int) then (if a1 = 0 then (none) else (some (Int.tmod (wrap64 ((wrap64 ((wrap64 ((wrap64 ((wrap64 (rd s0_0 (Int.tmod (wrap64 ((wrap64 (s0_1 + 1)) - 1)) (s0_0.length : Int)))) + (wrap64 ((wrap64 (Int.tdiv (wrap64 ((wrap64 (s0_1 + 1)) - 1)) (s0_0.length : Int))) * 37)))) * 251)) + (wrap64 ((wrap64 (rd s0_0 (Int.tmod (wrap64 ((wrap64 ((wrap64 (s0_1 + 1)) - 1)) + 1)) (s0_0.length : Int)))) * 13)))) + (wrap64 ((wrap64 (s0_1 + 1)) - 1)))) a1, wrap64 (s0_1 + 1)))) else (none)) else (none)) else (if a1 = 0 then (none) else (some (Int.tmod (wrap64 ((wrap64 (rd s0_0 (Int.tmod (wrap64 ((wrap64 (s0_1 + 1)) - 1)) (s0_0.length : Int)))) + (wrap64 ((wrap64 (Int.tdiv (wrap64 ((wrap64 (s0_1 + 1)) - 1)) (s0_0.length : Int))) * 37)))) a1, wrap64 (s0_1 + 1))))) else (none)) else (none)))
set_option maxHeartbeats 8000000 in
set_option maxRecDepth 100000 in
theorem spec_l1Next.calls (g : Nat) (s0_0 : List Int) (s0_1 : Int) (a1 : Int) (r1 : Int) (r2 : Int) (w0 w : World) (hI : IsS130 w0 w g s0_0 s0_1) (hB : Below w0.heap.size w0 w) (h : spec_l1Next.f s0_0 s0_1 a1 = some (r1, r2)) :
  Calls Try.prog 121 #[.pointer (some ⟨g, 0, none⟩), .int .i64 a1] w fun e w' => e = .returned (.int .i64 r1) ∧ IsS130 w0 w' g s0_0 r2 ∧ Below w0.heap.size w0 w' ∧ KeepBut w w' g none := by
 have HI0 := Aside0.mk hI
 have HK := Aside0.mk (KeepBut.refl w g none)
 have HL := Aside0.mk hB.size
 clear hI
 have HW0 := Aside0.mk hB.size
 have HB := Aside0.mk hB
 clear hB
 have H : (if a1 < 1 then (some (0, wrap64 (s0_1 + 1))) else (if (s0_0.length : Int) = 0 then (if a1 = 0 then (none) else (some (Int.tmod (wrap64 ((wrap64 ((wrap64 (s0_1 + 1)) - 1)) * 7)) a1, wrap64 (s0_1 + 1)))) else (if 0 ≤ (Int.tmod (wrap64 ((wrap64 (s0_1 + 1)) - 1)) (s0_0.length : Int)) then (if (Int.tmod (wrap64 ((wrap64 (s0_1 + 1)) - 1)) (s0_0.length : Int)) < (s0_0.length : Int) then (if a1 > 200 then (if 0 ≤ (Int.tmod (wrap64 ((wrap64 ((wrap64 (s0_1 + 1)) - 1)) + 1)) (s0_0.length : Int)) then (if (Int.tmod (wrap64 ((wrap64 ((wrap64 (s0_1 + 1)) - 1)) + 1)) (s0_0.length : Int)) < (s0_0.length : Int) then (if a1 = 0 then (none) else (some (Int.tmod (wrap64 ((wrap64 ((wrap64 ((wrap64 ((wrap64 (rd s0_0 (Int.tmod (wrap64 ((wrap64 (s0_1 + 1)) - 1)) (s0_0.length : Int)))) + (wrap64 ((wrap64 (Int.tdiv (wrap64 ((wrap64 (s0_1 + 1)) - 1)) (s0_0.length : Int))) * 37)))) * 251)) + (wrap64 ((wrap64 (rd s0_0 (Int.tmod (wrap64 ((wrap64 ((wrap64 (s0_1 + 1)) - 1)) + 1)) (s0_0.length : Int)))) * 13)))) + (wrap64 ((wrap64 (s0_1 + 1)) - 1)))) a1, wrap64 (s0_1 + 1)))) else (none)) else (none)) else (if a1 = 0 then (none) else (some (Int.tmod (wrap64 ((wrap64 (rd s0_0 (Int.tmod (wrap64 ((wrap64 (s0_1 + 1)) - 1)) (s0_0.length : Int)))) + (wrap64 ((wrap64 (Int.tdiv (wrap64 ((wrap64 (s0_1 + 1)) - 1)) (s0_0.length : Int))) * 37)))) a1, wrap64 (s0_1 + 1))))) else (none)) else (none)))) = some (r1, r2) := h
 clear h
 by_cases c3 : a1 < 1
 ·rw [if_pos c3] at H
  have c3b0 := decide_eq_true c3
  clear c3
  simp only [Option.some.injEq, Prod.mk.injEq] at H
  obtain ⟨rfl, rfl⟩ := H
  obtain ⟨ASz4_0, cSz4_0, HGz4, hgz4, HSz4_0⟩ := HI0.out
  have hcz4_0 := cellS130_0 HGz4
  have hcz4_1 := cellS130_1 HGz4
  have hfz4_1 := blk_frozen HGz4 1
  clear HGz4 hgz4
  go_enter Try.func121, Try.ntmps121
  go_wp2
  repeat (go_quiet (fail); try go_wp2)
  go_ret
  exact ⟨q_e, q_I130_0_1, q_B130_0, q_K⟩
 ·rw [if_neg c3] at H
  have c3b0 := decide_eq_false c3
  clear c3
  by_cases c5 : (s0_0.length : Int) = 0
  ·rw [if_pos c5] at H
   have c5b0 : ((s0_0.length : Int) == 0) = true := beq_iff_eq.mpr c5
   have c5b1 : ((s0_0.length : Int) != 0) = false := bne_eq_false_iff_eq.mpr c5
   clear c5
   by_cases c6 : a1 = 0
   ·rw [if_pos c6] at H
    exact absurd H (by simp)
   ·rw [if_neg c6] at H
    have c6b0 : (a1 == 0) = false := beq_eq_false_iff_ne.mpr c6
    have c6b1 : (a1 != 0) = true := bne_iff_ne.mpr c6
    simp only [Option.some.injEq, Prod.mk.injEq] at H
    obtain ⟨rfl, rfl⟩ := H
    obtain ⟨ASz7_0, cSz7_0, HGz7, hgz7, HSz7_0⟩ := HI0.out
    have hcz7_0 := cellS130_0 HGz7
    have hcz7_1 := cellS130_1 HGz7
    have hfz7_1 := blk_frozen HGz7 1
    clear HGz7 hgz7
    go_enter Try.func121, Try.ntmps121
    go_wp2
    repeat (go_quiet (fail); try go_wp2)
    go_ret
    exact ⟨q_e, q_I130_0_1, q_B130_0, q_K⟩
  ·rw [if_neg c5] at H
   have c5b0 : ((s0_0.length : Int) == 0) = false := beq_eq_false_iff_ne.mpr c5
   have c5b1 : ((s0_0.length : Int) != 0) = true := bne_iff_ne.mpr c5
   have c5b2 : ¬ (s0_0 = []) := fun h_ => c5 (by rw [h_]; rfl)
   obtain ⟨ji8, hji8⟩ : ∃ j_ : Int, (Int.tmod (wrap64 ((wrap64 (s0_1 + 1)) - 1)) (s0_0.length : Int)) = j_ := ⟨_, rfl⟩
   replace H : (if 0 ≤ (ji8) then (if (ji8) < (s0_0.length : Int) then (if a1 > 200 then (if 0 ≤ (Int.tmod (wrap64 ((wrap64 ((wrap64 (s0_1 + 1)) - 1)) + 1)) (s0_0.length : Int)) then (if (Int.tmod (wrap64 ((wrap64 ((wrap64 (s0_1 + 1)) - 1)) + 1)) (s0_0.length : Int)) < (s0_0.length : Int) then (if a1 = 0 then (none) else (some (Int.tmod (wrap64 ((wrap64 ((wrap64 ((wrap64 ((wrap64 (rd s0_0 (ji8))) + (wrap64 ((wrap64 (Int.tdiv (wrap64 ((wrap64 (s0_1 + 1)) - 1)) (s0_0.length : Int))) * 37)))) * 251)) + (wrap64 ((wrap64 (rd s0_0 (Int.tmod (wrap64 ((wrap64 ((wrap64 (s0_1 + 1)) - 1)) + 1)) (s0_0.length : Int)))) * 13)))) + (wrap64 ((wrap64 (s0_1 + 1)) - 1)))) a1, wrap64 (s0_1 + 1)))) else (none)) else (none)) else (if a1 = 0 then (none) else (some (Int.tmod (wrap64 ((wrap64 (rd s0_0 (ji8))) + (wrap64 ((wrap64 (Int.tdiv (wrap64 ((wrap64 (s0_1 + 1)) - 1)) (s0_0.length : Int))) * 37)))) a1, wrap64 (s0_1 + 1))))) else (none)) else (none)) = some (r1, r2) := by first | (rw [hji8] at H; exact H) | (simp only [hji8] at H ⊢; exact H)
   by_cases c9 : 0 ≤ (ji8)
   ·rw [if_pos c9] at H
    have c9b0 := decide_eq_true c9
    clear c9
    by_cases c10 : (ji8) < (s0_0.length : Int)
    ·rw [if_pos c10] at H
     have c10b0 := decide_eq_true c10
     clear c10
     by_cases c11 : a1 > 200
     ·rw [if_pos c11] at H
      have c11b0 := decide_eq_true c11
      clear c11
      obtain ⟨ji12, hji12⟩ : ∃ j_ : Int, (Int.tmod (wrap64 ((wrap64 ((wrap64 (s0_1 + 1)) - 1)) + 1)) (s0_0.length : Int)) = j_ := ⟨_, rfl⟩
      replace H : (if 0 ≤ (ji12) then (if (ji12) < (s0_0.length : Int) then (if a1 = 0 then (none) else (some (Int.tmod (wrap64 ((wrap64 ((wrap64 ((wrap64 ((wrap64 (rd s0_0 (ji8))) + (wrap64 ((wrap64 (Int.tdiv (wrap64 ((wrap64 (s0_1 + 1)) - 1)) (s0_0.length : Int))) * 37)))) * 251)) + (wrap64 ((wrap64 (rd s0_0 (ji12))) * 13)))) + (wrap64 ((wrap64 (s0_1 + 1)) - 1)))) a1, wrap64 (s0_1 + 1)))) else (none)) else (none)) = some (r1, r2) := by first | (rw [hji12] at H; exact H) | (simp only [hji12] at H ⊢; exact H)
      by_cases c13 : 0 ≤ (ji12)
      ·rw [if_pos c13] at H
       have c13b0 := decide_eq_true c13
       clear c13
       by_cases c14 : (ji12) < (s0_0.length : Int)
       ·rw [if_pos c14] at H
        have c14b0 := decide_eq_true c14
        clear c14
        by_cases c15 : a1 = 0
        ·rw [if_pos c15] at H
         exact absurd H (by simp)
        ·rw [if_neg c15] at H
         have c15b0 : (a1 == 0) = false := beq_eq_false_iff_ne.mpr c15
         have c15b1 : (a1 != 0) = true := bne_iff_ne.mpr c15
         simp only [Option.some.injEq, Prod.mk.injEq] at H
         obtain ⟨rfl, rfl⟩ := H
         obtain ⟨ASz16_0, cSz16_0, HGz16, hgz16, HSz16_0⟩ := HI0.out
         have hcz16_0 := cellS130_0 HGz16
         have hcz16_1 := cellS130_1 HGz16
         have hfz16_1 := blk_frozen HGz16 1
         clear HGz16 hgz16
         have p221 : 0 ≤ ((ji8) : Int) := q_d
         have q221 : (ji8) < (s0_0.length : Int) := q_d
         obtain ⟨ad221, e221, hx221_0⟩ := Kd.at_int HSz16_0 (ji8) p221 q221
         cases e221
         have hn221_0 : ad221.block ≠ g := Nat.ne_of_lt (Nat.lt_of_lt_of_le (by have := World.block_lt_of_cell? _ _ hx221_0; first | rwa [add_block] at this | exact this) (IsS130.ge HI0.out))
         replace hx221_0 := pw_cell_below HB.out hx221_0
         replace hx221_0 := (cell_far (p := ⟨g, 1, none⟩) (by first | (rw [add_block]; exact hn221_0) | (show (Addr.add _ _).block ≠ _; rw [add_block]; exact hn221_0) | exact hn221_0) (.int .i64 (wrap64 (s0_1 + 1)))).trans hx221_0
         (try have hy221_0 := fun (n_ : Nat) => (show (((w.drewN n_).setCell ⟨g, 1, none⟩ (.int .i64 (wrap64 (s0_1 + 1))))).cell? _ = some _ from hx221_0))
         clear hn221_0
         replace p221 := eq_true p221
         replace q221 := eq_true q221
         have p222 : 0 ≤ ((ji12) : Int) := q_d
         have q222 : (ji12) < (s0_0.length : Int) := q_d
         obtain ⟨ad222, e222, hx222_0⟩ := Kd.at_int HSz16_0 (ji12) p222 q222
         obtain rfl : ad221 = ad222 := (by injection e222)
         have hn222_0 : ad221.block ≠ g := Nat.ne_of_lt (Nat.lt_of_lt_of_le (by have := World.block_lt_of_cell? _ _ hx222_0; first | rwa [add_block] at this | exact this) (IsS130.ge HI0.out))
         replace hx222_0 := pw_cell_below HB.out hx222_0
         replace hx222_0 := (cell_far (p := ⟨g, 1, none⟩) (by first | (rw [add_block]; exact hn222_0) | (show (Addr.add _ _).block ≠ _; rw [add_block]; exact hn222_0) | exact hn222_0) (.int .i64 (wrap64 (s0_1 + 1)))).trans hx222_0
         (try have hy222_0 := fun (n_ : Nat) => (show (((w.drewN n_).setCell ⟨g, 1, none⟩ (.int .i64 (wrap64 (s0_1 + 1))))).cell? _ = some _ from hx222_0))
         clear hn222_0
         replace p222 := eq_true p222
         replace q222 := eq_true q222
         go_enter Try.func121, Try.ntmps121
         go_wp2
         repeat (go_quiet (fail); try go_wp2)
         go_ret
         exact ⟨by first | rfl | (simp [errW_none, errW_some] <;> rfl) | (simp only [← hji8, ← hji12]; first | rfl | (simp [errW_none, errW_some] <;> rfl)) | (simp [*, errW_none, errW_some] <;> rfl), q_I130_0_1, q_B130_0, q_K⟩
       ·rw [if_neg c14] at H
        exact absurd H (by simp)
      ·rw [if_neg c13] at H
       exact absurd H (by simp)
     ·rw [if_neg c11] at H
      have c11b0 := decide_eq_false c11
      clear c11
      by_cases c17 : a1 = 0
      ·rw [if_pos c17] at H
       exact absurd H (by simp)
      ·rw [if_neg c17] at H
       have c17b0 : (a1 == 0) = false := beq_eq_false_iff_ne.mpr c17
       have c17b1 : (a1 != 0) = true := bne_iff_ne.mpr c17
       simp only [Option.some.injEq, Prod.mk.injEq] at H
       obtain ⟨rfl, rfl⟩ := H
       obtain ⟨ASz18_0, cSz18_0, HGz18, hgz18, HSz18_0⟩ := HI0.out
       have hcz18_0 := cellS130_0 HGz18
       have hcz18_1 := cellS130_1 HGz18
       have hfz18_1 := blk_frozen HGz18 1
       clear HGz18 hgz18
       have p221 : 0 ≤ ((ji8) : Int) := q_d
       have q221 : (ji8) < (s0_0.length : Int) := q_d
       obtain ⟨ad221, e221, hx221_0⟩ := Kd.at_int HSz18_0 (ji8) p221 q221
       cases e221
       have hn221_0 : ad221.block ≠ g := Nat.ne_of_lt (Nat.lt_of_lt_of_le (by have := World.block_lt_of_cell? _ _ hx221_0; first | rwa [add_block] at this | exact this) (IsS130.ge HI0.out))
       replace hx221_0 := pw_cell_below HB.out hx221_0
       replace hx221_0 := (cell_far (p := ⟨g, 1, none⟩) (by first | (rw [add_block]; exact hn221_0) | (show (Addr.add _ _).block ≠ _; rw [add_block]; exact hn221_0) | exact hn221_0) (.int .i64 (wrap64 (s0_1 + 1)))).trans hx221_0
       (try have hy221_0 := fun (n_ : Nat) => (show (((w.drewN n_).setCell ⟨g, 1, none⟩ (.int .i64 (wrap64 (s0_1 + 1))))).cell? _ = some _ from hx221_0))
       clear hn221_0
       replace p221 := eq_true p221
       replace q221 := eq_true q221
       go_enter Try.func121, Try.ntmps121
       go_wp2
       repeat (go_quiet (fail); try go_wp2)
       go_ret
       exact ⟨by first | rfl | (simp [errW_none, errW_some] <;> rfl) | (simp only [← hji8]; first | rfl | (simp [errW_none, errW_some] <;> rfl)) | (simp [*, errW_none, errW_some] <;> rfl), q_I130_0_1, q_B130_0, q_K⟩
    ·rw [if_neg c10] at H
     exact absurd H (by simp)
   ·rw [if_neg c9] at H
    exact absurd H (by simp)

/-! ### spec_l1Pick: function 100 -/
def spec_l1Pick.f (s0_0 : List Int) (s0_1 : Int) (l1 : List Int) : Option (Int × Int) := (spec_l1Next.f s0_0 s0_1 (l1.length : Int)).bind fun bt223 => (if 0 ≤ bt223.1 then (if bt223.1 < (l1.length : Int) then (some (rd l1 bt223.1, bt223.2)) else (none)) else (none))
set_option maxHeartbeats 8000000 in
set_option maxRecDepth 100000 in
theorem spec_l1Pick.calls (g : Nat) (s0_0 : List Int) (s0_1 : Int) (A1 : Option Addr) (c1 : Nat) (l1 : List Int) (r1 : Int) (r2 : Int) (w0 w : World) (hI : IsS130 w0 w g s0_0 s0_1) (hB : Below w0.heap.size w0 w) (hr1 : Kd.C (Kd.int .i64) w A1 l1.length l1) (hc1 : l1.length ≤ c1) (hf1 : ∀ ad, A1 = some ad → 0 < l1.length → ad.block ≠ g) (h : spec_l1Pick.f s0_0 s0_1 l1 = some (r1, r2)) :
  Calls Try.prog 100 #[.pointer (some ⟨g, 0, none⟩), .slice A1 l1.length c1] w fun e w' => e = .returned (.int .i64 r1) ∧ IsS130 w0 w' g s0_0 r2 ∧ Below w0.heap.size w0 w' ∧ KeepBut w w' g none := by
 have HR1 := Aside0.mk hr1
 have HC1 := Aside0.mk hc1
 clear hr1 hc1
 have HI0 := Aside0.mk hI
 have HK := Aside0.mk (KeepBut.refl w g none)
 have HL := Aside0.mk hB.size
 clear hI
 have HW0 := Aside0.mk hB.size
 have HB := Aside0.mk hB
 clear hB
 have H : ((spec_l1Next.f s0_0 s0_1 (l1.length : Int)).bind fun bt223 => (if 0 ≤ bt223.1 then (if bt223.1 < (l1.length : Int) then (some (rd l1 bt223.1, bt223.2)) else (none)) else (none))) = some (r1, r2) := h
 clear h
 replace H := Option.bind_eq_some_iff.mp H
 obtain ⟨⟨t223, t224⟩, A30, H⟩ := H
 replace H : (if 0 ≤ t223 then (if t223 < (l1.length : Int) then (some (rd l1 t223, t224)) else (none)) else (none)) = some (r1, r2) := H
 have A3 := Aside0.mk A30
 clear A30
 by_cases c4 : 0 ≤ t223
 ·rw [if_pos c4] at H
  have c4b0 := decide_eq_true c4
  clear c4
  by_cases c5 : t223 < (l1.length : Int)
  ·rw [if_pos c5] at H
   have c5b0 := decide_eq_true c5
   clear c5
   simp only [Option.some.injEq, Prod.mk.injEq] at H
   obtain ⟨rfl, rfl⟩ := H
   go_enter Try.func100, Try.ntmps100
   go_wp2_with (first | ((with_reducible refine gate_callee (f := 121) rfl ?_); refine goesLq (some 9) rfl rfl Try.func121 (by kernel_rfl) rfl #[.pointer (some ⟨g, 0, none⟩), .int .i64 (l1.length : Int)] rfl ?_; (with_reducible refine (spec_l1Next.calls g s0_0 s0_1 (l1.length : Int) t223 t224 w0 _ ?side1 ?side2 A3.out).mono ?_); (case side1 => repeat (first | (with_reducible first | exact HI0.out | apply IsS130.alloc | apply IsS130.drewN | apply IsS130.drew | apply IsS130.set_1) | exact HI0.out)); (case side2 => repeat (first | (with_reducible first | exact HB.out | apply below_alloc | apply pw_below_drewN | apply below_drew1 | refine below_set ?_ (IsS130.ge HI0.out)) | exact HB.out)); rintro e w6 ⟨rfl, hi, hb, hk⟩; refine ⟨_, rfl, ?_⟩; have n0_ := Aside0.mk (KeepBut.trans q_K hk (.inl rfl)); have n1_ := Aside0.mk (hb); have n2_ := Aside0.mk (hi); revert n0_ n1_ n2_; clear HK HB HI0; intro HK HB HI0; (try clear hb); (try clear hb2); (try clear hk); (try clear hi); have p225 : 0 ≤ (t223 : Int) := q_d; have q225 : t223 < (l1.length : Int) := q_d; obtain ⟨ad225, e225, hx225_0⟩ := Kd.at_int HR1.out t223 p225 q225; cases e225; replace hx225_0 := keep_cell HK.out hx225_0 (by first | (rw [add_block]; exact hf1 _ rfl (by omega)) | exact hf1 _ rfl (by omega) | exact hf1 ad225 rfl (by omega)); replace p225 := eq_true p225; replace q225 := eq_true q225))
   go_ret
   exact ⟨q_e, q_I130_0_1, q_B130_0, q_K⟩
  ·rw [if_neg c5] at H
   exact absurd H (by simp)
 ·rw [if_neg c4] at H
  exact absurd H (by simp)

/-! ### spec_l3Wide: function 95 -/
def spec_l3Wide.f (s0_0 : List Int) (s0_1 : Int) : Option (Int × Int) := (spec_l1Next.f s0_0 s0_1 900).bind fun bt226 => ((spec_l1Next.f s0_0 bt226.2 900).bind fun bt228 => ((spec_l1Pick.f s0_0 bt228.2 (([bt226.1, wrap64 (-bt228.1), 4611686018427387904, (-9223372036854775808), 9223372036854775807, 0] : List Int))).bind fun bt233 => (some (bt233.1, bt233.2))))
set_option maxHeartbeats 8000000 in
set_option maxRecDepth 100000 in
theorem spec_l3Wide.calls (g : Nat) (s0_0 : List Int) (s0_1 : Int) (r1 : Int) (r2 : Int) (w0 w : World) (hI : IsS130 w0 w g s0_0 s0_1) (hB : Below w0.heap.size w0 w) (h : spec_l3Wide.f s0_0 s0_1 = some (r1, r2)) :
  Calls Try.prog 95 #[.pointer (some ⟨g, 0, none⟩)] w fun e w' => e = .returned (.int .i64 r1) ∧ IsS130 w0 w' g s0_0 r2 ∧ Below w0.heap.size w0 w' ∧ KeepBut w w' g none := by
 have HI0 := Aside0.mk hI
 have HK := Aside0.mk (KeepBut.refl w g none)
 have HL := Aside0.mk hB.size
 clear hI
 have HW0 := Aside0.mk hB.size
 have HB := Aside0.mk hB
 clear hB
 have H : ((spec_l1Next.f s0_0 s0_1 900).bind fun bt226 => ((spec_l1Next.f s0_0 bt226.2 900).bind fun bt228 => ((spec_l1Pick.f s0_0 bt228.2 (([bt226.1, wrap64 (-bt228.1), 4611686018427387904, (-9223372036854775808), 9223372036854775807, 0] : List Int))).bind fun bt233 => (some (bt233.1, bt233.2))))) = some (r1, r2) := h
 clear h
 replace H := Option.bind_eq_some_iff.mp H
 obtain ⟨⟨t226, t227⟩, A20, H⟩ := H
 replace H : ((spec_l1Next.f s0_0 t227 900).bind fun bt228 => ((spec_l1Pick.f s0_0 bt228.2 (([t226, wrap64 (-bt228.1), 4611686018427387904, (-9223372036854775808), 9223372036854775807, 0] : List Int))).bind fun bt233 => (some (bt233.1, bt233.2)))) = some (r1, r2) := H
 have A2 := Aside0.mk A20
 clear A20
 replace H := Option.bind_eq_some_iff.mp H
 obtain ⟨⟨t228, t229⟩, A30, H⟩ := H
 replace H : ((spec_l1Pick.f s0_0 t229 (([t226, wrap64 (-t228), 4611686018427387904, (-9223372036854775808), 9223372036854775807, 0] : List Int))).bind fun bt233 => (some (bt233.1, bt233.2))) = some (r1, r2) := H
 have A3 := Aside0.mk A30
 clear A30
 obtain ⟨y230, hy230⟩ : ∃ y_ : List Int, y_ = (([t226, wrap64 (-t228), 4611686018427387904, (-9223372036854775808), 9223372036854775807, 0] : List Int)) := ⟨_, rfl⟩
 replace H : ((spec_l1Pick.f s0_0 t229 y230).bind fun bt233 => (some (bt233.1, bt233.2))) = some (r1, r2) := q_h hy230 H
 have Ny230 := Aside0.mk hy230
 clear hy230
 replace H := Option.bind_eq_some_iff.mp H
 obtain ⟨⟨t233, t234⟩, A40, H⟩ := H
 replace H : (some (t233, t234)) = some (r1, r2) := H
 have A4 := Aside0.mk A40
 clear A40
 simp only [Option.some.injEq, Prod.mk.injEq] at H
 obtain ⟨rfl, rfl⟩ := H
 go_enter Try.func95, Try.ntmps95
 go_wp2_with (first | ((with_reducible refine gate_callee (f := 121) rfl ?_); refine goesLq (some 5) rfl rfl Try.func121 (by kernel_rfl) rfl #[.pointer (some ⟨g, 0, none⟩), .int .i64 900] rfl ?_; (with_reducible refine (spec_l1Next.calls g s0_0 s0_1 900 t226 t227 w0 _ ?side1 ?side2 A2.out).mono ?_); (case side1 => repeat (first | (with_reducible first | exact HI0.out | apply IsS130.alloc | apply IsS130.drewN | apply IsS130.drew | apply IsS130.set_1) | exact HI0.out)); (case side2 => repeat (first | (with_reducible first | exact HB.out | apply below_alloc | apply pw_below_drewN | apply below_drew1 | refine below_set ?_ (IsS130.ge HI0.out)) | exact HB.out)); rintro e w5 ⟨rfl, hi, hb, hk⟩; refine ⟨_, rfl, ?_⟩; have n0_ := Aside0.mk (KeepBut.trans q_K hk (.inl rfl)); have n1_ := Aside0.mk (hb); have n2_ := Aside0.mk (hi); revert n0_ n1_ n2_; clear HK HB HI0; intro HK HB HI0; (try clear hb); (try clear hb2); (try clear hk); (try clear hi)) | ((with_reducible refine gate_callee (f := 121) rfl ?_); refine goesLq (some 7) rfl rfl Try.func121 (by kernel_rfl) rfl #[.pointer (some ⟨g, 0, none⟩), .int .i64 900] rfl ?_; (with_reducible refine (spec_l1Next.calls g s0_0 t227 900 t228 t229 w0 _ ?side1 ?side2 A3.out).mono ?_); (case side1 => repeat (first | (with_reducible first | exact HI0.out | apply IsS130.alloc | apply IsS130.drewN | apply IsS130.drew | apply IsS130.set_1) | exact HI0.out)); (case side2 => repeat (first | (with_reducible first | exact HB.out | apply below_alloc | apply pw_below_drewN | apply below_drew1 | refine below_set ?_ (IsS130.ge HI0.out)) | exact HB.out)); rintro e w6 ⟨rfl, hi, hb, hk⟩; refine ⟨_, rfl, ?_⟩; have n0_ := Aside0.mk (KeepBut.trans q_K hk (.inl rfl)); have n1_ := Aside0.mk (hb); have n2_ := Aside0.mk (hi); revert n0_ n1_ n2_; clear HK HB HI0; intro HK HB HI0; (try clear hb); (try clear hb2); (try clear hk); (try clear hi)) | ((with_reducible refine gate_dst (N := 9) rfl ?_); refine Kd.R_lit (Kd.int .i64) _ 2 ?hg (N := 9) ?hd (xs := ([t226, wrap64 (-t228), 4611686018427387904, (-9223372036854775808), 9223372036854775807, 0] : List Int)) (inner := [.int .i64 t226, .int .i64 (wrap64 (-t228)), .int .i64 4611686018427387904, .int .i64 (-9223372036854775808), .int .i64 9223372036854775807, .int .i64 0]) (ok := fun _ => True) (okp := fun _ => True) ?hr ?hp (fun _ hk => hk) trivial (Below.refl _ _) (Nat.le_refl _) (by simp) ?_; (case hd => rfl); (case hg => rfl); (case hr => first | (go_simp; done) | (go_simp; rfl)); (case hp => exact (Reps.one (show Kd.M (Kd.int .i64) _ _ _ t226 [.int .i64 t226] from rfl) (Reps.one (show Kd.M (Kd.int .i64) _ _ _ (wrap64 (-t228)) [.int .i64 (wrap64 (-t228))] from rfl) (Reps.one (show Kd.M (Kd.int .i64) _ _ _ 4611686018427387904 [.int .i64 4611686018427387904] from rfl) (Reps.one (show Kd.M (Kd.int .i64) _ _ _ (-9223372036854775808) [.int .i64 (-9223372036854775808)] from rfl) (Reps.one (show Kd.M (Kd.int .i64) _ _ _ 9223372036854775807 [.int .i64 9223372036854775807] from rfl) (Reps.one (show Kd.M (Kd.int .i64) _ _ _ 0 [.int .i64 0] from rfl) (Reps.none _ _)))))))); intro v231 w7 ho8 hb hg_ hnew_; clear hg_ hnew_; (first | rw [← Ny230.out] at ho8 | (simp only [Int.reduceToNat] at ho8; rw [← Ny230.out] at ho8)); have n0_ := Aside0.mk (Kd.R_lower ho8 (keep_size (w := w) (g := g) (row := none) q_K)); have n1_ := Aside0.mk (IsS130.below q_I130_0_1 hb); have n2_ := Aside0.mk (KeepBut.trans q_K (KeepBut.of_below hb g none) (.inl rfl)); have n3_ := Aside0.mk (below_step q_B130_0 hb); revert n0_ n1_ n2_ n3_; clear HI0 HK HB; intro HO232 HI0 HK HB; clear hb ho8; obtain ⟨Ao9, co9, eo9⟩ := Kd.R_slice HO232.out; subst eo9) | ((with_reducible refine gate_callee (f := 100) rfl ?_); refine goesLq (some 10) rfl rfl Try.func100 (by kernel_rfl) rfl #[.pointer (some ⟨g, 0, none⟩), .slice Ao9 y230.length co9] rfl ?_; (with_reducible refine (spec_l1Pick.calls g s0_0 t229 _ _ y230 t233 t234 w0 _ ?side1 ?side2 ?side3 ?side4 ?side5 A4.out).mono ?_); (case side1 => repeat (first | (with_reducible first | exact HI0.out | apply IsS130.alloc | apply IsS130.drewN | apply IsS130.drew | apply IsS130.set_1) | exact HI0.out)); (case side2 => repeat (first | (with_reducible first | exact HB.out | apply below_alloc | apply pw_below_drewN | apply below_drew1 | refine below_set ?_ (IsS130.ge HI0.out)) | exact HB.out)); (case side3 => exact q_c ((Kd.R_reads' HO232.out).2.2)); (case side4 => exact (Kd.R_reads' HO232.out).2.1); (case side5 => exact far_slice (IsS130.own_ne HI0.out HO232.out (by decide))); rintro e w10 ⟨rfl, hi, hb, hk⟩; refine ⟨_, rfl, ?_⟩; have n0_ := Aside0.mk (Kd.R_mono (Kd.R_keep (IsS130.apart (show IsS130 w0 _ g s0_0 t229 from q_I130_0_1) (q_r (HO232.out)) (by decide)) hk (fun _ h => h.2)) (fun _ h => h.1)); have n1_ := Aside0.mk (KeepBut.trans q_K hk (.inl rfl)); have n2_ := Aside0.mk (hb); have n3_ := Aside0.mk (hi); revert n0_ n1_ n2_ n3_; clear HO232 HK HB HI0; intro HO232 HK HB HI0; (try clear hb); (try clear hb2); (try clear hk); (try clear hi)))
 go_ret
 exact ⟨q_e, q_I130_0_1, q_B130_0, q_K⟩

/-! ### spec_l1Source: function 96 -/
def spec_l1Source.f (l0 : List Int) : Option (List Int × Int) := some (l0, 0)
set_option maxHeartbeats 8000000 in
set_option maxRecDepth 100000 in
theorem spec_l1Source.calls (A0 : Option Addr) (c0 : Nat) (l0 : List Int) (r1 : List Int) (r2 : Int) (w0 w : World) (hB : Below w0.heap.size w0 w) (hr0 : Kd.C (Kd.int .u8) w0 A0 l0.length l0) (hc0 : l0.length ≤ c0) (h : spec_l1Source.f l0 = some (r1, r2)) :
  Calls Try.prog 96 #[.slice A0 l0.length c0] w fun e w' => ∃ g_ : Nat, e = .returned (.pointer (some ⟨g_, 0, none⟩)) ∧ IsS130 w0 w' g_ r1 r2 ∧ Below w0.heap.size w0 w' ∧ Below w.heap.size w w' := by
 have hu130 := Try.underlying130
 have HR0 := Aside0.mk hr0
 have HC0 := Aside0.mk hc0
 clear hr0 hc0
 have HBW := Aside0.mk (Below.refl w.heap.size w)
 have HW0 := Aside0.mk hB.size
 have HB := Aside0.mk hB
 clear hB
 have H : (some (l0, 0)) = some (r1, r2) := h
 clear h
 simp only [Option.some.injEq, Prod.mk.injEq] at H
 obtain ⟨rfl, rfl⟩ := H
 go_enter Try.func96, Try.ntmps96
 go_wp2_with (first | ((with_reducible refine gate_dst (N := 5) rfl ?_); refine q_box (N := 5) (cs := #[.slice A0 l0.length c0, .int .i64 0]) (t := 130) ?_; intro gb235 hg w2 hbox hb; have n0_ := Aside0.mk (below_step HBW.out hb); have n1_ := Aside0.mk (below_step bq hb); have n2_ := Aside0.mk (hbox); have n3_ := Aside0.mk ((by rw [hg]; exact (below_size (by repeat (first | (with_reducible first | exact HBW.out | apply below_alloc | apply pw_below_drewN | apply below_drew1) | exact HBW.out))) : w.heap.size ≤ gb235)); have n4_ := Aside0.mk ((Nat.le_trans HW0.out (by rw [hg]; exact (below_size (by repeat (first | (with_reducible first | exact HBW.out | apply below_alloc | apply pw_below_drewN | apply below_drew1) | exact HBW.out))) : w.heap.size ≤ gb235) : w0.heap.size ≤ gb235)); revert n0_ n1_ n2_ n3_ n4_; clear HBW HB; intro HBW HB BK235 GW235 GE235; clear hb hbox hg))
 go_ret
 exact ⟨_, rfl, (show IsS130 w0 _ gb235 l0 0 from ⟨_, _, q_b BK235.out, GE235.out, HR0.out⟩), bq, by repeat (first | (with_reducible first | exact HBW.out | apply below_alloc | apply pw_below_drewN | apply below_drew1 | refine below_set ?_ GW235.out) | exact HBW.out)⟩

/-! ### spec_DrawPackNumber: function 54 -/
def spec_DrawPackNumber.f (l0 : List Int) : Option (Int) := (spec_l1Source.f l0).bind fun bt236 => ((spec_l3Wide.f bt236.1 bt236.2).bind fun bt239 => (some bt239.1))
set_option maxHeartbeats 8000000 in
set_option maxRecDepth 100000 in
theorem spec_DrawPackNumber.calls (A0 : Option Addr) (c0 : Nat) (l0 : List Int) (r : Int) (w : World) (hr0 : Kd.C (Kd.int .u8) w A0 l0.length l0) (hc0 : l0.length ≤ c0) (h : spec_DrawPackNumber.f l0 = some r) :
  Calls Try.prog 54 #[.slice A0 l0.length c0] w fun e w' => e = .returned (.int .i64 r) ∧ Below w.heap.size w w' := by
 have HR0 := Aside0.mk hr0
 have HC0 := Aside0.mk hc0
 clear hr0 hc0
 have HB := Aside0.mk (Below.refl w.heap.size w)
 have H : ((spec_l1Source.f l0).bind fun bt236 => ((spec_l3Wide.f bt236.1 bt236.2).bind fun bt239 => (some bt239.1))) = some r := h
 clear h
 replace H := Option.bind_eq_some_iff.mp H
 obtain ⟨⟨t236, t237⟩, A20, H⟩ := H
 replace H : ((spec_l3Wide.f t236 t237).bind fun bt239 => (some bt239.1)) = some r := H
 have A2 := Aside0.mk A20
 clear A20
 replace H := Option.bind_eq_some_iff.mp H
 obtain ⟨⟨t239, t240⟩, A30, H⟩ := H
 replace H : (some t239) = some r := H
 have A3 := Aside0.mk A30
 clear A30
 obtain rfl := Option.some.inj H
 go_enter Try.func54, Try.ntmps54
 go_wp2_with (first | ((with_reducible refine gate_callee (f := 96) rfl ?_); refine goesLq (some 4) rfl rfl Try.func96 (by kernel_rfl) rfl #[.slice A0 l0.length c0] rfl ?_; (with_reducible refine (spec_l1Source.calls _ _ l0 t236 t237 w _ ?side1 ?side2 ?side3 A2.out).mono ?_); (case side1 => repeat (first | (with_reducible first | exact HB.out | apply below_alloc | apply pw_below_drewN | apply below_drew1) | exact HB.out)); (case side2 => exact HR0.out); (case side3 => exact HC0.out); rintro e w4 ⟨g238, rfl, hi, hb, hb2⟩; refine ⟨_, rfl, ?_⟩; have n0_ := Aside0.mk (hb); have n1_ := Aside0.mk (hi); revert n0_ n1_; clear HB; intro HB HI238; (try clear hb); (try clear hb2); (try clear hk); (try clear hi)) | ((with_reducible refine gate_callee (f := 95) rfl ?_); refine goesLq (some 5) rfl rfl Try.func95 (by kernel_rfl) rfl #[.pointer (some ⟨g238, 0, none⟩)] rfl ?_; (with_reducible refine (spec_l3Wide.calls g238 t236 t237 t239 t240 w _ ?side1 ?side2 A3.out).mono ?_); (case side1 => repeat (first | (with_reducible first | exact HI238.out | apply IsS130.alloc | apply IsS130.drewN | apply IsS130.drew | apply IsS130.set_1) | exact HI238.out)); (case side2 => repeat (first | (with_reducible first | exact HB.out | apply below_alloc | apply pw_below_drewN | apply below_drew1 | refine below_set ?_ (IsS130.ge HI238.out)) | exact HB.out)); rintro e w5 ⟨rfl, hi, hb, hk⟩; refine ⟨_, rfl, ?_⟩; have n0_ := Aside0.mk (hb); have n1_ := Aside0.mk (hi); revert n0_ n1_; clear HB HI238; intro HB HI238; (try clear hb); (try clear hb2); (try clear hk); (try clear hi)))
 go_ret
 exact ⟨q_e, q_B130_238⟩

/-! ### spec_PackNumber: function 119 -/
def spec_PackNumber.l0 : Nat → Int → List Int → Int → Option (List Int)
  | 0, _, _, _ => none
  | k + 1, x0, x3, x4 => if x4 ≥ 0 then (if 0 ≤ (IntKind.u64.wrap (wrap64 (8 * x4))) then (if x3.length < 140737488355328 then (spec_PackNumber.l0 k x0 (x3 ++ [(shr .u64 (IntKind.u64.wrap (x0)) (IntKind.u64.wrap (wrap64 (8 * x4)))) % 256]) (wrap64 (x4 - 1))) else (none)) else (none)) else (some x3)
def spec_PackNumber.f (k : Nat) (a0 : Int) : Option (List Int) := spec_PackNumber.l0 k a0 (([] : List Int)) 7
set_option maxHeartbeats 8000000 in
set_option maxRecDepth 100000 in
theorem spec_PackNumber.calls (k : Nat) (a0 : Int) (r : List Int) (w : World) (h : spec_PackNumber.f k a0 = some r) :
  Calls Try.prog 119 #[.int .i64 a0] w fun e w' => ∃ v0_ : Value, e = .returned (v0_) ∧ Kd.R (Kd.int .u8) 5 w' w.heap.size (fun _ => True) v0_ r ∧ Below w.heap.size w w' := by
 have HB := Aside0.mk (Below.refl w.heap.size w)
 have H : (spec_PackNumber.l0 k a0 (([] : List Int)) 7) = some r := h
 clear h
 obtain ⟨y241, hy241⟩ : ∃ y_ : List Int, y_ = (([] : List Int)) := ⟨_, rfl⟩
 replace H : (spec_PackNumber.l0 k a0 y241 7) = some r := q_h hy241 H
 have Ny241 := Aside0.mk hy241
 clear hy241
 have H' := Aside0.mk H
 clear H
 go_enter Try.func119, Try.ntmps119
 go_wp2_with (first | ((with_reducible refine gate_dst (N := 5) rfl ?_); refine Kd.R_lit (Kd.int .u8) _ 5 ?hg (N := 5) ?hd (xs := ([] : List Int)) (inner := []) (ok := fun _ => True) (okp := fun _ => True) ?hr ?hp (fun _ hk => hk) trivial (Below.refl _ _) (Nat.le_refl _) (by simp) ?_; (case hd => rfl); (case hg => rfl); (case hr => first | (go_simp; done) | (go_simp; rfl)); (case hp => exact (Reps.none _ _)); intro v242 w2 ho3 hb hg_ hnew_; clear hg_ hnew_; (first | rw [← Ny241.out] at ho3 | (simp only [Int.reduceToNat] at ho3; rw [← Ny241.out] at ho3)); have n0_ := Aside0.mk (Kd.R_lower ho3 (below_size bq)); have n1_ := Aside0.mk (below_step bq hb); revert n0_ n1_; clear HB; intro HO243 HB; clear hb ho3))
 go_loopg [3, 4] k (fun kq v3 v4 w' => ∃ (x3_1 : List Int) (x4_1 : Int), v4 = .int .i64 x4_1 ∧ Aside0 (spec_PackNumber.l0 kq a0 x3_1 x4_1 = some r) ∧ Aside0 (kq ≤ k) ∧ Aside0 (Kd.R (Kd.int .u8) 5 w' w.heap.size (fun _ => True) v3 x3_1) ∧ Aside0 (Below w.heap.size w w'))
 case atStart => exact ⟨(y241), (7), q_i, H', ⟨Nat.le_refl _⟩, ⟨q_r (HO243.out)⟩, ⟨bq⟩⟩
 case round =>
  clear H'
  (try clear c1); (try clear p2)
  obtain ⟨x3_1, x4_1, rfl, HA, HK1, HO_3, HB⟩ := hrel
  cases gk with
  | zero => exact absurd HA.out (by simp [spec_PackNumber.l0])
  | succ k1 =>
   have H := HA.out
   clear HA
   simp only [spec_PackNumber.l0] at H
   by_cases c4 : x4_1 ≥ 0
   ·rw [if_pos c4] at H
    have c4b0 := decide_eq_true c4
    clear c4
    obtain ⟨ji5, hji5⟩ : ∃ j_ : Int, (IntKind.u64.wrap (wrap64 (8 * x4_1))) = j_ := ⟨_, rfl⟩
    replace H : (if 0 ≤ (ji5) then (if x3_1.length < 140737488355328 then (spec_PackNumber.l0 k1 a0 (x3_1 ++ [(shr .u64 (IntKind.u64.wrap (a0)) (ji5)) % 256]) (wrap64 (x4_1 - 1))) else (none)) else (none)) = some r := by first | (rw [hji5] at H; exact H) | (simp only [hji5] at H ⊢; exact H)
    by_cases c6 : 0 ≤ (ji5)
    ·rw [if_pos c6] at H
     have c6b0 := eq_true c6
     have c6b1 := decide_eq_true c6
     clear c6
     obtain ⟨ji7, hji7⟩ : ∃ j_ : Int, (shr .u64 (IntKind.u64.wrap (a0)) (ji5)) = j_ := ⟨_, rfl⟩
     replace H : (if x3_1.length < 140737488355328 then (spec_PackNumber.l0 k1 a0 (x3_1 ++ [(ji7) % 256]) (wrap64 (x4_1 - 1))) else (none)) = some r := by first | (rw [hji7] at H; exact H) | (simp only [hji7] at H ⊢; exact H)
     have hji7_ : ((IntKind.u64.wrap (a0)) / 2 ^ min (ji5).toNat 64) = ji7 := hji7
     have hji7z : (ji5) ≤ 64 → ((IntKind.u64.wrap (a0)) / 2 ^ (ji5).toNat) = ji7 := shr_small hji7
     by_cases c8 : x3_1.length < 140737488355328
     ·rw [if_pos c8] at H
      have LMc8 := Aside0.mk c8
      clear c8
      obtain ⟨y244, hy244⟩ : ∃ y_ : List Int, y_ = (x3_1 ++ [(ji7) % 256]) := ⟨_, rfl⟩
      replace H : (spec_PackNumber.l0 k1 a0 y244 (wrap64 (x4_1 - 1))) = some r := q_h hy244 H
      have Ny244 := Aside0.mk hy244
      clear hy244
      have H' := Aside0.mk H
      clear H
      go_wp2_with (first | ((with_reducible refine gate_builtin (b := .append) (xs := #[.tmp 10, .tmp 18]) rfl ?_); at_builtin; refine Kd.R_append (Kd.int .u8) (w0 := w) w.heap.size rfl (.tmp 10) (.tmp 18) 22 5 (.int .u8 0) 1 rfl Try.underlying22 info5 rfl (by decide) (by omega) u3 x3_1 ((ji7) % 256) [.int .u8 ((ji7) % 256)] (fun _ => True) (fun _ => False) rfl rfl ?aP (fun _ hk => hk.elim) ?aF ?aO ?aB ?aS ?aL ?_; (case aP => exact rfl); (case aB => exact bq); (case aF => exact (fun _ _ => trivial)); (case aO => exact (q_r (HO_3.out))); (case aS => exact (below_size bq)); (case aL => have := LMc8.out; omega); intro v245 w9 ho hb hg hat; rw [← Ny244.out] at ho; have n0_ := Aside0.mk (hb); have n1_ := Aside0.mk (ho); revert n0_ n1_; clear HB HO_3; intro HB HO246; clear ho hb hg hat))
      go_roundg k1
      case measure => have := HK1.out; omega
      case rel => exact ⟨(y244), (wrap64 (x4_1 - 1)), q_i, H', ⟨by have := HK1.out; omega⟩, ⟨q_r (HO246.out)⟩, ⟨bq⟩⟩
     ·rw [if_neg c8] at H
      exact absurd H (by simp)
    ·rw [if_neg c6] at H
     exact absurd H (by simp)
   ·rw [if_neg c4] at H
    have c4b0 := decide_eq_false c4
    clear c4
    obtain rfl := Option.some.inj H
    go_wp2
    go_ret
    exact ⟨_, q_e, q_r (HO_3.out), bq⟩

/-! ### spec_l3Contract: function 91 -/
def spec_l3Contract.l0 : Nat → List Int → Int → Int → List (S89) → Option (List Int)
  | 0, _, _, _, _ => none
  | k + 1, x3, x4, x248000, x248001 => if x4 < (x248001.length : Int) then (if 0 ≤ x4 then ((some (([((rd_T89 x248001 x4).f0) % 256, ((rd_T89 x248001 x4).f1) % 256, ((rd_T89 x248001 x4).f2) % 256] : List Int) : List Int)).bind fun y253 => (if x3.length + y253.length < 140737488355328 then ((some (x3 ++ y253 : List Int)).bind fun y256 => ((spec_PackNumber.f k ((rd_T89 x248001 x4).f3)).bind fun t259 => (if y256.length + t259.length < 140737488355328 then (spec_l3Contract.l0 k (y256 ++ t259) (wrap64 (x4 + 1)) x248000 x248001) else (none)))) else (none))) else (none)) else (some x3)
def spec_l3Contract.f (k : Nat) (a0_0 : Int) (l0_1 : List (S89)) : Option (List Int) := (spec_PackNumber.f k a0_0).bind fun t248 => (spec_l3Contract.l0 k t248 0 a0_0 l0_1)
set_option maxHeartbeats 8000000 in
set_option maxRecDepth 100000 in
theorem spec_l3Contract.calls (k : Nat) (a0_0 : Int) (A0_1 : Option Addr) (c0_1 : Nat) (l0_1 : List (S89)) (r : List Int) (w : World) (hr0_1 : Kd.C k89 w A0_1 l0_1.length l0_1) (hc0_1 : l0_1.length ≤ c0_1) (h : spec_l3Contract.f k a0_0 l0_1 = some r) :
  Calls Try.prog 91 #[.agg #[.int .i64 a0_0, .slice A0_1 l0_1.length c0_1]] w fun e w' => ∃ v0_ : Value, e = .returned (v0_) ∧ Kd.R (Kd.int .u8) 5 w' w.heap.size (fun _ => True) v0_ r ∧ Below w.heap.size w w' := by
 have hu36 := Try.underlying36
 have hu89 := Try.underlying89
 have HR0_1 := Aside0.mk hr0_1
 have HC0_1 := Aside0.mk hc0_1
 clear hr0_1 hc0_1
 have HB := Aside0.mk (Below.refl w.heap.size w)
 have H : ((spec_PackNumber.f k a0_0).bind fun t248 => (spec_l3Contract.l0 k t248 0 a0_0 l0_1)) = some r := h
 clear h
 replace H := Option.bind_eq_some_iff.mp H
 obtain ⟨t248, A20, H⟩ := H
 replace H : (spec_l3Contract.l0 k t248 0 a0_0 l0_1) = some r := H
 have A2 := Aside0.mk A20
 clear A20
 have H' := Aside0.mk H
 clear H
 go_enter Try.func91, Try.ntmps91
 go_wp2_with (first | ((with_reducible refine gate_dst (N := 1) rfl ?_); refine q_box (N := 1) (cs := #[.int .i64 a0_0, .slice A0_1 l0_1.length c0_1]) (t := 36) ?_; intro gb247 hg w3 hbox hb; have n0_ := Aside0.mk (below_step bq hb); have n1_ := Aside0.mk (hbox); have n2_ := Aside0.mk ((q_g hg bq : w.heap.size ≤ gb247)); have n3_ := Aside0.mk ((q_g hg bq : w.heap.size ≤ gb247)); revert n0_ n1_ n2_ n3_; clear HB; intro HB BK247 GW247 GE247; clear hb hbox hg; obtain ⟨hcz4_0, hcz4_1, hfz4_0, hfz4_1⟩ := q_2 BK247.out) | ((with_reducible refine gate_callee (f := 119) rfl ?_); refine goesLq (some 8) rfl rfl Try.func119 (by kernel_rfl) rfl #[.int .i64 a0_0] rfl ?_; (with_reducible refine (spec_PackNumber.calls k a0_0 t248 _ A2.out).mono ?_); rintro e w5 ⟨v249, rfl, ho0, hb⟩; refine ⟨_, rfl, ?_⟩; have n0_ := Aside0.mk (Kd.R_lower ho0 (below_size bq)); have n1_ := Aside0.mk (blk_below (q_b BK247.out) hb); have n2_ := Aside0.mk (below_step bq hb); revert n0_ n1_ n2_; clear BK247 HB; intro HO250 BK247 HB; (try clear hb); (try clear hb2); (try clear hk); (try clear hi); (try clear ho0)))
 go_loopg [3, 4] k (fun kq v3 v4 w' => ∃ (x3_1 : List Int) (x4_1 : Int), v4 = .int .i64 x4_1 ∧ Aside0 (spec_l3Contract.l0 kq x3_1 x4_1 a0_0 l0_1 = some r) ∧ Aside0 (kq ≤ k) ∧ Aside0 (Kd.R (Kd.int .u8) 5 w' w.heap.size (fun _ => True) v3 x3_1) ∧ Aside0 (w'.heap[gb247]? = some (.cells #[.int .i64 a0_0, (.slice A0_1 l0_1.length c0_1)] 36 (0, 0))) ∧ Aside0 (Below w.heap.size w w'))
 case atStart => exact ⟨(t248), (0), q_i, H', ⟨Nat.le_refl _⟩, ⟨q_r (HO250.out)⟩, ⟨q_b BK247.out⟩, ⟨bq⟩⟩
 case round =>
  clear H'
  (try clear c1); (try clear p2); (try clear hcz4_0); (try clear hcz4_1); (try clear hfz4_0); (try clear hfz4_1)
  obtain ⟨x3_1, x4_1, rfl, HA, HK1, HO_3, BK247, HB⟩ := hrel
  cases gk with
  | zero => exact absurd HA.out (by simp [spec_l3Contract.l0])
  | succ k1 =>
   have H := HA.out
   clear HA
   simp only [spec_l3Contract.l0] at H
   by_cases c6 : x4_1 < (l0_1.length : Int)
   ·rw [if_pos c6] at H
    have c6b0 := decide_eq_true c6
    clear c6
    by_cases c7 : 0 ≤ x4_1
    ·rw [if_pos c7] at H
     have c7b0 := decide_eq_true c7
     clear c7
     obtain ⟨y253, hy253⟩ : ∃ y_ : List Int, y_ = (([((rd_T89 l0_1 x4_1).f0) % 256, ((rd_T89 l0_1 x4_1).f1) % 256, ((rd_T89 l0_1 x4_1).f2) % 256] : List Int)) := ⟨_, rfl⟩
     replace H : (if x3_1.length + y253.length < 140737488355328 then ((some (x3_1 ++ y253 : List Int)).bind fun y256 => ((spec_PackNumber.f k1 ((rd_T89 l0_1 x4_1).f3)).bind fun t259 => (if y256.length + t259.length < 140737488355328 then (spec_l3Contract.l0 k1 (y256 ++ t259) (wrap64 (x4_1 + 1)) a0_0 l0_1) else (none)))) else (none)) = some r := q_h hy253 H
     have Ny253 := Aside0.mk hy253
     clear hy253
     by_cases c8 : x3_1.length + y253.length < 140737488355328
     ·rw [if_pos c8] at H
      have LMc8 := Aside0.mk c8
      clear c8
      obtain ⟨y256, hy256⟩ : ∃ y_ : List Int, y_ = (x3_1 ++ y253) := ⟨_, rfl⟩
      replace H : ((spec_PackNumber.f k1 ((rd_T89 l0_1 x4_1).f3)).bind fun t259 => (if y256.length + t259.length < 140737488355328 then (spec_l3Contract.l0 k1 (y256 ++ t259) (wrap64 (x4_1 + 1)) a0_0 l0_1) else (none))) = some r := q_h hy256 H
      have Ny256 := Aside0.mk hy256
      clear hy256
      replace H := Option.bind_eq_some_iff.mp H
      obtain ⟨t259, A90, H⟩ := H
      replace H : (if y256.length + t259.length < 140737488355328 then (spec_l3Contract.l0 k1 (y256 ++ t259) (wrap64 (x4_1 + 1)) a0_0 l0_1) else (none)) = some r := H
      have A9 := Aside0.mk A90
      clear A90
      by_cases c10 : y256.length + t259.length < 140737488355328
      ·rw [if_pos c10] at H
       have LMc10 := Aside0.mk c10
       clear c10
       obtain ⟨y262, hy262⟩ : ∃ y_ : List Int, y_ = (y256 ++ t259) := ⟨_, rfl⟩
       replace H : (spec_l3Contract.l0 k1 y262 (wrap64 (x4_1 + 1)) a0_0 l0_1) = some r := q_h hy262 H
       have Ny262 := Aside0.mk hy262
       clear hy262
       have H' := Aside0.mk H
       clear H
       obtain ⟨hcz11_0, hcz11_1, hfz11_0, hfz11_1⟩ := q_2 BK247.out
       have p251 : 0 ≤ (x4_1 : Int) := q_d
       have q251 : x4_1 < (l0_1.length : Int) := q_d
       obtain ⟨ad251, e251, hx251_0, hx251_1, hx251_2, hx251_3⟩ := at_T89 HR0_1.out x4_1 p251 q251
       cases e251
       replace hx251_0 := q_x HB.out hx251_0
       replace hx251_1 := q_x HB.out hx251_1
       replace hx251_2 := q_x HB.out hx251_2
       replace hx251_3 := q_x HB.out hx251_3
       replace p251 := eq_true p251
       replace q251 := eq_true q251
       go_wp2_with (first | ((with_reducible refine gate_dst (N := 5) rfl ?_); refine q_box (N := 5) (cs := #[.int .i64 0, .int .i64 0, .int .i64 0, .int .i64 0]) (t := 89) ?_; intro gb252 hg w12 hbox hb; have n0_ := Aside0.mk (Kd.R_below (q_r (HO_3.out)) hb); have n1_ := Aside0.mk (blk_below (q_b BK247.out) hb); have n2_ := Aside0.mk (below_step bq hb); have n3_ := Aside0.mk (hbox); have n4_ := Aside0.mk ((q_g hg bq : w.heap.size ≤ gb252)); have n5_ := Aside0.mk ((q_g hg bq : w.heap.size ≤ gb252)); have n6_ := Aside0.mk ((q_n hg (q_b BK247.out) : gb247 ≠ gb252)); have n7_ := Aside0.mk ((q_m hg (q_b BK247.out) : gb252 ≠ gb247)); revert n0_ n1_ n2_ n3_ n4_ n5_ n6_ n7_; clear HO_3 BK247 HB; intro HO_3 BK247 HB BK252 GW252 GE252 NB247_252 NB252_247; clear hb hbox hg; have hnb13 := NB252_247.out; have hnc13 := NB247_252.out; obtain ⟨hcz14_0, hcz14_1, hcz14_2, hcz14_3, hfz14_0, hfz14_1, hfz14_2, hfz14_3⟩ := q_4 BK252.out) | ((with_reducible refine gate_dst (N := 31) rfl ?_); refine Kd.R_lit (Kd.int .u8) _ 5 ?hg (N := 31) ?hd (xs := ([((rd_T89 l0_1 x4_1).f0) % 256, ((rd_T89 l0_1 x4_1).f1) % 256, ((rd_T89 l0_1 x4_1).f2) % 256] : List Int)) (inner := [.int .u8 (((rd_T89 l0_1 x4_1).f0) % 256), .int .u8 (((rd_T89 l0_1 x4_1).f1) % 256), .int .u8 (((rd_T89 l0_1 x4_1).f2) % 256)]) (ok := fun _ => True) (okp := fun _ => True) ?hr ?hp (fun _ hk => hk) trivial (Below.refl _ _) (Nat.le_refl _) (by simp) ?_; (case hd => rfl); (case hg => rfl); (case hr => first | (go_simp; done) | (go_simp; rfl)); (case hp => exact (Reps.one (show Kd.M (Kd.int .u8) _ _ _ (((rd_T89 l0_1 x4_1).f0) % 256) [.int .u8 (((rd_T89 l0_1 x4_1).f0) % 256)] from rfl) (Reps.one (show Kd.M (Kd.int .u8) _ _ _ (((rd_T89 l0_1 x4_1).f1) % 256) [.int .u8 (((rd_T89 l0_1 x4_1).f1) % 256)] from rfl) (Reps.one (show Kd.M (Kd.int .u8) _ _ _ (((rd_T89 l0_1 x4_1).f2) % 256) [.int .u8 (((rd_T89 l0_1 x4_1).f2) % 256)] from rfl) (Reps.none _ _))))); intro v254 w15 ho16 hb hg_ hnew_; clear hg_ hnew_; (first | rw [← Ny253.out] at ho16 | (simp only [Int.reduceToNat] at ho16; rw [← Ny253.out] at ho16)); have n0_ := Aside0.mk (Kd.R_elder' (by (with_reducible repeat (first | apply Kd.R_alloc | apply Kd.R_drewN | apply Kd.R_drew)); exact (Kd.R_mono (Kd.R_far (p := ⟨gb252, 3, none⟩) (Kd.R_far (p := ⟨gb252, 2, none⟩) (Kd.R_far (p := ⟨gb252, 1, none⟩) (Kd.R_far (p := ⟨gb252, 0, none⟩) (Kd.R_types HO_3.out BK252.out (by decide)) (fun _ hk => hk.2) (.int .i64 ((rd_T89 l0_1 x4_1).f0))) (fun _ hk => hk.2) (.int .i64 ((rd_T89 l0_1 x4_1).f1))) (fun _ hk => hk.2) (.int .i64 ((rd_T89 l0_1 x4_1).f2))) (fun _ hk => hk.2) (.int .i64 ((rd_T89 l0_1 x4_1).f3))) (fun _ h_ => h_.1))) (Kd.R_base ho16) hb); have n1_ := Aside0.mk (Kd.R_lower (Kd.R_new' ho16 (Kd.R_lt (by (with_reducible repeat (first | apply Kd.R_alloc | apply Kd.R_drewN | apply Kd.R_drew)); exact (Kd.R_mono (Kd.R_far (p := ⟨gb252, 3, none⟩) (Kd.R_far (p := ⟨gb252, 2, none⟩) (Kd.R_far (p := ⟨gb252, 1, none⟩) (Kd.R_far (p := ⟨gb252, 0, none⟩) (Kd.R_types HO_3.out BK252.out (by decide)) (fun _ hk => hk.2) (.int .i64 ((rd_T89 l0_1 x4_1).f0))) (fun _ hk => hk.2) (.int .i64 ((rd_T89 l0_1 x4_1).f1))) (fun _ hk => hk.2) (.int .i64 ((rd_T89 l0_1 x4_1).f2))) (fun _ hk => hk.2) (.int .i64 ((rd_T89 l0_1 x4_1).f3))) (fun _ h_ => h_.1))))) (below_size bq)); have n2_ := Aside0.mk (blk_below (g := gb247) (o := .cells #[.int .i64 a0_0, .slice (some ad251) l0_1.length c0_1] 36 (0, 0)) (by (with_reducible repeat (first | refine blk_drewN ?_ _ | refine blk_drew ?_ | refine blk_alloc ?_ _)); refine blk_far ?_ NB247_252.out _; (with_reducible repeat (first | refine blk_drewN ?_ _ | refine blk_drew ?_ | refine blk_alloc ?_ _)); refine blk_far ?_ NB247_252.out _; (with_reducible repeat (first | refine blk_drewN ?_ _ | refine blk_drew ?_ | refine blk_alloc ?_ _)); refine blk_far ?_ NB247_252.out _; (with_reducible repeat (first | refine blk_drewN ?_ _ | refine blk_drew ?_ | refine blk_alloc ?_ _)); refine blk_far ?_ NB247_252.out _; (with_reducible repeat (first | refine blk_drewN ?_ _ | refine blk_drew ?_ | refine blk_alloc ?_ _)); exact BK247.out) hb); have n3_ := Aside0.mk (blk_below (g := gb252) (o := .cells #[.int .i64 ((rd_T89 l0_1 x4_1).f0), .int .i64 ((rd_T89 l0_1 x4_1).f1), .int .i64 ((rd_T89 l0_1 x4_1).f2), .int .i64 ((rd_T89 l0_1 x4_1).f3)] 89 (0, 0)) (by (with_reducible repeat (first | refine blk_drewN ?_ _ | refine blk_drew ?_ | refine blk_alloc ?_ _)); refine blk_put (cs := #[.int .i64 ((rd_T89 l0_1 x4_1).f0), .int .i64 ((rd_T89 l0_1 x4_1).f1), .int .i64 ((rd_T89 l0_1 x4_1).f2), .int .i64 0]) ?_ 3 _ rfl; (with_reducible repeat (first | refine blk_drewN ?_ _ | refine blk_drew ?_ | refine blk_alloc ?_ _)); refine blk_put (cs := #[.int .i64 ((rd_T89 l0_1 x4_1).f0), .int .i64 ((rd_T89 l0_1 x4_1).f1), .int .i64 0, .int .i64 0]) ?_ 2 _ rfl; (with_reducible repeat (first | refine blk_drewN ?_ _ | refine blk_drew ?_ | refine blk_alloc ?_ _)); refine blk_put (cs := #[.int .i64 ((rd_T89 l0_1 x4_1).f0), .int .i64 0, .int .i64 0, .int .i64 0]) ?_ 1 _ rfl; (with_reducible repeat (first | refine blk_drewN ?_ _ | refine blk_drew ?_ | refine blk_alloc ?_ _)); refine blk_put (cs := #[.int .i64 0, .int .i64 0, .int .i64 0, .int .i64 0]) ?_ 0 _ rfl; (with_reducible repeat (first | refine blk_drewN ?_ _ | refine blk_drew ?_ | refine blk_alloc ?_ _)); exact BK252.out) hb); have n4_ := Aside0.mk (below_step bq hb); revert n0_ n1_ n2_ n3_ n4_; clear HO_3 BK247 BK252 HB; intro HO_3 HO255 BK247 BK252 HB; clear hb ho16; obtain ⟨Ao18, co18, eo18⟩ := Kd.R_slice HO255.out; subst eo18) | ((with_reducible refine gate_builtin (b := .append) (xs := #[.tmp 21, .tmp 31]) rfl ?_); at_builtin; refine Kd.R_append_rows (Kd.int .u8) (w0 := w) w.heap.size rfl (.tmp 21) (.tmp 31) 22 5 (.int .u8 0) 1 rfl Try.underlying22 info5 rfl (by decide) (by omega) u3 x3_1 y253 _ _ _ (fun k_ => some k_ ≠ (.slice Ao18 y253.length co18 : Value).ownBlock) (fun _ => False) rfl rfl ?aO ?aR (fun _ _ h => h) (fun _ h => h.elim) ?aF ?aB ?aS ?aL ?_; (case aR => repeat (first | exact (Kd.R_reads' HO255.out).2.2 | (with_reducible refine Kd.C_alloc ?_ _) | (with_reducible refine Kd.C_drewN ?_ _) | (with_reducible refine Kd.C_drew ?_))); (case aB => exact bq); (case aF => exact (fun k_ hk => Kd.fresh' (Kd.R_lt (q_r (HO255.out))) k_ hk)); (case aO => exact (q_r (Kd.R_mono HO_3.out (fun _ hk => hk.2)))); (case aS => exact (below_size bq)); (case aL => have := LMc8.out; omega); intro v257 w17 ho hb hg hat; rw [← Ny256.out] at ho; have n0_ := Aside0.mk (blk_grown (q_b BK247.out) hg (Kd.R_ne HO_3.out BK247.out (by decide))); have n1_ := Aside0.mk (blk_grown (q_b BK252.out) hg (Kd.R_ne HO_3.out BK252.out (by decide))); have n2_ := Aside0.mk (Kd.R_after (ok := (fun _ => True)) (q_r (HO255.out)) hg hat); have n3_ := Aside0.mk (hb); have n4_ := Aside0.mk (ho); revert n0_ n1_ n2_ n3_ n4_; clear BK247 BK252 HO255 HB HO_3; intro BK247 BK252 HO255 HB HO258; clear ho hb hg hat; obtain ⟨hcz19_0, hcz19_1, hcz19_2, hcz19_3, hfz19_0, hfz19_1, hfz19_2, hfz19_3⟩ := q_4 BK252.out) | ((with_reducible refine gate_callee (f := 119) rfl ?_); refine goesLq (some 36) rfl rfl Try.func119 (by kernel_rfl) rfl #[.int .i64 ((rd_T89 l0_1 x4_1).f3)] rfl ?_; (with_reducible refine (spec_PackNumber.calls k1 ((rd_T89 l0_1 x4_1).f3) t259 _ A9.out).mono ?_); rintro e w20 ⟨v260, rfl, ho0, hb⟩; refine ⟨_, rfl, ?_⟩; have n0_ := Aside0.mk (Kd.R_elder' (q_r (HO255.out)) (Kd.R_base ho0) hb); have n1_ := Aside0.mk (Kd.R_elder' (q_r (HO258.out)) (Kd.R_base ho0) hb); have n2_ := Aside0.mk (Kd.R_lower (Kd.R_new' (Kd.R_new' ho0 (Kd.R_lt (q_r (HO255.out)))) (Kd.R_lt (q_r (HO258.out)))) (below_size bq)); have n3_ := Aside0.mk (blk_below (q_b BK247.out) hb); have n4_ := Aside0.mk (blk_below (q_b BK252.out) hb); have n5_ := Aside0.mk (below_step bq hb); revert n0_ n1_ n2_ n3_ n4_ n5_; clear HO255 HO258 BK247 BK252 HB; intro HO255 HO258 HO261 BK247 BK252 HB; (try clear hb); (try clear hb2); (try clear hk); (try clear hi); (try clear ho0); obtain ⟨Ao22, co22, eo22⟩ := Kd.R_slice HO261.out; subst eo22) | ((with_reducible refine gate_builtin (b := .append) (xs := #[.tmp 33, .tmp 36]) rfl ?_); at_builtin; refine Kd.R_append_rows (Kd.int .u8) (w0 := w) w.heap.size rfl (.tmp 33) (.tmp 36) 22 5 (.int .u8 0) 1 rfl Try.underlying22 info5 rfl (by decide) (by omega) v257 y256 t259 _ _ _ (fun k_ => some k_ ≠ (.slice Ao18 y253.length co18 : Value).ownBlock ∧ some k_ ≠ (.slice Ao22 t259.length co22 : Value).ownBlock) (fun _ => False) rfl rfl ?aO ?aR (fun _ _ h => h) (fun _ h => h.elim) ?aF ?aB ?aS ?aL ?_; (case aR => repeat (first | exact (Kd.R_reads' HO261.out).2.2 | (with_reducible refine Kd.C_alloc ?_ _) | (with_reducible refine Kd.C_drewN ?_ _) | (with_reducible refine Kd.C_drew ?_))); (case aB => exact bq); (case aF => exact (fun k_ hk => ⟨Kd.fresh' (Kd.R_lt (q_r (HO255.out))) k_ hk, Kd.fresh' (Kd.R_lt (q_r (HO261.out))) k_ hk⟩)); (case aO => exact (q_r (HO258.out))); (case aS => exact (below_size bq)); (case aL => have := LMc10.out; omega); intro v263 w21 ho hb hg hat; rw [← Ny262.out] at ho; have n0_ := Aside0.mk (blk_grown (q_b BK247.out) hg (Kd.R_ne HO258.out BK247.out (by decide))); have n1_ := Aside0.mk (blk_grown (q_b BK252.out) hg (Kd.R_ne HO258.out BK252.out (by decide))); have n2_ := Aside0.mk (Kd.R_after (ok := (fun k_ => some k_ ≠ (.slice Ao22 t259.length co22 : Value).ownBlock)) (by (with_reducible repeat (first | apply Kd.R_alloc | apply Kd.R_drewN | apply Kd.R_drew)); exact Kd.R_mono HO255.out (fun _ hk => ⟨hk.2, hk.1.2⟩)) hg hat); have n3_ := Aside0.mk (Kd.R_after (ok := (fun k_ => some k_ ≠ (.slice Ao18 y253.length co18 : Value).ownBlock)) (by (with_reducible repeat (first | apply Kd.R_alloc | apply Kd.R_drewN | apply Kd.R_drew)); exact Kd.R_mono HO261.out (fun _ hk => ⟨hk.1.2, hk.2⟩)) hg hat); have n4_ := Aside0.mk (hb); have n5_ := Aside0.mk (ho); revert n0_ n1_ n2_ n3_ n4_ n5_; clear BK247 BK252 HO255 HO261 HB HO258; intro BK247 BK252 HO255 HO261 HB HO264; clear ho hb hg hat))
       go_roundg k1
       case measure => have := HK1.out; omega
       case rel => exact ⟨(y262), (wrap64 (x4_1 + 1)), q_i, H', ⟨by have := HK1.out; omega⟩, ⟨q_r (Kd.R_mono HO264.out (fun _ hk => trivial))⟩, ⟨q_b BK247.out⟩, ⟨bq⟩⟩
      ·rw [if_neg c10] at H
       exact absurd H (by simp)
     ·rw [if_neg c8] at H
      exact absurd H (by simp)
    ·rw [if_neg c7] at H
     exact absurd H (by simp)
   ·rw [if_neg c6] at H
    have c6b0 := decide_eq_false c6
    clear c6
    obtain rfl := Option.some.inj H
    obtain ⟨hcz23_0, hcz23_1, hfz23_0, hfz23_1⟩ := q_2 BK247.out
    go_wp2
    go_ret
    exact ⟨_, q_e, q_r (HO_3.out), bq⟩

/-! ### spec_PackContract: function 46 -/
def spec_PackContract.f (k : Nat) (a0_0 : Int) (l0_1 : List (S89)) : Option (Int × List Int) := (spec_ContractFault.f k a0_0 l0_1).bind fun t267 => (if t267 = 0 then ((spec_l3Contract.f k a0_0 l0_1).bind fun t268 => (some (0, t268))) else (some (t267, ([] : List Int))))
set_option maxHeartbeats 8000000 in
set_option maxRecDepth 100000 in
theorem spec_PackContract.calls (k : Nat) (a0_0 : Int) (A0_1 : Option Addr) (c0_1 : Nat) (l0_1 : List (S89)) (r1 : Int) (r2 : List Int) (w : World) (hr0_1 : Kd.C k89 w A0_1 l0_1.length l0_1) (hc0_1 : l0_1.length ≤ c0_1) (h : spec_PackContract.f k a0_0 l0_1 = some (r1, r2)) :
  Calls Try.prog 46 #[.agg #[.int .i64 a0_0, .slice A0_1 l0_1.length c0_1]] w fun e w' => ∃ v1_ : Value, e = .returned (.agg #[.int .i64 r1, v1_]) ∧ Kd.R (Kd.int .u8) 5 w' w.heap.size (fun _ => True) v1_ r2 ∧ Below w.heap.size w w' := by
 have hu36 := Try.underlying36
 have hu24 := Try.underlying24
 have HR0_1 := Aside0.mk hr0_1
 have HC0_1 := Aside0.mk hc0_1
 clear hr0_1 hc0_1
 have HB := Aside0.mk (Below.refl w.heap.size w)
 have H : ((spec_ContractFault.f k a0_0 l0_1).bind fun t267 => (if t267 = 0 then ((spec_l3Contract.f k a0_0 l0_1).bind fun t268 => (some (0, t268))) else (some (t267, ([] : List Int))))) = some (r1, r2) := h
 clear h
 replace H := Option.bind_eq_some_iff.mp H
 obtain ⟨t267, A20, H⟩ := H
 replace H : (if t267 = 0 then ((spec_l3Contract.f k a0_0 l0_1).bind fun t268 => (some (0, t268))) else (some (t267, ([] : List Int)))) = some (r1, r2) := H
 have A2 := Aside0.mk A20
 clear A20
 by_cases c3 : t267 = 0
 ·rw [if_pos c3] at H
  have c3b0 : (t267 == 0) = true := beq_iff_eq.mpr c3
  have c3b1 : (t267 != 0) = false := bne_eq_false_iff_eq.mpr c3
  clear c3
  replace H := Option.bind_eq_some_iff.mp H
  obtain ⟨t268, A40, H⟩ := H
  replace H : (some (0, t268)) = some (r1, r2) := H
  have A4 := Aside0.mk A40
  clear A40
  simp only [Option.some.injEq, Prod.mk.injEq] at H
  obtain ⟨rfl, rfl⟩ := H
  go_enter Try.func46, Try.ntmps46
  go_wp2_with (first | ((with_reducible refine gate_dst (N := 1) rfl ?_); refine q_box (N := 1) (cs := #[.int .i64 a0_0, .slice A0_1 l0_1.length c0_1]) (t := 36) ?_; intro gb265 hg w5 hbox hb; have n0_ := Aside0.mk (below_step bq hb); have n1_ := Aside0.mk (hbox); have n2_ := Aside0.mk ((q_g hg bq : w.heap.size ≤ gb265)); have n3_ := Aside0.mk ((q_g hg bq : w.heap.size ≤ gb265)); revert n0_ n1_ n2_ n3_; clear HB; intro HB BK265 GW265 GE265; clear hb hbox hg) | ((with_reducible refine gate_dst (N := 2) rfl ?_); refine q_box (N := 2) (cs := #[.int .i64 0, .slice none 0 0]) (t := 24) ?_; intro gb266 hg w6 hbox hb; have n0_ := Aside0.mk (blk_below (q_b BK265.out) hb); have n1_ := Aside0.mk (below_step bq hb); have n2_ := Aside0.mk (hbox); have n3_ := Aside0.mk ((q_g hg bq : w.heap.size ≤ gb266)); have n4_ := Aside0.mk ((q_g hg bq : w.heap.size ≤ gb266)); have n5_ := Aside0.mk ((q_n hg (q_b BK265.out) : gb265 ≠ gb266)); have n6_ := Aside0.mk ((q_m hg (q_b BK265.out) : gb266 ≠ gb265)); revert n0_ n1_ n2_ n3_ n4_ n5_ n6_; clear BK265 HB; intro BK265 HB BK266 GW266 GE266 NB265_266 NB266_265; clear hb hbox hg; have hnb7 := NB265_266.out; have hnc7 := NB266_265.out; obtain ⟨hcz8_0, hcz8_1, hfz8_0, hfz8_1⟩ := q_2 BK265.out) | ((with_reducible refine gate_callee (f := 25) rfl ?_); refine goesLq (some 5) rfl rfl Try.func25 (by kernel_rfl) rfl #[.agg #[.int .i64 a0_0, .slice A0_1 l0_1.length c0_1]] rfl ?_; (with_reducible refine (spec_ContractFault.calls k a0_0 _ _ l0_1 t267 _ ?side1 ?side2 A2.out).mono ?_); (case side1 => exact q_c ((Kd.C_below HR0_1.out HB.out))); (case side2 => exact HC0_1.out); rintro e w9 ⟨rfl, hb⟩; refine ⟨_, rfl, ?_⟩; have n0_ := Aside0.mk (blk_below (q_b BK265.out) hb); have n1_ := Aside0.mk (blk_below (q_b BK266.out) hb); have n2_ := Aside0.mk (below_step bq hb); revert n0_ n1_ n2_; clear BK265 BK266 HB; intro BK265 BK266 HB; (try clear hb); (try clear hb2); (try clear hk); (try clear hi); obtain ⟨hcz10_0, hcz10_1, hfz10_0, hfz10_1⟩ := q_2 BK265.out) | ((with_reducible refine gate_callee (f := 91) rfl ?_); refine goesLq (some 11) rfl rfl Try.func91 (by kernel_rfl) rfl #[.agg #[.int .i64 a0_0, .slice A0_1 l0_1.length c0_1]] rfl ?_; (with_reducible refine (spec_l3Contract.calls k a0_0 _ _ l0_1 t268 _ ?side1 ?side2 A4.out).mono ?_); (case side1 => exact q_c ((Kd.C_below HR0_1.out HB.out))); (case side2 => exact HC0_1.out); rintro e w11 ⟨v269, rfl, ho0, hb⟩; refine ⟨_, rfl, ?_⟩; have n0_ := Aside0.mk (Kd.R_lower ho0 (below_size bq)); have n1_ := Aside0.mk (blk_below (q_b BK265.out) hb); have n2_ := Aside0.mk (blk_below (q_b BK266.out) hb); have n3_ := Aside0.mk (below_step bq hb); revert n0_ n1_ n2_ n3_; clear BK265 BK266 HB; intro HO270 BK265 BK266 HB; (try clear hb); (try clear hb2); (try clear hk); (try clear hi); (try clear ho0); obtain ⟨Ao12, co12, eo12⟩ := Kd.R_slice HO270.out; subst eo12; obtain ⟨hcz13_0, hcz13_1, hfz13_0, hfz13_1⟩ := q_2 BK266.out))
  refine bodyPost_ret (results_cell_row rfl _ _ gb266 24 #[.int .i64 0, .slice Ao12 t268.length co12] (0, 0) _ rfl (by (with_reducible repeat (first | refine blk_drewN ?_ _ | refine blk_drew ?_ | refine blk_alloc ?_ _)); refine blk_put (cs := #[.int .i64 0, .slice none 0 0]) ?_ 1 _ rfl; (with_reducible repeat (first | refine blk_drewN ?_ _ | refine blk_drew ?_ | refine blk_alloc ?_ _)); refine blk_put (cs := #[.int .i64 0, .slice none 0 0]) ?_ 0 _ rfl; (with_reducible repeat (first | refine blk_drewN ?_ _ | refine blk_drew ?_ | refine blk_alloc ?_ _)); exact BK266.out) Try.underlying24 rfl (by kernel_rfl)) rfl ?_
  exact ⟨_, q_e, by (with_reducible repeat (first | apply Kd.R_alloc | apply Kd.R_drewN | apply Kd.R_drew)); exact Kd.R_mono (Kd.R_far (p := ⟨gb266, 1, none⟩) (Kd.R_far (p := ⟨gb266, 0, none⟩) (Kd.R_types HO270.out BK266.out (by decide)) (fun _ hk => hk.2) (.int .i64 0)) (fun _ hk => hk.2) (.slice Ao12 t268.length co12)) (fun _ hk => trivial), bq⟩
 ·rw [if_neg c3] at H
  have c3b0 : (t267 == 0) = false := beq_eq_false_iff_ne.mpr c3
  have c3b1 : (t267 != 0) = true := bne_iff_ne.mpr c3
  simp only [Option.some.injEq, Prod.mk.injEq] at H
  obtain ⟨rfl, rfl⟩ := H
  go_enter Try.func46, Try.ntmps46
  go_wp2_with (first | ((with_reducible refine gate_dst (N := 1) rfl ?_); refine q_box (N := 1) (cs := #[.int .i64 a0_0, .slice A0_1 l0_1.length c0_1]) (t := 36) ?_; intro gb265 hg w14 hbox hb; have n0_ := Aside0.mk (below_step bq hb); have n1_ := Aside0.mk (hbox); have n2_ := Aside0.mk ((q_g hg bq : w.heap.size ≤ gb265)); have n3_ := Aside0.mk ((q_g hg bq : w.heap.size ≤ gb265)); revert n0_ n1_ n2_ n3_; clear HB; intro HB BK265 GW265 GE265; clear hb hbox hg) | ((with_reducible refine gate_dst (N := 2) rfl ?_); refine q_box (N := 2) (cs := #[.int .i64 0, .slice none 0 0]) (t := 24) ?_; intro gb266 hg w15 hbox hb; have n0_ := Aside0.mk (blk_below (q_b BK265.out) hb); have n1_ := Aside0.mk (below_step bq hb); have n2_ := Aside0.mk (hbox); have n3_ := Aside0.mk ((q_g hg bq : w.heap.size ≤ gb266)); have n4_ := Aside0.mk ((q_g hg bq : w.heap.size ≤ gb266)); have n5_ := Aside0.mk ((q_n hg (q_b BK265.out) : gb265 ≠ gb266)); have n6_ := Aside0.mk ((q_m hg (q_b BK265.out) : gb266 ≠ gb265)); revert n0_ n1_ n2_ n3_ n4_ n5_ n6_; clear BK265 HB; intro BK265 HB BK266 GW266 GE266 NB265_266 NB266_265; clear hb hbox hg; have hnb16 := NB265_266.out; have hnc16 := NB266_265.out; obtain ⟨hcz17_0, hcz17_1, hfz17_0, hfz17_1⟩ := q_2 BK265.out) | ((with_reducible refine gate_callee (f := 25) rfl ?_); refine goesLq (some 5) rfl rfl Try.func25 (by kernel_rfl) rfl #[.agg #[.int .i64 a0_0, .slice A0_1 l0_1.length c0_1]] rfl ?_; (with_reducible refine (spec_ContractFault.calls k a0_0 _ _ l0_1 t267 _ ?side1 ?side2 A2.out).mono ?_); (case side1 => exact q_c ((Kd.C_below HR0_1.out HB.out))); (case side2 => exact HC0_1.out); rintro e w18 ⟨rfl, hb⟩; refine ⟨_, rfl, ?_⟩; have n0_ := Aside0.mk (blk_below (q_b BK265.out) hb); have n1_ := Aside0.mk (blk_below (q_b BK266.out) hb); have n2_ := Aside0.mk (below_step bq hb); revert n0_ n1_ n2_; clear BK265 BK266 HB; intro BK265 BK266 HB; (try clear hb); (try clear hb2); (try clear hk); (try clear hi); obtain ⟨hcz19_0, hcz19_1, hfz19_0, hfz19_1⟩ := q_2 BK266.out))
  refine bodyPost_ret (results_cell_row rfl _ _ gb266 24 #[.int .i64 t267, .slice none 0 0] (0, 0) _ rfl (by (with_reducible repeat (first | refine blk_drewN ?_ _ | refine blk_drew ?_ | refine blk_alloc ?_ _)); refine blk_put (cs := #[.int .i64 t267, .slice none 0 0]) ?_ 1 _ rfl; (with_reducible repeat (first | refine blk_drewN ?_ _ | refine blk_drew ?_ | refine blk_alloc ?_ _)); refine blk_put (cs := #[.int .i64 0, .slice none 0 0]) ?_ 0 _ rfl; (with_reducible repeat (first | refine blk_drewN ?_ _ | refine blk_drew ?_ | refine blk_alloc ?_ _)); exact BK266.out) Try.underlying24 rfl (by kernel_rfl)) rfl ?_
  exact ⟨_, q_e, by first | exact Kd.R_nil _ _ _ _ _ | exact Kd.N_nil _ _ _ _ _ | exact Kd.V_nil _ _ _ _ _ | exact Kd.Q_nil _ _ _ _ _ | exact Kd.S_nil _ _ _ _ _, bq⟩

end Go.Proofs.Ytooiamkaipdmpaa.PFnBytes
