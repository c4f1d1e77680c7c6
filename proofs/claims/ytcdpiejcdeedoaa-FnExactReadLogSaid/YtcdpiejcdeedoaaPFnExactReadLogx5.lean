/- The functions that a law reaches, each as a plain Lean function with the proof that the machine comes to its answer: written by program (the kit's print, turned by wip/gen). No conditions. -/
import Derived.Test.YtcdpiejcdeedoaaPFnExactReadLogx0
import Derived.Test.YtcdpiejcdeedoaaPFnExactReadLogx4
namespace Go.Proofs.Ytcdpiejcdeedoaa.PFnExactReadLog
open Go.RowKit Go.Proofs.YtcdpiejcdeedoaaW.PrintWords Go.Proofs.YtcdpiejcdeedoaaW.PrintLast Go.Proofs.YtcdpiejcdeedoaaW.PrintMore
attribute [local go_sem] max2_int min2_int max_two min_two max_three min_three max_four min_four   -- for this text's walks alone
set_option linter.unusedVariables false
set_option linter.unusedSimpArgs false

/-! ### spec_l3Records: function 64 -/
mutual
def spec_l3Records.l0 : Nat → List Int → List (List Int) → Int → Option ((List (List Int)) × Int)
  | 0, _, _, _ => none
  | k + 1, x0, x4, x5 => if (wrap64 (x5 + 4)) < (x0.length : Int) then (if 0 ≤ x5 then (if x5 < (x0.length : Int) then (if 0 ≤ (wrap64 (x5 + 1)) then (if (wrap64 (x5 + 1)) < (x0.length : Int) then (if (wrap64 ((wrap64 ((wrap64 (rd x0 x5)) * 256)) + (wrap64 (rd x0 (wrap64 (x5 + 1)))))) < 1 then (spec_l3Records.j1 k x0 x4 x5 (wrap64 ((wrap64 ((wrap64 (rd x0 x5)) * 256)) + (wrap64 (rd x0 (wrap64 (x5 + 1)))))) true) else (if (wrap64 ((wrap64 ((wrap64 (rd x0 x5)) * 256)) + (wrap64 (rd x0 (wrap64 (x5 + 1)))))) > 500 then (spec_l3Records.j1 k x0 x4 x5 (wrap64 ((wrap64 ((wrap64 (rd x0 x5)) * 256)) + (wrap64 (rd x0 (wrap64 (x5 + 1)))))) true) else (spec_l3Records.j1 k x0 x4 x5 (wrap64 ((wrap64 ((wrap64 (rd x0 x5)) * 256)) + (wrap64 (rd x0 (wrap64 (x5 + 1)))))) (decide ((wrap64 ((wrap64 (x5 + 4)) + (wrap64 ((wrap64 ((wrap64 (rd x0 x5)) * 256)) + (wrap64 (rd x0 (wrap64 (x5 + 1)))))))) > (x0.length : Int)))))) else (none)) else (none)) else (none)) else (none)) else (some (x4, x5))
def spec_l3Records.j1 : Nat → List Int → List (List Int) → Int → Int → Bool → Option ((List (List Int)) × Int)
  | 0, _, _, _, _, _ => none
  | k + 1, x0, x4, x5, x6, x41 => if x41 = true then (some (x4, x5)) else (if 0 ≤ (wrap64 (x5 + 4)) then (if (wrap64 (x5 + 4)) ≤ (wrap64 ((wrap64 (x5 + 4)) + x6)) then (if (wrap64 ((wrap64 (x5 + 4)) + x6)) ≤ (x0.length : Int) then ((spec_CheckOf.f k ((x0.take ((wrap64 ((wrap64 (x5 + 4)) + x6)) : Int).toNat).drop ((wrap64 (x5 + 4)) : Int).toNat)).bind fun t214 => (if 0 ≤ (wrap64 (x5 + 2)) then (if (wrap64 (x5 + 2)) < (x0.length : Int) then (if 0 ≤ (wrap64 (x5 + 3)) then (if (wrap64 (x5 + 3)) < (x0.length : Int) then (if t214 = (wrap64 ((wrap64 ((wrap64 (rd x0 (wrap64 (x5 + 2)))) * 256)) + (wrap64 (rd x0 (wrap64 (x5 + 3)))))) then ((some (([] : List Int) : List Int)).bind fun y217 => (if y217.length + ((x0.take ((wrap64 ((wrap64 (x5 + 4)) + x6)) : Int).toNat).drop ((wrap64 (x5 + 4)) : Int).toNat).length < 140737488355328 then (if x4.length < 5864062014805 then (spec_l3Records.l0 k x0 (x4 ++ [(y217 ++ ((x0.take ((wrap64 ((wrap64 (x5 + 4)) + x6)) : Int).toNat).drop ((wrap64 (x5 + 4)) : Int).toNat))]) (wrap64 ((wrap64 (x5 + 4)) + x6))) else (none)) else (none))) else (some (x4, x5))) else (none)) else (none)) else (none)) else (none))) else (none)) else (none)) else (none))
end
def spec_l3Records.f (k : Nat) (l0 : List Int) : Option ((List (List Int)) × Int) := spec_l3Records.l0 k l0 (([] : List (List Int))) 0
set_option maxHeartbeats 8000000 in
set_option maxRecDepth 100000 in
theorem spec_l3Records.calls (k : Nat) (A0 : Option Addr) (c0 : Nat) (l0 : List Int) (r1 : List (List Int)) (r2 : Int) (w : World) (hr0 : Kd.C (Kd.int .u8) w A0 l0.length l0) (hc0 : l0.length ≤ c0) (h : spec_l3Records.f k l0 = some (r1, r2)) :
  Calls Try.prog 64 #[.slice A0 l0.length c0] w fun e w' => ∃ v0_ : Value, e = .returned (.tuple #[v0_, .int .i64 r2]) ∧ Kd.S (Kd.slice 5 (Kd.int .u8)) 22 w' w.heap.size (fun _ => True) v0_ r1 ∧ Below w.heap.size w w' := by
 have HR0 := Aside0.mk hr0
 have HC0 := Aside0.mk hc0
 clear hr0 hc0
 have HB := Aside0.mk (Below.refl w.heap.size w)
 have H : (spec_l3Records.l0 k l0 (([] : List (List Int))) 0) = some (r1, r2) := h
 clear h
 obtain ⟨y208, hy208⟩ : ∃ y_ : List (List Int), y_ = (([] : List (List Int))) := ⟨_, rfl⟩
 replace H : (spec_l3Records.l0 k l0 y208 0) = some (r1, r2) := q_h hy208 H
 have Ny208 := Aside0.mk hy208
 clear hy208
 have H' := Aside0.mk H
 clear H
 go_enter Try.func64, Try.ntmps64
 go_wp2_with (first | ((with_reducible refine gate_dst (N := 8) rfl ?_); (try (refine gate_guard (by rfl) ?_; dsimp only)); refine Kd.S_lit (Kd.slice 5 (Kd.int .u8)) _ 22 ?hg (N := 8) ?hd (xs := ([] : List (List Int))) (inner := []) (ok := fun _ => True) (okp := fun _ => True) ?hr ?hp (fun _ hk => hk) trivial (Below.refl _ _) (Nat.le_refl _) (by simp) ?_; (case hd => rfl); (case hg => rfl); (case hr => first | (go_simp; done) | (go_simp; rfl)); (case hp => exact (Reps.none _ _)); intro v209 w2 ho3 hb hg_ hnew_; clear hg_ hnew_; (first | rw [← Ny208.out] at ho3 | (simp only [Int.reduceToNat] at ho3; rw [← Ny208.out] at ho3)); have n0_ := Aside0.mk (Kd.S_lower ho3 (below_size bq)); have n1_ := Aside0.mk (below_step bq hb); revert n0_ n1_; clear HB; intro HO210 HB; clear hb ho3))
 repeat (go_quiet (first | ((with_reducible refine gate_dst (N := 8) rfl ?_); (try (refine gate_guard (by rfl) ?_; dsimp only)); refine Kd.S_lit (Kd.slice 5 (Kd.int .u8)) _ 22 ?hg (N := 8) ?hd (xs := ([] : List (List Int))) (inner := []) (ok := fun _ => True) (okp := fun _ => True) ?hr ?hp (fun _ hk => hk) trivial (Below.refl _ _) (Nat.le_refl _) (by simp) ?_; (case hd => rfl); (case hg => rfl); (case hr => first | (go_simp; done) | (go_simp; rfl)); (case hp => exact (Reps.none _ _)); intro v209 w2 ho3 hb hg_ hnew_; clear hg_ hnew_; (first | rw [← Ny208.out] at ho3 | (simp only [Int.reduceToNat] at ho3; rw [← Ny208.out] at ho3)); have n0_ := Aside0.mk (Kd.S_lower ho3 (below_size bq)); have n1_ := Aside0.mk (below_step bq hb); revert n0_ n1_; clear HB; intro HO210 HB; clear hb ho3)); try go_wp2_with (first | ((with_reducible refine gate_dst (N := 8) rfl ?_); (try (refine gate_guard (by rfl) ?_; dsimp only)); refine Kd.S_lit (Kd.slice 5 (Kd.int .u8)) _ 22 ?hg (N := 8) ?hd (xs := ([] : List (List Int))) (inner := []) (ok := fun _ => True) (okp := fun _ => True) ?hr ?hp (fun _ hk => hk) trivial (Below.refl _ _) (Nat.le_refl _) (by simp) ?_; (case hd => rfl); (case hg => rfl); (case hr => first | (go_simp; done) | (go_simp; rfl)); (case hp => exact (Reps.none _ _)); intro v209 w2 ho3 hb hg_ hnew_; clear hg_ hnew_; (first | rw [← Ny208.out] at ho3 | (simp only [Int.reduceToNat] at ho3; rw [← Ny208.out] at ho3)); have n0_ := Aside0.mk (Kd.S_lower ho3 (below_size bq)); have n1_ := Aside0.mk (below_step bq hb); revert n0_ n1_; clear HB; intro HO210 HB; clear hb ho3)))
 go_loopg [4, 5] k (fun kq v4 v5 w' => ∃ (x4_1 : List (List Int)) (x5_1 : Int), v5 = .int .i64 x5_1 ∧ Aside0 (spec_l3Records.l0 kq l0 x4_1 x5_1 = some (r1, r2)) ∧ Aside0 (kq ≤ k) ∧ Aside0 (Kd.S (Kd.slice 5 (Kd.int .u8)) 22 w' w.heap.size (fun _ => True) v4 x4_1) ∧ Aside0 (Below w.heap.size w w'))
 case atStart => exact ⟨(y208), (0), q_i, H', ⟨Nat.le_refl _⟩, ⟨q_s (HO210.out)⟩, ⟨bq⟩⟩
 case round =>
  clear H'
  (try clear p2)
  obtain ⟨x4_1, x5_1, rfl, HA, HK1, HO_4, HB⟩ := hrel
  cases gk with
  | zero => exact absurd HA.out (by simp [spec_l3Records.l0])
  | succ k1 =>
   have H := HA.out
   clear HA
   simp only [spec_l3Records.l0] at H
   by_cases c4 : (wrap64 (x5_1 + 4)) < (l0.length : Int)
   ·rw [if_pos c4] at H
    have c4b0 := decide_eq_true c4
    clear c4
    by_cases c5 : 0 ≤ x5_1
    ·rw [if_pos c5] at H
     have c5b0 := decide_eq_true c5
     clear c5
     by_cases c6 : x5_1 < (l0.length : Int)
     ·rw [if_pos c6] at H
      have c6b0 := decide_eq_true c6
      clear c6
      obtain ⟨ji7, hji7⟩ : ∃ j_ : Int, (wrap64 (x5_1 + 1)) = j_ := ⟨_, rfl⟩
      replace H : (if 0 ≤ (ji7) then (if (ji7) < (l0.length : Int) then (if (wrap64 ((wrap64 ((wrap64 (rd l0 x5_1)) * 256)) + (wrap64 (rd l0 (ji7))))) < 1 then (spec_l3Records.j1 k1 l0 x4_1 x5_1 (wrap64 ((wrap64 ((wrap64 (rd l0 x5_1)) * 256)) + (wrap64 (rd l0 (ji7))))) true) else (if (wrap64 ((wrap64 ((wrap64 (rd l0 x5_1)) * 256)) + (wrap64 (rd l0 (ji7))))) > 500 then (spec_l3Records.j1 k1 l0 x4_1 x5_1 (wrap64 ((wrap64 ((wrap64 (rd l0 x5_1)) * 256)) + (wrap64 (rd l0 (ji7))))) true) else (spec_l3Records.j1 k1 l0 x4_1 x5_1 (wrap64 ((wrap64 ((wrap64 (rd l0 x5_1)) * 256)) + (wrap64 (rd l0 (ji7))))) (decide ((wrap64 ((wrap64 (x5_1 + 4)) + (wrap64 ((wrap64 ((wrap64 (rd l0 x5_1)) * 256)) + (wrap64 (rd l0 (ji7))))))) > (l0.length : Int)))))) else (none)) else (none)) = some (r1, r2) := by first | (rw [hji7] at H; exact H) | (simp only [hji7] at H ⊢; exact H)
      have hji7w : (IntKind.i64.wrap (x5_1 + 1)) = ji7 := (i64_w _).trans hji7
      by_cases c8 : 0 ≤ (ji7)
      ·rw [if_pos c8] at H
       have c8b0 := decide_eq_true c8
       clear c8
       by_cases c9 : (ji7) < (l0.length : Int)
       ·rw [if_pos c9] at H
        have c9b0 := decide_eq_true c9
        clear c9
        have HC10 := Aside0.mk H
        clear H
        have p211 : 0 ≤ (x5_1 : Int) := q_d
        have q211 : x5_1 < (l0.length : Int) := q_d
        obtain ⟨ad211, e211, hx211_0⟩ := Kd.at_int HR0.out x5_1 p211 q211
        cases e211
        replace hx211_0 := q_x HB.out hx211_0
        replace p211 := eq_true p211
        replace q211 := eq_true q211
        have p212 : 0 ≤ ((ji7) : Int) := q_d
        have q212 : (ji7) < (l0.length : Int) := q_d
        obtain ⟨ad212, e212, hx212_0⟩ := Kd.at_int HR0.out (ji7) p212 q212
        obtain rfl : ad211 = ad212 := (by injection e212)
        replace hx212_0 := q_x HB.out hx212_0
        replace p212 := eq_true p212
        replace q212 := eq_true q212
        go_upto_region 5 with (fail)
        repeat (go_quiet (fail); go_upto_region 5 with (fail))
        go_cut [41] (fun v41 wc => ∃ (kq : Nat) (x41_9 : Bool), v41 = .bool x41_9 ∧ Aside0 (spec_l3Records.j1 kq l0 x4_1 x5_1 (wrap64 ((wrap64 ((wrap64 (rd l0 x5_1)) * 256)) + (wrap64 (rd l0 (ji7))))) x41_9 = some (r1, r2)) ∧ Aside0 (kq ≤ k1) ∧ Aside0 (Kd.S (Kd.slice 5 (Kd.int .u8)) 22 wc w.heap.size (fun _ => True) u4 x4_1) ∧ Aside0 (Below w.heap.size w wc))
        case first =>
         have H := HC10.out
         clear HC10
         by_cases c11 : (wrap64 ((wrap64 ((wrap64 (rd l0 x5_1)) * 256)) + (wrap64 (rd l0 (ji7))))) < 1
         ·rw [if_pos c11] at H
          have c11b0 := decide_eq_true c11
          clear c11
          (first | rw [c11b0] | (simp only [i64_w, i32_w]; rw [c11b0]) | skip)
          have H' := Aside0.mk H
          clear H
          go_wp2
          repeat (go_quiet (fail); try go_wp2)
          go_meet
          case rel => exact ⟨_, (true), q_i, H', ⟨by have := HK1.out; first | omega | exact Nat.le_refl _⟩, ⟨q_s (HO_4.out)⟩, ⟨bq⟩⟩
         ·rw [if_neg c11] at H
          have c11b0 := decide_eq_false c11
          clear c11
          (first | rw [c11b0] | (simp only [i64_w, i32_w]; rw [c11b0]) | skip)
          by_cases c12 : (wrap64 ((wrap64 ((wrap64 (rd l0 x5_1)) * 256)) + (wrap64 (rd l0 (ji7))))) > 500
          ·rw [if_pos c12] at H
           have c12b0 := decide_eq_true c12
           clear c12
           have H' := Aside0.mk H
           clear H
           go_wp2
           repeat (go_quiet (fail); try go_wp2)
           go_meet
           case rel => exact ⟨_, (true), q_i, H', ⟨by have := HK1.out; first | omega | exact Nat.le_refl _⟩, ⟨q_s (HO_4.out)⟩, ⟨bq⟩⟩
          ·rw [if_neg c12] at H
           have c12b0 := decide_eq_false c12
           clear c12
           have H' := Aside0.mk H
           clear H
           go_wp2
           repeat (go_quiet (fail); try go_wp2)
           go_meet
           case rel => exact ⟨_, (decide ((wrap64 ((wrap64 (x5_1 + 4)) + (wrap64 ((wrap64 ((wrap64 (rd l0 x5_1)) * 256)) + (wrap64 (rd l0 (ji7))))))) > (l0.length : Int))), (by first | rfl | (simp; done) | (simp only [← hji7] <;> (first | rfl | simp)) | (simp [*]; done)), H', ⟨by have := HK1.out; first | omega | exact Nat.le_refl _⟩, ⟨q_s (HO_4.out)⟩, ⟨bq⟩⟩
        case rest =>
         clear HC10
         (try clear c1); (try clear p2); (try clear q2); (try clear hx2); (try clear c4); (try clear c4b0); (try clear c5); (try clear c5b0); (try clear c6); (try clear c6b0); (try clear p6); (try clear c8)
         (try clear c8b0); (try clear c9); (try clear c9b0); (try clear c11); (try clear c11b0); (try clear c12); (try clear c12b0); (try clear hx211_0); (try clear hx212_0); (try clear p2); (try clear p211)
         (try clear p212); (try clear q211); (try clear q212)
         obtain ⟨kq, x41_9, rfl, HA, HJ9, HO_4, HB⟩ := hcut
         cases kq with
         | zero => exact absurd HA.out (by simp [spec_l3Records.j1])
         | succ kj9 =>
          have H := HA.out
          clear HA
          simp only [spec_l3Records.j1] at H
          by_cases c13 : x41_9 = true
          ·subst c13
           have H1 : (some (x4_1, x5_1)) = some (r1, r2) := by rw [if_pos rfl] at H; exact H
           clear H
           have H := H1
           clear H1
           simp only [Option.some.injEq, Prod.mk.injEq] at H
           obtain ⟨rfl, rfl⟩ := H
           go_wp2
           repeat (go_quiet (fail); try go_wp2)
           go_ret2
           exact ⟨_, by first | rfl | (simp [errW_none, errW_some] <;> rfl) | (simp only [← hji7]; first | rfl | (simp [errW_none, errW_some] <;> rfl)) | (simp [*, errW_none, errW_some] <;> rfl), q_s (HO_4.out), bq⟩
          ·replace c13 := Bool.eq_false_iff.mpr c13
           subst c13
           have H1 : (if 0 ≤ (wrap64 (x5_1 + 4)) then (if (wrap64 (x5_1 + 4)) ≤ (wrap64 ((wrap64 (x5_1 + 4)) + (wrap64 ((wrap64 ((wrap64 (rd l0 x5_1)) * 256)) + (wrap64 (rd l0 (ji7))))))) then (if (wrap64 ((wrap64 (x5_1 + 4)) + (wrap64 ((wrap64 ((wrap64 (rd l0 x5_1)) * 256)) + (wrap64 (rd l0 (ji7))))))) ≤ (l0.length : Int) then ((spec_CheckOf.f kj9 ((l0.take ((wrap64 ((wrap64 (x5_1 + 4)) + (wrap64 ((wrap64 ((wrap64 (rd l0 x5_1)) * 256)) + (wrap64 (rd l0 (ji7))))))) : Int).toNat).drop ((wrap64 (x5_1 + 4)) : Int).toNat)).bind fun t214 => (if 0 ≤ (wrap64 (x5_1 + 2)) then (if (wrap64 (x5_1 + 2)) < (l0.length : Int) then (if 0 ≤ (wrap64 (x5_1 + 3)) then (if (wrap64 (x5_1 + 3)) < (l0.length : Int) then (if t214 = (wrap64 ((wrap64 ((wrap64 (rd l0 (wrap64 (x5_1 + 2)))) * 256)) + (wrap64 (rd l0 (wrap64 (x5_1 + 3)))))) then ((some (([] : List Int) : List Int)).bind fun y217 => (if y217.length + ((l0.take ((wrap64 ((wrap64 (x5_1 + 4)) + (wrap64 ((wrap64 ((wrap64 (rd l0 x5_1)) * 256)) + (wrap64 (rd l0 (ji7))))))) : Int).toNat).drop ((wrap64 (x5_1 + 4)) : Int).toNat).length < 140737488355328 then (if x4_1.length < 5864062014805 then (spec_l3Records.l0 kj9 l0 (x4_1 ++ [(y217 ++ ((l0.take ((wrap64 ((wrap64 (x5_1 + 4)) + (wrap64 ((wrap64 ((wrap64 (rd l0 x5_1)) * 256)) + (wrap64 (rd l0 (ji7))))))) : Int).toNat).drop ((wrap64 (x5_1 + 4)) : Int).toNat))]) (wrap64 ((wrap64 (x5_1 + 4)) + (wrap64 ((wrap64 ((wrap64 (rd l0 x5_1)) * 256)) + (wrap64 (rd l0 (ji7)))))))) else (none)) else (none))) else (some (x4_1, x5_1))) else (none)) else (none)) else (none)) else (none))) else (none)) else (none)) else (none)) = some (r1, r2) := by rw [if_neg (show ¬ (false = true) by decide)] at H; exact H
           clear H
           have H := H1
           clear H1
           obtain ⟨ji14, hji14⟩ : ∃ j_ : Int, (wrap64 (x5_1 + 4)) = j_ := ⟨_, rfl⟩
           replace H : (if 0 ≤ (ji14) then (if (ji14) ≤ (wrap64 ((ji14) + (wrap64 ((wrap64 ((wrap64 (rd l0 x5_1)) * 256)) + (wrap64 (rd l0 (ji7))))))) then (if (wrap64 ((ji14) + (wrap64 ((wrap64 ((wrap64 (rd l0 x5_1)) * 256)) + (wrap64 (rd l0 (ji7))))))) ≤ (l0.length : Int) then ((spec_CheckOf.f kj9 ((l0.take ((wrap64 ((ji14) + (wrap64 ((wrap64 ((wrap64 (rd l0 x5_1)) * 256)) + (wrap64 (rd l0 (ji7))))))) : Int).toNat).drop ((ji14) : Int).toNat)).bind fun t214 => (if 0 ≤ (wrap64 (x5_1 + 2)) then (if (wrap64 (x5_1 + 2)) < (l0.length : Int) then (if 0 ≤ (wrap64 (x5_1 + 3)) then (if (wrap64 (x5_1 + 3)) < (l0.length : Int) then (if t214 = (wrap64 ((wrap64 ((wrap64 (rd l0 (wrap64 (x5_1 + 2)))) * 256)) + (wrap64 (rd l0 (wrap64 (x5_1 + 3)))))) then ((some (([] : List Int) : List Int)).bind fun y217 => (if y217.length + ((l0.take ((wrap64 ((ji14) + (wrap64 ((wrap64 ((wrap64 (rd l0 x5_1)) * 256)) + (wrap64 (rd l0 (ji7))))))) : Int).toNat).drop ((ji14) : Int).toNat).length < 140737488355328 then (if x4_1.length < 5864062014805 then (spec_l3Records.l0 kj9 l0 (x4_1 ++ [(y217 ++ ((l0.take ((wrap64 ((ji14) + (wrap64 ((wrap64 ((wrap64 (rd l0 x5_1)) * 256)) + (wrap64 (rd l0 (ji7))))))) : Int).toNat).drop ((ji14) : Int).toNat))]) (wrap64 ((ji14) + (wrap64 ((wrap64 ((wrap64 (rd l0 x5_1)) * 256)) + (wrap64 (rd l0 (ji7)))))))) else (none)) else (none))) else (some (x4_1, x5_1))) else (none)) else (none)) else (none)) else (none))) else (none)) else (none)) else (none)) = some (r1, r2) := by first | (rw [hji14] at H; exact H) | (simp only [hji14] at H ⊢; exact H)
           (try rw [hji14] at c4b0)
           have hji14w : (IntKind.i64.wrap (x5_1 + 4)) = ji14 := (i64_w _).trans hji14
           by_cases c15 : 0 ≤ (ji14)
           ·rw [if_pos c15] at H
            have c15b0 := eq_true c15
            have c15b1 := decide_eq_true c15
            clear c15
            by_cases c16 : (ji14) ≤ (wrap64 ((ji14) + (wrap64 ((wrap64 ((wrap64 (rd l0 x5_1)) * 256)) + (wrap64 (rd l0 (ji7)))))))
            ·rw [if_pos c16] at H
             have c16b0 := eq_true c16
             have c16b1 := decide_eq_true c16
             by_cases c17 : (wrap64 ((ji14) + (wrap64 ((wrap64 ((wrap64 (rd l0 x5_1)) * 256)) + (wrap64 (rd l0 (ji7))))))) ≤ (l0.length : Int)
             ·rw [if_pos c17] at H
              have c17b0 := eq_true c17
              have c17b1 := decide_eq_true c17
              replace H := Option.bind_eq_some_iff.mp H
              obtain ⟨t214, A180, H⟩ := H
              replace H : (if 0 ≤ (wrap64 (x5_1 + 2)) then (if (wrap64 (x5_1 + 2)) < (l0.length : Int) then (if 0 ≤ (wrap64 (x5_1 + 3)) then (if (wrap64 (x5_1 + 3)) < (l0.length : Int) then (if t214 = (wrap64 ((wrap64 ((wrap64 (rd l0 (wrap64 (x5_1 + 2)))) * 256)) + (wrap64 (rd l0 (wrap64 (x5_1 + 3)))))) then ((some (([] : List Int) : List Int)).bind fun y217 => (if y217.length + ((l0.take ((wrap64 ((ji14) + (wrap64 ((wrap64 ((wrap64 (rd l0 x5_1)) * 256)) + (wrap64 (rd l0 (ji7))))))) : Int).toNat).drop ((ji14) : Int).toNat).length < 140737488355328 then (if x4_1.length < 5864062014805 then (spec_l3Records.l0 kj9 l0 (x4_1 ++ [(y217 ++ ((l0.take ((wrap64 ((ji14) + (wrap64 ((wrap64 ((wrap64 (rd l0 x5_1)) * 256)) + (wrap64 (rd l0 (ji7))))))) : Int).toNat).drop ((ji14) : Int).toNat))]) (wrap64 ((ji14) + (wrap64 ((wrap64 ((wrap64 (rd l0 x5_1)) * 256)) + (wrap64 (rd l0 (ji7)))))))) else (none)) else (none))) else (some (x4_1, x5_1))) else (none)) else (none)) else (none)) else (none)) = some (r1, r2) := H
              have A18 := Aside0.mk A180
              clear A180
              obtain ⟨ji19, hji19⟩ : ∃ j_ : Int, (wrap64 (x5_1 + 2)) = j_ := ⟨_, rfl⟩
              replace H : (if 0 ≤ (ji19) then (if (ji19) < (l0.length : Int) then (if 0 ≤ (wrap64 (x5_1 + 3)) then (if (wrap64 (x5_1 + 3)) < (l0.length : Int) then (if t214 = (wrap64 ((wrap64 ((wrap64 (rd l0 (ji19))) * 256)) + (wrap64 (rd l0 (wrap64 (x5_1 + 3)))))) then ((some (([] : List Int) : List Int)).bind fun y217 => (if y217.length + ((l0.take ((wrap64 ((ji14) + (wrap64 ((wrap64 ((wrap64 (rd l0 x5_1)) * 256)) + (wrap64 (rd l0 (ji7))))))) : Int).toNat).drop ((ji14) : Int).toNat).length < 140737488355328 then (if x4_1.length < 5864062014805 then (spec_l3Records.l0 kj9 l0 (x4_1 ++ [(y217 ++ ((l0.take ((wrap64 ((ji14) + (wrap64 ((wrap64 ((wrap64 (rd l0 x5_1)) * 256)) + (wrap64 (rd l0 (ji7))))))) : Int).toNat).drop ((ji14) : Int).toNat))]) (wrap64 ((ji14) + (wrap64 ((wrap64 ((wrap64 (rd l0 x5_1)) * 256)) + (wrap64 (rd l0 (ji7)))))))) else (none)) else (none))) else (some (x4_1, x5_1))) else (none)) else (none)) else (none)) else (none)) = some (r1, r2) := by first | (rw [hji19] at H; exact H) | (simp only [hji19] at H ⊢; exact H)
              (try rw [hji19] at A18)
              have hji19w : (IntKind.i64.wrap (x5_1 + 2)) = ji19 := (i64_w _).trans hji19
              by_cases c20 : 0 ≤ (ji19)
              ·rw [if_pos c20] at H
               have c20b0 := decide_eq_true c20
               clear c20
               by_cases c21 : (ji19) < (l0.length : Int)
               ·rw [if_pos c21] at H
                have c21b0 := decide_eq_true c21
                clear c21
                obtain ⟨ji22, hji22⟩ : ∃ j_ : Int, (wrap64 (x5_1 + 3)) = j_ := ⟨_, rfl⟩
                replace H : (if 0 ≤ (ji22) then (if (ji22) < (l0.length : Int) then (if t214 = (wrap64 ((wrap64 ((wrap64 (rd l0 (ji19))) * 256)) + (wrap64 (rd l0 (ji22))))) then ((some (([] : List Int) : List Int)).bind fun y217 => (if y217.length + ((l0.take ((wrap64 ((ji14) + (wrap64 ((wrap64 ((wrap64 (rd l0 x5_1)) * 256)) + (wrap64 (rd l0 (ji7))))))) : Int).toNat).drop ((ji14) : Int).toNat).length < 140737488355328 then (if x4_1.length < 5864062014805 then (spec_l3Records.l0 kj9 l0 (x4_1 ++ [(y217 ++ ((l0.take ((wrap64 ((ji14) + (wrap64 ((wrap64 ((wrap64 (rd l0 x5_1)) * 256)) + (wrap64 (rd l0 (ji7))))))) : Int).toNat).drop ((ji14) : Int).toNat))]) (wrap64 ((ji14) + (wrap64 ((wrap64 ((wrap64 (rd l0 x5_1)) * 256)) + (wrap64 (rd l0 (ji7)))))))) else (none)) else (none))) else (some (x4_1, x5_1))) else (none)) else (none)) = some (r1, r2) := by first | (rw [hji22] at H; exact H) | (simp only [hji22] at H ⊢; exact H)
                (try rw [hji22] at A18)
                have hji22w : (IntKind.i64.wrap (x5_1 + 3)) = ji22 := (i64_w _).trans hji22
                by_cases c23 : 0 ≤ (ji22)
                ·rw [if_pos c23] at H
                 have c23b0 := decide_eq_true c23
                 clear c23
                 by_cases c24 : (ji22) < (l0.length : Int)
                 ·rw [if_pos c24] at H
                  have c24b0 := decide_eq_true c24
                  clear c24
                  by_cases c25 : t214 = (wrap64 ((wrap64 ((wrap64 (rd l0 (ji19))) * 256)) + (wrap64 (rd l0 (ji22)))))
                  ·rw [if_pos c25] at H
                   have c25b0 : (t214 == (wrap64 ((wrap64 ((wrap64 (rd l0 (ji19))) * 256)) + (wrap64 (rd l0 (ji22)))))) = true := beq_iff_eq.mpr c25
                   have c25b1 : (t214 != (wrap64 ((wrap64 ((wrap64 (rd l0 (ji19))) * 256)) + (wrap64 (rd l0 (ji22)))))) = false := bne_eq_false_iff_eq.mpr c25
                   clear c25
                   obtain ⟨y217, hy217⟩ : ∃ y_ : List Int, y_ = (([] : List Int)) := ⟨_, rfl⟩
                   replace H : (if y217.length + ((l0.take ((wrap64 ((ji14) + (wrap64 ((wrap64 ((wrap64 (rd l0 x5_1)) * 256)) + (wrap64 (rd l0 (ji7))))))) : Int).toNat).drop ((ji14) : Int).toNat).length < 140737488355328 then (if x4_1.length < 5864062014805 then (spec_l3Records.l0 kj9 l0 (x4_1 ++ [(y217 ++ ((l0.take ((wrap64 ((ji14) + (wrap64 ((wrap64 ((wrap64 (rd l0 x5_1)) * 256)) + (wrap64 (rd l0 (ji7))))))) : Int).toNat).drop ((ji14) : Int).toNat))]) (wrap64 ((ji14) + (wrap64 ((wrap64 ((wrap64 (rd l0 x5_1)) * 256)) + (wrap64 (rd l0 (ji7)))))))) else (none)) else (none)) = some (r1, r2) := q_h hy217 H
                   have Ny217 := Aside0.mk hy217
                   clear hy217
                   by_cases c26 : y217.length + ((l0.take ((wrap64 ((ji14) + (wrap64 ((wrap64 ((wrap64 (rd l0 x5_1)) * 256)) + (wrap64 (rd l0 (ji7))))))) : Int).toNat).drop ((ji14) : Int).toNat).length < 140737488355328
                   ·rw [if_pos c26] at H
                    have LMc26 := Aside0.mk c26
                    clear c26
                    obtain ⟨y220, hy220⟩ : ∃ y_ : List Int, y_ = (y217 ++ ((l0.take ((wrap64 ((ji14) + (wrap64 ((wrap64 ((wrap64 (rd l0 x5_1)) * 256)) + (wrap64 (rd l0 (ji7))))))) : Int).toNat).drop ((ji14) : Int).toNat)) := ⟨_, rfl⟩
                    replace H : (if x4_1.length < 5864062014805 then (spec_l3Records.l0 kj9 l0 (x4_1 ++ [y220]) (wrap64 ((ji14) + (wrap64 ((wrap64 ((wrap64 (rd l0 x5_1)) * 256)) + (wrap64 (rd l0 (ji7)))))))) else (none)) = some (r1, r2) := q_h hy220 H
                    have Ny220 := Aside0.mk hy220
                    clear hy220
                    by_cases c27 : x4_1.length < 5864062014805
                    ·rw [if_pos c27] at H
                     have LMc27 := Aside0.mk c27
                     clear c27
                     obtain ⟨y223, hy223⟩ : ∃ y_ : List (List Int), y_ = (x4_1 ++ [y220]) := ⟨_, rfl⟩
                     replace H : (spec_l3Records.l0 kj9 l0 y223 (wrap64 ((ji14) + (wrap64 ((wrap64 ((wrap64 (rd l0 x5_1)) * 256)) + (wrap64 (rd l0 (ji7)))))))) = some (r1, r2) := q_h hy223 H
                     have Ny223 := Aside0.mk hy223
                     clear hy223
                     have H' := Aside0.mk H
                     clear H
                     obtain ⟨i028, hi028, _, hsz28, _⟩ := info_parts info5
                     obtain ⟨A28, hcut28, hA28, hC28⟩ := print_mid_of (P := Try.prog) (Value.int .u8) 0 22 5 .i64 .i64 Try.underlying22 hi028 hsz28 (some ad211) c0 l0 (ji14) (wrap64 ((ji14) + (wrap64 ((wrap64 ((wrap64 (rd l0 x5_1)) * 256)) + (wrap64 (rd l0 (ji7))))))) q_d (by first | omega | exact q_d) q_d HC0.out
                     have HR213 := Aside0.mk (Kd.C_of_reads (h1 := fun _ => rfl) (hA28 _ (Kd.reads_of_C HR0.out)))
                     have HC213 := Aside0.mk hC28
                     clear hA28 hC28 hi028 hsz28
                     go_wp2_with (first | (go_at_call 78; (refine calls_of_args (args' := #[.slice _ ((l0.take ((wrap64 ((ji14) + (wrap64 ((wrap64 ((wrap64 (rd l0 x5_1)) * 256)) + (wrap64 (rd l0 (ji7))))))) : Int).toNat).drop ((ji14) : Int).toNat).length _]) (by simp only [List.length_drop, List.length_take]; rw [Nat.min_eq_left (by have h_ : ((wrap64 ((ji14) + (wrap64 ((wrap64 ((wrap64 (rd l0 x5_1)) * 256)) + (wrap64 (rd l0 (ji7))))))) : Int) ≤ (l0.length : Int) := q_d; omega)]) ?_); (with_reducible refine (spec_CheckOf.calls kj9 _ _ ((l0.take ((wrap64 ((ji14) + (wrap64 ((wrap64 ((wrap64 (rd l0 x5_1)) * 256)) + (wrap64 (rd l0 (ji7))))))) : Int).toNat).drop ((ji14) : Int).toNat) t214 _ ?side1 ?side2 A18.out).mono ?_); (case side1 => exact q_c ((Kd.C_below HR213.out HB.out))); (case side2 => exact HC213.out); rintro e w' ⟨rfl, ⟨nd, rfl⟩⟩; (try first | exact ⟨rfl, _, World.drewN_drewN _ _ _⟩ | exact ⟨rfl, _, Eq.trans (World.drewN_drewN _ _ _) (congrArg (World.drewN _) (Nat.add_assoc _ _ _))⟩); have p215 : 0 ≤ ((ji19) : Int) := q_d; have q215 : (ji19) < (l0.length : Int) := q_d; obtain ⟨ad215, e215, hx215_0⟩ := Kd.at_int HR0.out (ji19) p215 q215; obtain rfl : ad211 = ad215 := (by injection e215); replace hx215_0 := q_x HB.out hx215_0; replace p215 := eq_true p215; replace q215 := eq_true q215; have p216 : 0 ≤ ((ji22) : Int) := q_d; have q216 : (ji22) < (l0.length : Int) := q_d; obtain ⟨ad216, e216, hx216_0⟩ := Kd.at_int HR0.out (ji22) p216 q216; obtain rfl : ad211 = ad216 := (by injection e216); replace hx216_0 := q_x HB.out hx216_0; replace p216 := eq_true p216; replace q216 := eq_true q216) | ((with_reducible refine gate_dst (N := 68) rfl ?_); (try (refine gate_guard (by rfl) ?_; dsimp only)); refine Kd.R_lit (Kd.int .u8) _ 5 ?hg (N := 68) ?hd (xs := ([] : List Int)) (inner := []) (ok := fun _ => True) (okp := fun _ => True) ?hr ?hp (fun _ hk => hk) trivial (Below.refl _ _) (Nat.le_refl _) (by simp) ?_; (case hd => rfl); (case hg => rfl); (case hr => first | (go_simp; done) | (go_simp; rfl)); (case hp => exact (Reps.none _ _)); intro v218 w29 ho30 hb hg_ hnew_; clear hg_ hnew_; (first | rw [← Ny217.out] at ho30 | (simp only [Int.reduceToNat] at ho30; rw [← Ny217.out] at ho30)); have n0_ := Aside0.mk (Kd.S_elder' (q_s (HO_4.out)) (Kd.R_base ho30) hb); have n1_ := Aside0.mk (Kd.R_lower ho30 (below_size bq)); have n2_ := Aside0.mk (below_step bq hb); revert n0_ n1_ n2_; clear HO_4 HB; intro HO_4 HO219 HB; clear hb ho30) | ((with_reducible refine gate_builtin (b := .append) (xs := #[.tmp 68, .tmp 69]) rfl ?_); (try (refine gate_guard (by rfl) ?_; dsimp only)); at_builtin; refine Kd.R_append_rows (Kd.int .u8) (w0 := w) w.heap.size rfl (.tmp 68) (.tmp 69) 22 5 (.int .u8 0) 1 rfl Try.underlying22 info5 rfl (by decide) (by omega) v218 y217 ((l0.take ((wrap64 ((ji14) + (wrap64 ((wrap64 ((wrap64 (rd l0 x5_1)) * 256)) + (wrap64 (rd l0 (ji7))))))) : Int).toNat).drop ((ji14) : Int).toNat) _ _ _ (fun _ => True) (fun _ => False) rfl rfl ?aO ?aR (fun _ _ h => h) (fun _ h => h.elim) ?aF ?aB ?aS ?aL ?_; (case aR => first | (have hz_ := (Kd.C_below HR213.out HB.out); rw [show ((l0.take ((wrap64 ((ji14) + (wrap64 ((wrap64 ((wrap64 (rd l0 x5_1)) * 256)) + (wrap64 (rd l0 (ji7))))))) : Int).toNat).drop ((ji14) : Int).toNat).length = ((wrap64 ((ji14) + (wrap64 ((wrap64 ((wrap64 (rd l0 x5_1)) * 256)) + (wrap64 (rd l0 (ji7))))))).toNat - (ji14).toNat) from (by rw [List.length_drop, List.length_take]; have h_ : ((wrap64 ((ji14) + (wrap64 ((wrap64 ((wrap64 (rd l0 x5_1)) * 256)) + (wrap64 (rd l0 (ji7))))))) : Int) ≤ (l0.length : Int) := q_d; omega)] at hz_; exact hz_) | (rw [← show ((l0.take ((wrap64 ((ji14) + (wrap64 ((wrap64 ((wrap64 (rd l0 x5_1)) * 256)) + (wrap64 (rd l0 (ji7))))))) : Int).toNat).drop ((ji14) : Int).toNat).length = ((wrap64 ((ji14) + (wrap64 ((wrap64 ((wrap64 (rd l0 x5_1)) * 256)) + (wrap64 (rd l0 (ji7))))))).toNat - (ji14).toNat) from (by rw [List.length_drop, List.length_take]; have h_ : ((wrap64 ((ji14) + (wrap64 ((wrap64 ((wrap64 (rd l0 x5_1)) * 256)) + (wrap64 (rd l0 (ji7))))))) : Int) ≤ (l0.length : Int) := q_d; omega)]; repeat (first | exact (Kd.C_below HR213.out HB.out) | (with_reducible refine Kd.C_alloc ?_ _) | (with_reducible refine Kd.C_drewN ?_ _) | (with_reducible refine Kd.C_drew ?_))) | (repeat (first | exact (Kd.C_below HR213.out HB.out) | (with_reducible refine Kd.C_alloc ?_ _) | (with_reducible refine Kd.C_drewN ?_ _) | (with_reducible refine Kd.C_drew ?_)))); (case aB => exact bq); (case aF => exact (fun _ _ => trivial)); (case aO => exact (q_r (HO219.out))); (case aS => exact (below_size bq)); (case aL => have := LMc26.out; have hlx_ := (show ((l0.take ((wrap64 ((ji14) + (wrap64 ((wrap64 ((wrap64 (rd l0 x5_1)) * 256)) + (wrap64 (rd l0 (ji7))))))) : Int).toNat).drop ((ji14) : Int).toNat).length = ((wrap64 ((ji14) + (wrap64 ((wrap64 ((wrap64 (rd l0 x5_1)) * 256)) + (wrap64 (rd l0 (ji7))))))).toNat - (ji14).toNat) from (by rw [List.length_drop, List.length_take]; have h_ : ((wrap64 ((ji14) + (wrap64 ((wrap64 ((wrap64 (rd l0 x5_1)) * 256)) + (wrap64 (rd l0 (ji7))))))) : Int) ≤ (l0.length : Int) := q_d; omega)); omega); intro v221 w31 ho hb hg hat; rw [← Ny220.out] at ho; have n0_ := Aside0.mk (Kd.S_after (ok := (fun _ => True)) (q_s (HO_4.out)) hg hat); have n1_ := Aside0.mk (hb); have n2_ := Aside0.mk (ho); revert n0_ n1_ n2_; clear HO_4 HB HO219; intro HO_4 HB HO222; clear ho hb hg hat; obtain ⟨Ao33, co33, eo33⟩ := Kd.R_slice HO222.out; subst eo33) | ((with_reducible refine gate_builtin (b := .append) (xs := #[.tmp 67, .tmp 71]) rfl ?_); (try (refine gate_guard (by rfl) ?_; dsimp only)); at_builtin; refine Kd.S_append (Kd.slice 5 (Kd.int .u8)) (w0 := w) w.heap.size rfl (.tmp 67) (.tmp 71) 40 22 (.slice none 0 0) 24 rfl Try.underlying40 info22 rfl (by decide) (by omega) u4 x4_1 y220 [.slice Ao33 y220.length co33] (fun _ => True) (fun k_ => some k_ = (.slice Ao33 y220.length co33 : Value).ownBlock) rfl rfl ?aP (fun k_ hk_ => ((Kd.R_mono (ok' := fun k_ => ((fun _ => True)) k_ ∧ some k_ ≠ (u4 : Value).ownBlock) (Kd.R_apart' (HO222.out) (Kd.S_typed HO_4.out) (by decide)) (fun k_ hk => ⟨trivial, hk.2⟩))).1 k_ hk_.symm) ?aF ?aO ?aB ?aS ?aL ?_; (case aP => exact Kd.M_row (Kd.R_mono (Kd.R_tight rfl (Kd.R_mono (ok' := fun k_ => ((fun _ => True)) k_ ∧ some k_ ≠ (u4 : Value).ownBlock) (Kd.R_apart' (HO222.out) (Kd.S_typed HO_4.out) (by decide)) (fun k_ hk => ⟨trivial, hk.2⟩))) (fun _ h_ => h_))); (case aB => exact bq); (case aF => exact (fun _ _ => trivial)); (case aO => exact (by (with_reducible repeat (first | apply Kd.S_alloc | apply Kd.S_drewN | apply Kd.S_drew)); exact Kd.S_mono HO_4.out (fun k_ hk => ⟨trivial, fun e_ => hk.2 e_⟩))); (case aS => exact (below_size bq)); (case aL => have := LMc27.out; omega); intro v224 w32 ho hb hg hat; rw [← Ny223.out] at ho; have n0_ := Aside0.mk (hb); have n1_ := Aside0.mk (ho); revert n0_ n1_; clear HB HO_4 HO222; intro HB HO225; clear ho hb hg hat))
                     repeat (go_quiet (first | (go_at_call 78; (refine calls_of_args (args' := #[.slice _ ((l0.take ((wrap64 ((ji14) + (wrap64 ((wrap64 ((wrap64 (rd l0 x5_1)) * 256)) + (wrap64 (rd l0 (ji7))))))) : Int).toNat).drop ((ji14) : Int).toNat).length _]) (by simp only [List.length_drop, List.length_take]; rw [Nat.min_eq_left (by have h_ : ((wrap64 ((ji14) + (wrap64 ((wrap64 ((wrap64 (rd l0 x5_1)) * 256)) + (wrap64 (rd l0 (ji7))))))) : Int) ≤ (l0.length : Int) := q_d; omega)]) ?_); (with_reducible refine (spec_CheckOf.calls kj9 _ _ ((l0.take ((wrap64 ((ji14) + (wrap64 ((wrap64 ((wrap64 (rd l0 x5_1)) * 256)) + (wrap64 (rd l0 (ji7))))))) : Int).toNat).drop ((ji14) : Int).toNat) t214 _ ?side1 ?side2 A18.out).mono ?_); (case side1 => exact q_c ((Kd.C_below HR213.out HB.out))); (case side2 => exact HC213.out); rintro e w' ⟨rfl, ⟨nd, rfl⟩⟩; (try first | exact ⟨rfl, _, World.drewN_drewN _ _ _⟩ | exact ⟨rfl, _, Eq.trans (World.drewN_drewN _ _ _) (congrArg (World.drewN _) (Nat.add_assoc _ _ _))⟩); have p215 : 0 ≤ ((ji19) : Int) := q_d; have q215 : (ji19) < (l0.length : Int) := q_d; obtain ⟨ad215, e215, hx215_0⟩ := Kd.at_int HR0.out (ji19) p215 q215; obtain rfl : ad211 = ad215 := (by injection e215); replace hx215_0 := q_x HB.out hx215_0; replace p215 := eq_true p215; replace q215 := eq_true q215; have p216 : 0 ≤ ((ji22) : Int) := q_d; have q216 : (ji22) < (l0.length : Int) := q_d; obtain ⟨ad216, e216, hx216_0⟩ := Kd.at_int HR0.out (ji22) p216 q216; obtain rfl : ad211 = ad216 := (by injection e216); replace hx216_0 := q_x HB.out hx216_0; replace p216 := eq_true p216; replace q216 := eq_true q216) | ((with_reducible refine gate_dst (N := 68) rfl ?_); (try (refine gate_guard (by rfl) ?_; dsimp only)); refine Kd.R_lit (Kd.int .u8) _ 5 ?hg (N := 68) ?hd (xs := ([] : List Int)) (inner := []) (ok := fun _ => True) (okp := fun _ => True) ?hr ?hp (fun _ hk => hk) trivial (Below.refl _ _) (Nat.le_refl _) (by simp) ?_; (case hd => rfl); (case hg => rfl); (case hr => first | (go_simp; done) | (go_simp; rfl)); (case hp => exact (Reps.none _ _)); intro v218 w29 ho30 hb hg_ hnew_; clear hg_ hnew_; (first | rw [← Ny217.out] at ho30 | (simp only [Int.reduceToNat] at ho30; rw [← Ny217.out] at ho30)); have n0_ := Aside0.mk (Kd.S_elder' (q_s (HO_4.out)) (Kd.R_base ho30) hb); have n1_ := Aside0.mk (Kd.R_lower ho30 (below_size bq)); have n2_ := Aside0.mk (below_step bq hb); revert n0_ n1_ n2_; clear HO_4 HB; intro HO_4 HO219 HB; clear hb ho30) | ((with_reducible refine gate_builtin (b := .append) (xs := #[.tmp 68, .tmp 69]) rfl ?_); (try (refine gate_guard (by rfl) ?_; dsimp only)); at_builtin; refine Kd.R_append_rows (Kd.int .u8) (w0 := w) w.heap.size rfl (.tmp 68) (.tmp 69) 22 5 (.int .u8 0) 1 rfl Try.underlying22 info5 rfl (by decide) (by omega) v218 y217 ((l0.take ((wrap64 ((ji14) + (wrap64 ((wrap64 ((wrap64 (rd l0 x5_1)) * 256)) + (wrap64 (rd l0 (ji7))))))) : Int).toNat).drop ((ji14) : Int).toNat) _ _ _ (fun _ => True) (fun _ => False) rfl rfl ?aO ?aR (fun _ _ h => h) (fun _ h => h.elim) ?aF ?aB ?aS ?aL ?_; (case aR => first | (have hz_ := (Kd.C_below HR213.out HB.out); rw [show ((l0.take ((wrap64 ((ji14) + (wrap64 ((wrap64 ((wrap64 (rd l0 x5_1)) * 256)) + (wrap64 (rd l0 (ji7))))))) : Int).toNat).drop ((ji14) : Int).toNat).length = ((wrap64 ((ji14) + (wrap64 ((wrap64 ((wrap64 (rd l0 x5_1)) * 256)) + (wrap64 (rd l0 (ji7))))))).toNat - (ji14).toNat) from (by rw [List.length_drop, List.length_take]; have h_ : ((wrap64 ((ji14) + (wrap64 ((wrap64 ((wrap64 (rd l0 x5_1)) * 256)) + (wrap64 (rd l0 (ji7))))))) : Int) ≤ (l0.length : Int) := q_d; omega)] at hz_; exact hz_) | (rw [← show ((l0.take ((wrap64 ((ji14) + (wrap64 ((wrap64 ((wrap64 (rd l0 x5_1)) * 256)) + (wrap64 (rd l0 (ji7))))))) : Int).toNat).drop ((ji14) : Int).toNat).length = ((wrap64 ((ji14) + (wrap64 ((wrap64 ((wrap64 (rd l0 x5_1)) * 256)) + (wrap64 (rd l0 (ji7))))))).toNat - (ji14).toNat) from (by rw [List.length_drop, List.length_take]; have h_ : ((wrap64 ((ji14) + (wrap64 ((wrap64 ((wrap64 (rd l0 x5_1)) * 256)) + (wrap64 (rd l0 (ji7))))))) : Int) ≤ (l0.length : Int) := q_d; omega)]; repeat (first | exact (Kd.C_below HR213.out HB.out) | (with_reducible refine Kd.C_alloc ?_ _) | (with_reducible refine Kd.C_drewN ?_ _) | (with_reducible refine Kd.C_drew ?_))) | (repeat (first | exact (Kd.C_below HR213.out HB.out) | (with_reducible refine Kd.C_alloc ?_ _) | (with_reducible refine Kd.C_drewN ?_ _) | (with_reducible refine Kd.C_drew ?_)))); (case aB => exact bq); (case aF => exact (fun _ _ => trivial)); (case aO => exact (q_r (HO219.out))); (case aS => exact (below_size bq)); (case aL => have := LMc26.out; have hlx_ := (show ((l0.take ((wrap64 ((ji14) + (wrap64 ((wrap64 ((wrap64 (rd l0 x5_1)) * 256)) + (wrap64 (rd l0 (ji7))))))) : Int).toNat).drop ((ji14) : Int).toNat).length = ((wrap64 ((ji14) + (wrap64 ((wrap64 ((wrap64 (rd l0 x5_1)) * 256)) + (wrap64 (rd l0 (ji7))))))).toNat - (ji14).toNat) from (by rw [List.length_drop, List.length_take]; have h_ : ((wrap64 ((ji14) + (wrap64 ((wrap64 ((wrap64 (rd l0 x5_1)) * 256)) + (wrap64 (rd l0 (ji7))))))) : Int) ≤ (l0.length : Int) := q_d; omega)); omega); intro v221 w31 ho hb hg hat; rw [← Ny220.out] at ho; have n0_ := Aside0.mk (Kd.S_after (ok := (fun _ => True)) (q_s (HO_4.out)) hg hat); have n1_ := Aside0.mk (hb); have n2_ := Aside0.mk (ho); revert n0_ n1_ n2_; clear HO_4 HB HO219; intro HO_4 HB HO222; clear ho hb hg hat; obtain ⟨Ao33, co33, eo33⟩ := Kd.R_slice HO222.out; subst eo33) | ((with_reducible refine gate_builtin (b := .append) (xs := #[.tmp 67, .tmp 71]) rfl ?_); (try (refine gate_guard (by rfl) ?_; dsimp only)); at_builtin; refine Kd.S_append (Kd.slice 5 (Kd.int .u8)) (w0 := w) w.heap.size rfl (.tmp 67) (.tmp 71) 40 22 (.slice none 0 0) 24 rfl Try.underlying40 info22 rfl (by decide) (by omega) u4 x4_1 y220 [.slice Ao33 y220.length co33] (fun _ => True) (fun k_ => some k_ = (.slice Ao33 y220.length co33 : Value).ownBlock) rfl rfl ?aP (fun k_ hk_ => ((Kd.R_mono (ok' := fun k_ => ((fun _ => True)) k_ ∧ some k_ ≠ (u4 : Value).ownBlock) (Kd.R_apart' (HO222.out) (Kd.S_typed HO_4.out) (by decide)) (fun k_ hk => ⟨trivial, hk.2⟩))).1 k_ hk_.symm) ?aF ?aO ?aB ?aS ?aL ?_; (case aP => exact Kd.M_row (Kd.R_mono (Kd.R_tight rfl (Kd.R_mono (ok' := fun k_ => ((fun _ => True)) k_ ∧ some k_ ≠ (u4 : Value).ownBlock) (Kd.R_apart' (HO222.out) (Kd.S_typed HO_4.out) (by decide)) (fun k_ hk => ⟨trivial, hk.2⟩))) (fun _ h_ => h_))); (case aB => exact bq); (case aF => exact (fun _ _ => trivial)); (case aO => exact (by (with_reducible repeat (first | apply Kd.S_alloc | apply Kd.S_drewN | apply Kd.S_drew)); exact Kd.S_mono HO_4.out (fun k_ hk => ⟨trivial, fun e_ => hk.2 e_⟩))); (case aS => exact (below_size bq)); (case aL => have := LMc27.out; omega); intro v224 w32 ho hb hg hat; rw [← Ny223.out] at ho; have n0_ := Aside0.mk (hb); have n1_ := Aside0.mk (ho); revert n0_ n1_; clear HB HO_4 HO222; intro HB HO225; clear ho hb hg hat)); (try simp only [i64_w]); try go_wp2_with (first | (go_at_call 78; (refine calls_of_args (args' := #[.slice _ ((l0.take ((wrap64 ((ji14) + (wrap64 ((wrap64 ((wrap64 (rd l0 x5_1)) * 256)) + (wrap64 (rd l0 (ji7))))))) : Int).toNat).drop ((ji14) : Int).toNat).length _]) (by simp only [List.length_drop, List.length_take]; rw [Nat.min_eq_left (by have h_ : ((wrap64 ((ji14) + (wrap64 ((wrap64 ((wrap64 (rd l0 x5_1)) * 256)) + (wrap64 (rd l0 (ji7))))))) : Int) ≤ (l0.length : Int) := q_d; omega)]) ?_); (with_reducible refine (spec_CheckOf.calls kj9 _ _ ((l0.take ((wrap64 ((ji14) + (wrap64 ((wrap64 ((wrap64 (rd l0 x5_1)) * 256)) + (wrap64 (rd l0 (ji7))))))) : Int).toNat).drop ((ji14) : Int).toNat) t214 _ ?side1 ?side2 A18.out).mono ?_); (case side1 => exact q_c ((Kd.C_below HR213.out HB.out))); (case side2 => exact HC213.out); rintro e w' ⟨rfl, ⟨nd, rfl⟩⟩; (try first | exact ⟨rfl, _, World.drewN_drewN _ _ _⟩ | exact ⟨rfl, _, Eq.trans (World.drewN_drewN _ _ _) (congrArg (World.drewN _) (Nat.add_assoc _ _ _))⟩); have p215 : 0 ≤ ((ji19) : Int) := q_d; have q215 : (ji19) < (l0.length : Int) := q_d; obtain ⟨ad215, e215, hx215_0⟩ := Kd.at_int HR0.out (ji19) p215 q215; obtain rfl : ad211 = ad215 := (by injection e215); replace hx215_0 := q_x HB.out hx215_0; replace p215 := eq_true p215; replace q215 := eq_true q215; have p216 : 0 ≤ ((ji22) : Int) := q_d; have q216 : (ji22) < (l0.length : Int) := q_d; obtain ⟨ad216, e216, hx216_0⟩ := Kd.at_int HR0.out (ji22) p216 q216; obtain rfl : ad211 = ad216 := (by injection e216); replace hx216_0 := q_x HB.out hx216_0; replace p216 := eq_true p216; replace q216 := eq_true q216) | ((with_reducible refine gate_dst (N := 68) rfl ?_); (try (refine gate_guard (by rfl) ?_; dsimp only)); refine Kd.R_lit (Kd.int .u8) _ 5 ?hg (N := 68) ?hd (xs := ([] : List Int)) (inner := []) (ok := fun _ => True) (okp := fun _ => True) ?hr ?hp (fun _ hk => hk) trivial (Below.refl _ _) (Nat.le_refl _) (by simp) ?_; (case hd => rfl); (case hg => rfl); (case hr => first | (go_simp; done) | (go_simp; rfl)); (case hp => exact (Reps.none _ _)); intro v218 w29 ho30 hb hg_ hnew_; clear hg_ hnew_; (first | rw [← Ny217.out] at ho30 | (simp only [Int.reduceToNat] at ho30; rw [← Ny217.out] at ho30)); have n0_ := Aside0.mk (Kd.S_elder' (q_s (HO_4.out)) (Kd.R_base ho30) hb); have n1_ := Aside0.mk (Kd.R_lower ho30 (below_size bq)); have n2_ := Aside0.mk (below_step bq hb); revert n0_ n1_ n2_; clear HO_4 HB; intro HO_4 HO219 HB; clear hb ho30) | ((with_reducible refine gate_builtin (b := .append) (xs := #[.tmp 68, .tmp 69]) rfl ?_); (try (refine gate_guard (by rfl) ?_; dsimp only)); at_builtin; refine Kd.R_append_rows (Kd.int .u8) (w0 := w) w.heap.size rfl (.tmp 68) (.tmp 69) 22 5 (.int .u8 0) 1 rfl Try.underlying22 info5 rfl (by decide) (by omega) v218 y217 ((l0.take ((wrap64 ((ji14) + (wrap64 ((wrap64 ((wrap64 (rd l0 x5_1)) * 256)) + (wrap64 (rd l0 (ji7))))))) : Int).toNat).drop ((ji14) : Int).toNat) _ _ _ (fun _ => True) (fun _ => False) rfl rfl ?aO ?aR (fun _ _ h => h) (fun _ h => h.elim) ?aF ?aB ?aS ?aL ?_; (case aR => first | (have hz_ := (Kd.C_below HR213.out HB.out); rw [show ((l0.take ((wrap64 ((ji14) + (wrap64 ((wrap64 ((wrap64 (rd l0 x5_1)) * 256)) + (wrap64 (rd l0 (ji7))))))) : Int).toNat).drop ((ji14) : Int).toNat).length = ((wrap64 ((ji14) + (wrap64 ((wrap64 ((wrap64 (rd l0 x5_1)) * 256)) + (wrap64 (rd l0 (ji7))))))).toNat - (ji14).toNat) from (by rw [List.length_drop, List.length_take]; have h_ : ((wrap64 ((ji14) + (wrap64 ((wrap64 ((wrap64 (rd l0 x5_1)) * 256)) + (wrap64 (rd l0 (ji7))))))) : Int) ≤ (l0.length : Int) := q_d; omega)] at hz_; exact hz_) | (rw [← show ((l0.take ((wrap64 ((ji14) + (wrap64 ((wrap64 ((wrap64 (rd l0 x5_1)) * 256)) + (wrap64 (rd l0 (ji7))))))) : Int).toNat).drop ((ji14) : Int).toNat).length = ((wrap64 ((ji14) + (wrap64 ((wrap64 ((wrap64 (rd l0 x5_1)) * 256)) + (wrap64 (rd l0 (ji7))))))).toNat - (ji14).toNat) from (by rw [List.length_drop, List.length_take]; have h_ : ((wrap64 ((ji14) + (wrap64 ((wrap64 ((wrap64 (rd l0 x5_1)) * 256)) + (wrap64 (rd l0 (ji7))))))) : Int) ≤ (l0.length : Int) := q_d; omega)]; repeat (first | exact (Kd.C_below HR213.out HB.out) | (with_reducible refine Kd.C_alloc ?_ _) | (with_reducible refine Kd.C_drewN ?_ _) | (with_reducible refine Kd.C_drew ?_))) | (repeat (first | exact (Kd.C_below HR213.out HB.out) | (with_reducible refine Kd.C_alloc ?_ _) | (with_reducible refine Kd.C_drewN ?_ _) | (with_reducible refine Kd.C_drew ?_)))); (case aB => exact bq); (case aF => exact (fun _ _ => trivial)); (case aO => exact (q_r (HO219.out))); (case aS => exact (below_size bq)); (case aL => have := LMc26.out; have hlx_ := (show ((l0.take ((wrap64 ((ji14) + (wrap64 ((wrap64 ((wrap64 (rd l0 x5_1)) * 256)) + (wrap64 (rd l0 (ji7))))))) : Int).toNat).drop ((ji14) : Int).toNat).length = ((wrap64 ((ji14) + (wrap64 ((wrap64 ((wrap64 (rd l0 x5_1)) * 256)) + (wrap64 (rd l0 (ji7))))))).toNat - (ji14).toNat) from (by rw [List.length_drop, List.length_take]; have h_ : ((wrap64 ((ji14) + (wrap64 ((wrap64 ((wrap64 (rd l0 x5_1)) * 256)) + (wrap64 (rd l0 (ji7))))))) : Int) ≤ (l0.length : Int) := q_d; omega)); omega); intro v221 w31 ho hb hg hat; rw [← Ny220.out] at ho; have n0_ := Aside0.mk (Kd.S_after (ok := (fun _ => True)) (q_s (HO_4.out)) hg hat); have n1_ := Aside0.mk (hb); have n2_ := Aside0.mk (ho); revert n0_ n1_ n2_; clear HO_4 HB HO219; intro HO_4 HB HO222; clear ho hb hg hat; obtain ⟨Ao33, co33, eo33⟩ := Kd.R_slice HO222.out; subst eo33) | ((with_reducible refine gate_builtin (b := .append) (xs := #[.tmp 67, .tmp 71]) rfl ?_); (try (refine gate_guard (by rfl) ?_; dsimp only)); at_builtin; refine Kd.S_append (Kd.slice 5 (Kd.int .u8)) (w0 := w) w.heap.size rfl (.tmp 67) (.tmp 71) 40 22 (.slice none 0 0) 24 rfl Try.underlying40 info22 rfl (by decide) (by omega) u4 x4_1 y220 [.slice Ao33 y220.length co33] (fun _ => True) (fun k_ => some k_ = (.slice Ao33 y220.length co33 : Value).ownBlock) rfl rfl ?aP (fun k_ hk_ => ((Kd.R_mono (ok' := fun k_ => ((fun _ => True)) k_ ∧ some k_ ≠ (u4 : Value).ownBlock) (Kd.R_apart' (HO222.out) (Kd.S_typed HO_4.out) (by decide)) (fun k_ hk => ⟨trivial, hk.2⟩))).1 k_ hk_.symm) ?aF ?aO ?aB ?aS ?aL ?_; (case aP => exact Kd.M_row (Kd.R_mono (Kd.R_tight rfl (Kd.R_mono (ok' := fun k_ => ((fun _ => True)) k_ ∧ some k_ ≠ (u4 : Value).ownBlock) (Kd.R_apart' (HO222.out) (Kd.S_typed HO_4.out) (by decide)) (fun k_ hk => ⟨trivial, hk.2⟩))) (fun _ h_ => h_))); (case aB => exact bq); (case aF => exact (fun _ _ => trivial)); (case aO => exact (by (with_reducible repeat (first | apply Kd.S_alloc | apply Kd.S_drewN | apply Kd.S_drew)); exact Kd.S_mono HO_4.out (fun k_ hk => ⟨trivial, fun e_ => hk.2 e_⟩))); (case aS => exact (below_size bq)); (case aL => have := LMc27.out; omega); intro v224 w32 ho hb hg hat; rw [← Ny223.out] at ho; have n0_ := Aside0.mk (hb); have n1_ := Aside0.mk (ho); revert n0_ n1_; clear HB HO_4 HO222; intro HB HO225; clear ho hb hg hat)))
                     go_roundg kj9
                     case measure => have := HK1.out; have := HJ9.out; omega
                     case rel => exact ⟨(y223), (wrap64 ((ji14) + (wrap64 ((wrap64 ((wrap64 (rd l0 x5_1)) * 256)) + (wrap64 (rd l0 (ji7))))))), (by first | rfl | (simp; done) | (simp only [← hji7, ← hji14] <;> (first | rfl | simp)) | (simp [*]; done)), H', ⟨by have := HK1.out; have := HJ9.out; omega⟩, ⟨q_s (HO225.out)⟩, ⟨bq⟩⟩
                    ·rw [if_neg c27] at H
                     exact absurd H (by simp)
                   ·rw [if_neg c26] at H
                    exact absurd H (by simp)
                  ·rw [if_neg c25] at H
                   have c25b0 : (t214 == (wrap64 ((wrap64 ((wrap64 (rd l0 (ji19))) * 256)) + (wrap64 (rd l0 (ji22)))))) = false := beq_eq_false_iff_ne.mpr c25
                   have c25b1 : (t214 != (wrap64 ((wrap64 ((wrap64 (rd l0 (ji19))) * 256)) + (wrap64 (rd l0 (ji22)))))) = true := bne_iff_ne.mpr c25
                   simp only [Option.some.injEq, Prod.mk.injEq] at H
                   obtain ⟨rfl, rfl⟩ := H
                   obtain ⟨i034, hi034, _, hsz34, _⟩ := info_parts info5
                   obtain ⟨A34, hcut34, hA34, hC34⟩ := print_mid_of (P := Try.prog) (Value.int .u8) 0 22 5 .i64 .i64 Try.underlying22 hi034 hsz34 (some ad211) c0 l0 (ji14) (wrap64 ((ji14) + (wrap64 ((wrap64 ((wrap64 (rd l0 x5_1)) * 256)) + (wrap64 (rd l0 (ji7))))))) q_d (by first | omega | exact q_d) q_d HC0.out
                   have HR213 := Aside0.mk (Kd.C_of_reads (h1 := fun _ => rfl) (hA34 _ (Kd.reads_of_C HR0.out)))
                   have HC213 := Aside0.mk hC34
                   clear hA34 hC34 hi034 hsz34
                   go_wp2_with (first | (go_at_call 78; (refine calls_of_args (args' := #[.slice _ ((l0.take ((wrap64 ((ji14) + (wrap64 ((wrap64 ((wrap64 (rd l0 x5_1)) * 256)) + (wrap64 (rd l0 (ji7))))))) : Int).toNat).drop ((ji14) : Int).toNat).length _]) (by simp only [List.length_drop, List.length_take]; rw [Nat.min_eq_left (by have h_ : ((wrap64 ((ji14) + (wrap64 ((wrap64 ((wrap64 (rd l0 x5_1)) * 256)) + (wrap64 (rd l0 (ji7))))))) : Int) ≤ (l0.length : Int) := q_d; omega)]) ?_); (with_reducible refine (spec_CheckOf.calls kj9 _ _ ((l0.take ((wrap64 ((ji14) + (wrap64 ((wrap64 ((wrap64 (rd l0 x5_1)) * 256)) + (wrap64 (rd l0 (ji7))))))) : Int).toNat).drop ((ji14) : Int).toNat) t214 _ ?side1 ?side2 A18.out).mono ?_); (case side1 => exact q_c ((Kd.C_below HR213.out HB.out))); (case side2 => exact HC213.out); rintro e w' ⟨rfl, ⟨nd, rfl⟩⟩; (try first | exact ⟨rfl, _, World.drewN_drewN _ _ _⟩ | exact ⟨rfl, _, Eq.trans (World.drewN_drewN _ _ _) (congrArg (World.drewN _) (Nat.add_assoc _ _ _))⟩); have p215 : 0 ≤ ((ji19) : Int) := q_d; have q215 : (ji19) < (l0.length : Int) := q_d; obtain ⟨ad215, e215, hx215_0⟩ := Kd.at_int HR0.out (ji19) p215 q215; obtain rfl : ad211 = ad215 := (by injection e215); replace hx215_0 := q_x HB.out hx215_0; replace p215 := eq_true p215; replace q215 := eq_true q215; have p216 : 0 ≤ ((ji22) : Int) := q_d; have q216 : (ji22) < (l0.length : Int) := q_d; obtain ⟨ad216, e216, hx216_0⟩ := Kd.at_int HR0.out (ji22) p216 q216; obtain rfl : ad211 = ad216 := (by injection e216); replace hx216_0 := q_x HB.out hx216_0; replace p216 := eq_true p216; replace q216 := eq_true q216))
                   repeat (go_quiet (first | (go_at_call 78; (refine calls_of_args (args' := #[.slice _ ((l0.take ((wrap64 ((ji14) + (wrap64 ((wrap64 ((wrap64 (rd l0 x5_1)) * 256)) + (wrap64 (rd l0 (ji7))))))) : Int).toNat).drop ((ji14) : Int).toNat).length _]) (by simp only [List.length_drop, List.length_take]; rw [Nat.min_eq_left (by have h_ : ((wrap64 ((ji14) + (wrap64 ((wrap64 ((wrap64 (rd l0 x5_1)) * 256)) + (wrap64 (rd l0 (ji7))))))) : Int) ≤ (l0.length : Int) := q_d; omega)]) ?_); (with_reducible refine (spec_CheckOf.calls kj9 _ _ ((l0.take ((wrap64 ((ji14) + (wrap64 ((wrap64 ((wrap64 (rd l0 x5_1)) * 256)) + (wrap64 (rd l0 (ji7))))))) : Int).toNat).drop ((ji14) : Int).toNat) t214 _ ?side1 ?side2 A18.out).mono ?_); (case side1 => exact q_c ((Kd.C_below HR213.out HB.out))); (case side2 => exact HC213.out); rintro e w' ⟨rfl, ⟨nd, rfl⟩⟩; (try first | exact ⟨rfl, _, World.drewN_drewN _ _ _⟩ | exact ⟨rfl, _, Eq.trans (World.drewN_drewN _ _ _) (congrArg (World.drewN _) (Nat.add_assoc _ _ _))⟩); have p215 : 0 ≤ ((ji19) : Int) := q_d; have q215 : (ji19) < (l0.length : Int) := q_d; obtain ⟨ad215, e215, hx215_0⟩ := Kd.at_int HR0.out (ji19) p215 q215; obtain rfl : ad211 = ad215 := (by injection e215); replace hx215_0 := q_x HB.out hx215_0; replace p215 := eq_true p215; replace q215 := eq_true q215; have p216 : 0 ≤ ((ji22) : Int) := q_d; have q216 : (ji22) < (l0.length : Int) := q_d; obtain ⟨ad216, e216, hx216_0⟩ := Kd.at_int HR0.out (ji22) p216 q216; obtain rfl : ad211 = ad216 := (by injection e216); replace hx216_0 := q_x HB.out hx216_0; replace p216 := eq_true p216; replace q216 := eq_true q216)); (try simp only [i64_w]); try go_wp2_with (first | (go_at_call 78; (refine calls_of_args (args' := #[.slice _ ((l0.take ((wrap64 ((ji14) + (wrap64 ((wrap64 ((wrap64 (rd l0 x5_1)) * 256)) + (wrap64 (rd l0 (ji7))))))) : Int).toNat).drop ((ji14) : Int).toNat).length _]) (by simp only [List.length_drop, List.length_take]; rw [Nat.min_eq_left (by have h_ : ((wrap64 ((ji14) + (wrap64 ((wrap64 ((wrap64 (rd l0 x5_1)) * 256)) + (wrap64 (rd l0 (ji7))))))) : Int) ≤ (l0.length : Int) := q_d; omega)]) ?_); (with_reducible refine (spec_CheckOf.calls kj9 _ _ ((l0.take ((wrap64 ((ji14) + (wrap64 ((wrap64 ((wrap64 (rd l0 x5_1)) * 256)) + (wrap64 (rd l0 (ji7))))))) : Int).toNat).drop ((ji14) : Int).toNat) t214 _ ?side1 ?side2 A18.out).mono ?_); (case side1 => exact q_c ((Kd.C_below HR213.out HB.out))); (case side2 => exact HC213.out); rintro e w' ⟨rfl, ⟨nd, rfl⟩⟩; (try first | exact ⟨rfl, _, World.drewN_drewN _ _ _⟩ | exact ⟨rfl, _, Eq.trans (World.drewN_drewN _ _ _) (congrArg (World.drewN _) (Nat.add_assoc _ _ _))⟩); have p215 : 0 ≤ ((ji19) : Int) := q_d; have q215 : (ji19) < (l0.length : Int) := q_d; obtain ⟨ad215, e215, hx215_0⟩ := Kd.at_int HR0.out (ji19) p215 q215; obtain rfl : ad211 = ad215 := (by injection e215); replace hx215_0 := q_x HB.out hx215_0; replace p215 := eq_true p215; replace q215 := eq_true q215; have p216 : 0 ≤ ((ji22) : Int) := q_d; have q216 : (ji22) < (l0.length : Int) := q_d; obtain ⟨ad216, e216, hx216_0⟩ := Kd.at_int HR0.out (ji22) p216 q216; obtain rfl : ad211 = ad216 := (by injection e216); replace hx216_0 := q_x HB.out hx216_0; replace p216 := eq_true p216; replace q216 := eq_true q216)))
                   go_ret2
                   exact ⟨_, by first | rfl | (simp [errW_none, errW_some] <;> rfl) | (simp only [← hji7, ← hji14, ← hji19, ← hji22]; first | rfl | (simp [errW_none, errW_some] <;> rfl)) | (simp [*, errW_none, errW_some] <;> rfl), q_s (HO_4.out), bq⟩
                 ·rw [if_neg c24] at H
                  exact absurd H (by simp)
                ·rw [if_neg c23] at H
                 exact absurd H (by simp)
               ·rw [if_neg c21] at H
                exact absurd H (by simp)
              ·rw [if_neg c20] at H
               exact absurd H (by simp)
             ·rw [if_neg c17] at H
              exact absurd H (by simp)
            ·rw [if_neg c16] at H
             exact absurd H (by simp)
           ·rw [if_neg c15] at H
            exact absurd H (by simp)
       ·rw [if_neg c9] at H
        exact absurd H (by simp)
      ·rw [if_neg c8] at H
       exact absurd H (by simp)
     ·rw [if_neg c6] at H
      exact absurd H (by simp)
    ·rw [if_neg c5] at H
     exact absurd H (by simp)
   ·rw [if_neg c4] at H
    have c4b0 := decide_eq_false c4
    clear c4
    simp only [Option.some.injEq, Prod.mk.injEq] at H
    obtain ⟨rfl, rfl⟩ := H
    go_wp2
    repeat (go_quiet (fail); try go_wp2)
    go_ret2
    exact ⟨_, q_e, q_s (HO_4.out), bq⟩

/-! ### spec_UnframeAll: function 37 -/
def spec_UnframeAll.f (k : Nat) (l0 : List Int) : Option (Int × Int × (List (List Int))) := if (l0.length : Int) > 6000 then (some (2, 0, ([] : List (List Int)))) else ((spec_l3Records.f k l0).bind fun bt227 => (some (0, bt227.2, bt227.1)))
set_option maxHeartbeats 8000000 in
set_option maxRecDepth 100000 in
theorem spec_UnframeAll.calls (k : Nat) (A0 : Option Addr) (c0 : Nat) (l0 : List Int) (r1 : Int) (r2 : Int) (r3 : List (List Int)) (w : World) (hr0 : Kd.C (Kd.int .u8) w A0 l0.length l0) (hc0 : l0.length ≤ c0) (h : spec_UnframeAll.f k l0 = some (r1, r2, r3)) :
  Calls Try.prog 37 #[.slice A0 l0.length c0] w fun e w' => ∃ v2_ : Value, e = .returned (.agg #[.int .i64 r1, .int .i64 r2, v2_]) ∧ Kd.S (Kd.slice 5 (Kd.int .u8)) 22 w' w.heap.size (fun _ => True) v2_ r3 ∧ Below w.heap.size w w' := by
 have hu43 := Try.underlying43
 have HR0 := Aside0.mk hr0
 have HC0 := Aside0.mk hc0
 clear hr0 hc0
 have HB := Aside0.mk (Below.refl w.heap.size w)
 have H : (if (l0.length : Int) > 6000 then (some (2, 0, ([] : List (List Int)))) else ((spec_l3Records.f k l0).bind fun bt227 => (some (0, bt227.2, bt227.1)))) = some (r1, r2, r3) := h
 clear h
 by_cases c2 : (l0.length : Int) > 6000
 ·rw [if_pos c2] at H
  have c2b0 := decide_eq_true c2
  have c2b1 : decide (6000 < l0.length) = true := decide_eq_true (by omega)
  clear c2
  simp only [Option.some.injEq, Prod.mk.injEq] at H
  obtain ⟨rfl, rfl, rfl⟩ := H
  go_enter Try.func37, Try.ntmps37
  go_wp2_with (first | ((with_reducible refine gate_dst (N := 2) rfl ?_); refine q_box (N := 2) (cs := #[.int .i64 0, .int .i64 0, .slice none 0 0]) (t := 43) ?_; intro gb226 hg w3 hbox hb; have n0_ := Aside0.mk (below_step bq hb); have n1_ := Aside0.mk (hbox); have n2_ := Aside0.mk ((q_g hg bq : w.heap.size ≤ gb226)); have n3_ := Aside0.mk ((q_g hg bq : w.heap.size ≤ gb226)); revert n0_ n1_ n2_ n3_; clear HB; intro HB BK226 GW226 GE226; clear hb hbox hg; obtain ⟨hcz4_0, hcz4_1, hcz4_2, hfz4_0, hfz4_1, hfz4_2⟩ := q_3 BK226.out))
  refine bodyPost_ret (results_cell_row rfl _ _ gb226 43 #[.int .i64 2, .int .i64 0, .slice none 0 0] (0, 0) _ rfl (by (with_reducible repeat (first | refine blk_drewN ?_ _ | refine blk_drew ?_ | refine blk_alloc ?_ _)); refine blk_put (cs := #[.int .i64 2, .int .i64 0, .slice none 0 0]) ?_ 2 _ rfl; (with_reducible repeat (first | refine blk_drewN ?_ _ | refine blk_drew ?_ | refine blk_alloc ?_ _)); refine blk_put (cs := #[.int .i64 2, .int .i64 0, .slice none 0 0]) ?_ 1 _ rfl; (with_reducible repeat (first | refine blk_drewN ?_ _ | refine blk_drew ?_ | refine blk_alloc ?_ _)); refine blk_put (cs := #[.int .i64 0, .int .i64 0, .slice none 0 0]) ?_ 0 _ rfl; (with_reducible repeat (first | refine blk_drewN ?_ _ | refine blk_drew ?_ | refine blk_alloc ?_ _)); exact BK226.out) Try.underlying43 rfl (by kernel_rfl)) rfl ?_
  exact ⟨_, q_e, by first | exact Kd.S_nil _ _ _ _ _ | exact Kd.N_nil _ _ _ _ _ | exact Kd.V_nil _ _ _ _ _ | exact Kd.Q_nil _ _ _ _ _ | exact Kd.R_nil _ _ _ _ _, bq⟩
 ·rw [if_neg c2] at H
  have c2b0 := decide_eq_false c2
  have c2b1 : decide (6000 < l0.length) = false := decide_eq_false (by omega)
  clear c2
  replace H := Option.bind_eq_some_iff.mp H
  obtain ⟨⟨t227, t228⟩, A50, H⟩ := H
  replace H : (some (0, t228, t227)) = some (r1, r2, r3) := H
  have A5 := Aside0.mk A50
  clear A50
  simp only [Option.some.injEq, Prod.mk.injEq] at H
  obtain ⟨rfl, rfl, rfl⟩ := H
  go_enter Try.func37, Try.ntmps37
  go_wp2_with (first | ((with_reducible refine gate_dst (N := 2) rfl ?_); refine q_box (N := 2) (cs := #[.int .i64 0, .int .i64 0, .slice none 0 0]) (t := 43) ?_; intro gb226 hg w6 hbox hb; have n0_ := Aside0.mk (below_step bq hb); have n1_ := Aside0.mk (hbox); have n2_ := Aside0.mk ((q_g hg bq : w.heap.size ≤ gb226)); have n3_ := Aside0.mk ((q_g hg bq : w.heap.size ≤ gb226)); revert n0_ n1_ n2_ n3_; clear HB; intro HB BK226 GW226 GE226; clear hb hbox hg) | ((with_reducible refine gate_callee (f := 64) rfl ?_); refine goesLq (some 11) rfl rfl Try.func64 (by kernel_rfl) rfl #[.slice A0 l0.length c0] rfl ?_; (with_reducible refine (spec_l3Records.calls k _ _ l0 t227 t228 _ ?side1 ?side2 A5.out).mono ?_); (case side1 => exact q_c ((Kd.C_below HR0.out HB.out))); (case side2 => exact HC0.out); rintro e w7 ⟨v229, rfl, ho0, hb⟩; refine ⟨_, rfl, ?_⟩; have n0_ := Aside0.mk (Kd.S_lower ho0 (below_size bq)); have n1_ := Aside0.mk (blk_below (q_b BK226.out) hb); have n2_ := Aside0.mk (below_step bq hb); revert n0_ n1_ n2_; clear BK226 HB; intro HO230 BK226 HB; (try clear hb); (try clear hb2); (try clear hk); (try clear hi); (try clear ho0); obtain ⟨Ao8, co8, eo8⟩ := Kd.S_slice HO230.out; subst eo8; obtain ⟨hcz9_0, hcz9_1, hcz9_2, hfz9_0, hfz9_1, hfz9_2⟩ := q_3 BK226.out))
  refine bodyPost_ret (results_cell_row rfl _ _ gb226 43 #[.int .i64 0, .int .i64 t228, .slice Ao8 t227.length co8] (0, 0) _ rfl (by (with_reducible repeat (first | refine blk_drewN ?_ _ | refine blk_drew ?_ | refine blk_alloc ?_ _)); refine blk_put (cs := #[.int .i64 0, .int .i64 t228, .slice none 0 0]) ?_ 2 _ rfl; (with_reducible repeat (first | refine blk_drewN ?_ _ | refine blk_drew ?_ | refine blk_alloc ?_ _)); refine blk_put (cs := #[.int .i64 0, .int .i64 0, .slice none 0 0]) ?_ 1 _ rfl; (with_reducible repeat (first | refine blk_drewN ?_ _ | refine blk_drew ?_ | refine blk_alloc ?_ _)); refine blk_put (cs := #[.int .i64 0, .int .i64 0, .slice none 0 0]) ?_ 0 _ rfl; (with_reducible repeat (first | refine blk_drewN ?_ _ | refine blk_drew ?_ | refine blk_alloc ?_ _)); exact BK226.out) Try.underlying43 rfl (by kernel_rfl)) rfl ?_
  exact ⟨_, q_e, by (with_reducible repeat (first | apply Kd.S_alloc | apply Kd.S_drewN | apply Kd.S_drew)); exact Kd.S_mono (Kd.S_far (p := ⟨gb226, 2, none⟩) (Kd.S_far (p := ⟨gb226, 1, none⟩) (Kd.S_far (p := ⟨gb226, 0, none⟩) (Kd.S_types HO230.out BK226.out (by decide)) (fun _ hk => hk.2) (.int .i64 0)) (fun _ hk => hk.2) (.int .i64 t228)) (fun _ hk => hk.2) (.slice Ao8 t227.length co8)) (fun _ hk => trivial), bq⟩

/-! ### spec_l4Sync: function 61 -/
def spec_l4Sync.f (l0_0 : List Int) (l0_1 : List Int) : Option (List Int × List Int) := (some (([] : List Int) : List Int)).bind fun y233 => (if y233.length + l0_0.length < 140737488355328 then ((some (y233 ++ l0_0 : List Int)).bind fun y236 => (if y236.length + l0_1.length < 140737488355328 then (some ((y236 ++ l0_1), ([] : List Int))) else (none))) else (none))
def spec_l4Sync.T1 : Bool × List (List Nat × List Nat) := (true, [([], []), ([], []), ([1], [1]), ([0, 2], [0, 2]), ([], []), ([4], [4]), ([3, 5, 3], [3, 5]), ([6], [6]), ([7, 6, 0, 1, 2, 3, 4, 5, 6, 7], [7])])
def spec_l4Sync.B1 : List Nat := [0, 0, 2, 7, 0, 16, 63, 127, 255]
theorem spec_l4Sync.tab1 : rtab .any (opsOf Try.f61 1) = spec_l4Sync.T1 := by kernel_rfl
theorem spec_l4Sync.bits1 : waitsOk spec_l4Sync.T1.2 spec_l4Sync.B1 = true := by kernel_rfl
set_option maxHeartbeats 8000000 in
set_option maxRecDepth 100000 in
theorem spec_l4Sync.calls (A0_0 : Option Addr) (c0_0 : Nat) (l0_0 : List Int) (A0_1 : Option Addr) (c0_1 : Nat) (l0_1 : List Int) (r1 : List Int) (r2 : List Int) (w : World) (hr0_0 : Kd.C (Kd.int .u8) w A0_0 l0_0.length l0_0) (hc0_0 : l0_0.length ≤ c0_0) (hr0_1 : Kd.C (Kd.int .u8) w A0_1 l0_1.length l0_1) (hc0_1 : l0_1.length ≤ c0_1) (h : spec_l4Sync.f l0_0 l0_1 = some (r1, r2)) :
  Calls Try.prog 61 #[.agg #[.slice A0_0 l0_0.length c0_0, .slice A0_1 l0_1.length c0_1]] w fun e w' => ∃ v0_ v1_ : Value, e = .returned (.agg #[v0_, v1_]) ∧ Kd.R (Kd.int .u8) 5 w' w.heap.size (fun k_ => some k_ ≠ (v1_ : Value).ownBlock) v0_ r1 ∧ Kd.R (Kd.int .u8) 5 w' w.heap.size (fun k_ => some k_ ≠ (v0_ : Value).ownBlock) v1_ r2 ∧ Below w.heap.size w w' := by
 have hu27 := Try.underlying27
 have HR0_0 := Aside0.mk hr0_0
 have HC0_0 := Aside0.mk hc0_0
 clear hr0_0 hc0_0
 have HR0_1 := Aside0.mk hr0_1
 have HC0_1 := Aside0.mk hc0_1
 clear hr0_1 hc0_1
 have HB := Aside0.mk (Below.refl w.heap.size w)
 have H : ((some (([] : List Int) : List Int)).bind fun y233 => (if y233.length + l0_0.length < 140737488355328 then ((some (y233 ++ l0_0 : List Int)).bind fun y236 => (if y236.length + l0_1.length < 140737488355328 then (some ((y236 ++ l0_1), ([] : List Int))) else (none))) else (none))) = some (r1, r2) := h
 clear h
 obtain ⟨y233, hy233⟩ : ∃ y_ : List Int, y_ = (([] : List Int)) := ⟨_, rfl⟩
 replace H : (if y233.length + l0_0.length < 140737488355328 then ((some (y233 ++ l0_0 : List Int)).bind fun y236 => (if y236.length + l0_1.length < 140737488355328 then (some ((y236 ++ l0_1), ([] : List Int))) else (none))) else (none)) = some (r1, r2) := q_h hy233 H
 have Ny233 := Aside0.mk hy233
 clear hy233
 by_cases c2 : y233.length + l0_0.length < 140737488355328
 ·rw [if_pos c2] at H
  have LMc2 := Aside0.mk c2
  clear c2
  obtain ⟨y236, hy236⟩ : ∃ y_ : List Int, y_ = (y233 ++ l0_0) := ⟨_, rfl⟩
  replace H : (if y236.length + l0_1.length < 140737488355328 then (some ((y236 ++ l0_1), ([] : List Int))) else (none)) = some (r1, r2) := q_h hy236 H
  have Ny236 := Aside0.mk hy236
  clear hy236
  by_cases c3 : y236.length + l0_1.length < 140737488355328
  ·rw [if_pos c3] at H
   have LMc3 := Aside0.mk c3
   clear c3
   obtain ⟨y239, hy239⟩ : ∃ y_ : List Int, y_ = (y236 ++ l0_1) := ⟨_, rfl⟩
   replace H : (some (y239, ([] : List Int))) = some (r1, r2) := q_h hy239 H
   have Ny239 := Aside0.mk hy239
   clear hy239
   simp only [Option.some.injEq, Prod.mk.injEq] at H
   obtain ⟨rfl, rfl⟩ := H
   go_enter Try.func61, Try.ntmps61
   try go_wp2_with (first | ((with_reducible refine gate_dst (N := 1) rfl ?_); refine q_box (N := 1) (cs := #[.slice A0_0 l0_0.length c0_0, .slice A0_1 l0_1.length c0_1]) (t := 27) ?_; intro gb231 hg w4 hbox hb; have n0_ := Aside0.mk (below_step bq hb); have n1_ := Aside0.mk (hbox); have n2_ := Aside0.mk ((q_g hg bq : w.heap.size ≤ gb231)); have n3_ := Aside0.mk ((q_g hg bq : w.heap.size ≤ gb231)); revert n0_ n1_ n2_ n3_; clear HB; intro HB BK231 GW231 GE231; clear hb hbox hg) | ((with_reducible refine gate_dst (N := 2) rfl ?_); refine q_box (N := 2) (cs := #[.slice none 0 0, .slice none 0 0]) (t := 27) ?_; intro gb232 hg w5 hbox hb; have n0_ := Aside0.mk (blk_below (q_b BK231.out) hb); have n1_ := Aside0.mk (below_step bq hb); have n2_ := Aside0.mk (hbox); have n3_ := Aside0.mk ((q_g hg bq : w.heap.size ≤ gb232)); have n4_ := Aside0.mk ((q_g hg bq : w.heap.size ≤ gb232)); have n5_ := Aside0.mk ((q_n hg (q_b BK231.out) : gb231 ≠ gb232)); have n6_ := Aside0.mk ((q_m hg (q_b BK231.out) : gb232 ≠ gb231)); revert n0_ n1_ n2_ n3_ n4_ n5_ n6_; clear BK231 HB; intro BK231 HB BK232 GW232 GE232 NB231_232 NB232_231; clear hb hbox hg))
   have n0_ := Aside0.mk (blk_drew BK231.out)
   have n1_ := Aside0.mk (blk_drew BK232.out)
   have n2_ := Aside0.mk (below_drew1 HB.out)
   clear BK231
   clear BK232
   clear HB
   have BK231 := n0_
   have BK232 := n1_
   have HB := n2_
   clear n0_ n1_ n2_
   refine start_ (n := 9) (S := fun w' => w'.cell? ⟨gb231, 0, none⟩ = some (.slice A0_0 l0_0.length c0_0) ∧ w'.cell? ⟨gb231, 1, none⟩ = some (.slice A0_1 l0_1.length c0_1)) (ds := []) #[false, false, false, false, false, false, false, false, false] (by kernel_rfl) rfl rfl ⟨(blk_cell BK231.out 0).trans rfl, (blk_cell BK231.out 1).trans rfl⟩ (fun hHeld => ?_); refine with_tabW spec_l4Sync.tab1 spec_l4Sync.bits1 (fun HT_ HW_ => ?_)
   generalize w5.drew = w6 at BK231 BK232 HB hHeld ⊢
   refine q_p 1 (some 4) #[false, true, false, false, false, false, false, false, false] HT_.out ?_
   refine q_p 4 (some 7) #[false, true, false, false, true, false, false, false, false] HT_.out ?_
   refine q_t 2 (some 5) #[false, true, true, false, true, false, false, false, false] HT_.out HW_.out hHeld ?_
   refine q_t 5 (some 8) #[false, true, true, false, true, true, false, false, false] HT_.out HW_.out hHeld ?_
   refine one_ (i := 0) (N := some 3) #[true, true, true, false, true, true, false, false, false] rfl rfl (one_of HT_.out (by kernel_rfl)) (by decide) (fun K hK => ?_)
   refine Kd.R_lit_step (Kd.int .u8) _ 5 ?hg (N := 3) ?hd (xs := ([] : List Int)) (inner := []) (ok := fun _ => True) (okp := fun _ => True) ?hr ?hp (fun _ hk => hk) trivial (Below.refl _ _) (Nat.le_refl _) (by simp) ?_; (case hd => rfl); (case hg => rfl); (case hr => first | (go_simp; done) | (go_simp; rfl)); (case hp => exact (Reps.none _ _))
   intro v234 w7 ho8 hb hg_ hnew_
   clear hg_ hnew_
   (first | rw [← Ny233.out] at ho8 | (simp only [Int.reduceToNat] at ho8; rw [← Ny233.out] at ho8))
   have n0_ := Aside0.mk (Kd.R_lower ho8 (below_size bq))
   have n1_ := Aside0.mk (blk_below (q_b BK231.out) hb)
   have n2_ := Aside0.mk (blk_below (q_b BK232.out) hb)
   have n3_ := Aside0.mk (below_step bq hb)
   clear BK231
   clear BK232
   clear HB
   have HO235 := n0_
   have BK231 := n1_
   have BK232 := n2_
   have HB := n3_
   clear n0_ n1_ n2_ n3_
   clear hb ho8
   refine hK.out _ _ ⟨(blk_cell BK231.out 0).trans rfl, (blk_cell BK231.out 1).trans rfl⟩ (fun hHeld => ?_)
   clear hK K
   refine norm_ (a' := ?_) ?_ ?_
   rotate_left
   ·show Act.put _ (some 3) _ = _
    simp only [Act.put, List.setIfInBounds_toArray, List.set_cons_zero, List.set_cons_succ, i64_w, i32_w]
    rfl
   refine one_ (i := 3) (N := some 6) #[true, true, true, true, true, true, false, false, false] rfl rfl (one_of HT_.out (by kernel_rfl)) (by decide) (fun K hK => ?_)
   refine Kd.R_append_rows_step (Kd.int .u8) (w0 := w) w.heap.size (by rfl) (.tmp 3) (.tmp 5) 22 5 (.int .u8 0) 1 rfl Try.underlying22 info5 rfl (by decide) (by omega) v234 y233 l0_0 _ _ _ (fun _ => True) (fun _ => False) rfl rfl ?aO ?aR (fun _ _ h => h) (fun _ h => h.elim) ?aF ?aB ?aS ?aL ?_
   (case aR => repeat (first | exact (Kd.C_below HR0_0.out HB.out) | (with_reducible refine Kd.C_alloc ?_ _) | (with_reducible refine Kd.C_drewN ?_ _) | (with_reducible refine Kd.C_drew ?_)))
   (case aB => exact bq)
   (case aF => exact (fun _ _ => trivial))
   (case aO => exact (q_r (HO235.out)))
   (case aS => exact (below_size bq))
   (case aL => have := LMc2.out; omega)
   intro v237 w9 ho hb hg hat
   rw [← Ny236.out] at ho
   have n0_ := Aside0.mk (blk_grown (q_b BK231.out) hg (Kd.R_ne HO235.out BK231.out (by decide)))
   have n1_ := Aside0.mk (blk_grown (q_b BK232.out) hg (Kd.R_ne HO235.out BK232.out (by decide)))
   have n2_ := Aside0.mk (hb)
   have n3_ := Aside0.mk (ho)
   clear BK231
   clear BK232
   clear HB
   clear HO235
   have BK231 := n0_
   have BK232 := n1_
   have HB := n2_
   have HO238 := n3_
   clear n0_ n1_ n2_ n3_
   clear ho hb hg hat
   refine hK.out _ _ ⟨(blk_cell BK231.out 0).trans rfl, (blk_cell BK231.out 1).trans rfl⟩ (fun hHeld => ?_)
   clear hK K
   refine norm_ (a' := ?_) ?_ ?_
   rotate_left
   ·show Act.put _ (some 6) _ = _
    simp only [Act.put, List.setIfInBounds_toArray, List.set_cons_zero, List.set_cons_succ, i64_w, i32_w]
    rfl
   refine one_ (i := 6) (N := some 9) #[true, true, true, true, true, true, true, false, false] rfl rfl (one_of HT_.out (by kernel_rfl)) (by decide) (fun K hK => ?_)
   refine Kd.R_append_rows_step (Kd.int .u8) (w0 := w) w.heap.size (by rfl) (.tmp 6) (.tmp 8) 22 5 (.int .u8 0) 1 rfl Try.underlying22 info5 rfl (by decide) (by omega) v237 y236 l0_1 _ _ _ (fun _ => True) (fun _ => False) rfl rfl ?aO ?aR (fun _ _ h => h) (fun _ h => h.elim) ?aF ?aB ?aS ?aL ?_
   (case aR => repeat (first | exact (Kd.C_below HR0_1.out HB.out) | (with_reducible refine Kd.C_alloc ?_ _) | (with_reducible refine Kd.C_drewN ?_ _) | (with_reducible refine Kd.C_drew ?_)))
   (case aB => exact bq)
   (case aF => exact (fun _ _ => trivial))
   (case aO => exact (q_r (HO238.out)))
   (case aS => exact (below_size bq))
   (case aL => have := LMc3.out; omega)
   intro v240 w10 ho hb hg hat
   rw [← Ny239.out] at ho
   have n0_ := Aside0.mk (blk_grown (q_b BK231.out) hg (Kd.R_ne HO238.out BK231.out (by decide)))
   have n1_ := Aside0.mk (blk_grown (q_b BK232.out) hg (Kd.R_ne HO238.out BK232.out (by decide)))
   have n2_ := Aside0.mk (hb)
   have n3_ := Aside0.mk (ho)
   clear BK231
   clear BK232
   clear HB
   clear HO238
   have BK231 := n0_
   have BK232 := n1_
   have HB := n2_
   have HO241 := n3_
   clear n0_ n1_ n2_ n3_
   clear ho hb hg hat
   obtain ⟨Ao11, co11, eo11⟩ := Kd.R_slice HO241.out
   (first | subst eo11 | (injection eo11 with f1_ f2_ f3_; have f4_ := f1_.symm; have f5_ := f3_.symm; clear f1_ f2_ f3_; subst f4_; subst f5_))
   refine hK.out _ _ ⟨(blk_cell BK231.out 0).trans rfl, (blk_cell BK231.out 1).trans rfl⟩ (fun hHeld => ?_)
   clear hK K
   refine norm_ (a' := ?_) ?_ ?_
   rotate_left
   ·show Act.put _ (some 9) _ = _
    simp only [Act.put, List.setIfInBounds_toArray, List.set_cons_zero, List.set_cons_succ, i64_w, i32_w]
    rfl
   refine q_p 7 (some 10) #[true, true, true, true, true, true, true, true, false] HT_.out ?_
   refine one_ (i := 8) (N := none) #[true, true, true, true, true, true, true, true, true] rfl rfl (one_of HT_.out (by kernel_rfl)) (by decide) (fun K hK => ?_)
   have hs12 : w10.cell? ⟨gb232, 0, none⟩ = some (.slice none 0 0) := (blk_cell BK232.out 0).trans rfl
   have hfs12 := blk_frozen BK232.out 0
   have hns12_0 := NB231_232.out
   have hms12_0 := NB232_231.out
   have hs13 : w10.cell? ⟨gb232, 1, none⟩ = some (.slice none 0 0) := (blk_cell BK232.out 1).trans rfl
   have hfs13 := blk_frozen BK232.out 1
   have hns13_0 := NB231_232.out
   have hms13_0 := NB232_231.out
   refine skip_ (w1 := ?_) (by rfl) rfl ?_ ?_
   rotate_left
   ·go_simp
    rfl
   refine hK.out _ _ ⟨((cell_far (p := ⟨gb232, _, none⟩) NB231_232.out _).trans (((cell_far (p := ⟨gb232, _, none⟩) NB231_232.out _).trans (hHeld.1)))), ((cell_far (p := ⟨gb232, _, none⟩) NB231_232.out _).trans (((cell_far (p := ⟨gb232, _, none⟩) NB231_232.out _).trans (hHeld.2))))⟩ (fun hHeld => ?_)
   clear hK K
   refine done_ (done_of HT_.out (by kernel_rfl)) ?_
   try go_wp2
   refine bodyPost_ret (results_cell_row rfl _ _ gb232 27 #[.slice Ao11 y239.length co11, .slice none 0 0] (0, 0) _ rfl (by (with_reducible repeat (first | refine blk_drewN ?_ _ | refine blk_drew ?_ | refine blk_alloc ?_ _)); refine blk_put (cs := #[.slice Ao11 y239.length co11, .slice none 0 0]) ?_ 1 _ rfl; (with_reducible repeat (first | refine blk_drewN ?_ _ | refine blk_drew ?_ | refine blk_alloc ?_ _)); refine blk_put (cs := #[.slice none 0 0, .slice none 0 0]) ?_ 0 _ rfl; (with_reducible repeat (first | refine blk_drewN ?_ _ | refine blk_drew ?_ | refine blk_alloc ?_ _)); exact BK232.out) Try.underlying27 rfl (by kernel_rfl)) rfl ?_
   exact ⟨_, _, q_e, by (with_reducible repeat (first | apply Kd.R_alloc | apply Kd.R_drewN | apply Kd.R_drew)); exact Kd.R_mono (Kd.R_far (p := ⟨gb232, 1, none⟩) (Kd.R_far (p := ⟨gb232, 0, none⟩) (Kd.R_types HO241.out BK232.out (by decide)) (fun _ hk => hk.2) (.slice Ao11 y239.length co11)) (fun _ hk => hk.2) (.slice none 0 0)) (fun _ hk => (by simp [Value.ownBlock])), by first | exact Kd.R_nil _ _ _ _ _ | exact Kd.N_nil _ _ _ _ _ | exact Kd.V_nil _ _ _ _ _ | exact Kd.Q_nil _ _ _ _ _ | exact Kd.S_nil _ _ _ _ _, bq⟩
  ·rw [if_neg c3] at H
   exact absurd H (by simp)
 ·rw [if_neg c2] at H
  exact absurd H (by simp)

/-! ### spec_ReadLog: function 49 -/
def spec_ReadLog.f (k : Nat) (l0_0 : List Int) (l0_1 : List Int) : Option (Int × Int × (List (List Int))) := (spec_LogFault.f l0_0 l0_1).bind fun t244 => (if t244 = 0 then ((spec_l4Sync.f l0_0 l0_1).bind fun bt245 => ((spec_UnframeAll.f k bt245.1).bind fun bt251 => (some (bt251.1, bt251.2.1, bt251.2.2)))) else (some (t244, 0, ([] : List (List Int)))))
attribute [local go_sem] Instr.field asAgg
set_option maxHeartbeats 8000000 in
set_option maxRecDepth 100000 in
theorem spec_ReadLog.calls (k : Nat) (A0_0 : Option Addr) (c0_0 : Nat) (l0_0 : List Int) (A0_1 : Option Addr) (c0_1 : Nat) (l0_1 : List Int) (r1 : Int) (r2 : Int) (r3 : List (List Int)) (w : World) (hr0_0 : Kd.C (Kd.int .u8) w A0_0 l0_0.length l0_0) (hc0_0 : l0_0.length ≤ c0_0) (hr0_1 : Kd.C (Kd.int .u8) w A0_1 l0_1.length l0_1) (hc0_1 : l0_1.length ≤ c0_1) (h : spec_ReadLog.f k l0_0 l0_1 = some (r1, r2, r3)) :
  Calls Try.prog 49 #[.agg #[.slice A0_0 l0_0.length c0_0, .slice A0_1 l0_1.length c0_1]] w fun e w' => ∃ v2_ : Value, e = .returned (.agg #[.int .i64 r1, .int .i64 r2, v2_]) ∧ Kd.S (Kd.slice 5 (Kd.int .u8)) 22 w' w.heap.size (fun _ => True) v2_ r3 ∧ Below w.heap.size w w' := by
 have hu27 := Try.underlying27
 have hu43 := Try.underlying43
 have HR0_0 := Aside0.mk hr0_0
 have HC0_0 := Aside0.mk hc0_0
 clear hr0_0 hc0_0
 have HR0_1 := Aside0.mk hr0_1
 have HC0_1 := Aside0.mk hc0_1
 clear hr0_1 hc0_1
 have HB := Aside0.mk (Below.refl w.heap.size w)
 have H : ((spec_LogFault.f l0_0 l0_1).bind fun t244 => (if t244 = 0 then ((spec_l4Sync.f l0_0 l0_1).bind fun bt245 => ((spec_UnframeAll.f k bt245.1).bind fun bt251 => (some (bt251.1, bt251.2.1, bt251.2.2)))) else (some (t244, 0, ([] : List (List Int)))))) = some (r1, r2, r3) := h
 clear h
 replace H := Option.bind_eq_some_iff.mp H
 obtain ⟨t244, A20, H⟩ := H
 replace H : (if t244 = 0 then ((spec_l4Sync.f l0_0 l0_1).bind fun bt245 => ((spec_UnframeAll.f k bt245.1).bind fun bt251 => (some (bt251.1, bt251.2.1, bt251.2.2)))) else (some (t244, 0, ([] : List (List Int))))) = some (r1, r2, r3) := H
 have A2 := Aside0.mk A20
 clear A20
 by_cases c3 : t244 = 0
 ·rw [if_pos c3] at H
  have c3b0 : (t244 == 0) = true := beq_iff_eq.mpr c3
  have c3b1 : (t244 != 0) = false := bne_eq_false_iff_eq.mpr c3
  clear c3
  replace H := Option.bind_eq_some_iff.mp H
  obtain ⟨⟨t245, t248⟩, A40, H⟩ := H
  replace H : ((spec_UnframeAll.f k t245).bind fun bt251 => (some (bt251.1, bt251.2.1, bt251.2.2))) = some (r1, r2, r3) := H
  have A4 := Aside0.mk A40
  clear A40
  replace H := Option.bind_eq_some_iff.mp H
  obtain ⟨⟨t251, t252, t253⟩, A50, H⟩ := H
  replace H : (some (t251, t252, t253)) = some (r1, r2, r3) := H
  have A5 := Aside0.mk A50
  clear A50
  simp only [Option.some.injEq, Prod.mk.injEq] at H
  obtain ⟨rfl, rfl, rfl⟩ := H
  go_enter Try.func49, Try.ntmps49
  go_wp2_with (first | ((with_reducible refine gate_dst (N := 1) rfl ?_); refine q_box (N := 1) (cs := #[.slice A0_0 l0_0.length c0_0, .slice A0_1 l0_1.length c0_1]) (t := 27) ?_; intro gb242 hg w6 hbox hb; have n0_ := Aside0.mk (below_step bq hb); have n1_ := Aside0.mk (hbox); have n2_ := Aside0.mk ((q_g hg bq : w.heap.size ≤ gb242)); have n3_ := Aside0.mk ((q_g hg bq : w.heap.size ≤ gb242)); revert n0_ n1_ n2_ n3_; clear HB; intro HB BK242 GW242 GE242; clear hb hbox hg) | ((with_reducible refine gate_dst (N := 2) rfl ?_); refine q_box (N := 2) (cs := #[.int .i64 0, .int .i64 0, .slice none 0 0]) (t := 43) ?_; intro gb243 hg w7 hbox hb; have n0_ := Aside0.mk (blk_below (q_b BK242.out) hb); have n1_ := Aside0.mk (below_step bq hb); have n2_ := Aside0.mk (hbox); have n3_ := Aside0.mk ((q_g hg bq : w.heap.size ≤ gb243)); have n4_ := Aside0.mk ((q_g hg bq : w.heap.size ≤ gb243)); have n5_ := Aside0.mk ((q_n hg (q_b BK242.out) : gb242 ≠ gb243)); have n6_ := Aside0.mk ((q_m hg (q_b BK242.out) : gb243 ≠ gb242)); revert n0_ n1_ n2_ n3_ n4_ n5_ n6_; clear BK242 HB; intro BK242 HB BK243 GW243 GE243 NB242_243 NB243_242; clear hb hbox hg; have hnb8 := NB242_243.out; have hnc8 := NB243_242.out; obtain ⟨hcz9_0, hcz9_1, hfz9_0, hfz9_1⟩ := q_2 BK242.out) | ((with_reducible refine gate_callee (f := 15) rfl ?_); refine goesLq (some 5) rfl rfl Try.func15 (by kernel_rfl) rfl #[.agg #[.slice A0_0 l0_0.length c0_0, .slice A0_1 l0_1.length c0_1]] rfl ?_; (with_reducible refine (spec_LogFault.calls _ _ l0_0 _ _ l0_1 t244 _ ?side1 ?side2 ?side3 ?side4 A2.out).mono ?_); (case side1 => exact q_c ((Kd.C_below HR0_0.out HB.out))); (case side2 => exact HC0_0.out); (case side3 => exact q_c ((Kd.C_below HR0_1.out HB.out))); (case side4 => exact HC0_1.out); rintro e w10 ⟨rfl, hb⟩; refine ⟨_, rfl, ?_⟩; have n0_ := Aside0.mk (blk_below (q_b BK242.out) hb); have n1_ := Aside0.mk (blk_below (q_b BK243.out) hb); have n2_ := Aside0.mk (below_step bq hb); revert n0_ n1_ n2_; clear BK242 BK243 HB; intro BK242 BK243 HB; (try clear hb); (try clear hb2); (try clear hk); (try clear hi); obtain ⟨hcz11_0, hcz11_1, hfz11_0, hfz11_1⟩ := q_2 BK242.out) | ((with_reducible refine gate_callee (f := 61) rfl ?_); refine goesLq (some 11) rfl rfl Try.func61 (by kernel_rfl) rfl #[.agg #[.slice A0_0 l0_0.length c0_0, .slice A0_1 l0_1.length c0_1]] rfl ?_; (with_reducible refine (spec_l4Sync.calls _ _ l0_0 _ _ l0_1 t245 t248 _ ?side1 ?side2 ?side3 ?side4 A4.out).mono ?_); (case side1 => exact q_c ((Kd.C_below HR0_0.out HB.out))); (case side2 => exact HC0_0.out); (case side3 => exact q_c ((Kd.C_below HR0_1.out HB.out))); (case side4 => exact HC0_1.out); rintro e w12 ⟨v246, v249, rfl, ho0, ho1, hb⟩; refine ⟨_, rfl, ?_⟩; have n0_ := Aside0.mk (Kd.R_lower ho0 (below_size bq)); have n1_ := Aside0.mk (Kd.R_lower ho1 (below_size bq)); have n2_ := Aside0.mk (blk_below (q_b BK242.out) hb); have n3_ := Aside0.mk (blk_below (q_b BK243.out) hb); have n4_ := Aside0.mk (below_step bq hb); revert n0_ n1_ n2_ n3_ n4_; clear BK242 BK243 HB; intro HO247 HO250 BK242 BK243 HB; (try clear hb); (try clear hb2); (try clear hk); (try clear hi); (try clear ho0); (try clear ho1); obtain ⟨Ao13, co13, eo13⟩ := Kd.R_slice HO247.out; subst eo13) | ((with_reducible refine gate_callee (f := 37) rfl ?_); refine goesLq (some 13) rfl rfl Try.func37 (by kernel_rfl) rfl #[.slice Ao13 t245.length co13] rfl ?_; (with_reducible refine (spec_UnframeAll.calls k _ _ t245 t251 t252 t253 _ ?side1 ?side2 A5.out).mono ?_); (case side1 => exact q_c ((Kd.R_reads' HO247.out).2.2)); (case side2 => exact (Kd.R_reads' HO247.out).2.1); rintro e w14 ⟨v254, rfl, ho0, hb⟩; refine ⟨_, rfl, ?_⟩; have n0_ := Aside0.mk (Kd.R_below (q_r (HO247.out)) hb); have n1_ := Aside0.mk (Kd.R_below (q_r (HO250.out)) hb); have n2_ := Aside0.mk (Kd.S_lower (Kd.S_new' (Kd.S_new' ho0 (Kd.R_lt (q_r (HO247.out)))) (Kd.R_lt (q_r (HO250.out)))) (below_size bq)); have n3_ := Aside0.mk (blk_below (q_b BK242.out) hb); have n4_ := Aside0.mk (blk_below (q_b BK243.out) hb); have n5_ := Aside0.mk (below_step bq hb); revert n0_ n1_ n2_ n3_ n4_ n5_; clear HO247 HO250 BK242 BK243 HB; intro HO247 HO250 HO255 BK242 BK243 HB; (try clear hb); (try clear hb2); (try clear hk); (try clear hi); (try clear ho0); obtain ⟨hcz15_0, hcz15_1, hcz15_2, hfz15_0, hfz15_1, hfz15_2⟩ := q_3 BK243.out; obtain ⟨Ao16, co16, eo16⟩ := Kd.S_slice HO255.out; subst eo16))
  refine bodyPost_ret (results_cell_row rfl _ _ gb243 43 #[.int .i64 t251, .int .i64 t252, .slice Ao16 t253.length co16] (0, 0) _ rfl (by (with_reducible repeat (first | refine blk_drewN ?_ _ | refine blk_drew ?_ | refine blk_alloc ?_ _)); refine blk_put (cs := #[.int .i64 t251, .int .i64 t252, .slice none 0 0]) ?_ 2 _ rfl; (with_reducible repeat (first | refine blk_drewN ?_ _ | refine blk_drew ?_ | refine blk_alloc ?_ _)); refine blk_put (cs := #[.int .i64 t251, .int .i64 0, .slice none 0 0]) ?_ 1 _ rfl; (with_reducible repeat (first | refine blk_drewN ?_ _ | refine blk_drew ?_ | refine blk_alloc ?_ _)); refine blk_put (cs := #[.int .i64 0, .int .i64 0, .slice none 0 0]) ?_ 0 _ rfl; (with_reducible repeat (first | refine blk_drewN ?_ _ | refine blk_drew ?_ | refine blk_alloc ?_ _)); exact BK243.out) Try.underlying43 rfl (by kernel_rfl)) rfl ?_
  exact ⟨_, q_e, by (with_reducible repeat (first | apply Kd.S_alloc | apply Kd.S_drewN | apply Kd.S_drew)); exact Kd.S_mono (Kd.S_far (p := ⟨gb243, 2, none⟩) (Kd.S_far (p := ⟨gb243, 1, none⟩) (Kd.S_far (p := ⟨gb243, 0, none⟩) (Kd.S_types HO255.out BK243.out (by decide)) (fun _ hk => hk.2) (.int .i64 t251)) (fun _ hk => hk.2) (.int .i64 t252)) (fun _ hk => hk.2) (.slice Ao16 t253.length co16)) (fun _ hk => trivial), bq⟩
 ·rw [if_neg c3] at H
  have c3b0 : (t244 == 0) = false := beq_eq_false_iff_ne.mpr c3
  have c3b1 : (t244 != 0) = true := bne_iff_ne.mpr c3
  simp only [Option.some.injEq, Prod.mk.injEq] at H
  obtain ⟨rfl, rfl, rfl⟩ := H
  go_enter Try.func49, Try.ntmps49
  go_wp2_with (first | ((with_reducible refine gate_dst (N := 1) rfl ?_); refine q_box (N := 1) (cs := #[.slice A0_0 l0_0.length c0_0, .slice A0_1 l0_1.length c0_1]) (t := 27) ?_; intro gb242 hg w17 hbox hb; have n0_ := Aside0.mk (below_step bq hb); have n1_ := Aside0.mk (hbox); have n2_ := Aside0.mk ((q_g hg bq : w.heap.size ≤ gb242)); have n3_ := Aside0.mk ((q_g hg bq : w.heap.size ≤ gb242)); revert n0_ n1_ n2_ n3_; clear HB; intro HB BK242 GW242 GE242; clear hb hbox hg) | ((with_reducible refine gate_dst (N := 2) rfl ?_); refine q_box (N := 2) (cs := #[.int .i64 0, .int .i64 0, .slice none 0 0]) (t := 43) ?_; intro gb243 hg w18 hbox hb; have n0_ := Aside0.mk (blk_below (q_b BK242.out) hb); have n1_ := Aside0.mk (below_step bq hb); have n2_ := Aside0.mk (hbox); have n3_ := Aside0.mk ((q_g hg bq : w.heap.size ≤ gb243)); have n4_ := Aside0.mk ((q_g hg bq : w.heap.size ≤ gb243)); have n5_ := Aside0.mk ((q_n hg (q_b BK242.out) : gb242 ≠ gb243)); have n6_ := Aside0.mk ((q_m hg (q_b BK242.out) : gb243 ≠ gb242)); revert n0_ n1_ n2_ n3_ n4_ n5_ n6_; clear BK242 HB; intro BK242 HB BK243 GW243 GE243 NB242_243 NB243_242; clear hb hbox hg; have hnb19 := NB242_243.out; have hnc19 := NB243_242.out; obtain ⟨hcz20_0, hcz20_1, hfz20_0, hfz20_1⟩ := q_2 BK242.out) | ((with_reducible refine gate_callee (f := 15) rfl ?_); refine goesLq (some 5) rfl rfl Try.func15 (by kernel_rfl) rfl #[.agg #[.slice A0_0 l0_0.length c0_0, .slice A0_1 l0_1.length c0_1]] rfl ?_; (with_reducible refine (spec_LogFault.calls _ _ l0_0 _ _ l0_1 t244 _ ?side1 ?side2 ?side3 ?side4 A2.out).mono ?_); (case side1 => exact q_c ((Kd.C_below HR0_0.out HB.out))); (case side2 => exact HC0_0.out); (case side3 => exact q_c ((Kd.C_below HR0_1.out HB.out))); (case side4 => exact HC0_1.out); rintro e w21 ⟨rfl, hb⟩; refine ⟨_, rfl, ?_⟩; have n0_ := Aside0.mk (blk_below (q_b BK242.out) hb); have n1_ := Aside0.mk (blk_below (q_b BK243.out) hb); have n2_ := Aside0.mk (below_step bq hb); revert n0_ n1_ n2_; clear BK242 BK243 HB; intro BK242 BK243 HB; (try clear hb); (try clear hb2); (try clear hk); (try clear hi); obtain ⟨hcz22_0, hcz22_1, hcz22_2, hfz22_0, hfz22_1, hfz22_2⟩ := q_3 BK243.out))
  refine bodyPost_ret (results_cell_row rfl _ _ gb243 43 #[.int .i64 t244, .int .i64 0, .slice none 0 0] (0, 0) _ rfl (by (with_reducible repeat (first | refine blk_drewN ?_ _ | refine blk_drew ?_ | refine blk_alloc ?_ _)); refine blk_put (cs := #[.int .i64 t244, .int .i64 0, .slice none 0 0]) ?_ 2 _ rfl; (with_reducible repeat (first | refine blk_drewN ?_ _ | refine blk_drew ?_ | refine blk_alloc ?_ _)); refine blk_put (cs := #[.int .i64 t244, .int .i64 0, .slice none 0 0]) ?_ 1 _ rfl; (with_reducible repeat (first | refine blk_drewN ?_ _ | refine blk_drew ?_ | refine blk_alloc ?_ _)); refine blk_put (cs := #[.int .i64 0, .int .i64 0, .slice none 0 0]) ?_ 0 _ rfl; (with_reducible repeat (first | refine blk_drewN ?_ _ | refine blk_drew ?_ | refine blk_alloc ?_ _)); exact BK243.out) Try.underlying43 rfl (by kernel_rfl)) rfl ?_
  exact ⟨_, q_e, by first | exact Kd.S_nil _ _ _ _ _ | exact Kd.N_nil _ _ _ _ _ | exact Kd.V_nil _ _ _ _ _ | exact Kd.Q_nil _ _ _ _ _ | exact Kd.R_nil _ _ _ _ _, bq⟩

end Go.Proofs.Ytcdpiejcdeedoaa.PFnExactReadLog
