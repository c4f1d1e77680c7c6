/- The functions that a law reaches, each as a plain Lean function with the proof that the machine comes to its answer: written by program (the kit's print, turned by wip/gen). No conditions. -/
import Derived.Test.YtcdpiejcdeedoaaPFnFramesx0
import Derived.Test.YtcdpiejcdeedoaaPFnFramesx1
import Derived.Test.YtcdpiejcdeedoaaPFnFramesx2
import Derived.Test.YtcdpiejcdeedoaaPFnFramesx3
namespace Go.Proofs.Ytcdpiejcdeedoaa.PFnFrames
open Go.RowKit Go.Proofs.YtcdpiejcdeedoaaW.PrintWords Go.Proofs.YtcdpiejcdeedoaaW.PrintLast Go.Proofs.YtcdpiejcdeedoaaW.PrintMore
attribute [local go_sem] max2_int min2_int max_two min_two max_three min_three max_four min_four   -- for this text's walks alone
set_option linter.unusedVariables false
set_option linter.unusedSimpArgs false
theorem q_P {P : Program} {ops : Array Oper} {Q : Exit → Act → World → Prop} {md : Region.Mode} {S : World → Prop} {ds : List Nat} {T : Bool × List (List Nat × List Nat)} (i : Nat) (N : Option Tmp) {oi : Oper} {v : Value} {fuel : Nat} {l : Array Bool} {a : Act} {w : World} (l' : Array Bool) (hT : rtab md ops = T) {a' : Act}
    (h : wpAnyLast P md ops Q S ds fuel l' a' w) (hi : ops[i]? = some oi := by rfl) (hN : oi.dst = N := by rfl) (hc : anyT T l.toList l'.toList i = true := by kernel_rfl) (hQ : ∀ c a w, Q (.panic c) (a.put oi.dst v) w → Q (.panic c) a w := by exact fun _ _ _ h => h)
    (hy : Yields P ops oi v a := by refine Or.inl ⟨by rfl, ?_⟩; intro w'; go_simp; (try (simp only [Instr.field, asAgg]; go_simp)); with_reducible rfl) (ha : a.put N v = a' := by simp only [Act.put, List.setIfInBounds_toArray, List.set_cons_zero, List.set_cons_succ, i64_w, i32_w]; rfl) : wpAnyLast P md ops Q S ds (fuel + 1) l a w := pure_ l' hi hN (any_of hT hc) hQ hy ha h

/-! ### laws_FnFrames: function 5 -/
mutual
def laws_FnFrames.l0 : Nat → List Int → List Int → List (List Int) → Int → Option (Bool)
  | 0, _, _, _, _ => none
  | k + 1, x0, x3, x4, x5 => if x5 < 4 then ((some (([x5] : List Int) : List Int)).bind fun y225 => (if y225.length + x0.length < 140737488355328 then ((spec_DrawFrameRecord.f k (y225 ++ x0)).bind fun t231 => ((impl_FrameRecord.f k t231).bind fun bt234 => (if bt234.1 = 0 then (if x3.length + bt234.2.length < 140737488355328 then (if x4.length < 5864062014805 then (laws_FnFrames.l0 k x0 (x3 ++ bt234.2) (x4 ++ [t231]) ((x5 + 1) % 256)) else (none)) else (none)) else ((spec_FrameRecord.f k t231).bind fun bt245 => (if bt245.1 = bt234.1 then (laws_FnFrames.l0 k x0 x3 x4 ((x5 + 1) % 256)) else (none)))))) else (none))) else ((laws_lwAt.f x0 1 (wrap64 ((x3.length : Int) + 1))).bind fun t249 => ((impl_UnframeAll.f k x3).bind fun bt250 => (if 0 ≤ t249 then (if t249 ≤ (x3.length : Int) then ((impl_UnframeAll.f k (x3.take (t249 : Int).toNat)).bind fun bt260 => (if bt250.1 = 0 then (if bt260.1 = 0 then (if (bt250.2.2.length : Int) = (x4.length : Int) then (if bt250.2.1 = (x3.length : Int) then (if (bt260.2.2.length : Int) > (x4.length : Int) then (none) else (if bt260.2.1 > t249 then (none) else (laws_FnFrames.l1 k x4 t249 0 0 bt250.1 bt250.2.1 bt250.2.2 bt260.1 bt260.2.1 bt260.2.2))) else (none)) else (none)) else (none)) else (none))) else (none)) else (none))))
def laws_FnFrames.l1 : Nat → List (List Int) → Int → Int → Int → Int → Int → List (List Int) → Int → Int → List (List Int) → Option (Bool)
  | 0, _, _, _, _, _, _, _, _, _, _ => none
  | k + 1, x4, x8, x11, x12, x256000, x256001, x256002, x266000, x266001, x266002 => if x12 < (x4.length : Int) then (if 0 ≤ x12 then (if x12 < (x256002.length : Int) then (if (strOfNums (rd_L2 x256002 x12)).toList = (strOfNums (rd_L2 x4 x12)).toList then (if x12 < (x266002.length : Int) then (if (strOfNums (rd_L2 x266002 x12)).toList = (strOfNums (rd_L2 x4 x12)).toList then (if ((decide ((wrap64 ((wrap64 (x11 + ((rd_L2 x4 x12).length : Int))) + 4)) ≤ x8)) != (decide (x12 < (x266002.length : Int)))) = true then (none) else (laws_FnFrames.l1 k x4 x8 (wrap64 ((wrap64 (x11 + ((rd_L2 x4 x12).length : Int))) + 4)) (wrap64 (x12 + 1)) x256000 x256001 x256002 x266000 x266001 x266002)) else (none)) else (if ((decide ((wrap64 ((wrap64 (x11 + ((rd_L2 x4 x12).length : Int))) + 4)) ≤ x8)) != (decide (x12 < (x266002.length : Int)))) = true then (none) else (laws_FnFrames.l1 k x4 x8 (wrap64 ((wrap64 (x11 + ((rd_L2 x4 x12).length : Int))) + 4)) (wrap64 (x12 + 1)) x256000 x256001 x256002 x266000 x266001 x266002))) else (none)) else (none)) else (none)) else (some true)
end
def laws_FnFrames.f (k : Nat) (l0 : List Int) : Option (Bool) := (laws_lwBig.f l0).bind fun t218 => (if t218 = true then (some true) else (laws_FnFrames.l0 k l0 (([] : List Int)) (([] : List (List Int))) 0))
def laws_FnFrames.T24 : Bool × List (List Nat × List Nat) := (true, [([], []), ([0], [0]), ([], []), ([1, 2], [1, 2]), ([3], [3]), ([4], [4]), ([], []), ([], []), ([6, 7], [6, 7]), ([8], [8]), ([9], [9]), ([5, 10], [5, 10]), ([11], [11]), ([12], [12]), ([12], [12]), ([14, 12], [12, 14]), ([15, 12], [12, 15]), ([13, 16, 12], [12, 13, 16]), ([17, 12, 12], [12, 17]), ([18], [18]), ([19, 18], [18, 19]), ([18], [18]), ([20, 21, 18], [18, 20, 21]), ([22, 18], [18, 22]), ([23, 18], [18, 23]), ([18], [18]), ([18], [18]), ([25, 26, 18], [18, 25, 26]), ([27, 18], [18, 27]), ([28, 18], [18, 28]), ([24, 29, 18], [18, 24, 29]), ([18, 30, 12], [12, 18, 30]), ([12, 31], [12, 31])])
def laws_FnFrames.B24 : List Nat := [0, 1, 0, 7, 15, 31, 0, 0, 192, 448, 960, 2047, 4095, 8191, 8191, 24575, 57343, 131071, 262143, 524287, 1048575, 524287, 4194303, 8388607, 16777215, 524287, 524287, 101187583, 235405311, 503840767, 1073741823, 2147483647, 4294967295]
theorem laws_FnFrames.tab24 : rtab .any (opsOf Try.f5 24) = laws_FnFrames.T24 := by kernel_rfl
theorem laws_FnFrames.bits24 : waitsOk laws_FnFrames.T24.2 laws_FnFrames.B24 = true := by kernel_rfl
attribute [local go_sem] Instr.field asAgg
set_option maxHeartbeats 8000000 in
set_option maxRecDepth 100000 in
theorem laws_FnFrames.calls (k : Nat) (A0 : Option Addr) (c0 : Nat) (l0 : List Int) (r : Bool) (w : World) (hr0 : Kd.C (Kd.int .u8) w A0 l0.length l0) (hc0 : l0.length ≤ c0) (h : laws_FnFrames.f k l0 = some r) :
  Calls Try.prog 5 #[.slice A0 l0.length c0] w fun e w' => e = .returned (.bool r) ∧ Below w.heap.size w w' := by
 have hu32 := Try.underlying32
 have hu43 := Try.underlying43
 have HR0 := Aside0.mk hr0
 have HC0 := Aside0.mk hc0
 clear hr0 hc0
 have HB := Aside0.mk (Below.refl w.heap.size w)
 have H : ((laws_lwBig.f l0).bind fun t218 => (if t218 = true then (some true) else (laws_FnFrames.l0 k l0 (([] : List Int)) (([] : List (List Int))) 0))) = some r := h
 clear h
 replace H := Option.bind_eq_some_iff.mp H
 obtain ⟨t218, A20, H⟩ := H
 replace H : (if t218 = true then (some true) else (laws_FnFrames.l0 k l0 (([] : List Int)) (([] : List (List Int))) 0)) = some r := H
 have A2 := Aside0.mk A20
 clear A20
 by_cases c3 : t218 = true
 ·subst c3
  have H1 : (some true) = some r := by rw [if_pos rfl] at H; exact H
  clear H
  have H := H1
  clear H1
  obtain rfl := Option.some.inj H
  go_enter Try.func5, Try.ntmps5
  go_wp2_with (first | ((with_reducible refine gate_callee (f := 27) rfl ?_); refine goesLq (some 14) rfl rfl Try.func27 (by kernel_rfl) rfl #[.slice A0 l0.length c0] rfl ?_; (with_reducible refine (laws_lwBig.calls _ _ l0 true _ ?side1 ?side2 A2.out).mono ?_); (case side1 => exact q_c (HR0.out)); (case side2 => exact HC0.out); rintro e w' ⟨rfl, ⟨nd, rfl⟩⟩; refine ⟨_, rfl, ?_⟩))
  go_ret
  exact ⟨q_e, bq⟩
 ·replace c3 := Bool.eq_false_iff.mpr c3
  subst c3
  have H1 : (laws_FnFrames.l0 k l0 (([] : List Int)) (([] : List (List Int))) 0) = some r := by rw [if_neg (show ¬ (false = true) by decide)] at H; exact H
  clear H
  have H := H1
  clear H1
  obtain ⟨y219, hy219⟩ : ∃ y_ : List Int, y_ = (([] : List Int)) := ⟨_, rfl⟩
  replace H : (laws_FnFrames.l0 k l0 y219 (([] : List (List Int))) 0) = some r := q_h hy219 H
  have Ny219 := Aside0.mk hy219
  clear hy219
  obtain ⟨y222, hy222⟩ : ∃ y_ : List (List Int), y_ = (([] : List (List Int))) := ⟨_, rfl⟩
  replace H : (laws_FnFrames.l0 k l0 y219 y222 0) = some r := q_h hy222 H
  have Ny222 := Aside0.mk hy222
  clear hy222
  have H' := Aside0.mk H
  clear H
  go_enter Try.func5, Try.ntmps5
  go_wp2_with (first | ((with_reducible refine gate_callee (f := 27) rfl ?_); refine goesLq (some 14) rfl rfl Try.func27 (by kernel_rfl) rfl #[.slice A0 l0.length c0] rfl ?_; (with_reducible refine (laws_lwBig.calls _ _ l0 false _ ?side1 ?side2 A2.out).mono ?_); (case side1 => exact q_c (HR0.out)); (case side2 => exact HC0.out); rintro e w' ⟨rfl, ⟨nd, rfl⟩⟩; refine ⟨_, rfl, ?_⟩) | ((with_reducible refine gate_dst (N := 15) rfl ?_); (try (refine gate_guard (by rfl) ?_; dsimp only)); refine Kd.R_lit (Kd.int .u8) _ 5 ?hg (N := 15) ?hd (xs := ([] : List Int)) (inner := []) (ok := fun _ => True) (okp := fun _ => True) ?hr ?hp (fun _ hk => hk) trivial (Below.refl _ _) (Nat.le_refl _) (by simp) ?_; (case hd => rfl); (case hg => rfl); (case hr => first | (go_simp; done) | (go_simp; rfl)); (case hp => exact (Reps.none _ _)); intro v220 w4 ho5 hb hg_ hnew_; clear hg_ hnew_; (first | rw [← Ny219.out] at ho5 | (simp only [Int.reduceToNat] at ho5; rw [← Ny219.out] at ho5)); have n0_ := Aside0.mk (Kd.R_lower ho5 (below_size bq)); have n1_ := Aside0.mk (below_step bq hb); revert n0_ n1_; clear HB; intro HO221 HB; clear hb ho5) | ((with_reducible refine gate_dst (N := 16) rfl ?_); (try (refine gate_guard (by rfl) ?_; dsimp only)); refine Kd.S_lit (Kd.slice 5 (Kd.int .u8)) _ 22 ?hg (N := 16) ?hd (xs := ([] : List (List Int))) (inner := []) (ok := fun _ => True) (okp := fun _ => True) ?hr ?hp (fun _ hk => hk) trivial (Below.refl _ _) (Nat.le_refl _) (by simp) ?_; (case hd => rfl); (case hg => rfl); (case hr => first | (go_simp; done) | (go_simp; rfl)); (case hp => exact (Reps.none _ _)); intro v223 w6 ho7 hb hg_ hnew_; clear hg_ hnew_; (first | rw [← Ny222.out] at ho7 | (simp only [Int.reduceToNat] at ho7; rw [← Ny222.out] at ho7)); have n0_ := Aside0.mk (Kd.R_below (q_r (HO221.out)) hb); have n1_ := Aside0.mk (Kd.S_lower (Kd.S_new' ho7 (Kd.R_lt (q_r (HO221.out)))) (below_size bq)); have n2_ := Aside0.mk (below_step bq hb); revert n0_ n1_ n2_; clear HO221 HB; intro HO221 HO224 HB; clear hb ho7))
  go_loopg [3, 4, 5] k (fun kq v3 v4 v5 w' => ∃ (x3_1 : List Int) (x4_1 : List (List Int)) (x5_1 : Int), v5 = .int .u8 x5_1 ∧ Aside0 (laws_FnFrames.l0 kq l0 x3_1 x4_1 x5_1 = some r) ∧ Aside0 (kq ≤ k) ∧ Aside0 (Kd.R (Kd.int .u8) 5 w' w.heap.size (fun _ => True) v3 x3_1) ∧ Aside0 (Kd.S (Kd.slice 5 (Kd.int .u8)) 22 w' w.heap.size (fun k_ => some k_ ≠ (v3 : Value).ownBlock) v4 x4_1) ∧ Aside0 (Below w.heap.size w w'))
  case atStart => exact ⟨(y219), (y222), (0), q_i, H', ⟨Nat.le_refl _⟩, ⟨q_r (HO221.out)⟩, ⟨q_s (Kd.S_mono HO224.out (fun _ hk => hk.2))⟩, ⟨bq⟩⟩
  case round =>
   clear H'
   (try clear c2); (try clear p2); (try clear c3); (try clear c5)
   obtain ⟨x3_1, x4_1, x5_1, rfl, HA, HK1, HO_3, HO_4, HB⟩ := hrel
   cases gk with
   | zero => exact absurd HA.out (by simp [laws_FnFrames.l0])
   | succ k1 =>
    have H := HA.out
    clear HA
    simp only [laws_FnFrames.l0] at H
    by_cases c8 : x5_1 < 4
    ·rw [if_pos c8] at H
     have c8b0 := decide_eq_true c8
     clear c8
     obtain ⟨y225, hy225⟩ : ∃ y_ : List Int, y_ = (([x5_1] : List Int)) := ⟨_, rfl⟩
     replace H : (if y225.length + l0.length < 140737488355328 then ((spec_DrawFrameRecord.f k1 (y225 ++ l0)).bind fun t231 => ((impl_FrameRecord.f k1 t231).bind fun bt234 => (if bt234.1 = 0 then (if x3_1.length + bt234.2.length < 140737488355328 then (if x4_1.length < 5864062014805 then (laws_FnFrames.l0 k1 l0 (x3_1 ++ bt234.2) (x4_1 ++ [t231]) ((x5_1 + 1) % 256)) else (none)) else (none)) else ((spec_FrameRecord.f k1 t231).bind fun bt245 => (if bt245.1 = bt234.1 then (laws_FnFrames.l0 k1 l0 x3_1 x4_1 ((x5_1 + 1) % 256)) else (none)))))) else (none)) = some r := q_h hy225 H
     have Ny225 := Aside0.mk hy225
     clear hy225
     by_cases c9 : y225.length + l0.length < 140737488355328
     ·rw [if_pos c9] at H
      have LMc9 := Aside0.mk c9
      clear c9
      obtain ⟨y228, hy228⟩ : ∃ y_ : List Int, y_ = (y225 ++ l0) := ⟨_, rfl⟩
      replace H : ((spec_DrawFrameRecord.f k1 y228).bind fun t231 => ((impl_FrameRecord.f k1 t231).bind fun bt234 => (if bt234.1 = 0 then (if x3_1.length + bt234.2.length < 140737488355328 then (if x4_1.length < 5864062014805 then (laws_FnFrames.l0 k1 l0 (x3_1 ++ bt234.2) (x4_1 ++ [t231]) ((x5_1 + 1) % 256)) else (none)) else (none)) else ((spec_FrameRecord.f k1 t231).bind fun bt245 => (if bt245.1 = bt234.1 then (laws_FnFrames.l0 k1 l0 x3_1 x4_1 ((x5_1 + 1) % 256)) else (none)))))) = some r := q_h hy228 H
      have Ny228 := Aside0.mk hy228
      clear hy228
      replace H := Option.bind_eq_some_iff.mp H
      obtain ⟨t231, A100, H⟩ := H
      replace H : ((impl_FrameRecord.f k1 t231).bind fun bt234 => (if bt234.1 = 0 then (if x3_1.length + bt234.2.length < 140737488355328 then (if x4_1.length < 5864062014805 then (laws_FnFrames.l0 k1 l0 (x3_1 ++ bt234.2) (x4_1 ++ [t231]) ((x5_1 + 1) % 256)) else (none)) else (none)) else ((spec_FrameRecord.f k1 t231).bind fun bt245 => (if bt245.1 = bt234.1 then (laws_FnFrames.l0 k1 l0 x3_1 x4_1 ((x5_1 + 1) % 256)) else (none))))) = some r := H
      have A10 := Aside0.mk A100
      clear A100
      replace H := Option.bind_eq_some_iff.mp H
      obtain ⟨⟨t234, t235⟩, A110, H⟩ := H
      replace H : (if t234 = 0 then (if x3_1.length + t235.length < 140737488355328 then (if x4_1.length < 5864062014805 then (laws_FnFrames.l0 k1 l0 (x3_1 ++ t235) (x4_1 ++ [t231]) ((x5_1 + 1) % 256)) else (none)) else (none)) else ((spec_FrameRecord.f k1 t231).bind fun bt245 => (if bt245.1 = t234 then (laws_FnFrames.l0 k1 l0 x3_1 x4_1 ((x5_1 + 1) % 256)) else (none)))) = some r := H
      have A11 := Aside0.mk A110
      clear A110
      by_cases c12 : t234 = 0
      ·rw [if_pos c12] at H
       have c12b0 : (t234 == 0) = true := beq_iff_eq.mpr c12
       have c12b1 : (t234 != 0) = false := bne_eq_false_iff_eq.mpr c12
       clear c12
       by_cases c13 : x3_1.length + t235.length < 140737488355328
       ·rw [if_pos c13] at H
        have LMc13 := Aside0.mk c13
        clear c13
        obtain ⟨y239, hy239⟩ : ∃ y_ : List Int, y_ = (x3_1 ++ t235) := ⟨_, rfl⟩
        replace H : (if x4_1.length < 5864062014805 then (laws_FnFrames.l0 k1 l0 y239 (x4_1 ++ [t231]) ((x5_1 + 1) % 256)) else (none)) = some r := q_h hy239 H
        have Ny239 := Aside0.mk hy239
        clear hy239
        by_cases c14 : x4_1.length < 5864062014805
        ·rw [if_pos c14] at H
         have LMc14 := Aside0.mk c14
         clear c14
         obtain ⟨y242, hy242⟩ : ∃ y_ : List (List Int), y_ = (x4_1 ++ [t231]) := ⟨_, rfl⟩
         replace H : (laws_FnFrames.l0 k1 l0 y239 y242 ((x5_1 + 1) % 256)) = some r := q_h hy242 H
         have Ny242 := Aside0.mk hy242
         clear hy242
         have H' := Aside0.mk H
         clear H
         go_wp2_with (first | ((with_reducible refine gate_dst (N := 22) rfl ?_); (try (refine gate_guard (by rfl) ?_; dsimp only)); refine Kd.R_lit (Kd.int .u8) _ 5 ?hg (N := 22) ?hd (xs := ([x5_1] : List Int)) (inner := [.int .u8 x5_1]) (ok := fun _ => True) (okp := fun _ => True) ?hr ?hp (fun _ hk => hk) trivial (Below.refl _ _) (Nat.le_refl _) (by simp) ?_; (case hd => rfl); (case hg => rfl); (case hr => first | (go_simp; done) | (go_simp; rfl)); (case hp => exact (Reps.one (show Kd.M (Kd.int .u8) _ _ _ x5_1 [.int .u8 x5_1] from rfl) (Reps.none _ _))); intro v226 w15 ho16 hb hg_ hnew_; clear hg_ hnew_; (first | rw [← Ny225.out] at ho16 | (simp only [Int.reduceToNat] at ho16; rw [← Ny225.out] at ho16)); have n0_ := Aside0.mk (Kd.R_elder' (q_r (HO_3.out)) (Kd.R_base ho16) hb); have n1_ := Aside0.mk (Kd.S_elder' (q_s (HO_4.out)) (Kd.R_base ho16) hb); have n2_ := Aside0.mk (Kd.R_lower (Kd.R_new' ho16 (Kd.R_lt (q_r (HO_3.out)))) (below_size bq)); have n3_ := Aside0.mk (below_step bq hb); revert n0_ n1_ n2_ n3_; clear HO_3 HO_4 HB; intro HO_3 HO_4 HO227 HB; clear hb ho16) | ((with_reducible refine gate_builtin (b := .append) (xs := #[.tmp 22, .tmp 23]) rfl ?_); (try (refine gate_guard (by rfl) ?_; dsimp only)); at_builtin; refine Kd.R_append_rows (Kd.int .u8) (w0 := w) w.heap.size rfl (.tmp 22) (.tmp 23) 22 5 (.int .u8 0) 1 rfl Try.underlying22 info5 rfl (by decide) (by omega) v226 y225 l0 _ _ _ (fun k_ => some k_ ≠ (u3 : Value).ownBlock) (fun _ => False) rfl rfl ?aO ?aR (fun _ _ h => h) (fun _ h => h.elim) ?aF ?aB ?aS ?aL ?_; (case aR => repeat (first | exact (Kd.C_below HR0.out HB.out) | (with_reducible refine Kd.C_alloc ?_ _) | (with_reducible refine Kd.C_drewN ?_ _) | (with_reducible refine Kd.C_drew ?_))); (case aB => exact bq); (case aF => exact (fun k_ hk => Kd.fresh' (Kd.R_lt (q_r (HO_3.out))) k_ hk)); (case aO => exact (q_r (Kd.R_mono HO227.out (fun _ hk => hk.2)))); (case aS => exact (below_size bq)); (case aL => have := LMc9.out; omega); intro v229 w17 ho hb hg hat; rw [← Ny228.out] at ho; have n0_ := Aside0.mk (Kd.R_after (ok := (fun _ => True)) (q_r (HO_3.out)) hg hat); have n1_ := Aside0.mk (Kd.S_after (ok := (fun k_ => some k_ ≠ (u3 : Value).ownBlock)) (q_s (HO_4.out)) hg hat); have n2_ := Aside0.mk (hb); have n3_ := Aside0.mk (ho); revert n0_ n1_ n2_ n3_; clear HO_3 HO_4 HB HO227; intro HO_3 HO_4 HB HO230; clear ho hb hg hat; obtain ⟨Ao18, co18, eo18⟩ := Kd.R_slice HO230.out; subst eo18) | ((with_reducible refine gate_callee (f := 28) rfl ?_); refine goesLq (some 25) rfl rfl Try.func28 (by kernel_rfl) rfl #[.slice Ao18 y228.length co18] rfl ?_; (with_reducible refine (spec_DrawFrameRecord.calls k1 _ _ y228 t231 _ ?side1 ?side2 A10.out).mono ?_); (case side1 => exact q_c ((Kd.R_reads' HO230.out).2.2)); (case side2 => exact (Kd.R_reads' HO230.out).2.1); rintro e w19 ⟨v232, rfl, ho0, hb⟩; refine ⟨_, rfl, ?_⟩; have n0_ := Aside0.mk (Kd.R_elder' (q_r (HO_3.out)) (Kd.R_base ho0) hb); have n1_ := Aside0.mk (Kd.S_elder' (q_s (HO_4.out)) (Kd.R_base ho0) hb); have n2_ := Aside0.mk (Kd.R_elder' (q_r (HO230.out)) (Kd.R_base ho0) hb); have n3_ := Aside0.mk (Kd.R_lower (Kd.R_new' (Kd.R_new' ho0 (Kd.R_lt (q_r (HO_3.out)))) (Kd.R_lt (q_r (HO230.out)))) (below_size bq)); have n4_ := Aside0.mk (below_step bq hb); revert n0_ n1_ n2_ n3_ n4_; clear HO_3 HO_4 HO230 HB; intro HO_3 HO_4 HO230 HO233 HB; (try clear hb); (try clear hb2); (try clear hk); (try clear hi); (try clear ho0); obtain ⟨Ao20, co20, eo20⟩ := Kd.R_slice HO233.out; subst eo20) | ((with_reducible refine gate_callee (f := 21) rfl ?_); refine goesLq (some 27) rfl rfl Try.func21 (by kernel_rfl) rfl #[.slice Ao20 t231.length co20] rfl ?_; (with_reducible refine (impl_FrameRecord.calls k1 _ _ t231 t234 t235 _ ?side1 ?side2 A11.out).mono ?_); (case side1 => exact q_c ((Kd.R_reads' HO233.out).2.2)); (case side2 => exact (Kd.R_reads' HO233.out).2.1); rintro e w21 ⟨v236, rfl, ho0, hb⟩; refine ⟨_, rfl, ?_⟩; have n0_ := Aside0.mk (Kd.R_elder' (q_r (HO_3.out)) (Kd.R_base ho0) hb); have n1_ := Aside0.mk (Kd.S_elder' (q_s (HO_4.out)) (Kd.R_base ho0) hb); have n2_ := Aside0.mk (Kd.R_elder' (q_r (HO230.out)) (Kd.R_base ho0) hb); have n3_ := Aside0.mk (Kd.R_elder' (q_r (HO233.out)) (Kd.R_base ho0) hb); have n4_ := Aside0.mk (Kd.R_lower (Kd.R_new' (Kd.R_new' (Kd.R_new' ho0 (Kd.R_lt (q_r (HO_3.out)))) (Kd.R_lt (q_r (HO230.out)))) (Kd.R_lt (q_r (HO233.out)))) (below_size bq)); have n5_ := Aside0.mk (below_step bq hb); revert n0_ n1_ n2_ n3_ n4_ n5_; clear HO_3 HO_4 HO230 HO233 HB; intro HO_3 HO_4 HO230 HO233 HO237 HB; (try clear hb); (try clear hb2); (try clear hk); (try clear hi); (try clear ho0)) | ((with_reducible refine gate_dst (N := 7) rfl ?_); (try (refine gate_guard (by rfl) ?_; dsimp only)); refine q_box (N := 7) (cs := #[.int .i64 0, .slice none 0 0]) (t := 32) ?_; intro gb238 hg w22 hbox hb; have n0_ := Aside0.mk (Kd.R_below (q_r (HO_3.out)) hb); have n1_ := Aside0.mk (Kd.S_below (q_s (HO_4.out)) hb); have n2_ := Aside0.mk (Kd.R_below (q_r (HO230.out)) hb); have n3_ := Aside0.mk (Kd.R_below (q_r (HO233.out)) hb); have n4_ := Aside0.mk (Kd.R_below (q_r (HO237.out)) hb); have n5_ := Aside0.mk (below_step bq hb); have n6_ := Aside0.mk (hbox); have n7_ := Aside0.mk ((q_g hg bq : w.heap.size ≤ gb238)); have n8_ := Aside0.mk ((q_g hg bq : w.heap.size ≤ gb238)); revert n0_ n1_ n2_ n3_ n4_ n5_ n6_ n7_ n8_; clear HO_3 HO_4 HO230 HO233 HO237 HB; intro HO_3 HO_4 HO230 HO233 HO237 HB BK238 GW238 GE238; clear hb hbox hg; obtain ⟨hcz23_0, hcz23_1, hfz23_0, hfz23_1⟩ := q_2 BK238.out; obtain ⟨Ao24, co24, eo24⟩ := Kd.R_slice HO237.out; subst eo24) | ((with_reducible refine gate_builtin (b := .append) (xs := #[.tmp 37, .tmp 39]) rfl ?_); (try (refine gate_guard (by rfl) ?_; dsimp only)); at_builtin; refine Kd.R_append_rows (Kd.int .u8) (w0 := w) w.heap.size rfl (.tmp 37) (.tmp 39) 22 5 (.int .u8 0) 1 rfl Try.underlying22 info5 rfl (by decide) (by omega) u3 x3_1 t235 _ _ _ (fun k_ => some k_ ≠ (.slice Ao18 y228.length co18 : Value).ownBlock ∧ some k_ ≠ (.slice Ao20 t231.length co20 : Value).ownBlock ∧ some k_ ≠ (.slice Ao24 t235.length co24 : Value).ownBlock) (fun _ => False) rfl rfl ?aO ?aR (fun _ _ h => h) (fun _ h => h.elim) ?aF ?aB ?aS ?aL ?_; (case aR => refine (Kd.R_reads' (e := 5) (base := w.heap.size) (ok := fun k_ => (((True ∧ some k_ ≠ (u3 : Value).ownBlock) ∧ some k_ ≠ (.slice Ao18 y228.length co18 : Value).ownBlock) ∧ some k_ ≠ (.slice Ao20 t231.length co20 : Value).ownBlock)) (n := t235.length) (c := co24) ?_).2.2; exact (by (with_reducible repeat (first | apply Kd.R_alloc | apply Kd.R_drewN | apply Kd.R_drew)); exact (Kd.R_mono (Kd.R_far (p := ⟨gb238, 1, none⟩) (Kd.R_far (p := ⟨gb238, 0, none⟩) (Kd.R_types HO237.out BK238.out (by decide)) (fun _ hk => hk.2) (.int .i64 t234)) (fun _ hk => hk.2) (.slice Ao24 t235.length co24)) (fun _ h_ => h_.1)))); (case aB => exact bq); (case aF => exact (fun k_ hk => ⟨Kd.fresh' (Kd.R_lt (by (with_reducible repeat (first | apply Kd.R_alloc | apply Kd.R_drewN | apply Kd.R_drew)); exact (Kd.R_mono (Kd.R_far (p := ⟨gb238, 1, none⟩) (Kd.R_far (p := ⟨gb238, 0, none⟩) (Kd.R_types HO230.out BK238.out (by decide)) (fun _ hk => hk.2) (.int .i64 t234)) (fun _ hk => hk.2) (.slice Ao24 t235.length co24)) (fun _ h_ => h_.1)))) k_ hk, Kd.fresh' (Kd.R_lt (by (with_reducible repeat (first | apply Kd.R_alloc | apply Kd.R_drewN | apply Kd.R_drew)); exact (Kd.R_mono (Kd.R_far (p := ⟨gb238, 1, none⟩) (Kd.R_far (p := ⟨gb238, 0, none⟩) (Kd.R_types HO233.out BK238.out (by decide)) (fun _ hk => hk.2) (.int .i64 t234)) (fun _ hk => hk.2) (.slice Ao24 t235.length co24)) (fun _ h_ => h_.1)))) k_ hk, Kd.fresh' (Kd.R_lt (by (with_reducible repeat (first | apply Kd.R_alloc | apply Kd.R_drewN | apply Kd.R_drew)); exact (Kd.R_mono (Kd.R_far (p := ⟨gb238, 1, none⟩) (Kd.R_far (p := ⟨gb238, 0, none⟩) (Kd.R_types HO237.out BK238.out (by decide)) (fun _ hk => hk.2) (.int .i64 t234)) (fun _ hk => hk.2) (.slice Ao24 t235.length co24)) (fun _ h_ => h_.1)))) k_ hk⟩)); (case aO => exact (by (with_reducible repeat (first | apply Kd.R_alloc | apply Kd.R_drewN | apply Kd.R_drew)); exact Kd.R_mono (Kd.R_far (p := ⟨gb238, 1, none⟩) (Kd.R_far (p := ⟨gb238, 0, none⟩) (Kd.R_types HO_3.out BK238.out (by decide)) (fun _ hk => hk.2) (.int .i64 t234)) (fun _ hk => hk.2) (.slice Ao24 t235.length co24)) (fun _ hk => ⟨hk.1.1.1.2, ⟨hk.1.1.2, hk.1.2⟩⟩))); (case aS => exact (below_size bq)); (case aL => have := LMc13.out; omega); intro v240 w25 ho hb hg hat; rw [← Ny239.out] at ho; have n0_ := Aside0.mk (Kd.S_after (ok := (fun k_ => some k_ ≠ (.slice Ao18 y228.length co18 : Value).ownBlock ∧ some k_ ≠ (.slice Ao20 t231.length co20 : Value).ownBlock ∧ some k_ ≠ (.slice Ao24 t235.length co24 : Value).ownBlock)) (by (with_reducible repeat (first | apply Kd.S_alloc | apply Kd.S_drewN | apply Kd.S_drew)); exact Kd.S_mono (Kd.S_far (p := ⟨gb238, 1, none⟩) (Kd.S_far (p := ⟨gb238, 0, none⟩) (Kd.S_types HO_4.out BK238.out (by decide)) (fun _ hk => hk.2) (.int .i64 t234)) (fun _ hk => hk.2) (.slice Ao24 t235.length co24)) (fun _ hk => ⟨⟨hk.1.1.1.2, ⟨hk.1.1.2, hk.1.2⟩⟩, hk.1.1.1.1⟩)) hg hat); have n1_ := Aside0.mk (Kd.R_after (ok := (fun k_ => some k_ ≠ (.slice Ao20 t231.length co20 : Value).ownBlock ∧ some k_ ≠ (.slice Ao24 t235.length co24 : Value).ownBlock)) (by (with_reducible repeat (first | apply Kd.R_alloc | apply Kd.R_drewN | apply Kd.R_drew)); exact Kd.R_mono (Kd.R_far (p := ⟨gb238, 1, none⟩) (Kd.R_far (p := ⟨gb238, 0, none⟩) (Kd.R_types HO230.out BK238.out (by decide)) (fun _ hk => hk.2) (.int .i64 t234)) (fun _ hk => hk.2) (.slice Ao24 t235.length co24)) (fun _ hk => ⟨⟨hk.1.1.2, hk.1.2⟩, hk.1.1.1⟩)) hg hat); have n2_ := Aside0.mk (Kd.R_after (ok := (fun k_ => some k_ ≠ (.slice Ao18 y228.length co18 : Value).ownBlock ∧ some k_ ≠ (.slice Ao24 t235.length co24 : Value).ownBlock)) (by (with_reducible repeat (first | apply Kd.R_alloc | apply Kd.R_drewN | apply Kd.R_drew)); exact Kd.R_mono (Kd.R_far (p := ⟨gb238, 1, none⟩) (Kd.R_far (p := ⟨gb238, 0, none⟩) (Kd.R_types HO233.out BK238.out (by decide)) (fun _ hk => hk.2) (.int .i64 t234)) (fun _ hk => hk.2) (.slice Ao24 t235.length co24)) (fun _ hk => ⟨⟨hk.1.1.2, hk.1.2⟩, hk.1.1.1.2⟩)) hg hat); have n3_ := Aside0.mk (Kd.R_after (ok := (fun k_ => some k_ ≠ (.slice Ao18 y228.length co18 : Value).ownBlock ∧ some k_ ≠ (.slice Ao20 t231.length co20 : Value).ownBlock)) (by (with_reducible repeat (first | apply Kd.R_alloc | apply Kd.R_drewN | apply Kd.R_drew)); exact Kd.R_mono (Kd.R_far (p := ⟨gb238, 1, none⟩) (Kd.R_far (p := ⟨gb238, 0, none⟩) (Kd.R_types HO237.out BK238.out (by decide)) (fun _ hk => hk.2) (.int .i64 t234)) (fun _ hk => hk.2) (.slice Ao24 t235.length co24)) (fun _ hk => ⟨⟨hk.1.1.2, hk.1.2⟩, hk.1.1.1.2⟩)) hg hat); have n4_ := Aside0.mk (blk_grown (g := gb238) (o := .cells #[.int .i64 t234, .slice Ao24 t235.length co24] 32 (0, 0)) (by (with_reducible repeat (first | refine blk_drewN ?_ _ | refine blk_drew ?_ | refine blk_alloc ?_ _)); refine blk_put (cs := #[.int .i64 t234, .slice none 0 0]) ?_ 1 _ rfl; (with_reducible repeat (first | refine blk_drewN ?_ _ | refine blk_drew ?_ | refine blk_alloc ?_ _)); refine blk_put (cs := #[.int .i64 0, .slice none 0 0]) ?_ 0 _ rfl; (with_reducible repeat (first | refine blk_drewN ?_ _ | refine blk_drew ?_ | refine blk_alloc ?_ _)); exact BK238.out) hg (Kd.R_ne HO_3.out BK238.out (by decide))); have n5_ := Aside0.mk (hb); have n6_ := Aside0.mk (ho); revert n0_ n1_ n2_ n3_ n4_ n5_ n6_; clear HO_4 HO230 HO233 HO237 BK238 HB HO_3; intro HO_4 HO230 HO233 HO237 BK238 HB HO241; clear ho hb hg hat) | ((with_reducible refine gate_builtin (b := .append) (xs := #[.tmp 41, .tmp 43]) rfl ?_); (try (refine gate_guard (by rfl) ?_; dsimp only)); at_builtin; refine Kd.S_append (Kd.slice 5 (Kd.int .u8)) (w0 := w) w.heap.size rfl (.tmp 41) (.tmp 43) 40 22 (.slice none 0 0) 24 rfl Try.underlying40 info22 rfl (by decide) (by omega) u4 x4_1 t231 [.slice Ao20 t231.length co20] (fun k_ => some k_ ≠ (.slice Ao18 y228.length co18 : Value).ownBlock ∧ some k_ ≠ (.slice Ao24 t235.length co24 : Value).ownBlock ∧ some k_ ≠ (v240 : Value).ownBlock) (fun k_ => some k_ = (.slice Ao20 t231.length co20 : Value).ownBlock) rfl rfl ?aP (fun k_ hk_ => ((Kd.R_mono (ok' := fun k_ => ((fun k_ => some k_ ≠ (.slice Ao18 y228.length co18 : Value).ownBlock ∧ some k_ ≠ (.slice Ao24 t235.length co24 : Value).ownBlock ∧ some k_ ≠ (v240 : Value).ownBlock)) k_ ∧ some k_ ≠ (u4 : Value).ownBlock) (Kd.R_apart' (HO233.out) (Kd.S_typed HO_4.out) (by decide)) (fun k_ hk => ⟨⟨hk.1.1.1, ⟨hk.1.1.2, hk.1.2⟩⟩, hk.2⟩))).1 k_ hk_.symm) ?aF ?aO ?aB ?aS ?aL ?_; (case aP => exact Kd.M_row (Kd.R_mono (Kd.R_tight rfl (Kd.R_mono (ok' := fun k_ => ((fun k_ => some k_ ≠ (.slice Ao18 y228.length co18 : Value).ownBlock ∧ some k_ ≠ (.slice Ao24 t235.length co24 : Value).ownBlock ∧ some k_ ≠ (v240 : Value).ownBlock)) k_ ∧ some k_ ≠ (u4 : Value).ownBlock) (Kd.R_apart' (HO233.out) (Kd.S_typed HO_4.out) (by decide)) (fun k_ hk => ⟨⟨hk.1.1.1, ⟨hk.1.1.2, hk.1.2⟩⟩, hk.2⟩))) (fun _ h_ => h_))); (case aB => exact bq); (case aF => exact (fun k_ hk => ⟨Kd.fresh' (Kd.R_lt (q_r (HO230.out))) k_ hk, Kd.fresh' (Kd.R_lt (q_r (HO237.out))) k_ hk, Kd.fresh' (Kd.R_lt (q_r (HO241.out))) k_ hk⟩)); (case aO => exact (by (with_reducible repeat (first | apply Kd.S_alloc | apply Kd.S_drewN | apply Kd.S_drew)); exact Kd.S_mono HO_4.out (fun k_ hk => ⟨⟨hk.1.1, ⟨hk.1.2.2, hk.2⟩⟩, fun e_ => hk.1.2.1 e_⟩))); (case aS => exact (below_size bq)); (case aL => have := LMc14.out; omega); intro v243 w26 ho hb hg hat; rw [← Ny242.out] at ho; have n0_ := Aside0.mk (Kd.R_over' (q_r (HO230.out)) (Kd.S_typed (q_s (HO_4.out))) (by decide) hg); have n1_ := Aside0.mk (Kd.R_over' (q_r (HO237.out)) (Kd.S_typed (q_s (HO_4.out))) (by decide) hg); have n2_ := Aside0.mk (blk_grown (q_b BK238.out) hg (Kd.S_ne HO_4.out BK238.out (by decide))); have n3_ := Aside0.mk (Kd.R_over' (q_r (HO241.out)) (Kd.S_typed (q_s (HO_4.out))) (by decide) hg); have n4_ := Aside0.mk (hb); have n5_ := Aside0.mk (ho); revert n0_ n1_ n2_ n3_ n4_ n5_; clear HO230 HO237 BK238 HO241 HB HO_4 HO233; intro HO230 HO237 BK238 HO241 HB HO244; clear ho hb hg hat))
         go_roundg k1
         case measure => have := HK1.out; omega
         case rel => exact ⟨(y239), (y242), ((x5_1 + 1) % 256), q_i, H', ⟨by have := HK1.out; omega⟩, ⟨q_r (Kd.R_mono HO241.out (fun _ hk => trivial))⟩, ⟨q_s (Kd.S_mono HO244.out (fun _ hk => hk.2.2))⟩, ⟨bq⟩⟩
        ·rw [if_neg c14] at H
         exact absurd H (by simp)
       ·rw [if_neg c13] at H
        exact absurd H (by simp)
      ·rw [if_neg c12] at H
       have c12b0 : (t234 == 0) = false := beq_eq_false_iff_ne.mpr c12
       have c12b1 : (t234 != 0) = true := bne_iff_ne.mpr c12
       replace H := Option.bind_eq_some_iff.mp H
       obtain ⟨⟨t245, t246⟩, A270, H⟩ := H
       replace H : (if t245 = t234 then (laws_FnFrames.l0 k1 l0 x3_1 x4_1 ((x5_1 + 1) % 256)) else (none)) = some r := H
       have A27 := Aside0.mk A270
       clear A270
       by_cases c28 : t245 = t234
       ·rw [if_pos c28] at H
        have c28b0 : (t245 == t234) = true := beq_iff_eq.mpr c28
        have c28b1 : (t245 != t234) = false := bne_eq_false_iff_eq.mpr c28
        clear c28
        have H' := Aside0.mk H
        clear H
        try go_wp2_with (first | ((with_reducible refine gate_dst (N := 22) rfl ?_); (try (refine gate_guard (by rfl) ?_; dsimp only)); refine Kd.R_lit (Kd.int .u8) _ 5 ?hg (N := 22) ?hd (xs := ([x5_1] : List Int)) (inner := [.int .u8 x5_1]) (ok := fun _ => True) (okp := fun _ => True) ?hr ?hp (fun _ hk => hk) trivial (Below.refl _ _) (Nat.le_refl _) (by simp) ?_; (case hd => rfl); (case hg => rfl); (case hr => first | (go_simp; done) | (go_simp; rfl)); (case hp => exact (Reps.one (show Kd.M (Kd.int .u8) _ _ _ x5_1 [.int .u8 x5_1] from rfl) (Reps.none _ _))); intro v226 w29 ho30 hb hg_ hnew_; clear hg_ hnew_; (first | rw [← Ny225.out] at ho30 | (simp only [Int.reduceToNat] at ho30; rw [← Ny225.out] at ho30)); have n0_ := Aside0.mk (Kd.R_elder' (q_r (HO_3.out)) (Kd.R_base ho30) hb); have n1_ := Aside0.mk (Kd.S_elder' (q_s (HO_4.out)) (Kd.R_base ho30) hb); have n2_ := Aside0.mk (Kd.R_lower (Kd.R_new' ho30 (Kd.R_lt (q_r (HO_3.out)))) (below_size bq)); have n3_ := Aside0.mk (below_step bq hb); revert n0_ n1_ n2_ n3_; clear HO_3 HO_4 HB; intro HO_3 HO_4 HO227 HB; clear hb ho30) | ((with_reducible refine gate_builtin (b := .append) (xs := #[.tmp 22, .tmp 23]) rfl ?_); (try (refine gate_guard (by rfl) ?_; dsimp only)); at_builtin; refine Kd.R_append_rows (Kd.int .u8) (w0 := w) w.heap.size rfl (.tmp 22) (.tmp 23) 22 5 (.int .u8 0) 1 rfl Try.underlying22 info5 rfl (by decide) (by omega) v226 y225 l0 _ _ _ (fun k_ => some k_ ≠ (u3 : Value).ownBlock) (fun _ => False) rfl rfl ?aO ?aR (fun _ _ h => h) (fun _ h => h.elim) ?aF ?aB ?aS ?aL ?_; (case aR => repeat (first | exact (Kd.C_below HR0.out HB.out) | (with_reducible refine Kd.C_alloc ?_ _) | (with_reducible refine Kd.C_drewN ?_ _) | (with_reducible refine Kd.C_drew ?_))); (case aB => exact bq); (case aF => exact (fun k_ hk => Kd.fresh' (Kd.R_lt (q_r (HO_3.out))) k_ hk)); (case aO => exact (q_r (Kd.R_mono HO227.out (fun _ hk => hk.2)))); (case aS => exact (below_size bq)); (case aL => have := LMc9.out; omega); intro v229 w31 ho hb hg hat; rw [← Ny228.out] at ho; have n0_ := Aside0.mk (Kd.R_after (ok := (fun _ => True)) (q_r (HO_3.out)) hg hat); have n1_ := Aside0.mk (Kd.S_after (ok := (fun k_ => some k_ ≠ (u3 : Value).ownBlock)) (q_s (HO_4.out)) hg hat); have n2_ := Aside0.mk (hb); have n3_ := Aside0.mk (ho); revert n0_ n1_ n2_ n3_; clear HO_3 HO_4 HB HO227; intro HO_3 HO_4 HB HO230; clear ho hb hg hat; obtain ⟨Ao32, co32, eo32⟩ := Kd.R_slice HO230.out; subst eo32) | ((with_reducible refine gate_callee (f := 28) rfl ?_); refine goesLq (some 25) rfl rfl Try.func28 (by kernel_rfl) rfl #[.slice Ao32 y228.length co32] rfl ?_; (with_reducible refine (spec_DrawFrameRecord.calls k1 _ _ y228 t231 _ ?side1 ?side2 A10.out).mono ?_); (case side1 => exact q_c ((Kd.R_reads' HO230.out).2.2)); (case side2 => exact (Kd.R_reads' HO230.out).2.1); rintro e w33 ⟨v232, rfl, ho0, hb⟩; refine ⟨_, rfl, ?_⟩; have n0_ := Aside0.mk (Kd.R_elder' (q_r (HO_3.out)) (Kd.R_base ho0) hb); have n1_ := Aside0.mk (Kd.S_elder' (q_s (HO_4.out)) (Kd.R_base ho0) hb); have n2_ := Aside0.mk (Kd.R_elder' (q_r (HO230.out)) (Kd.R_base ho0) hb); have n3_ := Aside0.mk (Kd.R_lower (Kd.R_new' (Kd.R_new' ho0 (Kd.R_lt (q_r (HO_3.out)))) (Kd.R_lt (q_r (HO230.out)))) (below_size bq)); have n4_ := Aside0.mk (below_step bq hb); revert n0_ n1_ n2_ n3_ n4_; clear HO_3 HO_4 HO230 HB; intro HO_3 HO_4 HO230 HO233 HB; (try clear hb); (try clear hb2); (try clear hk); (try clear hi); (try clear ho0); obtain ⟨Ao34, co34, eo34⟩ := Kd.R_slice HO233.out; subst eo34) | ((with_reducible refine gate_callee (f := 21) rfl ?_); refine goesLq (some 27) rfl rfl Try.func21 (by kernel_rfl) rfl #[.slice Ao34 t231.length co34] rfl ?_; (with_reducible refine (impl_FrameRecord.calls k1 _ _ t231 t234 t235 _ ?side1 ?side2 A11.out).mono ?_); (case side1 => exact q_c ((Kd.R_reads' HO233.out).2.2)); (case side2 => exact (Kd.R_reads' HO233.out).2.1); rintro e w35 ⟨v236, rfl, ho0, hb⟩; refine ⟨_, rfl, ?_⟩; have n0_ := Aside0.mk (Kd.R_elder' (q_r (HO_3.out)) (Kd.R_base ho0) hb); have n1_ := Aside0.mk (Kd.S_elder' (q_s (HO_4.out)) (Kd.R_base ho0) hb); have n2_ := Aside0.mk (Kd.R_elder' (q_r (HO230.out)) (Kd.R_base ho0) hb); have n3_ := Aside0.mk (Kd.R_elder' (q_r (HO233.out)) (Kd.R_base ho0) hb); have n4_ := Aside0.mk (Kd.R_lower (Kd.R_new' (Kd.R_new' (Kd.R_new' ho0 (Kd.R_lt (q_r (HO_3.out)))) (Kd.R_lt (q_r (HO230.out)))) (Kd.R_lt (q_r (HO233.out)))) (below_size bq)); have n5_ := Aside0.mk (below_step bq hb); revert n0_ n1_ n2_ n3_ n4_ n5_; clear HO_3 HO_4 HO230 HO233 HB; intro HO_3 HO_4 HO230 HO233 HO237 HB; (try clear hb); (try clear hb2); (try clear hk); (try clear hi); (try clear ho0)) | ((with_reducible refine gate_dst (N := 7) rfl ?_); (try (refine gate_guard (by rfl) ?_; dsimp only)); refine q_box (N := 7) (cs := #[.int .i64 0, .slice none 0 0]) (t := 32) ?_; intro gb238 hg w36 hbox hb; have n0_ := Aside0.mk (Kd.R_below (q_r (HO_3.out)) hb); have n1_ := Aside0.mk (Kd.S_below (q_s (HO_4.out)) hb); have n2_ := Aside0.mk (Kd.R_below (q_r (HO230.out)) hb); have n3_ := Aside0.mk (Kd.R_below (q_r (HO233.out)) hb); have n4_ := Aside0.mk (Kd.R_below (q_r (HO237.out)) hb); have n5_ := Aside0.mk (below_step bq hb); have n6_ := Aside0.mk (hbox); have n7_ := Aside0.mk ((q_g hg bq : w.heap.size ≤ gb238)); have n8_ := Aside0.mk ((q_g hg bq : w.heap.size ≤ gb238)); revert n0_ n1_ n2_ n3_ n4_ n5_ n6_ n7_ n8_; clear HO_3 HO_4 HO230 HO233 HO237 HB; intro HO_3 HO_4 HO230 HO233 HO237 HB BK238 GW238 GE238; clear hb hbox hg; obtain ⟨hcz37_0, hcz37_1, hfz37_0, hfz37_1⟩ := q_2 BK238.out; obtain ⟨Ao38, co38, eo38⟩ := Kd.R_slice HO237.out; subst eo38))
        have n0_ : Aside0 (Kd.R (Kd.int .u8) 5 ((w36.setCell ⟨gb238, 0, none⟩ (.int .i64 t234)).setCell ⟨gb238, 1, none⟩ (.slice Ao38 t235.length co38)) w.heap.size (fun k_ => some k_ ≠ (.slice Ao32 y228.length co32 : Value).ownBlock ∧ some k_ ≠ (.slice Ao34 t231.length co34 : Value).ownBlock ∧ some k_ ≠ (.slice Ao38 t235.length co38 : Value).ownBlock) u3 x3_1) := ⟨by (with_reducible repeat (first | apply Kd.R_alloc | apply Kd.R_drewN | apply Kd.R_drew)); exact Kd.R_mono (Kd.R_far (p := ⟨gb238, 1, none⟩) (Kd.R_far (p := ⟨gb238, 0, none⟩) (Kd.R_types HO_3.out BK238.out (by decide)) (fun _ hk => hk.2) (.int .i64 t234)) (fun _ hk => hk.2) (.slice Ao38 t235.length co38)) (fun _ hk => ⟨hk.1.1.1.2, ⟨hk.1.1.2, hk.1.2⟩⟩)⟩
        have n1_ : Aside0 (Kd.S (Kd.slice 5 (Kd.int .u8)) 22 ((w36.setCell ⟨gb238, 0, none⟩ (.int .i64 t234)).setCell ⟨gb238, 1, none⟩ (.slice Ao38 t235.length co38)) w.heap.size (fun k_ => some k_ ≠ (u3 : Value).ownBlock ∧ some k_ ≠ (.slice Ao32 y228.length co32 : Value).ownBlock ∧ some k_ ≠ (.slice Ao34 t231.length co34 : Value).ownBlock ∧ some k_ ≠ (.slice Ao38 t235.length co38 : Value).ownBlock) u4 x4_1) := ⟨by (with_reducible repeat (first | apply Kd.S_alloc | apply Kd.S_drewN | apply Kd.S_drew)); exact Kd.S_mono (Kd.S_far (p := ⟨gb238, 1, none⟩) (Kd.S_far (p := ⟨gb238, 0, none⟩) (Kd.S_types HO_4.out BK238.out (by decide)) (fun _ hk => hk.2) (.int .i64 t234)) (fun _ hk => hk.2) (.slice Ao38 t235.length co38)) (fun _ hk => ⟨hk.1.1.1.1, ⟨hk.1.1.1.2, ⟨hk.1.1.2, hk.1.2⟩⟩⟩)⟩
        have n2_ : Aside0 (Kd.R (Kd.int .u8) 5 ((w36.setCell ⟨gb238, 0, none⟩ (.int .i64 t234)).setCell ⟨gb238, 1, none⟩ (.slice Ao38 t235.length co38)) w.heap.size (fun k_ => some k_ ≠ (u3 : Value).ownBlock ∧ some k_ ≠ (.slice Ao34 t231.length co34 : Value).ownBlock ∧ some k_ ≠ (.slice Ao38 t235.length co38 : Value).ownBlock) (.slice Ao32 y228.length co32) y228) := ⟨by (with_reducible repeat (first | apply Kd.R_alloc | apply Kd.R_drewN | apply Kd.R_drew)); exact Kd.R_mono (Kd.R_far (p := ⟨gb238, 1, none⟩) (Kd.R_far (p := ⟨gb238, 0, none⟩) (Kd.R_types HO230.out BK238.out (by decide)) (fun _ hk => hk.2) (.int .i64 t234)) (fun _ hk => hk.2) (.slice Ao38 t235.length co38)) (fun _ hk => by first | exact ⟨hk.1.1.1, ⟨hk.1.1.2, hk.1.2⟩⟩ | exact ⟨hk.1.1.1.2, ⟨hk.1.1.2, hk.1.2⟩⟩)⟩
        have n3_ : Aside0 (Kd.R (Kd.int .u8) 5 ((w36.setCell ⟨gb238, 0, none⟩ (.int .i64 t234)).setCell ⟨gb238, 1, none⟩ (.slice Ao38 t235.length co38)) w.heap.size (fun k_ => some k_ ≠ (u3 : Value).ownBlock ∧ some k_ ≠ (.slice Ao32 y228.length co32 : Value).ownBlock ∧ some k_ ≠ (.slice Ao38 t235.length co38 : Value).ownBlock) (.slice Ao34 t231.length co34) t231) := ⟨by (with_reducible repeat (first | apply Kd.R_alloc | apply Kd.R_drewN | apply Kd.R_drew)); exact Kd.R_mono (Kd.R_far (p := ⟨gb238, 1, none⟩) (Kd.R_far (p := ⟨gb238, 0, none⟩) (Kd.R_types HO233.out BK238.out (by decide)) (fun _ hk => hk.2) (.int .i64 t234)) (fun _ hk => hk.2) (.slice Ao38 t235.length co38)) (fun _ hk => ⟨hk.1.1.1.2, ⟨hk.1.1.2, hk.1.2⟩⟩)⟩
        have n4_ : Aside0 (Kd.R (Kd.int .u8) 5 ((w36.setCell ⟨gb238, 0, none⟩ (.int .i64 t234)).setCell ⟨gb238, 1, none⟩ (.slice Ao38 t235.length co38)) w.heap.size (fun k_ => some k_ ≠ (u3 : Value).ownBlock ∧ some k_ ≠ (.slice Ao32 y228.length co32 : Value).ownBlock ∧ some k_ ≠ (.slice Ao34 t231.length co34 : Value).ownBlock) (.slice Ao38 t235.length co38) t235) := ⟨by (with_reducible repeat (first | apply Kd.R_alloc | apply Kd.R_drewN | apply Kd.R_drew)); exact Kd.R_mono (Kd.R_far (p := ⟨gb238, 1, none⟩) (Kd.R_far (p := ⟨gb238, 0, none⟩) (Kd.R_types HO237.out BK238.out (by decide)) (fun _ hk => hk.2) (.int .i64 t234)) (fun _ hk => hk.2) (.slice Ao38 t235.length co38)) (fun _ hk => ⟨hk.1.1.1.2, ⟨hk.1.1.2, hk.1.2⟩⟩)⟩
        have n5_ : Aside0 (((w36.setCell ⟨gb238, 0, none⟩ (.int .i64 t234)).setCell ⟨gb238, 1, none⟩ (.slice Ao38 t235.length co38)).heap[gb238]? = some (.cells #[.int .i64 t234, .slice Ao38 t235.length co38] 32 (0, 0))) := ⟨by (with_reducible repeat (first | refine blk_drewN ?_ _ | refine blk_drew ?_ | refine blk_alloc ?_ _)); refine blk_put (cs := #[.int .i64 t234, .slice none 0 0]) ?_ 1 _ rfl; (with_reducible repeat (first | refine blk_drewN ?_ _ | refine blk_drew ?_ | refine blk_alloc ?_ _)); refine blk_put (cs := #[.int .i64 0, .slice none 0 0]) ?_ 0 _ rfl; (with_reducible repeat (first | refine blk_drewN ?_ _ | refine blk_drew ?_ | refine blk_alloc ?_ _)); exact BK238.out⟩
        have n6_ : Aside0 (Below w.heap.size w ((w36.setCell ⟨gb238, 0, none⟩ (.int .i64 t234)).setCell ⟨gb238, 1, none⟩ (.slice Ao38 t235.length co38))) := ⟨bq⟩
        (try clear HO_3)
        (try clear HO_4)
        (try clear HO230)
        (try clear HO233)
        (try clear HO237)
        (try clear BK238)
        (try clear HB)
        generalize ((w36.setCell ⟨gb238, 0, none⟩ (.int .i64 t234)).setCell ⟨gb238, 1, none⟩ (.slice Ao38 t235.length co38)) = w39 at n0_ n1_ n2_ n3_ n4_ n5_ n6_ ⊢
        have HO_3 := n0_
        have HO_4 := n1_
        have HO230 := n2_
        have HO233 := n3_
        have HO237 := n4_
        have BK238 := n5_
        have HB := n6_
        clear n0_ n1_ n2_ n3_ n4_ n5_ n6_
        have n0_ := Aside0.mk (Kd.R_drew HO_3.out)
        have n1_ := Aside0.mk (Kd.S_drew HO_4.out)
        have n2_ := Aside0.mk (Kd.R_drew HO230.out)
        have n3_ := Aside0.mk (Kd.R_drew HO233.out)
        have n4_ := Aside0.mk (Kd.R_drew HO237.out)
        have n5_ := Aside0.mk (blk_drew BK238.out)
        have n6_ := Aside0.mk (below_drew1 HB.out)
        clear HO_3
        clear HO_4
        clear HO230
        clear HO233
        clear HO237
        clear BK238
        clear HB
        have HO_3 := n0_
        have HO_4 := n1_
        have HO230 := n2_
        have HO233 := n3_
        have HO237 := n4_
        have BK238 := n5_
        have HB := n6_
        clear n0_ n1_ n2_ n3_ n4_ n5_ n6_
        refine start_ (n := 6) (S := fun w' => w'.cell? ⟨gb238, 0, none⟩ = some (.int .i64 t234) ∧ w'.cell? ⟨gb238, 1, none⟩ = some (.slice Ao38 t235.length co38)) (ds := []) #[false, false, false, false, false, false] (by kernel_rfl) rfl rfl ⟨q_z BK238.out 0, q_z BK238.out 1⟩ (fun hHeld => ?_)
        generalize w39.drew = w40 at HO_3 HO_4 HO230 HO233 HO237 BK238 HB hHeld ⊢
        refine pure_ (i := 0) (N := some 31) (v := ?_) (a' := ?_) #[true, false, false, false, false, false] rfl rfl (by kernel_rfl) (fun _ _ _ h => h) (Or.inl ⟨by rfl, ?_⟩) ?_ ?_
        rotate_left
        ·intro w'
         go_simp
         (try (simp only [Instr.field, asAgg]; go_simp))
         with_reducible rfl
        rotate_left
        ·simp only [Act.put, List.setIfInBounds_toArray, List.set_cons_zero, List.set_cons_succ, i64_w, i32_w]
         rfl
        refine pure_ (i := 3) (N := some 34) (v := ?_) (a' := ?_) #[true, false, false, true, false, false] rfl rfl (by kernel_rfl) (fun _ _ _ h => h) (Or.inl ⟨by rfl, ?_⟩) ?_ ?_
        rotate_left
        ·intro w'
         go_simp
         (try (simp only [Instr.field, asAgg]; go_simp))
         with_reducible rfl
        rotate_left
        ·simp only [Act.put, List.setIfInBounds_toArray, List.set_cons_zero, List.set_cons_succ, i64_w, i32_w]
         rfl
        refine take_ (i := 4) (N := some 35) (v := ?_) (a' := ?_) #[true, false, false, true, true, false] rfl rfl (by kernel_rfl) (fun _ _ _ h => h) (Or.inl ⟨by rfl, ?_⟩) hHeld ?_ ?_
        rotate_left
        ·rintro w' ⟨s0, s1⟩
         go_simp
         with_reducible rfl
        rotate_left
        ·simp only [Act.put, List.setIfInBounds_toArray, List.set_cons_zero, List.set_cons_succ, i64_w, i32_w]
         rfl
        refine one_ (i := 1) (N := some 32) #[true, true, false, true, true, false] rfl rfl (by kernel_rfl) (by decide) (fun K hK => ?_)
        refine goes_ Try.func19 (by kernel_rfl) rfl #[.slice Ao34 t231.length co34] (by rfl) rfl rfl (by (try simp only [List.map_toArray, List.map_cons, List.map_nil]); first | done | rfl | (simp only [List.length_drop, List.length_take]; rfl)) ?_
        with_reducible refine (spec_FrameRecord.calls k1 _ _ t231 t245 t246 _ ?side1 ?side2 A27.out).mono ?_
        (case side1 => exact q_c ((Kd.R_reads' HO233.out).2.2))
        (case side2 => exact (Kd.R_reads' HO233.out).2.1)
        rintro e w41 ⟨v247, rfl, ho0, hb⟩
        refine ⟨_, rfl, ?_⟩
        have n0_ := Aside0.mk (Kd.R_elder' (q_r (HO_3.out)) (Kd.R_base ho0) hb)
        have n1_ := Aside0.mk (Kd.S_elder' (q_s (HO_4.out)) (Kd.R_base ho0) hb)
        have n2_ := Aside0.mk (Kd.R_elder' (q_r (HO230.out)) (Kd.R_base ho0) hb)
        have n3_ := Aside0.mk (Kd.R_elder' (q_r (HO233.out)) (Kd.R_base ho0) hb)
        have n4_ := Aside0.mk (Kd.R_elder' (q_r (HO237.out)) (Kd.R_base ho0) hb)
        have n5_ := Aside0.mk (Kd.R_lower (Kd.R_new' (Kd.R_new' (Kd.R_new' (Kd.R_new' ho0 (Kd.R_lt (q_r (HO_3.out)))) (Kd.R_lt (q_r (HO230.out)))) (Kd.R_lt (q_r (HO233.out)))) (Kd.R_lt (q_r (HO237.out)))) (below_size bq))
        have n6_ := Aside0.mk (blk_below (q_b BK238.out) hb)
        have n7_ := Aside0.mk (below_step bq hb)
        clear HO_3
        clear HO_4
        clear HO230
        clear HO233
        clear HO237
        clear BK238
        clear HB
        have HO_3 := n0_
        have HO_4 := n1_
        have HO230 := n2_
        have HO233 := n3_
        have HO237 := n4_
        have HO248 := n5_
        have BK238 := n6_
        have HB := n7_
        clear n0_ n1_ n2_ n3_ n4_ n5_ n6_ n7_
        (try clear hb)
        (try clear hb2)
        (try clear hk)
        (try clear hi)
        (try clear ho0)
        refine hK.out _ _ ⟨q_z BK238.out 0, q_z BK238.out 1⟩ (fun hHeld => ?_)
        clear hK K
        refine norm_ (a' := ?_) ?_ ?_
        rotate_left
        ·show Act.put _ (some 32) _ = _
         simp only [Act.put, List.setIfInBounds_toArray, List.set_cons_zero, List.set_cons_succ, i64_w, i32_w]
         rfl
        refine pure_ (i := 2) (N := some 33) (v := ?_) (a' := ?_) #[true, true, true, true, true, false] rfl rfl (by kernel_rfl) (fun _ _ _ h => h) (Or.inl ⟨by rfl, ?_⟩) ?_ ?_
        rotate_left
        ·intro w'
         go_simp
         (try (simp only [Instr.field, asAgg]; go_simp))
         with_reducible rfl
        rotate_left
        ·simp only [Act.put, List.setIfInBounds_toArray, List.set_cons_zero, List.set_cons_succ, i64_w, i32_w]
         rfl
        refine pure_ (i := 5) (N := some 36) (v := ?_) (a' := ?_) #[true, true, true, true, true, true] rfl rfl (by kernel_rfl) (fun _ _ _ h => h) (Or.inl ⟨by rfl, ?_⟩) ?_ ?_
        rotate_left
        ·intro w'
         go_simp
         (try (simp only [Instr.field, asAgg]; go_simp))
         with_reducible rfl
        rotate_left
        ·simp only [Act.put, List.setIfInBounds_toArray, List.set_cons_zero, List.set_cons_succ, i64_w, i32_w]
         rfl
        refine done_ (by kernel_rfl) ?_
        try go_wp2
        go_roundg k1
        case measure => have := HK1.out; omega
        case rel => exact ⟨(x3_1), (x4_1), ((x5_1 + 1) % 256), q_i, H', ⟨by have := HK1.out; omega⟩, ⟨q_r (Kd.R_mono HO_3.out (fun _ hk => trivial))⟩, ⟨q_s (Kd.S_mono HO_4.out (fun _ hk => hk.1.1))⟩, ⟨bq⟩⟩
       ·rw [if_neg c28] at H
        exact absurd H (by simp)
     ·rw [if_neg c9] at H
      exact absurd H (by simp)
    ·rw [if_neg c8] at H
     have c8b0 := decide_eq_false c8
     clear c8
     replace H := Option.bind_eq_some_iff.mp H
     obtain ⟨t249, A420, H⟩ := H
     replace H : ((impl_UnframeAll.f k1 x3_1).bind fun bt250 => (if 0 ≤ t249 then (if t249 ≤ (x3_1.length : Int) then ((impl_UnframeAll.f k1 (x3_1.take (t249 : Int).toNat)).bind fun bt260 => (if bt250.1 = 0 then (if bt260.1 = 0 then (if (bt250.2.2.length : Int) = (x4_1.length : Int) then (if bt250.2.1 = (x3_1.length : Int) then (if (bt260.2.2.length : Int) > (x4_1.length : Int) then (none) else (if bt260.2.1 > t249 then (none) else (laws_FnFrames.l1 k1 x4_1 t249 0 0 bt250.1 bt250.2.1 bt250.2.2 bt260.1 bt260.2.1 bt260.2.2))) else (none)) else (none)) else (none)) else (none))) else (none)) else (none))) = some r := H
     have A42 := Aside0.mk A420
     clear A420
     replace H := Option.bind_eq_some_iff.mp H
     obtain ⟨⟨t250, t251, t252⟩, A430, H⟩ := H
     replace H : (if 0 ≤ t249 then (if t249 ≤ (x3_1.length : Int) then ((impl_UnframeAll.f k1 (x3_1.take (t249 : Int).toNat)).bind fun bt260 => (if t250 = 0 then (if bt260.1 = 0 then (if (t252.length : Int) = (x4_1.length : Int) then (if t251 = (x3_1.length : Int) then (if (bt260.2.2.length : Int) > (x4_1.length : Int) then (none) else (if bt260.2.1 > t249 then (none) else (laws_FnFrames.l1 k1 x4_1 t249 0 0 t250 t251 t252 bt260.1 bt260.2.1 bt260.2.2))) else (none)) else (none)) else (none)) else (none))) else (none)) else (none)) = some r := H
     have A43 := Aside0.mk A430
     clear A430
     by_cases c44 : 0 ≤ t249
     ·rw [if_pos c44] at H
      have c44b0 := eq_true c44
      have c44b1 := decide_eq_true c44
      clear c44
      by_cases c45 : t249 ≤ (x3_1.length : Int)
      ·rw [if_pos c45] at H
       have c45b0 := eq_true c45
       have c45b1 := decide_eq_true c45
       clear c45
       obtain ⟨y256, hy256⟩ : ∃ y_ : List Int, y_ = (x3_1.take (t249 : Int).toNat) := ⟨_, rfl⟩
       replace H : ((impl_UnframeAll.f k1 y256).bind fun bt260 => (if t250 = 0 then (if bt260.1 = 0 then (if (t252.length : Int) = (x4_1.length : Int) then (if t251 = (x3_1.length : Int) then (if (bt260.2.2.length : Int) > (x4_1.length : Int) then (none) else (if bt260.2.1 > t249 then (none) else (laws_FnFrames.l1 k1 x4_1 t249 0 0 t250 t251 t252 bt260.1 bt260.2.1 bt260.2.2))) else (none)) else (none)) else (none)) else (none))) = some r := q_h hy256 H
       have Ny256 := Aside0.mk hy256
       clear hy256
       replace H := Option.bind_eq_some_iff.mp H
       obtain ⟨⟨t260, t261, t262⟩, A460, H⟩ := H
       replace H : (if t250 = 0 then (if t260 = 0 then (if (t252.length : Int) = (x4_1.length : Int) then (if t251 = (x3_1.length : Int) then (if (t262.length : Int) > (x4_1.length : Int) then (none) else (if t261 > t249 then (none) else (laws_FnFrames.l1 k1 x4_1 t249 0 0 t250 t251 t252 t260 t261 t262))) else (none)) else (none)) else (none)) else (none)) = some r := H
       have A46 := Aside0.mk A460
       clear A460
       by_cases c47 : t250 = 0
       ·rw [if_pos c47] at H
        have c47b0 : (t250 == 0) = true := beq_iff_eq.mpr c47
        have c47b1 : (t250 != 0) = false := bne_eq_false_iff_eq.mpr c47
        clear c47
        by_cases c48 : t260 = 0
        ·rw [if_pos c48] at H
         have c48b0 : (t260 == 0) = true := beq_iff_eq.mpr c48
         have c48b1 : (t260 != 0) = false := bne_eq_false_iff_eq.mpr c48
         clear c48
         by_cases c49 : (t252.length : Int) = (x4_1.length : Int)
         ·rw [if_pos c49] at H
          have c49b0 : ((t252.length : Int) == (x4_1.length : Int)) = true := beq_iff_eq.mpr c49
          have c49b1 : ((t252.length : Int) != (x4_1.length : Int)) = false := bne_eq_false_iff_eq.mpr c49
          have c49b2 : (t252.length == x4_1.length) = true := by first | simpa using c49 | (simp at c49 ⊢; omega)
          clear c49
          by_cases c50 : t251 = (x3_1.length : Int)
          ·rw [if_pos c50] at H
           have c50b0 : (t251 == (x3_1.length : Int)) = true := beq_iff_eq.mpr c50
           have c50b1 : (t251 != (x3_1.length : Int)) = false := bne_eq_false_iff_eq.mpr c50
           clear c50
           by_cases c51 : (t262.length : Int) > (x4_1.length : Int)
           ·rw [if_pos c51] at H
            exact absurd H (by simp)
           ·rw [if_neg c51] at H
            have c51b0 := decide_eq_false c51
            have c51b1 : decide (x4_1.length < t262.length) = false := decide_eq_false (fun h => c51 (Int.ofNat_lt.mpr h))
            clear c51
            by_cases c52 : t261 > t249
            ·rw [if_pos c52] at H
             exact absurd H (by simp)
            ·rw [if_neg c52] at H
             have c52b0 := decide_eq_false c52
             clear c52
             have H' := Aside0.mk H
             clear H
             obtain ⟨Ao53, co53, eo53⟩ := Kd.R_slice HO_3.out
             subst eo53
             go_wp2_with (first | ((with_reducible refine gate_callee (f := 29) rfl ?_); refine goesLq (some 49) rfl rfl Try.func29 (by kernel_rfl) rfl #[.slice A0 l0.length c0, .int .i64 1, .int .i64 (wrap64 ((x3_1.length : Int) + 1))] rfl ?_; (with_reducible refine (laws_lwAt.calls _ _ l0 1 (wrap64 ((x3_1.length : Int) + 1)) t249 _ ?side1 ?side2 A42.out).mono ?_); (case side1 => exact q_c ((Kd.C_below HR0.out HB.out))); (case side2 => exact HC0.out); rintro e w' ⟨rfl, ⟨nd, rfl⟩⟩; refine ⟨_, rfl, ?_⟩; (try (rw [drewN_self wr]; generalize hq_ : World.drewN wr _ = wr; have n0_ : Aside0 (Kd.R (Kd.int .u8) 5 wr w.heap.size (fun _ => True) (.slice Ao53 x3_1.length co53) x3_1) := ⟨by rw [← hq_]; exact (q_r (HO_3.out))⟩; have n1_ : Aside0 (Kd.S (Kd.slice 5 (Kd.int .u8)) 22 wr w.heap.size (fun k_ => some k_ ≠ (.slice Ao53 x3_1.length co53 : Value).ownBlock) u4 x4_1) := ⟨by rw [← hq_]; exact (q_s (HO_4.out))⟩; have n2_ : Aside0 (Below w.heap.size w wr) := ⟨by rw [← hq_]; exact bq⟩; clear HO_3 HO_4 HB hq_; have HO_3 := n0_; have HO_4 := n1_; have HB := n2_; clear n0_ n1_ n2_))) | ((with_reducible refine gate_callee (f := 30) rfl ?_); refine goesLq (some 51) rfl rfl Try.func30 (by kernel_rfl) rfl #[.slice Ao53 x3_1.length co53] rfl ?_; (with_reducible refine (impl_UnframeAll.calls k1 _ _ x3_1 t250 t251 t252 _ ?side1 ?side2 A43.out).mono ?_); (case side1 => exact q_c ((Kd.R_reads' HO_3.out).2.2)); (case side2 => exact (Kd.R_reads' HO_3.out).2.1); rintro e w54 ⟨v253, rfl, ho0, hb⟩; refine ⟨_, rfl, ?_⟩; have n0_ := Aside0.mk (Kd.R_below (q_r (HO_3.out)) hb); have n1_ := Aside0.mk (Kd.S_elder' (q_s (HO_4.out)) (Kd.S_base ho0) hb); have n2_ := Aside0.mk (Kd.S_lower (Kd.S_new' (Kd.S_new' ho0 (Kd.R_lt (q_r (HO_3.out)))) (Kd.S_lt (q_s (HO_4.out)))) (below_size bq)); have n3_ := Aside0.mk (below_step bq hb); revert n0_ n1_ n2_ n3_; clear HO_3 HO_4 HB; intro HO_3 HO_4 HO254 HB; (try clear hb); (try clear hb2); (try clear hk); (try clear hi); (try clear ho0)) | ((with_reducible refine gate_dst (N := 9) rfl ?_); (try (refine gate_guard (by rfl) ?_; dsimp only)); refine q_box (N := 9) (cs := #[.int .i64 0, .int .i64 0, .slice none 0 0]) (t := 43) ?_; intro gb255 hg w55 hbox hb; have n0_ := Aside0.mk (Kd.R_below (q_r (HO_3.out)) hb); have n1_ := Aside0.mk (Kd.S_below (q_s (HO_4.out)) hb); have n2_ := Aside0.mk (Kd.S_below (q_s (HO254.out)) hb); have n3_ := Aside0.mk (below_step bq hb); have n4_ := Aside0.mk (hbox); have n5_ := Aside0.mk ((q_g hg bq : w.heap.size ≤ gb255)); have n6_ := Aside0.mk ((q_g hg bq : w.heap.size ≤ gb255)); revert n0_ n1_ n2_ n3_ n4_ n5_ n6_; clear HO_3 HO_4 HO254 HB; intro HO_3 HO_4 HO254 HB BK255 GW255 GE255; clear hb hbox hg; obtain ⟨hcz56_0, hcz56_1, hcz56_2, hfz56_0, hfz56_1, hfz56_2⟩ := q_3 BK255.out; obtain ⟨Ao57, co57, eo57⟩ := Kd.S_slice HO254.out; subst eo57) | ((with_reducible refine gate_store (t := 43) (p := 9) rfl ?_); refine store_event (t := 43) (p := 9) (v := ?vo_w58) (w1 := (((w55.setCell ⟨gb255, 0, none⟩ (.int .i64 t250)).setCell ⟨gb255, 1, none⟩ (.int .i64 t251)).setCell ⟨gb255, 2, none⟩ (.slice Ao57 t252.length co57))) ?hg ?ho ?hn ?hr ?_; (case ho => rfl); (case hg => rfl); (case hn => rfl); (case hr => first | (go_simp; done) | (go_simp; rfl)); intro w58 hw; have n0_ : Aside0 (Kd.R (Kd.int .u8) 5 w58 w.heap.size (fun _ => True) (.slice Ao53 x3_1.length co53) x3_1) := ⟨(by rw [hw]; exact (by (with_reducible repeat (first | apply Kd.R_alloc | apply Kd.R_drewN | apply Kd.R_drew)); exact Kd.R_mono (Kd.R_far (p := ⟨gb255, 2, none⟩) (Kd.R_far (p := ⟨gb255, 1, none⟩) (Kd.R_far (p := ⟨gb255, 0, none⟩) (Kd.R_types HO_3.out BK255.out (by decide)) (fun _ hk => hk.2) (.int .i64 t250)) (fun _ hk => hk.2) (.int .i64 t251)) (fun _ hk => hk.2) (.slice Ao57 t252.length co57)) (fun _ hk => trivial)))⟩; have n1_ : Aside0 (Kd.S (Kd.slice 5 (Kd.int .u8)) 22 w58 w.heap.size (fun k_ => some k_ ≠ (.slice Ao53 x3_1.length co53 : Value).ownBlock ∧ some k_ ≠ (.slice Ao57 t252.length co57 : Value).ownBlock) u4 x4_1) := ⟨(by rw [hw]; exact (by (with_reducible repeat (first | apply Kd.S_alloc | apply Kd.S_drewN | apply Kd.S_drew)); exact Kd.S_mono (Kd.S_far (p := ⟨gb255, 2, none⟩) (Kd.S_far (p := ⟨gb255, 1, none⟩) (Kd.S_far (p := ⟨gb255, 0, none⟩) (Kd.S_types HO_4.out BK255.out (by decide)) (fun _ hk => hk.2) (.int .i64 t250)) (fun _ hk => hk.2) (.int .i64 t251)) (fun _ hk => hk.2) (.slice Ao57 t252.length co57)) (fun _ hk => ⟨hk.1.1, hk.1.2⟩)))⟩; have n2_ : Aside0 (Kd.S (Kd.slice 5 (Kd.int .u8)) 22 w58 w.heap.size (fun k_ => some k_ ≠ (.slice Ao53 x3_1.length co53 : Value).ownBlock ∧ some k_ ≠ (u4 : Value).ownBlock) (.slice Ao57 t252.length co57) t252) := ⟨(by rw [hw]; exact (by (with_reducible repeat (first | apply Kd.S_alloc | apply Kd.S_drewN | apply Kd.S_drew)); exact Kd.S_mono (Kd.S_far (p := ⟨gb255, 2, none⟩) (Kd.S_far (p := ⟨gb255, 1, none⟩) (Kd.S_far (p := ⟨gb255, 0, none⟩) (Kd.S_types HO254.out BK255.out (by decide)) (fun _ hk => hk.2) (.int .i64 t250)) (fun _ hk => hk.2) (.int .i64 t251)) (fun _ hk => hk.2) (.slice Ao57 t252.length co57)) (fun _ hk => ⟨hk.1.1.2, hk.1.2⟩)))⟩; have n3_ : Aside0 (w58.heap[gb255]? = some (.cells #[.int .i64 t250, .int .i64 t251, .slice Ao57 t252.length co57] 43 (0, 0))) := ⟨(by rw [hw]; exact (by (with_reducible repeat (first | refine blk_drewN ?_ _ | refine blk_drew ?_ | refine blk_alloc ?_ _)); refine blk_put (cs := #[.int .i64 t250, .int .i64 t251, .slice none 0 0]) ?_ 2 _ rfl; (with_reducible repeat (first | refine blk_drewN ?_ _ | refine blk_drew ?_ | refine blk_alloc ?_ _)); refine blk_put (cs := #[.int .i64 t250, .int .i64 0, .slice none 0 0]) ?_ 1 _ rfl; (with_reducible repeat (first | refine blk_drewN ?_ _ | refine blk_drew ?_ | refine blk_alloc ?_ _)); refine blk_put (cs := #[.int .i64 0, .int .i64 0, .slice none 0 0]) ?_ 0 _ rfl; (with_reducible repeat (first | refine blk_drewN ?_ _ | refine blk_drew ?_ | refine blk_alloc ?_ _)); exact BK255.out))⟩; have n4_ : Aside0 (Below w.heap.size w w58) := ⟨(by rw [hw]; exact bq)⟩; revert n0_ n1_ n2_ n3_ n4_; clear hw HO_3 HO_4 HO254 BK255 HB; intro HO_3 HO_4 HO254 BK255 HB; have q59 : (t249 : Int) ≤ ((x3_1.length : Int) : Int) := q_d; obtain ⟨i059, hi059, _, hsz59, _⟩ := info_parts info5; have hroom59 : x3_1.length ≤ co53 := (Kd.R_reads' HO_3.out).2.1; have hC59 : Kd.C (Kd.int .u8) _ Ao53 x3_1.length x3_1 := (Kd.R_reads' HO_3.out).2.2; have hcut59 := cut_to (P := Try.prog) 22 5 .i64 Try.underlying22 hi059 Ao53 x3_1.length co53 t249 q_d q59 hroom59; have hr59 := Kd.C_take (m := (t249 : Int).toNat) hC59 (by omega); have hy59 : y256.length = (t249 : Int).toNat := (by rw [Ny256.out, List.length_take]; omega); rw [← Ny256.out] at hr59; rw [← hy59] at hcut59; have HR259 := Aside0.mk hr59; have HC259 := Aside0.mk (show y256.length ≤ co53 from by omega); clear hr59 hC59 hroom59 hi059 hsz59; have KY59 := Aside0.mk hy59; clear hy59; have KL59 := Aside0.mk (show (t249 : Int).toNat ≤ x3_1.length from by omega); replace q59 := eq_true q59) | ((with_reducible refine gate_callee (f := 30) rfl ?_); refine goesLq (some 55) rfl rfl Try.func30 (by kernel_rfl) rfl #[.slice Ao53 y256.length co53] rfl ?_; (with_reducible refine (impl_UnframeAll.calls k1 _ _ y256 t260 t261 t262 _ ?side1 ?side2 A46.out).mono ?_); (case side1 => exact q_c ((by repeat (first | (with_reducible exact HR259.out) | (with_reducible refine Kd.C_alloc ?_ _) | (with_reducible refine Kd.C_drewN ?_ _) | (with_reducible refine Kd.C_drew ?_) | exact HR259.out)))); (case side2 => exact HC259.out); rintro e w60 ⟨v263, rfl, ho0, hb⟩; refine ⟨_, rfl, ?_⟩; have n0_ := Aside0.mk (Kd.R_below (q_r (HO_3.out)) hb); have n1_ := Aside0.mk (Kd.S_elder' (q_s (HO_4.out)) (Kd.S_base ho0) hb); have n2_ := Aside0.mk (Kd.S_elder' (q_s (HO254.out)) (Kd.S_base ho0) hb); have n3_ := Aside0.mk (Kd.S_lower (Kd.S_new' (Kd.S_new' (Kd.S_new' ho0 (Kd.R_lt (q_r (HO_3.out)))) (Kd.S_lt (q_s (HO_4.out)))) (Kd.S_lt (q_s (HO254.out)))) (below_size bq)); have n4_ := Aside0.mk (blk_below (q_b BK255.out) hb); have n5_ := Aside0.mk (Kd.C_below (by repeat (first | (with_reducible exact HR259.out) | (with_reducible refine Kd.C_alloc ?_ _) | (with_reducible refine Kd.C_drewN ?_ _) | (with_reducible refine Kd.C_drew ?_) | exact HR259.out)) hb); have n6_ := Aside0.mk (below_step bq hb); revert n0_ n1_ n2_ n3_ n4_ n5_ n6_; clear HO_3 HO_4 HO254 BK255 HR259 HB; intro HO_3 HO_4 HO254 HO264 BK255 HR259 HB; (try clear hb); (try clear hb2); (try clear hk); (try clear hi); (try clear ho0)) | ((with_reducible refine gate_dst (N := 10) rfl ?_); (try (refine gate_guard (by rfl) ?_; dsimp only)); refine q_box (N := 10) (cs := #[.int .i64 0, .int .i64 0, .slice none 0 0]) (t := 43) ?_; intro gb265 hg w61 hbox hb; have n0_ := Aside0.mk (Kd.R_below (q_r (HO_3.out)) hb); have n1_ := Aside0.mk (Kd.S_below (q_s (HO_4.out)) hb); have n2_ := Aside0.mk (Kd.S_below (q_s (HO254.out)) hb); have n3_ := Aside0.mk (Kd.S_below (q_s (HO264.out)) hb); have n4_ := Aside0.mk (blk_below (q_b BK255.out) hb); have n5_ := Aside0.mk (Kd.C_below (by repeat (first | (with_reducible exact HR259.out) | (with_reducible refine Kd.C_alloc ?_ _) | (with_reducible refine Kd.C_drewN ?_ _) | (with_reducible refine Kd.C_drew ?_) | exact HR259.out)) hb); have n6_ := Aside0.mk (below_step bq hb); have n7_ := Aside0.mk (hbox); have n8_ := Aside0.mk ((q_g hg bq : w.heap.size ≤ gb265)); have n9_ := Aside0.mk ((q_g hg bq : w.heap.size ≤ gb265)); have n10_ := Aside0.mk ((q_n hg (q_b BK255.out) : gb255 ≠ gb265)); have n11_ := Aside0.mk ((q_m hg (q_b BK255.out) : gb265 ≠ gb255)); revert n0_ n1_ n2_ n3_ n4_ n5_ n6_ n7_ n8_ n9_ n10_ n11_; clear HO_3 HO_4 HO254 HO264 BK255 HR259 HB; intro HO_3 HO_4 HO254 HO264 BK255 HR259 HB BK265 GW265 GE265 NB255_265 NB265_255; clear hb hbox hg; have hnb62 := NB265_255.out; have hnc62 := NB255_265.out; obtain ⟨hcz63_0, hcz63_1, hcz63_2, hfz63_0, hfz63_1, hfz63_2⟩ := q_3 BK265.out; obtain ⟨Ao64, co64, eo64⟩ := Kd.S_slice HO264.out; subst eo64; obtain ⟨hcz65_0, hcz65_1, hcz65_2, hfz65_0, hfz65_1, hfz65_2⟩ := q_3 BK255.out; obtain ⟨Ao66, co66, eo66⟩ := Kd.S_slice HO_4.out; subst eo66))
             go_loopg [11, 12] k1 (fun kq v11 v12 w' => ∃ (x11_2 : Int) (x12_2 : Int), v11 = .int .i64 x11_2 ∧ v12 = .int .i64 x12_2 ∧ Aside0 (laws_FnFrames.l1 kq x4_1 t249 x11_2 x12_2 t250 t251 t252 t260 t261 t262 = some r) ∧ Aside0 (kq ≤ k1) ∧ Aside0 (Kd.S (Kd.slice 5 (Kd.int .u8)) 22 w' w.heap.size (fun k_ => some k_ ≠ ((.slice Ao57 t252.length co57) : Value).ownBlock ∧ some k_ ≠ ((.slice Ao64 t262.length co64) : Value).ownBlock) (.slice Ao66 x4_1.length co66) x4_1) ∧ Aside0 (Kd.S (Kd.slice 5 (Kd.int .u8)) 22 w' w.heap.size (fun k_ => some k_ ≠ ((.slice Ao66 x4_1.length co66) : Value).ownBlock ∧ some k_ ≠ ((.slice Ao64 t262.length co64) : Value).ownBlock) (.slice Ao57 t252.length co57) t252) ∧ Aside0 (Kd.S (Kd.slice 5 (Kd.int .u8)) 22 w' w.heap.size (fun k_ => some k_ ≠ ((.slice Ao66 x4_1.length co66) : Value).ownBlock ∧ some k_ ≠ ((.slice Ao57 t252.length co57) : Value).ownBlock) (.slice Ao64 t262.length co64) t262) ∧ Aside0 (w'.heap[gb255]? = some (.cells #[.int .i64 t250, .int .i64 t251, (.slice Ao57 t252.length co57)] 43 (0, 0))) ∧ Aside0 (w'.heap[gb265]? = some (.cells #[.int .i64 t260, .int .i64 t261, (.slice Ao64 t262.length co64)] 43 (0, 0))) ∧ Aside0 (Below w.heap.size w w'))
             case atStart => exact ⟨(0), (0), q_i, q_i, H', ⟨Nat.le_refl _⟩, ⟨by (with_reducible repeat (first | apply Kd.S_alloc | apply Kd.S_drewN | apply Kd.S_drew)); exact Kd.S_mono (Kd.S_far (p := ⟨gb265, 2, none⟩) (Kd.S_far (p := ⟨gb265, 1, none⟩) (Kd.S_far (p := ⟨gb265, 0, none⟩) (Kd.S_types HO_4.out BK265.out (by decide)) (fun _ hk => hk.2) (.int .i64 t260)) (fun _ hk => hk.2) (.int .i64 t261)) (fun _ hk => hk.2) (.slice Ao64 t262.length co64)) (fun _ hk => ⟨hk.1.1.2, hk.1.2⟩)⟩, ⟨by (with_reducible repeat (first | apply Kd.S_alloc | apply Kd.S_drewN | apply Kd.S_drew)); exact Kd.S_mono (Kd.S_far (p := ⟨gb265, 2, none⟩) (Kd.S_far (p := ⟨gb265, 1, none⟩) (Kd.S_far (p := ⟨gb265, 0, none⟩) (Kd.S_types HO254.out BK265.out (by decide)) (fun _ hk => hk.2) (.int .i64 t260)) (fun _ hk => hk.2) (.int .i64 t261)) (fun _ hk => hk.2) (.slice Ao64 t262.length co64)) (fun _ hk => ⟨hk.1.1.2, hk.1.2⟩)⟩, ⟨by (with_reducible repeat (first | apply Kd.S_alloc | apply Kd.S_drewN | apply Kd.S_drew)); exact Kd.S_mono (Kd.S_far (p := ⟨gb265, 2, none⟩) (Kd.S_far (p := ⟨gb265, 1, none⟩) (Kd.S_far (p := ⟨gb265, 0, none⟩) (Kd.S_types HO264.out BK265.out (by decide)) (fun _ hk => hk.2) (.int .i64 t260)) (fun _ hk => hk.2) (.int .i64 t261)) (fun _ hk => hk.2) (.slice Ao64 t262.length co64)) (fun _ hk => ⟨hk.1.1.2, hk.1.2⟩)⟩, ⟨by (with_reducible repeat (first | refine blk_drewN ?_ _ | refine blk_drew ?_ | refine blk_alloc ?_ _)); refine blk_far ?_ NB255_265.out _; (with_reducible repeat (first | refine blk_drewN ?_ _ | refine blk_drew ?_ | refine blk_alloc ?_ _)); refine blk_far ?_ NB255_265.out _; (with_reducible repeat (first | refine blk_drewN ?_ _ | refine blk_drew ?_ | refine blk_alloc ?_ _)); refine blk_far ?_ NB255_265.out _; (with_reducible repeat (first | refine blk_drewN ?_ _ | refine blk_drew ?_ | refine blk_alloc ?_ _)); exact BK255.out⟩, ⟨by (with_reducible repeat (first | refine blk_drewN ?_ _ | refine blk_drew ?_ | refine blk_alloc ?_ _)); refine blk_put (cs := #[.int .i64 t260, .int .i64 t261, .slice none 0 0]) ?_ 2 _ rfl; (with_reducible repeat (first | refine blk_drewN ?_ _ | refine blk_drew ?_ | refine blk_alloc ?_ _)); refine blk_put (cs := #[.int .i64 t260, .int .i64 0, .slice none 0 0]) ?_ 1 _ rfl; (with_reducible repeat (first | refine blk_drewN ?_ _ | refine blk_drew ?_ | refine blk_alloc ?_ _)); refine blk_put (cs := #[.int .i64 0, .int .i64 0, .slice none 0 0]) ?_ 0 _ rfl; (with_reducible repeat (first | refine blk_drewN ?_ _ | refine blk_drew ?_ | refine blk_alloc ?_ _)); exact BK265.out⟩, ⟨bq⟩⟩
             case round =>
              clear H'
              (try clear c1); (try clear c2); (try clear p2); (try clear c3); (try clear c4); (try clear c5); (try clear q5); (try clear c6); (try clear p6); (try clear c8); (try clear c8b0); (try clear c9)
              (try clear c12); (try clear c12b0); (try clear c12b1); (try clear c13); (try clear c14); (try clear c19); (try clear c21); (try clear c27); (try clear c28); (try clear c28b0); (try clear c28b1)
              (try clear c29); (try clear c30); (try clear c44); (try clear c44b0); (try clear c44b1); (try clear c45); (try clear c45b0); (try clear c45b1); (try clear c47); (try clear c47b0); (try clear c47b1)
              (try clear c48); (try clear c48b0); (try clear c48b1); (try clear c49); (try clear c49b0); (try clear c49b1); (try clear c49b2); (try clear c50); (try clear c50b0); (try clear c50b1); (try clear c51)
              (try clear c51b0); (try clear c51b1); (try clear c52); (try clear c52b0); (try clear q59); (try clear c62); (try clear p64); (try clear hcz23_0); (try clear hcz23_1); (try clear hcz37_0)
              (try clear hcz37_1); (try clear hcz56_0); (try clear hcz56_1); (try clear hcz56_2); (try clear hcz63_0); (try clear hcz63_1); (try clear hcz63_2); (try clear hcz65_0); (try clear hcz65_1)
              (try clear hcz65_2); (try clear hfz23_0); (try clear hfz23_1); (try clear hfz37_0); (try clear hfz37_1); (try clear hfz56_0); (try clear hfz56_1); (try clear hfz56_2); (try clear hfz63_0)
              (try clear hfz63_1); (try clear hfz63_2); (try clear hfz65_0); (try clear hfz65_1); (try clear hfz65_2); (try clear p2); (try clear q59)
              obtain ⟨x11_2, x12_2, rfl, rfl, HA, HK2, HO_4, HO_256002, HO_266002, BK255, BK265, HB⟩ := hrel
              cases gk with
              | zero => exact absurd HA.out (by simp [laws_FnFrames.l1])
              | succ k2 =>
               have H := HA.out
               clear HA
               simp only [laws_FnFrames.l1] at H
               by_cases c67 : x12_2 < (x4_1.length : Int)
               ·rw [if_pos c67] at H
                have c67b0 := decide_eq_true c67
                clear c67
                by_cases c68 : 0 ≤ x12_2
                ·rw [if_pos c68] at H
                 have c68b0 := decide_eq_true c68
                 clear c68
                 by_cases c69 : x12_2 < (t252.length : Int)
                 ·rw [if_pos c69] at H
                  have c69b0 := decide_eq_true c69
                  clear c69
                  by_cases c70 : (strOfNums (rd_L2 t252 x12_2)).toList = (strOfNums (rd_L2 x4_1 x12_2)).toList
                  ·rw [if_pos c70] at H
                   have c70b0 : ((strOfNums (rd_L2 t252 x12_2)).toList == (strOfNums (rd_L2 x4_1 x12_2)).toList) = true := beq_iff_eq.mpr c70
                   have c70b1 : ((strOfNums (rd_L2 t252 x12_2)).toList != (strOfNums (rd_L2 x4_1 x12_2)).toList) = false := bne_eq_false_iff_eq.mpr c70
                   clear c70
                   by_cases c71 : x12_2 < (t262.length : Int)
                   ·rw [if_pos c71] at H
                    have c71b0 := decide_eq_true c71
                    clear c71
                    by_cases c72 : (strOfNums (rd_L2 t262 x12_2)).toList = (strOfNums (rd_L2 x4_1 x12_2)).toList
                    ·rw [if_pos c72] at H
                     have c72b0 : ((strOfNums (rd_L2 t262 x12_2)).toList == (strOfNums (rd_L2 x4_1 x12_2)).toList) = true := beq_iff_eq.mpr c72
                     have c72b1 : ((strOfNums (rd_L2 t262 x12_2)).toList != (strOfNums (rd_L2 x4_1 x12_2)).toList) = false := bne_eq_false_iff_eq.mpr c72
                     clear c72
                     by_cases c73 : ((decide ((wrap64 ((wrap64 (x11_2 + ((rd_L2 x4_1 x12_2).length : Int))) + 4)) ≤ t249)) != (decide (x12_2 < (t262.length : Int)))) = true
                     ·rw [if_pos c73] at H
                      exact absurd H (by simp)
                     ·rw [if_neg c73] at H
                      have c73b0 : ((decide ((wrap64 ((wrap64 (x11_2 + ((rd_L2 x4_1 x12_2).length : Int))) + 4)) ≤ t249)) != (decide (x12_2 < (t262.length : Int)))) = false := by simpa using c73
                      (try (have c73s : decide ((wrap64 ((wrap64 (x11_2 + ((rd_L2 x4_1 x12_2).length : Int))) + 4)) ≤ t249) = true := by rw [show decide ((wrap64 ((wrap64 (x11_2 + ((rd_L2 x4_1 x12_2).length : Int))) + 4)) ≤ t249) = decide (x12_2 < (t262.length : Int)) from by simpa using c73]; assumption))
                      (try (have c73s : decide ((wrap64 ((wrap64 (x11_2 + ((rd_L2 x4_1 x12_2).length : Int))) + 4)) ≤ t249) = false := by rw [show decide ((wrap64 ((wrap64 (x11_2 + ((rd_L2 x4_1 x12_2).length : Int))) + 4)) ≤ t249) = decide (x12_2 < (t262.length : Int)) from by simpa using c73]; assumption))
                      (try (have c73b1 : decide ((decide ((wrap64 ((wrap64 (x11_2 + ((rd_L2 x4_1 x12_2).length : Int))) + 4)) ≤ t249)) = (decide (x12_2 < (t262.length : Int)))) = true := by simpa using c73))
                      (try (have c73b2 : ((decide ((wrap64 ((wrap64 (x11_2 + ((rd_L2 x4_1 x12_2).length : Int))) + 4)) ≤ t249)) == (decide (x12_2 < (t262.length : Int)))) = true := by simpa using c73))
                      clear c73
                      have H' := Aside0.mk H
                      clear H
                      try go_wp2
                      have n0_ := Aside0.mk (Kd.S_drew HO_4.out)
                      have n1_ := Aside0.mk (Kd.S_drew HO_256002.out)
                      have n2_ := Aside0.mk (Kd.S_drew HO_266002.out)
                      have n3_ := Aside0.mk (blk_drew BK255.out)
                      have n4_ := Aside0.mk (blk_drew BK265.out)
                      have n5_ := Aside0.mk (below_drew1 HB.out)
                      clear HO_4
                      clear HO_256002
                      clear HO_266002
                      clear BK255
                      clear BK265
                      clear HB
                      have HO_4 := n0_
                      have HO_256002 := n1_
                      have HO_266002 := n2_
                      have BK255 := n3_
                      have BK265 := n4_
                      have HB := n5_
                      clear n0_ n1_ n2_ n3_ n4_ n5_
                      have p266 : 0 ≤ (x12_2 : Int) := q_d
                      have q266 : x12_2 < (t252.length : Int) := q_d
                      obtain ⟨ad266, A266_0, c266_0, e266, hx266_0, hl266_0, hi266_0⟩ := at_L2 (Kd.S_reads' HO_256002.out).2.2 x12_2 p266 q266
                      cases e266
                      obtain ⟨ce266, hce266, hMe266, hcc266⟩ := Kd.S_get HO_256002.out [] x12_2 p266 (by first | exact q266 | exact q_d | (have e_ := (Kd.S_reads' HO_256002.out).1; omega))
                      obtain ⟨ve266_0, rfl, ge266_0⟩ := hMe266
                      have hv266_0 := hcc266 0 _ rfl
                      rw [Nat.add_zero, show ((Kd.slice 5 (Kd.int .u8))).sz = 1 from rfl, Nat.mul_one] at hv266_0
                      replace hv266_0 := Option.some.inj (hv266_0.symm.trans hx266_0)
                      rw [hv266_0] at ge266_0
                      have HL266_0 := Aside0.mk (show Kd.R (Kd.int .u8) 5 _ _ _ _ (rd_L2 t252 x12_2) from ge266_0)
                      clear hv266_0 ge266_0
                      clear hcc266 hce266
                      have HR266_0 := Aside0.mk hi266_0
                      have HC266_0 := Aside0.mk hl266_0
                      clear hi266_0 hl266_0
                      replace p266 := eq_true p266
                      replace q266 := eq_true q266
                      have hcv75 := Kd.C_string (P := Try.prog) (A := A266_0) (c := c266_0) Try.underlying22 Try.underlying5 Try.underlying9 (by repeat (first | (with_reducible exact HR266_0.out) | (with_reducible refine Kd.C_alloc ?_ _) | (with_reducible refine Kd.C_drewN ?_ _) | (with_reducible refine Kd.C_drew ?_) | exact HR266_0.out))
                      have p267 : 0 ≤ (x12_2 : Int) := q_d
                      have q267 : x12_2 < (x4_1.length : Int) := q_d
                      obtain ⟨ad267, A267_0, c267_0, e267, hx267_0, hl267_0, hi267_0⟩ := at_L2 (Kd.S_reads' HO_4.out).2.2 x12_2 p267 q267
                      cases e267
                      obtain ⟨ce267, hce267, hMe267, hcc267⟩ := Kd.S_get HO_4.out [] x12_2 p267 (by first | exact q267 | exact q_d | (have e_ := (Kd.S_reads' HO_4.out).1; omega))
                      obtain ⟨ve267_0, rfl, ge267_0⟩ := hMe267
                      have hv267_0 := hcc267 0 _ rfl
                      rw [Nat.add_zero, show ((Kd.slice 5 (Kd.int .u8))).sz = 1 from rfl, Nat.mul_one] at hv267_0
                      replace hv267_0 := Option.some.inj (hv267_0.symm.trans hx267_0)
                      rw [hv267_0] at ge267_0
                      have HL267_0 := Aside0.mk (show Kd.R (Kd.int .u8) 5 _ _ _ _ (rd_L2 x4_1 x12_2) from ge267_0)
                      clear hv267_0 ge267_0
                      clear hcc267 hce267
                      have HR267_0 := Aside0.mk hi267_0
                      have HC267_0 := Aside0.mk hl267_0
                      clear hi267_0 hl267_0
                      replace p267 := eq_true p267
                      replace q267 := eq_true q267
                      have hcv76 := Kd.C_string (P := Try.prog) (A := A267_0) (c := c267_0) Try.underlying22 Try.underlying5 Try.underlying9 (by repeat (first | (with_reducible exact HR267_0.out) | (with_reducible refine Kd.C_alloc ?_ _) | (with_reducible refine Kd.C_drewN ?_ _) | (with_reducible refine Kd.C_drew ?_) | exact HR267_0.out))
                      have p268 : 0 ≤ (x12_2 : Int) := q_d
                      have q268 : x12_2 < (t262.length : Int) := q_d
                      obtain ⟨ad268, A268_0, c268_0, e268, hx268_0, hl268_0, hi268_0⟩ := at_L2 (Kd.S_reads' HO_266002.out).2.2 x12_2 p268 q268
                      cases e268
                      obtain ⟨ce268, hce268, hMe268, hcc268⟩ := Kd.S_get HO_266002.out [] x12_2 p268 (by first | exact q268 | exact q_d | (have e_ := (Kd.S_reads' HO_266002.out).1; omega))
                      obtain ⟨ve268_0, rfl, ge268_0⟩ := hMe268
                      have hv268_0 := hcc268 0 _ rfl
                      rw [Nat.add_zero, show ((Kd.slice 5 (Kd.int .u8))).sz = 1 from rfl, Nat.mul_one] at hv268_0
                      replace hv268_0 := Option.some.inj (hv268_0.symm.trans hx268_0)
                      rw [hv268_0] at ge268_0
                      have HL268_0 := Aside0.mk (show Kd.R (Kd.int .u8) 5 _ _ _ _ (rd_L2 t262 x12_2) from ge268_0)
                      clear hv268_0 ge268_0
                      clear hcc268 hce268
                      have HR268_0 := Aside0.mk hi268_0
                      have HC268_0 := Aside0.mk hl268_0
                      clear hi268_0 hl268_0
                      replace p268 := eq_true p268
                      replace q268 := eq_true q268
                      have hcv77 := Kd.C_string (P := Try.prog) (A := A268_0) (c := c268_0) Try.underlying22 Try.underlying5 Try.underlying9 (by repeat (first | (with_reducible exact HR268_0.out) | (with_reducible refine Kd.C_alloc ?_ _) | (with_reducible refine Kd.C_drewN ?_ _) | (with_reducible refine Kd.C_drew ?_) | exact HR268_0.out))
                      have p269 : 0 ≤ (x12_2 : Int) := q_d
                      have q269 : x12_2 < (x4_1.length : Int) := q_d
                      obtain ⟨ad269, A269_0, c269_0, e269, hx269_0, hl269_0, hi269_0⟩ := at_L2 (Kd.S_reads' HO_4.out).2.2 x12_2 p269 q269
                      obtain rfl : ad267 = ad269 := (by injection e269)
                      obtain ⟨ce269, hce269, hMe269, hcc269⟩ := Kd.S_get HO_4.out [] x12_2 p269 (by first | exact q269 | exact q_d | (have e_ := (Kd.S_reads' HO_4.out).1; omega))
                      obtain ⟨ve269_0, rfl, ge269_0⟩ := hMe269
                      have hv269_0 := hcc269 0 _ rfl
                      rw [Nat.add_zero, show ((Kd.slice 5 (Kd.int .u8))).sz = 1 from rfl, Nat.mul_one] at hv269_0
                      replace hv269_0 := Option.some.inj (hv269_0.symm.trans hx269_0)
                      rw [hv269_0] at ge269_0
                      have HL269_0 := Aside0.mk (show Kd.R (Kd.int .u8) 5 _ _ _ _ (rd_L2 x4_1 x12_2) from ge269_0)
                      clear hv269_0 ge269_0
                      clear hcc269 hce269
                      have HR269_0 := Aside0.mk hi269_0
                      have HC269_0 := Aside0.mk hl269_0
                      clear hi269_0 hl269_0
                      replace p269 := eq_true p269
                      replace q269 := eq_true q269
                      have ea_ := Option.some.inj (hx267_0.symm.trans hx269_0)
                      injection ea_ with ea_ en_ ec_
                      subst ea_
                      subst ec_
                      clear en_
                      have hcv78 := Kd.C_string (P := Try.prog) (A := A267_0) (c := c267_0) Try.underlying22 Try.underlying5 Try.underlying9 (by repeat (first | (with_reducible exact HR269_0.out) | (with_reducible refine Kd.C_alloc ?_ _) | (with_reducible refine Kd.C_drewN ?_ _) | (with_reducible refine Kd.C_drew ?_) | exact HR269_0.out))
                      refine start_ (n := 33) (S := fun w' => w'.cell? ⟨gb255, 0, none⟩ = some (.int .i64 t250) ∧ w'.cell? ⟨gb255, 1, none⟩ = some (.int .i64 t251) ∧ w'.cell? ⟨gb255, 2, none⟩ = some (.slice (some ad266) t252.length co57) ∧ w'.cell? ⟨gb265, 0, none⟩ = some (.int .i64 t260) ∧ w'.cell? ⟨gb265, 1, none⟩ = some (.int .i64 t261) ∧ w'.cell? ⟨gb265, 2, none⟩ = some (.slice (some ad268) t262.length co64) ∧ w'.cell? (ad266.add (x12_2).toNat) = some (.slice A266_0 (rd_L2 t252 x12_2).length c266_0) ∧ w'.cell? (ad267.add (x12_2).toNat) = some (.slice A267_0 (rd_L2 x4_1 x12_2).length c267_0) ∧ w'.cell? (ad268.add (x12_2).toNat) = some (.slice A268_0 (rd_L2 t262 x12_2).length c268_0) ∧ w'.cell? (ad267.add (x12_2).toNat) = some (.slice A267_0 (rd_L2 x4_1 x12_2).length c267_0) ∧ (convert 22 9 (.slice A266_0 (rd_L2 t252 x12_2).length c266_0)).run Try.prog w' = .ok (.string (strOfNums (rd_L2 t252 x12_2))) w' ∧ (convert 22 9 (.slice A267_0 (rd_L2 x4_1 x12_2).length c267_0)).run Try.prog w' = .ok (.string (strOfNums (rd_L2 x4_1 x12_2))) w' ∧ (convert 22 9 (.slice A268_0 (rd_L2 t262 x12_2).length c268_0)).run Try.prog w' = .ok (.string (strOfNums (rd_L2 t262 x12_2))) w' ∧ (convert 22 9 (.slice A267_0 (rd_L2 x4_1 x12_2).length c267_0)).run Try.prog w' = .ok (.string (strOfNums (rd_L2 x4_1 x12_2))) w') (ds := []) #[false, false, false, false, false, false, false, false, false, false, false, false, false, false, false, false, false, false, false, false, false, false, false, false, false, false, false, false, false, false, false, false, false] (by kernel_rfl) rfl rfl ⟨q_z BK255.out 0, q_z BK255.out 1, q_z BK255.out 2, q_z BK265.out 0, q_z BK265.out 1, q_z BK265.out 2, hx266_0, hx267_0, hx268_0, hx269_0, hcv75, hcv76, hcv77, hcv78⟩ (fun hHeld => ?_); refine with_tabW laws_FnFrames.tab24 laws_FnFrames.bits24 (fun HT_ HW_ => ?_)
                      generalize wr.drew = w74 at HO_4 HO_256002 HO_266002 BK255 BK265 HB HL266_0 HL267_0 HL268_0 HL269_0 HR266_0 HR267_0 HR268_0 HR269_0 hx266_0 hx267_0 hx268_0 hx269_0 hHeld ⊢
                      refine q_P 0 (some 99) #[true, false, false, false, false, false, false, false, false, false, false, false, false, false, false, false, false, false, false, false, false, false, false, false, false, false, false, false, false, false, false, false, false] HT_.out ?_
                      refine q_P 2 (some 101) #[true, false, true, false, false, false, false, false, false, false, false, false, false, false, false, false, false, false, false, false, false, false, false, false, false, false, false, false, false, false, false, false, false] HT_.out ?_
                      refine q_P 6 (some 105) #[true, false, true, false, false, false, true, false, false, false, false, false, false, false, false, false, false, false, false, false, false, false, false, false, false, false, false, false, false, false, false, false, false] HT_.out ?_
                      refine q_P 7 (some 106) #[true, false, true, false, false, false, true, true, false, false, false, false, false, false, false, false, false, false, false, false, false, false, false, false, false, false, false, false, false, false, false, false, false] HT_.out ?_
                      refine q_P 8 (some 107) #[true, false, true, false, false, false, true, true, true, false, false, false, false, false, false, false, false, false, false, false, false, false, false, false, false, false, false, false, false, false, false, false, false] HT_.out ?_
                      refine q_t 1 (some 100) #[true, true, true, false, false, false, true, true, true, false, false, false, false, false, false, false, false, false, false, false, false, false, false, false, false, false, false, false, false, false, false, false, false] HT_.out HW_.out hHeld ?_
                      refine q_P 3 (some 102) #[true, true, true, true, false, false, true, true, true, false, false, false, false, false, false, false, false, false, false, false, false, false, false, false, false, false, false, false, false, false, false, false, false] HT_.out ?_
                      refine q_t 4 (some 103) #[true, true, true, true, true, false, true, true, true, false, false, false, false, false, false, false, false, false, false, false, false, false, false, false, false, false, false, false, false, false, false, false, false] HT_.out HW_.out hHeld ?_
                      refine q_t 5 (some 104) #[true, true, true, true, true, true, true, true, true, false, false, false, false, false, false, false, false, false, false, false, false, false, false, false, false, false, false, false, false, false, false, false, false] HT_.out HW_.out hHeld ?_
                      refine q_t 9 (some 108) #[true, true, true, true, true, true, true, true, true, true, false, false, false, false, false, false, false, false, false, false, false, false, false, false, false, false, false, false, false, false, false, false, false] HT_.out HW_.out hHeld ?_
                      refine q_t 10 (some 109) #[true, true, true, true, true, true, true, true, true, true, true, false, false, false, false, false, false, false, false, false, false, false, false, false, false, false, false, false, false, false, false, false, false] HT_.out HW_.out hHeld ?_
                      refine q_P 11 (some 110) #[true, true, true, true, true, true, true, true, true, true, true, true, false, false, false, false, false, false, false, false, false, false, false, false, false, false, false, false, false, false, false, false, false] HT_.out ?_
                      refine q_P 12 (some 111) #[true, true, true, true, true, true, true, true, true, true, true, true, true, false, false, false, false, false, false, false, false, false, false, false, false, false, false, false, false, false, false, false, false] HT_.out ?_
                      refine q_P 13 (some 112) #[true, true, true, true, true, true, true, true, true, true, true, true, true, true, false, false, false, false, false, false, false, false, false, false, false, false, false, false, false, false, false, false, false] HT_.out ?_
                      refine q_P 14 (some 113) #[true, true, true, true, true, true, true, true, true, true, true, true, true, true, true, false, false, false, false, false, false, false, false, false, false, false, false, false, false, false, false, false, false] HT_.out ?_
                      refine q_t 15 (some 114) #[true, true, true, true, true, true, true, true, true, true, true, true, true, true, true, true, false, false, false, false, false, false, false, false, false, false, false, false, false, false, false, false, false] HT_.out HW_.out hHeld ?_
                      refine q_P 16 (some 115) #[true, true, true, true, true, true, true, true, true, true, true, true, true, true, true, true, true, false, false, false, false, false, false, false, false, false, false, false, false, false, false, false, false] HT_.out ?_
                      refine q_P 17 (some 116) #[true, true, true, true, true, true, true, true, true, true, true, true, true, true, true, true, true, true, false, false, false, false, false, false, false, false, false, false, false, false, false, false, false] HT_.out ?_
                      refine q_P 18 (some 117) #[true, true, true, true, true, true, true, true, true, true, true, true, true, true, true, true, true, true, true, false, false, false, false, false, false, false, false, false, false, false, false, false, false] HT_.out ?_
                      refine q_P 19 (some 118) #[true, true, true, true, true, true, true, true, true, true, true, true, true, true, true, true, true, true, true, true, false, false, false, false, false, false, false, false, false, false, false, false, false] HT_.out ?_
                      refine q_P 21 (some 120) #[true, true, true, true, true, true, true, true, true, true, true, true, true, true, true, true, true, true, true, true, false, true, false, false, false, false, false, false, false, false, false, false, false] HT_.out ?_
                      refine q_P 25 (some 124) #[true, true, true, true, true, true, true, true, true, true, true, true, true, true, true, true, true, true, true, true, false, true, false, false, false, true, false, false, false, false, false, false, false] HT_.out ?_
                      refine q_P 26 (some 125) #[true, true, true, true, true, true, true, true, true, true, true, true, true, true, true, true, true, true, true, true, false, true, false, false, false, true, true, false, false, false, false, false, false] HT_.out ?_
                      refine q_P 27 (some 126) #[true, true, true, true, true, true, true, true, true, true, true, true, true, true, true, true, true, true, true, true, false, true, false, false, false, true, true, true, false, false, false, false, false] HT_.out ?_
                      refine q_t 20 (some 119) #[true, true, true, true, true, true, true, true, true, true, true, true, true, true, true, true, true, true, true, true, true, true, false, false, false, true, true, true, false, false, false, false, false] HT_.out HW_.out hHeld ?_
                      refine q_P 22 (some 121) #[true, true, true, true, true, true, true, true, true, true, true, true, true, true, true, true, true, true, true, true, true, true, true, false, false, true, true, true, false, false, false, false, false] HT_.out ?_
                      refine q_t 23 (some 122) #[true, true, true, true, true, true, true, true, true, true, true, true, true, true, true, true, true, true, true, true, true, true, true, true, false, true, true, true, false, false, false, false, false] HT_.out HW_.out hHeld ?_
                      refine q_t 24 (some 123) #[true, true, true, true, true, true, true, true, true, true, true, true, true, true, true, true, true, true, true, true, true, true, true, true, true, true, true, true, false, false, false, false, false] HT_.out HW_.out hHeld ?_
                      refine q_t 28 (some 127) #[true, true, true, true, true, true, true, true, true, true, true, true, true, true, true, true, true, true, true, true, true, true, true, true, true, true, true, true, true, false, false, false, false] HT_.out HW_.out hHeld ?_
                      refine q_t 29 (some 128) #[true, true, true, true, true, true, true, true, true, true, true, true, true, true, true, true, true, true, true, true, true, true, true, true, true, true, true, true, true, true, false, false, false] HT_.out HW_.out hHeld ?_
                      refine q_P 30 (some 129) #[true, true, true, true, true, true, true, true, true, true, true, true, true, true, true, true, true, true, true, true, true, true, true, true, true, true, true, true, true, true, true, false, false] HT_.out ?_
                      refine q_P 31 (some 130) #[true, true, true, true, true, true, true, true, true, true, true, true, true, true, true, true, true, true, true, true, true, true, true, true, true, true, true, true, true, true, true, true, false] HT_.out ?_
                      refine q_P 32 (some 131) #[true, true, true, true, true, true, true, true, true, true, true, true, true, true, true, true, true, true, true, true, true, true, true, true, true, true, true, true, true, true, true, true, true] HT_.out ?_
                      refine done_ (done_of HT_.out (by kernel_rfl)) ?_
                      have p270 : 0 ≤ (x12_2 : Int) := q_d
                      have q270 : x12_2 < (x4_1.length : Int) := q_d
                      obtain ⟨ad270, A270_0, c270_0, e270, hx270_0, hl270_0, hi270_0⟩ := at_L2 (Kd.S_reads' HO_4.out).2.2 x12_2 p270 q270
                      obtain rfl : ad267 = ad270 := (by injection e270)
                      obtain ⟨ce270, hce270, hMe270, hcc270⟩ := Kd.S_get HO_4.out [] x12_2 p270 (by first | exact q270 | exact q_d | (have e_ := (Kd.S_reads' HO_4.out).1; omega))
                      obtain ⟨ve270_0, rfl, ge270_0⟩ := hMe270
                      have hv270_0 := hcc270 0 _ rfl
                      rw [Nat.add_zero, show ((Kd.slice 5 (Kd.int .u8))).sz = 1 from rfl, Nat.mul_one] at hv270_0
                      replace hv270_0 := Option.some.inj (hv270_0.symm.trans hx270_0)
                      rw [hv270_0] at ge270_0
                      have HL270_0 := Aside0.mk (show Kd.R (Kd.int .u8) 5 _ _ _ _ (rd_L2 x4_1 x12_2) from ge270_0)
                      clear hv270_0 ge270_0
                      clear hcc270 hce270
                      have HR270_0 := Aside0.mk hi270_0
                      have HC270_0 := Aside0.mk hl270_0
                      clear hi270_0 hl270_0
                      replace p270 := eq_true p270
                      replace q270 := eq_true q270
                      have hnb80 := NB265_255.out
                      have hnc80 := NB255_265.out
                      obtain ⟨hcz81_0, hcz81_1, hcz81_2, hfz81_0, hfz81_1, hfz81_2⟩ := q_3 BK265.out
                      try go_wp2
                      go_roundg k2
                      case measure => have := HK1.out; have := HK2.out; omega
                      case rel => exact ⟨(wrap64 ((wrap64 (x11_2 + ((rd_L2 x4_1 x12_2).length : Int))) + 4)), (wrap64 (x12_2 + 1)), q_i, q_i, H', ⟨by have := HK1.out; have := HK2.out; omega⟩, ⟨q_s (HO_4.out)⟩, ⟨by (with_reducible repeat (first | apply Kd.S_alloc | apply Kd.S_drewN | apply Kd.S_drew)); exact Kd.S_mono HO_256002.out (fun _ hk => by first | exact ⟨hk.2, hk.1⟩ | exact hk)⟩, ⟨by (with_reducible repeat (first | apply Kd.S_alloc | apply Kd.S_drewN | apply Kd.S_drew)); exact Kd.S_mono HO_266002.out (fun _ hk => by first | exact ⟨hk.2, hk.1⟩ | exact hk)⟩, ⟨q_b BK255.out⟩, ⟨q_b BK265.out⟩, ⟨bq⟩⟩
                    ·rw [if_neg c72] at H
                     exact absurd H (by simp)
                   ·rw [if_neg c71] at H
                    have c71b0 := decide_eq_false c71
                    clear c71
                    by_cases c82 : ((decide ((wrap64 ((wrap64 (x11_2 + ((rd_L2 x4_1 x12_2).length : Int))) + 4)) ≤ t249)) != (decide (x12_2 < (t262.length : Int)))) = true
                    ·rw [if_pos c82] at H
                     exact absurd H (by simp)
                    ·rw [if_neg c82] at H
                     have c82b0 : ((decide ((wrap64 ((wrap64 (x11_2 + ((rd_L2 x4_1 x12_2).length : Int))) + 4)) ≤ t249)) != (decide (x12_2 < (t262.length : Int)))) = false := by simpa using c82
                     (try (have c82s : decide ((wrap64 ((wrap64 (x11_2 + ((rd_L2 x4_1 x12_2).length : Int))) + 4)) ≤ t249) = true := by rw [show decide ((wrap64 ((wrap64 (x11_2 + ((rd_L2 x4_1 x12_2).length : Int))) + 4)) ≤ t249) = decide (x12_2 < (t262.length : Int)) from by simpa using c82]; assumption))
                     (try (have c82s : decide ((wrap64 ((wrap64 (x11_2 + ((rd_L2 x4_1 x12_2).length : Int))) + 4)) ≤ t249) = false := by rw [show decide ((wrap64 ((wrap64 (x11_2 + ((rd_L2 x4_1 x12_2).length : Int))) + 4)) ≤ t249) = decide (x12_2 < (t262.length : Int)) from by simpa using c82]; assumption))
                     (try (have c82b1 : decide ((decide ((wrap64 ((wrap64 (x11_2 + ((rd_L2 x4_1 x12_2).length : Int))) + 4)) ≤ t249)) = (decide (x12_2 < (t262.length : Int)))) = true := by simpa using c82))
                     (try (have c82b2 : ((decide ((wrap64 ((wrap64 (x11_2 + ((rd_L2 x4_1 x12_2).length : Int))) + 4)) ≤ t249)) == (decide (x12_2 < (t262.length : Int)))) = true := by simpa using c82))
                     clear c82
                     have H' := Aside0.mk H
                     clear H
                     try go_wp2
                     have n0_ := Aside0.mk (Kd.S_drew HO_4.out)
                     have n1_ := Aside0.mk (Kd.S_drew HO_256002.out)
                     have n2_ := Aside0.mk (Kd.S_drew HO_266002.out)
                     have n3_ := Aside0.mk (blk_drew BK255.out)
                     have n4_ := Aside0.mk (blk_drew BK265.out)
                     have n5_ := Aside0.mk (below_drew1 HB.out)
                     clear HO_4
                     clear HO_256002
                     clear HO_266002
                     clear BK255
                     clear BK265
                     clear HB
                     have HO_4 := n0_
                     have HO_256002 := n1_
                     have HO_266002 := n2_
                     have BK255 := n3_
                     have BK265 := n4_
                     have HB := n5_
                     clear n0_ n1_ n2_ n3_ n4_ n5_
                     have p266 : 0 ≤ (x12_2 : Int) := q_d
                     have q266 : x12_2 < (t252.length : Int) := q_d
                     obtain ⟨ad266, A266_0, c266_0, e266, hx266_0, hl266_0, hi266_0⟩ := at_L2 (Kd.S_reads' HO_256002.out).2.2 x12_2 p266 q266
                     cases e266
                     obtain ⟨ce266, hce266, hMe266, hcc266⟩ := Kd.S_get HO_256002.out [] x12_2 p266 (by first | exact q266 | exact q_d | (have e_ := (Kd.S_reads' HO_256002.out).1; omega))
                     obtain ⟨ve266_0, rfl, ge266_0⟩ := hMe266
                     have hv266_0 := hcc266 0 _ rfl
                     rw [Nat.add_zero, show ((Kd.slice 5 (Kd.int .u8))).sz = 1 from rfl, Nat.mul_one] at hv266_0
                     replace hv266_0 := Option.some.inj (hv266_0.symm.trans hx266_0)
                     rw [hv266_0] at ge266_0
                     have HL266_0 := Aside0.mk (show Kd.R (Kd.int .u8) 5 _ _ _ _ (rd_L2 t252 x12_2) from ge266_0)
                     clear hv266_0 ge266_0
                     clear hcc266 hce266
                     have HR266_0 := Aside0.mk hi266_0
                     have HC266_0 := Aside0.mk hl266_0
                     clear hi266_0 hl266_0
                     replace p266 := eq_true p266
                     replace q266 := eq_true q266
                     have p267 : 0 ≤ (x12_2 : Int) := q_d
                     have q267 : x12_2 < (x4_1.length : Int) := q_d
                     obtain ⟨ad267, A267_0, c267_0, e267, hx267_0, hl267_0, hi267_0⟩ := at_L2 (Kd.S_reads' HO_4.out).2.2 x12_2 p267 q267
                     cases e267
                     obtain ⟨ce267, hce267, hMe267, hcc267⟩ := Kd.S_get HO_4.out [] x12_2 p267 (by first | exact q267 | exact q_d | (have e_ := (Kd.S_reads' HO_4.out).1; omega))
                     obtain ⟨ve267_0, rfl, ge267_0⟩ := hMe267
                     have hv267_0 := hcc267 0 _ rfl
                     rw [Nat.add_zero, show ((Kd.slice 5 (Kd.int .u8))).sz = 1 from rfl, Nat.mul_one] at hv267_0
                     replace hv267_0 := Option.some.inj (hv267_0.symm.trans hx267_0)
                     rw [hv267_0] at ge267_0
                     have HL267_0 := Aside0.mk (show Kd.R (Kd.int .u8) 5 _ _ _ _ (rd_L2 x4_1 x12_2) from ge267_0)
                     clear hv267_0 ge267_0
                     clear hcc267 hce267
                     have HR267_0 := Aside0.mk hi267_0
                     have HC267_0 := Aside0.mk hl267_0
                     clear hi267_0 hl267_0
                     replace p267 := eq_true p267
                     replace q267 := eq_true q267
                     have hcv84 := Kd.C_string (P := Try.prog) (A := A266_0) (c := c266_0) Try.underlying22 Try.underlying5 Try.underlying9 (by repeat (first | (with_reducible exact HR266_0.out) | (with_reducible refine Kd.C_alloc ?_ _) | (with_reducible refine Kd.C_drewN ?_ _) | (with_reducible refine Kd.C_drew ?_) | exact HR266_0.out))
                     have hcv85 := Kd.C_string (P := Try.prog) (A := A267_0) (c := c267_0) Try.underlying22 Try.underlying5 Try.underlying9 (by repeat (first | (with_reducible exact HR267_0.out) | (with_reducible refine Kd.C_alloc ?_ _) | (with_reducible refine Kd.C_drewN ?_ _) | (with_reducible refine Kd.C_drew ?_) | exact HR267_0.out))
                     refine start_ (n := 33) (S := fun w' => w'.cell? ⟨gb255, 0, none⟩ = some (.int .i64 t250) ∧ w'.cell? ⟨gb255, 1, none⟩ = some (.int .i64 t251) ∧ w'.cell? ⟨gb255, 2, none⟩ = some (.slice (some ad266) t252.length co57) ∧ w'.cell? ⟨gb265, 0, none⟩ = some (.int .i64 t260) ∧ w'.cell? ⟨gb265, 1, none⟩ = some (.int .i64 t261) ∧ w'.cell? ⟨gb265, 2, none⟩ = some (.slice Ao64 t262.length co64) ∧ w'.cell? (ad266.add (x12_2).toNat) = some (.slice A266_0 (rd_L2 t252 x12_2).length c266_0) ∧ w'.cell? (ad267.add (x12_2).toNat) = some (.slice A267_0 (rd_L2 x4_1 x12_2).length c267_0) ∧ (convert 22 9 (.slice A266_0 (rd_L2 t252 x12_2).length c266_0)).run Try.prog w' = .ok (.string (strOfNums (rd_L2 t252 x12_2))) w' ∧ (convert 22 9 (.slice A267_0 (rd_L2 x4_1 x12_2).length c267_0)).run Try.prog w' = .ok (.string (strOfNums (rd_L2 x4_1 x12_2))) w') (ds := []) #[false, false, false, false, false, false, false, false, false, false, false, false, false, false, false, false, false, false, false, false, false, false, false, false, false, false, false, false, false, false, false, false, false] (by kernel_rfl) rfl rfl ⟨q_z BK255.out 0, q_z BK255.out 1, q_z BK255.out 2, q_z BK265.out 0, q_z BK265.out 1, q_z BK265.out 2, hx266_0, hx267_0, hcv84, hcv85⟩ (fun hHeld => ?_); refine with_tabW laws_FnFrames.tab24 laws_FnFrames.bits24 (fun HT_ HW_ => ?_)
                     generalize wr.drew = w83 at HO_4 HO_256002 HO_266002 BK255 BK265 HB HL266_0 HL267_0 HR266_0 HR267_0 hx266_0 hx267_0 hHeld ⊢
                     refine q_P 0 (some 99) #[true, false, false, false, false, false, false, false, false, false, false, false, false, false, false, false, false, false, false, false, false, false, false, false, false, false, false, false, false, false, false, false, false] HT_.out ?_
                     refine q_P 2 (some 101) #[true, false, true, false, false, false, false, false, false, false, false, false, false, false, false, false, false, false, false, false, false, false, false, false, false, false, false, false, false, false, false, false, false] HT_.out ?_
                     refine q_P 6 (some 105) #[true, false, true, false, false, false, true, false, false, false, false, false, false, false, false, false, false, false, false, false, false, false, false, false, false, false, false, false, false, false, false, false, false] HT_.out ?_
                     refine q_P 7 (some 106) #[true, false, true, false, false, false, true, true, false, false, false, false, false, false, false, false, false, false, false, false, false, false, false, false, false, false, false, false, false, false, false, false, false] HT_.out ?_
                     refine q_P 8 (some 107) #[true, false, true, false, false, false, true, true, true, false, false, false, false, false, false, false, false, false, false, false, false, false, false, false, false, false, false, false, false, false, false, false, false] HT_.out ?_
                     refine q_t 1 (some 100) #[true, true, true, false, false, false, true, true, true, false, false, false, false, false, false, false, false, false, false, false, false, false, false, false, false, false, false, false, false, false, false, false, false] HT_.out HW_.out hHeld ?_
                     refine q_P 3 (some 102) #[true, true, true, true, false, false, true, true, true, false, false, false, false, false, false, false, false, false, false, false, false, false, false, false, false, false, false, false, false, false, false, false, false] HT_.out ?_
                     refine q_t 4 (some 103) #[true, true, true, true, true, false, true, true, true, false, false, false, false, false, false, false, false, false, false, false, false, false, false, false, false, false, false, false, false, false, false, false, false] HT_.out HW_.out hHeld ?_
                     refine q_t 5 (some 104) #[true, true, true, true, true, true, true, true, true, false, false, false, false, false, false, false, false, false, false, false, false, false, false, false, false, false, false, false, false, false, false, false, false] HT_.out HW_.out hHeld ?_
                     refine q_t 9 (some 108) #[true, true, true, true, true, true, true, true, true, true, false, false, false, false, false, false, false, false, false, false, false, false, false, false, false, false, false, false, false, false, false, false, false] HT_.out HW_.out hHeld ?_
                     refine q_t 10 (some 109) #[true, true, true, true, true, true, true, true, true, true, true, false, false, false, false, false, false, false, false, false, false, false, false, false, false, false, false, false, false, false, false, false, false] HT_.out HW_.out hHeld ?_
                     refine q_P 11 (some 110) #[true, true, true, true, true, true, true, true, true, true, true, true, false, false, false, false, false, false, false, false, false, false, false, false, false, false, false, false, false, false, false, false, false] HT_.out ?_
                     refine q_P 12 (some 111) #[true, true, true, true, true, true, true, true, true, true, true, true, true, false, false, false, false, false, false, false, false, false, false, false, false, false, false, false, false, false, false, false, false] HT_.out ?_
                     refine q_P 13 (some 112) #[true, true, true, true, true, true, true, true, true, true, true, true, true, true, false, false, false, false, false, false, false, false, false, false, false, false, false, false, false, false, false, false, false] HT_.out ?_
                     refine q_P 14 (some 113) #[true, true, true, true, true, true, true, true, true, true, true, true, true, true, true, false, false, false, false, false, false, false, false, false, false, false, false, false, false, false, false, false, false] HT_.out ?_
                     refine q_t 15 (some 114) #[true, true, true, true, true, true, true, true, true, true, true, true, true, true, true, true, false, false, false, false, false, false, false, false, false, false, false, false, false, false, false, false, false] HT_.out HW_.out hHeld ?_
                     refine q_P 16 (some 115) #[true, true, true, true, true, true, true, true, true, true, true, true, true, true, true, true, true, false, false, false, false, false, false, false, false, false, false, false, false, false, false, false, false] HT_.out ?_
                     refine q_P 17 (some 116) #[true, true, true, true, true, true, true, true, true, true, true, true, true, true, true, true, true, true, false, false, false, false, false, false, false, false, false, false, false, false, false, false, false] HT_.out ?_
                     refine q_P 18 (some 117) #[true, true, true, true, true, true, true, true, true, true, true, true, true, true, true, true, true, true, true, false, false, false, false, false, false, false, false, false, false, false, false, false, false] HT_.out ?_
                     refine pure_ (i := 19) (N := some 118) (v := undef) (a' := ?_) #[true, true, true, true, true, true, true, true, true, true, true, true, true, true, true, true, true, true, true, true, false, false, false, false, false, false, false, false, false, false, false, false, false] rfl rfl (any_of HT_.out (by kernel_rfl)) (fun _ _ _ h => h) (Or.inr ⟨by rfl, rfl⟩) ?_ ?_
                     rotate_left
                     ·simp only [Act.put, List.setIfInBounds_toArray, List.set_cons_zero, List.set_cons_succ, i64_w, i32_w]
                      rfl
                     refine pure_ (i := 20) (N := some 119) (v := undef) (a' := ?_) #[true, true, true, true, true, true, true, true, true, true, true, true, true, true, true, true, true, true, true, true, true, false, false, false, false, false, false, false, false, false, false, false, false] rfl rfl (any_of HT_.out (by kernel_rfl)) (fun _ _ _ h => h) (Or.inr ⟨by rfl, rfl⟩) ?_ ?_
                     rotate_left
                     ·simp only [Act.put, List.setIfInBounds_toArray, List.set_cons_zero, List.set_cons_succ, i64_w, i32_w]
                      rfl
                     refine pure_ (i := 21) (N := some 120) (v := undef) (a' := ?_) #[true, true, true, true, true, true, true, true, true, true, true, true, true, true, true, true, true, true, true, true, true, true, false, false, false, false, false, false, false, false, false, false, false] rfl rfl (any_of HT_.out (by kernel_rfl)) (fun _ _ _ h => h) (Or.inr ⟨by rfl, rfl⟩) ?_ ?_
                     rotate_left
                     ·simp only [Act.put, List.setIfInBounds_toArray, List.set_cons_zero, List.set_cons_succ, i64_w, i32_w]
                      rfl
                     refine pure_ (i := 22) (N := some 121) (v := undef) (a' := ?_) #[true, true, true, true, true, true, true, true, true, true, true, true, true, true, true, true, true, true, true, true, true, true, true, false, false, false, false, false, false, false, false, false, false] rfl rfl (any_of HT_.out (by kernel_rfl)) (fun _ _ _ h => h) (Or.inr ⟨by rfl, rfl⟩) ?_ ?_
                     rotate_left
                     ·simp only [Act.put, List.setIfInBounds_toArray, List.set_cons_zero, List.set_cons_succ, i64_w, i32_w]
                      rfl
                     refine pure_ (i := 23) (N := some 122) (v := undef) (a' := ?_) #[true, true, true, true, true, true, true, true, true, true, true, true, true, true, true, true, true, true, true, true, true, true, true, true, false, false, false, false, false, false, false, false, false] rfl rfl (any_of HT_.out (by kernel_rfl)) (fun _ _ _ h => h) (Or.inr ⟨by rfl, rfl⟩) ?_ ?_
                     rotate_left
                     ·simp only [Act.put, List.setIfInBounds_toArray, List.set_cons_zero, List.set_cons_succ, i64_w, i32_w]
                      rfl
                     refine pure_ (i := 24) (N := some 123) (v := undef) (a' := ?_) #[true, true, true, true, true, true, true, true, true, true, true, true, true, true, true, true, true, true, true, true, true, true, true, true, true, false, false, false, false, false, false, false, false] rfl rfl (any_of HT_.out (by kernel_rfl)) (fun _ _ _ h => h) (Or.inr ⟨by rfl, rfl⟩) ?_ ?_
                     rotate_left
                     ·simp only [Act.put, List.setIfInBounds_toArray, List.set_cons_zero, List.set_cons_succ, i64_w, i32_w]
                      rfl
                     refine pure_ (i := 25) (N := some 124) (v := undef) (a' := ?_) #[true, true, true, true, true, true, true, true, true, true, true, true, true, true, true, true, true, true, true, true, true, true, true, true, true, true, false, false, false, false, false, false, false] rfl rfl (any_of HT_.out (by kernel_rfl)) (fun _ _ _ h => h) (Or.inr ⟨by rfl, rfl⟩) ?_ ?_
                     rotate_left
                     ·simp only [Act.put, List.setIfInBounds_toArray, List.set_cons_zero, List.set_cons_succ, i64_w, i32_w]
                      rfl
                     refine pure_ (i := 26) (N := some 125) (v := undef) (a' := ?_) #[true, true, true, true, true, true, true, true, true, true, true, true, true, true, true, true, true, true, true, true, true, true, true, true, true, true, true, false, false, false, false, false, false] rfl rfl (any_of HT_.out (by kernel_rfl)) (fun _ _ _ h => h) (Or.inr ⟨by rfl, rfl⟩) ?_ ?_
                     rotate_left
                     ·simp only [Act.put, List.setIfInBounds_toArray, List.set_cons_zero, List.set_cons_succ, i64_w, i32_w]
                      rfl
                     refine pure_ (i := 27) (N := some 126) (v := undef) (a' := ?_) #[true, true, true, true, true, true, true, true, true, true, true, true, true, true, true, true, true, true, true, true, true, true, true, true, true, true, true, true, false, false, false, false, false] rfl rfl (any_of HT_.out (by kernel_rfl)) (fun _ _ _ h => h) (Or.inr ⟨by rfl, rfl⟩) ?_ ?_
                     rotate_left
                     ·simp only [Act.put, List.setIfInBounds_toArray, List.set_cons_zero, List.set_cons_succ, i64_w, i32_w]
                      rfl
                     refine pure_ (i := 28) (N := some 127) (v := undef) (a' := ?_) #[true, true, true, true, true, true, true, true, true, true, true, true, true, true, true, true, true, true, true, true, true, true, true, true, true, true, true, true, true, false, false, false, false] rfl rfl (any_of HT_.out (by kernel_rfl)) (fun _ _ _ h => h) (Or.inr ⟨by rfl, rfl⟩) ?_ ?_
                     rotate_left
                     ·simp only [Act.put, List.setIfInBounds_toArray, List.set_cons_zero, List.set_cons_succ, i64_w, i32_w]
                      rfl
                     refine pure_ (i := 29) (N := some 128) (v := undef) (a' := ?_) #[true, true, true, true, true, true, true, true, true, true, true, true, true, true, true, true, true, true, true, true, true, true, true, true, true, true, true, true, true, true, false, false, false] rfl rfl (any_of HT_.out (by kernel_rfl)) (fun _ _ _ h => h) (Or.inr ⟨by rfl, rfl⟩) ?_ ?_
                     rotate_left
                     ·simp only [Act.put, List.setIfInBounds_toArray, List.set_cons_zero, List.set_cons_succ, i64_w, i32_w]
                      rfl
                     refine pure_ (i := 30) (N := some 129) (v := undef) (a' := ?_) #[true, true, true, true, true, true, true, true, true, true, true, true, true, true, true, true, true, true, true, true, true, true, true, true, true, true, true, true, true, true, true, false, false] rfl rfl (any_of HT_.out (by kernel_rfl)) (fun _ _ _ h => h) (Or.inr ⟨by rfl, rfl⟩) ?_ ?_
                     rotate_left
                     ·simp only [Act.put, List.setIfInBounds_toArray, List.set_cons_zero, List.set_cons_succ, i64_w, i32_w]
                      rfl
                     refine q_P 31 (some 130) #[true, true, true, true, true, true, true, true, true, true, true, true, true, true, true, true, true, true, true, true, true, true, true, true, true, true, true, true, true, true, true, true, false] HT_.out ?_
                     refine q_P 32 (some 131) #[true, true, true, true, true, true, true, true, true, true, true, true, true, true, true, true, true, true, true, true, true, true, true, true, true, true, true, true, true, true, true, true, true] HT_.out ?_
                     refine done_ (done_of HT_.out (by kernel_rfl)) ?_
                     have p271 : 0 ≤ (x12_2 : Int) := q_d
                     have q271 : x12_2 < (x4_1.length : Int) := q_d
                     obtain ⟨ad271, A271_0, c271_0, e271, hx271_0, hl271_0, hi271_0⟩ := at_L2 (Kd.S_reads' HO_4.out).2.2 x12_2 p271 q271
                     obtain rfl : ad267 = ad271 := (by injection e271)
                     obtain ⟨ce271, hce271, hMe271, hcc271⟩ := Kd.S_get HO_4.out [] x12_2 p271 (by first | exact q271 | exact q_d | (have e_ := (Kd.S_reads' HO_4.out).1; omega))
                     obtain ⟨ve271_0, rfl, ge271_0⟩ := hMe271
                     have hv271_0 := hcc271 0 _ rfl
                     rw [Nat.add_zero, show ((Kd.slice 5 (Kd.int .u8))).sz = 1 from rfl, Nat.mul_one] at hv271_0
                     replace hv271_0 := Option.some.inj (hv271_0.symm.trans hx271_0)
                     rw [hv271_0] at ge271_0
                     have HL271_0 := Aside0.mk (show Kd.R (Kd.int .u8) 5 _ _ _ _ (rd_L2 x4_1 x12_2) from ge271_0)
                     clear hv271_0 ge271_0
                     clear hcc271 hce271
                     have HR271_0 := Aside0.mk hi271_0
                     have HC271_0 := Aside0.mk hl271_0
                     clear hi271_0 hl271_0
                     replace p271 := eq_true p271
                     replace q271 := eq_true q271
                     have hnb87 := NB265_255.out
                     have hnc87 := NB255_265.out
                     obtain ⟨hcz88_0, hcz88_1, hcz88_2, hfz88_0, hfz88_1, hfz88_2⟩ := q_3 BK265.out
                     try go_wp2
                     go_roundg k2
                     case measure => have := HK1.out; have := HK2.out; omega
                     case rel => exact ⟨(wrap64 ((wrap64 (x11_2 + ((rd_L2 x4_1 x12_2).length : Int))) + 4)), (wrap64 (x12_2 + 1)), q_i, q_i, H', ⟨by have := HK1.out; have := HK2.out; omega⟩, ⟨q_s (HO_4.out)⟩, ⟨by (with_reducible repeat (first | apply Kd.S_alloc | apply Kd.S_drewN | apply Kd.S_drew)); exact Kd.S_mono HO_256002.out (fun _ hk => by first | exact ⟨hk.2, hk.1⟩ | exact hk)⟩, ⟨by (with_reducible repeat (first | apply Kd.S_alloc | apply Kd.S_drewN | apply Kd.S_drew)); exact Kd.S_mono HO_266002.out (fun _ hk => by first | exact ⟨hk.2, hk.1⟩ | exact hk)⟩, ⟨q_b BK255.out⟩, ⟨q_b BK265.out⟩, ⟨bq⟩⟩
                  ·rw [if_neg c70] at H
                   have c70b0 : ((strOfNums (rd_L2 t252 x12_2)).toList == (strOfNums (rd_L2 x4_1 x12_2)).toList) = false := beq_eq_false_iff_ne.mpr c70
                   have c70b1 : ((strOfNums (rd_L2 t252 x12_2)).toList != (strOfNums (rd_L2 x4_1 x12_2)).toList) = true := bne_iff_ne.mpr c70
                   exact absurd H (by simp)
                 ·rw [if_neg c69] at H
                  exact absurd H (by simp)
                ·rw [if_neg c68] at H
                 exact absurd H (by simp)
               ·rw [if_neg c67] at H
                have c67b0 := decide_eq_false c67
                clear c67
                obtain rfl := Option.some.inj H
                go_wp2
                go_ret
                exact ⟨q_e, bq⟩
          ·rw [if_neg c50] at H
           exact absurd H (by simp)
         ·rw [if_neg c49] at H
          exact absurd H (by simp)
        ·rw [if_neg c48] at H
         exact absurd H (by simp)
       ·rw [if_neg c47] at H
        exact absurd H (by simp)
      ·rw [if_neg c45] at H
       exact absurd H (by simp)
     ·rw [if_neg c44] at H
      exact absurd H (by simp)

end Go.Proofs.Ytcdpiejcdeedoaa.PFnFrames
