/- Functions that a law reaches, as plain Lean functions, with the proof that the machine comes to their answers. No conditions. -/
import Derived.Test.YtdhlcnlcpjlliaaPFnTablesx0
import Derived.Test.YtdhlcnlcpjlliaaPFnTablesx3
import Derived.Test.YtdhlcnlcpjlliaaPFnTablesx5
namespace Go.Proofs.Ytdhlcnlcpjlliaa.PFnTables
open Go.RowKit Go.Proofs.YtdhlcnlcpjlliaaW.PrintWords Go.Proofs.YtdhlcnlcpjlliaaW.PrintLast Go.Proofs.YtdhlcnlcpjlliaaW.PrintMore
attribute [local go_sem] max2_int min2_int max_two min_two max_three min_three max_four min_four   -- for this text's walks alone
set_option linter.unusedVariables false
set_option linter.unusedSimpArgs false
set_option maxHeartbeats 8000000
set_option maxRecDepth 100000

/-! ### spec_DrawMergeTables: function 55 -/
def spec_DrawMergeTables.l0 : Nat → List (List (S49)) → Int → List Int → Int → Option ((List (List (S49))))
  | 0, _, _, _, _ => none
  | k + 1, x4, x5, x259000, x259001 => if x5 > 0 then ((spec_l5Table.f k x259000 x259001).bind fun bt267 => (if x4.length < 5864062014805 then (spec_DrawMergeTables.l0 k (x4 ++ [bt267.1]) (wrap64 (x5 - 1)) x259000 bt267.2) else (none))) else (some x4)
def spec_DrawMergeTables.f (k : Nat) (l0 : List Int) : Option ((List (List (S49)))) := (spec_l1Source.f l0).bind fun bt256 => ((spec_l1Pick.f bt256.1 bt256.2 (([2, 3, 1, 0, 8, 9] : List Int))).bind fun bt265 => (spec_DrawMergeTables.l0 k (([] : List (List (S49)))) bt265.1 bt256.1 bt265.2))
theorem spec_DrawMergeTables.calls (k : Nat) (A0 : Option Addr) (c0 : Nat) (l0 : List Int) (r : List (List (S49))) (w : World) (hr0 : Kd.C (Kd.int .u8) w A0 l0.length l0) (hc0 : l0.length ≤ c0) (h : spec_DrawMergeTables.f k l0 = some r) :
  Calls Try.prog 55 #[.slice A0 l0.length c0] w fun e w' => ∃ v0_ : Value, e = .returned (v0_) ∧ Kd.S (Kd.slice 49 k49) 25 w' w.heap.size (fun _ => True) v0_ r ∧ Below w.heap.size w w' := by
 have HR0 := am hr0
 have HC0 := am hc0
 clear hr0 hc0
 have HB := am (Below.refl w.heap.size w)
 have H : ((spec_l1Source.f l0).bind fun bt256 => ((spec_l1Pick.f bt256.1 bt256.2 (([2, 3, 1, 0, 8, 9] : List Int))).bind fun bt265 => (spec_DrawMergeTables.l0 k (([] : List (List (S49)))) bt265.1 bt256.1 bt265.2))) = some r := h
 clear h
 replace H := ob H
 obtain ⟨⟨t256, t257⟩, A20, H⟩ := H
 replace H : ((spec_l1Pick.f t256 t257 (([2, 3, 1, 0, 8, 9] : List Int))).bind fun bt265 => (spec_DrawMergeTables.l0 k (([] : List (List (S49)))) bt265.1 t256 bt265.2)) = some r := H
 have A2 := am A20
 clear A20
 obtain ⟨y259, hy259⟩ : ∃ y_ : List (List (S49)), y_ = (([] : List (List (S49)))) := ⟨_, rfl⟩
 replace H : ((spec_l1Pick.f t256 t257 (([2, 3, 1, 0, 8, 9] : List Int))).bind fun bt265 => (spec_DrawMergeTables.l0 k y259 bt265.1 t256 bt265.2)) = some r := q_h hy259 H
 have Ny259 := am hy259
 clear hy259
 obtain ⟨y262, hy262⟩ : ∃ y_ : List Int, y_ = (([2, 3, 1, 0, 8, 9] : List Int)) := ⟨_, rfl⟩
 replace H : ((spec_l1Pick.f t256 t257 y262).bind fun bt265 => (spec_DrawMergeTables.l0 k y259 bt265.1 t256 bt265.2)) = some r := q_h hy262 H
 have Ny262 := am hy262
 clear hy262
 replace H := ob H
 obtain ⟨⟨t265, t266⟩, A30, H⟩ := H
 replace H : (spec_DrawMergeTables.l0 k y259 t265 t256 t266) = some r := H
 have A3 := am A30
 clear A30
 have H' := am H
 clear H
 go_enter Try.func55, Try.ntmps55
 go_wp2_with (first | ((with_reducible refine gate_callee (f := 81) rfl ?_); refine goesLq (some 7) rfl rfl Try.func81 (by kernel_rfl) rfl #[.slice A0 l0.length c0] rfl ?_; (with_reducible refine (spec_l1Source.calls _ _ l0 t256 t257 w _ ?side1 ?side2 ?side3 A2.out).mono ?_); (case side1 => repeat (first | (with_reducible first | exact HB.out | apply below_alloc | apply pw_below_drewN | apply below_drew1) | exact HB.out)); (case side2 => exact HR0.out); (case side3 => exact HC0.out); rintro e w4 ⟨g258, rfl, hi, hb, hb2⟩; refine ⟨_, rfl, ?_⟩; have n0_ := am (hb); have n1_ := am (hi); revert n0_ n1_; clear HB; intro HB HI258; (try clear hb); (try clear hb2); (try clear hk); (try clear hi)) | ((with_reducible refine gate_dst (N := 8) rfl ?_); refine Kd.S_lit (Kd.slice 49 k49) _ 25 ?hg (N := 8) ?hd (xs := ([] : List (List (S49)))) (inner := []) (ok := fun _ => True) (okp := fun _ => True) ?hr ?hp (fun _ hk => hk) trivial (Below.refl _ _) (Nat.le_refl _) (by simp) ?_; (case hd => rfl); (case hg => rfl); (case hr => first | (go_simp; done) | (go_simp; rfl)); (case hp => exact (Reps.none _ _)); intro v260 w5 ho6 hb hg_ hnew_; clear hg_ hnew_; (first | rw [← Ny259.out] at ho6 | (simp only [Int.reduceToNat] at ho6; rw [← Ny259.out] at ho6)); have n0_ := am (Kd.S_lower ho6 (below_size q_B129_258)); have n1_ := am (IsS129.below q_I129_258_1 hb); have n2_ := am (below_step q_B129_258 hb); revert n0_ n1_ n2_; clear HI258 HB; intro HO261 HI258 HB; clear hb ho6) | ((with_reducible refine gate_dst (N := 10) rfl ?_); refine Kd.R_lit (Kd.int .i64) _ 2 ?hg (N := 10) ?hd (xs := ([2, 3, 1, 0, 8, 9] : List Int)) (inner := [.int .i64 2, .int .i64 3, .int .i64 1, .int .i64 0, .int .i64 8, .int .i64 9]) (ok := fun _ => True) (okp := fun _ => True) ?hr ?hp (fun _ hk => hk) trivial (Below.refl _ _) (Nat.le_refl _) (by simp) ?_; (case hd => rfl); (case hg => rfl); (case hr => first | (go_simp; done) | (go_simp; rfl)); (case hp => exact (Reps.one (show Kd.M (Kd.int .i64) _ _ _ 2 [.int .i64 2] from rfl) (Reps.one (show Kd.M (Kd.int .i64) _ _ _ 3 [.int .i64 3] from rfl) (Reps.one (show Kd.M (Kd.int .i64) _ _ _ 1 [.int .i64 1] from rfl) (Reps.one (show Kd.M (Kd.int .i64) _ _ _ 0 [.int .i64 0] from rfl) (Reps.one (show Kd.M (Kd.int .i64) _ _ _ 8 [.int .i64 8] from rfl) (Reps.one (show Kd.M (Kd.int .i64) _ _ _ 9 [.int .i64 9] from rfl) (Reps.none _ _)))))))); intro v263 w7 ho8 hb hg_ hnew_; clear hg_ hnew_; (first | rw [← Ny262.out] at ho8 | (simp only [Int.reduceToNat] at ho8; rw [← Ny262.out] at ho8)); have n0_ := am (Kd.S_below (q_s (HO261.out)) hb); have n1_ := am (Kd.R_lower ho8 (below_size q_B129_258)); have n2_ := am (IsS129.below q_I129_258_1 hb); have n3_ := am (below_step q_B129_258 hb); revert n0_ n1_ n2_ n3_; clear HO261 HI258 HB; intro HO261 HO264 HI258 HB; clear hb ho8; obtain ⟨Ao9, co9, eo9⟩ := Kd.R_slice HO264.out; subst eo9) | ((with_reducible refine gate_callee (f := 83) rfl ?_); refine goesLq (some 11) rfl rfl Try.func83 (by kernel_rfl) rfl #[.pointer (some ⟨g258, 0, none⟩), .slice Ao9 y262.length co9] rfl ?_; (with_reducible refine (spec_l1Pick.calls g258 t256 t257 _ _ y262 t265 t266 w _ ?side1 ?side2 ?side3 ?side4 ?side5 A3.out).mono ?_); (case side1 => repeat (first | (with_reducible first | exact HI258.out | apply IsS129.alloc | apply IsS129.drewN | apply IsS129.drew | apply IsS129.set_1) | exact HI258.out)); (case side2 => repeat (first | (with_reducible first | exact HB.out | apply below_alloc | apply pw_below_drewN | apply below_drew1 | refine below_set ?_ (IsS129.ge HI258.out)) | exact HB.out)); (case side3 => exact q_c ((Kd.R_reads' HO264.out).2.2)); (case side4 => exact (Kd.R_reads' HO264.out).2.1); (case side5 => exact far_slice (IsS129.own_ne HI258.out HO264.out (by decide))); rintro e w10 ⟨rfl, hi, hb, hk⟩; refine ⟨_, rfl, ?_⟩; have n0_ := am (Kd.S_mono (Kd.S_keep (IsS129.apartS (show IsS129 w _ g258 t256 t257 from q_I129_258_1) (q_s (HO261.out)) (by decide)) hk (fun _ h => h.2)) (fun _ h => h.1)); have n1_ := am (Kd.R_mono (Kd.R_keep (IsS129.apart (show IsS129 w _ g258 t256 t257 from q_I129_258_1) (q_r (HO264.out)) (by decide)) hk (fun _ h => h.2)) (fun _ h => h.1)); have n2_ := am (hb); have n3_ := am (hi); revert n0_ n1_ n2_ n3_; clear HO261 HO264 HB HI258; intro HO261 HO264 HB HI258; (try clear hb); (try clear hb2); (try clear hk); (try clear hi)))
 go_loopg [4, 5] k (fun kq v4 v5 w' => ∃ (x4_1 : List (List (S49))) (x5_1 : Int) (x259001_1 : Int), v5 = .int .i64 x5_1 ∧ Aside0 (spec_DrawMergeTables.l0 kq x4_1 x5_1 t256 x259001_1 = some r) ∧ Aside0 (kq ≤ k) ∧ Aside0 (Kd.S (Kd.slice 49 k49) 25 w' w.heap.size (fun _ => True) v4 x4_1) ∧ Aside0 (IsS129 w w' g258 t256 x259001_1) ∧ Aside0 (Below w.heap.size w w'))
 case atStart => exact ⟨(y259), (t265), (t266), q_i, H', ⟨Nat.le_refl _⟩, ⟨q_s (HO261.out)⟩, ⟨q_I129_258_1⟩, ⟨q_B129_258⟩⟩
 case round =>
  clear H'
  (try clear p2); (try clear c5); (try clear c8)
  obtain ⟨x4_1, x5_1, x259001_1, rfl, HA, HK1, HO_4, HI258, HB⟩ := hrel
  cases gk with
  | zero => exact absurd HA.out (by simp [spec_DrawMergeTables.l0])
  | succ k1 =>
   have H := HA.out
   clear HA
   simp only [spec_DrawMergeTables.l0] at H
   by_cases c11 : x5_1 > 0
   ·rw [if_pos c11] at H
    have c11b0 := decide_eq_true c11
    clear c11
    replace H := ob H
    obtain ⟨⟨t267, t270⟩, A120, H⟩ := H
    replace H : (if x4_1.length < 5864062014805 then (spec_DrawMergeTables.l0 k1 (x4_1 ++ [t267]) (wrap64 (x5_1 - 1)) t256 t270) else (none)) = some r := H
    have A12 := am A120
    clear A120
    by_cases c13 : x4_1.length < 5864062014805
    ·rw [if_pos c13] at H
     have LMc13 := am c13
     clear c13
     obtain ⟨y271, hy271⟩ : ∃ y_ : List (List (S49)), y_ = (x4_1 ++ [t267]) := ⟨_, rfl⟩
     replace H : (spec_DrawMergeTables.l0 k1 y271 (wrap64 (x5_1 - 1)) t256 t270) = some r := q_h hy271 H
     have Ny271 := am hy271
     clear hy271
     have H' := am H
     clear H
     go_wp2_with (first | ((with_reducible refine gate_callee (f := 82) rfl ?_); refine goesLq (some 18) rfl rfl Try.func82 (by kernel_rfl) rfl #[.pointer (some ⟨g258, 0, none⟩)] rfl ?_; (with_reducible refine (spec_l5Table.calls k1 g258 t256 x259001_1 t267 t270 w _ ?side1 ?side2 A12.out).mono ?_); (case side1 => repeat (first | (with_reducible first | exact HI258.out | apply IsS129.alloc | apply IsS129.drewN | apply IsS129.drew | apply IsS129.set_1) | exact HI258.out)); (case side2 => repeat (first | (with_reducible first | exact HB.out | apply below_alloc | apply pw_below_drewN | apply below_drew1 | refine below_set ?_ (IsS129.ge HI258.out)) | exact HB.out)); rintro e w14 ⟨v268, rfl, ho0, hi, hb, hk⟩; refine ⟨_, rfl, ?_⟩; have n0_ := am (Kd.S_mono (Kd.S_told (Kd.S_oldK (IsS129.apartS (show IsS129 w _ g258 t256 x259001_1 from q_I129_258_1) (q_s (HO_4.out)) (by decide)) hk) (Kd.R_base ho0)) (fun _ h_ => h_.1)); have n1_ := am (Kd.R_lower ho0 (below_size q_B129_258)); have n2_ := am (hb); have n3_ := am (hi); revert n0_ n1_ n2_ n3_; clear HO_4 HB HI258; intro HO_4 HO269 HB HI258; (try clear hb); (try clear hb2); (try clear hk); (try clear hi); (try clear ho0); obtain ⟨Ao16, co16, eo16⟩ := Kd.R_slice HO269.out; subst eo16) | ((with_reducible refine gate_builtin (b := .append) (xs := #[.tmp 16, .tmp 19]) rfl ?_); at_builtin; refine Kd.S_append (Kd.slice 49 k49) (w0 := w) w.heap.size rfl (.tmp 16) (.tmp 19) 74 25 (.slice none 0 0) 24 rfl Try.underlying74 info25 rfl (by decide) (by omega) u4 x4_1 t267 [.slice Ao16 t267.length co16] (fun _ => True) (fun k_ => some k_ = (.slice Ao16 t267.length co16 : Value).ownBlock) rfl rfl ?aP (fun k_ hk_ => ((Kd.R_mono (ok' := fun k_ => ((fun _ => True)) k_ ∧ some k_ ≠ (u4 : Value).ownBlock) (Kd.R_apart' (HO269.out) (Kd.S_typed HO_4.out) (by decide)) (fun k_ hk => ⟨trivial, hk.2⟩))).1 k_ hk_.symm) ?aF ?aO ?aB ?aS ?aL ?_; (case aP => exact Kd.M_row (Kd.R_mono (Kd.R_tight rfl (Kd.R_mono (ok' := fun k_ => ((fun _ => True)) k_ ∧ some k_ ≠ (u4 : Value).ownBlock) (Kd.R_apart' (HO269.out) (Kd.S_typed HO_4.out) (by decide)) (fun k_ hk => ⟨trivial, hk.2⟩))) (fun _ h_ => h_))); (case aB => exact q_B129_258); (case aF => exact (fun _ _ => trivial)); (case aO => exact (by (with_reducible repeat (first | apply Kd.S_alloc | apply Kd.S_drewN | apply Kd.S_drew)); exact Kd.S_mono HO_4.out (fun k_ hk => ⟨trivial, fun e_ => hk.2 e_⟩))); (case aS => exact (below_size q_B129_258)); (case aL => have := LMc13.out; omega); intro v272 w15 ho hb hg hat; rw [← Ny271.out] at ho; have n0_ := am (IsS129.grown q_I129_258_1 hg (IsS129.own_neS HI258.out HO_4.out (by decide))); have n1_ := am (hb); have n2_ := am (ho); revert n0_ n1_ n2_; clear HI258 HB HO_4 HO269; intro HI258 HB HO273; clear ho hb hg hat))
     go_roundg k1
     case measure => have := HK1.out; omega
     case rel => exact ⟨(y271), (wrap64 (x5_1 - 1)), (t270), q_i, H', ⟨by have := HK1.out; omega⟩, ⟨q_s (HO273.out)⟩, ⟨q_I129_258_1⟩, ⟨q_B129_258⟩⟩
    ·rw [if_neg c13] at H
     exact absurd H (by simp)
   ·rw [if_neg c11] at H
    have c11b0 := decide_eq_false c11
    clear c11
    obtain rfl := Option.some.inj H
    go_wp2
    go_ret
    exact ⟨_, q_e, q_s (HO_4.out), q_B129_258⟩

/-! ### slices_Grow_impl_Row: function 134 -/
def slices_Grow_impl_Row.f (a0 : Int) : Option (List (S49)) := if 0 ≤ a0 ∧ a0 < 2932031007402 then some [] else none
theorem slices_Grow_impl_Row.calls (a0 : Int) (r : List (S49)) (w : World) (h : slices_Grow_impl_Row.f a0 = some r) :
  Calls Try.prog 134 #[.slice none 0 0, .int .i64 a0] w fun e w' => ∃ v0_ : Value, e = .returned (v0_) ∧ Kd.R k49 49 w' w.heap.size (fun _ => True) v0_ r ∧ Below w.heap.size w w' := by
 unfold slices_Grow_impl_Row.f at h
 by_cases hb : 0 ≤ a0 ∧ a0 < 2932031007402
 ·rw [if_pos hb] at h
  obtain rfl := Option.some.inj h
  obtain ⟨h0, h1⟩ := hb
  clear h
  by_cases hz : a0 = 0
  ·subst hz
   clear h0 h1
   go_enter Try.func134, Try.ntmps134
   go_wp2
   go_ret
   exact ⟨_, rfl, Kd.R_nil _ _ _ _ _, by repeat (first | exact Below.refl _ _ | apply below_drew1)⟩
  ·have hp : 0 < a0 := by omega
   clear hz
   have HB := am (Below.refl w.heap.size w)
   obtain ⟨y, hy⟩ : ∃ y_ : List (S49), y_ = ([] ++ List.replicate (a0 : Int).toNat z49) := ⟨_, rfl⟩
   have Ny := am hy
   clear hy
   obtain ⟨i0, hi0, _, hsz, _⟩ := info_parts info49
   go_enter Try.func134, Try.ntmps134
   go_wp2_with (first | (at_builtin; refine Kd.R_append_zeros k49 (w0 := w) w.heap.size rfl (.tmp 20) (.tmp 21) 25 3 49 (.agg #[(.string ⟨#[]⟩), (.int .i64 0), (.string ⟨#[]⟩), (.bool false)]) 48 rfl Try.underlying25 Try.underlying3 info49 rfl (by decide) (by omega) (.slice none 0 0) [] z49 (a0 : Int) (fun _ => True) rfl rfl (k49_mkM _ _ _ z49) ?aF ?aO h0 ?aB ?aS ?aL ?_; (case aF => exact fun _ _ => trivial); (case aO => exact Kd.R_nil _ _ _ _ _); (case aB => exact HB.out); (case aS => exact Nat.le_refl _); (case aL => simp; omega); intro v1 w1 ho hb hg hat; clear hg hat; rw [← Ny.out] at ho; obtain ⟨Ao, co, eo⟩ := Kd.R_slice ho; subst eo; have HO := am ho; have HB1 := am hb; clear ho hb; have hcut := cut_to (P := Try.prog) 25 49 .i64 Try.underlying25 hi0 Ao y.length co 0 (by omega) (by omega) (Kd.R_reads' HO.out).2.1; simp only [Int.toNat_zero] at hcut))
   go_ret
   exact ⟨_, rfl, q_r (Kd.R_take (m := 0) HO.out (by omega)), by repeat (first | exact HB1.out | apply below_drew1)⟩
 ·rw [if_neg hb] at h
  exact absurd h (by simp)

/-! ### slices_Concat_impl_Row: function 125 -/
mutual
def slices_Concat_impl_Row.l0 : Nat → List (List (S49)) → Int → List (List (S49)) → Int → Int → Option ((List (S49)))
  | 0, _, _, _, _, _ => none
  | k + 1, x0, x3, x9, x10, x11 => if x11 < x10 then (if 0 ≤ x11 then (if x11 < (x9.length : Int) then (if (wrap64 (x3 + ((rd_L5 x9 x11).length : Int))) < 0 then (none) else (slices_Concat_impl_Row.l0 k x0 (wrap64 (x3 + ((rd_L5 x9 x11).length : Int))) x9 x10 (wrap64 (x11 + 1)))) else (none)) else (none)) else ((slices_Grow_impl_Row.f x3).bind fun t275 => (slices_Concat_impl_Row.l1 k t275 x0 (x0.length : Int) 0))
def slices_Concat_impl_Row.l1 : Nat → List (S49) → List (List (S49)) → Int → Int → Option ((List (S49)))
  | 0, _, _, _, _ => none
  | k + 1, x6, x25, x26, x27 => if x27 < x26 then (if 0 ≤ x27 then (if x27 < (x25.length : Int) then (if x6.length + (rd_L5 x25 x27).length < 2932031007402 then (slices_Concat_impl_Row.l1 k (x6 ++ (rd_L5 x25 x27)) x25 x26 (wrap64 (x27 + 1))) else (none)) else (none)) else (none)) else (some x6)
end
def slices_Concat_impl_Row.f (k : Nat) (l0 : List (List (S49))) : Option ((List (S49))) := slices_Concat_impl_Row.l0 k l0 0 l0 (l0.length : Int) 0
theorem slices_Concat_impl_Row.calls (k : Nat) (A0 : Option Addr) (c0 : Nat) (l0 : List (List (S49))) (r : List (S49)) (w : World) (hr0 : Kd.C (Kd.slice 49 k49) w A0 l0.length l0) (hc0 : l0.length ≤ c0) (h : slices_Concat_impl_Row.f k l0 = some r) :
  Calls Try.prog 125 #[.slice A0 l0.length c0] w fun e w' => ∃ v0_ : Value, e = .returned (v0_) ∧ Kd.R k49 49 w' w.heap.size (fun _ => True) v0_ r ∧ Below w.heap.size w w' := by
 have HR0 := am hr0
 have HC0 := am hc0
 clear hr0 hc0
 have HB := am (Below.refl w.heap.size w)
 have H : (slices_Concat_impl_Row.l0 k l0 0 l0 (l0.length : Int) 0) = some r := h
 clear h
 have H' := am H
 clear H
 go_enter Try.func125, Try.ntmps125
 go_wp2
 go_loopg [3, 11] k (fun kq v3 v11 w' => ∃ (x3_1 : Int) (x11_1 : Int), v3 = .int .i64 x3_1 ∧ v11 = .int .i64 x11_1 ∧ Aside0 (slices_Concat_impl_Row.l0 kq l0 x3_1 l0 (l0.length : Int) x11_1 = some r) ∧ Aside0 (kq ≤ k) ∧ Aside0 (Below w.heap.size w w'))
 case atStart => exact ⟨(0), (0), q_i, q_i, H', ⟨Nat.le_refl _⟩, ⟨bq⟩⟩
 case round =>
  clear H'
  (try clear c1)
  obtain ⟨x3_1, x11_1, rfl, rfl, HA, HK1, HB⟩ := hrel
  cases gk with
  | zero => exact absurd HA.out (by simp [slices_Concat_impl_Row.l0])
  | succ k1 =>
   have H := HA.out
   clear HA
   simp only [slices_Concat_impl_Row.l0] at H
   by_cases c2 : x11_1 < (l0.length : Int)
   ·rw [if_pos c2] at H
    have c2b0 := decide_eq_true c2
    clear c2
    by_cases c3 : 0 ≤ x11_1
    ·rw [if_pos c3] at H
     have c3b0 := decide_eq_true c3
     clear c3
     by_cases c4 : x11_1 < (l0.length : Int)
     ·rw [if_pos c4] at H
      have c4b0 := decide_eq_true c4
      clear c4
      by_cases c5 : (wrap64 (x3_1 + ((rd_L5 l0 x11_1).length : Int))) < 0
      ·rw [if_pos c5] at H
       exact absurd H (by simp)
      ·rw [if_neg c5] at H
       have c5b0 := decide_eq_false c5
       clear c5
       have H' := am H
       clear H
       have p274 : 0 ≤ (x11_1 : Int) := q_d
       have q274 : x11_1 < (l0.length : Int) := q_d
       obtain ⟨ad274, A274_0, c274_0, e274, hx274_0, hl274_0, hi274_0⟩ := at_L5 HR0.out x11_1 p274 q274
       cases e274
       replace hx274_0 := q_x HB.out hx274_0
       have HR274_0 := am hi274_0
       have HC274_0 := am hl274_0
       clear hi274_0 hl274_0
       replace p274 := eq_true p274
       replace q274 := eq_true q274
       go_wp2
       go_roundg k1
       case measure => have := HK1.out; omega
       case rel => exact ⟨(wrap64 (x3_1 + ((rd_L5 l0 x11_1).length : Int))), (wrap64 (x11_1 + 1)), q_i, q_i, H', ⟨by have := HK1.out; omega⟩, ⟨bq⟩⟩
     ·rw [if_neg c4] at H
      exact absurd H (by simp)
    ·rw [if_neg c3] at H
     exact absurd H (by simp)
   ·rw [if_neg c2] at H
    have c2b0 := decide_eq_false c2
    clear c2
    replace H := ob H
    obtain ⟨t275, A60, H⟩ := H
    replace H : (slices_Concat_impl_Row.l1 k1 t275 l0 (l0.length : Int) 0) = some r := H
    have A6 := am A60
    clear A60
    have H' := am H
    clear H
    go_wp2_with (first | ((with_reducible refine gate_callee (f := 134) rfl ?_); refine goesLq (some 24) rfl rfl Try.func134 (by kernel_rfl) rfl #[.slice none 0 0, .int .i64 x3_1] rfl ?_; (with_reducible refine (slices_Grow_impl_Row.calls x3_1 t275 _ A6.out).mono ?_); rintro e w7 ⟨v276, rfl, ho0, hb⟩; refine ⟨_, rfl, ?_⟩; have n0_ := am (Kd.R_lower ho0 (below_size bq)); have n1_ := am (below_step bq hb); revert n0_ n1_; clear HB; intro HO277 HB; (try clear hb); (try clear hb2); (try clear hk); (try clear hi); (try clear ho0)))
    go_loopg [6, 27] k1 (fun kq v6 v27 w' => ∃ (x6_2 : List (S49)) (x27_2 : Int), v27 = .int .i64 x27_2 ∧ Aside0 (slices_Concat_impl_Row.l1 kq x6_2 l0 (l0.length : Int) x27_2 = some r) ∧ Aside0 (kq ≤ k1) ∧ Aside0 (Kd.R k49 49 w' w.heap.size (fun _ => True) v6 x6_2) ∧ Aside0 (Below w.heap.size w w'))
    case atStart => exact ⟨(t275), (0), q_i, H', ⟨Nat.le_refl _⟩, ⟨q_r (HO277.out)⟩, ⟨bq⟩⟩
    case round =>
     clear H'
     (try clear c1); (try clear c2); (try clear c2b0); (try clear p2); (try clear q2); (try clear hx2); (try clear c3); (try clear c3b0); (try clear c4); (try clear c4b0); (try clear c5); (try clear c5b0)
     (try clear p6); (try clear hx274_0); (try clear p274); (try clear q274)
     obtain ⟨x6_2, x27_2, rfl, HA, HK2, HO_6, HB⟩ := hrel
     cases gk with
     | zero => exact absurd HA.out (by simp [slices_Concat_impl_Row.l1])
     | succ k2 =>
      have H := HA.out
      clear HA
      simp only [slices_Concat_impl_Row.l1] at H
      by_cases c8 : x27_2 < (l0.length : Int)
      ·rw [if_pos c8] at H
       have c8b0 := decide_eq_true c8
       clear c8
       by_cases c9 : 0 ≤ x27_2
       ·rw [if_pos c9] at H
        have c9b0 := decide_eq_true c9
        clear c9
        by_cases c10 : x27_2 < (l0.length : Int)
        ·rw [if_pos c10] at H
         have c10b0 := decide_eq_true c10
         clear c10
         by_cases c11 : x6_2.length + (rd_L5 l0 x27_2).length < 2932031007402
         ·rw [if_pos c11] at H
          have LMc11 := am c11
          clear c11
          obtain ⟨y279, hy279⟩ : ∃ y_ : List (S49), y_ = (x6_2 ++ (rd_L5 l0 x27_2)) := ⟨_, rfl⟩
          replace H : (slices_Concat_impl_Row.l1 k2 y279 l0 (l0.length : Int) (wrap64 (x27_2 + 1))) = some r := q_h hy279 H
          have Ny279 := am hy279
          clear hy279
          have H' := am H
          clear H
          have p278 : 0 ≤ (x27_2 : Int) := q_d
          have q278 : x27_2 < (l0.length : Int) := q_d
          obtain ⟨ad278, A278_0, c278_0, e278, hx278_0, hl278_0, hi278_0⟩ := at_L5 HR0.out x27_2 p278 q278
          cases e278
          replace hx278_0 := q_x HB.out hx278_0
          have HR278_0 := am hi278_0
          have HC278_0 := am hl278_0
          clear hi278_0 hl278_0
          replace p278 := eq_true p278
          replace q278 := eq_true q278
          go_wp2_with (first | ((with_reducible refine gate_builtin (b := .append) (xs := #[.tmp 31, .tmp 32]) rfl ?_); at_builtin; refine Kd.R_append_rows k49 (w0 := w) w.heap.size rfl (.tmp 31) (.tmp 32) 25 49 (.agg #[(.string ⟨#[]⟩), (.int .i64 0), (.string ⟨#[]⟩), (.bool false)]) 48 rfl Try.underlying25 info49 rfl (by decide) (by omega) u6 x6_2 (rd_L5 l0 x27_2) _ _ _ (fun _ => True) (fun _ => False) rfl rfl ?aO ?aR (fun _ _ h => h) (fun _ h => h.elim) ?aF ?aB ?aS ?aL ?_; (case aR => repeat (first | exact (Kd.C_below HR278_0.out HB.out) | (with_reducible refine Kd.C_alloc ?_ _) | (with_reducible refine Kd.C_drewN ?_ _) | (with_reducible refine Kd.C_drew ?_))); (case aB => exact bq); (case aF => exact (fun _ _ => trivial)); (case aO => exact (q_r (HO_6.out))); (case aS => exact (below_size bq)); (case aL => have := LMc11.out; omega); intro v280 w12 ho hb hg hat; rw [← Ny279.out] at ho; have n0_ := am (hb); have n1_ := am (ho); revert n0_ n1_; clear HB HO_6; intro HB HO281; clear ho hb hg hat))
          go_roundg k2
          case measure => have := HK1.out; have := HK2.out; omega
          case rel => exact ⟨(y279), (wrap64 (x27_2 + 1)), q_i, H', ⟨by have := HK1.out; have := HK2.out; omega⟩, ⟨q_r (HO281.out)⟩, ⟨bq⟩⟩
         ·rw [if_neg c11] at H
          exact absurd H (by simp)
        ·rw [if_neg c10] at H
         exact absurd H (by simp)
       ·rw [if_neg c9] at H
        exact absurd H (by simp)
      ·rw [if_neg c8] at H
       have c8b0 := decide_eq_false c8
       clear c8
       obtain rfl := Option.some.inj H
       go_wp2
       go_ret
       exact ⟨_, q_e, q_r (HO_6.out), bq⟩

end Go.Proofs.Ytdhlcnlcpjlliaa.PFnTables
