/- Functions that a law reaches, as plain Lean functions, with the proof that the machine comes to their answers. No conditions. -/
import Derived.Test.YtdhlcnlcpjlliaaPFnTablesx0
import Derived.Test.YtdhlcnlcpjlliaaPFnTablesx3
import Derived.Test.YtdhlcnlcpjlliaaPFnTablesx4
namespace Go.Proofs.Ytdhlcnlcpjlliaa.PFnTables
open Go.RowKit Go.Proofs.YtdhlcnlcpjlliaaW.PrintWords Go.Proofs.YtdhlcnlcpjlliaaW.PrintLast Go.Proofs.YtdhlcnlcpjlliaaW.PrintMore
attribute [local go_sem] max2_int min2_int max_two min_two max_three min_three max_four min_four   -- for this text's walks alone
set_option linter.unusedVariables false
set_option linter.unusedSimpArgs false
set_option maxHeartbeats 8000000
set_option maxRecDepth 100000

/-! ### spec_l5Key: function 131 -/
def spec_l5Key.f (s0_0 : List Int) (s0_1 : Int) : Option (ByteArray × Int) := (some (([(⟨#[97]⟩ : ByteArray), (⟨#[98]⟩ : ByteArray), (⟨#[97, 98]⟩ : ByteArray), (⟨#[107, 49]⟩ : ByteArray), (⟨#[107, 50]⟩ : ByteArray)] : List ByteArray) : List ByteArray)).bind fun y179 => ((spec_l1Next.f s0_0 s0_1 5).bind fun bt182 => (if 0 ≤ bt182.1 then (if bt182.1 < (y179.length : Int) then (some (rdOf ByteArray.empty y179 bt182.1, bt182.2)) else (none)) else (none)))
theorem spec_l5Key.calls (g : Nat) (s0_0 : List Int) (s0_1 : Int) (r1 : ByteArray) (r2 : Int) (w0 w : World) (hI : IsS129 w0 w g s0_0 s0_1) (hB : Below w0.heap.size w0 w) (h : spec_l5Key.f s0_0 s0_1 = some (r1, r2)) :
  Calls Try.prog 131 #[.pointer (some ⟨g, 0, none⟩)] w fun e w' => e = .returned (.string r1) ∧ IsS129 w0 w' g s0_0 r2 ∧ Below w0.heap.size w0 w' ∧ KeepBut w w' g none := by
 have HI0 := am hI
 have HK := am (KeepBut.refl w g none)
 have HL := am hB.size
 clear hI
 have HW0 := am hB.size
 have HB := am hB
 clear hB
 have H : ((some (([(⟨#[97]⟩ : ByteArray), (⟨#[98]⟩ : ByteArray), (⟨#[97, 98]⟩ : ByteArray), (⟨#[107, 49]⟩ : ByteArray), (⟨#[107, 50]⟩ : ByteArray)] : List ByteArray) : List ByteArray)).bind fun y179 => ((spec_l1Next.f s0_0 s0_1 5).bind fun bt182 => (if 0 ≤ bt182.1 then (if bt182.1 < (y179.length : Int) then (some (rdOf ByteArray.empty y179 bt182.1, bt182.2)) else (none)) else (none)))) = some (r1, r2) := h
 clear h
 obtain ⟨y179, hy179⟩ : ∃ y_ : List ByteArray, y_ = (([(⟨#[97]⟩ : ByteArray), (⟨#[98]⟩ : ByteArray), (⟨#[97, 98]⟩ : ByteArray), (⟨#[107, 49]⟩ : ByteArray), (⟨#[107, 50]⟩ : ByteArray)] : List ByteArray)) := ⟨_, rfl⟩
 replace H : ((spec_l1Next.f s0_0 s0_1 5).bind fun bt182 => (if 0 ≤ bt182.1 then (if bt182.1 < (y179.length : Int) then (some (rdOf ByteArray.empty y179 bt182.1, bt182.2)) else (none)) else (none))) = some (r1, r2) := q_h hy179 H
 have Ny179 := am hy179
 clear hy179
 replace H := ob H
 obtain ⟨⟨t182, t183⟩, A20, H⟩ := H
 replace H : (if 0 ≤ t182 then (if t182 < (y179.length : Int) then (some (rdOf ByteArray.empty y179 t182, t183)) else (none)) else (none)) = some (r1, r2) := H
 have A2 := am A20
 clear A20
 by_cases c3 : 0 ≤ t182
 ·rw [if_pos c3] at H
  have c3b0 := decide_eq_true c3
  clear c3
  by_cases c4 : t182 < (y179.length : Int)
  ·rw [if_pos c4] at H
   have c4b0 := decide_eq_true c4
   clear c4
   simp only [Option.some.injEq, Prod.mk.injEq] at H
   obtain ⟨rfl, rfl⟩ := H
   go_enter Try.func131, Try.ntmps131
   go_wp2_with (first | ((with_reducible refine gate_dst (N := 3) rfl ?_); refine Kd.R_lit Kd.string _ 9 ?hg (N := 3) ?hd (xs := ([(⟨#[97]⟩ : ByteArray), (⟨#[98]⟩ : ByteArray), (⟨#[97, 98]⟩ : ByteArray), (⟨#[107, 49]⟩ : ByteArray), (⟨#[107, 50]⟩ : ByteArray)] : List ByteArray)) (inner := [.string (⟨#[97]⟩ : ByteArray), .string (⟨#[98]⟩ : ByteArray), .string (⟨#[97, 98]⟩ : ByteArray), .string (⟨#[107, 49]⟩ : ByteArray), .string (⟨#[107, 50]⟩ : ByteArray)]) (ok := fun _ => True) (okp := fun _ => True) ?hr ?hp (fun _ hk => hk) trivial (Below.refl _ _) (Nat.le_refl _) (by simp) ?_; (case hd => rfl); (case hg => rfl); (case hr => first | (go_simp; done) | (go_simp; rfl)); (case hp => exact (Reps.one (show Kd.M Kd.string _ _ _ (⟨#[97]⟩ : ByteArray) [.string (⟨#[97]⟩ : ByteArray)] from rfl) (Reps.one (show Kd.M Kd.string _ _ _ (⟨#[98]⟩ : ByteArray) [.string (⟨#[98]⟩ : ByteArray)] from rfl) (Reps.one (show Kd.M Kd.string _ _ _ (⟨#[97, 98]⟩ : ByteArray) [.string (⟨#[97, 98]⟩ : ByteArray)] from rfl) (Reps.one (show Kd.M Kd.string _ _ _ (⟨#[107, 49]⟩ : ByteArray) [.string (⟨#[107, 49]⟩ : ByteArray)] from rfl) (Reps.one (show Kd.M Kd.string _ _ _ (⟨#[107, 50]⟩ : ByteArray) [.string (⟨#[107, 50]⟩ : ByteArray)] from rfl) (Reps.none _ _))))))); intro v180 w5 ho6 hb hg_ hnew_; clear hg_ hnew_; (first | rw [← Ny179.out] at ho6 | (simp only [Int.reduceToNat] at ho6; rw [← Ny179.out] at ho6)); have n0_ := am (Kd.R_lower ho6 (keep_size (w := w) (g := g) (row := none) q_K)); have n1_ := am (IsS129.below q_I129_0_1 hb); have n2_ := am (KeepBut.trans q_K (KeepBut.of_below hb g none) (.inl rfl)); have n3_ := am (below_step q_B129_0 hb); revert n0_ n1_ n2_ n3_; clear HI0 HK HB; intro HO181 HI0 HK HB; clear hb ho6) | ((with_reducible refine gate_callee (f := 84) rfl ?_); refine goesLq (some 5) rfl rfl Try.func84 (by kernel_rfl) rfl #[.pointer (some ⟨g, 0, none⟩), .int .i64 5] rfl ?_; (with_reducible refine (spec_l1Next.calls g s0_0 s0_1 5 t182 t183 w0 _ ?side1 ?side2 A2.out).mono ?_); (case side1 => repeat (first | (with_reducible first | exact HI0.out | apply IsS129.alloc | apply IsS129.drewN | apply IsS129.drew | apply IsS129.set_1) | exact HI0.out)); (case side2 => repeat (first | (with_reducible first | exact HB.out | apply below_alloc | apply pw_below_drewN | apply below_drew1 | refine below_set ?_ (IsS129.ge HI0.out)) | exact HB.out)); rintro e w7 ⟨rfl, hi, hb, hk⟩; refine ⟨_, rfl, ?_⟩; have n0_ := am (Kd.R_mono (Kd.R_keep (IsS129.apart (show IsS129 w0 _ g s0_0 s0_1 from q_I129_0_1) (q_r (HO181.out)) (by decide)) hk (fun _ h => h.2)) (fun _ h => h.1)); have n1_ := am (KeepBut.trans q_K hk (.inl rfl)); have n2_ := am (hb); have n3_ := am (hi); revert n0_ n1_ n2_ n3_; clear HO181 HK HB HI0; intro HO181 HK HB HI0; (try clear hb); (try clear hb2); (try clear hk); (try clear hi); obtain ⟨Ao8, co8, eo8⟩ := Kd.R_slice HO181.out; subst eo8; have p184 : 0 ≤ (t182 : Int) := q_d; have q184 : t182 < (y179.length : Int) := q_d; obtain ⟨ad184, e184, hx184_0⟩ := Kd.at_string (Kd.R_reads' HO181.out).2.2 t182 p184 q184; cases e184; replace p184 := eq_true p184; replace q184 := eq_true q184))
   go_ret
   exact ⟨q_e, q_I129_0_1, q_B129_0, q_K⟩
  ·rw [if_neg c4] at H
   exact absurd H (by simp)
 ·rw [if_neg c3] at H
  exact absurd H (by simp)

/-! ### spec_l1Chance: function 132 -/
def spec_l1Chance.f (s0_0 : List Int) (s0_1 : Int) (a1 : Int) : Option (Bool × Int) := (spec_l1Next.f s0_0 s0_1 a1).bind fun bt185 => (some ((bt185.1 == 0), bt185.2))
theorem spec_l1Chance.calls (g : Nat) (s0_0 : List Int) (s0_1 : Int) (a1 : Int) (r1 : Bool) (r2 : Int) (w0 w : World) (hI : IsS129 w0 w g s0_0 s0_1) (hB : Below w0.heap.size w0 w) (h : spec_l1Chance.f s0_0 s0_1 a1 = some (r1, r2)) :
  Calls Try.prog 132 #[.pointer (some ⟨g, 0, none⟩), .int .i64 a1] w fun e w' => e = .returned (.bool r1) ∧ IsS129 w0 w' g s0_0 r2 ∧ Below w0.heap.size w0 w' ∧ KeepBut w w' g none := by
 have HI0 := am hI
 have HK := am (KeepBut.refl w g none)
 have HL := am hB.size
 clear hI
 have HW0 := am hB.size
 have HB := am hB
 clear hB
 have H : ((spec_l1Next.f s0_0 s0_1 a1).bind fun bt185 => (some ((bt185.1 == 0), bt185.2))) = some (r1, r2) := h
 clear h
 replace H := ob H
 obtain ⟨⟨t185, t186⟩, A30, H⟩ := H
 replace H : (some ((t185 == 0), t186)) = some (r1, r2) := H
 have A3 := am A30
 clear A30
 simp only [Option.some.injEq, Prod.mk.injEq] at H
 obtain ⟨rfl, rfl⟩ := H
 go_enter Try.func132, Try.ntmps132
 go_wp2_with (first | ((with_reducible refine gate_callee (f := 84) rfl ?_); refine goesLq (some 7) rfl rfl Try.func84 (by kernel_rfl) rfl #[.pointer (some ⟨g, 0, none⟩), .int .i64 a1] rfl ?_; (with_reducible refine (spec_l1Next.calls g s0_0 s0_1 a1 t185 t186 w0 _ ?side1 ?side2 A3.out).mono ?_); (case side1 => repeat (first | (with_reducible first | exact HI0.out | apply IsS129.alloc | apply IsS129.drewN | apply IsS129.drew | apply IsS129.set_1) | exact HI0.out)); (case side2 => repeat (first | (with_reducible first | exact HB.out | apply below_alloc | apply pw_below_drewN | apply below_drew1 | refine below_set ?_ (IsS129.ge HI0.out)) | exact HB.out)); rintro e w4 ⟨rfl, hi, hb, hk⟩; refine ⟨_, rfl, ?_⟩; have n0_ := am (KeepBut.trans q_K hk (.inl rfl)); have n1_ := am (hb); have n2_ := am (hi); revert n0_ n1_ n2_; clear HK HB HI0; intro HK HB HI0; (try clear hb); (try clear hb2); (try clear hk); (try clear hi)))
 go_ret
 exact ⟨q_e, q_I129_0_1, q_B129_0, q_K⟩

/-! ### spec_l5Row: function 116 -/
def spec_l5Row.f (s0_0 : List Int) (s0_1 : Int) : Option (ByteArray × Int × ByteArray × Bool × Int) := (spec_l5Key.f s0_0 s0_1).bind fun bt188 => ((spec_l1Next.f s0_0 bt188.2 9).bind fun bt190 => ((some (([(⟨#[120]⟩ : ByteArray), (⟨#[121]⟩ : ByteArray), (⟨#[]⟩ : ByteArray), (⟨#[122, 122]⟩ : ByteArray)] : List ByteArray) : List ByteArray)).bind fun y192 => ((spec_l1Next.f s0_0 bt190.2 4).bind fun bt195 => (if 0 ≤ bt195.1 then (if bt195.1 < (y192.length : Int) then ((spec_l1Chance.f s0_0 bt195.2 4).bind fun bt199 => (if bt199.1 = true then (some (bt188.1, wrap64 (1 + bt190.1), (⟨#[]⟩ : ByteArray), true, bt199.2)) else (some (bt188.1, wrap64 (1 + bt190.1), rdOf ByteArray.empty y192 bt195.1, false, bt199.2)))) else (none)) else (none)))))
theorem spec_l5Row.calls (g : Nat) (s0_0 : List Int) (s0_1 : Int) (r1 : ByteArray) (r2 : Int) (r3 : ByteArray) (r4 : Bool) (r5 : Int) (w0 w : World) (hI : IsS129 w0 w g s0_0 s0_1) (hB : Below w0.heap.size w0 w) (h : spec_l5Row.f s0_0 s0_1 = some (r1, r2, r3, r4, r5)) :
  Calls Try.prog 116 #[.pointer (some ⟨g, 0, none⟩)] w fun e w' => e = .returned (.agg #[.string r1, .int .i64 r2, .string r3, .bool r4]) ∧ IsS129 w0 w' g s0_0 r5 ∧ Below w0.heap.size w0 w' ∧ KeepBut w w' g none := by
 have hu49 := Try.underlying49
 have HI0 := am hI
 have HK := am (KeepBut.refl w g none)
 have HL := am hB.size
 clear hI
 have HW0 := am hB.size
 have HB := am hB
 clear hB
 have H : ((spec_l5Key.f s0_0 s0_1).bind fun bt188 => ((spec_l1Next.f s0_0 bt188.2 9).bind fun bt190 => ((some (([(⟨#[120]⟩ : ByteArray), (⟨#[121]⟩ : ByteArray), (⟨#[]⟩ : ByteArray), (⟨#[122, 122]⟩ : ByteArray)] : List ByteArray) : List ByteArray)).bind fun y192 => ((spec_l1Next.f s0_0 bt190.2 4).bind fun bt195 => (if 0 ≤ bt195.1 then (if bt195.1 < (y192.length : Int) then ((spec_l1Chance.f s0_0 bt195.2 4).bind fun bt199 => (if bt199.1 = true then (some (bt188.1, wrap64 (1 + bt190.1), (⟨#[]⟩ : ByteArray), true, bt199.2)) else (some (bt188.1, wrap64 (1 + bt190.1), rdOf ByteArray.empty y192 bt195.1, false, bt199.2)))) else (none)) else (none)))))) = some (r1, r2, r3, r4, r5) := h
 clear h
 replace H := ob H
 obtain ⟨⟨t188, t189⟩, A20, H⟩ := H
 replace H : ((spec_l1Next.f s0_0 t189 9).bind fun bt190 => ((some (([(⟨#[120]⟩ : ByteArray), (⟨#[121]⟩ : ByteArray), (⟨#[]⟩ : ByteArray), (⟨#[122, 122]⟩ : ByteArray)] : List ByteArray) : List ByteArray)).bind fun y192 => ((spec_l1Next.f s0_0 bt190.2 4).bind fun bt195 => (if 0 ≤ bt195.1 then (if bt195.1 < (y192.length : Int) then ((spec_l1Chance.f s0_0 bt195.2 4).bind fun bt199 => (if bt199.1 = true then (some (t188, wrap64 (1 + bt190.1), (⟨#[]⟩ : ByteArray), true, bt199.2)) else (some (t188, wrap64 (1 + bt190.1), rdOf ByteArray.empty y192 bt195.1, false, bt199.2)))) else (none)) else (none))))) = some (r1, r2, r3, r4, r5) := H
 have A2 := am A20
 clear A20
 replace H := ob H
 obtain ⟨⟨t190, t191⟩, A30, H⟩ := H
 replace H : ((some (([(⟨#[120]⟩ : ByteArray), (⟨#[121]⟩ : ByteArray), (⟨#[]⟩ : ByteArray), (⟨#[122, 122]⟩ : ByteArray)] : List ByteArray) : List ByteArray)).bind fun y192 => ((spec_l1Next.f s0_0 t191 4).bind fun bt195 => (if 0 ≤ bt195.1 then (if bt195.1 < (y192.length : Int) then ((spec_l1Chance.f s0_0 bt195.2 4).bind fun bt199 => (if bt199.1 = true then (some (t188, wrap64 (1 + t190), (⟨#[]⟩ : ByteArray), true, bt199.2)) else (some (t188, wrap64 (1 + t190), rdOf ByteArray.empty y192 bt195.1, false, bt199.2)))) else (none)) else (none)))) = some (r1, r2, r3, r4, r5) := H
 have A3 := am A30
 clear A30
 obtain ⟨y192, hy192⟩ : ∃ y_ : List ByteArray, y_ = (([(⟨#[120]⟩ : ByteArray), (⟨#[121]⟩ : ByteArray), (⟨#[]⟩ : ByteArray), (⟨#[122, 122]⟩ : ByteArray)] : List ByteArray)) := ⟨_, rfl⟩
 replace H : ((spec_l1Next.f s0_0 t191 4).bind fun bt195 => (if 0 ≤ bt195.1 then (if bt195.1 < (y192.length : Int) then ((spec_l1Chance.f s0_0 bt195.2 4).bind fun bt199 => (if bt199.1 = true then (some (t188, wrap64 (1 + t190), (⟨#[]⟩ : ByteArray), true, bt199.2)) else (some (t188, wrap64 (1 + t190), rdOf ByteArray.empty y192 bt195.1, false, bt199.2)))) else (none)) else (none))) = some (r1, r2, r3, r4, r5) := q_h hy192 H
 have Ny192 := am hy192
 clear hy192
 replace H := ob H
 obtain ⟨⟨t195, t196⟩, A40, H⟩ := H
 replace H : (if 0 ≤ t195 then (if t195 < (y192.length : Int) then ((spec_l1Chance.f s0_0 t196 4).bind fun bt199 => (if bt199.1 = true then (some (t188, wrap64 (1 + t190), (⟨#[]⟩ : ByteArray), true, bt199.2)) else (some (t188, wrap64 (1 + t190), rdOf ByteArray.empty y192 t195, false, bt199.2)))) else (none)) else (none)) = some (r1, r2, r3, r4, r5) := H
 have A4 := am A40
 clear A40
 by_cases c5 : 0 ≤ t195
 ·rw [if_pos c5] at H
  have c5b0 := decide_eq_true c5
  clear c5
  by_cases c6 : t195 < (y192.length : Int)
  ·rw [if_pos c6] at H
   have c6b0 := decide_eq_true c6
   clear c6
   replace H := ob H
   obtain ⟨⟨t199, t200⟩, A70, H⟩ := H
   replace H : (if t199 = true then (some (t188, wrap64 (1 + t190), (⟨#[]⟩ : ByteArray), true, t200)) else (some (t188, wrap64 (1 + t190), rdOf ByteArray.empty y192 t195, false, t200))) = some (r1, r2, r3, r4, r5) := H
   have A7 := am A70
   clear A70
   by_cases c8 : t199 = true
   ·subst c8
    have H1 : (some (t188, wrap64 (1 + t190), (⟨#[]⟩ : ByteArray), true, t200)) = some (r1, r2, r3, r4, r5) := by rw [if_pos rfl] at H; exact H
    clear H
    have H := H1
    clear H1
    simp only [Option.some.injEq, Prod.mk.injEq] at H
    obtain ⟨rfl, rfl, rfl, rfl, rfl⟩ := H
    go_enter Try.func116, Try.ntmps116
    go_wp2_with (first | ((with_reducible refine gate_dst (N := 2) rfl ?_); refine q_box (N := 2) (cs := #[.string (⟨#[]⟩ : ByteArray), .int .i64 0, .string (⟨#[]⟩ : ByteArray), .bool false]) (t := 49) ?_; intro gb187 hg w9 hbox hb; have n0_ := am (IsS129.below q_I129_0_1 hb); have n1_ := am (KeepBut.trans q_K (KeepBut.of_below hb g none) (.inl rfl)); have n2_ := am (below_step q_B129_0 hb); have n3_ := am (hbox); have n4_ := am ((by rw [hg]; exact (keep_size (w := w) (g := g) (row := none) q_K) : w.heap.size ≤ gb187)); have n5_ := am ((Nat.le_trans HW0.out (by rw [hg]; exact (keep_size (w := w) (g := g) (row := none) q_K) : w.heap.size ≤ gb187) : w0.heap.size ≤ gb187)); have n6_ := am ((by rw [hg]; exact Nat.ne_of_lt (IsS129.lt (show IsS129 w0 _ g s0_0 s0_1 from q_I129_0_1)) : g ≠ gb187)); have n7_ := am ((by rw [hg]; exact Nat.ne_of_gt (IsS129.lt (show IsS129 w0 _ g s0_0 s0_1 from q_I129_0_1)) : gb187 ≠ g)); revert n0_ n1_ n2_ n3_ n4_ n5_ n6_ n7_; clear HI0 HK HB; intro HI0 HK HB BK187 GW187 GE187 NB0_187 NB187_0; clear hb hbox hg) | ((with_reducible refine gate_callee (f := 131) rfl ?_); refine goesLq (some 5) rfl rfl Try.func131 (by kernel_rfl) rfl #[.pointer (some ⟨g, 0, none⟩)] rfl ?_; (with_reducible refine (spec_l5Key.calls g s0_0 s0_1 t188 t189 w0 _ ?side1 ?side2 A2.out).mono ?_); (case side1 => repeat (first | (with_reducible first | exact HI0.out | apply IsS129.alloc | apply IsS129.drewN | apply IsS129.drew | apply IsS129.set_1 | refine IsS129.far ?_ NB0_187.out _) | exact HI0.out)); (case side2 => repeat (first | (with_reducible first | exact HB.out | apply below_alloc | apply pw_below_drewN | apply below_drew1 | refine below_set ?_ (IsS129.ge HI0.out) | refine below_set ?_ GE187.out) | exact HB.out)); rintro e w10 ⟨rfl, hi, hb, hk⟩; refine ⟨_, rfl, ?_⟩; have n0_ := am (KeepBut.blk hk (g' := gb187) (o := .cells #[.string (⟨#[]⟩ : ByteArray), .int .i64 0, .string (⟨#[]⟩ : ByteArray), .bool false] 49 (0, 0)) kq NB187_0.out (by simp)); have n1_ := am (KeepBut.trans q_K hk (.inl rfl)); have n2_ := am (hb); have n3_ := am (hi); revert n0_ n1_ n2_ n3_; clear BK187 HK HB HI0; intro BK187 HK HB HI0; (try clear hb); (try clear hb2); (try clear hk); (try clear hi)) | ((with_reducible refine gate_callee (f := 84) rfl ?_); refine goesLq (some 7) rfl rfl Try.func84 (by kernel_rfl) rfl #[.pointer (some ⟨g, 0, none⟩), .int .i64 9] rfl ?_; (with_reducible refine (spec_l1Next.calls g s0_0 t189 9 t190 t191 w0 _ ?side1 ?side2 A3.out).mono ?_); (case side1 => repeat (first | (with_reducible first | exact HI0.out | apply IsS129.alloc | apply IsS129.drewN | apply IsS129.drew | apply IsS129.set_1 | refine IsS129.far ?_ NB0_187.out _) | exact HI0.out)); (case side2 => repeat (first | (with_reducible first | exact HB.out | apply below_alloc | apply pw_below_drewN | apply below_drew1 | refine below_set ?_ (IsS129.ge HI0.out) | refine below_set ?_ GE187.out) | exact HB.out)); rintro e w11 ⟨rfl, hi, hb, hk⟩; refine ⟨_, rfl, ?_⟩; have n0_ := am (KeepBut.blk hk (g' := gb187) (o := .cells #[.string (⟨#[]⟩ : ByteArray), .int .i64 0, .string (⟨#[]⟩ : ByteArray), .bool false] 49 (0, 0)) kq NB187_0.out (by simp)); have n1_ := am (KeepBut.trans q_K hk (.inl rfl)); have n2_ := am (hb); have n3_ := am (hi); revert n0_ n1_ n2_ n3_; clear BK187 HK HB HI0; intro BK187 HK HB HI0; (try clear hb); (try clear hb2); (try clear hk); (try clear hi)) | ((with_reducible refine gate_dst (N := 9) rfl ?_); refine Kd.R_lit Kd.string _ 9 ?hg (N := 9) ?hd (xs := ([(⟨#[120]⟩ : ByteArray), (⟨#[121]⟩ : ByteArray), (⟨#[]⟩ : ByteArray), (⟨#[122, 122]⟩ : ByteArray)] : List ByteArray)) (inner := [.string (⟨#[120]⟩ : ByteArray), .string (⟨#[121]⟩ : ByteArray), .string (⟨#[]⟩ : ByteArray), .string (⟨#[122, 122]⟩ : ByteArray)]) (ok := fun _ => True) (okp := fun _ => True) ?hr ?hp (fun _ hk => hk) trivial (Below.refl _ _) (Nat.le_refl _) (by simp) ?_; (case hd => rfl); (case hg => rfl); (case hr => first | (go_simp; done) | (go_simp; rfl)); (case hp => exact (Reps.one (show Kd.M Kd.string _ _ _ (⟨#[120]⟩ : ByteArray) [.string (⟨#[120]⟩ : ByteArray)] from rfl) (Reps.one (show Kd.M Kd.string _ _ _ (⟨#[121]⟩ : ByteArray) [.string (⟨#[121]⟩ : ByteArray)] from rfl) (Reps.one (show Kd.M Kd.string _ _ _ (⟨#[]⟩ : ByteArray) [.string (⟨#[]⟩ : ByteArray)] from rfl) (Reps.one (show Kd.M Kd.string _ _ _ (⟨#[122, 122]⟩ : ByteArray) [.string (⟨#[122, 122]⟩ : ByteArray)] from rfl) (Reps.none _ _)))))); intro v193 w12 ho13 hb hg_ hnew_; clear hg_ hnew_; (first | rw [← Ny192.out] at ho13 | (simp only [Int.reduceToNat] at ho13; rw [← Ny192.out] at ho13)); have n0_ := am (Kd.R_lower ho13 (keep_size (w := w) (g := g) (row := none) q_K)); have n1_ := am (IsS129.below q_I129_0_1 hb); have n2_ := am (blk_below (q_b BK187.out) hb); have n3_ := am (KeepBut.trans q_K (KeepBut.of_below hb g none) (.inl rfl)); have n4_ := am (below_step q_B129_0 hb); revert n0_ n1_ n2_ n3_ n4_; clear HI0 BK187 HK HB; intro HO194 HI0 BK187 HK HB; clear hb ho13) | ((with_reducible refine gate_callee (f := 84) rfl ?_); refine goesLq (some 11) rfl rfl Try.func84 (by kernel_rfl) rfl #[.pointer (some ⟨g, 0, none⟩), .int .i64 4] rfl ?_; (with_reducible refine (spec_l1Next.calls g s0_0 t191 4 t195 t196 w0 _ ?side1 ?side2 A4.out).mono ?_); (case side1 => repeat (first | (with_reducible first | exact HI0.out | apply IsS129.alloc | apply IsS129.drewN | apply IsS129.drew | apply IsS129.set_1 | refine IsS129.far ?_ NB0_187.out _) | exact HI0.out)); (case side2 => repeat (first | (with_reducible first | exact HB.out | apply below_alloc | apply pw_below_drewN | apply below_drew1 | refine below_set ?_ (IsS129.ge HI0.out) | refine below_set ?_ GE187.out) | exact HB.out)); rintro e w14 ⟨rfl, hi, hb, hk⟩; refine ⟨_, rfl, ?_⟩; have n0_ := am (KeepBut.blk hk (g' := gb187) (o := .cells #[.string (⟨#[]⟩ : ByteArray), .int .i64 0, .string (⟨#[]⟩ : ByteArray), .bool false] 49 (0, 0)) kq NB187_0.out (by simp)); have n1_ := am (Kd.R_mono (Kd.R_keep (IsS129.apart (show IsS129 w0 _ g s0_0 t191 from q_I129_0_1) (q_r (HO194.out)) (by decide)) hk (fun _ h => h.2)) (fun _ h => h.1)); have n2_ := am (KeepBut.trans q_K hk (.inl rfl)); have n3_ := am (hb); have n4_ := am (hi); revert n0_ n1_ n2_ n3_ n4_; clear BK187 HO194 HK HB HI0; intro BK187 HO194 HK HB HI0; (try clear hb); (try clear hb2); (try clear hk); (try clear hi); obtain ⟨Ao15, co15, eo15⟩ := Kd.R_slice HO194.out; subst eo15; have p197 : 0 ≤ (t195 : Int) := q_d; have q197 : t195 < (y192.length : Int) := q_d; obtain ⟨ad197, e197, hx197_0⟩ := Kd.at_string (Kd.R_reads' HO194.out).2.2 t195 p197 q197; cases e197; replace p197 := eq_true p197; replace q197 := eq_true q197) | ((with_reducible refine gate_dst (N := 3) rfl ?_); refine q_box (N := 3) (cs := #[.string (⟨#[]⟩ : ByteArray), .int .i64 0, .string (⟨#[]⟩ : ByteArray), .bool false]) (t := 49) ?_; intro gb198 hg w16 hbox hb; have n0_ := am (Kd.R_below (q_r (HO194.out)) hb); have n1_ := am (IsS129.below q_I129_0_1 hb); have n2_ := am (blk_below (q_b BK187.out) hb); have n3_ := am (KeepBut.trans q_K (KeepBut.of_below hb g none) (.inl rfl)); have n4_ := am (below_step q_B129_0 hb); have n5_ := am (hbox); have n6_ := am ((by rw [hg]; exact (keep_size (w := w) (g := g) (row := none) q_K) : w.heap.size ≤ gb198)); have n7_ := am ((Nat.le_trans HW0.out (by rw [hg]; exact (keep_size (w := w) (g := g) (row := none) q_K) : w.heap.size ≤ gb198) : w0.heap.size ≤ gb198)); have n8_ := am ((q_n hg (q_b BK187.out) : gb187 ≠ gb198)); have n9_ := am n8_.out.symm; have n10_ := am ((by rw [hg]; exact Nat.ne_of_lt (IsS129.lt (show IsS129 w0 _ g s0_0 t196 from q_I129_0_1)) : g ≠ gb198)); have n11_ := am ((by rw [hg]; exact Nat.ne_of_gt (IsS129.lt (show IsS129 w0 _ g s0_0 t196 from q_I129_0_1)) : gb198 ≠ g)); revert n0_ n1_ n2_ n3_ n4_ n5_ n6_ n7_ n8_ n9_ n10_ n11_; clear HO194 HI0 BK187 HK HB; intro HO194 HI0 BK187 HK HB BK198 GW198 GE198 NB187_198 NB198_187 NB0_198 NB198_0; clear hb hbox hg; have hnb17 := NB198_187.out; have hnc17 := NB187_198.out; have hnb18 := NB198_0.out; have hnc18 := NB0_198.out; obtain ⟨hcz19_0, hcz19_1, hcz19_2, hcz19_3, hfz19_0, hfz19_1, hfz19_2, hfz19_3⟩ := q_4 BK198.out) | ((with_reducible refine gate_callee (f := 132) rfl ?_); refine goesLq (some 16) rfl rfl Try.func132 (by kernel_rfl) rfl #[.pointer (some ⟨g, 0, none⟩), .int .i64 4] rfl ?_; (with_reducible refine (spec_l1Chance.calls g s0_0 t196 4 true t200 w0 _ ?side1 ?side2 A7.out).mono ?_); (case side1 => repeat (first | (with_reducible first | exact HI0.out | apply IsS129.alloc | apply IsS129.drewN | apply IsS129.drew | apply IsS129.set_1 | refine IsS129.far ?_ NB0_187.out _ | refine IsS129.far ?_ NB0_198.out _) | exact HI0.out)); (case side2 => repeat (first | (with_reducible first | exact HB.out | apply below_alloc | apply pw_below_drewN | apply below_drew1 | refine below_set ?_ (IsS129.ge HI0.out) | refine below_set ?_ GE187.out | refine below_set ?_ GE198.out) | exact HB.out)); rintro e w20 ⟨rfl, hi, hb, hk⟩; refine ⟨_, rfl, ?_⟩; have n0_ := am (KeepBut.blk hk (g' := gb187) (o := .cells #[.string (⟨#[]⟩ : ByteArray), .int .i64 0, .string (⟨#[]⟩ : ByteArray), .bool false] 49 (0, 0)) (by (with_reducible repeat (first | refine blk_drewN ?_ _ | refine blk_drew ?_ | refine blk_alloc ?_ _)); refine blk_far ?_ NB187_198.out _; (with_reducible repeat (first | refine blk_drewN ?_ _ | refine blk_drew ?_ | refine blk_alloc ?_ _)); refine blk_far ?_ NB187_198.out _; (with_reducible repeat (first | refine blk_drewN ?_ _ | refine blk_drew ?_ | refine blk_alloc ?_ _)); refine blk_far ?_ NB187_198.out _; (with_reducible repeat (first | refine blk_drewN ?_ _ | refine blk_drew ?_ | refine blk_alloc ?_ _)); refine blk_far ?_ NB187_198.out _; (with_reducible repeat (first | refine blk_drewN ?_ _ | refine blk_drew ?_ | refine blk_alloc ?_ _)); exact BK187.out) NB187_0.out (by simp)); have n1_ := am (Kd.R_mono (Kd.R_keep (IsS129.apart (show IsS129 w0 _ g s0_0 t196 from q_I129_0_1) (by (with_reducible repeat (first | apply Kd.R_alloc | apply Kd.R_drewN | apply Kd.R_drew)); exact (Kd.R_mono (Kd.R_far (p := ⟨gb198, 3, none⟩) (Kd.R_far (p := ⟨gb198, 2, none⟩) (Kd.R_far (p := ⟨gb198, 1, none⟩) (Kd.R_far (p := ⟨gb198, 0, none⟩) (Kd.R_types HO194.out BK198.out (by decide)) (fun _ hk => hk.2) (.string t188)) (fun _ hk => hk.2) (.int .i64 (wrap64 (1 + t190)))) (fun _ hk => hk.2) (.string (rdOf ByteArray.empty y192 t195))) (fun _ hk => hk.2) (.bool false)) (fun _ h_ => h_.1))) (by decide)) hk (fun _ h => h.2)) (fun _ h => h.1)); have n2_ := am (KeepBut.blk hk (g' := gb198) (o := .cells #[.string t188, .int .i64 (wrap64 (1 + t190)), .string (rdOf ByteArray.empty y192 t195), .bool false] 49 (0, 0)) (by (with_reducible repeat (first | refine blk_drewN ?_ _ | refine blk_drew ?_ | refine blk_alloc ?_ _)); refine blk_put (cs := #[.string t188, .int .i64 (wrap64 (1 + t190)), .string (rdOf ByteArray.empty y192 t195), .bool false]) ?_ 3 _ rfl; (with_reducible repeat (first | refine blk_drewN ?_ _ | refine blk_drew ?_ | refine blk_alloc ?_ _)); refine blk_put (cs := #[.string t188, .int .i64 (wrap64 (1 + t190)), .string (⟨#[]⟩ : ByteArray), .bool false]) ?_ 2 _ rfl; (with_reducible repeat (first | refine blk_drewN ?_ _ | refine blk_drew ?_ | refine blk_alloc ?_ _)); refine blk_put (cs := #[.string t188, .int .i64 0, .string (⟨#[]⟩ : ByteArray), .bool false]) ?_ 1 _ rfl; (with_reducible repeat (first | refine blk_drewN ?_ _ | refine blk_drew ?_ | refine blk_alloc ?_ _)); refine blk_put (cs := #[.string (⟨#[]⟩ : ByteArray), .int .i64 0, .string (⟨#[]⟩ : ByteArray), .bool false]) ?_ 0 _ rfl; (with_reducible repeat (first | refine blk_drewN ?_ _ | refine blk_drew ?_ | refine blk_alloc ?_ _)); exact BK198.out) NB198_0.out (by simp)); have n3_ := am (KeepBut.trans q_K hk (.inl rfl)); have n4_ := am (hb); have n5_ := am (hi); revert n0_ n1_ n2_ n3_ n4_ n5_; clear BK187 HO194 BK198 HK HB HI0; intro BK187 HO194 BK198 HK HB HI0; (try clear hb); (try clear hb2); (try clear hk); (try clear hi); obtain ⟨hcz21_0, hcz21_1, hcz21_2, hcz21_3, hfz21_0, hfz21_1, hfz21_2, hfz21_3⟩ := q_4 BK198.out; have hnb22 := NB187_0.out; have hnc22 := NB0_187.out; obtain ⟨hcz23_0, hcz23_1, hcz23_2, hcz23_3, hfz23_0, hfz23_1, hfz23_2, hfz23_3⟩ := q_4 BK187.out))
    refine bodyPost_ret (results_cell_row rfl _ _ gb187 49 #[.string t188, .int .i64 (wrap64 (1 + t190)), .string (⟨#[]⟩ : ByteArray), .bool true] (0, 0) _ rfl (by (with_reducible repeat (first | refine blk_drewN ?_ _ | refine blk_drew ?_ | refine blk_alloc ?_ _)); refine blk_put (cs := #[.string t188, .int .i64 (wrap64 (1 + t190)), .string (⟨#[]⟩ : ByteArray), .bool false]) ?_ 3 _ rfl; (with_reducible repeat (first | refine blk_drewN ?_ _ | refine blk_drew ?_ | refine blk_alloc ?_ _)); refine blk_put (cs := #[.string t188, .int .i64 (wrap64 (1 + t190)), .string (⟨#[]⟩ : ByteArray), .bool false]) ?_ 2 _ rfl; (with_reducible repeat (first | refine blk_drewN ?_ _ | refine blk_drew ?_ | refine blk_alloc ?_ _)); refine blk_put (cs := #[.string t188, .int .i64 0, .string (⟨#[]⟩ : ByteArray), .bool false]) ?_ 1 _ rfl; (with_reducible repeat (first | refine blk_drewN ?_ _ | refine blk_drew ?_ | refine blk_alloc ?_ _)); refine blk_put (cs := #[.string (⟨#[]⟩ : ByteArray), .int .i64 0, .string (⟨#[]⟩ : ByteArray), .bool false]) ?_ 0 _ rfl; (with_reducible repeat (first | refine blk_drewN ?_ _ | refine blk_drew ?_ | refine blk_alloc ?_ _)); refine blk_far ?_ NB187_198.out _; (with_reducible repeat (first | refine blk_drewN ?_ _ | refine blk_drew ?_ | refine blk_alloc ?_ _)); refine blk_far ?_ NB187_198.out _; (with_reducible repeat (first | refine blk_drewN ?_ _ | refine blk_drew ?_ | refine blk_alloc ?_ _)); exact BK187.out) Try.underlying49 rfl (by kernel_rfl)) rfl ?_
    exact ⟨q_e, q_I129_0_1, q_B129_0, q_K⟩
   ·replace c8 := Bool.eq_false_iff.mpr c8
    subst c8
    have H1 : (some (t188, wrap64 (1 + t190), rdOf ByteArray.empty y192 t195, false, t200)) = some (r1, r2, r3, r4, r5) := by rw [if_neg (show ¬ (false = true) by decide)] at H; exact H
    clear H
    have H := H1
    clear H1
    simp only [Option.some.injEq, Prod.mk.injEq] at H
    obtain ⟨rfl, rfl, rfl, rfl, rfl⟩ := H
    go_enter Try.func116, Try.ntmps116
    go_wp2_with (first | ((with_reducible refine gate_dst (N := 2) rfl ?_); refine q_box (N := 2) (cs := #[.string (⟨#[]⟩ : ByteArray), .int .i64 0, .string (⟨#[]⟩ : ByteArray), .bool false]) (t := 49) ?_; intro gb187 hg w24 hbox hb; have n0_ := am (IsS129.below q_I129_0_1 hb); have n1_ := am (KeepBut.trans q_K (KeepBut.of_below hb g none) (.inl rfl)); have n2_ := am (below_step q_B129_0 hb); have n3_ := am (hbox); have n4_ := am ((by rw [hg]; exact (keep_size (w := w) (g := g) (row := none) q_K) : w.heap.size ≤ gb187)); have n5_ := am ((Nat.le_trans HW0.out (by rw [hg]; exact (keep_size (w := w) (g := g) (row := none) q_K) : w.heap.size ≤ gb187) : w0.heap.size ≤ gb187)); have n6_ := am ((by rw [hg]; exact Nat.ne_of_lt (IsS129.lt (show IsS129 w0 _ g s0_0 s0_1 from q_I129_0_1)) : g ≠ gb187)); have n7_ := am ((by rw [hg]; exact Nat.ne_of_gt (IsS129.lt (show IsS129 w0 _ g s0_0 s0_1 from q_I129_0_1)) : gb187 ≠ g)); revert n0_ n1_ n2_ n3_ n4_ n5_ n6_ n7_; clear HI0 HK HB; intro HI0 HK HB BK187 GW187 GE187 NB0_187 NB187_0; clear hb hbox hg) | ((with_reducible refine gate_callee (f := 131) rfl ?_); refine goesLq (some 5) rfl rfl Try.func131 (by kernel_rfl) rfl #[.pointer (some ⟨g, 0, none⟩)] rfl ?_; (with_reducible refine (spec_l5Key.calls g s0_0 s0_1 t188 t189 w0 _ ?side1 ?side2 A2.out).mono ?_); (case side1 => repeat (first | (with_reducible first | exact HI0.out | apply IsS129.alloc | apply IsS129.drewN | apply IsS129.drew | apply IsS129.set_1 | refine IsS129.far ?_ NB0_187.out _) | exact HI0.out)); (case side2 => repeat (first | (with_reducible first | exact HB.out | apply below_alloc | apply pw_below_drewN | apply below_drew1 | refine below_set ?_ (IsS129.ge HI0.out) | refine below_set ?_ GE187.out) | exact HB.out)); rintro e w25 ⟨rfl, hi, hb, hk⟩; refine ⟨_, rfl, ?_⟩; have n0_ := am (KeepBut.blk hk (g' := gb187) (o := .cells #[.string (⟨#[]⟩ : ByteArray), .int .i64 0, .string (⟨#[]⟩ : ByteArray), .bool false] 49 (0, 0)) kq NB187_0.out (by simp)); have n1_ := am (KeepBut.trans q_K hk (.inl rfl)); have n2_ := am (hb); have n3_ := am (hi); revert n0_ n1_ n2_ n3_; clear BK187 HK HB HI0; intro BK187 HK HB HI0; (try clear hb); (try clear hb2); (try clear hk); (try clear hi)) | ((with_reducible refine gate_callee (f := 84) rfl ?_); refine goesLq (some 7) rfl rfl Try.func84 (by kernel_rfl) rfl #[.pointer (some ⟨g, 0, none⟩), .int .i64 9] rfl ?_; (with_reducible refine (spec_l1Next.calls g s0_0 t189 9 t190 t191 w0 _ ?side1 ?side2 A3.out).mono ?_); (case side1 => repeat (first | (with_reducible first | exact HI0.out | apply IsS129.alloc | apply IsS129.drewN | apply IsS129.drew | apply IsS129.set_1 | refine IsS129.far ?_ NB0_187.out _) | exact HI0.out)); (case side2 => repeat (first | (with_reducible first | exact HB.out | apply below_alloc | apply pw_below_drewN | apply below_drew1 | refine below_set ?_ (IsS129.ge HI0.out) | refine below_set ?_ GE187.out) | exact HB.out)); rintro e w26 ⟨rfl, hi, hb, hk⟩; refine ⟨_, rfl, ?_⟩; have n0_ := am (KeepBut.blk hk (g' := gb187) (o := .cells #[.string (⟨#[]⟩ : ByteArray), .int .i64 0, .string (⟨#[]⟩ : ByteArray), .bool false] 49 (0, 0)) kq NB187_0.out (by simp)); have n1_ := am (KeepBut.trans q_K hk (.inl rfl)); have n2_ := am (hb); have n3_ := am (hi); revert n0_ n1_ n2_ n3_; clear BK187 HK HB HI0; intro BK187 HK HB HI0; (try clear hb); (try clear hb2); (try clear hk); (try clear hi)) | ((with_reducible refine gate_dst (N := 9) rfl ?_); refine Kd.R_lit Kd.string _ 9 ?hg (N := 9) ?hd (xs := ([(⟨#[120]⟩ : ByteArray), (⟨#[121]⟩ : ByteArray), (⟨#[]⟩ : ByteArray), (⟨#[122, 122]⟩ : ByteArray)] : List ByteArray)) (inner := [.string (⟨#[120]⟩ : ByteArray), .string (⟨#[121]⟩ : ByteArray), .string (⟨#[]⟩ : ByteArray), .string (⟨#[122, 122]⟩ : ByteArray)]) (ok := fun _ => True) (okp := fun _ => True) ?hr ?hp (fun _ hk => hk) trivial (Below.refl _ _) (Nat.le_refl _) (by simp) ?_; (case hd => rfl); (case hg => rfl); (case hr => first | (go_simp; done) | (go_simp; rfl)); (case hp => exact (Reps.one (show Kd.M Kd.string _ _ _ (⟨#[120]⟩ : ByteArray) [.string (⟨#[120]⟩ : ByteArray)] from rfl) (Reps.one (show Kd.M Kd.string _ _ _ (⟨#[121]⟩ : ByteArray) [.string (⟨#[121]⟩ : ByteArray)] from rfl) (Reps.one (show Kd.M Kd.string _ _ _ (⟨#[]⟩ : ByteArray) [.string (⟨#[]⟩ : ByteArray)] from rfl) (Reps.one (show Kd.M Kd.string _ _ _ (⟨#[122, 122]⟩ : ByteArray) [.string (⟨#[122, 122]⟩ : ByteArray)] from rfl) (Reps.none _ _)))))); intro v193 w27 ho28 hb hg_ hnew_; clear hg_ hnew_; (first | rw [← Ny192.out] at ho28 | (simp only [Int.reduceToNat] at ho28; rw [← Ny192.out] at ho28)); have n0_ := am (Kd.R_lower ho28 (keep_size (w := w) (g := g) (row := none) q_K)); have n1_ := am (IsS129.below q_I129_0_1 hb); have n2_ := am (blk_below (q_b BK187.out) hb); have n3_ := am (KeepBut.trans q_K (KeepBut.of_below hb g none) (.inl rfl)); have n4_ := am (below_step q_B129_0 hb); revert n0_ n1_ n2_ n3_ n4_; clear HI0 BK187 HK HB; intro HO194 HI0 BK187 HK HB; clear hb ho28) | ((with_reducible refine gate_callee (f := 84) rfl ?_); refine goesLq (some 11) rfl rfl Try.func84 (by kernel_rfl) rfl #[.pointer (some ⟨g, 0, none⟩), .int .i64 4] rfl ?_; (with_reducible refine (spec_l1Next.calls g s0_0 t191 4 t195 t196 w0 _ ?side1 ?side2 A4.out).mono ?_); (case side1 => repeat (first | (with_reducible first | exact HI0.out | apply IsS129.alloc | apply IsS129.drewN | apply IsS129.drew | apply IsS129.set_1 | refine IsS129.far ?_ NB0_187.out _) | exact HI0.out)); (case side2 => repeat (first | (with_reducible first | exact HB.out | apply below_alloc | apply pw_below_drewN | apply below_drew1 | refine below_set ?_ (IsS129.ge HI0.out) | refine below_set ?_ GE187.out) | exact HB.out)); rintro e w29 ⟨rfl, hi, hb, hk⟩; refine ⟨_, rfl, ?_⟩; have n0_ := am (KeepBut.blk hk (g' := gb187) (o := .cells #[.string (⟨#[]⟩ : ByteArray), .int .i64 0, .string (⟨#[]⟩ : ByteArray), .bool false] 49 (0, 0)) kq NB187_0.out (by simp)); have n1_ := am (Kd.R_mono (Kd.R_keep (IsS129.apart (show IsS129 w0 _ g s0_0 t191 from q_I129_0_1) (q_r (HO194.out)) (by decide)) hk (fun _ h => h.2)) (fun _ h => h.1)); have n2_ := am (KeepBut.trans q_K hk (.inl rfl)); have n3_ := am (hb); have n4_ := am (hi); revert n0_ n1_ n2_ n3_ n4_; clear BK187 HO194 HK HB HI0; intro BK187 HO194 HK HB HI0; (try clear hb); (try clear hb2); (try clear hk); (try clear hi); obtain ⟨Ao30, co30, eo30⟩ := Kd.R_slice HO194.out; subst eo30; have p197 : 0 ≤ (t195 : Int) := q_d; have q197 : t195 < (y192.length : Int) := q_d; obtain ⟨ad197, e197, hx197_0⟩ := Kd.at_string (Kd.R_reads' HO194.out).2.2 t195 p197 q197; cases e197; replace p197 := eq_true p197; replace q197 := eq_true q197) | ((with_reducible refine gate_dst (N := 3) rfl ?_); refine q_box (N := 3) (cs := #[.string (⟨#[]⟩ : ByteArray), .int .i64 0, .string (⟨#[]⟩ : ByteArray), .bool false]) (t := 49) ?_; intro gb198 hg w31 hbox hb; have n0_ := am (Kd.R_below (q_r (HO194.out)) hb); have n1_ := am (IsS129.below q_I129_0_1 hb); have n2_ := am (blk_below (q_b BK187.out) hb); have n3_ := am (KeepBut.trans q_K (KeepBut.of_below hb g none) (.inl rfl)); have n4_ := am (below_step q_B129_0 hb); have n5_ := am (hbox); have n6_ := am ((by rw [hg]; exact (keep_size (w := w) (g := g) (row := none) q_K) : w.heap.size ≤ gb198)); have n7_ := am ((Nat.le_trans HW0.out (by rw [hg]; exact (keep_size (w := w) (g := g) (row := none) q_K) : w.heap.size ≤ gb198) : w0.heap.size ≤ gb198)); have n8_ := am ((q_n hg (q_b BK187.out) : gb187 ≠ gb198)); have n9_ := am n8_.out.symm; have n10_ := am ((by rw [hg]; exact Nat.ne_of_lt (IsS129.lt (show IsS129 w0 _ g s0_0 t196 from q_I129_0_1)) : g ≠ gb198)); have n11_ := am ((by rw [hg]; exact Nat.ne_of_gt (IsS129.lt (show IsS129 w0 _ g s0_0 t196 from q_I129_0_1)) : gb198 ≠ g)); revert n0_ n1_ n2_ n3_ n4_ n5_ n6_ n7_ n8_ n9_ n10_ n11_; clear HO194 HI0 BK187 HK HB; intro HO194 HI0 BK187 HK HB BK198 GW198 GE198 NB187_198 NB198_187 NB0_198 NB198_0; clear hb hbox hg; have hnb32 := NB198_187.out; have hnc32 := NB187_198.out; have hnb33 := NB198_0.out; have hnc33 := NB0_198.out; obtain ⟨hcz34_0, hcz34_1, hcz34_2, hcz34_3, hfz34_0, hfz34_1, hfz34_2, hfz34_3⟩ := q_4 BK198.out) | ((with_reducible refine gate_callee (f := 132) rfl ?_); refine goesLq (some 16) rfl rfl Try.func132 (by kernel_rfl) rfl #[.pointer (some ⟨g, 0, none⟩), .int .i64 4] rfl ?_; (with_reducible refine (spec_l1Chance.calls g s0_0 t196 4 false t200 w0 _ ?side1 ?side2 A7.out).mono ?_); (case side1 => repeat (first | (with_reducible first | exact HI0.out | apply IsS129.alloc | apply IsS129.drewN | apply IsS129.drew | apply IsS129.set_1 | refine IsS129.far ?_ NB0_187.out _ | refine IsS129.far ?_ NB0_198.out _) | exact HI0.out)); (case side2 => repeat (first | (with_reducible first | exact HB.out | apply below_alloc | apply pw_below_drewN | apply below_drew1 | refine below_set ?_ (IsS129.ge HI0.out) | refine below_set ?_ GE187.out | refine below_set ?_ GE198.out) | exact HB.out)); rintro e w35 ⟨rfl, hi, hb, hk⟩; refine ⟨_, rfl, ?_⟩; have n0_ := am (KeepBut.blk hk (g' := gb187) (o := .cells #[.string (⟨#[]⟩ : ByteArray), .int .i64 0, .string (⟨#[]⟩ : ByteArray), .bool false] 49 (0, 0)) (by (with_reducible repeat (first | refine blk_drewN ?_ _ | refine blk_drew ?_ | refine blk_alloc ?_ _)); refine blk_far ?_ NB187_198.out _; (with_reducible repeat (first | refine blk_drewN ?_ _ | refine blk_drew ?_ | refine blk_alloc ?_ _)); refine blk_far ?_ NB187_198.out _; (with_reducible repeat (first | refine blk_drewN ?_ _ | refine blk_drew ?_ | refine blk_alloc ?_ _)); refine blk_far ?_ NB187_198.out _; (with_reducible repeat (first | refine blk_drewN ?_ _ | refine blk_drew ?_ | refine blk_alloc ?_ _)); refine blk_far ?_ NB187_198.out _; (with_reducible repeat (first | refine blk_drewN ?_ _ | refine blk_drew ?_ | refine blk_alloc ?_ _)); exact BK187.out) NB187_0.out (by simp)); have n1_ := am (Kd.R_mono (Kd.R_keep (IsS129.apart (show IsS129 w0 _ g s0_0 t196 from q_I129_0_1) (by (with_reducible repeat (first | apply Kd.R_alloc | apply Kd.R_drewN | apply Kd.R_drew)); exact (Kd.R_mono (Kd.R_far (p := ⟨gb198, 3, none⟩) (Kd.R_far (p := ⟨gb198, 2, none⟩) (Kd.R_far (p := ⟨gb198, 1, none⟩) (Kd.R_far (p := ⟨gb198, 0, none⟩) (Kd.R_types HO194.out BK198.out (by decide)) (fun _ hk => hk.2) (.string t188)) (fun _ hk => hk.2) (.int .i64 (wrap64 (1 + t190)))) (fun _ hk => hk.2) (.string (rdOf ByteArray.empty y192 t195))) (fun _ hk => hk.2) (.bool false)) (fun _ h_ => h_.1))) (by decide)) hk (fun _ h => h.2)) (fun _ h => h.1)); have n2_ := am (KeepBut.blk hk (g' := gb198) (o := .cells #[.string t188, .int .i64 (wrap64 (1 + t190)), .string (rdOf ByteArray.empty y192 t195), .bool false] 49 (0, 0)) (by (with_reducible repeat (first | refine blk_drewN ?_ _ | refine blk_drew ?_ | refine blk_alloc ?_ _)); refine blk_put (cs := #[.string t188, .int .i64 (wrap64 (1 + t190)), .string (rdOf ByteArray.empty y192 t195), .bool false]) ?_ 3 _ rfl; (with_reducible repeat (first | refine blk_drewN ?_ _ | refine blk_drew ?_ | refine blk_alloc ?_ _)); refine blk_put (cs := #[.string t188, .int .i64 (wrap64 (1 + t190)), .string (⟨#[]⟩ : ByteArray), .bool false]) ?_ 2 _ rfl; (with_reducible repeat (first | refine blk_drewN ?_ _ | refine blk_drew ?_ | refine blk_alloc ?_ _)); refine blk_put (cs := #[.string t188, .int .i64 0, .string (⟨#[]⟩ : ByteArray), .bool false]) ?_ 1 _ rfl; (with_reducible repeat (first | refine blk_drewN ?_ _ | refine blk_drew ?_ | refine blk_alloc ?_ _)); refine blk_put (cs := #[.string (⟨#[]⟩ : ByteArray), .int .i64 0, .string (⟨#[]⟩ : ByteArray), .bool false]) ?_ 0 _ rfl; (with_reducible repeat (first | refine blk_drewN ?_ _ | refine blk_drew ?_ | refine blk_alloc ?_ _)); exact BK198.out) NB198_0.out (by simp)); have n3_ := am (KeepBut.trans q_K hk (.inl rfl)); have n4_ := am (hb); have n5_ := am (hi); revert n0_ n1_ n2_ n3_ n4_ n5_; clear BK187 HO194 BK198 HK HB HI0; intro BK187 HO194 BK198 HK HB HI0; (try clear hb); (try clear hb2); (try clear hk); (try clear hi); obtain ⟨hcz36_0, hcz36_1, hcz36_2, hcz36_3, hfz36_0, hfz36_1, hfz36_2, hfz36_3⟩ := q_4 BK198.out; have hnb37 := NB187_0.out; have hnc37 := NB0_187.out; obtain ⟨hcz38_0, hcz38_1, hcz38_2, hcz38_3, hfz38_0, hfz38_1, hfz38_2, hfz38_3⟩ := q_4 BK187.out))
    refine bodyPost_ret (results_cell_row rfl _ _ gb187 49 #[.string t188, .int .i64 (wrap64 (1 + t190)), .string (rdOf ByteArray.empty y192 t195), .bool false] (0, 0) _ rfl (by (with_reducible repeat (first | refine blk_drewN ?_ _ | refine blk_drew ?_ | refine blk_alloc ?_ _)); refine blk_put (cs := #[.string t188, .int .i64 (wrap64 (1 + t190)), .string (rdOf ByteArray.empty y192 t195), .bool false]) ?_ 3 _ rfl; (with_reducible repeat (first | refine blk_drewN ?_ _ | refine blk_drew ?_ | refine blk_alloc ?_ _)); refine blk_put (cs := #[.string t188, .int .i64 (wrap64 (1 + t190)), .string (⟨#[]⟩ : ByteArray), .bool false]) ?_ 2 _ rfl; (with_reducible repeat (first | refine blk_drewN ?_ _ | refine blk_drew ?_ | refine blk_alloc ?_ _)); refine blk_put (cs := #[.string t188, .int .i64 0, .string (⟨#[]⟩ : ByteArray), .bool false]) ?_ 1 _ rfl; (with_reducible repeat (first | refine blk_drewN ?_ _ | refine blk_drew ?_ | refine blk_alloc ?_ _)); refine blk_put (cs := #[.string (⟨#[]⟩ : ByteArray), .int .i64 0, .string (⟨#[]⟩ : ByteArray), .bool false]) ?_ 0 _ rfl; (with_reducible repeat (first | refine blk_drewN ?_ _ | refine blk_drew ?_ | refine blk_alloc ?_ _)); exact BK187.out) Try.underlying49 rfl (by kernel_rfl)) rfl ?_
    exact ⟨q_e, q_I129_0_1, q_B129_0, q_K⟩
  ·rw [if_neg c6] at H
   exact absurd H (by simp)
 ·rw [if_neg c5] at H
  exact absurd H (by simp)

/-! ### spec_l1Pick: function 83 -/
def spec_l1Pick.f (s0_0 : List Int) (s0_1 : Int) (l1 : List Int) : Option (Int × Int) := (spec_l1Next.f s0_0 s0_1 (l1.length : Int)).bind fun bt201 => (if 0 ≤ bt201.1 then (if bt201.1 < (l1.length : Int) then (some (rd l1 bt201.1, bt201.2)) else (none)) else (none))
theorem spec_l1Pick.calls (g : Nat) (s0_0 : List Int) (s0_1 : Int) (A1 : Option Addr) (c1 : Nat) (l1 : List Int) (r1 : Int) (r2 : Int) (w0 w : World) (hI : IsS129 w0 w g s0_0 s0_1) (hB : Below w0.heap.size w0 w) (hr1 : Kd.C (Kd.int .i64) w A1 l1.length l1) (hc1 : l1.length ≤ c1) (hf1 : ∀ ad, A1 = some ad → 0 < l1.length → ad.block ≠ g) (h : spec_l1Pick.f s0_0 s0_1 l1 = some (r1, r2)) :
  Calls Try.prog 83 #[.pointer (some ⟨g, 0, none⟩), .slice A1 l1.length c1] w fun e w' => e = .returned (.int .i64 r1) ∧ IsS129 w0 w' g s0_0 r2 ∧ Below w0.heap.size w0 w' ∧ KeepBut w w' g none := by
 have HR1 := am hr1
 have HC1 := am hc1
 clear hr1 hc1
 have HI0 := am hI
 have HK := am (KeepBut.refl w g none)
 have HL := am hB.size
 clear hI
 have HW0 := am hB.size
 have HB := am hB
 clear hB
 have H : ((spec_l1Next.f s0_0 s0_1 (l1.length : Int)).bind fun bt201 => (if 0 ≤ bt201.1 then (if bt201.1 < (l1.length : Int) then (some (rd l1 bt201.1, bt201.2)) else (none)) else (none))) = some (r1, r2) := h
 clear h
 replace H := ob H
 obtain ⟨⟨t201, t202⟩, A30, H⟩ := H
 replace H : (if 0 ≤ t201 then (if t201 < (l1.length : Int) then (some (rd l1 t201, t202)) else (none)) else (none)) = some (r1, r2) := H
 have A3 := am A30
 clear A30
 by_cases c4 : 0 ≤ t201
 ·rw [if_pos c4] at H
  have c4b0 := decide_eq_true c4
  clear c4
  by_cases c5 : t201 < (l1.length : Int)
  ·rw [if_pos c5] at H
   have c5b0 := decide_eq_true c5
   clear c5
   simp only [Option.some.injEq, Prod.mk.injEq] at H
   obtain ⟨rfl, rfl⟩ := H
   go_enter Try.func83, Try.ntmps83
   go_wp2_with (first | ((with_reducible refine gate_callee (f := 84) rfl ?_); refine goesLq (some 9) rfl rfl Try.func84 (by kernel_rfl) rfl #[.pointer (some ⟨g, 0, none⟩), .int .i64 (l1.length : Int)] rfl ?_; (with_reducible refine (spec_l1Next.calls g s0_0 s0_1 (l1.length : Int) t201 t202 w0 _ ?side1 ?side2 A3.out).mono ?_); (case side1 => repeat (first | (with_reducible first | exact HI0.out | apply IsS129.alloc | apply IsS129.drewN | apply IsS129.drew | apply IsS129.set_1) | exact HI0.out)); (case side2 => repeat (first | (with_reducible first | exact HB.out | apply below_alloc | apply pw_below_drewN | apply below_drew1 | refine below_set ?_ (IsS129.ge HI0.out)) | exact HB.out)); rintro e w6 ⟨rfl, hi, hb, hk⟩; refine ⟨_, rfl, ?_⟩; have n0_ := am (KeepBut.trans q_K hk (.inl rfl)); have n1_ := am (hb); have n2_ := am (hi); revert n0_ n1_ n2_; clear HK HB HI0; intro HK HB HI0; (try clear hb); (try clear hb2); (try clear hk); (try clear hi); have p203 : 0 ≤ (t201 : Int) := q_d; have q203 : t201 < (l1.length : Int) := q_d; obtain ⟨ad203, e203, hx203_0⟩ := Kd.at_int HR1.out t201 p203 q203; cases e203; replace hx203_0 := keep_cell HK.out hx203_0 (by first | (rw [add_block]; exact hf1 _ rfl (by omega)) | exact hf1 _ rfl (by omega) | exact hf1 ad203 rfl (by omega)); replace p203 := eq_true p203; replace q203 := eq_true q203))
   go_ret
   exact ⟨q_e, q_I129_0_1, q_B129_0, q_K⟩
  ·rw [if_neg c5] at H
   exact absurd H (by simp)
 ·rw [if_neg c4] at H
  exact absurd H (by simp)

/-! ### spec_l5Bent: function 117 -/
def spec_l5Bent.l0 : Nat → List Int → Int → ByteArray → Int → ByteArray → Bool → Option (ByteArray × Int × ByteArray × Bool × Int)
  | 0, _, _, _, _, _, _ => none
  | k + 1, x1000, x1001, x211000, x211001, x211002, x211003 => (spec_l1Next.f x1000 x1001 2).bind fun bt224 => (if (x211002.size : Int) < (wrap64 (100 + bt224.1)) then (if x211002.size + 1 ≤ 9223372036854775807 then (spec_l5Bent.l0 k x1000 bt224.2 x211000 x211001 (x211002 ++ (⟨#[118]⟩ : ByteArray)) x211003) else (none)) else (some (x211000, x211001, x211002, x211003, bt224.2)))
def spec_l5Bent.f (k : Nat) (s0_0 : List Int) (s0_1 : Int) : Option (ByteArray × Int × ByteArray × Bool × Int) := (spec_l5Row.f s0_0 s0_1).bind fun bt205 => ((spec_l1Next.f s0_0 bt205.2.2.2.2 12).bind fun bt211 => (if bt211.1 = 0 then ((some (([(⟨#[]⟩ : ByteArray), (⟨#[97, 98, 99, 100, 101, 102, 103, 104, 105, 106, 107, 108, 109, 110, 111, 112, 113, 114, 115, 116]⟩ : ByteArray), (⟨#[97, 98, 99, 100, 101, 102, 103, 104, 105, 106, 107, 108, 109, 110, 111, 112, 113, 114, 115, 116, 117]⟩ : ByteArray)] : List ByteArray) : List ByteArray)).bind fun y213 => ((spec_l1Next.f s0_0 bt211.2 3).bind fun bt216 => (if 0 ≤ bt216.1 then (if bt216.1 < (y213.length : Int) then (some (rdOf ByteArray.empty y213 bt216.1, bt205.2.1, bt205.2.2.1, bt205.2.2.2.1, bt216.2)) else (none)) else (none)))) else (if bt211.1 = 1 then ((spec_l1Pick.f s0_0 bt211.2 (([0, (-1), 1000000, 1000001] : List Int))).bind fun bt222 => (some (bt205.1, bt222.1, bt205.2.2.1, bt205.2.2.2.1, bt222.2))) else (if bt211.1 = 2 then (spec_l5Bent.l0 k s0_0 bt211.2 bt205.1 bt205.2.1 bt205.2.2.1 bt205.2.2.2.1) else (some (bt205.1, bt205.2.1, bt205.2.2.1, bt205.2.2.2.1, bt211.2))))))
theorem spec_l5Bent.calls (k : Nat) (g : Nat) (s0_0 : List Int) (s0_1 : Int) (r1 : ByteArray) (r2 : Int) (r3 : ByteArray) (r4 : Bool) (r5 : Int) (w0 w : World) (hI : IsS129 w0 w g s0_0 s0_1) (hB : Below w0.heap.size w0 w) (h : spec_l5Bent.f k s0_0 s0_1 = some (r1, r2, r3, r4, r5)) :
  Calls Try.prog 117 #[.pointer (some ⟨g, 0, none⟩)] w fun e w' => e = .returned (.agg #[.string r1, .int .i64 r2, .string r3, .bool r4]) ∧ IsS129 w0 w' g s0_0 r5 ∧ Below w0.heap.size w0 w' ∧ KeepBut w w' g none := by
 have hu49 := Try.underlying49
 have HI0 := am hI
 have HK := am (KeepBut.refl w g none)
 have HL := am hB.size
 clear hI
 have HW0 := am hB.size
 have HB := am hB
 clear hB
 have H : ((spec_l5Row.f s0_0 s0_1).bind fun bt205 => ((spec_l1Next.f s0_0 bt205.2.2.2.2 12).bind fun bt211 => (if bt211.1 = 0 then ((some (([(⟨#[]⟩ : ByteArray), (⟨#[97, 98, 99, 100, 101, 102, 103, 104, 105, 106, 107, 108, 109, 110, 111, 112, 113, 114, 115, 116]⟩ : ByteArray), (⟨#[97, 98, 99, 100, 101, 102, 103, 104, 105, 106, 107, 108, 109, 110, 111, 112, 113, 114, 115, 116, 117]⟩ : ByteArray)] : List ByteArray) : List ByteArray)).bind fun y213 => ((spec_l1Next.f s0_0 bt211.2 3).bind fun bt216 => (if 0 ≤ bt216.1 then (if bt216.1 < (y213.length : Int) then (some (rdOf ByteArray.empty y213 bt216.1, bt205.2.1, bt205.2.2.1, bt205.2.2.2.1, bt216.2)) else (none)) else (none)))) else (if bt211.1 = 1 then ((spec_l1Pick.f s0_0 bt211.2 (([0, (-1), 1000000, 1000001] : List Int))).bind fun bt222 => (some (bt205.1, bt222.1, bt205.2.2.1, bt205.2.2.2.1, bt222.2))) else (if bt211.1 = 2 then (spec_l5Bent.l0 k s0_0 bt211.2 bt205.1 bt205.2.1 bt205.2.2.1 bt205.2.2.2.1) else (some (bt205.1, bt205.2.1, bt205.2.2.1, bt205.2.2.2.1, bt211.2))))))) = some (r1, r2, r3, r4, r5) := h
 clear h
 replace H := ob H
 obtain ⟨⟨t205, t206, t207, t208, t209⟩, A20, H⟩ := H
 replace H : ((spec_l1Next.f s0_0 t209 12).bind fun bt211 => (if bt211.1 = 0 then ((some (([(⟨#[]⟩ : ByteArray), (⟨#[97, 98, 99, 100, 101, 102, 103, 104, 105, 106, 107, 108, 109, 110, 111, 112, 113, 114, 115, 116]⟩ : ByteArray), (⟨#[97, 98, 99, 100, 101, 102, 103, 104, 105, 106, 107, 108, 109, 110, 111, 112, 113, 114, 115, 116, 117]⟩ : ByteArray)] : List ByteArray) : List ByteArray)).bind fun y213 => ((spec_l1Next.f s0_0 bt211.2 3).bind fun bt216 => (if 0 ≤ bt216.1 then (if bt216.1 < (y213.length : Int) then (some (rdOf ByteArray.empty y213 bt216.1, t206, t207, t208, bt216.2)) else (none)) else (none)))) else (if bt211.1 = 1 then ((spec_l1Pick.f s0_0 bt211.2 (([0, (-1), 1000000, 1000001] : List Int))).bind fun bt222 => (some (t205, bt222.1, t207, t208, bt222.2))) else (if bt211.1 = 2 then (spec_l5Bent.l0 k s0_0 bt211.2 t205 t206 t207 t208) else (some (t205, t206, t207, t208, bt211.2)))))) = some (r1, r2, r3, r4, r5) := H
 have A2 := am A20
 clear A20
 replace H := ob H
 obtain ⟨⟨t211, t212⟩, A30, H⟩ := H
 replace H : (if t211 = 0 then ((some (([(⟨#[]⟩ : ByteArray), (⟨#[97, 98, 99, 100, 101, 102, 103, 104, 105, 106, 107, 108, 109, 110, 111, 112, 113, 114, 115, 116]⟩ : ByteArray), (⟨#[97, 98, 99, 100, 101, 102, 103, 104, 105, 106, 107, 108, 109, 110, 111, 112, 113, 114, 115, 116, 117]⟩ : ByteArray)] : List ByteArray) : List ByteArray)).bind fun y213 => ((spec_l1Next.f s0_0 t212 3).bind fun bt216 => (if 0 ≤ bt216.1 then (if bt216.1 < (y213.length : Int) then (some (rdOf ByteArray.empty y213 bt216.1, t206, t207, t208, bt216.2)) else (none)) else (none)))) else (if t211 = 1 then ((spec_l1Pick.f s0_0 t212 (([0, (-1), 1000000, 1000001] : List Int))).bind fun bt222 => (some (t205, bt222.1, t207, t208, bt222.2))) else (if t211 = 2 then (spec_l5Bent.l0 k s0_0 t212 t205 t206 t207 t208) else (some (t205, t206, t207, t208, t212))))) = some (r1, r2, r3, r4, r5) := H
 have A3 := am A30
 clear A30
 by_cases c4 : t211 = 0
 ·rw [if_pos c4] at H
  have c4b0 : (t211 == 0) = true := beq_iff_eq.mpr c4
  have c4b1 : (t211 != 0) = false := bne_eq_false_iff_eq.mpr c4
  clear c4
  obtain ⟨y213, hy213⟩ : ∃ y_ : List ByteArray, y_ = (([(⟨#[]⟩ : ByteArray), (⟨#[97, 98, 99, 100, 101, 102, 103, 104, 105, 106, 107, 108, 109, 110, 111, 112, 113, 114, 115, 116]⟩ : ByteArray), (⟨#[97, 98, 99, 100, 101, 102, 103, 104, 105, 106, 107, 108, 109, 110, 111, 112, 113, 114, 115, 116, 117]⟩ : ByteArray)] : List ByteArray)) := ⟨_, rfl⟩
  replace H : ((spec_l1Next.f s0_0 t212 3).bind fun bt216 => (if 0 ≤ bt216.1 then (if bt216.1 < (y213.length : Int) then (some (rdOf ByteArray.empty y213 bt216.1, t206, t207, t208, bt216.2)) else (none)) else (none))) = some (r1, r2, r3, r4, r5) := q_h hy213 H
  have Ny213 := am hy213
  clear hy213
  replace H := ob H
  obtain ⟨⟨t216, t217⟩, A50, H⟩ := H
  replace H : (if 0 ≤ t216 then (if t216 < (y213.length : Int) then (some (rdOf ByteArray.empty y213 t216, t206, t207, t208, t217)) else (none)) else (none)) = some (r1, r2, r3, r4, r5) := H
  have A5 := am A50
  clear A50
  by_cases c6 : 0 ≤ t216
  ·rw [if_pos c6] at H
   have c6b0 := decide_eq_true c6
   clear c6
   by_cases c7 : t216 < (y213.length : Int)
   ·rw [if_pos c7] at H
    have c7b0 := decide_eq_true c7
    clear c7
    simp only [Option.some.injEq, Prod.mk.injEq] at H
    obtain ⟨rfl, rfl, rfl, rfl, rfl⟩ := H
    go_enter Try.func117, Try.ntmps117
    go_wp2_with (first | ((with_reducible refine gate_dst (N := 2) rfl ?_); refine q_box (N := 2) (cs := #[.string (⟨#[]⟩ : ByteArray), .int .i64 0, .string (⟨#[]⟩ : ByteArray), .bool false]) (t := 49) ?_; intro gb204 hg w8 hbox hb; have n0_ := am (IsS129.below q_I129_0_1 hb); have n1_ := am (KeepBut.trans q_K (KeepBut.of_below hb g none) (.inl rfl)); have n2_ := am (below_step q_B129_0 hb); have n3_ := am (hbox); have n4_ := am ((by rw [hg]; exact (keep_size (w := w) (g := g) (row := none) q_K) : w.heap.size ≤ gb204)); have n5_ := am ((Nat.le_trans HW0.out (by rw [hg]; exact (keep_size (w := w) (g := g) (row := none) q_K) : w.heap.size ≤ gb204) : w0.heap.size ≤ gb204)); have n6_ := am ((by rw [hg]; exact Nat.ne_of_lt (IsS129.lt (show IsS129 w0 _ g s0_0 s0_1 from q_I129_0_1)) : g ≠ gb204)); have n7_ := am ((by rw [hg]; exact Nat.ne_of_gt (IsS129.lt (show IsS129 w0 _ g s0_0 s0_1 from q_I129_0_1)) : gb204 ≠ g)); revert n0_ n1_ n2_ n3_ n4_ n5_ n6_ n7_; clear HI0 HK HB; intro HI0 HK HB BK204 GW204 GE204 NB0_204 NB204_0; clear hb hbox hg) | ((with_reducible refine gate_callee (f := 116) rfl ?_); refine goesLq (some 5) rfl rfl Try.func116 (by kernel_rfl) rfl #[.pointer (some ⟨g, 0, none⟩)] rfl ?_; (with_reducible refine (spec_l5Row.calls g s0_0 s0_1 t205 t206 t207 t208 t209 w0 _ ?side1 ?side2 A2.out).mono ?_); (case side1 => repeat (first | (with_reducible first | exact HI0.out | apply IsS129.alloc | apply IsS129.drewN | apply IsS129.drew | apply IsS129.set_1 | refine IsS129.far ?_ NB0_204.out _) | exact HI0.out)); (case side2 => repeat (first | (with_reducible first | exact HB.out | apply below_alloc | apply pw_below_drewN | apply below_drew1 | refine below_set ?_ (IsS129.ge HI0.out) | refine below_set ?_ GE204.out) | exact HB.out)); rintro e w9 ⟨rfl, hi, hb, hk⟩; refine ⟨_, rfl, ?_⟩; have n0_ := am (KeepBut.blk hk (g' := gb204) (o := .cells #[.string (⟨#[]⟩ : ByteArray), .int .i64 0, .string (⟨#[]⟩ : ByteArray), .bool false] 49 (0, 0)) kq NB204_0.out (by simp)); have n1_ := am (KeepBut.trans q_K hk (.inl rfl)); have n2_ := am (hb); have n3_ := am (hi); revert n0_ n1_ n2_ n3_; clear BK204 HK HB HI0; intro BK204 HK HB HI0; (try clear hb); (try clear hb2); (try clear hk); (try clear hi)) | ((with_reducible refine gate_dst (N := 3) rfl ?_); refine q_box (N := 3) (cs := #[.string (⟨#[]⟩ : ByteArray), .int .i64 0, .string (⟨#[]⟩ : ByteArray), .bool false]) (t := 49) ?_; intro gb210 hg w10 hbox hb; have n0_ := am (IsS129.below q_I129_0_1 hb); have n1_ := am (blk_below (q_b BK204.out) hb); have n2_ := am (KeepBut.trans q_K (KeepBut.of_below hb g none) (.inl rfl)); have n3_ := am (below_step q_B129_0 hb); have n4_ := am (hbox); have n5_ := am ((by rw [hg]; exact (keep_size (w := w) (g := g) (row := none) q_K) : w.heap.size ≤ gb210)); have n6_ := am ((Nat.le_trans HW0.out (by rw [hg]; exact (keep_size (w := w) (g := g) (row := none) q_K) : w.heap.size ≤ gb210) : w0.heap.size ≤ gb210)); have n7_ := am ((q_n hg (q_b BK204.out) : gb204 ≠ gb210)); have n8_ := am n7_.out.symm; have n9_ := am ((by rw [hg]; exact Nat.ne_of_lt (IsS129.lt (show IsS129 w0 _ g s0_0 t209 from q_I129_0_1)) : g ≠ gb210)); have n10_ := am ((by rw [hg]; exact Nat.ne_of_gt (IsS129.lt (show IsS129 w0 _ g s0_0 t209 from q_I129_0_1)) : gb210 ≠ g)); revert n0_ n1_ n2_ n3_ n4_ n5_ n6_ n7_ n8_ n9_ n10_; clear HI0 BK204 HK HB; intro HI0 BK204 HK HB BK210 GW210 GE210 NB204_210 NB210_204 NB0_210 NB210_0; clear hb hbox hg; have hnb11 := NB210_204.out; have hnc11 := NB204_210.out; have hnb12 := NB210_0.out; have hnc12 := NB0_210.out; obtain ⟨hcz13_0, hcz13_1, hcz13_2, hcz13_3, hfz13_0, hfz13_1, hfz13_2, hfz13_3⟩ := q_4 BK210.out) | ((with_reducible refine gate_callee (f := 84) rfl ?_); refine goesLq (some 7) rfl rfl Try.func84 (by kernel_rfl) rfl #[.pointer (some ⟨g, 0, none⟩), .int .i64 12] rfl ?_; (with_reducible refine (spec_l1Next.calls g s0_0 t209 12 t211 t212 w0 _ ?side1 ?side2 A3.out).mono ?_); (case side1 => repeat (first | (with_reducible first | exact HI0.out | apply IsS129.alloc | apply IsS129.drewN | apply IsS129.drew | apply IsS129.set_1 | refine IsS129.far ?_ NB0_204.out _ | refine IsS129.far ?_ NB0_210.out _) | exact HI0.out)); (case side2 => repeat (first | (with_reducible first | exact HB.out | apply below_alloc | apply pw_below_drewN | apply below_drew1 | refine below_set ?_ (IsS129.ge HI0.out) | refine below_set ?_ GE204.out | refine below_set ?_ GE210.out) | exact HB.out)); rintro e w14 ⟨rfl, hi, hb, hk⟩; refine ⟨_, rfl, ?_⟩; have n0_ := am (KeepBut.blk hk (g' := gb204) (o := .cells #[.string (⟨#[]⟩ : ByteArray), .int .i64 0, .string (⟨#[]⟩ : ByteArray), .bool false] 49 (0, 0)) (by (with_reducible repeat (first | refine blk_drewN ?_ _ | refine blk_drew ?_ | refine blk_alloc ?_ _)); refine blk_far ?_ NB204_210.out _; (with_reducible repeat (first | refine blk_drewN ?_ _ | refine blk_drew ?_ | refine blk_alloc ?_ _)); refine blk_far ?_ NB204_210.out _; (with_reducible repeat (first | refine blk_drewN ?_ _ | refine blk_drew ?_ | refine blk_alloc ?_ _)); refine blk_far ?_ NB204_210.out _; (with_reducible repeat (first | refine blk_drewN ?_ _ | refine blk_drew ?_ | refine blk_alloc ?_ _)); refine blk_far ?_ NB204_210.out _; (with_reducible repeat (first | refine blk_drewN ?_ _ | refine blk_drew ?_ | refine blk_alloc ?_ _)); exact BK204.out) NB204_0.out (by simp)); have n1_ := am (KeepBut.blk hk (g' := gb210) (o := .cells #[.string t205, .int .i64 t206, .string t207, .bool t208] 49 (0, 0)) (by (with_reducible repeat (first | refine blk_drewN ?_ _ | refine blk_drew ?_ | refine blk_alloc ?_ _)); refine blk_put (cs := #[.string t205, .int .i64 t206, .string t207, .bool false]) ?_ 3 _ rfl; (with_reducible repeat (first | refine blk_drewN ?_ _ | refine blk_drew ?_ | refine blk_alloc ?_ _)); refine blk_put (cs := #[.string t205, .int .i64 t206, .string (⟨#[]⟩ : ByteArray), .bool false]) ?_ 2 _ rfl; (with_reducible repeat (first | refine blk_drewN ?_ _ | refine blk_drew ?_ | refine blk_alloc ?_ _)); refine blk_put (cs := #[.string t205, .int .i64 0, .string (⟨#[]⟩ : ByteArray), .bool false]) ?_ 1 _ rfl; (with_reducible repeat (first | refine blk_drewN ?_ _ | refine blk_drew ?_ | refine blk_alloc ?_ _)); refine blk_put (cs := #[.string (⟨#[]⟩ : ByteArray), .int .i64 0, .string (⟨#[]⟩ : ByteArray), .bool false]) ?_ 0 _ rfl; (with_reducible repeat (first | refine blk_drewN ?_ _ | refine blk_drew ?_ | refine blk_alloc ?_ _)); exact BK210.out) NB210_0.out (by simp)); have n2_ := am (KeepBut.trans q_K hk (.inl rfl)); have n3_ := am (hb); have n4_ := am (hi); revert n0_ n1_ n2_ n3_ n4_; clear BK204 BK210 HK HB HI0; intro BK204 BK210 HK HB HI0; (try clear hb); (try clear hb2); (try clear hk); (try clear hi)) | ((with_reducible refine gate_dst (N := 10) rfl ?_); refine Kd.R_lit Kd.string _ 9 ?hg (N := 10) ?hd (xs := ([(⟨#[]⟩ : ByteArray), (⟨#[97, 98, 99, 100, 101, 102, 103, 104, 105, 106, 107, 108, 109, 110, 111, 112, 113, 114, 115, 116]⟩ : ByteArray), (⟨#[97, 98, 99, 100, 101, 102, 103, 104, 105, 106, 107, 108, 109, 110, 111, 112, 113, 114, 115, 116, 117]⟩ : ByteArray)] : List ByteArray)) (inner := [.string (⟨#[]⟩ : ByteArray), .string (⟨#[97, 98, 99, 100, 101, 102, 103, 104, 105, 106, 107, 108, 109, 110, 111, 112, 113, 114, 115, 116]⟩ : ByteArray), .string (⟨#[97, 98, 99, 100, 101, 102, 103, 104, 105, 106, 107, 108, 109, 110, 111, 112, 113, 114, 115, 116, 117]⟩ : ByteArray)]) (ok := fun _ => True) (okp := fun _ => True) ?hr ?hp (fun _ hk => hk) trivial (Below.refl _ _) (Nat.le_refl _) (by simp) ?_; (case hd => rfl); (case hg => rfl); (case hr => first | (go_simp; done) | (go_simp; rfl)); (case hp => exact (Reps.one (show Kd.M Kd.string _ _ _ (⟨#[]⟩ : ByteArray) [.string (⟨#[]⟩ : ByteArray)] from rfl) (Reps.one (show Kd.M Kd.string _ _ _ (⟨#[97, 98, 99, 100, 101, 102, 103, 104, 105, 106, 107, 108, 109, 110, 111, 112, 113, 114, 115, 116]⟩ : ByteArray) [.string (⟨#[97, 98, 99, 100, 101, 102, 103, 104, 105, 106, 107, 108, 109, 110, 111, 112, 113, 114, 115, 116]⟩ : ByteArray)] from rfl) (Reps.one (show Kd.M Kd.string _ _ _ (⟨#[97, 98, 99, 100, 101, 102, 103, 104, 105, 106, 107, 108, 109, 110, 111, 112, 113, 114, 115, 116, 117]⟩ : ByteArray) [.string (⟨#[97, 98, 99, 100, 101, 102, 103, 104, 105, 106, 107, 108, 109, 110, 111, 112, 113, 114, 115, 116, 117]⟩ : ByteArray)] from rfl) (Reps.none _ _))))); intro v214 w15 ho16 hb hg_ hnew_; clear hg_ hnew_; (first | rw [← Ny213.out] at ho16 | (simp only [Int.reduceToNat] at ho16; rw [← Ny213.out] at ho16)); have n0_ := am (Kd.R_lower ho16 (keep_size (w := w) (g := g) (row := none) q_K)); have n1_ := am (IsS129.below q_I129_0_1 hb); have n2_ := am (blk_below (q_b BK204.out) hb); have n3_ := am (blk_below (q_b BK210.out) hb); have n4_ := am (KeepBut.trans q_K (KeepBut.of_below hb g none) (.inl rfl)); have n5_ := am (below_step q_B129_0 hb); revert n0_ n1_ n2_ n3_ n4_ n5_; clear HI0 BK204 BK210 HK HB; intro HO215 HI0 BK204 BK210 HK HB; clear hb ho16) | ((with_reducible refine gate_callee (f := 84) rfl ?_); refine goesLq (some 12) rfl rfl Try.func84 (by kernel_rfl) rfl #[.pointer (some ⟨g, 0, none⟩), .int .i64 3] rfl ?_; (with_reducible refine (spec_l1Next.calls g s0_0 t212 3 t216 t217 w0 _ ?side1 ?side2 A5.out).mono ?_); (case side1 => repeat (first | (with_reducible first | exact HI0.out | apply IsS129.alloc | apply IsS129.drewN | apply IsS129.drew | apply IsS129.set_1 | refine IsS129.far ?_ NB0_204.out _ | refine IsS129.far ?_ NB0_210.out _) | exact HI0.out)); (case side2 => repeat (first | (with_reducible first | exact HB.out | apply below_alloc | apply pw_below_drewN | apply below_drew1 | refine below_set ?_ (IsS129.ge HI0.out) | refine below_set ?_ GE204.out | refine below_set ?_ GE210.out) | exact HB.out)); rintro e w17 ⟨rfl, hi, hb, hk⟩; refine ⟨_, rfl, ?_⟩; have n0_ := am (KeepBut.blk hk (g' := gb204) (o := .cells #[.string (⟨#[]⟩ : ByteArray), .int .i64 0, .string (⟨#[]⟩ : ByteArray), .bool false] 49 (0, 0)) kq NB204_0.out (by simp)); have n1_ := am (KeepBut.blk hk (g' := gb210) (o := .cells #[.string t205, .int .i64 t206, .string t207, .bool t208] 49 (0, 0)) kq NB210_0.out (by simp)); have n2_ := am (Kd.R_mono (Kd.R_keep (IsS129.apart (show IsS129 w0 _ g s0_0 t212 from q_I129_0_1) (q_r (HO215.out)) (by decide)) hk (fun _ h => h.2)) (fun _ h => h.1)); have n3_ := am (KeepBut.trans q_K hk (.inl rfl)); have n4_ := am (hb); have n5_ := am (hi); revert n0_ n1_ n2_ n3_ n4_ n5_; clear BK204 BK210 HO215 HK HB HI0; intro BK204 BK210 HO215 HK HB HI0; (try clear hb); (try clear hb2); (try clear hk); (try clear hi); obtain ⟨Ao18, co18, eo18⟩ := Kd.R_slice HO215.out; subst eo18; have p218 : 0 ≤ (t216 : Int) := q_d; have q218 : t216 < (y213.length : Int) := q_d; obtain ⟨ad218, e218, hx218_0⟩ := Kd.at_string (Kd.R_reads' HO215.out).2.2 t216 p218 q218; cases e218; replace p218 := eq_true p218; replace q218 := eq_true q218; obtain ⟨hcz19_0, hcz19_1, hcz19_2, hcz19_3, hfz19_0, hfz19_1, hfz19_2, hfz19_3⟩ := q_4 BK210.out; have hnb20 := NB204_0.out; have hnc20 := NB0_204.out; obtain ⟨hcz21_0, hcz21_1, hcz21_2, hcz21_3, hfz21_0, hfz21_1, hfz21_2, hfz21_3⟩ := q_4 BK204.out))
    refine bodyPost_ret (results_cell_row rfl _ _ gb204 49 #[.string (rdOf ByteArray.empty y213 t216), .int .i64 t206, .string t207, .bool t208] (0, 0) _ rfl (by (with_reducible repeat (first | refine blk_drewN ?_ _ | refine blk_drew ?_ | refine blk_alloc ?_ _)); refine blk_put (cs := #[.string (rdOf ByteArray.empty y213 t216), .int .i64 t206, .string t207, .bool false]) ?_ 3 _ rfl; (with_reducible repeat (first | refine blk_drewN ?_ _ | refine blk_drew ?_ | refine blk_alloc ?_ _)); refine blk_put (cs := #[.string (rdOf ByteArray.empty y213 t216), .int .i64 t206, .string (⟨#[]⟩ : ByteArray), .bool false]) ?_ 2 _ rfl; (with_reducible repeat (first | refine blk_drewN ?_ _ | refine blk_drew ?_ | refine blk_alloc ?_ _)); refine blk_put (cs := #[.string (rdOf ByteArray.empty y213 t216), .int .i64 0, .string (⟨#[]⟩ : ByteArray), .bool false]) ?_ 1 _ rfl; (with_reducible repeat (first | refine blk_drewN ?_ _ | refine blk_drew ?_ | refine blk_alloc ?_ _)); refine blk_put (cs := #[.string (⟨#[]⟩ : ByteArray), .int .i64 0, .string (⟨#[]⟩ : ByteArray), .bool false]) ?_ 0 _ rfl; (with_reducible repeat (first | refine blk_drewN ?_ _ | refine blk_drew ?_ | refine blk_alloc ?_ _)); refine blk_far ?_ NB204_210.out _; (with_reducible repeat (first | refine blk_drewN ?_ _ | refine blk_drew ?_ | refine blk_alloc ?_ _)); exact BK204.out) Try.underlying49 rfl (by kernel_rfl)) rfl ?_
    exact ⟨q_e, q_I129_0_1, q_B129_0, q_K⟩
   ·rw [if_neg c7] at H
    exact absurd H (by simp)
  ·rw [if_neg c6] at H
   exact absurd H (by simp)
 ·rw [if_neg c4] at H
  have c4b0 : (t211 == 0) = false := beq_eq_false_iff_ne.mpr c4
  have c4b1 : (t211 != 0) = true := bne_iff_ne.mpr c4
  by_cases c22 : t211 = 1
  ·rw [if_pos c22] at H
   have c22b0 : (t211 == 1) = true := beq_iff_eq.mpr c22
   have c22b1 : (t211 != 1) = false := bne_eq_false_iff_eq.mpr c22
   clear c22
   obtain ⟨y219, hy219⟩ : ∃ y_ : List Int, y_ = (([0, (-1), 1000000, 1000001] : List Int)) := ⟨_, rfl⟩
   replace H : ((spec_l1Pick.f s0_0 t212 y219).bind fun bt222 => (some (t205, bt222.1, t207, t208, bt222.2))) = some (r1, r2, r3, r4, r5) := q_h hy219 H
   have Ny219 := am hy219
   clear hy219
   replace H := ob H
   obtain ⟨⟨t222, t223⟩, A230, H⟩ := H
   replace H : (some (t205, t222, t207, t208, t223)) = some (r1, r2, r3, r4, r5) := H
   have A23 := am A230
   clear A230
   simp only [Option.some.injEq, Prod.mk.injEq] at H
   obtain ⟨rfl, rfl, rfl, rfl, rfl⟩ := H
   go_enter Try.func117, Try.ntmps117
   go_wp2_with (first | ((with_reducible refine gate_dst (N := 2) rfl ?_); refine q_box (N := 2) (cs := #[.string (⟨#[]⟩ : ByteArray), .int .i64 0, .string (⟨#[]⟩ : ByteArray), .bool false]) (t := 49) ?_; intro gb204 hg w24 hbox hb; have n0_ := am (IsS129.below q_I129_0_1 hb); have n1_ := am (KeepBut.trans q_K (KeepBut.of_below hb g none) (.inl rfl)); have n2_ := am (below_step q_B129_0 hb); have n3_ := am (hbox); have n4_ := am ((by rw [hg]; exact (keep_size (w := w) (g := g) (row := none) q_K) : w.heap.size ≤ gb204)); have n5_ := am ((Nat.le_trans HW0.out (by rw [hg]; exact (keep_size (w := w) (g := g) (row := none) q_K) : w.heap.size ≤ gb204) : w0.heap.size ≤ gb204)); have n6_ := am ((by rw [hg]; exact Nat.ne_of_lt (IsS129.lt (show IsS129 w0 _ g s0_0 s0_1 from q_I129_0_1)) : g ≠ gb204)); have n7_ := am ((by rw [hg]; exact Nat.ne_of_gt (IsS129.lt (show IsS129 w0 _ g s0_0 s0_1 from q_I129_0_1)) : gb204 ≠ g)); revert n0_ n1_ n2_ n3_ n4_ n5_ n6_ n7_; clear HI0 HK HB; intro HI0 HK HB BK204 GW204 GE204 NB0_204 NB204_0; clear hb hbox hg) | ((with_reducible refine gate_callee (f := 116) rfl ?_); refine goesLq (some 5) rfl rfl Try.func116 (by kernel_rfl) rfl #[.pointer (some ⟨g, 0, none⟩)] rfl ?_; (with_reducible refine (spec_l5Row.calls g s0_0 s0_1 t205 t206 t207 t208 t209 w0 _ ?side1 ?side2 A2.out).mono ?_); (case side1 => repeat (first | (with_reducible first | exact HI0.out | apply IsS129.alloc | apply IsS129.drewN | apply IsS129.drew | apply IsS129.set_1 | refine IsS129.far ?_ NB0_204.out _) | exact HI0.out)); (case side2 => repeat (first | (with_reducible first | exact HB.out | apply below_alloc | apply pw_below_drewN | apply below_drew1 | refine below_set ?_ (IsS129.ge HI0.out) | refine below_set ?_ GE204.out) | exact HB.out)); rintro e w25 ⟨rfl, hi, hb, hk⟩; refine ⟨_, rfl, ?_⟩; have n0_ := am (KeepBut.blk hk (g' := gb204) (o := .cells #[.string (⟨#[]⟩ : ByteArray), .int .i64 0, .string (⟨#[]⟩ : ByteArray), .bool false] 49 (0, 0)) kq NB204_0.out (by simp)); have n1_ := am (KeepBut.trans q_K hk (.inl rfl)); have n2_ := am (hb); have n3_ := am (hi); revert n0_ n1_ n2_ n3_; clear BK204 HK HB HI0; intro BK204 HK HB HI0; (try clear hb); (try clear hb2); (try clear hk); (try clear hi)) | ((with_reducible refine gate_dst (N := 3) rfl ?_); refine q_box (N := 3) (cs := #[.string (⟨#[]⟩ : ByteArray), .int .i64 0, .string (⟨#[]⟩ : ByteArray), .bool false]) (t := 49) ?_; intro gb210 hg w26 hbox hb; have n0_ := am (IsS129.below q_I129_0_1 hb); have n1_ := am (blk_below (q_b BK204.out) hb); have n2_ := am (KeepBut.trans q_K (KeepBut.of_below hb g none) (.inl rfl)); have n3_ := am (below_step q_B129_0 hb); have n4_ := am (hbox); have n5_ := am ((by rw [hg]; exact (keep_size (w := w) (g := g) (row := none) q_K) : w.heap.size ≤ gb210)); have n6_ := am ((Nat.le_trans HW0.out (by rw [hg]; exact (keep_size (w := w) (g := g) (row := none) q_K) : w.heap.size ≤ gb210) : w0.heap.size ≤ gb210)); have n7_ := am ((q_n hg (q_b BK204.out) : gb204 ≠ gb210)); have n8_ := am n7_.out.symm; have n9_ := am ((by rw [hg]; exact Nat.ne_of_lt (IsS129.lt (show IsS129 w0 _ g s0_0 t209 from q_I129_0_1)) : g ≠ gb210)); have n10_ := am ((by rw [hg]; exact Nat.ne_of_gt (IsS129.lt (show IsS129 w0 _ g s0_0 t209 from q_I129_0_1)) : gb210 ≠ g)); revert n0_ n1_ n2_ n3_ n4_ n5_ n6_ n7_ n8_ n9_ n10_; clear HI0 BK204 HK HB; intro HI0 BK204 HK HB BK210 GW210 GE210 NB204_210 NB210_204 NB0_210 NB210_0; clear hb hbox hg; have hnb27 := NB210_204.out; have hnc27 := NB204_210.out; have hnb28 := NB210_0.out; have hnc28 := NB0_210.out; obtain ⟨hcz29_0, hcz29_1, hcz29_2, hcz29_3, hfz29_0, hfz29_1, hfz29_2, hfz29_3⟩ := q_4 BK210.out) | ((with_reducible refine gate_callee (f := 84) rfl ?_); refine goesLq (some 7) rfl rfl Try.func84 (by kernel_rfl) rfl #[.pointer (some ⟨g, 0, none⟩), .int .i64 12] rfl ?_; (with_reducible refine (spec_l1Next.calls g s0_0 t209 12 t211 t212 w0 _ ?side1 ?side2 A3.out).mono ?_); (case side1 => repeat (first | (with_reducible first | exact HI0.out | apply IsS129.alloc | apply IsS129.drewN | apply IsS129.drew | apply IsS129.set_1 | refine IsS129.far ?_ NB0_204.out _ | refine IsS129.far ?_ NB0_210.out _) | exact HI0.out)); (case side2 => repeat (first | (with_reducible first | exact HB.out | apply below_alloc | apply pw_below_drewN | apply below_drew1 | refine below_set ?_ (IsS129.ge HI0.out) | refine below_set ?_ GE204.out | refine below_set ?_ GE210.out) | exact HB.out)); rintro e w30 ⟨rfl, hi, hb, hk⟩; refine ⟨_, rfl, ?_⟩; have n0_ := am (KeepBut.blk hk (g' := gb204) (o := .cells #[.string (⟨#[]⟩ : ByteArray), .int .i64 0, .string (⟨#[]⟩ : ByteArray), .bool false] 49 (0, 0)) (by (with_reducible repeat (first | refine blk_drewN ?_ _ | refine blk_drew ?_ | refine blk_alloc ?_ _)); refine blk_far ?_ NB204_210.out _; (with_reducible repeat (first | refine blk_drewN ?_ _ | refine blk_drew ?_ | refine blk_alloc ?_ _)); refine blk_far ?_ NB204_210.out _; (with_reducible repeat (first | refine blk_drewN ?_ _ | refine blk_drew ?_ | refine blk_alloc ?_ _)); refine blk_far ?_ NB204_210.out _; (with_reducible repeat (first | refine blk_drewN ?_ _ | refine blk_drew ?_ | refine blk_alloc ?_ _)); refine blk_far ?_ NB204_210.out _; (with_reducible repeat (first | refine blk_drewN ?_ _ | refine blk_drew ?_ | refine blk_alloc ?_ _)); exact BK204.out) NB204_0.out (by simp)); have n1_ := am (KeepBut.blk hk (g' := gb210) (o := .cells #[.string t205, .int .i64 t206, .string t207, .bool t208] 49 (0, 0)) (by (with_reducible repeat (first | refine blk_drewN ?_ _ | refine blk_drew ?_ | refine blk_alloc ?_ _)); refine blk_put (cs := #[.string t205, .int .i64 t206, .string t207, .bool false]) ?_ 3 _ rfl; (with_reducible repeat (first | refine blk_drewN ?_ _ | refine blk_drew ?_ | refine blk_alloc ?_ _)); refine blk_put (cs := #[.string t205, .int .i64 t206, .string (⟨#[]⟩ : ByteArray), .bool false]) ?_ 2 _ rfl; (with_reducible repeat (first | refine blk_drewN ?_ _ | refine blk_drew ?_ | refine blk_alloc ?_ _)); refine blk_put (cs := #[.string t205, .int .i64 0, .string (⟨#[]⟩ : ByteArray), .bool false]) ?_ 1 _ rfl; (with_reducible repeat (first | refine blk_drewN ?_ _ | refine blk_drew ?_ | refine blk_alloc ?_ _)); refine blk_put (cs := #[.string (⟨#[]⟩ : ByteArray), .int .i64 0, .string (⟨#[]⟩ : ByteArray), .bool false]) ?_ 0 _ rfl; (with_reducible repeat (first | refine blk_drewN ?_ _ | refine blk_drew ?_ | refine blk_alloc ?_ _)); exact BK210.out) NB210_0.out (by simp)); have n2_ := am (KeepBut.trans q_K hk (.inl rfl)); have n3_ := am (hb); have n4_ := am (hi); revert n0_ n1_ n2_ n3_ n4_; clear BK204 BK210 HK HB HI0; intro BK204 BK210 HK HB HI0; (try clear hb); (try clear hb2); (try clear hk); (try clear hi)) | ((with_reducible refine gate_dst (N := 19) rfl ?_); refine Kd.R_lit (Kd.int .i64) _ 2 ?hg (N := 19) ?hd (xs := ([0, (-1), 1000000, 1000001] : List Int)) (inner := [.int .i64 0, .int .i64 (-1), .int .i64 1000000, .int .i64 1000001]) (ok := fun _ => True) (okp := fun _ => True) ?hr ?hp (fun _ hk => hk) trivial (Below.refl _ _) (Nat.le_refl _) (by simp) ?_; (case hd => rfl); (case hg => rfl); (case hr => first | (go_simp; done) | (go_simp; rfl)); (case hp => exact (Reps.one (show Kd.M (Kd.int .i64) _ _ _ 0 [.int .i64 0] from rfl) (Reps.one (show Kd.M (Kd.int .i64) _ _ _ (-1) [.int .i64 (-1)] from rfl) (Reps.one (show Kd.M (Kd.int .i64) _ _ _ 1000000 [.int .i64 1000000] from rfl) (Reps.one (show Kd.M (Kd.int .i64) _ _ _ 1000001 [.int .i64 1000001] from rfl) (Reps.none _ _)))))); intro v220 w31 ho32 hb hg_ hnew_; clear hg_ hnew_; (first | rw [← Ny219.out] at ho32 | (simp only [Int.reduceToNat] at ho32; rw [← Ny219.out] at ho32)); have n0_ := am (Kd.R_lower ho32 (keep_size (w := w) (g := g) (row := none) q_K)); have n1_ := am (IsS129.below q_I129_0_1 hb); have n2_ := am (blk_below (q_b BK204.out) hb); have n3_ := am (blk_below (q_b BK210.out) hb); have n4_ := am (KeepBut.trans q_K (KeepBut.of_below hb g none) (.inl rfl)); have n5_ := am (below_step q_B129_0 hb); revert n0_ n1_ n2_ n3_ n4_ n5_; clear HI0 BK204 BK210 HK HB; intro HO221 HI0 BK204 BK210 HK HB; clear hb ho32; obtain ⟨Ao33, co33, eo33⟩ := Kd.R_slice HO221.out; subst eo33) | ((with_reducible refine gate_callee (f := 83) rfl ?_); refine goesLq (some 20) rfl rfl Try.func83 (by kernel_rfl) rfl #[.pointer (some ⟨g, 0, none⟩), .slice Ao33 y219.length co33] rfl ?_; (with_reducible refine (spec_l1Pick.calls g s0_0 t212 _ _ y219 t222 t223 w0 _ ?side1 ?side2 ?side3 ?side4 ?side5 A23.out).mono ?_); (case side1 => repeat (first | (with_reducible first | exact HI0.out | apply IsS129.alloc | apply IsS129.drewN | apply IsS129.drew | apply IsS129.set_1 | refine IsS129.far ?_ NB0_204.out _ | refine IsS129.far ?_ NB0_210.out _) | exact HI0.out)); (case side2 => repeat (first | (with_reducible first | exact HB.out | apply below_alloc | apply pw_below_drewN | apply below_drew1 | refine below_set ?_ (IsS129.ge HI0.out) | refine below_set ?_ GE204.out | refine below_set ?_ GE210.out) | exact HB.out)); (case side3 => exact q_c ((Kd.R_reads' HO221.out).2.2)); (case side4 => exact (Kd.R_reads' HO221.out).2.1); (case side5 => exact far_slice (IsS129.own_ne HI0.out HO221.out (by decide))); rintro e w34 ⟨rfl, hi, hb, hk⟩; refine ⟨_, rfl, ?_⟩; have n0_ := am (KeepBut.blk hk (g' := gb204) (o := .cells #[.string (⟨#[]⟩ : ByteArray), .int .i64 0, .string (⟨#[]⟩ : ByteArray), .bool false] 49 (0, 0)) kq NB204_0.out (by simp)); have n1_ := am (KeepBut.blk hk (g' := gb210) (o := .cells #[.string t205, .int .i64 t206, .string t207, .bool t208] 49 (0, 0)) kq NB210_0.out (by simp)); have n2_ := am (Kd.R_mono (Kd.R_keep (IsS129.apart (show IsS129 w0 _ g s0_0 t212 from q_I129_0_1) (q_r (HO221.out)) (by decide)) hk (fun _ h => h.2)) (fun _ h => h.1)); have n3_ := am (KeepBut.trans q_K hk (.inl rfl)); have n4_ := am (hb); have n5_ := am (hi); revert n0_ n1_ n2_ n3_ n4_ n5_; clear BK204 BK210 HO221 HK HB HI0; intro BK204 BK210 HO221 HK HB HI0; (try clear hb); (try clear hb2); (try clear hk); (try clear hi); obtain ⟨hcz35_0, hcz35_1, hcz35_2, hcz35_3, hfz35_0, hfz35_1, hfz35_2, hfz35_3⟩ := q_4 BK210.out; have hnb36 := NB204_0.out; have hnc36 := NB0_204.out; obtain ⟨hcz37_0, hcz37_1, hcz37_2, hcz37_3, hfz37_0, hfz37_1, hfz37_2, hfz37_3⟩ := q_4 BK204.out))
   refine bodyPost_ret (results_cell_row rfl _ _ gb204 49 #[.string t205, .int .i64 t222, .string t207, .bool t208] (0, 0) _ rfl (by (with_reducible repeat (first | refine blk_drewN ?_ _ | refine blk_drew ?_ | refine blk_alloc ?_ _)); refine blk_put (cs := #[.string t205, .int .i64 t222, .string t207, .bool false]) ?_ 3 _ rfl; (with_reducible repeat (first | refine blk_drewN ?_ _ | refine blk_drew ?_ | refine blk_alloc ?_ _)); refine blk_put (cs := #[.string t205, .int .i64 t222, .string (⟨#[]⟩ : ByteArray), .bool false]) ?_ 2 _ rfl; (with_reducible repeat (first | refine blk_drewN ?_ _ | refine blk_drew ?_ | refine blk_alloc ?_ _)); refine blk_put (cs := #[.string t205, .int .i64 0, .string (⟨#[]⟩ : ByteArray), .bool false]) ?_ 1 _ rfl; (with_reducible repeat (first | refine blk_drewN ?_ _ | refine blk_drew ?_ | refine blk_alloc ?_ _)); refine blk_put (cs := #[.string (⟨#[]⟩ : ByteArray), .int .i64 0, .string (⟨#[]⟩ : ByteArray), .bool false]) ?_ 0 _ rfl; (with_reducible repeat (first | refine blk_drewN ?_ _ | refine blk_drew ?_ | refine blk_alloc ?_ _)); refine blk_far ?_ NB204_210.out _; (with_reducible repeat (first | refine blk_drewN ?_ _ | refine blk_drew ?_ | refine blk_alloc ?_ _)); exact BK204.out) Try.underlying49 rfl (by kernel_rfl)) rfl ?_
   exact ⟨q_e, q_I129_0_1, q_B129_0, q_K⟩
  ·rw [if_neg c22] at H
   have c22b0 : (t211 == 1) = false := beq_eq_false_iff_ne.mpr c22
   have c22b1 : (t211 != 1) = true := bne_iff_ne.mpr c22
   by_cases c38 : t211 = 2
   ·rw [if_pos c38] at H
    have c38b0 : (t211 == 2) = true := beq_iff_eq.mpr c38
    have c38b1 : (t211 != 2) = false := bne_eq_false_iff_eq.mpr c38
    clear c38
    have H' := am H
    clear H
    go_enter Try.func117, Try.ntmps117
    go_wp2_with (first | ((with_reducible refine gate_dst (N := 2) rfl ?_); refine q_box (N := 2) (cs := #[.string (⟨#[]⟩ : ByteArray), .int .i64 0, .string (⟨#[]⟩ : ByteArray), .bool false]) (t := 49) ?_; intro gb204 hg w39 hbox hb; have n0_ := am (IsS129.below q_I129_0_1 hb); have n1_ := am (KeepBut.trans q_K (KeepBut.of_below hb g none) (.inl rfl)); have n2_ := am (below_step q_B129_0 hb); have n3_ := am (hbox); have n4_ := am ((by rw [hg]; exact (keep_size (w := w) (g := g) (row := none) q_K) : w.heap.size ≤ gb204)); have n5_ := am ((Nat.le_trans HW0.out (by rw [hg]; exact (keep_size (w := w) (g := g) (row := none) q_K) : w.heap.size ≤ gb204) : w0.heap.size ≤ gb204)); have n6_ := am ((by rw [hg]; exact Nat.ne_of_lt (IsS129.lt (show IsS129 w0 _ g s0_0 s0_1 from q_I129_0_1)) : g ≠ gb204)); have n7_ := am ((by rw [hg]; exact Nat.ne_of_gt (IsS129.lt (show IsS129 w0 _ g s0_0 s0_1 from q_I129_0_1)) : gb204 ≠ g)); revert n0_ n1_ n2_ n3_ n4_ n5_ n6_ n7_; clear HI0 HK HB; intro HI0 HK HB BK204 GW204 GE204 NB0_204 NB204_0; clear hb hbox hg) | ((with_reducible refine gate_callee (f := 116) rfl ?_); refine goesLq (some 5) rfl rfl Try.func116 (by kernel_rfl) rfl #[.pointer (some ⟨g, 0, none⟩)] rfl ?_; (with_reducible refine (spec_l5Row.calls g s0_0 s0_1 t205 t206 t207 t208 t209 w0 _ ?side1 ?side2 A2.out).mono ?_); (case side1 => repeat (first | (with_reducible first | exact HI0.out | apply IsS129.alloc | apply IsS129.drewN | apply IsS129.drew | apply IsS129.set_1 | refine IsS129.far ?_ NB0_204.out _) | exact HI0.out)); (case side2 => repeat (first | (with_reducible first | exact HB.out | apply below_alloc | apply pw_below_drewN | apply below_drew1 | refine below_set ?_ (IsS129.ge HI0.out) | refine below_set ?_ GE204.out) | exact HB.out)); rintro e w40 ⟨rfl, hi, hb, hk⟩; refine ⟨_, rfl, ?_⟩; have n0_ := am (KeepBut.blk hk (g' := gb204) (o := .cells #[.string (⟨#[]⟩ : ByteArray), .int .i64 0, .string (⟨#[]⟩ : ByteArray), .bool false] 49 (0, 0)) kq NB204_0.out (by simp)); have n1_ := am (KeepBut.trans q_K hk (.inl rfl)); have n2_ := am (hb); have n3_ := am (hi); revert n0_ n1_ n2_ n3_; clear BK204 HK HB HI0; intro BK204 HK HB HI0; (try clear hb); (try clear hb2); (try clear hk); (try clear hi)) | ((with_reducible refine gate_dst (N := 3) rfl ?_); refine q_box (N := 3) (cs := #[.string (⟨#[]⟩ : ByteArray), .int .i64 0, .string (⟨#[]⟩ : ByteArray), .bool false]) (t := 49) ?_; intro gb210 hg w41 hbox hb; have n0_ := am (IsS129.below q_I129_0_1 hb); have n1_ := am (blk_below (q_b BK204.out) hb); have n2_ := am (KeepBut.trans q_K (KeepBut.of_below hb g none) (.inl rfl)); have n3_ := am (below_step q_B129_0 hb); have n4_ := am (hbox); have n5_ := am ((by rw [hg]; exact (keep_size (w := w) (g := g) (row := none) q_K) : w.heap.size ≤ gb210)); have n6_ := am ((Nat.le_trans HW0.out (by rw [hg]; exact (keep_size (w := w) (g := g) (row := none) q_K) : w.heap.size ≤ gb210) : w0.heap.size ≤ gb210)); have n7_ := am ((q_n hg (q_b BK204.out) : gb204 ≠ gb210)); have n8_ := am n7_.out.symm; have n9_ := am ((by rw [hg]; exact Nat.ne_of_lt (IsS129.lt (show IsS129 w0 _ g s0_0 t209 from q_I129_0_1)) : g ≠ gb210)); have n10_ := am ((by rw [hg]; exact Nat.ne_of_gt (IsS129.lt (show IsS129 w0 _ g s0_0 t209 from q_I129_0_1)) : gb210 ≠ g)); revert n0_ n1_ n2_ n3_ n4_ n5_ n6_ n7_ n8_ n9_ n10_; clear HI0 BK204 HK HB; intro HI0 BK204 HK HB BK210 GW210 GE210 NB204_210 NB210_204 NB0_210 NB210_0; clear hb hbox hg; have hnb42 := NB210_204.out; have hnc42 := NB204_210.out; have hnb43 := NB210_0.out; have hnc43 := NB0_210.out; obtain ⟨hcz44_0, hcz44_1, hcz44_2, hcz44_3, hfz44_0, hfz44_1, hfz44_2, hfz44_3⟩ := q_4 BK210.out) | ((with_reducible refine gate_callee (f := 84) rfl ?_); refine goesLq (some 7) rfl rfl Try.func84 (by kernel_rfl) rfl #[.pointer (some ⟨g, 0, none⟩), .int .i64 12] rfl ?_; (with_reducible refine (spec_l1Next.calls g s0_0 t209 12 t211 t212 w0 _ ?side1 ?side2 A3.out).mono ?_); (case side1 => repeat (first | (with_reducible first | exact HI0.out | apply IsS129.alloc | apply IsS129.drewN | apply IsS129.drew | apply IsS129.set_1 | refine IsS129.far ?_ NB0_204.out _ | refine IsS129.far ?_ NB0_210.out _) | exact HI0.out)); (case side2 => repeat (first | (with_reducible first | exact HB.out | apply below_alloc | apply pw_below_drewN | apply below_drew1 | refine below_set ?_ (IsS129.ge HI0.out) | refine below_set ?_ GE204.out | refine below_set ?_ GE210.out) | exact HB.out)); rintro e w45 ⟨rfl, hi, hb, hk⟩; refine ⟨_, rfl, ?_⟩; have n0_ := am (KeepBut.blk hk (g' := gb204) (o := .cells #[.string (⟨#[]⟩ : ByteArray), .int .i64 0, .string (⟨#[]⟩ : ByteArray), .bool false] 49 (0, 0)) (by (with_reducible repeat (first | refine blk_drewN ?_ _ | refine blk_drew ?_ | refine blk_alloc ?_ _)); refine blk_far ?_ NB204_210.out _; (with_reducible repeat (first | refine blk_drewN ?_ _ | refine blk_drew ?_ | refine blk_alloc ?_ _)); refine blk_far ?_ NB204_210.out _; (with_reducible repeat (first | refine blk_drewN ?_ _ | refine blk_drew ?_ | refine blk_alloc ?_ _)); refine blk_far ?_ NB204_210.out _; (with_reducible repeat (first | refine blk_drewN ?_ _ | refine blk_drew ?_ | refine blk_alloc ?_ _)); refine blk_far ?_ NB204_210.out _; (with_reducible repeat (first | refine blk_drewN ?_ _ | refine blk_drew ?_ | refine blk_alloc ?_ _)); exact BK204.out) NB204_0.out (by simp)); have n1_ := am (KeepBut.blk hk (g' := gb210) (o := .cells #[.string t205, .int .i64 t206, .string t207, .bool t208] 49 (0, 0)) (by (with_reducible repeat (first | refine blk_drewN ?_ _ | refine blk_drew ?_ | refine blk_alloc ?_ _)); refine blk_put (cs := #[.string t205, .int .i64 t206, .string t207, .bool false]) ?_ 3 _ rfl; (with_reducible repeat (first | refine blk_drewN ?_ _ | refine blk_drew ?_ | refine blk_alloc ?_ _)); refine blk_put (cs := #[.string t205, .int .i64 t206, .string (⟨#[]⟩ : ByteArray), .bool false]) ?_ 2 _ rfl; (with_reducible repeat (first | refine blk_drewN ?_ _ | refine blk_drew ?_ | refine blk_alloc ?_ _)); refine blk_put (cs := #[.string t205, .int .i64 0, .string (⟨#[]⟩ : ByteArray), .bool false]) ?_ 1 _ rfl; (with_reducible repeat (first | refine blk_drewN ?_ _ | refine blk_drew ?_ | refine blk_alloc ?_ _)); refine blk_put (cs := #[.string (⟨#[]⟩ : ByteArray), .int .i64 0, .string (⟨#[]⟩ : ByteArray), .bool false]) ?_ 0 _ rfl; (with_reducible repeat (first | refine blk_drewN ?_ _ | refine blk_drew ?_ | refine blk_alloc ?_ _)); exact BK210.out) NB210_0.out (by simp)); have n2_ := am (KeepBut.trans q_K hk (.inl rfl)); have n3_ := am (hb); have n4_ := am (hi); revert n0_ n1_ n2_ n3_ n4_; clear BK204 BK210 HK HB HI0; intro BK204 BK210 HK HB HI0; (try clear hb); (try clear hb2); (try clear hk); (try clear hi)))
    go_loopg [] k (fun kq w' => ∃ (x1001_1 : Int) (x211002_1 : ByteArray), Aside0 (spec_l5Bent.l0 kq s0_0 x1001_1 t205 t206 x211002_1 t208 = some (r1, r2, r3, r4, r5)) ∧ Aside0 (kq ≤ k) ∧ Aside0 (w'.heap[gb204]? = some (.cells #[.string (⟨#[]⟩ : ByteArray), .int .i64 0, .string (⟨#[]⟩ : ByteArray), .bool false] 49 (0, 0))) ∧ Aside0 (w'.heap[gb210]? = some (.cells #[.string t205, .int .i64 t206, .string x211002_1, .bool t208] 49 (0, 0))) ∧ Aside0 (IsS129 w0 w' g s0_0 x1001_1) ∧ Aside0 (KeepBut w w' g none) ∧ Aside0 (Below w0.heap.size w0 w'))
    case atStart => exact ⟨(t212), (t207), H', ⟨Nat.le_refl _⟩, ⟨q_b BK204.out⟩, ⟨q_b BK210.out⟩, ⟨q_I129_0_1⟩, ⟨q_K⟩, ⟨q_B129_0⟩⟩
    case round =>
     clear H'
     (try clear c1); (try clear c2); (try clear p2); (try clear q2); (try clear hx2); (try clear c3); (try clear c4); (try clear c4b0); (try clear c4b1); (try clear c6); (try clear c6b0); (try clear c7)
     (try clear c7b0); (try clear c8); (try clear c11); (try clear c12); (try clear c20); (try clear p21); (try clear q21); (try clear hx21); (try clear c22); (try clear c22b0); (try clear c22b1); (try clear c27)
     (try clear c28); (try clear c36); (try clear c38); (try clear c38b0); (try clear c38b1); (try clear c42); (try clear c43); (try clear hcz13_0); (try clear hcz13_1); (try clear hcz13_2); (try clear hcz13_3)
     (try clear hcz19_0); (try clear hcz19_1); (try clear hcz19_2); (try clear hcz19_3); (try clear hcz21_0); (try clear hcz21_1); (try clear hcz21_2); (try clear hcz21_3); (try clear hcz29_0); (try clear hcz29_1)
     (try clear hcz29_2); (try clear hcz29_3); (try clear hcz35_0); (try clear hcz35_1); (try clear hcz35_2); (try clear hcz35_3); (try clear hcz37_0); (try clear hcz37_1); (try clear hcz37_2); (try clear hcz37_3)
     (try clear hcz44_0); (try clear hcz44_1); (try clear hcz44_2); (try clear hcz44_3); (try clear hfz13_0); (try clear hfz13_1); (try clear hfz13_2); (try clear hfz13_3); (try clear hfz19_0); (try clear hfz19_1)
     (try clear hfz19_2); (try clear hfz19_3); (try clear hfz21_0); (try clear hfz21_1); (try clear hfz21_2); (try clear hfz21_3); (try clear hfz29_0); (try clear hfz29_1); (try clear hfz29_2); (try clear hfz29_3)
     (try clear hfz35_0); (try clear hfz35_1); (try clear hfz35_2); (try clear hfz35_3); (try clear hfz37_0); (try clear hfz37_1); (try clear hfz37_2); (try clear hfz37_3); (try clear hfz44_0); (try clear hfz44_1)
     (try clear hfz44_2); (try clear hfz44_3); (try clear hx218_0); (try clear p218); (try clear q218)
     obtain ⟨x1001_1, x211002_1, HA, HK1, BK204, BK210, HI0, HK, HB⟩ := hrel
     cases gk with
     | zero => exact absurd HA.out (by simp [spec_l5Bent.l0])
     | succ k1 =>
      have H := HA.out
      clear HA
      simp only [spec_l5Bent.l0] at H
      replace H := ob H
      obtain ⟨⟨t224, t225⟩, A460, H⟩ := H
      replace H : (if (x211002_1.size : Int) < (wrap64 (100 + t224)) then (if x211002_1.size + 1 ≤ 9223372036854775807 then (spec_l5Bent.l0 k1 s0_0 t225 t205 t206 (x211002_1 ++ (⟨#[118]⟩ : ByteArray)) t208) else (none)) else (some (t205, t206, x211002_1, t208, t225))) = some (r1, r2, r3, r4, r5) := H
      have A46 := am A460
      clear A460
      by_cases c47 : (x211002_1.size : Int) < (wrap64 (100 + t224))
      ·rw [if_pos c47] at H
       have c47b0 := decide_eq_true c47
       clear c47
       by_cases c48 : x211002_1.size + 1 ≤ 9223372036854775807
       ·rw [if_pos c48] at H
        have c48b0 := eq_true c48
        have c48b1 := decide_eq_true c48
        try have c48b2 : (9223372036854775807 < x211002_1.size + 1) = False := eq_false (Nat.not_lt.2 c48)
        have H' := am H
        clear H
        try go_wp2
        have n0_ := am (blk_drew BK204.out)
        have n1_ := am (blk_drew BK210.out)
        have n2_ := am (IsS129.drew HI0.out)
        have n3_ := am (keep_drew HK.out)
        have n4_ := am (below_drew1 HB.out)
        clear BK204
        clear BK210
        clear HI0
        clear HK
        clear HB
        have BK204 := n0_
        have BK210 := n1_
        have HI0 := n2_
        have HK := n3_
        have HB := n4_
        clear n0_ n1_ n2_ n3_ n4_
        refine start_ (n := 7) (S := fun w' => w'.cell? ⟨gb210, 0, none⟩ = some (.string t205) ∧ w'.cell? ⟨gb210, 1, none⟩ = some (.int .i64 t206) ∧ w'.cell? ⟨gb210, 2, none⟩ = some (.string x211002_1) ∧ w'.cell? ⟨gb210, 3, none⟩ = some (.bool t208)) (ds := []) #[false, false, false, false, false, false, false] (by kernel_rfl) rfl rfl ⟨q_z BK210.out 0, q_z BK210.out 1, q_z BK210.out 2, q_z BK210.out 3⟩ (fun hHeld => ?_)
        generalize wr.drew = w49 at BK204 BK210 HI0 HK HB hHeld ⊢
        refine pure_ (i := 0) (N := some 24) (v := ?_) (a' := ?_) #[true, false, false, false, false, false, false] rfl rfl (by kernel_rfl) (fun _ _ _ h => h) (Or.inl ⟨by rfl, ?_⟩) ?_ ?_
        rotate_left
        ·intro w'
         go_simp
         with_reducible rfl
        rotate_left
        ·simp only [Act.put, List.setIfInBounds_toArray, List.set_cons_zero, List.set_cons_succ, i64_w, i32_w]
         rfl
        refine pure_ (i := 3) (N := some 27) (v := ?_) (a' := ?_) #[true, false, false, true, false, false, false] rfl rfl (by kernel_rfl) (fun _ _ _ h => h) (Or.inl ⟨by rfl, ?_⟩) ?_ ?_
        rotate_left
        ·intro w'
         go_simp
         with_reducible rfl
        rotate_left
        ·simp only [Act.put, List.setIfInBounds_toArray, List.set_cons_zero, List.set_cons_succ, i64_w, i32_w]
         rfl
        refine take_ (i := 1) (N := some 25) (v := ?_) (a' := ?_) #[true, true, false, true, false, false, false] rfl rfl (by kernel_rfl) (fun _ _ _ h => h) (Or.inl ⟨by rfl, ?_⟩) hHeld ?_ ?_
        rotate_left
        ·rintro w' ⟨s0, s1, s2, s3⟩
         go_simp
         with_reducible rfl
        rotate_left
        ·simp only [Act.put, List.setIfInBounds_toArray, List.set_cons_zero, List.set_cons_succ, i64_w, i32_w]
         rfl
        refine pure_ (i := 2) (N := some 26) (v := ?_) (a' := ?_) #[true, true, true, true, false, false, false] rfl rfl (by kernel_rfl) (fun _ _ _ h => h) (Or.inl ⟨by rfl, ?_⟩) ?_ ?_
        rotate_left
        ·intro w'
         go_simp
         with_reducible rfl
        rotate_left
        ·simp only [Act.put, List.setIfInBounds_toArray, List.set_cons_zero, List.set_cons_succ, i64_w, i32_w]
         rfl
        refine one_ (i := 4) (N := some 28) #[true, true, true, true, true, false, false] rfl rfl (by kernel_rfl) (by decide) (fun K hK => ?_)
        refine goes_ Try.func84 (by kernel_rfl) rfl #[.pointer (some ⟨g, 0, none⟩), .int .i64 2] (by rfl) rfl rfl (by (try simp only [List.map_toArray, List.map_cons, List.map_nil]); first | done | rfl | (simp only [List.length_drop, List.length_take]; rfl)) ?_
        with_reducible refine (spec_l1Next.calls g s0_0 x1001_1 2 t224 t225 w0 _ ?side1 ?side2 A46.out).mono ?_
        (case side1 => repeat (first | (with_reducible first | exact HI0.out | apply IsS129.alloc | apply IsS129.drewN | apply IsS129.drew | apply IsS129.set_1 | refine IsS129.far ?_ NB0_204.out _ | refine IsS129.far ?_ NB0_210.out _) | exact HI0.out))
        (case side2 => repeat (first | (with_reducible first | exact HB.out | apply below_alloc | apply pw_below_drewN | apply below_drew1 | refine below_set ?_ (IsS129.ge HI0.out) | refine below_set ?_ GE204.out | refine below_set ?_ GE210.out) | exact HB.out))
        rintro e w50 ⟨rfl, hi, hb, hk⟩
        refine ⟨_, rfl, ?_⟩
        have n0_ := am (KeepBut.blk hk (g' := gb204) (o := .cells #[.string (⟨#[]⟩ : ByteArray), .int .i64 0, .string (⟨#[]⟩ : ByteArray), .bool false] 49 (0, 0)) kq NB204_0.out (by simp))
        have n1_ := am (KeepBut.blk hk (g' := gb210) (o := .cells #[.string t205, .int .i64 t206, .string x211002_1, .bool t208] 49 (0, 0)) kq NB210_0.out (by simp))
        have n2_ := am (KeepBut.trans q_K hk (.inl rfl))
        have n3_ := am (hb)
        have n4_ := am (hi)
        clear BK204
        clear BK210
        clear HK
        clear HB
        clear HI0
        have BK204 := n0_
        have BK210 := n1_
        have HK := n2_
        have HB := n3_
        have HI0 := n4_
        clear n0_ n1_ n2_ n3_ n4_
        (try clear hb)
        (try clear hb2)
        (try clear hk)
        (try clear hi)
        refine hK.out _ _ ⟨q_z BK210.out 0, q_z BK210.out 1, q_z BK210.out 2, q_z BK210.out 3⟩ (fun hHeld => ?_)
        clear hK K
        refine norm_ (a' := ?_) ?_ ?_
        rotate_left
        ·show Act.put _ (some 28) _ = _
         simp only [Act.put, List.setIfInBounds_toArray, List.set_cons_zero, List.set_cons_succ, i64_w, i32_w]
         rfl
        refine pure_ (i := 5) (N := some 29) (v := ?_) (a' := ?_) #[true, true, true, true, true, true, false] rfl rfl (by kernel_rfl) (fun _ _ _ h => h) (Or.inl ⟨by rfl, ?_⟩) ?_ ?_
        rotate_left
        ·intro w'
         go_simp
         with_reducible rfl
        rotate_left
        ·simp only [Act.put, List.setIfInBounds_toArray, List.set_cons_zero, List.set_cons_succ, i64_w, i32_w]
         rfl
        refine pure_ (i := 6) (N := some 30) (v := ?_) (a' := ?_) #[true, true, true, true, true, true, true] rfl rfl (by kernel_rfl) (fun _ _ _ h => h) (Or.inl ⟨by rfl, ?_⟩) ?_ ?_
        rotate_left
        ·intro w'
         go_simp
         with_reducible rfl
        rotate_left
        ·simp only [Act.put, List.setIfInBounds_toArray, List.set_cons_zero, List.set_cons_succ, i64_w, i32_w]
         rfl
        refine done_ (by kernel_rfl) ?_
        have hnb51 := NB210_204.out
        have hnc51 := NB204_210.out
        have hnb52 := NB210_0.out
        have hnc52 := NB0_210.out
        obtain ⟨hcz53_0, hcz53_1, hcz53_2, hcz53_3, hfz53_0, hfz53_1, hfz53_2, hfz53_3⟩ := q_4 BK210.out
        try go_wp2
        go_roundg k1
        case measure => have := HK1.out; omega
        case rel => exact ⟨(t225), (x211002_1 ++ (⟨#[118]⟩ : ByteArray)), H', ⟨by have := HK1.out; omega⟩, ⟨by (with_reducible repeat (first | refine blk_drewN ?_ _ | refine blk_drew ?_ | refine blk_alloc ?_ _)); refine blk_far ?_ NB204_210.out _; (with_reducible repeat (first | refine blk_drewN ?_ _ | refine blk_drew ?_ | refine blk_alloc ?_ _)); exact BK204.out⟩, ⟨by (with_reducible repeat (first | refine blk_drewN ?_ _ | refine blk_drew ?_ | refine blk_alloc ?_ _)); refine blk_put (cs := #[.string t205, .int .i64 t206, .string x211002_1, .bool t208]) ?_ 2 _ rfl; (with_reducible repeat (first | refine blk_drewN ?_ _ | refine blk_drew ?_ | refine blk_alloc ?_ _)); exact BK210.out⟩, ⟨q_I129_0_1⟩, ⟨q_K⟩, ⟨q_B129_0⟩⟩
       ·rw [if_neg c48] at H
        exact absurd H (by simp)
      ·rw [if_neg c47] at H
       have c47b0 := decide_eq_false c47
       clear c47
       simp only [Option.some.injEq, Prod.mk.injEq] at H
       obtain ⟨rfl, rfl, rfl, rfl, rfl⟩ := H
       try go_wp2
       have n0_ := am (blk_drew BK204.out)
       have n1_ := am (blk_drew BK210.out)
       have n2_ := am (IsS129.drew HI0.out)
       have n3_ := am (keep_drew HK.out)
       have n4_ := am (below_drew1 HB.out)
       clear BK204
       clear BK210
       clear HI0
       clear HK
       clear HB
       have BK204 := n0_
       have BK210 := n1_
       have HI0 := n2_
       have HK := n3_
       have HB := n4_
       clear n0_ n1_ n2_ n3_ n4_
       refine start_ (n := 7) (S := fun w' => w'.cell? ⟨gb210, 0, none⟩ = some (.string t205) ∧ w'.cell? ⟨gb210, 1, none⟩ = some (.int .i64 t206) ∧ w'.cell? ⟨gb210, 2, none⟩ = some (.string x211002_1) ∧ w'.cell? ⟨gb210, 3, none⟩ = some (.bool t208)) (ds := []) #[false, false, false, false, false, false, false] (by kernel_rfl) rfl rfl ⟨q_z BK210.out 0, q_z BK210.out 1, q_z BK210.out 2, q_z BK210.out 3⟩ (fun hHeld => ?_)
       generalize wr.drew = w54 at BK204 BK210 HI0 HK HB hHeld ⊢
       refine pure_ (i := 0) (N := some 24) (v := ?_) (a' := ?_) #[true, false, false, false, false, false, false] rfl rfl (by kernel_rfl) (fun _ _ _ h => h) (Or.inl ⟨by rfl, ?_⟩) ?_ ?_
       rotate_left
       ·intro w'
        go_simp
        with_reducible rfl
       rotate_left
       ·simp only [Act.put, List.setIfInBounds_toArray, List.set_cons_zero, List.set_cons_succ, i64_w, i32_w]
        rfl
       refine pure_ (i := 3) (N := some 27) (v := ?_) (a' := ?_) #[true, false, false, true, false, false, false] rfl rfl (by kernel_rfl) (fun _ _ _ h => h) (Or.inl ⟨by rfl, ?_⟩) ?_ ?_
       rotate_left
       ·intro w'
        go_simp
        with_reducible rfl
       rotate_left
       ·simp only [Act.put, List.setIfInBounds_toArray, List.set_cons_zero, List.set_cons_succ, i64_w, i32_w]
        rfl
       refine take_ (i := 1) (N := some 25) (v := ?_) (a' := ?_) #[true, true, false, true, false, false, false] rfl rfl (by kernel_rfl) (fun _ _ _ h => h) (Or.inl ⟨by rfl, ?_⟩) hHeld ?_ ?_
       rotate_left
       ·rintro w' ⟨s0, s1, s2, s3⟩
        go_simp
        with_reducible rfl
       rotate_left
       ·simp only [Act.put, List.setIfInBounds_toArray, List.set_cons_zero, List.set_cons_succ, i64_w, i32_w]
        rfl
       refine pure_ (i := 2) (N := some 26) (v := ?_) (a' := ?_) #[true, true, true, true, false, false, false] rfl rfl (by kernel_rfl) (fun _ _ _ h => h) (Or.inl ⟨by rfl, ?_⟩) ?_ ?_
       rotate_left
       ·intro w'
        go_simp
        with_reducible rfl
       rotate_left
       ·simp only [Act.put, List.setIfInBounds_toArray, List.set_cons_zero, List.set_cons_succ, i64_w, i32_w]
        rfl
       refine one_ (i := 4) (N := some 28) #[true, true, true, true, true, false, false] rfl rfl (by kernel_rfl) (by decide) (fun K hK => ?_)
       refine goes_ Try.func84 (by kernel_rfl) rfl #[.pointer (some ⟨g, 0, none⟩), .int .i64 2] (by rfl) rfl rfl (by (try simp only [List.map_toArray, List.map_cons, List.map_nil]); first | done | rfl | (simp only [List.length_drop, List.length_take]; rfl)) ?_
       with_reducible refine (spec_l1Next.calls g s0_0 x1001_1 2 t224 t225 w0 _ ?side1 ?side2 A46.out).mono ?_
       (case side1 => repeat (first | (with_reducible first | exact HI0.out | apply IsS129.alloc | apply IsS129.drewN | apply IsS129.drew | apply IsS129.set_1 | refine IsS129.far ?_ NB0_204.out _ | refine IsS129.far ?_ NB0_210.out _) | exact HI0.out))
       (case side2 => repeat (first | (with_reducible first | exact HB.out | apply below_alloc | apply pw_below_drewN | apply below_drew1 | refine below_set ?_ (IsS129.ge HI0.out) | refine below_set ?_ GE204.out | refine below_set ?_ GE210.out) | exact HB.out))
       rintro e w55 ⟨rfl, hi, hb, hk⟩
       refine ⟨_, rfl, ?_⟩
       have n0_ := am (KeepBut.blk hk (g' := gb204) (o := .cells #[.string (⟨#[]⟩ : ByteArray), .int .i64 0, .string (⟨#[]⟩ : ByteArray), .bool false] 49 (0, 0)) kq NB204_0.out (by simp))
       have n1_ := am (KeepBut.blk hk (g' := gb210) (o := .cells #[.string t205, .int .i64 t206, .string x211002_1, .bool t208] 49 (0, 0)) kq NB210_0.out (by simp))
       have n2_ := am (KeepBut.trans q_K hk (.inl rfl))
       have n3_ := am (hb)
       have n4_ := am (hi)
       clear BK204
       clear BK210
       clear HK
       clear HB
       clear HI0
       have BK204 := n0_
       have BK210 := n1_
       have HK := n2_
       have HB := n3_
       have HI0 := n4_
       clear n0_ n1_ n2_ n3_ n4_
       (try clear hb)
       (try clear hb2)
       (try clear hk)
       (try clear hi)
       refine hK.out _ _ ⟨q_z BK210.out 0, q_z BK210.out 1, q_z BK210.out 2, q_z BK210.out 3⟩ (fun hHeld => ?_)
       clear hK K
       refine norm_ (a' := ?_) ?_ ?_
       rotate_left
       ·show Act.put _ (some 28) _ = _
        simp only [Act.put, List.setIfInBounds_toArray, List.set_cons_zero, List.set_cons_succ, i64_w, i32_w]
        rfl
       refine pure_ (i := 5) (N := some 29) (v := ?_) (a' := ?_) #[true, true, true, true, true, true, false] rfl rfl (by kernel_rfl) (fun _ _ _ h => h) (Or.inl ⟨by rfl, ?_⟩) ?_ ?_
       rotate_left
       ·intro w'
        go_simp
        with_reducible rfl
       rotate_left
       ·simp only [Act.put, List.setIfInBounds_toArray, List.set_cons_zero, List.set_cons_succ, i64_w, i32_w]
        rfl
       refine pure_ (i := 6) (N := some 30) (v := ?_) (a' := ?_) #[true, true, true, true, true, true, true] rfl rfl (by kernel_rfl) (fun _ _ _ h => h) (Or.inl ⟨by rfl, ?_⟩) ?_ ?_
       rotate_left
       ·intro w'
        go_simp
        with_reducible rfl
       rotate_left
       ·simp only [Act.put, List.setIfInBounds_toArray, List.set_cons_zero, List.set_cons_succ, i64_w, i32_w]
        rfl
       refine done_ (by kernel_rfl) ?_
       have hnb56 := NB210_204.out
       have hnc56 := NB204_210.out
       have hnb57 := NB210_0.out
       have hnc57 := NB0_210.out
       obtain ⟨hcz58_0, hcz58_1, hcz58_2, hcz58_3, hfz58_0, hfz58_1, hfz58_2, hfz58_3⟩ := q_4 BK210.out
       have hnb59 := NB204_0.out
       have hnc59 := NB0_204.out
       obtain ⟨hcz60_0, hcz60_1, hcz60_2, hcz60_3, hfz60_0, hfz60_1, hfz60_2, hfz60_3⟩ := q_4 BK204.out
       try go_wp2
       refine bodyPost_ret (results_cell_row rfl _ _ gb204 49 #[.string t205, .int .i64 t206, .string x211002_1, .bool t208] (0, 0) _ rfl (by (with_reducible repeat (first | refine blk_drewN ?_ _ | refine blk_drew ?_ | refine blk_alloc ?_ _)); refine blk_put (cs := #[.string t205, .int .i64 t206, .string x211002_1, .bool false]) ?_ 3 _ rfl; (with_reducible repeat (first | refine blk_drewN ?_ _ | refine blk_drew ?_ | refine blk_alloc ?_ _)); refine blk_put (cs := #[.string t205, .int .i64 t206, .string (⟨#[]⟩ : ByteArray), .bool false]) ?_ 2 _ rfl; (with_reducible repeat (first | refine blk_drewN ?_ _ | refine blk_drew ?_ | refine blk_alloc ?_ _)); refine blk_put (cs := #[.string t205, .int .i64 0, .string (⟨#[]⟩ : ByteArray), .bool false]) ?_ 1 _ rfl; (with_reducible repeat (first | refine blk_drewN ?_ _ | refine blk_drew ?_ | refine blk_alloc ?_ _)); refine blk_put (cs := #[.string (⟨#[]⟩ : ByteArray), .int .i64 0, .string (⟨#[]⟩ : ByteArray), .bool false]) ?_ 0 _ rfl; (with_reducible repeat (first | refine blk_drewN ?_ _ | refine blk_drew ?_ | refine blk_alloc ?_ _)); exact BK204.out) Try.underlying49 rfl (by kernel_rfl)) rfl ?_
       exact ⟨q_e, q_I129_0_1, q_B129_0, q_K⟩
   ·rw [if_neg c38] at H
    have c38b0 : (t211 == 2) = false := beq_eq_false_iff_ne.mpr c38
    have c38b1 : (t211 != 2) = true := bne_iff_ne.mpr c38
    simp only [Option.some.injEq, Prod.mk.injEq] at H
    obtain ⟨rfl, rfl, rfl, rfl, rfl⟩ := H
    go_enter Try.func117, Try.ntmps117
    go_wp2_with (first | ((with_reducible refine gate_dst (N := 2) rfl ?_); refine q_box (N := 2) (cs := #[.string (⟨#[]⟩ : ByteArray), .int .i64 0, .string (⟨#[]⟩ : ByteArray), .bool false]) (t := 49) ?_; intro gb204 hg w61 hbox hb; have n0_ := am (IsS129.below q_I129_0_1 hb); have n1_ := am (KeepBut.trans q_K (KeepBut.of_below hb g none) (.inl rfl)); have n2_ := am (below_step q_B129_0 hb); have n3_ := am (hbox); have n4_ := am ((by rw [hg]; exact (keep_size (w := w) (g := g) (row := none) q_K) : w.heap.size ≤ gb204)); have n5_ := am ((Nat.le_trans HW0.out (by rw [hg]; exact (keep_size (w := w) (g := g) (row := none) q_K) : w.heap.size ≤ gb204) : w0.heap.size ≤ gb204)); have n6_ := am ((by rw [hg]; exact Nat.ne_of_lt (IsS129.lt (show IsS129 w0 _ g s0_0 s0_1 from q_I129_0_1)) : g ≠ gb204)); have n7_ := am ((by rw [hg]; exact Nat.ne_of_gt (IsS129.lt (show IsS129 w0 _ g s0_0 s0_1 from q_I129_0_1)) : gb204 ≠ g)); revert n0_ n1_ n2_ n3_ n4_ n5_ n6_ n7_; clear HI0 HK HB; intro HI0 HK HB BK204 GW204 GE204 NB0_204 NB204_0; clear hb hbox hg) | ((with_reducible refine gate_callee (f := 116) rfl ?_); refine goesLq (some 5) rfl rfl Try.func116 (by kernel_rfl) rfl #[.pointer (some ⟨g, 0, none⟩)] rfl ?_; (with_reducible refine (spec_l5Row.calls g s0_0 s0_1 t205 t206 t207 t208 t209 w0 _ ?side1 ?side2 A2.out).mono ?_); (case side1 => repeat (first | (with_reducible first | exact HI0.out | apply IsS129.alloc | apply IsS129.drewN | apply IsS129.drew | apply IsS129.set_1 | refine IsS129.far ?_ NB0_204.out _) | exact HI0.out)); (case side2 => repeat (first | (with_reducible first | exact HB.out | apply below_alloc | apply pw_below_drewN | apply below_drew1 | refine below_set ?_ (IsS129.ge HI0.out) | refine below_set ?_ GE204.out) | exact HB.out)); rintro e w62 ⟨rfl, hi, hb, hk⟩; refine ⟨_, rfl, ?_⟩; have n0_ := am (KeepBut.blk hk (g' := gb204) (o := .cells #[.string (⟨#[]⟩ : ByteArray), .int .i64 0, .string (⟨#[]⟩ : ByteArray), .bool false] 49 (0, 0)) kq NB204_0.out (by simp)); have n1_ := am (KeepBut.trans q_K hk (.inl rfl)); have n2_ := am (hb); have n3_ := am (hi); revert n0_ n1_ n2_ n3_; clear BK204 HK HB HI0; intro BK204 HK HB HI0; (try clear hb); (try clear hb2); (try clear hk); (try clear hi)) | ((with_reducible refine gate_dst (N := 3) rfl ?_); refine q_box (N := 3) (cs := #[.string (⟨#[]⟩ : ByteArray), .int .i64 0, .string (⟨#[]⟩ : ByteArray), .bool false]) (t := 49) ?_; intro gb210 hg w63 hbox hb; have n0_ := am (IsS129.below q_I129_0_1 hb); have n1_ := am (blk_below (q_b BK204.out) hb); have n2_ := am (KeepBut.trans q_K (KeepBut.of_below hb g none) (.inl rfl)); have n3_ := am (below_step q_B129_0 hb); have n4_ := am (hbox); have n5_ := am ((by rw [hg]; exact (keep_size (w := w) (g := g) (row := none) q_K) : w.heap.size ≤ gb210)); have n6_ := am ((Nat.le_trans HW0.out (by rw [hg]; exact (keep_size (w := w) (g := g) (row := none) q_K) : w.heap.size ≤ gb210) : w0.heap.size ≤ gb210)); have n7_ := am ((q_n hg (q_b BK204.out) : gb204 ≠ gb210)); have n8_ := am n7_.out.symm; have n9_ := am ((by rw [hg]; exact Nat.ne_of_lt (IsS129.lt (show IsS129 w0 _ g s0_0 t209 from q_I129_0_1)) : g ≠ gb210)); have n10_ := am ((by rw [hg]; exact Nat.ne_of_gt (IsS129.lt (show IsS129 w0 _ g s0_0 t209 from q_I129_0_1)) : gb210 ≠ g)); revert n0_ n1_ n2_ n3_ n4_ n5_ n6_ n7_ n8_ n9_ n10_; clear HI0 BK204 HK HB; intro HI0 BK204 HK HB BK210 GW210 GE210 NB204_210 NB210_204 NB0_210 NB210_0; clear hb hbox hg; have hnb64 := NB210_204.out; have hnc64 := NB204_210.out; have hnb65 := NB210_0.out; have hnc65 := NB0_210.out; obtain ⟨hcz66_0, hcz66_1, hcz66_2, hcz66_3, hfz66_0, hfz66_1, hfz66_2, hfz66_3⟩ := q_4 BK210.out) | ((with_reducible refine gate_callee (f := 84) rfl ?_); refine goesLq (some 7) rfl rfl Try.func84 (by kernel_rfl) rfl #[.pointer (some ⟨g, 0, none⟩), .int .i64 12] rfl ?_; (with_reducible refine (spec_l1Next.calls g s0_0 t209 12 t211 t212 w0 _ ?side1 ?side2 A3.out).mono ?_); (case side1 => repeat (first | (with_reducible first | exact HI0.out | apply IsS129.alloc | apply IsS129.drewN | apply IsS129.drew | apply IsS129.set_1 | refine IsS129.far ?_ NB0_204.out _ | refine IsS129.far ?_ NB0_210.out _) | exact HI0.out)); (case side2 => repeat (first | (with_reducible first | exact HB.out | apply below_alloc | apply pw_below_drewN | apply below_drew1 | refine below_set ?_ (IsS129.ge HI0.out) | refine below_set ?_ GE204.out | refine below_set ?_ GE210.out) | exact HB.out)); rintro e w67 ⟨rfl, hi, hb, hk⟩; refine ⟨_, rfl, ?_⟩; have n0_ := am (KeepBut.blk hk (g' := gb204) (o := .cells #[.string (⟨#[]⟩ : ByteArray), .int .i64 0, .string (⟨#[]⟩ : ByteArray), .bool false] 49 (0, 0)) (by (with_reducible repeat (first | refine blk_drewN ?_ _ | refine blk_drew ?_ | refine blk_alloc ?_ _)); refine blk_far ?_ NB204_210.out _; (with_reducible repeat (first | refine blk_drewN ?_ _ | refine blk_drew ?_ | refine blk_alloc ?_ _)); refine blk_far ?_ NB204_210.out _; (with_reducible repeat (first | refine blk_drewN ?_ _ | refine blk_drew ?_ | refine blk_alloc ?_ _)); refine blk_far ?_ NB204_210.out _; (with_reducible repeat (first | refine blk_drewN ?_ _ | refine blk_drew ?_ | refine blk_alloc ?_ _)); refine blk_far ?_ NB204_210.out _; (with_reducible repeat (first | refine blk_drewN ?_ _ | refine blk_drew ?_ | refine blk_alloc ?_ _)); exact BK204.out) NB204_0.out (by simp)); have n1_ := am (KeepBut.blk hk (g' := gb210) (o := .cells #[.string t205, .int .i64 t206, .string t207, .bool t208] 49 (0, 0)) (by (with_reducible repeat (first | refine blk_drewN ?_ _ | refine blk_drew ?_ | refine blk_alloc ?_ _)); refine blk_put (cs := #[.string t205, .int .i64 t206, .string t207, .bool false]) ?_ 3 _ rfl; (with_reducible repeat (first | refine blk_drewN ?_ _ | refine blk_drew ?_ | refine blk_alloc ?_ _)); refine blk_put (cs := #[.string t205, .int .i64 t206, .string (⟨#[]⟩ : ByteArray), .bool false]) ?_ 2 _ rfl; (with_reducible repeat (first | refine blk_drewN ?_ _ | refine blk_drew ?_ | refine blk_alloc ?_ _)); refine blk_put (cs := #[.string t205, .int .i64 0, .string (⟨#[]⟩ : ByteArray), .bool false]) ?_ 1 _ rfl; (with_reducible repeat (first | refine blk_drewN ?_ _ | refine blk_drew ?_ | refine blk_alloc ?_ _)); refine blk_put (cs := #[.string (⟨#[]⟩ : ByteArray), .int .i64 0, .string (⟨#[]⟩ : ByteArray), .bool false]) ?_ 0 _ rfl; (with_reducible repeat (first | refine blk_drewN ?_ _ | refine blk_drew ?_ | refine blk_alloc ?_ _)); exact BK210.out) NB210_0.out (by simp)); have n2_ := am (KeepBut.trans q_K hk (.inl rfl)); have n3_ := am (hb); have n4_ := am (hi); revert n0_ n1_ n2_ n3_ n4_; clear BK204 BK210 HK HB HI0; intro BK204 BK210 HK HB HI0; (try clear hb); (try clear hb2); (try clear hk); (try clear hi); obtain ⟨hcz68_0, hcz68_1, hcz68_2, hcz68_3, hfz68_0, hfz68_1, hfz68_2, hfz68_3⟩ := q_4 BK210.out; have hnb69 := NB204_0.out; have hnc69 := NB0_204.out; obtain ⟨hcz70_0, hcz70_1, hcz70_2, hcz70_3, hfz70_0, hfz70_1, hfz70_2, hfz70_3⟩ := q_4 BK204.out))
    refine bodyPost_ret (results_cell_row rfl _ _ gb204 49 #[.string t205, .int .i64 t206, .string t207, .bool t208] (0, 0) _ rfl (by (with_reducible repeat (first | refine blk_drewN ?_ _ | refine blk_drew ?_ | refine blk_alloc ?_ _)); refine blk_put (cs := #[.string t205, .int .i64 t206, .string t207, .bool false]) ?_ 3 _ rfl; (with_reducible repeat (first | refine blk_drewN ?_ _ | refine blk_drew ?_ | refine blk_alloc ?_ _)); refine blk_put (cs := #[.string t205, .int .i64 t206, .string (⟨#[]⟩ : ByteArray), .bool false]) ?_ 2 _ rfl; (with_reducible repeat (first | refine blk_drewN ?_ _ | refine blk_drew ?_ | refine blk_alloc ?_ _)); refine blk_put (cs := #[.string t205, .int .i64 0, .string (⟨#[]⟩ : ByteArray), .bool false]) ?_ 1 _ rfl; (with_reducible repeat (first | refine blk_drewN ?_ _ | refine blk_drew ?_ | refine blk_alloc ?_ _)); refine blk_put (cs := #[.string (⟨#[]⟩ : ByteArray), .int .i64 0, .string (⟨#[]⟩ : ByteArray), .bool false]) ?_ 0 _ rfl; (with_reducible repeat (first | refine blk_drewN ?_ _ | refine blk_drew ?_ | refine blk_alloc ?_ _)); exact BK204.out) Try.underlying49 rfl (by kernel_rfl)) rfl ?_
    exact ⟨q_e, q_I129_0_1, q_B129_0, q_K⟩

/-! ### spec_l5Table: function 82 -/
def spec_l5Table.l0 : Nat → List (S49) → Int → List Int → Int → Option ((List (S49)) × Int)
  | 0, _, _, _, _ => none
  | k + 1, x3, x4, x1000, x1001 => if x4 > 0 then ((spec_l5Row.f x1000 x1001).bind fun bt231 => ((spec_l5Put.f k x3 bt231.1 bt231.2.1 bt231.2.2.1 bt231.2.2.2.1).bind fun t236 => (spec_l5Table.l0 k t236 (wrap64 (x4 - 1)) x1000 bt231.2.2.2.2))) else (if (x3.length : Int) = 0 then (some (x3, x1001)) else ((spec_l1Next.f x1000 x1001 20).bind fun bt239 => (if bt239.1 = 0 then ((spec_l1Next.f x1000 bt239.2 (x3.length : Int)).bind fun bt241 => ((spec_l5Bent.f k x1000 bt241.2).bind fun bt243 => (if 0 ≤ bt241.1 then (if bt241.1 < (x3.length : Int) then (some ((x3.set (bt241.1 : Int).toNat (⟨bt243.1, bt243.2.1, bt243.2.2.1, bt243.2.2.2.1⟩ : S49)), bt243.2.2.2.2)) else (none)) else (none)))) else (if bt239.1 = 1 then (if 0 < (x3.length : Int) then (if x3.length < 2932031007402 then (some ((x3 ++ [(⟨(rd_T49 x3 0).f0, (rd_T49 x3 0).f1, (rd_T49 x3 0).f2, (rd_T49 x3 0).f3⟩ : S49)]), bt239.2)) else (none)) else (none)) else (if bt239.1 = 2 then (if 201 ≤ 5864062014805 then (some ((List.replicate 201 z49), bt239.2)) else (none)) else (some (x3, bt239.2)))))))
def spec_l5Table.f (k : Nat) (s0_0 : List Int) (s0_1 : Int) : Option ((List (S49)) × Int) := (spec_l1Next.f s0_0 s0_1 9).bind fun bt229 => (spec_l5Table.l0 k (([] : List (S49))) bt229.1 s0_0 bt229.2)
theorem spec_l5Table.calls (k : Nat) (g : Nat) (s0_0 : List Int) (s0_1 : Int) (r1 : List (S49)) (r2 : Int) (w0 w : World) (hI : IsS129 w0 w g s0_0 s0_1) (hB : Below w0.heap.size w0 w) (h : spec_l5Table.f k s0_0 s0_1 = some (r1, r2)) :
  Calls Try.prog 82 #[.pointer (some ⟨g, 0, none⟩)] w fun e w' => ∃ v0_ : Value, e = .returned (v0_) ∧ Kd.R k49 49 w' w.heap.size (fun _ => True) v0_ r1 ∧ IsS129 w0 w' g s0_0 r2 ∧ Below w0.heap.size w0 w' ∧ KeepBut w w' g none := by
 have hu49 := Try.underlying49
 have HI0 := am hI
 have HK := am (KeepBut.refl w g none)
 have HL := am hB.size
 clear hI
 have HW0 := am hB.size
 have HB := am hB
 clear hB
 have H : ((spec_l1Next.f s0_0 s0_1 9).bind fun bt229 => (spec_l5Table.l0 k (([] : List (S49))) bt229.1 s0_0 bt229.2)) = some (r1, r2) := h
 clear h
 obtain ⟨y226, hy226⟩ : ∃ y_ : List (S49), y_ = (([] : List (S49))) := ⟨_, rfl⟩
 replace H : ((spec_l1Next.f s0_0 s0_1 9).bind fun bt229 => (spec_l5Table.l0 k y226 bt229.1 s0_0 bt229.2)) = some (r1, r2) := q_h hy226 H
 have Ny226 := am hy226
 clear hy226
 replace H := ob H
 obtain ⟨⟨t229, t230⟩, A20, H⟩ := H
 replace H : (spec_l5Table.l0 k y226 t229 s0_0 t230) = some (r1, r2) := H
 have A2 := am A20
 clear A20
 have H' := am H
 clear H
 go_enter Try.func82, Try.ntmps82
 go_wp2_with (first | ((with_reducible refine gate_dst (N := 5) rfl ?_); refine Kd.R_lit k49 _ 49 ?hg (N := 5) ?hd (xs := ([] : List (S49))) (inner := []) (ok := fun _ => True) (okp := fun _ => True) ?hr ?hp (fun _ hk => hk) trivial (Below.refl _ _) (Nat.le_refl _) (by simp) ?_; (case hd => rfl); (case hg => rfl); (case hr => first | (go_simp; done) | (go_simp; rfl)); (case hp => exact (Reps.none _ _)); intro v227 w3 ho4 hb hg_ hnew_; clear hg_ hnew_; (first | rw [← Ny226.out] at ho4 | (simp only [Int.reduceToNat] at ho4; rw [← Ny226.out] at ho4)); have n0_ := am (Kd.R_lower ho4 (keep_size (w := w) (g := g) (row := none) q_K)); have n1_ := am (IsS129.below q_I129_0_1 hb); have n2_ := am (KeepBut.trans q_K (KeepBut.of_below hb g none) (.inl rfl)); have n3_ := am (below_step q_B129_0 hb); revert n0_ n1_ n2_ n3_; clear HI0 HK HB; intro HO228 HI0 HK HB; clear hb ho4) | ((with_reducible refine gate_callee (f := 84) rfl ?_); refine goesLq (some 7) rfl rfl Try.func84 (by kernel_rfl) rfl #[.pointer (some ⟨g, 0, none⟩), .int .i64 9] rfl ?_; (with_reducible refine (spec_l1Next.calls g s0_0 s0_1 9 t229 t230 w0 _ ?side1 ?side2 A2.out).mono ?_); (case side1 => repeat (first | (with_reducible first | exact HI0.out | apply IsS129.alloc | apply IsS129.drewN | apply IsS129.drew | apply IsS129.set_1) | exact HI0.out)); (case side2 => repeat (first | (with_reducible first | exact HB.out | apply below_alloc | apply pw_below_drewN | apply below_drew1 | refine below_set ?_ (IsS129.ge HI0.out)) | exact HB.out)); rintro e w5 ⟨rfl, hi, hb, hk⟩; refine ⟨_, rfl, ?_⟩; have n0_ := am (Kd.R_mono (Kd.R_keep (IsS129.apart (show IsS129 w0 _ g s0_0 s0_1 from q_I129_0_1) (q_r (HO228.out)) (by decide)) hk (fun _ h => h.2)) (fun _ h => h.1)); have n1_ := am (KeepBut.trans q_K hk (.inl rfl)); have n2_ := am (hb); have n3_ := am (hi); revert n0_ n1_ n2_ n3_; clear HO228 HK HB HI0; intro HO228 HK HB HI0; (try clear hb); (try clear hb2); (try clear hk); (try clear hi)))
 go_loopg [3, 4] k (fun kq v3 v4 w' => ∃ (x3_1 : List (S49)) (x4_1 : Int) (x1001_1 : Int), v4 = .int .i64 x4_1 ∧ Aside0 (spec_l5Table.l0 kq x3_1 x4_1 s0_0 x1001_1 = some (r1, r2)) ∧ Aside0 (kq ≤ k) ∧ Aside0 (Kd.R k49 49 w' w.heap.size (fun _ => True) v3 x3_1) ∧ Aside0 (IsS129 w0 w' g s0_0 x1001_1) ∧ Aside0 (KeepBut w w' g none) ∧ Aside0 (Below w0.heap.size w0 w'))
 case atStart => exact ⟨(y226), (t229), (t230), q_i, H', ⟨Nat.le_refl _⟩, ⟨q_r (HO228.out)⟩, ⟨q_I129_0_1⟩, ⟨q_K⟩, ⟨q_B129_0⟩⟩
 case round =>
  clear H'
  (try clear p2)
  obtain ⟨x3_1, x4_1, x1001_1, rfl, HA, HK1, HO_3, HI0, HK, HB⟩ := hrel
  cases gk with
  | zero => exact absurd HA.out (by simp [spec_l5Table.l0])
  | succ k1 =>
   have H := HA.out
   clear HA
   simp only [spec_l5Table.l0] at H
   by_cases c6 : x4_1 > 0
   ·rw [if_pos c6] at H
    have c6b0 := decide_eq_true c6
    clear c6
    replace H := ob H
    obtain ⟨⟨t231, t232, t233, t234, t235⟩, A70, H⟩ := H
    replace H : ((spec_l5Put.f k1 x3_1 t231 t232 t233 t234).bind fun t236 => (spec_l5Table.l0 k1 t236 (wrap64 (x4_1 - 1)) s0_0 t235)) = some (r1, r2) := H
    have A7 := am A70
    clear A70
    replace H := ob H
    obtain ⟨t236, A80, H⟩ := H
    replace H : (spec_l5Table.l0 k1 t236 (wrap64 (x4_1 - 1)) s0_0 t235) = some (r1, r2) := H
    have A8 := am A80
    clear A80
    have H' := am H
    clear H
    go_wp2_with (first | ((with_reducible refine gate_callee (f := 116) rfl ?_); refine goesLq (some 14) rfl rfl Try.func116 (by kernel_rfl) rfl #[.pointer (some ⟨g, 0, none⟩)] rfl ?_; (with_reducible refine (spec_l5Row.calls g s0_0 x1001_1 t231 t232 t233 t234 t235 w0 _ ?side1 ?side2 A7.out).mono ?_); (case side1 => repeat (first | (with_reducible first | exact HI0.out | apply IsS129.alloc | apply IsS129.drewN | apply IsS129.drew | apply IsS129.set_1) | exact HI0.out)); (case side2 => repeat (first | (with_reducible first | exact HB.out | apply below_alloc | apply pw_below_drewN | apply below_drew1 | refine below_set ?_ (IsS129.ge HI0.out)) | exact HB.out)); rintro e w9 ⟨rfl, hi, hb, hk⟩; refine ⟨_, rfl, ?_⟩; have n0_ := am (Kd.R_mono (Kd.R_keep (IsS129.apart (show IsS129 w0 _ g s0_0 x1001_1 from q_I129_0_1) (q_r (HO_3.out)) (by decide)) hk (fun _ h => h.2)) (fun _ h => h.1)); have n1_ := am (KeepBut.trans q_K hk (.inl rfl)); have n2_ := am (hb); have n3_ := am (hi); revert n0_ n1_ n2_ n3_; clear HO_3 HK HB HI0; intro HO_3 HK HB HI0; (try clear hb); (try clear hb2); (try clear hk); (try clear hi); obtain ⟨Ao10, co10, eo10⟩ := Kd.R_slice HO_3.out; subst eo10) | ((with_reducible refine gate_callee (f := 115) rfl ?_); refine goesLq (some 15) rfl rfl Try.func115 (by kernel_rfl) rfl #[.slice Ao10 x3_1.length co10, .agg #[.string t231, .int .i64 t232, .string t233, .bool t234]] rfl ?_; (with_reducible refine (spec_l5Put.calls k1 (fun k_ => some k_ = (.slice Ao10 x3_1.length co10 : Value).ownBlock) (.slice Ao10 x3_1.length co10) x3_1 t231 t232 t233 t234 t236 w0 _ ?side1 ?side2 A8.out).mono ?_); (case side1 => repeat (first | (with_reducible first | exact HB.out | apply below_alloc | apply pw_below_drewN | apply below_drew1 | refine below_set ?_ (IsS129.ge HI0.out)) | exact HB.out)); (case side2 => exact Kd.R_lower (Kd.R_tight rfl HO_3.out) HL.out); rintro e w11 ⟨v237, rfl, ho0, hb, hkp⟩; refine ⟨_, rfl, ?_⟩; have n0_ := am (IsS129.kept q_I129_0_1 hkp (fun hs_ => (fun e_ => (IsS129.own_ne HI0.out HO_3.out (by decide)) e_) hs_)); have n1_ := am (Kd.R_mono (ok' := fun k_ => True) (Kd.R_raise (d := k49) (b := w0.heap.size) (b' := w.heap.size) (fun _ _ _ _ h_ => h_) ho0 (fun k_ e_ => Or.elim (ho0.1 k_ e_) (fun hs_ => (fun e_ => Kd.R_base HO_3.out k_ e_.symm) hs_) (fun hn_ => Nat.le_trans (keep_size (w := w) (g := g) (row := none) q_K) hn_))) (fun k_ hk_ => trivial)); have n2_ := am (Kept.keepG q_K hkp (fun k_ hs_ => (fun e_ => .inr (Kd.R_base HO_3.out k_ e_.symm)) hs_)); have n3_ := am (hb); revert n0_ n1_ n2_ n3_; clear HI0 HK HB HO_3; intro HI0 HO238 HK HB; (try clear hb); (try clear hkp); (try clear ho0)))
    go_roundg k1
    case measure => have := HK1.out; omega
    case rel => exact ⟨(t236), (wrap64 (x4_1 - 1)), (t235), q_i, H', ⟨by have := HK1.out; omega⟩, ⟨q_r (HO238.out)⟩, ⟨q_I129_0_1⟩, ⟨q_K⟩, ⟨q_B129_0⟩⟩
   ·rw [if_neg c6] at H
    have c6b0 := decide_eq_false c6
    clear c6
    by_cases c12 : (x3_1.length : Int) = 0
    ·rw [if_pos c12] at H
     have c12b0 : ((x3_1.length : Int) == 0) = true := beq_iff_eq.mpr c12
     have c12b1 : ((x3_1.length : Int) != 0) = false := bne_eq_false_iff_eq.mpr c12
     clear c12
     simp only [Option.some.injEq, Prod.mk.injEq] at H
     obtain ⟨rfl, rfl⟩ := H
     obtain ⟨Ao13, co13, eo13⟩ := Kd.R_slice HO_3.out
     subst eo13
     go_wp2
     go_ret
     exact ⟨_, q_e, q_r (HO_3.out), q_I129_0_1, q_B129_0, q_K⟩
    ·rw [if_neg c12] at H
     have c12b0 : ((x3_1.length : Int) == 0) = false := beq_eq_false_iff_ne.mpr c12
     have c12b1 : ((x3_1.length : Int) != 0) = true := bne_iff_ne.mpr c12
     have c12b2 : ¬ (x3_1 = []) := fun h_ => c12 (by rw [h_]; rfl)
     replace H := ob H
     obtain ⟨⟨t239, t240⟩, A140, H⟩ := H
     replace H : (if t239 = 0 then ((spec_l1Next.f s0_0 t240 (x3_1.length : Int)).bind fun bt241 => ((spec_l5Bent.f k1 s0_0 bt241.2).bind fun bt243 => (if 0 ≤ bt241.1 then (if bt241.1 < (x3_1.length : Int) then (some ((x3_1.set (bt241.1 : Int).toNat (⟨bt243.1, bt243.2.1, bt243.2.2.1, bt243.2.2.2.1⟩ : S49)), bt243.2.2.2.2)) else (none)) else (none)))) else (if t239 = 1 then (if 0 < (x3_1.length : Int) then (if x3_1.length < 2932031007402 then (some ((x3_1 ++ [(⟨(rd_T49 x3_1 0).f0, (rd_T49 x3_1 0).f1, (rd_T49 x3_1 0).f2, (rd_T49 x3_1 0).f3⟩ : S49)]), t240)) else (none)) else (none)) else (if t239 = 2 then (if 201 ≤ 5864062014805 then (some ((List.replicate 201 z49), t240)) else (none)) else (some (x3_1, t240))))) = some (r1, r2) := H
     have A14 := am A140
     clear A140
     by_cases c15 : t239 = 0
     ·rw [if_pos c15] at H
      have c15b0 : (t239 == 0) = true := beq_iff_eq.mpr c15
      have c15b1 : (t239 != 0) = false := bne_eq_false_iff_eq.mpr c15
      clear c15
      replace H := ob H
      obtain ⟨⟨t241, t242⟩, A160, H⟩ := H
      replace H : ((spec_l5Bent.f k1 s0_0 t242).bind fun bt243 => (if 0 ≤ t241 then (if t241 < (x3_1.length : Int) then (some ((x3_1.set (t241 : Int).toNat (⟨bt243.1, bt243.2.1, bt243.2.2.1, bt243.2.2.2.1⟩ : S49)), bt243.2.2.2.2)) else (none)) else (none))) = some (r1, r2) := H
      have A16 := am A160
      clear A160
      replace H := ob H
      obtain ⟨⟨t243, t244, t245, t246, t247⟩, A170, H⟩ := H
      replace H : (if 0 ≤ t241 then (if t241 < (x3_1.length : Int) then (some ((x3_1.set (t241 : Int).toNat (⟨t243, t244, t245, t246⟩ : S49)), t247)) else (none)) else (none)) = some (r1, r2) := H
      have A17 := am A170
      clear A170
      by_cases c18 : 0 ≤ t241
      ·rw [if_pos c18] at H
       have c18b0 := decide_eq_true c18
       clear c18
       by_cases c19 : t241 < (x3_1.length : Int)
       ·rw [if_pos c19] at H
        have c19b0 := decide_eq_true c19
        clear c19
        obtain ⟨y248, hy248⟩ : ∃ y_ : List (S49), y_ = (x3_1.set (t241 : Int).toNat (⟨t243, t244, t245, t246⟩ : S49)) := ⟨_, rfl⟩
        replace H : (some (y248, t247)) = some (r1, r2) := q_h hy248 H
        have Ny248 := am hy248
        clear hy248
        simp only [Option.some.injEq, Prod.mk.injEq] at H
        obtain ⟨rfl, rfl⟩ := H
        obtain ⟨Ao21, co21, eo21⟩ := Kd.R_slice HO_3.out
        subst eo21
        go_wp2_with (first | ((with_reducible refine gate_callee (f := 84) rfl ?_); refine goesLq (some 21) rfl rfl Try.func84 (by kernel_rfl) rfl #[.pointer (some ⟨g, 0, none⟩), .int .i64 20] rfl ?_; (with_reducible refine (spec_l1Next.calls g s0_0 x1001_1 20 t239 t240 w0 _ ?side1 ?side2 A14.out).mono ?_); (case side1 => repeat (first | (with_reducible first | exact HI0.out | apply IsS129.alloc | apply IsS129.drewN | apply IsS129.drew | apply IsS129.set_1) | exact HI0.out)); (case side2 => repeat (first | (with_reducible first | exact HB.out | apply below_alloc | apply pw_below_drewN | apply below_drew1 | refine below_set ?_ (IsS129.ge HI0.out)) | exact HB.out)); rintro e w22 ⟨rfl, hi, hb, hk⟩; refine ⟨_, rfl, ?_⟩; have n0_ := am (Kd.R_mono (Kd.R_keep (IsS129.apart (show IsS129 w0 _ g s0_0 x1001_1 from q_I129_0_1) (q_r (HO_3.out)) (by decide)) hk (fun _ h => h.2)) (fun _ h => h.1)); have n1_ := am (KeepBut.trans q_K hk (.inl rfl)); have n2_ := am (hb); have n3_ := am (hi); revert n0_ n1_ n2_ n3_; clear HO_3 HK HB HI0; intro HO_3 HK HB HI0; (try clear hb); (try clear hb2); (try clear hk); (try clear hi)) | ((with_reducible refine gate_callee (f := 84) rfl ?_); refine goesLq (some 28) rfl rfl Try.func84 (by kernel_rfl) rfl #[.pointer (some ⟨g, 0, none⟩), .int .i64 (x3_1.length : Int)] rfl ?_; (with_reducible refine (spec_l1Next.calls g s0_0 t240 (x3_1.length : Int) t241 t242 w0 _ ?side1 ?side2 A16.out).mono ?_); (case side1 => repeat (first | (with_reducible first | exact HI0.out | apply IsS129.alloc | apply IsS129.drewN | apply IsS129.drew | apply IsS129.set_1) | exact HI0.out)); (case side2 => repeat (first | (with_reducible first | exact HB.out | apply below_alloc | apply pw_below_drewN | apply below_drew1 | refine below_set ?_ (IsS129.ge HI0.out)) | exact HB.out)); rintro e w23 ⟨rfl, hi, hb, hk⟩; refine ⟨_, rfl, ?_⟩; have n0_ := am (Kd.R_mono (Kd.R_keep (IsS129.apart (show IsS129 w0 _ g s0_0 t240 from q_I129_0_1) (q_r (HO_3.out)) (by decide)) hk (fun _ h => h.2)) (fun _ h => h.1)); have n1_ := am (KeepBut.trans q_K hk (.inl rfl)); have n2_ := am (hb); have n3_ := am (hi); revert n0_ n1_ n2_ n3_; clear HO_3 HK HB HI0; intro HO_3 HK HB HI0; (try clear hb); (try clear hb2); (try clear hk); (try clear hi)) | ((with_reducible refine gate_callee (f := 117) rfl ?_); refine goesLq (some 30) rfl rfl Try.func117 (by kernel_rfl) rfl #[.pointer (some ⟨g, 0, none⟩)] rfl ?_; (with_reducible refine (spec_l5Bent.calls k1 g s0_0 t242 t243 t244 t245 t246 t247 w0 _ ?side1 ?side2 A17.out).mono ?_); (case side1 => repeat (first | (with_reducible first | exact HI0.out | apply IsS129.alloc | apply IsS129.drewN | apply IsS129.drew | apply IsS129.set_1) | exact HI0.out)); (case side2 => repeat (first | (with_reducible first | exact HB.out | apply below_alloc | apply pw_below_drewN | apply below_drew1 | refine below_set ?_ (IsS129.ge HI0.out)) | exact HB.out)); rintro e w24 ⟨rfl, hi, hb, hk⟩; refine ⟨_, rfl, ?_⟩; have n0_ := am (Kd.R_mono (Kd.R_keep (IsS129.apart (show IsS129 w0 _ g s0_0 t242 from q_I129_0_1) (q_r (HO_3.out)) (by decide)) hk (fun _ h => h.2)) (fun _ h => h.1)); have n1_ := am (KeepBut.trans q_K hk (.inl rfl)); have n2_ := am (hb); have n3_ := am (hi); revert n0_ n1_ n2_ n3_; clear HO_3 HK HB HI0; intro HO_3 HK HB HI0; (try clear hb); (try clear hb2); (try clear hk); (try clear hi); have p20 : 0 ≤ (t241 : Int) := q_d; have q20 : (t241 : Int) < ((x3_1.length : Int) : Int) := q_d; obtain ⟨go20, co20, eo20, gb20, gl20, cl20, HG20⟩ := Kd.R_form HO_3.out (by omega); (first | cases eo20 | (injection eo20 with ea_ en_ ec_; (first | subst ea_ | (injection ea_ with ea_; subst ea_)); subst ec_; clear en_)); have GB20 := am gb20; have GG20 := am HG20; clear gb20 gl20 HG20; obtain ⟨ce20, hcl20, hM20, hcc20, hfr20⟩ := Kd.R_elem HO_3.out z49 (t241 : Int) p20 q20; obtain rfl := k49_openM hM20; have hx20_0 : w24.cell? ⟨go20, (t241 : Int).toNat * 4, none⟩ = some (.string ((rd_T49 x3_1 t241).f0)) := hcc20 0 _ rfl; have hx20_1 : w24.cell? ⟨go20, (t241 : Int).toNat * 4 + 1, none⟩ = some (.int .i64 ((rd_T49 x3_1 t241).f1)) := hcc20 1 _ rfl; have hx20_2 : w24.cell? ⟨go20, (t241 : Int).toNat * 4 + 2, none⟩ = some (.string ((rd_T49 x3_1 t241).f2)) := hcc20 2 _ rfl; have hx20_3 : w24.cell? ⟨go20, (t241 : Int).toNat * 4 + 3, none⟩ = some (.bool ((rd_T49 x3_1 t241).f3)) := hcc20 3 _ rfl; have hf20_0 : w24.frozen? ⟨go20, (t241 : Int).toNat * 4, none⟩ = false := hfr20 0; have hf20_1 : w24.frozen? ⟨go20, (t241 : Int).toNat * 4 + 1, none⟩ = false := hfr20 1; have hf20_2 : w24.frozen? ⟨go20, (t241 : Int).toNat * 4 + 2, none⟩ = false := hfr20 2; have hf20_3 : w24.frozen? ⟨go20, (t241 : Int).toNat * 4 + 3, none⟩ = false := hfr20 3; clear hcl20 hcc20 hfr20; (try clear hM20); replace p20 := eq_true p20; replace q20 := eq_true q20; have HX25 := am (show Kd.R k49 49 w24 w.heap.size (fun _ => True) (.slice (some ⟨go20, 0, none⟩) x3_1.length co21) x3_1 from (q_r (HO_3.out))); obtain ⟨ce25, hcl25, hM25, hcc25, hfr25⟩ := Kd.R_elem HX25.out z49 (t241 : Int) q_d (by have h_ : (t241 : Int) < ((x3_1.length : Int) : Int) := q_d; first | exact h_ | (have e_ := (Kd.R_reads' HO_3.out).1; omega) | simpa using h_); obtain rfl := k49_openM hM25; have HP25 := Kd.R_seg HX25.out (t241 : Int) q_d (by have h_ : (t241 : Int) < ((x3_1.length : Int) : Int) := q_d; first | exact h_ | (have e_ := (Kd.R_reads' HO_3.out).1; omega) | simpa using h_) (seg := [.string t243, .int .i64 t244, .string t245, .bool t246]) (j := 0) hcl25 hcc25 (show 4 ≤ 4 from by decide) (x' := (⟨t243, t244, t245, t246⟩ : S49)) (k49_mkM _ _ _ (⟨t243, t244, t245, t246⟩ : S49) ) (fun _ hk => hk); have hx25_0 := hcc25 0 _ rfl; (try simp only [show (k49).sz = 4 from rfl, Nat.mul_one, Nat.add_zero] at hx25_0); have hf25_0 := hfr25 0; (try simp only [show (k49).sz = 4 from rfl, Nat.mul_one, Nat.add_zero] at hf25_0); have hx25_1 := hcc25 1 _ rfl; (try simp only [show (k49).sz = 4 from rfl, Nat.mul_one, Nat.add_zero] at hx25_1); have hf25_1 := hfr25 1; (try simp only [show (k49).sz = 4 from rfl, Nat.mul_one, Nat.add_zero] at hf25_1); have hx25_2 := hcc25 2 _ rfl; (try simp only [show (k49).sz = 4 from rfl, Nat.mul_one, Nat.add_zero] at hx25_2); have hf25_2 := hfr25 2; (try simp only [show (k49).sz = 4 from rfl, Nat.mul_one, Nat.add_zero] at hf25_2); have hx25_3 := hcc25 3 _ rfl; (try simp only [show (k49).sz = 4 from rfl, Nat.mul_one, Nat.add_zero] at hx25_3); have hf25_3 := hfr25 3; (try simp only [show (k49).sz = 4 from rfl, Nat.mul_one, Nat.add_zero] at hf25_3); clear hcl25 hcc25 hfr25; (try clear hM25)) | ((with_reducible refine gate_store (t := 49) (p := 31) rfl ?_); refine store_event (t := 49) (p := 31) (v := ?vo_w26) (w1 := ((((w24.setCell ⟨go20, (t241 : Int).toNat * 4, none⟩ (.string t243)).setCell ⟨go20, (t241 : Int).toNat * 4 + 1, none⟩ (.int .i64 t244)).setCell ⟨go20, (t241 : Int).toNat * 4 + 2, none⟩ (.string t245)).setCell ⟨go20, (t241 : Int).toNat * 4 + 3, none⟩ (.bool t246))) ?hg ?ho ?hn ?hr ?_; (case ho => rfl); (case hg => rfl); (case hn => rfl); (case hr => first | (go_simp; done) | (go_simp; rfl)); intro w26 hw; have hg : w24.grownBy w26 (some go20) := (by rw [hw]; exact HP25.2); have hp_ : Kd.R k49 49 w26 w.heap.size (fun _ => True) (.slice (some ⟨go20, 0, none⟩) x3_1.length co21) y248 := (by rw [hw, Ny248.out]; exact HP25.1); clear HP25; have n0_ := am (hp_); have n1_ := am (IsS129.grown q_I129_0_1 hg (IsS129.own_ne HI0.out HO_3.out (by decide))); have n2_ := am ((by rw [hw]; exact below_set (below_set (below_set (below_set (HB.out) (Nat.le_trans HL.out GB20.out)) (Nat.le_trans HL.out GB20.out)) (Nat.le_trans HL.out GB20.out)) (Nat.le_trans HL.out GB20.out) : Below w0.heap.size w0 w26)); have n3_ := am (KeepBut.trans q_K (KeepBut.of_grown hg g) (Kd.R_base2 HO_3.out)); revert n0_ n1_ n2_ n3_; clear HO_3 HI0 HB HK; intro HO_3 HI0 HB HK; clear hg hw hp_))
        go_ret
        exact ⟨_, q_e, q_r (HO_3.out), q_I129_0_1, q_B129_0, q_K⟩
       ·rw [if_neg c19] at H
        exact absurd H (by simp)
      ·rw [if_neg c18] at H
       exact absurd H (by simp)
     ·rw [if_neg c15] at H
      have c15b0 : (t239 == 0) = false := beq_eq_false_iff_ne.mpr c15
      have c15b1 : (t239 != 0) = true := bne_iff_ne.mpr c15
      by_cases c27 : t239 = 1
      ·rw [if_pos c27] at H
       have c27b0 : (t239 == 1) = true := beq_iff_eq.mpr c27
       have c27b1 : (t239 != 1) = false := bne_eq_false_iff_eq.mpr c27
       clear c27
       by_cases c28 : 0 < (x3_1.length : Int)
       ·rw [if_pos c28] at H
        have c28b0 := decide_eq_true c28
        have c28b1 : decide (0 < x3_1.length) = true := decide_eq_true (by omega)
        clear c28
        by_cases c29 : x3_1.length < 2932031007402
        ·rw [if_pos c29] at H
         have LMc29 := am c29
         clear c29
         obtain ⟨y250, hy250⟩ : ∃ y_ : List (S49), y_ = (x3_1 ++ [(⟨(rd_T49 x3_1 0).f0, (rd_T49 x3_1 0).f1, (rd_T49 x3_1 0).f2, (rd_T49 x3_1 0).f3⟩ : S49)]) := ⟨_, rfl⟩
         replace H : (some (y250, t240)) = some (r1, r2) := q_h hy250 H
         have Ny250 := am hy250
         clear hy250
         simp only [Option.some.injEq, Prod.mk.injEq] at H
         obtain ⟨rfl, rfl⟩ := H
         obtain ⟨Ao30, co30, eo30⟩ := Kd.R_slice HO_3.out
         subst eo30
         go_wp2_with (first | ((with_reducible refine gate_callee (f := 84) rfl ?_); refine goesLq (some 21) rfl rfl Try.func84 (by kernel_rfl) rfl #[.pointer (some ⟨g, 0, none⟩), .int .i64 20] rfl ?_; (with_reducible refine (spec_l1Next.calls g s0_0 x1001_1 20 t239 t240 w0 _ ?side1 ?side2 A14.out).mono ?_); (case side1 => repeat (first | (with_reducible first | exact HI0.out | apply IsS129.alloc | apply IsS129.drewN | apply IsS129.drew | apply IsS129.set_1) | exact HI0.out)); (case side2 => repeat (first | (with_reducible first | exact HB.out | apply below_alloc | apply pw_below_drewN | apply below_drew1 | refine below_set ?_ (IsS129.ge HI0.out)) | exact HB.out)); rintro e w31 ⟨rfl, hi, hb, hk⟩; refine ⟨_, rfl, ?_⟩; have n0_ := am (Kd.R_mono (Kd.R_keep (IsS129.apart (show IsS129 w0 _ g s0_0 x1001_1 from q_I129_0_1) (q_r (HO_3.out)) (by decide)) hk (fun _ h => h.2)) (fun _ h => h.1)); have n1_ := am (KeepBut.trans q_K hk (.inl rfl)); have n2_ := am (hb); have n3_ := am (hi); revert n0_ n1_ n2_ n3_; clear HO_3 HK HB HI0; intro HO_3 HK HB HI0; (try clear hb); (try clear hb2); (try clear hk); (try clear hi); have p249 : 0 ≤ (0 : Int) := (by omega); have q249 : 0 < (x3_1.length : Int) := q_d; obtain ⟨ad249, e249, hx249_0, hx249_1, hx249_2, hx249_3⟩ := at_T49 (Kd.R_reads' HO_3.out).2.2 0 p249 q249; cases e249; have qi249 : (0 < x3_1.length) = True := eq_true (by omega); (try rw [show ((0 : Int)).toNat = 0 from rfl] at hx249_0); (try rw [show 0 * 4 = 0 from rfl] at hx249_0); (try rw [Addr.add_zero'] at hx249_0); (try rw [show ((0 : Int)).toNat = 0 from rfl] at hx249_1); (try rw [show 0 * 4 = 0 from rfl] at hx249_1); (try rw [Addr.add_zero'] at hx249_1); (try rw [show ((0 : Int)).toNat = 0 from rfl] at hx249_2); (try rw [show 0 * 4 = 0 from rfl] at hx249_2); (try rw [Addr.add_zero'] at hx249_2); (try rw [show ((0 : Int)).toNat = 0 from rfl] at hx249_3); (try rw [show 0 * 4 = 0 from rfl] at hx249_3); (try rw [Addr.add_zero'] at hx249_3); replace p249 := eq_true p249; replace q249 := eq_true q249) | ((with_reducible refine gate_builtin (b := .append) (xs := #[.tmp 34, .tmp 38]) rfl ?_); at_builtin; refine Kd.R_append k49 w.heap.size rfl (.tmp 34) (.tmp 38) 25 49 (.agg #[(.string ⟨#[]⟩), (.int .i64 0), (.string ⟨#[]⟩), (.bool false)]) 48 rfl Try.underlying25 info49 rfl (by decide) (by omega) (.slice (some ad249) x3_1.length co30) x3_1 (⟨(rd_T49 x3_1 0).f0, (rd_T49 x3_1 0).f1, (rd_T49 x3_1 0).f2, (rd_T49 x3_1 0).f3⟩ : S49) [.string ((rd_T49 x3_1 0).f0), .int .i64 ((rd_T49 x3_1 0).f1), .string ((rd_T49 x3_1 0).f2), .bool ((rd_T49 x3_1 0).f3)] (fun _ => True) (fun _ => False) rfl rfl ?aP (fun _ hk => hk.elim) ?aF ?aO (Below.refl _ _) ?aS ?aL ?_; (case aP => exact k49_mkM _ _ _ (⟨(rd_T49 x3_1 0).f0, (rd_T49 x3_1 0).f1, (rd_T49 x3_1 0).f2, (rd_T49 x3_1 0).f3⟩ : S49)); (case aF => exact (fun _ _ => trivial)); (case aO => exact (q_r (HO_3.out))); (case aS => exact (keep_size (w := w) (g := g) (row := none) q_K)); (case aL => have := LMc29.out; omega); intro v251 w32 ho hb hg hat; rw [← Ny250.out] at ho; have n0_ := am (IsS129.grown q_I129_0_1 hg (IsS129.own_ne HI0.out HO_3.out (by decide))); have n1_ := am (below_weaken q_B129_0 HL.out hb); have n2_ := am (KeepBut.trans q_K (KeepBut.of_grown hg g) (Kd.R_base2 HO_3.out)); have n3_ := am (ho); revert n0_ n1_ n2_ n3_; clear HI0 HB HK HO_3; intro HI0 HB HK HO252; clear ho hb hg hat))
         go_ret
         exact ⟨_, q_e, q_r (HO252.out), q_I129_0_1, q_B129_0, q_K⟩
        ·rw [if_neg c29] at H
         exact absurd H (by simp)
       ·rw [if_neg c28] at H
        exact absurd H (by simp)
      ·rw [if_neg c27] at H
       have c27b0 : (t239 == 1) = false := beq_eq_false_iff_ne.mpr c27
       have c27b1 : (t239 != 1) = true := bne_iff_ne.mpr c27
       by_cases c33 : t239 = 2
       ·rw [if_pos c33] at H
        have c33b0 : (t239 == 2) = true := beq_iff_eq.mpr c33
        have c33b1 : (t239 != 2) = false := bne_eq_false_iff_eq.mpr c33
        clear c33
        by_cases c34 : 201 ≤ 5864062014805
        ·rw [if_pos c34] at H
         have c34b0 := eq_true c34
         have c34b1 := decide_eq_true c34
         clear c34
         obtain ⟨y253, hy253⟩ : ∃ y_ : List (S49), y_ = (List.replicate 201 z49) := ⟨_, rfl⟩
         replace H : (some (y253, t240)) = some (r1, r2) := q_h hy253 H
         have Ny253 := am hy253
         clear hy253
         simp only [Option.some.injEq, Prod.mk.injEq] at H
         obtain ⟨rfl, rfl⟩ := H
         obtain ⟨Ao35, co35, eo35⟩ := Kd.R_slice HO_3.out
         subst eo35
         go_wp2_with (first | ((with_reducible refine gate_callee (f := 84) rfl ?_); refine goesLq (some 21) rfl rfl Try.func84 (by kernel_rfl) rfl #[.pointer (some ⟨g, 0, none⟩), .int .i64 20] rfl ?_; (with_reducible refine (spec_l1Next.calls g s0_0 x1001_1 20 t239 t240 w0 _ ?side1 ?side2 A14.out).mono ?_); (case side1 => repeat (first | (with_reducible first | exact HI0.out | apply IsS129.alloc | apply IsS129.drewN | apply IsS129.drew | apply IsS129.set_1) | exact HI0.out)); (case side2 => repeat (first | (with_reducible first | exact HB.out | apply below_alloc | apply pw_below_drewN | apply below_drew1 | refine below_set ?_ (IsS129.ge HI0.out)) | exact HB.out)); rintro e w36 ⟨rfl, hi, hb, hk⟩; refine ⟨_, rfl, ?_⟩; have n0_ := am (Kd.R_mono (Kd.R_keep (IsS129.apart (show IsS129 w0 _ g s0_0 x1001_1 from q_I129_0_1) (q_r (HO_3.out)) (by decide)) hk (fun _ h => h.2)) (fun _ h => h.1)); have n1_ := am (KeepBut.trans q_K hk (.inl rfl)); have n2_ := am (hb); have n3_ := am (hi); revert n0_ n1_ n2_ n3_; clear HO_3 HK HB HI0; intro HO_3 HK HB HI0; (try clear hb); (try clear hb2); (try clear hk); (try clear hi)) | ((with_reducible refine gate_dst (N := 42) rfl ?_); refine Kd.R_make k49 _ 49 rfl (N := 42) rfl 25 _ _ rfl 201 rfl rfl Try.underlying25 (.agg #[(.string ⟨#[]⟩), (.int .i64 0), (.string ⟨#[]⟩), (.bool false)]) 48 info49 rfl (by decide) (by omega) z49 (ok := fun _ => True) (okp := fun _ => True) (k49_mkM _ _ _ z49 ) (fun _ hk => hk) trivial (by omega) (by omega) (Below.refl _ _) (Nat.le_refl _) ?_; intro v254 w37 ho38 hb hg_ hnew_; clear hg_ hnew_; (first | rw [← Ny253.out] at ho38 | (simp only [Int.reduceToNat] at ho38; rw [← Ny253.out] at ho38)); have n0_ := am (Kd.R_elder' (q_r (HO_3.out)) (Kd.R_base ho38) hb); have n1_ := am (Kd.R_lower (Kd.R_new' ho38 (Kd.R_lt (q_r (HO_3.out)))) (keep_size (w := w) (g := g) (row := none) q_K)); have n2_ := am (IsS129.below q_I129_0_1 hb); have n3_ := am (KeepBut.trans q_K (KeepBut.of_below hb g none) (.inl rfl)); have n4_ := am (below_step q_B129_0 hb); revert n0_ n1_ n2_ n3_ n4_; clear HO_3 HI0 HK HB; intro HO_3 HO255 HI0 HK HB; clear hb ho38))
         go_ret
         exact ⟨_, q_e, q_r (Kd.R_mono HO255.out (fun _ hk => trivial)), q_I129_0_1, q_B129_0, q_K⟩
        ·rw [if_neg c34] at H
         exact absurd H (by simp)
       ·rw [if_neg c33] at H
        have c33b0 : (t239 == 2) = false := beq_eq_false_iff_ne.mpr c33
        have c33b1 : (t239 != 2) = true := bne_iff_ne.mpr c33
        simp only [Option.some.injEq, Prod.mk.injEq] at H
        obtain ⟨rfl, rfl⟩ := H
        obtain ⟨Ao39, co39, eo39⟩ := Kd.R_slice HO_3.out
        subst eo39
        go_wp2_with (first | ((with_reducible refine gate_callee (f := 84) rfl ?_); refine goesLq (some 21) rfl rfl Try.func84 (by kernel_rfl) rfl #[.pointer (some ⟨g, 0, none⟩), .int .i64 20] rfl ?_; (with_reducible refine (spec_l1Next.calls g s0_0 x1001_1 20 t239 t240 w0 _ ?side1 ?side2 A14.out).mono ?_); (case side1 => repeat (first | (with_reducible first | exact HI0.out | apply IsS129.alloc | apply IsS129.drewN | apply IsS129.drew | apply IsS129.set_1) | exact HI0.out)); (case side2 => repeat (first | (with_reducible first | exact HB.out | apply below_alloc | apply pw_below_drewN | apply below_drew1 | refine below_set ?_ (IsS129.ge HI0.out)) | exact HB.out)); rintro e w40 ⟨rfl, hi, hb, hk⟩; refine ⟨_, rfl, ?_⟩; have n0_ := am (Kd.R_mono (Kd.R_keep (IsS129.apart (show IsS129 w0 _ g s0_0 x1001_1 from q_I129_0_1) (q_r (HO_3.out)) (by decide)) hk (fun _ h => h.2)) (fun _ h => h.1)); have n1_ := am (KeepBut.trans q_K hk (.inl rfl)); have n2_ := am (hb); have n3_ := am (hi); revert n0_ n1_ n2_ n3_; clear HO_3 HK HB HI0; intro HO_3 HK HB HI0; (try clear hb); (try clear hb2); (try clear hk); (try clear hi)))
        go_ret
        exact ⟨_, q_e, q_r (HO_3.out), q_I129_0_1, q_B129_0, q_K⟩

end Go.Proofs.Ytdhlcnlcpjlliaa.PFnTables
