/- The functions that a law reaches, each as a plain Lean function with the proof that the machine comes to its answer: written by program (the kit's print, turned by wip/gen). No conditions. -/
import Derived.Test.YtdhlcnlcpjlliaaPFnScansx0
import Derived.Test.YtdhlcnlcpjlliaaPFnScansx5
import Derived.Test.YtdhlcnlcpjlliaaPFnScansx6
import Derived.Test.YtdhlcnlcpjlliaaPFnScansx7
namespace Go.Proofs.Ytdhlcnlcpjlliaa.PFnScans
open Go.RowKit Go.Proofs.YtdhlcnlcpjlliaaW.PrintWords Go.Proofs.YtdhlcnlcpjlliaaW.PrintLast Go.Proofs.YtdhlcnlcpjlliaaW.PrintMore
attribute [local go_sem] max2_int min2_int max_two min_two max_three min_three max_four min_four   -- for this text's walks alone
set_option linter.unusedVariables false
set_option linter.unusedSimpArgs false

/-! ### spec_l5Key: function 131 -/
def spec_l5Key.f (s0_0 : List Int) (s0_1 : Int) : Option (ByteArray × Int) := (some (([(⟨#[97]⟩ : ByteArray), (⟨#[98]⟩ : ByteArray), (⟨#[97, 98]⟩ : ByteArray), (⟨#[107, 49]⟩ : ByteArray), (⟨#[107, 50]⟩ : ByteArray)] : List ByteArray) : List ByteArray)).bind fun y250 => ((spec_l1Next.f s0_0 s0_1 5).bind fun bt253 => (if 0 ≤ bt253.1 then (if bt253.1 < (y250.length : Int) then (some (rdOf ByteArray.empty y250 bt253.1, bt253.2)) else (none)) else (none)))
set_option maxHeartbeats 8000000 in
set_option maxRecDepth 100000 in
theorem spec_l5Key.calls (g : Nat) (s0_0 : List Int) (s0_1 : Int) (r1 : ByteArray) (r2 : Int) (w0 w : World) (hI : IsS129 w0 w g s0_0 s0_1) (hB : Below w0.heap.size w0 w) (h : spec_l5Key.f s0_0 s0_1 = some (r1, r2)) :
  Calls Try.prog 131 #[.pointer (some ⟨g, 0, none⟩)] w fun e w' => e = .returned (.string r1) ∧ IsS129 w0 w' g s0_0 r2 ∧ Below w0.heap.size w0 w' ∧ KeepBut w w' g none := by
 have HI0 := Aside0.mk hI
 have HK := Aside0.mk (KeepBut.refl w g none)
 have HL := Aside0.mk hB.size
 clear hI
 have HW0 := Aside0.mk hB.size
 have HB := Aside0.mk hB
 clear hB
 have H : ((some (([(⟨#[97]⟩ : ByteArray), (⟨#[98]⟩ : ByteArray), (⟨#[97, 98]⟩ : ByteArray), (⟨#[107, 49]⟩ : ByteArray), (⟨#[107, 50]⟩ : ByteArray)] : List ByteArray) : List ByteArray)).bind fun y250 => ((spec_l1Next.f s0_0 s0_1 5).bind fun bt253 => (if 0 ≤ bt253.1 then (if bt253.1 < (y250.length : Int) then (some (rdOf ByteArray.empty y250 bt253.1, bt253.2)) else (none)) else (none)))) = some (r1, r2) := h
 clear h
 obtain ⟨y250, hy250⟩ : ∃ y_ : List ByteArray, y_ = (([(⟨#[97]⟩ : ByteArray), (⟨#[98]⟩ : ByteArray), (⟨#[97, 98]⟩ : ByteArray), (⟨#[107, 49]⟩ : ByteArray), (⟨#[107, 50]⟩ : ByteArray)] : List ByteArray)) := ⟨_, rfl⟩
 replace H : ((spec_l1Next.f s0_0 s0_1 5).bind fun bt253 => (if 0 ≤ bt253.1 then (if bt253.1 < (y250.length : Int) then (some (rdOf ByteArray.empty y250 bt253.1, bt253.2)) else (none)) else (none))) = some (r1, r2) := q_h hy250 H
 have Ny250 := Aside0.mk hy250
 clear hy250
 replace H := Option.bind_eq_some_iff.mp H
 obtain ⟨⟨t253, t254⟩, A20, H⟩ := H
 replace H : (if 0 ≤ t253 then (if t253 < (y250.length : Int) then (some (rdOf ByteArray.empty y250 t253, t254)) else (none)) else (none)) = some (r1, r2) := H
 have A2 := Aside0.mk A20
 clear A20
 by_cases c3 : 0 ≤ t253
 ·rw [if_pos c3] at H
  have c3b0 := decide_eq_true c3
  clear c3
  by_cases c4 : t253 < (y250.length : Int)
  ·rw [if_pos c4] at H
   have c4b0 := decide_eq_true c4
   clear c4
   simp only [Option.some.injEq, Prod.mk.injEq] at H
   obtain ⟨rfl, rfl⟩ := H
   go_enter Try.func131, Try.ntmps131
   go_wp2_with (first | ((with_reducible refine gate_dst (N := 3) rfl ?_); refine Kd.R_lit Kd.string _ 9 ?hg (N := 3) ?hd (xs := ([(⟨#[97]⟩ : ByteArray), (⟨#[98]⟩ : ByteArray), (⟨#[97, 98]⟩ : ByteArray), (⟨#[107, 49]⟩ : ByteArray), (⟨#[107, 50]⟩ : ByteArray)] : List ByteArray)) (inner := [.string (⟨#[97]⟩ : ByteArray), .string (⟨#[98]⟩ : ByteArray), .string (⟨#[97, 98]⟩ : ByteArray), .string (⟨#[107, 49]⟩ : ByteArray), .string (⟨#[107, 50]⟩ : ByteArray)]) (ok := fun _ => True) (okp := fun _ => True) ?hr ?hp (fun _ hk => hk) trivial (Below.refl _ _) (Nat.le_refl _) (by simp) ?_; (case hd => rfl); (case hg => rfl); (case hr => first | (go_simp; done) | (go_simp; rfl)); (case hp => exact (Reps.one (show Kd.M Kd.string _ _ _ (⟨#[97]⟩ : ByteArray) [.string (⟨#[97]⟩ : ByteArray)] from rfl) (Reps.one (show Kd.M Kd.string _ _ _ (⟨#[98]⟩ : ByteArray) [.string (⟨#[98]⟩ : ByteArray)] from rfl) (Reps.one (show Kd.M Kd.string _ _ _ (⟨#[97, 98]⟩ : ByteArray) [.string (⟨#[97, 98]⟩ : ByteArray)] from rfl) (Reps.one (show Kd.M Kd.string _ _ _ (⟨#[107, 49]⟩ : ByteArray) [.string (⟨#[107, 49]⟩ : ByteArray)] from rfl) (Reps.one (show Kd.M Kd.string _ _ _ (⟨#[107, 50]⟩ : ByteArray) [.string (⟨#[107, 50]⟩ : ByteArray)] from rfl) (Reps.none _ _))))))); intro v251 w5 ho6 hb hg_ hnew_; clear hg_ hnew_; (first | rw [← Ny250.out] at ho6 | (simp only [Int.reduceToNat] at ho6; rw [← Ny250.out] at ho6)); have n0_ := Aside0.mk (Kd.R_lower ho6 (keep_size (w := w) (g := g) (row := none) q_K)); have n1_ := Aside0.mk (IsS129.below q_I129_0_1 hb); have n2_ := Aside0.mk (KeepBut.trans q_K (KeepBut.of_below hb g none) (.inl rfl)); have n3_ := Aside0.mk (below_step q_B129_0 hb); revert n0_ n1_ n2_ n3_; clear HI0 HK HB; intro HO252 HI0 HK HB; clear hb ho6) | ((with_reducible refine gate_callee (f := 84) rfl ?_); refine goesLq (some 5) rfl rfl Try.func84 (by kernel_rfl) rfl #[.pointer (some ⟨g, 0, none⟩), .int .i64 5] rfl ?_; (with_reducible refine (spec_l1Next.calls g s0_0 s0_1 5 t253 t254 w0 _ ?side1 ?side2 A2.out).mono ?_); (case side1 => repeat (first | (with_reducible first | exact HI0.out | apply IsS129.alloc | apply IsS129.drewN | apply IsS129.drew | apply IsS129.set_1) | exact HI0.out)); (case side2 => repeat (first | (with_reducible first | exact HB.out | apply below_alloc | apply pw_below_drewN | apply below_drew1 | refine below_set ?_ (IsS129.ge HI0.out)) | exact HB.out)); rintro e w7 ⟨rfl, hi, hb, hk⟩; refine ⟨_, rfl, ?_⟩; have n0_ := Aside0.mk (Kd.R_mono (Kd.R_keep (IsS129.apart (show IsS129 w0 _ g s0_0 s0_1 from q_I129_0_1) (q_r (HO252.out)) (by decide)) hk (fun _ h => h.2)) (fun _ h => h.1)); have n1_ := Aside0.mk (KeepBut.trans q_K hk (.inl rfl)); have n2_ := Aside0.mk (hb); have n3_ := Aside0.mk (hi); revert n0_ n1_ n2_ n3_; clear HO252 HK HB HI0; intro HO252 HK HB HI0; (try clear hb); (try clear hb2); (try clear hk); (try clear hi); obtain ⟨Ao8, co8, eo8⟩ := Kd.R_slice HO252.out; subst eo8; have p255 : 0 ≤ (t253 : Int) := q_d; have q255 : t253 < (y250.length : Int) := q_d; obtain ⟨ad255, e255, hx255_0⟩ := Kd.at_string (Kd.R_reads' HO252.out).2.2 t253 p255 q255; cases e255; replace p255 := eq_true p255; replace q255 := eq_true q255))
   go_ret
   exact ⟨q_e, q_I129_0_1, q_B129_0, q_K⟩
  ·rw [if_neg c4] at H
   exact absurd H (by simp)
 ·rw [if_neg c3] at H
  exact absurd H (by simp)

/-! ### spec_l1Chance: function 132 -/
def spec_l1Chance.f (s0_0 : List Int) (s0_1 : Int) (a1 : Int) : Option (Bool × Int) := (spec_l1Next.f s0_0 s0_1 a1).bind fun bt256 => (some ((bt256.1 == 0), bt256.2))
set_option maxHeartbeats 8000000 in
set_option maxRecDepth 100000 in
theorem spec_l1Chance.calls (g : Nat) (s0_0 : List Int) (s0_1 : Int) (a1 : Int) (r1 : Bool) (r2 : Int) (w0 w : World) (hI : IsS129 w0 w g s0_0 s0_1) (hB : Below w0.heap.size w0 w) (h : spec_l1Chance.f s0_0 s0_1 a1 = some (r1, r2)) :
  Calls Try.prog 132 #[.pointer (some ⟨g, 0, none⟩), .int .i64 a1] w fun e w' => e = .returned (.bool r1) ∧ IsS129 w0 w' g s0_0 r2 ∧ Below w0.heap.size w0 w' ∧ KeepBut w w' g none := by
 have HI0 := Aside0.mk hI
 have HK := Aside0.mk (KeepBut.refl w g none)
 have HL := Aside0.mk hB.size
 clear hI
 have HW0 := Aside0.mk hB.size
 have HB := Aside0.mk hB
 clear hB
 have H : ((spec_l1Next.f s0_0 s0_1 a1).bind fun bt256 => (some ((bt256.1 == 0), bt256.2))) = some (r1, r2) := h
 clear h
 replace H := Option.bind_eq_some_iff.mp H
 obtain ⟨⟨t256, t257⟩, A30, H⟩ := H
 replace H : (some ((t256 == 0), t257)) = some (r1, r2) := H
 have A3 := Aside0.mk A30
 clear A30
 simp only [Option.some.injEq, Prod.mk.injEq] at H
 obtain ⟨rfl, rfl⟩ := H
 go_enter Try.func132, Try.ntmps132
 go_wp2_with (first | ((with_reducible refine gate_callee (f := 84) rfl ?_); refine goesLq (some 7) rfl rfl Try.func84 (by kernel_rfl) rfl #[.pointer (some ⟨g, 0, none⟩), .int .i64 a1] rfl ?_; (with_reducible refine (spec_l1Next.calls g s0_0 s0_1 a1 t256 t257 w0 _ ?side1 ?side2 A3.out).mono ?_); (case side1 => repeat (first | (with_reducible first | exact HI0.out | apply IsS129.alloc | apply IsS129.drewN | apply IsS129.drew | apply IsS129.set_1) | exact HI0.out)); (case side2 => repeat (first | (with_reducible first | exact HB.out | apply below_alloc | apply pw_below_drewN | apply below_drew1 | refine below_set ?_ (IsS129.ge HI0.out)) | exact HB.out)); rintro e w4 ⟨rfl, hi, hb, hk⟩; refine ⟨_, rfl, ?_⟩; have n0_ := Aside0.mk (KeepBut.trans q_K hk (.inl rfl)); have n1_ := Aside0.mk (hb); have n2_ := Aside0.mk (hi); revert n0_ n1_ n2_; clear HK HB HI0; intro HK HB HI0; (try clear hb); (try clear hb2); (try clear hk); (try clear hi)))
 go_ret
 exact ⟨q_e, q_I129_0_1, q_B129_0, q_K⟩

/-! ### spec_l5Row: function 116 -/
def spec_l5Row.f (s0_0 : List Int) (s0_1 : Int) : Option (ByteArray × Int × ByteArray × Bool × Int) := (spec_l5Key.f s0_0 s0_1).bind fun bt259 => ((spec_l1Next.f s0_0 bt259.2 9).bind fun bt261 => ((some (([(⟨#[120]⟩ : ByteArray), (⟨#[121]⟩ : ByteArray), (⟨#[]⟩ : ByteArray), (⟨#[122, 122]⟩ : ByteArray)] : List ByteArray) : List ByteArray)).bind fun y263 => ((spec_l1Next.f s0_0 bt261.2 4).bind fun bt266 => (if 0 ≤ bt266.1 then (if bt266.1 < (y263.length : Int) then ((spec_l1Chance.f s0_0 bt266.2 4).bind fun bt270 => (if bt270.1 = true then (some (bt259.1, wrap64 (1 + bt261.1), (⟨#[]⟩ : ByteArray), true, bt270.2)) else (some (bt259.1, wrap64 (1 + bt261.1), rdOf ByteArray.empty y263 bt266.1, false, bt270.2)))) else (none)) else (none)))))
set_option maxHeartbeats 8000000 in
set_option maxRecDepth 100000 in
theorem spec_l5Row.calls (g : Nat) (s0_0 : List Int) (s0_1 : Int) (r1 : ByteArray) (r2 : Int) (r3 : ByteArray) (r4 : Bool) (r5 : Int) (w0 w : World) (hI : IsS129 w0 w g s0_0 s0_1) (hB : Below w0.heap.size w0 w) (h : spec_l5Row.f s0_0 s0_1 = some (r1, r2, r3, r4, r5)) :
  Calls Try.prog 116 #[.pointer (some ⟨g, 0, none⟩)] w fun e w' => e = .returned (.agg #[.string r1, .int .i64 r2, .string r3, .bool r4]) ∧ IsS129 w0 w' g s0_0 r5 ∧ Below w0.heap.size w0 w' ∧ KeepBut w w' g none := by
 have hu49 := Try.underlying49
 have HI0 := Aside0.mk hI
 have HK := Aside0.mk (KeepBut.refl w g none)
 have HL := Aside0.mk hB.size
 clear hI
 have HW0 := Aside0.mk hB.size
 have HB := Aside0.mk hB
 clear hB
 have H : ((spec_l5Key.f s0_0 s0_1).bind fun bt259 => ((spec_l1Next.f s0_0 bt259.2 9).bind fun bt261 => ((some (([(⟨#[120]⟩ : ByteArray), (⟨#[121]⟩ : ByteArray), (⟨#[]⟩ : ByteArray), (⟨#[122, 122]⟩ : ByteArray)] : List ByteArray) : List ByteArray)).bind fun y263 => ((spec_l1Next.f s0_0 bt261.2 4).bind fun bt266 => (if 0 ≤ bt266.1 then (if bt266.1 < (y263.length : Int) then ((spec_l1Chance.f s0_0 bt266.2 4).bind fun bt270 => (if bt270.1 = true then (some (bt259.1, wrap64 (1 + bt261.1), (⟨#[]⟩ : ByteArray), true, bt270.2)) else (some (bt259.1, wrap64 (1 + bt261.1), rdOf ByteArray.empty y263 bt266.1, false, bt270.2)))) else (none)) else (none)))))) = some (r1, r2, r3, r4, r5) := h
 clear h
 replace H := Option.bind_eq_some_iff.mp H
 obtain ⟨⟨t259, t260⟩, A20, H⟩ := H
 replace H : ((spec_l1Next.f s0_0 t260 9).bind fun bt261 => ((some (([(⟨#[120]⟩ : ByteArray), (⟨#[121]⟩ : ByteArray), (⟨#[]⟩ : ByteArray), (⟨#[122, 122]⟩ : ByteArray)] : List ByteArray) : List ByteArray)).bind fun y263 => ((spec_l1Next.f s0_0 bt261.2 4).bind fun bt266 => (if 0 ≤ bt266.1 then (if bt266.1 < (y263.length : Int) then ((spec_l1Chance.f s0_0 bt266.2 4).bind fun bt270 => (if bt270.1 = true then (some (t259, wrap64 (1 + bt261.1), (⟨#[]⟩ : ByteArray), true, bt270.2)) else (some (t259, wrap64 (1 + bt261.1), rdOf ByteArray.empty y263 bt266.1, false, bt270.2)))) else (none)) else (none))))) = some (r1, r2, r3, r4, r5) := H
 have A2 := Aside0.mk A20
 clear A20
 replace H := Option.bind_eq_some_iff.mp H
 obtain ⟨⟨t261, t262⟩, A30, H⟩ := H
 replace H : ((some (([(⟨#[120]⟩ : ByteArray), (⟨#[121]⟩ : ByteArray), (⟨#[]⟩ : ByteArray), (⟨#[122, 122]⟩ : ByteArray)] : List ByteArray) : List ByteArray)).bind fun y263 => ((spec_l1Next.f s0_0 t262 4).bind fun bt266 => (if 0 ≤ bt266.1 then (if bt266.1 < (y263.length : Int) then ((spec_l1Chance.f s0_0 bt266.2 4).bind fun bt270 => (if bt270.1 = true then (some (t259, wrap64 (1 + t261), (⟨#[]⟩ : ByteArray), true, bt270.2)) else (some (t259, wrap64 (1 + t261), rdOf ByteArray.empty y263 bt266.1, false, bt270.2)))) else (none)) else (none)))) = some (r1, r2, r3, r4, r5) := H
 have A3 := Aside0.mk A30
 clear A30
 obtain ⟨y263, hy263⟩ : ∃ y_ : List ByteArray, y_ = (([(⟨#[120]⟩ : ByteArray), (⟨#[121]⟩ : ByteArray), (⟨#[]⟩ : ByteArray), (⟨#[122, 122]⟩ : ByteArray)] : List ByteArray)) := ⟨_, rfl⟩
 replace H : ((spec_l1Next.f s0_0 t262 4).bind fun bt266 => (if 0 ≤ bt266.1 then (if bt266.1 < (y263.length : Int) then ((spec_l1Chance.f s0_0 bt266.2 4).bind fun bt270 => (if bt270.1 = true then (some (t259, wrap64 (1 + t261), (⟨#[]⟩ : ByteArray), true, bt270.2)) else (some (t259, wrap64 (1 + t261), rdOf ByteArray.empty y263 bt266.1, false, bt270.2)))) else (none)) else (none))) = some (r1, r2, r3, r4, r5) := q_h hy263 H
 have Ny263 := Aside0.mk hy263
 clear hy263
 replace H := Option.bind_eq_some_iff.mp H
 obtain ⟨⟨t266, t267⟩, A40, H⟩ := H
 replace H : (if 0 ≤ t266 then (if t266 < (y263.length : Int) then ((spec_l1Chance.f s0_0 t267 4).bind fun bt270 => (if bt270.1 = true then (some (t259, wrap64 (1 + t261), (⟨#[]⟩ : ByteArray), true, bt270.2)) else (some (t259, wrap64 (1 + t261), rdOf ByteArray.empty y263 t266, false, bt270.2)))) else (none)) else (none)) = some (r1, r2, r3, r4, r5) := H
 have A4 := Aside0.mk A40
 clear A40
 by_cases c5 : 0 ≤ t266
 ·rw [if_pos c5] at H
  have c5b0 := decide_eq_true c5
  clear c5
  by_cases c6 : t266 < (y263.length : Int)
  ·rw [if_pos c6] at H
   have c6b0 := decide_eq_true c6
   clear c6
   replace H := Option.bind_eq_some_iff.mp H
   obtain ⟨⟨t270, t271⟩, A70, H⟩ := H
   replace H : (if t270 = true then (some (t259, wrap64 (1 + t261), (⟨#[]⟩ : ByteArray), true, t271)) else (some (t259, wrap64 (1 + t261), rdOf ByteArray.empty y263 t266, false, t271))) = some (r1, r2, r3, r4, r5) := H
   have A7 := Aside0.mk A70
   clear A70
   by_cases c8 : t270 = true
   ·subst c8
    have H1 : (some (t259, wrap64 (1 + t261), (⟨#[]⟩ : ByteArray), true, t271)) = some (r1, r2, r3, r4, r5) := by rw [if_pos rfl] at H; exact H
    clear H
    have H := H1
    clear H1
    simp only [Option.some.injEq, Prod.mk.injEq] at H
    obtain ⟨rfl, rfl, rfl, rfl, rfl⟩ := H
    go_enter Try.func116, Try.ntmps116
    go_wp2_with (first | ((with_reducible refine gate_dst (N := 2) rfl ?_); refine q_box (N := 2) (cs := #[.string (⟨#[]⟩ : ByteArray), .int .i64 0, .string (⟨#[]⟩ : ByteArray), .bool false]) (t := 49) ?_; intro gb258 hg w9 hbox hb; have n0_ := Aside0.mk (IsS129.below q_I129_0_1 hb); have n1_ := Aside0.mk (KeepBut.trans q_K (KeepBut.of_below hb g none) (.inl rfl)); have n2_ := Aside0.mk (below_step q_B129_0 hb); have n3_ := Aside0.mk (hbox); have n4_ := Aside0.mk ((by rw [hg]; exact (keep_size (w := w) (g := g) (row := none) q_K) : w.heap.size ≤ gb258)); have n5_ := Aside0.mk ((Nat.le_trans HW0.out (by rw [hg]; exact (keep_size (w := w) (g := g) (row := none) q_K) : w.heap.size ≤ gb258) : w0.heap.size ≤ gb258)); have n6_ := Aside0.mk ((by rw [hg]; exact Nat.ne_of_lt (IsS129.lt (show IsS129 w0 _ g s0_0 s0_1 from q_I129_0_1)) : g ≠ gb258)); have n7_ := Aside0.mk ((by rw [hg]; exact Nat.ne_of_gt (IsS129.lt (show IsS129 w0 _ g s0_0 s0_1 from q_I129_0_1)) : gb258 ≠ g)); revert n0_ n1_ n2_ n3_ n4_ n5_ n6_ n7_; clear HI0 HK HB; intro HI0 HK HB BK258 GW258 GE258 NB0_258 NB258_0; clear hb hbox hg) | ((with_reducible refine gate_callee (f := 131) rfl ?_); refine goesLq (some 5) rfl rfl Try.func131 (by kernel_rfl) rfl #[.pointer (some ⟨g, 0, none⟩)] rfl ?_; (with_reducible refine (spec_l5Key.calls g s0_0 s0_1 t259 t260 w0 _ ?side1 ?side2 A2.out).mono ?_); (case side1 => repeat (first | (with_reducible first | exact HI0.out | apply IsS129.alloc | apply IsS129.drewN | apply IsS129.drew | apply IsS129.set_1 | refine IsS129.far ?_ NB0_258.out _) | exact HI0.out)); (case side2 => repeat (first | (with_reducible first | exact HB.out | apply below_alloc | apply pw_below_drewN | apply below_drew1 | refine below_set ?_ (IsS129.ge HI0.out) | refine below_set ?_ GE258.out) | exact HB.out)); rintro e w10 ⟨rfl, hi, hb, hk⟩; refine ⟨_, rfl, ?_⟩; have n0_ := Aside0.mk (KeepBut.blk hk (g' := gb258) (o := .cells #[.string (⟨#[]⟩ : ByteArray), .int .i64 0, .string (⟨#[]⟩ : ByteArray), .bool false] 49 (0, 0)) kq NB258_0.out (by simp)); have n1_ := Aside0.mk (KeepBut.trans q_K hk (.inl rfl)); have n2_ := Aside0.mk (hb); have n3_ := Aside0.mk (hi); revert n0_ n1_ n2_ n3_; clear BK258 HK HB HI0; intro BK258 HK HB HI0; (try clear hb); (try clear hb2); (try clear hk); (try clear hi)) | ((with_reducible refine gate_callee (f := 84) rfl ?_); refine goesLq (some 7) rfl rfl Try.func84 (by kernel_rfl) rfl #[.pointer (some ⟨g, 0, none⟩), .int .i64 9] rfl ?_; (with_reducible refine (spec_l1Next.calls g s0_0 t260 9 t261 t262 w0 _ ?side1 ?side2 A3.out).mono ?_); (case side1 => repeat (first | (with_reducible first | exact HI0.out | apply IsS129.alloc | apply IsS129.drewN | apply IsS129.drew | apply IsS129.set_1 | refine IsS129.far ?_ NB0_258.out _) | exact HI0.out)); (case side2 => repeat (first | (with_reducible first | exact HB.out | apply below_alloc | apply pw_below_drewN | apply below_drew1 | refine below_set ?_ (IsS129.ge HI0.out) | refine below_set ?_ GE258.out) | exact HB.out)); rintro e w11 ⟨rfl, hi, hb, hk⟩; refine ⟨_, rfl, ?_⟩; have n0_ := Aside0.mk (KeepBut.blk hk (g' := gb258) (o := .cells #[.string (⟨#[]⟩ : ByteArray), .int .i64 0, .string (⟨#[]⟩ : ByteArray), .bool false] 49 (0, 0)) kq NB258_0.out (by simp)); have n1_ := Aside0.mk (KeepBut.trans q_K hk (.inl rfl)); have n2_ := Aside0.mk (hb); have n3_ := Aside0.mk (hi); revert n0_ n1_ n2_ n3_; clear BK258 HK HB HI0; intro BK258 HK HB HI0; (try clear hb); (try clear hb2); (try clear hk); (try clear hi)) | ((with_reducible refine gate_dst (N := 9) rfl ?_); refine Kd.R_lit Kd.string _ 9 ?hg (N := 9) ?hd (xs := ([(⟨#[120]⟩ : ByteArray), (⟨#[121]⟩ : ByteArray), (⟨#[]⟩ : ByteArray), (⟨#[122, 122]⟩ : ByteArray)] : List ByteArray)) (inner := [.string (⟨#[120]⟩ : ByteArray), .string (⟨#[121]⟩ : ByteArray), .string (⟨#[]⟩ : ByteArray), .string (⟨#[122, 122]⟩ : ByteArray)]) (ok := fun _ => True) (okp := fun _ => True) ?hr ?hp (fun _ hk => hk) trivial (Below.refl _ _) (Nat.le_refl _) (by simp) ?_; (case hd => rfl); (case hg => rfl); (case hr => first | (go_simp; done) | (go_simp; rfl)); (case hp => exact (Reps.one (show Kd.M Kd.string _ _ _ (⟨#[120]⟩ : ByteArray) [.string (⟨#[120]⟩ : ByteArray)] from rfl) (Reps.one (show Kd.M Kd.string _ _ _ (⟨#[121]⟩ : ByteArray) [.string (⟨#[121]⟩ : ByteArray)] from rfl) (Reps.one (show Kd.M Kd.string _ _ _ (⟨#[]⟩ : ByteArray) [.string (⟨#[]⟩ : ByteArray)] from rfl) (Reps.one (show Kd.M Kd.string _ _ _ (⟨#[122, 122]⟩ : ByteArray) [.string (⟨#[122, 122]⟩ : ByteArray)] from rfl) (Reps.none _ _)))))); intro v264 w12 ho13 hb hg_ hnew_; clear hg_ hnew_; (first | rw [← Ny263.out] at ho13 | (simp only [Int.reduceToNat] at ho13; rw [← Ny263.out] at ho13)); have n0_ := Aside0.mk (Kd.R_lower ho13 (keep_size (w := w) (g := g) (row := none) q_K)); have n1_ := Aside0.mk (IsS129.below q_I129_0_1 hb); have n2_ := Aside0.mk (blk_below (q_b BK258.out) hb); have n3_ := Aside0.mk (KeepBut.trans q_K (KeepBut.of_below hb g none) (.inl rfl)); have n4_ := Aside0.mk (below_step q_B129_0 hb); revert n0_ n1_ n2_ n3_ n4_; clear HI0 BK258 HK HB; intro HO265 HI0 BK258 HK HB; clear hb ho13) | ((with_reducible refine gate_callee (f := 84) rfl ?_); refine goesLq (some 11) rfl rfl Try.func84 (by kernel_rfl) rfl #[.pointer (some ⟨g, 0, none⟩), .int .i64 4] rfl ?_; (with_reducible refine (spec_l1Next.calls g s0_0 t262 4 t266 t267 w0 _ ?side1 ?side2 A4.out).mono ?_); (case side1 => repeat (first | (with_reducible first | exact HI0.out | apply IsS129.alloc | apply IsS129.drewN | apply IsS129.drew | apply IsS129.set_1 | refine IsS129.far ?_ NB0_258.out _) | exact HI0.out)); (case side2 => repeat (first | (with_reducible first | exact HB.out | apply below_alloc | apply pw_below_drewN | apply below_drew1 | refine below_set ?_ (IsS129.ge HI0.out) | refine below_set ?_ GE258.out) | exact HB.out)); rintro e w14 ⟨rfl, hi, hb, hk⟩; refine ⟨_, rfl, ?_⟩; have n0_ := Aside0.mk (KeepBut.blk hk (g' := gb258) (o := .cells #[.string (⟨#[]⟩ : ByteArray), .int .i64 0, .string (⟨#[]⟩ : ByteArray), .bool false] 49 (0, 0)) kq NB258_0.out (by simp)); have n1_ := Aside0.mk (Kd.R_mono (Kd.R_keep (IsS129.apart (show IsS129 w0 _ g s0_0 t262 from q_I129_0_1) (q_r (HO265.out)) (by decide)) hk (fun _ h => h.2)) (fun _ h => h.1)); have n2_ := Aside0.mk (KeepBut.trans q_K hk (.inl rfl)); have n3_ := Aside0.mk (hb); have n4_ := Aside0.mk (hi); revert n0_ n1_ n2_ n3_ n4_; clear BK258 HO265 HK HB HI0; intro BK258 HO265 HK HB HI0; (try clear hb); (try clear hb2); (try clear hk); (try clear hi); obtain ⟨Ao15, co15, eo15⟩ := Kd.R_slice HO265.out; subst eo15; have p268 : 0 ≤ (t266 : Int) := q_d; have q268 : t266 < (y263.length : Int) := q_d; obtain ⟨ad268, e268, hx268_0⟩ := Kd.at_string (Kd.R_reads' HO265.out).2.2 t266 p268 q268; cases e268; replace p268 := eq_true p268; replace q268 := eq_true q268) | ((with_reducible refine gate_dst (N := 3) rfl ?_); refine q_box (N := 3) (cs := #[.string (⟨#[]⟩ : ByteArray), .int .i64 0, .string (⟨#[]⟩ : ByteArray), .bool false]) (t := 49) ?_; intro gb269 hg w16 hbox hb; have n0_ := Aside0.mk (Kd.R_below (q_r (HO265.out)) hb); have n1_ := Aside0.mk (IsS129.below q_I129_0_1 hb); have n2_ := Aside0.mk (blk_below (q_b BK258.out) hb); have n3_ := Aside0.mk (KeepBut.trans q_K (KeepBut.of_below hb g none) (.inl rfl)); have n4_ := Aside0.mk (below_step q_B129_0 hb); have n5_ := Aside0.mk (hbox); have n6_ := Aside0.mk ((by rw [hg]; exact (keep_size (w := w) (g := g) (row := none) q_K) : w.heap.size ≤ gb269)); have n7_ := Aside0.mk ((Nat.le_trans HW0.out (by rw [hg]; exact (keep_size (w := w) (g := g) (row := none) q_K) : w.heap.size ≤ gb269) : w0.heap.size ≤ gb269)); have n8_ := Aside0.mk ((q_n hg (q_b BK258.out) : gb258 ≠ gb269)); have n9_ := Aside0.mk ((q_m hg (q_b BK258.out) : gb269 ≠ gb258)); have n10_ := Aside0.mk ((by rw [hg]; exact Nat.ne_of_lt (IsS129.lt (show IsS129 w0 _ g s0_0 t267 from q_I129_0_1)) : g ≠ gb269)); have n11_ := Aside0.mk ((by rw [hg]; exact Nat.ne_of_gt (IsS129.lt (show IsS129 w0 _ g s0_0 t267 from q_I129_0_1)) : gb269 ≠ g)); revert n0_ n1_ n2_ n3_ n4_ n5_ n6_ n7_ n8_ n9_ n10_ n11_; clear HO265 HI0 BK258 HK HB; intro HO265 HI0 BK258 HK HB BK269 GW269 GE269 NB258_269 NB269_258 NB0_269 NB269_0; clear hb hbox hg; have hnb17 := NB269_258.out; have hnc17 := NB258_269.out; have hnb18 := NB269_0.out; have hnc18 := NB0_269.out; obtain ⟨hcz19_0, hcz19_1, hcz19_2, hcz19_3, hfz19_0, hfz19_1, hfz19_2, hfz19_3⟩ := q_4 BK269.out) | ((with_reducible refine gate_callee (f := 132) rfl ?_); refine goesLq (some 16) rfl rfl Try.func132 (by kernel_rfl) rfl #[.pointer (some ⟨g, 0, none⟩), .int .i64 4] rfl ?_; (with_reducible refine (spec_l1Chance.calls g s0_0 t267 4 true t271 w0 _ ?side1 ?side2 A7.out).mono ?_); (case side1 => repeat (first | (with_reducible first | exact HI0.out | apply IsS129.alloc | apply IsS129.drewN | apply IsS129.drew | apply IsS129.set_1 | refine IsS129.far ?_ NB0_258.out _ | refine IsS129.far ?_ NB0_269.out _) | exact HI0.out)); (case side2 => repeat (first | (with_reducible first | exact HB.out | apply below_alloc | apply pw_below_drewN | apply below_drew1 | refine below_set ?_ (IsS129.ge HI0.out) | refine below_set ?_ GE258.out | refine below_set ?_ GE269.out) | exact HB.out)); rintro e w20 ⟨rfl, hi, hb, hk⟩; refine ⟨_, rfl, ?_⟩; have n0_ := Aside0.mk (KeepBut.blk hk (g' := gb258) (o := .cells #[.string (⟨#[]⟩ : ByteArray), .int .i64 0, .string (⟨#[]⟩ : ByteArray), .bool false] 49 (0, 0)) (by (with_reducible repeat (first | refine blk_drewN ?_ _ | refine blk_drew ?_ | refine blk_alloc ?_ _)); refine blk_far ?_ NB258_269.out _; (with_reducible repeat (first | refine blk_drewN ?_ _ | refine blk_drew ?_ | refine blk_alloc ?_ _)); refine blk_far ?_ NB258_269.out _; (with_reducible repeat (first | refine blk_drewN ?_ _ | refine blk_drew ?_ | refine blk_alloc ?_ _)); refine blk_far ?_ NB258_269.out _; (with_reducible repeat (first | refine blk_drewN ?_ _ | refine blk_drew ?_ | refine blk_alloc ?_ _)); refine blk_far ?_ NB258_269.out _; (with_reducible repeat (first | refine blk_drewN ?_ _ | refine blk_drew ?_ | refine blk_alloc ?_ _)); exact BK258.out) NB258_0.out (by simp)); have n1_ := Aside0.mk (Kd.R_mono (Kd.R_keep (IsS129.apart (show IsS129 w0 _ g s0_0 t267 from q_I129_0_1) (by (with_reducible repeat (first | apply Kd.R_alloc | apply Kd.R_drewN | apply Kd.R_drew)); exact (Kd.R_mono (Kd.R_far (p := ⟨gb269, 3, none⟩) (Kd.R_far (p := ⟨gb269, 2, none⟩) (Kd.R_far (p := ⟨gb269, 1, none⟩) (Kd.R_far (p := ⟨gb269, 0, none⟩) (Kd.R_types HO265.out BK269.out (by decide)) (fun _ hk => hk.2) (.string t259)) (fun _ hk => hk.2) (.int .i64 (wrap64 (1 + t261)))) (fun _ hk => hk.2) (.string (rdOf ByteArray.empty y263 t266))) (fun _ hk => hk.2) (.bool false)) (fun _ h_ => h_.1))) (by decide)) hk (fun _ h => h.2)) (fun _ h => h.1)); have n2_ := Aside0.mk (KeepBut.blk hk (g' := gb269) (o := .cells #[.string t259, .int .i64 (wrap64 (1 + t261)), .string (rdOf ByteArray.empty y263 t266), .bool false] 49 (0, 0)) (by (with_reducible repeat (first | refine blk_drewN ?_ _ | refine blk_drew ?_ | refine blk_alloc ?_ _)); refine blk_put (cs := #[.string t259, .int .i64 (wrap64 (1 + t261)), .string (rdOf ByteArray.empty y263 t266), .bool false]) ?_ 3 _ rfl; (with_reducible repeat (first | refine blk_drewN ?_ _ | refine blk_drew ?_ | refine blk_alloc ?_ _)); refine blk_put (cs := #[.string t259, .int .i64 (wrap64 (1 + t261)), .string (⟨#[]⟩ : ByteArray), .bool false]) ?_ 2 _ rfl; (with_reducible repeat (first | refine blk_drewN ?_ _ | refine blk_drew ?_ | refine blk_alloc ?_ _)); refine blk_put (cs := #[.string t259, .int .i64 0, .string (⟨#[]⟩ : ByteArray), .bool false]) ?_ 1 _ rfl; (with_reducible repeat (first | refine blk_drewN ?_ _ | refine blk_drew ?_ | refine blk_alloc ?_ _)); refine blk_put (cs := #[.string (⟨#[]⟩ : ByteArray), .int .i64 0, .string (⟨#[]⟩ : ByteArray), .bool false]) ?_ 0 _ rfl; (with_reducible repeat (first | refine blk_drewN ?_ _ | refine blk_drew ?_ | refine blk_alloc ?_ _)); exact BK269.out) NB269_0.out (by simp)); have n3_ := Aside0.mk (KeepBut.trans q_K hk (.inl rfl)); have n4_ := Aside0.mk (hb); have n5_ := Aside0.mk (hi); revert n0_ n1_ n2_ n3_ n4_ n5_; clear BK258 HO265 BK269 HK HB HI0; intro BK258 HO265 BK269 HK HB HI0; (try clear hb); (try clear hb2); (try clear hk); (try clear hi); obtain ⟨hcz21_0, hcz21_1, hcz21_2, hcz21_3, hfz21_0, hfz21_1, hfz21_2, hfz21_3⟩ := q_4 BK269.out; have hnb22 := NB258_0.out; have hnc22 := NB0_258.out; obtain ⟨hcz23_0, hcz23_1, hcz23_2, hcz23_3, hfz23_0, hfz23_1, hfz23_2, hfz23_3⟩ := q_4 BK258.out))
    refine bodyPost_ret (results_cell_row rfl _ _ gb258 49 #[.string t259, .int .i64 (wrap64 (1 + t261)), .string (⟨#[]⟩ : ByteArray), .bool true] (0, 0) _ rfl (by (with_reducible repeat (first | refine blk_drewN ?_ _ | refine blk_drew ?_ | refine blk_alloc ?_ _)); refine blk_put (cs := #[.string t259, .int .i64 (wrap64 (1 + t261)), .string (⟨#[]⟩ : ByteArray), .bool false]) ?_ 3 _ rfl; (with_reducible repeat (first | refine blk_drewN ?_ _ | refine blk_drew ?_ | refine blk_alloc ?_ _)); refine blk_put (cs := #[.string t259, .int .i64 (wrap64 (1 + t261)), .string (⟨#[]⟩ : ByteArray), .bool false]) ?_ 2 _ rfl; (with_reducible repeat (first | refine blk_drewN ?_ _ | refine blk_drew ?_ | refine blk_alloc ?_ _)); refine blk_put (cs := #[.string t259, .int .i64 0, .string (⟨#[]⟩ : ByteArray), .bool false]) ?_ 1 _ rfl; (with_reducible repeat (first | refine blk_drewN ?_ _ | refine blk_drew ?_ | refine blk_alloc ?_ _)); refine blk_put (cs := #[.string (⟨#[]⟩ : ByteArray), .int .i64 0, .string (⟨#[]⟩ : ByteArray), .bool false]) ?_ 0 _ rfl; (with_reducible repeat (first | refine blk_drewN ?_ _ | refine blk_drew ?_ | refine blk_alloc ?_ _)); refine blk_far ?_ NB258_269.out _; (with_reducible repeat (first | refine blk_drewN ?_ _ | refine blk_drew ?_ | refine blk_alloc ?_ _)); refine blk_far ?_ NB258_269.out _; (with_reducible repeat (first | refine blk_drewN ?_ _ | refine blk_drew ?_ | refine blk_alloc ?_ _)); exact BK258.out) Try.underlying49 rfl (by kernel_rfl)) rfl ?_
    exact ⟨q_e, q_I129_0_1, q_B129_0, q_K⟩
   ·replace c8 := Bool.eq_false_iff.mpr c8
    subst c8
    have H1 : (some (t259, wrap64 (1 + t261), rdOf ByteArray.empty y263 t266, false, t271)) = some (r1, r2, r3, r4, r5) := by rw [if_neg (show ¬ (false = true) by decide)] at H; exact H
    clear H
    have H := H1
    clear H1
    simp only [Option.some.injEq, Prod.mk.injEq] at H
    obtain ⟨rfl, rfl, rfl, rfl, rfl⟩ := H
    go_enter Try.func116, Try.ntmps116
    go_wp2_with (first | ((with_reducible refine gate_dst (N := 2) rfl ?_); refine q_box (N := 2) (cs := #[.string (⟨#[]⟩ : ByteArray), .int .i64 0, .string (⟨#[]⟩ : ByteArray), .bool false]) (t := 49) ?_; intro gb258 hg w24 hbox hb; have n0_ := Aside0.mk (IsS129.below q_I129_0_1 hb); have n1_ := Aside0.mk (KeepBut.trans q_K (KeepBut.of_below hb g none) (.inl rfl)); have n2_ := Aside0.mk (below_step q_B129_0 hb); have n3_ := Aside0.mk (hbox); have n4_ := Aside0.mk ((by rw [hg]; exact (keep_size (w := w) (g := g) (row := none) q_K) : w.heap.size ≤ gb258)); have n5_ := Aside0.mk ((Nat.le_trans HW0.out (by rw [hg]; exact (keep_size (w := w) (g := g) (row := none) q_K) : w.heap.size ≤ gb258) : w0.heap.size ≤ gb258)); have n6_ := Aside0.mk ((by rw [hg]; exact Nat.ne_of_lt (IsS129.lt (show IsS129 w0 _ g s0_0 s0_1 from q_I129_0_1)) : g ≠ gb258)); have n7_ := Aside0.mk ((by rw [hg]; exact Nat.ne_of_gt (IsS129.lt (show IsS129 w0 _ g s0_0 s0_1 from q_I129_0_1)) : gb258 ≠ g)); revert n0_ n1_ n2_ n3_ n4_ n5_ n6_ n7_; clear HI0 HK HB; intro HI0 HK HB BK258 GW258 GE258 NB0_258 NB258_0; clear hb hbox hg) | ((with_reducible refine gate_callee (f := 131) rfl ?_); refine goesLq (some 5) rfl rfl Try.func131 (by kernel_rfl) rfl #[.pointer (some ⟨g, 0, none⟩)] rfl ?_; (with_reducible refine (spec_l5Key.calls g s0_0 s0_1 t259 t260 w0 _ ?side1 ?side2 A2.out).mono ?_); (case side1 => repeat (first | (with_reducible first | exact HI0.out | apply IsS129.alloc | apply IsS129.drewN | apply IsS129.drew | apply IsS129.set_1 | refine IsS129.far ?_ NB0_258.out _) | exact HI0.out)); (case side2 => repeat (first | (with_reducible first | exact HB.out | apply below_alloc | apply pw_below_drewN | apply below_drew1 | refine below_set ?_ (IsS129.ge HI0.out) | refine below_set ?_ GE258.out) | exact HB.out)); rintro e w25 ⟨rfl, hi, hb, hk⟩; refine ⟨_, rfl, ?_⟩; have n0_ := Aside0.mk (KeepBut.blk hk (g' := gb258) (o := .cells #[.string (⟨#[]⟩ : ByteArray), .int .i64 0, .string (⟨#[]⟩ : ByteArray), .bool false] 49 (0, 0)) kq NB258_0.out (by simp)); have n1_ := Aside0.mk (KeepBut.trans q_K hk (.inl rfl)); have n2_ := Aside0.mk (hb); have n3_ := Aside0.mk (hi); revert n0_ n1_ n2_ n3_; clear BK258 HK HB HI0; intro BK258 HK HB HI0; (try clear hb); (try clear hb2); (try clear hk); (try clear hi)) | ((with_reducible refine gate_callee (f := 84) rfl ?_); refine goesLq (some 7) rfl rfl Try.func84 (by kernel_rfl) rfl #[.pointer (some ⟨g, 0, none⟩), .int .i64 9] rfl ?_; (with_reducible refine (spec_l1Next.calls g s0_0 t260 9 t261 t262 w0 _ ?side1 ?side2 A3.out).mono ?_); (case side1 => repeat (first | (with_reducible first | exact HI0.out | apply IsS129.alloc | apply IsS129.drewN | apply IsS129.drew | apply IsS129.set_1 | refine IsS129.far ?_ NB0_258.out _) | exact HI0.out)); (case side2 => repeat (first | (with_reducible first | exact HB.out | apply below_alloc | apply pw_below_drewN | apply below_drew1 | refine below_set ?_ (IsS129.ge HI0.out) | refine below_set ?_ GE258.out) | exact HB.out)); rintro e w26 ⟨rfl, hi, hb, hk⟩; refine ⟨_, rfl, ?_⟩; have n0_ := Aside0.mk (KeepBut.blk hk (g' := gb258) (o := .cells #[.string (⟨#[]⟩ : ByteArray), .int .i64 0, .string (⟨#[]⟩ : ByteArray), .bool false] 49 (0, 0)) kq NB258_0.out (by simp)); have n1_ := Aside0.mk (KeepBut.trans q_K hk (.inl rfl)); have n2_ := Aside0.mk (hb); have n3_ := Aside0.mk (hi); revert n0_ n1_ n2_ n3_; clear BK258 HK HB HI0; intro BK258 HK HB HI0; (try clear hb); (try clear hb2); (try clear hk); (try clear hi)) | ((with_reducible refine gate_dst (N := 9) rfl ?_); refine Kd.R_lit Kd.string _ 9 ?hg (N := 9) ?hd (xs := ([(⟨#[120]⟩ : ByteArray), (⟨#[121]⟩ : ByteArray), (⟨#[]⟩ : ByteArray), (⟨#[122, 122]⟩ : ByteArray)] : List ByteArray)) (inner := [.string (⟨#[120]⟩ : ByteArray), .string (⟨#[121]⟩ : ByteArray), .string (⟨#[]⟩ : ByteArray), .string (⟨#[122, 122]⟩ : ByteArray)]) (ok := fun _ => True) (okp := fun _ => True) ?hr ?hp (fun _ hk => hk) trivial (Below.refl _ _) (Nat.le_refl _) (by simp) ?_; (case hd => rfl); (case hg => rfl); (case hr => first | (go_simp; done) | (go_simp; rfl)); (case hp => exact (Reps.one (show Kd.M Kd.string _ _ _ (⟨#[120]⟩ : ByteArray) [.string (⟨#[120]⟩ : ByteArray)] from rfl) (Reps.one (show Kd.M Kd.string _ _ _ (⟨#[121]⟩ : ByteArray) [.string (⟨#[121]⟩ : ByteArray)] from rfl) (Reps.one (show Kd.M Kd.string _ _ _ (⟨#[]⟩ : ByteArray) [.string (⟨#[]⟩ : ByteArray)] from rfl) (Reps.one (show Kd.M Kd.string _ _ _ (⟨#[122, 122]⟩ : ByteArray) [.string (⟨#[122, 122]⟩ : ByteArray)] from rfl) (Reps.none _ _)))))); intro v264 w27 ho28 hb hg_ hnew_; clear hg_ hnew_; (first | rw [← Ny263.out] at ho28 | (simp only [Int.reduceToNat] at ho28; rw [← Ny263.out] at ho28)); have n0_ := Aside0.mk (Kd.R_lower ho28 (keep_size (w := w) (g := g) (row := none) q_K)); have n1_ := Aside0.mk (IsS129.below q_I129_0_1 hb); have n2_ := Aside0.mk (blk_below (q_b BK258.out) hb); have n3_ := Aside0.mk (KeepBut.trans q_K (KeepBut.of_below hb g none) (.inl rfl)); have n4_ := Aside0.mk (below_step q_B129_0 hb); revert n0_ n1_ n2_ n3_ n4_; clear HI0 BK258 HK HB; intro HO265 HI0 BK258 HK HB; clear hb ho28) | ((with_reducible refine gate_callee (f := 84) rfl ?_); refine goesLq (some 11) rfl rfl Try.func84 (by kernel_rfl) rfl #[.pointer (some ⟨g, 0, none⟩), .int .i64 4] rfl ?_; (with_reducible refine (spec_l1Next.calls g s0_0 t262 4 t266 t267 w0 _ ?side1 ?side2 A4.out).mono ?_); (case side1 => repeat (first | (with_reducible first | exact HI0.out | apply IsS129.alloc | apply IsS129.drewN | apply IsS129.drew | apply IsS129.set_1 | refine IsS129.far ?_ NB0_258.out _) | exact HI0.out)); (case side2 => repeat (first | (with_reducible first | exact HB.out | apply below_alloc | apply pw_below_drewN | apply below_drew1 | refine below_set ?_ (IsS129.ge HI0.out) | refine below_set ?_ GE258.out) | exact HB.out)); rintro e w29 ⟨rfl, hi, hb, hk⟩; refine ⟨_, rfl, ?_⟩; have n0_ := Aside0.mk (KeepBut.blk hk (g' := gb258) (o := .cells #[.string (⟨#[]⟩ : ByteArray), .int .i64 0, .string (⟨#[]⟩ : ByteArray), .bool false] 49 (0, 0)) kq NB258_0.out (by simp)); have n1_ := Aside0.mk (Kd.R_mono (Kd.R_keep (IsS129.apart (show IsS129 w0 _ g s0_0 t262 from q_I129_0_1) (q_r (HO265.out)) (by decide)) hk (fun _ h => h.2)) (fun _ h => h.1)); have n2_ := Aside0.mk (KeepBut.trans q_K hk (.inl rfl)); have n3_ := Aside0.mk (hb); have n4_ := Aside0.mk (hi); revert n0_ n1_ n2_ n3_ n4_; clear BK258 HO265 HK HB HI0; intro BK258 HO265 HK HB HI0; (try clear hb); (try clear hb2); (try clear hk); (try clear hi); obtain ⟨Ao30, co30, eo30⟩ := Kd.R_slice HO265.out; subst eo30; have p268 : 0 ≤ (t266 : Int) := q_d; have q268 : t266 < (y263.length : Int) := q_d; obtain ⟨ad268, e268, hx268_0⟩ := Kd.at_string (Kd.R_reads' HO265.out).2.2 t266 p268 q268; cases e268; replace p268 := eq_true p268; replace q268 := eq_true q268) | ((with_reducible refine gate_dst (N := 3) rfl ?_); refine q_box (N := 3) (cs := #[.string (⟨#[]⟩ : ByteArray), .int .i64 0, .string (⟨#[]⟩ : ByteArray), .bool false]) (t := 49) ?_; intro gb269 hg w31 hbox hb; have n0_ := Aside0.mk (Kd.R_below (q_r (HO265.out)) hb); have n1_ := Aside0.mk (IsS129.below q_I129_0_1 hb); have n2_ := Aside0.mk (blk_below (q_b BK258.out) hb); have n3_ := Aside0.mk (KeepBut.trans q_K (KeepBut.of_below hb g none) (.inl rfl)); have n4_ := Aside0.mk (below_step q_B129_0 hb); have n5_ := Aside0.mk (hbox); have n6_ := Aside0.mk ((by rw [hg]; exact (keep_size (w := w) (g := g) (row := none) q_K) : w.heap.size ≤ gb269)); have n7_ := Aside0.mk ((Nat.le_trans HW0.out (by rw [hg]; exact (keep_size (w := w) (g := g) (row := none) q_K) : w.heap.size ≤ gb269) : w0.heap.size ≤ gb269)); have n8_ := Aside0.mk ((q_n hg (q_b BK258.out) : gb258 ≠ gb269)); have n9_ := Aside0.mk ((q_m hg (q_b BK258.out) : gb269 ≠ gb258)); have n10_ := Aside0.mk ((by rw [hg]; exact Nat.ne_of_lt (IsS129.lt (show IsS129 w0 _ g s0_0 t267 from q_I129_0_1)) : g ≠ gb269)); have n11_ := Aside0.mk ((by rw [hg]; exact Nat.ne_of_gt (IsS129.lt (show IsS129 w0 _ g s0_0 t267 from q_I129_0_1)) : gb269 ≠ g)); revert n0_ n1_ n2_ n3_ n4_ n5_ n6_ n7_ n8_ n9_ n10_ n11_; clear HO265 HI0 BK258 HK HB; intro HO265 HI0 BK258 HK HB BK269 GW269 GE269 NB258_269 NB269_258 NB0_269 NB269_0; clear hb hbox hg; have hnb32 := NB269_258.out; have hnc32 := NB258_269.out; have hnb33 := NB269_0.out; have hnc33 := NB0_269.out; obtain ⟨hcz34_0, hcz34_1, hcz34_2, hcz34_3, hfz34_0, hfz34_1, hfz34_2, hfz34_3⟩ := q_4 BK269.out) | ((with_reducible refine gate_callee (f := 132) rfl ?_); refine goesLq (some 16) rfl rfl Try.func132 (by kernel_rfl) rfl #[.pointer (some ⟨g, 0, none⟩), .int .i64 4] rfl ?_; (with_reducible refine (spec_l1Chance.calls g s0_0 t267 4 false t271 w0 _ ?side1 ?side2 A7.out).mono ?_); (case side1 => repeat (first | (with_reducible first | exact HI0.out | apply IsS129.alloc | apply IsS129.drewN | apply IsS129.drew | apply IsS129.set_1 | refine IsS129.far ?_ NB0_258.out _ | refine IsS129.far ?_ NB0_269.out _) | exact HI0.out)); (case side2 => repeat (first | (with_reducible first | exact HB.out | apply below_alloc | apply pw_below_drewN | apply below_drew1 | refine below_set ?_ (IsS129.ge HI0.out) | refine below_set ?_ GE258.out | refine below_set ?_ GE269.out) | exact HB.out)); rintro e w35 ⟨rfl, hi, hb, hk⟩; refine ⟨_, rfl, ?_⟩; have n0_ := Aside0.mk (KeepBut.blk hk (g' := gb258) (o := .cells #[.string (⟨#[]⟩ : ByteArray), .int .i64 0, .string (⟨#[]⟩ : ByteArray), .bool false] 49 (0, 0)) (by (with_reducible repeat (first | refine blk_drewN ?_ _ | refine blk_drew ?_ | refine blk_alloc ?_ _)); refine blk_far ?_ NB258_269.out _; (with_reducible repeat (first | refine blk_drewN ?_ _ | refine blk_drew ?_ | refine blk_alloc ?_ _)); refine blk_far ?_ NB258_269.out _; (with_reducible repeat (first | refine blk_drewN ?_ _ | refine blk_drew ?_ | refine blk_alloc ?_ _)); refine blk_far ?_ NB258_269.out _; (with_reducible repeat (first | refine blk_drewN ?_ _ | refine blk_drew ?_ | refine blk_alloc ?_ _)); refine blk_far ?_ NB258_269.out _; (with_reducible repeat (first | refine blk_drewN ?_ _ | refine blk_drew ?_ | refine blk_alloc ?_ _)); exact BK258.out) NB258_0.out (by simp)); have n1_ := Aside0.mk (Kd.R_mono (Kd.R_keep (IsS129.apart (show IsS129 w0 _ g s0_0 t267 from q_I129_0_1) (by (with_reducible repeat (first | apply Kd.R_alloc | apply Kd.R_drewN | apply Kd.R_drew)); exact (Kd.R_mono (Kd.R_far (p := ⟨gb269, 3, none⟩) (Kd.R_far (p := ⟨gb269, 2, none⟩) (Kd.R_far (p := ⟨gb269, 1, none⟩) (Kd.R_far (p := ⟨gb269, 0, none⟩) (Kd.R_types HO265.out BK269.out (by decide)) (fun _ hk => hk.2) (.string t259)) (fun _ hk => hk.2) (.int .i64 (wrap64 (1 + t261)))) (fun _ hk => hk.2) (.string (rdOf ByteArray.empty y263 t266))) (fun _ hk => hk.2) (.bool false)) (fun _ h_ => h_.1))) (by decide)) hk (fun _ h => h.2)) (fun _ h => h.1)); have n2_ := Aside0.mk (KeepBut.blk hk (g' := gb269) (o := .cells #[.string t259, .int .i64 (wrap64 (1 + t261)), .string (rdOf ByteArray.empty y263 t266), .bool false] 49 (0, 0)) (by (with_reducible repeat (first | refine blk_drewN ?_ _ | refine blk_drew ?_ | refine blk_alloc ?_ _)); refine blk_put (cs := #[.string t259, .int .i64 (wrap64 (1 + t261)), .string (rdOf ByteArray.empty y263 t266), .bool false]) ?_ 3 _ rfl; (with_reducible repeat (first | refine blk_drewN ?_ _ | refine blk_drew ?_ | refine blk_alloc ?_ _)); refine blk_put (cs := #[.string t259, .int .i64 (wrap64 (1 + t261)), .string (⟨#[]⟩ : ByteArray), .bool false]) ?_ 2 _ rfl; (with_reducible repeat (first | refine blk_drewN ?_ _ | refine blk_drew ?_ | refine blk_alloc ?_ _)); refine blk_put (cs := #[.string t259, .int .i64 0, .string (⟨#[]⟩ : ByteArray), .bool false]) ?_ 1 _ rfl; (with_reducible repeat (first | refine blk_drewN ?_ _ | refine blk_drew ?_ | refine blk_alloc ?_ _)); refine blk_put (cs := #[.string (⟨#[]⟩ : ByteArray), .int .i64 0, .string (⟨#[]⟩ : ByteArray), .bool false]) ?_ 0 _ rfl; (with_reducible repeat (first | refine blk_drewN ?_ _ | refine blk_drew ?_ | refine blk_alloc ?_ _)); exact BK269.out) NB269_0.out (by simp)); have n3_ := Aside0.mk (KeepBut.trans q_K hk (.inl rfl)); have n4_ := Aside0.mk (hb); have n5_ := Aside0.mk (hi); revert n0_ n1_ n2_ n3_ n4_ n5_; clear BK258 HO265 BK269 HK HB HI0; intro BK258 HO265 BK269 HK HB HI0; (try clear hb); (try clear hb2); (try clear hk); (try clear hi); obtain ⟨hcz36_0, hcz36_1, hcz36_2, hcz36_3, hfz36_0, hfz36_1, hfz36_2, hfz36_3⟩ := q_4 BK269.out; have hnb37 := NB258_0.out; have hnc37 := NB0_258.out; obtain ⟨hcz38_0, hcz38_1, hcz38_2, hcz38_3, hfz38_0, hfz38_1, hfz38_2, hfz38_3⟩ := q_4 BK258.out))
    refine bodyPost_ret (results_cell_row rfl _ _ gb258 49 #[.string t259, .int .i64 (wrap64 (1 + t261)), .string (rdOf ByteArray.empty y263 t266), .bool false] (0, 0) _ rfl (by (with_reducible repeat (first | refine blk_drewN ?_ _ | refine blk_drew ?_ | refine blk_alloc ?_ _)); refine blk_put (cs := #[.string t259, .int .i64 (wrap64 (1 + t261)), .string (rdOf ByteArray.empty y263 t266), .bool false]) ?_ 3 _ rfl; (with_reducible repeat (first | refine blk_drewN ?_ _ | refine blk_drew ?_ | refine blk_alloc ?_ _)); refine blk_put (cs := #[.string t259, .int .i64 (wrap64 (1 + t261)), .string (⟨#[]⟩ : ByteArray), .bool false]) ?_ 2 _ rfl; (with_reducible repeat (first | refine blk_drewN ?_ _ | refine blk_drew ?_ | refine blk_alloc ?_ _)); refine blk_put (cs := #[.string t259, .int .i64 0, .string (⟨#[]⟩ : ByteArray), .bool false]) ?_ 1 _ rfl; (with_reducible repeat (first | refine blk_drewN ?_ _ | refine blk_drew ?_ | refine blk_alloc ?_ _)); refine blk_put (cs := #[.string (⟨#[]⟩ : ByteArray), .int .i64 0, .string (⟨#[]⟩ : ByteArray), .bool false]) ?_ 0 _ rfl; (with_reducible repeat (first | refine blk_drewN ?_ _ | refine blk_drew ?_ | refine blk_alloc ?_ _)); exact BK258.out) Try.underlying49 rfl (by kernel_rfl)) rfl ?_
    exact ⟨q_e, q_I129_0_1, q_B129_0, q_K⟩
  ·rw [if_neg c6] at H
   exact absurd H (by simp)
 ·rw [if_neg c5] at H
  exact absurd H (by simp)

/-! ### spec_l1Pick: function 83 -/
def spec_l1Pick.f (s0_0 : List Int) (s0_1 : Int) (l1 : List Int) : Option (Int × Int) := (spec_l1Next.f s0_0 s0_1 (l1.length : Int)).bind fun bt272 => (if 0 ≤ bt272.1 then (if bt272.1 < (l1.length : Int) then (some (rd l1 bt272.1, bt272.2)) else (none)) else (none))
set_option maxHeartbeats 8000000 in
set_option maxRecDepth 100000 in
theorem spec_l1Pick.calls (g : Nat) (s0_0 : List Int) (s0_1 : Int) (A1 : Option Addr) (c1 : Nat) (l1 : List Int) (r1 : Int) (r2 : Int) (w0 w : World) (hI : IsS129 w0 w g s0_0 s0_1) (hB : Below w0.heap.size w0 w) (hr1 : Kd.C (Kd.int .i64) w A1 l1.length l1) (hc1 : l1.length ≤ c1) (hf1 : ∀ ad, A1 = some ad → 0 < l1.length → ad.block ≠ g) (h : spec_l1Pick.f s0_0 s0_1 l1 = some (r1, r2)) :
  Calls Try.prog 83 #[.pointer (some ⟨g, 0, none⟩), .slice A1 l1.length c1] w fun e w' => e = .returned (.int .i64 r1) ∧ IsS129 w0 w' g s0_0 r2 ∧ Below w0.heap.size w0 w' ∧ KeepBut w w' g none := by
 have HR1 := Aside0.mk hr1
 have HC1 := Aside0.mk hc1
 clear hr1 hc1
 have HI0 := Aside0.mk hI
 have HK := Aside0.mk (KeepBut.refl w g none)
 have HL := Aside0.mk hB.size
 clear hI
 have HW0 := Aside0.mk hB.size
 have HB := Aside0.mk hB
 clear hB
 have H : ((spec_l1Next.f s0_0 s0_1 (l1.length : Int)).bind fun bt272 => (if 0 ≤ bt272.1 then (if bt272.1 < (l1.length : Int) then (some (rd l1 bt272.1, bt272.2)) else (none)) else (none))) = some (r1, r2) := h
 clear h
 replace H := Option.bind_eq_some_iff.mp H
 obtain ⟨⟨t272, t273⟩, A30, H⟩ := H
 replace H : (if 0 ≤ t272 then (if t272 < (l1.length : Int) then (some (rd l1 t272, t273)) else (none)) else (none)) = some (r1, r2) := H
 have A3 := Aside0.mk A30
 clear A30
 by_cases c4 : 0 ≤ t272
 ·rw [if_pos c4] at H
  have c4b0 := decide_eq_true c4
  clear c4
  by_cases c5 : t272 < (l1.length : Int)
  ·rw [if_pos c5] at H
   have c5b0 := decide_eq_true c5
   clear c5
   simp only [Option.some.injEq, Prod.mk.injEq] at H
   obtain ⟨rfl, rfl⟩ := H
   go_enter Try.func83, Try.ntmps83
   go_wp2_with (first | ((with_reducible refine gate_callee (f := 84) rfl ?_); refine goesLq (some 9) rfl rfl Try.func84 (by kernel_rfl) rfl #[.pointer (some ⟨g, 0, none⟩), .int .i64 (l1.length : Int)] rfl ?_; (with_reducible refine (spec_l1Next.calls g s0_0 s0_1 (l1.length : Int) t272 t273 w0 _ ?side1 ?side2 A3.out).mono ?_); (case side1 => repeat (first | (with_reducible first | exact HI0.out | apply IsS129.alloc | apply IsS129.drewN | apply IsS129.drew | apply IsS129.set_1) | exact HI0.out)); (case side2 => repeat (first | (with_reducible first | exact HB.out | apply below_alloc | apply pw_below_drewN | apply below_drew1 | refine below_set ?_ (IsS129.ge HI0.out)) | exact HB.out)); rintro e w6 ⟨rfl, hi, hb, hk⟩; refine ⟨_, rfl, ?_⟩; have n0_ := Aside0.mk (KeepBut.trans q_K hk (.inl rfl)); have n1_ := Aside0.mk (hb); have n2_ := Aside0.mk (hi); revert n0_ n1_ n2_; clear HK HB HI0; intro HK HB HI0; (try clear hb); (try clear hb2); (try clear hk); (try clear hi); have p274 : 0 ≤ (t272 : Int) := q_d; have q274 : t272 < (l1.length : Int) := q_d; obtain ⟨ad274, e274, hx274_0⟩ := Kd.at_int HR1.out t272 p274 q274; cases e274; replace hx274_0 := keep_cell HK.out hx274_0 (by first | (rw [add_block]; exact hf1 _ rfl (by omega)) | exact hf1 _ rfl (by omega) | exact hf1 ad274 rfl (by omega)); replace p274 := eq_true p274; replace q274 := eq_true q274))
   go_ret
   exact ⟨q_e, q_I129_0_1, q_B129_0, q_K⟩
  ·rw [if_neg c5] at H
   exact absurd H (by simp)
 ·rw [if_neg c4] at H
  exact absurd H (by simp)

/-! ### spec_l5Bent: function 117 -/
def spec_l5Bent.l0 : Nat → List Int → Int → ByteArray → Int → ByteArray → Bool → Option (ByteArray × Int × ByteArray × Bool × Int)
  | 0, _, _, _, _, _, _ => none
  | k + 1, x1000, x1001, x282000, x282001, x282002, x282003 => (spec_l1Next.f x1000 x1001 2).bind fun bt295 => (if (x282002.size : Int) < (wrap64 (100 + bt295.1)) then (if x282002.size + 1 ≤ 9223372036854775807 then (spec_l5Bent.l0 k x1000 bt295.2 x282000 x282001 (x282002 ++ (⟨#[118]⟩ : ByteArray)) x282003) else (none)) else (some (x282000, x282001, x282002, x282003, bt295.2)))
def spec_l5Bent.f (k : Nat) (s0_0 : List Int) (s0_1 : Int) : Option (ByteArray × Int × ByteArray × Bool × Int) := (spec_l5Row.f s0_0 s0_1).bind fun bt276 => ((spec_l1Next.f s0_0 bt276.2.2.2.2 12).bind fun bt282 => (if bt282.1 = 0 then ((some (([(⟨#[]⟩ : ByteArray), (⟨#[97, 98, 99, 100, 101, 102, 103, 104, 105, 106, 107, 108, 109, 110, 111, 112, 113, 114, 115, 116]⟩ : ByteArray), (⟨#[97, 98, 99, 100, 101, 102, 103, 104, 105, 106, 107, 108, 109, 110, 111, 112, 113, 114, 115, 116, 117]⟩ : ByteArray)] : List ByteArray) : List ByteArray)).bind fun y284 => ((spec_l1Next.f s0_0 bt282.2 3).bind fun bt287 => (if 0 ≤ bt287.1 then (if bt287.1 < (y284.length : Int) then (some (rdOf ByteArray.empty y284 bt287.1, bt276.2.1, bt276.2.2.1, bt276.2.2.2.1, bt287.2)) else (none)) else (none)))) else (if bt282.1 = 1 then ((spec_l1Pick.f s0_0 bt282.2 (([0, (-1), 1000000, 1000001] : List Int))).bind fun bt293 => (some (bt276.1, bt293.1, bt276.2.2.1, bt276.2.2.2.1, bt293.2))) else (if bt282.1 = 2 then (spec_l5Bent.l0 k s0_0 bt282.2 bt276.1 bt276.2.1 bt276.2.2.1 bt276.2.2.2.1) else (some (bt276.1, bt276.2.1, bt276.2.2.1, bt276.2.2.2.1, bt282.2))))))
set_option maxHeartbeats 8000000 in
set_option maxRecDepth 100000 in
theorem spec_l5Bent.calls (k : Nat) (g : Nat) (s0_0 : List Int) (s0_1 : Int) (r1 : ByteArray) (r2 : Int) (r3 : ByteArray) (r4 : Bool) (r5 : Int) (w0 w : World) (hI : IsS129 w0 w g s0_0 s0_1) (hB : Below w0.heap.size w0 w) (h : spec_l5Bent.f k s0_0 s0_1 = some (r1, r2, r3, r4, r5)) :
  Calls Try.prog 117 #[.pointer (some ⟨g, 0, none⟩)] w fun e w' => e = .returned (.agg #[.string r1, .int .i64 r2, .string r3, .bool r4]) ∧ IsS129 w0 w' g s0_0 r5 ∧ Below w0.heap.size w0 w' ∧ KeepBut w w' g none := by
 have hu49 := Try.underlying49
 have HI0 := Aside0.mk hI
 have HK := Aside0.mk (KeepBut.refl w g none)
 have HL := Aside0.mk hB.size
 clear hI
 have HW0 := Aside0.mk hB.size
 have HB := Aside0.mk hB
 clear hB
 have H : ((spec_l5Row.f s0_0 s0_1).bind fun bt276 => ((spec_l1Next.f s0_0 bt276.2.2.2.2 12).bind fun bt282 => (if bt282.1 = 0 then ((some (([(⟨#[]⟩ : ByteArray), (⟨#[97, 98, 99, 100, 101, 102, 103, 104, 105, 106, 107, 108, 109, 110, 111, 112, 113, 114, 115, 116]⟩ : ByteArray), (⟨#[97, 98, 99, 100, 101, 102, 103, 104, 105, 106, 107, 108, 109, 110, 111, 112, 113, 114, 115, 116, 117]⟩ : ByteArray)] : List ByteArray) : List ByteArray)).bind fun y284 => ((spec_l1Next.f s0_0 bt282.2 3).bind fun bt287 => (if 0 ≤ bt287.1 then (if bt287.1 < (y284.length : Int) then (some (rdOf ByteArray.empty y284 bt287.1, bt276.2.1, bt276.2.2.1, bt276.2.2.2.1, bt287.2)) else (none)) else (none)))) else (if bt282.1 = 1 then ((spec_l1Pick.f s0_0 bt282.2 (([0, (-1), 1000000, 1000001] : List Int))).bind fun bt293 => (some (bt276.1, bt293.1, bt276.2.2.1, bt276.2.2.2.1, bt293.2))) else (if bt282.1 = 2 then (spec_l5Bent.l0 k s0_0 bt282.2 bt276.1 bt276.2.1 bt276.2.2.1 bt276.2.2.2.1) else (some (bt276.1, bt276.2.1, bt276.2.2.1, bt276.2.2.2.1, bt282.2))))))) = some (r1, r2, r3, r4, r5) := h
 clear h
 replace H := Option.bind_eq_some_iff.mp H
 obtain ⟨⟨t276, t277, t278, t279, t280⟩, A20, H⟩ := H
 replace H : ((spec_l1Next.f s0_0 t280 12).bind fun bt282 => (if bt282.1 = 0 then ((some (([(⟨#[]⟩ : ByteArray), (⟨#[97, 98, 99, 100, 101, 102, 103, 104, 105, 106, 107, 108, 109, 110, 111, 112, 113, 114, 115, 116]⟩ : ByteArray), (⟨#[97, 98, 99, 100, 101, 102, 103, 104, 105, 106, 107, 108, 109, 110, 111, 112, 113, 114, 115, 116, 117]⟩ : ByteArray)] : List ByteArray) : List ByteArray)).bind fun y284 => ((spec_l1Next.f s0_0 bt282.2 3).bind fun bt287 => (if 0 ≤ bt287.1 then (if bt287.1 < (y284.length : Int) then (some (rdOf ByteArray.empty y284 bt287.1, t277, t278, t279, bt287.2)) else (none)) else (none)))) else (if bt282.1 = 1 then ((spec_l1Pick.f s0_0 bt282.2 (([0, (-1), 1000000, 1000001] : List Int))).bind fun bt293 => (some (t276, bt293.1, t278, t279, bt293.2))) else (if bt282.1 = 2 then (spec_l5Bent.l0 k s0_0 bt282.2 t276 t277 t278 t279) else (some (t276, t277, t278, t279, bt282.2)))))) = some (r1, r2, r3, r4, r5) := H
 have A2 := Aside0.mk A20
 clear A20
 replace H := Option.bind_eq_some_iff.mp H
 obtain ⟨⟨t282, t283⟩, A30, H⟩ := H
 replace H : (if t282 = 0 then ((some (([(⟨#[]⟩ : ByteArray), (⟨#[97, 98, 99, 100, 101, 102, 103, 104, 105, 106, 107, 108, 109, 110, 111, 112, 113, 114, 115, 116]⟩ : ByteArray), (⟨#[97, 98, 99, 100, 101, 102, 103, 104, 105, 106, 107, 108, 109, 110, 111, 112, 113, 114, 115, 116, 117]⟩ : ByteArray)] : List ByteArray) : List ByteArray)).bind fun y284 => ((spec_l1Next.f s0_0 t283 3).bind fun bt287 => (if 0 ≤ bt287.1 then (if bt287.1 < (y284.length : Int) then (some (rdOf ByteArray.empty y284 bt287.1, t277, t278, t279, bt287.2)) else (none)) else (none)))) else (if t282 = 1 then ((spec_l1Pick.f s0_0 t283 (([0, (-1), 1000000, 1000001] : List Int))).bind fun bt293 => (some (t276, bt293.1, t278, t279, bt293.2))) else (if t282 = 2 then (spec_l5Bent.l0 k s0_0 t283 t276 t277 t278 t279) else (some (t276, t277, t278, t279, t283))))) = some (r1, r2, r3, r4, r5) := H
 have A3 := Aside0.mk A30
 clear A30
 by_cases c4 : t282 = 0
 ·rw [if_pos c4] at H
  have c4b0 : (t282 == 0) = true := beq_iff_eq.mpr c4
  have c4b1 : (t282 != 0) = false := bne_eq_false_iff_eq.mpr c4
  clear c4
  obtain ⟨y284, hy284⟩ : ∃ y_ : List ByteArray, y_ = (([(⟨#[]⟩ : ByteArray), (⟨#[97, 98, 99, 100, 101, 102, 103, 104, 105, 106, 107, 108, 109, 110, 111, 112, 113, 114, 115, 116]⟩ : ByteArray), (⟨#[97, 98, 99, 100, 101, 102, 103, 104, 105, 106, 107, 108, 109, 110, 111, 112, 113, 114, 115, 116, 117]⟩ : ByteArray)] : List ByteArray)) := ⟨_, rfl⟩
  replace H : ((spec_l1Next.f s0_0 t283 3).bind fun bt287 => (if 0 ≤ bt287.1 then (if bt287.1 < (y284.length : Int) then (some (rdOf ByteArray.empty y284 bt287.1, t277, t278, t279, bt287.2)) else (none)) else (none))) = some (r1, r2, r3, r4, r5) := q_h hy284 H
  have Ny284 := Aside0.mk hy284
  clear hy284
  replace H := Option.bind_eq_some_iff.mp H
  obtain ⟨⟨t287, t288⟩, A50, H⟩ := H
  replace H : (if 0 ≤ t287 then (if t287 < (y284.length : Int) then (some (rdOf ByteArray.empty y284 t287, t277, t278, t279, t288)) else (none)) else (none)) = some (r1, r2, r3, r4, r5) := H
  have A5 := Aside0.mk A50
  clear A50
  by_cases c6 : 0 ≤ t287
  ·rw [if_pos c6] at H
   have c6b0 := decide_eq_true c6
   clear c6
   by_cases c7 : t287 < (y284.length : Int)
   ·rw [if_pos c7] at H
    have c7b0 := decide_eq_true c7
    clear c7
    simp only [Option.some.injEq, Prod.mk.injEq] at H
    obtain ⟨rfl, rfl, rfl, rfl, rfl⟩ := H
    go_enter Try.func117, Try.ntmps117
    go_wp2_with (first | ((with_reducible refine gate_dst (N := 2) rfl ?_); refine q_box (N := 2) (cs := #[.string (⟨#[]⟩ : ByteArray), .int .i64 0, .string (⟨#[]⟩ : ByteArray), .bool false]) (t := 49) ?_; intro gb275 hg w8 hbox hb; have n0_ := Aside0.mk (IsS129.below q_I129_0_1 hb); have n1_ := Aside0.mk (KeepBut.trans q_K (KeepBut.of_below hb g none) (.inl rfl)); have n2_ := Aside0.mk (below_step q_B129_0 hb); have n3_ := Aside0.mk (hbox); have n4_ := Aside0.mk ((by rw [hg]; exact (keep_size (w := w) (g := g) (row := none) q_K) : w.heap.size ≤ gb275)); have n5_ := Aside0.mk ((Nat.le_trans HW0.out (by rw [hg]; exact (keep_size (w := w) (g := g) (row := none) q_K) : w.heap.size ≤ gb275) : w0.heap.size ≤ gb275)); have n6_ := Aside0.mk ((by rw [hg]; exact Nat.ne_of_lt (IsS129.lt (show IsS129 w0 _ g s0_0 s0_1 from q_I129_0_1)) : g ≠ gb275)); have n7_ := Aside0.mk ((by rw [hg]; exact Nat.ne_of_gt (IsS129.lt (show IsS129 w0 _ g s0_0 s0_1 from q_I129_0_1)) : gb275 ≠ g)); revert n0_ n1_ n2_ n3_ n4_ n5_ n6_ n7_; clear HI0 HK HB; intro HI0 HK HB BK275 GW275 GE275 NB0_275 NB275_0; clear hb hbox hg) | ((with_reducible refine gate_callee (f := 116) rfl ?_); refine goesLq (some 5) rfl rfl Try.func116 (by kernel_rfl) rfl #[.pointer (some ⟨g, 0, none⟩)] rfl ?_; (with_reducible refine (spec_l5Row.calls g s0_0 s0_1 t276 t277 t278 t279 t280 w0 _ ?side1 ?side2 A2.out).mono ?_); (case side1 => repeat (first | (with_reducible first | exact HI0.out | apply IsS129.alloc | apply IsS129.drewN | apply IsS129.drew | apply IsS129.set_1 | refine IsS129.far ?_ NB0_275.out _) | exact HI0.out)); (case side2 => repeat (first | (with_reducible first | exact HB.out | apply below_alloc | apply pw_below_drewN | apply below_drew1 | refine below_set ?_ (IsS129.ge HI0.out) | refine below_set ?_ GE275.out) | exact HB.out)); rintro e w9 ⟨rfl, hi, hb, hk⟩; refine ⟨_, rfl, ?_⟩; have n0_ := Aside0.mk (KeepBut.blk hk (g' := gb275) (o := .cells #[.string (⟨#[]⟩ : ByteArray), .int .i64 0, .string (⟨#[]⟩ : ByteArray), .bool false] 49 (0, 0)) kq NB275_0.out (by simp)); have n1_ := Aside0.mk (KeepBut.trans q_K hk (.inl rfl)); have n2_ := Aside0.mk (hb); have n3_ := Aside0.mk (hi); revert n0_ n1_ n2_ n3_; clear BK275 HK HB HI0; intro BK275 HK HB HI0; (try clear hb); (try clear hb2); (try clear hk); (try clear hi)) | ((with_reducible refine gate_dst (N := 3) rfl ?_); refine q_box (N := 3) (cs := #[.string (⟨#[]⟩ : ByteArray), .int .i64 0, .string (⟨#[]⟩ : ByteArray), .bool false]) (t := 49) ?_; intro gb281 hg w10 hbox hb; have n0_ := Aside0.mk (IsS129.below q_I129_0_1 hb); have n1_ := Aside0.mk (blk_below (q_b BK275.out) hb); have n2_ := Aside0.mk (KeepBut.trans q_K (KeepBut.of_below hb g none) (.inl rfl)); have n3_ := Aside0.mk (below_step q_B129_0 hb); have n4_ := Aside0.mk (hbox); have n5_ := Aside0.mk ((by rw [hg]; exact (keep_size (w := w) (g := g) (row := none) q_K) : w.heap.size ≤ gb281)); have n6_ := Aside0.mk ((Nat.le_trans HW0.out (by rw [hg]; exact (keep_size (w := w) (g := g) (row := none) q_K) : w.heap.size ≤ gb281) : w0.heap.size ≤ gb281)); have n7_ := Aside0.mk ((q_n hg (q_b BK275.out) : gb275 ≠ gb281)); have n8_ := Aside0.mk ((q_m hg (q_b BK275.out) : gb281 ≠ gb275)); have n9_ := Aside0.mk ((by rw [hg]; exact Nat.ne_of_lt (IsS129.lt (show IsS129 w0 _ g s0_0 t280 from q_I129_0_1)) : g ≠ gb281)); have n10_ := Aside0.mk ((by rw [hg]; exact Nat.ne_of_gt (IsS129.lt (show IsS129 w0 _ g s0_0 t280 from q_I129_0_1)) : gb281 ≠ g)); revert n0_ n1_ n2_ n3_ n4_ n5_ n6_ n7_ n8_ n9_ n10_; clear HI0 BK275 HK HB; intro HI0 BK275 HK HB BK281 GW281 GE281 NB275_281 NB281_275 NB0_281 NB281_0; clear hb hbox hg; have hnb11 := NB281_275.out; have hnc11 := NB275_281.out; have hnb12 := NB281_0.out; have hnc12 := NB0_281.out; obtain ⟨hcz13_0, hcz13_1, hcz13_2, hcz13_3, hfz13_0, hfz13_1, hfz13_2, hfz13_3⟩ := q_4 BK281.out) | ((with_reducible refine gate_callee (f := 84) rfl ?_); refine goesLq (some 7) rfl rfl Try.func84 (by kernel_rfl) rfl #[.pointer (some ⟨g, 0, none⟩), .int .i64 12] rfl ?_; (with_reducible refine (spec_l1Next.calls g s0_0 t280 12 t282 t283 w0 _ ?side1 ?side2 A3.out).mono ?_); (case side1 => repeat (first | (with_reducible first | exact HI0.out | apply IsS129.alloc | apply IsS129.drewN | apply IsS129.drew | apply IsS129.set_1 | refine IsS129.far ?_ NB0_275.out _ | refine IsS129.far ?_ NB0_281.out _) | exact HI0.out)); (case side2 => repeat (first | (with_reducible first | exact HB.out | apply below_alloc | apply pw_below_drewN | apply below_drew1 | refine below_set ?_ (IsS129.ge HI0.out) | refine below_set ?_ GE275.out | refine below_set ?_ GE281.out) | exact HB.out)); rintro e w14 ⟨rfl, hi, hb, hk⟩; refine ⟨_, rfl, ?_⟩; have n0_ := Aside0.mk (KeepBut.blk hk (g' := gb275) (o := .cells #[.string (⟨#[]⟩ : ByteArray), .int .i64 0, .string (⟨#[]⟩ : ByteArray), .bool false] 49 (0, 0)) (by (with_reducible repeat (first | refine blk_drewN ?_ _ | refine blk_drew ?_ | refine blk_alloc ?_ _)); refine blk_far ?_ NB275_281.out _; (with_reducible repeat (first | refine blk_drewN ?_ _ | refine blk_drew ?_ | refine blk_alloc ?_ _)); refine blk_far ?_ NB275_281.out _; (with_reducible repeat (first | refine blk_drewN ?_ _ | refine blk_drew ?_ | refine blk_alloc ?_ _)); refine blk_far ?_ NB275_281.out _; (with_reducible repeat (first | refine blk_drewN ?_ _ | refine blk_drew ?_ | refine blk_alloc ?_ _)); refine blk_far ?_ NB275_281.out _; (with_reducible repeat (first | refine blk_drewN ?_ _ | refine blk_drew ?_ | refine blk_alloc ?_ _)); exact BK275.out) NB275_0.out (by simp)); have n1_ := Aside0.mk (KeepBut.blk hk (g' := gb281) (o := .cells #[.string t276, .int .i64 t277, .string t278, .bool t279] 49 (0, 0)) (by (with_reducible repeat (first | refine blk_drewN ?_ _ | refine blk_drew ?_ | refine blk_alloc ?_ _)); refine blk_put (cs := #[.string t276, .int .i64 t277, .string t278, .bool false]) ?_ 3 _ rfl; (with_reducible repeat (first | refine blk_drewN ?_ _ | refine blk_drew ?_ | refine blk_alloc ?_ _)); refine blk_put (cs := #[.string t276, .int .i64 t277, .string (⟨#[]⟩ : ByteArray), .bool false]) ?_ 2 _ rfl; (with_reducible repeat (first | refine blk_drewN ?_ _ | refine blk_drew ?_ | refine blk_alloc ?_ _)); refine blk_put (cs := #[.string t276, .int .i64 0, .string (⟨#[]⟩ : ByteArray), .bool false]) ?_ 1 _ rfl; (with_reducible repeat (first | refine blk_drewN ?_ _ | refine blk_drew ?_ | refine blk_alloc ?_ _)); refine blk_put (cs := #[.string (⟨#[]⟩ : ByteArray), .int .i64 0, .string (⟨#[]⟩ : ByteArray), .bool false]) ?_ 0 _ rfl; (with_reducible repeat (first | refine blk_drewN ?_ _ | refine blk_drew ?_ | refine blk_alloc ?_ _)); exact BK281.out) NB281_0.out (by simp)); have n2_ := Aside0.mk (KeepBut.trans q_K hk (.inl rfl)); have n3_ := Aside0.mk (hb); have n4_ := Aside0.mk (hi); revert n0_ n1_ n2_ n3_ n4_; clear BK275 BK281 HK HB HI0; intro BK275 BK281 HK HB HI0; (try clear hb); (try clear hb2); (try clear hk); (try clear hi)) | ((with_reducible refine gate_dst (N := 10) rfl ?_); refine Kd.R_lit Kd.string _ 9 ?hg (N := 10) ?hd (xs := ([(⟨#[]⟩ : ByteArray), (⟨#[97, 98, 99, 100, 101, 102, 103, 104, 105, 106, 107, 108, 109, 110, 111, 112, 113, 114, 115, 116]⟩ : ByteArray), (⟨#[97, 98, 99, 100, 101, 102, 103, 104, 105, 106, 107, 108, 109, 110, 111, 112, 113, 114, 115, 116, 117]⟩ : ByteArray)] : List ByteArray)) (inner := [.string (⟨#[]⟩ : ByteArray), .string (⟨#[97, 98, 99, 100, 101, 102, 103, 104, 105, 106, 107, 108, 109, 110, 111, 112, 113, 114, 115, 116]⟩ : ByteArray), .string (⟨#[97, 98, 99, 100, 101, 102, 103, 104, 105, 106, 107, 108, 109, 110, 111, 112, 113, 114, 115, 116, 117]⟩ : ByteArray)]) (ok := fun _ => True) (okp := fun _ => True) ?hr ?hp (fun _ hk => hk) trivial (Below.refl _ _) (Nat.le_refl _) (by simp) ?_; (case hd => rfl); (case hg => rfl); (case hr => first | (go_simp; done) | (go_simp; rfl)); (case hp => exact (Reps.one (show Kd.M Kd.string _ _ _ (⟨#[]⟩ : ByteArray) [.string (⟨#[]⟩ : ByteArray)] from rfl) (Reps.one (show Kd.M Kd.string _ _ _ (⟨#[97, 98, 99, 100, 101, 102, 103, 104, 105, 106, 107, 108, 109, 110, 111, 112, 113, 114, 115, 116]⟩ : ByteArray) [.string (⟨#[97, 98, 99, 100, 101, 102, 103, 104, 105, 106, 107, 108, 109, 110, 111, 112, 113, 114, 115, 116]⟩ : ByteArray)] from rfl) (Reps.one (show Kd.M Kd.string _ _ _ (⟨#[97, 98, 99, 100, 101, 102, 103, 104, 105, 106, 107, 108, 109, 110, 111, 112, 113, 114, 115, 116, 117]⟩ : ByteArray) [.string (⟨#[97, 98, 99, 100, 101, 102, 103, 104, 105, 106, 107, 108, 109, 110, 111, 112, 113, 114, 115, 116, 117]⟩ : ByteArray)] from rfl) (Reps.none _ _))))); intro v285 w15 ho16 hb hg_ hnew_; clear hg_ hnew_; (first | rw [← Ny284.out] at ho16 | (simp only [Int.reduceToNat] at ho16; rw [← Ny284.out] at ho16)); have n0_ := Aside0.mk (Kd.R_lower ho16 (keep_size (w := w) (g := g) (row := none) q_K)); have n1_ := Aside0.mk (IsS129.below q_I129_0_1 hb); have n2_ := Aside0.mk (blk_below (q_b BK275.out) hb); have n3_ := Aside0.mk (blk_below (q_b BK281.out) hb); have n4_ := Aside0.mk (KeepBut.trans q_K (KeepBut.of_below hb g none) (.inl rfl)); have n5_ := Aside0.mk (below_step q_B129_0 hb); revert n0_ n1_ n2_ n3_ n4_ n5_; clear HI0 BK275 BK281 HK HB; intro HO286 HI0 BK275 BK281 HK HB; clear hb ho16) | ((with_reducible refine gate_callee (f := 84) rfl ?_); refine goesLq (some 12) rfl rfl Try.func84 (by kernel_rfl) rfl #[.pointer (some ⟨g, 0, none⟩), .int .i64 3] rfl ?_; (with_reducible refine (spec_l1Next.calls g s0_0 t283 3 t287 t288 w0 _ ?side1 ?side2 A5.out).mono ?_); (case side1 => repeat (first | (with_reducible first | exact HI0.out | apply IsS129.alloc | apply IsS129.drewN | apply IsS129.drew | apply IsS129.set_1 | refine IsS129.far ?_ NB0_275.out _ | refine IsS129.far ?_ NB0_281.out _) | exact HI0.out)); (case side2 => repeat (first | (with_reducible first | exact HB.out | apply below_alloc | apply pw_below_drewN | apply below_drew1 | refine below_set ?_ (IsS129.ge HI0.out) | refine below_set ?_ GE275.out | refine below_set ?_ GE281.out) | exact HB.out)); rintro e w17 ⟨rfl, hi, hb, hk⟩; refine ⟨_, rfl, ?_⟩; have n0_ := Aside0.mk (KeepBut.blk hk (g' := gb275) (o := .cells #[.string (⟨#[]⟩ : ByteArray), .int .i64 0, .string (⟨#[]⟩ : ByteArray), .bool false] 49 (0, 0)) kq NB275_0.out (by simp)); have n1_ := Aside0.mk (KeepBut.blk hk (g' := gb281) (o := .cells #[.string t276, .int .i64 t277, .string t278, .bool t279] 49 (0, 0)) kq NB281_0.out (by simp)); have n2_ := Aside0.mk (Kd.R_mono (Kd.R_keep (IsS129.apart (show IsS129 w0 _ g s0_0 t283 from q_I129_0_1) (q_r (HO286.out)) (by decide)) hk (fun _ h => h.2)) (fun _ h => h.1)); have n3_ := Aside0.mk (KeepBut.trans q_K hk (.inl rfl)); have n4_ := Aside0.mk (hb); have n5_ := Aside0.mk (hi); revert n0_ n1_ n2_ n3_ n4_ n5_; clear BK275 BK281 HO286 HK HB HI0; intro BK275 BK281 HO286 HK HB HI0; (try clear hb); (try clear hb2); (try clear hk); (try clear hi); obtain ⟨Ao18, co18, eo18⟩ := Kd.R_slice HO286.out; subst eo18; have p289 : 0 ≤ (t287 : Int) := q_d; have q289 : t287 < (y284.length : Int) := q_d; obtain ⟨ad289, e289, hx289_0⟩ := Kd.at_string (Kd.R_reads' HO286.out).2.2 t287 p289 q289; cases e289; replace p289 := eq_true p289; replace q289 := eq_true q289; obtain ⟨hcz19_0, hcz19_1, hcz19_2, hcz19_3, hfz19_0, hfz19_1, hfz19_2, hfz19_3⟩ := q_4 BK281.out; have hnb20 := NB275_0.out; have hnc20 := NB0_275.out; obtain ⟨hcz21_0, hcz21_1, hcz21_2, hcz21_3, hfz21_0, hfz21_1, hfz21_2, hfz21_3⟩ := q_4 BK275.out))
    refine bodyPost_ret (results_cell_row rfl _ _ gb275 49 #[.string (rdOf ByteArray.empty y284 t287), .int .i64 t277, .string t278, .bool t279] (0, 0) _ rfl (by (with_reducible repeat (first | refine blk_drewN ?_ _ | refine blk_drew ?_ | refine blk_alloc ?_ _)); refine blk_put (cs := #[.string (rdOf ByteArray.empty y284 t287), .int .i64 t277, .string t278, .bool false]) ?_ 3 _ rfl; (with_reducible repeat (first | refine blk_drewN ?_ _ | refine blk_drew ?_ | refine blk_alloc ?_ _)); refine blk_put (cs := #[.string (rdOf ByteArray.empty y284 t287), .int .i64 t277, .string (⟨#[]⟩ : ByteArray), .bool false]) ?_ 2 _ rfl; (with_reducible repeat (first | refine blk_drewN ?_ _ | refine blk_drew ?_ | refine blk_alloc ?_ _)); refine blk_put (cs := #[.string (rdOf ByteArray.empty y284 t287), .int .i64 0, .string (⟨#[]⟩ : ByteArray), .bool false]) ?_ 1 _ rfl; (with_reducible repeat (first | refine blk_drewN ?_ _ | refine blk_drew ?_ | refine blk_alloc ?_ _)); refine blk_put (cs := #[.string (⟨#[]⟩ : ByteArray), .int .i64 0, .string (⟨#[]⟩ : ByteArray), .bool false]) ?_ 0 _ rfl; (with_reducible repeat (first | refine blk_drewN ?_ _ | refine blk_drew ?_ | refine blk_alloc ?_ _)); refine blk_far ?_ NB275_281.out _; (with_reducible repeat (first | refine blk_drewN ?_ _ | refine blk_drew ?_ | refine blk_alloc ?_ _)); exact BK275.out) Try.underlying49 rfl (by kernel_rfl)) rfl ?_
    exact ⟨q_e, q_I129_0_1, q_B129_0, q_K⟩
   ·rw [if_neg c7] at H
    exact absurd H (by simp)
  ·rw [if_neg c6] at H
   exact absurd H (by simp)
 ·rw [if_neg c4] at H
  have c4b0 : (t282 == 0) = false := beq_eq_false_iff_ne.mpr c4
  have c4b1 : (t282 != 0) = true := bne_iff_ne.mpr c4
  by_cases c22 : t282 = 1
  ·rw [if_pos c22] at H
   have c22b0 : (t282 == 1) = true := beq_iff_eq.mpr c22
   have c22b1 : (t282 != 1) = false := bne_eq_false_iff_eq.mpr c22
   clear c22
   obtain ⟨y290, hy290⟩ : ∃ y_ : List Int, y_ = (([0, (-1), 1000000, 1000001] : List Int)) := ⟨_, rfl⟩
   replace H : ((spec_l1Pick.f s0_0 t283 y290).bind fun bt293 => (some (t276, bt293.1, t278, t279, bt293.2))) = some (r1, r2, r3, r4, r5) := q_h hy290 H
   have Ny290 := Aside0.mk hy290
   clear hy290
   replace H := Option.bind_eq_some_iff.mp H
   obtain ⟨⟨t293, t294⟩, A230, H⟩ := H
   replace H : (some (t276, t293, t278, t279, t294)) = some (r1, r2, r3, r4, r5) := H
   have A23 := Aside0.mk A230
   clear A230
   simp only [Option.some.injEq, Prod.mk.injEq] at H
   obtain ⟨rfl, rfl, rfl, rfl, rfl⟩ := H
   go_enter Try.func117, Try.ntmps117
   go_wp2_with (first | ((with_reducible refine gate_dst (N := 2) rfl ?_); refine q_box (N := 2) (cs := #[.string (⟨#[]⟩ : ByteArray), .int .i64 0, .string (⟨#[]⟩ : ByteArray), .bool false]) (t := 49) ?_; intro gb275 hg w24 hbox hb; have n0_ := Aside0.mk (IsS129.below q_I129_0_1 hb); have n1_ := Aside0.mk (KeepBut.trans q_K (KeepBut.of_below hb g none) (.inl rfl)); have n2_ := Aside0.mk (below_step q_B129_0 hb); have n3_ := Aside0.mk (hbox); have n4_ := Aside0.mk ((by rw [hg]; exact (keep_size (w := w) (g := g) (row := none) q_K) : w.heap.size ≤ gb275)); have n5_ := Aside0.mk ((Nat.le_trans HW0.out (by rw [hg]; exact (keep_size (w := w) (g := g) (row := none) q_K) : w.heap.size ≤ gb275) : w0.heap.size ≤ gb275)); have n6_ := Aside0.mk ((by rw [hg]; exact Nat.ne_of_lt (IsS129.lt (show IsS129 w0 _ g s0_0 s0_1 from q_I129_0_1)) : g ≠ gb275)); have n7_ := Aside0.mk ((by rw [hg]; exact Nat.ne_of_gt (IsS129.lt (show IsS129 w0 _ g s0_0 s0_1 from q_I129_0_1)) : gb275 ≠ g)); revert n0_ n1_ n2_ n3_ n4_ n5_ n6_ n7_; clear HI0 HK HB; intro HI0 HK HB BK275 GW275 GE275 NB0_275 NB275_0; clear hb hbox hg) | ((with_reducible refine gate_callee (f := 116) rfl ?_); refine goesLq (some 5) rfl rfl Try.func116 (by kernel_rfl) rfl #[.pointer (some ⟨g, 0, none⟩)] rfl ?_; (with_reducible refine (spec_l5Row.calls g s0_0 s0_1 t276 t277 t278 t279 t280 w0 _ ?side1 ?side2 A2.out).mono ?_); (case side1 => repeat (first | (with_reducible first | exact HI0.out | apply IsS129.alloc | apply IsS129.drewN | apply IsS129.drew | apply IsS129.set_1 | refine IsS129.far ?_ NB0_275.out _) | exact HI0.out)); (case side2 => repeat (first | (with_reducible first | exact HB.out | apply below_alloc | apply pw_below_drewN | apply below_drew1 | refine below_set ?_ (IsS129.ge HI0.out) | refine below_set ?_ GE275.out) | exact HB.out)); rintro e w25 ⟨rfl, hi, hb, hk⟩; refine ⟨_, rfl, ?_⟩; have n0_ := Aside0.mk (KeepBut.blk hk (g' := gb275) (o := .cells #[.string (⟨#[]⟩ : ByteArray), .int .i64 0, .string (⟨#[]⟩ : ByteArray), .bool false] 49 (0, 0)) kq NB275_0.out (by simp)); have n1_ := Aside0.mk (KeepBut.trans q_K hk (.inl rfl)); have n2_ := Aside0.mk (hb); have n3_ := Aside0.mk (hi); revert n0_ n1_ n2_ n3_; clear BK275 HK HB HI0; intro BK275 HK HB HI0; (try clear hb); (try clear hb2); (try clear hk); (try clear hi)) | ((with_reducible refine gate_dst (N := 3) rfl ?_); refine q_box (N := 3) (cs := #[.string (⟨#[]⟩ : ByteArray), .int .i64 0, .string (⟨#[]⟩ : ByteArray), .bool false]) (t := 49) ?_; intro gb281 hg w26 hbox hb; have n0_ := Aside0.mk (IsS129.below q_I129_0_1 hb); have n1_ := Aside0.mk (blk_below (q_b BK275.out) hb); have n2_ := Aside0.mk (KeepBut.trans q_K (KeepBut.of_below hb g none) (.inl rfl)); have n3_ := Aside0.mk (below_step q_B129_0 hb); have n4_ := Aside0.mk (hbox); have n5_ := Aside0.mk ((by rw [hg]; exact (keep_size (w := w) (g := g) (row := none) q_K) : w.heap.size ≤ gb281)); have n6_ := Aside0.mk ((Nat.le_trans HW0.out (by rw [hg]; exact (keep_size (w := w) (g := g) (row := none) q_K) : w.heap.size ≤ gb281) : w0.heap.size ≤ gb281)); have n7_ := Aside0.mk ((q_n hg (q_b BK275.out) : gb275 ≠ gb281)); have n8_ := Aside0.mk ((q_m hg (q_b BK275.out) : gb281 ≠ gb275)); have n9_ := Aside0.mk ((by rw [hg]; exact Nat.ne_of_lt (IsS129.lt (show IsS129 w0 _ g s0_0 t280 from q_I129_0_1)) : g ≠ gb281)); have n10_ := Aside0.mk ((by rw [hg]; exact Nat.ne_of_gt (IsS129.lt (show IsS129 w0 _ g s0_0 t280 from q_I129_0_1)) : gb281 ≠ g)); revert n0_ n1_ n2_ n3_ n4_ n5_ n6_ n7_ n8_ n9_ n10_; clear HI0 BK275 HK HB; intro HI0 BK275 HK HB BK281 GW281 GE281 NB275_281 NB281_275 NB0_281 NB281_0; clear hb hbox hg; have hnb27 := NB281_275.out; have hnc27 := NB275_281.out; have hnb28 := NB281_0.out; have hnc28 := NB0_281.out; obtain ⟨hcz29_0, hcz29_1, hcz29_2, hcz29_3, hfz29_0, hfz29_1, hfz29_2, hfz29_3⟩ := q_4 BK281.out) | ((with_reducible refine gate_callee (f := 84) rfl ?_); refine goesLq (some 7) rfl rfl Try.func84 (by kernel_rfl) rfl #[.pointer (some ⟨g, 0, none⟩), .int .i64 12] rfl ?_; (with_reducible refine (spec_l1Next.calls g s0_0 t280 12 t282 t283 w0 _ ?side1 ?side2 A3.out).mono ?_); (case side1 => repeat (first | (with_reducible first | exact HI0.out | apply IsS129.alloc | apply IsS129.drewN | apply IsS129.drew | apply IsS129.set_1 | refine IsS129.far ?_ NB0_275.out _ | refine IsS129.far ?_ NB0_281.out _) | exact HI0.out)); (case side2 => repeat (first | (with_reducible first | exact HB.out | apply below_alloc | apply pw_below_drewN | apply below_drew1 | refine below_set ?_ (IsS129.ge HI0.out) | refine below_set ?_ GE275.out | refine below_set ?_ GE281.out) | exact HB.out)); rintro e w30 ⟨rfl, hi, hb, hk⟩; refine ⟨_, rfl, ?_⟩; have n0_ := Aside0.mk (KeepBut.blk hk (g' := gb275) (o := .cells #[.string (⟨#[]⟩ : ByteArray), .int .i64 0, .string (⟨#[]⟩ : ByteArray), .bool false] 49 (0, 0)) (by (with_reducible repeat (first | refine blk_drewN ?_ _ | refine blk_drew ?_ | refine blk_alloc ?_ _)); refine blk_far ?_ NB275_281.out _; (with_reducible repeat (first | refine blk_drewN ?_ _ | refine blk_drew ?_ | refine blk_alloc ?_ _)); refine blk_far ?_ NB275_281.out _; (with_reducible repeat (first | refine blk_drewN ?_ _ | refine blk_drew ?_ | refine blk_alloc ?_ _)); refine blk_far ?_ NB275_281.out _; (with_reducible repeat (first | refine blk_drewN ?_ _ | refine blk_drew ?_ | refine blk_alloc ?_ _)); refine blk_far ?_ NB275_281.out _; (with_reducible repeat (first | refine blk_drewN ?_ _ | refine blk_drew ?_ | refine blk_alloc ?_ _)); exact BK275.out) NB275_0.out (by simp)); have n1_ := Aside0.mk (KeepBut.blk hk (g' := gb281) (o := .cells #[.string t276, .int .i64 t277, .string t278, .bool t279] 49 (0, 0)) (by (with_reducible repeat (first | refine blk_drewN ?_ _ | refine blk_drew ?_ | refine blk_alloc ?_ _)); refine blk_put (cs := #[.string t276, .int .i64 t277, .string t278, .bool false]) ?_ 3 _ rfl; (with_reducible repeat (first | refine blk_drewN ?_ _ | refine blk_drew ?_ | refine blk_alloc ?_ _)); refine blk_put (cs := #[.string t276, .int .i64 t277, .string (⟨#[]⟩ : ByteArray), .bool false]) ?_ 2 _ rfl; (with_reducible repeat (first | refine blk_drewN ?_ _ | refine blk_drew ?_ | refine blk_alloc ?_ _)); refine blk_put (cs := #[.string t276, .int .i64 0, .string (⟨#[]⟩ : ByteArray), .bool false]) ?_ 1 _ rfl; (with_reducible repeat (first | refine blk_drewN ?_ _ | refine blk_drew ?_ | refine blk_alloc ?_ _)); refine blk_put (cs := #[.string (⟨#[]⟩ : ByteArray), .int .i64 0, .string (⟨#[]⟩ : ByteArray), .bool false]) ?_ 0 _ rfl; (with_reducible repeat (first | refine blk_drewN ?_ _ | refine blk_drew ?_ | refine blk_alloc ?_ _)); exact BK281.out) NB281_0.out (by simp)); have n2_ := Aside0.mk (KeepBut.trans q_K hk (.inl rfl)); have n3_ := Aside0.mk (hb); have n4_ := Aside0.mk (hi); revert n0_ n1_ n2_ n3_ n4_; clear BK275 BK281 HK HB HI0; intro BK275 BK281 HK HB HI0; (try clear hb); (try clear hb2); (try clear hk); (try clear hi)) | ((with_reducible refine gate_dst (N := 19) rfl ?_); refine Kd.R_lit (Kd.int .i64) _ 2 ?hg (N := 19) ?hd (xs := ([0, (-1), 1000000, 1000001] : List Int)) (inner := [.int .i64 0, .int .i64 (-1), .int .i64 1000000, .int .i64 1000001]) (ok := fun _ => True) (okp := fun _ => True) ?hr ?hp (fun _ hk => hk) trivial (Below.refl _ _) (Nat.le_refl _) (by simp) ?_; (case hd => rfl); (case hg => rfl); (case hr => first | (go_simp; done) | (go_simp; rfl)); (case hp => exact (Reps.one (show Kd.M (Kd.int .i64) _ _ _ 0 [.int .i64 0] from rfl) (Reps.one (show Kd.M (Kd.int .i64) _ _ _ (-1) [.int .i64 (-1)] from rfl) (Reps.one (show Kd.M (Kd.int .i64) _ _ _ 1000000 [.int .i64 1000000] from rfl) (Reps.one (show Kd.M (Kd.int .i64) _ _ _ 1000001 [.int .i64 1000001] from rfl) (Reps.none _ _)))))); intro v291 w31 ho32 hb hg_ hnew_; clear hg_ hnew_; (first | rw [← Ny290.out] at ho32 | (simp only [Int.reduceToNat] at ho32; rw [← Ny290.out] at ho32)); have n0_ := Aside0.mk (Kd.R_lower ho32 (keep_size (w := w) (g := g) (row := none) q_K)); have n1_ := Aside0.mk (IsS129.below q_I129_0_1 hb); have n2_ := Aside0.mk (blk_below (q_b BK275.out) hb); have n3_ := Aside0.mk (blk_below (q_b BK281.out) hb); have n4_ := Aside0.mk (KeepBut.trans q_K (KeepBut.of_below hb g none) (.inl rfl)); have n5_ := Aside0.mk (below_step q_B129_0 hb); revert n0_ n1_ n2_ n3_ n4_ n5_; clear HI0 BK275 BK281 HK HB; intro HO292 HI0 BK275 BK281 HK HB; clear hb ho32; obtain ⟨Ao33, co33, eo33⟩ := Kd.R_slice HO292.out; subst eo33) | ((with_reducible refine gate_callee (f := 83) rfl ?_); refine goesLq (some 20) rfl rfl Try.func83 (by kernel_rfl) rfl #[.pointer (some ⟨g, 0, none⟩), .slice Ao33 y290.length co33] rfl ?_; (with_reducible refine (spec_l1Pick.calls g s0_0 t283 _ _ y290 t293 t294 w0 _ ?side1 ?side2 ?side3 ?side4 ?side5 A23.out).mono ?_); (case side1 => repeat (first | (with_reducible first | exact HI0.out | apply IsS129.alloc | apply IsS129.drewN | apply IsS129.drew | apply IsS129.set_1 | refine IsS129.far ?_ NB0_275.out _ | refine IsS129.far ?_ NB0_281.out _) | exact HI0.out)); (case side2 => repeat (first | (with_reducible first | exact HB.out | apply below_alloc | apply pw_below_drewN | apply below_drew1 | refine below_set ?_ (IsS129.ge HI0.out) | refine below_set ?_ GE275.out | refine below_set ?_ GE281.out) | exact HB.out)); (case side3 => exact q_c ((Kd.R_reads' HO292.out).2.2)); (case side4 => exact (Kd.R_reads' HO292.out).2.1); (case side5 => exact far_slice (IsS129.own_ne HI0.out HO292.out (by decide))); rintro e w34 ⟨rfl, hi, hb, hk⟩; refine ⟨_, rfl, ?_⟩; have n0_ := Aside0.mk (KeepBut.blk hk (g' := gb275) (o := .cells #[.string (⟨#[]⟩ : ByteArray), .int .i64 0, .string (⟨#[]⟩ : ByteArray), .bool false] 49 (0, 0)) kq NB275_0.out (by simp)); have n1_ := Aside0.mk (KeepBut.blk hk (g' := gb281) (o := .cells #[.string t276, .int .i64 t277, .string t278, .bool t279] 49 (0, 0)) kq NB281_0.out (by simp)); have n2_ := Aside0.mk (Kd.R_mono (Kd.R_keep (IsS129.apart (show IsS129 w0 _ g s0_0 t283 from q_I129_0_1) (q_r (HO292.out)) (by decide)) hk (fun _ h => h.2)) (fun _ h => h.1)); have n3_ := Aside0.mk (KeepBut.trans q_K hk (.inl rfl)); have n4_ := Aside0.mk (hb); have n5_ := Aside0.mk (hi); revert n0_ n1_ n2_ n3_ n4_ n5_; clear BK275 BK281 HO292 HK HB HI0; intro BK275 BK281 HO292 HK HB HI0; (try clear hb); (try clear hb2); (try clear hk); (try clear hi); obtain ⟨hcz35_0, hcz35_1, hcz35_2, hcz35_3, hfz35_0, hfz35_1, hfz35_2, hfz35_3⟩ := q_4 BK281.out; have hnb36 := NB275_0.out; have hnc36 := NB0_275.out; obtain ⟨hcz37_0, hcz37_1, hcz37_2, hcz37_3, hfz37_0, hfz37_1, hfz37_2, hfz37_3⟩ := q_4 BK275.out))
   refine bodyPost_ret (results_cell_row rfl _ _ gb275 49 #[.string t276, .int .i64 t293, .string t278, .bool t279] (0, 0) _ rfl (by (with_reducible repeat (first | refine blk_drewN ?_ _ | refine blk_drew ?_ | refine blk_alloc ?_ _)); refine blk_put (cs := #[.string t276, .int .i64 t293, .string t278, .bool false]) ?_ 3 _ rfl; (with_reducible repeat (first | refine blk_drewN ?_ _ | refine blk_drew ?_ | refine blk_alloc ?_ _)); refine blk_put (cs := #[.string t276, .int .i64 t293, .string (⟨#[]⟩ : ByteArray), .bool false]) ?_ 2 _ rfl; (with_reducible repeat (first | refine blk_drewN ?_ _ | refine blk_drew ?_ | refine blk_alloc ?_ _)); refine blk_put (cs := #[.string t276, .int .i64 0, .string (⟨#[]⟩ : ByteArray), .bool false]) ?_ 1 _ rfl; (with_reducible repeat (first | refine blk_drewN ?_ _ | refine blk_drew ?_ | refine blk_alloc ?_ _)); refine blk_put (cs := #[.string (⟨#[]⟩ : ByteArray), .int .i64 0, .string (⟨#[]⟩ : ByteArray), .bool false]) ?_ 0 _ rfl; (with_reducible repeat (first | refine blk_drewN ?_ _ | refine blk_drew ?_ | refine blk_alloc ?_ _)); refine blk_far ?_ NB275_281.out _; (with_reducible repeat (first | refine blk_drewN ?_ _ | refine blk_drew ?_ | refine blk_alloc ?_ _)); exact BK275.out) Try.underlying49 rfl (by kernel_rfl)) rfl ?_
   exact ⟨q_e, q_I129_0_1, q_B129_0, q_K⟩
  ·rw [if_neg c22] at H
   have c22b0 : (t282 == 1) = false := beq_eq_false_iff_ne.mpr c22
   have c22b1 : (t282 != 1) = true := bne_iff_ne.mpr c22
   by_cases c38 : t282 = 2
   ·rw [if_pos c38] at H
    have c38b0 : (t282 == 2) = true := beq_iff_eq.mpr c38
    have c38b1 : (t282 != 2) = false := bne_eq_false_iff_eq.mpr c38
    clear c38
    have H' := Aside0.mk H
    clear H
    go_enter Try.func117, Try.ntmps117
    go_wp2_with (first | ((with_reducible refine gate_dst (N := 2) rfl ?_); refine q_box (N := 2) (cs := #[.string (⟨#[]⟩ : ByteArray), .int .i64 0, .string (⟨#[]⟩ : ByteArray), .bool false]) (t := 49) ?_; intro gb275 hg w39 hbox hb; have n0_ := Aside0.mk (IsS129.below q_I129_0_1 hb); have n1_ := Aside0.mk (KeepBut.trans q_K (KeepBut.of_below hb g none) (.inl rfl)); have n2_ := Aside0.mk (below_step q_B129_0 hb); have n3_ := Aside0.mk (hbox); have n4_ := Aside0.mk ((by rw [hg]; exact (keep_size (w := w) (g := g) (row := none) q_K) : w.heap.size ≤ gb275)); have n5_ := Aside0.mk ((Nat.le_trans HW0.out (by rw [hg]; exact (keep_size (w := w) (g := g) (row := none) q_K) : w.heap.size ≤ gb275) : w0.heap.size ≤ gb275)); have n6_ := Aside0.mk ((by rw [hg]; exact Nat.ne_of_lt (IsS129.lt (show IsS129 w0 _ g s0_0 s0_1 from q_I129_0_1)) : g ≠ gb275)); have n7_ := Aside0.mk ((by rw [hg]; exact Nat.ne_of_gt (IsS129.lt (show IsS129 w0 _ g s0_0 s0_1 from q_I129_0_1)) : gb275 ≠ g)); revert n0_ n1_ n2_ n3_ n4_ n5_ n6_ n7_; clear HI0 HK HB; intro HI0 HK HB BK275 GW275 GE275 NB0_275 NB275_0; clear hb hbox hg) | ((with_reducible refine gate_callee (f := 116) rfl ?_); refine goesLq (some 5) rfl rfl Try.func116 (by kernel_rfl) rfl #[.pointer (some ⟨g, 0, none⟩)] rfl ?_; (with_reducible refine (spec_l5Row.calls g s0_0 s0_1 t276 t277 t278 t279 t280 w0 _ ?side1 ?side2 A2.out).mono ?_); (case side1 => repeat (first | (with_reducible first | exact HI0.out | apply IsS129.alloc | apply IsS129.drewN | apply IsS129.drew | apply IsS129.set_1 | refine IsS129.far ?_ NB0_275.out _) | exact HI0.out)); (case side2 => repeat (first | (with_reducible first | exact HB.out | apply below_alloc | apply pw_below_drewN | apply below_drew1 | refine below_set ?_ (IsS129.ge HI0.out) | refine below_set ?_ GE275.out) | exact HB.out)); rintro e w40 ⟨rfl, hi, hb, hk⟩; refine ⟨_, rfl, ?_⟩; have n0_ := Aside0.mk (KeepBut.blk hk (g' := gb275) (o := .cells #[.string (⟨#[]⟩ : ByteArray), .int .i64 0, .string (⟨#[]⟩ : ByteArray), .bool false] 49 (0, 0)) kq NB275_0.out (by simp)); have n1_ := Aside0.mk (KeepBut.trans q_K hk (.inl rfl)); have n2_ := Aside0.mk (hb); have n3_ := Aside0.mk (hi); revert n0_ n1_ n2_ n3_; clear BK275 HK HB HI0; intro BK275 HK HB HI0; (try clear hb); (try clear hb2); (try clear hk); (try clear hi)) | ((with_reducible refine gate_dst (N := 3) rfl ?_); refine q_box (N := 3) (cs := #[.string (⟨#[]⟩ : ByteArray), .int .i64 0, .string (⟨#[]⟩ : ByteArray), .bool false]) (t := 49) ?_; intro gb281 hg w41 hbox hb; have n0_ := Aside0.mk (IsS129.below q_I129_0_1 hb); have n1_ := Aside0.mk (blk_below (q_b BK275.out) hb); have n2_ := Aside0.mk (KeepBut.trans q_K (KeepBut.of_below hb g none) (.inl rfl)); have n3_ := Aside0.mk (below_step q_B129_0 hb); have n4_ := Aside0.mk (hbox); have n5_ := Aside0.mk ((by rw [hg]; exact (keep_size (w := w) (g := g) (row := none) q_K) : w.heap.size ≤ gb281)); have n6_ := Aside0.mk ((Nat.le_trans HW0.out (by rw [hg]; exact (keep_size (w := w) (g := g) (row := none) q_K) : w.heap.size ≤ gb281) : w0.heap.size ≤ gb281)); have n7_ := Aside0.mk ((q_n hg (q_b BK275.out) : gb275 ≠ gb281)); have n8_ := Aside0.mk ((q_m hg (q_b BK275.out) : gb281 ≠ gb275)); have n9_ := Aside0.mk ((by rw [hg]; exact Nat.ne_of_lt (IsS129.lt (show IsS129 w0 _ g s0_0 t280 from q_I129_0_1)) : g ≠ gb281)); have n10_ := Aside0.mk ((by rw [hg]; exact Nat.ne_of_gt (IsS129.lt (show IsS129 w0 _ g s0_0 t280 from q_I129_0_1)) : gb281 ≠ g)); revert n0_ n1_ n2_ n3_ n4_ n5_ n6_ n7_ n8_ n9_ n10_; clear HI0 BK275 HK HB; intro HI0 BK275 HK HB BK281 GW281 GE281 NB275_281 NB281_275 NB0_281 NB281_0; clear hb hbox hg; have hnb42 := NB281_275.out; have hnc42 := NB275_281.out; have hnb43 := NB281_0.out; have hnc43 := NB0_281.out; obtain ⟨hcz44_0, hcz44_1, hcz44_2, hcz44_3, hfz44_0, hfz44_1, hfz44_2, hfz44_3⟩ := q_4 BK281.out) | ((with_reducible refine gate_callee (f := 84) rfl ?_); refine goesLq (some 7) rfl rfl Try.func84 (by kernel_rfl) rfl #[.pointer (some ⟨g, 0, none⟩), .int .i64 12] rfl ?_; (with_reducible refine (spec_l1Next.calls g s0_0 t280 12 t282 t283 w0 _ ?side1 ?side2 A3.out).mono ?_); (case side1 => repeat (first | (with_reducible first | exact HI0.out | apply IsS129.alloc | apply IsS129.drewN | apply IsS129.drew | apply IsS129.set_1 | refine IsS129.far ?_ NB0_275.out _ | refine IsS129.far ?_ NB0_281.out _) | exact HI0.out)); (case side2 => repeat (first | (with_reducible first | exact HB.out | apply below_alloc | apply pw_below_drewN | apply below_drew1 | refine below_set ?_ (IsS129.ge HI0.out) | refine below_set ?_ GE275.out | refine below_set ?_ GE281.out) | exact HB.out)); rintro e w45 ⟨rfl, hi, hb, hk⟩; refine ⟨_, rfl, ?_⟩; have n0_ := Aside0.mk (KeepBut.blk hk (g' := gb275) (o := .cells #[.string (⟨#[]⟩ : ByteArray), .int .i64 0, .string (⟨#[]⟩ : ByteArray), .bool false] 49 (0, 0)) (by (with_reducible repeat (first | refine blk_drewN ?_ _ | refine blk_drew ?_ | refine blk_alloc ?_ _)); refine blk_far ?_ NB275_281.out _; (with_reducible repeat (first | refine blk_drewN ?_ _ | refine blk_drew ?_ | refine blk_alloc ?_ _)); refine blk_far ?_ NB275_281.out _; (with_reducible repeat (first | refine blk_drewN ?_ _ | refine blk_drew ?_ | refine blk_alloc ?_ _)); refine blk_far ?_ NB275_281.out _; (with_reducible repeat (first | refine blk_drewN ?_ _ | refine blk_drew ?_ | refine blk_alloc ?_ _)); refine blk_far ?_ NB275_281.out _; (with_reducible repeat (first | refine blk_drewN ?_ _ | refine blk_drew ?_ | refine blk_alloc ?_ _)); exact BK275.out) NB275_0.out (by simp)); have n1_ := Aside0.mk (KeepBut.blk hk (g' := gb281) (o := .cells #[.string t276, .int .i64 t277, .string t278, .bool t279] 49 (0, 0)) (by (with_reducible repeat (first | refine blk_drewN ?_ _ | refine blk_drew ?_ | refine blk_alloc ?_ _)); refine blk_put (cs := #[.string t276, .int .i64 t277, .string t278, .bool false]) ?_ 3 _ rfl; (with_reducible repeat (first | refine blk_drewN ?_ _ | refine blk_drew ?_ | refine blk_alloc ?_ _)); refine blk_put (cs := #[.string t276, .int .i64 t277, .string (⟨#[]⟩ : ByteArray), .bool false]) ?_ 2 _ rfl; (with_reducible repeat (first | refine blk_drewN ?_ _ | refine blk_drew ?_ | refine blk_alloc ?_ _)); refine blk_put (cs := #[.string t276, .int .i64 0, .string (⟨#[]⟩ : ByteArray), .bool false]) ?_ 1 _ rfl; (with_reducible repeat (first | refine blk_drewN ?_ _ | refine blk_drew ?_ | refine blk_alloc ?_ _)); refine blk_put (cs := #[.string (⟨#[]⟩ : ByteArray), .int .i64 0, .string (⟨#[]⟩ : ByteArray), .bool false]) ?_ 0 _ rfl; (with_reducible repeat (first | refine blk_drewN ?_ _ | refine blk_drew ?_ | refine blk_alloc ?_ _)); exact BK281.out) NB281_0.out (by simp)); have n2_ := Aside0.mk (KeepBut.trans q_K hk (.inl rfl)); have n3_ := Aside0.mk (hb); have n4_ := Aside0.mk (hi); revert n0_ n1_ n2_ n3_ n4_; clear BK275 BK281 HK HB HI0; intro BK275 BK281 HK HB HI0; (try clear hb); (try clear hb2); (try clear hk); (try clear hi)))
    go_loopg [] k (fun kq w' => ∃ (x1001_1 : Int) (x282002_1 : ByteArray), Aside0 (spec_l5Bent.l0 kq s0_0 x1001_1 t276 t277 x282002_1 t279 = some (r1, r2, r3, r4, r5)) ∧ Aside0 (kq ≤ k) ∧ Aside0 (w'.heap[gb275]? = some (.cells #[.string (⟨#[]⟩ : ByteArray), .int .i64 0, .string (⟨#[]⟩ : ByteArray), .bool false] 49 (0, 0))) ∧ Aside0 (w'.heap[gb281]? = some (.cells #[.string t276, .int .i64 t277, .string x282002_1, .bool t279] 49 (0, 0))) ∧ Aside0 (IsS129 w0 w' g s0_0 x1001_1) ∧ Aside0 (KeepBut w w' g none) ∧ Aside0 (Below w0.heap.size w0 w'))
    case atStart => exact ⟨(t283), (t278), H', ⟨Nat.le_refl _⟩, ⟨q_b BK275.out⟩, ⟨q_b BK281.out⟩, ⟨q_I129_0_1⟩, ⟨q_K⟩, ⟨q_B129_0⟩⟩
    case round =>
     clear H'
     (try clear c1); (try clear c2); (try clear p2); (try clear q2); (try clear hx2); (try clear c3); (try clear c4); (try clear c4b0); (try clear c4b1); (try clear c6); (try clear c6b0); (try clear c7)
     (try clear c7b0); (try clear c8); (try clear c11); (try clear c12); (try clear c20); (try clear c22); (try clear c22b0); (try clear c22b1); (try clear c27); (try clear c28); (try clear p28); (try clear q28)
     (try clear hx28); (try clear c36); (try clear c38); (try clear c38b0); (try clear c38b1); (try clear c42); (try clear c43); (try clear hcz13_0); (try clear hcz13_1); (try clear hcz13_2); (try clear hcz13_3)
     (try clear hcz19_0); (try clear hcz19_1); (try clear hcz19_2); (try clear hcz19_3); (try clear hcz21_0); (try clear hcz21_1); (try clear hcz21_2); (try clear hcz21_3); (try clear hcz29_0); (try clear hcz29_1)
     (try clear hcz29_2); (try clear hcz29_3); (try clear hcz35_0); (try clear hcz35_1); (try clear hcz35_2); (try clear hcz35_3); (try clear hcz37_0); (try clear hcz37_1); (try clear hcz37_2); (try clear hcz37_3)
     (try clear hcz44_0); (try clear hcz44_1); (try clear hcz44_2); (try clear hcz44_3); (try clear hfz13_0); (try clear hfz13_1); (try clear hfz13_2); (try clear hfz13_3); (try clear hfz19_0); (try clear hfz19_1)
     (try clear hfz19_2); (try clear hfz19_3); (try clear hfz21_0); (try clear hfz21_1); (try clear hfz21_2); (try clear hfz21_3); (try clear hfz29_0); (try clear hfz29_1); (try clear hfz29_2); (try clear hfz29_3)
     (try clear hfz35_0); (try clear hfz35_1); (try clear hfz35_2); (try clear hfz35_3); (try clear hfz37_0); (try clear hfz37_1); (try clear hfz37_2); (try clear hfz37_3); (try clear hfz44_0); (try clear hfz44_1)
     (try clear hfz44_2); (try clear hfz44_3); (try clear hx289_0); (try clear p289); (try clear q289)
     obtain ⟨x1001_1, x282002_1, HA, HK1, BK275, BK281, HI0, HK, HB⟩ := hrel
     cases gk with
     | zero => exact absurd HA.out (by simp [spec_l5Bent.l0])
     | succ k1 =>
      have H := HA.out
      clear HA
      simp only [spec_l5Bent.l0] at H
      replace H := Option.bind_eq_some_iff.mp H
      obtain ⟨⟨t295, t296⟩, A460, H⟩ := H
      replace H : (if (x282002_1.size : Int) < (wrap64 (100 + t295)) then (if x282002_1.size + 1 ≤ 9223372036854775807 then (spec_l5Bent.l0 k1 s0_0 t296 t276 t277 (x282002_1 ++ (⟨#[118]⟩ : ByteArray)) t279) else (none)) else (some (t276, t277, x282002_1, t279, t296))) = some (r1, r2, r3, r4, r5) := H
      have A46 := Aside0.mk A460
      clear A460
      by_cases c47 : (x282002_1.size : Int) < (wrap64 (100 + t295))
      ·rw [if_pos c47] at H
       have c47b0 := decide_eq_true c47
       clear c47
       by_cases c48 : x282002_1.size + 1 ≤ 9223372036854775807
       ·rw [if_pos c48] at H
        have c48b0 := eq_true c48
        have c48b1 := decide_eq_true c48
        try have c48b2 : (9223372036854775807 < x282002_1.size + 1) = False := eq_false (Nat.not_lt.2 c48)
        have H' := Aside0.mk H
        clear H
        try go_wp2
        have n0_ := Aside0.mk (blk_drew BK275.out)
        have n1_ := Aside0.mk (blk_drew BK281.out)
        have n2_ := Aside0.mk (IsS129.drew HI0.out)
        have n3_ := Aside0.mk (keep_drew HK.out)
        have n4_ := Aside0.mk (below_drew1 HB.out)
        clear BK275
        clear BK281
        clear HI0
        clear HK
        clear HB
        have BK275 := n0_
        have BK281 := n1_
        have HI0 := n2_
        have HK := n3_
        have HB := n4_
        clear n0_ n1_ n2_ n3_ n4_
        refine start_ (n := 7) (S := fun w' => w'.cell? ⟨gb281, 0, none⟩ = some (.string t276) ∧ w'.cell? ⟨gb281, 1, none⟩ = some (.int .i64 t277) ∧ w'.cell? ⟨gb281, 2, none⟩ = some (.string x282002_1) ∧ w'.cell? ⟨gb281, 3, none⟩ = some (.bool t279)) (ds := []) #[false, false, false, false, false, false, false] (by kernel_rfl) rfl rfl ⟨q_z BK281.out 0, q_z BK281.out 1, q_z BK281.out 2, q_z BK281.out 3⟩ (fun hHeld => ?_)
        generalize wr.drew = w49 at BK275 BK281 HI0 HK HB hHeld ⊢
        refine pure_ (i := 0) (N := some 24) (v := ?_) (a' := ?_) #[true, false, false, false, false, false, false] rfl rfl (by kernel_rfl) (fun _ _ _ h => h) (Or.inl ⟨by rfl, ?_⟩) ?_ ?_
        rotate_left
        ·intro w'
         go_simp
         with_reducible rfl
        rotate_left
        ·simp only [Act.put, List.setIfInBounds_toArray, List.set_cons_zero, List.set_cons_succ, i64_w, i32_w]
         rfl
        refine pure_ (i := 3) (N := some 27) (v := ?_) (a' := ?_) #[true, false, false, true, false, false, false] rfl rfl (by kernel_rfl) (fun _ _ _ h => h) (Or.inl ⟨by rfl, ?_⟩) ?_ ?_
        rotate_left
        ·intro w'
         go_simp
         with_reducible rfl
        rotate_left
        ·simp only [Act.put, List.setIfInBounds_toArray, List.set_cons_zero, List.set_cons_succ, i64_w, i32_w]
         rfl
        refine take_ (i := 1) (N := some 25) (v := ?_) (a' := ?_) #[true, true, false, true, false, false, false] rfl rfl (by kernel_rfl) (fun _ _ _ h => h) (Or.inl ⟨by rfl, ?_⟩) hHeld ?_ ?_
        rotate_left
        ·rintro w' ⟨s0, s1, s2, s3⟩
         go_simp
         with_reducible rfl
        rotate_left
        ·simp only [Act.put, List.setIfInBounds_toArray, List.set_cons_zero, List.set_cons_succ, i64_w, i32_w]
         rfl
        refine pure_ (i := 2) (N := some 26) (v := ?_) (a' := ?_) #[true, true, true, true, false, false, false] rfl rfl (by kernel_rfl) (fun _ _ _ h => h) (Or.inl ⟨by rfl, ?_⟩) ?_ ?_
        rotate_left
        ·intro w'
         go_simp
         with_reducible rfl
        rotate_left
        ·simp only [Act.put, List.setIfInBounds_toArray, List.set_cons_zero, List.set_cons_succ, i64_w, i32_w]
         rfl
        refine one_ (i := 4) (N := some 28) #[true, true, true, true, true, false, false] rfl rfl (by kernel_rfl) (by decide) (fun K hK => ?_)
        refine goes_ Try.func84 (by kernel_rfl) rfl #[.pointer (some ⟨g, 0, none⟩), .int .i64 2] (by rfl) rfl rfl (by (try simp only [List.map_toArray, List.map_cons, List.map_nil]); first | done | rfl | (simp only [List.length_drop, List.length_take]; rfl)) ?_
        with_reducible refine (spec_l1Next.calls g s0_0 x1001_1 2 t295 t296 w0 _ ?side1 ?side2 A46.out).mono ?_
        (case side1 => repeat (first | (with_reducible first | exact HI0.out | apply IsS129.alloc | apply IsS129.drewN | apply IsS129.drew | apply IsS129.set_1 | refine IsS129.far ?_ NB0_275.out _ | refine IsS129.far ?_ NB0_281.out _) | exact HI0.out))
        (case side2 => repeat (first | (with_reducible first | exact HB.out | apply below_alloc | apply pw_below_drewN | apply below_drew1 | refine below_set ?_ (IsS129.ge HI0.out) | refine below_set ?_ GE275.out | refine below_set ?_ GE281.out) | exact HB.out))
        rintro e w50 ⟨rfl, hi, hb, hk⟩
        refine ⟨_, rfl, ?_⟩
        have n0_ := Aside0.mk (KeepBut.blk hk (g' := gb275) (o := .cells #[.string (⟨#[]⟩ : ByteArray), .int .i64 0, .string (⟨#[]⟩ : ByteArray), .bool false] 49 (0, 0)) kq NB275_0.out (by simp))
        have n1_ := Aside0.mk (KeepBut.blk hk (g' := gb281) (o := .cells #[.string t276, .int .i64 t277, .string x282002_1, .bool t279] 49 (0, 0)) kq NB281_0.out (by simp))
        have n2_ := Aside0.mk (KeepBut.trans q_K hk (.inl rfl))
        have n3_ := Aside0.mk (hb)
        have n4_ := Aside0.mk (hi)
        clear BK275
        clear BK281
        clear HK
        clear HB
        clear HI0
        have BK275 := n0_
        have BK281 := n1_
        have HK := n2_
        have HB := n3_
        have HI0 := n4_
        clear n0_ n1_ n2_ n3_ n4_
        (try clear hb)
        (try clear hb2)
        (try clear hk)
        (try clear hi)
        refine hK.out _ _ ⟨q_z BK281.out 0, q_z BK281.out 1, q_z BK281.out 2, q_z BK281.out 3⟩ (fun hHeld => ?_)
        clear hK K
        refine norm_ (a' := ?_) ?_ ?_
        rotate_left
        ·show Act.put _ (some 28) _ = _
         simp only [Act.put, List.setIfInBounds_toArray, List.set_cons_zero, List.set_cons_succ, i64_w, i32_w]
         rfl
        refine pure_ (i := 5) (N := some 29) (v := ?_) (a' := ?_) #[true, true, true, true, true, true, false] rfl rfl (by kernel_rfl) (fun _ _ _ h => h) (Or.inl ⟨by rfl, ?_⟩) ?_ ?_
        rotate_left
        ·intro w'
         go_simp
         with_reducible rfl
        rotate_left
        ·simp only [Act.put, List.setIfInBounds_toArray, List.set_cons_zero, List.set_cons_succ, i64_w, i32_w]
         rfl
        refine pure_ (i := 6) (N := some 30) (v := ?_) (a' := ?_) #[true, true, true, true, true, true, true] rfl rfl (by kernel_rfl) (fun _ _ _ h => h) (Or.inl ⟨by rfl, ?_⟩) ?_ ?_
        rotate_left
        ·intro w'
         go_simp
         with_reducible rfl
        rotate_left
        ·simp only [Act.put, List.setIfInBounds_toArray, List.set_cons_zero, List.set_cons_succ, i64_w, i32_w]
         rfl
        refine done_ (by kernel_rfl) ?_
        have hnb51 := NB281_275.out
        have hnc51 := NB275_281.out
        have hnb52 := NB281_0.out
        have hnc52 := NB0_281.out
        obtain ⟨hcz53_0, hcz53_1, hcz53_2, hcz53_3, hfz53_0, hfz53_1, hfz53_2, hfz53_3⟩ := q_4 BK281.out
        try go_wp2
        go_roundg k1
        case measure => have := HK1.out; omega
        case rel => exact ⟨(t296), (x282002_1 ++ (⟨#[118]⟩ : ByteArray)), H', ⟨by have := HK1.out; omega⟩, ⟨by (with_reducible repeat (first | refine blk_drewN ?_ _ | refine blk_drew ?_ | refine blk_alloc ?_ _)); refine blk_far ?_ NB275_281.out _; (with_reducible repeat (first | refine blk_drewN ?_ _ | refine blk_drew ?_ | refine blk_alloc ?_ _)); exact BK275.out⟩, ⟨by (with_reducible repeat (first | refine blk_drewN ?_ _ | refine blk_drew ?_ | refine blk_alloc ?_ _)); refine blk_put (cs := #[.string t276, .int .i64 t277, .string x282002_1, .bool t279]) ?_ 2 _ rfl; (with_reducible repeat (first | refine blk_drewN ?_ _ | refine blk_drew ?_ | refine blk_alloc ?_ _)); exact BK281.out⟩, ⟨q_I129_0_1⟩, ⟨q_K⟩, ⟨q_B129_0⟩⟩
       ·rw [if_neg c48] at H
        exact absurd H (by simp)
      ·rw [if_neg c47] at H
       have c47b0 := decide_eq_false c47
       clear c47
       simp only [Option.some.injEq, Prod.mk.injEq] at H
       obtain ⟨rfl, rfl, rfl, rfl, rfl⟩ := H
       try go_wp2
       have n0_ := Aside0.mk (blk_drew BK275.out)
       have n1_ := Aside0.mk (blk_drew BK281.out)
       have n2_ := Aside0.mk (IsS129.drew HI0.out)
       have n3_ := Aside0.mk (keep_drew HK.out)
       have n4_ := Aside0.mk (below_drew1 HB.out)
       clear BK275
       clear BK281
       clear HI0
       clear HK
       clear HB
       have BK275 := n0_
       have BK281 := n1_
       have HI0 := n2_
       have HK := n3_
       have HB := n4_
       clear n0_ n1_ n2_ n3_ n4_
       refine start_ (n := 7) (S := fun w' => w'.cell? ⟨gb281, 0, none⟩ = some (.string t276) ∧ w'.cell? ⟨gb281, 1, none⟩ = some (.int .i64 t277) ∧ w'.cell? ⟨gb281, 2, none⟩ = some (.string x282002_1) ∧ w'.cell? ⟨gb281, 3, none⟩ = some (.bool t279)) (ds := []) #[false, false, false, false, false, false, false] (by kernel_rfl) rfl rfl ⟨q_z BK281.out 0, q_z BK281.out 1, q_z BK281.out 2, q_z BK281.out 3⟩ (fun hHeld => ?_)
       generalize wr.drew = w54 at BK275 BK281 HI0 HK HB hHeld ⊢
       refine pure_ (i := 0) (N := some 24) (v := ?_) (a' := ?_) #[true, false, false, false, false, false, false] rfl rfl (by kernel_rfl) (fun _ _ _ h => h) (Or.inl ⟨by rfl, ?_⟩) ?_ ?_
       rotate_left
       ·intro w'
        go_simp
        with_reducible rfl
       rotate_left
       ·simp only [Act.put, List.setIfInBounds_toArray, List.set_cons_zero, List.set_cons_succ, i64_w, i32_w]
        rfl
       refine pure_ (i := 3) (N := some 27) (v := ?_) (a' := ?_) #[true, false, false, true, false, false, false] rfl rfl (by kernel_rfl) (fun _ _ _ h => h) (Or.inl ⟨by rfl, ?_⟩) ?_ ?_
       rotate_left
       ·intro w'
        go_simp
        with_reducible rfl
       rotate_left
       ·simp only [Act.put, List.setIfInBounds_toArray, List.set_cons_zero, List.set_cons_succ, i64_w, i32_w]
        rfl
       refine take_ (i := 1) (N := some 25) (v := ?_) (a' := ?_) #[true, true, false, true, false, false, false] rfl rfl (by kernel_rfl) (fun _ _ _ h => h) (Or.inl ⟨by rfl, ?_⟩) hHeld ?_ ?_
       rotate_left
       ·rintro w' ⟨s0, s1, s2, s3⟩
        go_simp
        with_reducible rfl
       rotate_left
       ·simp only [Act.put, List.setIfInBounds_toArray, List.set_cons_zero, List.set_cons_succ, i64_w, i32_w]
        rfl
       refine pure_ (i := 2) (N := some 26) (v := ?_) (a' := ?_) #[true, true, true, true, false, false, false] rfl rfl (by kernel_rfl) (fun _ _ _ h => h) (Or.inl ⟨by rfl, ?_⟩) ?_ ?_
       rotate_left
       ·intro w'
        go_simp
        with_reducible rfl
       rotate_left
       ·simp only [Act.put, List.setIfInBounds_toArray, List.set_cons_zero, List.set_cons_succ, i64_w, i32_w]
        rfl
       refine one_ (i := 4) (N := some 28) #[true, true, true, true, true, false, false] rfl rfl (by kernel_rfl) (by decide) (fun K hK => ?_)
       refine goes_ Try.func84 (by kernel_rfl) rfl #[.pointer (some ⟨g, 0, none⟩), .int .i64 2] (by rfl) rfl rfl (by (try simp only [List.map_toArray, List.map_cons, List.map_nil]); first | done | rfl | (simp only [List.length_drop, List.length_take]; rfl)) ?_
       with_reducible refine (spec_l1Next.calls g s0_0 x1001_1 2 t295 t296 w0 _ ?side1 ?side2 A46.out).mono ?_
       (case side1 => repeat (first | (with_reducible first | exact HI0.out | apply IsS129.alloc | apply IsS129.drewN | apply IsS129.drew | apply IsS129.set_1 | refine IsS129.far ?_ NB0_275.out _ | refine IsS129.far ?_ NB0_281.out _) | exact HI0.out))
       (case side2 => repeat (first | (with_reducible first | exact HB.out | apply below_alloc | apply pw_below_drewN | apply below_drew1 | refine below_set ?_ (IsS129.ge HI0.out) | refine below_set ?_ GE275.out | refine below_set ?_ GE281.out) | exact HB.out))
       rintro e w55 ⟨rfl, hi, hb, hk⟩
       refine ⟨_, rfl, ?_⟩
       have n0_ := Aside0.mk (KeepBut.blk hk (g' := gb275) (o := .cells #[.string (⟨#[]⟩ : ByteArray), .int .i64 0, .string (⟨#[]⟩ : ByteArray), .bool false] 49 (0, 0)) kq NB275_0.out (by simp))
       have n1_ := Aside0.mk (KeepBut.blk hk (g' := gb281) (o := .cells #[.string t276, .int .i64 t277, .string x282002_1, .bool t279] 49 (0, 0)) kq NB281_0.out (by simp))
       have n2_ := Aside0.mk (KeepBut.trans q_K hk (.inl rfl))
       have n3_ := Aside0.mk (hb)
       have n4_ := Aside0.mk (hi)
       clear BK275
       clear BK281
       clear HK
       clear HB
       clear HI0
       have BK275 := n0_
       have BK281 := n1_
       have HK := n2_
       have HB := n3_
       have HI0 := n4_
       clear n0_ n1_ n2_ n3_ n4_
       (try clear hb)
       (try clear hb2)
       (try clear hk)
       (try clear hi)
       refine hK.out _ _ ⟨q_z BK281.out 0, q_z BK281.out 1, q_z BK281.out 2, q_z BK281.out 3⟩ (fun hHeld => ?_)
       clear hK K
       refine norm_ (a' := ?_) ?_ ?_
       rotate_left
       ·show Act.put _ (some 28) _ = _
        simp only [Act.put, List.setIfInBounds_toArray, List.set_cons_zero, List.set_cons_succ, i64_w, i32_w]
        rfl
       refine pure_ (i := 5) (N := some 29) (v := ?_) (a' := ?_) #[true, true, true, true, true, true, false] rfl rfl (by kernel_rfl) (fun _ _ _ h => h) (Or.inl ⟨by rfl, ?_⟩) ?_ ?_
       rotate_left
       ·intro w'
        go_simp
        with_reducible rfl
       rotate_left
       ·simp only [Act.put, List.setIfInBounds_toArray, List.set_cons_zero, List.set_cons_succ, i64_w, i32_w]
        rfl
       refine pure_ (i := 6) (N := some 30) (v := ?_) (a' := ?_) #[true, true, true, true, true, true, true] rfl rfl (by kernel_rfl) (fun _ _ _ h => h) (Or.inl ⟨by rfl, ?_⟩) ?_ ?_
       rotate_left
       ·intro w'
        go_simp
        with_reducible rfl
       rotate_left
       ·simp only [Act.put, List.setIfInBounds_toArray, List.set_cons_zero, List.set_cons_succ, i64_w, i32_w]
        rfl
       refine done_ (by kernel_rfl) ?_
       have hnb56 := NB281_275.out
       have hnc56 := NB275_281.out
       have hnb57 := NB281_0.out
       have hnc57 := NB0_281.out
       obtain ⟨hcz58_0, hcz58_1, hcz58_2, hcz58_3, hfz58_0, hfz58_1, hfz58_2, hfz58_3⟩ := q_4 BK281.out
       have hnb59 := NB275_0.out
       have hnc59 := NB0_275.out
       obtain ⟨hcz60_0, hcz60_1, hcz60_2, hcz60_3, hfz60_0, hfz60_1, hfz60_2, hfz60_3⟩ := q_4 BK275.out
       try go_wp2
       refine bodyPost_ret (results_cell_row rfl _ _ gb275 49 #[.string t276, .int .i64 t277, .string x282002_1, .bool t279] (0, 0) _ rfl (by (with_reducible repeat (first | refine blk_drewN ?_ _ | refine blk_drew ?_ | refine blk_alloc ?_ _)); refine blk_put (cs := #[.string t276, .int .i64 t277, .string x282002_1, .bool false]) ?_ 3 _ rfl; (with_reducible repeat (first | refine blk_drewN ?_ _ | refine blk_drew ?_ | refine blk_alloc ?_ _)); refine blk_put (cs := #[.string t276, .int .i64 t277, .string (⟨#[]⟩ : ByteArray), .bool false]) ?_ 2 _ rfl; (with_reducible repeat (first | refine blk_drewN ?_ _ | refine blk_drew ?_ | refine blk_alloc ?_ _)); refine blk_put (cs := #[.string t276, .int .i64 0, .string (⟨#[]⟩ : ByteArray), .bool false]) ?_ 1 _ rfl; (with_reducible repeat (first | refine blk_drewN ?_ _ | refine blk_drew ?_ | refine blk_alloc ?_ _)); refine blk_put (cs := #[.string (⟨#[]⟩ : ByteArray), .int .i64 0, .string (⟨#[]⟩ : ByteArray), .bool false]) ?_ 0 _ rfl; (with_reducible repeat (first | refine blk_drewN ?_ _ | refine blk_drew ?_ | refine blk_alloc ?_ _)); exact BK275.out) Try.underlying49 rfl (by kernel_rfl)) rfl ?_
       exact ⟨q_e, q_I129_0_1, q_B129_0, q_K⟩
   ·rw [if_neg c38] at H
    have c38b0 : (t282 == 2) = false := beq_eq_false_iff_ne.mpr c38
    have c38b1 : (t282 != 2) = true := bne_iff_ne.mpr c38
    simp only [Option.some.injEq, Prod.mk.injEq] at H
    obtain ⟨rfl, rfl, rfl, rfl, rfl⟩ := H
    go_enter Try.func117, Try.ntmps117
    go_wp2_with (first | ((with_reducible refine gate_dst (N := 2) rfl ?_); refine q_box (N := 2) (cs := #[.string (⟨#[]⟩ : ByteArray), .int .i64 0, .string (⟨#[]⟩ : ByteArray), .bool false]) (t := 49) ?_; intro gb275 hg w61 hbox hb; have n0_ := Aside0.mk (IsS129.below q_I129_0_1 hb); have n1_ := Aside0.mk (KeepBut.trans q_K (KeepBut.of_below hb g none) (.inl rfl)); have n2_ := Aside0.mk (below_step q_B129_0 hb); have n3_ := Aside0.mk (hbox); have n4_ := Aside0.mk ((by rw [hg]; exact (keep_size (w := w) (g := g) (row := none) q_K) : w.heap.size ≤ gb275)); have n5_ := Aside0.mk ((Nat.le_trans HW0.out (by rw [hg]; exact (keep_size (w := w) (g := g) (row := none) q_K) : w.heap.size ≤ gb275) : w0.heap.size ≤ gb275)); have n6_ := Aside0.mk ((by rw [hg]; exact Nat.ne_of_lt (IsS129.lt (show IsS129 w0 _ g s0_0 s0_1 from q_I129_0_1)) : g ≠ gb275)); have n7_ := Aside0.mk ((by rw [hg]; exact Nat.ne_of_gt (IsS129.lt (show IsS129 w0 _ g s0_0 s0_1 from q_I129_0_1)) : gb275 ≠ g)); revert n0_ n1_ n2_ n3_ n4_ n5_ n6_ n7_; clear HI0 HK HB; intro HI0 HK HB BK275 GW275 GE275 NB0_275 NB275_0; clear hb hbox hg) | ((with_reducible refine gate_callee (f := 116) rfl ?_); refine goesLq (some 5) rfl rfl Try.func116 (by kernel_rfl) rfl #[.pointer (some ⟨g, 0, none⟩)] rfl ?_; (with_reducible refine (spec_l5Row.calls g s0_0 s0_1 t276 t277 t278 t279 t280 w0 _ ?side1 ?side2 A2.out).mono ?_); (case side1 => repeat (first | (with_reducible first | exact HI0.out | apply IsS129.alloc | apply IsS129.drewN | apply IsS129.drew | apply IsS129.set_1 | refine IsS129.far ?_ NB0_275.out _) | exact HI0.out)); (case side2 => repeat (first | (with_reducible first | exact HB.out | apply below_alloc | apply pw_below_drewN | apply below_drew1 | refine below_set ?_ (IsS129.ge HI0.out) | refine below_set ?_ GE275.out) | exact HB.out)); rintro e w62 ⟨rfl, hi, hb, hk⟩; refine ⟨_, rfl, ?_⟩; have n0_ := Aside0.mk (KeepBut.blk hk (g' := gb275) (o := .cells #[.string (⟨#[]⟩ : ByteArray), .int .i64 0, .string (⟨#[]⟩ : ByteArray), .bool false] 49 (0, 0)) kq NB275_0.out (by simp)); have n1_ := Aside0.mk (KeepBut.trans q_K hk (.inl rfl)); have n2_ := Aside0.mk (hb); have n3_ := Aside0.mk (hi); revert n0_ n1_ n2_ n3_; clear BK275 HK HB HI0; intro BK275 HK HB HI0; (try clear hb); (try clear hb2); (try clear hk); (try clear hi)) | ((with_reducible refine gate_dst (N := 3) rfl ?_); refine q_box (N := 3) (cs := #[.string (⟨#[]⟩ : ByteArray), .int .i64 0, .string (⟨#[]⟩ : ByteArray), .bool false]) (t := 49) ?_; intro gb281 hg w63 hbox hb; have n0_ := Aside0.mk (IsS129.below q_I129_0_1 hb); have n1_ := Aside0.mk (blk_below (q_b BK275.out) hb); have n2_ := Aside0.mk (KeepBut.trans q_K (KeepBut.of_below hb g none) (.inl rfl)); have n3_ := Aside0.mk (below_step q_B129_0 hb); have n4_ := Aside0.mk (hbox); have n5_ := Aside0.mk ((by rw [hg]; exact (keep_size (w := w) (g := g) (row := none) q_K) : w.heap.size ≤ gb281)); have n6_ := Aside0.mk ((Nat.le_trans HW0.out (by rw [hg]; exact (keep_size (w := w) (g := g) (row := none) q_K) : w.heap.size ≤ gb281) : w0.heap.size ≤ gb281)); have n7_ := Aside0.mk ((q_n hg (q_b BK275.out) : gb275 ≠ gb281)); have n8_ := Aside0.mk ((q_m hg (q_b BK275.out) : gb281 ≠ gb275)); have n9_ := Aside0.mk ((by rw [hg]; exact Nat.ne_of_lt (IsS129.lt (show IsS129 w0 _ g s0_0 t280 from q_I129_0_1)) : g ≠ gb281)); have n10_ := Aside0.mk ((by rw [hg]; exact Nat.ne_of_gt (IsS129.lt (show IsS129 w0 _ g s0_0 t280 from q_I129_0_1)) : gb281 ≠ g)); revert n0_ n1_ n2_ n3_ n4_ n5_ n6_ n7_ n8_ n9_ n10_; clear HI0 BK275 HK HB; intro HI0 BK275 HK HB BK281 GW281 GE281 NB275_281 NB281_275 NB0_281 NB281_0; clear hb hbox hg; have hnb64 := NB281_275.out; have hnc64 := NB275_281.out; have hnb65 := NB281_0.out; have hnc65 := NB0_281.out; obtain ⟨hcz66_0, hcz66_1, hcz66_2, hcz66_3, hfz66_0, hfz66_1, hfz66_2, hfz66_3⟩ := q_4 BK281.out) | ((with_reducible refine gate_callee (f := 84) rfl ?_); refine goesLq (some 7) rfl rfl Try.func84 (by kernel_rfl) rfl #[.pointer (some ⟨g, 0, none⟩), .int .i64 12] rfl ?_; (with_reducible refine (spec_l1Next.calls g s0_0 t280 12 t282 t283 w0 _ ?side1 ?side2 A3.out).mono ?_); (case side1 => repeat (first | (with_reducible first | exact HI0.out | apply IsS129.alloc | apply IsS129.drewN | apply IsS129.drew | apply IsS129.set_1 | refine IsS129.far ?_ NB0_275.out _ | refine IsS129.far ?_ NB0_281.out _) | exact HI0.out)); (case side2 => repeat (first | (with_reducible first | exact HB.out | apply below_alloc | apply pw_below_drewN | apply below_drew1 | refine below_set ?_ (IsS129.ge HI0.out) | refine below_set ?_ GE275.out | refine below_set ?_ GE281.out) | exact HB.out)); rintro e w67 ⟨rfl, hi, hb, hk⟩; refine ⟨_, rfl, ?_⟩; have n0_ := Aside0.mk (KeepBut.blk hk (g' := gb275) (o := .cells #[.string (⟨#[]⟩ : ByteArray), .int .i64 0, .string (⟨#[]⟩ : ByteArray), .bool false] 49 (0, 0)) (by (with_reducible repeat (first | refine blk_drewN ?_ _ | refine blk_drew ?_ | refine blk_alloc ?_ _)); refine blk_far ?_ NB275_281.out _; (with_reducible repeat (first | refine blk_drewN ?_ _ | refine blk_drew ?_ | refine blk_alloc ?_ _)); refine blk_far ?_ NB275_281.out _; (with_reducible repeat (first | refine blk_drewN ?_ _ | refine blk_drew ?_ | refine blk_alloc ?_ _)); refine blk_far ?_ NB275_281.out _; (with_reducible repeat (first | refine blk_drewN ?_ _ | refine blk_drew ?_ | refine blk_alloc ?_ _)); refine blk_far ?_ NB275_281.out _; (with_reducible repeat (first | refine blk_drewN ?_ _ | refine blk_drew ?_ | refine blk_alloc ?_ _)); exact BK275.out) NB275_0.out (by simp)); have n1_ := Aside0.mk (KeepBut.blk hk (g' := gb281) (o := .cells #[.string t276, .int .i64 t277, .string t278, .bool t279] 49 (0, 0)) (by (with_reducible repeat (first | refine blk_drewN ?_ _ | refine blk_drew ?_ | refine blk_alloc ?_ _)); refine blk_put (cs := #[.string t276, .int .i64 t277, .string t278, .bool false]) ?_ 3 _ rfl; (with_reducible repeat (first | refine blk_drewN ?_ _ | refine blk_drew ?_ | refine blk_alloc ?_ _)); refine blk_put (cs := #[.string t276, .int .i64 t277, .string (⟨#[]⟩ : ByteArray), .bool false]) ?_ 2 _ rfl; (with_reducible repeat (first | refine blk_drewN ?_ _ | refine blk_drew ?_ | refine blk_alloc ?_ _)); refine blk_put (cs := #[.string t276, .int .i64 0, .string (⟨#[]⟩ : ByteArray), .bool false]) ?_ 1 _ rfl; (with_reducible repeat (first | refine blk_drewN ?_ _ | refine blk_drew ?_ | refine blk_alloc ?_ _)); refine blk_put (cs := #[.string (⟨#[]⟩ : ByteArray), .int .i64 0, .string (⟨#[]⟩ : ByteArray), .bool false]) ?_ 0 _ rfl; (with_reducible repeat (first | refine blk_drewN ?_ _ | refine blk_drew ?_ | refine blk_alloc ?_ _)); exact BK281.out) NB281_0.out (by simp)); have n2_ := Aside0.mk (KeepBut.trans q_K hk (.inl rfl)); have n3_ := Aside0.mk (hb); have n4_ := Aside0.mk (hi); revert n0_ n1_ n2_ n3_ n4_; clear BK275 BK281 HK HB HI0; intro BK275 BK281 HK HB HI0; (try clear hb); (try clear hb2); (try clear hk); (try clear hi); obtain ⟨hcz68_0, hcz68_1, hcz68_2, hcz68_3, hfz68_0, hfz68_1, hfz68_2, hfz68_3⟩ := q_4 BK281.out; have hnb69 := NB275_0.out; have hnc69 := NB0_275.out; obtain ⟨hcz70_0, hcz70_1, hcz70_2, hcz70_3, hfz70_0, hfz70_1, hfz70_2, hfz70_3⟩ := q_4 BK275.out))
    refine bodyPost_ret (results_cell_row rfl _ _ gb275 49 #[.string t276, .int .i64 t277, .string t278, .bool t279] (0, 0) _ rfl (by (with_reducible repeat (first | refine blk_drewN ?_ _ | refine blk_drew ?_ | refine blk_alloc ?_ _)); refine blk_put (cs := #[.string t276, .int .i64 t277, .string t278, .bool false]) ?_ 3 _ rfl; (with_reducible repeat (first | refine blk_drewN ?_ _ | refine blk_drew ?_ | refine blk_alloc ?_ _)); refine blk_put (cs := #[.string t276, .int .i64 t277, .string (⟨#[]⟩ : ByteArray), .bool false]) ?_ 2 _ rfl; (with_reducible repeat (first | refine blk_drewN ?_ _ | refine blk_drew ?_ | refine blk_alloc ?_ _)); refine blk_put (cs := #[.string t276, .int .i64 0, .string (⟨#[]⟩ : ByteArray), .bool false]) ?_ 1 _ rfl; (with_reducible repeat (first | refine blk_drewN ?_ _ | refine blk_drew ?_ | refine blk_alloc ?_ _)); refine blk_put (cs := #[.string (⟨#[]⟩ : ByteArray), .int .i64 0, .string (⟨#[]⟩ : ByteArray), .bool false]) ?_ 0 _ rfl; (with_reducible repeat (first | refine blk_drewN ?_ _ | refine blk_drew ?_ | refine blk_alloc ?_ _)); exact BK275.out) Try.underlying49 rfl (by kernel_rfl)) rfl ?_
    exact ⟨q_e, q_I129_0_1, q_B129_0, q_K⟩

/-! ### spec_l5Table: function 82 -/
def spec_l5Table.l0 : Nat → List (S49) → Int → List Int → Int → Option ((List (S49)) × Int)
  | 0, _, _, _, _ => none
  | k + 1, x3, x4, x1000, x1001 => if x4 > 0 then ((spec_l5Row.f x1000 x1001).bind fun bt302 => ((spec_l5Put.f k x3 bt302.1 bt302.2.1 bt302.2.2.1 bt302.2.2.2.1).bind fun t307 => (spec_l5Table.l0 k t307 (wrap64 (x4 - 1)) x1000 bt302.2.2.2.2))) else (if (x3.length : Int) = 0 then (some (x3, x1001)) else ((spec_l1Next.f x1000 x1001 20).bind fun bt310 => (if bt310.1 = 0 then ((spec_l1Next.f x1000 bt310.2 (x3.length : Int)).bind fun bt312 => ((spec_l5Bent.f k x1000 bt312.2).bind fun bt314 => (if 0 ≤ bt312.1 then (if bt312.1 < (x3.length : Int) then (some ((x3.set (bt312.1 : Int).toNat (⟨bt314.1, bt314.2.1, bt314.2.2.1, bt314.2.2.2.1⟩ : S49)), bt314.2.2.2.2)) else (none)) else (none)))) else (if bt310.1 = 1 then (if 0 < (x3.length : Int) then (if x3.length < 2932031007402 then (some ((x3 ++ [(⟨(rd_T49 x3 0).f0, (rd_T49 x3 0).f1, (rd_T49 x3 0).f2, (rd_T49 x3 0).f3⟩ : S49)]), bt310.2)) else (none)) else (none)) else (if bt310.1 = 2 then (if 201 ≤ 5864062014805 then (some ((List.replicate 201 z49), bt310.2)) else (none)) else (some (x3, bt310.2)))))))
def spec_l5Table.f (k : Nat) (s0_0 : List Int) (s0_1 : Int) : Option ((List (S49)) × Int) := (spec_l1Next.f s0_0 s0_1 9).bind fun bt300 => (spec_l5Table.l0 k (([] : List (S49))) bt300.1 s0_0 bt300.2)
set_option maxHeartbeats 8000000 in
set_option maxRecDepth 100000 in
theorem spec_l5Table.calls (k : Nat) (g : Nat) (s0_0 : List Int) (s0_1 : Int) (r1 : List (S49)) (r2 : Int) (w0 w : World) (hI : IsS129 w0 w g s0_0 s0_1) (hB : Below w0.heap.size w0 w) (h : spec_l5Table.f k s0_0 s0_1 = some (r1, r2)) :
  Calls Try.prog 82 #[.pointer (some ⟨g, 0, none⟩)] w fun e w' => ∃ v0_ : Value, e = .returned (v0_) ∧ Kd.R k49 49 w' w.heap.size (fun _ => True) v0_ r1 ∧ IsS129 w0 w' g s0_0 r2 ∧ Below w0.heap.size w0 w' ∧ KeepBut w w' g none := by
 have hu49 := Try.underlying49
 have HI0 := Aside0.mk hI
 have HK := Aside0.mk (KeepBut.refl w g none)
 have HL := Aside0.mk hB.size
 clear hI
 have HW0 := Aside0.mk hB.size
 have HB := Aside0.mk hB
 clear hB
 have H : ((spec_l1Next.f s0_0 s0_1 9).bind fun bt300 => (spec_l5Table.l0 k (([] : List (S49))) bt300.1 s0_0 bt300.2)) = some (r1, r2) := h
 clear h
 obtain ⟨y297, hy297⟩ : ∃ y_ : List (S49), y_ = (([] : List (S49))) := ⟨_, rfl⟩
 replace H : ((spec_l1Next.f s0_0 s0_1 9).bind fun bt300 => (spec_l5Table.l0 k y297 bt300.1 s0_0 bt300.2)) = some (r1, r2) := q_h hy297 H
 have Ny297 := Aside0.mk hy297
 clear hy297
 replace H := Option.bind_eq_some_iff.mp H
 obtain ⟨⟨t300, t301⟩, A20, H⟩ := H
 replace H : (spec_l5Table.l0 k y297 t300 s0_0 t301) = some (r1, r2) := H
 have A2 := Aside0.mk A20
 clear A20
 have H' := Aside0.mk H
 clear H
 go_enter Try.func82, Try.ntmps82
 go_wp2_with (first | ((with_reducible refine gate_dst (N := 5) rfl ?_); refine Kd.R_lit k49 _ 49 ?hg (N := 5) ?hd (xs := ([] : List (S49))) (inner := []) (ok := fun _ => True) (okp := fun _ => True) ?hr ?hp (fun _ hk => hk) trivial (Below.refl _ _) (Nat.le_refl _) (by simp) ?_; (case hd => rfl); (case hg => rfl); (case hr => first | (go_simp; done) | (go_simp; rfl)); (case hp => exact (Reps.none _ _)); intro v298 w3 ho4 hb hg_ hnew_; clear hg_ hnew_; (first | rw [← Ny297.out] at ho4 | (simp only [Int.reduceToNat] at ho4; rw [← Ny297.out] at ho4)); have n0_ := Aside0.mk (Kd.R_lower ho4 (keep_size (w := w) (g := g) (row := none) q_K)); have n1_ := Aside0.mk (IsS129.below q_I129_0_1 hb); have n2_ := Aside0.mk (KeepBut.trans q_K (KeepBut.of_below hb g none) (.inl rfl)); have n3_ := Aside0.mk (below_step q_B129_0 hb); revert n0_ n1_ n2_ n3_; clear HI0 HK HB; intro HO299 HI0 HK HB; clear hb ho4) | ((with_reducible refine gate_callee (f := 84) rfl ?_); refine goesLq (some 7) rfl rfl Try.func84 (by kernel_rfl) rfl #[.pointer (some ⟨g, 0, none⟩), .int .i64 9] rfl ?_; (with_reducible refine (spec_l1Next.calls g s0_0 s0_1 9 t300 t301 w0 _ ?side1 ?side2 A2.out).mono ?_); (case side1 => repeat (first | (with_reducible first | exact HI0.out | apply IsS129.alloc | apply IsS129.drewN | apply IsS129.drew | apply IsS129.set_1) | exact HI0.out)); (case side2 => repeat (first | (with_reducible first | exact HB.out | apply below_alloc | apply pw_below_drewN | apply below_drew1 | refine below_set ?_ (IsS129.ge HI0.out)) | exact HB.out)); rintro e w5 ⟨rfl, hi, hb, hk⟩; refine ⟨_, rfl, ?_⟩; have n0_ := Aside0.mk (Kd.R_mono (Kd.R_keep (IsS129.apart (show IsS129 w0 _ g s0_0 s0_1 from q_I129_0_1) (q_r (HO299.out)) (by decide)) hk (fun _ h => h.2)) (fun _ h => h.1)); have n1_ := Aside0.mk (KeepBut.trans q_K hk (.inl rfl)); have n2_ := Aside0.mk (hb); have n3_ := Aside0.mk (hi); revert n0_ n1_ n2_ n3_; clear HO299 HK HB HI0; intro HO299 HK HB HI0; (try clear hb); (try clear hb2); (try clear hk); (try clear hi)))
 go_loopg [3, 4] k (fun kq v3 v4 w' => ∃ (x3_1 : List (S49)) (x4_1 : Int) (x1001_1 : Int), v4 = .int .i64 x4_1 ∧ Aside0 (spec_l5Table.l0 kq x3_1 x4_1 s0_0 x1001_1 = some (r1, r2)) ∧ Aside0 (kq ≤ k) ∧ Aside0 (Kd.R k49 49 w' w.heap.size (fun _ => True) v3 x3_1) ∧ Aside0 (IsS129 w0 w' g s0_0 x1001_1) ∧ Aside0 (KeepBut w w' g none) ∧ Aside0 (Below w0.heap.size w0 w'))
 case atStart => exact ⟨(y297), (t300), (t301), q_i, H', ⟨Nat.le_refl _⟩, ⟨q_r (HO299.out)⟩, ⟨q_I129_0_1⟩, ⟨q_K⟩, ⟨q_B129_0⟩⟩
 case round =>
  clear H'
  (try clear p2)
  obtain ⟨x3_1, x4_1, x1001_1, rfl, HA, HK1, HO_3, HI0, HK, HB⟩ := hrel
  cases gk with
  | zero => exact absurd HA.out (by simp [spec_l5Table.l0])
  | succ k1 =>
   have H := HA.out
   clear HA
   simp only [spec_l5Table.l0] at H
   by_cases c6 : x4_1 > 0
   ·rw [if_pos c6] at H
    have c6b0 := decide_eq_true c6
    clear c6
    replace H := Option.bind_eq_some_iff.mp H
    obtain ⟨⟨t302, t303, t304, t305, t306⟩, A70, H⟩ := H
    replace H : ((spec_l5Put.f k1 x3_1 t302 t303 t304 t305).bind fun t307 => (spec_l5Table.l0 k1 t307 (wrap64 (x4_1 - 1)) s0_0 t306)) = some (r1, r2) := H
    have A7 := Aside0.mk A70
    clear A70
    replace H := Option.bind_eq_some_iff.mp H
    obtain ⟨t307, A80, H⟩ := H
    replace H : (spec_l5Table.l0 k1 t307 (wrap64 (x4_1 - 1)) s0_0 t306) = some (r1, r2) := H
    have A8 := Aside0.mk A80
    clear A80
    have H' := Aside0.mk H
    clear H
    go_wp2_with (first | ((with_reducible refine gate_callee (f := 116) rfl ?_); refine goesLq (some 14) rfl rfl Try.func116 (by kernel_rfl) rfl #[.pointer (some ⟨g, 0, none⟩)] rfl ?_; (with_reducible refine (spec_l5Row.calls g s0_0 x1001_1 t302 t303 t304 t305 t306 w0 _ ?side1 ?side2 A7.out).mono ?_); (case side1 => repeat (first | (with_reducible first | exact HI0.out | apply IsS129.alloc | apply IsS129.drewN | apply IsS129.drew | apply IsS129.set_1) | exact HI0.out)); (case side2 => repeat (first | (with_reducible first | exact HB.out | apply below_alloc | apply pw_below_drewN | apply below_drew1 | refine below_set ?_ (IsS129.ge HI0.out)) | exact HB.out)); rintro e w9 ⟨rfl, hi, hb, hk⟩; refine ⟨_, rfl, ?_⟩; have n0_ := Aside0.mk (Kd.R_mono (Kd.R_keep (IsS129.apart (show IsS129 w0 _ g s0_0 x1001_1 from q_I129_0_1) (q_r (HO_3.out)) (by decide)) hk (fun _ h => h.2)) (fun _ h => h.1)); have n1_ := Aside0.mk (KeepBut.trans q_K hk (.inl rfl)); have n2_ := Aside0.mk (hb); have n3_ := Aside0.mk (hi); revert n0_ n1_ n2_ n3_; clear HO_3 HK HB HI0; intro HO_3 HK HB HI0; (try clear hb); (try clear hb2); (try clear hk); (try clear hi); obtain ⟨Ao10, co10, eo10⟩ := Kd.R_slice HO_3.out; subst eo10) | ((with_reducible refine gate_callee (f := 115) rfl ?_); refine goesLq (some 15) rfl rfl Try.func115 (by kernel_rfl) rfl #[.slice Ao10 x3_1.length co10, .agg #[.string t302, .int .i64 t303, .string t304, .bool t305]] rfl ?_; (with_reducible refine (spec_l5Put.calls k1 (fun k_ => some k_ = (.slice Ao10 x3_1.length co10 : Value).ownBlock) (.slice Ao10 x3_1.length co10) x3_1 t302 t303 t304 t305 t307 w0 _ ?side1 ?side2 A8.out).mono ?_); (case side1 => repeat (first | (with_reducible first | exact HB.out | apply below_alloc | apply pw_below_drewN | apply below_drew1 | refine below_set ?_ (IsS129.ge HI0.out)) | exact HB.out)); (case side2 => exact Kd.R_lower (Kd.R_tight rfl HO_3.out) HL.out); rintro e w11 ⟨v308, rfl, ho0, hb, hkp⟩; refine ⟨_, rfl, ?_⟩; have n0_ := Aside0.mk (IsS129.kept q_I129_0_1 hkp (fun hs_ => (fun e_ => (IsS129.own_ne HI0.out HO_3.out (by decide)) e_) hs_)); have n1_ := Aside0.mk (Kd.R_mono (ok' := fun k_ => True) (Kd.R_raise (d := k49) (b := w0.heap.size) (b' := w.heap.size) (fun _ _ _ _ h_ => h_) ho0 (fun k_ e_ => Or.elim (ho0.1 k_ e_) (fun hs_ => (fun e_ => Kd.R_base HO_3.out k_ e_.symm) hs_) (fun hn_ => Nat.le_trans (keep_size (w := w) (g := g) (row := none) q_K) hn_))) (fun k_ hk_ => trivial)); have n2_ := Aside0.mk (Kept.keepG q_K hkp (fun k_ hs_ => (fun e_ => .inr (Kd.R_base HO_3.out k_ e_.symm)) hs_)); have n3_ := Aside0.mk (hb); revert n0_ n1_ n2_ n3_; clear HI0 HK HB HO_3; intro HI0 HO309 HK HB; (try clear hb); (try clear hkp); (try clear ho0)))
    go_roundg k1
    case measure => have := HK1.out; omega
    case rel => exact ⟨(t307), (wrap64 (x4_1 - 1)), (t306), q_i, H', ⟨by have := HK1.out; omega⟩, ⟨q_r (HO309.out)⟩, ⟨q_I129_0_1⟩, ⟨q_K⟩, ⟨q_B129_0⟩⟩
   ·rw [if_neg c6] at H
    have c6b0 := decide_eq_false c6
    clear c6
    by_cases c12 : (x3_1.length : Int) = 0
    ·rw [if_pos c12] at H
     have c12b0 : ((x3_1.length : Int) == 0) = true := beq_iff_eq.mpr c12
     have c12b1 : ((x3_1.length : Int) != 0) = false := bne_eq_false_iff_eq.mpr c12
     clear c12
     simp only [Option.some.injEq, Prod.mk.injEq] at H
     obtain ⟨rfl, rfl⟩ := H
     obtain ⟨Ao13, co13, eo13⟩ := Kd.R_slice HO_3.out
     subst eo13
     go_wp2
     go_ret
     exact ⟨_, q_e, q_r (HO_3.out), q_I129_0_1, q_B129_0, q_K⟩
    ·rw [if_neg c12] at H
     have c12b0 : ((x3_1.length : Int) == 0) = false := beq_eq_false_iff_ne.mpr c12
     have c12b1 : ((x3_1.length : Int) != 0) = true := bne_iff_ne.mpr c12
     have c12b2 : ¬ (x3_1 = []) := fun h_ => c12 (by rw [h_]; rfl)
     replace H := Option.bind_eq_some_iff.mp H
     obtain ⟨⟨t310, t311⟩, A140, H⟩ := H
     replace H : (if t310 = 0 then ((spec_l1Next.f s0_0 t311 (x3_1.length : Int)).bind fun bt312 => ((spec_l5Bent.f k1 s0_0 bt312.2).bind fun bt314 => (if 0 ≤ bt312.1 then (if bt312.1 < (x3_1.length : Int) then (some ((x3_1.set (bt312.1 : Int).toNat (⟨bt314.1, bt314.2.1, bt314.2.2.1, bt314.2.2.2.1⟩ : S49)), bt314.2.2.2.2)) else (none)) else (none)))) else (if t310 = 1 then (if 0 < (x3_1.length : Int) then (if x3_1.length < 2932031007402 then (some ((x3_1 ++ [(⟨(rd_T49 x3_1 0).f0, (rd_T49 x3_1 0).f1, (rd_T49 x3_1 0).f2, (rd_T49 x3_1 0).f3⟩ : S49)]), t311)) else (none)) else (none)) else (if t310 = 2 then (if 201 ≤ 5864062014805 then (some ((List.replicate 201 z49), t311)) else (none)) else (some (x3_1, t311))))) = some (r1, r2) := H
     have A14 := Aside0.mk A140
     clear A140
     by_cases c15 : t310 = 0
     ·rw [if_pos c15] at H
      have c15b0 : (t310 == 0) = true := beq_iff_eq.mpr c15
      have c15b1 : (t310 != 0) = false := bne_eq_false_iff_eq.mpr c15
      clear c15
      replace H := Option.bind_eq_some_iff.mp H
      obtain ⟨⟨t312, t313⟩, A160, H⟩ := H
      replace H : ((spec_l5Bent.f k1 s0_0 t313).bind fun bt314 => (if 0 ≤ t312 then (if t312 < (x3_1.length : Int) then (some ((x3_1.set (t312 : Int).toNat (⟨bt314.1, bt314.2.1, bt314.2.2.1, bt314.2.2.2.1⟩ : S49)), bt314.2.2.2.2)) else (none)) else (none))) = some (r1, r2) := H
      have A16 := Aside0.mk A160
      clear A160
      replace H := Option.bind_eq_some_iff.mp H
      obtain ⟨⟨t314, t315, t316, t317, t318⟩, A170, H⟩ := H
      replace H : (if 0 ≤ t312 then (if t312 < (x3_1.length : Int) then (some ((x3_1.set (t312 : Int).toNat (⟨t314, t315, t316, t317⟩ : S49)), t318)) else (none)) else (none)) = some (r1, r2) := H
      have A17 := Aside0.mk A170
      clear A170
      by_cases c18 : 0 ≤ t312
      ·rw [if_pos c18] at H
       have c18b0 := decide_eq_true c18
       clear c18
       by_cases c19 : t312 < (x3_1.length : Int)
       ·rw [if_pos c19] at H
        have c19b0 := decide_eq_true c19
        clear c19
        obtain ⟨y319, hy319⟩ : ∃ y_ : List (S49), y_ = (x3_1.set (t312 : Int).toNat (⟨t314, t315, t316, t317⟩ : S49)) := ⟨_, rfl⟩
        replace H : (some (y319, t318)) = some (r1, r2) := q_h hy319 H
        have Ny319 := Aside0.mk hy319
        clear hy319
        simp only [Option.some.injEq, Prod.mk.injEq] at H
        obtain ⟨rfl, rfl⟩ := H
        obtain ⟨Ao21, co21, eo21⟩ := Kd.R_slice HO_3.out
        subst eo21
        go_wp2_with (first | ((with_reducible refine gate_callee (f := 84) rfl ?_); refine goesLq (some 21) rfl rfl Try.func84 (by kernel_rfl) rfl #[.pointer (some ⟨g, 0, none⟩), .int .i64 20] rfl ?_; (with_reducible refine (spec_l1Next.calls g s0_0 x1001_1 20 t310 t311 w0 _ ?side1 ?side2 A14.out).mono ?_); (case side1 => repeat (first | (with_reducible first | exact HI0.out | apply IsS129.alloc | apply IsS129.drewN | apply IsS129.drew | apply IsS129.set_1) | exact HI0.out)); (case side2 => repeat (first | (with_reducible first | exact HB.out | apply below_alloc | apply pw_below_drewN | apply below_drew1 | refine below_set ?_ (IsS129.ge HI0.out)) | exact HB.out)); rintro e w22 ⟨rfl, hi, hb, hk⟩; refine ⟨_, rfl, ?_⟩; have n0_ := Aside0.mk (Kd.R_mono (Kd.R_keep (IsS129.apart (show IsS129 w0 _ g s0_0 x1001_1 from q_I129_0_1) (q_r (HO_3.out)) (by decide)) hk (fun _ h => h.2)) (fun _ h => h.1)); have n1_ := Aside0.mk (KeepBut.trans q_K hk (.inl rfl)); have n2_ := Aside0.mk (hb); have n3_ := Aside0.mk (hi); revert n0_ n1_ n2_ n3_; clear HO_3 HK HB HI0; intro HO_3 HK HB HI0; (try clear hb); (try clear hb2); (try clear hk); (try clear hi)) | ((with_reducible refine gate_callee (f := 84) rfl ?_); refine goesLq (some 28) rfl rfl Try.func84 (by kernel_rfl) rfl #[.pointer (some ⟨g, 0, none⟩), .int .i64 (x3_1.length : Int)] rfl ?_; (with_reducible refine (spec_l1Next.calls g s0_0 t311 (x3_1.length : Int) t312 t313 w0 _ ?side1 ?side2 A16.out).mono ?_); (case side1 => repeat (first | (with_reducible first | exact HI0.out | apply IsS129.alloc | apply IsS129.drewN | apply IsS129.drew | apply IsS129.set_1) | exact HI0.out)); (case side2 => repeat (first | (with_reducible first | exact HB.out | apply below_alloc | apply pw_below_drewN | apply below_drew1 | refine below_set ?_ (IsS129.ge HI0.out)) | exact HB.out)); rintro e w23 ⟨rfl, hi, hb, hk⟩; refine ⟨_, rfl, ?_⟩; have n0_ := Aside0.mk (Kd.R_mono (Kd.R_keep (IsS129.apart (show IsS129 w0 _ g s0_0 t311 from q_I129_0_1) (q_r (HO_3.out)) (by decide)) hk (fun _ h => h.2)) (fun _ h => h.1)); have n1_ := Aside0.mk (KeepBut.trans q_K hk (.inl rfl)); have n2_ := Aside0.mk (hb); have n3_ := Aside0.mk (hi); revert n0_ n1_ n2_ n3_; clear HO_3 HK HB HI0; intro HO_3 HK HB HI0; (try clear hb); (try clear hb2); (try clear hk); (try clear hi)) | ((with_reducible refine gate_callee (f := 117) rfl ?_); refine goesLq (some 30) rfl rfl Try.func117 (by kernel_rfl) rfl #[.pointer (some ⟨g, 0, none⟩)] rfl ?_; (with_reducible refine (spec_l5Bent.calls k1 g s0_0 t313 t314 t315 t316 t317 t318 w0 _ ?side1 ?side2 A17.out).mono ?_); (case side1 => repeat (first | (with_reducible first | exact HI0.out | apply IsS129.alloc | apply IsS129.drewN | apply IsS129.drew | apply IsS129.set_1) | exact HI0.out)); (case side2 => repeat (first | (with_reducible first | exact HB.out | apply below_alloc | apply pw_below_drewN | apply below_drew1 | refine below_set ?_ (IsS129.ge HI0.out)) | exact HB.out)); rintro e w24 ⟨rfl, hi, hb, hk⟩; refine ⟨_, rfl, ?_⟩; have n0_ := Aside0.mk (Kd.R_mono (Kd.R_keep (IsS129.apart (show IsS129 w0 _ g s0_0 t313 from q_I129_0_1) (q_r (HO_3.out)) (by decide)) hk (fun _ h => h.2)) (fun _ h => h.1)); have n1_ := Aside0.mk (KeepBut.trans q_K hk (.inl rfl)); have n2_ := Aside0.mk (hb); have n3_ := Aside0.mk (hi); revert n0_ n1_ n2_ n3_; clear HO_3 HK HB HI0; intro HO_3 HK HB HI0; (try clear hb); (try clear hb2); (try clear hk); (try clear hi); have p20 : 0 ≤ (t312 : Int) := q_d; have q20 : (t312 : Int) < ((x3_1.length : Int) : Int) := q_d; obtain ⟨go20, co20, eo20, gb20, gl20, cl20, HG20⟩ := Kd.R_form HO_3.out (by omega); (first | cases eo20 | (injection eo20 with ea_ en_ ec_; (first | subst ea_ | (injection ea_ with ea_; subst ea_)); subst ec_; clear en_)); have GB20 := Aside0.mk gb20; have GG20 := Aside0.mk HG20; clear gb20 gl20 HG20; obtain ⟨ce20, hcl20, hM20, hcc20, hfr20⟩ := Kd.R_elem HO_3.out z49 (t312 : Int) p20 q20; obtain rfl := k49_openM hM20; have hx20_0 : w24.cell? ⟨go20, (t312 : Int).toNat * 4, none⟩ = some (.string ((rd_T49 x3_1 t312).f0)) := hcc20 0 _ rfl; have hx20_1 : w24.cell? ⟨go20, (t312 : Int).toNat * 4 + 1, none⟩ = some (.int .i64 ((rd_T49 x3_1 t312).f1)) := hcc20 1 _ rfl; have hx20_2 : w24.cell? ⟨go20, (t312 : Int).toNat * 4 + 2, none⟩ = some (.string ((rd_T49 x3_1 t312).f2)) := hcc20 2 _ rfl; have hx20_3 : w24.cell? ⟨go20, (t312 : Int).toNat * 4 + 3, none⟩ = some (.bool ((rd_T49 x3_1 t312).f3)) := hcc20 3 _ rfl; have hf20_0 : w24.frozen? ⟨go20, (t312 : Int).toNat * 4, none⟩ = false := hfr20 0; have hf20_1 : w24.frozen? ⟨go20, (t312 : Int).toNat * 4 + 1, none⟩ = false := hfr20 1; have hf20_2 : w24.frozen? ⟨go20, (t312 : Int).toNat * 4 + 2, none⟩ = false := hfr20 2; have hf20_3 : w24.frozen? ⟨go20, (t312 : Int).toNat * 4 + 3, none⟩ = false := hfr20 3; clear hcl20 hcc20 hfr20; (try clear hM20); replace p20 := eq_true p20; replace q20 := eq_true q20; have HX25 := Aside0.mk (show Kd.R k49 49 w24 w.heap.size (fun _ => True) (.slice (some ⟨go20, 0, none⟩) x3_1.length co21) x3_1 from (q_r (HO_3.out))); obtain ⟨ce25, hcl25, hM25, hcc25, hfr25⟩ := Kd.R_elem HX25.out z49 (t312 : Int) q_d (by have h_ : (t312 : Int) < ((x3_1.length : Int) : Int) := q_d; first | exact h_ | (have e_ := (Kd.R_reads' HO_3.out).1; omega) | simpa using h_); obtain rfl := k49_openM hM25; have HP25 := Kd.R_seg HX25.out (t312 : Int) q_d (by have h_ : (t312 : Int) < ((x3_1.length : Int) : Int) := q_d; first | exact h_ | (have e_ := (Kd.R_reads' HO_3.out).1; omega) | simpa using h_) (seg := [.string t314, .int .i64 t315, .string t316, .bool t317]) (j := 0) hcl25 hcc25 (show 4 ≤ 4 from by decide) (x' := (⟨t314, t315, t316, t317⟩ : S49)) (k49_mkM _ _ _ (⟨t314, t315, t316, t317⟩ : S49) ) (fun _ hk => hk); have hx25_0 := hcc25 0 _ rfl; (try simp only [show (k49).sz = 4 from rfl, Nat.mul_one, Nat.add_zero] at hx25_0); have hf25_0 := hfr25 0; (try simp only [show (k49).sz = 4 from rfl, Nat.mul_one, Nat.add_zero] at hf25_0); have hx25_1 := hcc25 1 _ rfl; (try simp only [show (k49).sz = 4 from rfl, Nat.mul_one, Nat.add_zero] at hx25_1); have hf25_1 := hfr25 1; (try simp only [show (k49).sz = 4 from rfl, Nat.mul_one, Nat.add_zero] at hf25_1); have hx25_2 := hcc25 2 _ rfl; (try simp only [show (k49).sz = 4 from rfl, Nat.mul_one, Nat.add_zero] at hx25_2); have hf25_2 := hfr25 2; (try simp only [show (k49).sz = 4 from rfl, Nat.mul_one, Nat.add_zero] at hf25_2); have hx25_3 := hcc25 3 _ rfl; (try simp only [show (k49).sz = 4 from rfl, Nat.mul_one, Nat.add_zero] at hx25_3); have hf25_3 := hfr25 3; (try simp only [show (k49).sz = 4 from rfl, Nat.mul_one, Nat.add_zero] at hf25_3); clear hcl25 hcc25 hfr25; (try clear hM25)) | ((with_reducible refine gate_store (t := 49) (p := 31) rfl ?_); refine store_event (t := 49) (p := 31) (v := ?vo_w26) (w1 := ((((w24.setCell ⟨go20, (t312 : Int).toNat * 4, none⟩ (.string t314)).setCell ⟨go20, (t312 : Int).toNat * 4 + 1, none⟩ (.int .i64 t315)).setCell ⟨go20, (t312 : Int).toNat * 4 + 2, none⟩ (.string t316)).setCell ⟨go20, (t312 : Int).toNat * 4 + 3, none⟩ (.bool t317))) ?hg ?ho ?hn ?hr ?_; (case ho => rfl); (case hg => rfl); (case hn => rfl); (case hr => first | (go_simp; done) | (go_simp; rfl)); intro w26 hw; have hg : w24.grownBy w26 (some go20) := (by rw [hw]; exact HP25.2); have hp_ : Kd.R k49 49 w26 w.heap.size (fun _ => True) (.slice (some ⟨go20, 0, none⟩) x3_1.length co21) y319 := (by rw [hw, Ny319.out]; exact HP25.1); clear HP25; have n0_ := Aside0.mk (hp_); have n1_ := Aside0.mk (IsS129.grown q_I129_0_1 hg (IsS129.own_ne HI0.out HO_3.out (by decide))); have n2_ := Aside0.mk ((by rw [hw]; exact below_set (below_set (below_set (below_set (HB.out) (Nat.le_trans HL.out GB20.out)) (Nat.le_trans HL.out GB20.out)) (Nat.le_trans HL.out GB20.out)) (Nat.le_trans HL.out GB20.out) : Below w0.heap.size w0 w26)); have n3_ := Aside0.mk (KeepBut.trans q_K (KeepBut.of_grown hg g) (Kd.R_base2 HO_3.out)); revert n0_ n1_ n2_ n3_; clear HO_3 HI0 HB HK; intro HO_3 HI0 HB HK; clear hg hw hp_))
        go_ret
        exact ⟨_, q_e, q_r (HO_3.out), q_I129_0_1, q_B129_0, q_K⟩
       ·rw [if_neg c19] at H
        exact absurd H (by simp)
      ·rw [if_neg c18] at H
       exact absurd H (by simp)
     ·rw [if_neg c15] at H
      have c15b0 : (t310 == 0) = false := beq_eq_false_iff_ne.mpr c15
      have c15b1 : (t310 != 0) = true := bne_iff_ne.mpr c15
      by_cases c27 : t310 = 1
      ·rw [if_pos c27] at H
       have c27b0 : (t310 == 1) = true := beq_iff_eq.mpr c27
       have c27b1 : (t310 != 1) = false := bne_eq_false_iff_eq.mpr c27
       clear c27
       by_cases c28 : 0 < (x3_1.length : Int)
       ·rw [if_pos c28] at H
        have c28b0 := decide_eq_true c28
        have c28b1 : decide (0 < x3_1.length) = true := decide_eq_true (by omega)
        clear c28
        by_cases c29 : x3_1.length < 2932031007402
        ·rw [if_pos c29] at H
         have LMc29 := Aside0.mk c29
         clear c29
         obtain ⟨y321, hy321⟩ : ∃ y_ : List (S49), y_ = (x3_1 ++ [(⟨(rd_T49 x3_1 0).f0, (rd_T49 x3_1 0).f1, (rd_T49 x3_1 0).f2, (rd_T49 x3_1 0).f3⟩ : S49)]) := ⟨_, rfl⟩
         replace H : (some (y321, t311)) = some (r1, r2) := q_h hy321 H
         have Ny321 := Aside0.mk hy321
         clear hy321
         simp only [Option.some.injEq, Prod.mk.injEq] at H
         obtain ⟨rfl, rfl⟩ := H
         obtain ⟨Ao30, co30, eo30⟩ := Kd.R_slice HO_3.out
         subst eo30
         go_wp2_with (first | ((with_reducible refine gate_callee (f := 84) rfl ?_); refine goesLq (some 21) rfl rfl Try.func84 (by kernel_rfl) rfl #[.pointer (some ⟨g, 0, none⟩), .int .i64 20] rfl ?_; (with_reducible refine (spec_l1Next.calls g s0_0 x1001_1 20 t310 t311 w0 _ ?side1 ?side2 A14.out).mono ?_); (case side1 => repeat (first | (with_reducible first | exact HI0.out | apply IsS129.alloc | apply IsS129.drewN | apply IsS129.drew | apply IsS129.set_1) | exact HI0.out)); (case side2 => repeat (first | (with_reducible first | exact HB.out | apply below_alloc | apply pw_below_drewN | apply below_drew1 | refine below_set ?_ (IsS129.ge HI0.out)) | exact HB.out)); rintro e w31 ⟨rfl, hi, hb, hk⟩; refine ⟨_, rfl, ?_⟩; have n0_ := Aside0.mk (Kd.R_mono (Kd.R_keep (IsS129.apart (show IsS129 w0 _ g s0_0 x1001_1 from q_I129_0_1) (q_r (HO_3.out)) (by decide)) hk (fun _ h => h.2)) (fun _ h => h.1)); have n1_ := Aside0.mk (KeepBut.trans q_K hk (.inl rfl)); have n2_ := Aside0.mk (hb); have n3_ := Aside0.mk (hi); revert n0_ n1_ n2_ n3_; clear HO_3 HK HB HI0; intro HO_3 HK HB HI0; (try clear hb); (try clear hb2); (try clear hk); (try clear hi); have p320 : 0 ≤ (0 : Int) := (by omega); have q320 : 0 < (x3_1.length : Int) := q_d; obtain ⟨ad320, e320, hx320_0, hx320_1, hx320_2, hx320_3⟩ := at_T49 (Kd.R_reads' HO_3.out).2.2 0 p320 q320; cases e320; have qi320 : (0 < x3_1.length) = True := eq_true (by omega); (try rw [show ((0 : Int)).toNat = 0 from rfl] at hx320_0); (try rw [show 0 * 4 = 0 from rfl] at hx320_0); (try rw [Addr.add_zero'] at hx320_0); (try rw [show ((0 : Int)).toNat = 0 from rfl] at hx320_1); (try rw [show 0 * 4 = 0 from rfl] at hx320_1); (try rw [Addr.add_zero'] at hx320_1); (try rw [show ((0 : Int)).toNat = 0 from rfl] at hx320_2); (try rw [show 0 * 4 = 0 from rfl] at hx320_2); (try rw [Addr.add_zero'] at hx320_2); (try rw [show ((0 : Int)).toNat = 0 from rfl] at hx320_3); (try rw [show 0 * 4 = 0 from rfl] at hx320_3); (try rw [Addr.add_zero'] at hx320_3); replace p320 := eq_true p320; replace q320 := eq_true q320) | ((with_reducible refine gate_builtin (b := .append) (xs := #[.tmp 34, .tmp 38]) rfl ?_); at_builtin; refine Kd.R_append k49 w.heap.size rfl (.tmp 34) (.tmp 38) 25 49 (.agg #[(.string ⟨#[]⟩), (.int .i64 0), (.string ⟨#[]⟩), (.bool false)]) 48 rfl Try.underlying25 info49 rfl (by decide) (by omega) (.slice (some ad320) x3_1.length co30) x3_1 (⟨(rd_T49 x3_1 0).f0, (rd_T49 x3_1 0).f1, (rd_T49 x3_1 0).f2, (rd_T49 x3_1 0).f3⟩ : S49) [.string ((rd_T49 x3_1 0).f0), .int .i64 ((rd_T49 x3_1 0).f1), .string ((rd_T49 x3_1 0).f2), .bool ((rd_T49 x3_1 0).f3)] (fun _ => True) (fun _ => False) rfl rfl ?aP (fun _ hk => hk.elim) ?aF ?aO (Below.refl _ _) ?aS ?aL ?_; (case aP => exact k49_mkM _ _ _ (⟨(rd_T49 x3_1 0).f0, (rd_T49 x3_1 0).f1, (rd_T49 x3_1 0).f2, (rd_T49 x3_1 0).f3⟩ : S49)); (case aF => exact (fun _ _ => trivial)); (case aO => exact (q_r (HO_3.out))); (case aS => exact (keep_size (w := w) (g := g) (row := none) q_K)); (case aL => have := LMc29.out; omega); intro v322 w32 ho hb hg hat; rw [← Ny321.out] at ho; have n0_ := Aside0.mk (IsS129.grown q_I129_0_1 hg (IsS129.own_ne HI0.out HO_3.out (by decide))); have n1_ := Aside0.mk (below_weaken q_B129_0 HL.out hb); have n2_ := Aside0.mk (KeepBut.trans q_K (KeepBut.of_grown hg g) (Kd.R_base2 HO_3.out)); have n3_ := Aside0.mk (ho); revert n0_ n1_ n2_ n3_; clear HI0 HB HK HO_3; intro HI0 HB HK HO323; clear ho hb hg hat))
         go_ret
         exact ⟨_, q_e, q_r (HO323.out), q_I129_0_1, q_B129_0, q_K⟩
        ·rw [if_neg c29] at H
         exact absurd H (by simp)
       ·rw [if_neg c28] at H
        exact absurd H (by simp)
      ·rw [if_neg c27] at H
       have c27b0 : (t310 == 1) = false := beq_eq_false_iff_ne.mpr c27
       have c27b1 : (t310 != 1) = true := bne_iff_ne.mpr c27
       by_cases c33 : t310 = 2
       ·rw [if_pos c33] at H
        have c33b0 : (t310 == 2) = true := beq_iff_eq.mpr c33
        have c33b1 : (t310 != 2) = false := bne_eq_false_iff_eq.mpr c33
        clear c33
        by_cases c34 : 201 ≤ 5864062014805
        ·rw [if_pos c34] at H
         have c34b0 := eq_true c34
         have c34b1 := decide_eq_true c34
         clear c34
         obtain ⟨y324, hy324⟩ : ∃ y_ : List (S49), y_ = (List.replicate 201 z49) := ⟨_, rfl⟩
         replace H : (some (y324, t311)) = some (r1, r2) := q_h hy324 H
         have Ny324 := Aside0.mk hy324
         clear hy324
         simp only [Option.some.injEq, Prod.mk.injEq] at H
         obtain ⟨rfl, rfl⟩ := H
         obtain ⟨Ao35, co35, eo35⟩ := Kd.R_slice HO_3.out
         subst eo35
         go_wp2_with (first | ((with_reducible refine gate_callee (f := 84) rfl ?_); refine goesLq (some 21) rfl rfl Try.func84 (by kernel_rfl) rfl #[.pointer (some ⟨g, 0, none⟩), .int .i64 20] rfl ?_; (with_reducible refine (spec_l1Next.calls g s0_0 x1001_1 20 t310 t311 w0 _ ?side1 ?side2 A14.out).mono ?_); (case side1 => repeat (first | (with_reducible first | exact HI0.out | apply IsS129.alloc | apply IsS129.drewN | apply IsS129.drew | apply IsS129.set_1) | exact HI0.out)); (case side2 => repeat (first | (with_reducible first | exact HB.out | apply below_alloc | apply pw_below_drewN | apply below_drew1 | refine below_set ?_ (IsS129.ge HI0.out)) | exact HB.out)); rintro e w36 ⟨rfl, hi, hb, hk⟩; refine ⟨_, rfl, ?_⟩; have n0_ := Aside0.mk (Kd.R_mono (Kd.R_keep (IsS129.apart (show IsS129 w0 _ g s0_0 x1001_1 from q_I129_0_1) (q_r (HO_3.out)) (by decide)) hk (fun _ h => h.2)) (fun _ h => h.1)); have n1_ := Aside0.mk (KeepBut.trans q_K hk (.inl rfl)); have n2_ := Aside0.mk (hb); have n3_ := Aside0.mk (hi); revert n0_ n1_ n2_ n3_; clear HO_3 HK HB HI0; intro HO_3 HK HB HI0; (try clear hb); (try clear hb2); (try clear hk); (try clear hi)) | ((with_reducible refine gate_dst (N := 42) rfl ?_); refine Kd.R_make k49 _ 49 rfl (N := 42) rfl 25 _ _ rfl 201 rfl rfl Try.underlying25 (.agg #[(.string ⟨#[]⟩), (.int .i64 0), (.string ⟨#[]⟩), (.bool false)]) 48 info49 rfl (by decide) (by omega) z49 (ok := fun _ => True) (okp := fun _ => True) (k49_mkM _ _ _ z49 ) (fun _ hk => hk) trivial (by omega) (by omega) (Below.refl _ _) (Nat.le_refl _) ?_; intro v325 w37 ho38 hb hg_ hnew_; clear hg_ hnew_; (first | rw [← Ny324.out] at ho38 | (simp only [Int.reduceToNat] at ho38; rw [← Ny324.out] at ho38)); have n0_ := Aside0.mk (Kd.R_elder' (q_r (HO_3.out)) (Kd.R_base ho38) hb); have n1_ := Aside0.mk (Kd.R_lower (Kd.R_new' ho38 (Kd.R_lt (q_r (HO_3.out)))) (keep_size (w := w) (g := g) (row := none) q_K)); have n2_ := Aside0.mk (IsS129.below q_I129_0_1 hb); have n3_ := Aside0.mk (KeepBut.trans q_K (KeepBut.of_below hb g none) (.inl rfl)); have n4_ := Aside0.mk (below_step q_B129_0 hb); revert n0_ n1_ n2_ n3_ n4_; clear HO_3 HI0 HK HB; intro HO_3 HO326 HI0 HK HB; clear hb ho38))
         go_ret
         exact ⟨_, q_e, q_r (Kd.R_mono HO326.out (fun _ hk => trivial)), q_I129_0_1, q_B129_0, q_K⟩
        ·rw [if_neg c34] at H
         exact absurd H (by simp)
       ·rw [if_neg c33] at H
        have c33b0 : (t310 == 2) = false := beq_eq_false_iff_ne.mpr c33
        have c33b1 : (t310 != 2) = true := bne_iff_ne.mpr c33
        simp only [Option.some.injEq, Prod.mk.injEq] at H
        obtain ⟨rfl, rfl⟩ := H
        obtain ⟨Ao39, co39, eo39⟩ := Kd.R_slice HO_3.out
        subst eo39
        go_wp2_with (first | ((with_reducible refine gate_callee (f := 84) rfl ?_); refine goesLq (some 21) rfl rfl Try.func84 (by kernel_rfl) rfl #[.pointer (some ⟨g, 0, none⟩), .int .i64 20] rfl ?_; (with_reducible refine (spec_l1Next.calls g s0_0 x1001_1 20 t310 t311 w0 _ ?side1 ?side2 A14.out).mono ?_); (case side1 => repeat (first | (with_reducible first | exact HI0.out | apply IsS129.alloc | apply IsS129.drewN | apply IsS129.drew | apply IsS129.set_1) | exact HI0.out)); (case side2 => repeat (first | (with_reducible first | exact HB.out | apply below_alloc | apply pw_below_drewN | apply below_drew1 | refine below_set ?_ (IsS129.ge HI0.out)) | exact HB.out)); rintro e w40 ⟨rfl, hi, hb, hk⟩; refine ⟨_, rfl, ?_⟩; have n0_ := Aside0.mk (Kd.R_mono (Kd.R_keep (IsS129.apart (show IsS129 w0 _ g s0_0 x1001_1 from q_I129_0_1) (q_r (HO_3.out)) (by decide)) hk (fun _ h => h.2)) (fun _ h => h.1)); have n1_ := Aside0.mk (KeepBut.trans q_K hk (.inl rfl)); have n2_ := Aside0.mk (hb); have n3_ := Aside0.mk (hi); revert n0_ n1_ n2_ n3_; clear HO_3 HK HB HI0; intro HO_3 HK HB HI0; (try clear hb); (try clear hb2); (try clear hk); (try clear hi)))
        go_ret
        exact ⟨_, q_e, q_r (HO_3.out), q_I129_0_1, q_B129_0, q_K⟩

end Go.Proofs.Ytdhlcnlcpjlliaa.PFnScans
