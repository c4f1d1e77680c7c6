/- The functions that a law reaches, each as a plain Lean function with the proof that the machine comes to its answer: written by program (the kit's print, turned by wip/gen). No conditions. -/
import Derived.Test.YtdhlcnlcpjlliaaPFnScansx0
import Derived.Test.YtdhlcnlcpjlliaaPFnScansx2
import Derived.Test.YtdhlcnlcpjlliaaPFnScansx5
import Derived.Test.YtdhlcnlcpjlliaaPFnScansx6
import Derived.Test.YtdhlcnlcpjlliaaPFnScansx8
namespace Go.Proofs.Ytdhlcnlcpjlliaa.PFnScans
open Go.RowKit Go.Proofs.YtdhlcnlcpjlliaaW.PrintWords Go.Proofs.YtdhlcnlcpjlliaaW.PrintLast Go.Proofs.YtdhlcnlcpjlliaaW.PrintMore
attribute [local go_sem] max2_int min2_int max_two min_two max_three min_three max_four min_four   -- for this text's walks alone
set_option linter.unusedVariables false
set_option linter.unusedSimpArgs false

/-! ### spec_DrawScanTable: function 47 -/
def spec_DrawScanTable.f (k : Nat) (l0 : List Int) : Option ((List (S49)) × ByteArray × Int) := (spec_l1Source.f l0).bind fun bt327 => ((spec_l5Table.f k bt327.1 bt327.2).bind fun bt330 => ((some (([(⟨#[]⟩ : ByteArray), (⟨#[97]⟩ : ByteArray), (⟨#[107]⟩ : ByteArray), (⟨#[107, 49]⟩ : ByteArray), (⟨#[122, 122, 122]⟩ : ByteArray)] : List ByteArray) : List ByteArray)).bind fun y334 => ((spec_l1Next.f bt327.1 bt330.2 5).bind fun bt337 => (if 0 ≤ bt337.1 then (if bt337.1 < (y334.length : Int) then ((spec_l1Next.f bt327.1 bt337.2 11).bind fun bt340 => ((spec_l1Pick.f bt327.1 bt340.2 (([bt340.1, 9, 5, 0, 4611686018427387904] : List Int))).bind fun bt345 => (some (bt330.1, rdOf ByteArray.empty y334 bt337.1, bt345.1)))) else (none)) else (none)))))
def spec_DrawScanTable.T3 : Bool × List (List Nat × List Nat) := (true, [([], []), ([], []), ([], []), ([2], [2]), ([1, 3], [1, 3]), ([4], [4]), ([], []), ([], []), ([7, 3], [7]), ([8], [8]), ([6, 9, 8], [6, 9]), ([0, 10, 0], [0]), ([5, 11, 0, 1, 2, 3, 4, 5, 11], [5]), ([10, 12, 0, 1, 2, 3, 4, 5, 6, 7, 8, 9, 10, 11, 12], [10])])
def spec_DrawScanTable.B3 : List Nat := [0, 0, 0, 4, 14, 30, 0, 0, 140, 396, 972, 1997, 4095, 8191]
theorem spec_DrawScanTable.tab3 : rtab .any (opsOf Try.f47 3) = spec_DrawScanTable.T3 := by kernel_rfl
theorem spec_DrawScanTable.bits3 : waitsOk spec_DrawScanTable.T3.2 spec_DrawScanTable.B3 = true := by kernel_rfl
set_option maxHeartbeats 8000000 in
set_option maxRecDepth 100000 in
theorem spec_DrawScanTable.calls (k : Nat) (A0 : Option Addr) (c0 : Nat) (l0 : List Int) (r1 : List (S49)) (r2 : ByteArray) (r3 : Int) (w : World) (hr0 : Kd.C (Kd.int .u8) w A0 l0.length l0) (hc0 : l0.length ≤ c0) (h : spec_DrawScanTable.f k l0 = some (r1, r2, r3)) :
  Calls Try.prog 47 #[.slice A0 l0.length c0] w fun e w' => ∃ v0_ : Value, e = .returned (.tuple #[v0_, .string r2, .int .i64 r3]) ∧ Kd.R k49 49 w' w.heap.size (fun _ => True) v0_ r1 ∧ Below w.heap.size w w' := by
 have HR0 := Aside0.mk hr0
 have HC0 := Aside0.mk hc0
 clear hr0 hc0
 have HB := Aside0.mk (Below.refl w.heap.size w)
 have H : ((spec_l1Source.f l0).bind fun bt327 => ((spec_l5Table.f k bt327.1 bt327.2).bind fun bt330 => ((some (([(⟨#[]⟩ : ByteArray), (⟨#[97]⟩ : ByteArray), (⟨#[107]⟩ : ByteArray), (⟨#[107, 49]⟩ : ByteArray), (⟨#[122, 122, 122]⟩ : ByteArray)] : List ByteArray) : List ByteArray)).bind fun y334 => ((spec_l1Next.f bt327.1 bt330.2 5).bind fun bt337 => (if 0 ≤ bt337.1 then (if bt337.1 < (y334.length : Int) then ((spec_l1Next.f bt327.1 bt337.2 11).bind fun bt340 => ((spec_l1Pick.f bt327.1 bt340.2 (([bt340.1, 9, 5, 0, 4611686018427387904] : List Int))).bind fun bt345 => (some (bt330.1, rdOf ByteArray.empty y334 bt337.1, bt345.1)))) else (none)) else (none)))))) = some (r1, r2, r3) := h
 clear h
 replace H := Option.bind_eq_some_iff.mp H
 obtain ⟨⟨t327, t328⟩, A20, H⟩ := H
 replace H : ((spec_l5Table.f k t327 t328).bind fun bt330 => ((some (([(⟨#[]⟩ : ByteArray), (⟨#[97]⟩ : ByteArray), (⟨#[107]⟩ : ByteArray), (⟨#[107, 49]⟩ : ByteArray), (⟨#[122, 122, 122]⟩ : ByteArray)] : List ByteArray) : List ByteArray)).bind fun y334 => ((spec_l1Next.f t327 bt330.2 5).bind fun bt337 => (if 0 ≤ bt337.1 then (if bt337.1 < (y334.length : Int) then ((spec_l1Next.f t327 bt337.2 11).bind fun bt340 => ((spec_l1Pick.f t327 bt340.2 (([bt340.1, 9, 5, 0, 4611686018427387904] : List Int))).bind fun bt345 => (some (bt330.1, rdOf ByteArray.empty y334 bt337.1, bt345.1)))) else (none)) else (none))))) = some (r1, r2, r3) := H
 have A2 := Aside0.mk A20
 clear A20
 replace H := Option.bind_eq_some_iff.mp H
 obtain ⟨⟨t330, t333⟩, A30, H⟩ := H
 replace H : ((some (([(⟨#[]⟩ : ByteArray), (⟨#[97]⟩ : ByteArray), (⟨#[107]⟩ : ByteArray), (⟨#[107, 49]⟩ : ByteArray), (⟨#[122, 122, 122]⟩ : ByteArray)] : List ByteArray) : List ByteArray)).bind fun y334 => ((spec_l1Next.f t327 t333 5).bind fun bt337 => (if 0 ≤ bt337.1 then (if bt337.1 < (y334.length : Int) then ((spec_l1Next.f t327 bt337.2 11).bind fun bt340 => ((spec_l1Pick.f t327 bt340.2 (([bt340.1, 9, 5, 0, 4611686018427387904] : List Int))).bind fun bt345 => (some (t330, rdOf ByteArray.empty y334 bt337.1, bt345.1)))) else (none)) else (none)))) = some (r1, r2, r3) := H
 have A3 := Aside0.mk A30
 clear A30
 obtain ⟨y334, hy334⟩ : ∃ y_ : List ByteArray, y_ = (([(⟨#[]⟩ : ByteArray), (⟨#[97]⟩ : ByteArray), (⟨#[107]⟩ : ByteArray), (⟨#[107, 49]⟩ : ByteArray), (⟨#[122, 122, 122]⟩ : ByteArray)] : List ByteArray)) := ⟨_, rfl⟩
 replace H : ((spec_l1Next.f t327 t333 5).bind fun bt337 => (if 0 ≤ bt337.1 then (if bt337.1 < (y334.length : Int) then ((spec_l1Next.f t327 bt337.2 11).bind fun bt340 => ((spec_l1Pick.f t327 bt340.2 (([bt340.1, 9, 5, 0, 4611686018427387904] : List Int))).bind fun bt345 => (some (t330, rdOf ByteArray.empty y334 bt337.1, bt345.1)))) else (none)) else (none))) = some (r1, r2, r3) := q_h hy334 H
 have Ny334 := Aside0.mk hy334
 clear hy334
 replace H := Option.bind_eq_some_iff.mp H
 obtain ⟨⟨t337, t338⟩, A40, H⟩ := H
 replace H : (if 0 ≤ t337 then (if t337 < (y334.length : Int) then ((spec_l1Next.f t327 t338 11).bind fun bt340 => ((spec_l1Pick.f t327 bt340.2 (([bt340.1, 9, 5, 0, 4611686018427387904] : List Int))).bind fun bt345 => (some (t330, rdOf ByteArray.empty y334 t337, bt345.1)))) else (none)) else (none)) = some (r1, r2, r3) := H
 have A4 := Aside0.mk A40
 clear A40
 by_cases c5 : 0 ≤ t337
 ·rw [if_pos c5] at H
  have c5b0 := decide_eq_true c5
  clear c5
  by_cases c6 : t337 < (y334.length : Int)
  ·rw [if_pos c6] at H
   have c6b0 := decide_eq_true c6
   clear c6
   replace H := Option.bind_eq_some_iff.mp H
   obtain ⟨⟨t340, t341⟩, A70, H⟩ := H
   replace H : ((spec_l1Pick.f t327 t341 (([t340, 9, 5, 0, 4611686018427387904] : List Int))).bind fun bt345 => (some (t330, rdOf ByteArray.empty y334 t337, bt345.1))) = some (r1, r2, r3) := H
   have A7 := Aside0.mk A70
   clear A70
   obtain ⟨y342, hy342⟩ : ∃ y_ : List Int, y_ = (([t340, 9, 5, 0, 4611686018427387904] : List Int)) := ⟨_, rfl⟩
   replace H : ((spec_l1Pick.f t327 t341 y342).bind fun bt345 => (some (t330, rdOf ByteArray.empty y334 t337, bt345.1))) = some (r1, r2, r3) := q_h hy342 H
   have Ny342 := Aside0.mk hy342
   clear hy342
   replace H := Option.bind_eq_some_iff.mp H
   obtain ⟨⟨t345, t346⟩, A80, H⟩ := H
   replace H : (some (t330, rdOf ByteArray.empty y334 t337, t345)) = some (r1, r2, r3) := H
   have A8 := Aside0.mk A80
   clear A80
   simp only [Option.some.injEq, Prod.mk.injEq] at H
   obtain ⟨rfl, rfl, rfl⟩ := H
   go_enter Try.func47, Try.ntmps47
   try go_wp2_with (first | ((with_reducible refine gate_callee (f := 81) rfl ?_); refine goesLq (some 8) rfl rfl Try.func81 (by kernel_rfl) rfl #[.slice A0 l0.length c0] rfl ?_; (with_reducible refine (spec_l1Source.calls _ _ l0 t327 t328 w _ ?side1 ?side2 ?side3 A2.out).mono ?_); (case side1 => repeat (first | (with_reducible first | exact HB.out | apply below_alloc | apply pw_below_drewN | apply below_drew1) | exact HB.out)); (case side2 => exact HR0.out); (case side3 => exact HC0.out); rintro e w9 ⟨g329, rfl, hi, hb, hb2⟩; refine ⟨_, rfl, ?_⟩; have n0_ := Aside0.mk (hb); have n1_ := Aside0.mk (hi); revert n0_ n1_; clear HB; intro HB HI329; (try clear hb); (try clear hb2); (try clear hk); (try clear hi)) | ((with_reducible refine gate_callee (f := 82) rfl ?_); refine goesLq (some 10) rfl rfl Try.func82 (by kernel_rfl) rfl #[.pointer (some ⟨g329, 0, none⟩)] rfl ?_; (with_reducible refine (spec_l5Table.calls k g329 t327 t328 t330 t333 w _ ?side1 ?side2 A3.out).mono ?_); (case side1 => repeat (first | (with_reducible first | exact HI329.out | apply IsS129.alloc | apply IsS129.drewN | apply IsS129.drew | apply IsS129.set_1) | exact HI329.out)); (case side2 => repeat (first | (with_reducible first | exact HB.out | apply below_alloc | apply pw_below_drewN | apply below_drew1 | refine below_set ?_ (IsS129.ge HI329.out)) | exact HB.out)); rintro e w10 ⟨v331, rfl, ho0, hi, hb, hk⟩; refine ⟨_, rfl, ?_⟩; have n0_ := Aside0.mk (Kd.R_lower ho0 (below_size q_B129_329)); have n1_ := Aside0.mk (hb); have n2_ := Aside0.mk (hi); revert n0_ n1_ n2_; clear HB HI329; intro HO332 HB HI329; (try clear hb); (try clear hb2); (try clear hk); (try clear hi); (try clear ho0)))
   have pi339 : (0 ≤ (t337 : Int)) = True := eq_true q_d
   have qi339 : (t337 < (y334.length : Int)) = True := eq_true q_d
   have n0_ := Aside0.mk (Kd.R_drew HO332.out)
   have n1_ := Aside0.mk (IsS129.drew HI329.out)
   have n2_ := Aside0.mk (below_drew1 HB.out)
   clear HO332
   clear HI329
   clear HB
   have HO332 := n0_
   have HI329 := n1_
   have HB := n2_
   clear n0_ n1_ n2_
   refine start_ (n := 14) (S := fun w' => True) (ds := []) #[false, false, false, false, false, false, false, false, false, false, false, false, false, false] (by kernel_rfl) rfl rfl trivial (fun hHeld => ?_); refine with_tabW spec_DrawScanTable.tab3 spec_DrawScanTable.bits3 (fun HT_ HW_ => ?_)
   generalize w10.drew = w11 at HO332 HI329 HB hHeld ⊢
   refine q_p 0 (some 11) #[true, false, false, false, false, false, false, false, false, false, false, false, false, false] HT_.out ?_
   refine q_p 2 (some 13) #[true, false, true, false, false, false, false, false, false, false, false, false, false, false] HT_.out ?_
   refine q_p 6 (some 17) #[true, false, true, false, false, false, true, false, false, false, false, false, false, false] HT_.out ?_
   refine q_p 7 (some 18) #[true, false, true, false, false, false, true, true, false, false, false, false, false, false] HT_.out ?_
   refine inv_at [1, 3, 4, 5, 8, 9, 10, 11, 12, 13] (fun a0_ b a w' => ∃ (v335 : Value) (adz_v335 : Addr) (v343 : Value) (m4_ : Value), a = putSel a0_ b [(1, 12, v335), (3, 14, .int .i64 t337), (4, 15, m4_), (5, 16, .string (rdOf ByteArray.empty y334 t337)), (8, 19, .int .i64 t340), (9, 20, v343), (10, 21, .int .i64 t345), (11, 2, v331), (12, 3, .string (rdOf ByteArray.empty y334 t337)), (13, 4, .int .i64 t345)] ∧ (Kd.R k49 49 w' w.heap.size (fun _ => True) v331 t330) ∧ (b 3 = false → IsS129 w w' g329 t327 t333) ∧ (Below w.heap.size w w') ∧ (b 1 = true → Kd.R Kd.string 9 w' w.heap.size (fun _ => True) v335 y334) ∧ (b 1 = true → ∃ c_, (v335 : Value) = .slice (some adz_v335) y334.length c_) ∧ (b 3 = true → b 8 = false → IsS129 w w' g329 t327 t338) ∧ (b 8 = true → b 10 = false → IsS129 w w' g329 t327 t341) ∧ (b 9 = true → Kd.R (Kd.int .i64) 2 w' w.heap.size (fun _ => True) v343 y342) ∧ (b 10 = true → IsS129 w w' g329 t327 t346) ∧ (b 4 = true → (m4_ : Value) = .pointer (some (adz_v335.add (t337).toNat)))) HT_.out HW_.out (by kernel_rfl) (by kernel_rfl) ?_ ?_ ?_
   ·exact ⟨.bool false, ⟨0, 0, none⟩, .bool false, .bool false, by simp only [putSel, Bool.false_eq_true, if_false], HO332.out, fun _ => HI329.out, HB.out, fun h_ => absurd h_ (by decide), fun h_ => absurd h_ (by decide), fun h_ => absurd h_ (by decide), fun h_ => absurd h_ (by decide), fun h_ => absurd h_ (by decide), fun h_ => absurd h_ (by decide), fun h_ => absurd h_ (by decide)⟩
   ·skip
    clear HB HI329 HO332
    refine steps_cons ?_ ?_
    ·rintro b a w' ⟨v335, adz_v335, v343, m4_, ha, Q_HO332, Q_HI329, Q_HB, Q_HO336, Q_HA_HO336, Q_HI329_e3, Q_HI329_e8, Q_HO344, Q_HI329_e10, Q_X4_⟩ hb_ hon hoff
     refine ⟨_, rfl, fun K hK => ?_⟩
     replace ha := Aside0.mk ha
     have HO332 := Aside0.mk Q_HO332
     have HB := Aside0.mk Q_HB
     refine Kd.R_lit_step Kd.string _ 9 ?hg (N := 12) ?hd (xs := ([(⟨#[]⟩ : ByteArray), (⟨#[97]⟩ : ByteArray), (⟨#[107]⟩ : ByteArray), (⟨#[107, 49]⟩ : ByteArray), (⟨#[122, 122, 122]⟩ : ByteArray)] : List ByteArray)) (inner := [.string (⟨#[]⟩ : ByteArray), .string (⟨#[97]⟩ : ByteArray), .string (⟨#[107]⟩ : ByteArray), .string (⟨#[107, 49]⟩ : ByteArray), .string (⟨#[122, 122, 122]⟩ : ByteArray)]) (ok := fun _ => True) (okp := fun _ => True) ?hr ?hp (fun _ hk => hk) trivial (Below.refl _ _) (Nat.le_refl _) (by simp) ?_; (case hd => rfl); (case hg => rfl); (case hr => first | (go_simp; done) | (go_simp; rfl)); (case hp => exact (Reps.one (show Kd.M Kd.string _ _ _ (⟨#[]⟩ : ByteArray) [.string (⟨#[]⟩ : ByteArray)] from rfl) (Reps.one (show Kd.M Kd.string _ _ _ (⟨#[97]⟩ : ByteArray) [.string (⟨#[97]⟩ : ByteArray)] from rfl) (Reps.one (show Kd.M Kd.string _ _ _ (⟨#[107]⟩ : ByteArray) [.string (⟨#[107]⟩ : ByteArray)] from rfl) (Reps.one (show Kd.M Kd.string _ _ _ (⟨#[107, 49]⟩ : ByteArray) [.string (⟨#[107, 49]⟩ : ByteArray)] from rfl) (Reps.one (show Kd.M Kd.string _ _ _ (⟨#[122, 122, 122]⟩ : ByteArray) [.string (⟨#[122, 122, 122]⟩ : ByteArray)] from rfl) (Reps.none _ _)))))))
     intro v335 w12 ho13 hb hg_ hnew_
     clear hg_ hnew_
     (first | rw [← Ny334.out] at ho13 | (simp only [Int.reduceToNat] at ho13; rw [← Ny334.out] at ho13))
     have n0_ := Aside0.mk (Kd.R_below (q_r (HO332.out)) hb)
     have n1_ := Aside0.mk (Kd.R_lower ho13 (below_size bq))
     have n3_ := Aside0.mk (below_step bq hb)
     have z_HI329 := fun (h0_ : b 3 = false) => (show IsS129 w w12 g329 t327 t333 from by first | exact (IsS129.below (by repeat (first | (with_reducible first | exact (Q_HI329 h0_) | apply IsS129.alloc | apply IsS129.drewN | apply IsS129.drew | apply IsS129.set_1) | exact (Q_HI329 h0_))) hb))
     have z_HI329_e3 := fun (h0_ : b 3 = true) (h1_ : b 8 = false) => (show IsS129 w w12 g329 t327 t338 from by first | exact (IsS129.below (by repeat (first | (with_reducible first | exact (Q_HI329_e3 h0_ h1_) | apply IsS129.alloc | apply IsS129.drewN | apply IsS129.drew | apply IsS129.set_1) | exact (Q_HI329_e3 h0_ h1_))) hb))
     have z_HI329_e8 := fun (h0_ : b 8 = true) (h1_ : b 10 = false) => (show IsS129 w w12 g329 t327 t341 from by first | exact (IsS129.below (by repeat (first | (with_reducible first | exact (Q_HI329_e8 h0_ h1_) | apply IsS129.alloc | apply IsS129.drewN | apply IsS129.drew | apply IsS129.set_1) | exact (Q_HI329_e8 h0_ h1_))) hb))
     have z_HO344 := fun (h0_ : b 9 = true) => (show Kd.R (Kd.int .i64) 2 w12 w.heap.size (fun _ => True) v343 y342 from by first | exact (Kd.R_below (q_r ((Q_HO344 h0_))) hb) | exact Kd.R_mono (Kd.R_below (q_r ((Q_HO344 h0_))) hb) (fun _ h_ => by first | trivial | exact h_ | exact h_.1))
     have z_HI329_e10 := fun (h0_ : b 10 = true) => (show IsS129 w w12 g329 t327 t346 from by first | exact (IsS129.below (by repeat (first | (with_reducible first | exact (Q_HI329_e10 h0_) | apply IsS129.alloc | apply IsS129.drewN | apply IsS129.drew | apply IsS129.set_1) | exact (Q_HI329_e10 h0_))) hb))
     clear HO332
     clear HB
     have HO332 := n0_
     have HO336 := n1_
     have HB := n3_
     clear n0_ n1_ n3_
     clear hb ho13
     obtain ⟨Ao14, co14, eo14⟩ := Kd.R_slice HO336.out
     subst eo14
     obtain ⟨ado14, fo14, _⟩ := Kd.at_string (Kd.R_reads' HO336.out).2.2 0 (by decide) (by rw [Ny334.out]; simp)
     cases fo14
     refine hK.out _ _ ⟨.slice (some ado14) y334.length co14, ado14, v343, m4_, (by rw [ha.out]; exact putSel_upk 0 hb_ rfl rfl rfl), (q_r (HO332.out)), z_HI329, bq, fun _ => (q_r (HO336.out)), fun _ => ⟨_, rfl⟩, z_HI329_e3, z_HI329_e8, z_HO344, z_HI329_e10, fun h0_ => absurd ((hoff 4 (by kernel_rfl)).symm.trans h0_) (by decide)⟩
    refine steps_cons ?_ ?_
    ·rintro b a w' ⟨v335, adz_v335, v343, m4_, ha, Q_HO332, Q_HI329, Q_HB, Q_HO336, Q_HA_HO336, Q_HI329_e3, Q_HI329_e8, Q_HO344, Q_HI329_e10, Q_X4_⟩ hb_ hon hoff
     refine ⟨_, rfl, fun K hK => ?_⟩
     have e13 : a.tmps[13]? = some (.pointer (some ⟨g329, 0, none⟩)) := by rw [ha]; exact (putSel_off rfl).trans rfl
     replace ha := Aside0.mk ha
     have HO332 := Aside0.mk Q_HO332
     have HI329 := Aside0.mk (Q_HI329 hb_)
     have HB := Aside0.mk Q_HB
     refine goes_ Try.func84 (by kernel_rfl) rfl #[.pointer (some ⟨g329, 0, none⟩), .int .i64 5] (by rfl) rfl rfl (by first | (simp only [List.map_toArray, List.map_cons, List.map_nil, Act.eval, Array.getD_eq_getD_getElem?, Option.getD_some, e13]; done) | (simp only [List.map_toArray, List.map_cons, List.map_nil, Act.eval, Array.getD_eq_getD_getElem?, Option.getD_some, e13]; rfl)) ?_
     with_reducible refine (spec_l1Next.calls g329 t327 t333 5 t337 t338 w _ ?side1 ?side2 A4.out).mono ?_
     (case side1 => repeat (first | (with_reducible first | exact HI329.out | apply IsS129.alloc | apply IsS129.drewN | apply IsS129.drew | apply IsS129.set_1) | exact HI329.out))
     (case side2 => repeat (first | (with_reducible first | exact HB.out | apply below_alloc | apply pw_below_drewN | apply below_drew1 | refine below_set ?_ (IsS129.ge HI329.out)) | exact HB.out))
     rintro e w12 ⟨rfl, hi, hb, hk⟩
     refine ⟨_, rfl, ?_⟩
     have n0_ := Aside0.mk (Kd.R_mono (Kd.R_keep (IsS129.apart (show IsS129 w _ g329 t327 t333 from q_I129_329_1) (q_r (HO332.out)) (by decide)) hk (fun _ h => h.2)) (fun _ h => h.1))
     have n1_ := Aside0.mk (hb)
     have n2_ := Aside0.mk (hi)
     have z_HO336 := fun (h0_ : b 1 = true) => (show Kd.R Kd.string 9 w12 w.heap.size (fun _ => True) v335 y334 from by first | exact (Kd.R_mono (Kd.R_keep (IsS129.apart (show IsS129 w _ g329 t327 t333 from q_I129_329_1) (q_r ((Q_HO336 h0_))) (by decide)) hk (fun _ h => h.2)) (fun _ h => h.1)) | exact Kd.R_mono (Kd.R_mono (Kd.R_keep (IsS129.apart (show IsS129 w _ g329 t327 t333 from q_I129_329_1) (q_r ((Q_HO336 h0_))) (by decide)) hk (fun _ h => h.2)) (fun _ h => h.1)) (fun _ h_ => by first | trivial | exact h_ | exact h_.1))
     clear HO332
     clear HB
     clear HI329
     have HO332 := n0_
     have HB := n1_
     have HI329 := n2_
     clear n0_ n1_ n2_
     (try clear hb)
     (try clear hb2)
     (try clear hk)
     (try clear hi)
     refine hK.out _ _ ⟨v335, adz_v335, v343, m4_, (by rw [ha.out]; exact putSel_upk 1 hb_ rfl rfl rfl), (q_r (HO332.out)), fun h0_ => absurd ((up_self b 3).symm.trans h0_) (by decide), q_B129_329, z_HO336, Q_HA_HO336, fun _ _ => q_I129_329_1, fun h0_ _ => absurd ((hoff 8 (by kernel_rfl)).symm.trans h0_) (by decide), fun h0_ => absurd ((hoff 9 (by kernel_rfl)).symm.trans h0_) (by decide), fun h0_ => absurd ((hoff 10 (by kernel_rfl)).symm.trans h0_) (by decide), fun h0_ => absurd ((hoff 4 (by kernel_rfl)).symm.trans h0_) (by decide)⟩
    refine steps_cons ?_ ?_
    ·rintro b a w' ⟨v335, adz_v335, v343, m4_, ha, Q_HO332, Q_HI329, Q_HB, Q_HO336, Q_HA_HO336, Q_HI329_e3, Q_HI329_e8, Q_HO344, Q_HI329_e10, Q_X4_⟩ hb_ hon hoff
     refine ⟨_, rfl, fun K hK => ?_⟩
     have e12 : a.tmps[12]? = some (v335) := by rw [ha]; exact putSel_on (e := (1, 12, v335)) 0 rfl rfl (hon 1 (by kernel_rfl)) rfl
     have e14 : a.tmps[14]? = some (.int .i64 t337) := by rw [ha]; exact putSel_on (e := (3, 14, .int .i64 t337)) 1 rfl rfl (hon 3 (by kernel_rfl)) rfl
     replace ha := Aside0.mk ha
     have HO332 := Aside0.mk Q_HO332
     have HB := Aside0.mk Q_HB
     have HO336 := Aside0.mk (Q_HO336 (hon 1 (by kernel_rfl)))
     have HA_HO336 := Aside0.mk (Q_HA_HO336 (hon 1 (by kernel_rfl)))
     obtain ⟨c_, hv_⟩ := HA_HO336.out
     rw [hv_] at e12
     refine value_ (w1 := w') (v := .pointer (some (adz_v335.add (t337).toNat))) (by rfl) rfl ?_ ?_
     ·go_simp
      (try simp only [i64_w])
      try rfl
     refine hK.out _ _ ⟨v335, adz_v335, v343, (.pointer (some (adz_v335.add (t337).toNat))), (by rw [ha.out]; exact putSel_upk 2 hb_ rfl rfl rfl), Q_HO332, fun h0_ => absurd ((hon 3 (by kernel_rfl)).symm.trans h0_) (by decide), Q_HB, Q_HO336, Q_HA_HO336, Q_HI329_e3, Q_HI329_e8, Q_HO344, Q_HI329_e10, fun _ => rfl⟩
    refine steps_cons ?_ ?_
    ·rintro b a w' ⟨v335, adz_v335, v343, m4_, ha, Q_HO332, Q_HI329, Q_HB, Q_HO336, Q_HA_HO336, Q_HI329_e3, Q_HI329_e8, Q_HO344, Q_HI329_e10, Q_X4_⟩ hb_ hon hoff
     refine ⟨_, rfl, fun K hK => ?_⟩
     have e15 : a.tmps[15]? = some (m4_) := by rw [ha]; exact putSel_on (e := (4, 15, m4_)) 2 rfl rfl (hon 4 (by kernel_rfl)) rfl
     rw [Q_X4_ (hon 4 (by kernel_rfl))] at e15
     replace ha := Aside0.mk ha
     have HO332 := Aside0.mk Q_HO332
     have HB := Aside0.mk Q_HB
     have HO336 := Aside0.mk (Q_HO336 (hon 1 (by kernel_rfl)))
     have HA_HO336 := Aside0.mk (Q_HA_HO336 (hon 1 (by kernel_rfl)))
     obtain ⟨c_, hv_⟩ := HA_HO336.out
     have hF_ := HO336.out
     rw [hv_] at hF_
     obtain ⟨ad_, ea_, hx_⟩ := Kd.at_string (Kd.R_reads' hF_).2.2 t337 (of_eq_true pi339) (of_eq_true qi339)
     cases ea_
     refine value_ (w1 := w') (v := .string (rdOf ByteArray.empty y334 t337)) (by rfl) rfl ?_ ?_
     ·go_simp
      (try simp only [i64_w])
      try rfl
     refine hK.out _ _ ⟨v335, adz_v335, v343, m4_, (by rw [ha.out]; exact putSel_upk 3 hb_ rfl rfl rfl), Q_HO332, fun h0_ => absurd ((hon 3 (by kernel_rfl)).symm.trans h0_) (by decide), Q_HB, Q_HO336, Q_HA_HO336, Q_HI329_e3, Q_HI329_e8, Q_HO344, Q_HI329_e10, Q_X4_⟩
    refine steps_cons ?_ ?_
    ·rintro b a w' ⟨v335, adz_v335, v343, m4_, ha, Q_HO332, Q_HI329, Q_HB, Q_HO336, Q_HA_HO336, Q_HI329_e3, Q_HI329_e8, Q_HO344, Q_HI329_e10, Q_X4_⟩ hb_ hon hoff
     refine ⟨_, rfl, fun K hK => ?_⟩
     have e18 : a.tmps[18]? = some (.pointer (some ⟨g329, 0, none⟩)) := by rw [ha]; exact (putSel_off rfl).trans rfl
     replace ha := Aside0.mk ha
     have HO332 := Aside0.mk Q_HO332
     have HB := Aside0.mk Q_HB
     have HI329 := Aside0.mk (Q_HI329_e3 (hon 3 (by kernel_rfl)) hb_)
     refine goes_ Try.func84 (by kernel_rfl) rfl #[.pointer (some ⟨g329, 0, none⟩), .int .i64 11] (by rfl) rfl rfl (by first | (simp only [List.map_toArray, List.map_cons, List.map_nil, Act.eval, Array.getD_eq_getD_getElem?, Option.getD_some, e18]; done) | (simp only [List.map_toArray, List.map_cons, List.map_nil, Act.eval, Array.getD_eq_getD_getElem?, Option.getD_some, e18]; rfl)) ?_
     with_reducible refine (spec_l1Next.calls g329 t327 t338 11 t340 t341 w _ ?side1 ?side2 A7.out).mono ?_
     (case side1 => repeat (first | (with_reducible first | exact HI329.out | apply IsS129.alloc | apply IsS129.drewN | apply IsS129.drew | apply IsS129.set_1) | exact HI329.out))
     (case side2 => repeat (first | (with_reducible first | exact HB.out | apply below_alloc | apply pw_below_drewN | apply below_drew1 | refine below_set ?_ (IsS129.ge HI329.out)) | exact HB.out))
     rintro e w14 ⟨rfl, hi, hb, hk⟩
     refine ⟨_, rfl, ?_⟩
     have n0_ := Aside0.mk (Kd.R_mono (Kd.R_keep (IsS129.apart (show IsS129 w _ g329 t327 t338 from q_I129_329_1) (q_r (HO332.out)) (by decide)) hk (fun _ h => h.2)) (fun _ h => h.1))
     have n1_ := Aside0.mk (hb)
     have n2_ := Aside0.mk (hi)
     have z_HO336 := fun (h0_ : b 1 = true) => (show Kd.R Kd.string 9 w14 w.heap.size (fun _ => True) v335 y334 from by first | exact (Kd.R_mono (Kd.R_keep (IsS129.apart (show IsS129 w _ g329 t327 t338 from q_I129_329_1) (q_r ((Q_HO336 h0_))) (by decide)) hk (fun _ h => h.2)) (fun _ h => h.1)) | exact Kd.R_mono (Kd.R_mono (Kd.R_keep (IsS129.apart (show IsS129 w _ g329 t327 t338 from q_I129_329_1) (q_r ((Q_HO336 h0_))) (by decide)) hk (fun _ h => h.2)) (fun _ h => h.1)) (fun _ h_ => by first | trivial | exact h_ | exact h_.1))
     clear HO332
     clear HB
     clear HI329
     have HO332 := n0_
     have HB := n1_
     have HI329 := n2_
     clear n0_ n1_ n2_
     (try clear hb)
     (try clear hb2)
     (try clear hk)
     (try clear hi)
     refine hK.out _ _ ⟨v335, adz_v335, v343, m4_, (by rw [ha.out]; exact putSel_upk 4 hb_ rfl rfl rfl), (q_r (HO332.out)), fun h0_ => absurd ((hon 3 (by kernel_rfl)).symm.trans h0_) (by decide), q_B129_329, z_HO336, Q_HA_HO336, fun _ h1_ => absurd ((up_self b 8).symm.trans h1_) (by decide), fun _ _ => q_I129_329_1, fun h0_ => absurd ((hoff 9 (by kernel_rfl)).symm.trans h0_) (by decide), fun h0_ => absurd ((hoff 10 (by kernel_rfl)).symm.trans h0_) (by decide), Q_X4_⟩
    refine steps_cons ?_ ?_
    ·rintro b a w' ⟨v335, adz_v335, v343, m4_, ha, Q_HO332, Q_HI329, Q_HB, Q_HO336, Q_HA_HO336, Q_HI329_e3, Q_HI329_e8, Q_HO344, Q_HI329_e10, Q_X4_⟩ hb_ hon hoff
     refine ⟨_, rfl, fun K hK => ?_⟩
     have e19 : a.tmps[19]? = some (.int .i64 t340) := by rw [ha]; exact putSel_on (e := (8, 19, .int .i64 t340)) 4 rfl rfl (hon 8 (by kernel_rfl)) rfl
     replace ha := Aside0.mk ha
     have HO332 := Aside0.mk Q_HO332
     have HB := Aside0.mk Q_HB
     have HI329 := Aside0.mk (Q_HI329_e8 (hon 8 (by kernel_rfl)) (hoff 10 (by kernel_rfl)))
     refine Kd.R_lit_step (Kd.int .i64) _ 2 ?hg (N := 20) ?hd (xs := ([t340, 9, 5, 0, 4611686018427387904] : List Int)) (inner := [.int .i64 t340, .int .i64 9, .int .i64 5, .int .i64 0, .int .i64 4611686018427387904]) (ok := fun _ => True) (okp := fun _ => True) ?hr ?hp (fun _ hk => hk) trivial (Below.refl _ _) (Nat.le_refl _) (by simp) ?_; (case hd => rfl); (case hg => rfl); (case hr => first | (go_simp; done) | (go_simp; rfl)); (case hp => exact (Reps.one (show Kd.M (Kd.int .i64) _ _ _ t340 [.int .i64 t340] from rfl) (Reps.one (show Kd.M (Kd.int .i64) _ _ _ 9 [.int .i64 9] from rfl) (Reps.one (show Kd.M (Kd.int .i64) _ _ _ 5 [.int .i64 5] from rfl) (Reps.one (show Kd.M (Kd.int .i64) _ _ _ 0 [.int .i64 0] from rfl) (Reps.one (show Kd.M (Kd.int .i64) _ _ _ 4611686018427387904 [.int .i64 4611686018427387904] from rfl) (Reps.none _ _)))))))
     intro v343 w15 ho16 hb hg_ hnew_
     clear hg_ hnew_
     (first | rw [← Ny342.out] at ho16 | (simp only [Int.reduceToNat] at ho16; rw [← Ny342.out] at ho16))
     have n0_ := Aside0.mk (Kd.R_below (q_r (HO332.out)) hb)
     have n1_ := Aside0.mk (Kd.R_lower ho16 (below_size q_B129_329))
     have n2_ := Aside0.mk (IsS129.below q_I129_329_1 hb)
     have n3_ := Aside0.mk (below_step q_B129_329 hb)
     have z_HO336 := fun (h0_ : b 1 = true) => (show Kd.R Kd.string 9 w15 w.heap.size (fun _ => True) v335 y334 from by first | exact (Kd.R_below (q_r ((Q_HO336 h0_))) hb) | exact Kd.R_mono (Kd.R_below (q_r ((Q_HO336 h0_))) hb) (fun _ h_ => by first | trivial | exact h_ | exact h_.1))
     clear HO332
     clear HI329
     clear HB
     have HO332 := n0_
     have HO344 := n1_
     have HI329 := n2_
     have HB := n3_
     clear n0_ n1_ n2_ n3_
     clear hb ho16
     refine hK.out _ _ ⟨v335, adz_v335, v343, m4_, (by rw [ha.out]; exact putSel_upk 5 hb_ rfl rfl rfl), (q_r (HO332.out)), fun h0_ => absurd ((hon 3 (by kernel_rfl)).symm.trans h0_) (by decide), q_B129_329, z_HO336, Q_HA_HO336, fun _ h1_ => absurd ((hon 8 (by kernel_rfl)).symm.trans h1_) (by decide), fun _ _ => q_I129_329_1, fun _ => (q_r (HO344.out)), fun h0_ => absurd ((hoff 10 (by kernel_rfl)).symm.trans h0_) (by decide), Q_X4_⟩
    refine steps_cons ?_ ?_
    ·rintro b a w' ⟨v335, adz_v335, v343, m4_, ha, Q_HO332, Q_HI329, Q_HB, Q_HO336, Q_HA_HO336, Q_HI329_e3, Q_HI329_e8, Q_HO344, Q_HI329_e10, Q_X4_⟩ hb_ hon hoff
     refine ⟨_, rfl, fun K hK => ?_⟩
     have e17 : a.tmps[17]? = some (.pointer (some ⟨g329, 0, none⟩)) := by rw [ha]; exact (putSel_off rfl).trans rfl
     have e20 : a.tmps[20]? = some (v343) := by rw [ha]; exact putSel_on (e := (9, 20, v343)) 5 rfl rfl (hon 9 (by kernel_rfl)) rfl
     replace ha := Aside0.mk ha
     have HO332 := Aside0.mk Q_HO332
     have HB := Aside0.mk Q_HB
     have HI329 := Aside0.mk (Q_HI329_e8 (hon 8 (by kernel_rfl)) hb_)
     have HO344 := Aside0.mk (Q_HO344 (hon 9 (by kernel_rfl)))
     obtain ⟨Ao17, co17, eo17⟩ := Kd.R_slice HO344.out
     (first | subst eo17 | (injection eo17 with f1_ f2_ f3_; have f4_ := f1_.symm; have f5_ := f3_.symm; clear f1_ f2_ f3_; subst f4_; subst f5_))
     refine goes_ Try.func83 (by kernel_rfl) rfl #[.pointer (some ⟨g329, 0, none⟩), .slice Ao17 y342.length co17] (by rfl) rfl rfl (by first | (simp only [List.map_toArray, List.map_cons, List.map_nil, Act.eval, Array.getD_eq_getD_getElem?, Option.getD_some, e17, e20]; done) | (simp only [List.map_toArray, List.map_cons, List.map_nil, Act.eval, Array.getD_eq_getD_getElem?, Option.getD_some, e17, e20]; rfl)) ?_
     with_reducible refine (spec_l1Pick.calls g329 t327 t341 _ _ y342 t345 t346 w _ ?side1 ?side2 ?side3 ?side4 ?side5 A8.out).mono ?_
     (case side1 => repeat (first | (with_reducible first | exact HI329.out | apply IsS129.alloc | apply IsS129.drewN | apply IsS129.drew | apply IsS129.set_1) | exact HI329.out))
     (case side2 => repeat (first | (with_reducible first | exact HB.out | apply below_alloc | apply pw_below_drewN | apply below_drew1 | refine below_set ?_ (IsS129.ge HI329.out)) | exact HB.out))
     (case side3 => exact q_c ((Kd.R_reads' HO344.out).2.2))
     (case side4 => exact (Kd.R_reads' HO344.out).2.1)
     (case side5 => exact far_slice (IsS129.own_ne HI329.out HO344.out (by decide)))
     rintro e w18 ⟨rfl, hi, hb, hk⟩
     refine ⟨_, rfl, ?_⟩
     have n0_ := Aside0.mk (Kd.R_mono (Kd.R_keep (IsS129.apart (show IsS129 w _ g329 t327 t341 from q_I129_329_1) (q_r (HO332.out)) (by decide)) hk (fun _ h => h.2)) (fun _ h => h.1))
     have n1_ := Aside0.mk (Kd.R_mono (Kd.R_keep (IsS129.apart (show IsS129 w _ g329 t327 t341 from q_I129_329_1) (q_r (HO344.out)) (by decide)) hk (fun _ h => h.2)) (fun _ h => h.1))
     have n2_ := Aside0.mk (hb)
     have n3_ := Aside0.mk (hi)
     have z_HO336 := fun (h0_ : b 1 = true) => (show Kd.R Kd.string 9 w18 w.heap.size (fun _ => True) v335 y334 from by first | exact (Kd.R_mono (Kd.R_keep (IsS129.apart (show IsS129 w _ g329 t327 t341 from q_I129_329_1) (q_r ((Q_HO336 h0_))) (by decide)) hk (fun _ h => h.2)) (fun _ h => h.1)) | exact Kd.R_mono (Kd.R_mono (Kd.R_keep (IsS129.apart (show IsS129 w _ g329 t327 t341 from q_I129_329_1) (q_r ((Q_HO336 h0_))) (by decide)) hk (fun _ h => h.2)) (fun _ h => h.1)) (fun _ h_ => by first | trivial | exact h_ | exact h_.1))
     clear HO332
     clear HO344
     clear HB
     clear HI329
     have HO332 := n0_
     have HO344 := n1_
     have HB := n2_
     have HI329 := n3_
     clear n0_ n1_ n2_ n3_
     (try clear hb)
     (try clear hb2)
     (try clear hk)
     (try clear hi)
     refine hK.out _ _ ⟨v335, adz_v335, .slice Ao17 y342.length co17, m4_, (by rw [ha.out]; exact putSel_upk 6 hb_ rfl rfl rfl), (q_r (HO332.out)), fun h0_ => absurd ((hon 3 (by kernel_rfl)).symm.trans h0_) (by decide), q_B129_329, z_HO336, Q_HA_HO336, fun _ h1_ => absurd ((hon 8 (by kernel_rfl)).symm.trans h1_) (by decide), fun _ h1_ => absurd ((up_self b 10).symm.trans h1_) (by decide), fun _ => (q_r (HO344.out)), fun _ => q_I129_329_1, Q_X4_⟩
    refine steps_cons ?_ ?_
    ·rintro b a w' ⟨v335, adz_v335, v343, m4_, ha, Q_HO332, Q_HI329, Q_HB, Q_HO336, Q_HA_HO336, Q_HI329_e3, Q_HI329_e8, Q_HO344, Q_HI329_e10, Q_X4_⟩ hb_ hon hoff
     refine ⟨_, rfl, fun K hK => ?_⟩
     have e11 : a.tmps[11]? = some (v331) := by rw [ha]; exact (putSel_off rfl).trans rfl
     replace ha := Aside0.mk ha
     have HO332 := Aside0.mk Q_HO332
     have HB := Aside0.mk Q_HB
     have HO344 := Aside0.mk (Q_HO344 (hon 9 (by kernel_rfl)))
     have HI329 := Aside0.mk (Q_HI329_e10 (hon 10 (by kernel_rfl)))
     refine value_ (w1 := w') (v := v331) (by rfl) rfl ?_ ?_
     ·go_simp
      (try simp only [i64_w])
      try rfl
     refine hK.out _ _ ⟨v335, adz_v335, v343, m4_, (by rw [ha.out]; exact putSel_upk 7 hb_ rfl rfl rfl), Q_HO332, fun h0_ => absurd ((hon 3 (by kernel_rfl)).symm.trans h0_) (by decide), Q_HB, Q_HO336, Q_HA_HO336, fun _ h1_ => absurd ((hon 8 (by kernel_rfl)).symm.trans h1_) (by decide), fun _ h1_ => absurd ((hon 10 (by kernel_rfl)).symm.trans h1_) (by decide), Q_HO344, Q_HI329_e10, Q_X4_⟩
    refine steps_cons ?_ ?_
    ·rintro b a w' ⟨v335, adz_v335, v343, m4_, ha, Q_HO332, Q_HI329, Q_HB, Q_HO336, Q_HA_HO336, Q_HI329_e3, Q_HI329_e8, Q_HO344, Q_HI329_e10, Q_X4_⟩ hb_ hon hoff
     refine ⟨_, rfl, fun K hK => ?_⟩
     have e16 : a.tmps[16]? = some (.string (rdOf ByteArray.empty y334 t337)) := by rw [ha]; exact putSel_on (e := (5, 16, .string (rdOf ByteArray.empty y334 t337))) 3 rfl rfl (hon 5 (by kernel_rfl)) rfl
     replace ha := Aside0.mk ha
     have HO332 := Aside0.mk Q_HO332
     have HB := Aside0.mk Q_HB
     have HO336 := Aside0.mk (Q_HO336 (hon 1 (by kernel_rfl)))
     have HA_HO336 := Aside0.mk (Q_HA_HO336 (hon 1 (by kernel_rfl)))
     have HO344 := Aside0.mk (Q_HO344 (hon 9 (by kernel_rfl)))
     have HI329 := Aside0.mk (Q_HI329_e10 (hon 10 (by kernel_rfl)))
     refine value_ (w1 := w') (v := .string (rdOf ByteArray.empty y334 t337)) (by rfl) rfl ?_ ?_
     ·go_simp
      (try simp only [i64_w])
      try rfl
     refine hK.out _ _ ⟨v335, adz_v335, v343, m4_, (by rw [ha.out]; exact putSel_upk 8 hb_ rfl rfl rfl), Q_HO332, fun h0_ => absurd ((hon 3 (by kernel_rfl)).symm.trans h0_) (by decide), Q_HB, Q_HO336, Q_HA_HO336, fun _ h1_ => absurd ((hon 8 (by kernel_rfl)).symm.trans h1_) (by decide), fun _ h1_ => absurd ((hon 10 (by kernel_rfl)).symm.trans h1_) (by decide), Q_HO344, Q_HI329_e10, Q_X4_⟩
    refine steps_cons ?_ ?_
    ·rintro b a w' ⟨v335, adz_v335, v343, m4_, ha, Q_HO332, Q_HI329, Q_HB, Q_HO336, Q_HA_HO336, Q_HI329_e3, Q_HI329_e8, Q_HO344, Q_HI329_e10, Q_X4_⟩ hb_ hon hoff
     refine ⟨_, rfl, fun K hK => ?_⟩
     have e21 : a.tmps[21]? = some (.int .i64 t345) := by rw [ha]; exact putSel_on (e := (10, 21, .int .i64 t345)) 6 rfl rfl (hon 10 (by kernel_rfl)) rfl
     replace ha := Aside0.mk ha
     have HO332 := Aside0.mk Q_HO332
     have HB := Aside0.mk Q_HB
     have HO336 := Aside0.mk (Q_HO336 (hon 1 (by kernel_rfl)))
     have HA_HO336 := Aside0.mk (Q_HA_HO336 (hon 1 (by kernel_rfl)))
     have HO344 := Aside0.mk (Q_HO344 (hon 9 (by kernel_rfl)))
     have HI329 := Aside0.mk (Q_HI329_e10 (hon 10 (by kernel_rfl)))
     refine value_ (w1 := w') (v := .int .i64 t345) (by rfl) rfl ?_ ?_
     ·go_simp
      (try simp only [i64_w])
      try rfl
     refine hK.out _ _ ⟨v335, adz_v335, v343, m4_, (by rw [ha.out]; exact putSel_upk 9 hb_ rfl rfl rfl), Q_HO332, fun h0_ => absurd ((hon 3 (by kernel_rfl)).symm.trans h0_) (by decide), Q_HB, Q_HO336, Q_HA_HO336, fun _ h1_ => absurd ((hon 8 (by kernel_rfl)).symm.trans h1_) (by decide), fun _ h1_ => absurd ((hon 10 (by kernel_rfl)).symm.trans h1_) (by decide), Q_HO344, Q_HI329_e10, Q_X4_⟩
    exact steps_nil
   rintro b a w21 hall ⟨v335, adz_v335, v343, m4_, ha, Q_HO332, Q_HI329, Q_HB, Q_HO336, Q_HA_HO336, Q_HI329_e3, Q_HI329_e8, Q_HO344, Q_HI329_e10, Q_X4_⟩
   clear HB HI329 HO332
   have hb1_ := hall 1 (by kernel_rfl)
   have hb3_ := hall 3 (by kernel_rfl)
   have hb4_ := hall 4 (by kernel_rfl)
   have hb5_ := hall 5 (by kernel_rfl)
   have hb8_ := hall 8 (by kernel_rfl)
   have hb9_ := hall 9 (by kernel_rfl)
   have hb10_ := hall 10 (by kernel_rfl)
   have hb11_ := hall 11 (by kernel_rfl)
   have hb12_ := hall 12 (by kernel_rfl)
   have hb13_ := hall 13 (by kernel_rfl)
   subst ha
   obtain rfl := Q_X4_ hb4_
   simp only [putSel, hb1_, hb3_, hb4_, hb5_, hb8_, hb9_, hb10_, hb11_, hb12_, hb13_, if_true, Act.put, List.setIfInBounds_toArray, List.set_cons_zero, List.set_cons_succ]
   have HO332 := Aside0.mk Q_HO332
   clear Q_HO332
   clear Q_HI329
   have HB := Aside0.mk Q_HB
   clear Q_HB
   have HO336 := Aside0.mk (Q_HO336 hb1_)
   clear Q_HO336
   have HA_HO336 := Aside0.mk (Q_HA_HO336 hb1_)
   clear Q_HA_HO336
   clear Q_HI329_e3
   clear Q_HI329_e8
   have HO344 := Aside0.mk (Q_HO344 hb9_)
   clear Q_HO344
   have HI329 := Aside0.mk (Q_HI329_e10 hb10_)
   clear Q_HI329_e10
   clear hall hb1_ hb3_ hb4_ hb5_ hb8_ hb9_ hb10_ hb11_ hb12_ hb13_
   obtain ⟨co22, eo22⟩ := HA_HO336.out
   clear HA_HO336
   subst eo22
   try go_wp2
   go_ret3
   exact ⟨_, q_e, q_r (HO332.out), q_B129_329⟩
  ·rw [if_neg c6] at H
   exact absurd H (by simp)
 ·rw [if_neg c5] at H
  exact absurd H (by simp)

/-! ### stringslite_HasPrefix: function 119 -/
def stringslite_HasPrefix.f (a0 : ByteArray) (a1 : ByteArray) : Option (Bool) := if (a0.size : Int) ≥ (a1.size : Int) then (if 0 ≤ (a1.size : Int) then (if (a1.size : Int) ≤ (a0.size : Int) then (some ((a0.extract 0 ((a1.size : Int) : Int).toNat).toList == a1.toList)) else (none)) else (none)) else (some false)
set_option maxHeartbeats 8000000 in
set_option maxRecDepth 100000 in
theorem stringslite_HasPrefix.calls (a0 : ByteArray) (a1 : ByteArray) (r : Bool) (w : World) (h : stringslite_HasPrefix.f a0 a1 = some r) :
  Calls Try.prog 119 #[.string a0, .string a1] w fun e w' => e = .returned (.bool r) ∧ Drawn0 w w' := by
 have H : (if (a0.size : Int) ≥ (a1.size : Int) then (if 0 ≤ (a1.size : Int) then (if (a1.size : Int) ≤ (a0.size : Int) then (some ((a0.extract 0 ((a1.size : Int) : Int).toNat).toList == a1.toList)) else (none)) else (none)) else (some false)) = some r := h
 clear h
 by_cases c3 : (a0.size : Int) ≥ (a1.size : Int)
 ·rw [if_pos c3] at H
  have c3b0 := decide_eq_true c3
  have c3b1 : decide (a1.size ≤ a0.size) = true := decide_eq_true (Int.ofNat_le.mp c3)
  clear c3
  by_cases c4 : 0 ≤ (a1.size : Int)
  ·rw [if_pos c4] at H
   have c4b0 := eq_true c4
   have c4b1 := decide_eq_true c4
   clear c4
   by_cases c5 : (a1.size : Int) ≤ (a0.size : Int)
   ·rw [if_pos c5] at H
    have c5b0 := eq_true c5
    have c5b1 := decide_eq_true c5
    clear c5
    obtain rfl := Option.some.inj H
    go_enter Try.func119, Try.ntmps119
    go_wp2
    go_ret
    exact ⟨by first | rfl | (simp; done) | (simp [*]; done), q_0⟩
   ·rw [if_neg c5] at H
    exact absurd H (by simp)
  ·rw [if_neg c4] at H
   exact absurd H (by simp)
 ·rw [if_neg c3] at H
  have c3b0 := decide_eq_false c3
  have c3b1 : decide (a1.size ≤ a0.size) = false := decide_eq_false (fun h => c3 (Int.ofNat_le.mpr h))
  clear c3
  obtain rfl := Option.some.inj H
  go_enter Try.func119, Try.ntmps119
  go_wp2
  go_ret
  exact ⟨by first | rfl | (simp; done) | (simp [*]; done), q_0⟩

/-! ### strings_HasPrefix: function 97 -/
def strings_HasPrefix.f (a0 : ByteArray) (a1 : ByteArray) : Option (Bool) := (stringslite_HasPrefix.f a0 a1).bind fun t347 => (some t347)
set_option maxHeartbeats 8000000 in
set_option maxRecDepth 100000 in
theorem strings_HasPrefix.calls (a0 : ByteArray) (a1 : ByteArray) (r : Bool) (w : World) (h : strings_HasPrefix.f a0 a1 = some r) :
  Calls Try.prog 97 #[.string a0, .string a1] w fun e w' => e = .returned (.bool r) ∧ Drawn0 w w' := by
 have H : ((stringslite_HasPrefix.f a0 a1).bind fun t347 => (some t347)) = some r := h
 clear h
 replace H := Option.bind_eq_some_iff.mp H
 obtain ⟨t347, A30, H⟩ := H
 replace H : (some t347) = some r := H
 have A3 := Aside0.mk A30
 clear A30
 obtain rfl := Option.some.inj H
 go_enter Try.func97, Try.ntmps97
 go_wp2_with (first | ((with_reducible refine gate_callee (f := 119) rfl ?_); refine goesLq (some 7) rfl rfl Try.func119 (by kernel_rfl) rfl #[.string a0, .string a1] rfl ?_; (with_reducible refine (stringslite_HasPrefix.calls a0 a1 t347 _ A3.out).mono ?_); rintro e w' ⟨rfl, ⟨nd, rfl⟩⟩; refine ⟨_, rfl, ?_⟩))
 go_ret
 exact ⟨by first | rfl | (simp; done) | (simp [*]; done), q_0⟩

/-! ### impl_ScanTable: function 48 -/
def impl_ScanTable.l0 : Nat → List (S49) → ByteArray → Int → List ByteArray → Int → Int → Int → List (S49) → Option (Int × (List (S49)))
  | 0, _, _, _, _, _, _, _, _ => none
  | k + 1, x0, x1, x2, x21, x22, x23, x351000, x351001 => if x23 < x22 then (if 0 ≤ x23 then (if x23 < (x21.length : Int) then ((impl_rowOf.f k x0 (rdOf ByteArray.empty x21 x23) x2).bind fun bt355 => (if bt355.2.2.2.2 = true then (if bt355.2.2.2.1 = true then (impl_ScanTable.l0 k x0 x1 x2 x21 x22 (wrap64 (x23 + 1)) x351000 x351001) else ((strings_HasPrefix.f (rdOf ByteArray.empty x21 x23) x1).bind fun t361 => (if t361 = true then (if x351001.length < 2932031007402 then (impl_ScanTable.l0 k x0 x1 x2 x21 x22 (wrap64 (x23 + 1)) x351000 (x351001 ++ [(⟨bt355.1, bt355.2.1, bt355.2.2.1, bt355.2.2.2.1⟩ : S49)])) else (none)) else (impl_ScanTable.l0 k x0 x1 x2 x21 x22 (wrap64 (x23 + 1)) x351000 x351001)))) else (impl_ScanTable.l0 k x0 x1 x2 x21 x22 (wrap64 (x23 + 1)) x351000 x351001))) else (none)) else (none)) else (some (x351000, x351001))
def impl_ScanTable.f (k : Nat) (l0 : List (S49)) (a1 : ByteArray) (a2 : Int) : Option (Int × (List (S49))) := (impl_TableFault.f k l0).bind fun t349 => (if t349 = 0 then ((impl_keysOf.f k l0).bind fun t351 => (impl_ScanTable.l0 k l0 a1 a2 t351 (t351.length : Int) 0 0 ([] : List (S49)))) else (some (t349, ([] : List (S49)))))
set_option maxHeartbeats 8000000 in
set_option maxRecDepth 100000 in
theorem impl_ScanTable.calls (k : Nat) (A0 : Option Addr) (c0 : Nat) (l0 : List (S49)) (a1 : ByteArray) (a2 : Int) (r1 : Int) (r2 : List (S49)) (w : World) (hr0 : Kd.C k49 w A0 l0.length l0) (hc0 : l0.length ≤ c0) (h : impl_ScanTable.f k l0 a1 a2 = some (r1, r2)) :
  Calls Try.prog 48 #[.slice A0 l0.length c0, .string a1, .int .i64 a2] w fun e w' => ∃ v1_ : Value, e = .returned (.agg #[.int .i64 r1, v1_]) ∧ Kd.R k49 49 w' w.heap.size (fun _ => True) v1_ r2 ∧ Below w.heap.size w w' := by
 have hu46 := Try.underlying46
 have hu49 := Try.underlying49
 have HR0 := Aside0.mk hr0
 have HC0 := Aside0.mk hc0
 clear hr0 hc0
 have HB := Aside0.mk (Below.refl w.heap.size w)
 have H : ((impl_TableFault.f k l0).bind fun t349 => (if t349 = 0 then ((impl_keysOf.f k l0).bind fun t351 => (impl_ScanTable.l0 k l0 a1 a2 t351 (t351.length : Int) 0 0 ([] : List (S49)))) else (some (t349, ([] : List (S49)))))) = some (r1, r2) := h
 clear h
 replace H := Option.bind_eq_some_iff.mp H
 obtain ⟨t349, A40, H⟩ := H
 replace H : (if t349 = 0 then ((impl_keysOf.f k l0).bind fun t351 => (impl_ScanTable.l0 k l0 a1 a2 t351 (t351.length : Int) 0 0 ([] : List (S49)))) else (some (t349, ([] : List (S49))))) = some (r1, r2) := H
 have A4 := Aside0.mk A40
 clear A40
 by_cases c5 : t349 = 0
 ·rw [if_pos c5] at H
  have c5b0 : (t349 == 0) = true := beq_iff_eq.mpr c5
  have c5b1 : (t349 != 0) = false := bne_eq_false_iff_eq.mpr c5
  clear c5
  replace H := Option.bind_eq_some_iff.mp H
  obtain ⟨t351, A60, H⟩ := H
  replace H : (impl_ScanTable.l0 k l0 a1 a2 t351 (t351.length : Int) 0 0 ([] : List (S49))) = some (r1, r2) := H
  have A6 := Aside0.mk A60
  clear A60
  have H' := Aside0.mk H
  clear H
  go_enter Try.func48, Try.ntmps48
  go_wp2_with (first | ((with_reducible refine gate_dst (N := 6) rfl ?_); refine q_box (N := 6) (cs := #[.int .i64 0, .slice none 0 0]) (t := 46) ?_; intro gb348 hg w7 hbox hb; have n0_ := Aside0.mk (below_step bq hb); have n1_ := Aside0.mk (hbox); have n2_ := Aside0.mk ((q_g hg bq : w.heap.size ≤ gb348)); have n3_ := Aside0.mk ((q_g hg bq : w.heap.size ≤ gb348)); revert n0_ n1_ n2_ n3_; clear HB; intro HB BK348 GW348 GE348; clear hb hbox hg) | ((with_reducible refine gate_callee (f := 18) rfl ?_); refine goesLq (some 14) rfl rfl Try.func18 (by kernel_rfl) rfl #[.slice A0 l0.length c0] rfl ?_; (with_reducible refine (impl_TableFault.calls k _ _ l0 t349 _ ?side1 ?side2 A4.out).mono ?_); (case side1 => exact q_c ((Kd.C_below HR0.out HB.out))); (case side2 => exact HC0.out); rintro e w8 ⟨rfl, hb⟩; refine ⟨_, rfl, ?_⟩; have n0_ := Aside0.mk (blk_below (q_b BK348.out) hb); have n1_ := Aside0.mk (below_step bq hb); revert n0_ n1_; clear BK348 HB; intro BK348 HB; (try clear hb); (try clear hb2); (try clear hk); (try clear hi)) | ((with_reducible refine gate_dst (N := 8) rfl ?_); refine q_box (N := 8) (cs := #[.int .i64 0, .slice none 0 0]) (t := 46) ?_; intro gb350 hg w9 hbox hb; have n0_ := Aside0.mk (blk_below (q_b BK348.out) hb); have n1_ := Aside0.mk (below_step bq hb); have n2_ := Aside0.mk (hbox); have n3_ := Aside0.mk ((q_g hg bq : w.heap.size ≤ gb350)); have n4_ := Aside0.mk ((q_g hg bq : w.heap.size ≤ gb350)); have n5_ := Aside0.mk ((q_n hg (q_b BK348.out) : gb348 ≠ gb350)); have n6_ := Aside0.mk ((q_m hg (q_b BK348.out) : gb350 ≠ gb348)); revert n0_ n1_ n2_ n3_ n4_ n5_ n6_; clear BK348 HB; intro BK348 HB BK350 GW350 GE350 NB348_350 NB350_348; clear hb hbox hg; have hnb10 := NB350_348.out; have hnc10 := NB348_350.out; obtain ⟨hcz11_0, hcz11_1, hfz11_0, hfz11_1⟩ := q_2 BK350.out) | ((with_reducible refine gate_callee (f := 93) rfl ?_); refine goesLq (some 21) rfl rfl Try.func93 (by kernel_rfl) rfl #[.slice A0 l0.length c0] rfl ?_; (with_reducible refine (impl_keysOf.calls k _ _ l0 t351 _ ?side1 ?side2 A6.out).mono ?_); (case side1 => exact Kd.C_below HR0.out bq); (case side2 => exact HC0.out); rintro e w12 ⟨v352, rfl, ho0, hb⟩; refine ⟨_, rfl, ?_⟩; have n0_ := Aside0.mk (Kd.R_lower ho0 (below_size bq)); have n1_ := Aside0.mk (blk_below (g := gb348) (o := .cells #[.int .i64 0, .slice none 0 0] 46 (0, 0)) (by (with_reducible repeat (first | refine blk_drewN ?_ _ | refine blk_drew ?_ | refine blk_alloc ?_ _)); refine blk_far ?_ NB348_350.out _; (with_reducible repeat (first | refine blk_drewN ?_ _ | refine blk_drew ?_ | refine blk_alloc ?_ _)); refine blk_far ?_ NB348_350.out _; (with_reducible repeat (first | refine blk_drewN ?_ _ | refine blk_drew ?_ | refine blk_alloc ?_ _)); exact BK348.out) hb); have n2_ := Aside0.mk (blk_below (g := gb350) (o := .cells #[.int .i64 0, .slice none 0 0] 46 (0, 0)) (by (with_reducible repeat (first | refine blk_drewN ?_ _ | refine blk_drew ?_ | refine blk_alloc ?_ _)); refine blk_put (cs := #[.int .i64 0, .slice none 0 0]) ?_ 1 _ rfl; (with_reducible repeat (first | refine blk_drewN ?_ _ | refine blk_drew ?_ | refine blk_alloc ?_ _)); refine blk_put (cs := #[.int .i64 0, .slice none 0 0]) ?_ 0 _ rfl; (with_reducible repeat (first | refine blk_drewN ?_ _ | refine blk_drew ?_ | refine blk_alloc ?_ _)); exact BK350.out) hb); have n3_ := Aside0.mk (below_step bq hb); revert n0_ n1_ n2_ n3_; clear BK348 BK350 HB; intro HO353 BK348 BK350 HB; (try clear hb); (try clear hb2); (try clear hk); (try clear hi); (try clear ho0); obtain ⟨Ao13, co13, eo13⟩ := Kd.R_slice HO353.out; subst eo13))
  go_loopg [23] k (fun kq v23 w' => ∃ (x23_1 : Int) (x351001_1 : List (S49)) (u351001 : Value), v23 = .int .i64 x23_1 ∧ Aside0 (impl_ScanTable.l0 kq l0 a1 a2 t351 (t351.length : Int) x23_1 0 x351001_1 = some (r1, r2)) ∧ Aside0 (kq ≤ k) ∧ Aside0 (Kd.R Kd.string 9 w' w.heap.size (fun _ => True) (.slice Ao13 t351.length co13) t351) ∧ Aside0 (Kd.R k49 49 w' w.heap.size (fun _ => True) u351001 x351001_1) ∧ Aside0 (w'.heap[gb348]? = some (.cells #[.int .i64 0, (.slice none 0 0)] 46 (0, 0))) ∧ Aside0 (w'.heap[gb350]? = some (.cells #[.int .i64 0, u351001] 46 (0, 0))) ∧ Aside0 (Below w.heap.size w w'))
  case atStart => exact ⟨(0), (([] : List (S49))), (.slice none 0 0), q_i, H', ⟨Nat.le_refl _⟩, ⟨q_r (HO353.out)⟩, ⟨by first | exact Kd.R_nil _ _ _ _ _ | exact Kd.N_nil _ _ _ _ _ | exact Kd.V_nil _ _ _ _ _ | exact Kd.Q_nil _ _ _ _ _ | exact Kd.S_nil _ _ _ _ _⟩, ⟨q_b BK348.out⟩, ⟨q_b BK350.out⟩, ⟨bq⟩⟩
  case round =>
   clear H'
   (try clear c1); (try clear p2); (try clear c4); (try clear c5); (try clear c5b0); (try clear c5b1); (try clear c9); (try clear c10); (try clear hcz11_0); (try clear hcz11_1); (try clear hfz11_0); (try clear hfz11_1)
   obtain ⟨x23_1, x351001_1, u351001, rfl, HA, HK1, HO_21, HO_351001, BK348, BK350, HB⟩ := hrel
   cases gk with
   | zero => exact absurd HA.out (by simp [impl_ScanTable.l0])
   | succ k1 =>
    have H := HA.out
    clear HA
    simp only [impl_ScanTable.l0] at H
    by_cases c14 : x23_1 < (t351.length : Int)
    ·rw [if_pos c14] at H
     have c14b0 := decide_eq_true c14
     clear c14
     by_cases c15 : 0 ≤ x23_1
     ·rw [if_pos c15] at H
      have c15b0 := decide_eq_true c15
      clear c15
      by_cases c16 : x23_1 < (t351.length : Int)
      ·rw [if_pos c16] at H
       have c16b0 := decide_eq_true c16
       clear c16
       replace H := Option.bind_eq_some_iff.mp H
       obtain ⟨⟨t355, t356, t357, t358, t359⟩, A170, H⟩ := H
       replace H : (if t359 = true then (if t358 = true then (impl_ScanTable.l0 k1 l0 a1 a2 t351 (t351.length : Int) (wrap64 (x23_1 + 1)) 0 x351001_1) else ((strings_HasPrefix.f (rdOf ByteArray.empty t351 x23_1) a1).bind fun t361 => (if t361 = true then (if x351001_1.length < 2932031007402 then (impl_ScanTable.l0 k1 l0 a1 a2 t351 (t351.length : Int) (wrap64 (x23_1 + 1)) 0 (x351001_1 ++ [(⟨t355, t356, t357, t358⟩ : S49)])) else (none)) else (impl_ScanTable.l0 k1 l0 a1 a2 t351 (t351.length : Int) (wrap64 (x23_1 + 1)) 0 x351001_1)))) else (impl_ScanTable.l0 k1 l0 a1 a2 t351 (t351.length : Int) (wrap64 (x23_1 + 1)) 0 x351001_1)) = some (r1, r2) := H
       have A17 := Aside0.mk A170
       clear A170
       by_cases c18 : t359 = true
       ·subst c18
        have H1 : (if t358 = true then (impl_ScanTable.l0 k1 l0 a1 a2 t351 (t351.length : Int) (wrap64 (x23_1 + 1)) 0 x351001_1) else ((strings_HasPrefix.f (rdOf ByteArray.empty t351 x23_1) a1).bind fun t361 => (if t361 = true then (if x351001_1.length < 2932031007402 then (impl_ScanTable.l0 k1 l0 a1 a2 t351 (t351.length : Int) (wrap64 (x23_1 + 1)) 0 (x351001_1 ++ [(⟨t355, t356, t357, t358⟩ : S49)])) else (none)) else (impl_ScanTable.l0 k1 l0 a1 a2 t351 (t351.length : Int) (wrap64 (x23_1 + 1)) 0 x351001_1)))) = some (r1, r2) := by rw [if_pos rfl] at H; exact H
        clear H
        have H := H1
        clear H1
        by_cases c19 : t358 = true
        ·subst c19
         have H1 : (impl_ScanTable.l0 k1 l0 a1 a2 t351 (t351.length : Int) (wrap64 (x23_1 + 1)) 0 x351001_1) = some (r1, r2) := by rw [if_pos rfl] at H; exact H
         clear H
         have H := H1
         clear H1
         have H' := Aside0.mk H
         clear H
         have p354 : 0 ≤ (x23_1 : Int) := q_d
         have q354 : x23_1 < (t351.length : Int) := q_d
         obtain ⟨ad354, e354, hx354_0⟩ := Kd.at_string (Kd.R_reads' HO_21.out).2.2 x23_1 p354 q354
         cases e354
         replace p354 := eq_true p354
         replace q354 := eq_true q354
         go_wp2_with (first | ((with_reducible refine gate_callee (f := 80) rfl ?_); refine goesLq (some 31) rfl rfl Try.func80 (by kernel_rfl) rfl #[.slice A0 l0.length c0, .string (rdOf ByteArray.empty t351 x23_1), .int .i64 a2] rfl ?_; (with_reducible refine (impl_rowOf.calls k1 _ _ l0 (rdOf ByteArray.empty t351 x23_1) a2 t355 t356 t357 true true _ ?side1 ?side2 A17.out).mono ?_); (case side1 => exact q_c ((Kd.C_below HR0.out HB.out))); (case side2 => exact HC0.out); rintro e w20 ⟨rfl, hb⟩; refine ⟨_, rfl, ?_⟩; have n0_ := Aside0.mk (Kd.R_below (q_r (HO_21.out)) hb); have n1_ := Aside0.mk (Kd.R_below (q_r (HO_351001.out)) hb); have n2_ := Aside0.mk (blk_below (q_b BK348.out) hb); have n3_ := Aside0.mk (blk_below (q_b BK350.out) hb); have n4_ := Aside0.mk (below_step bq hb); revert n0_ n1_ n2_ n3_ n4_; clear HO_21 HO_351001 BK348 BK350 HB; intro HO_21 HO_351001 BK348 BK350 HB; (try clear hb); (try clear hb2); (try clear hk); (try clear hi)) | ((with_reducible refine gate_dst (N := 11) rfl ?_); refine q_box (N := 11) (cs := #[.string (⟨#[]⟩ : ByteArray), .int .i64 0, .string (⟨#[]⟩ : ByteArray), .bool false]) (t := 49) ?_; intro gb360 hg w21 hbox hb; have n0_ := Aside0.mk (Kd.R_below (q_r (HO_21.out)) hb); have n1_ := Aside0.mk (Kd.R_below (Kd.R_elderB (q_r (HO_351001.out)) gb360 (Nat.le_of_eq hg.symm)) hb); have n2_ := Aside0.mk (blk_below (q_b BK348.out) hb); have n3_ := Aside0.mk (blk_below (q_b BK350.out) hb); have n4_ := Aside0.mk (below_step bq hb); have n5_ := Aside0.mk (hbox); have n6_ := Aside0.mk ((q_g hg bq : w.heap.size ≤ gb360)); have n7_ := Aside0.mk ((q_g hg bq : w.heap.size ≤ gb360)); have n8_ := Aside0.mk ((q_n hg (q_b BK348.out) : gb348 ≠ gb360)); have n9_ := Aside0.mk ((q_m hg (q_b BK348.out) : gb360 ≠ gb348)); have n10_ := Aside0.mk ((q_n hg (q_b BK350.out) : gb350 ≠ gb360)); have n11_ := Aside0.mk ((q_m hg (q_b BK350.out) : gb360 ≠ gb350)); revert n0_ n1_ n2_ n3_ n4_ n5_ n6_ n7_ n8_ n9_ n10_ n11_; clear HO_21 HO_351001 BK348 BK350 HB; intro HO_21 HO_351001 BK348 BK350 HB BK360 GW360 GE360 NB348_360 NB360_348 NB350_360 NB360_350; clear hb hbox hg; have hnb22 := NB360_348.out; have hnc22 := NB348_360.out; have hnb23 := NB360_350.out; have hnc23 := NB350_360.out; obtain ⟨hcz24_0, hcz24_1, hcz24_2, hcz24_3, hfz24_0, hfz24_1, hfz24_2, hfz24_3⟩ := q_4 BK360.out))
         go_roundg k1
         case measure => have := HK1.out; omega
         case rel => exact ⟨(wrap64 (x23_1 + 1)), (x351001_1), (u351001), q_i, H', ⟨by have := HK1.out; omega⟩, ⟨by (with_reducible repeat (first | apply Kd.R_alloc | apply Kd.R_drewN | apply Kd.R_drew)); exact Kd.R_mono (Kd.R_far (p := ⟨gb360, 3, none⟩) (Kd.R_far (p := ⟨gb360, 2, none⟩) (Kd.R_far (p := ⟨gb360, 1, none⟩) (Kd.R_far (p := ⟨gb360, 0, none⟩) (Kd.R_types HO_21.out BK360.out (by decide)) (fun _ hk => hk.2) (.string t355)) (fun _ hk => hk.2) (.int .i64 t356)) (fun _ hk => hk.2) (.string t357)) (fun _ hk => hk.2) (.bool true)) (fun _ hk => trivial)⟩, ⟨by (with_reducible repeat (first | apply Kd.R_alloc | apply Kd.R_drewN | apply Kd.R_drew)); exact Kd.R_mono (Kd.R_far (p := ⟨gb360, 3, none⟩) (Kd.R_far (p := ⟨gb360, 2, none⟩) (Kd.R_far (p := ⟨gb360, 1, none⟩) (Kd.R_far (p := ⟨gb360, 0, none⟩) (Kd.R_mono HO_351001.out (fun k_ hk => (⟨hk, hk.2⟩ : _ ∧ k_ ≠ gb360))) (fun _ hk => hk.2) (.string t355)) (fun _ hk => hk.2) (.int .i64 t356)) (fun _ hk => hk.2) (.string t357)) (fun _ hk => hk.2) (.bool true)) (fun _ hk => trivial)⟩, ⟨by (with_reducible repeat (first | refine blk_drewN ?_ _ | refine blk_drew ?_ | refine blk_alloc ?_ _)); refine blk_far ?_ NB348_360.out _; (with_reducible repeat (first | refine blk_drewN ?_ _ | refine blk_drew ?_ | refine blk_alloc ?_ _)); refine blk_far ?_ NB348_360.out _; (with_reducible repeat (first | refine blk_drewN ?_ _ | refine blk_drew ?_ | refine blk_alloc ?_ _)); refine blk_far ?_ NB348_360.out _; (with_reducible repeat (first | refine blk_drewN ?_ _ | refine blk_drew ?_ | refine blk_alloc ?_ _)); refine blk_far ?_ NB348_360.out _; (with_reducible repeat (first | refine blk_drewN ?_ _ | refine blk_drew ?_ | refine blk_alloc ?_ _)); exact BK348.out⟩, ⟨by (with_reducible repeat (first | refine blk_drewN ?_ _ | refine blk_drew ?_ | refine blk_alloc ?_ _)); refine blk_far ?_ NB350_360.out _; (with_reducible repeat (first | refine blk_drewN ?_ _ | refine blk_drew ?_ | refine blk_alloc ?_ _)); refine blk_far ?_ NB350_360.out _; (with_reducible repeat (first | refine blk_drewN ?_ _ | refine blk_drew ?_ | refine blk_alloc ?_ _)); refine blk_far ?_ NB350_360.out _; (with_reducible repeat (first | refine blk_drewN ?_ _ | refine blk_drew ?_ | refine blk_alloc ?_ _)); refine blk_far ?_ NB350_360.out _; (with_reducible repeat (first | refine blk_drewN ?_ _ | refine blk_drew ?_ | refine blk_alloc ?_ _)); exact BK350.out⟩, ⟨bq⟩⟩
        ·replace c19 := Bool.eq_false_iff.mpr c19
         subst c19
         have H1 : ((strings_HasPrefix.f (rdOf ByteArray.empty t351 x23_1) a1).bind fun t361 => (if t361 = true then (if x351001_1.length < 2932031007402 then (impl_ScanTable.l0 k1 l0 a1 a2 t351 (t351.length : Int) (wrap64 (x23_1 + 1)) 0 (x351001_1 ++ [(⟨t355, t356, t357, false⟩ : S49)])) else (none)) else (impl_ScanTable.l0 k1 l0 a1 a2 t351 (t351.length : Int) (wrap64 (x23_1 + 1)) 0 x351001_1))) = some (r1, r2) := by rw [if_neg (show ¬ (false = true) by decide)] at H; exact H
         clear H
         have H := H1
         clear H1
         replace H := Option.bind_eq_some_iff.mp H
         obtain ⟨t361, A250, H⟩ := H
         replace H : (if t361 = true then (if x351001_1.length < 2932031007402 then (impl_ScanTable.l0 k1 l0 a1 a2 t351 (t351.length : Int) (wrap64 (x23_1 + 1)) 0 (x351001_1 ++ [(⟨t355, t356, t357, false⟩ : S49)])) else (none)) else (impl_ScanTable.l0 k1 l0 a1 a2 t351 (t351.length : Int) (wrap64 (x23_1 + 1)) 0 x351001_1)) = some (r1, r2) := H
         have A25 := Aside0.mk A250
         clear A250
         by_cases c26 : t361 = true
         ·subst c26
          have H1 : (if x351001_1.length < 2932031007402 then (impl_ScanTable.l0 k1 l0 a1 a2 t351 (t351.length : Int) (wrap64 (x23_1 + 1)) 0 (x351001_1 ++ [(⟨t355, t356, t357, false⟩ : S49)])) else (none)) = some (r1, r2) := by rw [if_pos rfl] at H; exact H
          clear H
          have H := H1
          clear H1
          by_cases c27 : x351001_1.length < 2932031007402
          ·rw [if_pos c27] at H
           have LMc27 := Aside0.mk c27
           clear c27
           obtain ⟨y362, hy362⟩ : ∃ y_ : List (S49), y_ = (x351001_1 ++ [(⟨t355, t356, t357, false⟩ : S49)]) := ⟨_, rfl⟩
           replace H : (impl_ScanTable.l0 k1 l0 a1 a2 t351 (t351.length : Int) (wrap64 (x23_1 + 1)) 0 y362) = some (r1, r2) := q_h hy362 H
           have Ny362 := Aside0.mk hy362
           clear hy362
           have H' := Aside0.mk H
           clear H
           have p354 : 0 ≤ (x23_1 : Int) := q_d
           have q354 : x23_1 < (t351.length : Int) := q_d
           obtain ⟨ad354, e354, hx354_0⟩ := Kd.at_string (Kd.R_reads' HO_21.out).2.2 x23_1 p354 q354
           cases e354
           replace p354 := eq_true p354
           replace q354 := eq_true q354
           go_wp2_with (first | ((with_reducible refine gate_callee (f := 80) rfl ?_); refine goesLq (some 31) rfl rfl Try.func80 (by kernel_rfl) rfl #[.slice A0 l0.length c0, .string (rdOf ByteArray.empty t351 x23_1), .int .i64 a2] rfl ?_; (with_reducible refine (impl_rowOf.calls k1 _ _ l0 (rdOf ByteArray.empty t351 x23_1) a2 t355 t356 t357 false true _ ?side1 ?side2 A17.out).mono ?_); (case side1 => exact q_c ((Kd.C_below HR0.out HB.out))); (case side2 => exact HC0.out); rintro e w28 ⟨rfl, hb⟩; refine ⟨_, rfl, ?_⟩; have n0_ := Aside0.mk (Kd.R_below (q_r (HO_21.out)) hb); have n1_ := Aside0.mk (Kd.R_below (q_r (HO_351001.out)) hb); have n2_ := Aside0.mk (blk_below (q_b BK348.out) hb); have n3_ := Aside0.mk (blk_below (q_b BK350.out) hb); have n4_ := Aside0.mk (below_step bq hb); revert n0_ n1_ n2_ n3_ n4_; clear HO_21 HO_351001 BK348 BK350 HB; intro HO_21 HO_351001 BK348 BK350 HB; (try clear hb); (try clear hb2); (try clear hk); (try clear hi)) | ((with_reducible refine gate_dst (N := 11) rfl ?_); refine q_box (N := 11) (cs := #[.string (⟨#[]⟩ : ByteArray), .int .i64 0, .string (⟨#[]⟩ : ByteArray), .bool false]) (t := 49) ?_; intro gb360 hg w29 hbox hb; have n0_ := Aside0.mk (Kd.R_below (q_r (HO_21.out)) hb); have n1_ := Aside0.mk (Kd.R_below (Kd.R_elderB (q_r (HO_351001.out)) gb360 (Nat.le_of_eq hg.symm)) hb); have n2_ := Aside0.mk (blk_below (q_b BK348.out) hb); have n3_ := Aside0.mk (blk_below (q_b BK350.out) hb); have n4_ := Aside0.mk (below_step bq hb); have n5_ := Aside0.mk (hbox); have n6_ := Aside0.mk ((q_g hg bq : w.heap.size ≤ gb360)); have n7_ := Aside0.mk ((q_g hg bq : w.heap.size ≤ gb360)); have n8_ := Aside0.mk ((q_n hg (q_b BK348.out) : gb348 ≠ gb360)); have n9_ := Aside0.mk ((q_m hg (q_b BK348.out) : gb360 ≠ gb348)); have n10_ := Aside0.mk ((q_n hg (q_b BK350.out) : gb350 ≠ gb360)); have n11_ := Aside0.mk ((q_m hg (q_b BK350.out) : gb360 ≠ gb350)); revert n0_ n1_ n2_ n3_ n4_ n5_ n6_ n7_ n8_ n9_ n10_ n11_; clear HO_21 HO_351001 BK348 BK350 HB; intro HO_21 HO_351001 BK348 BK350 HB BK360 GW360 GE360 NB348_360 NB360_348 NB350_360 NB360_350; clear hb hbox hg; have hnb30 := NB360_348.out; have hnc30 := NB348_360.out; have hnb31 := NB360_350.out; have hnc31 := NB350_360.out; obtain ⟨hcz32_0, hcz32_1, hcz32_2, hcz32_3, hfz32_0, hfz32_1, hfz32_2, hfz32_3⟩ := q_4 BK360.out) | (go_at_call 97; (with_reducible refine (strings_HasPrefix.calls (rdOf ByteArray.empty t351 x23_1) a1 true _ A25.out).mono ?_); rintro e w' ⟨rfl, ⟨nd, rfl⟩⟩; have hnb33 := NB350_348.out; have hnc33 := NB348_350.out; obtain ⟨hcz34_0, hcz34_1, hfz34_0, hfz34_1⟩ := q_2 BK350.out) | ((with_reducible refine gate_builtin (b := .append) (xs := #[.tmp 46, .tmp 48]) rfl ?_); at_builtin; refine Kd.R_append k49 (w0 := w) w.heap.size rfl (.tmp 46) (.tmp 48) 25 49 (.agg #[(.string ⟨#[]⟩), (.int .i64 0), (.string ⟨#[]⟩), (.bool false)]) 48 rfl Try.underlying25 info49 rfl (by decide) (by omega) u351001 x351001_1 (⟨t355, t356, t357, false⟩ : S49) [.string t355, .int .i64 t356, .string t357, .bool false] (fun k_ => k_ ≠ gb360) (fun _ => False) rfl (by first | (go_simp; done) | (go_simp; rfl)) ?aP (fun _ hk => hk.elim) ?aF ?aO ?aB ?aS ?aL ?_; (case aP => exact k49_mkM _ _ _ (⟨t355, t356, t357, false⟩ : S49)); (case aB => exact bq); (case aF => exact (fun k_ hk => Kd.freshB (g := gb360) (o := .cells #[.string t355, .int .i64 t356, .string t357, .bool false] 49 (0, 0)) (by (with_reducible repeat (first | refine blk_drewN ?_ _ | refine blk_drew ?_ | refine blk_alloc ?_ _)); refine blk_put (cs := #[.string t355, .int .i64 t356, .string t357, .bool false]) ?_ 3 _ rfl; (with_reducible repeat (first | refine blk_drewN ?_ _ | refine blk_drew ?_ | refine blk_alloc ?_ _)); refine blk_put (cs := #[.string t355, .int .i64 t356, .string (⟨#[]⟩ : ByteArray), .bool false]) ?_ 2 _ rfl; (with_reducible repeat (first | refine blk_drewN ?_ _ | refine blk_drew ?_ | refine blk_alloc ?_ _)); refine blk_put (cs := #[.string t355, .int .i64 0, .string (⟨#[]⟩ : ByteArray), .bool false]) ?_ 1 _ rfl; (with_reducible repeat (first | refine blk_drewN ?_ _ | refine blk_drew ?_ | refine blk_alloc ?_ _)); refine blk_put (cs := #[.string (⟨#[]⟩ : ByteArray), .int .i64 0, .string (⟨#[]⟩ : ByteArray), .bool false]) ?_ 0 _ rfl; (with_reducible repeat (first | refine blk_drewN ?_ _ | refine blk_drew ?_ | refine blk_alloc ?_ _)); exact BK360.out) k_ hk)); (case aO => exact (by (with_reducible repeat (first | apply Kd.R_alloc | apply Kd.R_drewN | apply Kd.R_drew)); exact Kd.R_mono (Kd.R_far (p := ⟨gb360, 3, none⟩) (Kd.R_far (p := ⟨gb360, 2, none⟩) (Kd.R_far (p := ⟨gb360, 1, none⟩) (Kd.R_far (p := ⟨gb360, 0, none⟩) (Kd.R_mono HO_351001.out (fun k_ hk => (⟨hk, hk.2⟩ : _ ∧ k_ ≠ gb360))) (fun _ hk => hk.2) (.string t355)) (fun _ hk => hk.2) (.int .i64 t356)) (fun _ hk => hk.2) (.string t357)) (fun _ hk => hk.2) (.bool false)) (fun _ hk => hk.1.2))); (case aS => exact (below_size bq)); (case aL => have := LMc27.out; omega); intro v363 w35 ho hb hg hat; rw [← Ny362.out] at ho; have n0_ := Aside0.mk (Kd.R_over' (by (with_reducible repeat (first | apply Kd.R_alloc | apply Kd.R_drewN | apply Kd.R_drew)); exact (Kd.R_mono (Kd.R_far (p := ⟨gb360, 3, none⟩) (Kd.R_far (p := ⟨gb360, 2, none⟩) (Kd.R_far (p := ⟨gb360, 1, none⟩) (Kd.R_far (p := ⟨gb360, 0, none⟩) (Kd.R_types HO_21.out BK360.out (by decide)) (fun _ hk => hk.2) (.string t355)) (fun _ hk => hk.2) (.int .i64 t356)) (fun _ hk => hk.2) (.string t357)) (fun _ hk => hk.2) (.bool false)) (fun _ h_ => h_.1))) (Kd.R_typed (by (with_reducible repeat (first | apply Kd.R_alloc | apply Kd.R_drewN | apply Kd.R_drew)); exact (Kd.R_mono (Kd.R_far (p := ⟨gb360, 3, none⟩) (Kd.R_far (p := ⟨gb360, 2, none⟩) (Kd.R_far (p := ⟨gb360, 1, none⟩) (Kd.R_far (p := ⟨gb360, 0, none⟩) (Kd.R_mono HO_351001.out (fun k_ hk => (⟨hk, hk.2⟩ : _ ∧ k_ ≠ gb360))) (fun _ hk => hk.2) (.string t355)) (fun _ hk => hk.2) (.int .i64 t356)) (fun _ hk => hk.2) (.string t357)) (fun _ hk => hk.2) (.bool false)) (fun _ h_ => h_.1)))) (by decide) hg); have n1_ := Aside0.mk (blk_grown (g := gb348) (o := .cells #[.int .i64 0, .slice none 0 0] 46 (0, 0)) (by (with_reducible repeat (first | refine blk_drewN ?_ _ | refine blk_drew ?_ | refine blk_alloc ?_ _)); refine blk_far ?_ NB348_360.out _; (with_reducible repeat (first | refine blk_drewN ?_ _ | refine blk_drew ?_ | refine blk_alloc ?_ _)); refine blk_far ?_ NB348_360.out _; (with_reducible repeat (first | refine blk_drewN ?_ _ | refine blk_drew ?_ | refine blk_alloc ?_ _)); refine blk_far ?_ NB348_360.out _; (with_reducible repeat (first | refine blk_drewN ?_ _ | refine blk_drew ?_ | refine blk_alloc ?_ _)); refine blk_far ?_ NB348_360.out _; (with_reducible repeat (first | refine blk_drewN ?_ _ | refine blk_drew ?_ | refine blk_alloc ?_ _)); exact BK348.out) hg (Kd.R_ne HO_351001.out BK348.out (by decide))); have n2_ := Aside0.mk (blk_grown (g := gb350) (o := .cells #[.int .i64 0, u351001] 46 (0, 0)) (by (with_reducible repeat (first | refine blk_drewN ?_ _ | refine blk_drew ?_ | refine blk_alloc ?_ _)); refine blk_far ?_ NB350_360.out _; (with_reducible repeat (first | refine blk_drewN ?_ _ | refine blk_drew ?_ | refine blk_alloc ?_ _)); refine blk_far ?_ NB350_360.out _; (with_reducible repeat (first | refine blk_drewN ?_ _ | refine blk_drew ?_ | refine blk_alloc ?_ _)); refine blk_far ?_ NB350_360.out _; (with_reducible repeat (first | refine blk_drewN ?_ _ | refine blk_drew ?_ | refine blk_alloc ?_ _)); refine blk_far ?_ NB350_360.out _; (with_reducible repeat (first | refine blk_drewN ?_ _ | refine blk_drew ?_ | refine blk_alloc ?_ _)); exact BK350.out) hg (Kd.R_ne HO_351001.out BK350.out (by decide))); have n3_ := Aside0.mk (blk_grown (g := gb360) (o := .cells #[.string t355, .int .i64 t356, .string t357, .bool false] 49 (0, 0)) (by (with_reducible repeat (first | refine blk_drewN ?_ _ | refine blk_drew ?_ | refine blk_alloc ?_ _)); refine blk_put (cs := #[.string t355, .int .i64 t356, .string t357, .bool false]) ?_ 3 _ rfl; (with_reducible repeat (first | refine blk_drewN ?_ _ | refine blk_drew ?_ | refine blk_alloc ?_ _)); refine blk_put (cs := #[.string t355, .int .i64 t356, .string (⟨#[]⟩ : ByteArray), .bool false]) ?_ 2 _ rfl; (with_reducible repeat (first | refine blk_drewN ?_ _ | refine blk_drew ?_ | refine blk_alloc ?_ _)); refine blk_put (cs := #[.string t355, .int .i64 0, .string (⟨#[]⟩ : ByteArray), .bool false]) ?_ 1 _ rfl; (with_reducible repeat (first | refine blk_drewN ?_ _ | refine blk_drew ?_ | refine blk_alloc ?_ _)); refine blk_put (cs := #[.string (⟨#[]⟩ : ByteArray), .int .i64 0, .string (⟨#[]⟩ : ByteArray), .bool false]) ?_ 0 _ rfl; (with_reducible repeat (first | refine blk_drewN ?_ _ | refine blk_drew ?_ | refine blk_alloc ?_ _)); exact BK360.out) hg (Kd.R_away HO_351001.out (fun _ hk => hk.2))); have n4_ := Aside0.mk (hb); have n5_ := Aside0.mk (ho); revert n0_ n1_ n2_ n3_ n4_ n5_; clear HO_21 BK348 BK350 BK360 HB HO_351001; intro HO_21 BK348 BK350 BK360 HB HO364; clear ho hb hg hat; obtain ⟨Ao36, co36, eo36⟩ := Kd.R_slice HO364.out; subst eo36; obtain ⟨hcz37_0, hcz37_1, hfz37_0, hfz37_1⟩ := q_2 BK350.out))
           go_roundg k1
           case measure => have := HK1.out; omega
           case rel => exact ⟨(wrap64 (x23_1 + 1)), (y362), (.slice Ao36 y362.length co36), q_i, H', ⟨by have := HK1.out; omega⟩, ⟨by (with_reducible repeat (first | apply Kd.R_alloc | apply Kd.R_drewN | apply Kd.R_drew)); exact Kd.R_mono (Kd.R_far (p := ⟨gb350, 1, none⟩) (Kd.R_types HO_21.out BK350.out (by decide)) (fun _ hk => hk.2) (.slice Ao36 y362.length co36)) (fun _ hk => trivial)⟩, ⟨by (with_reducible repeat (first | apply Kd.R_alloc | apply Kd.R_drewN | apply Kd.R_drew)); exact Kd.R_mono (Kd.R_far (p := ⟨gb350, 1, none⟩) (Kd.R_types HO364.out BK350.out (by decide)) (fun _ hk => hk.2) (.slice Ao36 y362.length co36)) (fun _ hk => trivial)⟩, ⟨by (with_reducible repeat (first | refine blk_drewN ?_ _ | refine blk_drew ?_ | refine blk_alloc ?_ _)); refine blk_far ?_ NB348_350.out _; (with_reducible repeat (first | refine blk_drewN ?_ _ | refine blk_drew ?_ | refine blk_alloc ?_ _)); exact BK348.out⟩, ⟨by (with_reducible repeat (first | refine blk_drewN ?_ _ | refine blk_drew ?_ | refine blk_alloc ?_ _)); refine blk_put (cs := #[.int .i64 0, u351001]) ?_ 1 _ rfl; (with_reducible repeat (first | refine blk_drewN ?_ _ | refine blk_drew ?_ | refine blk_alloc ?_ _)); exact BK350.out⟩, ⟨bq⟩⟩
          ·rw [if_neg c27] at H
           exact absurd H (by simp)
         ·replace c26 := Bool.eq_false_iff.mpr c26
          subst c26
          have H1 : (impl_ScanTable.l0 k1 l0 a1 a2 t351 (t351.length : Int) (wrap64 (x23_1 + 1)) 0 x351001_1) = some (r1, r2) := by rw [if_neg (show ¬ (false = true) by decide)] at H; exact H
          clear H
          have H := H1
          clear H1
          have H' := Aside0.mk H
          clear H
          have p354 : 0 ≤ (x23_1 : Int) := q_d
          have q354 : x23_1 < (t351.length : Int) := q_d
          obtain ⟨ad354, e354, hx354_0⟩ := Kd.at_string (Kd.R_reads' HO_21.out).2.2 x23_1 p354 q354
          cases e354
          replace p354 := eq_true p354
          replace q354 := eq_true q354
          go_wp2_with (first | ((with_reducible refine gate_callee (f := 80) rfl ?_); refine goesLq (some 31) rfl rfl Try.func80 (by kernel_rfl) rfl #[.slice A0 l0.length c0, .string (rdOf ByteArray.empty t351 x23_1), .int .i64 a2] rfl ?_; (with_reducible refine (impl_rowOf.calls k1 _ _ l0 (rdOf ByteArray.empty t351 x23_1) a2 t355 t356 t357 false true _ ?side1 ?side2 A17.out).mono ?_); (case side1 => exact q_c ((Kd.C_below HR0.out HB.out))); (case side2 => exact HC0.out); rintro e w38 ⟨rfl, hb⟩; refine ⟨_, rfl, ?_⟩; have n0_ := Aside0.mk (Kd.R_below (q_r (HO_21.out)) hb); have n1_ := Aside0.mk (Kd.R_below (q_r (HO_351001.out)) hb); have n2_ := Aside0.mk (blk_below (q_b BK348.out) hb); have n3_ := Aside0.mk (blk_below (q_b BK350.out) hb); have n4_ := Aside0.mk (below_step bq hb); revert n0_ n1_ n2_ n3_ n4_; clear HO_21 HO_351001 BK348 BK350 HB; intro HO_21 HO_351001 BK348 BK350 HB; (try clear hb); (try clear hb2); (try clear hk); (try clear hi)) | ((with_reducible refine gate_dst (N := 11) rfl ?_); refine q_box (N := 11) (cs := #[.string (⟨#[]⟩ : ByteArray), .int .i64 0, .string (⟨#[]⟩ : ByteArray), .bool false]) (t := 49) ?_; intro gb360 hg w39 hbox hb; have n0_ := Aside0.mk (Kd.R_below (q_r (HO_21.out)) hb); have n1_ := Aside0.mk (Kd.R_below (Kd.R_elderB (q_r (HO_351001.out)) gb360 (Nat.le_of_eq hg.symm)) hb); have n2_ := Aside0.mk (blk_below (q_b BK348.out) hb); have n3_ := Aside0.mk (blk_below (q_b BK350.out) hb); have n4_ := Aside0.mk (below_step bq hb); have n5_ := Aside0.mk (hbox); have n6_ := Aside0.mk ((q_g hg bq : w.heap.size ≤ gb360)); have n7_ := Aside0.mk ((q_g hg bq : w.heap.size ≤ gb360)); have n8_ := Aside0.mk ((q_n hg (q_b BK348.out) : gb348 ≠ gb360)); have n9_ := Aside0.mk ((q_m hg (q_b BK348.out) : gb360 ≠ gb348)); have n10_ := Aside0.mk ((q_n hg (q_b BK350.out) : gb350 ≠ gb360)); have n11_ := Aside0.mk ((q_m hg (q_b BK350.out) : gb360 ≠ gb350)); revert n0_ n1_ n2_ n3_ n4_ n5_ n6_ n7_ n8_ n9_ n10_ n11_; clear HO_21 HO_351001 BK348 BK350 HB; intro HO_21 HO_351001 BK348 BK350 HB BK360 GW360 GE360 NB348_360 NB360_348 NB350_360 NB360_350; clear hb hbox hg; have hnb40 := NB360_348.out; have hnc40 := NB348_360.out; have hnb41 := NB360_350.out; have hnc41 := NB350_360.out; obtain ⟨hcz42_0, hcz42_1, hcz42_2, hcz42_3, hfz42_0, hfz42_1, hfz42_2, hfz42_3⟩ := q_4 BK360.out) | (go_at_call 97; (with_reducible refine (strings_HasPrefix.calls (rdOf ByteArray.empty t351 x23_1) a1 false _ A25.out).mono ?_); rintro e w' ⟨rfl, ⟨nd, rfl⟩⟩))
          go_roundg k1
          case measure => have := HK1.out; omega
          case rel => exact ⟨(wrap64 (x23_1 + 1)), (x351001_1), (u351001), q_i, H', ⟨by have := HK1.out; omega⟩, ⟨by (with_reducible repeat (first | apply Kd.R_alloc | apply Kd.R_drewN | apply Kd.R_drew)); exact Kd.R_mono (Kd.R_far (p := ⟨gb360, 3, none⟩) (Kd.R_far (p := ⟨gb360, 2, none⟩) (Kd.R_far (p := ⟨gb360, 1, none⟩) (Kd.R_far (p := ⟨gb360, 0, none⟩) (Kd.R_types HO_21.out BK360.out (by decide)) (fun _ hk => hk.2) (.string t355)) (fun _ hk => hk.2) (.int .i64 t356)) (fun _ hk => hk.2) (.string t357)) (fun _ hk => hk.2) (.bool false)) (fun _ hk => trivial)⟩, ⟨by (with_reducible repeat (first | apply Kd.R_alloc | apply Kd.R_drewN | apply Kd.R_drew)); exact Kd.R_mono (Kd.R_far (p := ⟨gb360, 3, none⟩) (Kd.R_far (p := ⟨gb360, 2, none⟩) (Kd.R_far (p := ⟨gb360, 1, none⟩) (Kd.R_far (p := ⟨gb360, 0, none⟩) (Kd.R_mono HO_351001.out (fun k_ hk => (⟨hk, hk.2⟩ : _ ∧ k_ ≠ gb360))) (fun _ hk => hk.2) (.string t355)) (fun _ hk => hk.2) (.int .i64 t356)) (fun _ hk => hk.2) (.string t357)) (fun _ hk => hk.2) (.bool false)) (fun _ hk => trivial)⟩, ⟨by (with_reducible repeat (first | refine blk_drewN ?_ _ | refine blk_drew ?_ | refine blk_alloc ?_ _)); refine blk_far ?_ NB348_360.out _; (with_reducible repeat (first | refine blk_drewN ?_ _ | refine blk_drew ?_ | refine blk_alloc ?_ _)); refine blk_far ?_ NB348_360.out _; (with_reducible repeat (first | refine blk_drewN ?_ _ | refine blk_drew ?_ | refine blk_alloc ?_ _)); refine blk_far ?_ NB348_360.out _; (with_reducible repeat (first | refine blk_drewN ?_ _ | refine blk_drew ?_ | refine blk_alloc ?_ _)); refine blk_far ?_ NB348_360.out _; (with_reducible repeat (first | refine blk_drewN ?_ _ | refine blk_drew ?_ | refine blk_alloc ?_ _)); exact BK348.out⟩, ⟨by (with_reducible repeat (first | refine blk_drewN ?_ _ | refine blk_drew ?_ | refine blk_alloc ?_ _)); refine blk_far ?_ NB350_360.out _; (with_reducible repeat (first | refine blk_drewN ?_ _ | refine blk_drew ?_ | refine blk_alloc ?_ _)); refine blk_far ?_ NB350_360.out _; (with_reducible repeat (first | refine blk_drewN ?_ _ | refine blk_drew ?_ | refine blk_alloc ?_ _)); refine blk_far ?_ NB350_360.out _; (with_reducible repeat (first | refine blk_drewN ?_ _ | refine blk_drew ?_ | refine blk_alloc ?_ _)); refine blk_far ?_ NB350_360.out _; (with_reducible repeat (first | refine blk_drewN ?_ _ | refine blk_drew ?_ | refine blk_alloc ?_ _)); exact BK350.out⟩, ⟨bq⟩⟩
       ·replace c18 := Bool.eq_false_iff.mpr c18
        subst c18
        have H1 : (impl_ScanTable.l0 k1 l0 a1 a2 t351 (t351.length : Int) (wrap64 (x23_1 + 1)) 0 x351001_1) = some (r1, r2) := by rw [if_neg (show ¬ (false = true) by decide)] at H; exact H
        clear H
        have H := H1
        clear H1
        have H' := Aside0.mk H
        clear H
        have p354 : 0 ≤ (x23_1 : Int) := q_d
        have q354 : x23_1 < (t351.length : Int) := q_d
        obtain ⟨ad354, e354, hx354_0⟩ := Kd.at_string (Kd.R_reads' HO_21.out).2.2 x23_1 p354 q354
        cases e354
        replace p354 := eq_true p354
        replace q354 := eq_true q354
        go_wp2_with (first | ((with_reducible refine gate_callee (f := 80) rfl ?_); refine goesLq (some 31) rfl rfl Try.func80 (by kernel_rfl) rfl #[.slice A0 l0.length c0, .string (rdOf ByteArray.empty t351 x23_1), .int .i64 a2] rfl ?_; (with_reducible refine (impl_rowOf.calls k1 _ _ l0 (rdOf ByteArray.empty t351 x23_1) a2 t355 t356 t357 t358 false _ ?side1 ?side2 A17.out).mono ?_); (case side1 => exact q_c ((Kd.C_below HR0.out HB.out))); (case side2 => exact HC0.out); rintro e w43 ⟨rfl, hb⟩; refine ⟨_, rfl, ?_⟩; have n0_ := Aside0.mk (Kd.R_below (q_r (HO_21.out)) hb); have n1_ := Aside0.mk (Kd.R_below (q_r (HO_351001.out)) hb); have n2_ := Aside0.mk (blk_below (q_b BK348.out) hb); have n3_ := Aside0.mk (blk_below (q_b BK350.out) hb); have n4_ := Aside0.mk (below_step bq hb); revert n0_ n1_ n2_ n3_ n4_; clear HO_21 HO_351001 BK348 BK350 HB; intro HO_21 HO_351001 BK348 BK350 HB; (try clear hb); (try clear hb2); (try clear hk); (try clear hi)) | ((with_reducible refine gate_dst (N := 11) rfl ?_); refine q_box (N := 11) (cs := #[.string (⟨#[]⟩ : ByteArray), .int .i64 0, .string (⟨#[]⟩ : ByteArray), .bool false]) (t := 49) ?_; intro gb360 hg w44 hbox hb; have n0_ := Aside0.mk (Kd.R_below (q_r (HO_21.out)) hb); have n1_ := Aside0.mk (Kd.R_below (Kd.R_elderB (q_r (HO_351001.out)) gb360 (Nat.le_of_eq hg.symm)) hb); have n2_ := Aside0.mk (blk_below (q_b BK348.out) hb); have n3_ := Aside0.mk (blk_below (q_b BK350.out) hb); have n4_ := Aside0.mk (below_step bq hb); have n5_ := Aside0.mk (hbox); have n6_ := Aside0.mk ((q_g hg bq : w.heap.size ≤ gb360)); have n7_ := Aside0.mk ((q_g hg bq : w.heap.size ≤ gb360)); have n8_ := Aside0.mk ((q_n hg (q_b BK348.out) : gb348 ≠ gb360)); have n9_ := Aside0.mk ((q_m hg (q_b BK348.out) : gb360 ≠ gb348)); have n10_ := Aside0.mk ((q_n hg (q_b BK350.out) : gb350 ≠ gb360)); have n11_ := Aside0.mk ((q_m hg (q_b BK350.out) : gb360 ≠ gb350)); revert n0_ n1_ n2_ n3_ n4_ n5_ n6_ n7_ n8_ n9_ n10_ n11_; clear HO_21 HO_351001 BK348 BK350 HB; intro HO_21 HO_351001 BK348 BK350 HB BK360 GW360 GE360 NB348_360 NB360_348 NB350_360 NB360_350; clear hb hbox hg; have hnb45 := NB360_348.out; have hnc45 := NB348_360.out; have hnb46 := NB360_350.out; have hnc46 := NB350_360.out; obtain ⟨hcz47_0, hcz47_1, hcz47_2, hcz47_3, hfz47_0, hfz47_1, hfz47_2, hfz47_3⟩ := q_4 BK360.out))
        go_roundg k1
        case measure => have := HK1.out; omega
        case rel => exact ⟨(wrap64 (x23_1 + 1)), (x351001_1), (u351001), q_i, H', ⟨by have := HK1.out; omega⟩, ⟨by (with_reducible repeat (first | apply Kd.R_alloc | apply Kd.R_drewN | apply Kd.R_drew)); exact Kd.R_mono (Kd.R_far (p := ⟨gb360, 3, none⟩) (Kd.R_far (p := ⟨gb360, 2, none⟩) (Kd.R_far (p := ⟨gb360, 1, none⟩) (Kd.R_far (p := ⟨gb360, 0, none⟩) (Kd.R_types HO_21.out BK360.out (by decide)) (fun _ hk => hk.2) (.string t355)) (fun _ hk => hk.2) (.int .i64 t356)) (fun _ hk => hk.2) (.string t357)) (fun _ hk => hk.2) (.bool t358)) (fun _ hk => trivial)⟩, ⟨by (with_reducible repeat (first | apply Kd.R_alloc | apply Kd.R_drewN | apply Kd.R_drew)); exact Kd.R_mono (Kd.R_far (p := ⟨gb360, 3, none⟩) (Kd.R_far (p := ⟨gb360, 2, none⟩) (Kd.R_far (p := ⟨gb360, 1, none⟩) (Kd.R_far (p := ⟨gb360, 0, none⟩) (Kd.R_mono HO_351001.out (fun k_ hk => (⟨hk, hk.2⟩ : _ ∧ k_ ≠ gb360))) (fun _ hk => hk.2) (.string t355)) (fun _ hk => hk.2) (.int .i64 t356)) (fun _ hk => hk.2) (.string t357)) (fun _ hk => hk.2) (.bool t358)) (fun _ hk => trivial)⟩, ⟨by (with_reducible repeat (first | refine blk_drewN ?_ _ | refine blk_drew ?_ | refine blk_alloc ?_ _)); refine blk_far ?_ NB348_360.out _; (with_reducible repeat (first | refine blk_drewN ?_ _ | refine blk_drew ?_ | refine blk_alloc ?_ _)); refine blk_far ?_ NB348_360.out _; (with_reducible repeat (first | refine blk_drewN ?_ _ | refine blk_drew ?_ | refine blk_alloc ?_ _)); refine blk_far ?_ NB348_360.out _; (with_reducible repeat (first | refine blk_drewN ?_ _ | refine blk_drew ?_ | refine blk_alloc ?_ _)); refine blk_far ?_ NB348_360.out _; (with_reducible repeat (first | refine blk_drewN ?_ _ | refine blk_drew ?_ | refine blk_alloc ?_ _)); exact BK348.out⟩, ⟨by (with_reducible repeat (first | refine blk_drewN ?_ _ | refine blk_drew ?_ | refine blk_alloc ?_ _)); refine blk_far ?_ NB350_360.out _; (with_reducible repeat (first | refine blk_drewN ?_ _ | refine blk_drew ?_ | refine blk_alloc ?_ _)); refine blk_far ?_ NB350_360.out _; (with_reducible repeat (first | refine blk_drewN ?_ _ | refine blk_drew ?_ | refine blk_alloc ?_ _)); refine blk_far ?_ NB350_360.out _; (with_reducible repeat (first | refine blk_drewN ?_ _ | refine blk_drew ?_ | refine blk_alloc ?_ _)); refine blk_far ?_ NB350_360.out _; (with_reducible repeat (first | refine blk_drewN ?_ _ | refine blk_drew ?_ | refine blk_alloc ?_ _)); exact BK350.out⟩, ⟨bq⟩⟩
      ·rw [if_neg c16] at H
       exact absurd H (by simp)
     ·rw [if_neg c15] at H
      exact absurd H (by simp)
    ·rw [if_neg c14] at H
     have c14b0 := decide_eq_false c14
     clear c14
     simp only [Option.some.injEq, Prod.mk.injEq] at H
     obtain ⟨rfl, rfl⟩ := H
     have hnb48 := NB350_348.out
     have hnc48 := NB348_350.out
     obtain ⟨hcz49_0, hcz49_1, hfz49_0, hfz49_1⟩ := q_2 BK350.out
     obtain ⟨hcz50_0, hcz50_1, hfz50_0, hfz50_1⟩ := q_2 BK348.out
     obtain ⟨Ao51, co51, eo51⟩ := Kd.R_slice HO_351001.out
     subst eo51
     go_wp2
     refine bodyPost_ret (results_cell_row rfl _ _ gb348 46 #[.int .i64 0, .slice Ao51 x351001_1.length co51] (0, 0) _ rfl (by (with_reducible repeat (first | refine blk_drewN ?_ _ | refine blk_drew ?_ | refine blk_alloc ?_ _)); refine blk_put (cs := #[.int .i64 0, .slice none 0 0]) ?_ 1 _ rfl; (with_reducible repeat (first | refine blk_drewN ?_ _ | refine blk_drew ?_ | refine blk_alloc ?_ _)); refine blk_put (cs := #[.int .i64 0, .slice none 0 0]) ?_ 0 _ rfl; (with_reducible repeat (first | refine blk_drewN ?_ _ | refine blk_drew ?_ | refine blk_alloc ?_ _)); exact BK348.out) Try.underlying46 rfl (by kernel_rfl)) rfl ?_
     exact ⟨_, q_e, by (with_reducible repeat (first | apply Kd.R_alloc | apply Kd.R_drewN | apply Kd.R_drew)); exact Kd.R_mono (Kd.R_far (p := ⟨gb348, 1, none⟩) (Kd.R_far (p := ⟨gb348, 0, none⟩) (Kd.R_types HO_351001.out BK348.out (by decide)) (fun _ hk => hk.2) (.int .i64 0)) (fun _ hk => hk.2) (.slice Ao51 x351001_1.length co51)) (fun _ hk => trivial), bq⟩
 ·rw [if_neg c5] at H
  have c5b0 : (t349 == 0) = false := beq_eq_false_iff_ne.mpr c5
  have c5b1 : (t349 != 0) = true := bne_iff_ne.mpr c5
  simp only [Option.some.injEq, Prod.mk.injEq] at H
  obtain ⟨rfl, rfl⟩ := H
  go_enter Try.func48, Try.ntmps48
  go_wp2_with (first | ((with_reducible refine gate_dst (N := 6) rfl ?_); refine q_box (N := 6) (cs := #[.int .i64 0, .slice none 0 0]) (t := 46) ?_; intro gb348 hg w52 hbox hb; have n0_ := Aside0.mk (below_step bq hb); have n1_ := Aside0.mk (hbox); have n2_ := Aside0.mk ((q_g hg bq : w.heap.size ≤ gb348)); have n3_ := Aside0.mk ((q_g hg bq : w.heap.size ≤ gb348)); revert n0_ n1_ n2_ n3_; clear HB; intro HB BK348 GW348 GE348; clear hb hbox hg) | ((with_reducible refine gate_callee (f := 18) rfl ?_); refine goesLq (some 14) rfl rfl Try.func18 (by kernel_rfl) rfl #[.slice A0 l0.length c0] rfl ?_; (with_reducible refine (impl_TableFault.calls k _ _ l0 t349 _ ?side1 ?side2 A4.out).mono ?_); (case side1 => exact q_c ((Kd.C_below HR0.out HB.out))); (case side2 => exact HC0.out); rintro e w53 ⟨rfl, hb⟩; refine ⟨_, rfl, ?_⟩; have n0_ := Aside0.mk (blk_below (q_b BK348.out) hb); have n1_ := Aside0.mk (below_step bq hb); revert n0_ n1_; clear BK348 HB; intro BK348 HB; (try clear hb); (try clear hb2); (try clear hk); (try clear hi); obtain ⟨hcz54_0, hcz54_1, hfz54_0, hfz54_1⟩ := q_2 BK348.out))
  refine bodyPost_ret (results_cell_row rfl _ _ gb348 46 #[.int .i64 t349, .slice none 0 0] (0, 0) _ rfl (by (with_reducible repeat (first | refine blk_drewN ?_ _ | refine blk_drew ?_ | refine blk_alloc ?_ _)); refine blk_put (cs := #[.int .i64 t349, .slice none 0 0]) ?_ 1 _ rfl; (with_reducible repeat (first | refine blk_drewN ?_ _ | refine blk_drew ?_ | refine blk_alloc ?_ _)); refine blk_put (cs := #[.int .i64 0, .slice none 0 0]) ?_ 0 _ rfl; (with_reducible repeat (first | refine blk_drewN ?_ _ | refine blk_drew ?_ | refine blk_alloc ?_ _)); exact BK348.out) Try.underlying46 rfl (by kernel_rfl)) rfl ?_
  exact ⟨_, q_e, by first | exact Kd.R_nil _ _ _ _ _ | exact Kd.N_nil _ _ _ _ _ | exact Kd.V_nil _ _ _ _ _ | exact Kd.Q_nil _ _ _ _ _ | exact Kd.S_nil _ _ _ _ _, bq⟩

end Go.Proofs.Ytdhlcnlcpjlliaa.PFnScans
