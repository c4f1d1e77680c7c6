/- The functions that a law reaches, each as a plain Lean function with the proof that the machine comes to its answer: written by program (the kit's print, turned by wip/gen). No conditions. -/
import Derived.Test.YtooiamkaipdmpaaPFnBytesx0
import Derived.Test.YtooiamkaipdmpaaPFnBytesx4
import Derived.Test.YtooiamkaipdmpaaPFnBytesx5
namespace Go.Proofs.Ytooiamkaipdmpaa.PFnBytes
open Go.RowKit Go.Proofs.YtooiamkaipdmpaaW.PrintWords Go.Proofs.YtooiamkaipdmpaaW.PrintLast Go.Proofs.YtooiamkaipdmpaaW.PrintMore
attribute [local go_sem] max2_int min2_int max_two min_two max_three min_three max_four min_four   -- for this text's walks alone
set_option linter.unusedVariables false
set_option linter.unusedSimpArgs false
theorem q_P {P : Program} {ops : Array Oper} {Q : Exit → Act → World → Prop} {md : Region.Mode} {S : World → Prop} {ds : List Nat} {T : Bool × List (List Nat × List Nat)} (i : Nat) (N : Option Tmp) {oi : Oper} {v : Value} {fuel : Nat} {l : Array Bool} {a : Act} {w : World} (l' : Array Bool) (hT : rtab md ops = T) {a' : Act}
    (h : wpAnyLast P md ops Q S ds fuel l' a' w) (hi : ops[i]? = some oi := by rfl) (hN : oi.dst = N := by rfl) (hc : anyT T l.toList l'.toList i = true := by kernel_rfl) (hQ : ∀ c a w, Q (.panic c) (a.put oi.dst v) w → Q (.panic c) a w := by exact fun _ _ _ h => h)
    (hy : Yields P ops oi v a := by refine Or.inl ⟨by rfl, ?_⟩; intro w'; go_simp; (try (simp only [Instr.field, asAgg]; go_simp)); with_reducible rfl) (ha : a.put N v = a' := by simp only [Act.put, List.setIfInBounds_toArray, List.set_cons_zero, List.set_cons_succ, i64_w, i32_w]; rfl) : wpAnyLast P md ops Q S ds (fuel + 1) l a w := pure_ l' hi hN (any_of hT hc) hQ hy ha h

/-! ### impl_UnpackNumber: function 57 -/
def impl_UnpackNumber.l0 : Nat → Int → List Int → Int → Int → Option (Int × Int)
  | 0, _, _, _, _ => none
  | k + 1, x3, x10, x11, x12 => if x12 < x11 then (if 0 ≤ x12 then (if x12 < (x10.length : Int) then (impl_UnpackNumber.l0 k (IntKind.u64.wrap ((IntKind.u64.wrap (x3 * 256)) + (IntKind.u64.wrap (rd x10 x12)))) x10 x11 (wrap64 (x12 + 1))) else (none)) else (none)) else (some (0, wrap64 (x3)))
def impl_UnpackNumber.f (k : Nat) (l0 : List Int) : Option (Int × Int) := if (l0.length : Int) = 8 then (impl_UnpackNumber.l0 k 0 l0 (l0.length : Int) 0) else (some (1, 0))
set_option maxHeartbeats 8000000 in
set_option maxRecDepth 100000 in
theorem impl_UnpackNumber.calls (k : Nat) (A0 : Option Addr) (c0 : Nat) (l0 : List Int) (r1 : Int) (r2 : Int) (w : World) (hr0 : Kd.C (Kd.int .u8) w A0 l0.length l0) (hc0 : l0.length ≤ c0) (h : impl_UnpackNumber.f k l0 = some (r1, r2)) :
  Calls Try.prog 57 #[.slice A0 l0.length c0] w fun e w' => e = .returned (.agg #[.int .i64 r1, .int .i64 r2]) ∧ Below w.heap.size w w' := by
 have hu42 := Try.underlying42
 have HR0 := Aside0.mk hr0
 have HC0 := Aside0.mk hc0
 clear hr0 hc0
 have HB := Aside0.mk (Below.refl w.heap.size w)
 have H : (if (l0.length : Int) = 8 then (impl_UnpackNumber.l0 k 0 l0 (l0.length : Int) 0) else (some (1, 0))) = some (r1, r2) := h
 clear h
 by_cases c2 : (l0.length : Int) = 8
 ·rw [if_pos c2] at H
  have c2b0 : ((l0.length : Int) == 8) = true := beq_iff_eq.mpr c2
  have c2b1 : ((l0.length : Int) != 8) = false := bne_eq_false_iff_eq.mpr c2
  clear c2
  have H' := Aside0.mk H
  clear H
  go_enter Try.func57, Try.ntmps57
  go_wp2_with (first | ((with_reducible refine gate_dst (N := 2) rfl ?_); refine q_box (N := 2) (cs := #[.int .i64 0, .int .i64 0]) (t := 42) ?_; intro gb200 hg w3 hbox hb; have n0_ := Aside0.mk (below_step bq hb); have n1_ := Aside0.mk (hbox); have n2_ := Aside0.mk ((q_g hg bq : w.heap.size ≤ gb200)); have n3_ := Aside0.mk ((q_g hg bq : w.heap.size ≤ gb200)); revert n0_ n1_ n2_ n3_; clear HB; intro HB BK200 GW200 GE200; clear hb hbox hg))
  go_loopg [3, 12] k (fun kq v3 v12 w' => ∃ (x3_1 : Int) (x12_1 : Int), v3 = .int .u64 x3_1 ∧ v12 = .int .i64 x12_1 ∧ Aside0 (impl_UnpackNumber.l0 kq x3_1 l0 (l0.length : Int) x12_1 = some (r1, r2)) ∧ Aside0 (kq ≤ k) ∧ Aside0 (w'.heap[gb200]? = some (.cells #[.int .i64 0, .int .i64 0] 42 (0, 0))) ∧ Aside0 (Below w.heap.size w w'))
  case atStart => exact ⟨(0), (0), q_i, q_i, H', ⟨Nat.le_refl _⟩, ⟨q_b BK200.out⟩, ⟨bq⟩⟩
  case round =>
   clear H'
   (try clear c2); (try clear c2b0); (try clear c2b1); (try clear p2)
   obtain ⟨x3_1, x12_1, rfl, rfl, HA, HK1, BK200, HB⟩ := hrel
   cases gk with
   | zero => exact absurd HA.out (by simp [impl_UnpackNumber.l0])
   | succ k1 =>
    have H := HA.out
    clear HA
    simp only [impl_UnpackNumber.l0] at H
    by_cases c4 : x12_1 < (l0.length : Int)
    ·rw [if_pos c4] at H
     have c4b0 := decide_eq_true c4
     clear c4
     by_cases c5 : 0 ≤ x12_1
     ·rw [if_pos c5] at H
      have c5b0 := decide_eq_true c5
      clear c5
      by_cases c6 : x12_1 < (l0.length : Int)
      ·rw [if_pos c6] at H
       have c6b0 := decide_eq_true c6
       clear c6
       have H' := Aside0.mk H
       clear H
       have p201 : 0 ≤ (x12_1 : Int) := q_d
       have q201 : x12_1 < (l0.length : Int) := q_d
       obtain ⟨ad201, e201, hx201_0⟩ := Kd.at_int HR0.out x12_1 p201 q201
       cases e201
       replace hx201_0 := q_x HB.out hx201_0
       replace p201 := eq_true p201
       replace q201 := eq_true q201
       go_wp2
       go_roundg k1
       case measure => have := HK1.out; omega
       case rel => exact ⟨(IntKind.u64.wrap ((IntKind.u64.wrap (x3_1 * 256)) + (IntKind.u64.wrap (rd l0 x12_1)))), (wrap64 (x12_1 + 1)), q_i, q_i, H', ⟨by have := HK1.out; omega⟩, ⟨q_b BK200.out⟩, ⟨bq⟩⟩
      ·rw [if_neg c6] at H
       exact absurd H (by simp)
     ·rw [if_neg c5] at H
      exact absurd H (by simp)
    ·rw [if_neg c4] at H
     have c4b0 := decide_eq_false c4
     clear c4
     simp only [Option.some.injEq, Prod.mk.injEq] at H
     obtain ⟨rfl, rfl⟩ := H
     obtain ⟨hcz7_0, hcz7_1, hfz7_0, hfz7_1⟩ := q_2 BK200.out
     go_wp2
     refine bodyPost_ret (results_cell_row rfl _ _ gb200 42 #[.int .i64 0, .int .i64 (wrap64 (x3_1))] (0, 0) _ rfl (by (with_reducible repeat (first | refine blk_drewN ?_ _ | refine blk_drew ?_ | refine blk_alloc ?_ _)); refine blk_put (cs := #[.int .i64 0, .int .i64 0]) ?_ 1 _ rfl; (with_reducible repeat (first | refine blk_drewN ?_ _ | refine blk_drew ?_ | refine blk_alloc ?_ _)); refine blk_put (cs := #[.int .i64 0, .int .i64 0]) ?_ 0 _ rfl; (with_reducible repeat (first | refine blk_drewN ?_ _ | refine blk_drew ?_ | refine blk_alloc ?_ _)); exact BK200.out) Try.underlying42 rfl (by kernel_rfl)) rfl ?_
     exact ⟨q_e, bq⟩
 ·rw [if_neg c2] at H
  have c2b0 : ((l0.length : Int) == 8) = false := beq_eq_false_iff_ne.mpr c2
  have c2b1 : ((l0.length : Int) != 8) = true := bne_iff_ne.mpr c2
  simp only [Option.some.injEq, Prod.mk.injEq] at H
  obtain ⟨rfl, rfl⟩ := H
  go_enter Try.func57, Try.ntmps57
  go_wp2_with (first | ((with_reducible refine gate_dst (N := 2) rfl ?_); refine q_box (N := 2) (cs := #[.int .i64 0, .int .i64 0]) (t := 42) ?_; intro gb200 hg w8 hbox hb; have n0_ := Aside0.mk (below_step bq hb); have n1_ := Aside0.mk (hbox); have n2_ := Aside0.mk ((q_g hg bq : w.heap.size ≤ gb200)); have n3_ := Aside0.mk ((q_g hg bq : w.heap.size ≤ gb200)); revert n0_ n1_ n2_ n3_; clear HB; intro HB BK200 GW200 GE200; clear hb hbox hg; obtain ⟨hcz9_0, hcz9_1, hfz9_0, hfz9_1⟩ := q_2 BK200.out))
  refine bodyPost_ret (results_cell_row rfl _ _ gb200 42 #[.int .i64 1, .int .i64 0] (0, 0) _ rfl (by (with_reducible repeat (first | refine blk_drewN ?_ _ | refine blk_drew ?_ | refine blk_alloc ?_ _)); refine blk_put (cs := #[.int .i64 1, .int .i64 0]) ?_ 1 _ rfl; (with_reducible repeat (first | refine blk_drewN ?_ _ | refine blk_drew ?_ | refine blk_alloc ?_ _)); refine blk_put (cs := #[.int .i64 0, .int .i64 0]) ?_ 0 _ rfl; (with_reducible repeat (first | refine blk_drewN ?_ _ | refine blk_drew ?_ | refine blk_alloc ?_ _)); exact BK200.out) Try.underlying42 rfl (by kernel_rfl)) rfl ?_
  exact ⟨q_e, bq⟩

/-! ### bytes_Equal: function 94 -/
def bytes_Equal.f (l0 : List Int) (l1 : List Int) : Option (Bool) := some ((strOfNums l0).toList == (strOfNums l1).toList)
set_option maxHeartbeats 8000000 in
set_option maxRecDepth 100000 in
theorem bytes_Equal.calls (A0 : Option Addr) (c0 : Nat) (l0 : List Int) (A1 : Option Addr) (c1 : Nat) (l1 : List Int) (r : Bool) (w : World) (hr0 : Kd.C (Kd.int .u8) w A0 l0.length l0) (hc0 : l0.length ≤ c0) (hr1 : Kd.C (Kd.int .u8) w A1 l1.length l1) (hc1 : l1.length ≤ c1) (h : bytes_Equal.f l0 l1 = some r) :
  Calls Try.prog 94 #[.slice A0 l0.length c0, .slice A1 l1.length c1] w fun e w' => e = .returned (.bool r) ∧ Drawn0 w w' := by
 have HR0 := Aside0.mk hr0
 have HC0 := Aside0.mk hc0
 clear hr0 hc0
 have HR1 := Aside0.mk hr1
 have HC1 := Aside0.mk hc1
 clear hr1 hc1
 have H : (some ((strOfNums l0).toList == (strOfNums l1).toList)) = some r := h
 clear h
 obtain rfl := Option.some.inj H
 have hcv3 := Kd.C_string (P := Try.prog) (A := A0) (c := c0) Try.underlying22 Try.underlying5 Try.underlying9 HR0.out
 have hcv4 := Kd.C_string (P := Try.prog) (A := A1) (c := c1) Try.underlying22 Try.underlying5 Try.underlying9 HR1.out
 go_enter Try.func94, Try.ntmps94
 go_wp2
 go_ret
 exact ⟨by first | rfl | (simp; done) | (simp [*]; done), q_0⟩

/-! ### impl_UnpackContract: function 50 -/
mutual
def impl_UnpackContract.j0 : Nat → List Int → Bool → Option (Int × Int × (List (S89)))
  | 0, _, _ => none
  | k + 1, x0, x20 => if x20 = true then (some (5, 0, ([] : List (S89)))) else (if 8 ≤ (x0.length : Int) then ((impl_UnpackNumber.f k (x0.take 8)).bind fun bt204 => (impl_UnpackContract.l0 k x0 8 bt204.2 ([] : List (S89)))) else (none))
def impl_UnpackContract.l0 : Nat → List Int → Int → Int → List (S89) → Option (Int × Int × (List (S89)))
  | 0, _, _, _, _ => none
  | k + 1, x0, x4, x207000, x207001 => if x4 < (x0.length : Int) then (if 0 ≤ (wrap64 (x4 + 3)) then (if (wrap64 (x4 + 3)) ≤ (wrap64 (x4 + 11)) then (if (wrap64 (x4 + 11)) ≤ (x0.length : Int) then ((impl_UnpackNumber.f k ((x0.take ((wrap64 (x4 + 11)) : Int).toNat).drop ((wrap64 (x4 + 3)) : Int).toNat)).bind fun bt208 => (if 0 ≤ x4 then (if 0 ≤ (wrap64 (x4 + 1)) then (if (wrap64 (x4 + 1)) < (x0.length : Int) then (if 0 ≤ (wrap64 (x4 + 2)) then (if (wrap64 (x4 + 2)) < (x0.length : Int) then (if x207001.length < 4398046511104 then (impl_UnpackContract.l0 k x0 (wrap64 (x4 + 11)) x207000 (x207001 ++ [(⟨wrap64 (rd x0 x4), wrap64 (rd x0 (wrap64 (x4 + 1))), wrap64 (rd x0 (wrap64 (x4 + 2))), bt208.2⟩ : S89)])) else (none)) else (none)) else (none)) else (none)) else (none)) else (none))) else (none)) else (none)) else (none)) else ((impl_ContractFault.f k x207000 x207001).bind fun t216 => (if t216 = 0 then ((impl_packContract.f k x207000 x207001).bind fun t217 => ((bytes_Equal.f t217 x0).bind fun t220 => (if t220 = true then (some (0, x207000, x207001)) else (some (5, 0, ([] : List (S89))))))) else (some (5, 0, ([] : List (S89))))))
end
def impl_UnpackContract.f (k : Nat) (l0 : List Int) : Option (Int × Int × (List (S89))) := if (l0.length : Int) < 8 then (impl_UnpackContract.j0 k l0 true) else (if (Int.tmod (wrap64 ((l0.length : Int) - 8)) 11) = 0 then (impl_UnpackContract.j0 k l0 (decide ((l0.length : Int) > 96))) else (impl_UnpackContract.j0 k l0 true))
def impl_UnpackContract.T8 : Bool × List (List Nat × List Nat) := (true, [([], []), ([0], [0]), ([], []), ([], []), ([2, 3], [2, 3]), ([4], [4]), ([5], [5]), ([], []), ([], []), ([8], [8]), ([7, 9], [7, 9]), ([10], [10]), ([11], [11]), ([], []), ([], []), ([14], [14]), ([13, 15], [13, 15]), ([16], [16]), ([17], [17]), ([], []), ([6, 12, 18, 19], [6, 12, 18, 19]), ([20], [20]), ([1, 21], [1, 21]), ([0, 1, 2, 3, 4, 5, 6, 7, 8, 9, 10, 11, 12, 13, 14, 15, 16, 17, 18, 19, 20, 21, 22], []), ([23, 22, 22, 0, 1, 2, 3, 4, 5, 6, 7, 8, 9, 10, 11, 12, 13, 14, 15, 16, 17, 18, 19, 20, 21, 22], [22, 23])])
def impl_UnpackContract.B8 : List Nat := [0, 1, 0, 0, 12, 28, 60, 0, 0, 256, 896, 1920, 3968, 0, 0, 16384, 57344, 122880, 253952, 0, 1048572, 2097148, 4194303, 8388607, 16777215]
theorem impl_UnpackContract.tab8 : rtab .any (opsOf Try.f50 8) = impl_UnpackContract.T8 := by kernel_rfl
theorem impl_UnpackContract.bits8 : waitsOk impl_UnpackContract.T8.2 impl_UnpackContract.B8 = true := by kernel_rfl
attribute [local go_sem] Instr.field asAgg
set_option maxHeartbeats 8000000 in
set_option maxRecDepth 100000 in
theorem impl_UnpackContract.calls (k : Nat) (A0 : Option Addr) (c0 : Nat) (l0 : List Int) (r1 : Int) (r2 : Int) (r3 : List (S89)) (w : World) (hr0 : Kd.C (Kd.int .u8) w A0 l0.length l0) (hc0 : l0.length ≤ c0) (h : impl_UnpackContract.f k l0 = some (r1, r2, r3)) :
  Calls Try.prog 50 #[.slice A0 l0.length c0] w fun e w' => ∃ v2_ : Value, e = .returned (.agg #[.int .i64 r1, .int .i64 r2, v2_]) ∧ Kd.R k89 89 w' w.heap.size (fun _ => True) v2_ r3 ∧ Below w.heap.size w w' := by
 have hu59 := Try.underlying59
 have hu42 := Try.underlying42
 have hu36 := Try.underlying36
 have hu89 := Try.underlying89
 have HR0 := Aside0.mk hr0
 have HC0 := Aside0.mk hc0
 clear hr0 hc0
 have HB := Aside0.mk (Below.refl w.heap.size w)
 have H : (if (l0.length : Int) < 8 then (impl_UnpackContract.j0 k l0 true) else (if (Int.tmod (wrap64 ((l0.length : Int) - 8)) 11) = 0 then (impl_UnpackContract.j0 k l0 (decide ((l0.length : Int) > 96))) else (impl_UnpackContract.j0 k l0 true))) = some (r1, r2, r3) := h
 clear h
 have HC2 := Aside0.mk H
 clear H
 go_enter Try.func50, Try.ntmps50
 go_upto_region 1 with (first | ((with_reducible refine gate_dst (N := 2) rfl ?_); (try (refine gate_guard (by rfl) ?_; dsimp only)); refine q_box (N := 2) (cs := #[.int .i64 0, .int .i64 0, .slice none 0 0]) (t := 59) ?_; intro gb202 hg w3 hbox hb; have n0_ := Aside0.mk (below_step bq hb); have n1_ := Aside0.mk (hbox); have n2_ := Aside0.mk ((q_g hg bq : w.heap.size ≤ gb202)); have n3_ := Aside0.mk ((q_g hg bq : w.heap.size ≤ gb202)); revert n0_ n1_ n2_ n3_; clear HB; intro HB BK202 GW202 GE202; clear hb hbox hg))
 (try simp only [Act.put, List.setIfInBounds_toArray, List.set_cons_zero, List.set_cons_succ])
 go_cut [20] (fun v20 wc => ∃ (kq : Nat) (x20_1 : Bool), v20 = .bool x20_1 ∧ Aside0 (impl_UnpackContract.j0 kq l0 x20_1 = some (r1, r2, r3)) ∧ Aside0 (kq ≤ k) ∧ Aside0 (wc.heap[gb202]? = some (.cells #[.int .i64 0, .int .i64 0, (.slice none 0 0)] 59 (0, 0))) ∧ Aside0 (Below w.heap.size w wc))
 case first =>
  have H := HC2.out
  clear HC2
  by_cases c4 : (l0.length : Int) < 8
  ·rw [if_pos c4] at H
   have c4b0 := decide_eq_true c4
   have c4b1 : decide (l0.length < 8) = true := decide_eq_true (by omega)
   clear c4
   (first | rw [c4b0] | (simp only [i64_w, i32_w]; rw [c4b0]) | skip)
   have H' := Aside0.mk H
   clear H
   go_wp2
   go_meet
   case rel => exact ⟨_, (true), q_i, H', ⟨by first | omega | exact Nat.le_refl _⟩, ⟨q_b BK202.out⟩, ⟨bq⟩⟩
  ·rw [if_neg c4] at H
   have c4b0 := decide_eq_false c4
   have c4b1 : decide (l0.length < 8) = false := decide_eq_false (by omega)
   clear c4
   (first | rw [c4b0] | (simp only [i64_w, i32_w]; rw [c4b0]) | skip)
   by_cases c5 : (Int.tmod (wrap64 ((l0.length : Int) - 8)) 11) = 0
   ·rw [if_pos c5] at H
    have c5b0 : ((Int.tmod (wrap64 ((l0.length : Int) - 8)) 11) == 0) = true := beq_iff_eq.mpr c5
    have c5b1 : ((Int.tmod (wrap64 ((l0.length : Int) - 8)) 11) != 0) = false := bne_eq_false_iff_eq.mpr c5
    clear c5
    have H' := Aside0.mk H
    clear H
    go_wp2
    go_meet
    case rel => exact ⟨_, (decide ((l0.length : Int) > 96)), q_i, H', ⟨by first | omega | exact Nat.le_refl _⟩, ⟨q_b BK202.out⟩, ⟨bq⟩⟩
   ·rw [if_neg c5] at H
    have c5b0 : ((Int.tmod (wrap64 ((l0.length : Int) - 8)) 11) == 0) = false := beq_eq_false_iff_ne.mpr c5
    have c5b1 : ((Int.tmod (wrap64 ((l0.length : Int) - 8)) 11) != 0) = true := bne_iff_ne.mpr c5
    have H' := Aside0.mk H
    clear H
    go_wp2
    go_meet
    case rel => exact ⟨_, (true), q_i, H', ⟨by first | omega | exact Nat.le_refl _⟩, ⟨q_b BK202.out⟩, ⟨bq⟩⟩
 case rest =>
  clear HC2
  (try clear p2); (try clear c4); (try clear c4b0); (try clear c4b1); (try clear c5); (try clear c5b0); (try clear c5b1)
  obtain ⟨kq, x20_1, rfl, HA, HJ1, BK202, HB⟩ := hcut
  cases kq with
  | zero => exact absurd HA.out (by simp [impl_UnpackContract.j0])
  | succ kj1 =>
   have H := HA.out
   clear HA
   simp only [impl_UnpackContract.j0] at H
   by_cases c6 : x20_1 = true
   ·subst c6
    have H1 : (some (5, 0, ([] : List (S89)))) = some (r1, r2, r3) := by rw [if_pos rfl] at H; exact H
    clear H
    have H := H1
    clear H1
    simp only [Option.some.injEq, Prod.mk.injEq] at H
    obtain ⟨rfl, rfl, rfl⟩ := H
    obtain ⟨hcz7_0, hcz7_1, hcz7_2, hfz7_0, hfz7_1, hfz7_2⟩ := q_3 BK202.out
    go_wp2
    refine bodyPost_ret (results_cell_row rfl _ _ gb202 59 #[.int .i64 5, .int .i64 0, .slice none 0 0] (0, 0) _ rfl (by (with_reducible repeat (first | refine blk_drewN ?_ _ | refine blk_drew ?_ | refine blk_alloc ?_ _)); refine blk_put (cs := #[.int .i64 5, .int .i64 0, .slice none 0 0]) ?_ 2 _ rfl; (with_reducible repeat (first | refine blk_drewN ?_ _ | refine blk_drew ?_ | refine blk_alloc ?_ _)); refine blk_put (cs := #[.int .i64 5, .int .i64 0, .slice none 0 0]) ?_ 1 _ rfl; (with_reducible repeat (first | refine blk_drewN ?_ _ | refine blk_drew ?_ | refine blk_alloc ?_ _)); refine blk_put (cs := #[.int .i64 0, .int .i64 0, .slice none 0 0]) ?_ 0 _ rfl; (with_reducible repeat (first | refine blk_drewN ?_ _ | refine blk_drew ?_ | refine blk_alloc ?_ _)); exact BK202.out) Try.underlying59 rfl (by kernel_rfl)) rfl ?_
    exact ⟨_, q_e, by first | exact Kd.R_nil _ _ _ _ _ | exact Kd.N_nil _ _ _ _ _ | exact Kd.V_nil _ _ _ _ _ | exact Kd.Q_nil _ _ _ _ _ | exact Kd.S_nil _ _ _ _ _, bq⟩
   ·replace c6 := Bool.eq_false_iff.mpr c6
    subst c6
    have H1 : (if 8 ≤ (l0.length : Int) then ((impl_UnpackNumber.f kj1 (l0.take 8)).bind fun bt204 => (impl_UnpackContract.l0 kj1 l0 8 bt204.2 ([] : List (S89)))) else (none)) = some (r1, r2, r3) := by rw [if_neg (show ¬ (false = true) by decide)] at H; exact H
    clear H
    have H := H1
    clear H1
    by_cases c8 : 8 ≤ (l0.length : Int)
    ·rw [if_pos c8] at H
     have c8b0 := eq_true c8
     have c8b1 := decide_eq_true c8
     clear c8
     replace H := Option.bind_eq_some_iff.mp H
     obtain ⟨⟨t204, t205⟩, A90, H⟩ := H
     replace H : (impl_UnpackContract.l0 kj1 l0 8 t205 ([] : List (S89))) = some (r1, r2, r3) := H
     have A9 := Aside0.mk A90
     clear A90
     have H' := Aside0.mk H
     clear H
     obtain ⟨i010, hi010, _, hsz10, _⟩ := info_parts info5
     obtain ⟨hcut10, hA10, hC10⟩ := print_take_of (P := Try.prog) (Value.int .u8) 0 22 5 .i64 Try.underlying22 hi010 hsz10 A0 c0 l0 8 (by omega) q_d HC0.out
     have HR203 := Aside0.mk (Kd.C_of_reads (h1 := fun _ => rfl) (hA10 _ (Kd.reads_of_C HR0.out)))
     have HC203 := Aside0.mk hC10
     clear hA10 hC10 hi010 hsz10
     go_wp2_with (first | ((with_reducible refine gate_callee (f := 57) rfl ?_); refine goesL_ (some 24) rfl rfl Try.func57 (by kernel_rfl) rfl #[.slice A0 (l0.take 8).length c0] rfl (by (try simp only [List.map_toArray, List.map_cons, List.map_nil]); first | done | (rw [show (l0.take 8).length = 8 from (by rw [List.length_take]; have h_ : (8 : Int) ≤ (l0.length : Int) := q_d; omega)] <;> rfl) | rfl | (simp only [List.length_drop, List.length_take]; rfl)) ?_; (with_reducible refine (impl_UnpackNumber.calls kj1 _ _ (l0.take 8) t204 t205 _ ?side1 ?side2 A9.out).mono ?_); (case side1 => exact q_c ((Kd.C_below HR203.out HB.out))); (case side2 => exact HC203.out); rintro e w11 ⟨rfl, hb⟩; refine ⟨_, rfl, ?_⟩; have n0_ := Aside0.mk (blk_below (q_b BK202.out) hb); have n1_ := Aside0.mk (below_step bq hb); revert n0_ n1_; clear BK202 HB; intro BK202 HB; (try clear hb); (try clear hb2); (try clear hk); (try clear hi)) | ((with_reducible refine gate_dst (N := 3) rfl ?_); (try (refine gate_guard (by rfl) ?_; dsimp only)); refine q_box (N := 3) (cs := #[.int .i64 0, .slice none 0 0]) (t := 36) ?_; intro gb206 hg w12 hbox hb; have n0_ := Aside0.mk (blk_below (q_b BK202.out) hb); have n1_ := Aside0.mk (below_step bq hb); have n2_ := Aside0.mk (hbox); have n3_ := Aside0.mk ((q_g hg bq : w.heap.size ≤ gb206)); have n4_ := Aside0.mk ((q_g hg bq : w.heap.size ≤ gb206)); have n5_ := Aside0.mk ((q_n hg (q_b BK202.out) : gb202 ≠ gb206)); have n6_ := Aside0.mk ((q_m hg (q_b BK202.out) : gb206 ≠ gb202)); revert n0_ n1_ n2_ n3_ n4_ n5_ n6_; clear BK202 HB; intro BK202 HB BK206 GW206 GE206 NB202_206 NB206_202; clear hb hbox hg; have hnb13 := NB206_202.out; have hnc13 := NB202_206.out; obtain ⟨hcz14_0, hcz14_1, hfz14_0, hfz14_1⟩ := q_2 BK206.out))
     go_loopg [4] kj1 (fun kq v4 w' => ∃ (x4_2 : Int) (x207001_2 : List (S89)) (u207001 : Value), v4 = .int .i64 x4_2 ∧ Aside0 (impl_UnpackContract.l0 kq l0 x4_2 t205 x207001_2 = some (r1, r2, r3)) ∧ Aside0 (kq ≤ kj1) ∧ Aside0 (Kd.R k89 89 w' w.heap.size (fun _ => True) u207001 x207001_2) ∧ Aside0 (w'.heap[gb202]? = some (.cells #[.int .i64 0, .int .i64 0, (.slice none 0 0)] 59 (0, 0))) ∧ Aside0 (w'.heap[gb206]? = some (.cells #[.int .i64 t205, u207001] 36 (0, 0))) ∧ Aside0 (Below w.heap.size w w'))
     case atStart => exact ⟨(8), (([] : List (S89))), (.slice none 0 0), q_i, H', ⟨Nat.le_refl _⟩, ⟨by first | exact Kd.R_nil _ _ _ _ _ | exact Kd.N_nil _ _ _ _ _ | exact Kd.V_nil _ _ _ _ _ | exact Kd.Q_nil _ _ _ _ _ | exact Kd.S_nil _ _ _ _ _⟩, ⟨by (with_reducible repeat (first | refine blk_drewN ?_ _ | refine blk_drew ?_ | refine blk_alloc ?_ _)); refine blk_far ?_ NB202_206.out _; (with_reducible repeat (first | refine blk_drewN ?_ _ | refine blk_drew ?_ | refine blk_alloc ?_ _)); refine blk_far ?_ NB202_206.out _; (with_reducible repeat (first | refine blk_drewN ?_ _ | refine blk_drew ?_ | refine blk_alloc ?_ _)); exact BK202.out⟩, ⟨by (with_reducible repeat (first | refine blk_drewN ?_ _ | refine blk_drew ?_ | refine blk_alloc ?_ _)); refine blk_put (cs := #[.int .i64 t205, .slice none 0 0]) ?_ 1 _ rfl; (with_reducible repeat (first | refine blk_drewN ?_ _ | refine blk_drew ?_ | refine blk_alloc ?_ _)); refine blk_put (cs := #[.int .i64 0, .slice none 0 0]) ?_ 0 _ rfl; (with_reducible repeat (first | refine blk_drewN ?_ _ | refine blk_drew ?_ | refine blk_alloc ?_ _)); exact BK206.out⟩, ⟨bq⟩⟩
     case round =>
      clear H'
      (try clear c1); (try clear p2); (try clear c4); (try clear c4b0); (try clear c4b1); (try clear c5); (try clear c5b0); (try clear c5b1); (try clear c6); (try clear p6); (try clear c8); (try clear c8b0)
      (try clear c8b1); (try clear c13); (try clear hcz14_0); (try clear hcz14_1); (try clear hcz7_0); (try clear hcz7_1); (try clear hcz7_2); (try clear hfz14_0); (try clear hfz14_1); (try clear hfz7_0)
      (try clear hfz7_1); (try clear hfz7_2); (try clear p2)
      obtain ⟨x4_2, x207001_2, u207001, rfl, HA, HK2, HO_207001, BK202, BK206, HB⟩ := hrel
      cases gk with
      | zero => exact absurd HA.out (by simp [impl_UnpackContract.l0])
      | succ k2 =>
       have H := HA.out
       clear HA
       simp only [impl_UnpackContract.l0] at H
       by_cases c15 : x4_2 < (l0.length : Int)
       ·rw [if_pos c15] at H
        have c15b0 := decide_eq_true c15
        clear c15
        obtain ⟨ji16, hji16⟩ : ∃ j_ : Int, (wrap64 (x4_2 + 3)) = j_ := ⟨_, rfl⟩
        replace H : (if 0 ≤ (ji16) then (if (ji16) ≤ (wrap64 (x4_2 + 11)) then (if (wrap64 (x4_2 + 11)) ≤ (l0.length : Int) then ((impl_UnpackNumber.f k2 ((l0.take ((wrap64 (x4_2 + 11)) : Int).toNat).drop ((ji16) : Int).toNat)).bind fun bt208 => (if 0 ≤ x4_2 then (if 0 ≤ (wrap64 (x4_2 + 1)) then (if (wrap64 (x4_2 + 1)) < (l0.length : Int) then (if 0 ≤ (wrap64 (x4_2 + 2)) then (if (wrap64 (x4_2 + 2)) < (l0.length : Int) then (if x207001_2.length < 4398046511104 then (impl_UnpackContract.l0 k2 l0 (wrap64 (x4_2 + 11)) t205 (x207001_2 ++ [(⟨wrap64 (rd l0 x4_2), wrap64 (rd l0 (wrap64 (x4_2 + 1))), wrap64 (rd l0 (wrap64 (x4_2 + 2))), bt208.2⟩ : S89)])) else (none)) else (none)) else (none)) else (none)) else (none)) else (none))) else (none)) else (none)) else (none)) = some (r1, r2, r3) := by first | (rw [hji16] at H; exact H) | (simp only [hji16] at H ⊢; exact H)
        have hji16w : (IntKind.i64.wrap (x4_2 + 3)) = ji16 := (i64_w _).trans hji16
        by_cases c17 : 0 ≤ (ji16)
        ·rw [if_pos c17] at H
         have c17b0 := eq_true c17
         have c17b1 := decide_eq_true c17
         clear c17
         by_cases c18 : (ji16) ≤ (wrap64 (x4_2 + 11))
         ·rw [if_pos c18] at H
          have c18b0 := eq_true c18
          have c18b1 := decide_eq_true c18
          by_cases c19 : (wrap64 (x4_2 + 11)) ≤ (l0.length : Int)
          ·rw [if_pos c19] at H
           have c19b0 := eq_true c19
           have c19b1 := decide_eq_true c19
           replace H := Option.bind_eq_some_iff.mp H
           obtain ⟨⟨t208, t209⟩, A200, H⟩ := H
           replace H : (if 0 ≤ x4_2 then (if 0 ≤ (wrap64 (x4_2 + 1)) then (if (wrap64 (x4_2 + 1)) < (l0.length : Int) then (if 0 ≤ (wrap64 (x4_2 + 2)) then (if (wrap64 (x4_2 + 2)) < (l0.length : Int) then (if x207001_2.length < 4398046511104 then (impl_UnpackContract.l0 k2 l0 (wrap64 (x4_2 + 11)) t205 (x207001_2 ++ [(⟨wrap64 (rd l0 x4_2), wrap64 (rd l0 (wrap64 (x4_2 + 1))), wrap64 (rd l0 (wrap64 (x4_2 + 2))), t209⟩ : S89)])) else (none)) else (none)) else (none)) else (none)) else (none)) else (none)) = some (r1, r2, r3) := H
           have A20 := Aside0.mk A200
           clear A200
           by_cases c21 : 0 ≤ x4_2
           ·rw [if_pos c21] at H
            have c21b0 := decide_eq_true c21
            clear c21
            obtain ⟨ji22, hji22⟩ : ∃ j_ : Int, (wrap64 (x4_2 + 1)) = j_ := ⟨_, rfl⟩
            replace H : (if 0 ≤ (ji22) then (if (ji22) < (l0.length : Int) then (if 0 ≤ (wrap64 (x4_2 + 2)) then (if (wrap64 (x4_2 + 2)) < (l0.length : Int) then (if x207001_2.length < 4398046511104 then (impl_UnpackContract.l0 k2 l0 (wrap64 (x4_2 + 11)) t205 (x207001_2 ++ [(⟨wrap64 (rd l0 x4_2), wrap64 (rd l0 (ji22)), wrap64 (rd l0 (wrap64 (x4_2 + 2))), t209⟩ : S89)])) else (none)) else (none)) else (none)) else (none)) else (none)) = some (r1, r2, r3) := by first | (rw [hji22] at H; exact H) | (simp only [hji22] at H ⊢; exact H)
            (try rw [hji22] at A20)
            have hji22w : (IntKind.i64.wrap (x4_2 + 1)) = ji22 := (i64_w _).trans hji22
            by_cases c23 : 0 ≤ (ji22)
            ·rw [if_pos c23] at H
             have c23b0 := decide_eq_true c23
             clear c23
             by_cases c24 : (ji22) < (l0.length : Int)
             ·rw [if_pos c24] at H
              have c24b0 := decide_eq_true c24
              clear c24
              obtain ⟨ji25, hji25⟩ : ∃ j_ : Int, (wrap64 (x4_2 + 2)) = j_ := ⟨_, rfl⟩
              replace H : (if 0 ≤ (ji25) then (if (ji25) < (l0.length : Int) then (if x207001_2.length < 4398046511104 then (impl_UnpackContract.l0 k2 l0 (wrap64 (x4_2 + 11)) t205 (x207001_2 ++ [(⟨wrap64 (rd l0 x4_2), wrap64 (rd l0 (ji22)), wrap64 (rd l0 (ji25)), t209⟩ : S89)])) else (none)) else (none)) else (none)) = some (r1, r2, r3) := by first | (rw [hji25] at H; exact H) | (simp only [hji25] at H ⊢; exact H)
              (try rw [hji25] at A20)
              have hji25w : (IntKind.i64.wrap (x4_2 + 2)) = ji25 := (i64_w _).trans hji25
              by_cases c26 : 0 ≤ (ji25)
              ·rw [if_pos c26] at H
               have c26b0 := decide_eq_true c26
               clear c26
               by_cases c27 : (ji25) < (l0.length : Int)
               ·rw [if_pos c27] at H
                have c27b0 := decide_eq_true c27
                clear c27
                by_cases c28 : x207001_2.length < 4398046511104
                ·rw [if_pos c28] at H
                 have LMc28 := Aside0.mk c28
                 clear c28
                 obtain ⟨y213, hy213⟩ : ∃ y_ : List (S89), y_ = (x207001_2 ++ [(⟨wrap64 (rd l0 x4_2), wrap64 (rd l0 (ji22)), wrap64 (rd l0 (ji25)), t209⟩ : S89)]) := ⟨_, rfl⟩
                 replace H : (impl_UnpackContract.l0 k2 l0 (wrap64 (x4_2 + 11)) t205 y213) = some (r1, r2, r3) := q_h hy213 H
                 have Ny213 := Aside0.mk hy213
                 clear hy213
                 have H' := Aside0.mk H
                 clear H
                 obtain ⟨i029, hi029, _, hsz29, _⟩ := info_parts info5
                 obtain ⟨A29, hcut29, hA29, hC29⟩ := print_mid_of (P := Try.prog) (Value.int .u8) 0 22 5 .i64 .i64 Try.underlying22 hi029 hsz29 A0 c0 l0 (ji16) (wrap64 (x4_2 + 11)) q_d (by first | omega | exact q_d) q_d HC0.out
                 have HR207 := Aside0.mk (Kd.C_of_reads (h1 := fun _ => rfl) (hA29 _ (Kd.reads_of_C HR0.out)))
                 have HC207 := Aside0.mk hC29
                 clear hA29 hC29 hi029 hsz29
                 try go_wp2_with (first | ((with_reducible refine gate_callee (f := 57) rfl ?_); refine goesL_ (some 39) rfl rfl Try.func57 (by kernel_rfl) rfl #[.slice A29 ((l0.take ((wrap64 (x4_2 + 11)) : Int).toNat).drop ((ji16) : Int).toNat).length (c0 - (ji16).toNat)] rfl (by (try simp only [List.map_toArray, List.map_cons, List.map_nil]); first | done | (rw [show ((l0.take ((wrap64 (x4_2 + 11)) : Int).toNat).drop ((ji16) : Int).toNat).length = ((wrap64 (x4_2 + 11)).toNat - (ji16).toNat) from (by rw [List.length_drop, List.length_take]; have h_ : ((wrap64 (x4_2 + 11)) : Int) ≤ (l0.length : Int) := q_d; omega)] <;> rfl) | (simp only [hji16]; rfl) | rfl | (simp only [List.length_drop, List.length_take]; rfl)) ?_; (with_reducible refine (impl_UnpackNumber.calls k2 _ _ ((l0.take ((wrap64 (x4_2 + 11)) : Int).toNat).drop ((ji16) : Int).toNat) t208 t209 _ ?side1 ?side2 A20.out).mono ?_); (case side1 => exact q_c ((Kd.C_below HR207.out HB.out))); (case side2 => exact HC207.out); rintro e w30 ⟨rfl, hb⟩; refine ⟨_, rfl, ?_⟩; have n0_ := Aside0.mk (Kd.R_below (q_r (HO_207001.out)) hb); have n1_ := Aside0.mk (blk_below (q_b BK202.out) hb); have n2_ := Aside0.mk (blk_below (q_b BK206.out) hb); have n3_ := Aside0.mk (below_step bq hb); revert n0_ n1_ n2_ n3_; clear HO_207001 BK202 BK206 HB; intro HO_207001 BK202 BK206 HB; (try clear hb); (try clear hb2); (try clear hk); (try clear hi)))
                 have n0_ := Aside0.mk (Kd.R_drew HO_207001.out)
                 have n1_ := Aside0.mk (blk_drew BK202.out)
                 have n2_ := Aside0.mk (blk_drew BK206.out)
                 have n3_ := Aside0.mk (below_drew1 HB.out)
                 clear HO_207001
                 clear BK202
                 clear BK206
                 clear HB
                 have HO_207001 := n0_
                 have BK202 := n1_
                 have BK206 := n2_
                 have HB := n3_
                 clear n0_ n1_ n2_ n3_
                 have p210 : 0 ≤ (x4_2 : Int) := q_d
                 have q210 : x4_2 < (l0.length : Int) := q_d
                 obtain ⟨ad210, e210, hx210_0⟩ := Kd.at_int HR0.out x4_2 p210 q210
                 have hw210_0 := hx210_0
                 cases e210
                 replace hx210_0 := q_x HB.out hx210_0
                 replace p210 := eq_true p210
                 replace q210 := eq_true q210
                 have p211 : 0 ≤ ((ji22) : Int) := q_d
                 have q211 : (ji22) < (l0.length : Int) := q_d
                 obtain ⟨ad211, e211, hx211_0⟩ := Kd.at_int HR0.out (ji22) p211 q211
                 have hw211_0 := hx211_0
                 obtain rfl : ad210 = ad211 := (by injection e211)
                 replace hx211_0 := q_x HB.out hx211_0
                 replace p211 := eq_true p211
                 replace q211 := eq_true q211
                 have p212 : 0 ≤ ((ji25) : Int) := q_d
                 have q212 : (ji25) < (l0.length : Int) := q_d
                 obtain ⟨ad212, e212, hx212_0⟩ := Kd.at_int HR0.out (ji25) p212 q212
                 have hw212_0 := hx212_0
                 obtain rfl : ad210 = ad212 := (by injection e212)
                 replace hx212_0 := q_x HB.out hx212_0
                 replace p212 := eq_true p212
                 replace q212 := eq_true q212
                 refine start_ (n := 25) (S := fun w' => w'.cell? ⟨gb206, 0, none⟩ = some (.int .i64 t205) ∧ w'.cell? ⟨gb206, 1, none⟩ = some (u207001) ∧ w'.cell? (ad210.add (x4_2).toNat) = some (.int .u8 (rd l0 x4_2)) ∧ w'.cell? (ad210.add ((ji22)).toNat) = some (.int .u8 (rd l0 (ji22))) ∧ w'.cell? (ad210.add ((ji25)).toNat) = some (.int .u8 (rd l0 (ji25)))) (ds := [24]) #[false, false, false, false, false, false, false, false, false, false, false, false, false, false, false, false, false, false, false, false, false, false, false, false, false] (by kernel_rfl) rfl rfl ⟨q_z BK206.out 0, q_z BK206.out 1, ((HB.out.cell (World.block_lt_of_cell? w _ hw210_0)).trans hw210_0), ((HB.out.cell (World.block_lt_of_cell? w _ hw211_0)).trans hw211_0), ((HB.out.cell (World.block_lt_of_cell? w _ hw212_0)).trans hw212_0)⟩ (fun hHeld => ?_); refine with_tabW impl_UnpackContract.tab8 impl_UnpackContract.bits8 (fun HT_ HW_ => ?_)
                 generalize w30.drew = w31 at HO_207001 BK202 BK206 HB hx210_0 hx211_0 hx212_0 hHeld ⊢
                 refine q_P 0 (some 41) #[true, false, false, false, false, false, false, false, false, false, false, false, false, false, false, false, false, false, false, false, false, false, false, false, false] HT_.out ?_
                 refine q_P 2 (some 43) #[true, false, true, false, false, false, false, false, false, false, false, false, false, false, false, false, false, false, false, false, false, false, false, false, false] HT_.out ?_
                 refine q_P 3 (some 44) #[true, false, true, true, false, false, false, false, false, false, false, false, false, false, false, false, false, false, false, false, false, false, false, false, false] HT_.out ?_
                 refine q_P 4 (some 45) #[true, false, true, true, true, false, false, false, false, false, false, false, false, false, false, false, false, false, false, false, false, false, false, false, false] HT_.out ?_
                 refine q_P 7 (some 48) #[true, false, true, true, true, false, false, true, false, false, false, false, false, false, false, false, false, false, false, false, false, false, false, false, false] HT_.out ?_
                 refine q_P 8 (some 49) #[true, false, true, true, true, false, false, true, true, false, false, false, false, false, false, false, false, false, false, false, false, false, false, false, false] HT_.out ?_
                 refine q_P 9 (some 50) #[true, false, true, true, true, false, false, true, true, true, false, false, false, false, false, false, false, false, false, false, false, false, false, false, false] HT_.out ?_
                 refine q_P 10 (some 51) #[true, false, true, true, true, false, false, true, true, true, true, false, false, false, false, false, false, false, false, false, false, false, false, false, false] HT_.out ?_
                 refine q_P 13 (some 54) #[true, false, true, true, true, false, false, true, true, true, true, false, false, true, false, false, false, false, false, false, false, false, false, false, false] HT_.out ?_
                 refine q_P 14 (some 55) #[true, false, true, true, true, false, false, true, true, true, true, false, false, true, true, false, false, false, false, false, false, false, false, false, false] HT_.out ?_
                 refine q_P 15 (some 56) #[true, false, true, true, true, false, false, true, true, true, true, false, false, true, true, true, false, false, false, false, false, false, false, false, false] HT_.out ?_
                 refine q_P 16 (some 57) #[true, false, true, true, true, false, false, true, true, true, true, false, false, true, true, true, true, false, false, false, false, false, false, false, false] HT_.out ?_
                 refine q_P 19 (some 60) #[true, false, true, true, true, false, false, true, true, true, true, false, false, true, true, true, true, false, false, true, false, false, false, false, false] HT_.out ?_
                 refine q_t 1 (some 42) #[true, true, true, true, true, false, false, true, true, true, true, false, false, true, true, true, true, false, false, true, false, false, false, false, false] HT_.out HW_.out hHeld ?_
                 refine q_t 5 (some 46) #[true, true, true, true, true, true, false, true, true, true, true, false, false, true, true, true, true, false, false, true, false, false, false, false, false] HT_.out HW_.out hHeld ?_
                 refine q_P 6 (some 47) #[true, true, true, true, true, true, true, true, true, true, true, false, false, true, true, true, true, false, false, true, false, false, false, false, false] HT_.out ?_
                 refine q_t 11 (some 52) #[true, true, true, true, true, true, true, true, true, true, true, true, false, true, true, true, true, false, false, true, false, false, false, false, false] HT_.out HW_.out hHeld ?_
                 refine q_P 12 (some 53) #[true, true, true, true, true, true, true, true, true, true, true, true, true, true, true, true, true, false, false, true, false, false, false, false, false] HT_.out ?_
                 refine q_t 17 (some 58) #[true, true, true, true, true, true, true, true, true, true, true, true, true, true, true, true, true, true, false, true, false, false, false, false, false] HT_.out HW_.out hHeld ?_
                 refine q_P 18 (some 59) #[true, true, true, true, true, true, true, true, true, true, true, true, true, true, true, true, true, true, true, true, false, false, false, false, false] HT_.out ?_
                 refine q_P 20 (some 61) #[true, true, true, true, true, true, true, true, true, true, true, true, true, true, true, true, true, true, true, true, true, false, false, false, false] HT_.out ?_
                 refine one_ (i := 21) (N := some 62) #[true, true, true, true, true, true, true, true, true, true, true, true, true, true, true, true, true, true, true, true, true, true, false, false, false] rfl rfl (one_of HT_.out (by kernel_rfl)) (by decide) (fun K hK => ?_)
                 refine value_ (w1 := ?_) (v := ?_) (by rfl) rfl ?_ ?_
                 rotate_left 2
                 ·go_simp
                  constructor
                  ·rfl
                  ·rfl
                 refine hK.out _ _ ⟨(blk_cell (blk_alloc BK206.out _) 0).trans rfl, (blk_cell (blk_alloc BK206.out _) 1).trans rfl, (World.cell?_alloc_lt _ _ _ (World.block_lt_of_cell? _ _ (((HB.out.cell (World.block_lt_of_cell? w _ hw210_0)).trans hw210_0)))).trans (((HB.out.cell (World.block_lt_of_cell? w _ hw210_0)).trans hw210_0)), (World.cell?_alloc_lt _ _ _ (World.block_lt_of_cell? _ _ (((HB.out.cell (World.block_lt_of_cell? w _ hw211_0)).trans hw211_0)))).trans (((HB.out.cell (World.block_lt_of_cell? w _ hw211_0)).trans hw211_0)), (World.cell?_alloc_lt _ _ _ (World.block_lt_of_cell? _ _ (((HB.out.cell (World.block_lt_of_cell? w _ hw212_0)).trans hw212_0)))).trans (((HB.out.cell (World.block_lt_of_cell? w _ hw212_0)).trans hw212_0))⟩ (fun hHeld => ?_)
                 clear hK K
                 refine norm_ (a' := ?_) ?_ ?_
                 rotate_left
                 ·show Act.put _ (some 62) _ = _
                  simp only [Act.put, List.setIfInBounds_toArray, List.set_cons_zero, List.set_cons_succ, i64_w, i32_w]
                  rfl
                 refine one_ (i := 22) (N := some 63) #[true, true, true, true, true, true, true, true, true, true, true, true, true, true, true, true, true, true, true, true, true, true, true, false, false] rfl rfl (one_of HT_.out (by kernel_rfl)) (by decide) (fun K hK => ?_)
                 refine Kd.R_append_step k89 (w0 := w) w.heap.size (by rfl) (.tmp 42) (.tmp 62) 34 89 (.agg #[(.int .i64 0), (.int .i64 0), (.int .i64 0), (.int .i64 0)]) 32 rfl Try.underlying34 info89 rfl (by decide) (by omega) u207001 x207001_2 (⟨wrap64 (rd l0 x4_2), wrap64 (rd l0 (ji22)), wrap64 (rd l0 (ji25)), t209⟩ : S89) [.int .i64 (wrap64 (rd l0 x4_2)), .int .i64 (wrap64 (rd l0 (ji22))), .int .i64 (wrap64 (rd l0 (ji25))), .int .i64 t209] (fun _ => True) (fun _ => False) rfl rfl ?aP (fun _ hk => hk.elim) ?aF ?aO ?aB ?aS ?aL ?_
                 (case aP => exact k89_mkM _ _ _ (⟨wrap64 (rd l0 x4_2), wrap64 (rd l0 (ji22)), wrap64 (rd l0 (ji25)), t209⟩ : S89))
                 (case aB => exact bq)
                 (case aF => exact (fun _ _ => trivial))
                 (case aO => exact (q_r (HO_207001.out)))
                 (case aS => exact (below_size bq))
                 (case aL => have := LMc28.out; omega)
                 intro v214 w32 ho hb hg hat
                 rw [← Ny213.out] at ho
                 have n0_ := Aside0.mk (blk_grown (q_b BK202.out) hg (Kd.R_ne HO_207001.out BK202.out (by decide)))
                 have n1_ := Aside0.mk (blk_grown (q_b BK206.out) hg (Kd.R_ne HO_207001.out BK206.out (by decide)))
                 have n2_ := Aside0.mk (hb)
                 have n3_ := Aside0.mk (ho)
                 clear BK202
                 clear BK206
                 clear HB
                 clear HO_207001
                 have BK202 := n0_
                 have BK206 := n1_
                 have HB := n2_
                 have HO215 := n3_
                 clear n0_ n1_ n2_ n3_
                 clear ho hb hg hat
                 obtain ⟨Ao33, co33, eo33⟩ := Kd.R_slice HO215.out
                 (first | subst eo33 | (injection eo33 with f1_ f2_ f3_; have f4_ := f1_.symm; have f5_ := f3_.symm; clear f1_ f2_ f3_; subst f4_; subst f5_))
                 refine hK.out _ _ ⟨q_z BK206.out 0, q_z BK206.out 1, ((HB.out.cell (World.block_lt_of_cell? w _ hw210_0)).trans hw210_0), ((HB.out.cell (World.block_lt_of_cell? w _ hw211_0)).trans hw211_0), ((HB.out.cell (World.block_lt_of_cell? w _ hw212_0)).trans hw212_0)⟩ (fun hHeld => ?_)
                 clear hK K
                 refine norm_ (a' := ?_) ?_ ?_
                 rotate_left
                 ·show Act.put _ (some 63) _ = _
                  simp only [Act.put, List.setIfInBounds_toArray, List.set_cons_zero, List.set_cons_succ, i64_w, i32_w]
                  rfl
                 refine q_P 23 (some 64) #[true, true, true, true, true, true, true, true, true, true, true, true, true, true, true, true, true, true, true, true, true, true, true, true, false] HT_.out ?_
                 refine last_ (i := 24) (N := none) #[true, true, true, true, true, true, true, true, true, true, true, true, true, true, true, true, true, true, true, true, true, true, true, true, true] rfl rfl (one_of HT_.out (by kernel_rfl)) (by decide) (fun K hK => ?_)
                 have hs34 : w32.cell? ⟨gb206, 1, none⟩ = some (u207001) := (blk_cell BK206.out 1).trans rfl
                 have hfs34 := blk_frozen BK206.out 1
                 have hns34_0 := NB202_206.out
                 have hms34_0 := NB206_202.out
                 refine skip_ (w1 := ?_) (by rfl) rfl ?_ ?_
                 rotate_left
                 ·go_simp
                  rfl
                 refine hK.out _ _ ?_
                 clear hK K
                 refine done_ (done_of HT_.out (by kernel_rfl)) ?_
                 try go_wp2
                 go_roundg k2
                 case measure => have := HJ1.out; have := HK2.out; omega
                 case rel => exact ⟨(wrap64 (x4_2 + 11)), (y213), (.slice Ao33 y213.length co33), q_i, H', ⟨by have := HJ1.out; have := HK2.out; omega⟩, ⟨by (with_reducible repeat (first | apply Kd.R_alloc | apply Kd.R_drewN | apply Kd.R_drew)); exact Kd.R_mono (Kd.R_far (p := ⟨gb206, 1, none⟩) (Kd.R_types HO215.out BK206.out (by decide)) (fun _ hk => hk.2) (.slice Ao33 y213.length co33)) (fun _ hk => trivial)⟩, ⟨by (with_reducible repeat (first | refine blk_drewN ?_ _ | refine blk_drew ?_ | refine blk_alloc ?_ _)); refine blk_far ?_ NB202_206.out _; (with_reducible repeat (first | refine blk_drewN ?_ _ | refine blk_drew ?_ | refine blk_alloc ?_ _)); exact BK202.out⟩, ⟨by (with_reducible repeat (first | refine blk_drewN ?_ _ | refine blk_drew ?_ | refine blk_alloc ?_ _)); refine blk_put (cs := #[.int .i64 t205, u207001]) ?_ 1 _ rfl; (with_reducible repeat (first | refine blk_drewN ?_ _ | refine blk_drew ?_ | refine blk_alloc ?_ _)); exact BK206.out⟩, ⟨bq⟩⟩
                ·rw [if_neg c28] at H
                 exact absurd H (by simp)
               ·rw [if_neg c27] at H
                exact absurd H (by simp)
              ·rw [if_neg c26] at H
               exact absurd H (by simp)
             ·rw [if_neg c24] at H
              exact absurd H (by simp)
            ·rw [if_neg c23] at H
             exact absurd H (by simp)
           ·rw [if_neg c21] at H
            exact absurd H (by simp)
          ·rw [if_neg c19] at H
           exact absurd H (by simp)
         ·rw [if_neg c18] at H
          exact absurd H (by simp)
        ·rw [if_neg c17] at H
         exact absurd H (by simp)
       ·rw [if_neg c15] at H
        have c15b0 := decide_eq_false c15
        clear c15
        replace H := Option.bind_eq_some_iff.mp H
        obtain ⟨t216, A350, H⟩ := H
        replace H : (if t216 = 0 then ((impl_packContract.f k2 t205 x207001_2).bind fun t217 => ((bytes_Equal.f t217 l0).bind fun t220 => (if t220 = true then (some (0, t205, x207001_2)) else (some (5, 0, ([] : List (S89))))))) else (some (5, 0, ([] : List (S89))))) = some (r1, r2, r3) := H
        have A35 := Aside0.mk A350
        clear A350
        by_cases c36 : t216 = 0
        ·rw [if_pos c36] at H
         have c36b0 : (t216 == 0) = true := beq_iff_eq.mpr c36
         have c36b1 : (t216 != 0) = false := bne_eq_false_iff_eq.mpr c36
         clear c36
         replace H := Option.bind_eq_some_iff.mp H
         obtain ⟨t217, A370, H⟩ := H
         replace H : ((bytes_Equal.f t217 l0).bind fun t220 => (if t220 = true then (some (0, t205, x207001_2)) else (some (5, 0, ([] : List (S89)))))) = some (r1, r2, r3) := H
         have A37 := Aside0.mk A370
         clear A370
         replace H := Option.bind_eq_some_iff.mp H
         obtain ⟨t220, A380, H⟩ := H
         replace H : (if t220 = true then (some (0, t205, x207001_2)) else (some (5, 0, ([] : List (S89))))) = some (r1, r2, r3) := H
         have A38 := Aside0.mk A380
         clear A380
         by_cases c39 : t220 = true
         ·subst c39
          have H1 : (some (0, t205, x207001_2)) = some (r1, r2, r3) := by rw [if_pos rfl] at H; exact H
          clear H
          have H := H1
          clear H1
          simp only [Option.some.injEq, Prod.mk.injEq] at H
          obtain ⟨rfl, rfl, rfl⟩ := H
          have hnb40 := NB206_202.out
          have hnc40 := NB202_206.out
          obtain ⟨hcz41_0, hcz41_1, hfz41_0, hfz41_1⟩ := q_2 BK206.out
          obtain ⟨Ao42, co42, eo42⟩ := Kd.R_slice HO_207001.out
          subst eo42
          go_wp2_with (first | ((with_reducible refine gate_callee (f := 26) rfl ?_); refine goesLq (some 66) rfl rfl Try.func26 (by kernel_rfl) rfl #[.agg #[.int .i64 t205, .slice Ao42 x207001_2.length co42]] rfl ?_; (with_reducible refine (impl_ContractFault.calls k2 t205 _ _ x207001_2 t216 _ ?side1 ?side2 A35.out).mono ?_); (case side1 => exact q_c ((Kd.R_reads' HO_207001.out).2.2)); (case side2 => exact (Kd.R_reads' HO_207001.out).2.1); rintro e w43 ⟨rfl, hb⟩; refine ⟨_, rfl, ?_⟩; have n0_ := Aside0.mk (Kd.R_below (q_r (HO_207001.out)) hb); have n1_ := Aside0.mk (blk_below (q_b BK202.out) hb); have n2_ := Aside0.mk (blk_below (q_b BK206.out) hb); have n3_ := Aside0.mk (below_step bq hb); revert n0_ n1_ n2_ n3_; clear HO_207001 BK202 BK206 HB; intro HO_207001 BK202 BK206 HB; (try clear hb); (try clear hb2); (try clear hk); (try clear hi); obtain ⟨hcz44_0, hcz44_1, hfz44_0, hfz44_1⟩ := q_2 BK206.out) | (go_at_call 92; (with_reducible refine (impl_packContract.calls k2 t205 _ _ x207001_2 t217 _ ?side1 ?side2 A37.out).mono ?_); (case side1 => exact q_c ((Kd.R_reads' HO_207001.out).2.2)); (case side2 => exact (Kd.R_reads' HO_207001.out).2.1); rintro e w45 ⟨v218, rfl, ho0, hb⟩; have n0_ := Aside0.mk (Kd.R_below (q_r (HO_207001.out)) hb); have n1_ := Aside0.mk (Kd.R_lower ho0 (below_size bq)); have n2_ := Aside0.mk (blk_below (q_b BK202.out) hb); have n3_ := Aside0.mk (blk_below (q_b BK206.out) hb); have n4_ := Aside0.mk (below_step bq hb); revert n0_ n1_ n2_ n3_ n4_; clear HO_207001 BK202 BK206 HB; intro HO_207001 HO219 BK202 BK206 HB; (try clear hb); (try clear hb2); (try clear hk); (try clear hi); (try clear ho0); obtain ⟨Ao46, co46, eo46⟩ := Kd.R_slice HO219.out; subst eo46) | (go_at_call 94; (with_reducible refine (bytes_Equal.calls _ _ t217 _ _ l0 true _ ?side1 ?side2 ?side3 ?side4 A38.out).mono ?_); (case side1 => exact q_c ((Kd.R_reads' HO219.out).2.2)); (case side2 => exact (Kd.R_reads' HO219.out).2.1); (case side3 => exact q_c ((Kd.C_below HR0.out HB.out))); (case side4 => exact HC0.out); rintro e w' ⟨rfl, ⟨nd, rfl⟩⟩; (try (rw [drewN_self w45]; generalize hq_ : World.drewN w45 _ = w45; have n0_ : Aside0 (Kd.R (Kd.int .u8) 5 w45 w.heap.size (fun _ => True) (.slice Ao46 t217.length co46) t217) := ⟨by rw [← hq_]; exact (q_r (HO219.out))⟩; have n1_ : Aside0 (Kd.R k89 89 w45 w.heap.size (fun _ => True) (.slice Ao42 x207001_2.length co42) x207001_2) := ⟨by rw [← hq_]; exact (q_r (HO_207001.out))⟩; have n2_ : Aside0 (w45.heap[gb202]? = some (.cells #[.int .i64 0, .int .i64 0, .slice none 0 0] 59 (0, 0))) := ⟨by rw [← hq_]; exact kq⟩; have n3_ : Aside0 (w45.heap[gb206]? = some (.cells #[.int .i64 t205, .slice Ao42 x207001_2.length co42] 36 (0, 0))) := ⟨by rw [← hq_]; exact kq⟩; have n4_ : Aside0 (Below w.heap.size w w45) := ⟨by rw [← hq_]; exact bq⟩; clear HO219 HO_207001 BK202 BK206 HB hq_; have HO219 := n0_; have HO_207001 := n1_; have BK202 := n2_; have BK206 := n3_; have HB := n4_; clear n0_ n1_ n2_ n3_ n4_)); obtain ⟨hcz47_0, hcz47_1, hfz47_0, hfz47_1⟩ := q_2 BK206.out; obtain ⟨hcz48_0, hcz48_1, hcz48_2, hfz48_0, hfz48_1, hfz48_2⟩ := q_3 BK202.out))
          refine bodyPost_ret (results_cell_row rfl _ _ gb202 59 #[.int .i64 0, .int .i64 t205, .slice Ao42 x207001_2.length co42] (0, 0) _ rfl (by (with_reducible repeat (first | refine blk_drewN ?_ _ | refine blk_drew ?_ | refine blk_alloc ?_ _)); refine blk_put (cs := #[.int .i64 0, .int .i64 t205, .slice none 0 0]) ?_ 2 _ rfl; (with_reducible repeat (first | refine blk_drewN ?_ _ | refine blk_drew ?_ | refine blk_alloc ?_ _)); refine blk_put (cs := #[.int .i64 0, .int .i64 0, .slice none 0 0]) ?_ 1 _ rfl; (with_reducible repeat (first | refine blk_drewN ?_ _ | refine blk_drew ?_ | refine blk_alloc ?_ _)); refine blk_put (cs := #[.int .i64 0, .int .i64 0, .slice none 0 0]) ?_ 0 _ rfl; (with_reducible repeat (first | refine blk_drewN ?_ _ | refine blk_drew ?_ | refine blk_alloc ?_ _)); exact BK202.out) Try.underlying59 rfl (by kernel_rfl)) rfl ?_
          exact ⟨_, q_e, by (with_reducible repeat (first | apply Kd.R_alloc | apply Kd.R_drewN | apply Kd.R_drew)); exact Kd.R_mono (Kd.R_far (p := ⟨gb202, 2, none⟩) (Kd.R_far (p := ⟨gb202, 1, none⟩) (Kd.R_far (p := ⟨gb202, 0, none⟩) (Kd.R_types HO_207001.out BK202.out (by decide)) (fun _ hk => hk.2) (.int .i64 0)) (fun _ hk => hk.2) (.int .i64 t205)) (fun _ hk => hk.2) (.slice Ao42 x207001_2.length co42)) (fun _ hk => trivial), bq⟩
         ·replace c39 := Bool.eq_false_iff.mpr c39
          subst c39
          have H1 : (some (5, 0, ([] : List (S89)))) = some (r1, r2, r3) := by rw [if_neg (show ¬ (false = true) by decide)] at H; exact H
          clear H
          have H := H1
          clear H1
          simp only [Option.some.injEq, Prod.mk.injEq] at H
          obtain ⟨rfl, rfl, rfl⟩ := H
          have hnb49 := NB206_202.out
          have hnc49 := NB202_206.out
          obtain ⟨hcz50_0, hcz50_1, hfz50_0, hfz50_1⟩ := q_2 BK206.out
          obtain ⟨Ao51, co51, eo51⟩ := Kd.R_slice HO_207001.out
          subst eo51
          go_wp2_with (first | ((with_reducible refine gate_callee (f := 26) rfl ?_); refine goesLq (some 66) rfl rfl Try.func26 (by kernel_rfl) rfl #[.agg #[.int .i64 t205, .slice Ao51 x207001_2.length co51]] rfl ?_; (with_reducible refine (impl_ContractFault.calls k2 t205 _ _ x207001_2 t216 _ ?side1 ?side2 A35.out).mono ?_); (case side1 => exact q_c ((Kd.R_reads' HO_207001.out).2.2)); (case side2 => exact (Kd.R_reads' HO_207001.out).2.1); rintro e w52 ⟨rfl, hb⟩; refine ⟨_, rfl, ?_⟩; have n0_ := Aside0.mk (Kd.R_below (q_r (HO_207001.out)) hb); have n1_ := Aside0.mk (blk_below (q_b BK202.out) hb); have n2_ := Aside0.mk (blk_below (q_b BK206.out) hb); have n3_ := Aside0.mk (below_step bq hb); revert n0_ n1_ n2_ n3_; clear HO_207001 BK202 BK206 HB; intro HO_207001 BK202 BK206 HB; (try clear hb); (try clear hb2); (try clear hk); (try clear hi); obtain ⟨hcz53_0, hcz53_1, hfz53_0, hfz53_1⟩ := q_2 BK206.out) | (go_at_call 92; (with_reducible refine (impl_packContract.calls k2 t205 _ _ x207001_2 t217 _ ?side1 ?side2 A37.out).mono ?_); (case side1 => exact q_c ((Kd.R_reads' HO_207001.out).2.2)); (case side2 => exact (Kd.R_reads' HO_207001.out).2.1); rintro e w54 ⟨v218, rfl, ho0, hb⟩; have n0_ := Aside0.mk (Kd.R_below (q_r (HO_207001.out)) hb); have n1_ := Aside0.mk (Kd.R_lower ho0 (below_size bq)); have n2_ := Aside0.mk (blk_below (q_b BK202.out) hb); have n3_ := Aside0.mk (blk_below (q_b BK206.out) hb); have n4_ := Aside0.mk (below_step bq hb); revert n0_ n1_ n2_ n3_ n4_; clear HO_207001 BK202 BK206 HB; intro HO_207001 HO219 BK202 BK206 HB; (try clear hb); (try clear hb2); (try clear hk); (try clear hi); (try clear ho0); obtain ⟨Ao55, co55, eo55⟩ := Kd.R_slice HO219.out; subst eo55) | (go_at_call 94; (with_reducible refine (bytes_Equal.calls _ _ t217 _ _ l0 false _ ?side1 ?side2 ?side3 ?side4 A38.out).mono ?_); (case side1 => exact q_c ((Kd.R_reads' HO219.out).2.2)); (case side2 => exact (Kd.R_reads' HO219.out).2.1); (case side3 => exact q_c ((Kd.C_below HR0.out HB.out))); (case side4 => exact HC0.out); rintro e w' ⟨rfl, ⟨nd, rfl⟩⟩; (try (rw [drewN_self w54]; generalize hq_ : World.drewN w54 _ = w54; have n0_ : Aside0 (Kd.R (Kd.int .u8) 5 w54 w.heap.size (fun _ => True) (.slice Ao55 t217.length co55) t217) := ⟨by rw [← hq_]; exact (q_r (HO219.out))⟩; have n1_ : Aside0 (Kd.R k89 89 w54 w.heap.size (fun _ => True) (.slice Ao51 x207001_2.length co51) x207001_2) := ⟨by rw [← hq_]; exact (q_r (HO_207001.out))⟩; have n2_ : Aside0 (w54.heap[gb202]? = some (.cells #[.int .i64 0, .int .i64 0, .slice none 0 0] 59 (0, 0))) := ⟨by rw [← hq_]; exact kq⟩; have n3_ : Aside0 (w54.heap[gb206]? = some (.cells #[.int .i64 t205, .slice Ao51 x207001_2.length co51] 36 (0, 0))) := ⟨by rw [← hq_]; exact kq⟩; have n4_ : Aside0 (Below w.heap.size w w54) := ⟨by rw [← hq_]; exact bq⟩; clear HO219 HO_207001 BK202 BK206 HB hq_; have HO219 := n0_; have HO_207001 := n1_; have BK202 := n2_; have BK206 := n3_; have HB := n4_; clear n0_ n1_ n2_ n3_ n4_)); obtain ⟨hcz56_0, hcz56_1, hcz56_2, hfz56_0, hfz56_1, hfz56_2⟩ := q_3 BK202.out))
          refine bodyPost_ret (results_cell_row rfl _ _ gb202 59 #[.int .i64 5, .int .i64 0, .slice none 0 0] (0, 0) _ rfl (by (with_reducible repeat (first | refine blk_drewN ?_ _ | refine blk_drew ?_ | refine blk_alloc ?_ _)); refine blk_put (cs := #[.int .i64 5, .int .i64 0, .slice none 0 0]) ?_ 2 _ rfl; (with_reducible repeat (first | refine blk_drewN ?_ _ | refine blk_drew ?_ | refine blk_alloc ?_ _)); refine blk_put (cs := #[.int .i64 5, .int .i64 0, .slice none 0 0]) ?_ 1 _ rfl; (with_reducible repeat (first | refine blk_drewN ?_ _ | refine blk_drew ?_ | refine blk_alloc ?_ _)); refine blk_put (cs := #[.int .i64 0, .int .i64 0, .slice none 0 0]) ?_ 0 _ rfl; (with_reducible repeat (first | refine blk_drewN ?_ _ | refine blk_drew ?_ | refine blk_alloc ?_ _)); exact BK202.out) Try.underlying59 rfl (by kernel_rfl)) rfl ?_
          exact ⟨_, q_e, by first | exact Kd.R_nil _ _ _ _ _ | exact Kd.N_nil _ _ _ _ _ | exact Kd.V_nil _ _ _ _ _ | exact Kd.Q_nil _ _ _ _ _ | exact Kd.S_nil _ _ _ _ _, bq⟩
        ·rw [if_neg c36] at H
         have c36b0 : (t216 == 0) = false := beq_eq_false_iff_ne.mpr c36
         have c36b1 : (t216 != 0) = true := bne_iff_ne.mpr c36
         simp only [Option.some.injEq, Prod.mk.injEq] at H
         obtain ⟨rfl, rfl, rfl⟩ := H
         have hnb57 := NB206_202.out
         have hnc57 := NB202_206.out
         obtain ⟨hcz58_0, hcz58_1, hfz58_0, hfz58_1⟩ := q_2 BK206.out
         obtain ⟨Ao59, co59, eo59⟩ := Kd.R_slice HO_207001.out
         subst eo59
         go_wp2_with (first | ((with_reducible refine gate_callee (f := 26) rfl ?_); refine goesLq (some 66) rfl rfl Try.func26 (by kernel_rfl) rfl #[.agg #[.int .i64 t205, .slice Ao59 x207001_2.length co59]] rfl ?_; (with_reducible refine (impl_ContractFault.calls k2 t205 _ _ x207001_2 t216 _ ?side1 ?side2 A35.out).mono ?_); (case side1 => exact q_c ((Kd.R_reads' HO_207001.out).2.2)); (case side2 => exact (Kd.R_reads' HO_207001.out).2.1); rintro e w60 ⟨rfl, hb⟩; refine ⟨_, rfl, ?_⟩; have n0_ := Aside0.mk (Kd.R_below (q_r (HO_207001.out)) hb); have n1_ := Aside0.mk (blk_below (q_b BK202.out) hb); have n2_ := Aside0.mk (blk_below (q_b BK206.out) hb); have n3_ := Aside0.mk (below_step bq hb); revert n0_ n1_ n2_ n3_; clear HO_207001 BK202 BK206 HB; intro HO_207001 BK202 BK206 HB; (try clear hb); (try clear hb2); (try clear hk); (try clear hi); obtain ⟨hcz61_0, hcz61_1, hcz61_2, hfz61_0, hfz61_1, hfz61_2⟩ := q_3 BK202.out))
         refine bodyPost_ret (results_cell_row rfl _ _ gb202 59 #[.int .i64 5, .int .i64 0, .slice none 0 0] (0, 0) _ rfl (by (with_reducible repeat (first | refine blk_drewN ?_ _ | refine blk_drew ?_ | refine blk_alloc ?_ _)); refine blk_put (cs := #[.int .i64 5, .int .i64 0, .slice none 0 0]) ?_ 2 _ rfl; (with_reducible repeat (first | refine blk_drewN ?_ _ | refine blk_drew ?_ | refine blk_alloc ?_ _)); refine blk_put (cs := #[.int .i64 5, .int .i64 0, .slice none 0 0]) ?_ 1 _ rfl; (with_reducible repeat (first | refine blk_drewN ?_ _ | refine blk_drew ?_ | refine blk_alloc ?_ _)); refine blk_put (cs := #[.int .i64 0, .int .i64 0, .slice none 0 0]) ?_ 0 _ rfl; (with_reducible repeat (first | refine blk_drewN ?_ _ | refine blk_drew ?_ | refine blk_alloc ?_ _)); exact BK202.out) Try.underlying59 rfl (by kernel_rfl)) rfl ?_
         exact ⟨_, q_e, by first | exact Kd.R_nil _ _ _ _ _ | exact Kd.N_nil _ _ _ _ _ | exact Kd.V_nil _ _ _ _ _ | exact Kd.Q_nil _ _ _ _ _ | exact Kd.S_nil _ _ _ _ _, bq⟩
    ·rw [if_neg c8] at H
     exact absurd H (by simp)

/-! ### laws_lwBig: function 53 -/
def laws_lwBig.f (l0 : List Int) : Option (Bool) := some (decide ((l0.length : Int) > 1048576))
set_option maxHeartbeats 8000000 in
set_option maxRecDepth 100000 in
theorem laws_lwBig.calls (A0 : Option Addr) (c0 : Nat) (l0 : List Int) (r : Bool) (w : World) (hr0 : Kd.C (Kd.int .u8) w A0 l0.length l0) (hc0 : l0.length ≤ c0) (h : laws_lwBig.f l0 = some r) :
  Calls Try.prog 53 #[.slice A0 l0.length c0] w fun e w' => e = .returned (.bool r) ∧ Drawn0 w w' := by
 have HR0 := Aside0.mk hr0
 have HC0 := Aside0.mk hc0
 clear hr0 hc0
 have H : (some (decide ((l0.length : Int) > 1048576))) = some r := h
 clear h
 obtain rfl := Option.some.inj H
 go_enter Try.func53, Try.ntmps53
 go_wp2
 go_ret
 exact ⟨by first | rfl | (simp; done) | (simp [*]; done), q_0⟩

end Go.Proofs.Ytooiamkaipdmpaa.PFnBytes
