/- Functions that a law reaches, as plain Lean functions, with the proof that the machine comes to their answers. No conditions. -/
import Derived.Test.YtanegggacfmkcaaPFnSequelsx0
namespace Go.Proofs.Ytanegggacfmkcaa.PFnSequels
open Go.RowKit Go.Proofs.YtanegggacfmkcaaW.PrintWords Go.Proofs.YtanegggacfmkcaaW.PrintLast Go.Proofs.YtanegggacfmkcaaW.PrintMore
attribute [local go_sem] max2_int min2_int max_two min_two max_three min_three max_four min_four   -- for this text's walks alone
set_option linter.unusedVariables false
set_option linter.unusedSimpArgs false

/-! ### slices_Insert_impl_Balance: function 121 -/
theorem run_copy_cellsN {P : Program} (w : World) (dT sT ty elem : TypeId) (sz b o dLen dCap : Nat) (a : Addr) (sLen sCap : Nat) (cs : List Value)
    (hu : P.underlying dT = some (.slice elem)) (hs : (P.info? elem).map (·.size) = some sz) (hn : cs.length = Nat.min sLen dLen * sz)
    (hsrc : ∀ j v, cs[j]? = some v → w.cell? (a.add j) = some v) (hc : ∀ j, j < cs.length → (w.cell? ⟨b, o + j, none⟩).isSome = true) (hf : ∀ j, j < cs.length → w.frozen? ⟨b, o + j, none⟩ = false) (h1 : ∀ v ∈ cs, v.oneCell' = true) :
    (Builtin.copy_ #[dT, sT] ty #[.slice (some ⟨b, o, none⟩) dLen dCap, .slice (some a) sLen sCap]).run P w = .ok (goInt (Nat.min sLen dLen)) (w.setCells b o cs) := by
  have hl := run_loadCells_list (P := P) w a cs hsrc; have hst := run_storeCells_cells (P := P) b o cs 0 w (by simpa using hc) (by simpa using hf) h1
  cases hq : P.info? elem with
  | none => simp [hq] at hs
  | some i =>
    have hi : i.size = sz := by simpa [hq] using hs
    simp [Builtin.copy_, run_underlying hu, Builtin.lenOf, Builtin.firstCells, sizeOf, typeInfo, hq, hi, ← hn, hl, hst]
set_option maxHeartbeats 4000000 in
set_option maxRecDepth 100000 in
/-- slices.Insert of one balance: there is room, i < len(s): in place. -/
theorem insert_shift (b n c i vb vc : Nat) (cs vs : List Value) (w : World) (hi : i < n) (hroom : n + 1 ≤ c) (hc63 : c ≤ 9223372036854775807) (hvb : vb ≠ b)
    (hcl : cs.length = n * 3) (hvl : vs.length = 3)
    (hcs : ∀ j v, cs[j]? = some v → w.cell? ⟨b, j, none⟩ = some v) (hsp : ∀ j, j < (n + 1) * 3 → (w.cell? ⟨b, j, none⟩).isSome = true) (hfz : ∀ j, j < (n + 1) * 3 → w.frozen? ⟨b, j, none⟩ = false)
    (hvs : ∀ j v, vs[j]? = some v → w.cell? ⟨vb, j, none⟩ = some v) (h1c : ∀ v ∈ cs, v.oneCell' = true) (h1v : ∀ v ∈ vs, v.oneCell' = true)
    (tA tB : TypeId) (kA kB : Nat) (hsa : w.shape? vb = some (tA, kA)) (hsb : w.shape? b = some (tB, kB)) (hkB : kB ≠ 0) (hfa : w.frozen? ⟨vb, 0, none⟩ = false) (hfe : w.frozen? ⟨vb, kA, none⟩ = false) :
    Calls Try.prog 121 #[.slice (some ⟨b, 0, none⟩) n c, .int .i64 i, .slice (some ⟨vb, 0, none⟩) 1 vc] w fun e w' =>
      e = .returned (.slice (some ⟨b, 0, none⟩) (n + 1) c) ∧ w' = (w.drew.setCells b ((i + 1) * 3) (cs.drop (i * 3))).setCells b (i * 3) vs := by
  obtain ⟨i0, hi0, hz0, hzs, hzb⟩ := info_parts info104; have hz2 : ¬ ((i : Int) = (n : Int)) := by omega
  have hsz : (Try.prog.info? 104).map (·.size) = some 3 := by rw [hi0]; simp [hzs]
  have hzw : ∀ w, (Go.sizeOf 104).run Try.prog w = .ok 3 w := fun w => by simp [sizeOf, typeInfo, hi0, hzs]
  have hov : ∀ lb cb, (callFunc 128 #[.slice (some ⟨vb, 0, none⟩) 1 vc, .slice (some ⟨b, (i + 1) * 3, none⟩) lb cb]).run Try.prog w = .ok (.value (.bool false)) w := fun lb cb => by
    rw [run_callFunc_extern Try.func128 (by kernel_rfl) (by kernel_rfl) (by kernel_rfl) (e := Extern.SlicesOverlaps.overlaps #[64, 64] #[4]) (by kernel_rfl),
      Lib.run_overlaps_apart w 64 4 104 Try.underlying64 3 hzw ⟨vb, 0, none⟩ ⟨b, (i + 1) * 3, none⟩ 1 vc lb cb hvb tA tB kA kB hsa hsb hkB hfa hfe]
    rfl
  have hdl : (cs.drop (i * 3)).length = (n - i) * 3 := by rw [List.length_drop, hcl, Nat.sub_mul]
  have hw1 : IntKind.i64.wrap ((i : Int) + 1) = (i : Int) + 1 := by rw [IntKind.wrap_i64]; omega
  have hw2 : IntKind.i64.wrap ((n : Int) + 1) = (n : Int) + 1 := by rw [IntKind.wrap_i64]; omega
  have hcap : decide ((n : Int) + 1 > (c : Int)) = false := decide_eq_false (by omega); have hin : i ≤ n := by omega
  have hb1 : (0 : Int) ≤ (i : Int) + 1 := by omega
  have htn : ((i : Int) + 1).toNat = i + 1 := by omega
  have htn2 : ((n : Int) + 1).toNat = n + 1 := by omega
  have hb2 : ¬ (c = i + 1) := by omega
  have hb4 : ¬ (c = i) := by omega
  have hb5 : ¬ ((c : Int) < (n : Int) + 1) := by omega
  have hb6 : (i : Int) ≤ (n : Int) + 1 := by omega
  have hb7 : (n : Int) + 1 ≤ (c : Int) := by omega
  have hb8 : (0 : Int) ≤ (n : Int) + 1 := by omega
  have u64 := run_underlying Try.underlying64
  have hcp1 : ∀ ty dc sc, (Builtin.copy_ #[64, 64] ty #[.slice (some ⟨b, (i + 1) * 3, none⟩) (n - i) dc, .slice (some ⟨b, i * 3, none⟩) (n + 1 - i) sc]).run Try.prog w.drew = .ok (goInt (n - i : Nat)) (w.drew.setCells b ((i + 1) * 3) (cs.drop (i * 3))) := fun ty dc sc => by
    have h := run_copy_cellsN (P := Try.prog) w.drew 64 64 ty 104 3 b ((i + 1) * 3) (n - i) dc ⟨b, i * 3, none⟩ (n + 1 - i) sc (cs.drop (i * 3)) Try.underlying64 hsz (by rw [hdl]; simp only [Nat.min_def]; split <;> omega)
      (fun j v hj => by rw [Addr.add_lit]; exact hcs (i * 3 + j) v (by rwa [List.getElem?_drop] at hj))
      (fun j hj => hsp _ (by rw [hdl] at hj; omega)) (fun j hj => hfz _ (by rw [hdl] at hj; omega)) (fun v hv => h1c v (List.mem_of_mem_drop hv))
    rw [show Nat.min (n + 1 - i) (n - i) = n - i by simp only [Nat.min_def]; split <;> omega] at h; exact h
  obtain ⟨W1, hW1⟩ : ∃ W1, W1 = w.drew.setCells b ((i + 1) * 3) (cs.drop (i * 3)) := ⟨_, rfl⟩
  have hsp1 : ∀ k, k < (n + 1) * 3 → (W1.cell? ⟨b, k, none⟩).isSome = true := fun k hk => by
    rw [hW1]; exact isSome_setCells b (cs.drop (i * 3)) ((i + 1) * 3) w.drew (fun j hj => hsp _ (by rw [hdl] at hj; omega)) _ (hsp k hk)
  have hcp2 : ∀ (W : World), (∀ x, W.cell? x = W1.cell? x) → (∀ x, W.frozen? x = W1.frozen? x) → ∀ ty dc, (Builtin.copy_ #[64, 64] ty #[.slice (some ⟨b, i * 3, none⟩) (n + 1 - i) dc, .slice (some ⟨vb, 0, none⟩) 1 vc]).run Try.prog W = .ok (goInt (1 : Nat)) (W.setCells b (i * 3) vs) := fun W hWc hWf ty dc => by
    have h := run_copy_cellsN (P := Try.prog) W 64 64 ty 104 3 b (i * 3) (n + 1 - i) dc ⟨vb, 0, none⟩ 1 vc vs Try.underlying64 hsz (by rw [hvl]; simp only [Nat.min_def]; split <;> omega)
      (fun j v hj => by
        rw [Addr.add_lit, Nat.zero_add, hWc, hW1, World.cell?_setCells_out b _ _ _ _ (fun h _ => absurd h hvb)]; exact hvs j v hj)
      (fun j hj => by rw [hWc]; exact hsp1 _ (by rw [hvl] at hj; omega)) (fun j hj => by rw [hWf, hW1, World.frozen?_setCells]; exact hfz _ (by rw [hvl] at hj; omega)) h1v
    rw [show Nat.min 1 (n + 1 - i) = 1 by simp only [Nat.min_def]; split <;> omega] at h; exact h
  rw [← hW1] at hcp1; have mixed : Try.prog.follows Departure.mixedOrders = true := by kernel_rfl
  go_enter Try.func121, Try.ntmps121; go_wp2_with (simp only [hov]); go_region_law_o (refine step_copy_runI rfl _ _ 64 64 rfl _ _ (by simp [Act.eval, Act.put]) (by simp [Act.eval, Act.put]) (hcp1 _ _ _) ?_)
  go_wp2_with (at_builtin; refine wpList_copy_runI _ rfl _ _ 64 64 rfl _ _ rfl rfl (hcp2 _ (fun _ => rfl) (fun _ => rfl) _ _) ?_); go_ret; first | exact ⟨rfl, rfl⟩ | exact ⟨rfl, by rw [hW1]⟩
set_option maxHeartbeats 4000000 in
set_option maxRecDepth 100000 in
/-- slices.Insert of one balance: no room, i < len(s): a new row. -/
theorem insert_grow (b n c i vb vc : Nat) (cs vs : List Value) (w : World) (hi : i < n) (hnc : n ≤ c) (hroom : c < n + 1) (hbig : (n + 1) * 24 ≤ 140737488355328)
    (hcl : cs.length = n * 3) (hvl : vs.length = 3)
    (hcs : ∀ j v, cs[j]? = some v → w.cell? ⟨b, j, none⟩ = some v)
    (hvs : ∀ j v, vs[j]? = some v → w.cell? ⟨vb, j, none⟩ = some v) (h1c : ∀ v ∈ cs, v.oneCell' = true) (h1v : ∀ v ∈ vs, v.oneCell' = true) :
    Calls Try.prog 121 #[.slice (some ⟨b, 0, none⟩) n c, .int .i64 i, .slice (some ⟨vb, 0, none⟩) 1 vc] w fun e w' =>
      e = .returned (.slice (some ⟨w.heap.size, 0, none⟩) (n + 1) (grownCap w (n + 1) c 104)) ∧
      w' = (((w.alloc (.cells ((cs.take (i * 3)).toArray ++ Builtin.zeroCells (Value.agg #[.int .i64 0, .int .i64 0, .int .i64 0]).cells (n + 1 - i) ++ Builtin.zeroCells (Value.agg #[.int .i64 0, .int .i64 0, .int .i64 0]).cells (grownCap w (n + 1) c 104 - (n + 1))) 104)).drew.setCells w.heap.size (i * 3) vs).drew).setCells w.heap.size ((i + 1) * 3) (cs.drop (i * 3)) := by
  obtain ⟨i0, hi0, hz0, hzs, hzb⟩ := info_parts info104; have hz2 : ¬ ((i : Int) = (n : Int)) := by omega
  have hz3 : (c : Int) < (n : Int) + 1 := by omega
  have hsz : (Try.prog.info? 104).map (·.size) = some 3 := by rw [hi0]; simp [hzs]
  have u64 := run_underlying Try.underlying64; have hbw : b < w.heap.size := block_lt_of_cell (hcs 0 _ (List.getElem?_eq_getElem (by omega))); have hvw : vb < w.heap.size := block_lt_of_cell (hvs 0 _ (List.getElem?_eq_getElem (by omega))); have hkk : (n : Int) + 1 - (i : Int) = ((n + 1 - i : Nat) : Int) := by omega
  have hik : i + (n + 1 - i) = n + 1 := by omega
  have hold : (Builtin.firstCells i0.size i (.slice (some ⟨b, 0, none⟩) i c)).run Try.prog w.drew = .ok (cs.take (i * 3)).toArray w.drew := by
    rw [hzs]
    exact run_firstCells_some w.drew 3 i ⟨b, 0, none⟩ i c (cs.take (i * 3)) (by rw [List.length_take]; omega) (fun j v hj => by
      rw [Addr.add_lit, Nat.zero_add]; rw [List.getElem?_take] at hj; split at hj
      · exact hcs j v hj
      · cases hj)
  have hrz : ∀ ty, (Builtin.append_ #[64, 3] ty #[.slice (some ⟨b, 0, none⟩) i c, .int .i64 ((n : Int) + 1 - (i : Int))]).run Try.prog w =
      .ok (.slice (some ⟨w.heap.size, 0, none⟩) (n + 1) (grownCap w (n + 1) c 104)) (w.drew.alloc (.cells ((cs.take (i * 3)).toArray ++ Builtin.zeroCells (Value.agg #[.int .i64 0, .int .i64 0, .int .i64 0]).cells (n + 1 - i) ++ Builtin.zeroCells (Value.agg #[.int .i64 0, .int .i64 0, .int .i64 0]).cells (grownCap w (n + 1) c 104 - (n + 1))) 104)) := fun ty => by
    have h := Lib.run_append_grow_zeros (P := Try.prog) w 64 3 ty 104 i0 _ .i64 .i64 Try.underlying64 Try.underlying3 hi0 hz0 (some ⟨b, 0, none⟩) i c (cs.take (i * 3)) hold (n + 1 - i) (by omega) (by omega) (by omega) (by omega) (by rw [hzb]; omega) (by rw [hzb, hik]; exact growslice_fits hroom hbig); rw [hik] at h; rw [hkk]; exact h
  obtain ⟨G, hG⟩ : ∃ G, G = grownCap w (n + 1) c 104 := ⟨_, rfl⟩; obtain ⟨ROW, hROW⟩ : ∃ ROW : Array Value, ROW = (cs.take (i * 3)).toArray ++ Builtin.zeroCells (Value.agg #[.int .i64 0, .int .i64 0, .int .i64 0]).cells (n + 1 - i) ++ Builtin.zeroCells (Value.agg #[.int .i64 0, .int .i64 0, .int .i64 0]).cells (G - (n + 1)) := ⟨_, rfl⟩; rw [← hG] at hrz ⊢; rw [← hROW] at hrz ⊢
  have hRl : (n + 1) * 3 ≤ ROW.size := by
    rw [hROW]; simp [Builtin.zeroCells, Value.cells]
    omega
  obtain ⟨W1, hW1⟩ : ∃ W1, W1 = w.drew.alloc (.cells ROW 104) := ⟨_, rfl⟩; rw [← hW1] at hrz
  have hN : ∀ j, j < (n + 1) * 3 → (W1.cell? ⟨w.heap.size, j, none⟩).isSome = true := fun j hj => by
    rw [hW1, World.cell?_alloc_at (w := w.drew) ROW _ w.heap.size j rfl, Array.getElem?_eq_getElem (by omega)]; rfl
  have hNf : ∀ j, W1.frozen? ⟨w.heap.size, j, none⟩ = false := fun j => by rw [hW1]; exact World.frozen?_alloc_at (w := w.drew) ROW _ w.heap.size j rfl
  have hOb : ∀ j v, w.cell? ⟨b, j, none⟩ = some v → W1.cell? ⟨b, j, none⟩ = some v := fun j v h => by rw [hW1, World.cell?_alloc_past (w := w.drew) _ b j hbw]; exact h
  have hOv : ∀ j v, w.cell? ⟨vb, j, none⟩ = some v → W1.cell? ⟨vb, j, none⟩ = some v := fun j v h => by rw [hW1, World.cell?_alloc_past (w := w.drew) _ vb j hvw]; exact h
  have hdl : (cs.drop (i * 3)).length = (n - i) * 3 := by rw [List.length_drop, hcl, Nat.sub_mul]
  have hcpA : ∀ (W : World), (∀ x, W.cell? x = W1.cell? x) → (∀ x, W.frozen? x = W1.frozen? x) → ∀ ty dc, (Builtin.copy_ #[64, 64] ty #[.slice (some ⟨w.heap.size, i * 3, none⟩) (n + 1 - i) dc, .slice (some ⟨vb, 0, none⟩) 1 vc]).run Try.prog W = .ok (goInt (1 : Nat)) (W.setCells w.heap.size (i * 3) vs) := fun W hWc hWf ty dc => by
    have h := run_copy_cellsN (P := Try.prog) W 64 64 ty 104 3 w.heap.size (i * 3) (n + 1 - i) dc ⟨vb, 0, none⟩ 1 vc vs Try.underlying64 hsz (by rw [hvl]; simp only [Nat.min_def]; split <;> omega)
      (fun j v hj => by rw [Addr.add_lit, Nat.zero_add, hWc]; exact hOv _ v (hvs j v hj))
      (fun j hj => by rw [hWc]; exact hN _ (by rw [hvl] at hj; omega)) (fun j hj => by rw [hWf]; exact hNf _) h1v
    rw [show Nat.min 1 (n + 1 - i) = 1 by simp only [Nat.min_def]; split <;> omega] at h; exact h
  have hGn : n + 1 ≤ G := by rw [hG]; exact grownCap_ge w _ _ _
  have hG63 : G ≤ 9223372036854775807 := by
    have := grownCap_le_maxLen w (n + 1) c 104 (by unfold maxLen; omega); rw [← hG] at this; unfold maxLen at this; omega
  have hGi : ¬ (G = i) := by omega
  have hGim : ¬ (G = i + 1) := by omega
  have hci : ¬ (c = i) := by omega
  have hbN : b ≠ w.heap.size := by omega
  have hcpB : ∀ (W : World), (∀ x, W.cell? x = (W1.setCells w.heap.size (i * 3) vs).cell? x) → (∀ x, W.frozen? x = (W1.setCells w.heap.size (i * 3) vs).frozen? x) → ∀ ty dc sc, (Builtin.copy_ #[64, 64] ty #[.slice (some ⟨w.heap.size, (i + 1) * 3, none⟩) (n - i) dc, .slice (some ⟨b, i * 3, none⟩) (n - i) sc]).run Try.prog W = .ok (goInt (n - i : Nat)) (W.setCells w.heap.size ((i + 1) * 3) (cs.drop (i * 3))) := fun W hWc hWf ty dc sc => by
    have h := run_copy_cellsN (P := Try.prog) W 64 64 ty 104 3 w.heap.size ((i + 1) * 3) (n - i) dc ⟨b, i * 3, none⟩ (n - i) sc (cs.drop (i * 3)) Try.underlying64 hsz (by rw [hdl]; simp only [Nat.min_def]; split <;> omega)
      (fun j v hj => by
        rw [Addr.add_lit, hWc, World.cell?_setCells_out _ _ _ _ _ (fun h _ => absurd h hbN)]; exact hOb _ v (hcs (i * 3 + j) v (by rwa [List.getElem?_drop] at hj)))
      (fun j hj => by rw [hWc]; exact isSome_setCells w.heap.size vs (i * 3) W1 (fun t ht => hN _ (by rw [hvl] at ht; omega)) _ (hN _ (by rw [hdl] at hj; omega)))
      (fun j hj => by rw [hWf, World.frozen?_setCells]; exact hNf _) (fun v hv => h1c v (List.mem_of_mem_drop hv))
    rw [show Nat.min (n - i) (n - i) = n - i by simp only [Nat.min_def]; split <;> omega] at h; exact h
  subst hW1; have hE1 : ∀ x, ((w.alloc (.cells ROW 104)).drew).cell? x = (w.drew.alloc (.cells ROW 104)).cell? x := fun x => rfl
  have hE2 : ∀ x, ((w.alloc (.cells ROW 104)).drew).frozen? x = (w.drew.alloc (.cells ROW 104)).frozen? x := fun x => rfl
  have hF1 : ∀ x, (((w.alloc (.cells ROW 104)).drew.setCells w.heap.size (i * 3) vs).drew).cell? x = ((w.drew.alloc (.cells ROW 104)).setCells w.heap.size (i * 3) vs).cell? x := fun x => rfl
  have hF2 : ∀ x, (((w.alloc (.cells ROW 104)).drew.setCells w.heap.size (i * 3) vs).drew).frozen? x = ((w.drew.alloc (.cells ROW 104)).setCells w.heap.size (i * 3) vs).frozen? x := fun x => rfl
  have hw1 : IntKind.i64.wrap ((i : Int) + 1) = (i : Int) + 1 := by rw [IntKind.wrap_i64]; omega
  have hw2 : IntKind.i64.wrap ((n : Int) + 1) = (n : Int) + 1 := by rw [IntKind.wrap_i64]; omega
  have hw3 : IntKind.i64.wrap ((n : Int) + 1 - (i : Int)) = (n : Int) + 1 - (i : Int) := by rw [IntKind.wrap_i64]; omega
  have hb1 : (0 : Int) ≤ (i : Int) + 1 := by omega
  have hin : i ≤ n := by omega
  have htn : ((i : Int) + 1).toNat = i + 1 := by omega
  have hb3 : (i : Int) ≤ (n : Int) := by omega
  have hb6 : (i : Int) ≤ (n : Int) + 1 := by omega
  have mixed : Try.prog.follows Departure.mixedOrders = true := by kernel_rfl
  clear hkk hik hold hROW hG hRl; go_enter Try.func121, Try.ntmps121
  go_wp2_with (first
    | (at_builtin; refine Lib.wpList_append_run _ rfl _ _ _ _ rfl _ _ rfl rfl _ _ (hrz _) ?_)
    | (at_builtin; refine wpList_copy_runI _ rfl _ _ 64 64 rfl _ _ rfl rfl (hcpA _ hE1 hE2 _ _) ?_)
    | (at_builtin; refine wpList_copy_runI _ rfl _ _ 64 64 rfl _ _ rfl rfl (hcpB _ (fun _ => rfl) (fun _ => rfl) _ _ _) ?_))
  go_region_law_o (refine step_copy_runI rfl _ _ 64 64 rfl (.slice (some ⟨w.heap.size, (i + 1) * 3, none⟩) (n - i) (G - (i + 1))) (.slice (some ⟨b, i * 3, none⟩) (n - i) (c - i)) (by simp [Act.eval, Act.put]) (by simp [Act.eval, Act.put]) (hcpB _ hF1 hF2 3 (G - (i + 1)) (c - i)) ?_)
  go_wp2; go_ret; exact ⟨rfl, rfl⟩
theorem step_append_runI {P : Program} {ops : Array Oper} {o : Oper} {a : Act} {w : World} {K : Act → World → Prop} {Q : Exit → Act → World → Prop} {E : Prop}
    (hg : o.guard = none) (d x : Operand) (dT sT : TypeId) (hop : o.op = Op.call { callee := Callee.builtin Builtin.append, args := #[d, x], argTypes := #[dT, sT] })
    (v u : Value) (hd : a.eval d = v) (hx : a.eval x = u) {v' : Value} {w' : World} (hr : (Builtin.append_ #[dT, sT] o.type #[v, u]).run P w = .ok v' w') (hK : K (a.put o.dst v') w') :
    if Region.wanted o (yielded ops a.tmps) = true then Oper.wp P o a w K Q else E := by
  have hw : Region.wanted o (yielded ops a.tmps) = true := by simp [Region.wanted, hg]
  rw [if_pos hw]; exact Lib.wp_append_run w d x dT sT hop v u hd hx v' w' hr hK
theorem wpList_clear_runI {P : Program} (w : World) {ops : Array Oper} {rest : List Oper} {o : Oper} {a : Act} {Q : Exit → Act → World → Prop} (hgd : o.guard = none) (s : Operand) (t : TypeId)
    (ho : o.op = .call { callee := .builtin .clear, args := #[s], argTypes := #[t] }) (v : Value) (hs : a.eval s = v) {w' : World} (hr : (Builtin.clear_ #[t] o.type #[v]).run P w = .ok (.tuple #[]) w') (h : wpList P ops Q rest (a.put o.dst (.tuple #[])) w') : wpList P ops Q (o :: rest) a w :=
  wpList_plain hgd fun _ hK => by
    unfold Oper.wp execOp; simp only [ho, resolve, invoke, builtin, Sem.run_bind, Sem.run_pure, Result.andThen_ok, List.map_toArray, List.map_cons, List.map_nil, hs, hr]; exact hK _ _ h
theorem run_clear_sliceN {P : Program} (w : World) (t e ty : TypeId) (z : Value) (ht : P.underlying t = some (.slice e)) (hv : ∀ w, (zeroValue e).run P w = .ok z w) (h1 : ∀ v ∈ z.cells.toList, v.oneCell' = true) (b o c : Nat)
    (hc : ∀ j, j < z.cells.size → (w.cell? ⟨b, o + j, none⟩).isSome = true) (hf : ∀ j, j < z.cells.size → w.frozen? ⟨b, o + j, none⟩ = false) :
    (Builtin.clear_ #[t] ty #[.slice (some ⟨b, o, none⟩) 1 c]).run P w = .ok (.tuple #[]) (w.setCells b o z.cells.toList) := by
  have hzc : (Builtin.zeroCells z.cells 1).toList = z.cells.toList := by
    simp [Builtin.zeroCells]
    apply List.ext_getElem
    · simp
    · intro i h1 h2; simp at h1 h2
      simp [Nat.mod_eq_of_lt h2, h2]
  have hst := run_storeCells_cells (P := P) b o z.cells.toList 0 w (by simpa using hc) (by simpa using hf) h1; simp only [Nat.add_zero] at hst; simp [Builtin.clear_, run_underlying ht, hv, hzc, hst]
set_option maxHeartbeats 4000000 in
set_option maxRecDepth 100000 in
/-- slices.Delete of one balance. -/
theorem delete_one (b n c i : Nat) (cur : Array Value) (w : World) (hg : w.heap[b]? = some (.cells cur 104 (0, 0))) (hi : i < n) (hnc : n ≤ c) (hc63 : c ≤ 9223372036854775807) (hcs : cur.size = c * 3) (h1 : ∀ v ∈ cur.toList.take (n * 3), v.oneCell' = true) :
    Calls Try.prog 122 #[.slice (some ⟨b, 0, none⟩) n c, .int .i64 i, .int .i64 ((i : Int) + 1)] w fun e w' =>
      e = .returned (.slice (some ⟨b, 0, none⟩) (n - 1) c) ∧
      w' = (w.drew.setRow b (cur.toList.take (i * 3) ++ (cur.toList.take (n * 3)).drop ((i + 1) * 3) ++ cur.toList.drop (i * 3 + (n - (i + 1)) * 3)).toArray).setCells b ((n - 1) * 3) [.int .i64 0, .int .i64 0, .int .i64 0] := by
  obtain ⟨i0, hi0, hz0, hzs, hzb⟩ := info_parts info104; have hsz : (Try.prog.info? 104).map (·.size) = some 3 := by rw [hi0]; simp [hzs]
  have u64 := run_underlying Try.underlying64; obtain ⟨news, hnews⟩ : ∃ news, news = (cur.toList.take (n * 3)).drop ((i + 1) * 3) := ⟨_, rfl⟩; have hlen : news.length = (n - (i + 1)) * 3 := by rw [hnews, List.length_drop, List.length_take, Array.length_toList, hcs, Nat.min_eq_left (by omega), Nat.sub_mul]
  have hcell : ∀ W : World, W.heap[b]? = some (.cells cur 104 (0, 0)) → ∀ j, j < c * 3 → W.cell? ⟨b, j, none⟩ = some (cur.toList[j]?.getD (.int .i64 0)) := fun W hW j hj => by
    simp [World.cell?, hW, show j < cur.size by omega]
  have hin : i ≤ n := by omega
  have hj1 : (i : Int) + 1 ≤ (n : Int) := by omega
  have hj0 : (0 : Int) ≤ (i : Int) + 1 := by omega
  have hij : ¬ ((i : Int) = (i : Int) + 1) := by omega
  have htn : ((i : Int) + 1).toNat = i + 1 := by omega
  have hnc2 : (n : Int) ≤ (c : Int) := by omega
  have hic : (i : Int) ≤ (c : Int) := by omega
  have hic2 : i ≤ c := by omega
  have hile : (i : Int) ≤ (i : Int) + 1 := by omega
  have hn1 : i + (n - (i + 1)) = n - 1 := by omega
  have hr : ∀ (a : Addr), (∀ j u, news[j]? = some u → w.drew.cell? (a.add j) = some u) → ∀ ty, (Builtin.append_ #[64, 64] ty #[.slice (some ⟨b, 0, none⟩) i c, .slice (some a) (n - (i + 1)) (c - (i + 1))]).run Try.prog w.drew = .ok (.slice (some ⟨b, 0, none⟩) (n - 1) c) (w.drew.setRow b (cur.toList.take (i * 3) ++ news ++ cur.toList.drop (i * 3 + (n - (i + 1)) * 3)).toArray) := fun a ha ty => by
    have h := run_append_room (P := Try.prog) w.drew 64 ty 104 i0 Try.underlying64 hi0 b i c cur hg a (n - (i + 1)) (c - (i + 1)) news (by rw [hlen, hzs]) ha (fun u hu => h1 u (by rw [hnews] at hu; exact List.mem_of_mem_drop hu)) (by omega) (by rw [hlen, hzs, hcs]; omega); rw [hn1, hzs, hlen] at h; exact h
  obtain ⟨ROW, hROW⟩ : ∃ ROW : Array Value, ROW = (cur.toList.take (i * 3) ++ news ++ cur.toList.drop (i * 3 + (n - (i + 1)) * 3)).toArray := ⟨_, rfl⟩
  have hRs : ROW.size = c * 3 := by
    rw [hROW]; simp only [List.size_toArray, List.length_append, List.length_take, List.length_drop, Array.length_toList, hlen, hcs]; omega
  obtain ⟨W1, hW1⟩ : ∃ W1, W1 = w.drew.setRow b ROW := ⟨_, rfl⟩; have hW1g : W1.heap[b]? = some (.cells ROW 104 (0, 0)) := by rw [hW1]; exact setRow_heap w.drew b cur ROW 104 _ hg
  rw [← hnews, ← hROW, ← hW1]; rw [← hROW, ← hW1] at hr; have hzv : ∀ w, (zeroValue 104).run Try.prog w = .ok (.agg #[.int .i64 0, .int .i64 0, .int .i64 0]) w := fun w => by simp [zeroValue, typeInfo, hi0, hz0]
  have hcl : ∀ ty dc, (Builtin.clear_ #[64] ty #[.slice (some ⟨b, (n - 1) * 3, none⟩) 1 dc]).run Try.prog W1 = .ok (.tuple #[]) (W1.setCells b ((n - 1) * 3) [.int .i64 0, .int .i64 0, .int .i64 0]) := fun ty dc =>
    run_clear_sliceN W1 64 104 ty (.agg #[.int .i64 0, .int .i64 0, .int .i64 0]) Try.underlying64 hzv (by simp [Value.cells, Value.oneCell']) b ((n - 1) * 3) dc
      (fun j hj => by simp [Value.cells] at hj; simp [World.cell?, hW1g, hRs]; omega) (fun j hj => by simp [World.frozen?, hW1g])
  have mixed : Try.prog.follows Departure.mixedOrders = true := by kernel_rfl
  have hb1 : ((n - 1 : Nat) : Int) ≤ (n : Int) := by omega
  have hb2 : ¬ (c = n - 1) := by omega
  have hb3 : n - (n - 1) = 1 := by omega
  by_cases hcj : c = i + 1
  · have hne : news = [] := List.length_eq_zero_iff.1 (by rw [hlen, show n - (i + 1) = 0 by omega]); have hr := hr ⟨b, 0, none⟩ (fun j u hu => by rw [hne] at hu; simp at hu); clear hW1g hRs hlen; (try clear hne); clear hW1 hROW hnews; go_enter Try.func122, Try.ntmps122; go_wp2; go_region_law_o (refine step_append_runI rfl _ _ 64 64 rfl _ _ (by simp [Act.eval, Act.put] <;> omega) (by simp [Act.eval, Act.put] <;> omega) (hr _) ?_)
    go_wp2_with (at_builtin; refine wpList_clear_runI _ rfl _ 64 rfl _ rfl (hcl _ _) ?_); go_ret; first | exact ⟨rfl, rfl⟩ | exact ⟨by rw [hcj]; rfl, rfl⟩ | exact ⟨by simp [hcj], rfl⟩
  · have hr := hr ⟨b, (i + 1) * 3, none⟩ (fun j u hu => by
      rw [hnews, List.getElem?_drop, List.getElem?_take] at hu; split at hu
      · rw [Addr.add_lit]; have hlt : (i + 1) * 3 + j < cur.size := by rw [hcs]; omega
        have hg' : w.drew.heap[b]? = some (.cells cur 104 (0, 0)) := hg; simp only [World.cell?, hg']; simpa using hu
      · cases hu)
    clear hW1g hRs hlen; (try clear hne); clear hW1 hROW hnews; go_enter Try.func122, Try.ntmps122; go_wp2; go_region_law_o (refine step_append_runI rfl _ _ 64 64 rfl _ _ (by simp [Act.eval, Act.put] <;> omega) (by simp [Act.eval, Act.put] <;> omega) (hr _) ?_)
    go_wp2_with (at_builtin; refine wpList_clear_runI _ rfl _ 64 rfl _ rfl (hcl _ _) ?_); go_ret; first | exact ⟨rfl, rfl⟩ | exact ⟨by rw [hcj]; rfl, rfl⟩ | exact ⟨by simp [hcj], rfl⟩
/-- A balance's cells. -/
def enc3 (x : S104) : List Value := [.int .i64 x.f0, .int .i64 x.f1, .int .i64 x.f2]
theorem enc3_cell {w : World} {vb : Nat} {curv : Array Value} {x : S104} (hv : w.heap[vb]? = some (.cells curv 104 (0, 0))) (hvx : curv.toList.take 3 = enc3 x) (j : Nat) (v : Value) (hj : (enc3 x)[j]? = some v) : w.cell? ⟨vb, j, none⟩ = some v := by
  rw [← hvx, List.getElem?_take] at hj; split at hj
  · simpa [World.cell?, hv] using hj
  · cases hj
theorem enc3_len (xs : List S104) : (xs.flatMap enc3).length = xs.length * 3 := by
  induction xs with
  | nil => rfl
  | cons x xs ih => rw [List.flatMap_cons, List.length_append, ih, List.length_cons]; show 3 + xs.length * 3 = _; omega
theorem enc3_drop (xs : List S104) : ∀ i : Nat, (xs.flatMap enc3).drop (i * 3) = (xs.drop i).flatMap enc3 := by
  induction xs with
  | nil => intro i; simp
  | cons x xs ih =>
    intro i
    cases i with
    | zero => simp
    | succ i =>
      rw [List.flatMap_cons, List.drop_succ_cons, ← ih i, show (i + 1) * 3 = 3 + i * 3 by omega, ← List.drop_drop]; rfl
theorem enc3_take (xs : List S104) : ∀ i : Nat, (xs.flatMap enc3).take (i * 3) = (xs.take i).flatMap enc3 := by
  induction xs with
  | nil => intro i; simp
  | cons x xs ih =>
    intro i
    cases i with
    | zero => simp
    | succ i =>
      rw [List.flatMap_cons, List.take_succ_cons, List.flatMap_cons, ← ih i, show (i + 1) * 3 = 3 + i * 3 by omega]; show (enc3 x ++ xs.flatMap enc3).take ((enc3 x).length + i * 3) = _; rw [List.take_length_add_append]
theorem reps_enc3 {R : S104 → List Value → Prop} (hR : ∀ x, R x (enc3 x)) (xs : List S104) : Reps R 3 xs (xs.flatMap enc3) := by
  induction xs with
  | nil => exact Reps.none R 3
  | cons x xs ih => exact Reps.front (hR x) rfl ih (by rw [List.flatMap_cons])
theorem reps_eq3 {R : S104 → List Value → Prop} (hR : ∀ x c, R x c → c = enc3 x) (xs : List S104) : ∀ inner, Reps R 3 xs inner → inner = xs.flatMap enc3 := by
  induction xs with
  | nil =>
    intro inner h; have := h.1; exact List.eq_nil_of_length_eq_zero (by simpa using this)
  | cons x xs ih =>
    intro inner h; have h0 := hR _ _ (h.2 0 x rfl); rw [Nat.zero_mul, List.drop_zero] at h0; have hl := h.1; rw [List.length_cons] at hl
    have h1 := ih (inner.drop 3) ⟨by rw [List.length_drop, hl]; omega, fun j p hj => by
      have := h.2 (j + 1) p (by simpa using hj); rw [show (j + 1) * 3 = 3 + j * 3 by omega, ← List.drop_drop] at this; exact this⟩
    rw [List.flatMap_cons, ← h1, ← h0, List.take_append_drop]
theorem R104_raw {w : World} {base : Nat} {ok : Nat → Prop} {v : Value} {xs : List S104} (h : Kd.R k104 104 w base ok v xs) : w.ownsRow base 104 3 v xs.length (xs.flatMap enc3) := by
  obtain ⟨_, inner, ho, hr⟩ := h; have := reps_eq3 (fun x c h => k104_openM h) xs inner hr; subst this; exact ho
theorem R104_mk {w : World} {base : Nat} {ok : Nat → Prop} {v : Value} {xs : List S104} (ho : w.ownsRow base 104 3 v xs.length (xs.flatMap enc3)) (hok : ∀ k, v.ownBlock = some k → ok k) : Kd.R k104 104 w base ok v xs :=
  ⟨hok, xs.flatMap enc3, ho, reps_enc3 (fun x => k104_mkM _ _ _ x) xs⟩
/-- Cells of a block laid anew one by one are the block laid anew whole. -/
theorem setCells_row (w : World) (g : Nat) (t : TypeId) (cur : Array Value) (hg : w.heap[g]? = some (.cells cur t (0, 0))) (o : Nat) (vs : List Value) (hfit : o + vs.length ≤ cur.size) :
    ∃ cur' : Array Value, (w.setCells g o vs).heap[g]? = some (.cells cur' t (0, 0)) ∧ cur'.toList = cur.toList.take o ++ vs ++ cur.toList.drop (o + vs.length) ∧ (∀ k, k ≠ g → (w.setCells g o vs).heap[k]? = w.heap[k]?) ∧ (w.setCells g o vs).heap.size = w.heap.size := by
  induction vs generalizing w cur o with
  | nil => exact ⟨cur, hg, by simp, fun _ _ => rfl, rfl⟩
  | cons v vs ih =>
    rw [List.length_cons] at hfit; have h1 : (w.setCell ⟨g, o, none⟩ v) = w.setRow g (cur.setIfInBounds o v) := setCell_eq_setRow w g o cur t (0, 0) v hg; have hg1 : (w.setCell ⟨g, o, none⟩ v).heap[g]? = some (.cells (cur.setIfInBounds o v) t (0, 0)) := by rw [h1]; exact setRow_heap w g cur _ t _ hg
    obtain ⟨cur', a, b, c, d⟩ := ih (w.setCell ⟨g, o, none⟩ v) (cur.setIfInBounds o v) hg1 (o + 1) (by rw [Array.size_setIfInBounds]; omega); refine ⟨cur', a, ?_, fun k hk => (c k hk).trans ?_, d.trans ?_⟩
    · rw [b, Array.toList_setIfInBounds, show o + 1 + vs.length = o + (v :: vs).length by rw [List.length_cons]; omega]; have ho : o < cur.toList.length := by rw [Array.length_toList]; omega
      rw [List.take_add_one, List.getElem?_set_self ho, List.take_set_of_le (Nat.le_refl _), List.drop_set_of_lt (by rw [List.length_cons]; omega)]; simp
    · rw [h1]; exact setRow_other w g k _ hk
    · rw [h1]; simp [World.setRow]
theorem setCells_eq (g : Nat) (t : TypeId) (vs : List Value) : ∀ (w : World) (cur : Array Value) (hg : w.heap[g]? = some (.cells cur t (0, 0))) (o : Nat) (hfit : o + vs.length ≤ cur.size),
    ∃ cur' : Array Value, w.setCells g o vs = w.setRow g cur' ∧ cur'.toList = cur.toList.take o ++ vs ++ cur.toList.drop (o + vs.length) := by
  induction vs with
  | nil => intro w cur hg o hfit; exact ⟨cur, (setRow_self w g cur t (0, 0) hg).symm, by simp⟩
  | cons v vs ih =>
    intro w cur hg o hfit; rw [List.length_cons] at hfit; have h1 : (w.setCell ⟨g, o, none⟩ v) = w.setRow g (cur.setIfInBounds o v) := setCell_eq_setRow w g o cur t (0, 0) v hg; have hg1 : (w.setRow g (cur.setIfInBounds o v)).heap[g]? = some (.cells (cur.setIfInBounds o v) t (0, 0)) := setRow_heap w g cur _ t _ hg; obtain ⟨cur', a, b⟩ := ih (w.setRow g (cur.setIfInBounds o v)) (cur.setIfInBounds o v) hg1 (o + 1) (by rw [Array.size_setIfInBounds]; omega); refine ⟨cur', ?_, ?_⟩
    · show (w.setCell ⟨g, o, none⟩ v).setCells g (o + 1) vs = _; rw [h1, a, setRow_setRow]
    · rw [b, Array.toList_setIfInBounds, show o + 1 + vs.length = o + (v :: vs).length by rw [List.length_cons]; omega]; have ho : o < cur.toList.length := by rw [Array.length_toList]; omega
      rw [List.take_add_one, List.getElem?_set_self ho, List.take_set_of_le (Nat.le_refl _), List.drop_set_of_lt (by rw [List.length_cons]; omega)]; simp
theorem enc3_one (xs : List S104) : ∀ u ∈ xs.flatMap enc3, u.oneCell' = true := by
  intro u hu; obtain ⟨x, _, hx⟩ := List.mem_flatMap.1 hu; simp only [enc3, List.mem_cons, List.not_mem_nil, or_false] at hx; rcases hx with rfl | rfl | rfl <;> rfl
set_option maxHeartbeats 4000000 in
theorem insert_shift_R {P0_ : Nat → Prop} (g cap : Nat) (cur : Array Value) (l0 : List S104) (i : Nat) (x : S104) (vb vc : Nat) (w0 w : World) (hB : Below w0.heap.size w0 w)
    (hP : P0_ g) (hg0 : w0.heap.size ≤ g) (hg : w.heap[g]? = some (.cells cur 104 (0, 0))) (hn : l0.length + 1 ≤ cap) (hcap : cap ≤ maxLen) (hcs : cur.size = cap * 3) (hcur : cur.toList.take (l0.length * 3) = l0.flatMap enc3)
    (curv : Array Value) (hv : w.heap[vb]? = some (.cells curv 104 (0, 0))) (hvx : curv.toList.take 3 = enc3 x) (hne : vb ≠ g) (hi : i < l0.length) :
    Calls Try.prog 121 #[.slice (some ⟨g, 0, none⟩) l0.length cap, .int .i64 i, .slice (some ⟨vb, 0, none⟩) 1 vc] w fun e w' => ∃ v', e = .returned v' ∧
      Kd.R k104 104 w' w0.heap.size (fun k => P0_ k ∨ w.heap.size ≤ k) v' (l0.take i ++ [x] ++ l0.drop i) ∧ Below w0.heap.size w0 w' ∧ Kept w w' P0_ := by
  have hcell : ∀ j, j < cur.size → w.cell? ⟨g, j, none⟩ = cur.toList[j]? := fun j hj => by simp [World.cell?, hg, hj]
  have hvc : ∀ (j : Nat) v, (enc3 x)[j]? = some v → w.cell? ⟨vb, j, none⟩ = some v := enc3_cell hv hvx; have hmax : cap ≤ 9223372036854775807 := hcap
  have h := insert_shift g l0.length cap i vb vc (l0.flatMap enc3) (enc3 x) w hi hn hmax hne (enc3_len l0) rfl
    (fun j v hj => by
      have hl : j < l0.length * 3 := by
        have := (List.getElem?_eq_some_iff.1 hj).1; rwa [enc3_len] at this
      rw [← hcur, List.getElem?_take_of_lt hl] at hj; rw [hcell j (by omega)]; exact hj)
    (fun j hj => by rw [hcell j (by omega), List.getElem?_eq_getElem (by rw [Array.length_toList]; omega)]; rfl)
    (fun j hj => by simp [World.frozen?, hg])
    hvc (enc3_one l0) (by intro u hu; simp only [enc3, List.mem_cons, List.not_mem_nil, or_false] at hu; rcases hu with rfl | rfl | rfl <;> rfl)
    104 104 curv.size cur.size (by simp [World.shape?, hv]) (by simp [World.shape?, hg]) (by omega) (by simp [World.frozen?, hv]) (by simp [World.frozen?, hv])
  refine h.mono ?_; rintro e w' ⟨rfl, rfl⟩; have hdl : ((l0.flatMap enc3).drop (i * 3)).length = (l0.length - i) * 3 := by rw [List.length_drop, enc3_len, Nat.sub_mul]
  obtain ⟨c1, e1, t1⟩ := setCells_eq g 104 ((l0.flatMap enc3).drop (i * 3)) w.drew cur hg ((i + 1) * 3) (by rw [hdl]; omega)
  have s1 : c1.size = cur.size := by
    have := congrArg List.length t1; simp only [List.length_append, List.length_take, List.length_drop, Array.length_toList, hdl] at this; omega
  have hg1 : (w.drew.setRow g c1).heap[g]? = some (.cells c1 104 (0, 0)) := setRow_heap w.drew g cur c1 104 _ hg; obtain ⟨c2, e2, t2⟩ := setCells_eq g 104 (enc3 x) (w.drew.setRow g c1) c1 hg1 (i * 3) (by show i * 3 + 3 ≤ c1.size; omega); rw [e1, e2, setRow_setRow]
  have s2 : c2.size = cur.size := by
    have := congrArg List.length t2; simp only [List.length_append, List.length_take, List.length_drop, Array.length_toList] at this; have h3 : (enc3 x).length = 3 := rfl; omega
  have hlen : (l0.take i ++ [x] ++ l0.drop i).length = l0.length + 1 := by simp; omega
  have hheap : (w.drew.setRow g c2).heap[g]? = some (.cells c2 104 (0, 0)) := setRow_heap w.drew g cur c2 104 _ hg; obtain ⟨rest, hrest⟩ : ∃ rest, rest = cur.toList.drop ((i + 1) * 3 + ((l0.flatMap enc3).drop (i * 3)).length) := ⟨_, rfl⟩; rw [← hrest, enc3_drop, List.append_assoc] at t1; have hti : (cur.toList.take ((i + 1) * 3)).length = i * 3 + (enc3 x).length := by rw [List.length_take, Array.length_toList, hcs]; show min ((i + 1) * 3) (cap * 3) = i * 3 + 3; omega
  have ta : c1.toList.take (i * 3) = (l0.take i).flatMap enc3 := by
    rw [t1, List.take_append_of_le_length (by omega), List.take_take, Nat.min_eq_left (by omega), ← enc3_take, ← hcur, List.take_take, Nat.min_eq_left (by omega)]
  have tb : c1.toList.drop (i * 3 + (enc3 x).length) = (l0.drop i).flatMap enc3 ++ rest := by rw [t1, ← hti, List.drop_left]
  have tc : c2.toList = (l0.take i ++ [x] ++ l0.drop i).flatMap enc3 ++ rest := by
    rw [t2, ta, tb, List.flatMap_append, List.flatMap_append, List.flatMap_singleton]; simp only [List.append_assoc]
  refine ⟨_, rfl, R104_mk ⟨enc3_len _, .inr ⟨g, cap, c2, by rw [hlen], hg0, hheap, by omega, hcap, by omega, ?_⟩⟩ (fun k hk => .inl (by simp [Value.ownBlock] at hk; subst hk; exact hP)), (below_drew1 hB).trans ⟨rfl, rfl, rfl, by simp [World.setRow], fun k hk => setRow_other w.drew g k c2 (by omega)⟩, ?_⟩
  · rw [tc, ← enc3_len, List.take_left]
  · refine ⟨by simp [World.setRow], fun k hk hS => ?_⟩; exact setRow_other w.drew g k c2 (fun e => hS (e ▸ hP))
set_option maxHeartbeats 4000000 in
theorem insert_grow_R {P0_ : Nat → Prop} (g cap : Nat) (cur : Array Value) (l0 : List S104) (i : Nat) (x : S104) (vb vc : Nat) (w0 w : World) (hB : Below w0.heap.size w0 w)
    (hg : w.heap[g]? = some (.cells cur 104 (0, 0))) (hn0 : l0.length ≤ cap) (hn : cap < l0.length + 1) (hbig : l0.length ≤ 1000000) (hcs : cur.size = cap * 3) (hcur : cur.toList.take (l0.length * 3) = l0.flatMap enc3)
    (curv : Array Value) (hv : w.heap[vb]? = some (.cells curv 104 (0, 0))) (hvx : curv.toList.take 3 = enc3 x) (hi : i < l0.length) :
    Calls Try.prog 121 #[.slice (some ⟨g, 0, none⟩) l0.length cap, .int .i64 i, .slice (some ⟨vb, 0, none⟩) 1 vc] w fun e w' => ∃ v', e = .returned v' ∧
      Kd.R k104 104 w' w0.heap.size (fun k => P0_ k ∨ w.heap.size ≤ k) v' (l0.take i ++ [x] ++ l0.drop i) ∧ Below w0.heap.size w0 w' ∧ Kept w w' P0_ := by
  have hcell : ∀ j, j < cur.size → w.cell? ⟨g, j, none⟩ = cur.toList[j]? := fun j hj => by simp [World.cell?, hg, hj]
  have hvc : ∀ (j : Nat) v, (enc3 x)[j]? = some v → w.cell? ⟨vb, j, none⟩ = some v := enc3_cell hv hvx
  have h := insert_grow g l0.length cap i vb vc (l0.flatMap enc3) (enc3 x) w hi hn0 hn (by omega) (enc3_len l0) rfl
    (fun j v hj => by
      have hl : j < l0.length * 3 := by
        have := (List.getElem?_eq_some_iff.1 hj).1; rwa [enc3_len] at this
      rw [← hcur, List.getElem?_take_of_lt hl] at hj; rw [hcell j (by omega)]; exact hj)
    hvc (enc3_one l0) (by intro u hu; simp only [enc3, List.mem_cons, List.not_mem_nil, or_false] at hu; rcases hu with rfl | rfl | rfl <;> rfl)
  refine h.mono ?_; rintro e w' ⟨rfl, rfl⟩; have hGn := grownCap_ge w (l0.length + 1) cap 104; have hGm := grownCap_le_maxLen w (l0.length + 1) cap 104 (by unfold maxLen; omega); generalize grownCap w (l0.length + 1) cap 104 = G at hGn hGm ⊢; obtain ⟨ROW, hROW⟩ : ∃ ROW : Array Value, ROW = ((l0.flatMap enc3).take (i * 3)).toArray ++ Builtin.zeroCells (Value.agg #[.int .i64 0, .int .i64 0, .int .i64 0]).cells (l0.length + 1 - i) ++ Builtin.zeroCells (Value.agg #[.int .i64 0, .int .i64 0, .int .i64 0]).cells (G - (l0.length + 1)) := ⟨_, rfl⟩; rw [← hROW]
  have hRs : ROW.size = G * 3 := by
    rw [hROW]; simp only [Array.size_append, List.size_toArray, size_zeroCells, List.length_take, enc3_len, Value.cells]; simp
    omega
  have hRt : ROW.toList.take (i * 3) = (l0.take i).flatMap enc3 := by
    have hl : ((l0.flatMap enc3).take (i * 3)).length = i * 3 := by rw [List.length_take, enc3_len]; omega
    rw [hROW, Array.toList_append, Array.toList_append, List.append_assoc]; show ((l0.flatMap enc3).take (i * 3) ++ _).take (i * 3) = _; rw [List.take_append_of_le_length (by omega), List.take_take, Nat.min_self, enc3_take]
  have hgN : (w.alloc (.cells ROW 104)).drew.heap[w.heap.size]? = some (.cells ROW 104 (0, 0)) := by
    show (w.heap.push (.cells ROW 104))[w.heap.size]? = _; simp
  obtain ⟨c1, e1, t1⟩ := setCells_eq w.heap.size 104 (enc3 x) (w.alloc (.cells ROW 104)).drew ROW hgN (i * 3) (by show i * 3 + 3 ≤ ROW.size; omega); have h3 : (enc3 x).length = 3 := rfl
  have s1 : c1.size = ROW.size := by
    have := congrArg List.length t1; simp only [List.length_append, List.length_take, List.length_drop, Array.length_toList] at this; omega
  have hg1 : ((w.alloc (.cells ROW 104)).drew.setRow w.heap.size c1).drew.heap[w.heap.size]? = some (.cells c1 104 (0, 0)) := setRow_heap (w.alloc (.cells ROW 104)).drew w.heap.size ROW c1 104 _ hgN; have hdl : ((l0.flatMap enc3).drop (i * 3)).length = (l0.length - i) * 3 := by rw [List.length_drop, enc3_len, Nat.sub_mul]
  obtain ⟨c2, e2, t2⟩ := setCells_eq w.heap.size 104 ((l0.flatMap enc3).drop (i * 3)) ((w.alloc (.cells ROW 104)).drew.setRow w.heap.size c1).drew c1 hg1 ((i + 1) * 3) (by rw [hdl]; omega)
  have s2 : c2.size = c1.size := by
    have := congrArg List.length t2; simp only [List.length_append, List.length_take, List.length_drop, Array.length_toList, enc3_len] at this; omega
  rw [e1, e2]; have hheap : (((w.alloc (.cells ROW 104)).drew.setRow w.heap.size c1).drew.setRow w.heap.size c2).heap[w.heap.size]? = some (.cells c2 104 (0, 0)) := setRow_heap _ w.heap.size c1 c2 104 _ hg1; have hlen : (l0.take i ++ [x] ++ l0.drop i).length = l0.length + 1 := by simp; omega
  obtain ⟨rest, hrest⟩ : ∃ rest, rest = c1.toList.drop ((i + 1) * 3 + ((l0.flatMap enc3).drop (i * 3)).length) := ⟨_, rfl⟩
  have ta : c1.toList.take ((i + 1) * 3) = (l0.take i).flatMap enc3 ++ enc3 x := by
    rw [t1, hRt, List.take_append_of_le_length (by rw [List.length_append, enc3_len, List.length_take, h3]; omega), List.take_of_length_le (by rw [List.length_append, enc3_len, List.length_take, h3]; omega)]
  have tc : c2.toList = (l0.take i ++ [x] ++ l0.drop i).flatMap enc3 ++ rest := by
    rw [t2, ta, ← hrest, enc3_drop, List.flatMap_append, List.flatMap_append, List.flatMap_singleton]
  have hother : ∀ k, k < w.heap.size → (((w.alloc (.cells ROW 104)).drew.setRow w.heap.size c1).drew.setRow w.heap.size c2).heap[k]? = w.heap[k]? := fun k hk => by
    rw [setRow_other _ w.heap.size k c2 (by omega)]; show ((w.alloc (.cells ROW 104)).drew.setRow w.heap.size c1).heap[k]? = _; rw [setRow_other _ w.heap.size k c1 (by omega)]; show (w.heap.push (.cells ROW 104))[k]? = _; simp [Array.getElem?_push, show ¬ (k = w.heap.size) by omega]
  have hsize : w.heap.size ≤ (((w.alloc (.cells ROW 104)).drew.setRow w.heap.size c1).drew.setRow w.heap.size c2).heap.size := by
    have a1 : ∀ (X : World) (c : Array Value), (X.setRow w.heap.size c).heap.size = X.heap.size := fun X c => by simp [World.setRow]
    rw [a1]; show _ ≤ ((w.alloc (.cells ROW 104)).drew.setRow w.heap.size c1).heap.size; rw [a1]; show _ ≤ (w.heap.push (.cells ROW 104)).size; simp
  refine ⟨_, rfl, R104_mk ⟨enc3_len _, .inr ⟨w.heap.size, G, c2, by rw [hlen], hB.size, hheap, by omega, hGm, by omega, ?_⟩⟩ (fun k hk => .inr (by simp [Value.ownBlock] at hk; omega)), hB.trans ⟨rfl, rfl, rfl, hsize, fun k hk => hother k (Nat.lt_of_lt_of_le hk hB.size)⟩, ⟨hsize, fun k hk _ => hother k hk⟩⟩; rw [tc, ← enc3_len, List.take_left]
set_option maxHeartbeats 4000000 in
theorem delete_R {P0_ : Nat → Prop} (g cap : Nat) (cur : Array Value) (l0 : List S104) (i : Nat) (w0 w : World) (hB : Below w0.heap.size w0 w)
    (hP : P0_ g) (hg0 : w0.heap.size ≤ g) (hg : w.heap[g]? = some (.cells cur 104 (0, 0))) (hn : l0.length ≤ cap) (hcap : cap ≤ maxLen) (hcs : cur.size = cap * 3) (hcur : cur.toList.take (l0.length * 3) = l0.flatMap enc3) (hi : i < l0.length) :
    Calls Try.prog 122 #[.slice (some ⟨g, 0, none⟩) l0.length cap, .int .i64 i, .int .i64 ((i : Int) + 1)] w fun e w' => ∃ v', e = .returned v' ∧
      Kd.R k104 104 w' w0.heap.size (fun k => P0_ k ∨ w.heap.size ≤ k) v' (l0.take i ++ l0.drop (i + 1)) ∧ Below w0.heap.size w0 w' ∧ Kept w w' P0_ := by
  have hmax : cap ≤ 9223372036854775807 := hcap; have h := delete_one g l0.length cap i cur w hg hi hn hmax hcs (by rw [hcur]; exact enc3_one l0); refine h.mono ?_; rintro e w' ⟨rfl, rfl⟩; rw [hcur]; obtain ⟨A, hA⟩ : ∃ A : Array Value, A = (cur.toList.take (i * 3) ++ (l0.flatMap enc3).drop ((i + 1) * 3) ++ cur.toList.drop (i * 3 + (l0.length - (i + 1)) * 3)).toArray := ⟨_, rfl⟩; rw [← hA]
  have hAs : A.size = cur.size := by
    rw [hA]; simp only [List.size_toArray, List.length_append, List.length_take, List.length_drop, Array.length_toList, enc3_len]; omega
  have hAg : (w.drew.setRow g A).heap[g]? = some (.cells A 104 (0, 0)) := setRow_heap w.drew g cur A 104 _ hg; obtain ⟨c2, e2, t2⟩ := setCells_eq g 104 [.int .i64 0, .int .i64 0, .int .i64 0] (w.drew.setRow g A) A hAg ((l0.length - 1) * 3) (by show (l0.length - 1) * 3 + 3 ≤ A.size; omega)
  have s2 : c2.size = A.size := by
    have := congrArg List.length t2; simp only [List.length_append, List.length_take, List.length_drop, Array.length_toList, List.length_cons, List.length_nil] at this; omega
  rw [e2, setRow_setRow]; have hheap : (w.drew.setRow g c2).heap[g]? = some (.cells c2 104 (0, 0)) := setRow_heap w.drew g cur c2 104 _ hg; have hlen : (l0.take i ++ l0.drop (i + 1)).length = l0.length - 1 := by rw [List.length_append, List.length_take, List.length_drop]; omega
  have hfl : ((l0.take i ++ l0.drop (i + 1)).flatMap enc3).length = (l0.length - 1) * 3 := by rw [enc3_len, hlen]
  have hAt : A.toList.take ((l0.length - 1) * 3) = (l0.take i ++ l0.drop (i + 1)).flatMap enc3 := by
    have hl : (cur.toList.take (i * 3)) = (l0.take i).flatMap enc3 := by rw [← enc3_take, ← hcur, List.take_take, Nat.min_eq_left (by omega)]
    rw [hA]; show (cur.toList.take (i * 3) ++ (l0.flatMap enc3).drop ((i + 1) * 3) ++ _).take ((l0.length - 1) * 3) = _; rw [hl, enc3_drop, ← List.flatMap_append, ← hfl, List.take_left]
  refine ⟨_, rfl, R104_mk ⟨enc3_len _, .inr ⟨g, cap, c2, by rw [hlen], hg0, hheap, by omega, hcap, by omega, ?_⟩⟩ (fun k hk => .inl (by simp [Value.ownBlock] at hk; subst hk; exact hP)), (below_drew1 hB).trans ⟨rfl, rfl, rfl, by simp [World.setRow], fun k hk => setRow_other w.drew g k c2 (by omega)⟩, ?_⟩
  · rw [hlen, t2, hAt, List.append_assoc, ← hfl, List.take_left]
  · refine ⟨by simp [World.setRow], fun k hk hS => ?_⟩; exact setRow_other w.drew g k c2 (fun e => hS (e ▸ hP))
set_option maxHeartbeats 4000000 in
set_option maxRecDepth 100000 in
theorem insert_end_R {P0_ : Nat → Prop} (u : Value) (l0 : List S104) (x : S104) (vb vc : Nat) (w0 w : World) (hB : Below w0.heap.size w0 w) (ho : Kd.R k104 104 w w0.heap.size P0_ u l0) (hbig : l0.length ≤ 1000000)
    (curv : Array Value) (hv : w.heap[vb]? = some (.cells curv 104 (0, 0))) (hvx : curv.toList.take 3 = enc3 x) :
    Calls Try.prog 121 #[u, .int .i64 l0.length, .slice (some ⟨vb, 0, none⟩) 1 vc] w fun e w' => ∃ v', e = .returned v' ∧
      Kd.R k104 104 w' w0.heap.size (fun k => P0_ k ∨ w.heap.size ≤ k) v' (l0 ++ [x]) ∧ Below w0.heap.size w0 w' ∧ Kept w w' P0_ := by
  have HO : Kd.R k104 104 w w0.heap.size (fun k => P0_ k ∨ w.heap.size ≤ k) u l0 := Kd.R_mono ho (fun k hk => .inl hk); have hvc : ∀ (j : Nat) v, (enc3 x)[j]? = some v → w.cell? ⟨vb, j, none⟩ = some v := enc3_cell hv hvx
  have hread : ReadsRow (fun (y : S104) cs => cs = enc3 y) k104.sz w (some ⟨vb, 0, none⟩) 1 [x] := by
    refine ⟨rfl, by decide, fun _ => ⟨⟨vb, 0, none⟩, rfl, fun j p hj => ?_⟩⟩
    cases j with
    | zero =>
      cases hj; exact ⟨enc3 x, rfl, rfl, fun i u hu => by rw [Addr.add_lit, show 0 + (0 * k104.sz + i) = i by omega]; exact hvc _ _ hu⟩
    | succ j => simp at hj
  obtain ⟨i0, hi0, hz0, hzs, hzb⟩ := info_parts info104; have u64 := run_underlying Try.underlying64; rcases (R104_raw ho).2 with ⟨rfl, hn⟩ | ⟨g, cap, cur, rfl, hg0, hg, hc1, hc2, hc3, hc4⟩
  · have hl : l0 = [] := List.eq_nil_of_length_eq_zero hn; subst hl; show Calls Try.prog 121 #[.slice none 0 0, .int .i64 0, .slice (some ⟨vb, 0, none⟩) 1 vc] w _; go_enter Try.func121, Try.ntmps121; go_wp2_with (at_builtin; refine Kd.R_append_rows k104 (w0 := w0) w0.heap.size rfl _ _ 64 104 _ 24 rfl Try.underlying64 info104 rfl (by decide) (by decide) _ [] [x] _ 1 vc (fun k => P0_ k ∨ w.heap.size ≤ k) (fun _ => False) rfl rfl HO hread (fun y cs e => by subst e; exact k104_mkM _ _ _ y) (fun _ h => h.elim) (fun k hk => .inr hk) hB hB.size (by simp) ?_; intro v1 w1 ho1 hb1 hg1 hat); all_goals (go_ret; exact ⟨v1, rfl, ho1, hb1, ⟨hg1.size, fun k hk hS => hg1.block k hk (fun e => by have e2 : some k = (Value.slice none 0 0).ownBlock := e; cases e2)⟩⟩)
  · have hic : (l0.length : Int) ≤ (cap : Int) := by omega
    have hP : P0_ g := ho.1 g rfl; go_enter Try.func121, Try.ntmps121; go_wp2_with (at_builtin; refine Kd.R_append_rows k104 (w0 := w0) w0.heap.size rfl _ _ 64 104 _ 24 rfl Try.underlying64 info104 rfl (by decide) (by decide) _ l0 [x] _ 1 vc (fun k => P0_ k ∨ w.heap.size ≤ k) (fun _ => False) rfl rfl HO hread (fun y cs e => by subst e; exact k104_mkM _ _ _ y) (fun _ h => h.elim) (fun k hk => .inr hk) hB hB.size (by omega) ?_; intro v1 w1 ho1 hb1 hg1 hat); all_goals (go_ret; exact ⟨v1, rfl, ho1, hb1, ⟨hg1.size, fun k hk hS => hg1.block k hk (fun e => hS (by have e2 : some k = (Value.slice (some ⟨g, 0, none⟩) l0.length cap).ownBlock := e; cases e2; exact hP))⟩⟩)
/-- slices.Insert of one balance, over a row of the call's own. -/
theorem insert_R {P0_ : Nat → Prop} (u : Value) (l0 : List S104) (i : Nat) (x : S104) (vb vc : Nat) (w0 w : World) (hB : Below w0.heap.size w0 w) (ho : Kd.R k104 104 w w0.heap.size P0_ u l0) (hbig : l0.length ≤ 1000000)
    (curv : Array Value) (hv : w.heap[vb]? = some (.cells curv 104 (0, 0))) (hvx : curv.toList.take 3 = enc3 x) (hne : some vb ≠ u.ownBlock) (hi : i ≤ l0.length) :
    Calls Try.prog 121 #[u, .int .i64 i, .slice (some ⟨vb, 0, none⟩) 1 vc] w fun e w' => ∃ v', e = .returned v' ∧
      Kd.R k104 104 w' w0.heap.size (fun k => P0_ k ∨ w.heap.size ≤ k) v' (l0.take i ++ [x] ++ l0.drop i) ∧ Below w0.heap.size w0 w' ∧ Kept w w' P0_ := by
  by_cases hin : i = l0.length
  · subst hin; refine (insert_end_R u l0 x vb vc w0 w hB ho hbig curv hv hvx).mono ?_; rintro e w' ⟨v', e1, r, b, k⟩; exact ⟨v', e1, by rw [List.take_length, List.drop_length, List.append_nil]; exact r, b, k⟩
  · rcases (R104_raw ho).2 with ⟨rfl, hn⟩ | ⟨g, cap, cur, rfl, hg0, hg, hc1, hc2, hc3, hc4⟩
    · exact absurd (show i = l0.length by omega) hin
    · by_cases hroom : l0.length + 1 ≤ cap
      · exact insert_shift_R g cap cur l0 i x vb vc w0 w hB (ho.1 g rfl) hg0 hg hroom hc2 hc3 hc4 curv hv hvx (fun e => hne (by rw [e]; rfl)) (by omega)
      · exact insert_grow_R g cap cur l0 i x vb vc w0 w hB hg hc1 (by omega) hbig hc3 hc4 curv hv hvx (by omega)
/-- slices.Delete of one balance, over a row of the call's own. -/
theorem deleteR {P0_ : Nat → Prop} (u : Value) (l0 : List S104) (i : Nat) (w0 w : World) (hB : Below w0.heap.size w0 w) (ho : Kd.R k104 104 w w0.heap.size P0_ u l0) (hi : i < l0.length) :
    Calls Try.prog 122 #[u, .int .i64 i, .int .i64 ((i : Int) + 1)] w fun e w' => ∃ v', e = .returned v' ∧
      Kd.R k104 104 w' w0.heap.size (fun k => P0_ k ∨ w.heap.size ≤ k) v' (l0.take i ++ l0.drop (i + 1)) ∧ Below w0.heap.size w0 w' ∧ Kept w w' P0_ := by
  rcases (R104_raw ho).2 with ⟨rfl, hn⟩ | ⟨g, cap, cur, rfl, hg0, hg, hc1, hc2, hc3, hc4⟩
  · exact absurd hi (by omega)
  · exact delete_R g cap cur l0 i w0 w hB (ho.1 g rfl) hg0 hg hc1 hc2 hc3 hc4 hi

def slices_Insert_impl_Balance.f (l0 : List (S104)) (a1 : Int) (l2 : List (S104)) : Option (List (S104)) := if 0 ≤ a1 then (if a1 ≤ (l0.length : Int) then (if l0.length ≤ 1000000 then (if l2.length = 1 then (some (l0.take a1.toNat ++ l2 ++ l0.drop a1.toNat)) else none) else none) else none) else none
theorem slices_Insert_impl_Balance.calls (P0_ : Nat → Prop) (u9000_ : Value) (l0 : List (S104)) (a1 : Int) (P2_ : Nat → Prop) (u9001_ : Value) (l2 : List (S104)) (r : List (S104)) (w0 w : World) (hB : Below w0.heap.size w0 w) (ho0 : Kd.R k104 104 w w0.heap.size P0_ u9000_ l0) (hp0_2 : ∀ k_, P0_ k_ → ¬ P2_ k_) (ho2 : Kd.R k104 104 w w0.heap.size P2_ u9001_ l2) (hp2_0 : ∀ k_, P2_ k_ → ¬ P0_ k_) (h : slices_Insert_impl_Balance.f l0 a1 l2 = some r) :
    Calls Try.prog 121 #[u9000_, .int .i64 a1, u9001_] w fun e w' => ∃ v0_ : Value, e = .returned (v0_) ∧ Kd.R k104 104 w' w0.heap.size (fun k_ => ((P0_ k_ ∨ P2_ k_) ∨ w.heap.size ≤ k_)) v0_ r ∧ Below w0.heap.size w0 w' ∧ Kept w w' (fun k_ => P0_ k_ ∨ P2_ k_) := by
  unfold slices_Insert_impl_Balance.f at h; by_cases h1 : 0 ≤ a1
  · rw [if_pos h1] at h; by_cases h2 : a1 ≤ (l0.length : Int)
    · rw [if_pos h2] at h; by_cases h3 : l0.length ≤ 1000000
      · rw [if_pos h3] at h; by_cases h4 : l2.length = 1
        · rw [if_pos h4] at h; obtain rfl := Option.some.inj h; obtain ⟨x, rfl⟩ := List.length_eq_one_iff.1 h4; obtain ⟨i, rfl⟩ : ∃ i : Nat, a1 = (i : Int) := ⟨a1.toNat, by omega⟩; rcases (R104_raw ho2).2 with ⟨_, hn⟩ | ⟨vb, vc, curv, rfl, hg0, hg, hc1, hc2, hc3, hc4⟩
          · exact absurd hn (by simp)
          · refine insert_R (P0_ := fun k_ => P0_ k_ ∨ P2_ k_) u9000_ l0 i x vb vc w0 w hB (Kd.R_mono ho0 (fun k_ hk => .inl hk)) h3 curv hg (by simpa [enc3] using hc4) (fun hq => hp2_0 vb (ho2.1 vb rfl) (ho0.1 vb hq.symm)) (by omega)
        · rw [if_neg h4] at h; exact absurd h (by simp)
      · rw [if_neg h3] at h; exact absurd h (by simp)
    · rw [if_neg h2] at h; exact absurd h (by simp)
  · rw [if_neg h1] at h; exact absurd h (by simp)

/-! ### slices_Delete_impl_Balance: function 122 -/
def slices_Delete_impl_Balance.f (l0 : List (S104)) (a1 : Int) (a2 : Int) : Option (List (S104)) := if 0 ≤ a1 then (if a1 < (l0.length : Int) then (if a2 = a1 + 1 then (some (l0.take a1.toNat ++ l0.drop (a1.toNat + 1))) else none) else none) else none
theorem slices_Delete_impl_Balance.calls (P0_ : Nat → Prop) (u9000_ : Value) (l0 : List (S104)) (a1 : Int) (a2 : Int) (r : List (S104)) (w0 w : World) (hB : Below w0.heap.size w0 w) (ho0 : Kd.R k104 104 w w0.heap.size P0_ u9000_ l0) (h : slices_Delete_impl_Balance.f l0 a1 a2 = some r) :
    Calls Try.prog 122 #[u9000_, .int .i64 a1, .int .i64 a2] w fun e w' => ∃ v0_ : Value, e = .returned (v0_) ∧ Kd.R k104 104 w' w0.heap.size (fun k_ => (P0_ k_ ∨ w.heap.size ≤ k_)) v0_ r ∧ Below w0.heap.size w0 w' ∧ Kept w w' (fun k_ => P0_ k_) := by
  unfold slices_Delete_impl_Balance.f at h; by_cases h1 : 0 ≤ a1
  · rw [if_pos h1] at h; by_cases h2 : a1 < (l0.length : Int)
    · rw [if_pos h2] at h; by_cases h3 : a2 = a1 + 1
      · rw [if_pos h3] at h; obtain rfl := Option.some.inj h; obtain ⟨i, rfl⟩ : ∃ i : Nat, a1 = (i : Int) := ⟨a1.toNat, by omega⟩; subst h3; exact deleteR (P0_ := P0_) u9000_ l0 i w0 w hB ho0 (by omega)
      · rw [if_neg h3] at h; exact absurd h (by simp)
    · rw [if_neg h2] at h; exact absurd h (by simp)
  · rw [if_neg h1] at h; exact absurd h (by simp)

end Go.Proofs.Ytanegggacfmkcaa.PFnSequels
