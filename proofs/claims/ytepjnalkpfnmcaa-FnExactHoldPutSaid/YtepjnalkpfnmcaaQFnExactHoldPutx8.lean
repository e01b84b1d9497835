-- by my own printer (myprint.py, over the kit's print.py)
import Derived.Test.YtepjnalkpfnmcaaQFnExactHoldPutx0
namespace Go.Proofs.Ytepjnalkpfnmcaa.QFnExactHoldPut
open Go.RowKit Go.Proofs.YtepjnalkpfnmcaaW.PrintWords Go.Proofs.YtepjnalkpfnmcaaW.PrintLast Go.Proofs.YtepjnalkpfnmcaaW.PrintMore
attribute [local go_sem] max2_int min2_int max_two min_two max_three min_three max_four min_four   -- for this text's walks alone
set_option linter.unusedVariables false
set_option linter.unusedSimpArgs false
attribute [local go_sem] my_geq my_leq my_gtr
abbrev tb16_0_8 : Array Bool := #[b0, b0, b0, b0, b0, b0, b0, b0, b0, b0, b0, b0, b0, b0, b0, b0]
abbrev tb16_1_8 : Array Bool := #[b1, b0, b0, b0, b0, b0, b0, b0, b0, b0, b0, b0, b0, b0, b0, b0]
abbrev tb16_17f_8 : Array Bool := #[b1, b1, b1, b1, b1, b1, b1, b0, b1, b0, b0, b0, b0, b0, b0, b0]
abbrev tb16_1f_8 : Array Bool := #[b1, b1, b1, b1, b1, b0, b0, b0, b0, b0, b0, b0, b0, b0, b0, b0]
abbrev tb16_1fff_8 : Array Bool := #[b1, b1, b1, b1, b1, b1, b1, b1, b1, b1, b1, b1, b1, b0, b0, b0]
abbrev tb16_3_8 : Array Bool := #[b1, b1, b0, b0, b0, b0, b0, b0, b0, b0, b0, b0, b0, b0, b0, b0]
abbrev tb16_37f_8 : Array Bool := #[b1, b1, b1, b1, b1, b1, b1, b0, b1, b1, b0, b0, b0, b0, b0, b0]
abbrev tb16_3f_8 : Array Bool := #[b1, b1, b1, b1, b1, b1, b0, b0, b0, b0, b0, b0, b0, b0, b0, b0]
abbrev tb16_3fff_8 : Array Bool := #[b1, b1, b1, b1, b1, b1, b1, b1, b1, b1, b1, b1, b1, b1, b0, b0]
abbrev tb16_7_8 : Array Bool := #[b1, b1, b1, b0, b0, b0, b0, b0, b0, b0, b0, b0, b0, b0, b0, b0]
abbrev tb16_77f_8 : Array Bool := #[b1, b1, b1, b1, b1, b1, b1, b0, b1, b1, b1, b0, b0, b0, b0, b0]
abbrev tb16_7f_8 : Array Bool := #[b1, b1, b1, b1, b1, b1, b1, b0, b0, b0, b0, b0, b0, b0, b0, b0]
abbrev tb16_7ff_8 : Array Bool := #[b1, b1, b1, b1, b1, b1, b1, b1, b1, b1, b1, b0, b0, b0, b0, b0]
abbrev tb16_7fff_8 : Array Bool := #[b1, b1, b1, b1, b1, b1, b1, b1, b1, b1, b1, b1, b1, b1, b1, b0]
abbrev tb16_f_8 : Array Bool := #[b1, b1, b1, b1, b0, b0, b0, b0, b0, b0, b0, b0, b0, b0, b0, b0]
abbrev tb16_fff_8 : Array Bool := #[b1, b1, b1, b1, b1, b1, b1, b1, b1, b1, b1, b1, b0, b0, b0, b0]
abbrev tb16_ffff_8 : Array Bool := #[b1, b1, b1, b1, b1, b1, b1, b1, b1, b1, b1, b1, b1, b1, b1, b1]
/-! ### impl_Hold_209: function 209 -/
def impl_Hold_209.l0 : Nat → List (S93) → Int → Int → Option ((List (S93)))
 | 0, _, _, _ => none
 | k + 1, x0, x2, x3 => if x2 < x3 then (if 0 ≤ x3 then (if x3 < (x0.length : Int) then (if 0 ≤ x2 then (if x2 < (x0.length : Int) then (impl_Hold_209.l0 k ((x0.set (x2 : Int).toNat (⟨(rd_T93 x0 x3).f0, (rd_T93 x0 x3).f1, (rd_T93 x0 x3).f2⟩ : S93)).set (x3 : Int).toNat (⟨(rd_T93 x0 x2).f0, (rd_T93 x0 x2).f1, (rd_T93 x0 x2).f2⟩ : S93)) (wrap64 (x2 + 1)) (wrap64 (x3 - 1))) else (none)) else (none)) else (none)) else (none)) else (some x0)
def impl_Hold_209.f (k : Nat) (l0 : List (S93)) : Option ((List (S93))) := impl_Hold_209.l0 k l0 0 (wrap64 ((l0.length : Int) - 1))
def impl_Hold_209.T3 : Bool × List (List Nat × List Nat) := (true, [([], []), ([], []), ([], []), ([], []), ([], []), ([], []), ([4, 5], [4, 5]), ([6], [6]), ([], []), ([], []), ([8, 9], [8, 9]), ([10], [10]), ([0, 1, 0, 1, 4, 5, 6, 7, 11], [0, 1]), ([12, 7, 0, 1, 4, 5, 6, 7, 11], [7, 12]), ([2, 3, 0, 1, 2, 3, 4, 5, 6, 7, 8, 9, 10, 11, 12, 13], [2, 3]), ([14, 11, 13, 0, 1, 2, 3, 4, 5, 6, 7, 8, 9, 10, 11, 12, 13], [11, 14])])
def impl_Hold_209.B3 : List Nat := [0, 0, 0, 0, 0, 0, 48, 112, 0, 0, 768, 1792, 4083, 8179, 16383, 32767]
-- NOT PRINTED: function 192 (impl_Hold_192)
-- NOT PRINTED: function 169 (impl_Hold_169)
/-! ### impl_Hold_126: function 126 -/
section
variable {P : Program}
theorem in_copy (w : World) (dT sT ty elem : TypeId) (sz b o dLen dCap : Nat) (a : Addr) (sLen sCap n : Nat) (cs : List Value)
  (hu : P.underlying dT = some (.slice elem)) (hs : (P.info? elem).map (·.size) = some sz) (hn : n = Nat.min sLen dLen) (hl : cs.length = n * sz)
  (hsrc : ∀ j v, cs[j]? = some v → w.cell? (a.add j) = some v) (hc : ∀ j, j < cs.length → (w.cell? ⟨b, o + j, none⟩).isSome = true) (hf : ∀ j, j < cs.length → w.frozen? ⟨b, o + j, none⟩ = false) (h1 : ∀ v ∈ cs, v.oneCell' = true) :
  (Builtin.copy_ #[dT, sT] ty #[.slice (some ⟨b, o, none⟩) dLen dCap, .slice (some a) sLen sCap]).run P w = .ok (goInt n) (w.setCells b o cs) := by
 have hl' := run_loadCells_list (P := P) w a cs hsrc
 have hst := run_storeCells_cells (P := P) b o cs 0 w (by simpa using hc) (by simpa using hf) h1
 cases hq : P.info? elem with
 | none => simp [hq] at hs
 | some i =>
  have hi : i.size = sz := by simpa [hq] using hs
  simp [Builtin.copy_, run_underlying hu, Builtin.lenOf, Builtin.firstCells, sizeOf, typeInfo, hq, hi, ← hn, ← hl, hl', hst]
end
set_option maxHeartbeats 4000000 in
set_option maxRecDepth 100000 in
/-- There is room, and i < n: in place. -/
theorem ins.shift (b n c i vb voff vc : Nat) (cs vs : List Value) (w : World) (hi : i < n) (hroom : n + 1 ≤ c) (hn63 : n ≤ 1048576) (hvb : vb ≠ b)
  (hcl : cs.length = n * 3) (hvl : vs.length = 3)
  (hcs : ∀ j v, cs[j]? = some v → w.cell? ⟨b, j, none⟩ = some v) (hsp : ∀ j, j < (n + 1) * 3 → (w.cell? ⟨b, j, none⟩).isSome = true) (hfz : ∀ j, j < (n + 1) * 3 → w.frozen? ⟨b, j, none⟩ = false)
  (hvs : ∀ j v, vs[j]? = some v → w.cell? ⟨vb, voff + j, none⟩ = some v) (h1c : ∀ v ∈ cs, v.oneCell' = true) (h1v : ∀ v ∈ vs, v.oneCell' = true)
  (tA tB : TypeId) (kA kB : Nat) (hsa : w.shape? vb = some (tA, kA)) (hsb : w.shape? b = some (tB, kB)) (hkB : kB ≠ 0) (hfa : w.frozen? ⟨vb, voff, none⟩ = false) (hfe : w.frozen? ⟨vb, kA, none⟩ = false) :
  Calls Try.prog 126 #[.slice (some ⟨b, 0, none⟩) n c, .int .i64 i, .slice (some ⟨vb, voff, none⟩) 1 vc] w fun e w' =>
   e = .returned (.slice (some ⟨b, 0, none⟩) (n + 1) c) ∧ w' = (w.drew.setCells b ((i + 1) * 3) (cs.drop (i * 3))).setCells b (i * 3) vs := by
 have hz2 : ¬ ((i : Int) = (n : Int)) := by omega
 have hsz : (Try.prog.info? 93).map (·.size) = some 3 := by kernel_rfl
 have hov : ∀ lb cb, (callFunc 168 #[.slice (some ⟨vb, voff, none⟩) 1 vc, .slice (some ⟨b, (i + 1) * 3, none⟩) lb cb]).run Try.prog w = .ok (.value (.bool false)) w := fun lb cb => by
  rw [run_callFunc_extern Try.func168 (by kernel_rfl) (by kernel_rfl) (by kernel_rfl) (e := Extern.SlicesOverlaps.overlaps #[24, 24] #[4]) (by kernel_rfl),
   Lib.run_overlaps_apart w 24 4 93 Try.underlying24 3 (fun w => by simp [go_sem]) ⟨vb, voff, none⟩ ⟨b, (i + 1) * 3, none⟩ 1 vc lb cb hvb tA tB kA kB hsa hsb hkB hfa hfe]
  rfl
 have hdl : (cs.drop (i * 3)).length = (n - i) * 3 := by rw [List.length_drop, hcl]; omega
 have hcp1 : ∀ ty dc sc, (Builtin.copy_ #[24, 24] ty #[.slice (some ⟨b, (i + 1) * 3, none⟩) (n - i) dc, .slice (some ⟨b, i * 3, none⟩) (n + 1 - i) sc]).run Try.prog w.drew = .ok (goInt ((n - i : Nat) : Int)) (w.drew.setCells b ((i + 1) * 3) (cs.drop (i * 3))) := fun ty dc sc =>
  in_copy w.drew _ _ ty 93 3 b ((i + 1) * 3) (n - i) dc ⟨b, i * 3, none⟩ (n + 1 - i) sc (n - i) (cs.drop (i * 3)) Try.underlying24 hsz (by simp only [Nat.min_def]; split <;> omega) hdl
   (fun j v hj => by rw [Addr.add_lit]; exact hcs (i * 3 + j) v (by rwa [List.getElem?_drop] at hj))
   (fun j hj => hsp _ (by omega)) (fun j hj => hfz _ (by omega)) (fun v hv => h1c v (List.mem_of_mem_drop hv))
 obtain ⟨W1, hW1⟩ : ∃ W1, W1 = w.drew.setCells b ((i + 1) * 3) (cs.drop (i * 3)) := ⟨_, rfl⟩
 have hsp1 : ∀ k, k < (n + 1) * 3 → (W1.cell? ⟨b, k, none⟩).isSome = true := fun k hk => by
  rw [hW1]
  exact isSome_setCells b _ _ w.drew (fun j hj => hsp ((i + 1) * 3 + j) (by rw [hdl] at hj; omega)) _ (hsp k hk)
 have hcp2 : ∀ (W : World), (∀ x, W.cell? x = W1.cell? x) → (∀ x, W.frozen? x = W1.frozen? x) → ∀ ty dc, (Builtin.copy_ #[24, 24] ty #[.slice (some ⟨b, i * 3, none⟩) (n + 1 - i) dc, .slice (some ⟨vb, voff, none⟩) 1 vc]).run Try.prog W = .ok (goInt ((1 : Nat) : Int)) (W.setCells b (i * 3) vs) := fun W hWc hWf ty dc =>
  in_copy W _ _ ty 93 3 b (i * 3) (n + 1 - i) dc ⟨vb, voff, none⟩ 1 vc 1 vs Try.underlying24 hsz (by simp only [Nat.min_def]; split <;> omega) (by rw [hvl])
   (fun j v hj => by
    rw [Addr.add_lit, hWc, hW1, World.cell?_setCells_out b _ _ _ _ (fun h _ => absurd h hvb)]
    exact hvs j v hj)
   (fun j hj => by rw [hWc]; exact hsp1 _ (by omega)) (fun j hj => by rw [hWf, hW1, World.frozen?_setCells]; exact hfz _ (by omega)) h1v
 rw [← hW1] at hcp1
 have mixed : Try.prog.follows Departure.mixedOrders = true := by kernel_rfl
 have hw1 : IntKind.i64.wrap ((i : Int) + 1) = (i : Int) + 1 := by rw [IntKind.wrap_i64]; omega
 have hw2 : IntKind.i64.wrap ((n : Int) + 1) = (n : Int) + 1 := by rw [IntKind.wrap_i64]; omega
 have hb1 : (0 : Int) ≤ (i : Int) + 1 := by omega
 have hin : i ≤ n := by omega
 have htn : ((i : Int) + 1).toNat = i + 1 := by omega
 have htn2 : ((n : Int) + 1).toNat = n + 1 := by omega
 have hb2 : ¬ (c = i + 1) := by omega
 have hb3 : (i : Int) ≤ (n : Int) + 1 := by omega
 have hb4 : ¬ (c = i) := by omega
 have hb5 : ¬ ((c : Int) < (n : Int) + 1) := by omega
 go_enter Try.func126, Try.ntmps126
 go_wp2_with (simp only [hov])
 go_region_law_o (refine step_copy_runI rfl _ _ 24 24 rfl _ _ (by simp [Act.eval, Act.put]) (by simp [Act.eval, Act.put]) (hcp1 _ _ _) ?_)
 go_wp2_with (at_builtin; refine wpList_copy_runI _ rfl _ _ 24 24 rfl _ _ rfl rfl (hcp2 _ (fun _ => rfl) (fun _ => rfl) _ _) ?_)
 go_ret
 first | exact ⟨rfl, rfl⟩ | exact ⟨rfl, by rw [hW1]⟩
theorem info93' : (Try.prog.info? 93).map (fun i => (i.zero, i.size, i.bytes)) = some (some (.agg #[(.string ⟨#[]⟩), (.int .i64 0), (.int .i64 0)]), 3, 32) := by kernel_rfl
def inZ (k : Nat) : Array Value := Builtin.zeroCells (Value.agg #[(.string ⟨#[]⟩), (.int .i64 0), (.int .i64 0)]).cells k
set_option maxHeartbeats 4000000 in
set_option maxRecDepth 100000 in
/-- No room, and i < n: a new row. -/
theorem ins.grow (b n c i vb voff vc : Nat) (cs vs : List Value) (w : World) (hi : i < n) (hnc : n ≤ c) (hroom : c < n + 1) (hn63 : n ≤ 1048576)
  (hcl : cs.length = n * 3) (hvl : vs.length = 3)
  (hcs : ∀ j v, cs[j]? = some v → w.cell? ⟨b, j, none⟩ = some v)
  (hvs : ∀ j v, vs[j]? = some v → w.cell? ⟨vb, voff + j, none⟩ = some v) (h1c : ∀ v ∈ cs, v.oneCell' = true) (h1v : ∀ v ∈ vs, v.oneCell' = true) :
  Calls Try.prog 126 #[.slice (some ⟨b, 0, none⟩) n c, .int .i64 i, .slice (some ⟨vb, voff, none⟩) 1 vc] w fun e w' =>
   e = .returned (.slice (some ⟨w.heap.size, 0, none⟩) (n + 1) (grownCap w (n + 1) c 93)) ∧ n + 1 ≤ grownCap w (n + 1) c 93 ∧
   w' = (((w.alloc (.cells ((cs.take (i * 3)).toArray ++ inZ (n + 1 - i) ++ inZ (grownCap w (n + 1) c 93 - (n + 1))) 93)).drew.setCells w.heap.size (i * 3) vs).drew).setCells w.heap.size ((i + 1) * 3) (cs.drop (i * 3)) := by
 have mixed : Try.prog.follows Departure.mixedOrders = true := by kernel_rfl
 obtain ⟨i0, hi0, hz0, hzs, hzb⟩ := info_parts info93'
 have hz2 : ¬ ((i : Int) = (n : Int)) := by omega
 have hz3 : (c : Int) < (n : Int) + 1 := by omega
 have hsz : (Try.prog.info? 93).map (·.size) = some 3 := by kernel_rfl
 have hbw : b < w.heap.size := block_lt_of_cell (hcs 0 _ (List.getElem?_eq_getElem (by omega)))
 have hvw : vb < w.heap.size := block_lt_of_cell (hvs 0 _ (List.getElem?_eq_getElem (by omega)))
 have hkk : (n : Int) + 1 - (i : Int) = ((n + 1 - i : Nat) : Int) := by omega
 have hik : i + (n + 1 - i) = n + 1 := by omega
 have hold : (Builtin.firstCells i0.size i (.slice (some ⟨b, 0, none⟩) i c)).run Try.prog w.drew = .ok (cs.take (i * 3)).toArray w.drew := by
  rw [hzs]
  exact run_firstCells_some w.drew 3 i ⟨b, 0, none⟩ i c (cs.take (i * 3)) (by rw [List.length_take]; omega) (fun j v hj => by
   rw [Addr.add_lit, Nat.zero_add]
   rw [List.getElem?_take] at hj
   split at hj
   ·exact hcs j v hj
   ·cases hj)
 have hrz : ∀ ty, (Builtin.append_ #[24, 3] ty #[.slice (some ⟨b, 0, none⟩) i c, .int .i64 ((n : Int) + 1 - (i : Int))]).run Try.prog w =
   .ok (.slice (some ⟨w.heap.size, 0, none⟩) (n + 1) (grownCap w (n + 1) c 93)) (w.drew.alloc (.cells ((cs.take (i * 3)).toArray ++ inZ (n + 1 - i) ++ inZ (grownCap w (n + 1) c 93 - (n + 1))) 93)) := fun ty => by
  have h := Lib.run_append_grow_zeros w 24 3 ty 93 i0 _ .i64 .i64 Try.underlying24 Try.underlying3 hi0 hz0 (some ⟨b, 0, none⟩) i c (cs.take (i * 3)) hold (n + 1 - i) (by omega) (by omega) (by omega) (by omega) (by rw [hzb]; omega) (by rw [hzb, hik]; exact growslice_fits hroom (by omega))
  rw [hik] at h
  rw [hkk]
  exact h
 obtain ⟨G, hG⟩ : ∃ G, G = grownCap w (n + 1) c 93 := ⟨_, rfl⟩
 obtain ⟨ROW, hROW⟩ : ∃ ROW : Array Value, ROW = (cs.take (i * 3)).toArray ++ inZ (n + 1 - i) ++ inZ (G - (n + 1)) := ⟨_, rfl⟩
 rw [← hG] at hrz ⊢
 rw [← hROW] at hrz ⊢
 have hRl : (n + 1) * 3 ≤ ROW.size := by
  rw [hROW]
  simp [inZ, Builtin.zeroCells, Value.cells]
  omega
 obtain ⟨W1, hW1⟩ : ∃ W1, W1 = w.drew.alloc (.cells ROW 93) := ⟨_, rfl⟩
 rw [← hW1] at hrz
 have hN : ∀ j, j < (n + 1) * 3 → (W1.cell? ⟨w.heap.size, j, none⟩).isSome = true := fun j hj => by
  rw [hW1, World.cell?_alloc_at (w := w.drew) ROW _ w.heap.size j rfl, Array.getElem?_eq_getElem (by omega)]; rfl
 have hNf : ∀ j, W1.frozen? ⟨w.heap.size, j, none⟩ = false := fun j => by rw [hW1]; exact World.frozen?_alloc_at (w := w.drew) ROW _ w.heap.size j rfl
 have hOb : ∀ j v, w.cell? ⟨b, j, none⟩ = some v → W1.cell? ⟨b, j, none⟩ = some v := fun j v h => by rw [hW1, World.cell?_alloc_past (w := w.drew) _ b j hbw]; exact h
 have hOv : ∀ j v, w.cell? ⟨vb, j, none⟩ = some v → W1.cell? ⟨vb, j, none⟩ = some v := fun j v h => by rw [hW1, World.cell?_alloc_past (w := w.drew) _ vb j hvw]; exact h
 have hcpA : ∀ (W : World), (∀ x, W.cell? x = W1.cell? x) → (∀ x, W.frozen? x = W1.frozen? x) → ∀ ty dc, (Builtin.copy_ #[24, 24] ty #[.slice (some ⟨w.heap.size, i * 3, none⟩) (n + 1 - i) dc, .slice (some ⟨vb, voff, none⟩) 1 vc]).run Try.prog W = .ok (goInt ((1 : Nat) : Int)) (W.setCells w.heap.size (i * 3) vs) := fun W hWc hWf ty dc =>
  in_copy W _ _ ty 93 3 w.heap.size (i * 3) (n + 1 - i) dc ⟨vb, voff, none⟩ 1 vc 1 vs Try.underlying24 hsz (by simp only [Nat.min_def]; split <;> omega) (by rw [hvl])
   (fun j v hj => by rw [Addr.add_lit, hWc]; exact hOv _ v (hvs j v hj))
   (fun j hj => by rw [hWc]; exact hN _ (by omega)) (fun j hj => by rw [hWf]; exact hNf _) h1v
 have hGn : n + 1 ≤ G := by rw [hG]; exact grownCap_ge w _ _ _
 have hG63 : G ≤ 9223372036854775807 := by
  have := grownCap_le_maxLen w (n + 1) c 93 (by unfold maxLen; omega)
  rw [← hG] at this
  unfold maxLen at this
  omega
 have hGi : ¬ (G = i) := by omega
 have hGim : ¬ (G = i + 1) := by omega
 have hci : ¬ (c = i) := by omega
 have hbN : b ≠ w.heap.size := by omega
 have hdl : (cs.drop (i * 3)).length = (n - i) * 3 := by rw [List.length_drop, hcl]; omega
 have hcpB : ∀ (W : World), (∀ x, W.cell? x = (W1.setCells w.heap.size (i * 3) vs).cell? x) → (∀ x, W.frozen? x = (W1.setCells w.heap.size (i * 3) vs).frozen? x) → ∀ ty dc sc, (Builtin.copy_ #[24, 24] ty #[.slice (some ⟨w.heap.size, (i + 1) * 3, none⟩) (n - i) dc, .slice (some ⟨b, i * 3, none⟩) (n - i) sc]).run Try.prog W = .ok (goInt ((n - i : Nat) : Int)) (W.setCells w.heap.size ((i + 1) * 3) (cs.drop (i * 3))) := fun W hWc hWf ty dc sc =>
  in_copy W _ _ ty 93 3 w.heap.size ((i + 1) * 3) (n - i) dc ⟨b, i * 3, none⟩ (n - i) sc (n - i) (cs.drop (i * 3)) Try.underlying24 hsz (by simp only [Nat.min_def]; split <;> omega) hdl
   (fun j v hj => by
    rw [Addr.add_lit, hWc, World.cell?_setCells_out _ _ _ _ _ (fun h _ => absurd h hbN)]
    exact hOb _ v (hcs (i * 3 + j) v (by rwa [List.getElem?_drop] at hj)))
   (fun j hj => by rw [hWc]; exact isSome_setCells _ _ _ W1 (fun t ht => hN (i * 3 + t) (by rw [hvl] at ht; omega)) _ (hN ((i + 1) * 3 + j) (by rw [hdl] at hj; omega)))
   (fun j hj => by rw [hWf, World.frozen?_setCells]; exact hNf _) (fun v hv => h1c v (List.mem_of_mem_drop hv))
 subst hW1
 have hE1 : ∀ x, ((w.alloc (.cells ROW 93)).drew).cell? x = (w.drew.alloc (.cells ROW 93)).cell? x := fun x => rfl
 have hE2 : ∀ x, ((w.alloc (.cells ROW 93)).drew).frozen? x = (w.drew.alloc (.cells ROW 93)).frozen? x := fun x => rfl
 have hF1 : ∀ x, (((w.alloc (.cells ROW 93)).drew.setCells w.heap.size (i * 3) vs).drew).cell? x = ((w.drew.alloc (.cells ROW 93)).setCells w.heap.size (i * 3) vs).cell? x := fun x => rfl
 have hF2 : ∀ x, (((w.alloc (.cells ROW 93)).drew.setCells w.heap.size (i * 3) vs).drew).frozen? x = ((w.drew.alloc (.cells ROW 93)).setCells w.heap.size (i * 3) vs).frozen? x := fun x => rfl
 have hw1 : IntKind.i64.wrap ((i : Int) + 1) = (i : Int) + 1 := by rw [IntKind.wrap_i64]; omega
 have hw2 : IntKind.i64.wrap ((n : Int) + 1) = (n : Int) + 1 := by rw [IntKind.wrap_i64]; omega
 have hw3 : IntKind.i64.wrap ((n : Int) + 1 - (i : Int)) = (n : Int) + 1 - (i : Int) := by rw [IntKind.wrap_i64]; omega
 have hb1 : (0 : Int) ≤ (i : Int) + 1 := by omega
 have hin : i ≤ n := by omega
 have htn : ((i : Int) + 1).toNat = i + 1 := by omega
 have hb3 : (i : Int) ≤ (n : Int) := by omega
 clear hkk hik hold hROW hG hRl
 go_enter Try.func126, Try.ntmps126
 go_wp2_with (first | (at_builtin; refine Lib.wpList_append_run _ rfl _ _ _ _ rfl _ _ rfl rfl _ _ (hrz _) ?_) | (at_builtin; refine wpList_copy_runI _ rfl _ _ 24 24 rfl _ _ rfl rfl (hcpA _ hE1 hE2 _ _) ?_))
 go_region_law_o (refine step_copy_runI rfl _ _ 24 24 rfl (.slice (some ⟨w.heap.size, (i + 1) * 3, none⟩) (n - i) (G - (i + 1))) (.slice (some ⟨b, i * 3, none⟩) (n - i) (c - i)) (by simp [Act.eval, Act.put]) (by simp [Act.eval, Act.put]) (hcpB _ hF1 hF2 3 (G - (i + 1)) (c - i)) ?_)
 go_wp2
 go_ret
 exact ⟨rfl, hGn, rfl⟩
set_option maxHeartbeats 4000000 in
set_option maxRecDepth 100000 in
theorem ins.tail_some (P0_ : Nat → Prop) (g c : Nat) (l0 : List S93) (A2 : Option Addr) (c2 : Nat) (l2 : List S93) (w0 w : World) (hB : Below w0.heap.size w0 w) (ho : Kd.R k93 93 w w0.heap.size P0_ (.slice (some ⟨g, 0, none⟩) l0.length c) l0) (hc : l0.length ≤ c) (hC2 : Kd.C k93 w A2 l2.length l2) (hc2 : l2.length ≤ c2) (hl : l0.length ≤ 1048576) (hl2 : l2.length = 1) (hc63 : c ≤ 9223372036854775807) :
  Calls Try.prog 126 #[.slice (some ⟨g, 0, none⟩) l0.length c, .int .i64 (l0.length : Int), .slice A2 l2.length c2] w fun e w' => ∃ v0_ : Value, e = .returned v0_ ∧ Kd.R k93 93 w' w0.heap.size (fun k_ => P0_ k_ ∨ w.heap.size ≤ k_) v0_ (l0 ++ l2) ∧ Below w0.heap.size w0 w' ∧ Kept w w' P0_ := by
 have hu93 := Try.underlying93
 have HO := Aside0.mk (Kd.R_mono (ok' := fun k_ => P0_ k_ ∨ w.heap.size ≤ k_) ho (fun k_ h_ => .inl h_))
 have HP := Aside0.mk ho.1
 have HB := Aside0.mk hB
 have HC := Aside0.mk hC2
 have HS := Aside0.mk hB.size
 clear hB ho hC2
 have e2 : ((l2.length : Int)) = 1 := by omega
 have hz : ¬ ((l2.length : Int) = 0) := by omega
 have q2 : (l0.length : Int) ≤ (c : Int) := by omega
 by_cases hcn : c = l0.length
 all_goals
  go_enter Try.func126, Try.ntmps126
  go_wp2_with ((with_reducible refine gate_dst (N := 25) rfl ?_); refine Kd.R_append_rows k93 (w0 := w0) w0.heap.size rfl (.tmp 23) (.tmp 24) 24 93 (.agg #[(.string ⟨#[]⟩), (.int .i64 0), (.int .i64 0)]) 32 rfl Try.underlying24 info93 rfl (by decide) (by omega) (.slice (some ⟨g, 0, none⟩) l0.length c) l0 l2 _ _ _ (fun k_ => P0_ k_ ∨ w.heap.size ≤ k_) (fun _ => False) rfl rfl ?aO ?aR (fun _ _ h => h) (fun _ h => h.elim) ?aF ?aB ?aS ?aL ?_; (case aR => exact HC.out); (case aB => exact HB.out); (case aF => exact (fun k_ h_ => .inr h_)); (case aO => exact HO.out); (case aS => exact HS.out); (case aL => omega); intro v1 w1 ho hb hg hat; have H1 := Aside0.mk ho; have H2 := Aside0.mk hb; have H3 := Aside0.mk (Kept.of_grown hg (Kept.refl w P0_) (fun k hk => .inl (HP.out k hk))); clear ho hb hg hat)
  go_ret
  exact ⟨_, rfl, H1.out, H2.out, H3.out⟩
set_option maxHeartbeats 4000000 in
set_option maxRecDepth 100000 in
theorem ins.tail_none (P0_ : Nat → Prop) (A2 : Option Addr) (c2 : Nat) (l2 : List S93) (w0 w : World) (hB : Below w0.heap.size w0 w) (ho : Kd.R k93 93 w w0.heap.size P0_ (.slice none 0 0) ([] : List S93)) (hC2 : Kd.C k93 w A2 l2.length l2) (hc2 : l2.length ≤ c2) (hl2 : l2.length = 1) :
  Calls Try.prog 126 #[.slice none 0 0, .int .i64 0, .slice A2 l2.length c2] w fun e w' => ∃ v0_ : Value, e = .returned v0_ ∧ Kd.R k93 93 w' w0.heap.size (fun k_ => P0_ k_ ∨ w.heap.size ≤ k_) v0_ l2 ∧ Below w0.heap.size w0 w' ∧ Kept w w' P0_ := by
 have hu93 := Try.underlying93
 have HO := Aside0.mk (Kd.R_mono (ok' := fun k_ => P0_ k_ ∨ w.heap.size ≤ k_) ho (fun k_ h_ => .inl h_))
 have HP := Aside0.mk ho.1
 have HB := Aside0.mk hB
 have HC := Aside0.mk hC2
 have HS := Aside0.mk hB.size
 clear hB ho hC2
 have e2 : ((l2.length : Int)) = 1 := by omega
 have hz : ¬ ((l2.length : Int) = 0) := by omega
 go_enter Try.func126, Try.ntmps126
 go_wp2_with ((with_reducible refine gate_dst (N := 25) rfl ?_); refine Kd.R_append_rows k93 (w0 := w0) w0.heap.size rfl (.tmp 23) (.tmp 24) 24 93 (.agg #[(.string ⟨#[]⟩), (.int .i64 0), (.int .i64 0)]) 32 rfl Try.underlying24 info93 rfl (by decide) (by omega) (.slice none 0 0) ([] : List S93) l2 _ _ _ (fun k_ => P0_ k_ ∨ w.heap.size ≤ k_) (fun _ => False) rfl rfl ?aO ?aR (fun _ _ h => h) (fun _ h => h.elim) ?aF ?aB ?aS ?aL ?_; (case aR => exact HC.out); (case aB => exact HB.out); (case aF => exact (fun k_ h_ => .inr h_)); (case aO => exact HO.out); (case aS => exact HS.out); (case aL => simp only [List.length_nil]; omega); intro v1 w1 ho hb hg hat; have H1 := Aside0.mk ho; have H2 := Aside0.mk hb; have H3 := Aside0.mk (Kept.of_grown hg (Kept.refl w P0_) (fun k hk => .inl (HP.out k hk))); clear ho hb hg hat)
 go_ret
 exact ⟨_, rfl, H1.out, H2.out, H3.out⟩
theorem ins_take (a v b r : List Value) (n : Nat) (h : n = a.length + v.length + b.length) : (a ++ v ++ (b ++ r)).take n = a ++ v ++ b := by
 rw [← List.append_assoc, List.take_append_of_le_length (by simp; omega), List.take_of_length_le (by simp; omega)]
theorem ins_reps {w W : World} {base base' : Nat} {ok ok' : Nat → Prop} {l0 : List S93} {inner : List Value} (x : S93) (i : Nat) (hi : i ≤ l0.length) (hr : Reps (Kd.M k93 w base ok) 3 l0 inner) :
  Reps (Kd.M k93 W base' ok') 3 (l0.take i ++ [x] ++ l0.drop i) (inner.take (i * 3) ++ [.string x.f0, .int .i64 x.f1, .int .i64 x.f2] ++ inner.drop (i * 3)) := by
 have hr' : Reps (Kd.M k93 W base' ok') 3 l0 inner := Reps.imp_ hr (fun p c h => by obtain rfl := k93_openM h; exact k93_mkM _ _ _ p)
 exact Kd.reps_append (Kd.reps_append (Kd.reps_take hr' hi) (Reps.c3 (k93_mkM _ _ _ x) (Reps.none _ _))) (Kd.reps_drop hr')
theorem ins_shift_R {w : World} {base g c i : Nat} {ok : Nat → Prop} {l0 : List S93} (x : S93) (h : Kd.R k93 93 w base ok (.slice (some ⟨g, 0, none⟩) l0.length c) l0) (hi : i < l0.length) (hroom : l0.length + 1 ≤ c) :
  ∃ (inner : List Value) (cur : Array Value), inner.length = l0.length * 3 ∧ w.heap[g]? = some (.cells cur 93 (0, 0)) ∧ cur.size = c * 3 ∧ cur.toList.take (l0.length * 3) = inner ∧ c ≤ maxLen ∧ (∀ v ∈ inner, v.oneCell' = true) ∧
   Kd.R k93 93 ((w.drew.setCells g ((i + 1) * 3) (inner.drop (i * 3))).setCells g (i * 3) [.string x.f0, .int .i64 x.f1, .int .i64 x.f2]) base ok (.slice (some ⟨g, 0, none⟩) (l0.length + 1) c) (l0.take i ++ [x] ++ l0.drop i) := by
 obtain ⟨hok, inner, ⟨hlen, hcase⟩, hr⟩ := h
 rcases hcase with ⟨hv, _⟩ | ⟨g', cap', cur, hv, hb, hh, hnc, hcm, hsz, ht⟩
 ·cases hv
 injection hv with ha _ hc
 injection ha with ha
 injection ha with ha
 subst ha hc
 replace hlen : inner.length = l0.length * 3 := hlen
 replace hsz : cur.size = c * 3 := hsz
 replace ht : cur.toList.take (l0.length * 3) = inner := ht
 have hdl : (inner.drop (i * 3)).length = (l0.length - i) * 3 := by rw [List.length_drop, hlen]; omega
 obtain ⟨cur1, h1, s1, t1⟩ := setCells_row (inner.drop (i * 3)) ((i + 1) * 3) w.drew cur hh (by omega)
 obtain ⟨cur2, h2, s2, t2⟩ := setCells_row [.string x.f0, .int .i64 x.f1, .int .i64 x.f2] (i * 3) _ cur1 h1 (by simp only [List.length_cons, List.length_nil]; omega)
 have hcl : cur.toList.length = c * 3 := by rw [Array.length_toList, hsz]
 refine ⟨inner, cur, hlen, hh, hsz, ht, hcm, Kd.reps_one hr (by decide) (fun p q hq u hu => by obtain rfl := k93_openM hq; simp at hu; rcases hu with rfl | rfl | rfl <;> rfl), fun k hk => hok k hk, inner.take (i * 3) ++ [.string x.f0, .int .i64 x.f1, .int .i64 x.f2] ++ inner.drop (i * 3), ⟨?_, .inr ⟨g, c, cur2, ?_, hb, h2, ?_, hcm, ?_, ?_⟩⟩, ins_reps x i (by omega) hr⟩
 ·show _ = (l0.take i ++ [x] ++ l0.drop i).length * 3
  simp only [List.length_append, List.length_take, List.length_drop, List.length_cons, List.length_nil, hlen]
  omega
 ·simp only [List.length_append, List.length_take, List.length_drop, List.length_cons, List.length_nil]
  congr 1
  omega
 ·simp only [List.length_append, List.length_take, List.length_drop, List.length_cons, List.length_nil]
  omega
 ·rw [s2, s1]; exact hsz
 ·have e1 : cur1.toList.take (i * 3) = inner.take (i * 3) := by
   rw [t1, List.append_assoc, List.take_append_of_le_length (by rw [List.length_take]; omega), List.take_take, Nat.min_eq_left (by omega), ← ht, List.take_take, Nat.min_eq_left (by omega)]
  have e2 : cur1.toList.drop (i * 3 + 3) = inner.drop (i * 3) ++ cur.toList.drop ((i + 1) * 3 + (inner.drop (i * 3)).length) := by
   have hl : (cur.toList.take ((i + 1) * 3)).length = i * 3 + 3 := by rw [List.length_take]; omega
   rw [t1, List.append_assoc, ← hl, List.drop_left]
  rw [t2, e1]
  simp only [List.length_cons, List.length_nil, Nat.zero_add]
  rw [e2]
  refine ins_take _ _ _ _ _ ?_
  show (l0.take i ++ [x] ++ l0.drop i).length * 3 = _
  simp only [List.length_append, List.length_take, List.length_drop, List.length_cons, List.length_nil, hlen]
  omega
theorem ins_grow_R {w W0 : World} {base b0 G i : Nat} {ok ok' : Nat → Prop} {l0 : List S93} {inner : List Value} (x : S93) (hr : Reps (Kd.M k93 W0 b0 ok) 3 l0 inner) (hi : i < l0.length) (hG : l0.length + 1 ≤ G) (hG2 : G ≤ maxLen) (hb : base ≤ w.heap.size) (hok : ok' w.heap.size) (ROW : Array Value) (hsz : ROW.size = G * 3) (hrt : ROW.toList.take (i * 3) = inner.take (i * 3)) :
  Kd.R k93 93 ((((w.alloc (.cells ROW 93)).drew.setCells w.heap.size (i * 3) [.string x.f0, .int .i64 x.f1, .int .i64 x.f2]).drew).setCells w.heap.size ((i + 1) * 3) (inner.drop (i * 3))) base ok' (.slice (some ⟨w.heap.size, 0, none⟩) (l0.length + 1) G) (l0.take i ++ [x] ++ l0.drop i) := by
 have hlen : inner.length = l0.length * 3 := hr.1
 have hdl : (inner.drop (i * 3)).length = (l0.length - i) * 3 := by rw [List.length_drop, hlen]; omega
 have hh : ((w.alloc (.cells ROW 93)).drew).heap[w.heap.size]? = some (.cells ROW 93 (0, 0)) := heap_alloc_new w _
 obtain ⟨cur1, h1, s1, t1⟩ := setCells_row [.string x.f0, .int .i64 x.f1, .int .i64 x.f2] (i * 3) _ ROW hh (by simp only [List.length_cons, List.length_nil]; omega)
 obtain ⟨cur2, h2, s2, t2⟩ := setCells_row (inner.drop (i * 3)) ((i + 1) * 3) _ cur1 (show ((((w.alloc (.cells ROW 93)).drew.setCells w.heap.size (i * 3) [.string x.f0, .int .i64 x.f1, .int .i64 x.f2]).drew).heap[w.heap.size]? = _) from h1) (by omega)
 have hcl : ROW.toList.length = G * 3 := by rw [Array.length_toList, hsz]
 refine ⟨fun k hk => by cases hk; exact hok, inner.take (i * 3) ++ [.string x.f0, .int .i64 x.f1, .int .i64 x.f2] ++ inner.drop (i * 3), ⟨?_, .inr ⟨w.heap.size, G, cur2, ?_, hb, h2, ?_, hG2, ?_, ?_⟩⟩, ins_reps x i (by omega) hr⟩
 ·show _ = (l0.take i ++ [x] ++ l0.drop i).length * 3
  simp only [List.length_append, List.length_take, List.length_drop, List.length_cons, List.length_nil, hlen]
  omega
 ·simp only [List.length_append, List.length_take, List.length_drop, List.length_cons, List.length_nil]
  congr 1
  omega
 ·simp only [List.length_append, List.length_take, List.length_drop, List.length_cons, List.length_nil]
  omega
 ·rw [s2, s1]; exact hsz
 ·have e1 : cur1.toList.take ((i + 1) * 3) = inner.take (i * 3) ++ [.string x.f0, .int .i64 x.f1, .int .i64 x.f2] := by
   have hl : (inner.take (i * 3) ++ [Value.string x.f0, .int .i64 x.f1, .int .i64 x.f2]).length = (i + 1) * 3 := by
    simp only [List.length_append, List.length_take, List.length_cons, List.length_nil, hlen]; omega
   rw [t1, hrt, ← hl, List.take_left]
  rw [t2, e1]
  have e3 := ins_take (inner.take (i * 3)) [.string x.f0, .int .i64 x.f1, .int .i64 x.f2] (inner.drop (i * 3)) (cur1.toList.drop ((i + 1) * 3 + (inner.drop (i * 3)).length)) ((l0.take i ++ [x] ++ l0.drop i).length * 3) (by
   simp only [List.length_append, List.length_take, List.length_drop, List.length_cons, List.length_nil, hlen]
   omega)
  rw [← List.append_assoc] at e3
  exact e3
theorem ins_below {w0 X : World} {g o : Nat} {vs : List Value} (h : Below w0.heap.size w0 X) (hg : w0.heap.size ≤ g) : Below w0.heap.size w0 (X.setCells g o vs) :=
 ⟨(setCells_same g vs o X).1.trans h.os, (setCells_same g vs o X).2.1.trans h.tape, (setCells_same g vs o X).2.2.1.trans h.output, by rw [(setCells_same g vs o X).2.2.2]; exact h.size, fun k hk => (setCells_far vs o k (by omega)).trans (h.block k hk)⟩
theorem ins_kept {w X : World} {S : Nat → Prop} {g o : Nat} {vs : List Value} (h : Kept w X S) (hg : g < w.heap.size → S g) : Kept w (X.setCells g o vs) S :=
 ⟨by rw [(setCells_same g vs o X).2.2.2]; exact h.1, fun k hk hn => (setCells_far vs o k (fun e => hn (by rw [e]; exact hg (by rw [← e]; exact hk)))).trans (h.2 k hk hn)⟩
theorem ins_drew {w X : World} {S : Nat → Prop} (h : Kept w X S) : Kept w X.drew S := h
def impl_Hold_126.f (l0 : List S93) (a1 : Int) (l2 : List S93) : Option (List S93) := if 0 ≤ a1 ∧ a1 ≤ (l0.length : Int) ∧ l2.length = 1 ∧ l0.length ≤ 1048576 then some (l0.take a1.toNat ++ l2 ++ l0.drop a1.toNat) else none
set_option maxRecDepth 100000 in
theorem impl_Hold_126.calls (P0_ : Nat → Prop) (u : Value) (l0 : List S93) (a1 : Int) (A2 : Option Addr) (c2 : Nat) (l2 r : List S93) (w0 w : World) (hB : Below w0.heap.size w0 w) (ho : Kd.R k93 93 w w0.heap.size P0_ u l0)
  (hr2 : ∃ b2 ok2, Kd.R k93 93 w b2 ok2 (.slice A2 l2.length c2) l2 ∧ ∀ k, ok2 k → ¬ P0_ k) (hc2 : l2.length ≤ c2) (h : impl_Hold_126.f l0 a1 l2 = some r) :
  Calls Try.prog 126 #[u, .int .i64 a1, .slice A2 l2.length c2] w fun e w' => ∃ v0_ : Value, e = .returned v0_ ∧ Kd.R k93 93 w' w0.heap.size (fun k_ => P0_ k_ ∨ w.heap.size ≤ k_) v0_ r ∧ Below w0.heap.size w0 w' ∧ Kept w w' P0_ := by
 unfold impl_Hold_126.f at h
 split at h
 case isFalse => cases h
 case isTrue hh =>
 obtain ⟨h0, h1, h2, h3⟩ := hh
 injection h with h
 subst h
 obtain ⟨b2, ok2, hR2, hne⟩ := hr2
 have hC2 := (Kd.R_reads' hR2).2.2
 obtain ⟨i, rfl⟩ : ∃ i : Nat, a1 = (i : Int) := ⟨a1.toNat, by omega⟩
 rw [Int.toNat_natCast]
 have ho' := ho
 obtain ⟨hok, inner, ⟨hlen, hcase⟩, hr⟩ := ho'
 rcases hcase with ⟨rfl, hn0⟩ | ⟨g, c, cur, rfl, hbg, hhg, hnc, hcm, hsz, ht⟩
 ·obtain rfl : l0 = [] := List.eq_nil_of_length_eq_zero hn0
  obtain rfl : i = 0 := by simpa using h1
  have e := ins.tail_none P0_ A2 c2 l2 w0 w hB ho hC2 hc2 h2
  simpa using e
 have hc63 : c ≤ 9223372036854775807 := hcm
 by_cases hin : i = l0.length
 ·subst hin
  have e := ins.tail_some P0_ g c l0 A2 c2 l2 w0 w hB ho hnc hC2 hc2 h3 h2 hc63
  rw [List.take_length, List.drop_length, List.append_nil]
  exact e
 have hi : i < l0.length := by omega
 obtain ⟨x, rfl⟩ := List.length_eq_one_iff.1 h2
 obtain ⟨hok2, in2, ⟨hlen2, hcase2⟩, hrr⟩ := hR2
 rcases hcase2 with ⟨_, hz⟩ | ⟨vb, vc, cur2, hv, hb2, hh2, hnc2, hcm2, hsz2, ht2⟩
 ·simp at hz
 injection hv with ha _ hc'
 subst ha hc'
 have hin2 : in2 = [.string x.f0, .int .i64 x.f1, .int .i64 x.f2] := by
  have e := hrr.2 0 x rfl
  have e2 : ((in2.drop (0 * k93.sz)).take k93.sz) = in2 := by rw [Nat.zero_mul, List.drop_zero]; exact List.take_of_length_le (by rw [hlen2]; show 1 * k93.sz ≤ k93.sz; omega)
  rw [e2] at e
  exact k93_openM e
 subst hin2
 have cellOf : ∀ (b : Nat) (cu : Array Value) (j : Nat), w.heap[b]? = some (.cells cu 93 (0, 0)) → w.cell? ⟨b, j, none⟩ = cu.toList[j]? := fun b cu j hb => by simp [World.cell?, hb]
 have hvs : ∀ j v, [Value.string x.f0, .int .i64 x.f1, .int .i64 x.f2][j]? = some v → w.cell? ⟨vb, 0 + j, none⟩ = some v := fun j v hj => by
  rw [Nat.zero_add, cellOf vb cur2 j hh2]
  rw [← ht2, List.getElem?_take] at hj
  split at hj
  ·exact hj
  ·cases hj
 have hcs : ∀ j v, inner[j]? = some v → w.cell? ⟨g, j, none⟩ = some v := fun j v hj => by
  rw [cellOf g cur j hhg]
  rw [← ht, List.getElem?_take] at hj
  split at hj
  ·exact hj
  ·cases hj
 have hvb : vb ≠ g := fun e => hne vb (hok2 vb rfl) (e ▸ hok g rfl)
 have hlen' : inner.length = l0.length * 3 := hlen
 have hsz' : cur.size = c * 3 := hsz
 have h1i : ∀ v ∈ inner, v.oneCell' = true := Kd.reps_one hr (by decide) (fun p q hq u hu => by obtain rfl := k93_openM hq; simp at hu; rcases hu with rfl | rfl | rfl <;> rfl)
 have h1v : ∀ v ∈ [Value.string x.f0, .int .i64 x.f1, .int .i64 x.f2], v.oneCell' = true := fun v hv => by simp at hv; rcases hv with rfl | rfl | rfl <;> rfl
 by_cases hroom : l0.length + 1 ≤ c
 ·obtain ⟨inner', cur', e1, e2, e3, e4, _, _, hR'⟩ := ins_shift_R x ho hi hroom
  obtain rfl : cur' = cur := by rw [hhg] at e2; injection e2 with e2; injection e2 with e2; exact e2.symm
  obtain rfl : inner' = inner := e4.symm.trans ht
  have s := ins.shift g l0.length c i vb 0 c2 inner' _ w hi hroom h3 hvb e1 rfl hcs
   (fun j hj => by rw [cellOf g cur' j hhg, List.getElem?_eq_getElem (by rw [Array.length_toList, hsz']; omega)]; rfl) (fun j _ => blk_frozen hhg j)
   hvs h1i h1v 93 93 cur2.size cur'.size (by simp [World.shape?, hh2]) (by simp [World.shape?, hhg]) (by omega) (blk_frozen hh2 0) (blk_frozen hh2 _)
  refine s.mono ?_
  rintro e w' ⟨rfl, rfl⟩
  exact ⟨_, rfl, Kd.R_mono hR' (fun k hk => .inl hk), ins_below (ins_below (below_drew1 hB) hbg) hbg, ins_kept (ins_kept (ins_drew (Kept.refl w P0_)) (fun _ => hok g rfl)) (fun _ => hok g rfl)⟩
 ·have s := ins.grow g l0.length c i vb 0 c2 inner _ w hi hnc (by omega) h3 hlen' rfl hcs hvs h1i h1v
  refine s.mono ?_
  rintro e w' ⟨rfl, hG, rfl⟩
  refine ⟨_, rfl, ?_, ins_below (below_drew1 (ins_below (below_drew1 (below_alloc hB _)) hB.size)) hB.size, ins_kept (ins_drew (ins_kept (ins_drew (Kept.of_below (below_alloc (Below.refl _ _) _) _)) (fun h_ => absurd h_ (Nat.lt_irrefl _)))) (fun h_ => absurd h_ (Nat.lt_irrefl _))⟩
  refine ins_grow_R x hr hi hG (grownCap_le_maxLen w _ c 93 (by unfold maxLen; omega)) hB.size (.inr (Nat.le_refl _)) _ ?_ ?_
  ·simp [inZ, Builtin.zeroCells, Value.cells]
   omega
  ·simp [inZ]
   rw [List.take_append_of_le_length (by simp; omega), List.take_take]
   simp
end Go.Proofs.Ytepjnalkpfnmcaa.QFnExactHoldPut
