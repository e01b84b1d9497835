-- by my own printer (myprint.py, over the kit's print.py)
import Derived.Test.YtepjnalkpfnmcaaQFnExactInOrderx0
namespace Go.Proofs.Ytepjnalkpfnmcaa.QFnExactInOrder
open Go.RowKit Go.Proofs.YtepjnalkpfnmcaaW.PrintWords Go.Proofs.YtepjnalkpfnmcaaW.PrintLast Go.Proofs.YtepjnalkpfnmcaaW.PrintMore
attribute [local go_sem] max2_int min2_int max_two min_two max_three min_three max_four min_four   -- for this text's walks alone
set_option linter.unusedVariables false
set_option linter.unusedSimpArgs false
attribute [local go_sem] my_geq my_leq my_gtr
-- NOT PRINTED: function 175 (impl_OrderOf_1)
/-! ### impl_OrderOf: function 133 -/
theorem so_row {e base g n cap : Nat} {ok : Nat → Prop} : ∀ (zs : List Int) (i : Nat) (xs : List Int) (W : World), i + zs.length = n → 
  Kd.R (Kd.int .i64) e W base ok (.slice (some ⟨g, 0, none⟩) n cap) xs → Kd.R (Kd.int .i64) e (W.setCells g i (zs.map (Value.int .i64))) base ok (.slice (some ⟨g, 0, none⟩) n cap) (xs.take i ++ zs) ∧ W.grownBy (W.setCells g i (zs.map (Value.int .i64))) (some g)
 | [], i, xs, W, hi, h => by
  have hn := (Kd.R_reads' h).1
  simp only [List.length_nil] at hi
  rw [List.take_of_length_le (by omega), List.append_nil]
  exact ⟨h, World.grownBy.refl W _⟩
 | z :: zs, i, xs, W, hi, h => by
  have hn := (Kd.R_reads' h).1
  simp only [List.length_cons] at hi
  subst hn
  obtain ⟨h1, g1⟩ := Kd.R_put (enc := Value.int .i64) (h1 := fun _ => rfl) h (i : Int) z
  rw [Int.toNat_natCast] at h1 g1
  obtain ⟨h2, g2⟩ := so_row zs (i + 1) (xs.set i z) _ (by omega) h1
  rw [List.take_succ_eq_append_getElem (by rw [List.length_set]; omega), List.take_set_of_le (Nat.le_refl _), List.getElem_set_self, List.append_assoc, List.singleton_append] at h2
  exact ⟨h2, g1.trans g2⟩
theorem so_holds {W : World} {e base g cap : Nat} {ok : Nat → Prop} {xs : List Int} (h : Kd.R (Kd.int .i64) e W base ok (.slice (some ⟨g, 0, none⟩) xs.length cap) xs) : Sort.Holds (Value.int .i64) W g 0 xs.toArray := by
 intro j hj
 have hj' : j < xs.length := by simpa using hj
 obtain ⟨h1, h2⟩ := Kd.R_cell (enc := Value.int .i64) (h1 := fun _ => rfl) (0 : Int) h (j : Int) (by omega) (by omega)
 rw [Int.toNat_natCast] at h1 h2
 rw [Nat.zero_add]
 refine ⟨h1.trans ?_, h2⟩
 congr 2
 unfold rdOf
 rw [Int.toNat_natCast, List.getD_eq_getElem?_getD, List.getElem?_eq_getElem hj', getElem!_pos xs.toArray j hj]
 simp
theorem so_grow {B : Nat} {w0 W : World} (os : Array Obj) (h : Below B w0 W) (hB : B ≤ W.heap.size) : Below B w0 (Sort.grow W os) :=
 h.trans ⟨rfl, rfl, rfl, by simp [Sort.grow], fun k hk => Sort.heap_grow_old W os (Nat.lt_of_lt_of_le hk hB)⟩
def impl_OrderOf.cl (n : Nat) (x : Int) : Int := if 0 ≤ x ∧ x < (n : Int) then x else 0
/-- By what the tasks are put in order. -/
def impl_OrderOf.key (ts : List S126) (x : Int) : Int := (rd_T126 ts (impl_OrderOf.cl ts.length x)).f5
def impl_OrderOf.cmp (u v : Int) : Int := if u < v then -1 else if u > v then 1 else 0
def impl_OrderOf.cf (ts : List S126) (x y : Int) : Int := impl_OrderOf.cmp (impl_OrderOf.key ts x) (impl_OrderOf.key ts y)
theorem impl_OrderOf.cf_lt (ts : List S126) (x y : Int) : impl_OrderOf.cf ts x y < 0 ↔ impl_OrderOf.key ts x < impl_OrderOf.key ts y := by
 unfold impl_OrderOf.cf impl_OrderOf.cmp
 split
 ·omega
 ·split <;> omega
set_option maxHeartbeats 4000000 in
set_option maxRecDepth 100000 in
theorem impl_OrderOf.clo (ts : List S126) (A0 : Option Addr) (n0 c0 : Nat) (a1 a2 : Int) (A3 : Option Addr) (c3 : Nat) (bx : Nat) (x y : Int) (W : World) (hx0 : 0 ≤ x) (hx1 : x < (ts.length : Int)) (hy0 : 0 ≤ y) (hy1 : y < (ts.length : Int)) (hC : Kd.C k126 W A3 ts.length ts) (hb : W.heap[bx]? = some (.cells #[.slice A0 n0 c0, .int .i64 a1, .int .i64 a2, .slice A3 ts.length c3] 56 (0, 0))) :
  Calls Try.prog 175 #[.int .i64 x, .int .i64 y, .pointer (some ⟨bx, 0, none⟩)] W fun e w' => e = .returned (.int .i64 (impl_OrderOf.cmp (rd_T126 ts x).f5 (rd_T126 ts y).f5)) ∧ ∃ q, w' = W.drewN q := by
 have hu56 := Try.underlying56
 have hu54 := Try.underlying54
 have hu126 := Try.underlying126
 have mixed : Try.prog.follows .mixedOrders = true := by kernel_rfl
 have hc0 := blk_cell hb 0
 have hc1 := blk_cell hb 1
 have hc2 := blk_cell hb 2
 have hc3 := blk_cell hb 3
 replace hc3 := hc3.trans (show _ = some (Value.slice A3 ts.length c3) from rfl)
 clear hc0 hc1 hc2
 obtain ⟨ad, Ax0, cx0, Ax2, cx2, Ax8, cx8, e1, gx0, gx1, gx2, gx3, gx4, gx5, gx6, gx7, gx8, mx0, rx0, mx2, rx2, mx8, rx8⟩ := at_T126 hC x hx0 hx1
 obtain ⟨ad2, Ay0, cy0, Ay2, cy2, Ay8, cy8, e2, gy0, gy1, gy2, gy3, gy4, gy5, gy6, gy7, gy8, my0, ry0, my2, ry2, my8, ry8⟩ := at_T126 hC y hy0 hy1
 cases e1
 cases e2
 have p0 := eq_true hx0
 have p1 := eq_true hx1
 have p2 := eq_true hy0
 have p3 := eq_true hy1
 clear hb hC gx0 gx1 gx2 gx3 gx4 gx6 gx7 gx8 gy0 gy1 gy2 gy3 gy4 gy6 gy7 gy8 mx0 rx0 mx2 rx2 mx8 rx8 my0 ry0 my2 ry2 my8 ry8
 unfold impl_OrderOf.cmp
 obtain ⟨u, hu⟩ : ∃ u, u = (rd_T126 ts x).f5 := ⟨_, rfl⟩
 obtain ⟨v, hv⟩ : ∃ v, v = (rd_T126 ts y).f5 := ⟨_, rfl⟩
 rw [← hu] at gx5
 rw [← hv] at gy5
 rw [← hu, ← hv]
 clear hu hv
 by_cases c1 : u < v
 ·have d1 : decide (u < v) = true := decide_eq_true c1
  rw [if_pos c1]
  clear c1
  go_enter Try.func175, Try.ntmps175
  go_wp2_with fail
  go_big_region_o
  all_goals go_wp2
  go_ret
  exact ⟨rfl, 1, rfl⟩
 ·have d1 : decide (u < v) = false := decide_eq_false c1
  rw [if_neg c1]
  by_cases c2 : u > v
  ·have d2 : decide (v < u) = true := decide_eq_true c2
   have d3 : decide (u > v) = true := decide_eq_true c2
   rw [if_pos c2]
   clear c1 c2
   go_enter Try.func175, Try.ntmps175
   go_wp2_with fail
   go_big_region_o
   all_goals go_wp2
   go_ret
   exact ⟨rfl, 1, rfl⟩
  ·have d2 : decide (v < u) = false := decide_eq_false c2
   have d3 : decide (u > v) = false := decide_eq_false c2
   rw [if_neg c2]
   clear c1 c2
   go_enter Try.func175, Try.ntmps175
   go_wp2_with fail
   go_big_region_o
   all_goals go_wp2
   go_ret
   exact ⟨rfl, 1, rfl⟩
theorem impl_OrderOf.blk {enc : Int → Value} {w : World} {g n m : Nat} {dk : Array Int} {os : Array Obj} (k : Nat) (hk : k ≠ g) (hlt : k < w.heap.size) : (Go.Proofs.sortWorld enc w g n m dk os).heap[k]? = w.heap[k]? := by
 unfold Go.Proofs.sortWorld
 rw [Sort.heap_grow_old _ os (by rw [Go.Proofs.size_putRow]; exact hlt)]
 simp [Sort.putRow, Sort.mapBlock, Array.getElem?_modify, Ne.symm hk, Sort.ahead]
theorem impl_OrderOf.bel {enc : Int → Value} {w0 w : World} {g n m : Nat} {dk : Array Int} {os : Array Obj} (hB : Below w0.heap.size w0 w) (hg : w0.heap.size ≤ g) : Below w0.heap.size w0 (Go.Proofs.sortWorld enc w g n m dk os) :=
 ⟨hB.os, hB.tape, hB.output, Nat.le_trans hB.size (by unfold Go.Proofs.sortWorld; rw [Sort.size_grow, Go.Proofs.size_putRow]; exact Nat.le_add_right _ _), fun k hk => (impl_OrderOf.blk k (by omega) (Nat.lt_of_lt_of_le hk hB.size)).trans (hB.block k hk)⟩
set_option maxHeartbeats 4000000 in
set_option maxRecDepth 100000 in
theorem impl_OrderOf.sort (ts : List S126) (l : List Int) (u : Value) (A0 : Option Addr) (n0 c0 : Nat) (a1 a2 : Int) (A3 : Option Addr) (c3 : Nat) (bx : Nat) (w0 w : World) (hB : Below w0.heap.size w0 w) (ho : Kd.R (Kd.int .i64) 3 w w0.heap.size (fun _ => True) u l) (hr3 : Kd.C k126 w0 A3 ts.length ts) (hbx : w.heap[bx]? = some (.cells #[.slice A0 n0 c0, .int .i64 a1, .int .i64 a2, .slice A3 ts.length c3] 56 (0, 0))) (hv : ∀ x ∈ l, 0 ≤ x ∧ x < (ts.length : Int)) (hi : l.Pairwise (· < ·)) (hl : l.length < 1152921504606846976) :
  Calls Try.prog 174 #[u, .func (.func 175) #[] #[.pointer (some ⟨bx, 0, none⟩)]] w fun e w' => e = .returned (.tuple #[]) ∧ Kd.R (Kd.int .i64) 3 w' w0.heap.size (fun _ => True) u (Go.Proofs.Ytepjnalkpfnmcaa.StableSort.insAll (impl_OrderOf.key ts) [] l) ∧ Below w0.heap.size w0 w' := by
 by_cases hp : 0 < l.length
 ·obtain ⟨g, cap, rfl, hb, hlt, cells, hcells⟩ := Kd.R_form ho hp
  have hN : 0 < (ts.length : Int) := by
   have := hv l[0] (List.getElem_mem hp)
   omega
  have hne : bx ≠ g := by
   rintro rfl
   rw [hbx] at hcells
   injection hcells with h1
   injection h1 with _ h1
   exact absurd h1 (by decide)
  have hcl : ∀ x : Int, 0 ≤ impl_OrderOf.cl ts.length x ∧ impl_OrderOf.cl ts.length x < (ts.length : Int) := fun x => by
   unfold impl_OrderOf.cl
   split <;> omega
  have hid : ∀ x ∈ l, impl_OrderOf.cl ts.length x = x := fun x hx => by
   unfold impl_OrderOf.cl
   rw [if_pos (hv x hx)]
  obtain ⟨enc, henc⟩ : ∃ enc : Int → Value, enc = fun x => Value.int .i64 (impl_OrderOf.cl ts.length x) := ⟨_, rfl⟩
  have hH : Sort.Holds enc w g 0 l.toArray := fun j hj => by
   have h := so_holds ho j hj
   have hj' : j < l.length := by simpa using hj
   refine ⟨h.1.trans ?_, h.2⟩
   rw [henc, getElem!_pos l.toArray j hj]
   have := hid l[j] (List.getElem_mem hj')
   simp [this]
  have R : Go.Proofs.Row1 enc w g 0 l.toArray := ⟨fun x => by rw [henc]; rfl, hH, hlt⟩
  have hbl : bx < w.heap.size := blk_lt hbx
  have hcmp : Go.Proofs.CmpLays1 Try.prog 175 #[.pointer (some ⟨bx, 0, none⟩)] enc (impl_OrderOf.cf ts) g 0 l.toArray.size w := fun m os dk hs x y => by
   have h := impl_OrderOf.clo ts A0 n0 c0 a1 a2 A3 c3 bx (impl_OrderOf.cl ts.length x) (impl_OrderOf.cl ts.length y) (Go.Proofs.sortWorld enc w g 0 m dk os) (hcl x).1 (hcl x).2 (hcl y).1 (hcl y).2 (Kd.C_below hr3 (impl_OrderOf.bel hB hb)) ((impl_OrderOf.blk bx hne hbl).trans hbx)
   rw [henc] at h ⊢
   refine Calls.mono h ?_
   rintro e w' ⟨rfl, q, rfl⟩
   exact ⟨rfl, q, #[], by rw [Sort.grow_empty]⟩
  have eg : ∀ args w, (callFunc 175 args).run Try.prog w = .ok (.enter 175 args) w := enters_of Try.func175 (by kernel_rfl) rfl
  have hk := Go.Proofs.Ytepjnalkpfnmcaa.StableSort.sortStable enc (impl_OrderOf.key ts) (impl_OrderOf.cf ts) (impl_OrderOf.cf_lt ts) 175 #[.pointer (some ⟨bx, 0, none⟩)] g 0 cap l.toArray w eg hcmp R (Go.Proofs.Ytepjnalkpfnmcaa.StableSort.st_inc _ l hi) (by simpa using hl)
  have hsz : l.toArray.size = l.length := by simp
  rw [hsz] at hk
  refine Calls.mono hk ?_
  rintro e w' ⟨rfl, d', hS, hz, hD⟩
  have hd := Go.Proofs.Ytepjnalkpfnmcaa.StableSort.sorted_is (impl_OrderOf.key ts) l d' hi hD
  obtain ⟨_, hperm⟩ := Go.Proofs.Ytepjnalkpfnmcaa.StableSort.insAll_spec (impl_OrderOf.key ts) l [] List.Pairwise.nil (fun j hj => by simp at hj) hi
  rw [List.nil_append] at hperm
  obtain ⟨q, os, rfl⟩ := hS
  have hda : d' = (Go.Proofs.Ytepjnalkpfnmcaa.StableSort.insAll (impl_OrderOf.key ts) [] l).toArray := by rw [← hd]
  have hlen := hperm.length_eq
  have hmap : (Go.Proofs.Ytepjnalkpfnmcaa.StableSort.insAll (impl_OrderOf.key ts) [] l).map enc = (Go.Proofs.Ytepjnalkpfnmcaa.StableSort.insAll (impl_OrderOf.key ts) [] l).map (Value.int .i64) := by
   rw [henc]
   refine List.map_congr_left (fun x hx => ?_)
   rw [hid x (hperm.mem_iff.1 hx)]
  rw [hda]
  unfold Go.Proofs.sortWorld
  rw [Lib.sorted_world enc w g 0 q l.toArray _ os hH (by simpa using hlen), hmap]
  obtain ⟨h1, g1⟩ := so_row (Go.Proofs.Ytepjnalkpfnmcaa.StableSort.insAll (impl_OrderOf.key ts) [] l) 0 l (w.drewN q) (by omega) (Kd.R_drewN ho q)
  rw [List.take_zero, List.nil_append] at h1
  have gb : Below ((w.drewN q).setCells g 0 ((Go.Proofs.Ytepjnalkpfnmcaa.StableSort.insAll (impl_OrderOf.key ts) [] l).map (Value.int .i64))).heap.size _ (Sort.grow _ os) := so_grow os (Below.refl _ _) (Nat.le_refl _)
  have hbq : Below w0.heap.size w0 (w.drewN q) := pw_below_drewN hB q
  have hb2 := hbq.grown g1 hbq.size (fun k hk => by cases hk; exact hb)
  exact ⟨rfl, Kd.R_below h1 gb, below_then hb2 hb2.size gb⟩
 ·have hnil : l = [] := List.eq_nil_of_length_eq_zero (by omega)
  subst hnil
  obtain ⟨A1, c1, rfl, _, _⟩ := Kd.R_reads ho
  refine Calls.mono (Go.Proofs.Ytepjnalkpfnmcaa.StableSort.none174 A1 c1 _ w : Calls Try.prog 174 #[.slice A1 0 c1, _] w _) ?_
  rintro e w' ⟨rfl, rfl⟩
  exact ⟨rfl, by simpa [Go.Proofs.Ytepjnalkpfnmcaa.StableSort.insAll] using ho, hB⟩
def impl_OrderOf.l0 : Nat → List Int → List (S126) → Int → Int → Option (List Int)
 | 0, _, _, _, _ => none
 | k + 1, x3, x8, x9, x10 => if x10 < x9 then (if 0 ≤ x10 then (if x10 < (x8.length : Int) then (if ((rd_T126 x8 x10).f5) = (-1) then (impl_OrderOf.l0 k x3 x8 x9 (wrap64 (x10 + 1))) else (if x3.length < 17592186044416 then (impl_OrderOf.l0 k (x3 ++ [x10]) x8 x9 (wrap64 (x10 + 1))) else (none))) else (none)) else (none)) else (some x3)
def impl_OrderOf.f (k : Nat) (l0_0 : List (S121)) (a0_1 : Int) (a0_2 : Int) (l0_3 : List (S126)) : Option (List Int) := (impl_OrderOf.l0 k (([] : List Int)) l0_3 (l0_3.length : Int) 0).bind fun l => if (∀ x ∈ l, 0 ≤ x ∧ x < (l0_3.length : Int)) ∧ l.Pairwise (· < ·) ∧ l.length < 1152921504606846976 then some (Go.Proofs.Ytepjnalkpfnmcaa.StableSort.insAll (impl_OrderOf.key l0_3) [] l) else none
set_option maxHeartbeats 8000000 in
set_option maxRecDepth 100000 in
theorem impl_OrderOf.calls (k : Nat) (A0_0 : Option Addr) (c0_0 : Nat) (l0_0 : List (S121)) (a0_1 : Int) (a0_2 : Int) (A0_3 : Option Addr) (c0_3 : Nat) (l0_3 : List (S126)) (r : List Int) (w : World) (hr0_0 : Kd.C k121 w A0_0 l0_0.length l0_0) (hc0_0 : l0_0.length ≤ c0_0) (hr0_3 : Kd.C k126 w A0_3 l0_3.length l0_3) (hc0_3 : l0_3.length ≤ c0_3) (h : impl_OrderOf.f k l0_0 a0_1 a0_2 l0_3 = some r) :
  Calls Try.prog 133 #[.agg #[.slice A0_0 l0_0.length c0_0, .int .i64 a0_1, .int .i64 a0_2, .slice A0_3 l0_3.length c0_3]] w fun e w' => ∃ v0_ : Value, e = .returned (v0_) ∧ Kd.R (Kd.int .i64) 3 w' w.heap.size (fun _ => True) v0_ r ∧ Below w.heap.size w w' := by
 have hu56 := Try.underlying56
 have hu126 := Try.underlying126
 have HR0_0 := Aside0.mk hr0_0
 have HC0_0 := Aside0.mk hc0_0
 clear hr0_0 hc0_0
 have HR0_3 := Aside0.mk hr0_3
 have HC0_3 := Aside0.mk hc0_3
 clear hr0_3 hc0_3
 have HB := Aside0.mk (Below.refl w.heap.size w)
 obtain ⟨lx_, h, hx_⟩ := Option.bind_eq_some_iff.1 h
 have HX := Aside0.mk hx_
 clear hx_
 have H : (impl_OrderOf.l0 k (([] : List Int)) l0_3 (l0_3.length : Int) 0) = some lx_ := h
 clear h
 obtain ⟨y382, hy382⟩ : ∃ y_ : List Int, y_ = (([] : List Int)) := ⟨_, rfl⟩
 replace H : (impl_OrderOf.l0 k y382 l0_3 (l0_3.length : Int) 0) = some lx_ := by first | (rw [hy382]; with_reducible exact H) | (have H2_ := (Option.bind_some _ _).symm.trans H; rw [hy382]; with_reducible exact H2_) | (have H2_ := (Option.bind_some _ _).symm.trans H; with_reducible exact H2_) | with_reducible exact H | (rw [hy382]; exact H) | exact H
 have Ny382 := Aside0.mk hy382
 clear hy382
 have H' := Aside0.mk H
 clear H
 go_enter Try.func133, Try.ntmps133
 go_wp2_with (first | ((with_reducible refine gate_dst (N := 1) rfl ?_); refine be_ (N := 1) (cs := #[.slice A0_0 l0_0.length c0_0, .int .i64 a0_1, .int .i64 a0_2, .slice A0_3 l0_3.length c0_3]) (t := 56) ?_; intro gb381 hg w2 hbox hb; have BK381 := Aside0.mk (hbox); have GW381 := gw_ (w := w) hg; have GE381 := gw_ (w := w) hg; replace HB := Aside0.mk (below_step bl_ hb); clear hb hbox hg) | ((with_reducible refine gate_dst (N := 6) rfl ?_); refine Kd.R_lit (Kd.int .i64) _ 3 ?hg (N := 6) ?hd (xs := ([] : List Int)) (inner := []) (ok := fun _ => True) (okp := fun _ => True) ?hr ?hp (fun _ hk => hk) trivial (Below.refl _ _) (Nat.le_refl _) (by simp) ?_; (case hd => rfl); (case hg => rfl); (case hr => first | (go_simp; done) | (go_simp; rfl)); (case hp => exact (Reps.none _ _)); intro v383 w3 ho4 hb hg_ hnew_; clear hg_ hnew_; (first | rw [← Ny382.out] at ho4 | (simp only [Int.reduceToNat] at ho4; rw [← Ny382.out] at ho4)); have HO384 := Aside0.mk (Kd.R_lower ho4 (below_size bl_)); replace BK381 := Aside0.mk (blk_below (bk_ BK381) hb); replace HB := Aside0.mk (below_step bl_ hb); clear hb ho4; obtain ⟨hcz5_0, hcz5_1, hcz5_2, hcz5_3, hfz5_0, hfz5_1, hfz5_2, hfz5_3⟩ := bx4_ BK381))
 go_loopg [3, 10] k (fun kq v3 v10 w' => ∃ (x3_1 : List Int) (x10_1 : Int), v10 = .int .i64 x10_1 ∧ Aside0 (impl_OrderOf.l0 kq x3_1 l0_3 (l0_3.length : Int) x10_1 = some lx_) ∧ Aside0 (kq ≤ k) ∧ Aside0 (Kd.R (Kd.int .i64) 3 w' w.heap.size (fun _ => True) v3 x3_1) ∧ Aside0 (w'.heap[gb381]? = some (.cells #[(.slice A0_0 l0_0.length c0_0), .int .i64 a0_1, .int .i64 a0_2, (.slice A0_3 l0_3.length c0_3)] 56 (0, 0))) ∧ Aside0 (Below w.heap.size w w'))
 case atStart => exact ⟨(y382), (0), sp_, H', ⟨Nat.le_refl _⟩, ⟨ra_ HO384⟩, ⟨by (with_reducible repeat (first | refine blk_drewN ?_ _ | refine blk_drew ?_ | refine blk_alloc ?_ _)); exact BK381.out⟩, ⟨bl_⟩⟩
 case round =>
  clear H'
  try clear c1
  try clear p2
  try clear hcz5_0
  try clear hcz5_1
  try clear hcz5_2
  try clear hcz5_3
  try clear hfz5_0
  try clear hfz5_1
  try clear hfz5_2
  try clear hfz5_3
  obtain ⟨x3_1, x10_1, rfl, HA, HK1, HO_3, BK381, HB⟩ := hrel
  cases gk with
  | zero => exact absurd HA.out (by simp [impl_OrderOf.l0])
  | succ k1 =>
   have H := HA.out
   clear HA
   simp only [impl_OrderOf.l0] at H
   by_cases c6 : x10_1 < (l0_3.length : Int)
   ·rw [if_pos c6] at H
    have c6b0 : decide (x10_1 < (l0_3.length : Int)) = true := decide_eq_true c6
    clear c6
    by_cases c7 : 0 ≤ x10_1
    ·rw [if_pos c7] at H
     have c7b0 : decide (0 ≤ x10_1) = true := decide_eq_true c7
     clear c7
     by_cases c8 : x10_1 < (l0_3.length : Int)
     ·rw [if_pos c8] at H
      have c8b0 : decide (x10_1 < (l0_3.length : Int)) = true := decide_eq_true c8
      clear c8
      by_cases c9 : ((rd_T126 l0_3 x10_1).f5) = (-1)
      ·rw [if_pos c9] at H
       have c9b0 : (((rd_T126 l0_3 x10_1).f5) == (-1)) = true := beq_iff_eq.mpr c9
       have c9b1 : (((rd_T126 l0_3 x10_1).f5) != (-1)) = false := bne_eq_false_iff_eq.mpr c9
       clear c9
       have H' := Aside0.mk H
       clear H
       have p385 : 0 ≤ (x10_1 : Int) := od_
       have q385 : x10_1 < (l0_3.length : Int) := od_
       obtain ⟨ad385, A385_0, c385_0, A385_2, c385_2, A385_8, c385_8, e385, hx385_0, hx385_1, hx385_2, hx385_3, hx385_4, hx385_5, hx385_6, hx385_7, hx385_8, hl385_0, hi385_0, hl385_2, hi385_2, hl385_8, hi385_8⟩ := at_T126 HR0_3.out x10_1 p385 q385
       cases e385
       replace hx385_0 := kc_ HB hx385_0
       replace hx385_1 := kc_ HB hx385_1
       replace hx385_2 := kc_ HB hx385_2
       replace hx385_3 := kc_ HB hx385_3
       replace hx385_4 := kc_ HB hx385_4
       replace hx385_5 := kc_ HB hx385_5
       replace hx385_6 := kc_ HB hx385_6
       replace hx385_7 := kc_ HB hx385_7
       replace hx385_8 := kc_ HB hx385_8
       have HR385_0 := Aside0.mk hi385_0
       have HC385_0 := Aside0.mk hl385_0
       clear hi385_0 hl385_0
       have HR385_2 := Aside0.mk hi385_2
       have HC385_2 := Aside0.mk hl385_2
       clear hi385_2 hl385_2
       have HR385_8 := Aside0.mk hi385_8
       have HC385_8 := Aside0.mk hl385_8
       clear hi385_8 hl385_8
       replace p385 := eq_true p385
       replace q385 := eq_true q385
       go_wp2_with (first | ((with_reducible refine gate_dst (N := 5) rfl ?_); refine be_ (N := 5) (cs := #[.slice none 0 0, .int .i64 0, .slice none 0 0, .int .i64 0, .int .i64 0, .int .i64 0, .int .i64 0, .int .i64 0, .slice none 0 0]) (t := 126) ?_; intro gb386 hg w10 hbox hb; replace HO_3 := Aside0.mk (Kd.R_below (ra_ HO_3) hb); have BK386 := Aside0.mk (hbox); have GW386 := gw_ (w := w) hg; have GE386 := gw_ (w := w) hg; replace HB := Aside0.mk (below_step bl_ hb); have NB381_386 := Aside0.mk ((by rw [hg]; exact Nat.ne_of_lt (blk_lt (bk_ BK381)) : gb381 ≠ gb386)); have NB386_381 := Aside0.mk ((by rw [hg]; exact Nat.ne_of_gt (blk_lt (bk_ BK381)) : gb386 ≠ gb381)); replace BK381 := Aside0.mk (blk_below (bk_ BK381) hb); clear hb hbox hg; have hnb11 := NB386_381.out; have hnc11 := NB381_386.out; obtain ⟨hcz12_0, hcz12_1, hcz12_2, hcz12_3, hcz12_4, hcz12_5, hcz12_6, hcz12_7, hcz12_8, hfz12_0, hfz12_1, hfz12_2, hfz12_3, hfz12_4, hfz12_5, hfz12_6, hfz12_7, hfz12_8⟩ := bx9_ BK386))
       go_roundg k1
       case measure => have := HK1.out; omega
       case rel => exact ⟨(x3_1), (wrap64 (x10_1 + 1)), sp_, H', ⟨by have := HK1.out; omega⟩, ⟨by (with_reducible repeat (first | apply Kd.R_alloc | apply Kd.R_drewN | apply Kd.R_drew)); exact Kd.R_mono (Kd.R_far (p := ⟨gb386, 8, none⟩) (Kd.R_far (p := ⟨gb386, 7, none⟩) (Kd.R_far (p := ⟨gb386, 6, none⟩) (Kd.R_far (p := ⟨gb386, 5, none⟩) (Kd.R_far (p := ⟨gb386, 4, none⟩) (Kd.R_far (p := ⟨gb386, 3, none⟩) (Kd.R_far (p := ⟨gb386, 2, none⟩) (Kd.R_far (p := ⟨gb386, 1, none⟩) (Kd.R_far (p := ⟨gb386, 0, none⟩) (Kd.R_types HO_3.out BK386.out (by decide)) (fun _ hk => hk.2) (.slice A385_0 ((rd_T126 l0_3 x10_1).f0).length c385_0)) (fun _ hk => hk.2) (.int .i64 ((rd_T126 l0_3 x10_1).f1))) (fun _ hk => hk.2) (.slice A385_2 ((rd_T126 l0_3 x10_1).f2).length c385_2)) (fun _ hk => hk.2) (.int .i64 ((rd_T126 l0_3 x10_1).f3))) (fun _ hk => hk.2) (.int .i64 ((rd_T126 l0_3 x10_1).f4))) (fun _ hk => hk.2) (.int .i64 ((rd_T126 l0_3 x10_1).f5))) (fun _ hk => hk.2) (.int .i64 ((rd_T126 l0_3 x10_1).f6))) (fun _ hk => hk.2) (.int .i64 ((rd_T126 l0_3 x10_1).f7))) (fun _ hk => hk.2) (.slice A385_8 ((rd_T126 l0_3 x10_1).f8).length c385_8)) (fun _ hk => trivial)⟩, ⟨by (with_reducible repeat (first | refine blk_drewN ?_ _ | refine blk_drew ?_ | refine blk_alloc ?_ _)); refine blk_far ?_ NB381_386.out _; (with_reducible repeat (first | refine blk_drewN ?_ _ | refine blk_drew ?_ | refine blk_alloc ?_ _)); refine blk_far ?_ NB381_386.out _; (with_reducible repeat (first | refine blk_drewN ?_ _ | refine blk_drew ?_ | refine blk_alloc ?_ _)); refine blk_far ?_ NB381_386.out _; (with_reducible repeat (first | refine blk_drewN ?_ _ | refine blk_drew ?_ | refine blk_alloc ?_ _)); refine blk_far ?_ NB381_386.out _; (with_reducible repeat (first | refine blk_drewN ?_ _ | refine blk_drew ?_ | refine blk_alloc ?_ _)); refine blk_far ?_ NB381_386.out _; (with_reducible repeat (first | refine blk_drewN ?_ _ | refine blk_drew ?_ | refine blk_alloc ?_ _)); refine blk_far ?_ NB381_386.out _; (with_reducible repeat (first | refine blk_drewN ?_ _ | refine blk_drew ?_ | refine blk_alloc ?_ _)); refine blk_far ?_ NB381_386.out _; (with_reducible repeat (first | refine blk_drewN ?_ _ | refine blk_drew ?_ | refine blk_alloc ?_ _)); refine blk_far ?_ NB381_386.out _; (with_reducible repeat (first | refine blk_drewN ?_ _ | refine blk_drew ?_ | refine blk_alloc ?_ _)); refine blk_far ?_ NB381_386.out _; (with_reducible repeat (first | refine blk_drewN ?_ _ | refine blk_drew ?_ | refine blk_alloc ?_ _)); exact BK381.out⟩, ⟨bl_⟩⟩
      ·rw [if_neg c9] at H
       have c9b0 : (((rd_T126 l0_3 x10_1).f5) == (-1)) = false := beq_eq_false_iff_ne.mpr c9
       have c9b1 : (((rd_T126 l0_3 x10_1).f5) != (-1)) = true := bne_iff_ne.mpr c9
       by_cases c13 : x3_1.length < 17592186044416
       ·rw [if_pos c13] at H
        have LMc13 := Aside0.mk c13
        clear c13
        obtain ⟨y387, hy387⟩ : ∃ y_ : List Int, y_ = (x3_1 ++ [x10_1]) := ⟨_, rfl⟩
        replace H : (impl_OrderOf.l0 k1 y387 l0_3 (l0_3.length : Int) (wrap64 (x10_1 + 1))) = some lx_ := by first | (rw [hy387]; with_reducible exact H) | (have H2_ := (Option.bind_some _ _).symm.trans H; rw [hy387]; with_reducible exact H2_) | (have H2_ := (Option.bind_some _ _).symm.trans H; with_reducible exact H2_) | with_reducible exact H | (rw [hy387]; exact H) | exact H
        have Ny387 := Aside0.mk hy387
        clear hy387
        have H' := Aside0.mk H
        clear H
        have p385 : 0 ≤ (x10_1 : Int) := od_
        have q385 : x10_1 < (l0_3.length : Int) := od_
        obtain ⟨ad385, A385_0, c385_0, A385_2, c385_2, A385_8, c385_8, e385, hx385_0, hx385_1, hx385_2, hx385_3, hx385_4, hx385_5, hx385_6, hx385_7, hx385_8, hl385_0, hi385_0, hl385_2, hi385_2, hl385_8, hi385_8⟩ := at_T126 HR0_3.out x10_1 p385 q385
        cases e385
        replace hx385_0 := kc_ HB hx385_0
        replace hx385_1 := kc_ HB hx385_1
        replace hx385_2 := kc_ HB hx385_2
        replace hx385_3 := kc_ HB hx385_3
        replace hx385_4 := kc_ HB hx385_4
        replace hx385_5 := kc_ HB hx385_5
        replace hx385_6 := kc_ HB hx385_6
        replace hx385_7 := kc_ HB hx385_7
        replace hx385_8 := kc_ HB hx385_8
        have HR385_0 := Aside0.mk hi385_0
        have HC385_0 := Aside0.mk hl385_0
        clear hi385_0 hl385_0
        have HR385_2 := Aside0.mk hi385_2
        have HC385_2 := Aside0.mk hl385_2
        clear hi385_2 hl385_2
        have HR385_8 := Aside0.mk hi385_8
        have HC385_8 := Aside0.mk hl385_8
        clear hi385_8 hl385_8
        replace p385 := eq_true p385
        replace q385 := eq_true q385
        go_wp2_with (first | ((with_reducible refine gate_dst (N := 5) rfl ?_); refine be_ (N := 5) (cs := #[.slice none 0 0, .int .i64 0, .slice none 0 0, .int .i64 0, .int .i64 0, .int .i64 0, .int .i64 0, .int .i64 0, .slice none 0 0]) (t := 126) ?_; intro gb386 hg w14 hbox hb; replace HO_3 := Aside0.mk (Kd.R_below (ra_ HO_3) hb); have BK386 := Aside0.mk (hbox); have GW386 := gw_ (w := w) hg; have GE386 := gw_ (w := w) hg; replace HB := Aside0.mk (below_step bl_ hb); have NB381_386 := Aside0.mk ((by rw [hg]; exact Nat.ne_of_lt (blk_lt (bk_ BK381)) : gb381 ≠ gb386)); have NB386_381 := Aside0.mk ((by rw [hg]; exact Nat.ne_of_gt (blk_lt (bk_ BK381)) : gb386 ≠ gb381)); replace BK381 := Aside0.mk (blk_below (bk_ BK381) hb); clear hb hbox hg; have hnb15 := NB386_381.out; have hnc15 := NB381_386.out; obtain ⟨hcz16_0, hcz16_1, hcz16_2, hcz16_3, hcz16_4, hcz16_5, hcz16_6, hcz16_7, hcz16_8, hfz16_0, hfz16_1, hfz16_2, hfz16_3, hfz16_4, hfz16_5, hfz16_6, hfz16_7, hfz16_8⟩ := bx9_ BK386) | ((with_reducible refine gate_builtin (b := .append) (xs := #[.tmp 18, .tmp 20]) rfl ?_); at_builtin; refine Kd.R_append (Kd.int .i64) (w0 := w) w.heap.size rfl (.tmp 18) (.tmp 20) 32 3 (.int .i64 0) 8 rfl Try.underlying32 info3 rfl (by decide) (by omega) u3 x3_1 x10_1 [.int .i64 x10_1] (fun _ => True) (fun _ => False) rfl (by first | (go_simp; done) | (go_simp; rfl)) ?aP (fun _ hk => hk.elim) ?aF ?aO ?aB ?aS ?aL ?_; (case aP => exact rfl); (case aB => exact bl_); (case aF => exact (fun _ _ => trivial)); (case aO => exact (by (with_reducible repeat (first | apply Kd.R_alloc | apply Kd.R_drewN | apply Kd.R_drew)); exact Kd.R_mono (Kd.R_far (p := ⟨gb386, 8, none⟩) (Kd.R_far (p := ⟨gb386, 7, none⟩) (Kd.R_far (p := ⟨gb386, 6, none⟩) (Kd.R_far (p := ⟨gb386, 5, none⟩) (Kd.R_far (p := ⟨gb386, 4, none⟩) (Kd.R_far (p := ⟨gb386, 3, none⟩) (Kd.R_far (p := ⟨gb386, 2, none⟩) (Kd.R_far (p := ⟨gb386, 1, none⟩) (Kd.R_far (p := ⟨gb386, 0, none⟩) (Kd.R_types HO_3.out BK386.out (by decide)) (fun _ hk => hk.2) (.slice A385_0 ((rd_T126 l0_3 x10_1).f0).length c385_0)) (fun _ hk => hk.2) (.int .i64 ((rd_T126 l0_3 x10_1).f1))) (fun _ hk => hk.2) (.slice A385_2 ((rd_T126 l0_3 x10_1).f2).length c385_2)) (fun _ hk => hk.2) (.int .i64 ((rd_T126 l0_3 x10_1).f3))) (fun _ hk => hk.2) (.int .i64 ((rd_T126 l0_3 x10_1).f4))) (fun _ hk => hk.2) (.int .i64 ((rd_T126 l0_3 x10_1).f5))) (fun _ hk => hk.2) (.int .i64 ((rd_T126 l0_3 x10_1).f6))) (fun _ hk => hk.2) (.int .i64 ((rd_T126 l0_3 x10_1).f7))) (fun _ hk => hk.2) (.slice A385_8 ((rd_T126 l0_3 x10_1).f8).length c385_8)) (fun _ hk => trivial))); (case aS => exact (below_size bl_)); (case aL => have := LMc13.out; omega); intro v388 w17 ho hb hg hat; rw [← Ny387.out] at ho; have n0_ := Aside0.mk (blk_grown (g := gb381) (o := .cells #[.slice A0_0 l0_0.length c0_0, .int .i64 a0_1, .int .i64 a0_2, .slice (some ad385) l0_3.length c0_3] 56 (0, 0)) (by (with_reducible repeat (first | refine blk_drewN ?_ _ | refine blk_drew ?_ | refine blk_alloc ?_ _)); refine blk_far ?_ NB381_386.out _; (with_reducible repeat (first | refine blk_drewN ?_ _ | refine blk_drew ?_ | refine blk_alloc ?_ _)); refine blk_far ?_ NB381_386.out _; (with_reducible repeat (first | refine blk_drewN ?_ _ | refine blk_drew ?_ | refine blk_alloc ?_ _)); refine blk_far ?_ NB381_386.out _; (with_reducible repeat (first | refine blk_drewN ?_ _ | refine blk_drew ?_ | refine blk_alloc ?_ _)); refine blk_far ?_ NB381_386.out _; (with_reducible repeat (first | refine blk_drewN ?_ _ | refine blk_drew ?_ | refine blk_alloc ?_ _)); refine blk_far ?_ NB381_386.out _; (with_reducible repeat (first | refine blk_drewN ?_ _ | refine blk_drew ?_ | refine blk_alloc ?_ _)); refine blk_far ?_ NB381_386.out _; (with_reducible repeat (first | refine blk_drewN ?_ _ | refine blk_drew ?_ | refine blk_alloc ?_ _)); refine blk_far ?_ NB381_386.out _; (with_reducible repeat (first | refine blk_drewN ?_ _ | refine blk_drew ?_ | refine blk_alloc ?_ _)); refine blk_far ?_ NB381_386.out _; (with_reducible repeat (first | refine blk_drewN ?_ _ | refine blk_drew ?_ | refine blk_alloc ?_ _)); refine blk_far ?_ NB381_386.out _; (with_reducible repeat (first | refine blk_drewN ?_ _ | refine blk_drew ?_ | refine blk_alloc ?_ _)); exact BK381.out) hg (Kd.R_ne HO_3.out BK381.out (by decide))); have n1_ := Aside0.mk (blk_grown (g := gb386) (o := .cells #[.slice A385_0 ((rd_T126 l0_3 x10_1).f0).length c385_0, .int .i64 ((rd_T126 l0_3 x10_1).f1), .slice A385_2 ((rd_T126 l0_3 x10_1).f2).length c385_2, .int .i64 ((rd_T126 l0_3 x10_1).f3), .int .i64 ((rd_T126 l0_3 x10_1).f4), .int .i64 ((rd_T126 l0_3 x10_1).f5), .int .i64 ((rd_T126 l0_3 x10_1).f6), .int .i64 ((rd_T126 l0_3 x10_1).f7), .slice A385_8 ((rd_T126 l0_3 x10_1).f8).length c385_8] 126 (0, 0)) (by (with_reducible repeat (first | refine blk_drewN ?_ _ | refine blk_drew ?_ | refine blk_alloc ?_ _)); apply bq9_8_7_6_5_4_3_2_1_0_; (with_reducible repeat (first | refine blk_drewN ?_ _ | refine blk_drew ?_ | refine blk_alloc ?_ _)); exact BK386.out) hg (Kd.R_ne HO_3.out BK386.out (by decide))); have n2_ := Aside0.mk (hb); have n3_ := Aside0.mk (ho); clear BK381; clear BK386; clear HB; clear HO_3; have BK381 := n0_; have BK386 := n1_; have HB := n2_; have HO389 := n3_; clear n0_ n1_ n2_ n3_; clear ho hb hg hat))
        go_roundg k1
        case measure => have := HK1.out; omega
        case rel => exact ⟨(y387), (wrap64 (x10_1 + 1)), sp_, H', ⟨by have := HK1.out; omega⟩, ⟨ra_ HO389⟩, ⟨by (with_reducible repeat (first | refine blk_drewN ?_ _ | refine blk_drew ?_ | refine blk_alloc ?_ _)); exact BK381.out⟩, ⟨bl_⟩⟩
       ·rw [if_neg c13] at H
        exact absurd H (by simp)
     ·rw [if_neg c8] at H
      exact absurd H (by simp)
    ·rw [if_neg c7] at H
     exact absurd H (by simp)
   ·rw [if_neg c6] at H
    have c6b0 : decide (x10_1 < (l0_3.length : Int)) = false := decide_eq_false c6
    clear c6
    obtain rfl := Option.some.inj H
    have hx_ := HX.out
    split at hx_
    case isFalse => cases hx_
    case isTrue hc_ =>
    obtain ⟨hv_, hi_, hl_⟩ := hc_
    obtain rfl := Option.some.inj hx_
    have HV := Aside0.mk hv_
    have HI := Aside0.mk hi_
    have HL_ := Aside0.mk hl_
    clear hx_ hv_ hi_ hl_
    go_wp2_with (first | (go_at_call 174; go_loud ((with_reducible refine (impl_OrderOf.sort l0_3 x3_1 _ A0_0 l0_0.length c0_0 a0_1 a0_2 A0_3 c0_3 gb381 w _ ?s1 ?s2 ?s3 ?s4 ?s5 ?s6 ?s7).mono ?_); (case s1 => exact bl_); (case s2 => exact ra_ HO_3); (case s3 => exact HR0_3.out); (case s4 => exact bk_ BK381); (case s5 => exact HV.out); (case s6 => exact HI.out); (case s7 => exact HL_.out); rintro e wz ⟨rfl, ho_, hb_⟩; have HOZ := Aside0.mk ho_; have HBZ := Aside0.mk hb_; clear ho_ hb_)))
    go_ret
    exact ⟨_, rfl, HOZ.out, HBZ.out⟩
/-! ### impl_Before: function 134 -/
def impl_Before.f (l0_0 : List Int) (a0_1 : Int) (l0_2 : List Int) (a0_3 : Int) (a0_4 : Int) (a0_5 : Int) (a0_6 : Int) (a0_7 : Int) (l0_8 : List Int) (l1_0 : List Int) (a1_1 : Int) (l1_2 : List Int) (a1_3 : Int) (a1_4 : Int) (a1_5 : Int) (a1_6 : Int) (a1_7 : Int) (l1_8 : List Int) : Option (Bool) := if a0_6 = (-1) then (some false) else (some (decide (a0_6 < a1_4)))
set_option maxHeartbeats 8000000 in
set_option maxRecDepth 100000 in
theorem impl_Before.calls (A0_0 : Option Addr) (c0_0 : Nat) (l0_0 : List Int) (a0_1 : Int) (A0_2 : Option Addr) (c0_2 : Nat) (l0_2 : List Int) (a0_3 : Int) (a0_4 : Int) (a0_5 : Int) (a0_6 : Int) (a0_7 : Int) (A0_8 : Option Addr) (c0_8 : Nat) (l0_8 : List Int) (A1_0 : Option Addr) (c1_0 : Nat) (l1_0 : List Int) (a1_1 : Int) (A1_2 : Option Addr) (c1_2 : Nat) (l1_2 : List Int) (a1_3 : Int) (a1_4 : Int) (a1_5 : Int) (a1_6 : Int) (a1_7 : Int) (A1_8 : Option Addr) (c1_8 : Nat) (l1_8 : List Int) (r : Bool) (w : World) (hr0_0 : Kd.C (Kd.int .u8) w A0_0 l0_0.length l0_0) (hc0_0 : l0_0.length ≤ c0_0) (hr0_2 : Kd.C (Kd.int .i64) w A0_2 l0_2.length l0_2) (hc0_2 : l0_2.length ≤ c0_2) (hr0_8 : Kd.C (Kd.int .u8) w A0_8 l0_8.length l0_8) (hc0_8 : l0_8.length ≤ c0_8) (hr1_0 : Kd.C (Kd.int .u8) w A1_0 l1_0.length l1_0) (hc1_0 : l1_0.length ≤ c1_0) (hr1_2 : Kd.C (Kd.int .i64) w A1_2 l1_2.length l1_2) (hc1_2 : l1_2.length ≤ c1_2) (hr1_8 : Kd.C (Kd.int .u8) w A1_8 l1_8.length l1_8) (hc1_8 : l1_8.length ≤ c1_8) (h : impl_Before.f l0_0 a0_1 l0_2 a0_3 a0_4 a0_5 a0_6 a0_7 l0_8 l1_0 a1_1 l1_2 a1_3 a1_4 a1_5 a1_6 a1_7 l1_8 = some r) :
  Calls Try.prog 134 #[.agg #[.slice A0_0 l0_0.length c0_0, .int .i64 a0_1, .slice A0_2 l0_2.length c0_2, .int .i64 a0_3, .int .i64 a0_4, .int .i64 a0_5, .int .i64 a0_6, .int .i64 a0_7, .slice A0_8 l0_8.length c0_8], .agg #[.slice A1_0 l1_0.length c1_0, .int .i64 a1_1, .slice A1_2 l1_2.length c1_2, .int .i64 a1_3, .int .i64 a1_4, .int .i64 a1_5, .int .i64 a1_6, .int .i64 a1_7, .slice A1_8 l1_8.length c1_8]] w fun e w' => e = .returned (.bool r) ∧ Below w.heap.size w w' := by
 have hu126 := Try.underlying126
 have HR0_0 := Aside0.mk hr0_0
 have HC0_0 := Aside0.mk hc0_0
 clear hr0_0 hc0_0
 have HR0_2 := Aside0.mk hr0_2
 have HC0_2 := Aside0.mk hc0_2
 clear hr0_2 hc0_2
 have HR0_8 := Aside0.mk hr0_8
 have HC0_8 := Aside0.mk hc0_8
 clear hr0_8 hc0_8
 have HR1_0 := Aside0.mk hr1_0
 have HC1_0 := Aside0.mk hc1_0
 clear hr1_0 hc1_0
 have HR1_2 := Aside0.mk hr1_2
 have HC1_2 := Aside0.mk hc1_2
 clear hr1_2 hc1_2
 have HR1_8 := Aside0.mk hr1_8
 have HC1_8 := Aside0.mk hc1_8
 clear hr1_8 hc1_8
 have HB := Aside0.mk (Below.refl w.heap.size w)
 have H : (if a0_6 = (-1) then (some false) else (some (decide (a0_6 < a1_4)))) = some r := h
 clear h
 by_cases c3 : a0_6 = (-1)
 ·rw [if_pos c3] at H
  have c3b0 : (a0_6 == (-1)) = true := beq_iff_eq.mpr c3
  have c3b1 : (a0_6 != (-1)) = false := bne_eq_false_iff_eq.mpr c3
  clear c3
  obtain rfl := Option.some.inj H
  go_enter Try.func134, Try.ntmps134
  go_wp2_with (first | ((with_reducible refine gate_dst (N := 2) rfl ?_); refine be_ (N := 2) (cs := #[.slice A0_0 l0_0.length c0_0, .int .i64 a0_1, .slice A0_2 l0_2.length c0_2, .int .i64 a0_3, .int .i64 a0_4, .int .i64 a0_5, .int .i64 a0_6, .int .i64 a0_7, .slice A0_8 l0_8.length c0_8]) (t := 126) ?_; intro gb390 hg w4 hbox hb; have BK390 := Aside0.mk (hbox); have GW390 := gw_ (w := w) hg; have GE390 := gw_ (w := w) hg; replace HB := Aside0.mk (below_step bl_ hb); clear hb hbox hg) | ((with_reducible refine gate_dst (N := 3) rfl ?_); refine be_ (N := 3) (cs := #[.slice A1_0 l1_0.length c1_0, .int .i64 a1_1, .slice A1_2 l1_2.length c1_2, .int .i64 a1_3, .int .i64 a1_4, .int .i64 a1_5, .int .i64 a1_6, .int .i64 a1_7, .slice A1_8 l1_8.length c1_8]) (t := 126) ?_; intro gb391 hg w5 hbox hb; have BK391 := Aside0.mk (hbox); have GW391 := gw_ (w := w) hg; have GE391 := gw_ (w := w) hg; replace HB := Aside0.mk (below_step bl_ hb); have NB390_391 := Aside0.mk ((by rw [hg]; exact Nat.ne_of_lt (blk_lt (bk_ BK390)) : gb390 ≠ gb391)); have NB391_390 := Aside0.mk ((by rw [hg]; exact Nat.ne_of_gt (blk_lt (bk_ BK390)) : gb391 ≠ gb390)); replace BK390 := Aside0.mk (blk_below (bk_ BK390) hb); clear hb hbox hg; have hnb6 := NB390_391.out; have hnc6 := NB391_390.out; obtain ⟨hcz7_0, hcz7_1, hcz7_2, hcz7_3, hcz7_4, hcz7_5, hcz7_6, hcz7_7, hcz7_8, hfz7_0, hfz7_1, hfz7_2, hfz7_3, hfz7_4, hfz7_5, hfz7_6, hfz7_7, hfz7_8⟩ := bx9_ BK390))
  go_ret
  exact ⟨sq_, bl_⟩
 ·rw [if_neg c3] at H
  have c3b0 : (a0_6 == (-1)) = false := beq_eq_false_iff_ne.mpr c3
  have c3b1 : (a0_6 != (-1)) = true := bne_iff_ne.mpr c3
  obtain rfl := Option.some.inj H
  go_enter Try.func134, Try.ntmps134
  go_wp2_with (first | ((with_reducible refine gate_dst (N := 2) rfl ?_); refine be_ (N := 2) (cs := #[.slice A0_0 l0_0.length c0_0, .int .i64 a0_1, .slice A0_2 l0_2.length c0_2, .int .i64 a0_3, .int .i64 a0_4, .int .i64 a0_5, .int .i64 a0_6, .int .i64 a0_7, .slice A0_8 l0_8.length c0_8]) (t := 126) ?_; intro gb390 hg w8 hbox hb; have BK390 := Aside0.mk (hbox); have GW390 := gw_ (w := w) hg; have GE390 := gw_ (w := w) hg; replace HB := Aside0.mk (below_step bl_ hb); clear hb hbox hg) | ((with_reducible refine gate_dst (N := 3) rfl ?_); refine be_ (N := 3) (cs := #[.slice A1_0 l1_0.length c1_0, .int .i64 a1_1, .slice A1_2 l1_2.length c1_2, .int .i64 a1_3, .int .i64 a1_4, .int .i64 a1_5, .int .i64 a1_6, .int .i64 a1_7, .slice A1_8 l1_8.length c1_8]) (t := 126) ?_; intro gb391 hg w9 hbox hb; have BK391 := Aside0.mk (hbox); have GW391 := gw_ (w := w) hg; have GE391 := gw_ (w := w) hg; replace HB := Aside0.mk (below_step bl_ hb); have NB390_391 := Aside0.mk ((by rw [hg]; exact Nat.ne_of_lt (blk_lt (bk_ BK390)) : gb390 ≠ gb391)); have NB391_390 := Aside0.mk ((by rw [hg]; exact Nat.ne_of_gt (blk_lt (bk_ BK390)) : gb391 ≠ gb390)); replace BK390 := Aside0.mk (blk_below (bk_ BK390) hb); clear hb hbox hg; have hnb10 := NB390_391.out; have hnc10 := NB391_390.out; obtain ⟨hcz11_0, hcz11_1, hcz11_2, hcz11_3, hcz11_4, hcz11_5, hcz11_6, hcz11_7, hcz11_8, hfz11_0, hfz11_1, hfz11_2, hfz11_3, hfz11_4, hfz11_5, hfz11_6, hfz11_7, hfz11_8⟩ := bx9_ BK390; obtain ⟨hcz12_0, hcz12_1, hcz12_2, hcz12_3, hcz12_4, hcz12_5, hcz12_6, hcz12_7, hcz12_8, hfz12_0, hfz12_1, hfz12_2, hfz12_3, hfz12_4, hfz12_5, hfz12_6, hfz12_7, hfz12_8⟩ := bx9_ BK391))
  go_ret
  exact ⟨sq_, bl_⟩
end Go.Proofs.Ytepjnalkpfnmcaa.QFnExactInOrder
