-- by my own printer (myprint.py, over the kit's print.py)
import Derived.Test.YtepjnalkpfnmcaaQFnExactWorldSamex0
import Derived.Test.YtepjnalkpfnmcaaQFnExactWorldSamex7
namespace Go.Proofs.Ytepjnalkpfnmcaa.QFnExactWorldSame
open Go.RowKit Go.Proofs.YtepjnalkpfnmcaaW.PrintWords Go.Proofs.YtepjnalkpfnmcaaW.PrintLast Go.Proofs.YtepjnalkpfnmcaaW.PrintMore
attribute [local go_sem] max2_int min2_int max_two min_two max_three min_three max_four min_four   -- for this text's walks alone
set_option linter.unusedVariables false
set_option linter.unusedSimpArgs false
attribute [local go_sem] my_geq my_leq my_gtr
abbrev tb23_0_8 : Array Bool := #[b0, b0, b0, b0, b0, b0, b0, b0, b0, b0, b0, b0, b0, b0, b0, b0, b0, b0, b0, b0, b0, b0, b0]
abbrev tb23_1_8 : Array Bool := #[b1, b0, b0, b0, b0, b0, b0, b0, b0, b0, b0, b0, b0, b0, b0, b0, b0, b0, b0, b0, b0, b0, b0]
abbrev tb23_15_8 : Array Bool := #[b1, b0, b1, b0, b1, b0, b0, b0, b0, b0, b0, b0, b0, b0, b0, b0, b0, b0, b0, b0, b0, b0, b0]
abbrev tb23_17_8 : Array Bool := #[b1, b1, b1, b0, b1, b0, b0, b0, b0, b0, b0, b0, b0, b0, b0, b0, b0, b0, b0, b0, b0, b0, b0]
abbrev tb23_1f_8 : Array Bool := #[b1, b1, b1, b1, b1, b0, b0, b0, b0, b0, b0, b0, b0, b0, b0, b0, b0, b0, b0, b0, b0, b0, b0]
abbrev tb23_1ff_8 : Array Bool := #[b1, b1, b1, b1, b1, b1, b1, b1, b1, b0, b0, b0, b0, b0, b0, b0, b0, b0, b0, b0, b0, b0, b0]
abbrev tb23_1fff_8 : Array Bool := #[b1, b1, b1, b1, b1, b1, b1, b1, b1, b1, b1, b1, b1, b0, b0, b0, b0, b0, b0, b0, b0, b0, b0]
abbrev tb23_1ffff_8 : Array Bool := #[b1, b1, b1, b1, b1, b1, b1, b1, b1, b1, b1, b1, b1, b1, b1, b1, b1, b0, b0, b0, b0, b0, b0]
abbrev tb23_1fffff_8 : Array Bool := #[b1, b1, b1, b1, b1, b1, b1, b1, b1, b1, b1, b1, b1, b1, b1, b1, b1, b1, b1, b1, b1, b0, b0]
abbrev tb23_27ff_8 : Array Bool := #[b1, b1, b1, b1, b1, b1, b1, b1, b1, b1, b1, b0, b0, b1, b0, b0, b0, b0, b0, b0, b0, b0, b0]
abbrev tb23_3f_8 : Array Bool := #[b1, b1, b1, b1, b1, b1, b0, b0, b0, b0, b0, b0, b0, b0, b0, b0, b0, b0, b0, b0, b0, b0, b0]
abbrev tb23_3ff_8 : Array Bool := #[b1, b1, b1, b1, b1, b1, b1, b1, b1, b1, b0, b0, b0, b0, b0, b0, b0, b0, b0, b0, b0, b0, b0]
abbrev tb23_3fff_8 : Array Bool := #[b1, b1, b1, b1, b1, b1, b1, b1, b1, b1, b1, b1, b1, b1, b0, b0, b0, b0, b0, b0, b0, b0, b0]
abbrev tb23_3ffff_8 : Array Bool := #[b1, b1, b1, b1, b1, b1, b1, b1, b1, b1, b1, b1, b1, b1, b1, b1, b1, b1, b0, b0, b0, b0, b0]
abbrev tb23_3fffff_8 : Array Bool := #[b1, b1, b1, b1, b1, b1, b1, b1, b1, b1, b1, b1, b1, b1, b1, b1, b1, b1, b1, b1, b1, b1, b0]
abbrev tb23_5_8 : Array Bool := #[b1, b0, b1, b0, b0, b0, b0, b0, b0, b0, b0, b0, b0, b0, b0, b0, b0, b0, b0, b0, b0, b0, b0]
abbrev tb23_7f_8 : Array Bool := #[b1, b1, b1, b1, b1, b1, b1, b0, b0, b0, b0, b0, b0, b0, b0, b0, b0, b0, b0, b0, b0, b0, b0]
abbrev tb23_7ff_8 : Array Bool := #[b1, b1, b1, b1, b1, b1, b1, b1, b1, b1, b1, b0, b0, b0, b0, b0, b0, b0, b0, b0, b0, b0, b0]
abbrev tb23_7fff_8 : Array Bool := #[b1, b1, b1, b1, b1, b1, b1, b1, b1, b1, b1, b1, b1, b1, b1, b0, b0, b0, b0, b0, b0, b0, b0]
abbrev tb23_7ffff_8 : Array Bool := #[b1, b1, b1, b1, b1, b1, b1, b1, b1, b1, b1, b1, b1, b1, b1, b1, b1, b1, b1, b0, b0, b0, b0]
abbrev tb23_7fffff_8 : Array Bool := #[b1, b1, b1, b1, b1, b1, b1, b1, b1, b1, b1, b1, b1, b1, b1, b1, b1, b1, b1, b1, b1, b1, b1]
abbrev tb23_a7ff_8 : Array Bool := #[b1, b1, b1, b1, b1, b1, b1, b1, b1, b1, b1, b0, b0, b1, b0, b1, b0, b0, b0, b0, b0, b0, b0]
abbrev tb23_afff_8 : Array Bool := #[b1, b1, b1, b1, b1, b1, b1, b1, b1, b1, b1, b1, b0, b1, b0, b1, b0, b0, b0, b0, b0, b0, b0]
abbrev tb23_bfff_8 : Array Bool := #[b1, b1, b1, b1, b1, b1, b1, b1, b1, b1, b1, b1, b1, b1, b0, b1, b0, b0, b0, b0, b0, b0, b0]
abbrev tb23_ff_8 : Array Bool := #[b1, b1, b1, b1, b1, b1, b1, b1, b0, b0, b0, b0, b0, b0, b0, b0, b0, b0, b0, b0, b0, b0, b0]
abbrev tb23_fff_8 : Array Bool := #[b1, b1, b1, b1, b1, b1, b1, b1, b1, b1, b1, b1, b0, b0, b0, b0, b0, b0, b0, b0, b0, b0, b0]
abbrev tb23_ffff_8 : Array Bool := #[b1, b1, b1, b1, b1, b1, b1, b1, b1, b1, b1, b1, b1, b1, b1, b1, b0, b0, b0, b0, b0, b0, b0]
abbrev tb23_fffff_8 : Array Bool := #[b1, b1, b1, b1, b1, b1, b1, b1, b1, b1, b1, b1, b1, b1, b1, b1, b1, b1, b1, b1, b0, b0, b0]
abbrev tb8_0_8 : Array Bool := #[b0, b0, b0, b0, b0, b0, b0, b0]
abbrev tb8_1f_8 : Array Bool := #[b1, b1, b1, b1, b1, b0, b0, b0]
abbrev tb8_2_8 : Array Bool := #[b0, b1, b0, b0, b0, b0, b0, b0]
abbrev tb8_3f_8 : Array Bool := #[b1, b1, b1, b1, b1, b1, b0, b0]
abbrev tb8_7f_8 : Array Bool := #[b1, b1, b1, b1, b1, b1, b1, b0]
abbrev tb8_a_8 : Array Bool := #[b0, b1, b0, b1, b0, b0, b0, b0]
abbrev tb8_b_8 : Array Bool := #[b1, b1, b0, b1, b0, b0, b0, b0]
abbrev tb8_f_8 : Array Bool := #[b1, b1, b1, b1, b0, b0, b0, b0]
abbrev tb8_ff_8 : Array Bool := #[b1, b1, b1, b1, b1, b1, b1, b1]
/-! ### spec_WorldSame: function 32 -/
mutual
def spec_WorldSame.j0 : Nat → Bool → List (S121) → Int → Int → List (S126) → List (S121) → Int → Int → List (S126) → Option (Bool)
 | 0, _, _, _, _, _, _, _, _, _ => none
 | k + 1, x38, x160000, x160001, x160002, x160003, x161000, x161001, x161002, x161003 => if x38 = true then (some false) else (spec_WorldSame.l0 k x160000 (x160000.length : Int) 0 x160000 x160001 x160002 x160003 x161000 x161001 x161002 x161003)
def spec_WorldSame.l0 : Nat → List (S121) → Int → Int → List (S121) → Int → Int → List (S126) → List (S121) → Int → Int → List (S126) → Option (Bool)
 | 0, _, _, _, _, _, _, _, _, _, _, _ => none
 | k + 1, x40, x41, x42, x160000, x160001, x160002, x160003, x161000, x161001, x161002, x161003 => if x42 < x41 then (if 0 ≤ x42 then (if x42 < (x40.length : Int) then (if x42 < (x161000.length : Int) then (if ((rd_T121 x40 x42).f0) = ((rd_T121 x161000 x42).f0) then ((spec_BookSame.f k ((rd_T121 x40 x42).f1) ((rd_T121 x161000 x42).f1)).bind fun t165 => (if t165 = true then (spec_WorldSame.l0 k x40 x41 (wrap64 (x42 + 1)) x160000 x160001 x160002 x160003 x161000 x161001 x161002 x161003) else (some false))) else (some false)) else (none)) else (none)) else (none)) else (spec_WorldSame.l1 k x160003 (x160003.length : Int) 0 x161000 x161001 x161002 x161003)
def spec_WorldSame.l1 : Nat → List (S126) → Int → Int → List (S121) → Int → Int → List (S126) → Option (Bool)
 | 0, _, _, _, _, _, _, _ => none
 | k + 1, x72, x73, x74, x161000, x161001, x161002, x161003 => if x74 < x73 then (if 0 ≤ x74 then (if x74 < (x72.length : Int) then (if x74 < (x161003.length : Int) then ((spec_TaskSame.f k ((rd_T126 x72 x74).f0) ((rd_T126 x72 x74).f1) ((rd_T126 x72 x74).f2) ((rd_T126 x72 x74).f3) ((rd_T126 x72 x74).f4) ((rd_T126 x72 x74).f5) ((rd_T126 x72 x74).f6) ((rd_T126 x72 x74).f7) ((rd_T126 x72 x74).f8) ((rd_T126 x161003 x74).f0) ((rd_T126 x161003 x74).f1) ((rd_T126 x161003 x74).f2) ((rd_T126 x161003 x74).f3) ((rd_T126 x161003 x74).f4) ((rd_T126 x161003 x74).f5) ((rd_T126 x161003 x74).f6) ((rd_T126 x161003 x74).f7) ((rd_T126 x161003 x74).f8)).bind fun t169 => (if t169 = true then (spec_WorldSame.l1 k x72 x73 (wrap64 (x74 + 1)) x161000 x161001 x161002 x161003) else (some false))) else (none)) else (none)) else (none)) else (some true)
end
def spec_WorldSame.f (k : Nat) (l0_0 : List (S121)) (a0_1 : Int) (a0_2 : Int) (l0_3 : List (S126)) (l1_0 : List (S121)) (a1_1 : Int) (a1_2 : Int) (l1_3 : List (S126)) : Option (Bool) := if a0_1 = a1_1 then (if a0_2 = a1_2 then (if (l0_0.length : Int) = (l1_0.length : Int) then (spec_WorldSame.j0 k ((l0_3.length : Int) != (l1_3.length : Int)) l0_0 a0_1 a0_2 l0_3 l1_0 a1_1 a1_2 l1_3) else (spec_WorldSame.j0 k true l0_0 a0_1 a0_2 l0_3 l1_0 a1_1 a1_2 l1_3)) else (spec_WorldSame.j0 k true l0_0 a0_1 a0_2 l0_3 l1_0 a1_1 a1_2 l1_3)) else (spec_WorldSame.j0 k true l0_0 a0_1 a0_2 l0_3 l1_0 a1_1 a1_2 l1_3)
def spec_WorldSame.T6 : Bool × List (List Nat × List Nat) := (true, [([], []), ([0], [0]), ([], []), ([2], [2]), ([], []), ([3, 4], [3, 4]), ([5], [5]), ([6], [6]), ([1, 7], [1, 7]), ([8], [8]), ([9], [9]), ([10, 9], [9, 10]), ([11, 9], [9, 11]), ([9], [9]), ([13, 9], [9, 13]), ([9], [9]), ([14, 15, 9], [9, 14, 15]), ([16, 9], [9, 16]), ([17, 9], [9, 17]), ([18, 9], [9, 18]), ([12, 19, 9, 9], [9, 12, 19]), ([20, 9], [9, 20]), ([9, 21], [9, 21])])
def spec_WorldSame.B6 : List Nat := [0, 1, 0, 4, 0, 28, 60, 124, 255, 511, 1023, 2047, 4095, 1023, 9215, 1023, 58367, 123903, 254975, 517119, 1048575, 2097151, 4194303]
theorem spec_WorldSame.tab6 : rtab .any (opsOf Try.f32 6) = spec_WorldSame.T6 := by kernel_rfl
theorem spec_WorldSame.bits6 : waitsOk spec_WorldSame.T6.2 spec_WorldSame.B6 = true := by kernel_rfl
def spec_WorldSame.T12 : Bool × List (List Nat × List Nat) := (true, [([], []), ([], []), ([1], [1]), ([], []), ([2, 3], [2, 3]), ([4], [4]), ([0, 5], [0, 5]), ([6], [6])])
def spec_WorldSame.B12 : List Nat := [0, 0, 2, 0, 14, 30, 63, 127]
theorem spec_WorldSame.tab12 : rtab .any (opsOf Try.f32 12) = spec_WorldSame.T12 := by kernel_rfl
theorem spec_WorldSame.bits12 : waitsOk spec_WorldSame.T12.2 spec_WorldSame.B12 = true := by kernel_rfl
set_option maxHeartbeats 8000000 in
set_option maxRecDepth 100000 in
theorem spec_WorldSame.calls (k : Nat) (A0_0 : Option Addr) (c0_0 : Nat) (l0_0 : List (S121)) (a0_1 : Int) (a0_2 : Int) (A0_3 : Option Addr) (c0_3 : Nat) (l0_3 : List (S126)) (A1_0 : Option Addr) (c1_0 : Nat) (l1_0 : List (S121)) (a1_1 : Int) (a1_2 : Int) (A1_3 : Option Addr) (c1_3 : Nat) (l1_3 : List (S126)) (r : Bool) (w : World) (hr0_0 : Kd.C k121 w A0_0 l0_0.length l0_0) (hc0_0 : l0_0.length ≤ c0_0) (hr0_3 : Kd.C k126 w A0_3 l0_3.length l0_3) (hc0_3 : l0_3.length ≤ c0_3) (hr1_0 : Kd.C k121 w A1_0 l1_0.length l1_0) (hc1_0 : l1_0.length ≤ c1_0) (hr1_3 : Kd.C k126 w A1_3 l1_3.length l1_3) (hc1_3 : l1_3.length ≤ c1_3) (h : spec_WorldSame.f k l0_0 a0_1 a0_2 l0_3 l1_0 a1_1 a1_2 l1_3 = some r) :
  Calls Try.prog 32 #[.agg #[.slice A0_0 l0_0.length c0_0, .int .i64 a0_1, .int .i64 a0_2, .slice A0_3 l0_3.length c0_3], .agg #[.slice A1_0 l1_0.length c1_0, .int .i64 a1_1, .int .i64 a1_2, .slice A1_3 l1_3.length c1_3]] w fun e w' => e = .returned (.bool r) ∧ Below w.heap.size w w' := by
 have hu56 := Try.underlying56
 have hu121 := Try.underlying121
 have hu124 := Try.underlying124
 have hu126 := Try.underlying126
 have HR0_0 := Aside0.mk hr0_0
 have HC0_0 := Aside0.mk hc0_0
 clear hr0_0 hc0_0
 have HR0_3 := Aside0.mk hr0_3
 have HC0_3 := Aside0.mk hc0_3
 clear hr0_3 hc0_3
 have HR1_0 := Aside0.mk hr1_0
 have HC1_0 := Aside0.mk hc1_0
 clear hr1_0 hc1_0
 have HR1_3 := Aside0.mk hr1_3
 have HC1_3 := Aside0.mk hc1_3
 clear hr1_3 hc1_3
 have HB := Aside0.mk (Below.refl w.heap.size w)
 have H : (if a0_1 = a1_1 then (if a0_2 = a1_2 then (if (l0_0.length : Int) = (l1_0.length : Int) then (spec_WorldSame.j0 k ((l0_3.length : Int) != (l1_3.length : Int)) l0_0 a0_1 a0_2 l0_3 l1_0 a1_1 a1_2 l1_3) else (spec_WorldSame.j0 k true l0_0 a0_1 a0_2 l0_3 l1_0 a1_1 a1_2 l1_3)) else (spec_WorldSame.j0 k true l0_0 a0_1 a0_2 l0_3 l1_0 a1_1 a1_2 l1_3)) else (spec_WorldSame.j0 k true l0_0 a0_1 a0_2 l0_3 l1_0 a1_1 a1_2 l1_3)) = some r := h
 clear h
 have HC3 := Aside0.mk H
 clear H
 go_enter Try.func32, Try.ntmps32
 go_upto_region 1 with (first | ((with_reducible refine gate_dst (N := 2) rfl ?_); (try (refine gate_guard (by rfl) ?_; dsimp only)); refine be_ (N := 2) (cs := #[.slice A0_0 l0_0.length c0_0, .int .i64 a0_1, .int .i64 a0_2, .slice A0_3 l0_3.length c0_3]) (t := 56) ?_; intro gb159 hg w4 hbox hb; have BK159 := Aside0.mk (hbox); have GW159 := gw_ (w := w) hg; have GE159 := gw_ (w := w) hg; replace HB := Aside0.mk (below_step bl_ hb); clear hb hbox hg) | ((with_reducible refine gate_dst (N := 3) rfl ?_); (try (refine gate_guard (by rfl) ?_; dsimp only)); refine be_ (N := 3) (cs := #[.slice A1_0 l1_0.length c1_0, .int .i64 a1_1, .int .i64 a1_2, .slice A1_3 l1_3.length c1_3]) (t := 56) ?_; intro gb160 hg w5 hbox hb; have BK160 := Aside0.mk (hbox); have GW160 := gw_ (w := w) hg; have GE160 := gw_ (w := w) hg; replace HB := Aside0.mk (below_step bl_ hb); have NB159_160 := Aside0.mk ((by rw [hg]; exact Nat.ne_of_lt (blk_lt (bk_ BK159)) : gb159 ≠ gb160)); have NB160_159 := Aside0.mk ((by rw [hg]; exact Nat.ne_of_gt (blk_lt (bk_ BK159)) : gb160 ≠ gb159)); replace BK159 := Aside0.mk (blk_below (bk_ BK159) hb); clear hb hbox hg))
 (try simp only [Act.put, List.setIfInBounds_toArray, List.set_cons_zero, List.set_cons_succ])
 go_cut [38] (fun v38 wc => ∃ (kq : Nat) (x38_2 : Bool), v38 = .bool x38_2 ∧ Aside0 (spec_WorldSame.j0 kq x38_2 l0_0 a0_1 a0_2 l0_3 l1_0 a1_1 a1_2 l1_3 = some r) ∧ Aside0 (kq ≤ k) ∧ Aside0 (wc.heap[gb159]? = some (.cells #[(.slice A0_0 l0_0.length c0_0), .int .i64 a0_1, .int .i64 a0_2, (.slice A0_3 l0_3.length c0_3)] 56 (0, 0))) ∧ Aside0 (wc.heap[gb160]? = some (.cells #[(.slice A1_0 l1_0.length c1_0), .int .i64 a1_1, .int .i64 a1_2, (.slice A1_3 l1_3.length c1_3)] 56 (0, 0))) ∧ Aside0 (Below w.heap.size w wc))
 case first =>
  have H := HC3.out
  clear HC3
  by_cases c6 : a0_1 = a1_1
  ·rw [if_pos c6] at H
   have c6b0 : (a0_1 == a1_1) = true := beq_iff_eq.mpr c6
   have c6b1 : (a0_1 != a1_1) = false := bne_eq_false_iff_eq.mpr c6
   clear c6
   (first | rw [c6b0] | (simp only [i64_w, i32_w]; rw [c6b0]) | skip)
   by_cases c7 : a0_2 = a1_2
   ·rw [if_pos c7] at H
    have c7b0 : (a0_2 == a1_2) = true := beq_iff_eq.mpr c7
    have c7b1 : (a0_2 != a1_2) = false := bne_eq_false_iff_eq.mpr c7
    clear c7
    by_cases c8 : (l0_0.length : Int) = (l1_0.length : Int)
    ·rw [if_pos c8] at H
     have c8b0 : ((l0_0.length : Int) == (l1_0.length : Int)) = true := beq_iff_eq.mpr c8
     have c8b1 : ((l0_0.length : Int) != (l1_0.length : Int)) = false := bne_eq_false_iff_eq.mpr c8
     have c8b2 : (l0_0.length == l1_0.length) = true := by first | simpa using c8 | (simp at c8 ⊢; omega)
     clear c8
     have H' := Aside0.mk H
     clear H
     have hnb9 := NB159_160.out
     have hnc9 := NB160_159.out
     have hcz10_0 := cz_ BK159 0 (.slice A0_0 l0_0.length c0_0)
     have hcz10_1 := cz_ BK159 1 (.int .i64 a0_1)
     have hcz10_2 := cz_ BK159 2 (.int .i64 a0_2)
     have hcz10_3 := cz_ BK159 3 (.slice A0_3 l0_3.length c0_3)
     have hfz10_0 := fz_ BK159 0
     have hfz10_1 := fz_ BK159 1
     have hfz10_2 := fz_ BK159 2
     have hfz10_3 := fz_ BK159 3
     have hcz11_0 := cz_ BK160 0 (.slice A1_0 l1_0.length c1_0)
     have hcz11_1 := cz_ BK160 1 (.int .i64 a1_1)
     have hcz11_2 := cz_ BK160 2 (.int .i64 a1_2)
     have hcz11_3 := cz_ BK160 3 (.slice A1_3 l1_3.length c1_3)
     have hfz11_0 := fz_ BK160 0
     have hfz11_1 := fz_ BK160 1
     have hfz11_2 := fz_ BK160 2
     have hfz11_3 := fz_ BK160 3
     go_wp2
     go_meet
     case rel => exact ⟨_, (((l0_3.length : Int) != (l1_3.length : Int))), sp_, H', ⟨by first | omega | exact Nat.le_refl _⟩, ⟨by (with_reducible repeat (first | refine blk_drewN ?_ _ | refine blk_drew ?_ | refine blk_alloc ?_ _)); exact BK159.out⟩, ⟨by (with_reducible repeat (first | refine blk_drewN ?_ _ | refine blk_drew ?_ | refine blk_alloc ?_ _)); exact BK160.out⟩, ⟨bl_⟩⟩
    ·rw [if_neg c8] at H
     have c8b0 : ((l0_0.length : Int) == (l1_0.length : Int)) = false := beq_eq_false_iff_ne.mpr c8
     have c8b1 : ((l0_0.length : Int) != (l1_0.length : Int)) = true := bne_iff_ne.mpr c8
     have c8b2 : (l0_0.length == l1_0.length) = false := by first | simpa using c8 | (simp at c8 ⊢; omega)
     have H' := Aside0.mk H
     clear H
     have hnb12 := NB159_160.out
     have hnc12 := NB160_159.out
     have hcz13_0 := cz_ BK159 0 (.slice A0_0 l0_0.length c0_0)
     have hcz13_1 := cz_ BK159 1 (.int .i64 a0_1)
     have hcz13_2 := cz_ BK159 2 (.int .i64 a0_2)
     have hcz13_3 := cz_ BK159 3 (.slice A0_3 l0_3.length c0_3)
     have hfz13_0 := fz_ BK159 0
     have hfz13_1 := fz_ BK159 1
     have hfz13_2 := fz_ BK159 2
     have hfz13_3 := fz_ BK159 3
     have hcz14_0 := cz_ BK160 0 (.slice A1_0 l1_0.length c1_0)
     have hcz14_1 := cz_ BK160 1 (.int .i64 a1_1)
     have hcz14_2 := cz_ BK160 2 (.int .i64 a1_2)
     have hcz14_3 := cz_ BK160 3 (.slice A1_3 l1_3.length c1_3)
     have hfz14_0 := fz_ BK160 0
     have hfz14_1 := fz_ BK160 1
     have hfz14_2 := fz_ BK160 2
     have hfz14_3 := fz_ BK160 3
     go_wp2
     go_meet
     case rel => exact ⟨_, (true), sp_, H', ⟨by first | omega | exact Nat.le_refl _⟩, ⟨by (with_reducible repeat (first | refine blk_drewN ?_ _ | refine blk_drew ?_ | refine blk_alloc ?_ _)); exact BK159.out⟩, ⟨by (with_reducible repeat (first | refine blk_drewN ?_ _ | refine blk_drew ?_ | refine blk_alloc ?_ _)); exact BK160.out⟩, ⟨bl_⟩⟩
   ·rw [if_neg c7] at H
    have c7b0 : (a0_2 == a1_2) = false := beq_eq_false_iff_ne.mpr c7
    have c7b1 : (a0_2 != a1_2) = true := bne_iff_ne.mpr c7
    have H' := Aside0.mk H
    clear H
    have hnb15 := NB159_160.out
    have hnc15 := NB160_159.out
    have hcz16_0 := cz_ BK159 0 (.slice A0_0 l0_0.length c0_0)
    have hcz16_1 := cz_ BK159 1 (.int .i64 a0_1)
    have hcz16_2 := cz_ BK159 2 (.int .i64 a0_2)
    have hcz16_3 := cz_ BK159 3 (.slice A0_3 l0_3.length c0_3)
    have hfz16_0 := fz_ BK159 0
    have hfz16_1 := fz_ BK159 1
    have hfz16_2 := fz_ BK159 2
    have hfz16_3 := fz_ BK159 3
    have hcz17_0 := cz_ BK160 0 (.slice A1_0 l1_0.length c1_0)
    have hcz17_1 := cz_ BK160 1 (.int .i64 a1_1)
    have hcz17_2 := cz_ BK160 2 (.int .i64 a1_2)
    have hcz17_3 := cz_ BK160 3 (.slice A1_3 l1_3.length c1_3)
    have hfz17_0 := fz_ BK160 0
    have hfz17_1 := fz_ BK160 1
    have hfz17_2 := fz_ BK160 2
    have hfz17_3 := fz_ BK160 3
    go_wp2
    go_meet
    case rel => exact ⟨_, (true), sp_, H', ⟨by first | omega | exact Nat.le_refl _⟩, ⟨by (with_reducible repeat (first | refine blk_drewN ?_ _ | refine blk_drew ?_ | refine blk_alloc ?_ _)); exact BK159.out⟩, ⟨by (with_reducible repeat (first | refine blk_drewN ?_ _ | refine blk_drew ?_ | refine blk_alloc ?_ _)); exact BK160.out⟩, ⟨bl_⟩⟩
  ·rw [if_neg c6] at H
   have c6b0 : (a0_1 == a1_1) = false := beq_eq_false_iff_ne.mpr c6
   have c6b1 : (a0_1 != a1_1) = true := bne_iff_ne.mpr c6
   (first | rw [c6b0] | (simp only [i64_w, i32_w]; rw [c6b0]) | skip)
   have H' := Aside0.mk H
   clear H
   have hnb18 := NB159_160.out
   have hnc18 := NB160_159.out
   have hcz19_0 := cz_ BK159 0 (.slice A0_0 l0_0.length c0_0)
   have hcz19_1 := cz_ BK159 1 (.int .i64 a0_1)
   have hcz19_2 := cz_ BK159 2 (.int .i64 a0_2)
   have hcz19_3 := cz_ BK159 3 (.slice A0_3 l0_3.length c0_3)
   have hfz19_0 := fz_ BK159 0
   have hfz19_1 := fz_ BK159 1
   have hfz19_2 := fz_ BK159 2
   have hfz19_3 := fz_ BK159 3
   have hcz20_0 := cz_ BK160 0 (.slice A1_0 l1_0.length c1_0)
   have hcz20_1 := cz_ BK160 1 (.int .i64 a1_1)
   have hcz20_2 := cz_ BK160 2 (.int .i64 a1_2)
   have hcz20_3 := cz_ BK160 3 (.slice A1_3 l1_3.length c1_3)
   have hfz20_0 := fz_ BK160 0
   have hfz20_1 := fz_ BK160 1
   have hfz20_2 := fz_ BK160 2
   have hfz20_3 := fz_ BK160 3
   go_wp2
   go_meet
   case rel => exact ⟨_, (true), sp_, H', ⟨by first | omega | exact Nat.le_refl _⟩, ⟨by (with_reducible repeat (first | refine blk_drewN ?_ _ | refine blk_drew ?_ | refine blk_alloc ?_ _)); exact BK159.out⟩, ⟨by (with_reducible repeat (first | refine blk_drewN ?_ _ | refine blk_drew ?_ | refine blk_alloc ?_ _)); exact BK160.out⟩, ⟨bl_⟩⟩
 case rest =>
  clear HC3
  try clear c1
  try clear p2
  try clear c3
  try clear c6
  try clear c6b0
  try clear c6b1
  try clear c7
  try clear c7b0
  try clear c7b1
  try clear c8
  try clear c8b0
  try clear c8b1
  try clear c8b2
  try clear c9
  try clear c12
  try clear c15
  try clear c18
  try clear hcz10_0
  try clear hcz10_1
  try clear hcz10_2
  try clear hcz10_3
  try clear hcz11_0
  try clear hcz11_1
  try clear hcz11_2
  try clear hcz11_3
  try clear hcz13_0
  try clear hcz13_1
  try clear hcz13_2
  try clear hcz13_3
  try clear hcz14_0
  try clear hcz14_1
  try clear hcz14_2
  try clear hcz14_3
  try clear hcz16_0
  try clear hcz16_1
  try clear hcz16_2
  try clear hcz16_3
  try clear hcz17_0
  try clear hcz17_1
  try clear hcz17_2
  try clear hcz17_3
  try clear hcz19_0
  try clear hcz19_1
  try clear hcz19_2
  try clear hcz19_3
  try clear hcz20_0
  try clear hcz20_1
  try clear hcz20_2
  try clear hcz20_3
  try clear hfz10_0
  try clear hfz10_1
  try clear hfz10_2
  try clear hfz10_3
  try clear hfz11_0
  try clear hfz11_1
  try clear hfz11_2
  try clear hfz11_3
  try clear hfz13_0
  try clear hfz13_1
  try clear hfz13_2
  try clear hfz13_3
  try clear hfz14_0
  try clear hfz14_1
  try clear hfz14_2
  try clear hfz14_3
  try clear hfz16_0
  try clear hfz16_1
  try clear hfz16_2
  try clear hfz16_3
  try clear hfz17_0
  try clear hfz17_1
  try clear hfz17_2
  try clear hfz17_3
  try clear hfz19_0
  try clear hfz19_1
  try clear hfz19_2
  try clear hfz19_3
  try clear hfz20_0
  try clear hfz20_1
  try clear hfz20_2
  try clear hfz20_3
  obtain ⟨kq, x38_2, rfl, HA, HJ2, BK159, BK160, HB⟩ := hcut
  cases kq with
  | zero => exact absurd HA.out (by simp [spec_WorldSame.j0])
  | succ kj2 =>
   have H := HA.out
   clear HA
   simp only [spec_WorldSame.j0] at H
   by_cases c21 : x38_2 = true
   ·subst c21
    replace H := ip_ H
    obtain rfl := Option.some.inj H
    go_wp2
    go_ret
    exact ⟨sq_, bl_⟩
   ·replace c21 := Bool.eq_false_iff.mpr c21
    subst c21
    replace H := in_ H
    have H' := Aside0.mk H
    clear H
    have hnb22 := NB159_160.out
    have hnc22 := NB160_159.out
    have hcz23_0 := cz_ BK159 0 (.slice A0_0 l0_0.length c0_0)
    have hcz23_1 := cz_ BK159 1 (.int .i64 a0_1)
    have hcz23_2 := cz_ BK159 2 (.int .i64 a0_2)
    have hcz23_3 := cz_ BK159 3 (.slice A0_3 l0_3.length c0_3)
    have hfz23_0 := fz_ BK159 0
    have hfz23_1 := fz_ BK159 1
    have hfz23_2 := fz_ BK159 2
    have hfz23_3 := fz_ BK159 3
    go_wp2
    go_loopg [42] kj2 (fun kq v42 w' => ∃ (x42_2 : Int), v42 = .int .i64 x42_2 ∧ Aside0 (spec_WorldSame.l0 kq l0_0 (l0_0.length : Int) x42_2 l0_0 a0_1 a0_2 l0_3 l1_0 a1_1 a1_2 l1_3 = some r) ∧ Aside0 (kq ≤ kj2) ∧ Aside0 (w'.heap[gb159]? = some (.cells #[(.slice A0_0 l0_0.length c0_0), .int .i64 a0_1, .int .i64 a0_2, (.slice A0_3 l0_3.length c0_3)] 56 (0, 0))) ∧ Aside0 (w'.heap[gb160]? = some (.cells #[(.slice A1_0 l1_0.length c1_0), .int .i64 a1_1, .int .i64 a1_2, (.slice A1_3 l1_3.length c1_3)] 56 (0, 0))) ∧ Aside0 (Below w.heap.size w w'))
    case atStart => exact ⟨(0), sp_, H', ⟨Nat.le_refl _⟩, ⟨by (with_reducible repeat (first | refine blk_drewN ?_ _ | refine blk_drew ?_ | refine blk_alloc ?_ _)); exact BK159.out⟩, ⟨by (with_reducible repeat (first | refine blk_drewN ?_ _ | refine blk_drew ?_ | refine blk_alloc ?_ _)); exact BK160.out⟩, ⟨bl_⟩⟩
    case round =>
     clear H'
     try clear c1
     try clear c2
     try clear p2
     try clear c3
     try clear c6
     try clear c6b0
     try clear c6b1
     try clear c7
     try clear c7b0
     try clear c7b1
     try clear c8
     try clear c8b0
     try clear c8b1
     try clear c8b2
     try clear c9
     try clear c12
     try clear c15
     try clear c18
     try clear c21
     try clear c22
     try clear hcz10_0
     try clear hcz10_1
     try clear hcz10_2
     try clear hcz10_3
     try clear hcz11_0
     try clear hcz11_1
     try clear hcz11_2
     try clear hcz11_3
     try clear hcz13_0
     try clear hcz13_1
     try clear hcz13_2
     try clear hcz13_3
     try clear hcz14_0
     try clear hcz14_1
     try clear hcz14_2
     try clear hcz14_3
     try clear hcz16_0
     try clear hcz16_1
     try clear hcz16_2
     try clear hcz16_3
     try clear hcz17_0
     try clear hcz17_1
     try clear hcz17_2
     try clear hcz17_3
     try clear hcz19_0
     try clear hcz19_1
     try clear hcz19_2
     try clear hcz19_3
     try clear hcz20_0
     try clear hcz20_1
     try clear hcz20_2
     try clear hcz20_3
     try clear hcz23_0
     try clear hcz23_1
     try clear hcz23_2
     try clear hcz23_3
     try clear hfz10_0
     try clear hfz10_1
     try clear hfz10_2
     try clear hfz10_3
     try clear hfz11_0
     try clear hfz11_1
     try clear hfz11_2
     try clear hfz11_3
     try clear hfz13_0
     try clear hfz13_1
     try clear hfz13_2
     try clear hfz13_3
     try clear hfz14_0
     try clear hfz14_1
     try clear hfz14_2
     try clear hfz14_3
     try clear hfz16_0
     try clear hfz16_1
     try clear hfz16_2
     try clear hfz16_3
     try clear hfz17_0
     try clear hfz17_1
     try clear hfz17_2
     try clear hfz17_3
     try clear hfz19_0
     try clear hfz19_1
     try clear hfz19_2
     try clear hfz19_3
     try clear hfz20_0
     try clear hfz20_1
     try clear hfz20_2
     try clear hfz20_3
     try clear hfz23_0
     try clear hfz23_1
     try clear hfz23_2
     try clear hfz23_3
     try clear p2
     obtain ⟨x42_2, rfl, HA, HK2, BK159, BK160, HB⟩ := hrel
     cases gk with
     | zero => exact absurd HA.out (by simp [spec_WorldSame.l0])
     | succ k2 =>
      have H := HA.out
      clear HA
      simp only [spec_WorldSame.l0] at H
      by_cases c24 : x42_2 < (l0_0.length : Int)
      ·rw [if_pos c24] at H
       have c24b0 : decide (x42_2 < (l0_0.length : Int)) = true := decide_eq_true c24
       clear c24
       by_cases c25 : 0 ≤ x42_2
       ·rw [if_pos c25] at H
        have c25b0 : decide (0 ≤ x42_2) = true := decide_eq_true c25
        clear c25
        by_cases c26 : x42_2 < (l0_0.length : Int)
        ·rw [if_pos c26] at H
         have c26b0 : decide (x42_2 < (l0_0.length : Int)) = true := decide_eq_true c26
         clear c26
         by_cases c27 : x42_2 < (l1_0.length : Int)
         ·rw [if_pos c27] at H
          have c27b0 : decide (x42_2 < (l1_0.length : Int)) = true := decide_eq_true c27
          clear c27
          by_cases c28 : ((rd_T121 l0_0 x42_2).f0) = ((rd_T121 l1_0 x42_2).f0)
          ·rw [if_pos c28] at H
           have c28b0 : (((rd_T121 l0_0 x42_2).f0) == ((rd_T121 l1_0 x42_2).f0)) = true := beq_iff_eq.mpr c28
           have c28b1 : (((rd_T121 l0_0 x42_2).f0) != ((rd_T121 l1_0 x42_2).f0)) = false := bne_eq_false_iff_eq.mpr c28
           clear c28
           obtain ⟨t165, A29, H⟩ := ob_ H
           by_cases c30 : t165 = true
           ·subst c30
            replace H := ip_ H
            have H' := Aside0.mk H
            clear H
            have p161 : 0 ≤ (x42_2 : Int) := od_
            have q161 : x42_2 < (l0_0.length : Int) := od_
            obtain ⟨ad161, A161_1, c161_1, e161, hx161_0, hx161_1, hl161_1, hi161_1⟩ := at_T121 HR0_0.out x42_2 p161 q161
            cases e161
            replace hx161_0 := kc_ HB hx161_0
            replace hx161_1 := kc_ HB hx161_1
            have HR161_1 := Aside0.mk hi161_1
            have HC161_1 := Aside0.mk hl161_1
            clear hi161_1 hl161_1
            replace p161 := eq_true p161
            replace q161 := eq_true q161
            try go_wp2_with (first | ((with_reducible refine gate_dst (N := 6) rfl ?_); (try (refine gate_guard (by rfl) ?_; dsimp only)); refine be_ (N := 6) (cs := #[.int .i64 0, .slice none 0 0]) (t := 121) ?_; intro gb162 hg w31 hbox hb; have BK162 := Aside0.mk (hbox); have GW162 := gw_ (w := w) hg; have GE162 := gw_ (w := w) hg; replace HB := Aside0.mk (below_step bl_ hb); have NB159_162 := Aside0.mk ((by rw [hg]; exact Nat.ne_of_lt (blk_lt (bk_ BK159)) : gb159 ≠ gb162)); have NB162_159 := Aside0.mk ((by rw [hg]; exact Nat.ne_of_gt (blk_lt (bk_ BK159)) : gb162 ≠ gb159)); replace BK159 := Aside0.mk (blk_below (bk_ BK159) hb); have NB160_162 := Aside0.mk ((by rw [hg]; exact Nat.ne_of_lt (blk_lt (bk_ BK160)) : gb160 ≠ gb162)); have NB162_160 := Aside0.mk ((by rw [hg]; exact Nat.ne_of_gt (blk_lt (bk_ BK160)) : gb162 ≠ gb160)); replace BK160 := Aside0.mk (blk_below (bk_ BK160) hb); clear hb hbox hg; have hnb32 := NB162_159.out; have hnc32 := NB159_162.out; have hnb33 := NB162_160.out; have hnc33 := NB160_162.out; obtain ⟨hcz34_0, hcz34_1, hfz34_0, hfz34_1⟩ := bx2_ BK162))
            have n0_ : Aside0 (((w31.setCell ⟨gb162, 0, none⟩ (.int .i64 ((rd_T121 l0_0 x42_2).f0))).setCell ⟨gb162, 1, none⟩ (.slice A161_1 ((rd_T121 l0_0 x42_2).f1).length c161_1)).heap[gb159]? = some (.cells #[.slice (some ad161) l0_0.length c0_0, .int .i64 a0_1, .int .i64 a0_2, .slice A0_3 l0_3.length c0_3] 56 (0, 0))) := ⟨by (with_reducible repeat (first | refine blk_drewN ?_ _ | refine blk_drew ?_ | refine blk_alloc ?_ _)); refine blk_far ?_ NB159_162.out _; (with_reducible repeat (first | refine blk_drewN ?_ _ | refine blk_drew ?_ | refine blk_alloc ?_ _)); refine blk_far ?_ NB159_162.out _; (with_reducible repeat (first | refine blk_drewN ?_ _ | refine blk_drew ?_ | refine blk_alloc ?_ _)); exact BK159.out⟩
            have n1_ : Aside0 (((w31.setCell ⟨gb162, 0, none⟩ (.int .i64 ((rd_T121 l0_0 x42_2).f0))).setCell ⟨gb162, 1, none⟩ (.slice A161_1 ((rd_T121 l0_0 x42_2).f1).length c161_1)).heap[gb160]? = some (.cells #[.slice A1_0 l1_0.length c1_0, .int .i64 a1_1, .int .i64 a1_2, .slice A1_3 l1_3.length c1_3] 56 (0, 0))) := ⟨by (with_reducible repeat (first | refine blk_drewN ?_ _ | refine blk_drew ?_ | refine blk_alloc ?_ _)); refine blk_far ?_ NB160_162.out _; (with_reducible repeat (first | refine blk_drewN ?_ _ | refine blk_drew ?_ | refine blk_alloc ?_ _)); refine blk_far ?_ NB160_162.out _; (with_reducible repeat (first | refine blk_drewN ?_ _ | refine blk_drew ?_ | refine blk_alloc ?_ _)); exact BK160.out⟩
            have n2_ : Aside0 (((w31.setCell ⟨gb162, 0, none⟩ (.int .i64 ((rd_T121 l0_0 x42_2).f0))).setCell ⟨gb162, 1, none⟩ (.slice A161_1 ((rd_T121 l0_0 x42_2).f1).length c161_1)).heap[gb162]? = some (.cells #[.int .i64 ((rd_T121 l0_0 x42_2).f0), .slice A161_1 ((rd_T121 l0_0 x42_2).f1).length c161_1] 121 (0, 0))) := ⟨by (with_reducible repeat (first | refine blk_drewN ?_ _ | refine blk_drew ?_ | refine blk_alloc ?_ _)); apply bq2_1_0_; (with_reducible repeat (first | refine blk_drewN ?_ _ | refine blk_drew ?_ | refine blk_alloc ?_ _)); exact BK162.out⟩
            have n3_ : Aside0 (Below w.heap.size w ((w31.setCell ⟨gb162, 0, none⟩ (.int .i64 ((rd_T121 l0_0 x42_2).f0))).setCell ⟨gb162, 1, none⟩ (.slice A161_1 ((rd_T121 l0_0 x42_2).f1).length c161_1))) := ⟨bl_⟩
            (try clear BK159)
            (try clear BK160)
            (try clear BK162)
            (try clear HB)
            generalize ((w31.setCell ⟨gb162, 0, none⟩ (.int .i64 ((rd_T121 l0_0 x42_2).f0))).setCell ⟨gb162, 1, none⟩ (.slice A161_1 ((rd_T121 l0_0 x42_2).f1).length c161_1)) = w35 at n0_ n1_ n2_ n3_ ⊢
            have BK159 := n0_
            have BK160 := n1_
            have BK162 := n2_
            have HB := n3_
            clear n0_ n1_ n2_ n3_
            have n0_ := Aside0.mk (blk_drew BK159.out)
            have n1_ := Aside0.mk (blk_drew BK160.out)
            have n2_ := Aside0.mk (blk_drew BK162.out)
            have n3_ := Aside0.mk (below_drew1 HB.out)
            clear BK159
            clear BK160
            clear BK162
            clear HB
            have BK159 := n0_
            have BK160 := n1_
            have BK162 := n2_
            have HB := n3_
            clear n0_ n1_ n2_ n3_
            have p163 : 0 ≤ (x42_2 : Int) := od_
            have q163 : x42_2 < (l1_0.length : Int) := od_
            obtain ⟨ad163, A163_1, c163_1, e163, hx163_0, hx163_1, hl163_1, hi163_1⟩ := at_T121 HR1_0.out x42_2 p163 q163
            have hw163_1 := hx163_1
            have hw163_0 := hx163_0
            cases e163
            replace hx163_0 := kc_ HB hx163_0
            replace hx163_1 := kc_ HB hx163_1
            have HR163_1 := Aside0.mk hi163_1
            have HC163_1 := Aside0.mk hl163_1
            clear hi163_1 hl163_1
            replace p163 := eq_true p163
            replace q163 := eq_true q163
            have p164 : 0 ≤ (x42_2 : Int) := od_
            have q164 : x42_2 < (l1_0.length : Int) := od_
            obtain ⟨ad164, A164_1, c164_1, e164, hx164_0, hx164_1, hl164_1, hi164_1⟩ := at_T121 HR1_0.out x42_2 p164 q164
            have hw164_1 := hx164_1
            have hw164_0 := hx164_0
            obtain rfl : ad163 = ad164 := (by injection e164)
            replace hx164_0 := kc_ HB hx164_0
            replace hx164_1 := kc_ HB hx164_1
            have HR164_1 := Aside0.mk hi164_1
            have HC164_1 := Aside0.mk hl164_1
            clear hi164_1 hl164_1
            replace p164 := eq_true p164
            replace q164 := eq_true q164
            have ea_ := Option.some.inj (hx163_1.symm.trans hx164_1)
            injection ea_ with ea_ en_ ec_
            subst ea_
            subst ec_
            clear en_
            refine start_ (n := 23) (S := fun w' => w'.cell? ⟨gb162, 0, none⟩ = some (.int .i64 ((rd_T121 l0_0 x42_2).f0)) ∧ w'.cell? ⟨gb162, 1, none⟩ = some (.slice A161_1 ((rd_T121 l0_0 x42_2).f1).length c161_1) ∧ w'.cell? ⟨gb160, 0, none⟩ = some (.slice (some ad163) l1_0.length c1_0) ∧ w'.cell? ⟨gb160, 1, none⟩ = some (.int .i64 a1_1) ∧ w'.cell? ⟨gb160, 2, none⟩ = some (.int .i64 a1_2) ∧ w'.cell? ⟨gb160, 3, none⟩ = some (.slice A1_3 l1_3.length c1_3) ∧ w'.cell? (ad163.add ((x42_2).toNat * 2)) = some (.int .i64 ((rd_T121 l1_0 x42_2).f0)) ∧ w'.cell? ⟨(ad163.add ((x42_2).toNat * 2)).block, (ad163.add ((x42_2).toNat * 2)).off + 1, none⟩ = some (.slice A163_1 ((rd_T121 l1_0 x42_2).f1).length c163_1) ∧ w'.cell? (ad163.add ((x42_2).toNat * 2)) = some (.int .i64 ((rd_T121 l1_0 x42_2).f0)) ∧ w'.cell? ⟨(ad163.add ((x42_2).toNat * 2)).block, (ad163.add ((x42_2).toNat * 2)).off + 1, none⟩ = some (.slice A163_1 ((rd_T121 l1_0 x42_2).f1).length c163_1)) (ds := []) tb23_0_8 (by kernel_rfl) rfl rfl ⟨cy_ BK162 0, cy_ BK162 1, cy_ BK160 0, cy_ BK160 1, cy_ BK160 2, cy_ BK160 3, (kc_ HB hw163_0), (kc_ HB hw163_1), (kc_ HB hw164_0), (kc_ HB hw164_1)⟩ (fun hHeld => ?_); refine with_tabW spec_WorldSame.tab6 spec_WorldSame.bits6 (fun HT_ HW_ => ?_)
            generalize w35.drew = w36 at BK159 BK160 BK162 HB HR163_1 HR164_1 hx163_0 hx163_1 hx164_0 hx164_1 hHeld ⊢
            refine pl_ HT_ 0 47 tb23_1_8 ?_
            refine pl_ HT_ 2 49 tb23_5_8 ?_
            refine pl_ HT_ 4 51 tb23_15_8 ?_
            refine take_ (i := 1) (N := some 48) (v := ?_) (a' := ?_) tb23_17_8 rfl rfl (take_ofW HT_.out HW_.out (by kernel_rfl)) (fun _ _ _ h => h) (Or.inl ⟨by rfl, ?_⟩) hHeld ?_ ?_
            rotate_left
            ·rintro w' ⟨s0, s1, s2, s3, s4, s5, s6, s7, s8, s9⟩
             go_simp
             with_reducible rfl
            rotate_left
            ·simp only [Act.put, q_]
             rfl
            refine take_ (i := 3) (N := some 50) (v := ?_) (a' := ?_) tb23_1f_8 rfl rfl (take_ofW HT_.out HW_.out (by kernel_rfl)) (fun _ _ _ h => h) (Or.inl ⟨by rfl, ?_⟩) hHeld ?_ ?_
            rotate_left
            ·rintro w' ⟨s0, s1, s2, s3, s4, s5, s6, s7, s8, s9⟩
             go_simp
             with_reducible rfl
            rotate_left
            ·simp only [Act.put, q_]
             rfl
            refine pl_ HT_ 5 52 tb23_3f_8 ?_
            refine pl_ HT_ 6 53 tb23_7f_8 ?_
            refine take_ (i := 7) (N := some 54) (v := ?_) (a' := ?_) tb23_ff_8 rfl rfl (take_ofW HT_.out HW_.out (by kernel_rfl)) (fun _ _ _ h => h) (Or.inl ⟨by rfl, ?_⟩) hHeld ?_ ?_
            rotate_left
            ·rintro w' ⟨s0, s1, s2, s3, s4, s5, s6, s7, s8, s9⟩
             go_simp
             with_reducible rfl
            rotate_left
            ·simp only [Act.put, q_]
             rfl
            refine pl_ HT_ 8 55 tb23_1ff_8 ?_
            refine pl_ HT_ 9 56 tb23_3ff_8 ?_
            refine pl_ HT_ 10 57 tb23_7ff_8 ?_
            refine pl_ HT_ 13 60 tb23_27ff_8 ?_
            refine pl_ HT_ 15 62 tb23_a7ff_8 ?_
            refine take_ (i := 11) (N := some 58) (v := ?_) (a' := ?_) tb23_afff_8 rfl rfl (take_ofW HT_.out HW_.out (by kernel_rfl)) (fun _ _ _ h => h) (Or.inl ⟨by rfl, ?_⟩) hHeld ?_ ?_
            rotate_left
            ·rintro w' ⟨s0, s1, s2, s3, s4, s5, s6, s7, s8, s9⟩
             go_simp
             with_reducible rfl
            rotate_left
            ·simp only [Act.put, q_]
             rfl
            refine pl_ HT_ 12 59 tb23_bfff_8 ?_
            refine take_ (i := 14) (N := some 61) (v := ?_) (a' := ?_) tb23_ffff_8 rfl rfl (take_ofW HT_.out HW_.out (by kernel_rfl)) (fun _ _ _ h => h) (Or.inl ⟨by rfl, ?_⟩) hHeld ?_ ?_
            rotate_left
            ·rintro w' ⟨s0, s1, s2, s3, s4, s5, s6, s7, s8, s9⟩
             go_simp
             with_reducible rfl
            rotate_left
            ·simp only [Act.put, q_]
             rfl
            refine pl_ HT_ 16 63 tb23_1ffff_8 ?_
            refine pl_ HT_ 17 64 tb23_3ffff_8 ?_
            refine take_ (i := 18) (N := some 65) (v := ?_) (a' := ?_) tb23_7ffff_8 rfl rfl (take_ofW HT_.out HW_.out (by kernel_rfl)) (fun _ _ _ h => h) (Or.inl ⟨by rfl, ?_⟩) hHeld ?_ ?_
            rotate_left
            ·rintro w' ⟨s0, s1, s2, s3, s4, s5, s6, s7, s8, s9⟩
             go_simp
             with_reducible rfl
            rotate_left
            ·simp only [Act.put, q_]
             rfl
            refine pl_ HT_ 19 66 tb23_fffff_8 ?_
            refine one_ (i := 20) (N := some 67) tb23_1fffff_8 rfl rfl (one_of HT_.out (by kernel_rfl)) (by decide) (fun K hK => ?_)
            refine goes_ Try.func96 (by kernel_rfl) rfl #[.agg #[.slice A161_1 ((rd_T121 l0_0 x42_2).f1).length c161_1], .agg #[.slice A163_1 ((rd_T121 l1_0 x42_2).f1).length c163_1]] (by rfl) rfl rfl gl_ ?_
            with_reducible refine (spec_BookSame.calls k2 _ _ ((rd_T121 l0_0 x42_2).f1) _ _ ((rd_T121 l1_0 x42_2).f1) true _ ?side1 ?side2 ?side3 ?side4 A29.out).mono ?_
            (case side1 => exact ca_ (Kd.C_below HR161_1.out HB.out))
            (case side2 => exact HC161_1.out)
            (case side3 => exact ca_ (Kd.C_below HR164_1.out HB.out))
            (case side4 => exact HC164_1.out)
            rintro e w37 ⟨rfl, hb⟩
            refine ⟨_, rfl, ?_⟩
            have n0_ := Aside0.mk (blk_below (bk_ BK159) hb)
            have n1_ := Aside0.mk (blk_below (bk_ BK160) hb)
            have n2_ := Aside0.mk (blk_below (bk_ BK162) hb)
            have n3_ := Aside0.mk (below_step bl_ hb)
            clear BK159
            clear BK160
            clear BK162
            clear HB
            have BK159 := n0_
            have BK160 := n1_
            have BK162 := n2_
            have HB := n3_
            clear n0_ n1_ n2_ n3_
            (try clear hb)
            (try clear hb2)
            (try clear hk)
            (try clear hi)
            refine hK.out _ _ ⟨cy_ BK162 0, cy_ BK162 1, cy_ BK160 0, cy_ BK160 1, cy_ BK160 2, cy_ BK160 3, (kc_ HB hw163_0), (kc_ HB hw163_1), (kc_ HB hw164_0), (kc_ HB hw164_1)⟩ (fun hHeld => ?_)
            clear hK K
            refine norm_ (a' := ?_) ?_ ?_
            rotate_left
            ·show Act.put _ (some 67) _ = _
             simp only [Act.put, q_]
             rfl
            refine pl_ HT_ 21 68 tb23_3fffff_8 ?_
            refine pl_ HT_ 22 69 tb23_7fffff_8 ?_
            refine done_ (done_of HT_.out (by kernel_rfl)) ?_
            try go_wp2
            go_roundg k2
            case measure => have := HJ2.out; have := HK2.out; omega
            case rel => exact ⟨(wrap64 (x42_2 + 1)), sp_, H', ⟨by have := HJ2.out; have := HK2.out; omega⟩, ⟨by (with_reducible repeat (first | refine blk_drewN ?_ _ | refine blk_drew ?_ | refine blk_alloc ?_ _)); exact BK159.out⟩, ⟨by (with_reducible repeat (first | refine blk_drewN ?_ _ | refine blk_drew ?_ | refine blk_alloc ?_ _)); exact BK160.out⟩, ⟨bl_⟩⟩
           ·replace c30 := Bool.eq_false_iff.mpr c30
            subst c30
            replace H := in_ H
            obtain rfl := Option.some.inj H
            have p161 : 0 ≤ (x42_2 : Int) := od_
            have q161 : x42_2 < (l0_0.length : Int) := od_
            obtain ⟨ad161, A161_1, c161_1, e161, hx161_0, hx161_1, hl161_1, hi161_1⟩ := at_T121 HR0_0.out x42_2 p161 q161
            cases e161
            replace hx161_0 := kc_ HB hx161_0
            replace hx161_1 := kc_ HB hx161_1
            have HR161_1 := Aside0.mk hi161_1
            have HC161_1 := Aside0.mk hl161_1
            clear hi161_1 hl161_1
            replace p161 := eq_true p161
            replace q161 := eq_true q161
            try go_wp2_with (first | ((with_reducible refine gate_dst (N := 6) rfl ?_); (try (refine gate_guard (by rfl) ?_; dsimp only)); refine be_ (N := 6) (cs := #[.int .i64 0, .slice none 0 0]) (t := 121) ?_; intro gb162 hg w38 hbox hb; have BK162 := Aside0.mk (hbox); have GW162 := gw_ (w := w) hg; have GE162 := gw_ (w := w) hg; replace HB := Aside0.mk (below_step bl_ hb); have NB159_162 := Aside0.mk ((by rw [hg]; exact Nat.ne_of_lt (blk_lt (bk_ BK159)) : gb159 ≠ gb162)); have NB162_159 := Aside0.mk ((by rw [hg]; exact Nat.ne_of_gt (blk_lt (bk_ BK159)) : gb162 ≠ gb159)); replace BK159 := Aside0.mk (blk_below (bk_ BK159) hb); have NB160_162 := Aside0.mk ((by rw [hg]; exact Nat.ne_of_lt (blk_lt (bk_ BK160)) : gb160 ≠ gb162)); have NB162_160 := Aside0.mk ((by rw [hg]; exact Nat.ne_of_gt (blk_lt (bk_ BK160)) : gb162 ≠ gb160)); replace BK160 := Aside0.mk (blk_below (bk_ BK160) hb); clear hb hbox hg; have hnb39 := NB162_159.out; have hnc39 := NB159_162.out; have hnb40 := NB162_160.out; have hnc40 := NB160_162.out; obtain ⟨hcz41_0, hcz41_1, hfz41_0, hfz41_1⟩ := bx2_ BK162))
            have n0_ : Aside0 (((w38.setCell ⟨gb162, 0, none⟩ (.int .i64 ((rd_T121 l0_0 x42_2).f0))).setCell ⟨gb162, 1, none⟩ (.slice A161_1 ((rd_T121 l0_0 x42_2).f1).length c161_1)).heap[gb159]? = some (.cells #[.slice (some ad161) l0_0.length c0_0, .int .i64 a0_1, .int .i64 a0_2, .slice A0_3 l0_3.length c0_3] 56 (0, 0))) := ⟨by (with_reducible repeat (first | refine blk_drewN ?_ _ | refine blk_drew ?_ | refine blk_alloc ?_ _)); refine blk_far ?_ NB159_162.out _; (with_reducible repeat (first | refine blk_drewN ?_ _ | refine blk_drew ?_ | refine blk_alloc ?_ _)); refine blk_far ?_ NB159_162.out _; (with_reducible repeat (first | refine blk_drewN ?_ _ | refine blk_drew ?_ | refine blk_alloc ?_ _)); exact BK159.out⟩
            have n1_ : Aside0 (((w38.setCell ⟨gb162, 0, none⟩ (.int .i64 ((rd_T121 l0_0 x42_2).f0))).setCell ⟨gb162, 1, none⟩ (.slice A161_1 ((rd_T121 l0_0 x42_2).f1).length c161_1)).heap[gb160]? = some (.cells #[.slice A1_0 l1_0.length c1_0, .int .i64 a1_1, .int .i64 a1_2, .slice A1_3 l1_3.length c1_3] 56 (0, 0))) := ⟨by (with_reducible repeat (first | refine blk_drewN ?_ _ | refine blk_drew ?_ | refine blk_alloc ?_ _)); refine blk_far ?_ NB160_162.out _; (with_reducible repeat (first | refine blk_drewN ?_ _ | refine blk_drew ?_ | refine blk_alloc ?_ _)); refine blk_far ?_ NB160_162.out _; (with_reducible repeat (first | refine blk_drewN ?_ _ | refine blk_drew ?_ | refine blk_alloc ?_ _)); exact BK160.out⟩
            have n2_ : Aside0 (((w38.setCell ⟨gb162, 0, none⟩ (.int .i64 ((rd_T121 l0_0 x42_2).f0))).setCell ⟨gb162, 1, none⟩ (.slice A161_1 ((rd_T121 l0_0 x42_2).f1).length c161_1)).heap[gb162]? = some (.cells #[.int .i64 ((rd_T121 l0_0 x42_2).f0), .slice A161_1 ((rd_T121 l0_0 x42_2).f1).length c161_1] 121 (0, 0))) := ⟨by (with_reducible repeat (first | refine blk_drewN ?_ _ | refine blk_drew ?_ | refine blk_alloc ?_ _)); apply bq2_1_0_; (with_reducible repeat (first | refine blk_drewN ?_ _ | refine blk_drew ?_ | refine blk_alloc ?_ _)); exact BK162.out⟩
            have n3_ : Aside0 (Below w.heap.size w ((w38.setCell ⟨gb162, 0, none⟩ (.int .i64 ((rd_T121 l0_0 x42_2).f0))).setCell ⟨gb162, 1, none⟩ (.slice A161_1 ((rd_T121 l0_0 x42_2).f1).length c161_1))) := ⟨bl_⟩
            (try clear BK159)
            (try clear BK160)
            (try clear BK162)
            (try clear HB)
            generalize ((w38.setCell ⟨gb162, 0, none⟩ (.int .i64 ((rd_T121 l0_0 x42_2).f0))).setCell ⟨gb162, 1, none⟩ (.slice A161_1 ((rd_T121 l0_0 x42_2).f1).length c161_1)) = w42 at n0_ n1_ n2_ n3_ ⊢
            have BK159 := n0_
            have BK160 := n1_
            have BK162 := n2_
            have HB := n3_
            clear n0_ n1_ n2_ n3_
            have n0_ := Aside0.mk (blk_drew BK159.out)
            have n1_ := Aside0.mk (blk_drew BK160.out)
            have n2_ := Aside0.mk (blk_drew BK162.out)
            have n3_ := Aside0.mk (below_drew1 HB.out)
            clear BK159
            clear BK160
            clear BK162
            clear HB
            have BK159 := n0_
            have BK160 := n1_
            have BK162 := n2_
            have HB := n3_
            clear n0_ n1_ n2_ n3_
            have p163 : 0 ≤ (x42_2 : Int) := od_
            have q163 : x42_2 < (l1_0.length : Int) := od_
            obtain ⟨ad163, A163_1, c163_1, e163, hx163_0, hx163_1, hl163_1, hi163_1⟩ := at_T121 HR1_0.out x42_2 p163 q163
            have hw163_1 := hx163_1
            have hw163_0 := hx163_0
            cases e163
            replace hx163_0 := kc_ HB hx163_0
            replace hx163_1 := kc_ HB hx163_1
            have HR163_1 := Aside0.mk hi163_1
            have HC163_1 := Aside0.mk hl163_1
            clear hi163_1 hl163_1
            replace p163 := eq_true p163
            replace q163 := eq_true q163
            have p164 : 0 ≤ (x42_2 : Int) := od_
            have q164 : x42_2 < (l1_0.length : Int) := od_
            obtain ⟨ad164, A164_1, c164_1, e164, hx164_0, hx164_1, hl164_1, hi164_1⟩ := at_T121 HR1_0.out x42_2 p164 q164
            have hw164_1 := hx164_1
            have hw164_0 := hx164_0
            obtain rfl : ad163 = ad164 := (by injection e164)
            replace hx164_0 := kc_ HB hx164_0
            replace hx164_1 := kc_ HB hx164_1
            have HR164_1 := Aside0.mk hi164_1
            have HC164_1 := Aside0.mk hl164_1
            clear hi164_1 hl164_1
            replace p164 := eq_true p164
            replace q164 := eq_true q164
            have ea_ := Option.some.inj (hx163_1.symm.trans hx164_1)
            injection ea_ with ea_ en_ ec_
            subst ea_
            subst ec_
            clear en_
            refine start_ (n := 23) (S := fun w' => w'.cell? ⟨gb162, 0, none⟩ = some (.int .i64 ((rd_T121 l0_0 x42_2).f0)) ∧ w'.cell? ⟨gb162, 1, none⟩ = some (.slice A161_1 ((rd_T121 l0_0 x42_2).f1).length c161_1) ∧ w'.cell? ⟨gb160, 0, none⟩ = some (.slice (some ad163) l1_0.length c1_0) ∧ w'.cell? ⟨gb160, 1, none⟩ = some (.int .i64 a1_1) ∧ w'.cell? ⟨gb160, 2, none⟩ = some (.int .i64 a1_2) ∧ w'.cell? ⟨gb160, 3, none⟩ = some (.slice A1_3 l1_3.length c1_3) ∧ w'.cell? (ad163.add ((x42_2).toNat * 2)) = some (.int .i64 ((rd_T121 l1_0 x42_2).f0)) ∧ w'.cell? ⟨(ad163.add ((x42_2).toNat * 2)).block, (ad163.add ((x42_2).toNat * 2)).off + 1, none⟩ = some (.slice A163_1 ((rd_T121 l1_0 x42_2).f1).length c163_1) ∧ w'.cell? (ad163.add ((x42_2).toNat * 2)) = some (.int .i64 ((rd_T121 l1_0 x42_2).f0)) ∧ w'.cell? ⟨(ad163.add ((x42_2).toNat * 2)).block, (ad163.add ((x42_2).toNat * 2)).off + 1, none⟩ = some (.slice A163_1 ((rd_T121 l1_0 x42_2).f1).length c163_1)) (ds := []) tb23_0_8 (by kernel_rfl) rfl rfl ⟨cy_ BK162 0, cy_ BK162 1, cy_ BK160 0, cy_ BK160 1, cy_ BK160 2, cy_ BK160 3, (kc_ HB hw163_0), (kc_ HB hw163_1), (kc_ HB hw164_0), (kc_ HB hw164_1)⟩ (fun hHeld => ?_); refine with_tabW spec_WorldSame.tab6 spec_WorldSame.bits6 (fun HT_ HW_ => ?_)
            generalize w42.drew = w43 at BK159 BK160 BK162 HB HR163_1 HR164_1 hx163_0 hx163_1 hx164_0 hx164_1 hHeld ⊢
            refine pl_ HT_ 0 47 tb23_1_8 ?_
            refine pl_ HT_ 2 49 tb23_5_8 ?_
            refine pl_ HT_ 4 51 tb23_15_8 ?_
            refine take_ (i := 1) (N := some 48) (v := ?_) (a' := ?_) tb23_17_8 rfl rfl (take_ofW HT_.out HW_.out (by kernel_rfl)) (fun _ _ _ h => h) (Or.inl ⟨by rfl, ?_⟩) hHeld ?_ ?_
            rotate_left
            ·rintro w' ⟨s0, s1, s2, s3, s4, s5, s6, s7, s8, s9⟩
             go_simp
             with_reducible rfl
            rotate_left
            ·simp only [Act.put, q_]
             rfl
            refine take_ (i := 3) (N := some 50) (v := ?_) (a' := ?_) tb23_1f_8 rfl rfl (take_ofW HT_.out HW_.out (by kernel_rfl)) (fun _ _ _ h => h) (Or.inl ⟨by rfl, ?_⟩) hHeld ?_ ?_
            rotate_left
            ·rintro w' ⟨s0, s1, s2, s3, s4, s5, s6, s7, s8, s9⟩
             go_simp
             with_reducible rfl
            rotate_left
            ·simp only [Act.put, q_]
             rfl
            refine pl_ HT_ 5 52 tb23_3f_8 ?_
            refine pl_ HT_ 6 53 tb23_7f_8 ?_
            refine take_ (i := 7) (N := some 54) (v := ?_) (a' := ?_) tb23_ff_8 rfl rfl (take_ofW HT_.out HW_.out (by kernel_rfl)) (fun _ _ _ h => h) (Or.inl ⟨by rfl, ?_⟩) hHeld ?_ ?_
            rotate_left
            ·rintro w' ⟨s0, s1, s2, s3, s4, s5, s6, s7, s8, s9⟩
             go_simp
             with_reducible rfl
            rotate_left
            ·simp only [Act.put, q_]
             rfl
            refine pl_ HT_ 8 55 tb23_1ff_8 ?_
            refine pl_ HT_ 9 56 tb23_3ff_8 ?_
            refine pl_ HT_ 10 57 tb23_7ff_8 ?_
            refine pl_ HT_ 13 60 tb23_27ff_8 ?_
            refine pl_ HT_ 15 62 tb23_a7ff_8 ?_
            refine take_ (i := 11) (N := some 58) (v := ?_) (a' := ?_) tb23_afff_8 rfl rfl (take_ofW HT_.out HW_.out (by kernel_rfl)) (fun _ _ _ h => h) (Or.inl ⟨by rfl, ?_⟩) hHeld ?_ ?_
            rotate_left
            ·rintro w' ⟨s0, s1, s2, s3, s4, s5, s6, s7, s8, s9⟩
             go_simp
             with_reducible rfl
            rotate_left
            ·simp only [Act.put, q_]
             rfl
            refine pl_ HT_ 12 59 tb23_bfff_8 ?_
            refine take_ (i := 14) (N := some 61) (v := ?_) (a' := ?_) tb23_ffff_8 rfl rfl (take_ofW HT_.out HW_.out (by kernel_rfl)) (fun _ _ _ h => h) (Or.inl ⟨by rfl, ?_⟩) hHeld ?_ ?_
            rotate_left
            ·rintro w' ⟨s0, s1, s2, s3, s4, s5, s6, s7, s8, s9⟩
             go_simp
             with_reducible rfl
            rotate_left
            ·simp only [Act.put, q_]
             rfl
            refine pl_ HT_ 16 63 tb23_1ffff_8 ?_
            refine pl_ HT_ 17 64 tb23_3ffff_8 ?_
            refine take_ (i := 18) (N := some 65) (v := ?_) (a' := ?_) tb23_7ffff_8 rfl rfl (take_ofW HT_.out HW_.out (by kernel_rfl)) (fun _ _ _ h => h) (Or.inl ⟨by rfl, ?_⟩) hHeld ?_ ?_
            rotate_left
            ·rintro w' ⟨s0, s1, s2, s3, s4, s5, s6, s7, s8, s9⟩
             go_simp
             with_reducible rfl
            rotate_left
            ·simp only [Act.put, q_]
             rfl
            refine pl_ HT_ 19 66 tb23_fffff_8 ?_
            refine one_ (i := 20) (N := some 67) tb23_1fffff_8 rfl rfl (one_of HT_.out (by kernel_rfl)) (by decide) (fun K hK => ?_)
            refine goes_ Try.func96 (by kernel_rfl) rfl #[.agg #[.slice A161_1 ((rd_T121 l0_0 x42_2).f1).length c161_1], .agg #[.slice A163_1 ((rd_T121 l1_0 x42_2).f1).length c163_1]] (by rfl) rfl rfl gl_ ?_
            with_reducible refine (spec_BookSame.calls k2 _ _ ((rd_T121 l0_0 x42_2).f1) _ _ ((rd_T121 l1_0 x42_2).f1) false _ ?side1 ?side2 ?side3 ?side4 A29.out).mono ?_
            (case side1 => exact ca_ (Kd.C_below HR161_1.out HB.out))
            (case side2 => exact HC161_1.out)
            (case side3 => exact ca_ (Kd.C_below HR164_1.out HB.out))
            (case side4 => exact HC164_1.out)
            rintro e w44 ⟨rfl, hb⟩
            refine ⟨_, rfl, ?_⟩
            have n0_ := Aside0.mk (blk_below (bk_ BK159) hb)
            have n1_ := Aside0.mk (blk_below (bk_ BK160) hb)
            have n2_ := Aside0.mk (blk_below (bk_ BK162) hb)
            have n3_ := Aside0.mk (below_step bl_ hb)
            clear BK159
            clear BK160
            clear BK162
            clear HB
            have BK159 := n0_
            have BK160 := n1_
            have BK162 := n2_
            have HB := n3_
            clear n0_ n1_ n2_ n3_
            (try clear hb)
            (try clear hb2)
            (try clear hk)
            (try clear hi)
            refine hK.out _ _ ⟨cy_ BK162 0, cy_ BK162 1, cy_ BK160 0, cy_ BK160 1, cy_ BK160 2, cy_ BK160 3, (kc_ HB hw163_0), (kc_ HB hw163_1), (kc_ HB hw164_0), (kc_ HB hw164_1)⟩ (fun hHeld => ?_)
            clear hK K
            refine norm_ (a' := ?_) ?_ ?_
            rotate_left
            ·show Act.put _ (some 67) _ = _
             simp only [Act.put, q_]
             rfl
            refine pl_ HT_ 21 68 tb23_3fffff_8 ?_
            refine pl_ HT_ 22 69 tb23_7fffff_8 ?_
            refine done_ (done_of HT_.out (by kernel_rfl)) ?_
            try go_wp2
            go_ret
            exact ⟨sq_, bl_⟩
          ·rw [if_neg c28] at H
           have c28b0 : (((rd_T121 l0_0 x42_2).f0) == ((rd_T121 l1_0 x42_2).f0)) = false := beq_eq_false_iff_ne.mpr c28
           have c28b1 : (((rd_T121 l0_0 x42_2).f0) != ((rd_T121 l1_0 x42_2).f0)) = true := bne_iff_ne.mpr c28
           obtain rfl := Option.some.inj H
           have p161 : 0 ≤ (x42_2 : Int) := od_
           have q161 : x42_2 < (l0_0.length : Int) := od_
           obtain ⟨ad161, A161_1, c161_1, e161, hx161_0, hx161_1, hl161_1, hi161_1⟩ := at_T121 HR0_0.out x42_2 p161 q161
           cases e161
           replace hx161_0 := kc_ HB hx161_0
           replace hx161_1 := kc_ HB hx161_1
           have HR161_1 := Aside0.mk hi161_1
           have HC161_1 := Aside0.mk hl161_1
           clear hi161_1 hl161_1
           replace p161 := eq_true p161
           replace q161 := eq_true q161
           try go_wp2_with (first | ((with_reducible refine gate_dst (N := 6) rfl ?_); (try (refine gate_guard (by rfl) ?_; dsimp only)); refine be_ (N := 6) (cs := #[.int .i64 0, .slice none 0 0]) (t := 121) ?_; intro gb162 hg w45 hbox hb; have BK162 := Aside0.mk (hbox); have GW162 := gw_ (w := w) hg; have GE162 := gw_ (w := w) hg; replace HB := Aside0.mk (below_step bl_ hb); have NB159_162 := Aside0.mk ((by rw [hg]; exact Nat.ne_of_lt (blk_lt (bk_ BK159)) : gb159 ≠ gb162)); have NB162_159 := Aside0.mk ((by rw [hg]; exact Nat.ne_of_gt (blk_lt (bk_ BK159)) : gb162 ≠ gb159)); replace BK159 := Aside0.mk (blk_below (bk_ BK159) hb); have NB160_162 := Aside0.mk ((by rw [hg]; exact Nat.ne_of_lt (blk_lt (bk_ BK160)) : gb160 ≠ gb162)); have NB162_160 := Aside0.mk ((by rw [hg]; exact Nat.ne_of_gt (blk_lt (bk_ BK160)) : gb162 ≠ gb160)); replace BK160 := Aside0.mk (blk_below (bk_ BK160) hb); clear hb hbox hg; have hnb46 := NB162_159.out; have hnc46 := NB159_162.out; have hnb47 := NB162_160.out; have hnc47 := NB160_162.out; obtain ⟨hcz48_0, hcz48_1, hfz48_0, hfz48_1⟩ := bx2_ BK162))
           have n0_ : Aside0 (((w45.setCell ⟨gb162, 0, none⟩ (.int .i64 ((rd_T121 l0_0 x42_2).f0))).setCell ⟨gb162, 1, none⟩ (.slice A161_1 ((rd_T121 l0_0 x42_2).f1).length c161_1)).heap[gb159]? = some (.cells #[.slice (some ad161) l0_0.length c0_0, .int .i64 a0_1, .int .i64 a0_2, .slice A0_3 l0_3.length c0_3] 56 (0, 0))) := ⟨by (with_reducible repeat (first | refine blk_drewN ?_ _ | refine blk_drew ?_ | refine blk_alloc ?_ _)); refine blk_far ?_ NB159_162.out _; (with_reducible repeat (first | refine blk_drewN ?_ _ | refine blk_drew ?_ | refine blk_alloc ?_ _)); refine blk_far ?_ NB159_162.out _; (with_reducible repeat (first | refine blk_drewN ?_ _ | refine blk_drew ?_ | refine blk_alloc ?_ _)); exact BK159.out⟩
           have n1_ : Aside0 (((w45.setCell ⟨gb162, 0, none⟩ (.int .i64 ((rd_T121 l0_0 x42_2).f0))).setCell ⟨gb162, 1, none⟩ (.slice A161_1 ((rd_T121 l0_0 x42_2).f1).length c161_1)).heap[gb160]? = some (.cells #[.slice A1_0 l1_0.length c1_0, .int .i64 a1_1, .int .i64 a1_2, .slice A1_3 l1_3.length c1_3] 56 (0, 0))) := ⟨by (with_reducible repeat (first | refine blk_drewN ?_ _ | refine blk_drew ?_ | refine blk_alloc ?_ _)); refine blk_far ?_ NB160_162.out _; (with_reducible repeat (first | refine blk_drewN ?_ _ | refine blk_drew ?_ | refine blk_alloc ?_ _)); refine blk_far ?_ NB160_162.out _; (with_reducible repeat (first | refine blk_drewN ?_ _ | refine blk_drew ?_ | refine blk_alloc ?_ _)); exact BK160.out⟩
           have n2_ : Aside0 (((w45.setCell ⟨gb162, 0, none⟩ (.int .i64 ((rd_T121 l0_0 x42_2).f0))).setCell ⟨gb162, 1, none⟩ (.slice A161_1 ((rd_T121 l0_0 x42_2).f1).length c161_1)).heap[gb162]? = some (.cells #[.int .i64 ((rd_T121 l0_0 x42_2).f0), .slice A161_1 ((rd_T121 l0_0 x42_2).f1).length c161_1] 121 (0, 0))) := ⟨by (with_reducible repeat (first | refine blk_drewN ?_ _ | refine blk_drew ?_ | refine blk_alloc ?_ _)); apply bq2_1_0_; (with_reducible repeat (first | refine blk_drewN ?_ _ | refine blk_drew ?_ | refine blk_alloc ?_ _)); exact BK162.out⟩
           have n3_ : Aside0 (Below w.heap.size w ((w45.setCell ⟨gb162, 0, none⟩ (.int .i64 ((rd_T121 l0_0 x42_2).f0))).setCell ⟨gb162, 1, none⟩ (.slice A161_1 ((rd_T121 l0_0 x42_2).f1).length c161_1))) := ⟨bl_⟩
           (try clear BK159)
           (try clear BK160)
           (try clear BK162)
           (try clear HB)
           generalize ((w45.setCell ⟨gb162, 0, none⟩ (.int .i64 ((rd_T121 l0_0 x42_2).f0))).setCell ⟨gb162, 1, none⟩ (.slice A161_1 ((rd_T121 l0_0 x42_2).f1).length c161_1)) = w49 at n0_ n1_ n2_ n3_ ⊢
           have BK159 := n0_
           have BK160 := n1_
           have BK162 := n2_
           have HB := n3_
           clear n0_ n1_ n2_ n3_
           have n0_ := Aside0.mk (blk_drew BK159.out)
           have n1_ := Aside0.mk (blk_drew BK160.out)
           have n2_ := Aside0.mk (blk_drew BK162.out)
           have n3_ := Aside0.mk (below_drew1 HB.out)
           clear BK159
           clear BK160
           clear BK162
           clear HB
           have BK159 := n0_
           have BK160 := n1_
           have BK162 := n2_
           have HB := n3_
           clear n0_ n1_ n2_ n3_
           have p163 : 0 ≤ (x42_2 : Int) := od_
           have q163 : x42_2 < (l1_0.length : Int) := od_
           obtain ⟨ad163, A163_1, c163_1, e163, hx163_0, hx163_1, hl163_1, hi163_1⟩ := at_T121 HR1_0.out x42_2 p163 q163
           have hw163_1 := hx163_1
           have hw163_0 := hx163_0
           cases e163
           replace hx163_0 := kc_ HB hx163_0
           replace hx163_1 := kc_ HB hx163_1
           have HR163_1 := Aside0.mk hi163_1
           have HC163_1 := Aside0.mk hl163_1
           clear hi163_1 hl163_1
           replace p163 := eq_true p163
           replace q163 := eq_true q163
           refine start_ (n := 23) (S := fun w' => w'.cell? ⟨gb162, 0, none⟩ = some (.int .i64 ((rd_T121 l0_0 x42_2).f0)) ∧ w'.cell? ⟨gb162, 1, none⟩ = some (.slice A161_1 ((rd_T121 l0_0 x42_2).f1).length c161_1) ∧ w'.cell? ⟨gb160, 0, none⟩ = some (.slice (some ad163) l1_0.length c1_0) ∧ w'.cell? ⟨gb160, 1, none⟩ = some (.int .i64 a1_1) ∧ w'.cell? ⟨gb160, 2, none⟩ = some (.int .i64 a1_2) ∧ w'.cell? ⟨gb160, 3, none⟩ = some (.slice A1_3 l1_3.length c1_3) ∧ w'.cell? (ad163.add ((x42_2).toNat * 2)) = some (.int .i64 ((rd_T121 l1_0 x42_2).f0)) ∧ w'.cell? ⟨(ad163.add ((x42_2).toNat * 2)).block, (ad163.add ((x42_2).toNat * 2)).off + 1, none⟩ = some (.slice A163_1 ((rd_T121 l1_0 x42_2).f1).length c163_1)) (ds := []) tb23_0_8 (by kernel_rfl) rfl rfl ⟨cy_ BK162 0, cy_ BK162 1, cy_ BK160 0, cy_ BK160 1, cy_ BK160 2, cy_ BK160 3, (kc_ HB hw163_0), (kc_ HB hw163_1)⟩ (fun hHeld => ?_); refine with_tabW spec_WorldSame.tab6 spec_WorldSame.bits6 (fun HT_ HW_ => ?_)
           generalize w49.drew = w50 at BK159 BK160 BK162 HB HR163_1 hx163_0 hx163_1 hHeld ⊢
           refine pl_ HT_ 0 47 tb23_1_8 ?_
           refine pl_ HT_ 2 49 tb23_5_8 ?_
           refine pl_ HT_ 4 51 tb23_15_8 ?_
           refine take_ (i := 1) (N := some 48) (v := ?_) (a' := ?_) tb23_17_8 rfl rfl (take_ofW HT_.out HW_.out (by kernel_rfl)) (fun _ _ _ h => h) (Or.inl ⟨by rfl, ?_⟩) hHeld ?_ ?_
           rotate_left
           ·rintro w' ⟨s0, s1, s2, s3, s4, s5, s6, s7⟩
            go_simp
            with_reducible rfl
           rotate_left
           ·simp only [Act.put, q_]
            rfl
           refine take_ (i := 3) (N := some 50) (v := ?_) (a' := ?_) tb23_1f_8 rfl rfl (take_ofW HT_.out HW_.out (by kernel_rfl)) (fun _ _ _ h => h) (Or.inl ⟨by rfl, ?_⟩) hHeld ?_ ?_
           rotate_left
           ·rintro w' ⟨s0, s1, s2, s3, s4, s5, s6, s7⟩
            go_simp
            with_reducible rfl
           rotate_left
           ·simp only [Act.put, q_]
            rfl
           refine pl_ HT_ 5 52 tb23_3f_8 ?_
           refine pl_ HT_ 6 53 tb23_7f_8 ?_
           refine take_ (i := 7) (N := some 54) (v := ?_) (a' := ?_) tb23_ff_8 rfl rfl (take_ofW HT_.out HW_.out (by kernel_rfl)) (fun _ _ _ h => h) (Or.inl ⟨by rfl, ?_⟩) hHeld ?_ ?_
           rotate_left
           ·rintro w' ⟨s0, s1, s2, s3, s4, s5, s6, s7⟩
            go_simp
            with_reducible rfl
           rotate_left
           ·simp only [Act.put, q_]
            rfl
           refine pl_ HT_ 8 55 tb23_1ff_8 ?_
           refine pl_ HT_ 9 56 tb23_3ff_8 ?_
           refine pr_ HT_ 10 57 tb23_7ff_8 ?_
           refine pr_ HT_ 11 58 tb23_fff_8 ?_
           refine pr_ HT_ 12 59 tb23_1fff_8 ?_
           refine pr_ HT_ 13 60 tb23_3fff_8 ?_
           refine pr_ HT_ 14 61 tb23_7fff_8 ?_
           refine pr_ HT_ 15 62 tb23_ffff_8 ?_
           refine pr_ HT_ 16 63 tb23_1ffff_8 ?_
           refine pr_ HT_ 17 64 tb23_3ffff_8 ?_
           refine pr_ HT_ 18 65 tb23_7ffff_8 ?_
           refine pr_ HT_ 19 66 tb23_fffff_8 ?_
           refine pr_ HT_ 20 67 tb23_1fffff_8 ?_
           refine pr_ HT_ 21 68 tb23_3fffff_8 ?_
           refine pl_ HT_ 22 69 tb23_7fffff_8 ?_
           refine done_ (done_of HT_.out (by kernel_rfl)) ?_
           try go_wp2
           go_ret
           exact ⟨sq_, bl_⟩
         ·rw [if_neg c27] at H
          exact absurd H (by simp)
        ·rw [if_neg c26] at H
         exact absurd H (by simp)
       ·rw [if_neg c25] at H
        exact absurd H (by simp)
      ·rw [if_neg c24] at H
       have c24b0 : decide (x42_2 < (l0_0.length : Int)) = false := decide_eq_false c24
       clear c24
       have H' := Aside0.mk H
       clear H
       have hnb51 := NB159_160.out
       have hnc51 := NB160_159.out
       have hcz52_0 := cz_ BK159 0 (.slice A0_0 l0_0.length c0_0)
       have hcz52_1 := cz_ BK159 1 (.int .i64 a0_1)
       have hcz52_2 := cz_ BK159 2 (.int .i64 a0_2)
       have hcz52_3 := cz_ BK159 3 (.slice A0_3 l0_3.length c0_3)
       have hfz52_0 := fz_ BK159 0
       have hfz52_1 := fz_ BK159 1
       have hfz52_2 := fz_ BK159 2
       have hfz52_3 := fz_ BK159 3
       go_wp2
       go_loopg [74] k2 (fun kq v74 w' => ∃ (x74_3 : Int), v74 = .int .i64 x74_3 ∧ Aside0 (spec_WorldSame.l1 kq l0_3 (l0_3.length : Int) x74_3 l1_0 a1_1 a1_2 l1_3 = some r) ∧ Aside0 (kq ≤ k2) ∧ Aside0 (w'.heap[gb159]? = some (.cells #[(.slice A0_0 l0_0.length c0_0), .int .i64 a0_1, .int .i64 a0_2, (.slice A0_3 l0_3.length c0_3)] 56 (0, 0))) ∧ Aside0 (w'.heap[gb160]? = some (.cells #[(.slice A1_0 l1_0.length c1_0), .int .i64 a1_1, .int .i64 a1_2, (.slice A1_3 l1_3.length c1_3)] 56 (0, 0))) ∧ Aside0 (Below w.heap.size w w'))
       case atStart => exact ⟨(0), sp_, H', ⟨Nat.le_refl _⟩, ⟨by (with_reducible repeat (first | refine blk_drewN ?_ _ | refine blk_drew ?_ | refine blk_alloc ?_ _)); exact BK159.out⟩, ⟨by (with_reducible repeat (first | refine blk_drewN ?_ _ | refine blk_drew ?_ | refine blk_alloc ?_ _)); exact BK160.out⟩, ⟨bl_⟩⟩
       case round =>
        clear H'
        try clear c1
        try clear p1
        try clear q1
        try clear hx1
        try clear c2
        try clear p2
        try clear c3
        try clear c4
        try clear c5
        try clear p6
        try clear c9
        try clear c16
        try clear p16
        try clear q16
        try clear hx16
        try clear c24
        try clear c24b0
        try clear c25
        try clear c26
        try clear c27
        try clear c28
        try clear c28b0
        try clear c28b1
        try clear c30
        try clear c39
        try clear c40
        try clear c46
        try clear c47
        try clear c51
        try clear hcz41_0
        try clear hcz41_1
        try clear hcz48_0
        try clear hcz48_1
        try clear hcz52_0
        try clear hcz52_1
        try clear hcz52_2
        try clear hcz52_3
        try clear hfz41_0
        try clear hfz41_1
        try clear hfz48_0
        try clear hfz48_1
        try clear hfz52_0
        try clear hfz52_1
        try clear hfz52_2
        try clear hfz52_3
        try clear hx161_0
        try clear hx161_1
        try clear hx163_0
        try clear hx163_1
        try clear hx164_0
        try clear hx164_1
        try clear p161
        try clear p163
        try clear p164
        try clear q161
        try clear q163
        try clear q164
        obtain ⟨x74_3, rfl, HA, HK3, BK159, BK160, HB⟩ := hrel
        cases gk with
        | zero => exact absurd HA.out (by simp [spec_WorldSame.l1])
        | succ k3 =>
         have H := HA.out
         clear HA
         simp only [spec_WorldSame.l1] at H
         by_cases c53 : x74_3 < (l0_3.length : Int)
         ·rw [if_pos c53] at H
          have c53b0 : decide (x74_3 < (l0_3.length : Int)) = true := decide_eq_true c53
          clear c53
          by_cases c54 : 0 ≤ x74_3
          ·rw [if_pos c54] at H
           have c54b0 : decide (0 ≤ x74_3) = true := decide_eq_true c54
           clear c54
           by_cases c55 : x74_3 < (l0_3.length : Int)
           ·rw [if_pos c55] at H
            have c55b0 : decide (x74_3 < (l0_3.length : Int)) = true := decide_eq_true c55
            clear c55
            by_cases c56 : x74_3 < (l1_3.length : Int)
            ·rw [if_pos c56] at H
             have c56b0 : decide (x74_3 < (l1_3.length : Int)) = true := decide_eq_true c56
             clear c56
             obtain ⟨t169, A57, H⟩ := ob_ H
             by_cases c58 : t169 = true
             ·subst c58
              replace H := ip_ H
              have H' := Aside0.mk H
              clear H
              have p166 : 0 ≤ (x74_3 : Int) := od_
              have q166 : x74_3 < (l0_3.length : Int) := od_
              obtain ⟨ad166, A166_0, c166_0, A166_2, c166_2, A166_8, c166_8, e166, hx166_0, hx166_1, hx166_2, hx166_3, hx166_4, hx166_5, hx166_6, hx166_7, hx166_8, hl166_0, hi166_0, hl166_2, hi166_2, hl166_8, hi166_8⟩ := at_T126 HR0_3.out x74_3 p166 q166
              cases e166
              replace hx166_0 := kc_ HB hx166_0
              replace hx166_1 := kc_ HB hx166_1
              replace hx166_2 := kc_ HB hx166_2
              replace hx166_3 := kc_ HB hx166_3
              replace hx166_4 := kc_ HB hx166_4
              replace hx166_5 := kc_ HB hx166_5
              replace hx166_6 := kc_ HB hx166_6
              replace hx166_7 := kc_ HB hx166_7
              replace hx166_8 := kc_ HB hx166_8
              have HR166_0 := Aside0.mk hi166_0
              have HC166_0 := Aside0.mk hl166_0
              clear hi166_0 hl166_0
              have HR166_2 := Aside0.mk hi166_2
              have HC166_2 := Aside0.mk hl166_2
              clear hi166_2 hl166_2
              have HR166_8 := Aside0.mk hi166_8
              have HC166_8 := Aside0.mk hl166_8
              clear hi166_8 hl166_8
              replace p166 := eq_true p166
              replace q166 := eq_true q166
              try go_wp2_with (first | ((with_reducible refine gate_dst (N := 8) rfl ?_); (try (refine gate_guard (by rfl) ?_; dsimp only)); refine be_ (N := 8) (cs := #[.slice none 0 0, .int .i64 0, .slice none 0 0, .int .i64 0, .int .i64 0, .int .i64 0, .int .i64 0, .int .i64 0, .slice none 0 0]) (t := 126) ?_; intro gb167 hg w59 hbox hb; have BK167 := Aside0.mk (hbox); have GW167 := gw_ (w := w) hg; have GE167 := gw_ (w := w) hg; replace HB := Aside0.mk (below_step bl_ hb); have NB159_167 := Aside0.mk ((by rw [hg]; exact Nat.ne_of_lt (blk_lt (bk_ BK159)) : gb159 ≠ gb167)); have NB167_159 := Aside0.mk ((by rw [hg]; exact Nat.ne_of_gt (blk_lt (bk_ BK159)) : gb167 ≠ gb159)); replace BK159 := Aside0.mk (blk_below (bk_ BK159) hb); have NB160_167 := Aside0.mk ((by rw [hg]; exact Nat.ne_of_lt (blk_lt (bk_ BK160)) : gb160 ≠ gb167)); have NB167_160 := Aside0.mk ((by rw [hg]; exact Nat.ne_of_gt (blk_lt (bk_ BK160)) : gb167 ≠ gb160)); replace BK160 := Aside0.mk (blk_below (bk_ BK160) hb); clear hb hbox hg; have hnb60 := NB167_159.out; have hnc60 := NB159_167.out; have hnb61 := NB167_160.out; have hnc61 := NB160_167.out; obtain ⟨hcz62_0, hcz62_1, hcz62_2, hcz62_3, hcz62_4, hcz62_5, hcz62_6, hcz62_7, hcz62_8, hfz62_0, hfz62_1, hfz62_2, hfz62_3, hfz62_4, hfz62_5, hfz62_6, hfz62_7, hfz62_8⟩ := bx9_ BK167))
              have n0_ : Aside0 ((((((((((w59.setCell ⟨gb167, 0, none⟩ (.slice A166_0 ((rd_T126 l0_3 x74_3).f0).length c166_0)).setCell ⟨gb167, 1, none⟩ (.int .i64 ((rd_T126 l0_3 x74_3).f1))).setCell ⟨gb167, 2, none⟩ (.slice A166_2 ((rd_T126 l0_3 x74_3).f2).length c166_2)).setCell ⟨gb167, 3, none⟩ (.int .i64 ((rd_T126 l0_3 x74_3).f3))).setCell ⟨gb167, 4, none⟩ (.int .i64 ((rd_T126 l0_3 x74_3).f4))).setCell ⟨gb167, 5, none⟩ (.int .i64 ((rd_T126 l0_3 x74_3).f5))).setCell ⟨gb167, 6, none⟩ (.int .i64 ((rd_T126 l0_3 x74_3).f6))).setCell ⟨gb167, 7, none⟩ (.int .i64 ((rd_T126 l0_3 x74_3).f7))).setCell ⟨gb167, 8, none⟩ (.slice A166_8 ((rd_T126 l0_3 x74_3).f8).length c166_8)).heap[gb159]? = some (.cells #[.slice A0_0 l0_0.length c0_0, .int .i64 a0_1, .int .i64 a0_2, .slice (some ad166) l0_3.length c0_3] 56 (0, 0))) := ⟨by (with_reducible repeat (first | refine blk_drewN ?_ _ | refine blk_drew ?_ | refine blk_alloc ?_ _)); refine blk_far ?_ NB159_167.out _; (with_reducible repeat (first | refine blk_drewN ?_ _ | refine blk_drew ?_ | refine blk_alloc ?_ _)); refine blk_far ?_ NB159_167.out _; (with_reducible repeat (first | refine blk_drewN ?_ _ | refine blk_drew ?_ | refine blk_alloc ?_ _)); refine blk_far ?_ NB159_167.out _; (with_reducible repeat (first | refine blk_drewN ?_ _ | refine blk_drew ?_ | refine blk_alloc ?_ _)); refine blk_far ?_ NB159_167.out _; (with_reducible repeat (first | refine blk_drewN ?_ _ | refine blk_drew ?_ | refine blk_alloc ?_ _)); refine blk_far ?_ NB159_167.out _; (with_reducible repeat (first | refine blk_drewN ?_ _ | refine blk_drew ?_ | refine blk_alloc ?_ _)); refine blk_far ?_ NB159_167.out _; (with_reducible repeat (first | refine blk_drewN ?_ _ | refine blk_drew ?_ | refine blk_alloc ?_ _)); refine blk_far ?_ NB159_167.out _; (with_reducible repeat (first | refine blk_drewN ?_ _ | refine blk_drew ?_ | refine blk_alloc ?_ _)); refine blk_far ?_ NB159_167.out _; (with_reducible repeat (first | refine blk_drewN ?_ _ | refine blk_drew ?_ | refine blk_alloc ?_ _)); refine blk_far ?_ NB159_167.out _; (with_reducible repeat (first | refine blk_drewN ?_ _ | refine blk_drew ?_ | refine blk_alloc ?_ _)); exact BK159.out⟩
              have n1_ : Aside0 ((((((((((w59.setCell ⟨gb167, 0, none⟩ (.slice A166_0 ((rd_T126 l0_3 x74_3).f0).length c166_0)).setCell ⟨gb167, 1, none⟩ (.int .i64 ((rd_T126 l0_3 x74_3).f1))).setCell ⟨gb167, 2, none⟩ (.slice A166_2 ((rd_T126 l0_3 x74_3).f2).length c166_2)).setCell ⟨gb167, 3, none⟩ (.int .i64 ((rd_T126 l0_3 x74_3).f3))).setCell ⟨gb167, 4, none⟩ (.int .i64 ((rd_T126 l0_3 x74_3).f4))).setCell ⟨gb167, 5, none⟩ (.int .i64 ((rd_T126 l0_3 x74_3).f5))).setCell ⟨gb167, 6, none⟩ (.int .i64 ((rd_T126 l0_3 x74_3).f6))).setCell ⟨gb167, 7, none⟩ (.int .i64 ((rd_T126 l0_3 x74_3).f7))).setCell ⟨gb167, 8, none⟩ (.slice A166_8 ((rd_T126 l0_3 x74_3).f8).length c166_8)).heap[gb160]? = some (.cells #[.slice A1_0 l1_0.length c1_0, .int .i64 a1_1, .int .i64 a1_2, .slice A1_3 l1_3.length c1_3] 56 (0, 0))) := ⟨by (with_reducible repeat (first | refine blk_drewN ?_ _ | refine blk_drew ?_ | refine blk_alloc ?_ _)); refine blk_far ?_ NB160_167.out _; (with_reducible repeat (first | refine blk_drewN ?_ _ | refine blk_drew ?_ | refine blk_alloc ?_ _)); refine blk_far ?_ NB160_167.out _; (with_reducible repeat (first | refine blk_drewN ?_ _ | refine blk_drew ?_ | refine blk_alloc ?_ _)); refine blk_far ?_ NB160_167.out _; (with_reducible repeat (first | refine blk_drewN ?_ _ | refine blk_drew ?_ | refine blk_alloc ?_ _)); refine blk_far ?_ NB160_167.out _; (with_reducible repeat (first | refine blk_drewN ?_ _ | refine blk_drew ?_ | refine blk_alloc ?_ _)); refine blk_far ?_ NB160_167.out _; (with_reducible repeat (first | refine blk_drewN ?_ _ | refine blk_drew ?_ | refine blk_alloc ?_ _)); refine blk_far ?_ NB160_167.out _; (with_reducible repeat (first | refine blk_drewN ?_ _ | refine blk_drew ?_ | refine blk_alloc ?_ _)); refine blk_far ?_ NB160_167.out _; (with_reducible repeat (first | refine blk_drewN ?_ _ | refine blk_drew ?_ | refine blk_alloc ?_ _)); refine blk_far ?_ NB160_167.out _; (with_reducible repeat (first | refine blk_drewN ?_ _ | refine blk_drew ?_ | refine blk_alloc ?_ _)); refine blk_far ?_ NB160_167.out _; (with_reducible repeat (first | refine blk_drewN ?_ _ | refine blk_drew ?_ | refine blk_alloc ?_ _)); exact BK160.out⟩
              have n2_ : Aside0 ((((((((((w59.setCell ⟨gb167, 0, none⟩ (.slice A166_0 ((rd_T126 l0_3 x74_3).f0).length c166_0)).setCell ⟨gb167, 1, none⟩ (.int .i64 ((rd_T126 l0_3 x74_3).f1))).setCell ⟨gb167, 2, none⟩ (.slice A166_2 ((rd_T126 l0_3 x74_3).f2).length c166_2)).setCell ⟨gb167, 3, none⟩ (.int .i64 ((rd_T126 l0_3 x74_3).f3))).setCell ⟨gb167, 4, none⟩ (.int .i64 ((rd_T126 l0_3 x74_3).f4))).setCell ⟨gb167, 5, none⟩ (.int .i64 ((rd_T126 l0_3 x74_3).f5))).setCell ⟨gb167, 6, none⟩ (.int .i64 ((rd_T126 l0_3 x74_3).f6))).setCell ⟨gb167, 7, none⟩ (.int .i64 ((rd_T126 l0_3 x74_3).f7))).setCell ⟨gb167, 8, none⟩ (.slice A166_8 ((rd_T126 l0_3 x74_3).f8).length c166_8)).heap[gb167]? = some (.cells #[.slice A166_0 ((rd_T126 l0_3 x74_3).f0).length c166_0, .int .i64 ((rd_T126 l0_3 x74_3).f1), .slice A166_2 ((rd_T126 l0_3 x74_3).f2).length c166_2, .int .i64 ((rd_T126 l0_3 x74_3).f3), .int .i64 ((rd_T126 l0_3 x74_3).f4), .int .i64 ((rd_T126 l0_3 x74_3).f5), .int .i64 ((rd_T126 l0_3 x74_3).f6), .int .i64 ((rd_T126 l0_3 x74_3).f7), .slice A166_8 ((rd_T126 l0_3 x74_3).f8).length c166_8] 126 (0, 0))) := ⟨by (with_reducible repeat (first | refine blk_drewN ?_ _ | refine blk_drew ?_ | refine blk_alloc ?_ _)); apply bq9_8_7_6_5_4_3_2_1_0_; (with_reducible repeat (first | refine blk_drewN ?_ _ | refine blk_drew ?_ | refine blk_alloc ?_ _)); exact BK167.out⟩
              have n3_ : Aside0 (Below w.heap.size w (((((((((w59.setCell ⟨gb167, 0, none⟩ (.slice A166_0 ((rd_T126 l0_3 x74_3).f0).length c166_0)).setCell ⟨gb167, 1, none⟩ (.int .i64 ((rd_T126 l0_3 x74_3).f1))).setCell ⟨gb167, 2, none⟩ (.slice A166_2 ((rd_T126 l0_3 x74_3).f2).length c166_2)).setCell ⟨gb167, 3, none⟩ (.int .i64 ((rd_T126 l0_3 x74_3).f3))).setCell ⟨gb167, 4, none⟩ (.int .i64 ((rd_T126 l0_3 x74_3).f4))).setCell ⟨gb167, 5, none⟩ (.int .i64 ((rd_T126 l0_3 x74_3).f5))).setCell ⟨gb167, 6, none⟩ (.int .i64 ((rd_T126 l0_3 x74_3).f6))).setCell ⟨gb167, 7, none⟩ (.int .i64 ((rd_T126 l0_3 x74_3).f7))).setCell ⟨gb167, 8, none⟩ (.slice A166_8 ((rd_T126 l0_3 x74_3).f8).length c166_8))) := ⟨bl_⟩
              (try clear BK159)
              (try clear BK160)
              (try clear BK167)
              (try clear HB)
              generalize (((((((((w59.setCell ⟨gb167, 0, none⟩ (.slice A166_0 ((rd_T126 l0_3 x74_3).f0).length c166_0)).setCell ⟨gb167, 1, none⟩ (.int .i64 ((rd_T126 l0_3 x74_3).f1))).setCell ⟨gb167, 2, none⟩ (.slice A166_2 ((rd_T126 l0_3 x74_3).f2).length c166_2)).setCell ⟨gb167, 3, none⟩ (.int .i64 ((rd_T126 l0_3 x74_3).f3))).setCell ⟨gb167, 4, none⟩ (.int .i64 ((rd_T126 l0_3 x74_3).f4))).setCell ⟨gb167, 5, none⟩ (.int .i64 ((rd_T126 l0_3 x74_3).f5))).setCell ⟨gb167, 6, none⟩ (.int .i64 ((rd_T126 l0_3 x74_3).f6))).setCell ⟨gb167, 7, none⟩ (.int .i64 ((rd_T126 l0_3 x74_3).f7))).setCell ⟨gb167, 8, none⟩ (.slice A166_8 ((rd_T126 l0_3 x74_3).f8).length c166_8)) = w63 at n0_ n1_ n2_ n3_ ⊢
              have BK159 := n0_
              have BK160 := n1_
              have BK167 := n2_
              have HB := n3_
              clear n0_ n1_ n2_ n3_
              have n0_ := Aside0.mk (blk_drew BK159.out)
              have n1_ := Aside0.mk (blk_drew BK160.out)
              have n2_ := Aside0.mk (blk_drew BK167.out)
              have n3_ := Aside0.mk (below_drew1 HB.out)
              clear BK159
              clear BK160
              clear BK167
              clear HB
              have BK159 := n0_
              have BK160 := n1_
              have BK167 := n2_
              have HB := n3_
              clear n0_ n1_ n2_ n3_
              have p168 : 0 ≤ (x74_3 : Int) := od_
              have q168 : x74_3 < (l1_3.length : Int) := od_
              obtain ⟨ad168, A168_0, c168_0, A168_2, c168_2, A168_8, c168_8, e168, hx168_0, hx168_1, hx168_2, hx168_3, hx168_4, hx168_5, hx168_6, hx168_7, hx168_8, hl168_0, hi168_0, hl168_2, hi168_2, hl168_8, hi168_8⟩ := at_T126 HR1_3.out x74_3 p168 q168
              have hw168_8 := hx168_8
              have hw168_7 := hx168_7
              have hw168_6 := hx168_6
              have hw168_5 := hx168_5
              have hw168_4 := hx168_4
              have hw168_3 := hx168_3
              have hw168_2 := hx168_2
              have hw168_1 := hx168_1
              have hw168_0 := hx168_0
              cases e168
              replace hx168_0 := kc_ HB hx168_0
              replace hx168_1 := kc_ HB hx168_1
              replace hx168_2 := kc_ HB hx168_2
              replace hx168_3 := kc_ HB hx168_3
              replace hx168_4 := kc_ HB hx168_4
              replace hx168_5 := kc_ HB hx168_5
              replace hx168_6 := kc_ HB hx168_6
              replace hx168_7 := kc_ HB hx168_7
              replace hx168_8 := kc_ HB hx168_8
              have HR168_0 := Aside0.mk hi168_0
              have HC168_0 := Aside0.mk hl168_0
              clear hi168_0 hl168_0
              have HR168_2 := Aside0.mk hi168_2
              have HC168_2 := Aside0.mk hl168_2
              clear hi168_2 hl168_2
              have HR168_8 := Aside0.mk hi168_8
              have HC168_8 := Aside0.mk hl168_8
              clear hi168_8 hl168_8
              replace p168 := eq_true p168
              replace q168 := eq_true q168
              refine start_ (n := 8) (S := fun w' => w'.cell? ⟨gb167, 0, none⟩ = some (.slice A166_0 ((rd_T126 l0_3 x74_3).f0).length c166_0) ∧ w'.cell? ⟨gb167, 1, none⟩ = some (.int .i64 ((rd_T126 l0_3 x74_3).f1)) ∧ w'.cell? ⟨gb167, 2, none⟩ = some (.slice A166_2 ((rd_T126 l0_3 x74_3).f2).length c166_2) ∧ w'.cell? ⟨gb167, 3, none⟩ = some (.int .i64 ((rd_T126 l0_3 x74_3).f3)) ∧ w'.cell? ⟨gb167, 4, none⟩ = some (.int .i64 ((rd_T126 l0_3 x74_3).f4)) ∧ w'.cell? ⟨gb167, 5, none⟩ = some (.int .i64 ((rd_T126 l0_3 x74_3).f5)) ∧ w'.cell? ⟨gb167, 6, none⟩ = some (.int .i64 ((rd_T126 l0_3 x74_3).f6)) ∧ w'.cell? ⟨gb167, 7, none⟩ = some (.int .i64 ((rd_T126 l0_3 x74_3).f7)) ∧ w'.cell? ⟨gb167, 8, none⟩ = some (.slice A166_8 ((rd_T126 l0_3 x74_3).f8).length c166_8) ∧ w'.cell? ⟨gb160, 0, none⟩ = some (.slice A1_0 l1_0.length c1_0) ∧ w'.cell? ⟨gb160, 1, none⟩ = some (.int .i64 a1_1) ∧ w'.cell? ⟨gb160, 2, none⟩ = some (.int .i64 a1_2) ∧ w'.cell? ⟨gb160, 3, none⟩ = some (.slice (some ad168) l1_3.length c1_3) ∧ w'.cell? (ad168.add ((x74_3).toNat * 9)) = some (.slice A168_0 ((rd_T126 l1_3 x74_3).f0).length c168_0) ∧ w'.cell? ⟨(ad168.add ((x74_3).toNat * 9)).block, (ad168.add ((x74_3).toNat * 9)).off + 1, none⟩ = some (.int .i64 ((rd_T126 l1_3 x74_3).f1)) ∧ w'.cell? ⟨(ad168.add ((x74_3).toNat * 9)).block, (ad168.add ((x74_3).toNat * 9)).off + 2, none⟩ = some (.slice A168_2 ((rd_T126 l1_3 x74_3).f2).length c168_2) ∧ w'.cell? ⟨(ad168.add ((x74_3).toNat * 9)).block, (ad168.add ((x74_3).toNat * 9)).off + 3, none⟩ = some (.int .i64 ((rd_T126 l1_3 x74_3).f3)) ∧ w'.cell? ⟨(ad168.add ((x74_3).toNat * 9)).block, (ad168.add ((x74_3).toNat * 9)).off + 4, none⟩ = some (.int .i64 ((rd_T126 l1_3 x74_3).f4)) ∧ w'.cell? ⟨(ad168.add ((x74_3).toNat * 9)).block, (ad168.add ((x74_3).toNat * 9)).off + 5, none⟩ = some (.int .i64 ((rd_T126 l1_3 x74_3).f5)) ∧ w'.cell? ⟨(ad168.add ((x74_3).toNat * 9)).block, (ad168.add ((x74_3).toNat * 9)).off + 6, none⟩ = some (.int .i64 ((rd_T126 l1_3 x74_3).f6)) ∧ w'.cell? ⟨(ad168.add ((x74_3).toNat * 9)).block, (ad168.add ((x74_3).toNat * 9)).off + 7, none⟩ = some (.int .i64 ((rd_T126 l1_3 x74_3).f7)) ∧ w'.cell? ⟨(ad168.add ((x74_3).toNat * 9)).block, (ad168.add ((x74_3).toNat * 9)).off + 8, none⟩ = some (.slice A168_8 ((rd_T126 l1_3 x74_3).f8).length c168_8)) (ds := []) tb8_0_8 (by kernel_rfl) rfl rfl ⟨cy_ BK167 0, cy_ BK167 1, cy_ BK167 2, cy_ BK167 3, cy_ BK167 4, cy_ BK167 5, cy_ BK167 6, cy_ BK167 7, cy_ BK167 8, cy_ BK160 0, cy_ BK160 1, cy_ BK160 2, cy_ BK160 3, (kc_ HB hw168_0), (kc_ HB hw168_1), (kc_ HB hw168_2), (kc_ HB hw168_3), (kc_ HB hw168_4), (kc_ HB hw168_5), (kc_ HB hw168_6), (kc_ HB hw168_7), (kc_ HB hw168_8)⟩ (fun hHeld => ?_); refine with_tabW spec_WorldSame.tab12 spec_WorldSame.bits12 (fun HT_ HW_ => ?_)
              generalize w63.drew = w64 at BK159 BK160 BK167 HB HR168_0 HR168_2 HR168_8 hx168_0 hx168_1 hx168_2 hx168_3 hx168_4 hx168_5 hx168_6 hx168_7 hx168_8 hHeld ⊢
              refine pl_ HT_ 1 80 tb8_2_8 ?_
              refine pl_ HT_ 3 82 tb8_a_8 ?_
              refine take_ (i := 0) (N := some 79) (v := ?_) (a' := ?_) tb8_b_8 rfl rfl (take_ofW HT_.out HW_.out (by kernel_rfl)) (fun _ _ _ h => h) (Or.inl ⟨by rfl, ?_⟩) hHeld ?_ ?_
              rotate_left
              ·rintro w' ⟨s0, s1, s2, s3, s4, s5, s6, s7, s8, s9, s10, s11, s12, s13, s14, s15, s16, s17, s18, s19, s20, s21⟩
               go_simp
               with_reducible rfl
              rotate_left
              ·simp only [Act.put, q_]
               rfl
              refine take_ (i := 2) (N := some 81) (v := ?_) (a' := ?_) tb8_f_8 rfl rfl (take_ofW HT_.out HW_.out (by kernel_rfl)) (fun _ _ _ h => h) (Or.inl ⟨by rfl, ?_⟩) hHeld ?_ ?_
              rotate_left
              ·rintro w' ⟨s0, s1, s2, s3, s4, s5, s6, s7, s8, s9, s10, s11, s12, s13, s14, s15, s16, s17, s18, s19, s20, s21⟩
               go_simp
               with_reducible rfl
              rotate_left
              ·simp only [Act.put, q_]
               rfl
              refine pl_ HT_ 4 83 tb8_1f_8 ?_
              refine take_ (i := 5) (N := some 84) (v := ?_) (a' := ?_) tb8_3f_8 rfl rfl (take_ofW HT_.out HW_.out (by kernel_rfl)) (fun _ _ _ h => h) (Or.inl ⟨by rfl, ?_⟩) hHeld ?_ ?_
              rotate_left
              ·rintro w' ⟨s0, s1, s2, s3, s4, s5, s6, s7, s8, s9, s10, s11, s12, s13, s14, s15, s16, s17, s18, s19, s20, s21⟩
               go_simp
               with_reducible rfl
              rotate_left
              ·simp only [Act.put, q_]
               rfl
              refine one_ (i := 6) (N := some 85) tb8_7f_8 rfl rfl (one_of HT_.out (by kernel_rfl)) (by decide) (fun K hK => ?_)
              refine goes_ Try.func97 (by kernel_rfl) rfl #[.agg #[.slice A166_0 ((rd_T126 l0_3 x74_3).f0).length c166_0, .int .i64 ((rd_T126 l0_3 x74_3).f1), .slice A166_2 ((rd_T126 l0_3 x74_3).f2).length c166_2, .int .i64 ((rd_T126 l0_3 x74_3).f3), .int .i64 ((rd_T126 l0_3 x74_3).f4), .int .i64 ((rd_T126 l0_3 x74_3).f5), .int .i64 ((rd_T126 l0_3 x74_3).f6), .int .i64 ((rd_T126 l0_3 x74_3).f7), .slice A166_8 ((rd_T126 l0_3 x74_3).f8).length c166_8], .agg #[.slice A168_0 ((rd_T126 l1_3 x74_3).f0).length c168_0, .int .i64 ((rd_T126 l1_3 x74_3).f1), .slice A168_2 ((rd_T126 l1_3 x74_3).f2).length c168_2, .int .i64 ((rd_T126 l1_3 x74_3).f3), .int .i64 ((rd_T126 l1_3 x74_3).f4), .int .i64 ((rd_T126 l1_3 x74_3).f5), .int .i64 ((rd_T126 l1_3 x74_3).f6), .int .i64 ((rd_T126 l1_3 x74_3).f7), .slice A168_8 ((rd_T126 l1_3 x74_3).f8).length c168_8]] (by rfl) rfl rfl gl_ ?_
              with_reducible refine (spec_TaskSame.calls k3 _ _ ((rd_T126 l0_3 x74_3).f0) ((rd_T126 l0_3 x74_3).f1) _ _ ((rd_T126 l0_3 x74_3).f2) ((rd_T126 l0_3 x74_3).f3) ((rd_T126 l0_3 x74_3).f4) ((rd_T126 l0_3 x74_3).f5) ((rd_T126 l0_3 x74_3).f6) ((rd_T126 l0_3 x74_3).f7) _ _ ((rd_T126 l0_3 x74_3).f8) _ _ ((rd_T126 l1_3 x74_3).f0) ((rd_T126 l1_3 x74_3).f1) _ _ ((rd_T126 l1_3 x74_3).f2) ((rd_T126 l1_3 x74_3).f3) ((rd_T126 l1_3 x74_3).f4) ((rd_T126 l1_3 x74_3).f5) ((rd_T126 l1_3 x74_3).f6) ((rd_T126 l1_3 x74_3).f7) _ _ ((rd_T126 l1_3 x74_3).f8) true _ ?side1 ?side2 ?side3 ?side4 ?side5 ?side6 ?side7 ?side8 ?side9 ?side10 ?side11 ?side12 A57.out).mono ?_
              (case side1 => exact ca_ (Kd.C_below HR166_0.out HB.out))
              (case side2 => exact HC166_0.out)
              (case side3 => exact ca_ (Kd.C_below HR166_2.out HB.out))
              (case side4 => exact HC166_2.out)
              (case side5 => exact ca_ (Kd.C_below HR166_8.out HB.out))
              (case side6 => exact HC166_8.out)
              (case side7 => exact ca_ (Kd.C_below HR168_0.out HB.out))
              (case side8 => exact HC168_0.out)
              (case side9 => exact ca_ (Kd.C_below HR168_2.out HB.out))
              (case side10 => exact HC168_2.out)
              (case side11 => exact ca_ (Kd.C_below HR168_8.out HB.out))
              (case side12 => exact HC168_8.out)
              rintro e w65 ⟨rfl, hb⟩
              refine ⟨_, rfl, ?_⟩
              have n0_ := Aside0.mk (blk_below (bk_ BK159) hb)
              have n1_ := Aside0.mk (blk_below (bk_ BK160) hb)
              have n2_ := Aside0.mk (blk_below (bk_ BK167) hb)
              have n3_ := Aside0.mk (below_step bl_ hb)
              clear BK159
              clear BK160
              clear BK167
              clear HB
              have BK159 := n0_
              have BK160 := n1_
              have BK167 := n2_
              have HB := n3_
              clear n0_ n1_ n2_ n3_
              (try clear hb)
              (try clear hb2)
              (try clear hk)
              (try clear hi)
              refine hK.out _ _ ⟨cy_ BK167 0, cy_ BK167 1, cy_ BK167 2, cy_ BK167 3, cy_ BK167 4, cy_ BK167 5, cy_ BK167 6, cy_ BK167 7, cy_ BK167 8, cy_ BK160 0, cy_ BK160 1, cy_ BK160 2, cy_ BK160 3, (kc_ HB hw168_0), (kc_ HB hw168_1), (kc_ HB hw168_2), (kc_ HB hw168_3), (kc_ HB hw168_4), (kc_ HB hw168_5), (kc_ HB hw168_6), (kc_ HB hw168_7), (kc_ HB hw168_8)⟩ (fun hHeld => ?_)
              clear hK K
              refine norm_ (a' := ?_) ?_ ?_
              rotate_left
              ·show Act.put _ (some 85) _ = _
               simp only [Act.put, q_]
               rfl
              refine pl_ HT_ 7 86 tb8_ff_8 ?_
              refine done_ (done_of HT_.out (by kernel_rfl)) ?_
              try go_wp2
              go_roundg k3
              case measure => have := HJ2.out; have := HK2.out; have := HK3.out; omega
              case rel => exact ⟨(wrap64 (x74_3 + 1)), sp_, H', ⟨by have := HJ2.out; have := HK2.out; have := HK3.out; omega⟩, ⟨by (with_reducible repeat (first | refine blk_drewN ?_ _ | refine blk_drew ?_ | refine blk_alloc ?_ _)); exact BK159.out⟩, ⟨by (with_reducible repeat (first | refine blk_drewN ?_ _ | refine blk_drew ?_ | refine blk_alloc ?_ _)); exact BK160.out⟩, ⟨bl_⟩⟩
             ·replace c58 := Bool.eq_false_iff.mpr c58
              subst c58
              replace H := in_ H
              obtain rfl := Option.some.inj H
              have p166 : 0 ≤ (x74_3 : Int) := od_
              have q166 : x74_3 < (l0_3.length : Int) := od_
              obtain ⟨ad166, A166_0, c166_0, A166_2, c166_2, A166_8, c166_8, e166, hx166_0, hx166_1, hx166_2, hx166_3, hx166_4, hx166_5, hx166_6, hx166_7, hx166_8, hl166_0, hi166_0, hl166_2, hi166_2, hl166_8, hi166_8⟩ := at_T126 HR0_3.out x74_3 p166 q166
              cases e166
              replace hx166_0 := kc_ HB hx166_0
              replace hx166_1 := kc_ HB hx166_1
              replace hx166_2 := kc_ HB hx166_2
              replace hx166_3 := kc_ HB hx166_3
              replace hx166_4 := kc_ HB hx166_4
              replace hx166_5 := kc_ HB hx166_5
              replace hx166_6 := kc_ HB hx166_6
              replace hx166_7 := kc_ HB hx166_7
              replace hx166_8 := kc_ HB hx166_8
              have HR166_0 := Aside0.mk hi166_0
              have HC166_0 := Aside0.mk hl166_0
              clear hi166_0 hl166_0
              have HR166_2 := Aside0.mk hi166_2
              have HC166_2 := Aside0.mk hl166_2
              clear hi166_2 hl166_2
              have HR166_8 := Aside0.mk hi166_8
              have HC166_8 := Aside0.mk hl166_8
              clear hi166_8 hl166_8
              replace p166 := eq_true p166
              replace q166 := eq_true q166
              try go_wp2_with (first | ((with_reducible refine gate_dst (N := 8) rfl ?_); (try (refine gate_guard (by rfl) ?_; dsimp only)); refine be_ (N := 8) (cs := #[.slice none 0 0, .int .i64 0, .slice none 0 0, .int .i64 0, .int .i64 0, .int .i64 0, .int .i64 0, .int .i64 0, .slice none 0 0]) (t := 126) ?_; intro gb167 hg w66 hbox hb; have BK167 := Aside0.mk (hbox); have GW167 := gw_ (w := w) hg; have GE167 := gw_ (w := w) hg; replace HB := Aside0.mk (below_step bl_ hb); have NB159_167 := Aside0.mk ((by rw [hg]; exact Nat.ne_of_lt (blk_lt (bk_ BK159)) : gb159 ≠ gb167)); have NB167_159 := Aside0.mk ((by rw [hg]; exact Nat.ne_of_gt (blk_lt (bk_ BK159)) : gb167 ≠ gb159)); replace BK159 := Aside0.mk (blk_below (bk_ BK159) hb); have NB160_167 := Aside0.mk ((by rw [hg]; exact Nat.ne_of_lt (blk_lt (bk_ BK160)) : gb160 ≠ gb167)); have NB167_160 := Aside0.mk ((by rw [hg]; exact Nat.ne_of_gt (blk_lt (bk_ BK160)) : gb167 ≠ gb160)); replace BK160 := Aside0.mk (blk_below (bk_ BK160) hb); clear hb hbox hg; have hnb67 := NB167_159.out; have hnc67 := NB159_167.out; have hnb68 := NB167_160.out; have hnc68 := NB160_167.out; obtain ⟨hcz69_0, hcz69_1, hcz69_2, hcz69_3, hcz69_4, hcz69_5, hcz69_6, hcz69_7, hcz69_8, hfz69_0, hfz69_1, hfz69_2, hfz69_3, hfz69_4, hfz69_5, hfz69_6, hfz69_7, hfz69_8⟩ := bx9_ BK167))
              have n0_ : Aside0 ((((((((((w66.setCell ⟨gb167, 0, none⟩ (.slice A166_0 ((rd_T126 l0_3 x74_3).f0).length c166_0)).setCell ⟨gb167, 1, none⟩ (.int .i64 ((rd_T126 l0_3 x74_3).f1))).setCell ⟨gb167, 2, none⟩ (.slice A166_2 ((rd_T126 l0_3 x74_3).f2).length c166_2)).setCell ⟨gb167, 3, none⟩ (.int .i64 ((rd_T126 l0_3 x74_3).f3))).setCell ⟨gb167, 4, none⟩ (.int .i64 ((rd_T126 l0_3 x74_3).f4))).setCell ⟨gb167, 5, none⟩ (.int .i64 ((rd_T126 l0_3 x74_3).f5))).setCell ⟨gb167, 6, none⟩ (.int .i64 ((rd_T126 l0_3 x74_3).f6))).setCell ⟨gb167, 7, none⟩ (.int .i64 ((rd_T126 l0_3 x74_3).f7))).setCell ⟨gb167, 8, none⟩ (.slice A166_8 ((rd_T126 l0_3 x74_3).f8).length c166_8)).heap[gb159]? = some (.cells #[.slice A0_0 l0_0.length c0_0, .int .i64 a0_1, .int .i64 a0_2, .slice (some ad166) l0_3.length c0_3] 56 (0, 0))) := ⟨by (with_reducible repeat (first | refine blk_drewN ?_ _ | refine blk_drew ?_ | refine blk_alloc ?_ _)); refine blk_far ?_ NB159_167.out _; (with_reducible repeat (first | refine blk_drewN ?_ _ | refine blk_drew ?_ | refine blk_alloc ?_ _)); refine blk_far ?_ NB159_167.out _; (with_reducible repeat (first | refine blk_drewN ?_ _ | refine blk_drew ?_ | refine blk_alloc ?_ _)); refine blk_far ?_ NB159_167.out _; (with_reducible repeat (first | refine blk_drewN ?_ _ | refine blk_drew ?_ | refine blk_alloc ?_ _)); refine blk_far ?_ NB159_167.out _; (with_reducible repeat (first | refine blk_drewN ?_ _ | refine blk_drew ?_ | refine blk_alloc ?_ _)); refine blk_far ?_ NB159_167.out _; (with_reducible repeat (first | refine blk_drewN ?_ _ | refine blk_drew ?_ | refine blk_alloc ?_ _)); refine blk_far ?_ NB159_167.out _; (with_reducible repeat (first | refine blk_drewN ?_ _ | refine blk_drew ?_ | refine blk_alloc ?_ _)); refine blk_far ?_ NB159_167.out _; (with_reducible repeat (first | refine blk_drewN ?_ _ | refine blk_drew ?_ | refine blk_alloc ?_ _)); refine blk_far ?_ NB159_167.out _; (with_reducible repeat (first | refine blk_drewN ?_ _ | refine blk_drew ?_ | refine blk_alloc ?_ _)); refine blk_far ?_ NB159_167.out _; (with_reducible repeat (first | refine blk_drewN ?_ _ | refine blk_drew ?_ | refine blk_alloc ?_ _)); exact BK159.out⟩
              have n1_ : Aside0 ((((((((((w66.setCell ⟨gb167, 0, none⟩ (.slice A166_0 ((rd_T126 l0_3 x74_3).f0).length c166_0)).setCell ⟨gb167, 1, none⟩ (.int .i64 ((rd_T126 l0_3 x74_3).f1))).setCell ⟨gb167, 2, none⟩ (.slice A166_2 ((rd_T126 l0_3 x74_3).f2).length c166_2)).setCell ⟨gb167, 3, none⟩ (.int .i64 ((rd_T126 l0_3 x74_3).f3))).setCell ⟨gb167, 4, none⟩ (.int .i64 ((rd_T126 l0_3 x74_3).f4))).setCell ⟨gb167, 5, none⟩ (.int .i64 ((rd_T126 l0_3 x74_3).f5))).setCell ⟨gb167, 6, none⟩ (.int .i64 ((rd_T126 l0_3 x74_3).f6))).setCell ⟨gb167, 7, none⟩ (.int .i64 ((rd_T126 l0_3 x74_3).f7))).setCell ⟨gb167, 8, none⟩ (.slice A166_8 ((rd_T126 l0_3 x74_3).f8).length c166_8)).heap[gb160]? = some (.cells #[.slice A1_0 l1_0.length c1_0, .int .i64 a1_1, .int .i64 a1_2, .slice A1_3 l1_3.length c1_3] 56 (0, 0))) := ⟨by (with_reducible repeat (first | refine blk_drewN ?_ _ | refine blk_drew ?_ | refine blk_alloc ?_ _)); refine blk_far ?_ NB160_167.out _; (with_reducible repeat (first | refine blk_drewN ?_ _ | refine blk_drew ?_ | refine blk_alloc ?_ _)); refine blk_far ?_ NB160_167.out _; (with_reducible repeat (first | refine blk_drewN ?_ _ | refine blk_drew ?_ | refine blk_alloc ?_ _)); refine blk_far ?_ NB160_167.out _; (with_reducible repeat (first | refine blk_drewN ?_ _ | refine blk_drew ?_ | refine blk_alloc ?_ _)); refine blk_far ?_ NB160_167.out _; (with_reducible repeat (first | refine blk_drewN ?_ _ | refine blk_drew ?_ | refine blk_alloc ?_ _)); refine blk_far ?_ NB160_167.out _; (with_reducible repeat (first | refine blk_drewN ?_ _ | refine blk_drew ?_ | refine blk_alloc ?_ _)); refine blk_far ?_ NB160_167.out _; (with_reducible repeat (first | refine blk_drewN ?_ _ | refine blk_drew ?_ | refine blk_alloc ?_ _)); refine blk_far ?_ NB160_167.out _; (with_reducible repeat (first | refine blk_drewN ?_ _ | refine blk_drew ?_ | refine blk_alloc ?_ _)); refine blk_far ?_ NB160_167.out _; (with_reducible repeat (first | refine blk_drewN ?_ _ | refine blk_drew ?_ | refine blk_alloc ?_ _)); refine blk_far ?_ NB160_167.out _; (with_reducible repeat (first | refine blk_drewN ?_ _ | refine blk_drew ?_ | refine blk_alloc ?_ _)); exact BK160.out⟩
              have n2_ : Aside0 ((((((((((w66.setCell ⟨gb167, 0, none⟩ (.slice A166_0 ((rd_T126 l0_3 x74_3).f0).length c166_0)).setCell ⟨gb167, 1, none⟩ (.int .i64 ((rd_T126 l0_3 x74_3).f1))).setCell ⟨gb167, 2, none⟩ (.slice A166_2 ((rd_T126 l0_3 x74_3).f2).length c166_2)).setCell ⟨gb167, 3, none⟩ (.int .i64 ((rd_T126 l0_3 x74_3).f3))).setCell ⟨gb167, 4, none⟩ (.int .i64 ((rd_T126 l0_3 x74_3).f4))).setCell ⟨gb167, 5, none⟩ (.int .i64 ((rd_T126 l0_3 x74_3).f5))).setCell ⟨gb167, 6, none⟩ (.int .i64 ((rd_T126 l0_3 x74_3).f6))).setCell ⟨gb167, 7, none⟩ (.int .i64 ((rd_T126 l0_3 x74_3).f7))).setCell ⟨gb167, 8, none⟩ (.slice A166_8 ((rd_T126 l0_3 x74_3).f8).length c166_8)).heap[gb167]? = some (.cells #[.slice A166_0 ((rd_T126 l0_3 x74_3).f0).length c166_0, .int .i64 ((rd_T126 l0_3 x74_3).f1), .slice A166_2 ((rd_T126 l0_3 x74_3).f2).length c166_2, .int .i64 ((rd_T126 l0_3 x74_3).f3), .int .i64 ((rd_T126 l0_3 x74_3).f4), .int .i64 ((rd_T126 l0_3 x74_3).f5), .int .i64 ((rd_T126 l0_3 x74_3).f6), .int .i64 ((rd_T126 l0_3 x74_3).f7), .slice A166_8 ((rd_T126 l0_3 x74_3).f8).length c166_8] 126 (0, 0))) := ⟨by (with_reducible repeat (first | refine blk_drewN ?_ _ | refine blk_drew ?_ | refine blk_alloc ?_ _)); apply bq9_8_7_6_5_4_3_2_1_0_; (with_reducible repeat (first | refine blk_drewN ?_ _ | refine blk_drew ?_ | refine blk_alloc ?_ _)); exact BK167.out⟩
              have n3_ : Aside0 (Below w.heap.size w (((((((((w66.setCell ⟨gb167, 0, none⟩ (.slice A166_0 ((rd_T126 l0_3 x74_3).f0).length c166_0)).setCell ⟨gb167, 1, none⟩ (.int .i64 ((rd_T126 l0_3 x74_3).f1))).setCell ⟨gb167, 2, none⟩ (.slice A166_2 ((rd_T126 l0_3 x74_3).f2).length c166_2)).setCell ⟨gb167, 3, none⟩ (.int .i64 ((rd_T126 l0_3 x74_3).f3))).setCell ⟨gb167, 4, none⟩ (.int .i64 ((rd_T126 l0_3 x74_3).f4))).setCell ⟨gb167, 5, none⟩ (.int .i64 ((rd_T126 l0_3 x74_3).f5))).setCell ⟨gb167, 6, none⟩ (.int .i64 ((rd_T126 l0_3 x74_3).f6))).setCell ⟨gb167, 7, none⟩ (.int .i64 ((rd_T126 l0_3 x74_3).f7))).setCell ⟨gb167, 8, none⟩ (.slice A166_8 ((rd_T126 l0_3 x74_3).f8).length c166_8))) := ⟨bl_⟩
              (try clear BK159)
              (try clear BK160)
              (try clear BK167)
              (try clear HB)
              generalize (((((((((w66.setCell ⟨gb167, 0, none⟩ (.slice A166_0 ((rd_T126 l0_3 x74_3).f0).length c166_0)).setCell ⟨gb167, 1, none⟩ (.int .i64 ((rd_T126 l0_3 x74_3).f1))).setCell ⟨gb167, 2, none⟩ (.slice A166_2 ((rd_T126 l0_3 x74_3).f2).length c166_2)).setCell ⟨gb167, 3, none⟩ (.int .i64 ((rd_T126 l0_3 x74_3).f3))).setCell ⟨gb167, 4, none⟩ (.int .i64 ((rd_T126 l0_3 x74_3).f4))).setCell ⟨gb167, 5, none⟩ (.int .i64 ((rd_T126 l0_3 x74_3).f5))).setCell ⟨gb167, 6, none⟩ (.int .i64 ((rd_T126 l0_3 x74_3).f6))).setCell ⟨gb167, 7, none⟩ (.int .i64 ((rd_T126 l0_3 x74_3).f7))).setCell ⟨gb167, 8, none⟩ (.slice A166_8 ((rd_T126 l0_3 x74_3).f8).length c166_8)) = w70 at n0_ n1_ n2_ n3_ ⊢
              have BK159 := n0_
              have BK160 := n1_
              have BK167 := n2_
              have HB := n3_
              clear n0_ n1_ n2_ n3_
              have n0_ := Aside0.mk (blk_drew BK159.out)
              have n1_ := Aside0.mk (blk_drew BK160.out)
              have n2_ := Aside0.mk (blk_drew BK167.out)
              have n3_ := Aside0.mk (below_drew1 HB.out)
              clear BK159
              clear BK160
              clear BK167
              clear HB
              have BK159 := n0_
              have BK160 := n1_
              have BK167 := n2_
              have HB := n3_
              clear n0_ n1_ n2_ n3_
              have p168 : 0 ≤ (x74_3 : Int) := od_
              have q168 : x74_3 < (l1_3.length : Int) := od_
              obtain ⟨ad168, A168_0, c168_0, A168_2, c168_2, A168_8, c168_8, e168, hx168_0, hx168_1, hx168_2, hx168_3, hx168_4, hx168_5, hx168_6, hx168_7, hx168_8, hl168_0, hi168_0, hl168_2, hi168_2, hl168_8, hi168_8⟩ := at_T126 HR1_3.out x74_3 p168 q168
              have hw168_8 := hx168_8
              have hw168_7 := hx168_7
              have hw168_6 := hx168_6
              have hw168_5 := hx168_5
              have hw168_4 := hx168_4
              have hw168_3 := hx168_3
              have hw168_2 := hx168_2
              have hw168_1 := hx168_1
              have hw168_0 := hx168_0
              cases e168
              replace hx168_0 := kc_ HB hx168_0
              replace hx168_1 := kc_ HB hx168_1
              replace hx168_2 := kc_ HB hx168_2
              replace hx168_3 := kc_ HB hx168_3
              replace hx168_4 := kc_ HB hx168_4
              replace hx168_5 := kc_ HB hx168_5
              replace hx168_6 := kc_ HB hx168_6
              replace hx168_7 := kc_ HB hx168_7
              replace hx168_8 := kc_ HB hx168_8
              have HR168_0 := Aside0.mk hi168_0
              have HC168_0 := Aside0.mk hl168_0
              clear hi168_0 hl168_0
              have HR168_2 := Aside0.mk hi168_2
              have HC168_2 := Aside0.mk hl168_2
              clear hi168_2 hl168_2
              have HR168_8 := Aside0.mk hi168_8
              have HC168_8 := Aside0.mk hl168_8
              clear hi168_8 hl168_8
              replace p168 := eq_true p168
              replace q168 := eq_true q168
              refine start_ (n := 8) (S := fun w' => w'.cell? ⟨gb167, 0, none⟩ = some (.slice A166_0 ((rd_T126 l0_3 x74_3).f0).length c166_0) ∧ w'.cell? ⟨gb167, 1, none⟩ = some (.int .i64 ((rd_T126 l0_3 x74_3).f1)) ∧ w'.cell? ⟨gb167, 2, none⟩ = some (.slice A166_2 ((rd_T126 l0_3 x74_3).f2).length c166_2) ∧ w'.cell? ⟨gb167, 3, none⟩ = some (.int .i64 ((rd_T126 l0_3 x74_3).f3)) ∧ w'.cell? ⟨gb167, 4, none⟩ = some (.int .i64 ((rd_T126 l0_3 x74_3).f4)) ∧ w'.cell? ⟨gb167, 5, none⟩ = some (.int .i64 ((rd_T126 l0_3 x74_3).f5)) ∧ w'.cell? ⟨gb167, 6, none⟩ = some (.int .i64 ((rd_T126 l0_3 x74_3).f6)) ∧ w'.cell? ⟨gb167, 7, none⟩ = some (.int .i64 ((rd_T126 l0_3 x74_3).f7)) ∧ w'.cell? ⟨gb167, 8, none⟩ = some (.slice A166_8 ((rd_T126 l0_3 x74_3).f8).length c166_8) ∧ w'.cell? ⟨gb160, 0, none⟩ = some (.slice A1_0 l1_0.length c1_0) ∧ w'.cell? ⟨gb160, 1, none⟩ = some (.int .i64 a1_1) ∧ w'.cell? ⟨gb160, 2, none⟩ = some (.int .i64 a1_2) ∧ w'.cell? ⟨gb160, 3, none⟩ = some (.slice (some ad168) l1_3.length c1_3) ∧ w'.cell? (ad168.add ((x74_3).toNat * 9)) = some (.slice A168_0 ((rd_T126 l1_3 x74_3).f0).length c168_0) ∧ w'.cell? ⟨(ad168.add ((x74_3).toNat * 9)).block, (ad168.add ((x74_3).toNat * 9)).off + 1, none⟩ = some (.int .i64 ((rd_T126 l1_3 x74_3).f1)) ∧ w'.cell? ⟨(ad168.add ((x74_3).toNat * 9)).block, (ad168.add ((x74_3).toNat * 9)).off + 2, none⟩ = some (.slice A168_2 ((rd_T126 l1_3 x74_3).f2).length c168_2) ∧ w'.cell? ⟨(ad168.add ((x74_3).toNat * 9)).block, (ad168.add ((x74_3).toNat * 9)).off + 3, none⟩ = some (.int .i64 ((rd_T126 l1_3 x74_3).f3)) ∧ w'.cell? ⟨(ad168.add ((x74_3).toNat * 9)).block, (ad168.add ((x74_3).toNat * 9)).off + 4, none⟩ = some (.int .i64 ((rd_T126 l1_3 x74_3).f4)) ∧ w'.cell? ⟨(ad168.add ((x74_3).toNat * 9)).block, (ad168.add ((x74_3).toNat * 9)).off + 5, none⟩ = some (.int .i64 ((rd_T126 l1_3 x74_3).f5)) ∧ w'.cell? ⟨(ad168.add ((x74_3).toNat * 9)).block, (ad168.add ((x74_3).toNat * 9)).off + 6, none⟩ = some (.int .i64 ((rd_T126 l1_3 x74_3).f6)) ∧ w'.cell? ⟨(ad168.add ((x74_3).toNat * 9)).block, (ad168.add ((x74_3).toNat * 9)).off + 7, none⟩ = some (.int .i64 ((rd_T126 l1_3 x74_3).f7)) ∧ w'.cell? ⟨(ad168.add ((x74_3).toNat * 9)).block, (ad168.add ((x74_3).toNat * 9)).off + 8, none⟩ = some (.slice A168_8 ((rd_T126 l1_3 x74_3).f8).length c168_8)) (ds := []) tb8_0_8 (by kernel_rfl) rfl rfl ⟨cy_ BK167 0, cy_ BK167 1, cy_ BK167 2, cy_ BK167 3, cy_ BK167 4, cy_ BK167 5, cy_ BK167 6, cy_ BK167 7, cy_ BK167 8, cy_ BK160 0, cy_ BK160 1, cy_ BK160 2, cy_ BK160 3, (kc_ HB hw168_0), (kc_ HB hw168_1), (kc_ HB hw168_2), (kc_ HB hw168_3), (kc_ HB hw168_4), (kc_ HB hw168_5), (kc_ HB hw168_6), (kc_ HB hw168_7), (kc_ HB hw168_8)⟩ (fun hHeld => ?_); refine with_tabW spec_WorldSame.tab12 spec_WorldSame.bits12 (fun HT_ HW_ => ?_)
              generalize w70.drew = w71 at BK159 BK160 BK167 HB HR168_0 HR168_2 HR168_8 hx168_0 hx168_1 hx168_2 hx168_3 hx168_4 hx168_5 hx168_6 hx168_7 hx168_8 hHeld ⊢
              refine pl_ HT_ 1 80 tb8_2_8 ?_
              refine pl_ HT_ 3 82 tb8_a_8 ?_
              refine take_ (i := 0) (N := some 79) (v := ?_) (a' := ?_) tb8_b_8 rfl rfl (take_ofW HT_.out HW_.out (by kernel_rfl)) (fun _ _ _ h => h) (Or.inl ⟨by rfl, ?_⟩) hHeld ?_ ?_
              rotate_left
              ·rintro w' ⟨s0, s1, s2, s3, s4, s5, s6, s7, s8, s9, s10, s11, s12, s13, s14, s15, s16, s17, s18, s19, s20, s21⟩
               go_simp
               with_reducible rfl
              rotate_left
              ·simp only [Act.put, q_]
               rfl
              refine take_ (i := 2) (N := some 81) (v := ?_) (a' := ?_) tb8_f_8 rfl rfl (take_ofW HT_.out HW_.out (by kernel_rfl)) (fun _ _ _ h => h) (Or.inl ⟨by rfl, ?_⟩) hHeld ?_ ?_
              rotate_left
              ·rintro w' ⟨s0, s1, s2, s3, s4, s5, s6, s7, s8, s9, s10, s11, s12, s13, s14, s15, s16, s17, s18, s19, s20, s21⟩
               go_simp
               with_reducible rfl
              rotate_left
              ·simp only [Act.put, q_]
               rfl
              refine pl_ HT_ 4 83 tb8_1f_8 ?_
              refine take_ (i := 5) (N := some 84) (v := ?_) (a' := ?_) tb8_3f_8 rfl rfl (take_ofW HT_.out HW_.out (by kernel_rfl)) (fun _ _ _ h => h) (Or.inl ⟨by rfl, ?_⟩) hHeld ?_ ?_
              rotate_left
              ·rintro w' ⟨s0, s1, s2, s3, s4, s5, s6, s7, s8, s9, s10, s11, s12, s13, s14, s15, s16, s17, s18, s19, s20, s21⟩
               go_simp
               with_reducible rfl
              rotate_left
              ·simp only [Act.put, q_]
               rfl
              refine one_ (i := 6) (N := some 85) tb8_7f_8 rfl rfl (one_of HT_.out (by kernel_rfl)) (by decide) (fun K hK => ?_)
              refine goes_ Try.func97 (by kernel_rfl) rfl #[.agg #[.slice A166_0 ((rd_T126 l0_3 x74_3).f0).length c166_0, .int .i64 ((rd_T126 l0_3 x74_3).f1), .slice A166_2 ((rd_T126 l0_3 x74_3).f2).length c166_2, .int .i64 ((rd_T126 l0_3 x74_3).f3), .int .i64 ((rd_T126 l0_3 x74_3).f4), .int .i64 ((rd_T126 l0_3 x74_3).f5), .int .i64 ((rd_T126 l0_3 x74_3).f6), .int .i64 ((rd_T126 l0_3 x74_3).f7), .slice A166_8 ((rd_T126 l0_3 x74_3).f8).length c166_8], .agg #[.slice A168_0 ((rd_T126 l1_3 x74_3).f0).length c168_0, .int .i64 ((rd_T126 l1_3 x74_3).f1), .slice A168_2 ((rd_T126 l1_3 x74_3).f2).length c168_2, .int .i64 ((rd_T126 l1_3 x74_3).f3), .int .i64 ((rd_T126 l1_3 x74_3).f4), .int .i64 ((rd_T126 l1_3 x74_3).f5), .int .i64 ((rd_T126 l1_3 x74_3).f6), .int .i64 ((rd_T126 l1_3 x74_3).f7), .slice A168_8 ((rd_T126 l1_3 x74_3).f8).length c168_8]] (by rfl) rfl rfl gl_ ?_
              with_reducible refine (spec_TaskSame.calls k3 _ _ ((rd_T126 l0_3 x74_3).f0) ((rd_T126 l0_3 x74_3).f1) _ _ ((rd_T126 l0_3 x74_3).f2) ((rd_T126 l0_3 x74_3).f3) ((rd_T126 l0_3 x74_3).f4) ((rd_T126 l0_3 x74_3).f5) ((rd_T126 l0_3 x74_3).f6) ((rd_T126 l0_3 x74_3).f7) _ _ ((rd_T126 l0_3 x74_3).f8) _ _ ((rd_T126 l1_3 x74_3).f0) ((rd_T126 l1_3 x74_3).f1) _ _ ((rd_T126 l1_3 x74_3).f2) ((rd_T126 l1_3 x74_3).f3) ((rd_T126 l1_3 x74_3).f4) ((rd_T126 l1_3 x74_3).f5) ((rd_T126 l1_3 x74_3).f6) ((rd_T126 l1_3 x74_3).f7) _ _ ((rd_T126 l1_3 x74_3).f8) false _ ?side1 ?side2 ?side3 ?side4 ?side5 ?side6 ?side7 ?side8 ?side9 ?side10 ?side11 ?side12 A57.out).mono ?_
              (case side1 => exact ca_ (Kd.C_below HR166_0.out HB.out))
              (case side2 => exact HC166_0.out)
              (case side3 => exact ca_ (Kd.C_below HR166_2.out HB.out))
              (case side4 => exact HC166_2.out)
              (case side5 => exact ca_ (Kd.C_below HR166_8.out HB.out))
              (case side6 => exact HC166_8.out)
              (case side7 => exact ca_ (Kd.C_below HR168_0.out HB.out))
              (case side8 => exact HC168_0.out)
              (case side9 => exact ca_ (Kd.C_below HR168_2.out HB.out))
              (case side10 => exact HC168_2.out)
              (case side11 => exact ca_ (Kd.C_below HR168_8.out HB.out))
              (case side12 => exact HC168_8.out)
              rintro e w72 ⟨rfl, hb⟩
              refine ⟨_, rfl, ?_⟩
              have n0_ := Aside0.mk (blk_below (bk_ BK159) hb)
              have n1_ := Aside0.mk (blk_below (bk_ BK160) hb)
              have n2_ := Aside0.mk (blk_below (bk_ BK167) hb)
              have n3_ := Aside0.mk (below_step bl_ hb)
              clear BK159
              clear BK160
              clear BK167
              clear HB
              have BK159 := n0_
              have BK160 := n1_
              have BK167 := n2_
              have HB := n3_
              clear n0_ n1_ n2_ n3_
              (try clear hb)
              (try clear hb2)
              (try clear hk)
              (try clear hi)
              refine hK.out _ _ ⟨cy_ BK167 0, cy_ BK167 1, cy_ BK167 2, cy_ BK167 3, cy_ BK167 4, cy_ BK167 5, cy_ BK167 6, cy_ BK167 7, cy_ BK167 8, cy_ BK160 0, cy_ BK160 1, cy_ BK160 2, cy_ BK160 3, (kc_ HB hw168_0), (kc_ HB hw168_1), (kc_ HB hw168_2), (kc_ HB hw168_3), (kc_ HB hw168_4), (kc_ HB hw168_5), (kc_ HB hw168_6), (kc_ HB hw168_7), (kc_ HB hw168_8)⟩ (fun hHeld => ?_)
              clear hK K
              refine norm_ (a' := ?_) ?_ ?_
              rotate_left
              ·show Act.put _ (some 85) _ = _
               simp only [Act.put, q_]
               rfl
              refine pl_ HT_ 7 86 tb8_ff_8 ?_
              refine done_ (done_of HT_.out (by kernel_rfl)) ?_
              try go_wp2
              go_ret
              exact ⟨sq_, bl_⟩
            ·rw [if_neg c56] at H
             exact absurd H (by simp)
           ·rw [if_neg c55] at H
            exact absurd H (by simp)
          ·rw [if_neg c54] at H
           exact absurd H (by simp)
         ·rw [if_neg c53] at H
          have c53b0 : decide (x74_3 < (l0_3.length : Int)) = false := decide_eq_false c53
          clear c53
          obtain rfl := Option.some.inj H
          go_wp2
          go_ret
          exact ⟨sq_, bl_⟩
end Go.Proofs.Ytepjnalkpfnmcaa.QFnExactWorldSame
