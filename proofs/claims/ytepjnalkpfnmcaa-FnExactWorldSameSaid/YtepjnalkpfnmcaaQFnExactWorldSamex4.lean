-- by my own printer (myprint.py, over the kit's print.py)
import Derived.Test.YtepjnalkpfnmcaaQFnExactWorldSamex0
namespace Go.Proofs.Ytepjnalkpfnmcaa.QFnExactWorldSame
open Go.RowKit Go.Proofs.YtepjnalkpfnmcaaW.PrintWords Go.Proofs.YtepjnalkpfnmcaaW.PrintLast Go.Proofs.YtepjnalkpfnmcaaW.PrintMore
attribute [local go_sem] max2_int min2_int max_two min_two max_three min_three max_four min_four   -- for this text's walks alone
set_option linter.unusedVariables false
set_option linter.unusedSimpArgs false
attribute [local go_sem] my_geq my_leq my_gtr
/-! ### spec_l06Same: function 182 -/
mutual
def spec_l06Same.j0 : Nat → Bool → Int → Int → List Int → List Int → Int → Int → List Int → List Int → Option (Bool)
 | 0, _, _, _, _, _, _, _, _, _ => none
 | k + 1, x36, x131000, x131001, x131002, x131003, x132000, x132001, x132002, x132003 => if x36 = true then (some false) else (spec_l06Same.l0 k (x131002.length : Int) 0 x131000 x131001 x131002 x131003 x132000 x132001 x132002 x132003)
def spec_l06Same.l0 : Nat → Int → Int → Int → Int → List Int → List Int → Int → Int → List Int → List Int → Option (Bool)
 | 0, _, _, _, _, _, _, _, _, _, _ => none
 | k + 1, x39, x40, x131000, x131001, x131002, x131003, x132000, x132001, x132002, x132003 => if x40 < x39 then (if 0 ≤ x40 then (if x40 < (x131002.length : Int) then (if x40 < (x132002.length : Int) then (if (rd x131002 x40) = (rd x132002 x40) then (spec_l06Same.l0 k x39 (wrap64 (x40 + 1)) x131000 x131001 x131002 x131003 x132000 x132001 x132002 x132003) else (some false)) else (none)) else (none)) else (none)) else (spec_l06Same.l1 k (x131003.length : Int) 0 x131000 x131001 x131002 x131003 x132000 x132001 x132002 x132003)
def spec_l06Same.l1 : Nat → Int → Int → Int → Int → List Int → List Int → Int → Int → List Int → List Int → Option (Bool)
 | 0, _, _, _, _, _, _, _, _, _, _ => none
 | k + 1, x57, x58, x131000, x131001, x131002, x131003, x132000, x132001, x132002, x132003 => if x58 < x57 then (if 0 ≤ x58 then (if x58 < (x131003.length : Int) then (if x58 < (x132003.length : Int) then (if (rd x131003 x58) = (rd x132003 x58) then (spec_l06Same.l1 k x57 (wrap64 (x58 + 1)) x131000 x131001 x131002 x131003 x132000 x132001 x132002 x132003) else (some false)) else (none)) else (none)) else (none)) else (some true)
end
def spec_l06Same.f (k : Nat) (a0_0 : Int) (a0_1 : Int) (l0_2 : List Int) (l0_3 : List Int) (a1_0 : Int) (a1_1 : Int) (l1_2 : List Int) (l1_3 : List Int) : Option (Bool) := if a0_0 = a1_0 then (if a0_1 = a1_1 then (if (l0_2.length : Int) = (l1_2.length : Int) then (spec_l06Same.j0 k ((l0_3.length : Int) != (l1_3.length : Int)) a0_0 a0_1 l0_2 l0_3 a1_0 a1_1 l1_2 l1_3) else (spec_l06Same.j0 k true a0_0 a0_1 l0_2 l0_3 a1_0 a1_1 l1_2 l1_3)) else (spec_l06Same.j0 k true a0_0 a0_1 l0_2 l0_3 a1_0 a1_1 l1_2 l1_3)) else (spec_l06Same.j0 k true a0_0 a0_1 l0_2 l0_3 a1_0 a1_1 l1_2 l1_3)
set_option maxHeartbeats 8000000 in
set_option maxRecDepth 100000 in
theorem spec_l06Same.calls (k : Nat) (a0_0 : Int) (a0_1 : Int) (A0_2 : Option Addr) (c0_2 : Nat) (l0_2 : List Int) (A0_3 : Option Addr) (c0_3 : Nat) (l0_3 : List Int) (a1_0 : Int) (a1_1 : Int) (A1_2 : Option Addr) (c1_2 : Nat) (l1_2 : List Int) (A1_3 : Option Addr) (c1_3 : Nat) (l1_3 : List Int) (r : Bool) (w : World) (hr0_2 : Kd.C (Kd.int .i64) w A0_2 l0_2.length l0_2) (hc0_2 : l0_2.length ≤ c0_2) (hr0_3 : Kd.C (Kd.int .i64) w A0_3 l0_3.length l0_3) (hc0_3 : l0_3.length ≤ c0_3) (hr1_2 : Kd.C (Kd.int .i64) w A1_2 l1_2.length l1_2) (hc1_2 : l1_2.length ≤ c1_2) (hr1_3 : Kd.C (Kd.int .i64) w A1_3 l1_3.length l1_3) (hc1_3 : l1_3.length ≤ c1_3) (h : spec_l06Same.f k a0_0 a0_1 l0_2 l0_3 a1_0 a1_1 l1_2 l1_3 = some r) :
  Calls Try.prog 182 #[.agg #[.int .i64 a0_0, .int .i64 a0_1, .slice A0_2 l0_2.length c0_2, .slice A0_3 l0_3.length c0_3], .agg #[.int .i64 a1_0, .int .i64 a1_1, .slice A1_2 l1_2.length c1_2, .slice A1_3 l1_3.length c1_3]] w fun e w' => e = .returned (.bool r) ∧ Below w.heap.size w w' := by
 have hu40 := Try.underlying40
 have HR0_2 := Aside0.mk hr0_2
 have HC0_2 := Aside0.mk hc0_2
 clear hr0_2 hc0_2
 have HR0_3 := Aside0.mk hr0_3
 have HC0_3 := Aside0.mk hc0_3
 clear hr0_3 hc0_3
 have HR1_2 := Aside0.mk hr1_2
 have HC1_2 := Aside0.mk hc1_2
 clear hr1_2 hc1_2
 have HR1_3 := Aside0.mk hr1_3
 have HC1_3 := Aside0.mk hc1_3
 clear hr1_3 hc1_3
 have HB := Aside0.mk (Below.refl w.heap.size w)
 have H : (if a0_0 = a1_0 then (if a0_1 = a1_1 then (if (l0_2.length : Int) = (l1_2.length : Int) then (spec_l06Same.j0 k ((l0_3.length : Int) != (l1_3.length : Int)) a0_0 a0_1 l0_2 l0_3 a1_0 a1_1 l1_2 l1_3) else (spec_l06Same.j0 k true a0_0 a0_1 l0_2 l0_3 a1_0 a1_1 l1_2 l1_3)) else (spec_l06Same.j0 k true a0_0 a0_1 l0_2 l0_3 a1_0 a1_1 l1_2 l1_3)) else (spec_l06Same.j0 k true a0_0 a0_1 l0_2 l0_3 a1_0 a1_1 l1_2 l1_3)) = some r := h
 clear h
 have HC3 := Aside0.mk H
 clear H
 go_enter Try.func182, Try.ntmps182
 go_upto_region 1 with (first | ((with_reducible refine gate_dst (N := 2) rfl ?_); (try (refine gate_guard (by rfl) ?_; dsimp only)); refine be_ (N := 2) (cs := #[.int .i64 a0_0, .int .i64 a0_1, .slice A0_2 l0_2.length c0_2, .slice A0_3 l0_3.length c0_3]) (t := 40) ?_; intro gb130 hg w4 hbox hb; have BK130 := Aside0.mk (hbox); have GW130 := gw_ (w := w) hg; have GE130 := gw_ (w := w) hg; replace HB := Aside0.mk (below_step bl_ hb); clear hb hbox hg) | ((with_reducible refine gate_dst (N := 3) rfl ?_); (try (refine gate_guard (by rfl) ?_; dsimp only)); refine be_ (N := 3) (cs := #[.int .i64 a1_0, .int .i64 a1_1, .slice A1_2 l1_2.length c1_2, .slice A1_3 l1_3.length c1_3]) (t := 40) ?_; intro gb131 hg w5 hbox hb; have BK131 := Aside0.mk (hbox); have GW131 := gw_ (w := w) hg; have GE131 := gw_ (w := w) hg; replace HB := Aside0.mk (below_step bl_ hb); have NB130_131 := Aside0.mk ((by rw [hg]; exact Nat.ne_of_lt (blk_lt (bk_ BK130)) : gb130 ≠ gb131)); have NB131_130 := Aside0.mk ((by rw [hg]; exact Nat.ne_of_gt (blk_lt (bk_ BK130)) : gb131 ≠ gb130)); replace BK130 := Aside0.mk (blk_below (bk_ BK130) hb); clear hb hbox hg))
 repeat (go_quiet (first | ((with_reducible refine gate_dst (N := 2) rfl ?_); (try (refine gate_guard (by rfl) ?_; dsimp only)); refine be_ (N := 2) (cs := #[.int .i64 a0_0, .int .i64 a0_1, .slice A0_2 l0_2.length c0_2, .slice A0_3 l0_3.length c0_3]) (t := 40) ?_; intro gb130 hg w4 hbox hb; have BK130 := Aside0.mk (hbox); have GW130 := gw_ (w := w) hg; have GE130 := gw_ (w := w) hg; replace HB := Aside0.mk (below_step bl_ hb); clear hb hbox hg) | ((with_reducible refine gate_dst (N := 3) rfl ?_); (try (refine gate_guard (by rfl) ?_; dsimp only)); refine be_ (N := 3) (cs := #[.int .i64 a1_0, .int .i64 a1_1, .slice A1_2 l1_2.length c1_2, .slice A1_3 l1_3.length c1_3]) (t := 40) ?_; intro gb131 hg w5 hbox hb; have BK131 := Aside0.mk (hbox); have GW131 := gw_ (w := w) hg; have GE131 := gw_ (w := w) hg; replace HB := Aside0.mk (below_step bl_ hb); have NB130_131 := Aside0.mk ((by rw [hg]; exact Nat.ne_of_lt (blk_lt (bk_ BK130)) : gb130 ≠ gb131)); have NB131_130 := Aside0.mk ((by rw [hg]; exact Nat.ne_of_gt (blk_lt (bk_ BK130)) : gb131 ≠ gb130)); replace BK130 := Aside0.mk (blk_below (bk_ BK130) hb); clear hb hbox hg)); go_upto_region 1 with (first | ((with_reducible refine gate_dst (N := 2) rfl ?_); (try (refine gate_guard (by rfl) ?_; dsimp only)); refine be_ (N := 2) (cs := #[.int .i64 a0_0, .int .i64 a0_1, .slice A0_2 l0_2.length c0_2, .slice A0_3 l0_3.length c0_3]) (t := 40) ?_; intro gb130 hg w4 hbox hb; have BK130 := Aside0.mk (hbox); have GW130 := gw_ (w := w) hg; have GE130 := gw_ (w := w) hg; replace HB := Aside0.mk (below_step bl_ hb); clear hb hbox hg) | ((with_reducible refine gate_dst (N := 3) rfl ?_); (try (refine gate_guard (by rfl) ?_; dsimp only)); refine be_ (N := 3) (cs := #[.int .i64 a1_0, .int .i64 a1_1, .slice A1_2 l1_2.length c1_2, .slice A1_3 l1_3.length c1_3]) (t := 40) ?_; intro gb131 hg w5 hbox hb; have BK131 := Aside0.mk (hbox); have GW131 := gw_ (w := w) hg; have GE131 := gw_ (w := w) hg; replace HB := Aside0.mk (below_step bl_ hb); have NB130_131 := Aside0.mk ((by rw [hg]; exact Nat.ne_of_lt (blk_lt (bk_ BK130)) : gb130 ≠ gb131)); have NB131_130 := Aside0.mk ((by rw [hg]; exact Nat.ne_of_gt (blk_lt (bk_ BK130)) : gb131 ≠ gb130)); replace BK130 := Aside0.mk (blk_below (bk_ BK130) hb); clear hb hbox hg)))
 (try simp only [Act.put, List.setIfInBounds_toArray, List.set_cons_zero, List.set_cons_succ])
 go_cut [36] (fun v36 wc => ∃ (kq : Nat) (x36_2 : Bool), v36 = .bool x36_2 ∧ Aside0 (spec_l06Same.j0 kq x36_2 a0_0 a0_1 l0_2 l0_3 a1_0 a1_1 l1_2 l1_3 = some r) ∧ Aside0 (kq ≤ k) ∧ Aside0 (wc.heap[gb130]? = some (.cells #[.int .i64 a0_0, .int .i64 a0_1, (.slice A0_2 l0_2.length c0_2), (.slice A0_3 l0_3.length c0_3)] 40 (0, 0))) ∧ Aside0 (wc.heap[gb131]? = some (.cells #[.int .i64 a1_0, .int .i64 a1_1, (.slice A1_2 l1_2.length c1_2), (.slice A1_3 l1_3.length c1_3)] 40 (0, 0))) ∧ Aside0 (Below w.heap.size w wc))
 case first =>
  have H := HC3.out
  clear HC3
  by_cases c6 : a0_0 = a1_0
  ·rw [if_pos c6] at H
   have c6b0 : (a0_0 == a1_0) = true := beq_iff_eq.mpr c6
   have c6b1 : (a0_0 != a1_0) = false := bne_eq_false_iff_eq.mpr c6
   clear c6
   (first | rw [c6b0] | (simp only [i64_w, i32_w]; rw [c6b0]) | skip)
   by_cases c7 : a0_1 = a1_1
   ·rw [if_pos c7] at H
    have c7b0 : (a0_1 == a1_1) = true := beq_iff_eq.mpr c7
    have c7b1 : (a0_1 != a1_1) = false := bne_eq_false_iff_eq.mpr c7
    clear c7
    by_cases c8 : (l0_2.length : Int) = (l1_2.length : Int)
    ·rw [if_pos c8] at H
     have c8b0 : ((l0_2.length : Int) == (l1_2.length : Int)) = true := beq_iff_eq.mpr c8
     have c8b1 : ((l0_2.length : Int) != (l1_2.length : Int)) = false := bne_eq_false_iff_eq.mpr c8
     have c8b2 : (l0_2.length == l1_2.length) = true := by first | simpa using c8 | (simp at c8 ⊢; omega)
     clear c8
     have H' := Aside0.mk H
     clear H
     have hnb9 := NB130_131.out
     have hnc9 := NB131_130.out
     have hcz10_0 := cz_ BK130 0 (.int .i64 a0_0)
     have hcz10_1 := cz_ BK130 1 (.int .i64 a0_1)
     have hcz10_2 := cz_ BK130 2 (.slice A0_2 l0_2.length c0_2)
     have hcz10_3 := cz_ BK130 3 (.slice A0_3 l0_3.length c0_3)
     have hfz10_0 := fz_ BK130 0
     have hfz10_1 := fz_ BK130 1
     have hfz10_2 := fz_ BK130 2
     have hfz10_3 := fz_ BK130 3
     have hcz11_0 := cz_ BK131 0 (.int .i64 a1_0)
     have hcz11_1 := cz_ BK131 1 (.int .i64 a1_1)
     have hcz11_2 := cz_ BK131 2 (.slice A1_2 l1_2.length c1_2)
     have hcz11_3 := cz_ BK131 3 (.slice A1_3 l1_3.length c1_3)
     have hfz11_0 := fz_ BK131 0
     have hfz11_1 := fz_ BK131 1
     have hfz11_2 := fz_ BK131 2
     have hfz11_3 := fz_ BK131 3
     go_wp2
     repeat (go_quiet (fail); try go_wp2)
     go_meet
     case rel => exact ⟨_, (((l0_3.length : Int) != (l1_3.length : Int))), sp_, H', ⟨by first | omega | exact Nat.le_refl _⟩, ⟨by (with_reducible repeat (first | refine blk_drewN ?_ _ | refine blk_drew ?_ | refine blk_alloc ?_ _)); exact BK130.out⟩, ⟨by (with_reducible repeat (first | refine blk_drewN ?_ _ | refine blk_drew ?_ | refine blk_alloc ?_ _)); exact BK131.out⟩, ⟨bl_⟩⟩
    ·rw [if_neg c8] at H
     have c8b0 : ((l0_2.length : Int) == (l1_2.length : Int)) = false := beq_eq_false_iff_ne.mpr c8
     have c8b1 : ((l0_2.length : Int) != (l1_2.length : Int)) = true := bne_iff_ne.mpr c8
     have c8b2 : (l0_2.length == l1_2.length) = false := by first | simpa using c8 | (simp at c8 ⊢; omega)
     have H' := Aside0.mk H
     clear H
     have hnb12 := NB130_131.out
     have hnc12 := NB131_130.out
     have hcz13_0 := cz_ BK130 0 (.int .i64 a0_0)
     have hcz13_1 := cz_ BK130 1 (.int .i64 a0_1)
     have hcz13_2 := cz_ BK130 2 (.slice A0_2 l0_2.length c0_2)
     have hcz13_3 := cz_ BK130 3 (.slice A0_3 l0_3.length c0_3)
     have hfz13_0 := fz_ BK130 0
     have hfz13_1 := fz_ BK130 1
     have hfz13_2 := fz_ BK130 2
     have hfz13_3 := fz_ BK130 3
     have hcz14_0 := cz_ BK131 0 (.int .i64 a1_0)
     have hcz14_1 := cz_ BK131 1 (.int .i64 a1_1)
     have hcz14_2 := cz_ BK131 2 (.slice A1_2 l1_2.length c1_2)
     have hcz14_3 := cz_ BK131 3 (.slice A1_3 l1_3.length c1_3)
     have hfz14_0 := fz_ BK131 0
     have hfz14_1 := fz_ BK131 1
     have hfz14_2 := fz_ BK131 2
     have hfz14_3 := fz_ BK131 3
     go_wp2
     repeat (go_quiet (fail); try go_wp2)
     go_meet
     case rel => exact ⟨_, (true), sp_, H', ⟨by first | omega | exact Nat.le_refl _⟩, ⟨by (with_reducible repeat (first | refine blk_drewN ?_ _ | refine blk_drew ?_ | refine blk_alloc ?_ _)); exact BK130.out⟩, ⟨by (with_reducible repeat (first | refine blk_drewN ?_ _ | refine blk_drew ?_ | refine blk_alloc ?_ _)); exact BK131.out⟩, ⟨bl_⟩⟩
   ·rw [if_neg c7] at H
    have c7b0 : (a0_1 == a1_1) = false := beq_eq_false_iff_ne.mpr c7
    have c7b1 : (a0_1 != a1_1) = true := bne_iff_ne.mpr c7
    have H' := Aside0.mk H
    clear H
    have hnb15 := NB130_131.out
    have hnc15 := NB131_130.out
    have hcz16_0 := cz_ BK130 0 (.int .i64 a0_0)
    have hcz16_1 := cz_ BK130 1 (.int .i64 a0_1)
    have hcz16_2 := cz_ BK130 2 (.slice A0_2 l0_2.length c0_2)
    have hcz16_3 := cz_ BK130 3 (.slice A0_3 l0_3.length c0_3)
    have hfz16_0 := fz_ BK130 0
    have hfz16_1 := fz_ BK130 1
    have hfz16_2 := fz_ BK130 2
    have hfz16_3 := fz_ BK130 3
    have hcz17_0 := cz_ BK131 0 (.int .i64 a1_0)
    have hcz17_1 := cz_ BK131 1 (.int .i64 a1_1)
    have hcz17_2 := cz_ BK131 2 (.slice A1_2 l1_2.length c1_2)
    have hcz17_3 := cz_ BK131 3 (.slice A1_3 l1_3.length c1_3)
    have hfz17_0 := fz_ BK131 0
    have hfz17_1 := fz_ BK131 1
    have hfz17_2 := fz_ BK131 2
    have hfz17_3 := fz_ BK131 3
    go_wp2
    repeat (go_quiet (fail); try go_wp2)
    go_meet
    case rel => exact ⟨_, (true), sp_, H', ⟨by first | omega | exact Nat.le_refl _⟩, ⟨by (with_reducible repeat (first | refine blk_drewN ?_ _ | refine blk_drew ?_ | refine blk_alloc ?_ _)); exact BK130.out⟩, ⟨by (with_reducible repeat (first | refine blk_drewN ?_ _ | refine blk_drew ?_ | refine blk_alloc ?_ _)); exact BK131.out⟩, ⟨bl_⟩⟩
  ·rw [if_neg c6] at H
   have c6b0 : (a0_0 == a1_0) = false := beq_eq_false_iff_ne.mpr c6
   have c6b1 : (a0_0 != a1_0) = true := bne_iff_ne.mpr c6
   (first | rw [c6b0] | (simp only [i64_w, i32_w]; rw [c6b0]) | skip)
   have H' := Aside0.mk H
   clear H
   have hnb18 := NB130_131.out
   have hnc18 := NB131_130.out
   have hcz19_0 := cz_ BK130 0 (.int .i64 a0_0)
   have hcz19_1 := cz_ BK130 1 (.int .i64 a0_1)
   have hcz19_2 := cz_ BK130 2 (.slice A0_2 l0_2.length c0_2)
   have hcz19_3 := cz_ BK130 3 (.slice A0_3 l0_3.length c0_3)
   have hfz19_0 := fz_ BK130 0
   have hfz19_1 := fz_ BK130 1
   have hfz19_2 := fz_ BK130 2
   have hfz19_3 := fz_ BK130 3
   have hcz20_0 := cz_ BK131 0 (.int .i64 a1_0)
   have hcz20_1 := cz_ BK131 1 (.int .i64 a1_1)
   have hcz20_2 := cz_ BK131 2 (.slice A1_2 l1_2.length c1_2)
   have hcz20_3 := cz_ BK131 3 (.slice A1_3 l1_3.length c1_3)
   have hfz20_0 := fz_ BK131 0
   have hfz20_1 := fz_ BK131 1
   have hfz20_2 := fz_ BK131 2
   have hfz20_3 := fz_ BK131 3
   go_wp2
   repeat (go_quiet (fail); try go_wp2)
   go_meet
   case rel => exact ⟨_, (true), sp_, H', ⟨by first | omega | exact Nat.le_refl _⟩, ⟨by (with_reducible repeat (first | refine blk_drewN ?_ _ | refine blk_drew ?_ | refine blk_alloc ?_ _)); exact BK130.out⟩, ⟨by (with_reducible repeat (first | refine blk_drewN ?_ _ | refine blk_drew ?_ | refine blk_alloc ?_ _)); exact BK131.out⟩, ⟨bl_⟩⟩
 case rest =>
  clear HC3
  try clear c1
  try clear p2
  try clear c6
  try clear c6b0
  try clear c6b1
  try clear c7
  try clear c7b0
  try clear c7b1
  try clear c8
  try clear c8b0
  try clear c8b1
  try clear c8b2
  try clear c9
  try clear c12
  try clear c15
  try clear c18
  try clear hcz10_0
  try clear hcz10_1
  try clear hcz10_2
  try clear hcz10_3
  try clear hcz11_0
  try clear hcz11_1
  try clear hcz11_2
  try clear hcz11_3
  try clear hcz13_0
  try clear hcz13_1
  try clear hcz13_2
  try clear hcz13_3
  try clear hcz14_0
  try clear hcz14_1
  try clear hcz14_2
  try clear hcz14_3
  try clear hcz16_0
  try clear hcz16_1
  try clear hcz16_2
  try clear hcz16_3
  try clear hcz17_0
  try clear hcz17_1
  try clear hcz17_2
  try clear hcz17_3
  try clear hcz19_0
  try clear hcz19_1
  try clear hcz19_2
  try clear hcz19_3
  try clear hcz20_0
  try clear hcz20_1
  try clear hcz20_2
  try clear hcz20_3
  try clear hfz10_0
  try clear hfz10_1
  try clear hfz10_2
  try clear hfz10_3
  try clear hfz11_0
  try clear hfz11_1
  try clear hfz11_2
  try clear hfz11_3
  try clear hfz13_0
  try clear hfz13_1
  try clear hfz13_2
  try clear hfz13_3
  try clear hfz14_0
  try clear hfz14_1
  try clear hfz14_2
  try clear hfz14_3
  try clear hfz16_0
  try clear hfz16_1
  try clear hfz16_2
  try clear hfz16_3
  try clear hfz17_0
  try clear hfz17_1
  try clear hfz17_2
  try clear hfz17_3
  try clear hfz19_0
  try clear hfz19_1
  try clear hfz19_2
  try clear hfz19_3
  try clear hfz20_0
  try clear hfz20_1
  try clear hfz20_2
  try clear hfz20_3
  obtain ⟨kq, x36_2, rfl, HA, HJ2, BK130, BK131, HB⟩ := hcut
  cases kq with
  | zero => exact absurd HA.out (by simp [spec_l06Same.j0])
  | succ kj2 =>
   have H := HA.out
   clear HA
   simp only [spec_l06Same.j0] at H
   by_cases c21 : x36_2 = true
   ·subst c21
    replace H := ip_ H
    obtain rfl := Option.some.inj H
    go_wp2
    repeat (go_quiet (fail); try go_wp2)
    go_ret
    exact ⟨sq_, bl_⟩
   ·replace c21 := Bool.eq_false_iff.mpr c21
    subst c21
    replace H := in_ H
    have H' := Aside0.mk H
    clear H
    have hnb22 := NB130_131.out
    have hnc22 := NB131_130.out
    have hcz23_0 := cz_ BK130 0 (.int .i64 a0_0)
    have hcz23_1 := cz_ BK130 1 (.int .i64 a0_1)
    have hcz23_2 := cz_ BK130 2 (.slice A0_2 l0_2.length c0_2)
    have hcz23_3 := cz_ BK130 3 (.slice A0_3 l0_3.length c0_3)
    have hfz23_0 := fz_ BK130 0
    have hfz23_1 := fz_ BK130 1
    have hfz23_2 := fz_ BK130 2
    have hfz23_3 := fz_ BK130 3
    go_wp2
    repeat (go_quiet (fail); try go_wp2)
    go_loopg [40] kj2 (fun kq v40 w' => ∃ (x40_2 : Int), v40 = .int .i64 x40_2 ∧ Aside0 (spec_l06Same.l0 kq (l0_2.length : Int) x40_2 a0_0 a0_1 l0_2 l0_3 a1_0 a1_1 l1_2 l1_3 = some r) ∧ Aside0 (kq ≤ kj2) ∧ Aside0 (w'.heap[gb130]? = some (.cells #[.int .i64 a0_0, .int .i64 a0_1, (.slice A0_2 l0_2.length c0_2), (.slice A0_3 l0_3.length c0_3)] 40 (0, 0))) ∧ Aside0 (w'.heap[gb131]? = some (.cells #[.int .i64 a1_0, .int .i64 a1_1, (.slice A1_2 l1_2.length c1_2), (.slice A1_3 l1_3.length c1_3)] 40 (0, 0))) ∧ Aside0 (Below w.heap.size w w'))
    case atStart => exact ⟨(0), sp_, H', ⟨Nat.le_refl _⟩, ⟨by (with_reducible repeat (first | refine blk_drewN ?_ _ | refine blk_drew ?_ | refine blk_alloc ?_ _)); exact BK130.out⟩, ⟨by (with_reducible repeat (first | refine blk_drewN ?_ _ | refine blk_drew ?_ | refine blk_alloc ?_ _)); exact BK131.out⟩, ⟨bl_⟩⟩
    case round =>
     clear H'
     try clear c1
     try clear c2
     try clear p2
     try clear c6
     try clear c6b0
     try clear c6b1
     try clear c7
     try clear c7b0
     try clear c7b1
     try clear c8
     try clear c8b0
     try clear c8b1
     try clear c8b2
     try clear c9
     try clear c12
     try clear c15
     try clear c18
     try clear c21
     try clear c22
     try clear hcz10_0
     try clear hcz10_1
     try clear hcz10_2
     try clear hcz10_3
     try clear hcz11_0
     try clear hcz11_1
     try clear hcz11_2
     try clear hcz11_3
     try clear hcz13_0
     try clear hcz13_1
     try clear hcz13_2
     try clear hcz13_3
     try clear hcz14_0
     try clear hcz14_1
     try clear hcz14_2
     try clear hcz14_3
     try clear hcz16_0
     try clear hcz16_1
     try clear hcz16_2
     try clear hcz16_3
     try clear hcz17_0
     try clear hcz17_1
     try clear hcz17_2
     try clear hcz17_3
     try clear hcz19_0
     try clear hcz19_1
     try clear hcz19_2
     try clear hcz19_3
     try clear hcz20_0
     try clear hcz20_1
     try clear hcz20_2
     try clear hcz20_3
     try clear hcz23_0
     try clear hcz23_1
     try clear hcz23_2
     try clear hcz23_3
     try clear hfz10_0
     try clear hfz10_1
     try clear hfz10_2
     try clear hfz10_3
     try clear hfz11_0
     try clear hfz11_1
     try clear hfz11_2
     try clear hfz11_3
     try clear hfz13_0
     try clear hfz13_1
     try clear hfz13_2
     try clear hfz13_3
     try clear hfz14_0
     try clear hfz14_1
     try clear hfz14_2
     try clear hfz14_3
     try clear hfz16_0
     try clear hfz16_1
     try clear hfz16_2
     try clear hfz16_3
     try clear hfz17_0
     try clear hfz17_1
     try clear hfz17_2
     try clear hfz17_3
     try clear hfz19_0
     try clear hfz19_1
     try clear hfz19_2
     try clear hfz19_3
     try clear hfz20_0
     try clear hfz20_1
     try clear hfz20_2
     try clear hfz20_3
     try clear hfz23_0
     try clear hfz23_1
     try clear hfz23_2
     try clear hfz23_3
     try clear p2
     obtain ⟨x40_2, rfl, HA, HK2, BK130, BK131, HB⟩ := hrel
     cases gk with
     | zero => exact absurd HA.out (by simp [spec_l06Same.l0])
     | succ k2 =>
      have H := HA.out
      clear HA
      simp only [spec_l06Same.l0] at H
      by_cases c24 : x40_2 < (l0_2.length : Int)
      ·rw [if_pos c24] at H
       have c24b0 : decide (x40_2 < (l0_2.length : Int)) = true := decide_eq_true c24
       clear c24
       by_cases c25 : 0 ≤ x40_2
       ·rw [if_pos c25] at H
        have c25b0 : decide (0 ≤ x40_2) = true := decide_eq_true c25
        clear c25
        by_cases c26 : x40_2 < (l0_2.length : Int)
        ·rw [if_pos c26] at H
         have c26b0 : decide (x40_2 < (l0_2.length : Int)) = true := decide_eq_true c26
         clear c26
         by_cases c27 : x40_2 < (l1_2.length : Int)
         ·rw [if_pos c27] at H
          have c27b0 : decide (x40_2 < (l1_2.length : Int)) = true := decide_eq_true c27
          clear c27
          by_cases c28 : (rd l0_2 x40_2) = (rd l1_2 x40_2)
          ·rw [if_pos c28] at H
           have c28b0 : ((rd l0_2 x40_2) == (rd l1_2 x40_2)) = true := beq_iff_eq.mpr c28
           have c28b1 : ((rd l0_2 x40_2) != (rd l1_2 x40_2)) = false := bne_eq_false_iff_eq.mpr c28
           clear c28
           have H' := Aside0.mk H
           clear H
           have hnb29 := NB130_131.out
           have hnc29 := NB131_130.out
           have hcz30_0 := cz_ BK130 0 (.int .i64 a0_0)
           have hcz30_1 := cz_ BK130 1 (.int .i64 a0_1)
           have hcz30_2 := cz_ BK130 2 (.slice A0_2 l0_2.length c0_2)
           have hcz30_3 := cz_ BK130 3 (.slice A0_3 l0_3.length c0_3)
           have hfz30_0 := fz_ BK130 0
           have hfz30_1 := fz_ BK130 1
           have hfz30_2 := fz_ BK130 2
           have hfz30_3 := fz_ BK130 3
           have p132 : 0 ≤ (x40_2 : Int) := od_
           have q132 : x40_2 < (l0_2.length : Int) := od_
           obtain ⟨ad132, e132, hx132_0⟩ := Kd.at_int HR0_2.out x40_2 p132 q132
           cases e132
           replace hx132_0 := kc_ HB hx132_0
           replace p132 := eq_true p132
           replace q132 := eq_true q132
           have hcz31_0 := cz_ BK131 0 (.int .i64 a1_0)
           have hcz31_1 := cz_ BK131 1 (.int .i64 a1_1)
           have hcz31_2 := cz_ BK131 2 (.slice A1_2 l1_2.length c1_2)
           have hcz31_3 := cz_ BK131 3 (.slice A1_3 l1_3.length c1_3)
           have hfz31_0 := fz_ BK131 0
           have hfz31_1 := fz_ BK131 1
           have hfz31_2 := fz_ BK131 2
           have hfz31_3 := fz_ BK131 3
           have p133 : 0 ≤ (x40_2 : Int) := od_
           have q133 : x40_2 < (l1_2.length : Int) := od_
           obtain ⟨ad133, e133, hx133_0⟩ := Kd.at_int HR1_2.out x40_2 p133 q133
           cases e133
           replace hx133_0 := kc_ HB hx133_0
           replace p133 := eq_true p133
           replace q133 := eq_true q133
           go_wp2
           repeat (go_quiet (fail); try go_wp2)
           go_roundg k2
           case measure => have := HJ2.out; have := HK2.out; omega
           case rel => exact ⟨(wrap64 (x40_2 + 1)), sp_, H', ⟨by have := HJ2.out; have := HK2.out; omega⟩, ⟨by (with_reducible repeat (first | refine blk_drewN ?_ _ | refine blk_drew ?_ | refine blk_alloc ?_ _)); exact BK130.out⟩, ⟨by (with_reducible repeat (first | refine blk_drewN ?_ _ | refine blk_drew ?_ | refine blk_alloc ?_ _)); exact BK131.out⟩, ⟨bl_⟩⟩
          ·rw [if_neg c28] at H
           have c28b0 : ((rd l0_2 x40_2) == (rd l1_2 x40_2)) = false := beq_eq_false_iff_ne.mpr c28
           have c28b1 : ((rd l0_2 x40_2) != (rd l1_2 x40_2)) = true := bne_iff_ne.mpr c28
           obtain rfl := Option.some.inj H
           have hnb32 := NB130_131.out
           have hnc32 := NB131_130.out
           have hcz33_0 := cz_ BK130 0 (.int .i64 a0_0)
           have hcz33_1 := cz_ BK130 1 (.int .i64 a0_1)
           have hcz33_2 := cz_ BK130 2 (.slice A0_2 l0_2.length c0_2)
           have hcz33_3 := cz_ BK130 3 (.slice A0_3 l0_3.length c0_3)
           have hfz33_0 := fz_ BK130 0
           have hfz33_1 := fz_ BK130 1
           have hfz33_2 := fz_ BK130 2
           have hfz33_3 := fz_ BK130 3
           have p132 : 0 ≤ (x40_2 : Int) := od_
           have q132 : x40_2 < (l0_2.length : Int) := od_
           obtain ⟨ad132, e132, hx132_0⟩ := Kd.at_int HR0_2.out x40_2 p132 q132
           cases e132
           replace hx132_0 := kc_ HB hx132_0
           replace p132 := eq_true p132
           replace q132 := eq_true q132
           have hcz34_0 := cz_ BK131 0 (.int .i64 a1_0)
           have hcz34_1 := cz_ BK131 1 (.int .i64 a1_1)
           have hcz34_2 := cz_ BK131 2 (.slice A1_2 l1_2.length c1_2)
           have hcz34_3 := cz_ BK131 3 (.slice A1_3 l1_3.length c1_3)
           have hfz34_0 := fz_ BK131 0
           have hfz34_1 := fz_ BK131 1
           have hfz34_2 := fz_ BK131 2
           have hfz34_3 := fz_ BK131 3
           have p133 : 0 ≤ (x40_2 : Int) := od_
           have q133 : x40_2 < (l1_2.length : Int) := od_
           obtain ⟨ad133, e133, hx133_0⟩ := Kd.at_int HR1_2.out x40_2 p133 q133
           cases e133
           replace hx133_0 := kc_ HB hx133_0
           replace p133 := eq_true p133
           replace q133 := eq_true q133
           go_wp2
           repeat (go_quiet (fail); try go_wp2)
           go_ret
           exact ⟨sq_, bl_⟩
         ·rw [if_neg c27] at H
          exact absurd H (by simp)
        ·rw [if_neg c26] at H
         exact absurd H (by simp)
       ·rw [if_neg c25] at H
        exact absurd H (by simp)
      ·rw [if_neg c24] at H
       have c24b0 : decide (x40_2 < (l0_2.length : Int)) = false := decide_eq_false c24
       clear c24
       have H' := Aside0.mk H
       clear H
       have hnb35 := NB130_131.out
       have hnc35 := NB131_130.out
       have hcz36_0 := cz_ BK130 0 (.int .i64 a0_0)
       have hcz36_1 := cz_ BK130 1 (.int .i64 a0_1)
       have hcz36_2 := cz_ BK130 2 (.slice A0_2 l0_2.length c0_2)
       have hcz36_3 := cz_ BK130 3 (.slice A0_3 l0_3.length c0_3)
       have hfz36_0 := fz_ BK130 0
       have hfz36_1 := fz_ BK130 1
       have hfz36_2 := fz_ BK130 2
       have hfz36_3 := fz_ BK130 3
       go_wp2
       repeat (go_quiet (fail); try go_wp2)
       go_loopg [58] k2 (fun kq v58 w' => ∃ (x58_3 : Int), v58 = .int .i64 x58_3 ∧ Aside0 (spec_l06Same.l1 kq (l0_3.length : Int) x58_3 a0_0 a0_1 l0_2 l0_3 a1_0 a1_1 l1_2 l1_3 = some r) ∧ Aside0 (kq ≤ k2) ∧ Aside0 (w'.heap[gb130]? = some (.cells #[.int .i64 a0_0, .int .i64 a0_1, (.slice A0_2 l0_2.length c0_2), (.slice A0_3 l0_3.length c0_3)] 40 (0, 0))) ∧ Aside0 (w'.heap[gb131]? = some (.cells #[.int .i64 a1_0, .int .i64 a1_1, (.slice A1_2 l1_2.length c1_2), (.slice A1_3 l1_3.length c1_3)] 40 (0, 0))) ∧ Aside0 (Below w.heap.size w w'))
       case atStart => exact ⟨(0), sp_, H', ⟨Nat.le_refl _⟩, ⟨by (with_reducible repeat (first | refine blk_drewN ?_ _ | refine blk_drew ?_ | refine blk_alloc ?_ _)); exact BK130.out⟩, ⟨by (with_reducible repeat (first | refine blk_drewN ?_ _ | refine blk_drew ?_ | refine blk_alloc ?_ _)); exact BK131.out⟩, ⟨bl_⟩⟩
       case round =>
        clear H'
        try clear c1
        try clear p1
        try clear q1
        try clear hx1
        try clear c2
        try clear p2
        try clear c3
        try clear c6
        try clear c6b0
        try clear c6b1
        try clear p6
        try clear c7
        try clear c7b0
        try clear c7b1
        try clear c8
        try clear c8b0
        try clear c8b1
        try clear c8b2
        try clear c9
        try clear c12
        try clear p13
        try clear q13
        try clear hx13
        try clear c15
        try clear c18
        try clear c21
        try clear c22
        try clear c24
        try clear c24b0
        try clear c25
        try clear c25b0
        try clear c26
        try clear c26b0
        try clear c27
        try clear c27b0
        try clear c28
        try clear c28b0
        try clear c28b1
        try clear c29
        try clear c32
        try clear c35
        try clear hcz10_0
        try clear hcz10_1
        try clear hcz10_2
        try clear hcz10_3
        try clear hcz11_0
        try clear hcz11_1
        try clear hcz11_2
        try clear hcz11_3
        try clear hcz13_0
        try clear hcz13_1
        try clear hcz13_2
        try clear hcz13_3
        try clear hcz14_0
        try clear hcz14_1
        try clear hcz14_2
        try clear hcz14_3
        try clear hcz16_0
        try clear hcz16_1
        try clear hcz16_2
        try clear hcz16_3
        try clear hcz17_0
        try clear hcz17_1
        try clear hcz17_2
        try clear hcz17_3
        try clear hcz19_0
        try clear hcz19_1
        try clear hcz19_2
        try clear hcz19_3
        try clear hcz20_0
        try clear hcz20_1
        try clear hcz20_2
        try clear hcz20_3
        try clear hcz23_0
        try clear hcz23_1
        try clear hcz23_2
        try clear hcz23_3
        try clear hcz30_0
        try clear hcz30_1
        try clear hcz30_2
        try clear hcz30_3
        try clear hcz31_0
        try clear hcz31_1
        try clear hcz31_2
        try clear hcz31_3
        try clear hcz33_0
        try clear hcz33_1
        try clear hcz33_2
        try clear hcz33_3
        try clear hcz34_0
        try clear hcz34_1
        try clear hcz34_2
        try clear hcz34_3
        try clear hcz36_0
        try clear hcz36_1
        try clear hcz36_2
        try clear hcz36_3
        try clear hfz10_0
        try clear hfz10_1
        try clear hfz10_2
        try clear hfz10_3
        try clear hfz11_0
        try clear hfz11_1
        try clear hfz11_2
        try clear hfz11_3
        try clear hfz13_0
        try clear hfz13_1
        try clear hfz13_2
        try clear hfz13_3
        try clear hfz14_0
        try clear hfz14_1
        try clear hfz14_2
        try clear hfz14_3
        try clear hfz16_0
        try clear hfz16_1
        try clear hfz16_2
        try clear hfz16_3
        try clear hfz17_0
        try clear hfz17_1
        try clear hfz17_2
        try clear hfz17_3
        try clear hfz19_0
        try clear hfz19_1
        try clear hfz19_2
        try clear hfz19_3
        try clear hfz20_0
        try clear hfz20_1
        try clear hfz20_2
        try clear hfz20_3
        try clear hfz23_0
        try clear hfz23_1
        try clear hfz23_2
        try clear hfz23_3
        try clear hfz30_0
        try clear hfz30_1
        try clear hfz30_2
        try clear hfz30_3
        try clear hfz31_0
        try clear hfz31_1
        try clear hfz31_2
        try clear hfz31_3
        try clear hfz33_0
        try clear hfz33_1
        try clear hfz33_2
        try clear hfz33_3
        try clear hfz34_0
        try clear hfz34_1
        try clear hfz34_2
        try clear hfz34_3
        try clear hfz36_0
        try clear hfz36_1
        try clear hfz36_2
        try clear hfz36_3
        try clear hx132_0
        try clear hx133_0
        try clear p132
        try clear p133
        try clear p2
        try clear q132
        try clear q133
        obtain ⟨x58_3, rfl, HA, HK3, BK130, BK131, HB⟩ := hrel
        cases gk with
        | zero => exact absurd HA.out (by simp [spec_l06Same.l1])
        | succ k3 =>
         have H := HA.out
         clear HA
         simp only [spec_l06Same.l1] at H
         by_cases c37 : x58_3 < (l0_3.length : Int)
         ·rw [if_pos c37] at H
          have c37b0 : decide (x58_3 < (l0_3.length : Int)) = true := decide_eq_true c37
          clear c37
          by_cases c38 : 0 ≤ x58_3
          ·rw [if_pos c38] at H
           have c38b0 : decide (0 ≤ x58_3) = true := decide_eq_true c38
           clear c38
           by_cases c39 : x58_3 < (l0_3.length : Int)
           ·rw [if_pos c39] at H
            have c39b0 : decide (x58_3 < (l0_3.length : Int)) = true := decide_eq_true c39
            clear c39
            by_cases c40 : x58_3 < (l1_3.length : Int)
            ·rw [if_pos c40] at H
             have c40b0 : decide (x58_3 < (l1_3.length : Int)) = true := decide_eq_true c40
             clear c40
             by_cases c41 : (rd l0_3 x58_3) = (rd l1_3 x58_3)
             ·rw [if_pos c41] at H
              have c41b0 : ((rd l0_3 x58_3) == (rd l1_3 x58_3)) = true := beq_iff_eq.mpr c41
              have c41b1 : ((rd l0_3 x58_3) != (rd l1_3 x58_3)) = false := bne_eq_false_iff_eq.mpr c41
              clear c41
              have H' := Aside0.mk H
              clear H
              have hnb42 := NB130_131.out
              have hnc42 := NB131_130.out
              have hcz43_0 := cz_ BK130 0 (.int .i64 a0_0)
              have hcz43_1 := cz_ BK130 1 (.int .i64 a0_1)
              have hcz43_2 := cz_ BK130 2 (.slice A0_2 l0_2.length c0_2)
              have hcz43_3 := cz_ BK130 3 (.slice A0_3 l0_3.length c0_3)
              have hfz43_0 := fz_ BK130 0
              have hfz43_1 := fz_ BK130 1
              have hfz43_2 := fz_ BK130 2
              have hfz43_3 := fz_ BK130 3
              have p134 : 0 ≤ (x58_3 : Int) := od_
              have q134 : x58_3 < (l0_3.length : Int) := od_
              obtain ⟨ad134, e134, hx134_0⟩ := Kd.at_int HR0_3.out x58_3 p134 q134
              cases e134
              replace hx134_0 := kc_ HB hx134_0
              replace p134 := eq_true p134
              replace q134 := eq_true q134
              have hcz44_0 := cz_ BK131 0 (.int .i64 a1_0)
              have hcz44_1 := cz_ BK131 1 (.int .i64 a1_1)
              have hcz44_2 := cz_ BK131 2 (.slice A1_2 l1_2.length c1_2)
              have hcz44_3 := cz_ BK131 3 (.slice A1_3 l1_3.length c1_3)
              have hfz44_0 := fz_ BK131 0
              have hfz44_1 := fz_ BK131 1
              have hfz44_2 := fz_ BK131 2
              have hfz44_3 := fz_ BK131 3
              have p135 : 0 ≤ (x58_3 : Int) := od_
              have q135 : x58_3 < (l1_3.length : Int) := od_
              obtain ⟨ad135, e135, hx135_0⟩ := Kd.at_int HR1_3.out x58_3 p135 q135
              cases e135
              replace hx135_0 := kc_ HB hx135_0
              replace p135 := eq_true p135
              replace q135 := eq_true q135
              go_wp2
              repeat (go_quiet (fail); try go_wp2)
              go_roundg k3
              case measure => have := HJ2.out; have := HK2.out; have := HK3.out; omega
              case rel => exact ⟨(wrap64 (x58_3 + 1)), sp_, H', ⟨by have := HJ2.out; have := HK2.out; have := HK3.out; omega⟩, ⟨by (with_reducible repeat (first | refine blk_drewN ?_ _ | refine blk_drew ?_ | refine blk_alloc ?_ _)); exact BK130.out⟩, ⟨by (with_reducible repeat (first | refine blk_drewN ?_ _ | refine blk_drew ?_ | refine blk_alloc ?_ _)); exact BK131.out⟩, ⟨bl_⟩⟩
             ·rw [if_neg c41] at H
              have c41b0 : ((rd l0_3 x58_3) == (rd l1_3 x58_3)) = false := beq_eq_false_iff_ne.mpr c41
              have c41b1 : ((rd l0_3 x58_3) != (rd l1_3 x58_3)) = true := bne_iff_ne.mpr c41
              obtain rfl := Option.some.inj H
              have hnb45 := NB130_131.out
              have hnc45 := NB131_130.out
              have hcz46_0 := cz_ BK130 0 (.int .i64 a0_0)
              have hcz46_1 := cz_ BK130 1 (.int .i64 a0_1)
              have hcz46_2 := cz_ BK130 2 (.slice A0_2 l0_2.length c0_2)
              have hcz46_3 := cz_ BK130 3 (.slice A0_3 l0_3.length c0_3)
              have hfz46_0 := fz_ BK130 0
              have hfz46_1 := fz_ BK130 1
              have hfz46_2 := fz_ BK130 2
              have hfz46_3 := fz_ BK130 3
              have p134 : 0 ≤ (x58_3 : Int) := od_
              have q134 : x58_3 < (l0_3.length : Int) := od_
              obtain ⟨ad134, e134, hx134_0⟩ := Kd.at_int HR0_3.out x58_3 p134 q134
              cases e134
              replace hx134_0 := kc_ HB hx134_0
              replace p134 := eq_true p134
              replace q134 := eq_true q134
              have hcz47_0 := cz_ BK131 0 (.int .i64 a1_0)
              have hcz47_1 := cz_ BK131 1 (.int .i64 a1_1)
              have hcz47_2 := cz_ BK131 2 (.slice A1_2 l1_2.length c1_2)
              have hcz47_3 := cz_ BK131 3 (.slice A1_3 l1_3.length c1_3)
              have hfz47_0 := fz_ BK131 0
              have hfz47_1 := fz_ BK131 1
              have hfz47_2 := fz_ BK131 2
              have hfz47_3 := fz_ BK131 3
              have p135 : 0 ≤ (x58_3 : Int) := od_
              have q135 : x58_3 < (l1_3.length : Int) := od_
              obtain ⟨ad135, e135, hx135_0⟩ := Kd.at_int HR1_3.out x58_3 p135 q135
              cases e135
              replace hx135_0 := kc_ HB hx135_0
              replace p135 := eq_true p135
              replace q135 := eq_true q135
              go_wp2
              repeat (go_quiet (fail); try go_wp2)
              go_ret
              exact ⟨sq_, bl_⟩
            ·rw [if_neg c40] at H
             exact absurd H (by simp)
           ·rw [if_neg c39] at H
            exact absurd H (by simp)
          ·rw [if_neg c38] at H
           exact absurd H (by simp)
         ·rw [if_neg c37] at H
          have c37b0 : decide (x58_3 < (l0_3.length : Int)) = false := decide_eq_false c37
          clear c37
          obtain rfl := Option.some.inj H
          go_wp2
          repeat (go_quiet (fail); try go_wp2)
          go_ret
          exact ⟨sq_, bl_⟩
end Go.Proofs.Ytepjnalkpfnmcaa.QFnExactWorldSame
