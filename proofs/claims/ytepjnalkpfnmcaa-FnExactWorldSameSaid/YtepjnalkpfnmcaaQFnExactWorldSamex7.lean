-- by my own printer (myprint.py, over the kit's print.py)
import Derived.Test.YtepjnalkpfnmcaaQFnExactWorldSamex0
import Derived.Test.YtepjnalkpfnmcaaQFnExactWorldSamex6
namespace Go.Proofs.Ytepjnalkpfnmcaa.QFnExactWorldSame
open Go.RowKit Go.Proofs.YtepjnalkpfnmcaaW.PrintWords Go.Proofs.YtepjnalkpfnmcaaW.PrintLast Go.Proofs.YtepjnalkpfnmcaaW.PrintMore
attribute [local go_sem] max2_int min2_int max_two min_two max_three min_three max_four min_four   -- for this text's walks alone
set_option linter.unusedVariables false
set_option linter.unusedSimpArgs false
attribute [local go_sem] my_geq my_leq my_gtr
abbrev tb8_0_7 : Array Bool := #[b0, b0, b0, b0, b0, b0, b0, b0]
abbrev tb8_1f_7 : Array Bool := #[b1, b1, b1, b1, b1, b0, b0, b0]
abbrev tb8_2_7 : Array Bool := #[b0, b1, b0, b0, b0, b0, b0, b0]
abbrev tb8_3f_7 : Array Bool := #[b1, b1, b1, b1, b1, b1, b0, b0]
abbrev tb8_7f_7 : Array Bool := #[b1, b1, b1, b1, b1, b1, b1, b0]
abbrev tb8_a_7 : Array Bool := #[b0, b1, b0, b1, b0, b0, b0, b0]
abbrev tb8_b_7 : Array Bool := #[b1, b1, b0, b1, b0, b0, b0, b0]
abbrev tb8_f_7 : Array Bool := #[b1, b1, b1, b1, b0, b0, b0, b0]
abbrev tb8_ff_7 : Array Bool := #[b1, b1, b1, b1, b1, b1, b1, b1]
/-! ### spec_BookSame: function 96 -/
def spec_BookSame.l0 : Nat → List (S43) → Int → Int → List (S43) → Option (Bool)
 | 0, _, _, _, _ => none
 | k + 1, x15, x16, x17, x150000 => if x17 < x16 then (if 0 ≤ x17 then (if x17 < (x15.length : Int) then (if x17 < (x150000.length : Int) then ((spec_AcctSame.f k ((rd_T43 x15 x17).f0) ((rd_T43 x15 x17).f1) ((rd_T43 x15 x17).f2) ((rd_T43 x15 x17).f3) ((rd_T43 x15 x17).f4) ((rd_T43 x15 x17).f5) ((rd_T43 x15 x17).f6.f0) ((rd_T43 x15 x17).f6.f1) ((rd_T43 x15 x17).f6.f2) ((rd_T43 x15 x17).f6.f3) ((rd_T43 x15 x17).f7) ((rd_T43 x150000 x17).f0) ((rd_T43 x150000 x17).f1) ((rd_T43 x150000 x17).f2) ((rd_T43 x150000 x17).f3) ((rd_T43 x150000 x17).f4) ((rd_T43 x150000 x17).f5) ((rd_T43 x150000 x17).f6.f0) ((rd_T43 x150000 x17).f6.f1) ((rd_T43 x150000 x17).f6.f2) ((rd_T43 x150000 x17).f6.f3) ((rd_T43 x150000 x17).f7)).bind fun t153 => (if t153 = true then (spec_BookSame.l0 k x15 x16 (wrap64 (x17 + 1)) x150000) else (some false))) else (none)) else (none)) else (none)) else (some true)
def spec_BookSame.f (k : Nat) (l0_0 : List (S43)) (l1_0 : List (S43)) : Option (Bool) := if (l0_0.length : Int) = (l1_0.length : Int) then (spec_BookSame.l0 k l0_0 (l0_0.length : Int) 0 l1_0) else (some false)
def spec_BookSame.T6 : Bool × List (List Nat × List Nat) := (true, [([], []), ([], []), ([1], [1]), ([], []), ([2, 3], [2, 3]), ([4], [4]), ([0, 5], [0, 5]), ([6], [6])])
def spec_BookSame.B6 : List Nat := [0, 0, 2, 0, 14, 30, 63, 127]
theorem spec_BookSame.tab6 : rtab .any (opsOf Try.f96 6) = spec_BookSame.T6 := by kernel_rfl
theorem spec_BookSame.bits6 : waitsOk spec_BookSame.T6.2 spec_BookSame.B6 = true := by kernel_rfl
set_option maxHeartbeats 8000000 in
set_option maxRecDepth 100000 in
theorem spec_BookSame.calls (k : Nat) (A0_0 : Option Addr) (c0_0 : Nat) (l0_0 : List (S43)) (A1_0 : Option Addr) (c1_0 : Nat) (l1_0 : List (S43)) (r : Bool) (w : World) (hr0_0 : Kd.C k43 w A0_0 l0_0.length l0_0) (hc0_0 : l0_0.length ≤ c0_0) (hr1_0 : Kd.C k43 w A1_0 l1_0.length l1_0) (hc1_0 : l1_0.length ≤ c1_0) (h : spec_BookSame.f k l0_0 l1_0 = some r) :
  Calls Try.prog 96 #[.agg #[.slice A0_0 l0_0.length c0_0], .agg #[.slice A1_0 l1_0.length c1_0]] w fun e w' => e = .returned (.bool r) ∧ Below w.heap.size w w' := by
 have hu124 := Try.underlying124
 have hu43 := Try.underlying43
 have HR0_0 := Aside0.mk hr0_0
 have HC0_0 := Aside0.mk hc0_0
 clear hr0_0 hc0_0
 have HR1_0 := Aside0.mk hr1_0
 have HC1_0 := Aside0.mk hc1_0
 clear hr1_0 hc1_0
 have HB := Aside0.mk (Below.refl w.heap.size w)
 have H : (if (l0_0.length : Int) = (l1_0.length : Int) then (spec_BookSame.l0 k l0_0 (l0_0.length : Int) 0 l1_0) else (some false)) = some r := h
 clear h
 by_cases c3 : (l0_0.length : Int) = (l1_0.length : Int)
 ·rw [if_pos c3] at H
  have c3b0 : ((l0_0.length : Int) == (l1_0.length : Int)) = true := beq_iff_eq.mpr c3
  have c3b1 : ((l0_0.length : Int) != (l1_0.length : Int)) = false := bne_eq_false_iff_eq.mpr c3
  have c3b2 : (l0_0.length == l1_0.length) = true := by first | simpa using c3 | (simp at c3 ⊢; omega)
  clear c3
  have H' := Aside0.mk H
  clear H
  go_enter Try.func96, Try.ntmps96
  go_wp2_with (first | ((with_reducible refine gate_dst (N := 2) rfl ?_); refine be_ (N := 2) (cs := #[.slice A0_0 l0_0.length c0_0]) (t := 124) ?_; intro gb148 hg w4 hbox hb; have BK148 := Aside0.mk (hbox); have GW148 := gw_ (w := w) hg; have GE148 := gw_ (w := w) hg; replace HB := Aside0.mk (below_step bl_ hb); clear hb hbox hg) | ((with_reducible refine gate_dst (N := 3) rfl ?_); refine be_ (N := 3) (cs := #[.slice A1_0 l1_0.length c1_0]) (t := 124) ?_; intro gb149 hg w5 hbox hb; have BK149 := Aside0.mk (hbox); have GW149 := gw_ (w := w) hg; have GE149 := gw_ (w := w) hg; replace HB := Aside0.mk (below_step bl_ hb); have NB148_149 := Aside0.mk ((by rw [hg]; exact Nat.ne_of_lt (blk_lt (bk_ BK148)) : gb148 ≠ gb149)); have NB149_148 := Aside0.mk ((by rw [hg]; exact Nat.ne_of_gt (blk_lt (bk_ BK148)) : gb149 ≠ gb148)); replace BK148 := Aside0.mk (blk_below (bk_ BK148) hb); clear hb hbox hg; have hnb6 := NB148_149.out; have hnc6 := NB149_148.out; have hcz7_0 := cz_ BK148 0 (.slice A0_0 l0_0.length c0_0); have hfz7_0 := fz_ BK148 0; have hcz8_0 := cz_ BK149 0 (.slice A1_0 l1_0.length c1_0); have hfz8_0 := fz_ BK149 0))
  go_loopg [17] k (fun kq v17 w' => ∃ (x17_1 : Int), v17 = .int .i64 x17_1 ∧ Aside0 (spec_BookSame.l0 kq l0_0 (l0_0.length : Int) x17_1 l1_0 = some r) ∧ Aside0 (kq ≤ k) ∧ Aside0 (w'.heap[gb148]? = some (.cells #[(.slice A0_0 l0_0.length c0_0)] 124 (0, 0))) ∧ Aside0 (w'.heap[gb149]? = some (.cells #[(.slice A1_0 l1_0.length c1_0)] 124 (0, 0))) ∧ Aside0 (Below w.heap.size w w'))
  case atStart => exact ⟨(0), sp_, H', ⟨Nat.le_refl _⟩, ⟨by (with_reducible repeat (first | refine blk_drewN ?_ _ | refine blk_drew ?_ | refine blk_alloc ?_ _)); exact BK148.out⟩, ⟨by (with_reducible repeat (first | refine blk_drewN ?_ _ | refine blk_drew ?_ | refine blk_alloc ?_ _)); exact BK149.out⟩, ⟨bl_⟩⟩
  case round =>
   clear H'
   try clear c1
   try clear p2
   try clear c3
   try clear c3b0
   try clear c3b1
   try clear c3b2
   try clear c6
   try clear hcz7_0
   try clear hcz8_0
   try clear hfz7_0
   try clear hfz8_0
   obtain ⟨x17_1, rfl, HA, HK1, BK148, BK149, HB⟩ := hrel
   cases gk with
   | zero => exact absurd HA.out (by simp [spec_BookSame.l0])
   | succ k1 =>
    have H := HA.out
    clear HA
    simp only [spec_BookSame.l0] at H
    by_cases c9 : x17_1 < (l0_0.length : Int)
    ·rw [if_pos c9] at H
     have c9b0 : decide (x17_1 < (l0_0.length : Int)) = true := decide_eq_true c9
     clear c9
     by_cases c10 : 0 ≤ x17_1
     ·rw [if_pos c10] at H
      have c10b0 : decide (0 ≤ x17_1) = true := decide_eq_true c10
      clear c10
      by_cases c11 : x17_1 < (l0_0.length : Int)
      ·rw [if_pos c11] at H
       have c11b0 : decide (x17_1 < (l0_0.length : Int)) = true := decide_eq_true c11
       clear c11
       by_cases c12 : x17_1 < (l1_0.length : Int)
       ·rw [if_pos c12] at H
        have c12b0 : decide (x17_1 < (l1_0.length : Int)) = true := decide_eq_true c12
        clear c12
        obtain ⟨t153, A13, H⟩ := ob_ H
        by_cases c14 : t153 = true
        ·subst c14
         replace H := ip_ H
         have H' := Aside0.mk H
         clear H
         have p150 : 0 ≤ (x17_1 : Int) := od_
         have q150 : x17_1 < (l0_0.length : Int) := od_
         obtain ⟨ad150, A150_5, c150_5, A150_8, c150_8, A150_9, c150_9, A150_10, c150_10, e150, hx150_0, hx150_1, hx150_2, hx150_3, hx150_4, hx150_5, hx150_6, hx150_7, hx150_8, hx150_9, hx150_10, hl150_5, hi150_5, hl150_8, hi150_8, hl150_9, hi150_9, hl150_10, hi150_10⟩ := at_T43 HR0_0.out x17_1 p150 q150
         cases e150
         replace hx150_0 := kc_ HB hx150_0
         replace hx150_1 := kc_ HB hx150_1
         replace hx150_2 := kc_ HB hx150_2
         replace hx150_3 := kc_ HB hx150_3
         replace hx150_4 := kc_ HB hx150_4
         replace hx150_5 := kc_ HB hx150_5
         replace hx150_6 := kc_ HB hx150_6
         replace hx150_7 := kc_ HB hx150_7
         replace hx150_8 := kc_ HB hx150_8
         replace hx150_9 := kc_ HB hx150_9
         replace hx150_10 := kc_ HB hx150_10
         have HR150_5 := Aside0.mk hi150_5
         have HC150_5 := Aside0.mk hl150_5
         clear hi150_5 hl150_5
         have HR150_8 := Aside0.mk hi150_8
         have HC150_8 := Aside0.mk hl150_8
         clear hi150_8 hl150_8
         have HR150_9 := Aside0.mk hi150_9
         have HC150_9 := Aside0.mk hl150_9
         clear hi150_9 hl150_9
         have HR150_10 := Aside0.mk hi150_10
         have HC150_10 := Aside0.mk hl150_10
         clear hi150_10 hl150_10
         replace p150 := eq_true p150
         replace q150 := eq_true q150
         try go_wp2_with (first | ((with_reducible refine gate_dst (N := 6) rfl ?_); refine be_ (N := 6) (cs := #[.string (⟨#[]⟩ : ByteArray), .int .i64 0, .int .i64 0, .int .i64 0, .int .i64 0, .slice none 0 0, .int .i64 0, .int .i64 0, .slice none 0 0, .slice none 0 0, .slice none 0 0]) (t := 43) ?_; intro gb151 hg w15 hbox hb; have BK151 := Aside0.mk (hbox); have GW151 := gw_ (w := w) hg; have GE151 := gw_ (w := w) hg; replace HB := Aside0.mk (below_step bl_ hb); have NB148_151 := Aside0.mk ((by rw [hg]; exact Nat.ne_of_lt (blk_lt (bk_ BK148)) : gb148 ≠ gb151)); have NB151_148 := Aside0.mk ((by rw [hg]; exact Nat.ne_of_gt (blk_lt (bk_ BK148)) : gb151 ≠ gb148)); replace BK148 := Aside0.mk (blk_below (bk_ BK148) hb); have NB149_151 := Aside0.mk ((by rw [hg]; exact Nat.ne_of_lt (blk_lt (bk_ BK149)) : gb149 ≠ gb151)); have NB151_149 := Aside0.mk ((by rw [hg]; exact Nat.ne_of_gt (blk_lt (bk_ BK149)) : gb151 ≠ gb149)); replace BK149 := Aside0.mk (blk_below (bk_ BK149) hb); clear hb hbox hg; have hnb16 := NB151_148.out; have hnc16 := NB148_151.out; have hnb17 := NB151_149.out; have hnc17 := NB149_151.out; obtain ⟨hcz18_0, hcz18_1, hcz18_2, hcz18_3, hcz18_4, hcz18_5, hcz18_6, hcz18_7, hcz18_8, hcz18_9, hcz18_10, hfz18_0, hfz18_1, hfz18_2, hfz18_3, hfz18_4, hfz18_5, hfz18_6, hfz18_7, hfz18_8, hfz18_9, hfz18_10⟩ := bx11_ BK151))
         have n0_ : Aside0 ((((((((((((w15.setCell ⟨gb151, 0, none⟩ (.string ((rd_T43 l0_0 x17_1).f0))).setCell ⟨gb151, 1, none⟩ (.int .i64 ((rd_T43 l0_0 x17_1).f1))).setCell ⟨gb151, 2, none⟩ (.int .i64 ((rd_T43 l0_0 x17_1).f2))).setCell ⟨gb151, 3, none⟩ (.int .i64 ((rd_T43 l0_0 x17_1).f3))).setCell ⟨gb151, 4, none⟩ (.int .i64 ((rd_T43 l0_0 x17_1).f4))).setCell ⟨gb151, 5, none⟩ (.slice A150_5 ((rd_T43 l0_0 x17_1).f5).length c150_5)).setCell ⟨gb151, 6, none⟩ (.int .i64 ((rd_T43 l0_0 x17_1).f6.f0))).setCell ⟨gb151, 7, none⟩ (.int .i64 ((rd_T43 l0_0 x17_1).f6.f1))).setCell ⟨gb151, 8, none⟩ (.slice A150_8 ((rd_T43 l0_0 x17_1).f6.f2).length c150_8)).setCell ⟨gb151, 9, none⟩ (.slice A150_9 ((rd_T43 l0_0 x17_1).f6.f3).length c150_9)).setCell ⟨gb151, 10, none⟩ (.slice A150_10 ((rd_T43 l0_0 x17_1).f7).length c150_10)).heap[gb148]? = some (.cells #[.slice (some ad150) l0_0.length c0_0] 124 (0, 0))) := ⟨by (with_reducible repeat (first | refine blk_drewN ?_ _ | refine blk_drew ?_ | refine blk_alloc ?_ _)); refine blk_far ?_ NB148_151.out _; (with_reducible repeat (first | refine blk_drewN ?_ _ | refine blk_drew ?_ | refine blk_alloc ?_ _)); refine blk_far ?_ NB148_151.out _; (with_reducible repeat (first | refine blk_drewN ?_ _ | refine blk_drew ?_ | refine blk_alloc ?_ _)); refine blk_far ?_ NB148_151.out _; (with_reducible repeat (first | refine blk_drewN ?_ _ | refine blk_drew ?_ | refine blk_alloc ?_ _)); refine blk_far ?_ NB148_151.out _; (with_reducible repeat (first | refine blk_drewN ?_ _ | refine blk_drew ?_ | refine blk_alloc ?_ _)); refine blk_far ?_ NB148_151.out _; (with_reducible repeat (first | refine blk_drewN ?_ _ | refine blk_drew ?_ | refine blk_alloc ?_ _)); refine blk_far ?_ NB148_151.out _; (with_reducible repeat (first | refine blk_drewN ?_ _ | refine blk_drew ?_ | refine blk_alloc ?_ _)); refine blk_far ?_ NB148_151.out _; (with_reducible repeat (first | refine blk_drewN ?_ _ | refine blk_drew ?_ | refine blk_alloc ?_ _)); refine blk_far ?_ NB148_151.out _; (with_reducible repeat (first | refine blk_drewN ?_ _ | refine blk_drew ?_ | refine blk_alloc ?_ _)); refine blk_far ?_ NB148_151.out _; (with_reducible repeat (first | refine blk_drewN ?_ _ | refine blk_drew ?_ | refine blk_alloc ?_ _)); refine blk_far ?_ NB148_151.out _; (with_reducible repeat (first | refine blk_drewN ?_ _ | refine blk_drew ?_ | refine blk_alloc ?_ _)); refine blk_far ?_ NB148_151.out _; (with_reducible repeat (first | refine blk_drewN ?_ _ | refine blk_drew ?_ | refine blk_alloc ?_ _)); exact BK148.out⟩
         have n1_ : Aside0 ((((((((((((w15.setCell ⟨gb151, 0, none⟩ (.string ((rd_T43 l0_0 x17_1).f0))).setCell ⟨gb151, 1, none⟩ (.int .i64 ((rd_T43 l0_0 x17_1).f1))).setCell ⟨gb151, 2, none⟩ (.int .i64 ((rd_T43 l0_0 x17_1).f2))).setCell ⟨gb151, 3, none⟩ (.int .i64 ((rd_T43 l0_0 x17_1).f3))).setCell ⟨gb151, 4, none⟩ (.int .i64 ((rd_T43 l0_0 x17_1).f4))).setCell ⟨gb151, 5, none⟩ (.slice A150_5 ((rd_T43 l0_0 x17_1).f5).length c150_5)).setCell ⟨gb151, 6, none⟩ (.int .i64 ((rd_T43 l0_0 x17_1).f6.f0))).setCell ⟨gb151, 7, none⟩ (.int .i64 ((rd_T43 l0_0 x17_1).f6.f1))).setCell ⟨gb151, 8, none⟩ (.slice A150_8 ((rd_T43 l0_0 x17_1).f6.f2).length c150_8)).setCell ⟨gb151, 9, none⟩ (.slice A150_9 ((rd_T43 l0_0 x17_1).f6.f3).length c150_9)).setCell ⟨gb151, 10, none⟩ (.slice A150_10 ((rd_T43 l0_0 x17_1).f7).length c150_10)).heap[gb149]? = some (.cells #[.slice A1_0 l1_0.length c1_0] 124 (0, 0))) := ⟨by (with_reducible repeat (first | refine blk_drewN ?_ _ | refine blk_drew ?_ | refine blk_alloc ?_ _)); refine blk_far ?_ NB149_151.out _; (with_reducible repeat (first | refine blk_drewN ?_ _ | refine blk_drew ?_ | refine blk_alloc ?_ _)); refine blk_far ?_ NB149_151.out _; (with_reducible repeat (first | refine blk_drewN ?_ _ | refine blk_drew ?_ | refine blk_alloc ?_ _)); refine blk_far ?_ NB149_151.out _; (with_reducible repeat (first | refine blk_drewN ?_ _ | refine blk_drew ?_ | refine blk_alloc ?_ _)); refine blk_far ?_ NB149_151.out _; (with_reducible repeat (first | refine blk_drewN ?_ _ | refine blk_drew ?_ | refine blk_alloc ?_ _)); refine blk_far ?_ NB149_151.out _; (with_reducible repeat (first | refine blk_drewN ?_ _ | refine blk_drew ?_ | refine blk_alloc ?_ _)); refine blk_far ?_ NB149_151.out _; (with_reducible repeat (first | refine blk_drewN ?_ _ | refine blk_drew ?_ | refine blk_alloc ?_ _)); refine blk_far ?_ NB149_151.out _; (with_reducible repeat (first | refine blk_drewN ?_ _ | refine blk_drew ?_ | refine blk_alloc ?_ _)); refine blk_far ?_ NB149_151.out _; (with_reducible repeat (first | refine blk_drewN ?_ _ | refine blk_drew ?_ | refine blk_alloc ?_ _)); refine blk_far ?_ NB149_151.out _; (with_reducible repeat (first | refine blk_drewN ?_ _ | refine blk_drew ?_ | refine blk_alloc ?_ _)); refine blk_far ?_ NB149_151.out _; (with_reducible repeat (first | refine blk_drewN ?_ _ | refine blk_drew ?_ | refine blk_alloc ?_ _)); refine blk_far ?_ NB149_151.out _; (with_reducible repeat (first | refine blk_drewN ?_ _ | refine blk_drew ?_ | refine blk_alloc ?_ _)); exact BK149.out⟩
         have n2_ : Aside0 ((((((((((((w15.setCell ⟨gb151, 0, none⟩ (.string ((rd_T43 l0_0 x17_1).f0))).setCell ⟨gb151, 1, none⟩ (.int .i64 ((rd_T43 l0_0 x17_1).f1))).setCell ⟨gb151, 2, none⟩ (.int .i64 ((rd_T43 l0_0 x17_1).f2))).setCell ⟨gb151, 3, none⟩ (.int .i64 ((rd_T43 l0_0 x17_1).f3))).setCell ⟨gb151, 4, none⟩ (.int .i64 ((rd_T43 l0_0 x17_1).f4))).setCell ⟨gb151, 5, none⟩ (.slice A150_5 ((rd_T43 l0_0 x17_1).f5).length c150_5)).setCell ⟨gb151, 6, none⟩ (.int .i64 ((rd_T43 l0_0 x17_1).f6.f0))).setCell ⟨gb151, 7, none⟩ (.int .i64 ((rd_T43 l0_0 x17_1).f6.f1))).setCell ⟨gb151, 8, none⟩ (.slice A150_8 ((rd_T43 l0_0 x17_1).f6.f2).length c150_8)).setCell ⟨gb151, 9, none⟩ (.slice A150_9 ((rd_T43 l0_0 x17_1).f6.f3).length c150_9)).setCell ⟨gb151, 10, none⟩ (.slice A150_10 ((rd_T43 l0_0 x17_1).f7).length c150_10)).heap[gb151]? = some (.cells #[.string ((rd_T43 l0_0 x17_1).f0), .int .i64 ((rd_T43 l0_0 x17_1).f1), .int .i64 ((rd_T43 l0_0 x17_1).f2), .int .i64 ((rd_T43 l0_0 x17_1).f3), .int .i64 ((rd_T43 l0_0 x17_1).f4), .slice A150_5 ((rd_T43 l0_0 x17_1).f5).length c150_5, .int .i64 ((rd_T43 l0_0 x17_1).f6.f0), .int .i64 ((rd_T43 l0_0 x17_1).f6.f1), .slice A150_8 ((rd_T43 l0_0 x17_1).f6.f2).length c150_8, .slice A150_9 ((rd_T43 l0_0 x17_1).f6.f3).length c150_9, .slice A150_10 ((rd_T43 l0_0 x17_1).f7).length c150_10] 43 (0, 0))) := ⟨by (with_reducible repeat (first | refine blk_drewN ?_ _ | refine blk_drew ?_ | refine blk_alloc ?_ _)); apply bq11_10_9_8_7_6_5_4_3_2_1_0_; (with_reducible repeat (first | refine blk_drewN ?_ _ | refine blk_drew ?_ | refine blk_alloc ?_ _)); exact BK151.out⟩
         have n3_ : Aside0 (Below w.heap.size w (((((((((((w15.setCell ⟨gb151, 0, none⟩ (.string ((rd_T43 l0_0 x17_1).f0))).setCell ⟨gb151, 1, none⟩ (.int .i64 ((rd_T43 l0_0 x17_1).f1))).setCell ⟨gb151, 2, none⟩ (.int .i64 ((rd_T43 l0_0 x17_1).f2))).setCell ⟨gb151, 3, none⟩ (.int .i64 ((rd_T43 l0_0 x17_1).f3))).setCell ⟨gb151, 4, none⟩ (.int .i64 ((rd_T43 l0_0 x17_1).f4))).setCell ⟨gb151, 5, none⟩ (.slice A150_5 ((rd_T43 l0_0 x17_1).f5).length c150_5)).setCell ⟨gb151, 6, none⟩ (.int .i64 ((rd_T43 l0_0 x17_1).f6.f0))).setCell ⟨gb151, 7, none⟩ (.int .i64 ((rd_T43 l0_0 x17_1).f6.f1))).setCell ⟨gb151, 8, none⟩ (.slice A150_8 ((rd_T43 l0_0 x17_1).f6.f2).length c150_8)).setCell ⟨gb151, 9, none⟩ (.slice A150_9 ((rd_T43 l0_0 x17_1).f6.f3).length c150_9)).setCell ⟨gb151, 10, none⟩ (.slice A150_10 ((rd_T43 l0_0 x17_1).f7).length c150_10))) := ⟨bl_⟩
         (try clear BK148)
         (try clear BK149)
         (try clear BK151)
         (try clear HB)
         generalize (((((((((((w15.setCell ⟨gb151, 0, none⟩ (.string ((rd_T43 l0_0 x17_1).f0))).setCell ⟨gb151, 1, none⟩ (.int .i64 ((rd_T43 l0_0 x17_1).f1))).setCell ⟨gb151, 2, none⟩ (.int .i64 ((rd_T43 l0_0 x17_1).f2))).setCell ⟨gb151, 3, none⟩ (.int .i64 ((rd_T43 l0_0 x17_1).f3))).setCell ⟨gb151, 4, none⟩ (.int .i64 ((rd_T43 l0_0 x17_1).f4))).setCell ⟨gb151, 5, none⟩ (.slice A150_5 ((rd_T43 l0_0 x17_1).f5).length c150_5)).setCell ⟨gb151, 6, none⟩ (.int .i64 ((rd_T43 l0_0 x17_1).f6.f0))).setCell ⟨gb151, 7, none⟩ (.int .i64 ((rd_T43 l0_0 x17_1).f6.f1))).setCell ⟨gb151, 8, none⟩ (.slice A150_8 ((rd_T43 l0_0 x17_1).f6.f2).length c150_8)).setCell ⟨gb151, 9, none⟩ (.slice A150_9 ((rd_T43 l0_0 x17_1).f6.f3).length c150_9)).setCell ⟨gb151, 10, none⟩ (.slice A150_10 ((rd_T43 l0_0 x17_1).f7).length c150_10)) = w19 at n0_ n1_ n2_ n3_ ⊢
         have BK148 := n0_
         have BK149 := n1_
         have BK151 := n2_
         have HB := n3_
         clear n0_ n1_ n2_ n3_
         have n0_ := Aside0.mk (blk_drew BK148.out)
         have n1_ := Aside0.mk (blk_drew BK149.out)
         have n2_ := Aside0.mk (blk_drew BK151.out)
         have n3_ := Aside0.mk (below_drew1 HB.out)
         clear BK148
         clear BK149
         clear BK151
         clear HB
         have BK148 := n0_
         have BK149 := n1_
         have BK151 := n2_
         have HB := n3_
         clear n0_ n1_ n2_ n3_
         have p152 : 0 ≤ (x17_1 : Int) := od_
         have q152 : x17_1 < (l1_0.length : Int) := od_
         obtain ⟨ad152, A152_5, c152_5, A152_8, c152_8, A152_9, c152_9, A152_10, c152_10, e152, hx152_0, hx152_1, hx152_2, hx152_3, hx152_4, hx152_5, hx152_6, hx152_7, hx152_8, hx152_9, hx152_10, hl152_5, hi152_5, hl152_8, hi152_8, hl152_9, hi152_9, hl152_10, hi152_10⟩ := at_T43 HR1_0.out x17_1 p152 q152
         have hw152_10 := hx152_10
         have hw152_9 := hx152_9
         have hw152_8 := hx152_8
         have hw152_7 := hx152_7
         have hw152_6 := hx152_6
         have hw152_5 := hx152_5
         have hw152_4 := hx152_4
         have hw152_3 := hx152_3
         have hw152_2 := hx152_2
         have hw152_1 := hx152_1
         have hw152_0 := hx152_0
         cases e152
         replace hx152_0 := kc_ HB hx152_0
         replace hx152_1 := kc_ HB hx152_1
         replace hx152_2 := kc_ HB hx152_2
         replace hx152_3 := kc_ HB hx152_3
         replace hx152_4 := kc_ HB hx152_4
         replace hx152_5 := kc_ HB hx152_5
         replace hx152_6 := kc_ HB hx152_6
         replace hx152_7 := kc_ HB hx152_7
         replace hx152_8 := kc_ HB hx152_8
         replace hx152_9 := kc_ HB hx152_9
         replace hx152_10 := kc_ HB hx152_10
         have HR152_5 := Aside0.mk hi152_5
         have HC152_5 := Aside0.mk hl152_5
         clear hi152_5 hl152_5
         have HR152_8 := Aside0.mk hi152_8
         have HC152_8 := Aside0.mk hl152_8
         clear hi152_8 hl152_8
         have HR152_9 := Aside0.mk hi152_9
         have HC152_9 := Aside0.mk hl152_9
         clear hi152_9 hl152_9
         have HR152_10 := Aside0.mk hi152_10
         have HC152_10 := Aside0.mk hl152_10
         clear hi152_10 hl152_10
         replace p152 := eq_true p152
         replace q152 := eq_true q152
         refine start_ (n := 8) (S := fun w' => w'.cell? ⟨gb151, 0, none⟩ = some (.string ((rd_T43 l0_0 x17_1).f0)) ∧ w'.cell? ⟨gb151, 1, none⟩ = some (.int .i64 ((rd_T43 l0_0 x17_1).f1)) ∧ w'.cell? ⟨gb151, 2, none⟩ = some (.int .i64 ((rd_T43 l0_0 x17_1).f2)) ∧ w'.cell? ⟨gb151, 3, none⟩ = some (.int .i64 ((rd_T43 l0_0 x17_1).f3)) ∧ w'.cell? ⟨gb151, 4, none⟩ = some (.int .i64 ((rd_T43 l0_0 x17_1).f4)) ∧ w'.cell? ⟨gb151, 5, none⟩ = some (.slice A150_5 ((rd_T43 l0_0 x17_1).f5).length c150_5) ∧ w'.cell? ⟨gb151, 6, none⟩ = some (.int .i64 ((rd_T43 l0_0 x17_1).f6.f0)) ∧ w'.cell? ⟨gb151, 7, none⟩ = some (.int .i64 ((rd_T43 l0_0 x17_1).f6.f1)) ∧ w'.cell? ⟨gb151, 8, none⟩ = some (.slice A150_8 ((rd_T43 l0_0 x17_1).f6.f2).length c150_8) ∧ w'.cell? ⟨gb151, 9, none⟩ = some (.slice A150_9 ((rd_T43 l0_0 x17_1).f6.f3).length c150_9) ∧ w'.cell? ⟨gb151, 10, none⟩ = some (.slice A150_10 ((rd_T43 l0_0 x17_1).f7).length c150_10) ∧ w'.cell? ⟨gb149, 0, none⟩ = some (.slice (some ad152) l1_0.length c1_0) ∧ w'.cell? (ad152.add ((x17_1).toNat * 11)) = some (.string ((rd_T43 l1_0 x17_1).f0)) ∧ w'.cell? ⟨(ad152.add ((x17_1).toNat * 11)).block, (ad152.add ((x17_1).toNat * 11)).off + 1, none⟩ = some (.int .i64 ((rd_T43 l1_0 x17_1).f1)) ∧ w'.cell? ⟨(ad152.add ((x17_1).toNat * 11)).block, (ad152.add ((x17_1).toNat * 11)).off + 2, none⟩ = some (.int .i64 ((rd_T43 l1_0 x17_1).f2)) ∧ w'.cell? ⟨(ad152.add ((x17_1).toNat * 11)).block, (ad152.add ((x17_1).toNat * 11)).off + 3, none⟩ = some (.int .i64 ((rd_T43 l1_0 x17_1).f3)) ∧ w'.cell? ⟨(ad152.add ((x17_1).toNat * 11)).block, (ad152.add ((x17_1).toNat * 11)).off + 4, none⟩ = some (.int .i64 ((rd_T43 l1_0 x17_1).f4)) ∧ w'.cell? ⟨(ad152.add ((x17_1).toNat * 11)).block, (ad152.add ((x17_1).toNat * 11)).off + 5, none⟩ = some (.slice A152_5 ((rd_T43 l1_0 x17_1).f5).length c152_5) ∧ w'.cell? ⟨(ad152.add ((x17_1).toNat * 11)).block, (ad152.add ((x17_1).toNat * 11)).off + 6, none⟩ = some (.int .i64 ((rd_T43 l1_0 x17_1).f6.f0)) ∧ w'.cell? ⟨(ad152.add ((x17_1).toNat * 11)).block, (ad152.add ((x17_1).toNat * 11)).off + 7, none⟩ = some (.int .i64 ((rd_T43 l1_0 x17_1).f6.f1)) ∧ w'.cell? ⟨(ad152.add ((x17_1).toNat * 11)).block, (ad152.add ((x17_1).toNat * 11)).off + 8, none⟩ = some (.slice A152_8 ((rd_T43 l1_0 x17_1).f6.f2).length c152_8) ∧ w'.cell? ⟨(ad152.add ((x17_1).toNat * 11)).block, (ad152.add ((x17_1).toNat * 11)).off + 9, none⟩ = some (.slice A152_9 ((rd_T43 l1_0 x17_1).f6.f3).length c152_9) ∧ w'.cell? ⟨(ad152.add ((x17_1).toNat * 11)).block, (ad152.add ((x17_1).toNat * 11)).off + 10, none⟩ = some (.slice A152_10 ((rd_T43 l1_0 x17_1).f7).length c152_10)) (ds := []) tb8_0_7 (by kernel_rfl) rfl rfl ⟨cy_ BK151 0, cy_ BK151 1, cy_ BK151 2, cy_ BK151 3, cy_ BK151 4, cy_ BK151 5, cy_ BK151 6, cy_ BK151 7, cy_ BK151 8, cy_ BK151 9, cy_ BK151 10, cy_ BK149 0, (kc_ HB hw152_0), (kc_ HB hw152_1), (kc_ HB hw152_2), (kc_ HB hw152_3), (kc_ HB hw152_4), (kc_ HB hw152_5), (kc_ HB hw152_6), (kc_ HB hw152_7), (kc_ HB hw152_8), (kc_ HB hw152_9), (kc_ HB hw152_10)⟩ (fun hHeld => ?_); refine with_tabW spec_BookSame.tab6 spec_BookSame.bits6 (fun HT_ HW_ => ?_)
         generalize w19.drew = w20 at BK148 BK149 BK151 HB HR152_10 HR152_5 HR152_8 HR152_9 hx152_0 hx152_1 hx152_10 hx152_2 hx152_3 hx152_4 hx152_5 hx152_6 hx152_7 hx152_8 hx152_9 hHeld ⊢
         refine pl_ HT_ 1 23 tb8_2_7 ?_
         refine pl_ HT_ 3 25 tb8_a_7 ?_
         refine take_ (i := 0) (N := some 22) (v := ?_) (a' := ?_) tb8_b_7 rfl rfl (take_ofW HT_.out HW_.out (by kernel_rfl)) (fun _ _ _ h => h) (Or.inl ⟨by rfl, ?_⟩) hHeld ?_ ?_
         rotate_left
         ·rintro w' ⟨s0, s1, s2, s3, s4, s5, s6, s7, s8, s9, s10, s11, s12, s13, s14, s15, s16, s17, s18, s19, s20, s21, s22⟩
          go_simp
          with_reducible rfl
         rotate_left
         ·simp only [Act.put, q_]
          rfl
         refine take_ (i := 2) (N := some 24) (v := ?_) (a' := ?_) tb8_f_7 rfl rfl (take_ofW HT_.out HW_.out (by kernel_rfl)) (fun _ _ _ h => h) (Or.inl ⟨by rfl, ?_⟩) hHeld ?_ ?_
         rotate_left
         ·rintro w' ⟨s0, s1, s2, s3, s4, s5, s6, s7, s8, s9, s10, s11, s12, s13, s14, s15, s16, s17, s18, s19, s20, s21, s22⟩
          go_simp
          with_reducible rfl
         rotate_left
         ·simp only [Act.put, q_]
          rfl
         refine pl_ HT_ 4 26 tb8_1f_7 ?_
         refine take_ (i := 5) (N := some 27) (v := ?_) (a' := ?_) tb8_3f_7 rfl rfl (take_ofW HT_.out HW_.out (by kernel_rfl)) (fun _ _ _ h => h) (Or.inl ⟨by rfl, ?_⟩) hHeld ?_ ?_
         rotate_left
         ·rintro w' ⟨s0, s1, s2, s3, s4, s5, s6, s7, s8, s9, s10, s11, s12, s13, s14, s15, s16, s17, s18, s19, s20, s21, s22⟩
          go_simp
          with_reducible rfl
         rotate_left
         ·simp only [Act.put, q_]
          rfl
         refine one_ (i := 6) (N := some 28) tb8_7f_7 rfl rfl (one_of HT_.out (by kernel_rfl)) (by decide) (fun K hK => ?_)
         refine goes_ Try.func150 (by kernel_rfl) rfl #[.agg #[.string ((rd_T43 l0_0 x17_1).f0), .int .i64 ((rd_T43 l0_0 x17_1).f1), .int .i64 ((rd_T43 l0_0 x17_1).f2), .int .i64 ((rd_T43 l0_0 x17_1).f3), .int .i64 ((rd_T43 l0_0 x17_1).f4), .slice A150_5 ((rd_T43 l0_0 x17_1).f5).length c150_5, .int .i64 ((rd_T43 l0_0 x17_1).f6.f0), .int .i64 ((rd_T43 l0_0 x17_1).f6.f1), .slice A150_8 ((rd_T43 l0_0 x17_1).f6.f2).length c150_8, .slice A150_9 ((rd_T43 l0_0 x17_1).f6.f3).length c150_9, .slice A150_10 ((rd_T43 l0_0 x17_1).f7).length c150_10], .agg #[.string ((rd_T43 l1_0 x17_1).f0), .int .i64 ((rd_T43 l1_0 x17_1).f1), .int .i64 ((rd_T43 l1_0 x17_1).f2), .int .i64 ((rd_T43 l1_0 x17_1).f3), .int .i64 ((rd_T43 l1_0 x17_1).f4), .slice A152_5 ((rd_T43 l1_0 x17_1).f5).length c152_5, .int .i64 ((rd_T43 l1_0 x17_1).f6.f0), .int .i64 ((rd_T43 l1_0 x17_1).f6.f1), .slice A152_8 ((rd_T43 l1_0 x17_1).f6.f2).length c152_8, .slice A152_9 ((rd_T43 l1_0 x17_1).f6.f3).length c152_9, .slice A152_10 ((rd_T43 l1_0 x17_1).f7).length c152_10]] (by rfl) rfl rfl gl_ ?_
         with_reducible refine (spec_AcctSame.calls k1 ((rd_T43 l0_0 x17_1).f0) ((rd_T43 l0_0 x17_1).f1) ((rd_T43 l0_0 x17_1).f2) ((rd_T43 l0_0 x17_1).f3) ((rd_T43 l0_0 x17_1).f4) _ _ ((rd_T43 l0_0 x17_1).f5) ((rd_T43 l0_0 x17_1).f6.f0) ((rd_T43 l0_0 x17_1).f6.f1) _ _ ((rd_T43 l0_0 x17_1).f6.f2) _ _ ((rd_T43 l0_0 x17_1).f6.f3) _ _ ((rd_T43 l0_0 x17_1).f7) ((rd_T43 l1_0 x17_1).f0) ((rd_T43 l1_0 x17_1).f1) ((rd_T43 l1_0 x17_1).f2) ((rd_T43 l1_0 x17_1).f3) ((rd_T43 l1_0 x17_1).f4) _ _ ((rd_T43 l1_0 x17_1).f5) ((rd_T43 l1_0 x17_1).f6.f0) ((rd_T43 l1_0 x17_1).f6.f1) _ _ ((rd_T43 l1_0 x17_1).f6.f2) _ _ ((rd_T43 l1_0 x17_1).f6.f3) _ _ ((rd_T43 l1_0 x17_1).f7) true _ ?side1 ?side2 ?side3 ?side4 ?side5 ?side6 ?side7 ?side8 ?side9 ?side10 ?side11 ?side12 ?side13 ?side14 ?side15 ?side16 A13.out).mono ?_
         (case side1 => exact ca_ (Kd.C_below HR150_5.out HB.out))
         (case side2 => exact HC150_5.out)
         (case side3 => exact ca_ (Kd.C_below HR150_8.out HB.out))
         (case side4 => exact HC150_8.out)
         (case side5 => exact ca_ (Kd.C_below HR150_9.out HB.out))
         (case side6 => exact HC150_9.out)
         (case side7 => exact ca_ (Kd.C_below HR150_10.out HB.out))
         (case side8 => exact HC150_10.out)
         (case side9 => exact ca_ (Kd.C_below HR152_5.out HB.out))
         (case side10 => exact HC152_5.out)
         (case side11 => exact ca_ (Kd.C_below HR152_8.out HB.out))
         (case side12 => exact HC152_8.out)
         (case side13 => exact ca_ (Kd.C_below HR152_9.out HB.out))
         (case side14 => exact HC152_9.out)
         (case side15 => exact ca_ (Kd.C_below HR152_10.out HB.out))
         (case side16 => exact HC152_10.out)
         rintro e w21 ⟨rfl, hb⟩
         refine ⟨_, rfl, ?_⟩
         have n0_ := Aside0.mk (blk_below (bk_ BK148) hb)
         have n1_ := Aside0.mk (blk_below (bk_ BK149) hb)
         have n2_ := Aside0.mk (blk_below (bk_ BK151) hb)
         have n3_ := Aside0.mk (below_step bl_ hb)
         clear BK148
         clear BK149
         clear BK151
         clear HB
         have BK148 := n0_
         have BK149 := n1_
         have BK151 := n2_
         have HB := n3_
         clear n0_ n1_ n2_ n3_
         (try clear hb)
         (try clear hb2)
         (try clear hk)
         (try clear hi)
         refine hK.out _ _ ⟨cy_ BK151 0, cy_ BK151 1, cy_ BK151 2, cy_ BK151 3, cy_ BK151 4, cy_ BK151 5, cy_ BK151 6, cy_ BK151 7, cy_ BK151 8, cy_ BK151 9, cy_ BK151 10, cy_ BK149 0, (kc_ HB hw152_0), (kc_ HB hw152_1), (kc_ HB hw152_2), (kc_ HB hw152_3), (kc_ HB hw152_4), (kc_ HB hw152_5), (kc_ HB hw152_6), (kc_ HB hw152_7), (kc_ HB hw152_8), (kc_ HB hw152_9), (kc_ HB hw152_10)⟩ (fun hHeld => ?_)
         clear hK K
         refine norm_ (a' := ?_) ?_ ?_
         rotate_left
         ·show Act.put _ (some 28) _ = _
          simp only [Act.put, q_]
          rfl
         refine pl_ HT_ 7 29 tb8_ff_7 ?_
         refine done_ (done_of HT_.out (by kernel_rfl)) ?_
         try go_wp2
         go_roundg k1
         case measure => have := HK1.out; omega
         case rel => exact ⟨(wrap64 (x17_1 + 1)), sp_, H', ⟨by have := HK1.out; omega⟩, ⟨by (with_reducible repeat (first | refine blk_drewN ?_ _ | refine blk_drew ?_ | refine blk_alloc ?_ _)); exact BK148.out⟩, ⟨by (with_reducible repeat (first | refine blk_drewN ?_ _ | refine blk_drew ?_ | refine blk_alloc ?_ _)); exact BK149.out⟩, ⟨bl_⟩⟩
        ·replace c14 := Bool.eq_false_iff.mpr c14
         subst c14
         replace H := in_ H
         obtain rfl := Option.some.inj H
         have p150 : 0 ≤ (x17_1 : Int) := od_
         have q150 : x17_1 < (l0_0.length : Int) := od_
         obtain ⟨ad150, A150_5, c150_5, A150_8, c150_8, A150_9, c150_9, A150_10, c150_10, e150, hx150_0, hx150_1, hx150_2, hx150_3, hx150_4, hx150_5, hx150_6, hx150_7, hx150_8, hx150_9, hx150_10, hl150_5, hi150_5, hl150_8, hi150_8, hl150_9, hi150_9, hl150_10, hi150_10⟩ := at_T43 HR0_0.out x17_1 p150 q150
         cases e150
         replace hx150_0 := kc_ HB hx150_0
         replace hx150_1 := kc_ HB hx150_1
         replace hx150_2 := kc_ HB hx150_2
         replace hx150_3 := kc_ HB hx150_3
         replace hx150_4 := kc_ HB hx150_4
         replace hx150_5 := kc_ HB hx150_5
         replace hx150_6 := kc_ HB hx150_6
         replace hx150_7 := kc_ HB hx150_7
         replace hx150_8 := kc_ HB hx150_8
         replace hx150_9 := kc_ HB hx150_9
         replace hx150_10 := kc_ HB hx150_10
         have HR150_5 := Aside0.mk hi150_5
         have HC150_5 := Aside0.mk hl150_5
         clear hi150_5 hl150_5
         have HR150_8 := Aside0.mk hi150_8
         have HC150_8 := Aside0.mk hl150_8
         clear hi150_8 hl150_8
         have HR150_9 := Aside0.mk hi150_9
         have HC150_9 := Aside0.mk hl150_9
         clear hi150_9 hl150_9
         have HR150_10 := Aside0.mk hi150_10
         have HC150_10 := Aside0.mk hl150_10
         clear hi150_10 hl150_10
         replace p150 := eq_true p150
         replace q150 := eq_true q150
         try go_wp2_with (first | ((with_reducible refine gate_dst (N := 6) rfl ?_); refine be_ (N := 6) (cs := #[.string (⟨#[]⟩ : ByteArray), .int .i64 0, .int .i64 0, .int .i64 0, .int .i64 0, .slice none 0 0, .int .i64 0, .int .i64 0, .slice none 0 0, .slice none 0 0, .slice none 0 0]) (t := 43) ?_; intro gb151 hg w22 hbox hb; have BK151 := Aside0.mk (hbox); have GW151 := gw_ (w := w) hg; have GE151 := gw_ (w := w) hg; replace HB := Aside0.mk (below_step bl_ hb); have NB148_151 := Aside0.mk ((by rw [hg]; exact Nat.ne_of_lt (blk_lt (bk_ BK148)) : gb148 ≠ gb151)); have NB151_148 := Aside0.mk ((by rw [hg]; exact Nat.ne_of_gt (blk_lt (bk_ BK148)) : gb151 ≠ gb148)); replace BK148 := Aside0.mk (blk_below (bk_ BK148) hb); have NB149_151 := Aside0.mk ((by rw [hg]; exact Nat.ne_of_lt (blk_lt (bk_ BK149)) : gb149 ≠ gb151)); have NB151_149 := Aside0.mk ((by rw [hg]; exact Nat.ne_of_gt (blk_lt (bk_ BK149)) : gb151 ≠ gb149)); replace BK149 := Aside0.mk (blk_below (bk_ BK149) hb); clear hb hbox hg; have hnb23 := NB151_148.out; have hnc23 := NB148_151.out; have hnb24 := NB151_149.out; have hnc24 := NB149_151.out; obtain ⟨hcz25_0, hcz25_1, hcz25_2, hcz25_3, hcz25_4, hcz25_5, hcz25_6, hcz25_7, hcz25_8, hcz25_9, hcz25_10, hfz25_0, hfz25_1, hfz25_2, hfz25_3, hfz25_4, hfz25_5, hfz25_6, hfz25_7, hfz25_8, hfz25_9, hfz25_10⟩ := bx11_ BK151))
         have n0_ : Aside0 ((((((((((((w22.setCell ⟨gb151, 0, none⟩ (.string ((rd_T43 l0_0 x17_1).f0))).setCell ⟨gb151, 1, none⟩ (.int .i64 ((rd_T43 l0_0 x17_1).f1))).setCell ⟨gb151, 2, none⟩ (.int .i64 ((rd_T43 l0_0 x17_1).f2))).setCell ⟨gb151, 3, none⟩ (.int .i64 ((rd_T43 l0_0 x17_1).f3))).setCell ⟨gb151, 4, none⟩ (.int .i64 ((rd_T43 l0_0 x17_1).f4))).setCell ⟨gb151, 5, none⟩ (.slice A150_5 ((rd_T43 l0_0 x17_1).f5).length c150_5)).setCell ⟨gb151, 6, none⟩ (.int .i64 ((rd_T43 l0_0 x17_1).f6.f0))).setCell ⟨gb151, 7, none⟩ (.int .i64 ((rd_T43 l0_0 x17_1).f6.f1))).setCell ⟨gb151, 8, none⟩ (.slice A150_8 ((rd_T43 l0_0 x17_1).f6.f2).length c150_8)).setCell ⟨gb151, 9, none⟩ (.slice A150_9 ((rd_T43 l0_0 x17_1).f6.f3).length c150_9)).setCell ⟨gb151, 10, none⟩ (.slice A150_10 ((rd_T43 l0_0 x17_1).f7).length c150_10)).heap[gb148]? = some (.cells #[.slice (some ad150) l0_0.length c0_0] 124 (0, 0))) := ⟨by (with_reducible repeat (first | refine blk_drewN ?_ _ | refine blk_drew ?_ | refine blk_alloc ?_ _)); refine blk_far ?_ NB148_151.out _; (with_reducible repeat (first | refine blk_drewN ?_ _ | refine blk_drew ?_ | refine blk_alloc ?_ _)); refine blk_far ?_ NB148_151.out _; (with_reducible repeat (first | refine blk_drewN ?_ _ | refine blk_drew ?_ | refine blk_alloc ?_ _)); refine blk_far ?_ NB148_151.out _; (with_reducible repeat (first | refine blk_drewN ?_ _ | refine blk_drew ?_ | refine blk_alloc ?_ _)); refine blk_far ?_ NB148_151.out _; (with_reducible repeat (first | refine blk_drewN ?_ _ | refine blk_drew ?_ | refine blk_alloc ?_ _)); refine blk_far ?_ NB148_151.out _; (with_reducible repeat (first | refine blk_drewN ?_ _ | refine blk_drew ?_ | refine blk_alloc ?_ _)); refine blk_far ?_ NB148_151.out _; (with_reducible repeat (first | refine blk_drewN ?_ _ | refine blk_drew ?_ | refine blk_alloc ?_ _)); refine blk_far ?_ NB148_151.out _; (with_reducible repeat (first | refine blk_drewN ?_ _ | refine blk_drew ?_ | refine blk_alloc ?_ _)); refine blk_far ?_ NB148_151.out _; (with_reducible repeat (first | refine blk_drewN ?_ _ | refine blk_drew ?_ | refine blk_alloc ?_ _)); refine blk_far ?_ NB148_151.out _; (with_reducible repeat (first | refine blk_drewN ?_ _ | refine blk_drew ?_ | refine blk_alloc ?_ _)); refine blk_far ?_ NB148_151.out _; (with_reducible repeat (first | refine blk_drewN ?_ _ | refine blk_drew ?_ | refine blk_alloc ?_ _)); refine blk_far ?_ NB148_151.out _; (with_reducible repeat (first | refine blk_drewN ?_ _ | refine blk_drew ?_ | refine blk_alloc ?_ _)); exact BK148.out⟩
         have n1_ : Aside0 ((((((((((((w22.setCell ⟨gb151, 0, none⟩ (.string ((rd_T43 l0_0 x17_1).f0))).setCell ⟨gb151, 1, none⟩ (.int .i64 ((rd_T43 l0_0 x17_1).f1))).setCell ⟨gb151, 2, none⟩ (.int .i64 ((rd_T43 l0_0 x17_1).f2))).setCell ⟨gb151, 3, none⟩ (.int .i64 ((rd_T43 l0_0 x17_1).f3))).setCell ⟨gb151, 4, none⟩ (.int .i64 ((rd_T43 l0_0 x17_1).f4))).setCell ⟨gb151, 5, none⟩ (.slice A150_5 ((rd_T43 l0_0 x17_1).f5).length c150_5)).setCell ⟨gb151, 6, none⟩ (.int .i64 ((rd_T43 l0_0 x17_1).f6.f0))).setCell ⟨gb151, 7, none⟩ (.int .i64 ((rd_T43 l0_0 x17_1).f6.f1))).setCell ⟨gb151, 8, none⟩ (.slice A150_8 ((rd_T43 l0_0 x17_1).f6.f2).length c150_8)).setCell ⟨gb151, 9, none⟩ (.slice A150_9 ((rd_T43 l0_0 x17_1).f6.f3).length c150_9)).setCell ⟨gb151, 10, none⟩ (.slice A150_10 ((rd_T43 l0_0 x17_1).f7).length c150_10)).heap[gb149]? = some (.cells #[.slice A1_0 l1_0.length c1_0] 124 (0, 0))) := ⟨by (with_reducible repeat (first | refine blk_drewN ?_ _ | refine blk_drew ?_ | refine blk_alloc ?_ _)); refine blk_far ?_ NB149_151.out _; (with_reducible repeat (first | refine blk_drewN ?_ _ | refine blk_drew ?_ | refine blk_alloc ?_ _)); refine blk_far ?_ NB149_151.out _; (with_reducible repeat (first | refine blk_drewN ?_ _ | refine blk_drew ?_ | refine blk_alloc ?_ _)); refine blk_far ?_ NB149_151.out _; (with_reducible repeat (first | refine blk_drewN ?_ _ | refine blk_drew ?_ | refine blk_alloc ?_ _)); refine blk_far ?_ NB149_151.out _; (with_reducible repeat (first | refine blk_drewN ?_ _ | refine blk_drew ?_ | refine blk_alloc ?_ _)); refine blk_far ?_ NB149_151.out _; (with_reducible repeat (first | refine blk_drewN ?_ _ | refine blk_drew ?_ | refine blk_alloc ?_ _)); refine blk_far ?_ NB149_151.out _; (with_reducible repeat (first | refine blk_drewN ?_ _ | refine blk_drew ?_ | refine blk_alloc ?_ _)); refine blk_far ?_ NB149_151.out _; (with_reducible repeat (first | refine blk_drewN ?_ _ | refine blk_drew ?_ | refine blk_alloc ?_ _)); refine blk_far ?_ NB149_151.out _; (with_reducible repeat (first | refine blk_drewN ?_ _ | refine blk_drew ?_ | refine blk_alloc ?_ _)); refine blk_far ?_ NB149_151.out _; (with_reducible repeat (first | refine blk_drewN ?_ _ | refine blk_drew ?_ | refine blk_alloc ?_ _)); refine blk_far ?_ NB149_151.out _; (with_reducible repeat (first | refine blk_drewN ?_ _ | refine blk_drew ?_ | refine blk_alloc ?_ _)); refine blk_far ?_ NB149_151.out _; (with_reducible repeat (first | refine blk_drewN ?_ _ | refine blk_drew ?_ | refine blk_alloc ?_ _)); exact BK149.out⟩
         have n2_ : Aside0 ((((((((((((w22.setCell ⟨gb151, 0, none⟩ (.string ((rd_T43 l0_0 x17_1).f0))).setCell ⟨gb151, 1, none⟩ (.int .i64 ((rd_T43 l0_0 x17_1).f1))).setCell ⟨gb151, 2, none⟩ (.int .i64 ((rd_T43 l0_0 x17_1).f2))).setCell ⟨gb151, 3, none⟩ (.int .i64 ((rd_T43 l0_0 x17_1).f3))).setCell ⟨gb151, 4, none⟩ (.int .i64 ((rd_T43 l0_0 x17_1).f4))).setCell ⟨gb151, 5, none⟩ (.slice A150_5 ((rd_T43 l0_0 x17_1).f5).length c150_5)).setCell ⟨gb151, 6, none⟩ (.int .i64 ((rd_T43 l0_0 x17_1).f6.f0))).setCell ⟨gb151, 7, none⟩ (.int .i64 ((rd_T43 l0_0 x17_1).f6.f1))).setCell ⟨gb151, 8, none⟩ (.slice A150_8 ((rd_T43 l0_0 x17_1).f6.f2).length c150_8)).setCell ⟨gb151, 9, none⟩ (.slice A150_9 ((rd_T43 l0_0 x17_1).f6.f3).length c150_9)).setCell ⟨gb151, 10, none⟩ (.slice A150_10 ((rd_T43 l0_0 x17_1).f7).length c150_10)).heap[gb151]? = some (.cells #[.string ((rd_T43 l0_0 x17_1).f0), .int .i64 ((rd_T43 l0_0 x17_1).f1), .int .i64 ((rd_T43 l0_0 x17_1).f2), .int .i64 ((rd_T43 l0_0 x17_1).f3), .int .i64 ((rd_T43 l0_0 x17_1).f4), .slice A150_5 ((rd_T43 l0_0 x17_1).f5).length c150_5, .int .i64 ((rd_T43 l0_0 x17_1).f6.f0), .int .i64 ((rd_T43 l0_0 x17_1).f6.f1), .slice A150_8 ((rd_T43 l0_0 x17_1).f6.f2).length c150_8, .slice A150_9 ((rd_T43 l0_0 x17_1).f6.f3).length c150_9, .slice A150_10 ((rd_T43 l0_0 x17_1).f7).length c150_10] 43 (0, 0))) := ⟨by (with_reducible repeat (first | refine blk_drewN ?_ _ | refine blk_drew ?_ | refine blk_alloc ?_ _)); apply bq11_10_9_8_7_6_5_4_3_2_1_0_; (with_reducible repeat (first | refine blk_drewN ?_ _ | refine blk_drew ?_ | refine blk_alloc ?_ _)); exact BK151.out⟩
         have n3_ : Aside0 (Below w.heap.size w (((((((((((w22.setCell ⟨gb151, 0, none⟩ (.string ((rd_T43 l0_0 x17_1).f0))).setCell ⟨gb151, 1, none⟩ (.int .i64 ((rd_T43 l0_0 x17_1).f1))).setCell ⟨gb151, 2, none⟩ (.int .i64 ((rd_T43 l0_0 x17_1).f2))).setCell ⟨gb151, 3, none⟩ (.int .i64 ((rd_T43 l0_0 x17_1).f3))).setCell ⟨gb151, 4, none⟩ (.int .i64 ((rd_T43 l0_0 x17_1).f4))).setCell ⟨gb151, 5, none⟩ (.slice A150_5 ((rd_T43 l0_0 x17_1).f5).length c150_5)).setCell ⟨gb151, 6, none⟩ (.int .i64 ((rd_T43 l0_0 x17_1).f6.f0))).setCell ⟨gb151, 7, none⟩ (.int .i64 ((rd_T43 l0_0 x17_1).f6.f1))).setCell ⟨gb151, 8, none⟩ (.slice A150_8 ((rd_T43 l0_0 x17_1).f6.f2).length c150_8)).setCell ⟨gb151, 9, none⟩ (.slice A150_9 ((rd_T43 l0_0 x17_1).f6.f3).length c150_9)).setCell ⟨gb151, 10, none⟩ (.slice A150_10 ((rd_T43 l0_0 x17_1).f7).length c150_10))) := ⟨bl_⟩
         (try clear BK148)
         (try clear BK149)
         (try clear BK151)
         (try clear HB)
         generalize (((((((((((w22.setCell ⟨gb151, 0, none⟩ (.string ((rd_T43 l0_0 x17_1).f0))).setCell ⟨gb151, 1, none⟩ (.int .i64 ((rd_T43 l0_0 x17_1).f1))).setCell ⟨gb151, 2, none⟩ (.int .i64 ((rd_T43 l0_0 x17_1).f2))).setCell ⟨gb151, 3, none⟩ (.int .i64 ((rd_T43 l0_0 x17_1).f3))).setCell ⟨gb151, 4, none⟩ (.int .i64 ((rd_T43 l0_0 x17_1).f4))).setCell ⟨gb151, 5, none⟩ (.slice A150_5 ((rd_T43 l0_0 x17_1).f5).length c150_5)).setCell ⟨gb151, 6, none⟩ (.int .i64 ((rd_T43 l0_0 x17_1).f6.f0))).setCell ⟨gb151, 7, none⟩ (.int .i64 ((rd_T43 l0_0 x17_1).f6.f1))).setCell ⟨gb151, 8, none⟩ (.slice A150_8 ((rd_T43 l0_0 x17_1).f6.f2).length c150_8)).setCell ⟨gb151, 9, none⟩ (.slice A150_9 ((rd_T43 l0_0 x17_1).f6.f3).length c150_9)).setCell ⟨gb151, 10, none⟩ (.slice A150_10 ((rd_T43 l0_0 x17_1).f7).length c150_10)) = w26 at n0_ n1_ n2_ n3_ ⊢
         have BK148 := n0_
         have BK149 := n1_
         have BK151 := n2_
         have HB := n3_
         clear n0_ n1_ n2_ n3_
         have n0_ := Aside0.mk (blk_drew BK148.out)
         have n1_ := Aside0.mk (blk_drew BK149.out)
         have n2_ := Aside0.mk (blk_drew BK151.out)
         have n3_ := Aside0.mk (below_drew1 HB.out)
         clear BK148
         clear BK149
         clear BK151
         clear HB
         have BK148 := n0_
         have BK149 := n1_
         have BK151 := n2_
         have HB := n3_
         clear n0_ n1_ n2_ n3_
         have p152 : 0 ≤ (x17_1 : Int) := od_
         have q152 : x17_1 < (l1_0.length : Int) := od_
         obtain ⟨ad152, A152_5, c152_5, A152_8, c152_8, A152_9, c152_9, A152_10, c152_10, e152, hx152_0, hx152_1, hx152_2, hx152_3, hx152_4, hx152_5, hx152_6, hx152_7, hx152_8, hx152_9, hx152_10, hl152_5, hi152_5, hl152_8, hi152_8, hl152_9, hi152_9, hl152_10, hi152_10⟩ := at_T43 HR1_0.out x17_1 p152 q152
         have hw152_10 := hx152_10
         have hw152_9 := hx152_9
         have hw152_8 := hx152_8
         have hw152_7 := hx152_7
         have hw152_6 := hx152_6
         have hw152_5 := hx152_5
         have hw152_4 := hx152_4
         have hw152_3 := hx152_3
         have hw152_2 := hx152_2
         have hw152_1 := hx152_1
         have hw152_0 := hx152_0
         cases e152
         replace hx152_0 := kc_ HB hx152_0
         replace hx152_1 := kc_ HB hx152_1
         replace hx152_2 := kc_ HB hx152_2
         replace hx152_3 := kc_ HB hx152_3
         replace hx152_4 := kc_ HB hx152_4
         replace hx152_5 := kc_ HB hx152_5
         replace hx152_6 := kc_ HB hx152_6
         replace hx152_7 := kc_ HB hx152_7
         replace hx152_8 := kc_ HB hx152_8
         replace hx152_9 := kc_ HB hx152_9
         replace hx152_10 := kc_ HB hx152_10
         have HR152_5 := Aside0.mk hi152_5
         have HC152_5 := Aside0.mk hl152_5
         clear hi152_5 hl152_5
         have HR152_8 := Aside0.mk hi152_8
         have HC152_8 := Aside0.mk hl152_8
         clear hi152_8 hl152_8
         have HR152_9 := Aside0.mk hi152_9
         have HC152_9 := Aside0.mk hl152_9
         clear hi152_9 hl152_9
         have HR152_10 := Aside0.mk hi152_10
         have HC152_10 := Aside0.mk hl152_10
         clear hi152_10 hl152_10
         replace p152 := eq_true p152
         replace q152 := eq_true q152
         refine start_ (n := 8) (S := fun w' => w'.cell? ⟨gb151, 0, none⟩ = some (.string ((rd_T43 l0_0 x17_1).f0)) ∧ w'.cell? ⟨gb151, 1, none⟩ = some (.int .i64 ((rd_T43 l0_0 x17_1).f1)) ∧ w'.cell? ⟨gb151, 2, none⟩ = some (.int .i64 ((rd_T43 l0_0 x17_1).f2)) ∧ w'.cell? ⟨gb151, 3, none⟩ = some (.int .i64 ((rd_T43 l0_0 x17_1).f3)) ∧ w'.cell? ⟨gb151, 4, none⟩ = some (.int .i64 ((rd_T43 l0_0 x17_1).f4)) ∧ w'.cell? ⟨gb151, 5, none⟩ = some (.slice A150_5 ((rd_T43 l0_0 x17_1).f5).length c150_5) ∧ w'.cell? ⟨gb151, 6, none⟩ = some (.int .i64 ((rd_T43 l0_0 x17_1).f6.f0)) ∧ w'.cell? ⟨gb151, 7, none⟩ = some (.int .i64 ((rd_T43 l0_0 x17_1).f6.f1)) ∧ w'.cell? ⟨gb151, 8, none⟩ = some (.slice A150_8 ((rd_T43 l0_0 x17_1).f6.f2).length c150_8) ∧ w'.cell? ⟨gb151, 9, none⟩ = some (.slice A150_9 ((rd_T43 l0_0 x17_1).f6.f3).length c150_9) ∧ w'.cell? ⟨gb151, 10, none⟩ = some (.slice A150_10 ((rd_T43 l0_0 x17_1).f7).length c150_10) ∧ w'.cell? ⟨gb149, 0, none⟩ = some (.slice (some ad152) l1_0.length c1_0) ∧ w'.cell? (ad152.add ((x17_1).toNat * 11)) = some (.string ((rd_T43 l1_0 x17_1).f0)) ∧ w'.cell? ⟨(ad152.add ((x17_1).toNat * 11)).block, (ad152.add ((x17_1).toNat * 11)).off + 1, none⟩ = some (.int .i64 ((rd_T43 l1_0 x17_1).f1)) ∧ w'.cell? ⟨(ad152.add ((x17_1).toNat * 11)).block, (ad152.add ((x17_1).toNat * 11)).off + 2, none⟩ = some (.int .i64 ((rd_T43 l1_0 x17_1).f2)) ∧ w'.cell? ⟨(ad152.add ((x17_1).toNat * 11)).block, (ad152.add ((x17_1).toNat * 11)).off + 3, none⟩ = some (.int .i64 ((rd_T43 l1_0 x17_1).f3)) ∧ w'.cell? ⟨(ad152.add ((x17_1).toNat * 11)).block, (ad152.add ((x17_1).toNat * 11)).off + 4, none⟩ = some (.int .i64 ((rd_T43 l1_0 x17_1).f4)) ∧ w'.cell? ⟨(ad152.add ((x17_1).toNat * 11)).block, (ad152.add ((x17_1).toNat * 11)).off + 5, none⟩ = some (.slice A152_5 ((rd_T43 l1_0 x17_1).f5).length c152_5) ∧ w'.cell? ⟨(ad152.add ((x17_1).toNat * 11)).block, (ad152.add ((x17_1).toNat * 11)).off + 6, none⟩ = some (.int .i64 ((rd_T43 l1_0 x17_1).f6.f0)) ∧ w'.cell? ⟨(ad152.add ((x17_1).toNat * 11)).block, (ad152.add ((x17_1).toNat * 11)).off + 7, none⟩ = some (.int .i64 ((rd_T43 l1_0 x17_1).f6.f1)) ∧ w'.cell? ⟨(ad152.add ((x17_1).toNat * 11)).block, (ad152.add ((x17_1).toNat * 11)).off + 8, none⟩ = some (.slice A152_8 ((rd_T43 l1_0 x17_1).f6.f2).length c152_8) ∧ w'.cell? ⟨(ad152.add ((x17_1).toNat * 11)).block, (ad152.add ((x17_1).toNat * 11)).off + 9, none⟩ = some (.slice A152_9 ((rd_T43 l1_0 x17_1).f6.f3).length c152_9) ∧ w'.cell? ⟨(ad152.add ((x17_1).toNat * 11)).block, (ad152.add ((x17_1).toNat * 11)).off + 10, none⟩ = some (.slice A152_10 ((rd_T43 l1_0 x17_1).f7).length c152_10)) (ds := []) tb8_0_7 (by kernel_rfl) rfl rfl ⟨cy_ BK151 0, cy_ BK151 1, cy_ BK151 2, cy_ BK151 3, cy_ BK151 4, cy_ BK151 5, cy_ BK151 6, cy_ BK151 7, cy_ BK151 8, cy_ BK151 9, cy_ BK151 10, cy_ BK149 0, (kc_ HB hw152_0), (kc_ HB hw152_1), (kc_ HB hw152_2), (kc_ HB hw152_3), (kc_ HB hw152_4), (kc_ HB hw152_5), (kc_ HB hw152_6), (kc_ HB hw152_7), (kc_ HB hw152_8), (kc_ HB hw152_9), (kc_ HB hw152_10)⟩ (fun hHeld => ?_); refine with_tabW spec_BookSame.tab6 spec_BookSame.bits6 (fun HT_ HW_ => ?_)
         generalize w26.drew = w27 at BK148 BK149 BK151 HB HR152_10 HR152_5 HR152_8 HR152_9 hx152_0 hx152_1 hx152_10 hx152_2 hx152_3 hx152_4 hx152_5 hx152_6 hx152_7 hx152_8 hx152_9 hHeld ⊢
         refine pl_ HT_ 1 23 tb8_2_7 ?_
         refine pl_ HT_ 3 25 tb8_a_7 ?_
         refine take_ (i := 0) (N := some 22) (v := ?_) (a' := ?_) tb8_b_7 rfl rfl (take_ofW HT_.out HW_.out (by kernel_rfl)) (fun _ _ _ h => h) (Or.inl ⟨by rfl, ?_⟩) hHeld ?_ ?_
         rotate_left
         ·rintro w' ⟨s0, s1, s2, s3, s4, s5, s6, s7, s8, s9, s10, s11, s12, s13, s14, s15, s16, s17, s18, s19, s20, s21, s22⟩
          go_simp
          with_reducible rfl
         rotate_left
         ·simp only [Act.put, q_]
          rfl
         refine take_ (i := 2) (N := some 24) (v := ?_) (a' := ?_) tb8_f_7 rfl rfl (take_ofW HT_.out HW_.out (by kernel_rfl)) (fun _ _ _ h => h) (Or.inl ⟨by rfl, ?_⟩) hHeld ?_ ?_
         rotate_left
         ·rintro w' ⟨s0, s1, s2, s3, s4, s5, s6, s7, s8, s9, s10, s11, s12, s13, s14, s15, s16, s17, s18, s19, s20, s21, s22⟩
          go_simp
          with_reducible rfl
         rotate_left
         ·simp only [Act.put, q_]
          rfl
         refine pl_ HT_ 4 26 tb8_1f_7 ?_
         refine take_ (i := 5) (N := some 27) (v := ?_) (a' := ?_) tb8_3f_7 rfl rfl (take_ofW HT_.out HW_.out (by kernel_rfl)) (fun _ _ _ h => h) (Or.inl ⟨by rfl, ?_⟩) hHeld ?_ ?_
         rotate_left
         ·rintro w' ⟨s0, s1, s2, s3, s4, s5, s6, s7, s8, s9, s10, s11, s12, s13, s14, s15, s16, s17, s18, s19, s20, s21, s22⟩
          go_simp
          with_reducible rfl
         rotate_left
         ·simp only [Act.put, q_]
          rfl
         refine one_ (i := 6) (N := some 28) tb8_7f_7 rfl rfl (one_of HT_.out (by kernel_rfl)) (by decide) (fun K hK => ?_)
         refine goes_ Try.func150 (by kernel_rfl) rfl #[.agg #[.string ((rd_T43 l0_0 x17_1).f0), .int .i64 ((rd_T43 l0_0 x17_1).f1), .int .i64 ((rd_T43 l0_0 x17_1).f2), .int .i64 ((rd_T43 l0_0 x17_1).f3), .int .i64 ((rd_T43 l0_0 x17_1).f4), .slice A150_5 ((rd_T43 l0_0 x17_1).f5).length c150_5, .int .i64 ((rd_T43 l0_0 x17_1).f6.f0), .int .i64 ((rd_T43 l0_0 x17_1).f6.f1), .slice A150_8 ((rd_T43 l0_0 x17_1).f6.f2).length c150_8, .slice A150_9 ((rd_T43 l0_0 x17_1).f6.f3).length c150_9, .slice A150_10 ((rd_T43 l0_0 x17_1).f7).length c150_10], .agg #[.string ((rd_T43 l1_0 x17_1).f0), .int .i64 ((rd_T43 l1_0 x17_1).f1), .int .i64 ((rd_T43 l1_0 x17_1).f2), .int .i64 ((rd_T43 l1_0 x17_1).f3), .int .i64 ((rd_T43 l1_0 x17_1).f4), .slice A152_5 ((rd_T43 l1_0 x17_1).f5).length c152_5, .int .i64 ((rd_T43 l1_0 x17_1).f6.f0), .int .i64 ((rd_T43 l1_0 x17_1).f6.f1), .slice A152_8 ((rd_T43 l1_0 x17_1).f6.f2).length c152_8, .slice A152_9 ((rd_T43 l1_0 x17_1).f6.f3).length c152_9, .slice A152_10 ((rd_T43 l1_0 x17_1).f7).length c152_10]] (by rfl) rfl rfl gl_ ?_
         with_reducible refine (spec_AcctSame.calls k1 ((rd_T43 l0_0 x17_1).f0) ((rd_T43 l0_0 x17_1).f1) ((rd_T43 l0_0 x17_1).f2) ((rd_T43 l0_0 x17_1).f3) ((rd_T43 l0_0 x17_1).f4) _ _ ((rd_T43 l0_0 x17_1).f5) ((rd_T43 l0_0 x17_1).f6.f0) ((rd_T43 l0_0 x17_1).f6.f1) _ _ ((rd_T43 l0_0 x17_1).f6.f2) _ _ ((rd_T43 l0_0 x17_1).f6.f3) _ _ ((rd_T43 l0_0 x17_1).f7) ((rd_T43 l1_0 x17_1).f0) ((rd_T43 l1_0 x17_1).f1) ((rd_T43 l1_0 x17_1).f2) ((rd_T43 l1_0 x17_1).f3) ((rd_T43 l1_0 x17_1).f4) _ _ ((rd_T43 l1_0 x17_1).f5) ((rd_T43 l1_0 x17_1).f6.f0) ((rd_T43 l1_0 x17_1).f6.f1) _ _ ((rd_T43 l1_0 x17_1).f6.f2) _ _ ((rd_T43 l1_0 x17_1).f6.f3) _ _ ((rd_T43 l1_0 x17_1).f7) false _ ?side1 ?side2 ?side3 ?side4 ?side5 ?side6 ?side7 ?side8 ?side9 ?side10 ?side11 ?side12 ?side13 ?side14 ?side15 ?side16 A13.out).mono ?_
         (case side1 => exact ca_ (Kd.C_below HR150_5.out HB.out))
         (case side2 => exact HC150_5.out)
         (case side3 => exact ca_ (Kd.C_below HR150_8.out HB.out))
         (case side4 => exact HC150_8.out)
         (case side5 => exact ca_ (Kd.C_below HR150_9.out HB.out))
         (case side6 => exact HC150_9.out)
         (case side7 => exact ca_ (Kd.C_below HR150_10.out HB.out))
         (case side8 => exact HC150_10.out)
         (case side9 => exact ca_ (Kd.C_below HR152_5.out HB.out))
         (case side10 => exact HC152_5.out)
         (case side11 => exact ca_ (Kd.C_below HR152_8.out HB.out))
         (case side12 => exact HC152_8.out)
         (case side13 => exact ca_ (Kd.C_below HR152_9.out HB.out))
         (case side14 => exact HC152_9.out)
         (case side15 => exact ca_ (Kd.C_below HR152_10.out HB.out))
         (case side16 => exact HC152_10.out)
         rintro e w28 ⟨rfl, hb⟩
         refine ⟨_, rfl, ?_⟩
         have n0_ := Aside0.mk (blk_below (bk_ BK148) hb)
         have n1_ := Aside0.mk (blk_below (bk_ BK149) hb)
         have n2_ := Aside0.mk (blk_below (bk_ BK151) hb)
         have n3_ := Aside0.mk (below_step bl_ hb)
         clear BK148
         clear BK149
         clear BK151
         clear HB
         have BK148 := n0_
         have BK149 := n1_
         have BK151 := n2_
         have HB := n3_
         clear n0_ n1_ n2_ n3_
         (try clear hb)
         (try clear hb2)
         (try clear hk)
         (try clear hi)
         refine hK.out _ _ ⟨cy_ BK151 0, cy_ BK151 1, cy_ BK151 2, cy_ BK151 3, cy_ BK151 4, cy_ BK151 5, cy_ BK151 6, cy_ BK151 7, cy_ BK151 8, cy_ BK151 9, cy_ BK151 10, cy_ BK149 0, (kc_ HB hw152_0), (kc_ HB hw152_1), (kc_ HB hw152_2), (kc_ HB hw152_3), (kc_ HB hw152_4), (kc_ HB hw152_5), (kc_ HB hw152_6), (kc_ HB hw152_7), (kc_ HB hw152_8), (kc_ HB hw152_9), (kc_ HB hw152_10)⟩ (fun hHeld => ?_)
         clear hK K
         refine norm_ (a' := ?_) ?_ ?_
         rotate_left
         ·show Act.put _ (some 28) _ = _
          simp only [Act.put, q_]
          rfl
         refine pl_ HT_ 7 29 tb8_ff_7 ?_
         refine done_ (done_of HT_.out (by kernel_rfl)) ?_
         try go_wp2
         go_ret
         exact ⟨sq_, bl_⟩
       ·rw [if_neg c12] at H
        exact absurd H (by simp)
      ·rw [if_neg c11] at H
       exact absurd H (by simp)
     ·rw [if_neg c10] at H
      exact absurd H (by simp)
    ·rw [if_neg c9] at H
     have c9b0 : decide (x17_1 < (l0_0.length : Int)) = false := decide_eq_false c9
     clear c9
     obtain rfl := Option.some.inj H
     go_wp2
     go_ret
     exact ⟨sq_, bl_⟩
 ·rw [if_neg c3] at H
  have c3b0 : ((l0_0.length : Int) == (l1_0.length : Int)) = false := beq_eq_false_iff_ne.mpr c3
  have c3b1 : ((l0_0.length : Int) != (l1_0.length : Int)) = true := bne_iff_ne.mpr c3
  have c3b2 : (l0_0.length == l1_0.length) = false := by first | simpa using c3 | (simp at c3 ⊢; omega)
  obtain rfl := Option.some.inj H
  go_enter Try.func96, Try.ntmps96
  go_wp2_with (first | ((with_reducible refine gate_dst (N := 2) rfl ?_); refine be_ (N := 2) (cs := #[.slice A0_0 l0_0.length c0_0]) (t := 124) ?_; intro gb148 hg w29 hbox hb; have BK148 := Aside0.mk (hbox); have GW148 := gw_ (w := w) hg; have GE148 := gw_ (w := w) hg; replace HB := Aside0.mk (below_step bl_ hb); clear hb hbox hg) | ((with_reducible refine gate_dst (N := 3) rfl ?_); refine be_ (N := 3) (cs := #[.slice A1_0 l1_0.length c1_0]) (t := 124) ?_; intro gb149 hg w30 hbox hb; have BK149 := Aside0.mk (hbox); have GW149 := gw_ (w := w) hg; have GE149 := gw_ (w := w) hg; replace HB := Aside0.mk (below_step bl_ hb); have NB148_149 := Aside0.mk ((by rw [hg]; exact Nat.ne_of_lt (blk_lt (bk_ BK148)) : gb148 ≠ gb149)); have NB149_148 := Aside0.mk ((by rw [hg]; exact Nat.ne_of_gt (blk_lt (bk_ BK148)) : gb149 ≠ gb148)); replace BK148 := Aside0.mk (blk_below (bk_ BK148) hb); clear hb hbox hg; have hnb31 := NB148_149.out; have hnc31 := NB149_148.out; have hcz32_0 := cz_ BK148 0 (.slice A0_0 l0_0.length c0_0); have hfz32_0 := fz_ BK148 0; have hcz33_0 := cz_ BK149 0 (.slice A1_0 l1_0.length c1_0); have hfz33_0 := fz_ BK149 0))
  go_ret
  exact ⟨sq_, bl_⟩
/-! ### spec_l14Ints: function 151 -/
def spec_l14Ints.l0 : Nat → List Int → List Int → Int → Int → Option (Bool)
 | 0, _, _, _, _ => none
 | k + 1, x0, x1, x12, x13 => if x13 < x12 then (if 0 ≤ x13 then (if x13 < (x0.length : Int) then (if x13 < (x1.length : Int) then (if (rd x0 x13) = (rd x1 x13) then (spec_l14Ints.l0 k x0 x1 x12 (wrap64 (x13 + 1))) else (some false)) else (none)) else (none)) else (none)) else (some true)
def spec_l14Ints.f (k : Nat) (l0 : List Int) (l1 : List Int) : Option (Bool) := if (l0.length : Int) = (l1.length : Int) then (spec_l14Ints.l0 k l0 l1 (l0.length : Int) 0) else (some false)
set_option maxHeartbeats 8000000 in
set_option maxRecDepth 100000 in
theorem spec_l14Ints.calls (k : Nat) (A0 : Option Addr) (c0 : Nat) (l0 : List Int) (A1 : Option Addr) (c1 : Nat) (l1 : List Int) (r : Bool) (w : World) (hr0 : Kd.C (Kd.int .i64) w A0 l0.length l0) (hc0 : l0.length ≤ c0) (hr1 : Kd.C (Kd.int .i64) w A1 l1.length l1) (hc1 : l1.length ≤ c1) (h : spec_l14Ints.f k l0 l1 = some r) :
  Calls Try.prog 151 #[.slice A0 l0.length c0, .slice A1 l1.length c1] w fun e w' => e = .returned (.bool r) ∧ Drawn0 w w' := by
 have HR0 := Aside0.mk hr0
 have HC0 := Aside0.mk hc0
 clear hr0 hc0
 have HR1 := Aside0.mk hr1
 have HC1 := Aside0.mk hc1
 clear hr1 hc1
 have H : (if (l0.length : Int) = (l1.length : Int) then (spec_l14Ints.l0 k l0 l1 (l0.length : Int) 0) else (some false)) = some r := h
 clear h
 by_cases c3 : (l0.length : Int) = (l1.length : Int)
 ·rw [if_pos c3] at H
  have c3b0 : ((l0.length : Int) == (l1.length : Int)) = true := beq_iff_eq.mpr c3
  have c3b1 : ((l0.length : Int) != (l1.length : Int)) = false := bne_eq_false_iff_eq.mpr c3
  have c3b2 : (l0.length == l1.length) = true := by first | simpa using c3 | (simp at c3 ⊢; omega)
  clear c3
  have H' := Aside0.mk H
  clear H
  go_enter Try.func151, Try.ntmps151
  go_wp2
  repeat (go_quiet (fail); try go_wp2)
  go_loopg [13] k (fun kq v13 w' => ∃ (x13_1 : Int), v13 = .int .i64 x13_1 ∧ Aside0 (spec_l14Ints.l0 kq l0 l1 (l0.length : Int) x13_1 = some r) ∧ Aside0 (kq ≤ k) ∧ Drawn0 w w')
  case atStart => exact ⟨(0), sp_, H', ⟨Nat.le_refl _⟩, by repeat (first | exact Drawn0.refl _ | apply Drawn0.step)⟩
  case round =>
   clear H'
   try clear c1
   try clear p2
   try clear c3
   try clear c3b0
   try clear c3b1
   try clear c3b2
   obtain ⟨x13_1, rfl, HA, HK1, ⟨m1, rfl⟩⟩ := hrel
   cases gk with
   | zero => exact absurd HA.out (by simp [spec_l14Ints.l0])
   | succ k1 =>
    have H := HA.out
    clear HA
    simp only [spec_l14Ints.l0] at H
    by_cases c4 : x13_1 < (l0.length : Int)
    ·rw [if_pos c4] at H
     have c4b0 : decide (x13_1 < (l0.length : Int)) = true := decide_eq_true c4
     clear c4
     by_cases c5 : 0 ≤ x13_1
     ·rw [if_pos c5] at H
      have c5b0 : decide (0 ≤ x13_1) = true := decide_eq_true c5
      clear c5
      by_cases c6 : x13_1 < (l0.length : Int)
      ·rw [if_pos c6] at H
       have c6b0 : decide (x13_1 < (l0.length : Int)) = true := decide_eq_true c6
       clear c6
       by_cases c7 : x13_1 < (l1.length : Int)
       ·rw [if_pos c7] at H
        have c7b0 : decide (x13_1 < (l1.length : Int)) = true := decide_eq_true c7
        clear c7
        by_cases c8 : (rd l0 x13_1) = (rd l1 x13_1)
        ·rw [if_pos c8] at H
         have c8b0 : ((rd l0 x13_1) == (rd l1 x13_1)) = true := beq_iff_eq.mpr c8
         have c8b1 : ((rd l0 x13_1) != (rd l1 x13_1)) = false := bne_eq_false_iff_eq.mpr c8
         clear c8
         have H' := Aside0.mk H
         clear H
         have p154 : 0 ≤ (x13_1 : Int) := od_
         have q154 : x13_1 < (l0.length : Int) := od_
         obtain ⟨ad154, e154, hx154_0⟩ := Kd.at_int HR0.out x13_1 p154 q154
         cases e154
         replace p154 := eq_true p154
         replace q154 := eq_true q154
         have p155 : 0 ≤ (x13_1 : Int) := od_
         have q155 : x13_1 < (l1.length : Int) := od_
         obtain ⟨ad155, e155, hx155_0⟩ := Kd.at_int HR1.out x13_1 p155 q155
         cases e155
         replace p155 := eq_true p155
         replace q155 := eq_true q155
         go_wp2
         repeat (go_quiet (fail); try go_wp2)
         go_roundg k1
         case measure => have := HK1.out; omega
         case rel => exact ⟨(wrap64 (x13_1 + 1)), sp_, H', ⟨by have := HK1.out; omega⟩, by repeat (first | exact Drawn0.refl _ | apply Drawn0.step)⟩
        ·rw [if_neg c8] at H
         have c8b0 : ((rd l0 x13_1) == (rd l1 x13_1)) = false := beq_eq_false_iff_ne.mpr c8
         have c8b1 : ((rd l0 x13_1) != (rd l1 x13_1)) = true := bne_iff_ne.mpr c8
         obtain rfl := Option.some.inj H
         have p154 : 0 ≤ (x13_1 : Int) := od_
         have q154 : x13_1 < (l0.length : Int) := od_
         obtain ⟨ad154, e154, hx154_0⟩ := Kd.at_int HR0.out x13_1 p154 q154
         cases e154
         replace p154 := eq_true p154
         replace q154 := eq_true q154
         have p155 : 0 ≤ (x13_1 : Int) := od_
         have q155 : x13_1 < (l1.length : Int) := od_
         obtain ⟨ad155, e155, hx155_0⟩ := Kd.at_int HR1.out x13_1 p155 q155
         cases e155
         replace p155 := eq_true p155
         replace q155 := eq_true q155
         go_wp2
         repeat (go_quiet (fail); try go_wp2)
         go_ret
         exact ⟨sp_, by repeat (first | exact Drawn0.refl _ | apply Drawn0.step)⟩
       ·rw [if_neg c7] at H
        exact absurd H (by simp)
      ·rw [if_neg c6] at H
       exact absurd H (by simp)
     ·rw [if_neg c5] at H
      exact absurd H (by simp)
    ·rw [if_neg c4] at H
     have c4b0 : decide (x13_1 < (l0.length : Int)) = false := decide_eq_false c4
     clear c4
     obtain rfl := Option.some.inj H
     go_wp2
     repeat (go_quiet (fail); try go_wp2)
     go_ret
     exact ⟨sp_, by repeat (first | exact Drawn0.refl _ | apply Drawn0.step)⟩
 ·rw [if_neg c3] at H
  have c3b0 : ((l0.length : Int) == (l1.length : Int)) = false := beq_eq_false_iff_ne.mpr c3
  have c3b1 : ((l0.length : Int) != (l1.length : Int)) = true := bne_iff_ne.mpr c3
  have c3b2 : (l0.length == l1.length) = false := by first | simpa using c3 | (simp at c3 ⊢; omega)
  obtain rfl := Option.some.inj H
  go_enter Try.func151, Try.ntmps151
  go_wp2
  repeat (go_quiet (fail); try go_wp2)
  go_ret
  exact ⟨sp_, by repeat (first | exact Drawn0.refl _ | apply Drawn0.step)⟩
/-! ### spec_TaskSame: function 97 -/
def spec_TaskSame.f (k : Nat) (l0_0 : List Int) (a0_1 : Int) (l0_2 : List Int) (a0_3 : Int) (a0_4 : Int) (a0_5 : Int) (a0_6 : Int) (a0_7 : Int) (l0_8 : List Int) (l1_0 : List Int) (a1_1 : Int) (l1_2 : List Int) (a1_3 : Int) (a1_4 : Int) (a1_5 : Int) (a1_6 : Int) (a1_7 : Int) (l1_8 : List Int) : Option (Bool) := if (strOfNums l0_0).toList = (strOfNums l1_0).toList then (if a0_1 = a1_1 then ((spec_l14Ints.f k l0_2 l1_2).bind fun t158 => (if t158 = true then (if a0_3 = a1_3 then (if a0_4 = a1_4 then (if a0_5 = a1_5 then (if a0_6 = a1_6 then (if a0_7 = a1_7 then (some ((strOfNums l0_8).toList == (strOfNums l1_8).toList)) else (some false)) else (some false)) else (some false)) else (some false)) else (some false)) else (some false))) else (some false)) else (some false)
set_option maxHeartbeats 8000000 in
set_option maxRecDepth 100000 in
theorem spec_TaskSame.calls (k : Nat) (A0_0 : Option Addr) (c0_0 : Nat) (l0_0 : List Int) (a0_1 : Int) (A0_2 : Option Addr) (c0_2 : Nat) (l0_2 : List Int) (a0_3 : Int) (a0_4 : Int) (a0_5 : Int) (a0_6 : Int) (a0_7 : Int) (A0_8 : Option Addr) (c0_8 : Nat) (l0_8 : List Int) (A1_0 : Option Addr) (c1_0 : Nat) (l1_0 : List Int) (a1_1 : Int) (A1_2 : Option Addr) (c1_2 : Nat) (l1_2 : List Int) (a1_3 : Int) (a1_4 : Int) (a1_5 : Int) (a1_6 : Int) (a1_7 : Int) (A1_8 : Option Addr) (c1_8 : Nat) (l1_8 : List Int) (r : Bool) (w : World) (hr0_0 : Kd.C (Kd.int .u8) w A0_0 l0_0.length l0_0) (hc0_0 : l0_0.length ≤ c0_0) (hr0_2 : Kd.C (Kd.int .i64) w A0_2 l0_2.length l0_2) (hc0_2 : l0_2.length ≤ c0_2) (hr0_8 : Kd.C (Kd.int .u8) w A0_8 l0_8.length l0_8) (hc0_8 : l0_8.length ≤ c0_8) (hr1_0 : Kd.C (Kd.int .u8) w A1_0 l1_0.length l1_0) (hc1_0 : l1_0.length ≤ c1_0) (hr1_2 : Kd.C (Kd.int .i64) w A1_2 l1_2.length l1_2) (hc1_2 : l1_2.length ≤ c1_2) (hr1_8 : Kd.C (Kd.int .u8) w A1_8 l1_8.length l1_8) (hc1_8 : l1_8.length ≤ c1_8) (h : spec_TaskSame.f k l0_0 a0_1 l0_2 a0_3 a0_4 a0_5 a0_6 a0_7 l0_8 l1_0 a1_1 l1_2 a1_3 a1_4 a1_5 a1_6 a1_7 l1_8 = some r) :
  Calls Try.prog 97 #[.agg #[.slice A0_0 l0_0.length c0_0, .int .i64 a0_1, .slice A0_2 l0_2.length c0_2, .int .i64 a0_3, .int .i64 a0_4, .int .i64 a0_5, .int .i64 a0_6, .int .i64 a0_7, .slice A0_8 l0_8.length c0_8], .agg #[.slice A1_0 l1_0.length c1_0, .int .i64 a1_1, .slice A1_2 l1_2.length c1_2, .int .i64 a1_3, .int .i64 a1_4, .int .i64 a1_5, .int .i64 a1_6, .int .i64 a1_7, .slice A1_8 l1_8.length c1_8]] w fun e w' => e = .returned (.bool r) ∧ Below w.heap.size w w' := by
 have hu126 := Try.underlying126
 have HR0_0 := Aside0.mk hr0_0
 have HC0_0 := Aside0.mk hc0_0
 clear hr0_0 hc0_0
 have HR0_2 := Aside0.mk hr0_2
 have HC0_2 := Aside0.mk hc0_2
 clear hr0_2 hc0_2
 have HR0_8 := Aside0.mk hr0_8
 have HC0_8 := Aside0.mk hc0_8
 clear hr0_8 hc0_8
 have HR1_0 := Aside0.mk hr1_0
 have HC1_0 := Aside0.mk hc1_0
 clear hr1_0 hc1_0
 have HR1_2 := Aside0.mk hr1_2
 have HC1_2 := Aside0.mk hc1_2
 clear hr1_2 hc1_2
 have HR1_8 := Aside0.mk hr1_8
 have HC1_8 := Aside0.mk hc1_8
 clear hr1_8 hc1_8
 have HB := Aside0.mk (Below.refl w.heap.size w)
 have H : (if (strOfNums l0_0).toList = (strOfNums l1_0).toList then (if a0_1 = a1_1 then ((spec_l14Ints.f k l0_2 l1_2).bind fun t158 => (if t158 = true then (if a0_3 = a1_3 then (if a0_4 = a1_4 then (if a0_5 = a1_5 then (if a0_6 = a1_6 then (if a0_7 = a1_7 then (some ((strOfNums l0_8).toList == (strOfNums l1_8).toList)) else (some false)) else (some false)) else (some false)) else (some false)) else (some false)) else (some false))) else (some false)) else (some false)) = some r := h
 clear h
 by_cases c3 : (strOfNums l0_0).toList = (strOfNums l1_0).toList
 ·rw [if_pos c3] at H
  have c3b0 : ((strOfNums l0_0).toList == (strOfNums l1_0).toList) = true := beq_iff_eq.mpr c3
  have c3b1 : ((strOfNums l0_0).toList != (strOfNums l1_0).toList) = false := bne_eq_false_iff_eq.mpr c3
  clear c3
  by_cases c4 : a0_1 = a1_1
  ·rw [if_pos c4] at H
   have c4b0 : (a0_1 == a1_1) = true := beq_iff_eq.mpr c4
   have c4b1 : (a0_1 != a1_1) = false := bne_eq_false_iff_eq.mpr c4
   clear c4
   obtain ⟨t158, A5, H⟩ := ob_ H
   by_cases c6 : t158 = true
   ·subst c6
    replace H := ip_ H
    by_cases c7 : a0_3 = a1_3
    ·rw [if_pos c7] at H
     have c7b0 : (a0_3 == a1_3) = true := beq_iff_eq.mpr c7
     have c7b1 : (a0_3 != a1_3) = false := bne_eq_false_iff_eq.mpr c7
     clear c7
     by_cases c8 : a0_4 = a1_4
     ·rw [if_pos c8] at H
      have c8b0 : (a0_4 == a1_4) = true := beq_iff_eq.mpr c8
      have c8b1 : (a0_4 != a1_4) = false := bne_eq_false_iff_eq.mpr c8
      clear c8
      by_cases c9 : a0_5 = a1_5
      ·rw [if_pos c9] at H
       have c9b0 : (a0_5 == a1_5) = true := beq_iff_eq.mpr c9
       have c9b1 : (a0_5 != a1_5) = false := bne_eq_false_iff_eq.mpr c9
       clear c9
       by_cases c10 : a0_6 = a1_6
       ·rw [if_pos c10] at H
        have c10b0 : (a0_6 == a1_6) = true := beq_iff_eq.mpr c10
        have c10b1 : (a0_6 != a1_6) = false := bne_eq_false_iff_eq.mpr c10
        clear c10
        by_cases c11 : a0_7 = a1_7
        ·rw [if_pos c11] at H
         have c11b0 : (a0_7 == a1_7) = true := beq_iff_eq.mpr c11
         have c11b1 : (a0_7 != a1_7) = false := bne_eq_false_iff_eq.mpr c11
         clear c11
         obtain rfl := Option.some.inj H
         go_enter Try.func97, Try.ntmps97
         go_wp2_with (first | ((with_reducible refine gate_dst (N := 2) rfl ?_); refine be_ (N := 2) (cs := #[.slice A0_0 l0_0.length c0_0, .int .i64 a0_1, .slice A0_2 l0_2.length c0_2, .int .i64 a0_3, .int .i64 a0_4, .int .i64 a0_5, .int .i64 a0_6, .int .i64 a0_7, .slice A0_8 l0_8.length c0_8]) (t := 126) ?_; intro gb156 hg w12 hbox hb; have BK156 := Aside0.mk (hbox); have GW156 := gw_ (w := w) hg; have GE156 := gw_ (w := w) hg; replace HB := Aside0.mk (below_step bl_ hb); clear hb hbox hg) | ((with_reducible refine gate_dst (N := 3) rfl ?_); refine be_ (N := 3) (cs := #[.slice A1_0 l1_0.length c1_0, .int .i64 a1_1, .slice A1_2 l1_2.length c1_2, .int .i64 a1_3, .int .i64 a1_4, .int .i64 a1_5, .int .i64 a1_6, .int .i64 a1_7, .slice A1_8 l1_8.length c1_8]) (t := 126) ?_; intro gb157 hg w13 hbox hb; have BK157 := Aside0.mk (hbox); have GW157 := gw_ (w := w) hg; have GE157 := gw_ (w := w) hg; replace HB := Aside0.mk (below_step bl_ hb); have NB156_157 := Aside0.mk ((by rw [hg]; exact Nat.ne_of_lt (blk_lt (bk_ BK156)) : gb156 ≠ gb157)); have NB157_156 := Aside0.mk ((by rw [hg]; exact Nat.ne_of_gt (blk_lt (bk_ BK156)) : gb157 ≠ gb156)); replace BK156 := Aside0.mk (blk_below (bk_ BK156) hb); clear hb hbox hg; have hnb14 := NB156_157.out; have hnc14 := NB157_156.out; obtain ⟨hcz15_0, hcz15_1, hcz15_2, hcz15_3, hcz15_4, hcz15_5, hcz15_6, hcz15_7, hcz15_8, hfz15_0, hfz15_1, hfz15_2, hfz15_3, hfz15_4, hfz15_5, hfz15_6, hfz15_7, hfz15_8⟩ := bx9_ BK156; (try have hcu16 := fun (n_ : Nat) => Kd.C_string (P := Try.prog) (A := A0_0) (c := c0_0) Try.underlying60 Try.underlying5 Try.underlying9 (Kd.C_below HR0_0.out (pw_below_drewN HB.out n_))); have hcv17 := Kd.C_string (P := Try.prog) (A := A0_0) (c := c0_0) Try.underlying60 Try.underlying5 Try.underlying9 (Kd.C_below HR0_0.out HB.out); obtain ⟨hcz18_0, hcz18_1, hcz18_2, hcz18_3, hcz18_4, hcz18_5, hcz18_6, hcz18_7, hcz18_8, hfz18_0, hfz18_1, hfz18_2, hfz18_3, hfz18_4, hfz18_5, hfz18_6, hfz18_7, hfz18_8⟩ := bx9_ BK157; (try have hcu19 := fun (n_ : Nat) => Kd.C_string (P := Try.prog) (A := A1_0) (c := c1_0) Try.underlying60 Try.underlying5 Try.underlying9 (Kd.C_below HR1_0.out (pw_below_drewN HB.out n_))); have hcv20 := Kd.C_string (P := Try.prog) (A := A1_0) (c := c1_0) Try.underlying60 Try.underlying5 Try.underlying9 (Kd.C_below HR1_0.out HB.out)) | (go_at_call 151; (with_reducible refine (spec_l14Ints.calls k _ _ l0_2 _ _ l1_2 true _ ?side1 ?side2 ?side3 ?side4 A5.out).mono ?_); (case side1 => exact ca_ (Kd.C_below HR0_2.out HB.out)); (case side2 => exact HC0_2.out); (case side3 => exact ca_ (Kd.C_below HR1_2.out HB.out)); (case side4 => exact HC1_2.out); rintro e w' ⟨rfl, ⟨nd, rfl⟩⟩; (try have hcu21 := fun (n_ : Nat) => Kd.C_string (P := Try.prog) (A := A0_8) (c := c0_8) Try.underlying60 Try.underlying5 Try.underlying9 (Kd.C_below HR0_8.out (pw_below_drewN HB.out n_))); have hcv22 := Kd.C_string (P := Try.prog) (A := A0_8) (c := c0_8) Try.underlying60 Try.underlying5 Try.underlying9 (Kd.C_below HR0_8.out HB.out); (try have hcu23 := fun (n_ : Nat) => Kd.C_string (P := Try.prog) (A := A1_8) (c := c1_8) Try.underlying60 Try.underlying5 Try.underlying9 (Kd.C_below HR1_8.out (pw_below_drewN HB.out n_))); have hcv24 := Kd.C_string (P := Try.prog) (A := A1_8) (c := c1_8) Try.underlying60 Try.underlying5 Try.underlying9 (Kd.C_below HR1_8.out HB.out)))
         go_ret
         exact ⟨sq_, bl_⟩
        ·rw [if_neg c11] at H
         have c11b0 : (a0_7 == a1_7) = false := beq_eq_false_iff_ne.mpr c11
         have c11b1 : (a0_7 != a1_7) = true := bne_iff_ne.mpr c11
         obtain rfl := Option.some.inj H
         go_enter Try.func97, Try.ntmps97
         go_wp2_with (first | ((with_reducible refine gate_dst (N := 2) rfl ?_); refine be_ (N := 2) (cs := #[.slice A0_0 l0_0.length c0_0, .int .i64 a0_1, .slice A0_2 l0_2.length c0_2, .int .i64 a0_3, .int .i64 a0_4, .int .i64 a0_5, .int .i64 a0_6, .int .i64 a0_7, .slice A0_8 l0_8.length c0_8]) (t := 126) ?_; intro gb156 hg w25 hbox hb; have BK156 := Aside0.mk (hbox); have GW156 := gw_ (w := w) hg; have GE156 := gw_ (w := w) hg; replace HB := Aside0.mk (below_step bl_ hb); clear hb hbox hg) | ((with_reducible refine gate_dst (N := 3) rfl ?_); refine be_ (N := 3) (cs := #[.slice A1_0 l1_0.length c1_0, .int .i64 a1_1, .slice A1_2 l1_2.length c1_2, .int .i64 a1_3, .int .i64 a1_4, .int .i64 a1_5, .int .i64 a1_6, .int .i64 a1_7, .slice A1_8 l1_8.length c1_8]) (t := 126) ?_; intro gb157 hg w26 hbox hb; have BK157 := Aside0.mk (hbox); have GW157 := gw_ (w := w) hg; have GE157 := gw_ (w := w) hg; replace HB := Aside0.mk (below_step bl_ hb); have NB156_157 := Aside0.mk ((by rw [hg]; exact Nat.ne_of_lt (blk_lt (bk_ BK156)) : gb156 ≠ gb157)); have NB157_156 := Aside0.mk ((by rw [hg]; exact Nat.ne_of_gt (blk_lt (bk_ BK156)) : gb157 ≠ gb156)); replace BK156 := Aside0.mk (blk_below (bk_ BK156) hb); clear hb hbox hg; have hnb27 := NB156_157.out; have hnc27 := NB157_156.out; obtain ⟨hcz28_0, hcz28_1, hcz28_2, hcz28_3, hcz28_4, hcz28_5, hcz28_6, hcz28_7, hcz28_8, hfz28_0, hfz28_1, hfz28_2, hfz28_3, hfz28_4, hfz28_5, hfz28_6, hfz28_7, hfz28_8⟩ := bx9_ BK156; (try have hcu29 := fun (n_ : Nat) => Kd.C_string (P := Try.prog) (A := A0_0) (c := c0_0) Try.underlying60 Try.underlying5 Try.underlying9 (Kd.C_below HR0_0.out (pw_below_drewN HB.out n_))); have hcv30 := Kd.C_string (P := Try.prog) (A := A0_0) (c := c0_0) Try.underlying60 Try.underlying5 Try.underlying9 (Kd.C_below HR0_0.out HB.out); obtain ⟨hcz31_0, hcz31_1, hcz31_2, hcz31_3, hcz31_4, hcz31_5, hcz31_6, hcz31_7, hcz31_8, hfz31_0, hfz31_1, hfz31_2, hfz31_3, hfz31_4, hfz31_5, hfz31_6, hfz31_7, hfz31_8⟩ := bx9_ BK157; (try have hcu32 := fun (n_ : Nat) => Kd.C_string (P := Try.prog) (A := A1_0) (c := c1_0) Try.underlying60 Try.underlying5 Try.underlying9 (Kd.C_below HR1_0.out (pw_below_drewN HB.out n_))); have hcv33 := Kd.C_string (P := Try.prog) (A := A1_0) (c := c1_0) Try.underlying60 Try.underlying5 Try.underlying9 (Kd.C_below HR1_0.out HB.out)) | (go_at_call 151; (with_reducible refine (spec_l14Ints.calls k _ _ l0_2 _ _ l1_2 true _ ?side1 ?side2 ?side3 ?side4 A5.out).mono ?_); (case side1 => exact ca_ (Kd.C_below HR0_2.out HB.out)); (case side2 => exact HC0_2.out); (case side3 => exact ca_ (Kd.C_below HR1_2.out HB.out)); (case side4 => exact HC1_2.out); rintro e w' ⟨rfl, ⟨nd, rfl⟩⟩))
         go_ret
         exact ⟨sq_, bl_⟩
       ·rw [if_neg c10] at H
        have c10b0 : (a0_6 == a1_6) = false := beq_eq_false_iff_ne.mpr c10
        have c10b1 : (a0_6 != a1_6) = true := bne_iff_ne.mpr c10
        obtain rfl := Option.some.inj H
        go_enter Try.func97, Try.ntmps97
        go_wp2_with (first | ((with_reducible refine gate_dst (N := 2) rfl ?_); refine be_ (N := 2) (cs := #[.slice A0_0 l0_0.length c0_0, .int .i64 a0_1, .slice A0_2 l0_2.length c0_2, .int .i64 a0_3, .int .i64 a0_4, .int .i64 a0_5, .int .i64 a0_6, .int .i64 a0_7, .slice A0_8 l0_8.length c0_8]) (t := 126) ?_; intro gb156 hg w34 hbox hb; have BK156 := Aside0.mk (hbox); have GW156 := gw_ (w := w) hg; have GE156 := gw_ (w := w) hg; replace HB := Aside0.mk (below_step bl_ hb); clear hb hbox hg) | ((with_reducible refine gate_dst (N := 3) rfl ?_); refine be_ (N := 3) (cs := #[.slice A1_0 l1_0.length c1_0, .int .i64 a1_1, .slice A1_2 l1_2.length c1_2, .int .i64 a1_3, .int .i64 a1_4, .int .i64 a1_5, .int .i64 a1_6, .int .i64 a1_7, .slice A1_8 l1_8.length c1_8]) (t := 126) ?_; intro gb157 hg w35 hbox hb; have BK157 := Aside0.mk (hbox); have GW157 := gw_ (w := w) hg; have GE157 := gw_ (w := w) hg; replace HB := Aside0.mk (below_step bl_ hb); have NB156_157 := Aside0.mk ((by rw [hg]; exact Nat.ne_of_lt (blk_lt (bk_ BK156)) : gb156 ≠ gb157)); have NB157_156 := Aside0.mk ((by rw [hg]; exact Nat.ne_of_gt (blk_lt (bk_ BK156)) : gb157 ≠ gb156)); replace BK156 := Aside0.mk (blk_below (bk_ BK156) hb); clear hb hbox hg; have hnb36 := NB156_157.out; have hnc36 := NB157_156.out; obtain ⟨hcz37_0, hcz37_1, hcz37_2, hcz37_3, hcz37_4, hcz37_5, hcz37_6, hcz37_7, hcz37_8, hfz37_0, hfz37_1, hfz37_2, hfz37_3, hfz37_4, hfz37_5, hfz37_6, hfz37_7, hfz37_8⟩ := bx9_ BK156; (try have hcu38 := fun (n_ : Nat) => Kd.C_string (P := Try.prog) (A := A0_0) (c := c0_0) Try.underlying60 Try.underlying5 Try.underlying9 (Kd.C_below HR0_0.out (pw_below_drewN HB.out n_))); have hcv39 := Kd.C_string (P := Try.prog) (A := A0_0) (c := c0_0) Try.underlying60 Try.underlying5 Try.underlying9 (Kd.C_below HR0_0.out HB.out); obtain ⟨hcz40_0, hcz40_1, hcz40_2, hcz40_3, hcz40_4, hcz40_5, hcz40_6, hcz40_7, hcz40_8, hfz40_0, hfz40_1, hfz40_2, hfz40_3, hfz40_4, hfz40_5, hfz40_6, hfz40_7, hfz40_8⟩ := bx9_ BK157; (try have hcu41 := fun (n_ : Nat) => Kd.C_string (P := Try.prog) (A := A1_0) (c := c1_0) Try.underlying60 Try.underlying5 Try.underlying9 (Kd.C_below HR1_0.out (pw_below_drewN HB.out n_))); have hcv42 := Kd.C_string (P := Try.prog) (A := A1_0) (c := c1_0) Try.underlying60 Try.underlying5 Try.underlying9 (Kd.C_below HR1_0.out HB.out)) | (go_at_call 151; (with_reducible refine (spec_l14Ints.calls k _ _ l0_2 _ _ l1_2 true _ ?side1 ?side2 ?side3 ?side4 A5.out).mono ?_); (case side1 => exact ca_ (Kd.C_below HR0_2.out HB.out)); (case side2 => exact HC0_2.out); (case side3 => exact ca_ (Kd.C_below HR1_2.out HB.out)); (case side4 => exact HC1_2.out); rintro e w' ⟨rfl, ⟨nd, rfl⟩⟩))
        go_ret
        exact ⟨sq_, bl_⟩
      ·rw [if_neg c9] at H
       have c9b0 : (a0_5 == a1_5) = false := beq_eq_false_iff_ne.mpr c9
       have c9b1 : (a0_5 != a1_5) = true := bne_iff_ne.mpr c9
       obtain rfl := Option.some.inj H
       go_enter Try.func97, Try.ntmps97
       go_wp2_with (first | ((with_reducible refine gate_dst (N := 2) rfl ?_); refine be_ (N := 2) (cs := #[.slice A0_0 l0_0.length c0_0, .int .i64 a0_1, .slice A0_2 l0_2.length c0_2, .int .i64 a0_3, .int .i64 a0_4, .int .i64 a0_5, .int .i64 a0_6, .int .i64 a0_7, .slice A0_8 l0_8.length c0_8]) (t := 126) ?_; intro gb156 hg w43 hbox hb; have BK156 := Aside0.mk (hbox); have GW156 := gw_ (w := w) hg; have GE156 := gw_ (w := w) hg; replace HB := Aside0.mk (below_step bl_ hb); clear hb hbox hg) | ((with_reducible refine gate_dst (N := 3) rfl ?_); refine be_ (N := 3) (cs := #[.slice A1_0 l1_0.length c1_0, .int .i64 a1_1, .slice A1_2 l1_2.length c1_2, .int .i64 a1_3, .int .i64 a1_4, .int .i64 a1_5, .int .i64 a1_6, .int .i64 a1_7, .slice A1_8 l1_8.length c1_8]) (t := 126) ?_; intro gb157 hg w44 hbox hb; have BK157 := Aside0.mk (hbox); have GW157 := gw_ (w := w) hg; have GE157 := gw_ (w := w) hg; replace HB := Aside0.mk (below_step bl_ hb); have NB156_157 := Aside0.mk ((by rw [hg]; exact Nat.ne_of_lt (blk_lt (bk_ BK156)) : gb156 ≠ gb157)); have NB157_156 := Aside0.mk ((by rw [hg]; exact Nat.ne_of_gt (blk_lt (bk_ BK156)) : gb157 ≠ gb156)); replace BK156 := Aside0.mk (blk_below (bk_ BK156) hb); clear hb hbox hg; have hnb45 := NB156_157.out; have hnc45 := NB157_156.out; obtain ⟨hcz46_0, hcz46_1, hcz46_2, hcz46_3, hcz46_4, hcz46_5, hcz46_6, hcz46_7, hcz46_8, hfz46_0, hfz46_1, hfz46_2, hfz46_3, hfz46_4, hfz46_5, hfz46_6, hfz46_7, hfz46_8⟩ := bx9_ BK156; (try have hcu47 := fun (n_ : Nat) => Kd.C_string (P := Try.prog) (A := A0_0) (c := c0_0) Try.underlying60 Try.underlying5 Try.underlying9 (Kd.C_below HR0_0.out (pw_below_drewN HB.out n_))); have hcv48 := Kd.C_string (P := Try.prog) (A := A0_0) (c := c0_0) Try.underlying60 Try.underlying5 Try.underlying9 (Kd.C_below HR0_0.out HB.out); obtain ⟨hcz49_0, hcz49_1, hcz49_2, hcz49_3, hcz49_4, hcz49_5, hcz49_6, hcz49_7, hcz49_8, hfz49_0, hfz49_1, hfz49_2, hfz49_3, hfz49_4, hfz49_5, hfz49_6, hfz49_7, hfz49_8⟩ := bx9_ BK157; (try have hcu50 := fun (n_ : Nat) => Kd.C_string (P := Try.prog) (A := A1_0) (c := c1_0) Try.underlying60 Try.underlying5 Try.underlying9 (Kd.C_below HR1_0.out (pw_below_drewN HB.out n_))); have hcv51 := Kd.C_string (P := Try.prog) (A := A1_0) (c := c1_0) Try.underlying60 Try.underlying5 Try.underlying9 (Kd.C_below HR1_0.out HB.out)) | (go_at_call 151; (with_reducible refine (spec_l14Ints.calls k _ _ l0_2 _ _ l1_2 true _ ?side1 ?side2 ?side3 ?side4 A5.out).mono ?_); (case side1 => exact ca_ (Kd.C_below HR0_2.out HB.out)); (case side2 => exact HC0_2.out); (case side3 => exact ca_ (Kd.C_below HR1_2.out HB.out)); (case side4 => exact HC1_2.out); rintro e w' ⟨rfl, ⟨nd, rfl⟩⟩))
       go_ret
       exact ⟨sq_, bl_⟩
     ·rw [if_neg c8] at H
      have c8b0 : (a0_4 == a1_4) = false := beq_eq_false_iff_ne.mpr c8
      have c8b1 : (a0_4 != a1_4) = true := bne_iff_ne.mpr c8
      obtain rfl := Option.some.inj H
      go_enter Try.func97, Try.ntmps97
      go_wp2_with (first | ((with_reducible refine gate_dst (N := 2) rfl ?_); refine be_ (N := 2) (cs := #[.slice A0_0 l0_0.length c0_0, .int .i64 a0_1, .slice A0_2 l0_2.length c0_2, .int .i64 a0_3, .int .i64 a0_4, .int .i64 a0_5, .int .i64 a0_6, .int .i64 a0_7, .slice A0_8 l0_8.length c0_8]) (t := 126) ?_; intro gb156 hg w52 hbox hb; have BK156 := Aside0.mk (hbox); have GW156 := gw_ (w := w) hg; have GE156 := gw_ (w := w) hg; replace HB := Aside0.mk (below_step bl_ hb); clear hb hbox hg) | ((with_reducible refine gate_dst (N := 3) rfl ?_); refine be_ (N := 3) (cs := #[.slice A1_0 l1_0.length c1_0, .int .i64 a1_1, .slice A1_2 l1_2.length c1_2, .int .i64 a1_3, .int .i64 a1_4, .int .i64 a1_5, .int .i64 a1_6, .int .i64 a1_7, .slice A1_8 l1_8.length c1_8]) (t := 126) ?_; intro gb157 hg w53 hbox hb; have BK157 := Aside0.mk (hbox); have GW157 := gw_ (w := w) hg; have GE157 := gw_ (w := w) hg; replace HB := Aside0.mk (below_step bl_ hb); have NB156_157 := Aside0.mk ((by rw [hg]; exact Nat.ne_of_lt (blk_lt (bk_ BK156)) : gb156 ≠ gb157)); have NB157_156 := Aside0.mk ((by rw [hg]; exact Nat.ne_of_gt (blk_lt (bk_ BK156)) : gb157 ≠ gb156)); replace BK156 := Aside0.mk (blk_below (bk_ BK156) hb); clear hb hbox hg; have hnb54 := NB156_157.out; have hnc54 := NB157_156.out; obtain ⟨hcz55_0, hcz55_1, hcz55_2, hcz55_3, hcz55_4, hcz55_5, hcz55_6, hcz55_7, hcz55_8, hfz55_0, hfz55_1, hfz55_2, hfz55_3, hfz55_4, hfz55_5, hfz55_6, hfz55_7, hfz55_8⟩ := bx9_ BK156; (try have hcu56 := fun (n_ : Nat) => Kd.C_string (P := Try.prog) (A := A0_0) (c := c0_0) Try.underlying60 Try.underlying5 Try.underlying9 (Kd.C_below HR0_0.out (pw_below_drewN HB.out n_))); have hcv57 := Kd.C_string (P := Try.prog) (A := A0_0) (c := c0_0) Try.underlying60 Try.underlying5 Try.underlying9 (Kd.C_below HR0_0.out HB.out); obtain ⟨hcz58_0, hcz58_1, hcz58_2, hcz58_3, hcz58_4, hcz58_5, hcz58_6, hcz58_7, hcz58_8, hfz58_0, hfz58_1, hfz58_2, hfz58_3, hfz58_4, hfz58_5, hfz58_6, hfz58_7, hfz58_8⟩ := bx9_ BK157; (try have hcu59 := fun (n_ : Nat) => Kd.C_string (P := Try.prog) (A := A1_0) (c := c1_0) Try.underlying60 Try.underlying5 Try.underlying9 (Kd.C_below HR1_0.out (pw_below_drewN HB.out n_))); have hcv60 := Kd.C_string (P := Try.prog) (A := A1_0) (c := c1_0) Try.underlying60 Try.underlying5 Try.underlying9 (Kd.C_below HR1_0.out HB.out)) | (go_at_call 151; (with_reducible refine (spec_l14Ints.calls k _ _ l0_2 _ _ l1_2 true _ ?side1 ?side2 ?side3 ?side4 A5.out).mono ?_); (case side1 => exact ca_ (Kd.C_below HR0_2.out HB.out)); (case side2 => exact HC0_2.out); (case side3 => exact ca_ (Kd.C_below HR1_2.out HB.out)); (case side4 => exact HC1_2.out); rintro e w' ⟨rfl, ⟨nd, rfl⟩⟩))
      go_ret
      exact ⟨sq_, bl_⟩
    ·rw [if_neg c7] at H
     have c7b0 : (a0_3 == a1_3) = false := beq_eq_false_iff_ne.mpr c7
     have c7b1 : (a0_3 != a1_3) = true := bne_iff_ne.mpr c7
     obtain rfl := Option.some.inj H
     go_enter Try.func97, Try.ntmps97
     go_wp2_with (first | ((with_reducible refine gate_dst (N := 2) rfl ?_); refine be_ (N := 2) (cs := #[.slice A0_0 l0_0.length c0_0, .int .i64 a0_1, .slice A0_2 l0_2.length c0_2, .int .i64 a0_3, .int .i64 a0_4, .int .i64 a0_5, .int .i64 a0_6, .int .i64 a0_7, .slice A0_8 l0_8.length c0_8]) (t := 126) ?_; intro gb156 hg w61 hbox hb; have BK156 := Aside0.mk (hbox); have GW156 := gw_ (w := w) hg; have GE156 := gw_ (w := w) hg; replace HB := Aside0.mk (below_step bl_ hb); clear hb hbox hg) | ((with_reducible refine gate_dst (N := 3) rfl ?_); refine be_ (N := 3) (cs := #[.slice A1_0 l1_0.length c1_0, .int .i64 a1_1, .slice A1_2 l1_2.length c1_2, .int .i64 a1_3, .int .i64 a1_4, .int .i64 a1_5, .int .i64 a1_6, .int .i64 a1_7, .slice A1_8 l1_8.length c1_8]) (t := 126) ?_; intro gb157 hg w62 hbox hb; have BK157 := Aside0.mk (hbox); have GW157 := gw_ (w := w) hg; have GE157 := gw_ (w := w) hg; replace HB := Aside0.mk (below_step bl_ hb); have NB156_157 := Aside0.mk ((by rw [hg]; exact Nat.ne_of_lt (blk_lt (bk_ BK156)) : gb156 ≠ gb157)); have NB157_156 := Aside0.mk ((by rw [hg]; exact Nat.ne_of_gt (blk_lt (bk_ BK156)) : gb157 ≠ gb156)); replace BK156 := Aside0.mk (blk_below (bk_ BK156) hb); clear hb hbox hg; have hnb63 := NB156_157.out; have hnc63 := NB157_156.out; obtain ⟨hcz64_0, hcz64_1, hcz64_2, hcz64_3, hcz64_4, hcz64_5, hcz64_6, hcz64_7, hcz64_8, hfz64_0, hfz64_1, hfz64_2, hfz64_3, hfz64_4, hfz64_5, hfz64_6, hfz64_7, hfz64_8⟩ := bx9_ BK156; (try have hcu65 := fun (n_ : Nat) => Kd.C_string (P := Try.prog) (A := A0_0) (c := c0_0) Try.underlying60 Try.underlying5 Try.underlying9 (Kd.C_below HR0_0.out (pw_below_drewN HB.out n_))); have hcv66 := Kd.C_string (P := Try.prog) (A := A0_0) (c := c0_0) Try.underlying60 Try.underlying5 Try.underlying9 (Kd.C_below HR0_0.out HB.out); obtain ⟨hcz67_0, hcz67_1, hcz67_2, hcz67_3, hcz67_4, hcz67_5, hcz67_6, hcz67_7, hcz67_8, hfz67_0, hfz67_1, hfz67_2, hfz67_3, hfz67_4, hfz67_5, hfz67_6, hfz67_7, hfz67_8⟩ := bx9_ BK157; (try have hcu68 := fun (n_ : Nat) => Kd.C_string (P := Try.prog) (A := A1_0) (c := c1_0) Try.underlying60 Try.underlying5 Try.underlying9 (Kd.C_below HR1_0.out (pw_below_drewN HB.out n_))); have hcv69 := Kd.C_string (P := Try.prog) (A := A1_0) (c := c1_0) Try.underlying60 Try.underlying5 Try.underlying9 (Kd.C_below HR1_0.out HB.out)) | (go_at_call 151; (with_reducible refine (spec_l14Ints.calls k _ _ l0_2 _ _ l1_2 true _ ?side1 ?side2 ?side3 ?side4 A5.out).mono ?_); (case side1 => exact ca_ (Kd.C_below HR0_2.out HB.out)); (case side2 => exact HC0_2.out); (case side3 => exact ca_ (Kd.C_below HR1_2.out HB.out)); (case side4 => exact HC1_2.out); rintro e w' ⟨rfl, ⟨nd, rfl⟩⟩))
     go_ret
     exact ⟨sq_, bl_⟩
   ·replace c6 := Bool.eq_false_iff.mpr c6
    subst c6
    replace H := in_ H
    obtain rfl := Option.some.inj H
    go_enter Try.func97, Try.ntmps97
    go_wp2_with (first | ((with_reducible refine gate_dst (N := 2) rfl ?_); refine be_ (N := 2) (cs := #[.slice A0_0 l0_0.length c0_0, .int .i64 a0_1, .slice A0_2 l0_2.length c0_2, .int .i64 a0_3, .int .i64 a0_4, .int .i64 a0_5, .int .i64 a0_6, .int .i64 a0_7, .slice A0_8 l0_8.length c0_8]) (t := 126) ?_; intro gb156 hg w70 hbox hb; have BK156 := Aside0.mk (hbox); have GW156 := gw_ (w := w) hg; have GE156 := gw_ (w := w) hg; replace HB := Aside0.mk (below_step bl_ hb); clear hb hbox hg) | ((with_reducible refine gate_dst (N := 3) rfl ?_); refine be_ (N := 3) (cs := #[.slice A1_0 l1_0.length c1_0, .int .i64 a1_1, .slice A1_2 l1_2.length c1_2, .int .i64 a1_3, .int .i64 a1_4, .int .i64 a1_5, .int .i64 a1_6, .int .i64 a1_7, .slice A1_8 l1_8.length c1_8]) (t := 126) ?_; intro gb157 hg w71 hbox hb; have BK157 := Aside0.mk (hbox); have GW157 := gw_ (w := w) hg; have GE157 := gw_ (w := w) hg; replace HB := Aside0.mk (below_step bl_ hb); have NB156_157 := Aside0.mk ((by rw [hg]; exact Nat.ne_of_lt (blk_lt (bk_ BK156)) : gb156 ≠ gb157)); have NB157_156 := Aside0.mk ((by rw [hg]; exact Nat.ne_of_gt (blk_lt (bk_ BK156)) : gb157 ≠ gb156)); replace BK156 := Aside0.mk (blk_below (bk_ BK156) hb); clear hb hbox hg; have hnb72 := NB156_157.out; have hnc72 := NB157_156.out; obtain ⟨hcz73_0, hcz73_1, hcz73_2, hcz73_3, hcz73_4, hcz73_5, hcz73_6, hcz73_7, hcz73_8, hfz73_0, hfz73_1, hfz73_2, hfz73_3, hfz73_4, hfz73_5, hfz73_6, hfz73_7, hfz73_8⟩ := bx9_ BK156; (try have hcu74 := fun (n_ : Nat) => Kd.C_string (P := Try.prog) (A := A0_0) (c := c0_0) Try.underlying60 Try.underlying5 Try.underlying9 (Kd.C_below HR0_0.out (pw_below_drewN HB.out n_))); have hcv75 := Kd.C_string (P := Try.prog) (A := A0_0) (c := c0_0) Try.underlying60 Try.underlying5 Try.underlying9 (Kd.C_below HR0_0.out HB.out); obtain ⟨hcz76_0, hcz76_1, hcz76_2, hcz76_3, hcz76_4, hcz76_5, hcz76_6, hcz76_7, hcz76_8, hfz76_0, hfz76_1, hfz76_2, hfz76_3, hfz76_4, hfz76_5, hfz76_6, hfz76_7, hfz76_8⟩ := bx9_ BK157; (try have hcu77 := fun (n_ : Nat) => Kd.C_string (P := Try.prog) (A := A1_0) (c := c1_0) Try.underlying60 Try.underlying5 Try.underlying9 (Kd.C_below HR1_0.out (pw_below_drewN HB.out n_))); have hcv78 := Kd.C_string (P := Try.prog) (A := A1_0) (c := c1_0) Try.underlying60 Try.underlying5 Try.underlying9 (Kd.C_below HR1_0.out HB.out)) | (go_at_call 151; (with_reducible refine (spec_l14Ints.calls k _ _ l0_2 _ _ l1_2 false _ ?side1 ?side2 ?side3 ?side4 A5.out).mono ?_); (case side1 => exact ca_ (Kd.C_below HR0_2.out HB.out)); (case side2 => exact HC0_2.out); (case side3 => exact ca_ (Kd.C_below HR1_2.out HB.out)); (case side4 => exact HC1_2.out); rintro e w' ⟨rfl, ⟨nd, rfl⟩⟩))
    go_ret
    exact ⟨sq_, bl_⟩
  ·rw [if_neg c4] at H
   have c4b0 : (a0_1 == a1_1) = false := beq_eq_false_iff_ne.mpr c4
   have c4b1 : (a0_1 != a1_1) = true := bne_iff_ne.mpr c4
   obtain rfl := Option.some.inj H
   go_enter Try.func97, Try.ntmps97
   go_wp2_with (first | ((with_reducible refine gate_dst (N := 2) rfl ?_); refine be_ (N := 2) (cs := #[.slice A0_0 l0_0.length c0_0, .int .i64 a0_1, .slice A0_2 l0_2.length c0_2, .int .i64 a0_3, .int .i64 a0_4, .int .i64 a0_5, .int .i64 a0_6, .int .i64 a0_7, .slice A0_8 l0_8.length c0_8]) (t := 126) ?_; intro gb156 hg w79 hbox hb; have BK156 := Aside0.mk (hbox); have GW156 := gw_ (w := w) hg; have GE156 := gw_ (w := w) hg; replace HB := Aside0.mk (below_step bl_ hb); clear hb hbox hg) | ((with_reducible refine gate_dst (N := 3) rfl ?_); refine be_ (N := 3) (cs := #[.slice A1_0 l1_0.length c1_0, .int .i64 a1_1, .slice A1_2 l1_2.length c1_2, .int .i64 a1_3, .int .i64 a1_4, .int .i64 a1_5, .int .i64 a1_6, .int .i64 a1_7, .slice A1_8 l1_8.length c1_8]) (t := 126) ?_; intro gb157 hg w80 hbox hb; have BK157 := Aside0.mk (hbox); have GW157 := gw_ (w := w) hg; have GE157 := gw_ (w := w) hg; replace HB := Aside0.mk (below_step bl_ hb); have NB156_157 := Aside0.mk ((by rw [hg]; exact Nat.ne_of_lt (blk_lt (bk_ BK156)) : gb156 ≠ gb157)); have NB157_156 := Aside0.mk ((by rw [hg]; exact Nat.ne_of_gt (blk_lt (bk_ BK156)) : gb157 ≠ gb156)); replace BK156 := Aside0.mk (blk_below (bk_ BK156) hb); clear hb hbox hg; have hnb81 := NB156_157.out; have hnc81 := NB157_156.out; obtain ⟨hcz82_0, hcz82_1, hcz82_2, hcz82_3, hcz82_4, hcz82_5, hcz82_6, hcz82_7, hcz82_8, hfz82_0, hfz82_1, hfz82_2, hfz82_3, hfz82_4, hfz82_5, hfz82_6, hfz82_7, hfz82_8⟩ := bx9_ BK156; (try have hcu83 := fun (n_ : Nat) => Kd.C_string (P := Try.prog) (A := A0_0) (c := c0_0) Try.underlying60 Try.underlying5 Try.underlying9 (Kd.C_below HR0_0.out (pw_below_drewN HB.out n_))); have hcv84 := Kd.C_string (P := Try.prog) (A := A0_0) (c := c0_0) Try.underlying60 Try.underlying5 Try.underlying9 (Kd.C_below HR0_0.out HB.out); obtain ⟨hcz85_0, hcz85_1, hcz85_2, hcz85_3, hcz85_4, hcz85_5, hcz85_6, hcz85_7, hcz85_8, hfz85_0, hfz85_1, hfz85_2, hfz85_3, hfz85_4, hfz85_5, hfz85_6, hfz85_7, hfz85_8⟩ := bx9_ BK157; (try have hcu86 := fun (n_ : Nat) => Kd.C_string (P := Try.prog) (A := A1_0) (c := c1_0) Try.underlying60 Try.underlying5 Try.underlying9 (Kd.C_below HR1_0.out (pw_below_drewN HB.out n_))); have hcv87 := Kd.C_string (P := Try.prog) (A := A1_0) (c := c1_0) Try.underlying60 Try.underlying5 Try.underlying9 (Kd.C_below HR1_0.out HB.out)))
   go_ret
   exact ⟨sq_, bl_⟩
 ·rw [if_neg c3] at H
  have c3b0 : ((strOfNums l0_0).toList == (strOfNums l1_0).toList) = false := beq_eq_false_iff_ne.mpr c3
  have c3b1 : ((strOfNums l0_0).toList != (strOfNums l1_0).toList) = true := bne_iff_ne.mpr c3
  obtain rfl := Option.some.inj H
  go_enter Try.func97, Try.ntmps97
  go_wp2_with (first | ((with_reducible refine gate_dst (N := 2) rfl ?_); refine be_ (N := 2) (cs := #[.slice A0_0 l0_0.length c0_0, .int .i64 a0_1, .slice A0_2 l0_2.length c0_2, .int .i64 a0_3, .int .i64 a0_4, .int .i64 a0_5, .int .i64 a0_6, .int .i64 a0_7, .slice A0_8 l0_8.length c0_8]) (t := 126) ?_; intro gb156 hg w88 hbox hb; have BK156 := Aside0.mk (hbox); have GW156 := gw_ (w := w) hg; have GE156 := gw_ (w := w) hg; replace HB := Aside0.mk (below_step bl_ hb); clear hb hbox hg) | ((with_reducible refine gate_dst (N := 3) rfl ?_); refine be_ (N := 3) (cs := #[.slice A1_0 l1_0.length c1_0, .int .i64 a1_1, .slice A1_2 l1_2.length c1_2, .int .i64 a1_3, .int .i64 a1_4, .int .i64 a1_5, .int .i64 a1_6, .int .i64 a1_7, .slice A1_8 l1_8.length c1_8]) (t := 126) ?_; intro gb157 hg w89 hbox hb; have BK157 := Aside0.mk (hbox); have GW157 := gw_ (w := w) hg; have GE157 := gw_ (w := w) hg; replace HB := Aside0.mk (below_step bl_ hb); have NB156_157 := Aside0.mk ((by rw [hg]; exact Nat.ne_of_lt (blk_lt (bk_ BK156)) : gb156 ≠ gb157)); have NB157_156 := Aside0.mk ((by rw [hg]; exact Nat.ne_of_gt (blk_lt (bk_ BK156)) : gb157 ≠ gb156)); replace BK156 := Aside0.mk (blk_below (bk_ BK156) hb); clear hb hbox hg; have hnb90 := NB156_157.out; have hnc90 := NB157_156.out; obtain ⟨hcz91_0, hcz91_1, hcz91_2, hcz91_3, hcz91_4, hcz91_5, hcz91_6, hcz91_7, hcz91_8, hfz91_0, hfz91_1, hfz91_2, hfz91_3, hfz91_4, hfz91_5, hfz91_6, hfz91_7, hfz91_8⟩ := bx9_ BK156; (try have hcu92 := fun (n_ : Nat) => Kd.C_string (P := Try.prog) (A := A0_0) (c := c0_0) Try.underlying60 Try.underlying5 Try.underlying9 (Kd.C_below HR0_0.out (pw_below_drewN HB.out n_))); have hcv93 := Kd.C_string (P := Try.prog) (A := A0_0) (c := c0_0) Try.underlying60 Try.underlying5 Try.underlying9 (Kd.C_below HR0_0.out HB.out); obtain ⟨hcz94_0, hcz94_1, hcz94_2, hcz94_3, hcz94_4, hcz94_5, hcz94_6, hcz94_7, hcz94_8, hfz94_0, hfz94_1, hfz94_2, hfz94_3, hfz94_4, hfz94_5, hfz94_6, hfz94_7, hfz94_8⟩ := bx9_ BK157; (try have hcu95 := fun (n_ : Nat) => Kd.C_string (P := Try.prog) (A := A1_0) (c := c1_0) Try.underlying60 Try.underlying5 Try.underlying9 (Kd.C_below HR1_0.out (pw_below_drewN HB.out n_))); have hcv96 := Kd.C_string (P := Try.prog) (A := A1_0) (c := c1_0) Try.underlying60 Try.underlying5 Try.underlying9 (Kd.C_below HR1_0.out HB.out)))
  go_ret
  exact ⟨sq_, bl_⟩
end Go.Proofs.Ytepjnalkpfnmcaa.QFnExactWorldSame
