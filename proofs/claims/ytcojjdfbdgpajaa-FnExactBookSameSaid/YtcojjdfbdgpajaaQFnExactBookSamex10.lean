-- by my own printer (myprint.py, over the kit's print.py)
import Derived.Test.YtcojjdfbdgpajaaQFnExactBookSamex0
import Derived.Test.YtcojjdfbdgpajaaQFnExactBookSamex1
import Derived.Test.YtcojjdfbdgpajaaQFnExactBookSamex9
namespace Go.Proofs.Ytcojjdfbdgpajaa.QFnExactBookSame
open Go.RowKit Go.Proofs.YtcojjdfbdgpajaaW.PrintWords Go.Proofs.YtcojjdfbdgpajaaW.PrintLast Go.Proofs.YtcojjdfbdgpajaaW.PrintMore
attribute [local go_sem] max2_int min2_int max_two min_two max_three min_three max_four min_four   -- for this text's walks alone
set_option linter.unusedVariables false
set_option linter.unusedSimpArgs false

attribute [local go_sem] my_geq my_leq my_gtr
attribute [local go_sem high] eqA60
/-! ### spec_BookSame: function 60 -/
def spec_BookSame.l0 : Nat → List (S85) → Int → Int → List (S85) → Option (Bool)
  | 0, _, _, _, _ => none
  | k + 1, x15, x16, x17, x262000 => if x17 < x16 then (if 0 ≤ x17 then (if x17 < (x15.length : Int) then (if x17 < (x262000.length : Int) then ((spec_AcctSame.f k ((rd_T85 x15 x17).f0) ((rd_T85 x15 x17).f1) ((rd_T85 x15 x17).f2) ((rd_T85 x15 x17).f3) ((rd_T85 x15 x17).f4) ((rd_T85 x15 x17).f5) ((rd_T85 x15 x17).f6.f0) ((rd_T85 x15 x17).f6.f1) ((rd_T85 x15 x17).f6.f2) ((rd_T85 x15 x17).f6.f3) ((rd_T85 x15 x17).f7) ((rd_T85 x262000 x17).f0) ((rd_T85 x262000 x17).f1) ((rd_T85 x262000 x17).f2) ((rd_T85 x262000 x17).f3) ((rd_T85 x262000 x17).f4) ((rd_T85 x262000 x17).f5) ((rd_T85 x262000 x17).f6.f0) ((rd_T85 x262000 x17).f6.f1) ((rd_T85 x262000 x17).f6.f2) ((rd_T85 x262000 x17).f6.f3) ((rd_T85 x262000 x17).f7)).bind fun t265 => (if t265 = true then (spec_BookSame.l0 k x15 x16 (wrap64 (x17 + 1)) x262000) else (some false))) else (none)) else (none)) else (none)) else (some true)
def spec_BookSame.f (k : Nat) (l0_0 : List (S85)) (l1_0 : List (S85)) : Option (Bool) := if (l0_0.length : Int) = (l1_0.length : Int) then (spec_BookSame.l0 k l0_0 (l0_0.length : Int) 0 l1_0) else (some false)
theorem spec_BookSame.mono_l : ∀ k, (∀ y0 y1 y2 y3, LeO (spec_BookSame.l0 k y0 y1 y2 y3) (spec_BookSame.l0 (k + 1) y0 y1 y2 y3))
  | 0 => fun _ _ _ _ r h => by simp [spec_BookSame.l0] at h
  | k + 1 => by
    have ih0 := spec_BookSame.mono_l k
    · intro y0 y1 y2 y3
      unfold spec_BookSame.l0
      repeat' first
      | (with_reducible exact ih0 _ _ _ _)
      | (with_reducible exact spec_AcctSame.mono _ _ _ _ _ _ _ _ _ _ _ _ _ _ _ _ _ _ _ _ _ _ _)
      | (with_reducible exact LeO.refl _)
      | (with_reducible exact LeO.none _)
      | (with_reducible refine LeO.ite ?_ ?_)
      | (with_reducible refine LeO.bind ?_ (fun _ => ?_))
      | exact ih0 _ _ _ _
      | exact spec_AcctSame.mono _ _ _ _ _ _ _ _ _ _ _ _ _ _ _ _ _ _ _ _ _ _ _
      | exact LeO.none _
      | refine LeO.ite ?_ ?_
      | refine LeO.bind ?_ (fun _ => ?_)
theorem spec_BookSame.mono : ∀ a0 a1 k, LeO (spec_BookSame.f k a0 a1) (spec_BookSame.f (k + 1) a0 a1) := by
  intro a0 a1 k
  have ih0 := spec_BookSame.mono_l k
  unfold spec_BookSame.f
  repeat' first
      | (with_reducible exact ih0 _ _ _ _)
      | (with_reducible exact spec_AcctSame.mono _ _ _ _ _ _ _ _ _ _ _ _ _ _ _ _ _ _ _ _ _ _ _)
      | (with_reducible exact LeO.refl _)
      | (with_reducible exact LeO.none _)
      | (with_reducible refine LeO.ite ?_ ?_)
      | (with_reducible refine LeO.bind ?_ (fun _ => ?_))
      | exact ih0 _ _ _ _
      | exact spec_AcctSame.mono _ _ _ _ _ _ _ _ _ _ _ _ _ _ _ _ _ _ _ _ _ _ _
      | exact LeO.none _
      | refine LeO.ite ?_ ?_
      | refine LeO.bind ?_ (fun _ => ?_)
def spec_BookSame.T6 : Bool × List (List Nat × List Nat) := (true, [([], []), ([], []), ([1], [1]), ([], []), ([2, 3], [2, 3]), ([4], [4]), ([0, 5], [0, 5]), ([6], [6])])
def spec_BookSame.B6 : List Nat := [0, 0, 2, 0, 14, 30, 63, 127]
theorem spec_BookSame.tab6 : rtab .any (opsOf Try.f60 6) = spec_BookSame.T6 := by kernel_rfl
theorem spec_BookSame.bits6 : waitsOk spec_BookSame.T6.2 spec_BookSame.B6 = true := by kernel_rfl
set_option maxHeartbeats 8000000 in
set_option maxRecDepth 100000 in
theorem spec_BookSame.calls (k : Nat) (A0_0 : Option Addr) (c0_0 : Nat) (l0_0 : List (S85)) (A1_0 : Option Addr) (c1_0 : Nat) (l1_0 : List (S85)) (r : Bool) (w : World) (hr0_0 : Kd.C k85 w A0_0 l0_0.length l0_0) (hc0_0 : l0_0.length ≤ c0_0) (hr1_0 : Kd.C k85 w A1_0 l1_0.length l1_0) (hc1_0 : l1_0.length ≤ c1_0) (h : spec_BookSame.f k l0_0 l1_0 = some r) :
    Calls Try.prog 60 #[.agg #[.slice A0_0 l0_0.length c0_0], .agg #[.slice A1_0 l1_0.length c1_0]] w fun e w' => e = .returned (.bool r) ∧ Below w.heap.size w w' := by
  have hu72 := Try.underlying72
  have hu85 := Try.underlying85
  have HR0_0 := Aside0.mk hr0_0
  have HC0_0 := Aside0.mk hc0_0
  clear hr0_0 hc0_0
  have HR1_0 := Aside0.mk hr1_0
  have HC1_0 := Aside0.mk hc1_0
  clear hr1_0 hc1_0
  have HB := Aside0.mk (Below.refl w.heap.size w)
  have H : (if (l0_0.length : Int) = (l1_0.length : Int) then (spec_BookSame.l0 k l0_0 (l0_0.length : Int) 0 l1_0) else (some false)) = some r := h
  clear h
  by_cases c3 : (l0_0.length : Int) = (l1_0.length : Int)
  · rw [if_pos c3] at H
    have c3b0 : ((l0_0.length : Int) == (l1_0.length : Int)) = true := beq_iff_eq.mpr c3
    have c3b1 : ((l0_0.length : Int) != (l1_0.length : Int)) = false := bne_eq_false_iff_eq.mpr c3
    have c3b2 : (l0_0.length == l1_0.length) = true := by first | simpa using c3 | (simp at c3 ⊢; omega)
    clear c3
    have H' := Aside0.mk H
    clear H
    go_enter Try.func60, Try.ntmps60
    go_wp2_with (first | ((with_reducible refine gate_dst (N := 2) rfl ?_); refine box_event ?hg (N := 2) ?hd (cs := #[.slice A0_0 l0_0.length c0_0]) (t := 72) ?hr ?_; (case hd => rfl); (case hg => rfl); (case hr => first | (go_simp; done) | (go_simp; rfl)); intro gb260 hg w4 hbox hb; have n0_ := Aside0.mk (below_step bl_ hb); have n1_ := Aside0.mk (hbox); have n2_ := Aside0.mk ((by rw [hg]; exact (below_size bl_) : w.heap.size ≤ gb260)); have n3_ := Aside0.mk ((by rw [hg]; exact (below_size bl_) : w.heap.size ≤ gb260)); clear HB; have HB := n0_; have BK260 := n1_; have GW260 := n2_; have GE260 := n3_; clear n0_ n1_ n2_ n3_; clear hb hbox hg) | ((with_reducible refine gate_dst (N := 3) rfl ?_); refine box_event ?hg (N := 3) ?hd (cs := #[.slice A1_0 l1_0.length c1_0]) (t := 72) ?hr ?_; (case hd => rfl); (case hg => rfl); (case hr => first | (go_simp; done) | (go_simp; rfl)); intro gb261 hg w5 hbox hb; have n0_ := Aside0.mk (blk_below (bk_ BK260) hb); have n1_ := Aside0.mk (below_step bl_ hb); have n2_ := Aside0.mk (hbox); have n3_ := Aside0.mk ((by rw [hg]; exact (below_size bl_) : w.heap.size ≤ gb261)); have n4_ := Aside0.mk ((by rw [hg]; exact (below_size bl_) : w.heap.size ≤ gb261)); have n5_ := Aside0.mk ((by rw [hg]; exact Nat.ne_of_lt (blk_lt (bk_ BK260)) : gb260 ≠ gb261)); have n6_ := Aside0.mk ((by rw [hg]; exact Nat.ne_of_gt (blk_lt (bk_ BK260)) : gb261 ≠ gb260)); clear BK260; clear HB; have BK260 := n0_; have HB := n1_; have BK261 := n2_; have GW261 := n3_; have GE261 := n4_; have NB260_261 := n5_; have NB261_260 := n6_; clear n0_ n1_ n2_ n3_ n4_ n5_ n6_; clear hb hbox hg; have hnb6 := NB260_261.out; have hnc6 := NB261_260.out; have hcz7_0 := cz_ BK260 0 (.slice A0_0 l0_0.length c0_0); have hfz7_0 := fz_ BK260 0; have hcz8_0 := cz_ BK261 0 (.slice A1_0 l1_0.length c1_0); have hfz8_0 := fz_ BK261 0))
    go_loopg [17] k (fun kq v17 w' => ∃ (x17_1 : Int), v17 = .int .i64 x17_1 ∧ Aside0 (spec_BookSame.l0 kq l0_0 (l0_0.length : Int) x17_1 l1_0 = some r) ∧ Aside0 (kq ≤ k) ∧ Aside0 (w'.heap[gb260]? = some (.cells #[(.slice A0_0 l0_0.length c0_0)] 72 (0, 0))) ∧ Aside0 (w'.heap[gb261]? = some (.cells #[(.slice A1_0 l1_0.length c1_0)] 72 (0, 0))) ∧ Aside0 (Below w.heap.size w w'))
    case atStart => exact ⟨(0), sp_, H', ⟨Nat.le_refl _⟩, ⟨by (with_reducible repeat (first | refine blk_drewN ?_ _ | refine blk_drew ?_ | refine blk_alloc ?_ _)); exact BK260.out⟩, ⟨by (with_reducible repeat (first | refine blk_drewN ?_ _ | refine blk_drew ?_ | refine blk_alloc ?_ _)); exact BK261.out⟩, ⟨bl_⟩⟩
    case round =>
      clear H'
      try clear c1
      try clear p2
      try clear c3
      try clear c3b0
      try clear c3b1
      try clear c3b2
      try clear c6
      try clear hcz7_0
      try clear hcz8_0
      try clear hfz7_0
      try clear hfz8_0
      obtain ⟨x17_1, rfl, HA, HK1, BK260, BK261, HB⟩ := hrel
      cases gk with
      | zero => exact absurd HA.out (by simp [spec_BookSame.l0])
      | succ k1 =>
        have H := HA.out
        clear HA
        simp only [spec_BookSame.l0] at H
        by_cases c9 : x17_1 < (l0_0.length : Int)
        · rw [if_pos c9] at H
          have c9b0 : decide (x17_1 < (l0_0.length : Int)) = true := decide_eq_true c9
          clear c9
          by_cases c10 : 0 ≤ x17_1
          · rw [if_pos c10] at H
            have c10b0 : decide (0 ≤ x17_1) = true := decide_eq_true c10
            clear c10
            by_cases c11 : x17_1 < (l0_0.length : Int)
            · rw [if_pos c11] at H
              have c11b0 : decide (x17_1 < (l0_0.length : Int)) = true := decide_eq_true c11
              clear c11
              by_cases c12 : x17_1 < (l1_0.length : Int)
              · rw [if_pos c12] at H
                have c12b0 : decide (x17_1 < (l1_0.length : Int)) = true := decide_eq_true c12
                clear c12
                replace H := Option.bind_eq_some_iff.mp H
                obtain ⟨t265, A130, H⟩ := H
                replace H : (if t265 = true then (spec_BookSame.l0 k1 l0_0 (l0_0.length : Int) (wrap64 (x17_1 + 1)) l1_0) else (some false)) = some r := H
                have A13 := Aside0.mk A130
                clear A130
                by_cases c14 : t265 = true
                · subst c14
                  have H1 : (spec_BookSame.l0 k1 l0_0 (l0_0.length : Int) (wrap64 (x17_1 + 1)) l1_0) = some r := by rw [if_pos rfl] at H; exact H
                  clear H
                  have H := H1
                  clear H1
                  have H' := Aside0.mk H
                  clear H
                  have p262 : 0 ≤ (x17_1 : Int) := od_
                  have q262 : x17_1 < (l0_0.length : Int) := od_
                  obtain ⟨ad262, A262_5, c262_5, A262_8, c262_8, A262_9, c262_9, A262_10, c262_10, e262, hx262_0, hx262_1, hx262_2, hx262_3, hx262_4, hx262_5, hx262_6, hx262_7, hx262_8, hx262_9, hx262_10, hl262_5, hi262_5, hl262_8, hi262_8, hl262_9, hi262_9, hl262_10, hi262_10⟩ := at_T85 HR0_0.out x17_1 p262 q262
                  cases e262
                  replace hx262_0 := kc_ HB hx262_0
                  replace hx262_1 := kc_ HB hx262_1
                  replace hx262_2 := kc_ HB hx262_2
                  replace hx262_3 := kc_ HB hx262_3
                  replace hx262_4 := kc_ HB hx262_4
                  replace hx262_5 := kc_ HB hx262_5
                  replace hx262_6 := kc_ HB hx262_6
                  replace hx262_7 := kc_ HB hx262_7
                  replace hx262_8 := kc_ HB hx262_8
                  replace hx262_9 := kc_ HB hx262_9
                  replace hx262_10 := kc_ HB hx262_10
                  have HR262_5 := Aside0.mk hi262_5
                  have HC262_5 := Aside0.mk hl262_5
                  clear hi262_5 hl262_5
                  have HR262_8 := Aside0.mk hi262_8
                  have HC262_8 := Aside0.mk hl262_8
                  clear hi262_8 hl262_8
                  have HR262_9 := Aside0.mk hi262_9
                  have HC262_9 := Aside0.mk hl262_9
                  clear hi262_9 hl262_9
                  have HR262_10 := Aside0.mk hi262_10
                  have HC262_10 := Aside0.mk hl262_10
                  clear hi262_10 hl262_10
                  replace p262 := eq_true p262
                  replace q262 := eq_true q262
                  try go_wp2_with (first | ((with_reducible refine gate_dst (N := 6) rfl ?_); refine box_event ?hg (N := 6) ?hd (cs := #[.string (⟨#[]⟩ : ByteArray), .int .i64 0, .int .i64 0, .int .i64 0, .int .i64 0, .slice none 0 0, .int .i64 0, .int .i64 0, .slice none 0 0, .slice none 0 0, .slice none 0 0]) (t := 85) ?hr ?_; (case hd => rfl); (case hg => rfl); (case hr => first | (go_simp; done) | (go_simp; rfl)); intro gb263 hg w15 hbox hb; have n0_ := Aside0.mk (blk_below (bk_ BK260) hb); have n1_ := Aside0.mk (blk_below (bk_ BK261) hb); have n2_ := Aside0.mk (below_step bl_ hb); have n3_ := Aside0.mk (hbox); have n4_ := Aside0.mk ((by rw [hg]; exact (below_size bl_) : w.heap.size ≤ gb263)); have n5_ := Aside0.mk ((by rw [hg]; exact (below_size bl_) : w.heap.size ≤ gb263)); have n6_ := Aside0.mk ((by rw [hg]; exact Nat.ne_of_lt (blk_lt (bk_ BK260)) : gb260 ≠ gb263)); have n7_ := Aside0.mk ((by rw [hg]; exact Nat.ne_of_gt (blk_lt (bk_ BK260)) : gb263 ≠ gb260)); have n8_ := Aside0.mk ((by rw [hg]; exact Nat.ne_of_lt (blk_lt (bk_ BK261)) : gb261 ≠ gb263)); have n9_ := Aside0.mk ((by rw [hg]; exact Nat.ne_of_gt (blk_lt (bk_ BK261)) : gb263 ≠ gb261)); clear BK260; clear BK261; clear HB; have BK260 := n0_; have BK261 := n1_; have HB := n2_; have BK263 := n3_; have GW263 := n4_; have GE263 := n5_; have NB260_263 := n6_; have NB263_260 := n7_; have NB261_263 := n8_; have NB263_261 := n9_; clear n0_ n1_ n2_ n3_ n4_ n5_ n6_ n7_ n8_ n9_; clear hb hbox hg; have hnb16 := NB263_260.out; have hnc16 := NB260_263.out; have hnb17 := NB263_261.out; have hnc17 := NB261_263.out; have hcz18_0 := cz_ BK263 0 (.string (⟨#[]⟩ : ByteArray)); have hcz18_1 := cz_ BK263 1 (.int .i64 0); have hcz18_2 := cz_ BK263 2 (.int .i64 0); have hcz18_3 := cz_ BK263 3 (.int .i64 0); have hcz18_4 := cz_ BK263 4 (.int .i64 0); have hcz18_5 := cz_ BK263 5 (.slice none 0 0); have hcz18_6 := cz_ BK263 6 (.int .i64 0); have hcz18_7 := cz_ BK263 7 (.int .i64 0); have hcz18_8 := cz_ BK263 8 (.slice none 0 0); have hcz18_9 := cz_ BK263 9 (.slice none 0 0); have hcz18_10 := cz_ BK263 10 (.slice none 0 0); have hfz18_0 := fz_ BK263 0; have hfz18_1 := fz_ BK263 1; have hfz18_2 := fz_ BK263 2; have hfz18_3 := fz_ BK263 3; have hfz18_4 := fz_ BK263 4; have hfz18_5 := fz_ BK263 5; have hfz18_6 := fz_ BK263 6; have hfz18_7 := fz_ BK263 7; have hfz18_8 := fz_ BK263 8; have hfz18_9 := fz_ BK263 9; have hfz18_10 := fz_ BK263 10))
                  have n0_ : Aside0 ((((((((((((w15.setCell ⟨gb263, 0, none⟩ (.string ((rd_T85 l0_0 x17_1).f0))).setCell ⟨gb263, 1, none⟩ (.int .i64 ((rd_T85 l0_0 x17_1).f1))).setCell ⟨gb263, 2, none⟩ (.int .i64 ((rd_T85 l0_0 x17_1).f2))).setCell ⟨gb263, 3, none⟩ (.int .i64 ((rd_T85 l0_0 x17_1).f3))).setCell ⟨gb263, 4, none⟩ (.int .i64 ((rd_T85 l0_0 x17_1).f4))).setCell ⟨gb263, 5, none⟩ (.slice A262_5 ((rd_T85 l0_0 x17_1).f5).length c262_5)).setCell ⟨gb263, 6, none⟩ (.int .i64 ((rd_T85 l0_0 x17_1).f6.f0))).setCell ⟨gb263, 7, none⟩ (.int .i64 ((rd_T85 l0_0 x17_1).f6.f1))).setCell ⟨gb263, 8, none⟩ (.slice A262_8 ((rd_T85 l0_0 x17_1).f6.f2).length c262_8)).setCell ⟨gb263, 9, none⟩ (.slice A262_9 ((rd_T85 l0_0 x17_1).f6.f3).length c262_9)).setCell ⟨gb263, 10, none⟩ (.slice A262_10 ((rd_T85 l0_0 x17_1).f7).length c262_10)).heap[gb260]? = some (.cells #[.slice (some ad262) l0_0.length c0_0] 72 (0, 0))) := ⟨by (with_reducible repeat (first | refine blk_drewN ?_ _ | refine blk_drew ?_ | refine blk_alloc ?_ _)); refine blk_far ?_ NB260_263.out _; (with_reducible repeat (first | refine blk_drewN ?_ _ | refine blk_drew ?_ | refine blk_alloc ?_ _)); refine blk_far ?_ NB260_263.out _; (with_reducible repeat (first | refine blk_drewN ?_ _ | refine blk_drew ?_ | refine blk_alloc ?_ _)); refine blk_far ?_ NB260_263.out _; (with_reducible repeat (first | refine blk_drewN ?_ _ | refine blk_drew ?_ | refine blk_alloc ?_ _)); refine blk_far ?_ NB260_263.out _; (with_reducible repeat (first | refine blk_drewN ?_ _ | refine blk_drew ?_ | refine blk_alloc ?_ _)); refine blk_far ?_ NB260_263.out _; (with_reducible repeat (first | refine blk_drewN ?_ _ | refine blk_drew ?_ | refine blk_alloc ?_ _)); refine blk_far ?_ NB260_263.out _; (with_reducible repeat (first | refine blk_drewN ?_ _ | refine blk_drew ?_ | refine blk_alloc ?_ _)); refine blk_far ?_ NB260_263.out _; (with_reducible repeat (first | refine blk_drewN ?_ _ | refine blk_drew ?_ | refine blk_alloc ?_ _)); refine blk_far ?_ NB260_263.out _; (with_reducible repeat (first | refine blk_drewN ?_ _ | refine blk_drew ?_ | refine blk_alloc ?_ _)); refine blk_far ?_ NB260_263.out _; (with_reducible repeat (first | refine blk_drewN ?_ _ | refine blk_drew ?_ | refine blk_alloc ?_ _)); refine blk_far ?_ NB260_263.out _; (with_reducible repeat (first | refine blk_drewN ?_ _ | refine blk_drew ?_ | refine blk_alloc ?_ _)); refine blk_far ?_ NB260_263.out _; (with_reducible repeat (first | refine blk_drewN ?_ _ | refine blk_drew ?_ | refine blk_alloc ?_ _)); exact BK260.out⟩
                  have n1_ : Aside0 ((((((((((((w15.setCell ⟨gb263, 0, none⟩ (.string ((rd_T85 l0_0 x17_1).f0))).setCell ⟨gb263, 1, none⟩ (.int .i64 ((rd_T85 l0_0 x17_1).f1))).setCell ⟨gb263, 2, none⟩ (.int .i64 ((rd_T85 l0_0 x17_1).f2))).setCell ⟨gb263, 3, none⟩ (.int .i64 ((rd_T85 l0_0 x17_1).f3))).setCell ⟨gb263, 4, none⟩ (.int .i64 ((rd_T85 l0_0 x17_1).f4))).setCell ⟨gb263, 5, none⟩ (.slice A262_5 ((rd_T85 l0_0 x17_1).f5).length c262_5)).setCell ⟨gb263, 6, none⟩ (.int .i64 ((rd_T85 l0_0 x17_1).f6.f0))).setCell ⟨gb263, 7, none⟩ (.int .i64 ((rd_T85 l0_0 x17_1).f6.f1))).setCell ⟨gb263, 8, none⟩ (.slice A262_8 ((rd_T85 l0_0 x17_1).f6.f2).length c262_8)).setCell ⟨gb263, 9, none⟩ (.slice A262_9 ((rd_T85 l0_0 x17_1).f6.f3).length c262_9)).setCell ⟨gb263, 10, none⟩ (.slice A262_10 ((rd_T85 l0_0 x17_1).f7).length c262_10)).heap[gb261]? = some (.cells #[.slice A1_0 l1_0.length c1_0] 72 (0, 0))) := ⟨by (with_reducible repeat (first | refine blk_drewN ?_ _ | refine blk_drew ?_ | refine blk_alloc ?_ _)); refine blk_far ?_ NB261_263.out _; (with_reducible repeat (first | refine blk_drewN ?_ _ | refine blk_drew ?_ | refine blk_alloc ?_ _)); refine blk_far ?_ NB261_263.out _; (with_reducible repeat (first | refine blk_drewN ?_ _ | refine blk_drew ?_ | refine blk_alloc ?_ _)); refine blk_far ?_ NB261_263.out _; (with_reducible repeat (first | refine blk_drewN ?_ _ | refine blk_drew ?_ | refine blk_alloc ?_ _)); refine blk_far ?_ NB261_263.out _; (with_reducible repeat (first | refine blk_drewN ?_ _ | refine blk_drew ?_ | refine blk_alloc ?_ _)); refine blk_far ?_ NB261_263.out _; (with_reducible repeat (first | refine blk_drewN ?_ _ | refine blk_drew ?_ | refine blk_alloc ?_ _)); refine blk_far ?_ NB261_263.out _; (with_reducible repeat (first | refine blk_drewN ?_ _ | refine blk_drew ?_ | refine blk_alloc ?_ _)); refine blk_far ?_ NB261_263.out _; (with_reducible repeat (first | refine blk_drewN ?_ _ | refine blk_drew ?_ | refine blk_alloc ?_ _)); refine blk_far ?_ NB261_263.out _; (with_reducible repeat (first | refine blk_drewN ?_ _ | refine blk_drew ?_ | refine blk_alloc ?_ _)); refine blk_far ?_ NB261_263.out _; (with_reducible repeat (first | refine blk_drewN ?_ _ | refine blk_drew ?_ | refine blk_alloc ?_ _)); refine blk_far ?_ NB261_263.out _; (with_reducible repeat (first | refine blk_drewN ?_ _ | refine blk_drew ?_ | refine blk_alloc ?_ _)); refine blk_far ?_ NB261_263.out _; (with_reducible repeat (first | refine blk_drewN ?_ _ | refine blk_drew ?_ | refine blk_alloc ?_ _)); exact BK261.out⟩
                  have n2_ : Aside0 ((((((((((((w15.setCell ⟨gb263, 0, none⟩ (.string ((rd_T85 l0_0 x17_1).f0))).setCell ⟨gb263, 1, none⟩ (.int .i64 ((rd_T85 l0_0 x17_1).f1))).setCell ⟨gb263, 2, none⟩ (.int .i64 ((rd_T85 l0_0 x17_1).f2))).setCell ⟨gb263, 3, none⟩ (.int .i64 ((rd_T85 l0_0 x17_1).f3))).setCell ⟨gb263, 4, none⟩ (.int .i64 ((rd_T85 l0_0 x17_1).f4))).setCell ⟨gb263, 5, none⟩ (.slice A262_5 ((rd_T85 l0_0 x17_1).f5).length c262_5)).setCell ⟨gb263, 6, none⟩ (.int .i64 ((rd_T85 l0_0 x17_1).f6.f0))).setCell ⟨gb263, 7, none⟩ (.int .i64 ((rd_T85 l0_0 x17_1).f6.f1))).setCell ⟨gb263, 8, none⟩ (.slice A262_8 ((rd_T85 l0_0 x17_1).f6.f2).length c262_8)).setCell ⟨gb263, 9, none⟩ (.slice A262_9 ((rd_T85 l0_0 x17_1).f6.f3).length c262_9)).setCell ⟨gb263, 10, none⟩ (.slice A262_10 ((rd_T85 l0_0 x17_1).f7).length c262_10)).heap[gb263]? = some (.cells #[.string ((rd_T85 l0_0 x17_1).f0), .int .i64 ((rd_T85 l0_0 x17_1).f1), .int .i64 ((rd_T85 l0_0 x17_1).f2), .int .i64 ((rd_T85 l0_0 x17_1).f3), .int .i64 ((rd_T85 l0_0 x17_1).f4), .slice A262_5 ((rd_T85 l0_0 x17_1).f5).length c262_5, .int .i64 ((rd_T85 l0_0 x17_1).f6.f0), .int .i64 ((rd_T85 l0_0 x17_1).f6.f1), .slice A262_8 ((rd_T85 l0_0 x17_1).f6.f2).length c262_8, .slice A262_9 ((rd_T85 l0_0 x17_1).f6.f3).length c262_9, .slice A262_10 ((rd_T85 l0_0 x17_1).f7).length c262_10] 85 (0, 0))) := ⟨by (with_reducible repeat (first | refine blk_drewN ?_ _ | refine blk_drew ?_ | refine blk_alloc ?_ _)); refine blk_put (cs := #[.string ((rd_T85 l0_0 x17_1).f0), .int .i64 ((rd_T85 l0_0 x17_1).f1), .int .i64 ((rd_T85 l0_0 x17_1).f2), .int .i64 ((rd_T85 l0_0 x17_1).f3), .int .i64 ((rd_T85 l0_0 x17_1).f4), .slice A262_5 ((rd_T85 l0_0 x17_1).f5).length c262_5, .int .i64 ((rd_T85 l0_0 x17_1).f6.f0), .int .i64 ((rd_T85 l0_0 x17_1).f6.f1), .slice A262_8 ((rd_T85 l0_0 x17_1).f6.f2).length c262_8, .slice A262_9 ((rd_T85 l0_0 x17_1).f6.f3).length c262_9, .slice none 0 0]) ?_ 10 _ rfl; (with_reducible repeat (first | refine blk_drewN ?_ _ | refine blk_drew ?_ | refine blk_alloc ?_ _)); refine blk_put (cs := #[.string ((rd_T85 l0_0 x17_1).f0), .int .i64 ((rd_T85 l0_0 x17_1).f1), .int .i64 ((rd_T85 l0_0 x17_1).f2), .int .i64 ((rd_T85 l0_0 x17_1).f3), .int .i64 ((rd_T85 l0_0 x17_1).f4), .slice A262_5 ((rd_T85 l0_0 x17_1).f5).length c262_5, .int .i64 ((rd_T85 l0_0 x17_1).f6.f0), .int .i64 ((rd_T85 l0_0 x17_1).f6.f1), .slice A262_8 ((rd_T85 l0_0 x17_1).f6.f2).length c262_8, .slice none 0 0, .slice none 0 0]) ?_ 9 _ rfl; (with_reducible repeat (first | refine blk_drewN ?_ _ | refine blk_drew ?_ | refine blk_alloc ?_ _)); refine blk_put (cs := #[.string ((rd_T85 l0_0 x17_1).f0), .int .i64 ((rd_T85 l0_0 x17_1).f1), .int .i64 ((rd_T85 l0_0 x17_1).f2), .int .i64 ((rd_T85 l0_0 x17_1).f3), .int .i64 ((rd_T85 l0_0 x17_1).f4), .slice A262_5 ((rd_T85 l0_0 x17_1).f5).length c262_5, .int .i64 ((rd_T85 l0_0 x17_1).f6.f0), .int .i64 ((rd_T85 l0_0 x17_1).f6.f1), .slice none 0 0, .slice none 0 0, .slice none 0 0]) ?_ 8 _ rfl; (with_reducible repeat (first | refine blk_drewN ?_ _ | refine blk_drew ?_ | refine blk_alloc ?_ _)); refine blk_put (cs := #[.string ((rd_T85 l0_0 x17_1).f0), .int .i64 ((rd_T85 l0_0 x17_1).f1), .int .i64 ((rd_T85 l0_0 x17_1).f2), .int .i64 ((rd_T85 l0_0 x17_1).f3), .int .i64 ((rd_T85 l0_0 x17_1).f4), .slice A262_5 ((rd_T85 l0_0 x17_1).f5).length c262_5, .int .i64 ((rd_T85 l0_0 x17_1).f6.f0), .int .i64 0, .slice none 0 0, .slice none 0 0, .slice none 0 0]) ?_ 7 _ rfl; (with_reducible repeat (first | refine blk_drewN ?_ _ | refine blk_drew ?_ | refine blk_alloc ?_ _)); refine blk_put (cs := #[.string ((rd_T85 l0_0 x17_1).f0), .int .i64 ((rd_T85 l0_0 x17_1).f1), .int .i64 ((rd_T85 l0_0 x17_1).f2), .int .i64 ((rd_T85 l0_0 x17_1).f3), .int .i64 ((rd_T85 l0_0 x17_1).f4), .slice A262_5 ((rd_T85 l0_0 x17_1).f5).length c262_5, .int .i64 0, .int .i64 0, .slice none 0 0, .slice none 0 0, .slice none 0 0]) ?_ 6 _ rfl; (with_reducible repeat (first | refine blk_drewN ?_ _ | refine blk_drew ?_ | refine blk_alloc ?_ _)); refine blk_put (cs := #[.string ((rd_T85 l0_0 x17_1).f0), .int .i64 ((rd_T85 l0_0 x17_1).f1), .int .i64 ((rd_T85 l0_0 x17_1).f2), .int .i64 ((rd_T85 l0_0 x17_1).f3), .int .i64 ((rd_T85 l0_0 x17_1).f4), .slice none 0 0, .int .i64 0, .int .i64 0, .slice none 0 0, .slice none 0 0, .slice none 0 0]) ?_ 5 _ rfl; (with_reducible repeat (first | refine blk_drewN ?_ _ | refine blk_drew ?_ | refine blk_alloc ?_ _)); refine blk_put (cs := #[.string ((rd_T85 l0_0 x17_1).f0), .int .i64 ((rd_T85 l0_0 x17_1).f1), .int .i64 ((rd_T85 l0_0 x17_1).f2), .int .i64 ((rd_T85 l0_0 x17_1).f3), .int .i64 0, .slice none 0 0, .int .i64 0, .int .i64 0, .slice none 0 0, .slice none 0 0, .slice none 0 0]) ?_ 4 _ rfl; (with_reducible repeat (first | refine blk_drewN ?_ _ | refine blk_drew ?_ | refine blk_alloc ?_ _)); refine blk_put (cs := #[.string ((rd_T85 l0_0 x17_1).f0), .int .i64 ((rd_T85 l0_0 x17_1).f1), .int .i64 ((rd_T85 l0_0 x17_1).f2), .int .i64 0, .int .i64 0, .slice none 0 0, .int .i64 0, .int .i64 0, .slice none 0 0, .slice none 0 0, .slice none 0 0]) ?_ 3 _ rfl; (with_reducible repeat (first | refine blk_drewN ?_ _ | refine blk_drew ?_ | refine blk_alloc ?_ _)); refine blk_put (cs := #[.string ((rd_T85 l0_0 x17_1).f0), .int .i64 ((rd_T85 l0_0 x17_1).f1), .int .i64 0, .int .i64 0, .int .i64 0, .slice none 0 0, .int .i64 0, .int .i64 0, .slice none 0 0, .slice none 0 0, .slice none 0 0]) ?_ 2 _ rfl; (with_reducible repeat (first | refine blk_drewN ?_ _ | refine blk_drew ?_ | refine blk_alloc ?_ _)); refine blk_put (cs := #[.string ((rd_T85 l0_0 x17_1).f0), .int .i64 0, .int .i64 0, .int .i64 0, .int .i64 0, .slice none 0 0, .int .i64 0, .int .i64 0, .slice none 0 0, .slice none 0 0, .slice none 0 0]) ?_ 1 _ rfl; (with_reducible repeat (first | refine blk_drewN ?_ _ | refine blk_drew ?_ | refine blk_alloc ?_ _)); refine blk_put (cs := #[.string (⟨#[]⟩ : ByteArray), .int .i64 0, .int .i64 0, .int .i64 0, .int .i64 0, .slice none 0 0, .int .i64 0, .int .i64 0, .slice none 0 0, .slice none 0 0, .slice none 0 0]) ?_ 0 _ rfl; (with_reducible repeat (first | refine blk_drewN ?_ _ | refine blk_drew ?_ | refine blk_alloc ?_ _)); exact BK263.out⟩
                  have n3_ : Aside0 (Below w.heap.size w (((((((((((w15.setCell ⟨gb263, 0, none⟩ (.string ((rd_T85 l0_0 x17_1).f0))).setCell ⟨gb263, 1, none⟩ (.int .i64 ((rd_T85 l0_0 x17_1).f1))).setCell ⟨gb263, 2, none⟩ (.int .i64 ((rd_T85 l0_0 x17_1).f2))).setCell ⟨gb263, 3, none⟩ (.int .i64 ((rd_T85 l0_0 x17_1).f3))).setCell ⟨gb263, 4, none⟩ (.int .i64 ((rd_T85 l0_0 x17_1).f4))).setCell ⟨gb263, 5, none⟩ (.slice A262_5 ((rd_T85 l0_0 x17_1).f5).length c262_5)).setCell ⟨gb263, 6, none⟩ (.int .i64 ((rd_T85 l0_0 x17_1).f6.f0))).setCell ⟨gb263, 7, none⟩ (.int .i64 ((rd_T85 l0_0 x17_1).f6.f1))).setCell ⟨gb263, 8, none⟩ (.slice A262_8 ((rd_T85 l0_0 x17_1).f6.f2).length c262_8)).setCell ⟨gb263, 9, none⟩ (.slice A262_9 ((rd_T85 l0_0 x17_1).f6.f3).length c262_9)).setCell ⟨gb263, 10, none⟩ (.slice A262_10 ((rd_T85 l0_0 x17_1).f7).length c262_10))) := ⟨bl_⟩
                  (try clear BK260)
                  (try clear BK261)
                  (try clear BK263)
                  (try clear HB)
                  generalize (((((((((((w15.setCell ⟨gb263, 0, none⟩ (.string ((rd_T85 l0_0 x17_1).f0))).setCell ⟨gb263, 1, none⟩ (.int .i64 ((rd_T85 l0_0 x17_1).f1))).setCell ⟨gb263, 2, none⟩ (.int .i64 ((rd_T85 l0_0 x17_1).f2))).setCell ⟨gb263, 3, none⟩ (.int .i64 ((rd_T85 l0_0 x17_1).f3))).setCell ⟨gb263, 4, none⟩ (.int .i64 ((rd_T85 l0_0 x17_1).f4))).setCell ⟨gb263, 5, none⟩ (.slice A262_5 ((rd_T85 l0_0 x17_1).f5).length c262_5)).setCell ⟨gb263, 6, none⟩ (.int .i64 ((rd_T85 l0_0 x17_1).f6.f0))).setCell ⟨gb263, 7, none⟩ (.int .i64 ((rd_T85 l0_0 x17_1).f6.f1))).setCell ⟨gb263, 8, none⟩ (.slice A262_8 ((rd_T85 l0_0 x17_1).f6.f2).length c262_8)).setCell ⟨gb263, 9, none⟩ (.slice A262_9 ((rd_T85 l0_0 x17_1).f6.f3).length c262_9)).setCell ⟨gb263, 10, none⟩ (.slice A262_10 ((rd_T85 l0_0 x17_1).f7).length c262_10)) = w19 at n0_ n1_ n2_ n3_ ⊢
                  have BK260 := n0_
                  have BK261 := n1_
                  have BK263 := n2_
                  have HB := n3_
                  clear n0_ n1_ n2_ n3_
                  have n0_ := Aside0.mk (blk_drew BK260.out)
                  have n1_ := Aside0.mk (blk_drew BK261.out)
                  have n2_ := Aside0.mk (blk_drew BK263.out)
                  have n3_ := Aside0.mk (below_drew1 HB.out)
                  clear BK260
                  clear BK261
                  clear BK263
                  clear HB
                  have BK260 := n0_
                  have BK261 := n1_
                  have BK263 := n2_
                  have HB := n3_
                  clear n0_ n1_ n2_ n3_
                  have p264 : 0 ≤ (x17_1 : Int) := od_
                  have q264 : x17_1 < (l1_0.length : Int) := od_
                  obtain ⟨ad264, A264_5, c264_5, A264_8, c264_8, A264_9, c264_9, A264_10, c264_10, e264, hx264_0, hx264_1, hx264_2, hx264_3, hx264_4, hx264_5, hx264_6, hx264_7, hx264_8, hx264_9, hx264_10, hl264_5, hi264_5, hl264_8, hi264_8, hl264_9, hi264_9, hl264_10, hi264_10⟩ := at_T85 HR1_0.out x17_1 p264 q264
                  have hw264_10 := hx264_10
                  have hw264_9 := hx264_9
                  have hw264_8 := hx264_8
                  have hw264_7 := hx264_7
                  have hw264_6 := hx264_6
                  have hw264_5 := hx264_5
                  have hw264_4 := hx264_4
                  have hw264_3 := hx264_3
                  have hw264_2 := hx264_2
                  have hw264_1 := hx264_1
                  have hw264_0 := hx264_0
                  cases e264
                  replace hx264_0 := kc_ HB hx264_0
                  replace hx264_1 := kc_ HB hx264_1
                  replace hx264_2 := kc_ HB hx264_2
                  replace hx264_3 := kc_ HB hx264_3
                  replace hx264_4 := kc_ HB hx264_4
                  replace hx264_5 := kc_ HB hx264_5
                  replace hx264_6 := kc_ HB hx264_6
                  replace hx264_7 := kc_ HB hx264_7
                  replace hx264_8 := kc_ HB hx264_8
                  replace hx264_9 := kc_ HB hx264_9
                  replace hx264_10 := kc_ HB hx264_10
                  have HR264_5 := Aside0.mk hi264_5
                  have HC264_5 := Aside0.mk hl264_5
                  clear hi264_5 hl264_5
                  have HR264_8 := Aside0.mk hi264_8
                  have HC264_8 := Aside0.mk hl264_8
                  clear hi264_8 hl264_8
                  have HR264_9 := Aside0.mk hi264_9
                  have HC264_9 := Aside0.mk hl264_9
                  clear hi264_9 hl264_9
                  have HR264_10 := Aside0.mk hi264_10
                  have HC264_10 := Aside0.mk hl264_10
                  clear hi264_10 hl264_10
                  replace p264 := eq_true p264
                  replace q264 := eq_true q264
                  refine start_ (n := 8) (S := fun w' => w'.cell? ⟨gb263, 0, none⟩ = some (.string ((rd_T85 l0_0 x17_1).f0)) ∧ w'.cell? ⟨gb263, 1, none⟩ = some (.int .i64 ((rd_T85 l0_0 x17_1).f1)) ∧ w'.cell? ⟨gb263, 2, none⟩ = some (.int .i64 ((rd_T85 l0_0 x17_1).f2)) ∧ w'.cell? ⟨gb263, 3, none⟩ = some (.int .i64 ((rd_T85 l0_0 x17_1).f3)) ∧ w'.cell? ⟨gb263, 4, none⟩ = some (.int .i64 ((rd_T85 l0_0 x17_1).f4)) ∧ w'.cell? ⟨gb263, 5, none⟩ = some (.slice A262_5 ((rd_T85 l0_0 x17_1).f5).length c262_5) ∧ w'.cell? ⟨gb263, 6, none⟩ = some (.int .i64 ((rd_T85 l0_0 x17_1).f6.f0)) ∧ w'.cell? ⟨gb263, 7, none⟩ = some (.int .i64 ((rd_T85 l0_0 x17_1).f6.f1)) ∧ w'.cell? ⟨gb263, 8, none⟩ = some (.slice A262_8 ((rd_T85 l0_0 x17_1).f6.f2).length c262_8) ∧ w'.cell? ⟨gb263, 9, none⟩ = some (.slice A262_9 ((rd_T85 l0_0 x17_1).f6.f3).length c262_9) ∧ w'.cell? ⟨gb263, 10, none⟩ = some (.slice A262_10 ((rd_T85 l0_0 x17_1).f7).length c262_10) ∧ w'.cell? ⟨gb261, 0, none⟩ = some (.slice (some ad264) l1_0.length c1_0) ∧ w'.cell? (ad264.add ((x17_1).toNat * 11)) = some (.string ((rd_T85 l1_0 x17_1).f0)) ∧ w'.cell? ⟨(ad264.add ((x17_1).toNat * 11)).block, (ad264.add ((x17_1).toNat * 11)).off + 1, none⟩ = some (.int .i64 ((rd_T85 l1_0 x17_1).f1)) ∧ w'.cell? ⟨(ad264.add ((x17_1).toNat * 11)).block, (ad264.add ((x17_1).toNat * 11)).off + 2, none⟩ = some (.int .i64 ((rd_T85 l1_0 x17_1).f2)) ∧ w'.cell? ⟨(ad264.add ((x17_1).toNat * 11)).block, (ad264.add ((x17_1).toNat * 11)).off + 3, none⟩ = some (.int .i64 ((rd_T85 l1_0 x17_1).f3)) ∧ w'.cell? ⟨(ad264.add ((x17_1).toNat * 11)).block, (ad264.add ((x17_1).toNat * 11)).off + 4, none⟩ = some (.int .i64 ((rd_T85 l1_0 x17_1).f4)) ∧ w'.cell? ⟨(ad264.add ((x17_1).toNat * 11)).block, (ad264.add ((x17_1).toNat * 11)).off + 5, none⟩ = some (.slice A264_5 ((rd_T85 l1_0 x17_1).f5).length c264_5) ∧ w'.cell? ⟨(ad264.add ((x17_1).toNat * 11)).block, (ad264.add ((x17_1).toNat * 11)).off + 6, none⟩ = some (.int .i64 ((rd_T85 l1_0 x17_1).f6.f0)) ∧ w'.cell? ⟨(ad264.add ((x17_1).toNat * 11)).block, (ad264.add ((x17_1).toNat * 11)).off + 7, none⟩ = some (.int .i64 ((rd_T85 l1_0 x17_1).f6.f1)) ∧ w'.cell? ⟨(ad264.add ((x17_1).toNat * 11)).block, (ad264.add ((x17_1).toNat * 11)).off + 8, none⟩ = some (.slice A264_8 ((rd_T85 l1_0 x17_1).f6.f2).length c264_8) ∧ w'.cell? ⟨(ad264.add ((x17_1).toNat * 11)).block, (ad264.add ((x17_1).toNat * 11)).off + 9, none⟩ = some (.slice A264_9 ((rd_T85 l1_0 x17_1).f6.f3).length c264_9) ∧ w'.cell? ⟨(ad264.add ((x17_1).toNat * 11)).block, (ad264.add ((x17_1).toNat * 11)).off + 10, none⟩ = some (.slice A264_10 ((rd_T85 l1_0 x17_1).f7).length c264_10)) (ds := []) #[false, false, false, false, false, false, false, false] (by kernel_rfl) rfl rfl ⟨(blk_cell BK263.out 0).trans rfl, (blk_cell BK263.out 1).trans rfl, (blk_cell BK263.out 2).trans rfl, (blk_cell BK263.out 3).trans rfl, (blk_cell BK263.out 4).trans rfl, (blk_cell BK263.out 5).trans rfl, (blk_cell BK263.out 6).trans rfl, (blk_cell BK263.out 7).trans rfl, (blk_cell BK263.out 8).trans rfl, (blk_cell BK263.out 9).trans rfl, (blk_cell BK263.out 10).trans rfl, (blk_cell BK261.out 0).trans rfl, (kc_ HB hw264_0), (kc_ HB hw264_1), (kc_ HB hw264_2), (kc_ HB hw264_3), (kc_ HB hw264_4), (kc_ HB hw264_5), (kc_ HB hw264_6), (kc_ HB hw264_7), (kc_ HB hw264_8), (kc_ HB hw264_9), (kc_ HB hw264_10)⟩ (fun hHeld => ?_); refine with_tabW spec_BookSame.tab6 spec_BookSame.bits6 (fun HT_ HW_ => ?_)
                  generalize w19.drew = w20 at BK260 BK261 BK263 HB HR264_10 HR264_5 HR264_8 HR264_9 hx264_0 hx264_1 hx264_10 hx264_2 hx264_3 hx264_4 hx264_5 hx264_6 hx264_7 hx264_8 hx264_9 hHeld ⊢
                  refine pure_ (i := 1) (N := some 23) (v := ?_) (a' := ?_) #[false, true, false, false, false, false, false, false] rfl rfl (any_of HT_.out (by kernel_rfl)) (fun _ _ _ h => h) (Or.inl ⟨by rfl, ?_⟩) ?_ ?_
                  rotate_left
                  · intro w'
                    go_simp
                    with_reducible rfl
                  rotate_left
                  · simp only [Act.put, List.setIfInBounds_toArray, List.set_cons_zero, List.set_cons_succ, i64_w, i32_w]
                    rfl
                  refine pure_ (i := 3) (N := some 25) (v := ?_) (a' := ?_) #[false, true, false, true, false, false, false, false] rfl rfl (any_of HT_.out (by kernel_rfl)) (fun _ _ _ h => h) (Or.inl ⟨by rfl, ?_⟩) ?_ ?_
                  rotate_left
                  · intro w'
                    go_simp
                    with_reducible rfl
                  rotate_left
                  · simp only [Act.put, List.setIfInBounds_toArray, List.set_cons_zero, List.set_cons_succ, i64_w, i32_w]
                    rfl
                  refine take_ (i := 0) (N := some 22) (v := ?_) (a' := ?_) #[true, true, false, true, false, false, false, false] rfl rfl (take_ofW HT_.out HW_.out (by kernel_rfl)) (fun _ _ _ h => h) (Or.inl ⟨by rfl, ?_⟩) hHeld ?_ ?_
                  rotate_left
                  · rintro w' ⟨s0, s1, s2, s3, s4, s5, s6, s7, s8, s9, s10, s11, s12, s13, s14, s15, s16, s17, s18, s19, s20, s21, s22⟩
                    go_simp
                    with_reducible rfl
                  rotate_left
                  · simp only [Act.put, List.setIfInBounds_toArray, List.set_cons_zero, List.set_cons_succ, i64_w, i32_w]
                    rfl
                  refine take_ (i := 2) (N := some 24) (v := ?_) (a' := ?_) #[true, true, true, true, false, false, false, false] rfl rfl (take_ofW HT_.out HW_.out (by kernel_rfl)) (fun _ _ _ h => h) (Or.inl ⟨by rfl, ?_⟩) hHeld ?_ ?_
                  rotate_left
                  · rintro w' ⟨s0, s1, s2, s3, s4, s5, s6, s7, s8, s9, s10, s11, s12, s13, s14, s15, s16, s17, s18, s19, s20, s21, s22⟩
                    go_simp
                    with_reducible rfl
                  rotate_left
                  · simp only [Act.put, List.setIfInBounds_toArray, List.set_cons_zero, List.set_cons_succ, i64_w, i32_w]
                    rfl
                  refine pure_ (i := 4) (N := some 26) (v := ?_) (a' := ?_) #[true, true, true, true, true, false, false, false] rfl rfl (any_of HT_.out (by kernel_rfl)) (fun _ _ _ h => h) (Or.inl ⟨by rfl, ?_⟩) ?_ ?_
                  rotate_left
                  · intro w'
                    go_simp
                    with_reducible rfl
                  rotate_left
                  · simp only [Act.put, List.setIfInBounds_toArray, List.set_cons_zero, List.set_cons_succ, i64_w, i32_w]
                    rfl
                  refine take_ (i := 5) (N := some 27) (v := ?_) (a' := ?_) #[true, true, true, true, true, true, false, false] rfl rfl (take_ofW HT_.out HW_.out (by kernel_rfl)) (fun _ _ _ h => h) (Or.inl ⟨by rfl, ?_⟩) hHeld ?_ ?_
                  rotate_left
                  · rintro w' ⟨s0, s1, s2, s3, s4, s5, s6, s7, s8, s9, s10, s11, s12, s13, s14, s15, s16, s17, s18, s19, s20, s21, s22⟩
                    go_simp
                    with_reducible rfl
                  rotate_left
                  · simp only [Act.put, List.setIfInBounds_toArray, List.set_cons_zero, List.set_cons_succ, i64_w, i32_w]
                    rfl
                  refine one_ (i := 6) (N := some 28) #[true, true, true, true, true, true, true, false] rfl rfl (one_of HT_.out (by kernel_rfl)) (by decide) (fun K hK => ?_)
                  refine goes_ Try.func50 (by kernel_rfl) rfl #[.agg #[.string ((rd_T85 l0_0 x17_1).f0), .int .i64 ((rd_T85 l0_0 x17_1).f1), .int .i64 ((rd_T85 l0_0 x17_1).f2), .int .i64 ((rd_T85 l0_0 x17_1).f3), .int .i64 ((rd_T85 l0_0 x17_1).f4), .slice A262_5 ((rd_T85 l0_0 x17_1).f5).length c262_5, .int .i64 ((rd_T85 l0_0 x17_1).f6.f0), .int .i64 ((rd_T85 l0_0 x17_1).f6.f1), .slice A262_8 ((rd_T85 l0_0 x17_1).f6.f2).length c262_8, .slice A262_9 ((rd_T85 l0_0 x17_1).f6.f3).length c262_9, .slice A262_10 ((rd_T85 l0_0 x17_1).f7).length c262_10], .agg #[.string ((rd_T85 l1_0 x17_1).f0), .int .i64 ((rd_T85 l1_0 x17_1).f1), .int .i64 ((rd_T85 l1_0 x17_1).f2), .int .i64 ((rd_T85 l1_0 x17_1).f3), .int .i64 ((rd_T85 l1_0 x17_1).f4), .slice A264_5 ((rd_T85 l1_0 x17_1).f5).length c264_5, .int .i64 ((rd_T85 l1_0 x17_1).f6.f0), .int .i64 ((rd_T85 l1_0 x17_1).f6.f1), .slice A264_8 ((rd_T85 l1_0 x17_1).f6.f2).length c264_8, .slice A264_9 ((rd_T85 l1_0 x17_1).f6.f3).length c264_9, .slice A264_10 ((rd_T85 l1_0 x17_1).f7).length c264_10]] (by rfl) rfl rfl gl_ ?_
                  with_reducible refine (spec_AcctSame.calls k1 ((rd_T85 l0_0 x17_1).f0) ((rd_T85 l0_0 x17_1).f1) ((rd_T85 l0_0 x17_1).f2) ((rd_T85 l0_0 x17_1).f3) ((rd_T85 l0_0 x17_1).f4) _ _ ((rd_T85 l0_0 x17_1).f5) ((rd_T85 l0_0 x17_1).f6.f0) ((rd_T85 l0_0 x17_1).f6.f1) _ _ ((rd_T85 l0_0 x17_1).f6.f2) _ _ ((rd_T85 l0_0 x17_1).f6.f3) _ _ ((rd_T85 l0_0 x17_1).f7) ((rd_T85 l1_0 x17_1).f0) ((rd_T85 l1_0 x17_1).f1) ((rd_T85 l1_0 x17_1).f2) ((rd_T85 l1_0 x17_1).f3) ((rd_T85 l1_0 x17_1).f4) _ _ ((rd_T85 l1_0 x17_1).f5) ((rd_T85 l1_0 x17_1).f6.f0) ((rd_T85 l1_0 x17_1).f6.f1) _ _ ((rd_T85 l1_0 x17_1).f6.f2) _ _ ((rd_T85 l1_0 x17_1).f6.f3) _ _ ((rd_T85 l1_0 x17_1).f7) true _ ?side1 ?side2 ?side3 ?side4 ?side5 ?side6 ?side7 ?side8 ?side9 ?side10 ?side11 ?side12 ?side13 ?side14 ?side15 ?side16 A13.out).mono ?_
                  (case side1 => exact ca_ (Kd.C_below HR262_5.out HB.out))
                  (case side2 => exact HC262_5.out)
                  (case side3 => exact ca_ (Kd.C_below HR262_8.out HB.out))
                  (case side4 => exact HC262_8.out)
                  (case side5 => exact ca_ (Kd.C_below HR262_9.out HB.out))
                  (case side6 => exact HC262_9.out)
                  (case side7 => exact ca_ (Kd.C_below HR262_10.out HB.out))
                  (case side8 => exact HC262_10.out)
                  (case side9 => exact ca_ (Kd.C_below HR264_5.out HB.out))
                  (case side10 => exact HC264_5.out)
                  (case side11 => exact ca_ (Kd.C_below HR264_8.out HB.out))
                  (case side12 => exact HC264_8.out)
                  (case side13 => exact ca_ (Kd.C_below HR264_9.out HB.out))
                  (case side14 => exact HC264_9.out)
                  (case side15 => exact ca_ (Kd.C_below HR264_10.out HB.out))
                  (case side16 => exact HC264_10.out)
                  rintro e w21 ⟨rfl, hb⟩
                  refine ⟨_, rfl, ?_⟩
                  have n0_ := Aside0.mk (blk_below (bk_ BK260) hb)
                  have n1_ := Aside0.mk (blk_below (bk_ BK261) hb)
                  have n2_ := Aside0.mk (blk_below (bk_ BK263) hb)
                  have n3_ := Aside0.mk (below_step bl_ hb)
                  clear BK260
                  clear BK261
                  clear BK263
                  clear HB
                  have BK260 := n0_
                  have BK261 := n1_
                  have BK263 := n2_
                  have HB := n3_
                  clear n0_ n1_ n2_ n3_
                  (try clear hb)
                  (try clear hb2)
                  (try clear hk)
                  (try clear hi)
                  refine hK.out _ _ ⟨(blk_cell BK263.out 0).trans rfl, (blk_cell BK263.out 1).trans rfl, (blk_cell BK263.out 2).trans rfl, (blk_cell BK263.out 3).trans rfl, (blk_cell BK263.out 4).trans rfl, (blk_cell BK263.out 5).trans rfl, (blk_cell BK263.out 6).trans rfl, (blk_cell BK263.out 7).trans rfl, (blk_cell BK263.out 8).trans rfl, (blk_cell BK263.out 9).trans rfl, (blk_cell BK263.out 10).trans rfl, (blk_cell BK261.out 0).trans rfl, (kc_ HB hw264_0), (kc_ HB hw264_1), (kc_ HB hw264_2), (kc_ HB hw264_3), (kc_ HB hw264_4), (kc_ HB hw264_5), (kc_ HB hw264_6), (kc_ HB hw264_7), (kc_ HB hw264_8), (kc_ HB hw264_9), (kc_ HB hw264_10)⟩ (fun hHeld => ?_)
                  clear hK K
                  refine norm_ (a' := ?_) ?_ ?_
                  rotate_left
                  · show Act.put _ (some 28) _ = _
                    simp only [Act.put, List.setIfInBounds_toArray, List.set_cons_zero, List.set_cons_succ, i64_w, i32_w]
                    rfl
                  refine pure_ (i := 7) (N := some 29) (v := ?_) (a' := ?_) #[true, true, true, true, true, true, true, true] rfl rfl (any_of HT_.out (by kernel_rfl)) (fun _ _ _ h => h) (Or.inl ⟨by rfl, ?_⟩) ?_ ?_
                  rotate_left
                  · intro w'
                    go_simp
                    with_reducible rfl
                  rotate_left
                  · simp only [Act.put, List.setIfInBounds_toArray, List.set_cons_zero, List.set_cons_succ, i64_w, i32_w]
                    rfl
                  refine done_ (done_of HT_.out (by kernel_rfl)) ?_
                  try go_wp2
                  go_roundg k1
                  case measure => have := HK1.out; omega
                  case rel => exact ⟨(wrap64 (x17_1 + 1)), sp_, H', ⟨by have := HK1.out; omega⟩, ⟨by (with_reducible repeat (first | refine blk_drewN ?_ _ | refine blk_drew ?_ | refine blk_alloc ?_ _)); exact BK260.out⟩, ⟨by (with_reducible repeat (first | refine blk_drewN ?_ _ | refine blk_drew ?_ | refine blk_alloc ?_ _)); exact BK261.out⟩, ⟨bl_⟩⟩
                · replace c14 := Bool.eq_false_iff.mpr c14
                  subst c14
                  have H1 : (some false) = some r := by rw [if_neg (show ¬ (false = true) by decide)] at H; exact H
                  clear H
                  have H := H1
                  clear H1
                  obtain rfl := Option.some.inj H
                  have p262 : 0 ≤ (x17_1 : Int) := od_
                  have q262 : x17_1 < (l0_0.length : Int) := od_
                  obtain ⟨ad262, A262_5, c262_5, A262_8, c262_8, A262_9, c262_9, A262_10, c262_10, e262, hx262_0, hx262_1, hx262_2, hx262_3, hx262_4, hx262_5, hx262_6, hx262_7, hx262_8, hx262_9, hx262_10, hl262_5, hi262_5, hl262_8, hi262_8, hl262_9, hi262_9, hl262_10, hi262_10⟩ := at_T85 HR0_0.out x17_1 p262 q262
                  cases e262
                  replace hx262_0 := kc_ HB hx262_0
                  replace hx262_1 := kc_ HB hx262_1
                  replace hx262_2 := kc_ HB hx262_2
                  replace hx262_3 := kc_ HB hx262_3
                  replace hx262_4 := kc_ HB hx262_4
                  replace hx262_5 := kc_ HB hx262_5
                  replace hx262_6 := kc_ HB hx262_6
                  replace hx262_7 := kc_ HB hx262_7
                  replace hx262_8 := kc_ HB hx262_8
                  replace hx262_9 := kc_ HB hx262_9
                  replace hx262_10 := kc_ HB hx262_10
                  have HR262_5 := Aside0.mk hi262_5
                  have HC262_5 := Aside0.mk hl262_5
                  clear hi262_5 hl262_5
                  have HR262_8 := Aside0.mk hi262_8
                  have HC262_8 := Aside0.mk hl262_8
                  clear hi262_8 hl262_8
                  have HR262_9 := Aside0.mk hi262_9
                  have HC262_9 := Aside0.mk hl262_9
                  clear hi262_9 hl262_9
                  have HR262_10 := Aside0.mk hi262_10
                  have HC262_10 := Aside0.mk hl262_10
                  clear hi262_10 hl262_10
                  replace p262 := eq_true p262
                  replace q262 := eq_true q262
                  try go_wp2_with (first | ((with_reducible refine gate_dst (N := 6) rfl ?_); refine box_event ?hg (N := 6) ?hd (cs := #[.string (⟨#[]⟩ : ByteArray), .int .i64 0, .int .i64 0, .int .i64 0, .int .i64 0, .slice none 0 0, .int .i64 0, .int .i64 0, .slice none 0 0, .slice none 0 0, .slice none 0 0]) (t := 85) ?hr ?_; (case hd => rfl); (case hg => rfl); (case hr => first | (go_simp; done) | (go_simp; rfl)); intro gb263 hg w22 hbox hb; have n0_ := Aside0.mk (blk_below (bk_ BK260) hb); have n1_ := Aside0.mk (blk_below (bk_ BK261) hb); have n2_ := Aside0.mk (below_step bl_ hb); have n3_ := Aside0.mk (hbox); have n4_ := Aside0.mk ((by rw [hg]; exact (below_size bl_) : w.heap.size ≤ gb263)); have n5_ := Aside0.mk ((by rw [hg]; exact (below_size bl_) : w.heap.size ≤ gb263)); have n6_ := Aside0.mk ((by rw [hg]; exact Nat.ne_of_lt (blk_lt (bk_ BK260)) : gb260 ≠ gb263)); have n7_ := Aside0.mk ((by rw [hg]; exact Nat.ne_of_gt (blk_lt (bk_ BK260)) : gb263 ≠ gb260)); have n8_ := Aside0.mk ((by rw [hg]; exact Nat.ne_of_lt (blk_lt (bk_ BK261)) : gb261 ≠ gb263)); have n9_ := Aside0.mk ((by rw [hg]; exact Nat.ne_of_gt (blk_lt (bk_ BK261)) : gb263 ≠ gb261)); clear BK260; clear BK261; clear HB; have BK260 := n0_; have BK261 := n1_; have HB := n2_; have BK263 := n3_; have GW263 := n4_; have GE263 := n5_; have NB260_263 := n6_; have NB263_260 := n7_; have NB261_263 := n8_; have NB263_261 := n9_; clear n0_ n1_ n2_ n3_ n4_ n5_ n6_ n7_ n8_ n9_; clear hb hbox hg; have hnb23 := NB263_260.out; have hnc23 := NB260_263.out; have hnb24 := NB263_261.out; have hnc24 := NB261_263.out; have hcz25_0 := cz_ BK263 0 (.string (⟨#[]⟩ : ByteArray)); have hcz25_1 := cz_ BK263 1 (.int .i64 0); have hcz25_2 := cz_ BK263 2 (.int .i64 0); have hcz25_3 := cz_ BK263 3 (.int .i64 0); have hcz25_4 := cz_ BK263 4 (.int .i64 0); have hcz25_5 := cz_ BK263 5 (.slice none 0 0); have hcz25_6 := cz_ BK263 6 (.int .i64 0); have hcz25_7 := cz_ BK263 7 (.int .i64 0); have hcz25_8 := cz_ BK263 8 (.slice none 0 0); have hcz25_9 := cz_ BK263 9 (.slice none 0 0); have hcz25_10 := cz_ BK263 10 (.slice none 0 0); have hfz25_0 := fz_ BK263 0; have hfz25_1 := fz_ BK263 1; have hfz25_2 := fz_ BK263 2; have hfz25_3 := fz_ BK263 3; have hfz25_4 := fz_ BK263 4; have hfz25_5 := fz_ BK263 5; have hfz25_6 := fz_ BK263 6; have hfz25_7 := fz_ BK263 7; have hfz25_8 := fz_ BK263 8; have hfz25_9 := fz_ BK263 9; have hfz25_10 := fz_ BK263 10))
                  have n0_ : Aside0 ((((((((((((w22.setCell ⟨gb263, 0, none⟩ (.string ((rd_T85 l0_0 x17_1).f0))).setCell ⟨gb263, 1, none⟩ (.int .i64 ((rd_T85 l0_0 x17_1).f1))).setCell ⟨gb263, 2, none⟩ (.int .i64 ((rd_T85 l0_0 x17_1).f2))).setCell ⟨gb263, 3, none⟩ (.int .i64 ((rd_T85 l0_0 x17_1).f3))).setCell ⟨gb263, 4, none⟩ (.int .i64 ((rd_T85 l0_0 x17_1).f4))).setCell ⟨gb263, 5, none⟩ (.slice A262_5 ((rd_T85 l0_0 x17_1).f5).length c262_5)).setCell ⟨gb263, 6, none⟩ (.int .i64 ((rd_T85 l0_0 x17_1).f6.f0))).setCell ⟨gb263, 7, none⟩ (.int .i64 ((rd_T85 l0_0 x17_1).f6.f1))).setCell ⟨gb263, 8, none⟩ (.slice A262_8 ((rd_T85 l0_0 x17_1).f6.f2).length c262_8)).setCell ⟨gb263, 9, none⟩ (.slice A262_9 ((rd_T85 l0_0 x17_1).f6.f3).length c262_9)).setCell ⟨gb263, 10, none⟩ (.slice A262_10 ((rd_T85 l0_0 x17_1).f7).length c262_10)).heap[gb260]? = some (.cells #[.slice (some ad262) l0_0.length c0_0] 72 (0, 0))) := ⟨by (with_reducible repeat (first | refine blk_drewN ?_ _ | refine blk_drew ?_ | refine blk_alloc ?_ _)); refine blk_far ?_ NB260_263.out _; (with_reducible repeat (first | refine blk_drewN ?_ _ | refine blk_drew ?_ | refine blk_alloc ?_ _)); refine blk_far ?_ NB260_263.out _; (with_reducible repeat (first | refine blk_drewN ?_ _ | refine blk_drew ?_ | refine blk_alloc ?_ _)); refine blk_far ?_ NB260_263.out _; (with_reducible repeat (first | refine blk_drewN ?_ _ | refine blk_drew ?_ | refine blk_alloc ?_ _)); refine blk_far ?_ NB260_263.out _; (with_reducible repeat (first | refine blk_drewN ?_ _ | refine blk_drew ?_ | refine blk_alloc ?_ _)); refine blk_far ?_ NB260_263.out _; (with_reducible repeat (first | refine blk_drewN ?_ _ | refine blk_drew ?_ | refine blk_alloc ?_ _)); refine blk_far ?_ NB260_263.out _; (with_reducible repeat (first | refine blk_drewN ?_ _ | refine blk_drew ?_ | refine blk_alloc ?_ _)); refine blk_far ?_ NB260_263.out _; (with_reducible repeat (first | refine blk_drewN ?_ _ | refine blk_drew ?_ | refine blk_alloc ?_ _)); refine blk_far ?_ NB260_263.out _; (with_reducible repeat (first | refine blk_drewN ?_ _ | refine blk_drew ?_ | refine blk_alloc ?_ _)); refine blk_far ?_ NB260_263.out _; (with_reducible repeat (first | refine blk_drewN ?_ _ | refine blk_drew ?_ | refine blk_alloc ?_ _)); refine blk_far ?_ NB260_263.out _; (with_reducible repeat (first | refine blk_drewN ?_ _ | refine blk_drew ?_ | refine blk_alloc ?_ _)); refine blk_far ?_ NB260_263.out _; (with_reducible repeat (first | refine blk_drewN ?_ _ | refine blk_drew ?_ | refine blk_alloc ?_ _)); exact BK260.out⟩
                  have n1_ : Aside0 ((((((((((((w22.setCell ⟨gb263, 0, none⟩ (.string ((rd_T85 l0_0 x17_1).f0))).setCell ⟨gb263, 1, none⟩ (.int .i64 ((rd_T85 l0_0 x17_1).f1))).setCell ⟨gb263, 2, none⟩ (.int .i64 ((rd_T85 l0_0 x17_1).f2))).setCell ⟨gb263, 3, none⟩ (.int .i64 ((rd_T85 l0_0 x17_1).f3))).setCell ⟨gb263, 4, none⟩ (.int .i64 ((rd_T85 l0_0 x17_1).f4))).setCell ⟨gb263, 5, none⟩ (.slice A262_5 ((rd_T85 l0_0 x17_1).f5).length c262_5)).setCell ⟨gb263, 6, none⟩ (.int .i64 ((rd_T85 l0_0 x17_1).f6.f0))).setCell ⟨gb263, 7, none⟩ (.int .i64 ((rd_T85 l0_0 x17_1).f6.f1))).setCell ⟨gb263, 8, none⟩ (.slice A262_8 ((rd_T85 l0_0 x17_1).f6.f2).length c262_8)).setCell ⟨gb263, 9, none⟩ (.slice A262_9 ((rd_T85 l0_0 x17_1).f6.f3).length c262_9)).setCell ⟨gb263, 10, none⟩ (.slice A262_10 ((rd_T85 l0_0 x17_1).f7).length c262_10)).heap[gb261]? = some (.cells #[.slice A1_0 l1_0.length c1_0] 72 (0, 0))) := ⟨by (with_reducible repeat (first | refine blk_drewN ?_ _ | refine blk_drew ?_ | refine blk_alloc ?_ _)); refine blk_far ?_ NB261_263.out _; (with_reducible repeat (first | refine blk_drewN ?_ _ | refine blk_drew ?_ | refine blk_alloc ?_ _)); refine blk_far ?_ NB261_263.out _; (with_reducible repeat (first | refine blk_drewN ?_ _ | refine blk_drew ?_ | refine blk_alloc ?_ _)); refine blk_far ?_ NB261_263.out _; (with_reducible repeat (first | refine blk_drewN ?_ _ | refine blk_drew ?_ | refine blk_alloc ?_ _)); refine blk_far ?_ NB261_263.out _; (with_reducible repeat (first | refine blk_drewN ?_ _ | refine blk_drew ?_ | refine blk_alloc ?_ _)); refine blk_far ?_ NB261_263.out _; (with_reducible repeat (first | refine blk_drewN ?_ _ | refine blk_drew ?_ | refine blk_alloc ?_ _)); refine blk_far ?_ NB261_263.out _; (with_reducible repeat (first | refine blk_drewN ?_ _ | refine blk_drew ?_ | refine blk_alloc ?_ _)); refine blk_far ?_ NB261_263.out _; (with_reducible repeat (first | refine blk_drewN ?_ _ | refine blk_drew ?_ | refine blk_alloc ?_ _)); refine blk_far ?_ NB261_263.out _; (with_reducible repeat (first | refine blk_drewN ?_ _ | refine blk_drew ?_ | refine blk_alloc ?_ _)); refine blk_far ?_ NB261_263.out _; (with_reducible repeat (first | refine blk_drewN ?_ _ | refine blk_drew ?_ | refine blk_alloc ?_ _)); refine blk_far ?_ NB261_263.out _; (with_reducible repeat (first | refine blk_drewN ?_ _ | refine blk_drew ?_ | refine blk_alloc ?_ _)); refine blk_far ?_ NB261_263.out _; (with_reducible repeat (first | refine blk_drewN ?_ _ | refine blk_drew ?_ | refine blk_alloc ?_ _)); exact BK261.out⟩
                  have n2_ : Aside0 ((((((((((((w22.setCell ⟨gb263, 0, none⟩ (.string ((rd_T85 l0_0 x17_1).f0))).setCell ⟨gb263, 1, none⟩ (.int .i64 ((rd_T85 l0_0 x17_1).f1))).setCell ⟨gb263, 2, none⟩ (.int .i64 ((rd_T85 l0_0 x17_1).f2))).setCell ⟨gb263, 3, none⟩ (.int .i64 ((rd_T85 l0_0 x17_1).f3))).setCell ⟨gb263, 4, none⟩ (.int .i64 ((rd_T85 l0_0 x17_1).f4))).setCell ⟨gb263, 5, none⟩ (.slice A262_5 ((rd_T85 l0_0 x17_1).f5).length c262_5)).setCell ⟨gb263, 6, none⟩ (.int .i64 ((rd_T85 l0_0 x17_1).f6.f0))).setCell ⟨gb263, 7, none⟩ (.int .i64 ((rd_T85 l0_0 x17_1).f6.f1))).setCell ⟨gb263, 8, none⟩ (.slice A262_8 ((rd_T85 l0_0 x17_1).f6.f2).length c262_8)).setCell ⟨gb263, 9, none⟩ (.slice A262_9 ((rd_T85 l0_0 x17_1).f6.f3).length c262_9)).setCell ⟨gb263, 10, none⟩ (.slice A262_10 ((rd_T85 l0_0 x17_1).f7).length c262_10)).heap[gb263]? = some (.cells #[.string ((rd_T85 l0_0 x17_1).f0), .int .i64 ((rd_T85 l0_0 x17_1).f1), .int .i64 ((rd_T85 l0_0 x17_1).f2), .int .i64 ((rd_T85 l0_0 x17_1).f3), .int .i64 ((rd_T85 l0_0 x17_1).f4), .slice A262_5 ((rd_T85 l0_0 x17_1).f5).length c262_5, .int .i64 ((rd_T85 l0_0 x17_1).f6.f0), .int .i64 ((rd_T85 l0_0 x17_1).f6.f1), .slice A262_8 ((rd_T85 l0_0 x17_1).f6.f2).length c262_8, .slice A262_9 ((rd_T85 l0_0 x17_1).f6.f3).length c262_9, .slice A262_10 ((rd_T85 l0_0 x17_1).f7).length c262_10] 85 (0, 0))) := ⟨by (with_reducible repeat (first | refine blk_drewN ?_ _ | refine blk_drew ?_ | refine blk_alloc ?_ _)); refine blk_put (cs := #[.string ((rd_T85 l0_0 x17_1).f0), .int .i64 ((rd_T85 l0_0 x17_1).f1), .int .i64 ((rd_T85 l0_0 x17_1).f2), .int .i64 ((rd_T85 l0_0 x17_1).f3), .int .i64 ((rd_T85 l0_0 x17_1).f4), .slice A262_5 ((rd_T85 l0_0 x17_1).f5).length c262_5, .int .i64 ((rd_T85 l0_0 x17_1).f6.f0), .int .i64 ((rd_T85 l0_0 x17_1).f6.f1), .slice A262_8 ((rd_T85 l0_0 x17_1).f6.f2).length c262_8, .slice A262_9 ((rd_T85 l0_0 x17_1).f6.f3).length c262_9, .slice none 0 0]) ?_ 10 _ rfl; (with_reducible repeat (first | refine blk_drewN ?_ _ | refine blk_drew ?_ | refine blk_alloc ?_ _)); refine blk_put (cs := #[.string ((rd_T85 l0_0 x17_1).f0), .int .i64 ((rd_T85 l0_0 x17_1).f1), .int .i64 ((rd_T85 l0_0 x17_1).f2), .int .i64 ((rd_T85 l0_0 x17_1).f3), .int .i64 ((rd_T85 l0_0 x17_1).f4), .slice A262_5 ((rd_T85 l0_0 x17_1).f5).length c262_5, .int .i64 ((rd_T85 l0_0 x17_1).f6.f0), .int .i64 ((rd_T85 l0_0 x17_1).f6.f1), .slice A262_8 ((rd_T85 l0_0 x17_1).f6.f2).length c262_8, .slice none 0 0, .slice none 0 0]) ?_ 9 _ rfl; (with_reducible repeat (first | refine blk_drewN ?_ _ | refine blk_drew ?_ | refine blk_alloc ?_ _)); refine blk_put (cs := #[.string ((rd_T85 l0_0 x17_1).f0), .int .i64 ((rd_T85 l0_0 x17_1).f1), .int .i64 ((rd_T85 l0_0 x17_1).f2), .int .i64 ((rd_T85 l0_0 x17_1).f3), .int .i64 ((rd_T85 l0_0 x17_1).f4), .slice A262_5 ((rd_T85 l0_0 x17_1).f5).length c262_5, .int .i64 ((rd_T85 l0_0 x17_1).f6.f0), .int .i64 ((rd_T85 l0_0 x17_1).f6.f1), .slice none 0 0, .slice none 0 0, .slice none 0 0]) ?_ 8 _ rfl; (with_reducible repeat (first | refine blk_drewN ?_ _ | refine blk_drew ?_ | refine blk_alloc ?_ _)); refine blk_put (cs := #[.string ((rd_T85 l0_0 x17_1).f0), .int .i64 ((rd_T85 l0_0 x17_1).f1), .int .i64 ((rd_T85 l0_0 x17_1).f2), .int .i64 ((rd_T85 l0_0 x17_1).f3), .int .i64 ((rd_T85 l0_0 x17_1).f4), .slice A262_5 ((rd_T85 l0_0 x17_1).f5).length c262_5, .int .i64 ((rd_T85 l0_0 x17_1).f6.f0), .int .i64 0, .slice none 0 0, .slice none 0 0, .slice none 0 0]) ?_ 7 _ rfl; (with_reducible repeat (first | refine blk_drewN ?_ _ | refine blk_drew ?_ | refine blk_alloc ?_ _)); refine blk_put (cs := #[.string ((rd_T85 l0_0 x17_1).f0), .int .i64 ((rd_T85 l0_0 x17_1).f1), .int .i64 ((rd_T85 l0_0 x17_1).f2), .int .i64 ((rd_T85 l0_0 x17_1).f3), .int .i64 ((rd_T85 l0_0 x17_1).f4), .slice A262_5 ((rd_T85 l0_0 x17_1).f5).length c262_5, .int .i64 0, .int .i64 0, .slice none 0 0, .slice none 0 0, .slice none 0 0]) ?_ 6 _ rfl; (with_reducible repeat (first | refine blk_drewN ?_ _ | refine blk_drew ?_ | refine blk_alloc ?_ _)); refine blk_put (cs := #[.string ((rd_T85 l0_0 x17_1).f0), .int .i64 ((rd_T85 l0_0 x17_1).f1), .int .i64 ((rd_T85 l0_0 x17_1).f2), .int .i64 ((rd_T85 l0_0 x17_1).f3), .int .i64 ((rd_T85 l0_0 x17_1).f4), .slice none 0 0, .int .i64 0, .int .i64 0, .slice none 0 0, .slice none 0 0, .slice none 0 0]) ?_ 5 _ rfl; (with_reducible repeat (first | refine blk_drewN ?_ _ | refine blk_drew ?_ | refine blk_alloc ?_ _)); refine blk_put (cs := #[.string ((rd_T85 l0_0 x17_1).f0), .int .i64 ((rd_T85 l0_0 x17_1).f1), .int .i64 ((rd_T85 l0_0 x17_1).f2), .int .i64 ((rd_T85 l0_0 x17_1).f3), .int .i64 0, .slice none 0 0, .int .i64 0, .int .i64 0, .slice none 0 0, .slice none 0 0, .slice none 0 0]) ?_ 4 _ rfl; (with_reducible repeat (first | refine blk_drewN ?_ _ | refine blk_drew ?_ | refine blk_alloc ?_ _)); refine blk_put (cs := #[.string ((rd_T85 l0_0 x17_1).f0), .int .i64 ((rd_T85 l0_0 x17_1).f1), .int .i64 ((rd_T85 l0_0 x17_1).f2), .int .i64 0, .int .i64 0, .slice none 0 0, .int .i64 0, .int .i64 0, .slice none 0 0, .slice none 0 0, .slice none 0 0]) ?_ 3 _ rfl; (with_reducible repeat (first | refine blk_drewN ?_ _ | refine blk_drew ?_ | refine blk_alloc ?_ _)); refine blk_put (cs := #[.string ((rd_T85 l0_0 x17_1).f0), .int .i64 ((rd_T85 l0_0 x17_1).f1), .int .i64 0, .int .i64 0, .int .i64 0, .slice none 0 0, .int .i64 0, .int .i64 0, .slice none 0 0, .slice none 0 0, .slice none 0 0]) ?_ 2 _ rfl; (with_reducible repeat (first | refine blk_drewN ?_ _ | refine blk_drew ?_ | refine blk_alloc ?_ _)); refine blk_put (cs := #[.string ((rd_T85 l0_0 x17_1).f0), .int .i64 0, .int .i64 0, .int .i64 0, .int .i64 0, .slice none 0 0, .int .i64 0, .int .i64 0, .slice none 0 0, .slice none 0 0, .slice none 0 0]) ?_ 1 _ rfl; (with_reducible repeat (first | refine blk_drewN ?_ _ | refine blk_drew ?_ | refine blk_alloc ?_ _)); refine blk_put (cs := #[.string (⟨#[]⟩ : ByteArray), .int .i64 0, .int .i64 0, .int .i64 0, .int .i64 0, .slice none 0 0, .int .i64 0, .int .i64 0, .slice none 0 0, .slice none 0 0, .slice none 0 0]) ?_ 0 _ rfl; (with_reducible repeat (first | refine blk_drewN ?_ _ | refine blk_drew ?_ | refine blk_alloc ?_ _)); exact BK263.out⟩
                  have n3_ : Aside0 (Below w.heap.size w (((((((((((w22.setCell ⟨gb263, 0, none⟩ (.string ((rd_T85 l0_0 x17_1).f0))).setCell ⟨gb263, 1, none⟩ (.int .i64 ((rd_T85 l0_0 x17_1).f1))).setCell ⟨gb263, 2, none⟩ (.int .i64 ((rd_T85 l0_0 x17_1).f2))).setCell ⟨gb263, 3, none⟩ (.int .i64 ((rd_T85 l0_0 x17_1).f3))).setCell ⟨gb263, 4, none⟩ (.int .i64 ((rd_T85 l0_0 x17_1).f4))).setCell ⟨gb263, 5, none⟩ (.slice A262_5 ((rd_T85 l0_0 x17_1).f5).length c262_5)).setCell ⟨gb263, 6, none⟩ (.int .i64 ((rd_T85 l0_0 x17_1).f6.f0))).setCell ⟨gb263, 7, none⟩ (.int .i64 ((rd_T85 l0_0 x17_1).f6.f1))).setCell ⟨gb263, 8, none⟩ (.slice A262_8 ((rd_T85 l0_0 x17_1).f6.f2).length c262_8)).setCell ⟨gb263, 9, none⟩ (.slice A262_9 ((rd_T85 l0_0 x17_1).f6.f3).length c262_9)).setCell ⟨gb263, 10, none⟩ (.slice A262_10 ((rd_T85 l0_0 x17_1).f7).length c262_10))) := ⟨bl_⟩
                  (try clear BK260)
                  (try clear BK261)
                  (try clear BK263)
                  (try clear HB)
                  generalize (((((((((((w22.setCell ⟨gb263, 0, none⟩ (.string ((rd_T85 l0_0 x17_1).f0))).setCell ⟨gb263, 1, none⟩ (.int .i64 ((rd_T85 l0_0 x17_1).f1))).setCell ⟨gb263, 2, none⟩ (.int .i64 ((rd_T85 l0_0 x17_1).f2))).setCell ⟨gb263, 3, none⟩ (.int .i64 ((rd_T85 l0_0 x17_1).f3))).setCell ⟨gb263, 4, none⟩ (.int .i64 ((rd_T85 l0_0 x17_1).f4))).setCell ⟨gb263, 5, none⟩ (.slice A262_5 ((rd_T85 l0_0 x17_1).f5).length c262_5)).setCell ⟨gb263, 6, none⟩ (.int .i64 ((rd_T85 l0_0 x17_1).f6.f0))).setCell ⟨gb263, 7, none⟩ (.int .i64 ((rd_T85 l0_0 x17_1).f6.f1))).setCell ⟨gb263, 8, none⟩ (.slice A262_8 ((rd_T85 l0_0 x17_1).f6.f2).length c262_8)).setCell ⟨gb263, 9, none⟩ (.slice A262_9 ((rd_T85 l0_0 x17_1).f6.f3).length c262_9)).setCell ⟨gb263, 10, none⟩ (.slice A262_10 ((rd_T85 l0_0 x17_1).f7).length c262_10)) = w26 at n0_ n1_ n2_ n3_ ⊢
                  have BK260 := n0_
                  have BK261 := n1_
                  have BK263 := n2_
                  have HB := n3_
                  clear n0_ n1_ n2_ n3_
                  have n0_ := Aside0.mk (blk_drew BK260.out)
                  have n1_ := Aside0.mk (blk_drew BK261.out)
                  have n2_ := Aside0.mk (blk_drew BK263.out)
                  have n3_ := Aside0.mk (below_drew1 HB.out)
                  clear BK260
                  clear BK261
                  clear BK263
                  clear HB
                  have BK260 := n0_
                  have BK261 := n1_
                  have BK263 := n2_
                  have HB := n3_
                  clear n0_ n1_ n2_ n3_
                  have p264 : 0 ≤ (x17_1 : Int) := od_
                  have q264 : x17_1 < (l1_0.length : Int) := od_
                  obtain ⟨ad264, A264_5, c264_5, A264_8, c264_8, A264_9, c264_9, A264_10, c264_10, e264, hx264_0, hx264_1, hx264_2, hx264_3, hx264_4, hx264_5, hx264_6, hx264_7, hx264_8, hx264_9, hx264_10, hl264_5, hi264_5, hl264_8, hi264_8, hl264_9, hi264_9, hl264_10, hi264_10⟩ := at_T85 HR1_0.out x17_1 p264 q264
                  have hw264_10 := hx264_10
                  have hw264_9 := hx264_9
                  have hw264_8 := hx264_8
                  have hw264_7 := hx264_7
                  have hw264_6 := hx264_6
                  have hw264_5 := hx264_5
                  have hw264_4 := hx264_4
                  have hw264_3 := hx264_3
                  have hw264_2 := hx264_2
                  have hw264_1 := hx264_1
                  have hw264_0 := hx264_0
                  cases e264
                  replace hx264_0 := kc_ HB hx264_0
                  replace hx264_1 := kc_ HB hx264_1
                  replace hx264_2 := kc_ HB hx264_2
                  replace hx264_3 := kc_ HB hx264_3
                  replace hx264_4 := kc_ HB hx264_4
                  replace hx264_5 := kc_ HB hx264_5
                  replace hx264_6 := kc_ HB hx264_6
                  replace hx264_7 := kc_ HB hx264_7
                  replace hx264_8 := kc_ HB hx264_8
                  replace hx264_9 := kc_ HB hx264_9
                  replace hx264_10 := kc_ HB hx264_10
                  have HR264_5 := Aside0.mk hi264_5
                  have HC264_5 := Aside0.mk hl264_5
                  clear hi264_5 hl264_5
                  have HR264_8 := Aside0.mk hi264_8
                  have HC264_8 := Aside0.mk hl264_8
                  clear hi264_8 hl264_8
                  have HR264_9 := Aside0.mk hi264_9
                  have HC264_9 := Aside0.mk hl264_9
                  clear hi264_9 hl264_9
                  have HR264_10 := Aside0.mk hi264_10
                  have HC264_10 := Aside0.mk hl264_10
                  clear hi264_10 hl264_10
                  replace p264 := eq_true p264
                  replace q264 := eq_true q264
                  refine start_ (n := 8) (S := fun w' => w'.cell? ⟨gb263, 0, none⟩ = some (.string ((rd_T85 l0_0 x17_1).f0)) ∧ w'.cell? ⟨gb263, 1, none⟩ = some (.int .i64 ((rd_T85 l0_0 x17_1).f1)) ∧ w'.cell? ⟨gb263, 2, none⟩ = some (.int .i64 ((rd_T85 l0_0 x17_1).f2)) ∧ w'.cell? ⟨gb263, 3, none⟩ = some (.int .i64 ((rd_T85 l0_0 x17_1).f3)) ∧ w'.cell? ⟨gb263, 4, none⟩ = some (.int .i64 ((rd_T85 l0_0 x17_1).f4)) ∧ w'.cell? ⟨gb263, 5, none⟩ = some (.slice A262_5 ((rd_T85 l0_0 x17_1).f5).length c262_5) ∧ w'.cell? ⟨gb263, 6, none⟩ = some (.int .i64 ((rd_T85 l0_0 x17_1).f6.f0)) ∧ w'.cell? ⟨gb263, 7, none⟩ = some (.int .i64 ((rd_T85 l0_0 x17_1).f6.f1)) ∧ w'.cell? ⟨gb263, 8, none⟩ = some (.slice A262_8 ((rd_T85 l0_0 x17_1).f6.f2).length c262_8) ∧ w'.cell? ⟨gb263, 9, none⟩ = some (.slice A262_9 ((rd_T85 l0_0 x17_1).f6.f3).length c262_9) ∧ w'.cell? ⟨gb263, 10, none⟩ = some (.slice A262_10 ((rd_T85 l0_0 x17_1).f7).length c262_10) ∧ w'.cell? ⟨gb261, 0, none⟩ = some (.slice (some ad264) l1_0.length c1_0) ∧ w'.cell? (ad264.add ((x17_1).toNat * 11)) = some (.string ((rd_T85 l1_0 x17_1).f0)) ∧ w'.cell? ⟨(ad264.add ((x17_1).toNat * 11)).block, (ad264.add ((x17_1).toNat * 11)).off + 1, none⟩ = some (.int .i64 ((rd_T85 l1_0 x17_1).f1)) ∧ w'.cell? ⟨(ad264.add ((x17_1).toNat * 11)).block, (ad264.add ((x17_1).toNat * 11)).off + 2, none⟩ = some (.int .i64 ((rd_T85 l1_0 x17_1).f2)) ∧ w'.cell? ⟨(ad264.add ((x17_1).toNat * 11)).block, (ad264.add ((x17_1).toNat * 11)).off + 3, none⟩ = some (.int .i64 ((rd_T85 l1_0 x17_1).f3)) ∧ w'.cell? ⟨(ad264.add ((x17_1).toNat * 11)).block, (ad264.add ((x17_1).toNat * 11)).off + 4, none⟩ = some (.int .i64 ((rd_T85 l1_0 x17_1).f4)) ∧ w'.cell? ⟨(ad264.add ((x17_1).toNat * 11)).block, (ad264.add ((x17_1).toNat * 11)).off + 5, none⟩ = some (.slice A264_5 ((rd_T85 l1_0 x17_1).f5).length c264_5) ∧ w'.cell? ⟨(ad264.add ((x17_1).toNat * 11)).block, (ad264.add ((x17_1).toNat * 11)).off + 6, none⟩ = some (.int .i64 ((rd_T85 l1_0 x17_1).f6.f0)) ∧ w'.cell? ⟨(ad264.add ((x17_1).toNat * 11)).block, (ad264.add ((x17_1).toNat * 11)).off + 7, none⟩ = some (.int .i64 ((rd_T85 l1_0 x17_1).f6.f1)) ∧ w'.cell? ⟨(ad264.add ((x17_1).toNat * 11)).block, (ad264.add ((x17_1).toNat * 11)).off + 8, none⟩ = some (.slice A264_8 ((rd_T85 l1_0 x17_1).f6.f2).length c264_8) ∧ w'.cell? ⟨(ad264.add ((x17_1).toNat * 11)).block, (ad264.add ((x17_1).toNat * 11)).off + 9, none⟩ = some (.slice A264_9 ((rd_T85 l1_0 x17_1).f6.f3).length c264_9) ∧ w'.cell? ⟨(ad264.add ((x17_1).toNat * 11)).block, (ad264.add ((x17_1).toNat * 11)).off + 10, none⟩ = some (.slice A264_10 ((rd_T85 l1_0 x17_1).f7).length c264_10)) (ds := []) #[false, false, false, false, false, false, false, false] (by kernel_rfl) rfl rfl ⟨(blk_cell BK263.out 0).trans rfl, (blk_cell BK263.out 1).trans rfl, (blk_cell BK263.out 2).trans rfl, (blk_cell BK263.out 3).trans rfl, (blk_cell BK263.out 4).trans rfl, (blk_cell BK263.out 5).trans rfl, (blk_cell BK263.out 6).trans rfl, (blk_cell BK263.out 7).trans rfl, (blk_cell BK263.out 8).trans rfl, (blk_cell BK263.out 9).trans rfl, (blk_cell BK263.out 10).trans rfl, (blk_cell BK261.out 0).trans rfl, (kc_ HB hw264_0), (kc_ HB hw264_1), (kc_ HB hw264_2), (kc_ HB hw264_3), (kc_ HB hw264_4), (kc_ HB hw264_5), (kc_ HB hw264_6), (kc_ HB hw264_7), (kc_ HB hw264_8), (kc_ HB hw264_9), (kc_ HB hw264_10)⟩ (fun hHeld => ?_); refine with_tabW spec_BookSame.tab6 spec_BookSame.bits6 (fun HT_ HW_ => ?_)
                  generalize w26.drew = w27 at BK260 BK261 BK263 HB HR264_10 HR264_5 HR264_8 HR264_9 hx264_0 hx264_1 hx264_10 hx264_2 hx264_3 hx264_4 hx264_5 hx264_6 hx264_7 hx264_8 hx264_9 hHeld ⊢
                  refine pure_ (i := 1) (N := some 23) (v := ?_) (a' := ?_) #[false, true, false, false, false, false, false, false] rfl rfl (any_of HT_.out (by kernel_rfl)) (fun _ _ _ h => h) (Or.inl ⟨by rfl, ?_⟩) ?_ ?_
                  rotate_left
                  · intro w'
                    go_simp
                    with_reducible rfl
                  rotate_left
                  · simp only [Act.put, List.setIfInBounds_toArray, List.set_cons_zero, List.set_cons_succ, i64_w, i32_w]
                    rfl
                  refine pure_ (i := 3) (N := some 25) (v := ?_) (a' := ?_) #[false, true, false, true, false, false, false, false] rfl rfl (any_of HT_.out (by kernel_rfl)) (fun _ _ _ h => h) (Or.inl ⟨by rfl, ?_⟩) ?_ ?_
                  rotate_left
                  · intro w'
                    go_simp
                    with_reducible rfl
                  rotate_left
                  · simp only [Act.put, List.setIfInBounds_toArray, List.set_cons_zero, List.set_cons_succ, i64_w, i32_w]
                    rfl
                  refine take_ (i := 0) (N := some 22) (v := ?_) (a' := ?_) #[true, true, false, true, false, false, false, false] rfl rfl (take_ofW HT_.out HW_.out (by kernel_rfl)) (fun _ _ _ h => h) (Or.inl ⟨by rfl, ?_⟩) hHeld ?_ ?_
                  rotate_left
                  · rintro w' ⟨s0, s1, s2, s3, s4, s5, s6, s7, s8, s9, s10, s11, s12, s13, s14, s15, s16, s17, s18, s19, s20, s21, s22⟩
                    go_simp
                    with_reducible rfl
                  rotate_left
                  · simp only [Act.put, List.setIfInBounds_toArray, List.set_cons_zero, List.set_cons_succ, i64_w, i32_w]
                    rfl
                  refine take_ (i := 2) (N := some 24) (v := ?_) (a' := ?_) #[true, true, true, true, false, false, false, false] rfl rfl (take_ofW HT_.out HW_.out (by kernel_rfl)) (fun _ _ _ h => h) (Or.inl ⟨by rfl, ?_⟩) hHeld ?_ ?_
                  rotate_left
                  · rintro w' ⟨s0, s1, s2, s3, s4, s5, s6, s7, s8, s9, s10, s11, s12, s13, s14, s15, s16, s17, s18, s19, s20, s21, s22⟩
                    go_simp
                    with_reducible rfl
                  rotate_left
                  · simp only [Act.put, List.setIfInBounds_toArray, List.set_cons_zero, List.set_cons_succ, i64_w, i32_w]
                    rfl
                  refine pure_ (i := 4) (N := some 26) (v := ?_) (a' := ?_) #[true, true, true, true, true, false, false, false] rfl rfl (any_of HT_.out (by kernel_rfl)) (fun _ _ _ h => h) (Or.inl ⟨by rfl, ?_⟩) ?_ ?_
                  rotate_left
                  · intro w'
                    go_simp
                    with_reducible rfl
                  rotate_left
                  · simp only [Act.put, List.setIfInBounds_toArray, List.set_cons_zero, List.set_cons_succ, i64_w, i32_w]
                    rfl
                  refine take_ (i := 5) (N := some 27) (v := ?_) (a' := ?_) #[true, true, true, true, true, true, false, false] rfl rfl (take_ofW HT_.out HW_.out (by kernel_rfl)) (fun _ _ _ h => h) (Or.inl ⟨by rfl, ?_⟩) hHeld ?_ ?_
                  rotate_left
                  · rintro w' ⟨s0, s1, s2, s3, s4, s5, s6, s7, s8, s9, s10, s11, s12, s13, s14, s15, s16, s17, s18, s19, s20, s21, s22⟩
                    go_simp
                    with_reducible rfl
                  rotate_left
                  · simp only [Act.put, List.setIfInBounds_toArray, List.set_cons_zero, List.set_cons_succ, i64_w, i32_w]
                    rfl
                  refine one_ (i := 6) (N := some 28) #[true, true, true, true, true, true, true, false] rfl rfl (one_of HT_.out (by kernel_rfl)) (by decide) (fun K hK => ?_)
                  refine goes_ Try.func50 (by kernel_rfl) rfl #[.agg #[.string ((rd_T85 l0_0 x17_1).f0), .int .i64 ((rd_T85 l0_0 x17_1).f1), .int .i64 ((rd_T85 l0_0 x17_1).f2), .int .i64 ((rd_T85 l0_0 x17_1).f3), .int .i64 ((rd_T85 l0_0 x17_1).f4), .slice A262_5 ((rd_T85 l0_0 x17_1).f5).length c262_5, .int .i64 ((rd_T85 l0_0 x17_1).f6.f0), .int .i64 ((rd_T85 l0_0 x17_1).f6.f1), .slice A262_8 ((rd_T85 l0_0 x17_1).f6.f2).length c262_8, .slice A262_9 ((rd_T85 l0_0 x17_1).f6.f3).length c262_9, .slice A262_10 ((rd_T85 l0_0 x17_1).f7).length c262_10], .agg #[.string ((rd_T85 l1_0 x17_1).f0), .int .i64 ((rd_T85 l1_0 x17_1).f1), .int .i64 ((rd_T85 l1_0 x17_1).f2), .int .i64 ((rd_T85 l1_0 x17_1).f3), .int .i64 ((rd_T85 l1_0 x17_1).f4), .slice A264_5 ((rd_T85 l1_0 x17_1).f5).length c264_5, .int .i64 ((rd_T85 l1_0 x17_1).f6.f0), .int .i64 ((rd_T85 l1_0 x17_1).f6.f1), .slice A264_8 ((rd_T85 l1_0 x17_1).f6.f2).length c264_8, .slice A264_9 ((rd_T85 l1_0 x17_1).f6.f3).length c264_9, .slice A264_10 ((rd_T85 l1_0 x17_1).f7).length c264_10]] (by rfl) rfl rfl gl_ ?_
                  with_reducible refine (spec_AcctSame.calls k1 ((rd_T85 l0_0 x17_1).f0) ((rd_T85 l0_0 x17_1).f1) ((rd_T85 l0_0 x17_1).f2) ((rd_T85 l0_0 x17_1).f3) ((rd_T85 l0_0 x17_1).f4) _ _ ((rd_T85 l0_0 x17_1).f5) ((rd_T85 l0_0 x17_1).f6.f0) ((rd_T85 l0_0 x17_1).f6.f1) _ _ ((rd_T85 l0_0 x17_1).f6.f2) _ _ ((rd_T85 l0_0 x17_1).f6.f3) _ _ ((rd_T85 l0_0 x17_1).f7) ((rd_T85 l1_0 x17_1).f0) ((rd_T85 l1_0 x17_1).f1) ((rd_T85 l1_0 x17_1).f2) ((rd_T85 l1_0 x17_1).f3) ((rd_T85 l1_0 x17_1).f4) _ _ ((rd_T85 l1_0 x17_1).f5) ((rd_T85 l1_0 x17_1).f6.f0) ((rd_T85 l1_0 x17_1).f6.f1) _ _ ((rd_T85 l1_0 x17_1).f6.f2) _ _ ((rd_T85 l1_0 x17_1).f6.f3) _ _ ((rd_T85 l1_0 x17_1).f7) false _ ?side1 ?side2 ?side3 ?side4 ?side5 ?side6 ?side7 ?side8 ?side9 ?side10 ?side11 ?side12 ?side13 ?side14 ?side15 ?side16 A13.out).mono ?_
                  (case side1 => exact ca_ (Kd.C_below HR262_5.out HB.out))
                  (case side2 => exact HC262_5.out)
                  (case side3 => exact ca_ (Kd.C_below HR262_8.out HB.out))
                  (case side4 => exact HC262_8.out)
                  (case side5 => exact ca_ (Kd.C_below HR262_9.out HB.out))
                  (case side6 => exact HC262_9.out)
                  (case side7 => exact ca_ (Kd.C_below HR262_10.out HB.out))
                  (case side8 => exact HC262_10.out)
                  (case side9 => exact ca_ (Kd.C_below HR264_5.out HB.out))
                  (case side10 => exact HC264_5.out)
                  (case side11 => exact ca_ (Kd.C_below HR264_8.out HB.out))
                  (case side12 => exact HC264_8.out)
                  (case side13 => exact ca_ (Kd.C_below HR264_9.out HB.out))
                  (case side14 => exact HC264_9.out)
                  (case side15 => exact ca_ (Kd.C_below HR264_10.out HB.out))
                  (case side16 => exact HC264_10.out)
                  rintro e w28 ⟨rfl, hb⟩
                  refine ⟨_, rfl, ?_⟩
                  have n0_ := Aside0.mk (blk_below (bk_ BK260) hb)
                  have n1_ := Aside0.mk (blk_below (bk_ BK261) hb)
                  have n2_ := Aside0.mk (blk_below (bk_ BK263) hb)
                  have n3_ := Aside0.mk (below_step bl_ hb)
                  clear BK260
                  clear BK261
                  clear BK263
                  clear HB
                  have BK260 := n0_
                  have BK261 := n1_
                  have BK263 := n2_
                  have HB := n3_
                  clear n0_ n1_ n2_ n3_
                  (try clear hb)
                  (try clear hb2)
                  (try clear hk)
                  (try clear hi)
                  refine hK.out _ _ ⟨(blk_cell BK263.out 0).trans rfl, (blk_cell BK263.out 1).trans rfl, (blk_cell BK263.out 2).trans rfl, (blk_cell BK263.out 3).trans rfl, (blk_cell BK263.out 4).trans rfl, (blk_cell BK263.out 5).trans rfl, (blk_cell BK263.out 6).trans rfl, (blk_cell BK263.out 7).trans rfl, (blk_cell BK263.out 8).trans rfl, (blk_cell BK263.out 9).trans rfl, (blk_cell BK263.out 10).trans rfl, (blk_cell BK261.out 0).trans rfl, (kc_ HB hw264_0), (kc_ HB hw264_1), (kc_ HB hw264_2), (kc_ HB hw264_3), (kc_ HB hw264_4), (kc_ HB hw264_5), (kc_ HB hw264_6), (kc_ HB hw264_7), (kc_ HB hw264_8), (kc_ HB hw264_9), (kc_ HB hw264_10)⟩ (fun hHeld => ?_)
                  clear hK K
                  refine norm_ (a' := ?_) ?_ ?_
                  rotate_left
                  · show Act.put _ (some 28) _ = _
                    simp only [Act.put, List.setIfInBounds_toArray, List.set_cons_zero, List.set_cons_succ, i64_w, i32_w]
                    rfl
                  refine pure_ (i := 7) (N := some 29) (v := ?_) (a' := ?_) #[true, true, true, true, true, true, true, true] rfl rfl (any_of HT_.out (by kernel_rfl)) (fun _ _ _ h => h) (Or.inl ⟨by rfl, ?_⟩) ?_ ?_
                  rotate_left
                  · intro w'
                    go_simp
                    with_reducible rfl
                  rotate_left
                  · simp only [Act.put, List.setIfInBounds_toArray, List.set_cons_zero, List.set_cons_succ, i64_w, i32_w]
                    rfl
                  refine done_ (done_of HT_.out (by kernel_rfl)) ?_
                  try go_wp2
                  go_ret
                  exact ⟨by first | rfl | (simp [errW_none, errW_some] <;> rfl) | (simp [*, errW_none, errW_some] <;> rfl), bl_⟩
              · rw [if_neg c12] at H
                exact absurd H (by simp)
            · rw [if_neg c11] at H
              exact absurd H (by simp)
          · rw [if_neg c10] at H
            exact absurd H (by simp)
        · rw [if_neg c9] at H
          have c9b0 : decide (x17_1 < (l0_0.length : Int)) = false := decide_eq_false c9
          clear c9
          obtain rfl := Option.some.inj H
          go_wp2
          go_ret
          exact ⟨by first | rfl | (simp [errW_none, errW_some] <;> rfl) | (simp [*, errW_none, errW_some] <;> rfl), bl_⟩
  · rw [if_neg c3] at H
    have c3b0 : ((l0_0.length : Int) == (l1_0.length : Int)) = false := beq_eq_false_iff_ne.mpr c3
    have c3b1 : ((l0_0.length : Int) != (l1_0.length : Int)) = true := bne_iff_ne.mpr c3
    have c3b2 : (l0_0.length == l1_0.length) = false := by first | simpa using c3 | (simp at c3 ⊢; omega)
    obtain rfl := Option.some.inj H
    go_enter Try.func60, Try.ntmps60
    go_wp2_with (first | ((with_reducible refine gate_dst (N := 2) rfl ?_); refine box_event ?hg (N := 2) ?hd (cs := #[.slice A0_0 l0_0.length c0_0]) (t := 72) ?hr ?_; (case hd => rfl); (case hg => rfl); (case hr => first | (go_simp; done) | (go_simp; rfl)); intro gb260 hg w29 hbox hb; have n0_ := Aside0.mk (below_step bl_ hb); have n1_ := Aside0.mk (hbox); have n2_ := Aside0.mk ((by rw [hg]; exact (below_size bl_) : w.heap.size ≤ gb260)); have n3_ := Aside0.mk ((by rw [hg]; exact (below_size bl_) : w.heap.size ≤ gb260)); clear HB; have HB := n0_; have BK260 := n1_; have GW260 := n2_; have GE260 := n3_; clear n0_ n1_ n2_ n3_; clear hb hbox hg) | ((with_reducible refine gate_dst (N := 3) rfl ?_); refine box_event ?hg (N := 3) ?hd (cs := #[.slice A1_0 l1_0.length c1_0]) (t := 72) ?hr ?_; (case hd => rfl); (case hg => rfl); (case hr => first | (go_simp; done) | (go_simp; rfl)); intro gb261 hg w30 hbox hb; have n0_ := Aside0.mk (blk_below (bk_ BK260) hb); have n1_ := Aside0.mk (below_step bl_ hb); have n2_ := Aside0.mk (hbox); have n3_ := Aside0.mk ((by rw [hg]; exact (below_size bl_) : w.heap.size ≤ gb261)); have n4_ := Aside0.mk ((by rw [hg]; exact (below_size bl_) : w.heap.size ≤ gb261)); have n5_ := Aside0.mk ((by rw [hg]; exact Nat.ne_of_lt (blk_lt (bk_ BK260)) : gb260 ≠ gb261)); have n6_ := Aside0.mk ((by rw [hg]; exact Nat.ne_of_gt (blk_lt (bk_ BK260)) : gb261 ≠ gb260)); clear BK260; clear HB; have BK260 := n0_; have HB := n1_; have BK261 := n2_; have GW261 := n3_; have GE261 := n4_; have NB260_261 := n5_; have NB261_260 := n6_; clear n0_ n1_ n2_ n3_ n4_ n5_ n6_; clear hb hbox hg; have hnb31 := NB260_261.out; have hnc31 := NB261_260.out; have hcz32_0 := cz_ BK260 0 (.slice A0_0 l0_0.length c0_0); have hfz32_0 := fz_ BK260 0; have hcz33_0 := cz_ BK261 0 (.slice A1_0 l1_0.length c1_0); have hfz33_0 := fz_ BK261 0))
    go_ret
    exact ⟨by first | rfl | (simp [errW_none, errW_some] <;> rfl) | (simp [*, errW_none, errW_some] <;> rfl), bl_⟩

/-! ### impl_Hold: function 114 -/
def impl_Hold.l0 : Nat → List (S60) → List (S60) → Int → Int → Option (Bool)
  | 0, _, _, _, _ => none
  | k + 1, x0, x1, x12, x13 => if x13 < x12 then (if 0 ≤ x13 then (if x13 < (x0.length : Int) then (if x13 < (x1.length : Int) then (if (!((((rd_T60 x0 x13).f0).toList) == (((rd_T60 x1 x13).f0).toList)) || (!(((rd_T60 x0 x13).f1) == ((rd_T60 x1 x13).f1)) || (!(((rd_T60 x0 x13).f2) == ((rd_T60 x1 x13).f2))))) = true then (some false) else (impl_Hold.l0 k x0 x1 x12 (wrap64 (x13 + 1)))) else (none)) else (none)) else (none)) else (some true)
def impl_Hold.f (k : Nat) (l0 : List (S60)) (l1 : List (S60)) : Option (Bool) := if (l0.length : Int) = (l1.length : Int) then (impl_Hold.l0 k l0 l1 (l0.length : Int) 0) else (some false)
theorem impl_Hold.mono_l : ∀ k, (∀ y0 y1 y2 y3, LeO (impl_Hold.l0 k y0 y1 y2 y3) (impl_Hold.l0 (k + 1) y0 y1 y2 y3))
  | 0 => fun _ _ _ _ r h => by simp [impl_Hold.l0] at h
  | k + 1 => by
    have ih0 := impl_Hold.mono_l k
    · intro y0 y1 y2 y3
      unfold impl_Hold.l0
      repeat' first
      | (with_reducible exact ih0 _ _ _ _)
      | (with_reducible exact LeO.refl _)
      | (with_reducible exact LeO.none _)
      | (with_reducible refine LeO.ite ?_ ?_)
      | (with_reducible refine LeO.bind ?_ (fun _ => ?_))
      | exact ih0 _ _ _ _
      | exact LeO.none _
      | refine LeO.ite ?_ ?_
      | refine LeO.bind ?_ (fun _ => ?_)
theorem impl_Hold.mono : ∀ a0 a1 k, LeO (impl_Hold.f k a0 a1) (impl_Hold.f (k + 1) a0 a1) := by
  intro a0 a1 k
  have ih0 := impl_Hold.mono_l k
  unfold impl_Hold.f
  repeat' first
      | (with_reducible exact ih0 _ _ _ _)
      | (with_reducible exact LeO.refl _)
      | (with_reducible exact LeO.none _)
      | (with_reducible refine LeO.ite ?_ ?_)
      | (with_reducible refine LeO.bind ?_ (fun _ => ?_))
      | exact ih0 _ _ _ _
      | exact LeO.none _
      | refine LeO.ite ?_ ?_
      | refine LeO.bind ?_ (fun _ => ?_)
set_option maxHeartbeats 8000000 in
set_option maxRecDepth 100000 in
theorem impl_Hold.calls (k : Nat) (A0 : Option Addr) (c0 : Nat) (l0 : List (S60)) (A1 : Option Addr) (c1 : Nat) (l1 : List (S60)) (r : Bool) (w : World) (hr0 : Kd.C k60 w A0 l0.length l0) (hc0 : l0.length ≤ c0) (hr1 : Kd.C k60 w A1 l1.length l1) (hc1 : l1.length ≤ c1) (h : impl_Hold.f k l0 l1 = some r) :
    Calls Try.prog 114 #[.slice A0 l0.length c0, .slice A1 l1.length c1] w fun e w' => e = .returned (.bool r) ∧ Drawn0 w w' := by
  have hu60 := Try.underlying60
  have HR0 := Aside0.mk hr0
  have HC0 := Aside0.mk hc0
  clear hr0 hc0
  have HR1 := Aside0.mk hr1
  have HC1 := Aside0.mk hc1
  clear hr1 hc1
  have H : (if (l0.length : Int) = (l1.length : Int) then (impl_Hold.l0 k l0 l1 (l0.length : Int) 0) else (some false)) = some r := h
  clear h
  by_cases c3 : (l0.length : Int) = (l1.length : Int)
  · rw [if_pos c3] at H
    have c3b0 : ((l0.length : Int) == (l1.length : Int)) = true := beq_iff_eq.mpr c3
    have c3b1 : ((l0.length : Int) != (l1.length : Int)) = false := bne_eq_false_iff_eq.mpr c3
    have c3b2 : (l0.length == l1.length) = true := by first | simpa using c3 | (simp at c3 ⊢; omega)
    clear c3
    have H' := Aside0.mk H
    clear H
    go_enter Try.func114, Try.ntmps114
    go_wp2
    repeat (go_quiet (fail); try go_wp2)
    go_loopg [13] k (fun kq v13 w' => ∃ (x13_1 : Int), v13 = .int .i64 x13_1 ∧ Aside0 (impl_Hold.l0 kq l0 l1 (l0.length : Int) x13_1 = some r) ∧ Aside0 (kq ≤ k) ∧ Drawn0 w w')
    case atStart => exact ⟨(0), sp_, H', ⟨Nat.le_refl _⟩, by repeat (first | exact Drawn0.refl _ | apply Drawn0.step)⟩
    case round =>
      clear H'
      try clear c1
      try clear p2
      try clear c3
      try clear c3b0
      try clear c3b1
      try clear c3b2
      obtain ⟨x13_1, rfl, HA, HK1, ⟨m1, rfl⟩⟩ := hrel
      cases gk with
      | zero => exact absurd HA.out (by simp [impl_Hold.l0])
      | succ k1 =>
        have H := HA.out
        clear HA
        simp only [impl_Hold.l0] at H
        by_cases c4 : x13_1 < (l0.length : Int)
        · rw [if_pos c4] at H
          have c4b0 : decide (x13_1 < (l0.length : Int)) = true := decide_eq_true c4
          clear c4
          by_cases c5 : 0 ≤ x13_1
          · rw [if_pos c5] at H
            have c5b0 : decide (0 ≤ x13_1) = true := decide_eq_true c5
            clear c5
            by_cases c6 : x13_1 < (l0.length : Int)
            · rw [if_pos c6] at H
              have c6b0 : decide (x13_1 < (l0.length : Int)) = true := decide_eq_true c6
              clear c6
              by_cases c7 : x13_1 < (l1.length : Int)
              · rw [if_pos c7] at H
                have c7b0 : decide (x13_1 < (l1.length : Int)) = true := decide_eq_true c7
                clear c7
                by_cases c8 : (!((((rd_T60 l0 x13_1).f0).toList) == (((rd_T60 l1 x13_1).f0).toList)) || (!(((rd_T60 l0 x13_1).f1) == ((rd_T60 l1 x13_1).f1)) || (!(((rd_T60 l0 x13_1).f2) == ((rd_T60 l1 x13_1).f2))))) = true
                · rw [if_pos c8] at H
                  have c8b0 : (!((((rd_T60 l0 x13_1).f0).toList) == (((rd_T60 l1 x13_1).f0).toList)) || (!(((rd_T60 l0 x13_1).f1) == ((rd_T60 l1 x13_1).f1)) || (!(((rd_T60 l0 x13_1).f2) == ((rd_T60 l1 x13_1).f2))))) = true := c8
                  clear c8
                  obtain rfl := Option.some.inj H
                  have p266 : 0 ≤ (x13_1 : Int) := od_
                  have q266 : x13_1 < (l0.length : Int) := od_
                  obtain ⟨ad266, e266, hx266_0, hx266_1, hx266_2⟩ := at_T60 HR0.out x13_1 p266 q266
                  cases e266
                  replace p266 := eq_true p266
                  replace q266 := eq_true q266
                  have p267 : 0 ≤ (x13_1 : Int) := od_
                  have q267 : x13_1 < (l1.length : Int) := od_
                  obtain ⟨ad267, e267, hx267_0, hx267_1, hx267_2⟩ := at_T60 HR1.out x13_1 p267 q267
                  cases e267
                  replace p267 := eq_true p267
                  replace q267 := eq_true q267
                  go_wp2
                  repeat (go_quiet (fail); try go_wp2)
                  go_ret
                  exact ⟨by first | rfl | (simp; done) | (simp [*]; done) | (simp [my_isEmpty, my_w256, Go.Proofs.YtcojjdfbdgpajaaW.PrintLast.i64_w, Go.Proofs.YtcojjdfbdgpajaaW.PrintLast.i32_w, Go.IntKind.wrap_u8, Go.IntKind.wrap_u32]; done), by repeat (first | exact Drawn0.refl _ | apply Drawn0.step)⟩
                · rw [if_neg c8] at H
                  have c8b0 : (!((((rd_T60 l0 x13_1).f0).toList) == (((rd_T60 l1 x13_1).f0).toList)) || (!(((rd_T60 l0 x13_1).f1) == ((rd_T60 l1 x13_1).f1)) || (!(((rd_T60 l0 x13_1).f2) == ((rd_T60 l1 x13_1).f2))))) = false := by simpa using c8
                  clear c8
                  have H' := Aside0.mk H
                  clear H
                  have p266 : 0 ≤ (x13_1 : Int) := od_
                  have q266 : x13_1 < (l0.length : Int) := od_
                  obtain ⟨ad266, e266, hx266_0, hx266_1, hx266_2⟩ := at_T60 HR0.out x13_1 p266 q266
                  cases e266
                  replace p266 := eq_true p266
                  replace q266 := eq_true q266
                  have p267 : 0 ≤ (x13_1 : Int) := od_
                  have q267 : x13_1 < (l1.length : Int) := od_
                  obtain ⟨ad267, e267, hx267_0, hx267_1, hx267_2⟩ := at_T60 HR1.out x13_1 p267 q267
                  cases e267
                  replace p267 := eq_true p267
                  replace q267 := eq_true q267
                  go_wp2
                  repeat (go_quiet (fail); try go_wp2)
                  go_roundg k1
                  case measure => have := HK1.out; omega
                  case rel => exact ⟨(wrap64 (x13_1 + 1)), sp_, H', ⟨by have := HK1.out; omega⟩, by repeat (first | exact Drawn0.refl _ | apply Drawn0.step)⟩
              · rw [if_neg c7] at H
                exact absurd H (by simp)
            · rw [if_neg c6] at H
              exact absurd H (by simp)
          · rw [if_neg c5] at H
            exact absurd H (by simp)
        · rw [if_neg c4] at H
          have c4b0 : decide (x13_1 < (l0.length : Int)) = false := decide_eq_false c4
          clear c4
          obtain rfl := Option.some.inj H
          go_wp2
          repeat (go_quiet (fail); try go_wp2)
          go_ret
          exact ⟨by first | rfl | (simp; done) | (simp [*]; done) | (simp [my_isEmpty, my_w256, Go.Proofs.YtcojjdfbdgpajaaW.PrintLast.i64_w, Go.Proofs.YtcojjdfbdgpajaaW.PrintLast.i32_w, Go.IntKind.wrap_u8, Go.IntKind.wrap_u32]; done), by repeat (first | exact Drawn0.refl _ | apply Drawn0.step)⟩
  · rw [if_neg c3] at H
    have c3b0 : ((l0.length : Int) == (l1.length : Int)) = false := beq_eq_false_iff_ne.mpr c3
    have c3b1 : ((l0.length : Int) != (l1.length : Int)) = true := bne_iff_ne.mpr c3
    have c3b2 : (l0.length == l1.length) = false := by first | simpa using c3 | (simp at c3 ⊢; omega)
    obtain rfl := Option.some.inj H
    go_enter Try.func114, Try.ntmps114
    go_wp2
    repeat (go_quiet (fail); try go_wp2)
    go_ret
    exact ⟨by first | rfl | (simp; done) | (simp [*]; done) | (simp [my_isEmpty, my_w256, Go.Proofs.YtcojjdfbdgpajaaW.PrintLast.i64_w, Go.Proofs.YtcojjdfbdgpajaaW.PrintLast.i32_w, Go.IntKind.wrap_u8, Go.IntKind.wrap_u32]; done), by repeat (first | exact Drawn0.refl _ | apply Drawn0.step)⟩

/-! ### slices_Equal_int_int: function 154 -/
def slices_Equal_int_int.l0 : Nat → List Int → List Int → Int → Int → Option (Bool)
  | 0, _, _, _, _ => none
  | k + 1, x0, x1, x12, x13 => if x13 < x12 then (if 0 ≤ x13 then (if x13 < (x0.length : Int) then (if x13 < (x1.length : Int) then (if (rd x0 x13) = (rd x1 x13) then (slices_Equal_int_int.l0 k x0 x1 x12 (wrap64 (x13 + 1))) else (some false)) else (none)) else (none)) else (none)) else (some true)
def slices_Equal_int_int.f (k : Nat) (l0 : List Int) (l1 : List Int) : Option (Bool) := if (l0.length : Int) = (l1.length : Int) then (slices_Equal_int_int.l0 k l0 l1 (l0.length : Int) 0) else (some false)
theorem slices_Equal_int_int.mono_l : ∀ k, (∀ y0 y1 y2 y3, LeO (slices_Equal_int_int.l0 k y0 y1 y2 y3) (slices_Equal_int_int.l0 (k + 1) y0 y1 y2 y3))
  | 0 => fun _ _ _ _ r h => by simp [slices_Equal_int_int.l0] at h
  | k + 1 => by
    have ih0 := slices_Equal_int_int.mono_l k
    · intro y0 y1 y2 y3
      unfold slices_Equal_int_int.l0
      repeat' first
      | (with_reducible exact ih0 _ _ _ _)
      | (with_reducible exact LeO.refl _)
      | (with_reducible exact LeO.none _)
      | (with_reducible refine LeO.ite ?_ ?_)
      | (with_reducible refine LeO.bind ?_ (fun _ => ?_))
      | exact ih0 _ _ _ _
      | exact LeO.none _
      | refine LeO.ite ?_ ?_
      | refine LeO.bind ?_ (fun _ => ?_)
theorem slices_Equal_int_int.mono : ∀ a0 a1 k, LeO (slices_Equal_int_int.f k a0 a1) (slices_Equal_int_int.f (k + 1) a0 a1) := by
  intro a0 a1 k
  have ih0 := slices_Equal_int_int.mono_l k
  unfold slices_Equal_int_int.f
  repeat' first
      | (with_reducible exact ih0 _ _ _ _)
      | (with_reducible exact LeO.refl _)
      | (with_reducible exact LeO.none _)
      | (with_reducible refine LeO.ite ?_ ?_)
      | (with_reducible refine LeO.bind ?_ (fun _ => ?_))
      | exact ih0 _ _ _ _
      | exact LeO.none _
      | refine LeO.ite ?_ ?_
      | refine LeO.bind ?_ (fun _ => ?_)
set_option maxHeartbeats 8000000 in
set_option maxRecDepth 100000 in
theorem slices_Equal_int_int.calls (k : Nat) (A0 : Option Addr) (c0 : Nat) (l0 : List Int) (A1 : Option Addr) (c1 : Nat) (l1 : List Int) (r : Bool) (w : World) (hr0 : Kd.C (Kd.int .i64) w A0 l0.length l0) (hc0 : l0.length ≤ c0) (hr1 : Kd.C (Kd.int .i64) w A1 l1.length l1) (hc1 : l1.length ≤ c1) (h : slices_Equal_int_int.f k l0 l1 = some r) :
    Calls Try.prog 154 #[.slice A0 l0.length c0, .slice A1 l1.length c1] w fun e w' => e = .returned (.bool r) ∧ Drawn0 w w' := by
  have HR0 := Aside0.mk hr0
  have HC0 := Aside0.mk hc0
  clear hr0 hc0
  have HR1 := Aside0.mk hr1
  have HC1 := Aside0.mk hc1
  clear hr1 hc1
  have H : (if (l0.length : Int) = (l1.length : Int) then (slices_Equal_int_int.l0 k l0 l1 (l0.length : Int) 0) else (some false)) = some r := h
  clear h
  by_cases c3 : (l0.length : Int) = (l1.length : Int)
  · rw [if_pos c3] at H
    have c3b0 : ((l0.length : Int) == (l1.length : Int)) = true := beq_iff_eq.mpr c3
    have c3b1 : ((l0.length : Int) != (l1.length : Int)) = false := bne_eq_false_iff_eq.mpr c3
    have c3b2 : (l0.length == l1.length) = true := by first | simpa using c3 | (simp at c3 ⊢; omega)
    clear c3
    have H' := Aside0.mk H
    clear H
    go_enter Try.func154, Try.ntmps154
    go_wp2
    repeat (go_quiet (fail); try go_wp2)
    go_loopg [13] k (fun kq v13 w' => ∃ (x13_1 : Int), v13 = .int .i64 x13_1 ∧ Aside0 (slices_Equal_int_int.l0 kq l0 l1 (l0.length : Int) x13_1 = some r) ∧ Aside0 (kq ≤ k) ∧ Drawn0 w w')
    case atStart => exact ⟨(0), sp_, H', ⟨Nat.le_refl _⟩, by repeat (first | exact Drawn0.refl _ | apply Drawn0.step)⟩
    case round =>
      clear H'
      try clear c1
      try clear p2
      try clear c3
      try clear c3b0
      try clear c3b1
      try clear c3b2
      obtain ⟨x13_1, rfl, HA, HK1, ⟨m1, rfl⟩⟩ := hrel
      cases gk with
      | zero => exact absurd HA.out (by simp [slices_Equal_int_int.l0])
      | succ k1 =>
        have H := HA.out
        clear HA
        simp only [slices_Equal_int_int.l0] at H
        by_cases c4 : x13_1 < (l0.length : Int)
        · rw [if_pos c4] at H
          have c4b0 : decide (x13_1 < (l0.length : Int)) = true := decide_eq_true c4
          clear c4
          by_cases c5 : 0 ≤ x13_1
          · rw [if_pos c5] at H
            have c5b0 : decide (0 ≤ x13_1) = true := decide_eq_true c5
            clear c5
            by_cases c6 : x13_1 < (l0.length : Int)
            · rw [if_pos c6] at H
              have c6b0 : decide (x13_1 < (l0.length : Int)) = true := decide_eq_true c6
              clear c6
              by_cases c7 : x13_1 < (l1.length : Int)
              · rw [if_pos c7] at H
                have c7b0 : decide (x13_1 < (l1.length : Int)) = true := decide_eq_true c7
                clear c7
                by_cases c8 : (rd l0 x13_1) = (rd l1 x13_1)
                · rw [if_pos c8] at H
                  have c8b0 : ((rd l0 x13_1) == (rd l1 x13_1)) = true := beq_iff_eq.mpr c8
                  have c8b1 : ((rd l0 x13_1) != (rd l1 x13_1)) = false := bne_eq_false_iff_eq.mpr c8
                  clear c8
                  have H' := Aside0.mk H
                  clear H
                  have p268 : 0 ≤ (x13_1 : Int) := od_
                  have q268 : x13_1 < (l0.length : Int) := od_
                  obtain ⟨ad268, e268, hx268_0⟩ := Kd.at_int HR0.out x13_1 p268 q268
                  cases e268
                  replace p268 := eq_true p268
                  replace q268 := eq_true q268
                  have p269 : 0 ≤ (x13_1 : Int) := od_
                  have q269 : x13_1 < (l1.length : Int) := od_
                  obtain ⟨ad269, e269, hx269_0⟩ := Kd.at_int HR1.out x13_1 p269 q269
                  cases e269
                  replace p269 := eq_true p269
                  replace q269 := eq_true q269
                  go_wp2
                  repeat (go_quiet (fail); try go_wp2)
                  go_roundg k1
                  case measure => have := HK1.out; omega
                  case rel => exact ⟨(wrap64 (x13_1 + 1)), sp_, H', ⟨by have := HK1.out; omega⟩, by repeat (first | exact Drawn0.refl _ | apply Drawn0.step)⟩
                · rw [if_neg c8] at H
                  have c8b0 : ((rd l0 x13_1) == (rd l1 x13_1)) = false := beq_eq_false_iff_ne.mpr c8
                  have c8b1 : ((rd l0 x13_1) != (rd l1 x13_1)) = true := bne_iff_ne.mpr c8
                  obtain rfl := Option.some.inj H
                  have p268 : 0 ≤ (x13_1 : Int) := od_
                  have q268 : x13_1 < (l0.length : Int) := od_
                  obtain ⟨ad268, e268, hx268_0⟩ := Kd.at_int HR0.out x13_1 p268 q268
                  cases e268
                  replace p268 := eq_true p268
                  replace q268 := eq_true q268
                  have p269 : 0 ≤ (x13_1 : Int) := od_
                  have q269 : x13_1 < (l1.length : Int) := od_
                  obtain ⟨ad269, e269, hx269_0⟩ := Kd.at_int HR1.out x13_1 p269 q269
                  cases e269
                  replace p269 := eq_true p269
                  replace q269 := eq_true q269
                  go_wp2
                  repeat (go_quiet (fail); try go_wp2)
                  go_ret
                  exact ⟨by first | rfl | (simp; done) | (simp [*]; done) | (simp [my_isEmpty, my_w256, Go.Proofs.YtcojjdfbdgpajaaW.PrintLast.i64_w, Go.Proofs.YtcojjdfbdgpajaaW.PrintLast.i32_w, Go.IntKind.wrap_u8, Go.IntKind.wrap_u32]; done), by repeat (first | exact Drawn0.refl _ | apply Drawn0.step)⟩
              · rw [if_neg c7] at H
                exact absurd H (by simp)
            · rw [if_neg c6] at H
              exact absurd H (by simp)
          · rw [if_neg c5] at H
            exact absurd H (by simp)
        · rw [if_neg c4] at H
          have c4b0 : decide (x13_1 < (l0.length : Int)) = false := decide_eq_false c4
          clear c4
          obtain rfl := Option.some.inj H
          go_wp2
          repeat (go_quiet (fail); try go_wp2)
          go_ret
          exact ⟨by first | rfl | (simp; done) | (simp [*]; done) | (simp [my_isEmpty, my_w256, Go.Proofs.YtcojjdfbdgpajaaW.PrintLast.i64_w, Go.Proofs.YtcojjdfbdgpajaaW.PrintLast.i32_w, Go.IntKind.wrap_u8, Go.IntKind.wrap_u32]; done), by repeat (first | exact Drawn0.refl _ | apply Drawn0.step)⟩
  · rw [if_neg c3] at H
    have c3b0 : ((l0.length : Int) == (l1.length : Int)) = false := beq_eq_false_iff_ne.mpr c3
    have c3b1 : ((l0.length : Int) != (l1.length : Int)) = true := bne_iff_ne.mpr c3
    have c3b2 : (l0.length == l1.length) = false := by first | simpa using c3 | (simp at c3 ⊢; omega)
    obtain rfl := Option.some.inj H
    go_enter Try.func154, Try.ntmps154
    go_wp2
    repeat (go_quiet (fail); try go_wp2)
    go_ret
    exact ⟨by first | rfl | (simp; done) | (simp [*]; done) | (simp [my_isEmpty, my_w256, Go.Proofs.YtcojjdfbdgpajaaW.PrintLast.i64_w, Go.Proofs.YtcojjdfbdgpajaaW.PrintLast.i32_w, Go.IntKind.wrap_u8, Go.IntKind.wrap_u32]; done), by repeat (first | exact Drawn0.refl _ | apply Drawn0.step)⟩

end Go.Proofs.Ytcojjdfbdgpajaa.QFnExactBookSame
