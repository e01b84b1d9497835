-- by my own printer (myprint.py, over the kit's print.py)
import Derived.Test.YtepjnalkpfnmcaaQFnExactWorldSamex0
import Derived.Test.YtepjnalkpfnmcaaQFnExactWorldSamex11
namespace Go.Proofs.Ytepjnalkpfnmcaa.QFnExactWorldSame
open Go.RowKit Go.Proofs.YtepjnalkpfnmcaaW.PrintWords Go.Proofs.YtepjnalkpfnmcaaW.PrintLast Go.Proofs.YtepjnalkpfnmcaaW.PrintMore
attribute [local go_sem] max2_int min2_int max_two min_two max_three min_three max_four min_four   -- for this text's walks alone
set_option linter.unusedVariables false
set_option linter.unusedSimpArgs false
attribute [local go_sem] my_geq my_leq my_gtr
/-! ### fn_104_105: function 104 -/
def fn_104_105.l0 : Nat → List (S43) → List (S43) → Int → Int → Option (Bool)
 | 0, _, _, _, _ => none
 | k + 1, x1, x15, x16, x17 => if x17 < x16 then (if 0 ≤ x17 then (if x17 < (x15.length : Int) then (if x17 < (x1.length : Int) then ((impl_AcctSame.f k ((rd_T43 x15 x17).f0) ((rd_T43 x15 x17).f1) ((rd_T43 x15 x17).f2) ((rd_T43 x15 x17).f3) ((rd_T43 x15 x17).f4) ((rd_T43 x15 x17).f5) ((rd_T43 x15 x17).f6.f0) ((rd_T43 x15 x17).f6.f1) ((rd_T43 x15 x17).f6.f2) ((rd_T43 x15 x17).f6.f3) ((rd_T43 x15 x17).f7) ((rd_T43 x1 x17).f0) ((rd_T43 x1 x17).f1) ((rd_T43 x1 x17).f2) ((rd_T43 x1 x17).f3) ((rd_T43 x1 x17).f4) ((rd_T43 x1 x17).f5) ((rd_T43 x1 x17).f6.f0) ((rd_T43 x1 x17).f6.f1) ((rd_T43 x1 x17).f6.f2) ((rd_T43 x1 x17).f6.f3) ((rd_T43 x1 x17).f7)).bind fun t346 => (if t346 = true then (fn_104_105.l0 k x1 x15 x16 (wrap64 (x17 + 1))) else (some false))) else (none)) else (none)) else (none)) else (some true)
def fn_104_105.f (k : Nat) (l0 : List (S43)) (l1 : List (S43))  : Option (Bool) := if (l0.length : Int) = (l1.length : Int) then (fn_104_105.l0 k l1 l0 (l0.length : Int) 0) else (some false)
set_option maxHeartbeats 8000000 in
set_option maxRecDepth 100000 in
theorem fn_104_105.calls (k : Nat) (A0 : Option Addr) (c0 : Nat) (l0 : List (S43)) (A1 : Option Addr) (c1 : Nat) (l1 : List (S43))  (r : Bool) (w : World) (hr0 : Kd.C k43 w A0 l0.length l0) (hc0 : l0.length ≤ c0) (hr1 : Kd.C k43 w A1 l1.length l1) (hc1 : l1.length ≤ c1) (h : fn_104_105.f k l0 l1 = some r) :
  Calls Try.prog 104 #[.slice A0 l0.length c0, .slice A1 l1.length c1, .func (.func 105) #[] #[]] w fun e w' => e = .returned (.bool r) ∧ Below w.heap.size w w' := by
 have hu43 := Try.underlying43
 have HR0 := Aside0.mk hr0
 have HC0 := Aside0.mk hc0
 clear hr0 hc0
 have HR1 := Aside0.mk hr1
 have HC1 := Aside0.mk hc1
 clear hr1 hc1
 have HB := Aside0.mk (Below.refl w.heap.size w)
 have H : (if (l0.length : Int) = (l1.length : Int) then (fn_104_105.l0 k l1 l0 (l0.length : Int) 0) else (some false)) = some r := h
 clear h
 by_cases c4 : (l0.length : Int) = (l1.length : Int)
 ·rw [if_pos c4] at H
  have c4b0 : ((l0.length : Int) == (l1.length : Int)) = true := beq_iff_eq.mpr c4
  have c4b1 : ((l0.length : Int) != (l1.length : Int)) = false := bne_eq_false_iff_eq.mpr c4
  have c4b2 : (l0.length == l1.length) = true := by first | simpa using c4 | (simp at c4 ⊢; omega)
  clear c4
  have H' := Aside0.mk H
  clear H
  go_enter Try.func104, Try.ntmps104
  go_wp2
  go_loopg [17] k (fun kq v17 w' => ∃ (x17_1 : Int), v17 = .int .i64 x17_1 ∧ Aside0 (fn_104_105.l0 kq l1 l0 (l0.length : Int) x17_1 = some r) ∧ Aside0 (kq ≤ k) ∧ Aside0 (Below w.heap.size w w'))
  case atStart => exact ⟨(0), sp_, H', ⟨Nat.le_refl _⟩, ⟨bl_⟩⟩
  case round =>
   clear H'
   try clear c1
   try clear p2
   try clear c4
   try clear c4b0
   try clear c4b1
   try clear c4b2
   obtain ⟨x17_1, rfl, HA, HK1, HB⟩ := hrel
   cases gk with
   | zero => exact absurd HA.out (by simp [fn_104_105.l0])
   | succ k1 =>
    have H := HA.out
    clear HA
    simp only [fn_104_105.l0] at H
    by_cases c5 : x17_1 < (l0.length : Int)
    ·rw [if_pos c5] at H
     have c5b0 : decide (x17_1 < (l0.length : Int)) = true := decide_eq_true c5
     clear c5
     by_cases c6 : 0 ≤ x17_1
     ·rw [if_pos c6] at H
      have c6b0 : decide (0 ≤ x17_1) = true := decide_eq_true c6
      clear c6
      by_cases c7 : x17_1 < (l0.length : Int)
      ·rw [if_pos c7] at H
       have c7b0 : decide (x17_1 < (l0.length : Int)) = true := decide_eq_true c7
       clear c7
       by_cases c8 : x17_1 < (l1.length : Int)
       ·rw [if_pos c8] at H
        have c8b0 : decide (x17_1 < (l1.length : Int)) = true := decide_eq_true c8
        clear c8
        obtain ⟨t346, A9, H⟩ := ob_ H
        by_cases c10 : t346 = true
        ·subst c10
         replace H := ip_ H
         have H' := Aside0.mk H
         clear H
         have p342 : 0 ≤ (x17_1 : Int) := od_
         have q342 : x17_1 < (l0.length : Int) := od_
         obtain ⟨ad342, A342_5, c342_5, A342_8, c342_8, A342_9, c342_9, A342_10, c342_10, e342, hx342_0, hx342_1, hx342_2, hx342_3, hx342_4, hx342_5, hx342_6, hx342_7, hx342_8, hx342_9, hx342_10, hl342_5, hi342_5, hl342_8, hi342_8, hl342_9, hi342_9, hl342_10, hi342_10⟩ := at_T43 HR0.out x17_1 p342 q342
         cases e342
         replace hx342_0 := kc_ HB hx342_0
         replace hx342_1 := kc_ HB hx342_1
         replace hx342_2 := kc_ HB hx342_2
         replace hx342_3 := kc_ HB hx342_3
         replace hx342_4 := kc_ HB hx342_4
         replace hx342_5 := kc_ HB hx342_5
         replace hx342_6 := kc_ HB hx342_6
         replace hx342_7 := kc_ HB hx342_7
         replace hx342_8 := kc_ HB hx342_8
         replace hx342_9 := kc_ HB hx342_9
         replace hx342_10 := kc_ HB hx342_10
         have HR342_5 := Aside0.mk hi342_5
         have HC342_5 := Aside0.mk hl342_5
         clear hi342_5 hl342_5
         have HR342_8 := Aside0.mk hi342_8
         have HC342_8 := Aside0.mk hl342_8
         clear hi342_8 hl342_8
         have HR342_9 := Aside0.mk hi342_9
         have HC342_9 := Aside0.mk hl342_9
         clear hi342_9 hl342_9
         have HR342_10 := Aside0.mk hi342_10
         have HC342_10 := Aside0.mk hl342_10
         clear hi342_10 hl342_10
         replace p342 := eq_true p342
         replace q342 := eq_true q342
         go_wp2_with (first | ((with_reducible refine gate_dst (N := 8) rfl ?_); refine be_ (N := 8) (cs := #[.string (⟨#[]⟩ : ByteArray), .int .i64 0, .int .i64 0, .int .i64 0, .int .i64 0, .slice none 0 0, .int .i64 0, .int .i64 0, .slice none 0 0, .slice none 0 0, .slice none 0 0]) (t := 43) ?_; intro gb343 hg w11 hbox hb; have BK343 := Aside0.mk (hbox); have GW343 := gw_ (w := w) hg; have GE343 := gw_ (w := w) hg; replace HB := Aside0.mk (below_step bl_ hb); clear hb hbox hg; obtain ⟨hcz12_0, hcz12_1, hcz12_2, hcz12_3, hcz12_4, hcz12_5, hcz12_6, hcz12_7, hcz12_8, hcz12_9, hcz12_10, hfz12_0, hfz12_1, hfz12_2, hfz12_3, hfz12_4, hfz12_5, hfz12_6, hfz12_7, hfz12_8, hfz12_9, hfz12_10⟩ := bx11_ BK343; have p344 : 0 ≤ (x17_1 : Int) := od_; have q344 : x17_1 < (l1.length : Int) := od_; obtain ⟨ad344, A344_5, c344_5, A344_8, c344_8, A344_9, c344_9, A344_10, c344_10, e344, hx344_0, hx344_1, hx344_2, hx344_3, hx344_4, hx344_5, hx344_6, hx344_7, hx344_8, hx344_9, hx344_10, hl344_5, hi344_5, hl344_8, hi344_8, hl344_9, hi344_9, hl344_10, hi344_10⟩ := at_T43 HR1.out x17_1 p344 q344; cases e344; have hn344_0 : ad344.block ≠ gb343 := nl_ hx344_0 GW343; have hn344_1 : ad344.block ≠ gb343 := nl_ hx344_0 GW343; have hn344_2 : ad344.block ≠ gb343 := nl_ hx344_0 GW343; have hn344_3 : ad344.block ≠ gb343 := nl_ hx344_0 GW343; have hn344_4 : ad344.block ≠ gb343 := nl_ hx344_0 GW343; have hn344_5 : ad344.block ≠ gb343 := nl_ hx344_0 GW343; have hn344_6 : ad344.block ≠ gb343 := nl_ hx344_0 GW343; have hn344_7 : ad344.block ≠ gb343 := nl_ hx344_0 GW343; have hn344_8 : ad344.block ≠ gb343 := nl_ hx344_0 GW343; have hn344_9 : ad344.block ≠ gb343 := nl_ hx344_0 GW343; have hn344_10 : ad344.block ≠ gb343 := nl_ hx344_0 GW343; replace hx344_0 := kc_ HB hx344_0; replace hx344_1 := kc_ HB hx344_1; replace hx344_2 := kc_ HB hx344_2; replace hx344_3 := kc_ HB hx344_3; replace hx344_4 := kc_ HB hx344_4; replace hx344_5 := kc_ HB hx344_5; replace hx344_6 := kc_ HB hx344_6; replace hx344_7 := kc_ HB hx344_7; replace hx344_8 := kc_ HB hx344_8; replace hx344_9 := kc_ HB hx344_9; replace hx344_10 := kc_ HB hx344_10; have HR344_5 := Aside0.mk hi344_5; have HC344_5 := Aside0.mk hl344_5; clear hi344_5 hl344_5; have HR344_8 := Aside0.mk hi344_8; have HC344_8 := Aside0.mk hl344_8; clear hi344_8 hl344_8; have HR344_9 := Aside0.mk hi344_9; have HC344_9 := Aside0.mk hl344_9; clear hi344_9 hl344_9; have HR344_10 := Aside0.mk hi344_10; have HC344_10 := Aside0.mk hl344_10; clear hi344_10 hl344_10; replace hx344_0 := cf0_1_2_3_4_5_6_7_8_9_10_ (fr_ hn344_0) hx344_0; replace hx344_1 := cf0_1_2_3_4_5_6_7_8_9_10_ (fr_ hn344_0) hx344_1; replace hx344_2 := cf0_1_2_3_4_5_6_7_8_9_10_ (fr_ hn344_0) hx344_2; replace hx344_3 := cf0_1_2_3_4_5_6_7_8_9_10_ (fr_ hn344_0) hx344_3; replace hx344_4 := cf0_1_2_3_4_5_6_7_8_9_10_ (fr_ hn344_0) hx344_4; replace hx344_5 := cf0_1_2_3_4_5_6_7_8_9_10_ (fr_ hn344_0) hx344_5; replace hx344_6 := cf0_1_2_3_4_5_6_7_8_9_10_ (fr_ hn344_0) hx344_6; replace hx344_7 := cf0_1_2_3_4_5_6_7_8_9_10_ (fr_ hn344_0) hx344_7; replace hx344_8 := cf0_1_2_3_4_5_6_7_8_9_10_ (fr_ hn344_0) hx344_8; replace hx344_9 := cf0_1_2_3_4_5_6_7_8_9_10_ (fr_ hn344_0) hx344_9; replace hx344_10 := cf0_1_2_3_4_5_6_7_8_9_10_ (fr_ hn344_0) hx344_10; clear hn344_0; clear hn344_1; clear hn344_2; clear hn344_3; clear hn344_4; clear hn344_5; clear hn344_6; clear hn344_7; clear hn344_8; clear hn344_9; clear hn344_10; replace p344 := eq_true p344; replace q344 := eq_true q344) | ((with_reducible refine gate_dst (N := 9) rfl ?_); refine be_ (N := 9) (cs := #[.string (⟨#[]⟩ : ByteArray), .int .i64 0, .int .i64 0, .int .i64 0, .int .i64 0, .slice none 0 0, .int .i64 0, .int .i64 0, .slice none 0 0, .slice none 0 0, .slice none 0 0]) (t := 43) ?_; intro gb345 hg w13 hbox hb; have BK345 := Aside0.mk (hbox); have GW345 := gw_ (w := w) hg; have GE345 := gw_ (w := w) hg; replace HB := Aside0.mk (below_step bl_ hb); have NB343_345 := Aside0.mk ((by rw [hg]; exact Nat.ne_of_lt (blk_lt (g := gb343) (o := .cells #[.string ((rd_T43 l0 x17_1).f0), .int .i64 ((rd_T43 l0 x17_1).f1), .int .i64 ((rd_T43 l0 x17_1).f2), .int .i64 ((rd_T43 l0 x17_1).f3), .int .i64 ((rd_T43 l0 x17_1).f4), .slice A342_5 ((rd_T43 l0 x17_1).f5).length c342_5, .int .i64 ((rd_T43 l0 x17_1).f6.f0), .int .i64 ((rd_T43 l0 x17_1).f6.f1), .slice A342_8 ((rd_T43 l0 x17_1).f6.f2).length c342_8, .slice A342_9 ((rd_T43 l0 x17_1).f6.f3).length c342_9, .slice A342_10 ((rd_T43 l0 x17_1).f7).length c342_10] 43 (0, 0)) (by (with_reducible repeat (first | refine blk_drewN ?_ _ | refine blk_drew ?_ | refine blk_alloc ?_ _)); apply bq11_10_9_8_7_6_5_4_3_2_1_0_; (with_reducible repeat (first | refine blk_drewN ?_ _ | refine blk_drew ?_ | refine blk_alloc ?_ _)); exact BK343.out)) : gb343 ≠ gb345)); have NB345_343 := Aside0.mk ((by rw [hg]; exact Nat.ne_of_gt (blk_lt (g := gb343) (o := .cells #[.string ((rd_T43 l0 x17_1).f0), .int .i64 ((rd_T43 l0 x17_1).f1), .int .i64 ((rd_T43 l0 x17_1).f2), .int .i64 ((rd_T43 l0 x17_1).f3), .int .i64 ((rd_T43 l0 x17_1).f4), .slice A342_5 ((rd_T43 l0 x17_1).f5).length c342_5, .int .i64 ((rd_T43 l0 x17_1).f6.f0), .int .i64 ((rd_T43 l0 x17_1).f6.f1), .slice A342_8 ((rd_T43 l0 x17_1).f6.f2).length c342_8, .slice A342_9 ((rd_T43 l0 x17_1).f6.f3).length c342_9, .slice A342_10 ((rd_T43 l0 x17_1).f7).length c342_10] 43 (0, 0)) (by (with_reducible repeat (first | refine blk_drewN ?_ _ | refine blk_drew ?_ | refine blk_alloc ?_ _)); apply bq11_10_9_8_7_6_5_4_3_2_1_0_; (with_reducible repeat (first | refine blk_drewN ?_ _ | refine blk_drew ?_ | refine blk_alloc ?_ _)); exact BK343.out)) : gb345 ≠ gb343)); replace BK343 := Aside0.mk (blk_below (g := gb343) (o := .cells #[.string ((rd_T43 l0 x17_1).f0), .int .i64 ((rd_T43 l0 x17_1).f1), .int .i64 ((rd_T43 l0 x17_1).f2), .int .i64 ((rd_T43 l0 x17_1).f3), .int .i64 ((rd_T43 l0 x17_1).f4), .slice A342_5 ((rd_T43 l0 x17_1).f5).length c342_5, .int .i64 ((rd_T43 l0 x17_1).f6.f0), .int .i64 ((rd_T43 l0 x17_1).f6.f1), .slice A342_8 ((rd_T43 l0 x17_1).f6.f2).length c342_8, .slice A342_9 ((rd_T43 l0 x17_1).f6.f3).length c342_9, .slice A342_10 ((rd_T43 l0 x17_1).f7).length c342_10] 43 (0, 0)) (by (with_reducible repeat (first | refine blk_drewN ?_ _ | refine blk_drew ?_ | refine blk_alloc ?_ _)); apply bq11_10_9_8_7_6_5_4_3_2_1_0_; (with_reducible repeat (first | refine blk_drewN ?_ _ | refine blk_drew ?_ | refine blk_alloc ?_ _)); exact BK343.out) hb); clear hb hbox hg; have hnb14 := NB345_343.out; have hnc14 := NB343_345.out; obtain ⟨hcz15_0, hcz15_1, hcz15_2, hcz15_3, hcz15_4, hcz15_5, hcz15_6, hcz15_7, hcz15_8, hcz15_9, hcz15_10, hfz15_0, hfz15_1, hfz15_2, hfz15_3, hfz15_4, hfz15_5, hfz15_6, hfz15_7, hfz15_8, hfz15_9, hfz15_10⟩ := bx11_ BK345; obtain ⟨hcz16_0, hcz16_1, hcz16_2, hcz16_3, hcz16_4, hcz16_5, hcz16_6, hcz16_7, hcz16_8, hcz16_9, hcz16_10, hfz16_0, hfz16_1, hfz16_2, hfz16_3, hfz16_4, hfz16_5, hfz16_6, hfz16_7, hfz16_8, hfz16_9, hfz16_10⟩ := bx11_ BK343) | (go_at_call 105; (with_reducible refine (impl_AcctSame.calls k1 ((rd_T43 l0 x17_1).f0) ((rd_T43 l0 x17_1).f1) ((rd_T43 l0 x17_1).f2) ((rd_T43 l0 x17_1).f3) ((rd_T43 l0 x17_1).f4) _ _ ((rd_T43 l0 x17_1).f5) ((rd_T43 l0 x17_1).f6.f0) ((rd_T43 l0 x17_1).f6.f1) _ _ ((rd_T43 l0 x17_1).f6.f2) _ _ ((rd_T43 l0 x17_1).f6.f3) _ _ ((rd_T43 l0 x17_1).f7) ((rd_T43 l1 x17_1).f0) ((rd_T43 l1 x17_1).f1) ((rd_T43 l1 x17_1).f2) ((rd_T43 l1 x17_1).f3) ((rd_T43 l1 x17_1).f4) _ _ ((rd_T43 l1 x17_1).f5) ((rd_T43 l1 x17_1).f6.f0) ((rd_T43 l1 x17_1).f6.f1) _ _ ((rd_T43 l1 x17_1).f6.f2) _ _ ((rd_T43 l1 x17_1).f6.f3) _ _ ((rd_T43 l1 x17_1).f7) true _ ?side1 ?side2 ?side3 ?side4 ?side5 ?side6 ?side7 ?side8 ?side9 ?side10 ?side11 ?side12 ?side13 ?side14 ?side15 ?side16 A9.out).mono ?_); (case side1 => exact Kd.C_below HR342_5.out bl_); (case side2 => exact HC342_5.out); (case side3 => exact Kd.C_below HR342_8.out bl_); (case side4 => exact HC342_8.out); (case side5 => exact Kd.C_below HR342_9.out bl_); (case side6 => exact HC342_9.out); (case side7 => exact Kd.C_below HR342_10.out bl_); (case side8 => exact HC342_10.out); (case side9 => exact Kd.C_below HR344_5.out bl_); (case side10 => exact HC344_5.out); (case side11 => exact Kd.C_below HR344_8.out bl_); (case side12 => exact HC344_8.out); (case side13 => exact Kd.C_below HR344_9.out bl_); (case side14 => exact HC344_9.out); (case side15 => exact Kd.C_below HR344_10.out bl_); (case side16 => exact HC344_10.out); rintro e w17 ⟨rfl, hb⟩; replace BK343 := Aside0.mk (blk_below (g := gb343) (o := .cells #[.string ((rd_T43 l0 x17_1).f0), .int .i64 ((rd_T43 l0 x17_1).f1), .int .i64 ((rd_T43 l0 x17_1).f2), .int .i64 ((rd_T43 l0 x17_1).f3), .int .i64 ((rd_T43 l0 x17_1).f4), .slice A342_5 ((rd_T43 l0 x17_1).f5).length c342_5, .int .i64 ((rd_T43 l0 x17_1).f6.f0), .int .i64 ((rd_T43 l0 x17_1).f6.f1), .slice A342_8 ((rd_T43 l0 x17_1).f6.f2).length c342_8, .slice A342_9 ((rd_T43 l0 x17_1).f6.f3).length c342_9, .slice A342_10 ((rd_T43 l0 x17_1).f7).length c342_10] 43 (0, 0)) (by (with_reducible repeat (first | refine blk_drewN ?_ _ | refine blk_drew ?_ | refine blk_alloc ?_ _)); refine blk_far ?_ NB343_345.out _; (with_reducible repeat (first | refine blk_drewN ?_ _ | refine blk_drew ?_ | refine blk_alloc ?_ _)); refine blk_far ?_ NB343_345.out _; (with_reducible repeat (first | refine blk_drewN ?_ _ | refine blk_drew ?_ | refine blk_alloc ?_ _)); refine blk_far ?_ NB343_345.out _; (with_reducible repeat (first | refine blk_drewN ?_ _ | refine blk_drew ?_ | refine blk_alloc ?_ _)); refine blk_far ?_ NB343_345.out _; (with_reducible repeat (first | refine blk_drewN ?_ _ | refine blk_drew ?_ | refine blk_alloc ?_ _)); refine blk_far ?_ NB343_345.out _; (with_reducible repeat (first | refine blk_drewN ?_ _ | refine blk_drew ?_ | refine blk_alloc ?_ _)); refine blk_far ?_ NB343_345.out _; (with_reducible repeat (first | refine blk_drewN ?_ _ | refine blk_drew ?_ | refine blk_alloc ?_ _)); refine blk_far ?_ NB343_345.out _; (with_reducible repeat (first | refine blk_drewN ?_ _ | refine blk_drew ?_ | refine blk_alloc ?_ _)); refine blk_far ?_ NB343_345.out _; (with_reducible repeat (first | refine blk_drewN ?_ _ | refine blk_drew ?_ | refine blk_alloc ?_ _)); refine blk_far ?_ NB343_345.out _; (with_reducible repeat (first | refine blk_drewN ?_ _ | refine blk_drew ?_ | refine blk_alloc ?_ _)); refine blk_far ?_ NB343_345.out _; (with_reducible repeat (first | refine blk_drewN ?_ _ | refine blk_drew ?_ | refine blk_alloc ?_ _)); refine blk_far ?_ NB343_345.out _; (with_reducible repeat (first | refine blk_drewN ?_ _ | refine blk_drew ?_ | refine blk_alloc ?_ _)); exact BK343.out) hb); replace BK345 := Aside0.mk (blk_below (g := gb345) (o := .cells #[.string ((rd_T43 l1 x17_1).f0), .int .i64 ((rd_T43 l1 x17_1).f1), .int .i64 ((rd_T43 l1 x17_1).f2), .int .i64 ((rd_T43 l1 x17_1).f3), .int .i64 ((rd_T43 l1 x17_1).f4), .slice A344_5 ((rd_T43 l1 x17_1).f5).length c344_5, .int .i64 ((rd_T43 l1 x17_1).f6.f0), .int .i64 ((rd_T43 l1 x17_1).f6.f1), .slice A344_8 ((rd_T43 l1 x17_1).f6.f2).length c344_8, .slice A344_9 ((rd_T43 l1 x17_1).f6.f3).length c344_9, .slice A344_10 ((rd_T43 l1 x17_1).f7).length c344_10] 43 (0, 0)) (by (with_reducible repeat (first | refine blk_drewN ?_ _ | refine blk_drew ?_ | refine blk_alloc ?_ _)); apply bq11_10_9_8_7_6_5_4_3_2_1_0_; (with_reducible repeat (first | refine blk_drewN ?_ _ | refine blk_drew ?_ | refine blk_alloc ?_ _)); exact BK345.out) hb); replace HB := Aside0.mk (below_step bl_ hb); (try clear hb); (try clear hb2); (try clear hk); (try clear hi)))
         go_roundg k1
         case measure => have := HK1.out; omega
         case rel => exact ⟨(wrap64 (x17_1 + 1)), sp_, H', ⟨by have := HK1.out; omega⟩, ⟨bl_⟩⟩
        ·replace c10 := Bool.eq_false_iff.mpr c10
         subst c10
         replace H := in_ H
         obtain rfl := Option.some.inj H
         have p342 : 0 ≤ (x17_1 : Int) := od_
         have q342 : x17_1 < (l0.length : Int) := od_
         obtain ⟨ad342, A342_5, c342_5, A342_8, c342_8, A342_9, c342_9, A342_10, c342_10, e342, hx342_0, hx342_1, hx342_2, hx342_3, hx342_4, hx342_5, hx342_6, hx342_7, hx342_8, hx342_9, hx342_10, hl342_5, hi342_5, hl342_8, hi342_8, hl342_9, hi342_9, hl342_10, hi342_10⟩ := at_T43 HR0.out x17_1 p342 q342
         cases e342
         replace hx342_0 := kc_ HB hx342_0
         replace hx342_1 := kc_ HB hx342_1
         replace hx342_2 := kc_ HB hx342_2
         replace hx342_3 := kc_ HB hx342_3
         replace hx342_4 := kc_ HB hx342_4
         replace hx342_5 := kc_ HB hx342_5
         replace hx342_6 := kc_ HB hx342_6
         replace hx342_7 := kc_ HB hx342_7
         replace hx342_8 := kc_ HB hx342_8
         replace hx342_9 := kc_ HB hx342_9
         replace hx342_10 := kc_ HB hx342_10
         have HR342_5 := Aside0.mk hi342_5
         have HC342_5 := Aside0.mk hl342_5
         clear hi342_5 hl342_5
         have HR342_8 := Aside0.mk hi342_8
         have HC342_8 := Aside0.mk hl342_8
         clear hi342_8 hl342_8
         have HR342_9 := Aside0.mk hi342_9
         have HC342_9 := Aside0.mk hl342_9
         clear hi342_9 hl342_9
         have HR342_10 := Aside0.mk hi342_10
         have HC342_10 := Aside0.mk hl342_10
         clear hi342_10 hl342_10
         replace p342 := eq_true p342
         replace q342 := eq_true q342
         go_wp2_with (first | ((with_reducible refine gate_dst (N := 8) rfl ?_); refine be_ (N := 8) (cs := #[.string (⟨#[]⟩ : ByteArray), .int .i64 0, .int .i64 0, .int .i64 0, .int .i64 0, .slice none 0 0, .int .i64 0, .int .i64 0, .slice none 0 0, .slice none 0 0, .slice none 0 0]) (t := 43) ?_; intro gb343 hg w18 hbox hb; have BK343 := Aside0.mk (hbox); have GW343 := gw_ (w := w) hg; have GE343 := gw_ (w := w) hg; replace HB := Aside0.mk (below_step bl_ hb); clear hb hbox hg; obtain ⟨hcz19_0, hcz19_1, hcz19_2, hcz19_3, hcz19_4, hcz19_5, hcz19_6, hcz19_7, hcz19_8, hcz19_9, hcz19_10, hfz19_0, hfz19_1, hfz19_2, hfz19_3, hfz19_4, hfz19_5, hfz19_6, hfz19_7, hfz19_8, hfz19_9, hfz19_10⟩ := bx11_ BK343; have p344 : 0 ≤ (x17_1 : Int) := od_; have q344 : x17_1 < (l1.length : Int) := od_; obtain ⟨ad344, A344_5, c344_5, A344_8, c344_8, A344_9, c344_9, A344_10, c344_10, e344, hx344_0, hx344_1, hx344_2, hx344_3, hx344_4, hx344_5, hx344_6, hx344_7, hx344_8, hx344_9, hx344_10, hl344_5, hi344_5, hl344_8, hi344_8, hl344_9, hi344_9, hl344_10, hi344_10⟩ := at_T43 HR1.out x17_1 p344 q344; cases e344; have hn344_0 : ad344.block ≠ gb343 := nl_ hx344_0 GW343; have hn344_1 : ad344.block ≠ gb343 := nl_ hx344_0 GW343; have hn344_2 : ad344.block ≠ gb343 := nl_ hx344_0 GW343; have hn344_3 : ad344.block ≠ gb343 := nl_ hx344_0 GW343; have hn344_4 : ad344.block ≠ gb343 := nl_ hx344_0 GW343; have hn344_5 : ad344.block ≠ gb343 := nl_ hx344_0 GW343; have hn344_6 : ad344.block ≠ gb343 := nl_ hx344_0 GW343; have hn344_7 : ad344.block ≠ gb343 := nl_ hx344_0 GW343; have hn344_8 : ad344.block ≠ gb343 := nl_ hx344_0 GW343; have hn344_9 : ad344.block ≠ gb343 := nl_ hx344_0 GW343; have hn344_10 : ad344.block ≠ gb343 := nl_ hx344_0 GW343; replace hx344_0 := kc_ HB hx344_0; replace hx344_1 := kc_ HB hx344_1; replace hx344_2 := kc_ HB hx344_2; replace hx344_3 := kc_ HB hx344_3; replace hx344_4 := kc_ HB hx344_4; replace hx344_5 := kc_ HB hx344_5; replace hx344_6 := kc_ HB hx344_6; replace hx344_7 := kc_ HB hx344_7; replace hx344_8 := kc_ HB hx344_8; replace hx344_9 := kc_ HB hx344_9; replace hx344_10 := kc_ HB hx344_10; have HR344_5 := Aside0.mk hi344_5; have HC344_5 := Aside0.mk hl344_5; clear hi344_5 hl344_5; have HR344_8 := Aside0.mk hi344_8; have HC344_8 := Aside0.mk hl344_8; clear hi344_8 hl344_8; have HR344_9 := Aside0.mk hi344_9; have HC344_9 := Aside0.mk hl344_9; clear hi344_9 hl344_9; have HR344_10 := Aside0.mk hi344_10; have HC344_10 := Aside0.mk hl344_10; clear hi344_10 hl344_10; replace hx344_0 := cf0_1_2_3_4_5_6_7_8_9_10_ (fr_ hn344_0) hx344_0; replace hx344_1 := cf0_1_2_3_4_5_6_7_8_9_10_ (fr_ hn344_0) hx344_1; replace hx344_2 := cf0_1_2_3_4_5_6_7_8_9_10_ (fr_ hn344_0) hx344_2; replace hx344_3 := cf0_1_2_3_4_5_6_7_8_9_10_ (fr_ hn344_0) hx344_3; replace hx344_4 := cf0_1_2_3_4_5_6_7_8_9_10_ (fr_ hn344_0) hx344_4; replace hx344_5 := cf0_1_2_3_4_5_6_7_8_9_10_ (fr_ hn344_0) hx344_5; replace hx344_6 := cf0_1_2_3_4_5_6_7_8_9_10_ (fr_ hn344_0) hx344_6; replace hx344_7 := cf0_1_2_3_4_5_6_7_8_9_10_ (fr_ hn344_0) hx344_7; replace hx344_8 := cf0_1_2_3_4_5_6_7_8_9_10_ (fr_ hn344_0) hx344_8; replace hx344_9 := cf0_1_2_3_4_5_6_7_8_9_10_ (fr_ hn344_0) hx344_9; replace hx344_10 := cf0_1_2_3_4_5_6_7_8_9_10_ (fr_ hn344_0) hx344_10; clear hn344_0; clear hn344_1; clear hn344_2; clear hn344_3; clear hn344_4; clear hn344_5; clear hn344_6; clear hn344_7; clear hn344_8; clear hn344_9; clear hn344_10; replace p344 := eq_true p344; replace q344 := eq_true q344) | ((with_reducible refine gate_dst (N := 9) rfl ?_); refine be_ (N := 9) (cs := #[.string (⟨#[]⟩ : ByteArray), .int .i64 0, .int .i64 0, .int .i64 0, .int .i64 0, .slice none 0 0, .int .i64 0, .int .i64 0, .slice none 0 0, .slice none 0 0, .slice none 0 0]) (t := 43) ?_; intro gb345 hg w20 hbox hb; have BK345 := Aside0.mk (hbox); have GW345 := gw_ (w := w) hg; have GE345 := gw_ (w := w) hg; replace HB := Aside0.mk (below_step bl_ hb); have NB343_345 := Aside0.mk ((by rw [hg]; exact Nat.ne_of_lt (blk_lt (g := gb343) (o := .cells #[.string ((rd_T43 l0 x17_1).f0), .int .i64 ((rd_T43 l0 x17_1).f1), .int .i64 ((rd_T43 l0 x17_1).f2), .int .i64 ((rd_T43 l0 x17_1).f3), .int .i64 ((rd_T43 l0 x17_1).f4), .slice A342_5 ((rd_T43 l0 x17_1).f5).length c342_5, .int .i64 ((rd_T43 l0 x17_1).f6.f0), .int .i64 ((rd_T43 l0 x17_1).f6.f1), .slice A342_8 ((rd_T43 l0 x17_1).f6.f2).length c342_8, .slice A342_9 ((rd_T43 l0 x17_1).f6.f3).length c342_9, .slice A342_10 ((rd_T43 l0 x17_1).f7).length c342_10] 43 (0, 0)) (by (with_reducible repeat (first | refine blk_drewN ?_ _ | refine blk_drew ?_ | refine blk_alloc ?_ _)); apply bq11_10_9_8_7_6_5_4_3_2_1_0_; (with_reducible repeat (first | refine blk_drewN ?_ _ | refine blk_drew ?_ | refine blk_alloc ?_ _)); exact BK343.out)) : gb343 ≠ gb345)); have NB345_343 := Aside0.mk ((by rw [hg]; exact Nat.ne_of_gt (blk_lt (g := gb343) (o := .cells #[.string ((rd_T43 l0 x17_1).f0), .int .i64 ((rd_T43 l0 x17_1).f1), .int .i64 ((rd_T43 l0 x17_1).f2), .int .i64 ((rd_T43 l0 x17_1).f3), .int .i64 ((rd_T43 l0 x17_1).f4), .slice A342_5 ((rd_T43 l0 x17_1).f5).length c342_5, .int .i64 ((rd_T43 l0 x17_1).f6.f0), .int .i64 ((rd_T43 l0 x17_1).f6.f1), .slice A342_8 ((rd_T43 l0 x17_1).f6.f2).length c342_8, .slice A342_9 ((rd_T43 l0 x17_1).f6.f3).length c342_9, .slice A342_10 ((rd_T43 l0 x17_1).f7).length c342_10] 43 (0, 0)) (by (with_reducible repeat (first | refine blk_drewN ?_ _ | refine blk_drew ?_ | refine blk_alloc ?_ _)); apply bq11_10_9_8_7_6_5_4_3_2_1_0_; (with_reducible repeat (first | refine blk_drewN ?_ _ | refine blk_drew ?_ | refine blk_alloc ?_ _)); exact BK343.out)) : gb345 ≠ gb343)); replace BK343 := Aside0.mk (blk_below (g := gb343) (o := .cells #[.string ((rd_T43 l0 x17_1).f0), .int .i64 ((rd_T43 l0 x17_1).f1), .int .i64 ((rd_T43 l0 x17_1).f2), .int .i64 ((rd_T43 l0 x17_1).f3), .int .i64 ((rd_T43 l0 x17_1).f4), .slice A342_5 ((rd_T43 l0 x17_1).f5).length c342_5, .int .i64 ((rd_T43 l0 x17_1).f6.f0), .int .i64 ((rd_T43 l0 x17_1).f6.f1), .slice A342_8 ((rd_T43 l0 x17_1).f6.f2).length c342_8, .slice A342_9 ((rd_T43 l0 x17_1).f6.f3).length c342_9, .slice A342_10 ((rd_T43 l0 x17_1).f7).length c342_10] 43 (0, 0)) (by (with_reducible repeat (first | refine blk_drewN ?_ _ | refine blk_drew ?_ | refine blk_alloc ?_ _)); apply bq11_10_9_8_7_6_5_4_3_2_1_0_; (with_reducible repeat (first | refine blk_drewN ?_ _ | refine blk_drew ?_ | refine blk_alloc ?_ _)); exact BK343.out) hb); clear hb hbox hg; have hnb21 := NB345_343.out; have hnc21 := NB343_345.out; obtain ⟨hcz22_0, hcz22_1, hcz22_2, hcz22_3, hcz22_4, hcz22_5, hcz22_6, hcz22_7, hcz22_8, hcz22_9, hcz22_10, hfz22_0, hfz22_1, hfz22_2, hfz22_3, hfz22_4, hfz22_5, hfz22_6, hfz22_7, hfz22_8, hfz22_9, hfz22_10⟩ := bx11_ BK345; obtain ⟨hcz23_0, hcz23_1, hcz23_2, hcz23_3, hcz23_4, hcz23_5, hcz23_6, hcz23_7, hcz23_8, hcz23_9, hcz23_10, hfz23_0, hfz23_1, hfz23_2, hfz23_3, hfz23_4, hfz23_5, hfz23_6, hfz23_7, hfz23_8, hfz23_9, hfz23_10⟩ := bx11_ BK343) | (go_at_call 105; (with_reducible refine (impl_AcctSame.calls k1 ((rd_T43 l0 x17_1).f0) ((rd_T43 l0 x17_1).f1) ((rd_T43 l0 x17_1).f2) ((rd_T43 l0 x17_1).f3) ((rd_T43 l0 x17_1).f4) _ _ ((rd_T43 l0 x17_1).f5) ((rd_T43 l0 x17_1).f6.f0) ((rd_T43 l0 x17_1).f6.f1) _ _ ((rd_T43 l0 x17_1).f6.f2) _ _ ((rd_T43 l0 x17_1).f6.f3) _ _ ((rd_T43 l0 x17_1).f7) ((rd_T43 l1 x17_1).f0) ((rd_T43 l1 x17_1).f1) ((rd_T43 l1 x17_1).f2) ((rd_T43 l1 x17_1).f3) ((rd_T43 l1 x17_1).f4) _ _ ((rd_T43 l1 x17_1).f5) ((rd_T43 l1 x17_1).f6.f0) ((rd_T43 l1 x17_1).f6.f1) _ _ ((rd_T43 l1 x17_1).f6.f2) _ _ ((rd_T43 l1 x17_1).f6.f3) _ _ ((rd_T43 l1 x17_1).f7) false _ ?side1 ?side2 ?side3 ?side4 ?side5 ?side6 ?side7 ?side8 ?side9 ?side10 ?side11 ?side12 ?side13 ?side14 ?side15 ?side16 A9.out).mono ?_); (case side1 => exact Kd.C_below HR342_5.out bl_); (case side2 => exact HC342_5.out); (case side3 => exact Kd.C_below HR342_8.out bl_); (case side4 => exact HC342_8.out); (case side5 => exact Kd.C_below HR342_9.out bl_); (case side6 => exact HC342_9.out); (case side7 => exact Kd.C_below HR342_10.out bl_); (case side8 => exact HC342_10.out); (case side9 => exact Kd.C_below HR344_5.out bl_); (case side10 => exact HC344_5.out); (case side11 => exact Kd.C_below HR344_8.out bl_); (case side12 => exact HC344_8.out); (case side13 => exact Kd.C_below HR344_9.out bl_); (case side14 => exact HC344_9.out); (case side15 => exact Kd.C_below HR344_10.out bl_); (case side16 => exact HC344_10.out); rintro e w24 ⟨rfl, hb⟩; replace BK343 := Aside0.mk (blk_below (g := gb343) (o := .cells #[.string ((rd_T43 l0 x17_1).f0), .int .i64 ((rd_T43 l0 x17_1).f1), .int .i64 ((rd_T43 l0 x17_1).f2), .int .i64 ((rd_T43 l0 x17_1).f3), .int .i64 ((rd_T43 l0 x17_1).f4), .slice A342_5 ((rd_T43 l0 x17_1).f5).length c342_5, .int .i64 ((rd_T43 l0 x17_1).f6.f0), .int .i64 ((rd_T43 l0 x17_1).f6.f1), .slice A342_8 ((rd_T43 l0 x17_1).f6.f2).length c342_8, .slice A342_9 ((rd_T43 l0 x17_1).f6.f3).length c342_9, .slice A342_10 ((rd_T43 l0 x17_1).f7).length c342_10] 43 (0, 0)) (by (with_reducible repeat (first | refine blk_drewN ?_ _ | refine blk_drew ?_ | refine blk_alloc ?_ _)); refine blk_far ?_ NB343_345.out _; (with_reducible repeat (first | refine blk_drewN ?_ _ | refine blk_drew ?_ | refine blk_alloc ?_ _)); refine blk_far ?_ NB343_345.out _; (with_reducible repeat (first | refine blk_drewN ?_ _ | refine blk_drew ?_ | refine blk_alloc ?_ _)); refine blk_far ?_ NB343_345.out _; (with_reducible repeat (first | refine blk_drewN ?_ _ | refine blk_drew ?_ | refine blk_alloc ?_ _)); refine blk_far ?_ NB343_345.out _; (with_reducible repeat (first | refine blk_drewN ?_ _ | refine blk_drew ?_ | refine blk_alloc ?_ _)); refine blk_far ?_ NB343_345.out _; (with_reducible repeat (first | refine blk_drewN ?_ _ | refine blk_drew ?_ | refine blk_alloc ?_ _)); refine blk_far ?_ NB343_345.out _; (with_reducible repeat (first | refine blk_drewN ?_ _ | refine blk_drew ?_ | refine blk_alloc ?_ _)); refine blk_far ?_ NB343_345.out _; (with_reducible repeat (first | refine blk_drewN ?_ _ | refine blk_drew ?_ | refine blk_alloc ?_ _)); refine blk_far ?_ NB343_345.out _; (with_reducible repeat (first | refine blk_drewN ?_ _ | refine blk_drew ?_ | refine blk_alloc ?_ _)); refine blk_far ?_ NB343_345.out _; (with_reducible repeat (first | refine blk_drewN ?_ _ | refine blk_drew ?_ | refine blk_alloc ?_ _)); refine blk_far ?_ NB343_345.out _; (with_reducible repeat (first | refine blk_drewN ?_ _ | refine blk_drew ?_ | refine blk_alloc ?_ _)); refine blk_far ?_ NB343_345.out _; (with_reducible repeat (first | refine blk_drewN ?_ _ | refine blk_drew ?_ | refine blk_alloc ?_ _)); exact BK343.out) hb); replace BK345 := Aside0.mk (blk_below (g := gb345) (o := .cells #[.string ((rd_T43 l1 x17_1).f0), .int .i64 ((rd_T43 l1 x17_1).f1), .int .i64 ((rd_T43 l1 x17_1).f2), .int .i64 ((rd_T43 l1 x17_1).f3), .int .i64 ((rd_T43 l1 x17_1).f4), .slice A344_5 ((rd_T43 l1 x17_1).f5).length c344_5, .int .i64 ((rd_T43 l1 x17_1).f6.f0), .int .i64 ((rd_T43 l1 x17_1).f6.f1), .slice A344_8 ((rd_T43 l1 x17_1).f6.f2).length c344_8, .slice A344_9 ((rd_T43 l1 x17_1).f6.f3).length c344_9, .slice A344_10 ((rd_T43 l1 x17_1).f7).length c344_10] 43 (0, 0)) (by (with_reducible repeat (first | refine blk_drewN ?_ _ | refine blk_drew ?_ | refine blk_alloc ?_ _)); apply bq11_10_9_8_7_6_5_4_3_2_1_0_; (with_reducible repeat (first | refine blk_drewN ?_ _ | refine blk_drew ?_ | refine blk_alloc ?_ _)); exact BK345.out) hb); replace HB := Aside0.mk (below_step bl_ hb); (try clear hb); (try clear hb2); (try clear hk); (try clear hi)))
         go_ret
         exact ⟨sq_, bl_⟩
       ·rw [if_neg c8] at H
        exact absurd H (by simp)
      ·rw [if_neg c7] at H
       exact absurd H (by simp)
     ·rw [if_neg c6] at H
      exact absurd H (by simp)
    ·rw [if_neg c5] at H
     have c5b0 : decide (x17_1 < (l0.length : Int)) = false := decide_eq_false c5
     clear c5
     obtain rfl := Option.some.inj H
     go_wp2
     go_ret
     exact ⟨sq_, bl_⟩
 ·rw [if_neg c4] at H
  have c4b0 : ((l0.length : Int) == (l1.length : Int)) = false := beq_eq_false_iff_ne.mpr c4
  have c4b1 : ((l0.length : Int) != (l1.length : Int)) = true := bne_iff_ne.mpr c4
  have c4b2 : (l0.length == l1.length) = false := by first | simpa using c4 | (simp at c4 ⊢; omega)
  obtain rfl := Option.some.inj H
  go_enter Try.func104, Try.ntmps104
  go_wp2
  go_ret
  exact ⟨sq_, bl_⟩
/-! ### impl_WorldSame_1: function 103 -/
def impl_WorldSame_1.f (k : Nat) (a0_0 : Int) (l0_1 : List (S43)) (a1_0 : Int) (l1_1 : List (S43)) : Option (Bool) := if a0_0 = a1_0 then ((fn_104_105.f k l0_1 l1_1).bind fun t349 => (some t349)) else (some false)
set_option maxHeartbeats 8000000 in
set_option maxRecDepth 100000 in
theorem impl_WorldSame_1.calls (k : Nat) (a0_0 : Int) (A0_1 : Option Addr) (c0_1 : Nat) (l0_1 : List (S43)) (a1_0 : Int) (A1_1 : Option Addr) (c1_1 : Nat) (l1_1 : List (S43)) (r : Bool) (w : World) (hr0_1 : Kd.C k43 w A0_1 l0_1.length l0_1) (hc0_1 : l0_1.length ≤ c0_1) (hr1_1 : Kd.C k43 w A1_1 l1_1.length l1_1) (hc1_1 : l1_1.length ≤ c1_1) (h : impl_WorldSame_1.f k a0_0 l0_1 a1_0 l1_1 = some r) :
  Calls Try.prog 103 #[.agg #[.int .i64 a0_0, .slice A0_1 l0_1.length c0_1], .agg #[.int .i64 a1_0, .slice A1_1 l1_1.length c1_1]] w fun e w' => e = .returned (.bool r) ∧ Below w.heap.size w w' := by
 have hu121 := Try.underlying121
 have HR0_1 := Aside0.mk hr0_1
 have HC0_1 := Aside0.mk hc0_1
 clear hr0_1 hc0_1
 have HR1_1 := Aside0.mk hr1_1
 have HC1_1 := Aside0.mk hc1_1
 clear hr1_1 hc1_1
 have HB := Aside0.mk (Below.refl w.heap.size w)
 have H : (if a0_0 = a1_0 then ((fn_104_105.f k l0_1 l1_1).bind fun t349 => (some t349)) else (some false)) = some r := h
 clear h
 by_cases c3 : a0_0 = a1_0
 ·rw [if_pos c3] at H
  have c3b0 : (a0_0 == a1_0) = true := beq_iff_eq.mpr c3
  have c3b1 : (a0_0 != a1_0) = false := bne_eq_false_iff_eq.mpr c3
  clear c3
  obtain ⟨t349, A4, H⟩ := ob_ H
  obtain rfl := Option.some.inj H
  go_enter Try.func103, Try.ntmps103
  go_wp2_with (first | ((with_reducible refine gate_dst (N := 2) rfl ?_); refine be_ (N := 2) (cs := #[.int .i64 a0_0, .slice A0_1 l0_1.length c0_1]) (t := 121) ?_; intro gb347 hg w5 hbox hb; have BK347 := Aside0.mk (hbox); have GW347 := gw_ (w := w) hg; have GE347 := gw_ (w := w) hg; replace HB := Aside0.mk (below_step bl_ hb); clear hb hbox hg) | ((with_reducible refine gate_dst (N := 3) rfl ?_); refine be_ (N := 3) (cs := #[.int .i64 a1_0, .slice A1_1 l1_1.length c1_1]) (t := 121) ?_; intro gb348 hg w6 hbox hb; have BK348 := Aside0.mk (hbox); have GW348 := gw_ (w := w) hg; have GE348 := gw_ (w := w) hg; replace HB := Aside0.mk (below_step bl_ hb); have NB347_348 := Aside0.mk ((by rw [hg]; exact Nat.ne_of_lt (blk_lt (bk_ BK347)) : gb347 ≠ gb348)); have NB348_347 := Aside0.mk ((by rw [hg]; exact Nat.ne_of_gt (blk_lt (bk_ BK347)) : gb348 ≠ gb347)); replace BK347 := Aside0.mk (blk_below (bk_ BK347) hb); clear hb hbox hg; have hnb7 := NB347_348.out; have hnc7 := NB348_347.out; obtain ⟨hcz8_0, hcz8_1, hfz8_0, hfz8_1⟩ := bx2_ BK347; obtain ⟨hcz9_0, hcz9_1, hfz9_0, hfz9_1⟩ := bx2_ BK348) | (go_at_call 104; (with_reducible refine (fn_104_105.calls k _ _ l0_1 _ _ l1_1  t349 _ ?side1 ?side2 ?side3 ?side4 A4.out).mono ?_); (case side1 => exact ca_ (Kd.C_below HR0_1.out HB.out)); (case side2 => exact HC0_1.out); (case side3 => exact ca_ (Kd.C_below HR1_1.out HB.out)); (case side4 => exact HC1_1.out); rintro e w10 ⟨rfl, hb⟩; replace BK347 := Aside0.mk (blk_below (bk_ BK347) hb); replace BK348 := Aside0.mk (blk_below (bk_ BK348) hb); replace HB := Aside0.mk (below_step bl_ hb); (try clear hb); (try clear hb2); (try clear hk); (try clear hi)))
  go_ret
  exact ⟨sq_, bl_⟩
 ·rw [if_neg c3] at H
  have c3b0 : (a0_0 == a1_0) = false := beq_eq_false_iff_ne.mpr c3
  have c3b1 : (a0_0 != a1_0) = true := bne_iff_ne.mpr c3
  obtain rfl := Option.some.inj H
  go_enter Try.func103, Try.ntmps103
  go_wp2_with (first | ((with_reducible refine gate_dst (N := 2) rfl ?_); refine be_ (N := 2) (cs := #[.int .i64 a0_0, .slice A0_1 l0_1.length c0_1]) (t := 121) ?_; intro gb347 hg w11 hbox hb; have BK347 := Aside0.mk (hbox); have GW347 := gw_ (w := w) hg; have GE347 := gw_ (w := w) hg; replace HB := Aside0.mk (below_step bl_ hb); clear hb hbox hg) | ((with_reducible refine gate_dst (N := 3) rfl ?_); refine be_ (N := 3) (cs := #[.int .i64 a1_0, .slice A1_1 l1_1.length c1_1]) (t := 121) ?_; intro gb348 hg w12 hbox hb; have BK348 := Aside0.mk (hbox); have GW348 := gw_ (w := w) hg; have GE348 := gw_ (w := w) hg; replace HB := Aside0.mk (below_step bl_ hb); have NB347_348 := Aside0.mk ((by rw [hg]; exact Nat.ne_of_lt (blk_lt (bk_ BK347)) : gb347 ≠ gb348)); have NB348_347 := Aside0.mk ((by rw [hg]; exact Nat.ne_of_gt (blk_lt (bk_ BK347)) : gb348 ≠ gb347)); replace BK347 := Aside0.mk (blk_below (bk_ BK347) hb); clear hb hbox hg; have hnb13 := NB347_348.out; have hnc13 := NB348_347.out; obtain ⟨hcz14_0, hcz14_1, hfz14_0, hfz14_1⟩ := bx2_ BK347; obtain ⟨hcz15_0, hcz15_1, hfz15_0, hfz15_1⟩ := bx2_ BK348))
  go_ret
  exact ⟨sq_, bl_⟩
/-! ### fn_100_101: function 100 -/
def fn_100_101.l0 : Nat → List (S126) → List (S126) → Int → Int → Option (Bool)
 | 0, _, _, _, _ => none
 | k + 1, x1, x15, x16, x17 => if x17 < x16 then (if 0 ≤ x17 then (if x17 < (x15.length : Int) then (if x17 < (x1.length : Int) then ((impl_TaskSame.f k ((rd_T126 x15 x17).f0) ((rd_T126 x15 x17).f1) ((rd_T126 x15 x17).f2) ((rd_T126 x15 x17).f3) ((rd_T126 x15 x17).f4) ((rd_T126 x15 x17).f5) ((rd_T126 x15 x17).f6) ((rd_T126 x15 x17).f7) ((rd_T126 x15 x17).f8) ((rd_T126 x1 x17).f0) ((rd_T126 x1 x17).f1) ((rd_T126 x1 x17).f2) ((rd_T126 x1 x17).f3) ((rd_T126 x1 x17).f4) ((rd_T126 x1 x17).f5) ((rd_T126 x1 x17).f6) ((rd_T126 x1 x17).f7) ((rd_T126 x1 x17).f8)).bind fun t354 => (if t354 = true then (fn_100_101.l0 k x1 x15 x16 (wrap64 (x17 + 1))) else (some false))) else (none)) else (none)) else (none)) else (some true)
def fn_100_101.f (k : Nat) (l0 : List (S126)) (l1 : List (S126))  : Option (Bool) := if (l0.length : Int) = (l1.length : Int) then (fn_100_101.l0 k l1 l0 (l0.length : Int) 0) else (some false)
set_option maxHeartbeats 8000000 in
set_option maxRecDepth 100000 in
theorem fn_100_101.calls (k : Nat) (A0 : Option Addr) (c0 : Nat) (l0 : List (S126)) (A1 : Option Addr) (c1 : Nat) (l1 : List (S126))  (r : Bool) (w : World) (hr0 : Kd.C k126 w A0 l0.length l0) (hc0 : l0.length ≤ c0) (hr1 : Kd.C k126 w A1 l1.length l1) (hc1 : l1.length ≤ c1) (h : fn_100_101.f k l0 l1 = some r) :
  Calls Try.prog 100 #[.slice A0 l0.length c0, .slice A1 l1.length c1, .func (.func 101) #[] #[]] w fun e w' => e = .returned (.bool r) ∧ Below w.heap.size w w' := by
 have hu126 := Try.underlying126
 have HR0 := Aside0.mk hr0
 have HC0 := Aside0.mk hc0
 clear hr0 hc0
 have HR1 := Aside0.mk hr1
 have HC1 := Aside0.mk hc1
 clear hr1 hc1
 have HB := Aside0.mk (Below.refl w.heap.size w)
 have H : (if (l0.length : Int) = (l1.length : Int) then (fn_100_101.l0 k l1 l0 (l0.length : Int) 0) else (some false)) = some r := h
 clear h
 by_cases c4 : (l0.length : Int) = (l1.length : Int)
 ·rw [if_pos c4] at H
  have c4b0 : ((l0.length : Int) == (l1.length : Int)) = true := beq_iff_eq.mpr c4
  have c4b1 : ((l0.length : Int) != (l1.length : Int)) = false := bne_eq_false_iff_eq.mpr c4
  have c4b2 : (l0.length == l1.length) = true := by first | simpa using c4 | (simp at c4 ⊢; omega)
  clear c4
  have H' := Aside0.mk H
  clear H
  go_enter Try.func100, Try.ntmps100
  go_wp2
  go_loopg [17] k (fun kq v17 w' => ∃ (x17_1 : Int), v17 = .int .i64 x17_1 ∧ Aside0 (fn_100_101.l0 kq l1 l0 (l0.length : Int) x17_1 = some r) ∧ Aside0 (kq ≤ k) ∧ Aside0 (Below w.heap.size w w'))
  case atStart => exact ⟨(0), sp_, H', ⟨Nat.le_refl _⟩, ⟨bl_⟩⟩
  case round =>
   clear H'
   try clear c1
   try clear p2
   try clear c4
   try clear c4b0
   try clear c4b1
   try clear c4b2
   obtain ⟨x17_1, rfl, HA, HK1, HB⟩ := hrel
   cases gk with
   | zero => exact absurd HA.out (by simp [fn_100_101.l0])
   | succ k1 =>
    have H := HA.out
    clear HA
    simp only [fn_100_101.l0] at H
    by_cases c5 : x17_1 < (l0.length : Int)
    ·rw [if_pos c5] at H
     have c5b0 : decide (x17_1 < (l0.length : Int)) = true := decide_eq_true c5
     clear c5
     by_cases c6 : 0 ≤ x17_1
     ·rw [if_pos c6] at H
      have c6b0 : decide (0 ≤ x17_1) = true := decide_eq_true c6
      clear c6
      by_cases c7 : x17_1 < (l0.length : Int)
      ·rw [if_pos c7] at H
       have c7b0 : decide (x17_1 < (l0.length : Int)) = true := decide_eq_true c7
       clear c7
       by_cases c8 : x17_1 < (l1.length : Int)
       ·rw [if_pos c8] at H
        have c8b0 : decide (x17_1 < (l1.length : Int)) = true := decide_eq_true c8
        clear c8
        obtain ⟨t354, A9, H⟩ := ob_ H
        by_cases c10 : t354 = true
        ·subst c10
         replace H := ip_ H
         have H' := Aside0.mk H
         clear H
         have p350 : 0 ≤ (x17_1 : Int) := od_
         have q350 : x17_1 < (l0.length : Int) := od_
         obtain ⟨ad350, A350_0, c350_0, A350_2, c350_2, A350_8, c350_8, e350, hx350_0, hx350_1, hx350_2, hx350_3, hx350_4, hx350_5, hx350_6, hx350_7, hx350_8, hl350_0, hi350_0, hl350_2, hi350_2, hl350_8, hi350_8⟩ := at_T126 HR0.out x17_1 p350 q350
         cases e350
         replace hx350_0 := kc_ HB hx350_0
         replace hx350_1 := kc_ HB hx350_1
         replace hx350_2 := kc_ HB hx350_2
         replace hx350_3 := kc_ HB hx350_3
         replace hx350_4 := kc_ HB hx350_4
         replace hx350_5 := kc_ HB hx350_5
         replace hx350_6 := kc_ HB hx350_6
         replace hx350_7 := kc_ HB hx350_7
         replace hx350_8 := kc_ HB hx350_8
         have HR350_0 := Aside0.mk hi350_0
         have HC350_0 := Aside0.mk hl350_0
         clear hi350_0 hl350_0
         have HR350_2 := Aside0.mk hi350_2
         have HC350_2 := Aside0.mk hl350_2
         clear hi350_2 hl350_2
         have HR350_8 := Aside0.mk hi350_8
         have HC350_8 := Aside0.mk hl350_8
         clear hi350_8 hl350_8
         replace p350 := eq_true p350
         replace q350 := eq_true q350
         go_wp2_with (first | ((with_reducible refine gate_dst (N := 8) rfl ?_); refine be_ (N := 8) (cs := #[.slice none 0 0, .int .i64 0, .slice none 0 0, .int .i64 0, .int .i64 0, .int .i64 0, .int .i64 0, .int .i64 0, .slice none 0 0]) (t := 126) ?_; intro gb351 hg w11 hbox hb; have BK351 := Aside0.mk (hbox); have GW351 := gw_ (w := w) hg; have GE351 := gw_ (w := w) hg; replace HB := Aside0.mk (below_step bl_ hb); clear hb hbox hg; obtain ⟨hcz12_0, hcz12_1, hcz12_2, hcz12_3, hcz12_4, hcz12_5, hcz12_6, hcz12_7, hcz12_8, hfz12_0, hfz12_1, hfz12_2, hfz12_3, hfz12_4, hfz12_5, hfz12_6, hfz12_7, hfz12_8⟩ := bx9_ BK351; have p352 : 0 ≤ (x17_1 : Int) := od_; have q352 : x17_1 < (l1.length : Int) := od_; obtain ⟨ad352, A352_0, c352_0, A352_2, c352_2, A352_8, c352_8, e352, hx352_0, hx352_1, hx352_2, hx352_3, hx352_4, hx352_5, hx352_6, hx352_7, hx352_8, hl352_0, hi352_0, hl352_2, hi352_2, hl352_8, hi352_8⟩ := at_T126 HR1.out x17_1 p352 q352; cases e352; have hn352_0 : ad352.block ≠ gb351 := nl_ hx352_0 GW351; have hn352_1 : ad352.block ≠ gb351 := nl_ hx352_0 GW351; have hn352_2 : ad352.block ≠ gb351 := nl_ hx352_0 GW351; have hn352_3 : ad352.block ≠ gb351 := nl_ hx352_0 GW351; have hn352_4 : ad352.block ≠ gb351 := nl_ hx352_0 GW351; have hn352_5 : ad352.block ≠ gb351 := nl_ hx352_0 GW351; have hn352_6 : ad352.block ≠ gb351 := nl_ hx352_0 GW351; have hn352_7 : ad352.block ≠ gb351 := nl_ hx352_0 GW351; have hn352_8 : ad352.block ≠ gb351 := nl_ hx352_0 GW351; replace hx352_0 := kc_ HB hx352_0; replace hx352_1 := kc_ HB hx352_1; replace hx352_2 := kc_ HB hx352_2; replace hx352_3 := kc_ HB hx352_3; replace hx352_4 := kc_ HB hx352_4; replace hx352_5 := kc_ HB hx352_5; replace hx352_6 := kc_ HB hx352_6; replace hx352_7 := kc_ HB hx352_7; replace hx352_8 := kc_ HB hx352_8; have HR352_0 := Aside0.mk hi352_0; have HC352_0 := Aside0.mk hl352_0; clear hi352_0 hl352_0; have HR352_2 := Aside0.mk hi352_2; have HC352_2 := Aside0.mk hl352_2; clear hi352_2 hl352_2; have HR352_8 := Aside0.mk hi352_8; have HC352_8 := Aside0.mk hl352_8; clear hi352_8 hl352_8; replace hx352_0 := cf0_1_2_3_4_5_6_7_8_ (fr_ hn352_0) hx352_0; replace hx352_1 := cf0_1_2_3_4_5_6_7_8_ (fr_ hn352_0) hx352_1; replace hx352_2 := cf0_1_2_3_4_5_6_7_8_ (fr_ hn352_0) hx352_2; replace hx352_3 := cf0_1_2_3_4_5_6_7_8_ (fr_ hn352_0) hx352_3; replace hx352_4 := cf0_1_2_3_4_5_6_7_8_ (fr_ hn352_0) hx352_4; replace hx352_5 := cf0_1_2_3_4_5_6_7_8_ (fr_ hn352_0) hx352_5; replace hx352_6 := cf0_1_2_3_4_5_6_7_8_ (fr_ hn352_0) hx352_6; replace hx352_7 := cf0_1_2_3_4_5_6_7_8_ (fr_ hn352_0) hx352_7; replace hx352_8 := cf0_1_2_3_4_5_6_7_8_ (fr_ hn352_0) hx352_8; clear hn352_0; clear hn352_1; clear hn352_2; clear hn352_3; clear hn352_4; clear hn352_5; clear hn352_6; clear hn352_7; clear hn352_8; replace p352 := eq_true p352; replace q352 := eq_true q352) | ((with_reducible refine gate_dst (N := 9) rfl ?_); refine be_ (N := 9) (cs := #[.slice none 0 0, .int .i64 0, .slice none 0 0, .int .i64 0, .int .i64 0, .int .i64 0, .int .i64 0, .int .i64 0, .slice none 0 0]) (t := 126) ?_; intro gb353 hg w13 hbox hb; have BK353 := Aside0.mk (hbox); have GW353 := gw_ (w := w) hg; have GE353 := gw_ (w := w) hg; replace HB := Aside0.mk (below_step bl_ hb); have NB351_353 := Aside0.mk ((by rw [hg]; exact Nat.ne_of_lt (blk_lt (g := gb351) (o := .cells #[.slice A350_0 ((rd_T126 l0 x17_1).f0).length c350_0, .int .i64 ((rd_T126 l0 x17_1).f1), .slice A350_2 ((rd_T126 l0 x17_1).f2).length c350_2, .int .i64 ((rd_T126 l0 x17_1).f3), .int .i64 ((rd_T126 l0 x17_1).f4), .int .i64 ((rd_T126 l0 x17_1).f5), .int .i64 ((rd_T126 l0 x17_1).f6), .int .i64 ((rd_T126 l0 x17_1).f7), .slice A350_8 ((rd_T126 l0 x17_1).f8).length c350_8] 126 (0, 0)) (by (with_reducible repeat (first | refine blk_drewN ?_ _ | refine blk_drew ?_ | refine blk_alloc ?_ _)); apply bq9_8_7_6_5_4_3_2_1_0_; (with_reducible repeat (first | refine blk_drewN ?_ _ | refine blk_drew ?_ | refine blk_alloc ?_ _)); exact BK351.out)) : gb351 ≠ gb353)); have NB353_351 := Aside0.mk ((by rw [hg]; exact Nat.ne_of_gt (blk_lt (g := gb351) (o := .cells #[.slice A350_0 ((rd_T126 l0 x17_1).f0).length c350_0, .int .i64 ((rd_T126 l0 x17_1).f1), .slice A350_2 ((rd_T126 l0 x17_1).f2).length c350_2, .int .i64 ((rd_T126 l0 x17_1).f3), .int .i64 ((rd_T126 l0 x17_1).f4), .int .i64 ((rd_T126 l0 x17_1).f5), .int .i64 ((rd_T126 l0 x17_1).f6), .int .i64 ((rd_T126 l0 x17_1).f7), .slice A350_8 ((rd_T126 l0 x17_1).f8).length c350_8] 126 (0, 0)) (by (with_reducible repeat (first | refine blk_drewN ?_ _ | refine blk_drew ?_ | refine blk_alloc ?_ _)); apply bq9_8_7_6_5_4_3_2_1_0_; (with_reducible repeat (first | refine blk_drewN ?_ _ | refine blk_drew ?_ | refine blk_alloc ?_ _)); exact BK351.out)) : gb353 ≠ gb351)); replace BK351 := Aside0.mk (blk_below (g := gb351) (o := .cells #[.slice A350_0 ((rd_T126 l0 x17_1).f0).length c350_0, .int .i64 ((rd_T126 l0 x17_1).f1), .slice A350_2 ((rd_T126 l0 x17_1).f2).length c350_2, .int .i64 ((rd_T126 l0 x17_1).f3), .int .i64 ((rd_T126 l0 x17_1).f4), .int .i64 ((rd_T126 l0 x17_1).f5), .int .i64 ((rd_T126 l0 x17_1).f6), .int .i64 ((rd_T126 l0 x17_1).f7), .slice A350_8 ((rd_T126 l0 x17_1).f8).length c350_8] 126 (0, 0)) (by (with_reducible repeat (first | refine blk_drewN ?_ _ | refine blk_drew ?_ | refine blk_alloc ?_ _)); apply bq9_8_7_6_5_4_3_2_1_0_; (with_reducible repeat (first | refine blk_drewN ?_ _ | refine blk_drew ?_ | refine blk_alloc ?_ _)); exact BK351.out) hb); clear hb hbox hg; have hnb14 := NB353_351.out; have hnc14 := NB351_353.out; obtain ⟨hcz15_0, hcz15_1, hcz15_2, hcz15_3, hcz15_4, hcz15_5, hcz15_6, hcz15_7, hcz15_8, hfz15_0, hfz15_1, hfz15_2, hfz15_3, hfz15_4, hfz15_5, hfz15_6, hfz15_7, hfz15_8⟩ := bx9_ BK353; obtain ⟨hcz16_0, hcz16_1, hcz16_2, hcz16_3, hcz16_4, hcz16_5, hcz16_6, hcz16_7, hcz16_8, hfz16_0, hfz16_1, hfz16_2, hfz16_3, hfz16_4, hfz16_5, hfz16_6, hfz16_7, hfz16_8⟩ := bx9_ BK351) | (go_at_call 101; (with_reducible refine (impl_TaskSame.calls k1 _ _ ((rd_T126 l0 x17_1).f0) ((rd_T126 l0 x17_1).f1) _ _ ((rd_T126 l0 x17_1).f2) ((rd_T126 l0 x17_1).f3) ((rd_T126 l0 x17_1).f4) ((rd_T126 l0 x17_1).f5) ((rd_T126 l0 x17_1).f6) ((rd_T126 l0 x17_1).f7) _ _ ((rd_T126 l0 x17_1).f8) _ _ ((rd_T126 l1 x17_1).f0) ((rd_T126 l1 x17_1).f1) _ _ ((rd_T126 l1 x17_1).f2) ((rd_T126 l1 x17_1).f3) ((rd_T126 l1 x17_1).f4) ((rd_T126 l1 x17_1).f5) ((rd_T126 l1 x17_1).f6) ((rd_T126 l1 x17_1).f7) _ _ ((rd_T126 l1 x17_1).f8) true _ ?side1 ?side2 ?side3 ?side4 ?side5 ?side6 ?side7 ?side8 ?side9 ?side10 ?side11 ?side12 A9.out).mono ?_); (case side1 => exact Kd.C_below HR350_0.out bl_); (case side2 => exact HC350_0.out); (case side3 => exact Kd.C_below HR350_2.out bl_); (case side4 => exact HC350_2.out); (case side5 => exact Kd.C_below HR350_8.out bl_); (case side6 => exact HC350_8.out); (case side7 => exact Kd.C_below HR352_0.out bl_); (case side8 => exact HC352_0.out); (case side9 => exact Kd.C_below HR352_2.out bl_); (case side10 => exact HC352_2.out); (case side11 => exact Kd.C_below HR352_8.out bl_); (case side12 => exact HC352_8.out); rintro e w17 ⟨rfl, hb⟩; replace BK351 := Aside0.mk (blk_below (g := gb351) (o := .cells #[.slice A350_0 ((rd_T126 l0 x17_1).f0).length c350_0, .int .i64 ((rd_T126 l0 x17_1).f1), .slice A350_2 ((rd_T126 l0 x17_1).f2).length c350_2, .int .i64 ((rd_T126 l0 x17_1).f3), .int .i64 ((rd_T126 l0 x17_1).f4), .int .i64 ((rd_T126 l0 x17_1).f5), .int .i64 ((rd_T126 l0 x17_1).f6), .int .i64 ((rd_T126 l0 x17_1).f7), .slice A350_8 ((rd_T126 l0 x17_1).f8).length c350_8] 126 (0, 0)) (by (with_reducible repeat (first | refine blk_drewN ?_ _ | refine blk_drew ?_ | refine blk_alloc ?_ _)); refine blk_far ?_ NB351_353.out _; (with_reducible repeat (first | refine blk_drewN ?_ _ | refine blk_drew ?_ | refine blk_alloc ?_ _)); refine blk_far ?_ NB351_353.out _; (with_reducible repeat (first | refine blk_drewN ?_ _ | refine blk_drew ?_ | refine blk_alloc ?_ _)); refine blk_far ?_ NB351_353.out _; (with_reducible repeat (first | refine blk_drewN ?_ _ | refine blk_drew ?_ | refine blk_alloc ?_ _)); refine blk_far ?_ NB351_353.out _; (with_reducible repeat (first | refine blk_drewN ?_ _ | refine blk_drew ?_ | refine blk_alloc ?_ _)); refine blk_far ?_ NB351_353.out _; (with_reducible repeat (first | refine blk_drewN ?_ _ | refine blk_drew ?_ | refine blk_alloc ?_ _)); refine blk_far ?_ NB351_353.out _; (with_reducible repeat (first | refine blk_drewN ?_ _ | refine blk_drew ?_ | refine blk_alloc ?_ _)); refine blk_far ?_ NB351_353.out _; (with_reducible repeat (first | refine blk_drewN ?_ _ | refine blk_drew ?_ | refine blk_alloc ?_ _)); refine blk_far ?_ NB351_353.out _; (with_reducible repeat (first | refine blk_drewN ?_ _ | refine blk_drew ?_ | refine blk_alloc ?_ _)); refine blk_far ?_ NB351_353.out _; (with_reducible repeat (first | refine blk_drewN ?_ _ | refine blk_drew ?_ | refine blk_alloc ?_ _)); exact BK351.out) hb); replace BK353 := Aside0.mk (blk_below (g := gb353) (o := .cells #[.slice A352_0 ((rd_T126 l1 x17_1).f0).length c352_0, .int .i64 ((rd_T126 l1 x17_1).f1), .slice A352_2 ((rd_T126 l1 x17_1).f2).length c352_2, .int .i64 ((rd_T126 l1 x17_1).f3), .int .i64 ((rd_T126 l1 x17_1).f4), .int .i64 ((rd_T126 l1 x17_1).f5), .int .i64 ((rd_T126 l1 x17_1).f6), .int .i64 ((rd_T126 l1 x17_1).f7), .slice A352_8 ((rd_T126 l1 x17_1).f8).length c352_8] 126 (0, 0)) (by (with_reducible repeat (first | refine blk_drewN ?_ _ | refine blk_drew ?_ | refine blk_alloc ?_ _)); apply bq9_8_7_6_5_4_3_2_1_0_; (with_reducible repeat (first | refine blk_drewN ?_ _ | refine blk_drew ?_ | refine blk_alloc ?_ _)); exact BK353.out) hb); replace HB := Aside0.mk (below_step bl_ hb); (try clear hb); (try clear hb2); (try clear hk); (try clear hi)))
         go_roundg k1
         case measure => have := HK1.out; omega
         case rel => exact ⟨(wrap64 (x17_1 + 1)), sp_, H', ⟨by have := HK1.out; omega⟩, ⟨bl_⟩⟩
        ·replace c10 := Bool.eq_false_iff.mpr c10
         subst c10
         replace H := in_ H
         obtain rfl := Option.some.inj H
         have p350 : 0 ≤ (x17_1 : Int) := od_
         have q350 : x17_1 < (l0.length : Int) := od_
         obtain ⟨ad350, A350_0, c350_0, A350_2, c350_2, A350_8, c350_8, e350, hx350_0, hx350_1, hx350_2, hx350_3, hx350_4, hx350_5, hx350_6, hx350_7, hx350_8, hl350_0, hi350_0, hl350_2, hi350_2, hl350_8, hi350_8⟩ := at_T126 HR0.out x17_1 p350 q350
         cases e350
         replace hx350_0 := kc_ HB hx350_0
         replace hx350_1 := kc_ HB hx350_1
         replace hx350_2 := kc_ HB hx350_2
         replace hx350_3 := kc_ HB hx350_3
         replace hx350_4 := kc_ HB hx350_4
         replace hx350_5 := kc_ HB hx350_5
         replace hx350_6 := kc_ HB hx350_6
         replace hx350_7 := kc_ HB hx350_7
         replace hx350_8 := kc_ HB hx350_8
         have HR350_0 := Aside0.mk hi350_0
         have HC350_0 := Aside0.mk hl350_0
         clear hi350_0 hl350_0
         have HR350_2 := Aside0.mk hi350_2
         have HC350_2 := Aside0.mk hl350_2
         clear hi350_2 hl350_2
         have HR350_8 := Aside0.mk hi350_8
         have HC350_8 := Aside0.mk hl350_8
         clear hi350_8 hl350_8
         replace p350 := eq_true p350
         replace q350 := eq_true q350
         go_wp2_with (first | ((with_reducible refine gate_dst (N := 8) rfl ?_); refine be_ (N := 8) (cs := #[.slice none 0 0, .int .i64 0, .slice none 0 0, .int .i64 0, .int .i64 0, .int .i64 0, .int .i64 0, .int .i64 0, .slice none 0 0]) (t := 126) ?_; intro gb351 hg w18 hbox hb; have BK351 := Aside0.mk (hbox); have GW351 := gw_ (w := w) hg; have GE351 := gw_ (w := w) hg; replace HB := Aside0.mk (below_step bl_ hb); clear hb hbox hg; obtain ⟨hcz19_0, hcz19_1, hcz19_2, hcz19_3, hcz19_4, hcz19_5, hcz19_6, hcz19_7, hcz19_8, hfz19_0, hfz19_1, hfz19_2, hfz19_3, hfz19_4, hfz19_5, hfz19_6, hfz19_7, hfz19_8⟩ := bx9_ BK351; have p352 : 0 ≤ (x17_1 : Int) := od_; have q352 : x17_1 < (l1.length : Int) := od_; obtain ⟨ad352, A352_0, c352_0, A352_2, c352_2, A352_8, c352_8, e352, hx352_0, hx352_1, hx352_2, hx352_3, hx352_4, hx352_5, hx352_6, hx352_7, hx352_8, hl352_0, hi352_0, hl352_2, hi352_2, hl352_8, hi352_8⟩ := at_T126 HR1.out x17_1 p352 q352; cases e352; have hn352_0 : ad352.block ≠ gb351 := nl_ hx352_0 GW351; have hn352_1 : ad352.block ≠ gb351 := nl_ hx352_0 GW351; have hn352_2 : ad352.block ≠ gb351 := nl_ hx352_0 GW351; have hn352_3 : ad352.block ≠ gb351 := nl_ hx352_0 GW351; have hn352_4 : ad352.block ≠ gb351 := nl_ hx352_0 GW351; have hn352_5 : ad352.block ≠ gb351 := nl_ hx352_0 GW351; have hn352_6 : ad352.block ≠ gb351 := nl_ hx352_0 GW351; have hn352_7 : ad352.block ≠ gb351 := nl_ hx352_0 GW351; have hn352_8 : ad352.block ≠ gb351 := nl_ hx352_0 GW351; replace hx352_0 := kc_ HB hx352_0; replace hx352_1 := kc_ HB hx352_1; replace hx352_2 := kc_ HB hx352_2; replace hx352_3 := kc_ HB hx352_3; replace hx352_4 := kc_ HB hx352_4; replace hx352_5 := kc_ HB hx352_5; replace hx352_6 := kc_ HB hx352_6; replace hx352_7 := kc_ HB hx352_7; replace hx352_8 := kc_ HB hx352_8; have HR352_0 := Aside0.mk hi352_0; have HC352_0 := Aside0.mk hl352_0; clear hi352_0 hl352_0; have HR352_2 := Aside0.mk hi352_2; have HC352_2 := Aside0.mk hl352_2; clear hi352_2 hl352_2; have HR352_8 := Aside0.mk hi352_8; have HC352_8 := Aside0.mk hl352_8; clear hi352_8 hl352_8; replace hx352_0 := cf0_1_2_3_4_5_6_7_8_ (fr_ hn352_0) hx352_0; replace hx352_1 := cf0_1_2_3_4_5_6_7_8_ (fr_ hn352_0) hx352_1; replace hx352_2 := cf0_1_2_3_4_5_6_7_8_ (fr_ hn352_0) hx352_2; replace hx352_3 := cf0_1_2_3_4_5_6_7_8_ (fr_ hn352_0) hx352_3; replace hx352_4 := cf0_1_2_3_4_5_6_7_8_ (fr_ hn352_0) hx352_4; replace hx352_5 := cf0_1_2_3_4_5_6_7_8_ (fr_ hn352_0) hx352_5; replace hx352_6 := cf0_1_2_3_4_5_6_7_8_ (fr_ hn352_0) hx352_6; replace hx352_7 := cf0_1_2_3_4_5_6_7_8_ (fr_ hn352_0) hx352_7; replace hx352_8 := cf0_1_2_3_4_5_6_7_8_ (fr_ hn352_0) hx352_8; clear hn352_0; clear hn352_1; clear hn352_2; clear hn352_3; clear hn352_4; clear hn352_5; clear hn352_6; clear hn352_7; clear hn352_8; replace p352 := eq_true p352; replace q352 := eq_true q352) | ((with_reducible refine gate_dst (N := 9) rfl ?_); refine be_ (N := 9) (cs := #[.slice none 0 0, .int .i64 0, .slice none 0 0, .int .i64 0, .int .i64 0, .int .i64 0, .int .i64 0, .int .i64 0, .slice none 0 0]) (t := 126) ?_; intro gb353 hg w20 hbox hb; have BK353 := Aside0.mk (hbox); have GW353 := gw_ (w := w) hg; have GE353 := gw_ (w := w) hg; replace HB := Aside0.mk (below_step bl_ hb); have NB351_353 := Aside0.mk ((by rw [hg]; exact Nat.ne_of_lt (blk_lt (g := gb351) (o := .cells #[.slice A350_0 ((rd_T126 l0 x17_1).f0).length c350_0, .int .i64 ((rd_T126 l0 x17_1).f1), .slice A350_2 ((rd_T126 l0 x17_1).f2).length c350_2, .int .i64 ((rd_T126 l0 x17_1).f3), .int .i64 ((rd_T126 l0 x17_1).f4), .int .i64 ((rd_T126 l0 x17_1).f5), .int .i64 ((rd_T126 l0 x17_1).f6), .int .i64 ((rd_T126 l0 x17_1).f7), .slice A350_8 ((rd_T126 l0 x17_1).f8).length c350_8] 126 (0, 0)) (by (with_reducible repeat (first | refine blk_drewN ?_ _ | refine blk_drew ?_ | refine blk_alloc ?_ _)); apply bq9_8_7_6_5_4_3_2_1_0_; (with_reducible repeat (first | refine blk_drewN ?_ _ | refine blk_drew ?_ | refine blk_alloc ?_ _)); exact BK351.out)) : gb351 ≠ gb353)); have NB353_351 := Aside0.mk ((by rw [hg]; exact Nat.ne_of_gt (blk_lt (g := gb351) (o := .cells #[.slice A350_0 ((rd_T126 l0 x17_1).f0).length c350_0, .int .i64 ((rd_T126 l0 x17_1).f1), .slice A350_2 ((rd_T126 l0 x17_1).f2).length c350_2, .int .i64 ((rd_T126 l0 x17_1).f3), .int .i64 ((rd_T126 l0 x17_1).f4), .int .i64 ((rd_T126 l0 x17_1).f5), .int .i64 ((rd_T126 l0 x17_1).f6), .int .i64 ((rd_T126 l0 x17_1).f7), .slice A350_8 ((rd_T126 l0 x17_1).f8).length c350_8] 126 (0, 0)) (by (with_reducible repeat (first | refine blk_drewN ?_ _ | refine blk_drew ?_ | refine blk_alloc ?_ _)); apply bq9_8_7_6_5_4_3_2_1_0_; (with_reducible repeat (first | refine blk_drewN ?_ _ | refine blk_drew ?_ | refine blk_alloc ?_ _)); exact BK351.out)) : gb353 ≠ gb351)); replace BK351 := Aside0.mk (blk_below (g := gb351) (o := .cells #[.slice A350_0 ((rd_T126 l0 x17_1).f0).length c350_0, .int .i64 ((rd_T126 l0 x17_1).f1), .slice A350_2 ((rd_T126 l0 x17_1).f2).length c350_2, .int .i64 ((rd_T126 l0 x17_1).f3), .int .i64 ((rd_T126 l0 x17_1).f4), .int .i64 ((rd_T126 l0 x17_1).f5), .int .i64 ((rd_T126 l0 x17_1).f6), .int .i64 ((rd_T126 l0 x17_1).f7), .slice A350_8 ((rd_T126 l0 x17_1).f8).length c350_8] 126 (0, 0)) (by (with_reducible repeat (first | refine blk_drewN ?_ _ | refine blk_drew ?_ | refine blk_alloc ?_ _)); apply bq9_8_7_6_5_4_3_2_1_0_; (with_reducible repeat (first | refine blk_drewN ?_ _ | refine blk_drew ?_ | refine blk_alloc ?_ _)); exact BK351.out) hb); clear hb hbox hg; have hnb21 := NB353_351.out; have hnc21 := NB351_353.out; obtain ⟨hcz22_0, hcz22_1, hcz22_2, hcz22_3, hcz22_4, hcz22_5, hcz22_6, hcz22_7, hcz22_8, hfz22_0, hfz22_1, hfz22_2, hfz22_3, hfz22_4, hfz22_5, hfz22_6, hfz22_7, hfz22_8⟩ := bx9_ BK353; obtain ⟨hcz23_0, hcz23_1, hcz23_2, hcz23_3, hcz23_4, hcz23_5, hcz23_6, hcz23_7, hcz23_8, hfz23_0, hfz23_1, hfz23_2, hfz23_3, hfz23_4, hfz23_5, hfz23_6, hfz23_7, hfz23_8⟩ := bx9_ BK351) | (go_at_call 101; (with_reducible refine (impl_TaskSame.calls k1 _ _ ((rd_T126 l0 x17_1).f0) ((rd_T126 l0 x17_1).f1) _ _ ((rd_T126 l0 x17_1).f2) ((rd_T126 l0 x17_1).f3) ((rd_T126 l0 x17_1).f4) ((rd_T126 l0 x17_1).f5) ((rd_T126 l0 x17_1).f6) ((rd_T126 l0 x17_1).f7) _ _ ((rd_T126 l0 x17_1).f8) _ _ ((rd_T126 l1 x17_1).f0) ((rd_T126 l1 x17_1).f1) _ _ ((rd_T126 l1 x17_1).f2) ((rd_T126 l1 x17_1).f3) ((rd_T126 l1 x17_1).f4) ((rd_T126 l1 x17_1).f5) ((rd_T126 l1 x17_1).f6) ((rd_T126 l1 x17_1).f7) _ _ ((rd_T126 l1 x17_1).f8) false _ ?side1 ?side2 ?side3 ?side4 ?side5 ?side6 ?side7 ?side8 ?side9 ?side10 ?side11 ?side12 A9.out).mono ?_); (case side1 => exact Kd.C_below HR350_0.out bl_); (case side2 => exact HC350_0.out); (case side3 => exact Kd.C_below HR350_2.out bl_); (case side4 => exact HC350_2.out); (case side5 => exact Kd.C_below HR350_8.out bl_); (case side6 => exact HC350_8.out); (case side7 => exact Kd.C_below HR352_0.out bl_); (case side8 => exact HC352_0.out); (case side9 => exact Kd.C_below HR352_2.out bl_); (case side10 => exact HC352_2.out); (case side11 => exact Kd.C_below HR352_8.out bl_); (case side12 => exact HC352_8.out); rintro e w24 ⟨rfl, hb⟩; replace BK351 := Aside0.mk (blk_below (g := gb351) (o := .cells #[.slice A350_0 ((rd_T126 l0 x17_1).f0).length c350_0, .int .i64 ((rd_T126 l0 x17_1).f1), .slice A350_2 ((rd_T126 l0 x17_1).f2).length c350_2, .int .i64 ((rd_T126 l0 x17_1).f3), .int .i64 ((rd_T126 l0 x17_1).f4), .int .i64 ((rd_T126 l0 x17_1).f5), .int .i64 ((rd_T126 l0 x17_1).f6), .int .i64 ((rd_T126 l0 x17_1).f7), .slice A350_8 ((rd_T126 l0 x17_1).f8).length c350_8] 126 (0, 0)) (by (with_reducible repeat (first | refine blk_drewN ?_ _ | refine blk_drew ?_ | refine blk_alloc ?_ _)); refine blk_far ?_ NB351_353.out _; (with_reducible repeat (first | refine blk_drewN ?_ _ | refine blk_drew ?_ | refine blk_alloc ?_ _)); refine blk_far ?_ NB351_353.out _; (with_reducible repeat (first | refine blk_drewN ?_ _ | refine blk_drew ?_ | refine blk_alloc ?_ _)); refine blk_far ?_ NB351_353.out _; (with_reducible repeat (first | refine blk_drewN ?_ _ | refine blk_drew ?_ | refine blk_alloc ?_ _)); refine blk_far ?_ NB351_353.out _; (with_reducible repeat (first | refine blk_drewN ?_ _ | refine blk_drew ?_ | refine blk_alloc ?_ _)); refine blk_far ?_ NB351_353.out _; (with_reducible repeat (first | refine blk_drewN ?_ _ | refine blk_drew ?_ | refine blk_alloc ?_ _)); refine blk_far ?_ NB351_353.out _; (with_reducible repeat (first | refine blk_drewN ?_ _ | refine blk_drew ?_ | refine blk_alloc ?_ _)); refine blk_far ?_ NB351_353.out _; (with_reducible repeat (first | refine blk_drewN ?_ _ | refine blk_drew ?_ | refine blk_alloc ?_ _)); refine blk_far ?_ NB351_353.out _; (with_reducible repeat (first | refine blk_drewN ?_ _ | refine blk_drew ?_ | refine blk_alloc ?_ _)); refine blk_far ?_ NB351_353.out _; (with_reducible repeat (first | refine blk_drewN ?_ _ | refine blk_drew ?_ | refine blk_alloc ?_ _)); exact BK351.out) hb); replace BK353 := Aside0.mk (blk_below (g := gb353) (o := .cells #[.slice A352_0 ((rd_T126 l1 x17_1).f0).length c352_0, .int .i64 ((rd_T126 l1 x17_1).f1), .slice A352_2 ((rd_T126 l1 x17_1).f2).length c352_2, .int .i64 ((rd_T126 l1 x17_1).f3), .int .i64 ((rd_T126 l1 x17_1).f4), .int .i64 ((rd_T126 l1 x17_1).f5), .int .i64 ((rd_T126 l1 x17_1).f6), .int .i64 ((rd_T126 l1 x17_1).f7), .slice A352_8 ((rd_T126 l1 x17_1).f8).length c352_8] 126 (0, 0)) (by (with_reducible repeat (first | refine blk_drewN ?_ _ | refine blk_drew ?_ | refine blk_alloc ?_ _)); apply bq9_8_7_6_5_4_3_2_1_0_; (with_reducible repeat (first | refine blk_drewN ?_ _ | refine blk_drew ?_ | refine blk_alloc ?_ _)); exact BK353.out) hb); replace HB := Aside0.mk (below_step bl_ hb); (try clear hb); (try clear hb2); (try clear hk); (try clear hi)))
         go_ret
         exact ⟨sq_, bl_⟩
       ·rw [if_neg c8] at H
        exact absurd H (by simp)
      ·rw [if_neg c7] at H
       exact absurd H (by simp)
     ·rw [if_neg c6] at H
      exact absurd H (by simp)
    ·rw [if_neg c5] at H
     have c5b0 : decide (x17_1 < (l0.length : Int)) = false := decide_eq_false c5
     clear c5
     obtain rfl := Option.some.inj H
     go_wp2
     go_ret
     exact ⟨sq_, bl_⟩
 ·rw [if_neg c4] at H
  have c4b0 : ((l0.length : Int) == (l1.length : Int)) = false := beq_eq_false_iff_ne.mpr c4
  have c4b1 : ((l0.length : Int) != (l1.length : Int)) = true := bne_iff_ne.mpr c4
  have c4b2 : (l0.length == l1.length) = false := by first | simpa using c4 | (simp at c4 ⊢; omega)
  obtain rfl := Option.some.inj H
  go_enter Try.func100, Try.ntmps100
  go_wp2
  go_ret
  exact ⟨sq_, bl_⟩
/-! ### fn_102_103: function 102 -/
def fn_102_103.l0 : Nat → List (S121) → List (S121) → Int → Int → Option (Bool)
 | 0, _, _, _, _ => none
 | k + 1, x1, x15, x16, x17 => if x17 < x16 then (if 0 ≤ x17 then (if x17 < (x15.length : Int) then (if x17 < (x1.length : Int) then ((impl_WorldSame_1.f k ((rd_T121 x15 x17).f0) ((rd_T121 x15 x17).f1) ((rd_T121 x1 x17).f0) ((rd_T121 x1 x17).f1)).bind fun t354 => (if t354 = true then (fn_102_103.l0 k x1 x15 x16 (wrap64 (x17 + 1))) else (some false))) else (none)) else (none)) else (none)) else (some true)
def fn_102_103.f (k : Nat) (l0 : List (S121)) (l1 : List (S121))  : Option (Bool) := if (l0.length : Int) = (l1.length : Int) then (fn_102_103.l0 k l1 l0 (l0.length : Int) 0) else (some false)
set_option maxHeartbeats 8000000 in
set_option maxRecDepth 100000 in
theorem fn_102_103.calls (k : Nat) (A0 : Option Addr) (c0 : Nat) (l0 : List (S121)) (A1 : Option Addr) (c1 : Nat) (l1 : List (S121))  (r : Bool) (w : World) (hr0 : Kd.C k121 w A0 l0.length l0) (hc0 : l0.length ≤ c0) (hr1 : Kd.C k121 w A1 l1.length l1) (hc1 : l1.length ≤ c1) (h : fn_102_103.f k l0 l1 = some r) :
  Calls Try.prog 102 #[.slice A0 l0.length c0, .slice A1 l1.length c1, .func (.func 103) #[] #[]] w fun e w' => e = .returned (.bool r) ∧ Below w.heap.size w w' := by
 have hu121 := Try.underlying121
 have HR0 := Aside0.mk hr0
 have HC0 := Aside0.mk hc0
 clear hr0 hc0
 have HR1 := Aside0.mk hr1
 have HC1 := Aside0.mk hc1
 clear hr1 hc1
 have HB := Aside0.mk (Below.refl w.heap.size w)
 have H : (if (l0.length : Int) = (l1.length : Int) then (fn_102_103.l0 k l1 l0 (l0.length : Int) 0) else (some false)) = some r := h
 clear h
 by_cases c4 : (l0.length : Int) = (l1.length : Int)
 ·rw [if_pos c4] at H
  have c4b0 : ((l0.length : Int) == (l1.length : Int)) = true := beq_iff_eq.mpr c4
  have c4b1 : ((l0.length : Int) != (l1.length : Int)) = false := bne_eq_false_iff_eq.mpr c4
  have c4b2 : (l0.length == l1.length) = true := by first | simpa using c4 | (simp at c4 ⊢; omega)
  clear c4
  have H' := Aside0.mk H
  clear H
  go_enter Try.func102, Try.ntmps102
  go_wp2
  go_loopg [17] k (fun kq v17 w' => ∃ (x17_1 : Int), v17 = .int .i64 x17_1 ∧ Aside0 (fn_102_103.l0 kq l1 l0 (l0.length : Int) x17_1 = some r) ∧ Aside0 (kq ≤ k) ∧ Aside0 (Below w.heap.size w w'))
  case atStart => exact ⟨(0), sp_, H', ⟨Nat.le_refl _⟩, ⟨bl_⟩⟩
  case round =>
   clear H'
   try clear c1
   try clear p2
   try clear c4
   try clear c4b0
   try clear c4b1
   try clear c4b2
   obtain ⟨x17_1, rfl, HA, HK1, HB⟩ := hrel
   cases gk with
   | zero => exact absurd HA.out (by simp [fn_102_103.l0])
   | succ k1 =>
    have H := HA.out
    clear HA
    simp only [fn_102_103.l0] at H
    by_cases c5 : x17_1 < (l0.length : Int)
    ·rw [if_pos c5] at H
     have c5b0 : decide (x17_1 < (l0.length : Int)) = true := decide_eq_true c5
     clear c5
     by_cases c6 : 0 ≤ x17_1
     ·rw [if_pos c6] at H
      have c6b0 : decide (0 ≤ x17_1) = true := decide_eq_true c6
      clear c6
      by_cases c7 : x17_1 < (l0.length : Int)
      ·rw [if_pos c7] at H
       have c7b0 : decide (x17_1 < (l0.length : Int)) = true := decide_eq_true c7
       clear c7
       by_cases c8 : x17_1 < (l1.length : Int)
       ·rw [if_pos c8] at H
        have c8b0 : decide (x17_1 < (l1.length : Int)) = true := decide_eq_true c8
        clear c8
        obtain ⟨t354, A9, H⟩ := ob_ H
        by_cases c10 : t354 = true
        ·subst c10
         replace H := ip_ H
         have H' := Aside0.mk H
         clear H
         have p350 : 0 ≤ (x17_1 : Int) := od_
         have q350 : x17_1 < (l0.length : Int) := od_
         obtain ⟨ad350, A350_1, c350_1, e350, hx350_0, hx350_1, hl350_1, hi350_1⟩ := at_T121 HR0.out x17_1 p350 q350
         cases e350
         replace hx350_0 := kc_ HB hx350_0
         replace hx350_1 := kc_ HB hx350_1
         have HR350_1 := Aside0.mk hi350_1
         have HC350_1 := Aside0.mk hl350_1
         clear hi350_1 hl350_1
         replace p350 := eq_true p350
         replace q350 := eq_true q350
         go_wp2_with (first | ((with_reducible refine gate_dst (N := 8) rfl ?_); refine be_ (N := 8) (cs := #[.int .i64 0, .slice none 0 0]) (t := 121) ?_; intro gb351 hg w11 hbox hb; have BK351 := Aside0.mk (hbox); have GW351 := gw_ (w := w) hg; have GE351 := gw_ (w := w) hg; replace HB := Aside0.mk (below_step bl_ hb); clear hb hbox hg; obtain ⟨hcz12_0, hcz12_1, hfz12_0, hfz12_1⟩ := bx2_ BK351; have p352 : 0 ≤ (x17_1 : Int) := od_; have q352 : x17_1 < (l1.length : Int) := od_; obtain ⟨ad352, A352_1, c352_1, e352, hx352_0, hx352_1, hl352_1, hi352_1⟩ := at_T121 HR1.out x17_1 p352 q352; cases e352; have hn352_0 : ad352.block ≠ gb351 := nl_ hx352_0 GW351; have hn352_1 : ad352.block ≠ gb351 := nl_ hx352_0 GW351; replace hx352_0 := kc_ HB hx352_0; replace hx352_1 := kc_ HB hx352_1; have HR352_1 := Aside0.mk hi352_1; have HC352_1 := Aside0.mk hl352_1; clear hi352_1 hl352_1; replace hx352_0 := cf0_1_ (fr_ hn352_0) hx352_0; replace hx352_1 := cf0_1_ (fr_ hn352_0) hx352_1; clear hn352_0; clear hn352_1; replace p352 := eq_true p352; replace q352 := eq_true q352) | ((with_reducible refine gate_dst (N := 9) rfl ?_); refine be_ (N := 9) (cs := #[.int .i64 0, .slice none 0 0]) (t := 121) ?_; intro gb353 hg w13 hbox hb; have BK353 := Aside0.mk (hbox); have GW353 := gw_ (w := w) hg; have GE353 := gw_ (w := w) hg; replace HB := Aside0.mk (below_step bl_ hb); have NB351_353 := Aside0.mk ((by rw [hg]; exact Nat.ne_of_lt (blk_lt (g := gb351) (o := .cells #[.int .i64 ((rd_T121 l0 x17_1).f0), .slice A350_1 ((rd_T121 l0 x17_1).f1).length c350_1] 121 (0, 0)) (by (with_reducible repeat (first | refine blk_drewN ?_ _ | refine blk_drew ?_ | refine blk_alloc ?_ _)); apply bq2_1_0_; (with_reducible repeat (first | refine blk_drewN ?_ _ | refine blk_drew ?_ | refine blk_alloc ?_ _)); exact BK351.out)) : gb351 ≠ gb353)); have NB353_351 := Aside0.mk ((by rw [hg]; exact Nat.ne_of_gt (blk_lt (g := gb351) (o := .cells #[.int .i64 ((rd_T121 l0 x17_1).f0), .slice A350_1 ((rd_T121 l0 x17_1).f1).length c350_1] 121 (0, 0)) (by (with_reducible repeat (first | refine blk_drewN ?_ _ | refine blk_drew ?_ | refine blk_alloc ?_ _)); apply bq2_1_0_; (with_reducible repeat (first | refine blk_drewN ?_ _ | refine blk_drew ?_ | refine blk_alloc ?_ _)); exact BK351.out)) : gb353 ≠ gb351)); replace BK351 := Aside0.mk (blk_below (g := gb351) (o := .cells #[.int .i64 ((rd_T121 l0 x17_1).f0), .slice A350_1 ((rd_T121 l0 x17_1).f1).length c350_1] 121 (0, 0)) (by (with_reducible repeat (first | refine blk_drewN ?_ _ | refine blk_drew ?_ | refine blk_alloc ?_ _)); apply bq2_1_0_; (with_reducible repeat (first | refine blk_drewN ?_ _ | refine blk_drew ?_ | refine blk_alloc ?_ _)); exact BK351.out) hb); clear hb hbox hg; have hnb14 := NB353_351.out; have hnc14 := NB351_353.out; obtain ⟨hcz15_0, hcz15_1, hfz15_0, hfz15_1⟩ := bx2_ BK353; obtain ⟨hcz16_0, hcz16_1, hfz16_0, hfz16_1⟩ := bx2_ BK351) | (go_at_call 103; (with_reducible refine (impl_WorldSame_1.calls k1 ((rd_T121 l0 x17_1).f0) _ _ ((rd_T121 l0 x17_1).f1) ((rd_T121 l1 x17_1).f0) _ _ ((rd_T121 l1 x17_1).f1) true _ ?side1 ?side2 ?side3 ?side4 A9.out).mono ?_); (case side1 => exact Kd.C_below HR350_1.out bl_); (case side2 => exact HC350_1.out); (case side3 => exact Kd.C_below HR352_1.out bl_); (case side4 => exact HC352_1.out); rintro e w17 ⟨rfl, hb⟩; replace BK351 := Aside0.mk (blk_below (g := gb351) (o := .cells #[.int .i64 ((rd_T121 l0 x17_1).f0), .slice A350_1 ((rd_T121 l0 x17_1).f1).length c350_1] 121 (0, 0)) (by (with_reducible repeat (first | refine blk_drewN ?_ _ | refine blk_drew ?_ | refine blk_alloc ?_ _)); refine blk_far ?_ NB351_353.out _; (with_reducible repeat (first | refine blk_drewN ?_ _ | refine blk_drew ?_ | refine blk_alloc ?_ _)); refine blk_far ?_ NB351_353.out _; (with_reducible repeat (first | refine blk_drewN ?_ _ | refine blk_drew ?_ | refine blk_alloc ?_ _)); exact BK351.out) hb); replace BK353 := Aside0.mk (blk_below (g := gb353) (o := .cells #[.int .i64 ((rd_T121 l1 x17_1).f0), .slice A352_1 ((rd_T121 l1 x17_1).f1).length c352_1] 121 (0, 0)) (by (with_reducible repeat (first | refine blk_drewN ?_ _ | refine blk_drew ?_ | refine blk_alloc ?_ _)); apply bq2_1_0_; (with_reducible repeat (first | refine blk_drewN ?_ _ | refine blk_drew ?_ | refine blk_alloc ?_ _)); exact BK353.out) hb); replace HB := Aside0.mk (below_step bl_ hb); (try clear hb); (try clear hb2); (try clear hk); (try clear hi)))
         go_roundg k1
         case measure => have := HK1.out; omega
         case rel => exact ⟨(wrap64 (x17_1 + 1)), sp_, H', ⟨by have := HK1.out; omega⟩, ⟨bl_⟩⟩
        ·replace c10 := Bool.eq_false_iff.mpr c10
         subst c10
         replace H := in_ H
         obtain rfl := Option.some.inj H
         have p350 : 0 ≤ (x17_1 : Int) := od_
         have q350 : x17_1 < (l0.length : Int) := od_
         obtain ⟨ad350, A350_1, c350_1, e350, hx350_0, hx350_1, hl350_1, hi350_1⟩ := at_T121 HR0.out x17_1 p350 q350
         cases e350
         replace hx350_0 := kc_ HB hx350_0
         replace hx350_1 := kc_ HB hx350_1
         have HR350_1 := Aside0.mk hi350_1
         have HC350_1 := Aside0.mk hl350_1
         clear hi350_1 hl350_1
         replace p350 := eq_true p350
         replace q350 := eq_true q350
         go_wp2_with (first | ((with_reducible refine gate_dst (N := 8) rfl ?_); refine be_ (N := 8) (cs := #[.int .i64 0, .slice none 0 0]) (t := 121) ?_; intro gb351 hg w18 hbox hb; have BK351 := Aside0.mk (hbox); have GW351 := gw_ (w := w) hg; have GE351 := gw_ (w := w) hg; replace HB := Aside0.mk (below_step bl_ hb); clear hb hbox hg; obtain ⟨hcz19_0, hcz19_1, hfz19_0, hfz19_1⟩ := bx2_ BK351; have p352 : 0 ≤ (x17_1 : Int) := od_; have q352 : x17_1 < (l1.length : Int) := od_; obtain ⟨ad352, A352_1, c352_1, e352, hx352_0, hx352_1, hl352_1, hi352_1⟩ := at_T121 HR1.out x17_1 p352 q352; cases e352; have hn352_0 : ad352.block ≠ gb351 := nl_ hx352_0 GW351; have hn352_1 : ad352.block ≠ gb351 := nl_ hx352_0 GW351; replace hx352_0 := kc_ HB hx352_0; replace hx352_1 := kc_ HB hx352_1; have HR352_1 := Aside0.mk hi352_1; have HC352_1 := Aside0.mk hl352_1; clear hi352_1 hl352_1; replace hx352_0 := cf0_1_ (fr_ hn352_0) hx352_0; replace hx352_1 := cf0_1_ (fr_ hn352_0) hx352_1; clear hn352_0; clear hn352_1; replace p352 := eq_true p352; replace q352 := eq_true q352) | ((with_reducible refine gate_dst (N := 9) rfl ?_); refine be_ (N := 9) (cs := #[.int .i64 0, .slice none 0 0]) (t := 121) ?_; intro gb353 hg w20 hbox hb; have BK353 := Aside0.mk (hbox); have GW353 := gw_ (w := w) hg; have GE353 := gw_ (w := w) hg; replace HB := Aside0.mk (below_step bl_ hb); have NB351_353 := Aside0.mk ((by rw [hg]; exact Nat.ne_of_lt (blk_lt (g := gb351) (o := .cells #[.int .i64 ((rd_T121 l0 x17_1).f0), .slice A350_1 ((rd_T121 l0 x17_1).f1).length c350_1] 121 (0, 0)) (by (with_reducible repeat (first | refine blk_drewN ?_ _ | refine blk_drew ?_ | refine blk_alloc ?_ _)); apply bq2_1_0_; (with_reducible repeat (first | refine blk_drewN ?_ _ | refine blk_drew ?_ | refine blk_alloc ?_ _)); exact BK351.out)) : gb351 ≠ gb353)); have NB353_351 := Aside0.mk ((by rw [hg]; exact Nat.ne_of_gt (blk_lt (g := gb351) (o := .cells #[.int .i64 ((rd_T121 l0 x17_1).f0), .slice A350_1 ((rd_T121 l0 x17_1).f1).length c350_1] 121 (0, 0)) (by (with_reducible repeat (first | refine blk_drewN ?_ _ | refine blk_drew ?_ | refine blk_alloc ?_ _)); apply bq2_1_0_; (with_reducible repeat (first | refine blk_drewN ?_ _ | refine blk_drew ?_ | refine blk_alloc ?_ _)); exact BK351.out)) : gb353 ≠ gb351)); replace BK351 := Aside0.mk (blk_below (g := gb351) (o := .cells #[.int .i64 ((rd_T121 l0 x17_1).f0), .slice A350_1 ((rd_T121 l0 x17_1).f1).length c350_1] 121 (0, 0)) (by (with_reducible repeat (first | refine blk_drewN ?_ _ | refine blk_drew ?_ | refine blk_alloc ?_ _)); apply bq2_1_0_; (with_reducible repeat (first | refine blk_drewN ?_ _ | refine blk_drew ?_ | refine blk_alloc ?_ _)); exact BK351.out) hb); clear hb hbox hg; have hnb21 := NB353_351.out; have hnc21 := NB351_353.out; obtain ⟨hcz22_0, hcz22_1, hfz22_0, hfz22_1⟩ := bx2_ BK353; obtain ⟨hcz23_0, hcz23_1, hfz23_0, hfz23_1⟩ := bx2_ BK351) | (go_at_call 103; (with_reducible refine (impl_WorldSame_1.calls k1 ((rd_T121 l0 x17_1).f0) _ _ ((rd_T121 l0 x17_1).f1) ((rd_T121 l1 x17_1).f0) _ _ ((rd_T121 l1 x17_1).f1) false _ ?side1 ?side2 ?side3 ?side4 A9.out).mono ?_); (case side1 => exact Kd.C_below HR350_1.out bl_); (case side2 => exact HC350_1.out); (case side3 => exact Kd.C_below HR352_1.out bl_); (case side4 => exact HC352_1.out); rintro e w24 ⟨rfl, hb⟩; replace BK351 := Aside0.mk (blk_below (g := gb351) (o := .cells #[.int .i64 ((rd_T121 l0 x17_1).f0), .slice A350_1 ((rd_T121 l0 x17_1).f1).length c350_1] 121 (0, 0)) (by (with_reducible repeat (first | refine blk_drewN ?_ _ | refine blk_drew ?_ | refine blk_alloc ?_ _)); refine blk_far ?_ NB351_353.out _; (with_reducible repeat (first | refine blk_drewN ?_ _ | refine blk_drew ?_ | refine blk_alloc ?_ _)); refine blk_far ?_ NB351_353.out _; (with_reducible repeat (first | refine blk_drewN ?_ _ | refine blk_drew ?_ | refine blk_alloc ?_ _)); exact BK351.out) hb); replace BK353 := Aside0.mk (blk_below (g := gb353) (o := .cells #[.int .i64 ((rd_T121 l1 x17_1).f0), .slice A352_1 ((rd_T121 l1 x17_1).f1).length c352_1] 121 (0, 0)) (by (with_reducible repeat (first | refine blk_drewN ?_ _ | refine blk_drew ?_ | refine blk_alloc ?_ _)); apply bq2_1_0_; (with_reducible repeat (first | refine blk_drewN ?_ _ | refine blk_drew ?_ | refine blk_alloc ?_ _)); exact BK353.out) hb); replace HB := Aside0.mk (below_step bl_ hb); (try clear hb); (try clear hb2); (try clear hk); (try clear hi)))
         go_ret
         exact ⟨sq_, bl_⟩
       ·rw [if_neg c8] at H
        exact absurd H (by simp)
      ·rw [if_neg c7] at H
       exact absurd H (by simp)
     ·rw [if_neg c6] at H
      exact absurd H (by simp)
    ·rw [if_neg c5] at H
     have c5b0 : decide (x17_1 < (l0.length : Int)) = false := decide_eq_false c5
     clear c5
     obtain rfl := Option.some.inj H
     go_wp2
     go_ret
     exact ⟨sq_, bl_⟩
 ·rw [if_neg c4] at H
  have c4b0 : ((l0.length : Int) == (l1.length : Int)) = false := beq_eq_false_iff_ne.mpr c4
  have c4b1 : ((l0.length : Int) != (l1.length : Int)) = true := bne_iff_ne.mpr c4
  have c4b2 : (l0.length == l1.length) = false := by first | simpa using c4 | (simp at c4 ⊢; omega)
  obtain rfl := Option.some.inj H
  go_enter Try.func102, Try.ntmps102
  go_wp2
  go_ret
  exact ⟨sq_, bl_⟩
/-! ### impl_WorldSame: function 34 -/
def impl_WorldSame.f (k : Nat) (l0_0 : List (S121)) (a0_1 : Int) (a0_2 : Int) (l0_3 : List (S126)) (l1_0 : List (S121)) (a1_1 : Int) (a1_2 : Int) (l1_3 : List (S126)) : Option (Bool) := if a0_1 = a1_1 then (if a0_2 = a1_2 then ((fn_100_101.f k l0_3 l1_3).bind fun t357 => (if t357 = true then ((fn_102_103.f k l0_0 l1_0).bind fun t358 => (some t358)) else (some false))) else (some false)) else (some false)
set_option maxHeartbeats 8000000 in
set_option maxRecDepth 100000 in
theorem impl_WorldSame.calls (k : Nat) (A0_0 : Option Addr) (c0_0 : Nat) (l0_0 : List (S121)) (a0_1 : Int) (a0_2 : Int) (A0_3 : Option Addr) (c0_3 : Nat) (l0_3 : List (S126)) (A1_0 : Option Addr) (c1_0 : Nat) (l1_0 : List (S121)) (a1_1 : Int) (a1_2 : Int) (A1_3 : Option Addr) (c1_3 : Nat) (l1_3 : List (S126)) (r : Bool) (w : World) (hr0_0 : Kd.C k121 w A0_0 l0_0.length l0_0) (hc0_0 : l0_0.length ≤ c0_0) (hr0_3 : Kd.C k126 w A0_3 l0_3.length l0_3) (hc0_3 : l0_3.length ≤ c0_3) (hr1_0 : Kd.C k121 w A1_0 l1_0.length l1_0) (hc1_0 : l1_0.length ≤ c1_0) (hr1_3 : Kd.C k126 w A1_3 l1_3.length l1_3) (hc1_3 : l1_3.length ≤ c1_3) (h : impl_WorldSame.f k l0_0 a0_1 a0_2 l0_3 l1_0 a1_1 a1_2 l1_3 = some r) :
  Calls Try.prog 34 #[.agg #[.slice A0_0 l0_0.length c0_0, .int .i64 a0_1, .int .i64 a0_2, .slice A0_3 l0_3.length c0_3], .agg #[.slice A1_0 l1_0.length c1_0, .int .i64 a1_1, .int .i64 a1_2, .slice A1_3 l1_3.length c1_3]] w fun e w' => e = .returned (.bool r) ∧ Below w.heap.size w w' := by
 have hu56 := Try.underlying56
 have HR0_0 := Aside0.mk hr0_0
 have HC0_0 := Aside0.mk hc0_0
 clear hr0_0 hc0_0
 have HR0_3 := Aside0.mk hr0_3
 have HC0_3 := Aside0.mk hc0_3
 clear hr0_3 hc0_3
 have HR1_0 := Aside0.mk hr1_0
 have HC1_0 := Aside0.mk hc1_0
 clear hr1_0 hc1_0
 have HR1_3 := Aside0.mk hr1_3
 have HC1_3 := Aside0.mk hc1_3
 clear hr1_3 hc1_3
 have HB := Aside0.mk (Below.refl w.heap.size w)
 have H : (if a0_1 = a1_1 then (if a0_2 = a1_2 then ((fn_100_101.f k l0_3 l1_3).bind fun t357 => (if t357 = true then ((fn_102_103.f k l0_0 l1_0).bind fun t358 => (some t358)) else (some false))) else (some false)) else (some false)) = some r := h
 clear h
 by_cases c3 : a0_1 = a1_1
 ·rw [if_pos c3] at H
  have c3b0 : (a0_1 == a1_1) = true := beq_iff_eq.mpr c3
  have c3b1 : (a0_1 != a1_1) = false := bne_eq_false_iff_eq.mpr c3
  clear c3
  by_cases c4 : a0_2 = a1_2
  ·rw [if_pos c4] at H
   have c4b0 : (a0_2 == a1_2) = true := beq_iff_eq.mpr c4
   have c4b1 : (a0_2 != a1_2) = false := bne_eq_false_iff_eq.mpr c4
   clear c4
   obtain ⟨t357, A5, H⟩ := ob_ H
   by_cases c6 : t357 = true
   ·subst c6
    replace H := ip_ H
    obtain ⟨t358, A7, H⟩ := ob_ H
    obtain rfl := Option.some.inj H
    go_enter Try.func34, Try.ntmps34
    go_wp2_with (first | ((with_reducible refine gate_dst (N := 2) rfl ?_); refine be_ (N := 2) (cs := #[.slice A0_0 l0_0.length c0_0, .int .i64 a0_1, .int .i64 a0_2, .slice A0_3 l0_3.length c0_3]) (t := 56) ?_; intro gb355 hg w8 hbox hb; have BK355 := Aside0.mk (hbox); have GW355 := gw_ (w := w) hg; have GE355 := gw_ (w := w) hg; replace HB := Aside0.mk (below_step bl_ hb); clear hb hbox hg) | ((with_reducible refine gate_dst (N := 3) rfl ?_); refine be_ (N := 3) (cs := #[.slice A1_0 l1_0.length c1_0, .int .i64 a1_1, .int .i64 a1_2, .slice A1_3 l1_3.length c1_3]) (t := 56) ?_; intro gb356 hg w9 hbox hb; have BK356 := Aside0.mk (hbox); have GW356 := gw_ (w := w) hg; have GE356 := gw_ (w := w) hg; replace HB := Aside0.mk (below_step bl_ hb); have NB355_356 := Aside0.mk ((by rw [hg]; exact Nat.ne_of_lt (blk_lt (bk_ BK355)) : gb355 ≠ gb356)); have NB356_355 := Aside0.mk ((by rw [hg]; exact Nat.ne_of_gt (blk_lt (bk_ BK355)) : gb356 ≠ gb355)); replace BK355 := Aside0.mk (blk_below (bk_ BK355) hb); clear hb hbox hg; have hnb10 := NB355_356.out; have hnc10 := NB356_355.out; obtain ⟨hcz11_0, hcz11_1, hcz11_2, hcz11_3, hfz11_0, hfz11_1, hfz11_2, hfz11_3⟩ := bx4_ BK355; obtain ⟨hcz12_0, hcz12_1, hcz12_2, hcz12_3, hfz12_0, hfz12_1, hfz12_2, hfz12_3⟩ := bx4_ BK356) | (go_at_call 100; (with_reducible refine (fn_100_101.calls k _ _ l0_3 _ _ l1_3  true _ ?side1 ?side2 ?side3 ?side4 A5.out).mono ?_); (case side1 => exact ca_ (Kd.C_below HR0_3.out HB.out)); (case side2 => exact HC0_3.out); (case side3 => exact ca_ (Kd.C_below HR1_3.out HB.out)); (case side4 => exact HC1_3.out); rintro e w13 ⟨rfl, hb⟩; replace BK355 := Aside0.mk (blk_below (bk_ BK355) hb); replace BK356 := Aside0.mk (blk_below (bk_ BK356) hb); replace HB := Aside0.mk (below_step bl_ hb); (try clear hb); (try clear hb2); (try clear hk); (try clear hi); obtain ⟨hcz14_0, hcz14_1, hcz14_2, hcz14_3, hfz14_0, hfz14_1, hfz14_2, hfz14_3⟩ := bx4_ BK355; obtain ⟨hcz15_0, hcz15_1, hcz15_2, hcz15_3, hfz15_0, hfz15_1, hfz15_2, hfz15_3⟩ := bx4_ BK356) | (go_at_call 102; (with_reducible refine (fn_102_103.calls k _ _ l0_0 _ _ l1_0  t358 _ ?side1 ?side2 ?side3 ?side4 A7.out).mono ?_); (case side1 => exact ca_ (Kd.C_below HR0_0.out HB.out)); (case side2 => exact HC0_0.out); (case side3 => exact ca_ (Kd.C_below HR1_0.out HB.out)); (case side4 => exact HC1_0.out); rintro e w16 ⟨rfl, hb⟩; replace BK355 := Aside0.mk (blk_below (bk_ BK355) hb); replace BK356 := Aside0.mk (blk_below (bk_ BK356) hb); replace HB := Aside0.mk (below_step bl_ hb); (try clear hb); (try clear hb2); (try clear hk); (try clear hi)))
    go_ret
    exact ⟨sq_, bl_⟩
   ·replace c6 := Bool.eq_false_iff.mpr c6
    subst c6
    replace H := in_ H
    obtain rfl := Option.some.inj H
    go_enter Try.func34, Try.ntmps34
    go_wp2_with (first | ((with_reducible refine gate_dst (N := 2) rfl ?_); refine be_ (N := 2) (cs := #[.slice A0_0 l0_0.length c0_0, .int .i64 a0_1, .int .i64 a0_2, .slice A0_3 l0_3.length c0_3]) (t := 56) ?_; intro gb355 hg w17 hbox hb; have BK355 := Aside0.mk (hbox); have GW355 := gw_ (w := w) hg; have GE355 := gw_ (w := w) hg; replace HB := Aside0.mk (below_step bl_ hb); clear hb hbox hg) | ((with_reducible refine gate_dst (N := 3) rfl ?_); refine be_ (N := 3) (cs := #[.slice A1_0 l1_0.length c1_0, .int .i64 a1_1, .int .i64 a1_2, .slice A1_3 l1_3.length c1_3]) (t := 56) ?_; intro gb356 hg w18 hbox hb; have BK356 := Aside0.mk (hbox); have GW356 := gw_ (w := w) hg; have GE356 := gw_ (w := w) hg; replace HB := Aside0.mk (below_step bl_ hb); have NB355_356 := Aside0.mk ((by rw [hg]; exact Nat.ne_of_lt (blk_lt (bk_ BK355)) : gb355 ≠ gb356)); have NB356_355 := Aside0.mk ((by rw [hg]; exact Nat.ne_of_gt (blk_lt (bk_ BK355)) : gb356 ≠ gb355)); replace BK355 := Aside0.mk (blk_below (bk_ BK355) hb); clear hb hbox hg; have hnb19 := NB355_356.out; have hnc19 := NB356_355.out; obtain ⟨hcz20_0, hcz20_1, hcz20_2, hcz20_3, hfz20_0, hfz20_1, hfz20_2, hfz20_3⟩ := bx4_ BK355; obtain ⟨hcz21_0, hcz21_1, hcz21_2, hcz21_3, hfz21_0, hfz21_1, hfz21_2, hfz21_3⟩ := bx4_ BK356) | (go_at_call 100; (with_reducible refine (fn_100_101.calls k _ _ l0_3 _ _ l1_3  false _ ?side1 ?side2 ?side3 ?side4 A5.out).mono ?_); (case side1 => exact ca_ (Kd.C_below HR0_3.out HB.out)); (case side2 => exact HC0_3.out); (case side3 => exact ca_ (Kd.C_below HR1_3.out HB.out)); (case side4 => exact HC1_3.out); rintro e w22 ⟨rfl, hb⟩; replace BK355 := Aside0.mk (blk_below (bk_ BK355) hb); replace BK356 := Aside0.mk (blk_below (bk_ BK356) hb); replace HB := Aside0.mk (below_step bl_ hb); (try clear hb); (try clear hb2); (try clear hk); (try clear hi)))
    go_ret
    exact ⟨sq_, bl_⟩
  ·rw [if_neg c4] at H
   have c4b0 : (a0_2 == a1_2) = false := beq_eq_false_iff_ne.mpr c4
   have c4b1 : (a0_2 != a1_2) = true := bne_iff_ne.mpr c4
   obtain rfl := Option.some.inj H
   go_enter Try.func34, Try.ntmps34
   go_wp2_with (first | ((with_reducible refine gate_dst (N := 2) rfl ?_); refine be_ (N := 2) (cs := #[.slice A0_0 l0_0.length c0_0, .int .i64 a0_1, .int .i64 a0_2, .slice A0_3 l0_3.length c0_3]) (t := 56) ?_; intro gb355 hg w23 hbox hb; have BK355 := Aside0.mk (hbox); have GW355 := gw_ (w := w) hg; have GE355 := gw_ (w := w) hg; replace HB := Aside0.mk (below_step bl_ hb); clear hb hbox hg) | ((with_reducible refine gate_dst (N := 3) rfl ?_); refine be_ (N := 3) (cs := #[.slice A1_0 l1_0.length c1_0, .int .i64 a1_1, .int .i64 a1_2, .slice A1_3 l1_3.length c1_3]) (t := 56) ?_; intro gb356 hg w24 hbox hb; have BK356 := Aside0.mk (hbox); have GW356 := gw_ (w := w) hg; have GE356 := gw_ (w := w) hg; replace HB := Aside0.mk (below_step bl_ hb); have NB355_356 := Aside0.mk ((by rw [hg]; exact Nat.ne_of_lt (blk_lt (bk_ BK355)) : gb355 ≠ gb356)); have NB356_355 := Aside0.mk ((by rw [hg]; exact Nat.ne_of_gt (blk_lt (bk_ BK355)) : gb356 ≠ gb355)); replace BK355 := Aside0.mk (blk_below (bk_ BK355) hb); clear hb hbox hg; have hnb25 := NB355_356.out; have hnc25 := NB356_355.out; obtain ⟨hcz26_0, hcz26_1, hcz26_2, hcz26_3, hfz26_0, hfz26_1, hfz26_2, hfz26_3⟩ := bx4_ BK355; obtain ⟨hcz27_0, hcz27_1, hcz27_2, hcz27_3, hfz27_0, hfz27_1, hfz27_2, hfz27_3⟩ := bx4_ BK356))
   go_ret
   exact ⟨sq_, bl_⟩
 ·rw [if_neg c3] at H
  have c3b0 : (a0_1 == a1_1) = false := beq_eq_false_iff_ne.mpr c3
  have c3b1 : (a0_1 != a1_1) = true := bne_iff_ne.mpr c3
  obtain rfl := Option.some.inj H
  go_enter Try.func34, Try.ntmps34
  go_wp2_with (first | ((with_reducible refine gate_dst (N := 2) rfl ?_); refine be_ (N := 2) (cs := #[.slice A0_0 l0_0.length c0_0, .int .i64 a0_1, .int .i64 a0_2, .slice A0_3 l0_3.length c0_3]) (t := 56) ?_; intro gb355 hg w28 hbox hb; have BK355 := Aside0.mk (hbox); have GW355 := gw_ (w := w) hg; have GE355 := gw_ (w := w) hg; replace HB := Aside0.mk (below_step bl_ hb); clear hb hbox hg) | ((with_reducible refine gate_dst (N := 3) rfl ?_); refine be_ (N := 3) (cs := #[.slice A1_0 l1_0.length c1_0, .int .i64 a1_1, .int .i64 a1_2, .slice A1_3 l1_3.length c1_3]) (t := 56) ?_; intro gb356 hg w29 hbox hb; have BK356 := Aside0.mk (hbox); have GW356 := gw_ (w := w) hg; have GE356 := gw_ (w := w) hg; replace HB := Aside0.mk (below_step bl_ hb); have NB355_356 := Aside0.mk ((by rw [hg]; exact Nat.ne_of_lt (blk_lt (bk_ BK355)) : gb355 ≠ gb356)); have NB356_355 := Aside0.mk ((by rw [hg]; exact Nat.ne_of_gt (blk_lt (bk_ BK355)) : gb356 ≠ gb355)); replace BK355 := Aside0.mk (blk_below (bk_ BK355) hb); clear hb hbox hg; have hnb30 := NB355_356.out; have hnc30 := NB356_355.out; obtain ⟨hcz31_0, hcz31_1, hcz31_2, hcz31_3, hfz31_0, hfz31_1, hfz31_2, hfz31_3⟩ := bx4_ BK355; obtain ⟨hcz32_0, hcz32_1, hcz32_2, hcz32_3, hfz32_0, hfz32_1, hfz32_2, hfz32_3⟩ := bx4_ BK356))
  go_ret
  exact ⟨sq_, bl_⟩
/-! ### laws_eqHold: function 80 -/
def laws_eqHold.f (a0_0 : ByteArray) (a0_1 : Int) (a0_2 : Int) (a1_0 : ByteArray) (a1_1 : Int) (a1_2 : Int) : Option (Bool) := if a0_0.toList = a1_0.toList then (if a0_1 = a1_1 then (if a0_2 = a1_2 then (some true) else (some false)) else (some false)) else (some false)
set_option maxHeartbeats 8000000 in
set_option maxRecDepth 100000 in
theorem laws_eqHold.calls (a0_0 : ByteArray) (a0_1 : Int) (a0_2 : Int) (a1_0 : ByteArray) (a1_1 : Int) (a1_2 : Int) (r : Bool) (w : World) (h : laws_eqHold.f a0_0 a0_1 a0_2 a1_0 a1_1 a1_2 = some true) :
  Calls Try.prog 80 #[.agg #[.string a0_0, .int .i64 a0_1, .int .i64 a0_2], .agg #[.string a1_0, .int .i64 a1_1, .int .i64 a1_2]] w fun e w' => e = .returned (.bool true) ∧ Below w.heap.size w w' := by
 have hu93 := Try.underlying93
 have HB := Aside0.mk (Below.refl w.heap.size w)
 have H : (if a0_0.toList = a1_0.toList then (if a0_1 = a1_1 then (if a0_2 = a1_2 then (some true) else (some false)) else (some false)) else (some false)) = some true := h
 clear h
 by_cases c3 : a0_0.toList = a1_0.toList
 ·rw [if_pos c3] at H
  have c3b0 : (a0_0.toList == a1_0.toList) = true := beq_iff_eq.mpr c3
  have c3b1 : (a0_0.toList != a1_0.toList) = false := bne_eq_false_iff_eq.mpr c3
  clear c3
  by_cases c4 : a0_1 = a1_1
  ·rw [if_pos c4] at H
   have c4b0 : (a0_1 == a1_1) = true := beq_iff_eq.mpr c4
   have c4b1 : (a0_1 != a1_1) = false := bne_eq_false_iff_eq.mpr c4
   clear c4
   by_cases c5 : a0_2 = a1_2
   ·rw [if_pos c5] at H
    have c5b0 : (a0_2 == a1_2) = true := beq_iff_eq.mpr c5
    have c5b1 : (a0_2 != a1_2) = false := bne_eq_false_iff_eq.mpr c5
    clear c5
    clear H
    go_enter Try.func80, Try.ntmps80
    go_wp2_with (first | ((with_reducible refine gate_dst (N := 2) rfl ?_); refine be_ (N := 2) (cs := #[.string a0_0, .int .i64 a0_1, .int .i64 a0_2]) (t := 93) ?_; intro gb359 hg w6 hbox hb; have BK359 := Aside0.mk (hbox); have GW359 := gw_ (w := w) hg; have GE359 := gw_ (w := w) hg; replace HB := Aside0.mk (below_step bl_ hb); clear hb hbox hg) | ((with_reducible refine gate_dst (N := 3) rfl ?_); refine be_ (N := 3) (cs := #[.string a1_0, .int .i64 a1_1, .int .i64 a1_2]) (t := 93) ?_; intro gb360 hg w7 hbox hb; have BK360 := Aside0.mk (hbox); have GW360 := gw_ (w := w) hg; have GE360 := gw_ (w := w) hg; replace HB := Aside0.mk (below_step bl_ hb); have NB359_360 := Aside0.mk ((by rw [hg]; exact Nat.ne_of_lt (blk_lt (bk_ BK359)) : gb359 ≠ gb360)); have NB360_359 := Aside0.mk ((by rw [hg]; exact Nat.ne_of_gt (blk_lt (bk_ BK359)) : gb360 ≠ gb359)); replace BK359 := Aside0.mk (blk_below (bk_ BK359) hb); clear hb hbox hg; have hnb8 := NB359_360.out; have hnc8 := NB360_359.out; obtain ⟨hcz9_0, hcz9_1, hcz9_2, hfz9_0, hfz9_1, hfz9_2⟩ := bx3_ BK359; obtain ⟨hcz10_0, hcz10_1, hcz10_2, hfz10_0, hfz10_1, hfz10_2⟩ := bx3_ BK360))
    go_ret
    exact ⟨sq_, bl_⟩
   ·rw [if_neg c5] at H
    have c5b0 : (a0_2 == a1_2) = false := beq_eq_false_iff_ne.mpr c5
    have c5b1 : (a0_2 != a1_2) = true := bne_iff_ne.mpr c5
    exact absurd H (by simp)
  ·rw [if_neg c4] at H
   have c4b0 : (a0_1 == a1_1) = false := beq_eq_false_iff_ne.mpr c4
   have c4b1 : (a0_1 != a1_1) = true := bne_iff_ne.mpr c4
   exact absurd H (by simp)
 ·rw [if_neg c3] at H
  have c3b0 : (a0_0.toList == a1_0.toList) = false := beq_eq_false_iff_ne.mpr c3
  have c3b1 : (a0_0.toList != a1_0.toList) = true := bne_iff_ne.mpr c3
  exact absurd H (by simp)
end Go.Proofs.Ytepjnalkpfnmcaa.QFnExactWorldSame
