-- by my own printer (myprint.py, over the kit's print.py)
import Derived.Test.YtepjnalkpfnmcaaQFnExactInOrderx0
namespace Go.Proofs.Ytepjnalkpfnmcaa.QFnExactInOrder
open Go.RowKit Go.Proofs.YtepjnalkpfnmcaaW.PrintWords Go.Proofs.YtepjnalkpfnmcaaW.PrintLast Go.Proofs.YtepjnalkpfnmcaaW.PrintMore
attribute [local go_sem] max2_int min2_int max_two min_two max_three min_three max_four min_four   -- for this text's walks alone
set_option linter.unusedVariables false
set_option linter.unusedSimpArgs false
attribute [local go_sem] my_geq my_leq my_gtr
/-! ### spec_OrderOf: function 131 -/
mutual
def spec_OrderOf.l0 : Nat → List Int → List (S126) → Int → Int → List (S121) → Int → Int → List (S126) → Option (List Int)
 | 0, _, _, _, _, _, _, _, _ => none
 | k + 1, x3, x10, x11, x12, x319000, x319001, x319002, x319003 => if x12 < x11 then (if 0 ≤ x12 then (if x12 < (x10.length : Int) then (if ((rd_T126 x10 x12).f5) = (-1) then (spec_OrderOf.l0 k x3 x10 x11 (wrap64 (x12 + 1)) x319000 x319001 x319002 x319003) else (spec_OrderOf.l1 k x3 x12 (x3.length : Int) x10 x11 x12 x319000 x319001 x319002 x319003 ((rd_T126 x10 x12).f0) ((rd_T126 x10 x12).f1) ((rd_T126 x10 x12).f2) ((rd_T126 x10 x12).f3) ((rd_T126 x10 x12).f4) ((rd_T126 x10 x12).f5) ((rd_T126 x10 x12).f6) ((rd_T126 x10 x12).f7) ((rd_T126 x10 x12).f8))) else (none)) else (none)) else (some x3)
def spec_OrderOf.l1 : Nat → List Int → Int → Int → List (S126) → Int → Int → List (S121) → Int → Int → List (S126) → List Int → Int → List Int → Int → Int → Int → Int → Int → List Int → Option (List Int)
 | 0, _, _, _, _, _, _, _, _, _, _, _, _, _, _, _, _, _, _, _ => none
 | k + 1, x3, x4, x6, x10, x11, x12, x319000, x319001, x319002, x319003, x324000, x324001, x324002, x324003, x324004, x324005, x324006, x324007, x324008 => if x6 > 0 then (if 0 ≤ (wrap64 (x6 - 1)) then (if (wrap64 (x6 - 1)) < (x3.length : Int) then (if 0 ≤ (rd x3 (wrap64 (x6 - 1))) then (if (rd x3 (wrap64 (x6 - 1))) < (x319003.length : Int) then (if ((rd_T126 x319003 (rd x3 (wrap64 (x6 - 1)))).f5) > x324005 then (spec_OrderOf.l1 k x3 x4 (wrap64 (x6 - 1)) x10 x11 x12 x319000 x319001 x319002 x319003 x324000 x324001 x324002 x324003 x324004 x324005 x324006 x324007 x324008) else ((some (([] : List Int) : List Int)).bind fun y326 => (if 0 ≤ x6 then (if x6 ≤ (x3.length : Int) then ((some (x3.take (x6 : Int).toNat : List Int)).bind fun y329 => (if y326.length + y329.length < 17592186044416 then ((some (y326 ++ y329 : List Int)).bind fun y333 => (if y333.length < 17592186044416 then ((some (y333 ++ [x4] : List Int)).bind fun y336 => ((some (x3.drop (x6 : Int).toNat : List Int)).bind fun y339 => (if y336.length + y339.length < 17592186044416 then (spec_OrderOf.l0 k (y336 ++ y339) x10 x11 (wrap64 (x12 + 1)) x319000 x319001 x319002 x319003) else (none)))) else (none))) else (none))) else (none)) else (none)))) else (none)) else (none)) else (none)) else (none)) else ((some (([] : List Int) : List Int)).bind fun y346 => (if 0 ≤ x6 then (if x6 ≤ (x3.length : Int) then ((some (x3.take (x6 : Int).toNat : List Int)).bind fun y349 => (if y346.length + y349.length < 17592186044416 then ((some (y346 ++ y349 : List Int)).bind fun y353 => (if y353.length < 17592186044416 then ((some (y353 ++ [x4] : List Int)).bind fun y356 => ((some (x3.drop (x6 : Int).toNat : List Int)).bind fun y359 => (if y356.length + y359.length < 17592186044416 then (spec_OrderOf.l0 k (y356 ++ y359) x10 x11 (wrap64 (x12 + 1)) x319000 x319001 x319002 x319003) else (none)))) else (none))) else (none))) else (none)) else (none)))
end
def spec_OrderOf.f (k : Nat) (l0_0 : List (S121)) (a0_1 : Int) (a0_2 : Int) (l0_3 : List (S126)) : Option (List Int) := spec_OrderOf.l0 k (([] : List Int)) l0_3 (l0_3.length : Int) 0 l0_0 a0_1 a0_2 l0_3
set_option maxHeartbeats 8000000 in
set_option maxRecDepth 100000 in
theorem spec_OrderOf.calls (k : Nat) (A0_0 : Option Addr) (c0_0 : Nat) (l0_0 : List (S121)) (a0_1 : Int) (a0_2 : Int) (A0_3 : Option Addr) (c0_3 : Nat) (l0_3 : List (S126)) (r : List Int) (w : World) (hr0_0 : Kd.C k121 w A0_0 l0_0.length l0_0) (hc0_0 : l0_0.length ≤ c0_0) (hr0_3 : Kd.C k126 w A0_3 l0_3.length l0_3) (hc0_3 : l0_3.length ≤ c0_3) (h : spec_OrderOf.f k l0_0 a0_1 a0_2 l0_3 = some r) :
  Calls Try.prog 131 #[.agg #[.slice A0_0 l0_0.length c0_0, .int .i64 a0_1, .int .i64 a0_2, .slice A0_3 l0_3.length c0_3]] w fun e w' => ∃ v0_ : Value, e = .returned (v0_) ∧ Kd.R (Kd.int .i64) 3 w' w.heap.size (fun _ => True) v0_ r ∧ Below w.heap.size w w' := by
 have hu56 := Try.underlying56
 have hu126 := Try.underlying126
 have HR0_0 := Aside0.mk hr0_0
 have HC0_0 := Aside0.mk hc0_0
 clear hr0_0 hc0_0
 have HR0_3 := Aside0.mk hr0_3
 have HC0_3 := Aside0.mk hc0_3
 clear hr0_3 hc0_3
 have HB := Aside0.mk (Below.refl w.heap.size w)
 have H : (spec_OrderOf.l0 k (([] : List Int)) l0_3 (l0_3.length : Int) 0 l0_0 a0_1 a0_2 l0_3) = some r := h
 clear h
 obtain ⟨y319, hy319⟩ : ∃ y_ : List Int, y_ = (([] : List Int)) := ⟨_, rfl⟩
 replace H : (spec_OrderOf.l0 k y319 l0_3 (l0_3.length : Int) 0 l0_0 a0_1 a0_2 l0_3) = some r := by first | (rw [hy319]; with_reducible exact H) | (have H2_ := (Option.bind_some _ _).symm.trans H; rw [hy319]; with_reducible exact H2_) | (have H2_ := (Option.bind_some _ _).symm.trans H; with_reducible exact H2_) | with_reducible exact H | (rw [hy319]; exact H) | exact H
 have Ny319 := Aside0.mk hy319
 clear hy319
 have H' := Aside0.mk H
 clear H
 go_enter Try.func131, Try.ntmps131
 go_wp2_with (first | ((with_reducible refine gate_dst (N := 1) rfl ?_); refine be_ (N := 1) (cs := #[.slice A0_0 l0_0.length c0_0, .int .i64 a0_1, .int .i64 a0_2, .slice A0_3 l0_3.length c0_3]) (t := 56) ?_; intro gb318 hg w2 hbox hb; have BK318 := Aside0.mk (hbox); have GW318 := gw_ (w := w) hg; have GE318 := gw_ (w := w) hg; replace HB := Aside0.mk (below_step bl_ hb); clear hb hbox hg) | ((with_reducible refine gate_dst (N := 8) rfl ?_); refine Kd.R_lit (Kd.int .i64) _ 3 ?hg (N := 8) ?hd (xs := ([] : List Int)) (inner := []) (ok := fun _ => True) (okp := fun _ => True) ?hr ?hp (fun _ hk => hk) trivial (Below.refl _ _) (Nat.le_refl _) (by simp) ?_; (case hd => rfl); (case hg => rfl); (case hr => first | (go_simp; done) | (go_simp; rfl)); (case hp => exact (Reps.none _ _)); intro v320 w3 ho4 hb hg_ hnew_; clear hg_ hnew_; (first | rw [← Ny319.out] at ho4 | (simp only [Int.reduceToNat] at ho4; rw [← Ny319.out] at ho4)); have HO321 := Aside0.mk (Kd.R_lower ho4 (below_size bl_)); replace BK318 := Aside0.mk (blk_below (bk_ BK318) hb); replace HB := Aside0.mk (below_step bl_ hb); clear hb ho4; obtain ⟨hcz5_0, hcz5_1, hcz5_2, hcz5_3, hfz5_0, hfz5_1, hfz5_2, hfz5_3⟩ := bx4_ BK318))
 repeat (go_quiet (first | ((with_reducible refine gate_dst (N := 1) rfl ?_); refine be_ (N := 1) (cs := #[.slice A0_0 l0_0.length c0_0, .int .i64 a0_1, .int .i64 a0_2, .slice A0_3 l0_3.length c0_3]) (t := 56) ?_; intro gb318 hg w2 hbox hb; have BK318 := Aside0.mk (hbox); have GW318 := gw_ (w := w) hg; have GE318 := gw_ (w := w) hg; replace HB := Aside0.mk (below_step bl_ hb); clear hb hbox hg) | ((with_reducible refine gate_dst (N := 8) rfl ?_); refine Kd.R_lit (Kd.int .i64) _ 3 ?hg (N := 8) ?hd (xs := ([] : List Int)) (inner := []) (ok := fun _ => True) (okp := fun _ => True) ?hr ?hp (fun _ hk => hk) trivial (Below.refl _ _) (Nat.le_refl _) (by simp) ?_; (case hd => rfl); (case hg => rfl); (case hr => first | (go_simp; done) | (go_simp; rfl)); (case hp => exact (Reps.none _ _)); intro v320 w3 ho4 hb hg_ hnew_; clear hg_ hnew_; (first | rw [← Ny319.out] at ho4 | (simp only [Int.reduceToNat] at ho4; rw [← Ny319.out] at ho4)); have HO321 := Aside0.mk (Kd.R_lower ho4 (below_size bl_)); replace BK318 := Aside0.mk (blk_below (bk_ BK318) hb); replace HB := Aside0.mk (below_step bl_ hb); clear hb ho4; obtain ⟨hcz5_0, hcz5_1, hcz5_2, hcz5_3, hfz5_0, hfz5_1, hfz5_2, hfz5_3⟩ := bx4_ BK318)); try go_wp2_with (first | ((with_reducible refine gate_dst (N := 1) rfl ?_); refine be_ (N := 1) (cs := #[.slice A0_0 l0_0.length c0_0, .int .i64 a0_1, .int .i64 a0_2, .slice A0_3 l0_3.length c0_3]) (t := 56) ?_; intro gb318 hg w2 hbox hb; have BK318 := Aside0.mk (hbox); have GW318 := gw_ (w := w) hg; have GE318 := gw_ (w := w) hg; replace HB := Aside0.mk (below_step bl_ hb); clear hb hbox hg) | ((with_reducible refine gate_dst (N := 8) rfl ?_); refine Kd.R_lit (Kd.int .i64) _ 3 ?hg (N := 8) ?hd (xs := ([] : List Int)) (inner := []) (ok := fun _ => True) (okp := fun _ => True) ?hr ?hp (fun _ hk => hk) trivial (Below.refl _ _) (Nat.le_refl _) (by simp) ?_; (case hd => rfl); (case hg => rfl); (case hr => first | (go_simp; done) | (go_simp; rfl)); (case hp => exact (Reps.none _ _)); intro v320 w3 ho4 hb hg_ hnew_; clear hg_ hnew_; (first | rw [← Ny319.out] at ho4 | (simp only [Int.reduceToNat] at ho4; rw [← Ny319.out] at ho4)); have HO321 := Aside0.mk (Kd.R_lower ho4 (below_size bl_)); replace BK318 := Aside0.mk (blk_below (bk_ BK318) hb); replace HB := Aside0.mk (below_step bl_ hb); clear hb ho4; obtain ⟨hcz5_0, hcz5_1, hcz5_2, hcz5_3, hfz5_0, hfz5_1, hfz5_2, hfz5_3⟩ := bx4_ BK318)))
 go_loopg [3, 12] k (fun kq v3 v12 w' => ∃ (x3_1 : List Int) (x12_1 : Int), v12 = .int .i64 x12_1 ∧ Aside0 (spec_OrderOf.l0 kq x3_1 l0_3 (l0_3.length : Int) x12_1 l0_0 a0_1 a0_2 l0_3 = some r) ∧ Aside0 (kq ≤ k) ∧ Aside0 (Kd.R (Kd.int .i64) 3 w' w.heap.size (fun _ => True) v3 x3_1) ∧ Aside0 (w'.heap[gb318]? = some (.cells #[(.slice A0_0 l0_0.length c0_0), .int .i64 a0_1, .int .i64 a0_2, (.slice A0_3 l0_3.length c0_3)] 56 (0, 0))) ∧ Aside0 (Below w.heap.size w w'))
 case atStart => exact ⟨(y319), (0), sp_, H', ⟨Nat.le_refl _⟩, ⟨ra_ HO321⟩, ⟨by (with_reducible repeat (first | refine blk_drewN ?_ _ | refine blk_drew ?_ | refine blk_alloc ?_ _)); exact BK318.out⟩, ⟨bl_⟩⟩
 case round =>
  clear H'
  try clear c1
  try clear p2
  try clear hcz5_0
  try clear hcz5_1
  try clear hcz5_2
  try clear hcz5_3
  try clear hfz5_0
  try clear hfz5_1
  try clear hfz5_2
  try clear hfz5_3
  obtain ⟨x3_1, x12_1, rfl, HA, HK1, HO_3, BK318, HB⟩ := hrel
  cases gk with
  | zero => exact absurd HA.out (by simp [spec_OrderOf.l0])
  | succ k1 =>
   have H := HA.out
   clear HA
   simp only [spec_OrderOf.l0] at H
   by_cases c6 : x12_1 < (l0_3.length : Int)
   ·rw [if_pos c6] at H
    have c6b0 : decide (x12_1 < (l0_3.length : Int)) = true := decide_eq_true c6
    clear c6
    by_cases c7 : 0 ≤ x12_1
    ·rw [if_pos c7] at H
     have c7b0 : decide (0 ≤ x12_1) = true := decide_eq_true c7
     clear c7
     by_cases c8 : x12_1 < (l0_3.length : Int)
     ·rw [if_pos c8] at H
      have c8b0 : decide (x12_1 < (l0_3.length : Int)) = true := decide_eq_true c8
      clear c8
      by_cases c9 : ((rd_T126 l0_3 x12_1).f5) = (-1)
      ·rw [if_pos c9] at H
       have c9b0 : (((rd_T126 l0_3 x12_1).f5) == (-1)) = true := beq_iff_eq.mpr c9
       have c9b1 : (((rd_T126 l0_3 x12_1).f5) != (-1)) = false := bne_eq_false_iff_eq.mpr c9
       clear c9
       have H' := Aside0.mk H
       clear H
       have p322 : 0 ≤ (x12_1 : Int) := od_
       have q322 : x12_1 < (l0_3.length : Int) := od_
       obtain ⟨ad322, A322_0, c322_0, A322_2, c322_2, A322_8, c322_8, e322, hx322_0, hx322_1, hx322_2, hx322_3, hx322_4, hx322_5, hx322_6, hx322_7, hx322_8, hl322_0, hi322_0, hl322_2, hi322_2, hl322_8, hi322_8⟩ := at_T126 HR0_3.out x12_1 p322 q322
       cases e322
       replace hx322_0 := kc_ HB hx322_0
       replace hx322_1 := kc_ HB hx322_1
       replace hx322_2 := kc_ HB hx322_2
       replace hx322_3 := kc_ HB hx322_3
       replace hx322_4 := kc_ HB hx322_4
       replace hx322_5 := kc_ HB hx322_5
       replace hx322_6 := kc_ HB hx322_6
       replace hx322_7 := kc_ HB hx322_7
       replace hx322_8 := kc_ HB hx322_8
       have HR322_0 := Aside0.mk hi322_0
       have HC322_0 := Aside0.mk hl322_0
       clear hi322_0 hl322_0
       have HR322_2 := Aside0.mk hi322_2
       have HC322_2 := Aside0.mk hl322_2
       clear hi322_2 hl322_2
       have HR322_8 := Aside0.mk hi322_8
       have HC322_8 := Aside0.mk hl322_8
       clear hi322_8 hl322_8
       replace p322 := eq_true p322
       replace q322 := eq_true q322
       go_wp2_with (first | ((with_reducible refine gate_dst (N := 5) rfl ?_); refine be_ (N := 5) (cs := #[.slice none 0 0, .int .i64 0, .slice none 0 0, .int .i64 0, .int .i64 0, .int .i64 0, .int .i64 0, .int .i64 0, .slice none 0 0]) (t := 126) ?_; intro gb323 hg w10 hbox hb; replace HO_3 := Aside0.mk (Kd.R_below (ra_ HO_3) hb); have BK323 := Aside0.mk (hbox); have GW323 := gw_ (w := w) hg; have GE323 := gw_ (w := w) hg; replace HB := Aside0.mk (below_step bl_ hb); have NB318_323 := Aside0.mk ((by rw [hg]; exact Nat.ne_of_lt (blk_lt (bk_ BK318)) : gb318 ≠ gb323)); have NB323_318 := Aside0.mk ((by rw [hg]; exact Nat.ne_of_gt (blk_lt (bk_ BK318)) : gb323 ≠ gb318)); replace BK318 := Aside0.mk (blk_below (bk_ BK318) hb); clear hb hbox hg; have hnb11 := NB323_318.out; have hnc11 := NB318_323.out; obtain ⟨hcz12_0, hcz12_1, hcz12_2, hcz12_3, hcz12_4, hcz12_5, hcz12_6, hcz12_7, hcz12_8, hfz12_0, hfz12_1, hfz12_2, hfz12_3, hfz12_4, hfz12_5, hfz12_6, hfz12_7, hfz12_8⟩ := bx9_ BK323))
       repeat (go_quiet (first | ((with_reducible refine gate_dst (N := 5) rfl ?_); refine be_ (N := 5) (cs := #[.slice none 0 0, .int .i64 0, .slice none 0 0, .int .i64 0, .int .i64 0, .int .i64 0, .int .i64 0, .int .i64 0, .slice none 0 0]) (t := 126) ?_; intro gb323 hg w10 hbox hb; replace HO_3 := Aside0.mk (Kd.R_below (ra_ HO_3) hb); have BK323 := Aside0.mk (hbox); have GW323 := gw_ (w := w) hg; have GE323 := gw_ (w := w) hg; replace HB := Aside0.mk (below_step bl_ hb); have NB318_323 := Aside0.mk ((by rw [hg]; exact Nat.ne_of_lt (blk_lt (bk_ BK318)) : gb318 ≠ gb323)); have NB323_318 := Aside0.mk ((by rw [hg]; exact Nat.ne_of_gt (blk_lt (bk_ BK318)) : gb323 ≠ gb318)); replace BK318 := Aside0.mk (blk_below (bk_ BK318) hb); clear hb hbox hg; have hnb11 := NB323_318.out; have hnc11 := NB318_323.out; obtain ⟨hcz12_0, hcz12_1, hcz12_2, hcz12_3, hcz12_4, hcz12_5, hcz12_6, hcz12_7, hcz12_8, hfz12_0, hfz12_1, hfz12_2, hfz12_3, hfz12_4, hfz12_5, hfz12_6, hfz12_7, hfz12_8⟩ := bx9_ BK323)); try go_wp2_with (first | ((with_reducible refine gate_dst (N := 5) rfl ?_); refine be_ (N := 5) (cs := #[.slice none 0 0, .int .i64 0, .slice none 0 0, .int .i64 0, .int .i64 0, .int .i64 0, .int .i64 0, .int .i64 0, .slice none 0 0]) (t := 126) ?_; intro gb323 hg w10 hbox hb; replace HO_3 := Aside0.mk (Kd.R_below (ra_ HO_3) hb); have BK323 := Aside0.mk (hbox); have GW323 := gw_ (w := w) hg; have GE323 := gw_ (w := w) hg; replace HB := Aside0.mk (below_step bl_ hb); have NB318_323 := Aside0.mk ((by rw [hg]; exact Nat.ne_of_lt (blk_lt (bk_ BK318)) : gb318 ≠ gb323)); have NB323_318 := Aside0.mk ((by rw [hg]; exact Nat.ne_of_gt (blk_lt (bk_ BK318)) : gb323 ≠ gb318)); replace BK318 := Aside0.mk (blk_below (bk_ BK318) hb); clear hb hbox hg; have hnb11 := NB323_318.out; have hnc11 := NB318_323.out; obtain ⟨hcz12_0, hcz12_1, hcz12_2, hcz12_3, hcz12_4, hcz12_5, hcz12_6, hcz12_7, hcz12_8, hfz12_0, hfz12_1, hfz12_2, hfz12_3, hfz12_4, hfz12_5, hfz12_6, hfz12_7, hfz12_8⟩ := bx9_ BK323)))
       go_roundg k1
       case measure => have := HK1.out; omega
       case rel => exact ⟨(x3_1), (wrap64 (x12_1 + 1)), sp_, H', ⟨by have := HK1.out; omega⟩, ⟨by (with_reducible repeat (first | apply Kd.R_alloc | apply Kd.R_drewN | apply Kd.R_drew)); exact Kd.R_mono (Kd.R_far (p := ⟨gb323, 8, none⟩) (Kd.R_far (p := ⟨gb323, 7, none⟩) (Kd.R_far (p := ⟨gb323, 6, none⟩) (Kd.R_far (p := ⟨gb323, 5, none⟩) (Kd.R_far (p := ⟨gb323, 4, none⟩) (Kd.R_far (p := ⟨gb323, 3, none⟩) (Kd.R_far (p := ⟨gb323, 2, none⟩) (Kd.R_far (p := ⟨gb323, 1, none⟩) (Kd.R_far (p := ⟨gb323, 0, none⟩) (Kd.R_types HO_3.out BK323.out (by decide)) (fun _ hk => hk.2) (.slice A322_0 ((rd_T126 l0_3 x12_1).f0).length c322_0)) (fun _ hk => hk.2) (.int .i64 ((rd_T126 l0_3 x12_1).f1))) (fun _ hk => hk.2) (.slice A322_2 ((rd_T126 l0_3 x12_1).f2).length c322_2)) (fun _ hk => hk.2) (.int .i64 ((rd_T126 l0_3 x12_1).f3))) (fun _ hk => hk.2) (.int .i64 ((rd_T126 l0_3 x12_1).f4))) (fun _ hk => hk.2) (.int .i64 ((rd_T126 l0_3 x12_1).f5))) (fun _ hk => hk.2) (.int .i64 ((rd_T126 l0_3 x12_1).f6))) (fun _ hk => hk.2) (.int .i64 ((rd_T126 l0_3 x12_1).f7))) (fun _ hk => hk.2) (.slice A322_8 ((rd_T126 l0_3 x12_1).f8).length c322_8)) (fun _ hk => trivial)⟩, ⟨by (with_reducible repeat (first | refine blk_drewN ?_ _ | refine blk_drew ?_ | refine blk_alloc ?_ _)); refine blk_far ?_ NB318_323.out _; (with_reducible repeat (first | refine blk_drewN ?_ _ | refine blk_drew ?_ | refine blk_alloc ?_ _)); refine blk_far ?_ NB318_323.out _; (with_reducible repeat (first | refine blk_drewN ?_ _ | refine blk_drew ?_ | refine blk_alloc ?_ _)); refine blk_far ?_ NB318_323.out _; (with_reducible repeat (first | refine blk_drewN ?_ _ | refine blk_drew ?_ | refine blk_alloc ?_ _)); refine blk_far ?_ NB318_323.out _; (with_reducible repeat (first | refine blk_drewN ?_ _ | refine blk_drew ?_ | refine blk_alloc ?_ _)); refine blk_far ?_ NB318_323.out _; (with_reducible repeat (first | refine blk_drewN ?_ _ | refine blk_drew ?_ | refine blk_alloc ?_ _)); refine blk_far ?_ NB318_323.out _; (with_reducible repeat (first | refine blk_drewN ?_ _ | refine blk_drew ?_ | refine blk_alloc ?_ _)); refine blk_far ?_ NB318_323.out _; (with_reducible repeat (first | refine blk_drewN ?_ _ | refine blk_drew ?_ | refine blk_alloc ?_ _)); refine blk_far ?_ NB318_323.out _; (with_reducible repeat (first | refine blk_drewN ?_ _ | refine blk_drew ?_ | refine blk_alloc ?_ _)); refine blk_far ?_ NB318_323.out _; (with_reducible repeat (first | refine blk_drewN ?_ _ | refine blk_drew ?_ | refine blk_alloc ?_ _)); exact BK318.out⟩, ⟨bl_⟩⟩
      ·rw [if_neg c9] at H
       have c9b0 : (((rd_T126 l0_3 x12_1).f5) == (-1)) = false := beq_eq_false_iff_ne.mpr c9
       have c9b1 : (((rd_T126 l0_3 x12_1).f5) != (-1)) = true := bne_iff_ne.mpr c9
       have H' := Aside0.mk H
       clear H
       have p322 : 0 ≤ (x12_1 : Int) := od_
       have q322 : x12_1 < (l0_3.length : Int) := od_
       obtain ⟨ad322, A322_0, c322_0, A322_2, c322_2, A322_8, c322_8, e322, hx322_0, hx322_1, hx322_2, hx322_3, hx322_4, hx322_5, hx322_6, hx322_7, hx322_8, hl322_0, hi322_0, hl322_2, hi322_2, hl322_8, hi322_8⟩ := at_T126 HR0_3.out x12_1 p322 q322
       cases e322
       replace hx322_0 := kc_ HB hx322_0
       replace hx322_1 := kc_ HB hx322_1
       replace hx322_2 := kc_ HB hx322_2
       replace hx322_3 := kc_ HB hx322_3
       replace hx322_4 := kc_ HB hx322_4
       replace hx322_5 := kc_ HB hx322_5
       replace hx322_6 := kc_ HB hx322_6
       replace hx322_7 := kc_ HB hx322_7
       replace hx322_8 := kc_ HB hx322_8
       have HR322_0 := Aside0.mk hi322_0
       have HC322_0 := Aside0.mk hl322_0
       clear hi322_0 hl322_0
       have HR322_2 := Aside0.mk hi322_2
       have HC322_2 := Aside0.mk hl322_2
       clear hi322_2 hl322_2
       have HR322_8 := Aside0.mk hi322_8
       have HC322_8 := Aside0.mk hl322_8
       clear hi322_8 hl322_8
       replace p322 := eq_true p322
       replace q322 := eq_true q322
       go_wp2_with (first | ((with_reducible refine gate_dst (N := 5) rfl ?_); refine be_ (N := 5) (cs := #[.slice none 0 0, .int .i64 0, .slice none 0 0, .int .i64 0, .int .i64 0, .int .i64 0, .int .i64 0, .int .i64 0, .slice none 0 0]) (t := 126) ?_; intro gb323 hg w13 hbox hb; replace HO_3 := Aside0.mk (Kd.R_below (ra_ HO_3) hb); have BK323 := Aside0.mk (hbox); have GW323 := gw_ (w := w) hg; have GE323 := gw_ (w := w) hg; replace HB := Aside0.mk (below_step bl_ hb); have NB318_323 := Aside0.mk ((by rw [hg]; exact Nat.ne_of_lt (blk_lt (bk_ BK318)) : gb318 ≠ gb323)); have NB323_318 := Aside0.mk ((by rw [hg]; exact Nat.ne_of_gt (blk_lt (bk_ BK318)) : gb323 ≠ gb318)); replace BK318 := Aside0.mk (blk_below (bk_ BK318) hb); clear hb hbox hg; have hnb14 := NB323_318.out; have hnc14 := NB318_323.out; obtain ⟨hcz15_0, hcz15_1, hcz15_2, hcz15_3, hcz15_4, hcz15_5, hcz15_6, hcz15_7, hcz15_8, hfz15_0, hfz15_1, hfz15_2, hfz15_3, hfz15_4, hfz15_5, hfz15_6, hfz15_7, hfz15_8⟩ := bx9_ BK323; obtain ⟨Ao16, co16, eo16⟩ := Kd.R_slice HO_3.out; subst eo16))
       repeat (go_quiet (first | ((with_reducible refine gate_dst (N := 5) rfl ?_); refine be_ (N := 5) (cs := #[.slice none 0 0, .int .i64 0, .slice none 0 0, .int .i64 0, .int .i64 0, .int .i64 0, .int .i64 0, .int .i64 0, .slice none 0 0]) (t := 126) ?_; intro gb323 hg w13 hbox hb; replace HO_3 := Aside0.mk (Kd.R_below (ra_ HO_3) hb); have BK323 := Aside0.mk (hbox); have GW323 := gw_ (w := w) hg; have GE323 := gw_ (w := w) hg; replace HB := Aside0.mk (below_step bl_ hb); have NB318_323 := Aside0.mk ((by rw [hg]; exact Nat.ne_of_lt (blk_lt (bk_ BK318)) : gb318 ≠ gb323)); have NB323_318 := Aside0.mk ((by rw [hg]; exact Nat.ne_of_gt (blk_lt (bk_ BK318)) : gb323 ≠ gb318)); replace BK318 := Aside0.mk (blk_below (bk_ BK318) hb); clear hb hbox hg; have hnb14 := NB323_318.out; have hnc14 := NB318_323.out; obtain ⟨hcz15_0, hcz15_1, hcz15_2, hcz15_3, hcz15_4, hcz15_5, hcz15_6, hcz15_7, hcz15_8, hfz15_0, hfz15_1, hfz15_2, hfz15_3, hfz15_4, hfz15_5, hfz15_6, hfz15_7, hfz15_8⟩ := bx9_ BK323; obtain ⟨Ao16, co16, eo16⟩ := Kd.R_slice HO_3.out; subst eo16)); try go_wp2_with (first | ((with_reducible refine gate_dst (N := 5) rfl ?_); refine be_ (N := 5) (cs := #[.slice none 0 0, .int .i64 0, .slice none 0 0, .int .i64 0, .int .i64 0, .int .i64 0, .int .i64 0, .int .i64 0, .slice none 0 0]) (t := 126) ?_; intro gb323 hg w13 hbox hb; replace HO_3 := Aside0.mk (Kd.R_below (ra_ HO_3) hb); have BK323 := Aside0.mk (hbox); have GW323 := gw_ (w := w) hg; have GE323 := gw_ (w := w) hg; replace HB := Aside0.mk (below_step bl_ hb); have NB318_323 := Aside0.mk ((by rw [hg]; exact Nat.ne_of_lt (blk_lt (bk_ BK318)) : gb318 ≠ gb323)); have NB323_318 := Aside0.mk ((by rw [hg]; exact Nat.ne_of_gt (blk_lt (bk_ BK318)) : gb323 ≠ gb318)); replace BK318 := Aside0.mk (blk_below (bk_ BK318) hb); clear hb hbox hg; have hnb14 := NB323_318.out; have hnc14 := NB318_323.out; obtain ⟨hcz15_0, hcz15_1, hcz15_2, hcz15_3, hcz15_4, hcz15_5, hcz15_6, hcz15_7, hcz15_8, hfz15_0, hfz15_1, hfz15_2, hfz15_3, hfz15_4, hfz15_5, hfz15_6, hfz15_7, hfz15_8⟩ := bx9_ BK323; obtain ⟨Ao16, co16, eo16⟩ := Kd.R_slice HO_3.out; subst eo16)))
       go_loopg [6] k1 (fun kq v6 w' => ∃ (x6_2 : Int), v6 = .int .i64 x6_2 ∧ Aside0 (spec_OrderOf.l1 kq x3_1 x12_1 x6_2 l0_3 (l0_3.length : Int) x12_1 l0_0 a0_1 a0_2 l0_3 ((rd_T126 l0_3 x12_1).f0) ((rd_T126 l0_3 x12_1).f1) ((rd_T126 l0_3 x12_1).f2) ((rd_T126 l0_3 x12_1).f3) ((rd_T126 l0_3 x12_1).f4) ((rd_T126 l0_3 x12_1).f5) ((rd_T126 l0_3 x12_1).f6) ((rd_T126 l0_3 x12_1).f7) ((rd_T126 l0_3 x12_1).f8) = some r) ∧ Aside0 (kq ≤ k1) ∧ Aside0 (Kd.R (Kd.int .i64) 3 w' w.heap.size (fun _ => True) (.slice Ao16 x3_1.length co16) x3_1) ∧ Aside0 (w'.heap[gb318]? = some (.cells #[(.slice A0_0 l0_0.length c0_0), .int .i64 a0_1, .int .i64 a0_2, (.slice (some ad322) l0_3.length c0_3)] 56 (0, 0))) ∧ Aside0 (w'.heap[gb323]? = some (.cells #[(.slice A322_0 ((rd_T126 l0_3 x12_1).f0).length c322_0), .int .i64 ((rd_T126 l0_3 x12_1).f1), (.slice A322_2 ((rd_T126 l0_3 x12_1).f2).length c322_2), .int .i64 ((rd_T126 l0_3 x12_1).f3), .int .i64 ((rd_T126 l0_3 x12_1).f4), .int .i64 ((rd_T126 l0_3 x12_1).f5), .int .i64 ((rd_T126 l0_3 x12_1).f6), .int .i64 ((rd_T126 l0_3 x12_1).f7), (.slice A322_8 ((rd_T126 l0_3 x12_1).f8).length c322_8)] 126 (0, 0))) ∧ Aside0 (Below w.heap.size w w'))
       case atStart => exact ⟨((x3_1.length : Int)), sp_, H', ⟨Nat.le_refl _⟩, ⟨by (with_reducible repeat (first | apply Kd.R_alloc | apply Kd.R_drewN | apply Kd.R_drew)); exact Kd.R_mono (Kd.R_far (p := ⟨gb323, 8, none⟩) (Kd.R_far (p := ⟨gb323, 7, none⟩) (Kd.R_far (p := ⟨gb323, 6, none⟩) (Kd.R_far (p := ⟨gb323, 5, none⟩) (Kd.R_far (p := ⟨gb323, 4, none⟩) (Kd.R_far (p := ⟨gb323, 3, none⟩) (Kd.R_far (p := ⟨gb323, 2, none⟩) (Kd.R_far (p := ⟨gb323, 1, none⟩) (Kd.R_far (p := ⟨gb323, 0, none⟩) (Kd.R_types HO_3.out BK323.out (by decide)) (fun _ hk => hk.2) (.slice A322_0 ((rd_T126 l0_3 x12_1).f0).length c322_0)) (fun _ hk => hk.2) (.int .i64 ((rd_T126 l0_3 x12_1).f1))) (fun _ hk => hk.2) (.slice A322_2 ((rd_T126 l0_3 x12_1).f2).length c322_2)) (fun _ hk => hk.2) (.int .i64 ((rd_T126 l0_3 x12_1).f3))) (fun _ hk => hk.2) (.int .i64 ((rd_T126 l0_3 x12_1).f4))) (fun _ hk => hk.2) (.int .i64 ((rd_T126 l0_3 x12_1).f5))) (fun _ hk => hk.2) (.int .i64 ((rd_T126 l0_3 x12_1).f6))) (fun _ hk => hk.2) (.int .i64 ((rd_T126 l0_3 x12_1).f7))) (fun _ hk => hk.2) (.slice A322_8 ((rd_T126 l0_3 x12_1).f8).length c322_8)) (fun _ hk => trivial)⟩, ⟨by (with_reducible repeat (first | refine blk_drewN ?_ _ | refine blk_drew ?_ | refine blk_alloc ?_ _)); refine blk_far ?_ NB318_323.out _; (with_reducible repeat (first | refine blk_drewN ?_ _ | refine blk_drew ?_ | refine blk_alloc ?_ _)); refine blk_far ?_ NB318_323.out _; (with_reducible repeat (first | refine blk_drewN ?_ _ | refine blk_drew ?_ | refine blk_alloc ?_ _)); refine blk_far ?_ NB318_323.out _; (with_reducible repeat (first | refine blk_drewN ?_ _ | refine blk_drew ?_ | refine blk_alloc ?_ _)); refine blk_far ?_ NB318_323.out _; (with_reducible repeat (first | refine blk_drewN ?_ _ | refine blk_drew ?_ | refine blk_alloc ?_ _)); refine blk_far ?_ NB318_323.out _; (with_reducible repeat (first | refine blk_drewN ?_ _ | refine blk_drew ?_ | refine blk_alloc ?_ _)); refine blk_far ?_ NB318_323.out _; (with_reducible repeat (first | refine blk_drewN ?_ _ | refine blk_drew ?_ | refine blk_alloc ?_ _)); refine blk_far ?_ NB318_323.out _; (with_reducible repeat (first | refine blk_drewN ?_ _ | refine blk_drew ?_ | refine blk_alloc ?_ _)); refine blk_far ?_ NB318_323.out _; (with_reducible repeat (first | refine blk_drewN ?_ _ | refine blk_drew ?_ | refine blk_alloc ?_ _)); refine blk_far ?_ NB318_323.out _; (with_reducible repeat (first | refine blk_drewN ?_ _ | refine blk_drew ?_ | refine blk_alloc ?_ _)); exact BK318.out⟩, ⟨by (with_reducible repeat (first | refine blk_drewN ?_ _ | refine blk_drew ?_ | refine blk_alloc ?_ _)); apply bq9_8_7_6_5_4_3_2_1_0_; (with_reducible repeat (first | refine blk_drewN ?_ _ | refine blk_drew ?_ | refine blk_alloc ?_ _)); exact BK323.out⟩, ⟨bl_⟩⟩
       case round =>
        clear H'
        try clear c1
        try clear p2
        try clear c3
        try clear p3
        try clear q3
        try clear hx3
        try clear c6
        try clear c6b0
        try clear p6
        try clear c7
        try clear c7b0
        try clear c8
        try clear c8b0
        try clear c9
        try clear c9b0
        try clear c9b1
        try clear c11
        try clear c13
        try clear c14
        try clear hcz12_0
        try clear hcz12_1
        try clear hcz12_2
        try clear hcz12_3
        try clear hcz12_4
        try clear hcz12_5
        try clear hcz12_6
        try clear hcz12_7
        try clear hcz12_8
        try clear hcz15_0
        try clear hcz15_1
        try clear hcz15_2
        try clear hcz15_3
        try clear hcz15_4
        try clear hcz15_5
        try clear hcz15_6
        try clear hcz15_7
        try clear hcz15_8
        try clear hcz5_0
        try clear hcz5_1
        try clear hcz5_2
        try clear hcz5_3
        try clear hfz12_0
        try clear hfz12_1
        try clear hfz12_2
        try clear hfz12_3
        try clear hfz12_4
        try clear hfz12_5
        try clear hfz12_6
        try clear hfz12_7
        try clear hfz12_8
        try clear hfz15_0
        try clear hfz15_1
        try clear hfz15_2
        try clear hfz15_3
        try clear hfz15_4
        try clear hfz15_5
        try clear hfz15_6
        try clear hfz15_7
        try clear hfz15_8
        try clear hfz5_0
        try clear hfz5_1
        try clear hfz5_2
        try clear hfz5_3
        try clear hx322_0
        try clear hx322_1
        try clear hx322_2
        try clear hx322_3
        try clear hx322_4
        try clear hx322_5
        try clear hx322_6
        try clear hx322_7
        try clear hx322_8
        try clear p2
        try clear p322
        try clear q322
        obtain ⟨x6_2, rfl, HA, HK2, HO_3, BK318, BK323, HB⟩ := hrel
        cases gk with
        | zero => exact absurd HA.out (by simp [spec_OrderOf.l1])
        | succ k2 =>
         have H := HA.out
         clear HA
         simp only [spec_OrderOf.l1] at H
         by_cases c17 : x6_2 > 0
         ·rw [if_pos c17] at H
          have c17b0 : decide (0 < x6_2) = true := decide_eq_true c17
          clear c17
          obtain ⟨ji18, hji18⟩ : ∃ j_ : Int, (wrap64 (x6_2 - 1)) = j_ := ⟨_, rfl⟩
          replace H : (if 0 ≤ (ji18) then (if (ji18) < (x3_1.length : Int) then (if 0 ≤ (rd x3_1 (ji18)) then (if (rd x3_1 (ji18)) < (l0_3.length : Int) then (if ((rd_T126 l0_3 (rd x3_1 (ji18))).f5) > ((rd_T126 l0_3 x12_1).f5) then (spec_OrderOf.l1 k2 x3_1 x12_1 ji18 l0_3 (l0_3.length : Int) x12_1 l0_0 a0_1 a0_2 l0_3 ((rd_T126 l0_3 x12_1).f0) ((rd_T126 l0_3 x12_1).f1) ((rd_T126 l0_3 x12_1).f2) ((rd_T126 l0_3 x12_1).f3) ((rd_T126 l0_3 x12_1).f4) ((rd_T126 l0_3 x12_1).f5) ((rd_T126 l0_3 x12_1).f6) ((rd_T126 l0_3 x12_1).f7) ((rd_T126 l0_3 x12_1).f8)) else ((some (([] : List Int) : List Int)).bind fun y326 => (if 0 ≤ x6_2 then (if x6_2 ≤ (x3_1.length : Int) then ((some (x3_1.take (x6_2 : Int).toNat : List Int)).bind fun y329 => (if y326.length + y329.length < 17592186044416 then ((some (y326 ++ y329 : List Int)).bind fun y333 => (if y333.length < 17592186044416 then ((some (y333 ++ [x12_1] : List Int)).bind fun y336 => ((some (x3_1.drop (x6_2 : Int).toNat : List Int)).bind fun y339 => (if y336.length + y339.length < 17592186044416 then (spec_OrderOf.l0 k2 (y336 ++ y339) l0_3 (l0_3.length : Int) (wrap64 (x12_1 + 1)) l0_0 a0_1 a0_2 l0_3) else (none)))) else (none))) else (none))) else (none)) else (none)))) else (none)) else (none)) else (none)) else (none)) = some r := by first | (rw [hji18] at H; exact H) | (simp only [hji18] at H ⊢; exact H)
          have hji18w : (IntKind.i64.wrap (x6_2 - 1)) = ji18 := (i64_w _).trans hji18
          by_cases c19 : 0 ≤ (ji18)
          ·rw [if_pos c19] at H
           have c19b0 : decide (0 ≤ (ji18)) = true := decide_eq_true c19
           clear c19
           by_cases c20 : (ji18) < (x3_1.length : Int)
           ·rw [if_pos c20] at H
            have c20b0 : decide ((ji18) < (x3_1.length : Int)) = true := decide_eq_true c20
            clear c20
            by_cases c21 : 0 ≤ (rd x3_1 (ji18))
            ·rw [if_pos c21] at H
             have c21b0 : decide (0 ≤ (rd x3_1 (ji18))) = true := decide_eq_true c21
             clear c21
             by_cases c22 : (rd x3_1 (ji18)) < (l0_3.length : Int)
             ·rw [if_pos c22] at H
              have c22b0 : decide ((rd x3_1 (ji18)) < (l0_3.length : Int)) = true := decide_eq_true c22
              clear c22
              by_cases c23 : ((rd_T126 l0_3 (rd x3_1 (ji18))).f5) > ((rd_T126 l0_3 x12_1).f5)
              ·rw [if_pos c23] at H
               have c23b0 : decide (((rd_T126 l0_3 x12_1).f5) < ((rd_T126 l0_3 (rd x3_1 (ji18))).f5)) = true := decide_eq_true c23
               clear c23
               have H' := Aside0.mk H
               clear H
               have hnb24 := NB318_323.out
               have hnc24 := NB323_318.out
               have hcz25_0 := cz_ BK318 0 (.slice A0_0 l0_0.length c0_0)
               have hcz25_1 := cz_ BK318 1 (.int .i64 a0_1)
               have hcz25_2 := cz_ BK318 2 (.int .i64 a0_2)
               have hcz25_3 := cz_ BK318 3 (.slice (some ad322) l0_3.length c0_3)
               have hfz25_0 := fz_ BK318 0
               have hfz25_1 := fz_ BK318 1
               have hfz25_2 := fz_ BK318 2
               have hfz25_3 := fz_ BK318 3
               have p324 : 0 ≤ ((ji18) : Int) := od_
               have q324 : (ji18) < (x3_1.length : Int) := od_
               obtain ⟨ad324, e324, hx324_0⟩ := Kd.at_int (Kd.R_reads' HO_3.out).2.2 (ji18) p324 q324
               cases e324
               replace p324 := eq_true p324
               replace q324 := eq_true q324
               have p325 : 0 ≤ ((rd x3_1 (ji18)) : Int) := od_
               have q325 : (rd x3_1 (ji18)) < (l0_3.length : Int) := od_
               obtain ⟨ad325, A325_0, c325_0, A325_2, c325_2, A325_8, c325_8, e325, hx325_0, hx325_1, hx325_2, hx325_3, hx325_4, hx325_5, hx325_6, hx325_7, hx325_8, hl325_0, hi325_0, hl325_2, hi325_2, hl325_8, hi325_8⟩ := at_T126 HR0_3.out (rd x3_1 (ji18)) p325 q325
               obtain rfl : ad322 = ad325 := (by injection e325)
               replace hx325_0 := kc_ HB hx325_0
               replace hx325_1 := kc_ HB hx325_1
               replace hx325_2 := kc_ HB hx325_2
               replace hx325_3 := kc_ HB hx325_3
               replace hx325_4 := kc_ HB hx325_4
               replace hx325_5 := kc_ HB hx325_5
               replace hx325_6 := kc_ HB hx325_6
               replace hx325_7 := kc_ HB hx325_7
               replace hx325_8 := kc_ HB hx325_8
               have HR325_0 := Aside0.mk hi325_0
               have HC325_0 := Aside0.mk hl325_0
               clear hi325_0 hl325_0
               have HR325_2 := Aside0.mk hi325_2
               have HC325_2 := Aside0.mk hl325_2
               clear hi325_2 hl325_2
               have HR325_8 := Aside0.mk hi325_8
               have HC325_8 := Aside0.mk hl325_8
               clear hi325_8 hl325_8
               replace p325 := eq_true p325
               replace q325 := eq_true q325
               have hcz26_0 := cz_ BK323 0 (.slice A322_0 ((rd_T126 l0_3 x12_1).f0).length c322_0)
               have hcz26_1 := cz_ BK323 1 (.int .i64 ((rd_T126 l0_3 x12_1).f1))
               have hcz26_2 := cz_ BK323 2 (.slice A322_2 ((rd_T126 l0_3 x12_1).f2).length c322_2)
               have hcz26_3 := cz_ BK323 3 (.int .i64 ((rd_T126 l0_3 x12_1).f3))
               have hcz26_4 := cz_ BK323 4 (.int .i64 ((rd_T126 l0_3 x12_1).f4))
               have hcz26_5 := cz_ BK323 5 (.int .i64 ((rd_T126 l0_3 x12_1).f5))
               have hcz26_6 := cz_ BK323 6 (.int .i64 ((rd_T126 l0_3 x12_1).f6))
               have hcz26_7 := cz_ BK323 7 (.int .i64 ((rd_T126 l0_3 x12_1).f7))
               have hcz26_8 := cz_ BK323 8 (.slice A322_8 ((rd_T126 l0_3 x12_1).f8).length c322_8)
               have hfz26_0 := fz_ BK323 0
               have hfz26_1 := fz_ BK323 1
               have hfz26_2 := fz_ BK323 2
               have hfz26_3 := fz_ BK323 3
               have hfz26_4 := fz_ BK323 4
               have hfz26_5 := fz_ BK323 5
               have hfz26_6 := fz_ BK323 6
               have hfz26_7 := fz_ BK323 7
               have hfz26_8 := fz_ BK323 8
               go_wp2
               repeat (go_quiet (fail); try go_wp2)
               go_roundg k2
               case measure => have := HK1.out; have := HK2.out; omega
               case rel => exact ⟨(ji18), (by first | rfl | (simp; done) | (simp only [← hji18] <;> (first | rfl | (simp; done) | (simp [my_isEmpty, my_w256, Go.Proofs.YtepjnalkpfnmcaaW.PrintLast.i64_w, Go.Proofs.YtepjnalkpfnmcaaW.PrintLast.i32_w, Go.IntKind.wrap_u8, Go.IntKind.wrap_u32]; done))) | (simp [*]; done) | (simp [my_isEmpty, my_w256, Go.Proofs.YtepjnalkpfnmcaaW.PrintLast.i64_w, Go.Proofs.YtepjnalkpfnmcaaW.PrintLast.i32_w, Go.IntKind.wrap_u8, Go.IntKind.wrap_u32]; done)), H', ⟨by have := HK1.out; have := HK2.out; omega⟩, ⟨ra_ HO_3⟩, ⟨by (with_reducible repeat (first | refine blk_drewN ?_ _ | refine blk_drew ?_ | refine blk_alloc ?_ _)); exact BK318.out⟩, ⟨by (with_reducible repeat (first | refine blk_drewN ?_ _ | refine blk_drew ?_ | refine blk_alloc ?_ _)); exact BK323.out⟩, ⟨bl_⟩⟩
              ·rw [if_neg c23] at H
               have c23b0 : decide (((rd_T126 l0_3 x12_1).f5) < ((rd_T126 l0_3 (rd x3_1 (ji18))).f5)) = false := decide_eq_false c23
               clear c23
               obtain ⟨y326, hy326⟩ : ∃ y_ : List Int, y_ = (([] : List Int)) := ⟨_, rfl⟩
               replace H : (if 0 ≤ x6_2 then (if x6_2 ≤ (x3_1.length : Int) then ((some (x3_1.take (x6_2 : Int).toNat : List Int)).bind fun y329 => (if y326.length + y329.length < 17592186044416 then ((some (y326 ++ y329 : List Int)).bind fun y333 => (if y333.length < 17592186044416 then ((some (y333 ++ [x12_1] : List Int)).bind fun y336 => ((some (x3_1.drop (x6_2 : Int).toNat : List Int)).bind fun y339 => (if y336.length + y339.length < 17592186044416 then (spec_OrderOf.l0 k2 (y336 ++ y339) l0_3 (l0_3.length : Int) (wrap64 (x12_1 + 1)) l0_0 a0_1 a0_2 l0_3) else (none)))) else (none))) else (none))) else (none)) else (none)) = some r := by first | (rw [hy326]; with_reducible exact H) | (have H2_ := (Option.bind_some _ _).symm.trans H; rw [hy326]; with_reducible exact H2_) | (have H2_ := (Option.bind_some _ _).symm.trans H; with_reducible exact H2_) | with_reducible exact H | (rw [hy326]; exact H) | exact H
               have Ny326 := Aside0.mk hy326
               clear hy326
               by_cases c27 : 0 ≤ x6_2
               ·rw [if_pos c27] at H
                have c27b0 := eq_true c27
                have c27b1 : decide (0 ≤ x6_2) = true := decide_eq_true c27
                clear c27
                by_cases c28 : x6_2 ≤ (x3_1.length : Int)
                ·rw [if_pos c28] at H
                 have c28b0 := eq_true c28
                 have c28b1 : decide (x6_2 ≤ (x3_1.length : Int)) = true := decide_eq_true c28
                 clear c28
                 obtain ⟨y329, hy329⟩ : ∃ y_ : List Int, y_ = (x3_1.take (x6_2 : Int).toNat) := ⟨_, rfl⟩
                 replace H : (if y326.length + y329.length < 17592186044416 then ((some (y326 ++ y329 : List Int)).bind fun y333 => (if y333.length < 17592186044416 then ((some (y333 ++ [x12_1] : List Int)).bind fun y336 => ((some (x3_1.drop (x6_2 : Int).toNat : List Int)).bind fun y339 => (if y336.length + y339.length < 17592186044416 then (spec_OrderOf.l0 k2 (y336 ++ y339) l0_3 (l0_3.length : Int) (wrap64 (x12_1 + 1)) l0_0 a0_1 a0_2 l0_3) else (none)))) else (none))) else (none)) = some r := by first | (rw [hy329]; with_reducible exact H) | (have H2_ := (Option.bind_some _ _).symm.trans H; rw [hy329]; with_reducible exact H2_) | (have H2_ := (Option.bind_some _ _).symm.trans H; with_reducible exact H2_) | with_reducible exact H | (rw [hy329]; exact H) | exact H
                 have Ny329 := Aside0.mk hy329
                 clear hy329
                 by_cases c29 : y326.length + y329.length < 17592186044416
                 ·rw [if_pos c29] at H
                  have LMc29 := Aside0.mk c29
                  clear c29
                  obtain ⟨y333, hy333⟩ : ∃ y_ : List Int, y_ = (y326 ++ y329) := ⟨_, rfl⟩
                  replace H : (if y333.length < 17592186044416 then ((some (y333 ++ [x12_1] : List Int)).bind fun y336 => ((some (x3_1.drop (x6_2 : Int).toNat : List Int)).bind fun y339 => (if y336.length + y339.length < 17592186044416 then (spec_OrderOf.l0 k2 (y336 ++ y339) l0_3 (l0_3.length : Int) (wrap64 (x12_1 + 1)) l0_0 a0_1 a0_2 l0_3) else (none)))) else (none)) = some r := by first | (rw [hy333]; with_reducible exact H) | (have H2_ := (Option.bind_some _ _).symm.trans H; rw [hy333]; with_reducible exact H2_) | (have H2_ := (Option.bind_some _ _).symm.trans H; with_reducible exact H2_) | with_reducible exact H | (rw [hy333]; exact H) | exact H
                  have Ny333 := Aside0.mk hy333
                  clear hy333
                  by_cases c30 : y333.length < 17592186044416
                  ·rw [if_pos c30] at H
                   have LMc30 := Aside0.mk c30
                   clear c30
                   obtain ⟨y336, hy336⟩ : ∃ y_ : List Int, y_ = (y333 ++ [x12_1]) := ⟨_, rfl⟩
                   replace H : ((some (x3_1.drop (x6_2 : Int).toNat : List Int)).bind fun y339 => (if y336.length + y339.length < 17592186044416 then (spec_OrderOf.l0 k2 (y336 ++ y339) l0_3 (l0_3.length : Int) (wrap64 (x12_1 + 1)) l0_0 a0_1 a0_2 l0_3) else (none))) = some r := by first | (rw [hy336]; with_reducible exact H) | (have H2_ := (Option.bind_some _ _).symm.trans H; rw [hy336]; with_reducible exact H2_) | (have H2_ := (Option.bind_some _ _).symm.trans H; with_reducible exact H2_) | with_reducible exact H | (rw [hy336]; exact H) | exact H
                   have Ny336 := Aside0.mk hy336
                   clear hy336
                   have c31b0 := eq_true (od_ : 0 ≤ x6_2)
                   have c32b0 := eq_true (od_ : x6_2 ≤ (x3_1.length : Int))
                   obtain ⟨y339, hy339⟩ : ∃ y_ : List Int, y_ = (x3_1.drop (x6_2 : Int).toNat) := ⟨_, rfl⟩
                   replace H : (if y336.length + y339.length < 17592186044416 then (spec_OrderOf.l0 k2 (y336 ++ y339) l0_3 (l0_3.length : Int) (wrap64 (x12_1 + 1)) l0_0 a0_1 a0_2 l0_3) else (none)) = some r := by first | (rw [hy339]; with_reducible exact H) | (have H2_ := (Option.bind_some _ _).symm.trans H; rw [hy339]; with_reducible exact H2_) | (have H2_ := (Option.bind_some _ _).symm.trans H; with_reducible exact H2_) | with_reducible exact H | (rw [hy339]; exact H) | exact H
                   have Ny339 := Aside0.mk hy339
                   clear hy339
                   by_cases c33 : y336.length + y339.length < 17592186044416
                   ·rw [if_pos c33] at H
                    have LMc33 := Aside0.mk c33
                    clear c33
                    obtain ⟨y343, hy343⟩ : ∃ y_ : List Int, y_ = (y336 ++ y339) := ⟨_, rfl⟩
                    replace H : (spec_OrderOf.l0 k2 y343 l0_3 (l0_3.length : Int) (wrap64 (x12_1 + 1)) l0_0 a0_1 a0_2 l0_3) = some r := by first | (rw [hy343]; with_reducible exact H) | (have H2_ := (Option.bind_some _ _).symm.trans H; rw [hy343]; with_reducible exact H2_) | (have H2_ := (Option.bind_some _ _).symm.trans H; with_reducible exact H2_) | with_reducible exact H | (rw [hy343]; exact H) | exact H
                    have Ny343 := Aside0.mk hy343
                    clear hy343
                    have H' := Aside0.mk H
                    clear H
                    have hnb34 := NB318_323.out
                    have hnc34 := NB323_318.out
                    have hcz35_0 := cz_ BK318 0 (.slice A0_0 l0_0.length c0_0)
                    have hcz35_1 := cz_ BK318 1 (.int .i64 a0_1)
                    have hcz35_2 := cz_ BK318 2 (.int .i64 a0_2)
                    have hcz35_3 := cz_ BK318 3 (.slice (some ad322) l0_3.length c0_3)
                    have hfz35_0 := fz_ BK318 0
                    have hfz35_1 := fz_ BK318 1
                    have hfz35_2 := fz_ BK318 2
                    have hfz35_3 := fz_ BK318 3
                    have p324 : 0 ≤ ((ji18) : Int) := od_
                    have q324 : (ji18) < (x3_1.length : Int) := od_
                    obtain ⟨ad324, e324, hx324_0⟩ := Kd.at_int (Kd.R_reads' HO_3.out).2.2 (ji18) p324 q324
                    cases e324
                    replace p324 := eq_true p324
                    replace q324 := eq_true q324
                    have p325 : 0 ≤ ((rd x3_1 (ji18)) : Int) := od_
                    have q325 : (rd x3_1 (ji18)) < (l0_3.length : Int) := od_
                    obtain ⟨ad325, A325_0, c325_0, A325_2, c325_2, A325_8, c325_8, e325, hx325_0, hx325_1, hx325_2, hx325_3, hx325_4, hx325_5, hx325_6, hx325_7, hx325_8, hl325_0, hi325_0, hl325_2, hi325_2, hl325_8, hi325_8⟩ := at_T126 HR0_3.out (rd x3_1 (ji18)) p325 q325
                    obtain rfl : ad322 = ad325 := (by injection e325)
                    replace hx325_0 := kc_ HB hx325_0
                    replace hx325_1 := kc_ HB hx325_1
                    replace hx325_2 := kc_ HB hx325_2
                    replace hx325_3 := kc_ HB hx325_3
                    replace hx325_4 := kc_ HB hx325_4
                    replace hx325_5 := kc_ HB hx325_5
                    replace hx325_6 := kc_ HB hx325_6
                    replace hx325_7 := kc_ HB hx325_7
                    replace hx325_8 := kc_ HB hx325_8
                    have HR325_0 := Aside0.mk hi325_0
                    have HC325_0 := Aside0.mk hl325_0
                    clear hi325_0 hl325_0
                    have HR325_2 := Aside0.mk hi325_2
                    have HC325_2 := Aside0.mk hl325_2
                    clear hi325_2 hl325_2
                    have HR325_8 := Aside0.mk hi325_8
                    have HC325_8 := Aside0.mk hl325_8
                    clear hi325_8 hl325_8
                    replace p325 := eq_true p325
                    replace q325 := eq_true q325
                    have hcz36_0 := cz_ BK323 0 (.slice A322_0 ((rd_T126 l0_3 x12_1).f0).length c322_0)
                    have hcz36_1 := cz_ BK323 1 (.int .i64 ((rd_T126 l0_3 x12_1).f1))
                    have hcz36_2 := cz_ BK323 2 (.slice A322_2 ((rd_T126 l0_3 x12_1).f2).length c322_2)
                    have hcz36_3 := cz_ BK323 3 (.int .i64 ((rd_T126 l0_3 x12_1).f3))
                    have hcz36_4 := cz_ BK323 4 (.int .i64 ((rd_T126 l0_3 x12_1).f4))
                    have hcz36_5 := cz_ BK323 5 (.int .i64 ((rd_T126 l0_3 x12_1).f5))
                    have hcz36_6 := cz_ BK323 6 (.int .i64 ((rd_T126 l0_3 x12_1).f6))
                    have hcz36_7 := cz_ BK323 7 (.int .i64 ((rd_T126 l0_3 x12_1).f7))
                    have hcz36_8 := cz_ BK323 8 (.slice A322_8 ((rd_T126 l0_3 x12_1).f8).length c322_8)
                    have hfz36_0 := fz_ BK323 0
                    have hfz36_1 := fz_ BK323 1
                    have hfz36_2 := fz_ BK323 2
                    have hfz36_3 := fz_ BK323 3
                    have hfz36_4 := fz_ BK323 4
                    have hfz36_5 := fz_ BK323 5
                    have hfz36_6 := fz_ BK323 6
                    have hfz36_7 := fz_ BK323 7
                    have hfz36_8 := fz_ BK323 8
                    go_wp2_with (first | ((with_reducible refine gate_dst (N := 41) rfl ?_); refine Kd.R_lit (Kd.int .i64) _ 3 ?hg (N := 41) ?hd (xs := ([] : List Int)) (inner := []) (ok := fun _ => True) (okp := fun _ => True) ?hr ?hp (fun _ hk => hk) trivial (Below.refl _ _) (Nat.le_refl _) (by simp) ?_; (case hd => rfl); (case hg => rfl); (case hr => first | (go_simp; done) | (go_simp; rfl)); (case hp => exact (Reps.none _ _)); intro v327 w37 ho38 hb hg_ hnew_; clear hg_ hnew_; (first | rw [← Ny326.out] at ho38 | (simp only [Int.reduceToNat] at ho38; rw [← Ny326.out] at ho38)); have HO328 := Aside0.mk (Kd.R_lower (Kd.R_new' ho38 (Kd.R_lt (ra_ HO_3))) (below_size bl_)); replace HO_3 := Aside0.mk (Kd.R_elder' (ra_ HO_3) (Kd.R_base ho38) hb); replace BK318 := Aside0.mk (blk_below (bk_ BK318) hb); replace BK323 := Aside0.mk (blk_below (bk_ BK323) hb); replace HB := Aside0.mk (below_step bl_ hb); clear hb ho38; have q39 : (x6_2 : Int) ≤ ((x3_1.length : Int) : Int) := od_; obtain ⟨i039, hi039, _, hsz39, _⟩ := info_parts info3; have hroom39 : x3_1.length ≤ co16 := (Kd.R_reads' HO_3.out).2.1; have hC39 : Kd.C (Kd.int .i64) _ (some ad324) x3_1.length x3_1 := (Kd.R_reads' HO_3.out).2.2; have hcut39 := cut_to (P := Try.prog) 32 3 .i64 Try.underlying32 hi039 (some ad324) x3_1.length co16 x6_2 od_ q39 hroom39; have hr39 := Kd.C_take (m := (x6_2 : Int).toNat) hC39 (by omega); have hy39 : y329.length = (x6_2 : Int).toNat := (by rw [Ny329.out, List.length_take]; omega); rw [← Ny329.out] at hr39; rw [← hy39] at hcut39; have HR332 := Aside0.mk hr39; have HC332 := Aside0.mk (show y329.length ≤ co16 from by omega); clear hr39 hC39 hroom39 hi039 hsz39; have KY39 := Aside0.mk hy39; clear hy39; have KL39 := Aside0.mk (show (x6_2 : Int).toNat ≤ x3_1.length from by omega); replace q39 := eq_true q39) | ((with_reducible refine gate_builtin (b := .append) (xs := #[.tmp 41, .tmp 44]) rfl ?_); at_builtin; refine Kd.R_append_rows (Kd.int .i64) (w0 := w) w.heap.size rfl (.tmp 41) (.tmp 44) 32 3 (.int .i64 0) 8 rfl Try.underlying32 info3 rfl (by decide) (by omega) v327 y326 y329 _ _ _ (fun k_ => some k_ ≠ (.slice (some ad324) x3_1.length co16 : Value).ownBlock) (fun _ => False) rfl rfl ?aO ?aR (fun _ _ h => h) (fun _ h => h.elim) ?aF ?aB ?aS ?aL ?_; (case aR => exact ca_ (by repeat (first | (with_reducible exact HR332.out) | (with_reducible refine Kd.C_alloc ?_ _) | (with_reducible refine Kd.C_drewN ?_ _) | (with_reducible refine Kd.C_drew ?_) | exact HR332.out))); (case aB => exact bl_); (case aF => exact (fun k_ hk => Kd.fresh' (Kd.R_lt (ra_ HO_3)) k_ hk)); (case aO => exact (by (with_reducible repeat (first | apply Kd.R_alloc | apply Kd.R_drewN | apply Kd.R_drew)); exact Kd.R_mono HO328.out (fun _ hk => hk.2))); (case aS => exact (below_size bl_)); (case aL => have := LMc29.out; omega); intro v334 w40 ho hb hg hat; rw [← Ny333.out] at ho; have n0_ := Aside0.mk (Kd.R_after (ok := (fun _ => True)) (ra_ HO_3) hg hat); have n1_ := Aside0.mk (blk_grown (bk_ BK318) hg (Kd.R_ne HO328.out BK318.out (by decide))); have n2_ := Aside0.mk (blk_grown (bk_ BK323) hg (Kd.R_ne HO328.out BK323.out (by decide))); have n3_ := Aside0.mk (hb); have n4_ := Aside0.mk ((show Kd.C (Kd.int .i64) w40 (some ad324) y329.length y329 from by rw [Ny329.out]; exact Kd.C_take (m := (x6_2 : Int).toNat) ((Kd.R_reads' (Kd.R_after (ok := (fun _ => True)) (ra_ HO_3) hg hat)).2.2) KL39.out)); have n5_ := Aside0.mk (ho); clear HO_3; clear BK318; clear BK323; clear HB; clear HR332; clear HO328; have HO_3 := n0_; have BK318 := n1_; have BK323 := n2_; have HB := n3_; have HR332 := n4_; have HO335 := n5_; clear n0_ n1_ n2_ n3_ n4_ n5_; clear ho hb hg hat) | ((with_reducible refine gate_builtin (b := .append) (xs := #[.tmp 46, .tmp 48]) rfl ?_); at_builtin; refine Kd.R_append (Kd.int .i64) (w0 := w) w.heap.size rfl (.tmp 46) (.tmp 48) 32 3 (.int .i64 0) 8 rfl Try.underlying32 info3 rfl (by decide) (by omega) v334 y333 x12_1 [.int .i64 x12_1] (fun k_ => some k_ ≠ (.slice (some ad324) x3_1.length co16 : Value).ownBlock) (fun _ => False) rfl rfl ?aP (fun _ hk => hk.elim) ?aF ?aO ?aB ?aS ?aL ?_; (case aP => exact rfl); (case aB => exact bl_); (case aF => exact (fun k_ hk => Kd.fresh' (Kd.R_lt (ra_ HO_3)) k_ hk)); (case aO => exact (ra_ HO335)); (case aS => exact (below_size bl_)); (case aL => have := LMc30.out; omega); intro v337 w41 ho hb hg hat; rw [← Ny336.out] at ho; have n0_ := Aside0.mk (Kd.R_after (ok := (fun _ => True)) (ra_ HO_3) hg hat); have n1_ := Aside0.mk (blk_grown (bk_ BK318) hg (Kd.R_ne HO335.out BK318.out (by decide))); have n2_ := Aside0.mk (blk_grown (bk_ BK323) hg (Kd.R_ne HO335.out BK323.out (by decide))); have n3_ := Aside0.mk (hb); have n4_ := Aside0.mk ((show Kd.C (Kd.int .i64) w41 (some ad324) y329.length y329 from by rw [Ny329.out]; exact Kd.C_take (m := (x6_2 : Int).toNat) ((Kd.R_reads' (Kd.R_after (ok := (fun _ => True)) (ra_ HO_3) hg hat)).2.2) KL39.out)); have n5_ := Aside0.mk (ho); clear HO_3; clear BK318; clear BK323; clear HB; clear HR332; clear HO335; have HO_3 := n0_; have BK318 := n1_; have BK323 := n2_; have HB := n3_; have HR332 := n4_; have HO338 := n5_; clear n0_ n1_ n2_ n3_ n4_ n5_; clear ho hb hg hat; have q42 : (x6_2 : Int) ≤ ((x3_1.length : Int) : Int) := od_; obtain ⟨i042, hi042, _, hsz42, _⟩ := info_parts info3; have hroom42 : x3_1.length ≤ co16 := (Kd.R_reads' HO_3.out).2.1; have hC42 : Kd.C (Kd.int .i64) _ (some ad324) x3_1.length x3_1 := (Kd.R_reads' HO_3.out).2.2; have q042 : (0 : Int) ≤ (x6_2 : Int) := od_; have hcut42 := cut_from (P := Try.prog) 32 3 .i64 Try.underlying32 hi042 1 hsz42 (some ad324) x3_1.length co16 x6_2 q042 q42; have hr42 := Kd.C_drop (m := (x6_2 : Int).toNat) (c := co16) hC42 (by omega) hroom42; obtain ⟨A42, hA42⟩ : ∃ A1, A1 = (if co16 = (x6_2 : Int).toNat then (some ad324) else ((some ad324) : Option Addr).map (·.add ((x6_2 : Int).toNat * 1))) := ⟨_, rfl⟩; obtain ⟨c42, hc42⟩ : ∃ c1, c1 = co16 - (x6_2 : Int).toNat := ⟨_, rfl⟩; have hy42 : y339.length = x3_1.length - (x6_2 : Int).toNat := (by rw [Ny339.out, List.length_drop] <;> omega); rw [show (x3_1).drop (x6_2 : Int).toNat = y339 from Ny339.out.symm] at hr42; replace hr42 : Kd.C (Kd.int .i64) _ A42 y339.length y339 := (by rw [hA42]; exact hr42); rw [← hy42, ← hA42, ← hc42] at hcut42; have HR342 := Aside0.mk hr42; have HC342 := Aside0.mk (show y339.length ≤ c42 from by rw [hy42, hc42]; exact Nat.sub_le_sub_right hroom42 _); clear hr42 hC42 hroom42 hi042 hsz42 hc42; have KY42 := Aside0.mk hy42; have KA42 := Aside0.mk hA42; clear hy42 hA42; have KL42 := Aside0.mk (show (x6_2 : Int).toNat ≤ x3_1.length from by omega); replace q42 := eq_true q42) | ((with_reducible refine gate_builtin (b := .append) (xs := #[.tmp 50, .tmp 53]) rfl ?_); at_builtin; refine Kd.R_append_rows (Kd.int .i64) (w0 := w) w.heap.size rfl (.tmp 50) (.tmp 53) 32 3 (.int .i64 0) 8 rfl Try.underlying32 info3 rfl (by decide) (by omega) v337 y336 y339 _ _ _ (fun k_ => some k_ ≠ (.slice (some ad324) x3_1.length co16 : Value).ownBlock) (fun _ => False) rfl rfl ?aO ?aR (fun _ _ h => h) (fun _ h => h.elim) ?aF ?aB ?aS ?aL ?_; (case aR => exact ca_ (by repeat (first | (with_reducible exact HR342.out) | (with_reducible refine Kd.C_alloc ?_ _) | (with_reducible refine Kd.C_drewN ?_ _) | (with_reducible refine Kd.C_drew ?_) | exact HR342.out))); (case aB => exact bl_); (case aF => exact (fun k_ hk => Kd.fresh' (Kd.R_lt (ra_ HO_3)) k_ hk)); (case aO => exact (ra_ HO338)); (case aS => exact (below_size bl_)); (case aL => have := LMc33.out; omega); intro v344 w43 ho hb hg hat; rw [← Ny343.out] at ho; have n0_ := Aside0.mk (Kd.R_after (ok := (fun _ => True)) (ra_ HO_3) hg hat); have n1_ := Aside0.mk (blk_grown (bk_ BK318) hg (Kd.R_ne HO338.out BK318.out (by decide))); have n2_ := Aside0.mk (blk_grown (bk_ BK323) hg (Kd.R_ne HO338.out BK323.out (by decide))); have n3_ := Aside0.mk (hb); have n4_ := Aside0.mk ((show Kd.C (Kd.int .i64) w43 (some ad324) y329.length y329 from by rw [Ny329.out]; exact Kd.C_take (m := (x6_2 : Int).toNat) ((Kd.R_reads' (Kd.R_after (ok := (fun _ => True)) (ra_ HO_3) hg hat)).2.2) KL39.out)); have n5_ := Aside0.mk ((show Kd.C (Kd.int .i64) w43 A42 y339.length y339 from by rw [Ny339.out, KA42.out]; exact Kd.C_drop (m := (x6_2 : Int).toNat) (c := co16) ((Kd.R_reads' (Kd.R_after (ok := (fun _ => True)) (ra_ HO_3) hg hat)).2.2) KL42.out ((Kd.R_reads' (Kd.R_after (ok := (fun _ => True)) (ra_ HO_3) hg hat)).2.1))); have n6_ := Aside0.mk (ho); clear HO_3; clear BK318; clear BK323; clear HB; clear HR332; clear HR342; clear HO338; have HO_3 := n0_; have BK318 := n1_; have BK323 := n2_; have HB := n3_; have HR332 := n4_; have HR342 := n5_; have HO345 := n6_; clear n0_ n1_ n2_ n3_ n4_ n5_ n6_; clear ho hb hg hat))
                    repeat (go_quiet (first | ((with_reducible refine gate_dst (N := 41) rfl ?_); refine Kd.R_lit (Kd.int .i64) _ 3 ?hg (N := 41) ?hd (xs := ([] : List Int)) (inner := []) (ok := fun _ => True) (okp := fun _ => True) ?hr ?hp (fun _ hk => hk) trivial (Below.refl _ _) (Nat.le_refl _) (by simp) ?_; (case hd => rfl); (case hg => rfl); (case hr => first | (go_simp; done) | (go_simp; rfl)); (case hp => exact (Reps.none _ _)); intro v327 w37 ho38 hb hg_ hnew_; clear hg_ hnew_; (first | rw [← Ny326.out] at ho38 | (simp only [Int.reduceToNat] at ho38; rw [← Ny326.out] at ho38)); have HO328 := Aside0.mk (Kd.R_lower (Kd.R_new' ho38 (Kd.R_lt (ra_ HO_3))) (below_size bl_)); replace HO_3 := Aside0.mk (Kd.R_elder' (ra_ HO_3) (Kd.R_base ho38) hb); replace BK318 := Aside0.mk (blk_below (bk_ BK318) hb); replace BK323 := Aside0.mk (blk_below (bk_ BK323) hb); replace HB := Aside0.mk (below_step bl_ hb); clear hb ho38; have q39 : (x6_2 : Int) ≤ ((x3_1.length : Int) : Int) := od_; obtain ⟨i039, hi039, _, hsz39, _⟩ := info_parts info3; have hroom39 : x3_1.length ≤ co16 := (Kd.R_reads' HO_3.out).2.1; have hC39 : Kd.C (Kd.int .i64) _ (some ad324) x3_1.length x3_1 := (Kd.R_reads' HO_3.out).2.2; have hcut39 := cut_to (P := Try.prog) 32 3 .i64 Try.underlying32 hi039 (some ad324) x3_1.length co16 x6_2 od_ q39 hroom39; have hr39 := Kd.C_take (m := (x6_2 : Int).toNat) hC39 (by omega); have hy39 : y329.length = (x6_2 : Int).toNat := (by rw [Ny329.out, List.length_take]; omega); rw [← Ny329.out] at hr39; rw [← hy39] at hcut39; have HR332 := Aside0.mk hr39; have HC332 := Aside0.mk (show y329.length ≤ co16 from by omega); clear hr39 hC39 hroom39 hi039 hsz39; have KY39 := Aside0.mk hy39; clear hy39; have KL39 := Aside0.mk (show (x6_2 : Int).toNat ≤ x3_1.length from by omega); replace q39 := eq_true q39) | ((with_reducible refine gate_builtin (b := .append) (xs := #[.tmp 41, .tmp 44]) rfl ?_); at_builtin; refine Kd.R_append_rows (Kd.int .i64) (w0 := w) w.heap.size rfl (.tmp 41) (.tmp 44) 32 3 (.int .i64 0) 8 rfl Try.underlying32 info3 rfl (by decide) (by omega) v327 y326 y329 _ _ _ (fun k_ => some k_ ≠ (.slice (some ad324) x3_1.length co16 : Value).ownBlock) (fun _ => False) rfl rfl ?aO ?aR (fun _ _ h => h) (fun _ h => h.elim) ?aF ?aB ?aS ?aL ?_; (case aR => exact ca_ (by repeat (first | (with_reducible exact HR332.out) | (with_reducible refine Kd.C_alloc ?_ _) | (with_reducible refine Kd.C_drewN ?_ _) | (with_reducible refine Kd.C_drew ?_) | exact HR332.out))); (case aB => exact bl_); (case aF => exact (fun k_ hk => Kd.fresh' (Kd.R_lt (ra_ HO_3)) k_ hk)); (case aO => exact (by (with_reducible repeat (first | apply Kd.R_alloc | apply Kd.R_drewN | apply Kd.R_drew)); exact Kd.R_mono HO328.out (fun _ hk => hk.2))); (case aS => exact (below_size bl_)); (case aL => have := LMc29.out; omega); intro v334 w40 ho hb hg hat; rw [← Ny333.out] at ho; have n0_ := Aside0.mk (Kd.R_after (ok := (fun _ => True)) (ra_ HO_3) hg hat); have n1_ := Aside0.mk (blk_grown (bk_ BK318) hg (Kd.R_ne HO328.out BK318.out (by decide))); have n2_ := Aside0.mk (blk_grown (bk_ BK323) hg (Kd.R_ne HO328.out BK323.out (by decide))); have n3_ := Aside0.mk (hb); have n4_ := Aside0.mk ((show Kd.C (Kd.int .i64) w40 (some ad324) y329.length y329 from by rw [Ny329.out]; exact Kd.C_take (m := (x6_2 : Int).toNat) ((Kd.R_reads' (Kd.R_after (ok := (fun _ => True)) (ra_ HO_3) hg hat)).2.2) KL39.out)); have n5_ := Aside0.mk (ho); clear HO_3; clear BK318; clear BK323; clear HB; clear HR332; clear HO328; have HO_3 := n0_; have BK318 := n1_; have BK323 := n2_; have HB := n3_; have HR332 := n4_; have HO335 := n5_; clear n0_ n1_ n2_ n3_ n4_ n5_; clear ho hb hg hat) | ((with_reducible refine gate_builtin (b := .append) (xs := #[.tmp 46, .tmp 48]) rfl ?_); at_builtin; refine Kd.R_append (Kd.int .i64) (w0 := w) w.heap.size rfl (.tmp 46) (.tmp 48) 32 3 (.int .i64 0) 8 rfl Try.underlying32 info3 rfl (by decide) (by omega) v334 y333 x12_1 [.int .i64 x12_1] (fun k_ => some k_ ≠ (.slice (some ad324) x3_1.length co16 : Value).ownBlock) (fun _ => False) rfl rfl ?aP (fun _ hk => hk.elim) ?aF ?aO ?aB ?aS ?aL ?_; (case aP => exact rfl); (case aB => exact bl_); (case aF => exact (fun k_ hk => Kd.fresh' (Kd.R_lt (ra_ HO_3)) k_ hk)); (case aO => exact (ra_ HO335)); (case aS => exact (below_size bl_)); (case aL => have := LMc30.out; omega); intro v337 w41 ho hb hg hat; rw [← Ny336.out] at ho; have n0_ := Aside0.mk (Kd.R_after (ok := (fun _ => True)) (ra_ HO_3) hg hat); have n1_ := Aside0.mk (blk_grown (bk_ BK318) hg (Kd.R_ne HO335.out BK318.out (by decide))); have n2_ := Aside0.mk (blk_grown (bk_ BK323) hg (Kd.R_ne HO335.out BK323.out (by decide))); have n3_ := Aside0.mk (hb); have n4_ := Aside0.mk ((show Kd.C (Kd.int .i64) w41 (some ad324) y329.length y329 from by rw [Ny329.out]; exact Kd.C_take (m := (x6_2 : Int).toNat) ((Kd.R_reads' (Kd.R_after (ok := (fun _ => True)) (ra_ HO_3) hg hat)).2.2) KL39.out)); have n5_ := Aside0.mk (ho); clear HO_3; clear BK318; clear BK323; clear HB; clear HR332; clear HO335; have HO_3 := n0_; have BK318 := n1_; have BK323 := n2_; have HB := n3_; have HR332 := n4_; have HO338 := n5_; clear n0_ n1_ n2_ n3_ n4_ n5_; clear ho hb hg hat; have q42 : (x6_2 : Int) ≤ ((x3_1.length : Int) : Int) := od_; obtain ⟨i042, hi042, _, hsz42, _⟩ := info_parts info3; have hroom42 : x3_1.length ≤ co16 := (Kd.R_reads' HO_3.out).2.1; have hC42 : Kd.C (Kd.int .i64) _ (some ad324) x3_1.length x3_1 := (Kd.R_reads' HO_3.out).2.2; have q042 : (0 : Int) ≤ (x6_2 : Int) := od_; have hcut42 := cut_from (P := Try.prog) 32 3 .i64 Try.underlying32 hi042 1 hsz42 (some ad324) x3_1.length co16 x6_2 q042 q42; have hr42 := Kd.C_drop (m := (x6_2 : Int).toNat) (c := co16) hC42 (by omega) hroom42; obtain ⟨A42, hA42⟩ : ∃ A1, A1 = (if co16 = (x6_2 : Int).toNat then (some ad324) else ((some ad324) : Option Addr).map (·.add ((x6_2 : Int).toNat * 1))) := ⟨_, rfl⟩; obtain ⟨c42, hc42⟩ : ∃ c1, c1 = co16 - (x6_2 : Int).toNat := ⟨_, rfl⟩; have hy42 : y339.length = x3_1.length - (x6_2 : Int).toNat := (by rw [Ny339.out, List.length_drop] <;> omega); rw [show (x3_1).drop (x6_2 : Int).toNat = y339 from Ny339.out.symm] at hr42; replace hr42 : Kd.C (Kd.int .i64) _ A42 y339.length y339 := (by rw [hA42]; exact hr42); rw [← hy42, ← hA42, ← hc42] at hcut42; have HR342 := Aside0.mk hr42; have HC342 := Aside0.mk (show y339.length ≤ c42 from by rw [hy42, hc42]; exact Nat.sub_le_sub_right hroom42 _); clear hr42 hC42 hroom42 hi042 hsz42 hc42; have KY42 := Aside0.mk hy42; have KA42 := Aside0.mk hA42; clear hy42 hA42; have KL42 := Aside0.mk (show (x6_2 : Int).toNat ≤ x3_1.length from by omega); replace q42 := eq_true q42) | ((with_reducible refine gate_builtin (b := .append) (xs := #[.tmp 50, .tmp 53]) rfl ?_); at_builtin; refine Kd.R_append_rows (Kd.int .i64) (w0 := w) w.heap.size rfl (.tmp 50) (.tmp 53) 32 3 (.int .i64 0) 8 rfl Try.underlying32 info3 rfl (by decide) (by omega) v337 y336 y339 _ _ _ (fun k_ => some k_ ≠ (.slice (some ad324) x3_1.length co16 : Value).ownBlock) (fun _ => False) rfl rfl ?aO ?aR (fun _ _ h => h) (fun _ h => h.elim) ?aF ?aB ?aS ?aL ?_; (case aR => exact ca_ (by repeat (first | (with_reducible exact HR342.out) | (with_reducible refine Kd.C_alloc ?_ _) | (with_reducible refine Kd.C_drewN ?_ _) | (with_reducible refine Kd.C_drew ?_) | exact HR342.out))); (case aB => exact bl_); (case aF => exact (fun k_ hk => Kd.fresh' (Kd.R_lt (ra_ HO_3)) k_ hk)); (case aO => exact (ra_ HO338)); (case aS => exact (below_size bl_)); (case aL => have := LMc33.out; omega); intro v344 w43 ho hb hg hat; rw [← Ny343.out] at ho; have n0_ := Aside0.mk (Kd.R_after (ok := (fun _ => True)) (ra_ HO_3) hg hat); have n1_ := Aside0.mk (blk_grown (bk_ BK318) hg (Kd.R_ne HO338.out BK318.out (by decide))); have n2_ := Aside0.mk (blk_grown (bk_ BK323) hg (Kd.R_ne HO338.out BK323.out (by decide))); have n3_ := Aside0.mk (hb); have n4_ := Aside0.mk ((show Kd.C (Kd.int .i64) w43 (some ad324) y329.length y329 from by rw [Ny329.out]; exact Kd.C_take (m := (x6_2 : Int).toNat) ((Kd.R_reads' (Kd.R_after (ok := (fun _ => True)) (ra_ HO_3) hg hat)).2.2) KL39.out)); have n5_ := Aside0.mk ((show Kd.C (Kd.int .i64) w43 A42 y339.length y339 from by rw [Ny339.out, KA42.out]; exact Kd.C_drop (m := (x6_2 : Int).toNat) (c := co16) ((Kd.R_reads' (Kd.R_after (ok := (fun _ => True)) (ra_ HO_3) hg hat)).2.2) KL42.out ((Kd.R_reads' (Kd.R_after (ok := (fun _ => True)) (ra_ HO_3) hg hat)).2.1))); have n6_ := Aside0.mk (ho); clear HO_3; clear BK318; clear BK323; clear HB; clear HR332; clear HR342; clear HO338; have HO_3 := n0_; have BK318 := n1_; have BK323 := n2_; have HB := n3_; have HR332 := n4_; have HR342 := n5_; have HO345 := n6_; clear n0_ n1_ n2_ n3_ n4_ n5_ n6_; clear ho hb hg hat)); try go_wp2_with (first | ((with_reducible refine gate_dst (N := 41) rfl ?_); refine Kd.R_lit (Kd.int .i64) _ 3 ?hg (N := 41) ?hd (xs := ([] : List Int)) (inner := []) (ok := fun _ => True) (okp := fun _ => True) ?hr ?hp (fun _ hk => hk) trivial (Below.refl _ _) (Nat.le_refl _) (by simp) ?_; (case hd => rfl); (case hg => rfl); (case hr => first | (go_simp; done) | (go_simp; rfl)); (case hp => exact (Reps.none _ _)); intro v327 w37 ho38 hb hg_ hnew_; clear hg_ hnew_; (first | rw [← Ny326.out] at ho38 | (simp only [Int.reduceToNat] at ho38; rw [← Ny326.out] at ho38)); have HO328 := Aside0.mk (Kd.R_lower (Kd.R_new' ho38 (Kd.R_lt (ra_ HO_3))) (below_size bl_)); replace HO_3 := Aside0.mk (Kd.R_elder' (ra_ HO_3) (Kd.R_base ho38) hb); replace BK318 := Aside0.mk (blk_below (bk_ BK318) hb); replace BK323 := Aside0.mk (blk_below (bk_ BK323) hb); replace HB := Aside0.mk (below_step bl_ hb); clear hb ho38; have q39 : (x6_2 : Int) ≤ ((x3_1.length : Int) : Int) := od_; obtain ⟨i039, hi039, _, hsz39, _⟩ := info_parts info3; have hroom39 : x3_1.length ≤ co16 := (Kd.R_reads' HO_3.out).2.1; have hC39 : Kd.C (Kd.int .i64) _ (some ad324) x3_1.length x3_1 := (Kd.R_reads' HO_3.out).2.2; have hcut39 := cut_to (P := Try.prog) 32 3 .i64 Try.underlying32 hi039 (some ad324) x3_1.length co16 x6_2 od_ q39 hroom39; have hr39 := Kd.C_take (m := (x6_2 : Int).toNat) hC39 (by omega); have hy39 : y329.length = (x6_2 : Int).toNat := (by rw [Ny329.out, List.length_take]; omega); rw [← Ny329.out] at hr39; rw [← hy39] at hcut39; have HR332 := Aside0.mk hr39; have HC332 := Aside0.mk (show y329.length ≤ co16 from by omega); clear hr39 hC39 hroom39 hi039 hsz39; have KY39 := Aside0.mk hy39; clear hy39; have KL39 := Aside0.mk (show (x6_2 : Int).toNat ≤ x3_1.length from by omega); replace q39 := eq_true q39) | ((with_reducible refine gate_builtin (b := .append) (xs := #[.tmp 41, .tmp 44]) rfl ?_); at_builtin; refine Kd.R_append_rows (Kd.int .i64) (w0 := w) w.heap.size rfl (.tmp 41) (.tmp 44) 32 3 (.int .i64 0) 8 rfl Try.underlying32 info3 rfl (by decide) (by omega) v327 y326 y329 _ _ _ (fun k_ => some k_ ≠ (.slice (some ad324) x3_1.length co16 : Value).ownBlock) (fun _ => False) rfl rfl ?aO ?aR (fun _ _ h => h) (fun _ h => h.elim) ?aF ?aB ?aS ?aL ?_; (case aR => exact ca_ (by repeat (first | (with_reducible exact HR332.out) | (with_reducible refine Kd.C_alloc ?_ _) | (with_reducible refine Kd.C_drewN ?_ _) | (with_reducible refine Kd.C_drew ?_) | exact HR332.out))); (case aB => exact bl_); (case aF => exact (fun k_ hk => Kd.fresh' (Kd.R_lt (ra_ HO_3)) k_ hk)); (case aO => exact (by (with_reducible repeat (first | apply Kd.R_alloc | apply Kd.R_drewN | apply Kd.R_drew)); exact Kd.R_mono HO328.out (fun _ hk => hk.2))); (case aS => exact (below_size bl_)); (case aL => have := LMc29.out; omega); intro v334 w40 ho hb hg hat; rw [← Ny333.out] at ho; have n0_ := Aside0.mk (Kd.R_after (ok := (fun _ => True)) (ra_ HO_3) hg hat); have n1_ := Aside0.mk (blk_grown (bk_ BK318) hg (Kd.R_ne HO328.out BK318.out (by decide))); have n2_ := Aside0.mk (blk_grown (bk_ BK323) hg (Kd.R_ne HO328.out BK323.out (by decide))); have n3_ := Aside0.mk (hb); have n4_ := Aside0.mk ((show Kd.C (Kd.int .i64) w40 (some ad324) y329.length y329 from by rw [Ny329.out]; exact Kd.C_take (m := (x6_2 : Int).toNat) ((Kd.R_reads' (Kd.R_after (ok := (fun _ => True)) (ra_ HO_3) hg hat)).2.2) KL39.out)); have n5_ := Aside0.mk (ho); clear HO_3; clear BK318; clear BK323; clear HB; clear HR332; clear HO328; have HO_3 := n0_; have BK318 := n1_; have BK323 := n2_; have HB := n3_; have HR332 := n4_; have HO335 := n5_; clear n0_ n1_ n2_ n3_ n4_ n5_; clear ho hb hg hat) | ((with_reducible refine gate_builtin (b := .append) (xs := #[.tmp 46, .tmp 48]) rfl ?_); at_builtin; refine Kd.R_append (Kd.int .i64) (w0 := w) w.heap.size rfl (.tmp 46) (.tmp 48) 32 3 (.int .i64 0) 8 rfl Try.underlying32 info3 rfl (by decide) (by omega) v334 y333 x12_1 [.int .i64 x12_1] (fun k_ => some k_ ≠ (.slice (some ad324) x3_1.length co16 : Value).ownBlock) (fun _ => False) rfl rfl ?aP (fun _ hk => hk.elim) ?aF ?aO ?aB ?aS ?aL ?_; (case aP => exact rfl); (case aB => exact bl_); (case aF => exact (fun k_ hk => Kd.fresh' (Kd.R_lt (ra_ HO_3)) k_ hk)); (case aO => exact (ra_ HO335)); (case aS => exact (below_size bl_)); (case aL => have := LMc30.out; omega); intro v337 w41 ho hb hg hat; rw [← Ny336.out] at ho; have n0_ := Aside0.mk (Kd.R_after (ok := (fun _ => True)) (ra_ HO_3) hg hat); have n1_ := Aside0.mk (blk_grown (bk_ BK318) hg (Kd.R_ne HO335.out BK318.out (by decide))); have n2_ := Aside0.mk (blk_grown (bk_ BK323) hg (Kd.R_ne HO335.out BK323.out (by decide))); have n3_ := Aside0.mk (hb); have n4_ := Aside0.mk ((show Kd.C (Kd.int .i64) w41 (some ad324) y329.length y329 from by rw [Ny329.out]; exact Kd.C_take (m := (x6_2 : Int).toNat) ((Kd.R_reads' (Kd.R_after (ok := (fun _ => True)) (ra_ HO_3) hg hat)).2.2) KL39.out)); have n5_ := Aside0.mk (ho); clear HO_3; clear BK318; clear BK323; clear HB; clear HR332; clear HO335; have HO_3 := n0_; have BK318 := n1_; have BK323 := n2_; have HB := n3_; have HR332 := n4_; have HO338 := n5_; clear n0_ n1_ n2_ n3_ n4_ n5_; clear ho hb hg hat; have q42 : (x6_2 : Int) ≤ ((x3_1.length : Int) : Int) := od_; obtain ⟨i042, hi042, _, hsz42, _⟩ := info_parts info3; have hroom42 : x3_1.length ≤ co16 := (Kd.R_reads' HO_3.out).2.1; have hC42 : Kd.C (Kd.int .i64) _ (some ad324) x3_1.length x3_1 := (Kd.R_reads' HO_3.out).2.2; have q042 : (0 : Int) ≤ (x6_2 : Int) := od_; have hcut42 := cut_from (P := Try.prog) 32 3 .i64 Try.underlying32 hi042 1 hsz42 (some ad324) x3_1.length co16 x6_2 q042 q42; have hr42 := Kd.C_drop (m := (x6_2 : Int).toNat) (c := co16) hC42 (by omega) hroom42; obtain ⟨A42, hA42⟩ : ∃ A1, A1 = (if co16 = (x6_2 : Int).toNat then (some ad324) else ((some ad324) : Option Addr).map (·.add ((x6_2 : Int).toNat * 1))) := ⟨_, rfl⟩; obtain ⟨c42, hc42⟩ : ∃ c1, c1 = co16 - (x6_2 : Int).toNat := ⟨_, rfl⟩; have hy42 : y339.length = x3_1.length - (x6_2 : Int).toNat := (by rw [Ny339.out, List.length_drop] <;> omega); rw [show (x3_1).drop (x6_2 : Int).toNat = y339 from Ny339.out.symm] at hr42; replace hr42 : Kd.C (Kd.int .i64) _ A42 y339.length y339 := (by rw [hA42]; exact hr42); rw [← hy42, ← hA42, ← hc42] at hcut42; have HR342 := Aside0.mk hr42; have HC342 := Aside0.mk (show y339.length ≤ c42 from by rw [hy42, hc42]; exact Nat.sub_le_sub_right hroom42 _); clear hr42 hC42 hroom42 hi042 hsz42 hc42; have KY42 := Aside0.mk hy42; have KA42 := Aside0.mk hA42; clear hy42 hA42; have KL42 := Aside0.mk (show (x6_2 : Int).toNat ≤ x3_1.length from by omega); replace q42 := eq_true q42) | ((with_reducible refine gate_builtin (b := .append) (xs := #[.tmp 50, .tmp 53]) rfl ?_); at_builtin; refine Kd.R_append_rows (Kd.int .i64) (w0 := w) w.heap.size rfl (.tmp 50) (.tmp 53) 32 3 (.int .i64 0) 8 rfl Try.underlying32 info3 rfl (by decide) (by omega) v337 y336 y339 _ _ _ (fun k_ => some k_ ≠ (.slice (some ad324) x3_1.length co16 : Value).ownBlock) (fun _ => False) rfl rfl ?aO ?aR (fun _ _ h => h) (fun _ h => h.elim) ?aF ?aB ?aS ?aL ?_; (case aR => exact ca_ (by repeat (first | (with_reducible exact HR342.out) | (with_reducible refine Kd.C_alloc ?_ _) | (with_reducible refine Kd.C_drewN ?_ _) | (with_reducible refine Kd.C_drew ?_) | exact HR342.out))); (case aB => exact bl_); (case aF => exact (fun k_ hk => Kd.fresh' (Kd.R_lt (ra_ HO_3)) k_ hk)); (case aO => exact (ra_ HO338)); (case aS => exact (below_size bl_)); (case aL => have := LMc33.out; omega); intro v344 w43 ho hb hg hat; rw [← Ny343.out] at ho; have n0_ := Aside0.mk (Kd.R_after (ok := (fun _ => True)) (ra_ HO_3) hg hat); have n1_ := Aside0.mk (blk_grown (bk_ BK318) hg (Kd.R_ne HO338.out BK318.out (by decide))); have n2_ := Aside0.mk (blk_grown (bk_ BK323) hg (Kd.R_ne HO338.out BK323.out (by decide))); have n3_ := Aside0.mk (hb); have n4_ := Aside0.mk ((show Kd.C (Kd.int .i64) w43 (some ad324) y329.length y329 from by rw [Ny329.out]; exact Kd.C_take (m := (x6_2 : Int).toNat) ((Kd.R_reads' (Kd.R_after (ok := (fun _ => True)) (ra_ HO_3) hg hat)).2.2) KL39.out)); have n5_ := Aside0.mk ((show Kd.C (Kd.int .i64) w43 A42 y339.length y339 from by rw [Ny339.out, KA42.out]; exact Kd.C_drop (m := (x6_2 : Int).toNat) (c := co16) ((Kd.R_reads' (Kd.R_after (ok := (fun _ => True)) (ra_ HO_3) hg hat)).2.2) KL42.out ((Kd.R_reads' (Kd.R_after (ok := (fun _ => True)) (ra_ HO_3) hg hat)).2.1))); have n6_ := Aside0.mk (ho); clear HO_3; clear BK318; clear BK323; clear HB; clear HR332; clear HR342; clear HO338; have HO_3 := n0_; have BK318 := n1_; have BK323 := n2_; have HB := n3_; have HR332 := n4_; have HR342 := n5_; have HO345 := n6_; clear n0_ n1_ n2_ n3_ n4_ n5_ n6_; clear ho hb hg hat)))
                    go_roundg k2
                    case measure => have := HK1.out; have := HK2.out; omega
                    case rel => exact ⟨(y343), (wrap64 (x12_1 + 1)), sp_, H', ⟨by have := HK1.out; have := HK2.out; omega⟩, ⟨by (with_reducible repeat (first | apply Kd.R_alloc | apply Kd.R_drewN | apply Kd.R_drew)); exact Kd.R_mono HO345.out (fun _ hk => trivial)⟩, ⟨by (with_reducible repeat (first | refine blk_drewN ?_ _ | refine blk_drew ?_ | refine blk_alloc ?_ _)); exact BK318.out⟩, ⟨bl_⟩⟩
                   ·rw [if_neg c33] at H
                    exact absurd H (by simp)
                  ·rw [if_neg c30] at H
                   exact absurd H (by simp)
                 ·rw [if_neg c29] at H
                  exact absurd H (by simp)
                ·rw [if_neg c28] at H
                 exact absurd H (by simp)
               ·rw [if_neg c27] at H
                exact absurd H (by simp)
             ·rw [if_neg c22] at H
              exact absurd H (by simp)
            ·rw [if_neg c21] at H
             exact absurd H (by simp)
           ·rw [if_neg c20] at H
            exact absurd H (by simp)
          ·rw [if_neg c19] at H
           exact absurd H (by simp)
         ·rw [if_neg c17] at H
          have c17b0 : decide (0 < x6_2) = false := decide_eq_false c17
          clear c17
          obtain ⟨y346, hy346⟩ : ∃ y_ : List Int, y_ = (([] : List Int)) := ⟨_, rfl⟩
          replace H : (if 0 ≤ x6_2 then (if x6_2 ≤ (x3_1.length : Int) then ((some (x3_1.take (x6_2 : Int).toNat : List Int)).bind fun y349 => (if y346.length + y349.length < 17592186044416 then ((some (y346 ++ y349 : List Int)).bind fun y353 => (if y353.length < 17592186044416 then ((some (y353 ++ [x12_1] : List Int)).bind fun y356 => ((some (x3_1.drop (x6_2 : Int).toNat : List Int)).bind fun y359 => (if y356.length + y359.length < 17592186044416 then (spec_OrderOf.l0 k2 (y356 ++ y359) l0_3 (l0_3.length : Int) (wrap64 (x12_1 + 1)) l0_0 a0_1 a0_2 l0_3) else (none)))) else (none))) else (none))) else (none)) else (none)) = some r := by first | (rw [hy346]; with_reducible exact H) | (have H2_ := (Option.bind_some _ _).symm.trans H; rw [hy346]; with_reducible exact H2_) | (have H2_ := (Option.bind_some _ _).symm.trans H; with_reducible exact H2_) | with_reducible exact H | (rw [hy346]; exact H) | exact H
          have Ny346 := Aside0.mk hy346
          clear hy346
          by_cases c44 : 0 ≤ x6_2
          ·rw [if_pos c44] at H
           have c44b0 := eq_true c44
           have c44b1 : decide (0 ≤ x6_2) = true := decide_eq_true c44
           clear c44
           by_cases c45 : x6_2 ≤ (x3_1.length : Int)
           ·rw [if_pos c45] at H
            have c45b0 := eq_true c45
            have c45b1 : decide (x6_2 ≤ (x3_1.length : Int)) = true := decide_eq_true c45
            clear c45
            obtain ⟨y349, hy349⟩ : ∃ y_ : List Int, y_ = (x3_1.take (x6_2 : Int).toNat) := ⟨_, rfl⟩
            replace H : (if y346.length + y349.length < 17592186044416 then ((some (y346 ++ y349 : List Int)).bind fun y353 => (if y353.length < 17592186044416 then ((some (y353 ++ [x12_1] : List Int)).bind fun y356 => ((some (x3_1.drop (x6_2 : Int).toNat : List Int)).bind fun y359 => (if y356.length + y359.length < 17592186044416 then (spec_OrderOf.l0 k2 (y356 ++ y359) l0_3 (l0_3.length : Int) (wrap64 (x12_1 + 1)) l0_0 a0_1 a0_2 l0_3) else (none)))) else (none))) else (none)) = some r := by first | (rw [hy349]; with_reducible exact H) | (have H2_ := (Option.bind_some _ _).symm.trans H; rw [hy349]; with_reducible exact H2_) | (have H2_ := (Option.bind_some _ _).symm.trans H; with_reducible exact H2_) | with_reducible exact H | (rw [hy349]; exact H) | exact H
            have Ny349 := Aside0.mk hy349
            clear hy349
            by_cases c46 : y346.length + y349.length < 17592186044416
            ·rw [if_pos c46] at H
             have LMc46 := Aside0.mk c46
             clear c46
             obtain ⟨y353, hy353⟩ : ∃ y_ : List Int, y_ = (y346 ++ y349) := ⟨_, rfl⟩
             replace H : (if y353.length < 17592186044416 then ((some (y353 ++ [x12_1] : List Int)).bind fun y356 => ((some (x3_1.drop (x6_2 : Int).toNat : List Int)).bind fun y359 => (if y356.length + y359.length < 17592186044416 then (spec_OrderOf.l0 k2 (y356 ++ y359) l0_3 (l0_3.length : Int) (wrap64 (x12_1 + 1)) l0_0 a0_1 a0_2 l0_3) else (none)))) else (none)) = some r := by first | (rw [hy353]; with_reducible exact H) | (have H2_ := (Option.bind_some _ _).symm.trans H; rw [hy353]; with_reducible exact H2_) | (have H2_ := (Option.bind_some _ _).symm.trans H; with_reducible exact H2_) | with_reducible exact H | (rw [hy353]; exact H) | exact H
             have Ny353 := Aside0.mk hy353
             clear hy353
             by_cases c47 : y353.length < 17592186044416
             ·rw [if_pos c47] at H
              have LMc47 := Aside0.mk c47
              clear c47
              obtain ⟨y356, hy356⟩ : ∃ y_ : List Int, y_ = (y353 ++ [x12_1]) := ⟨_, rfl⟩
              replace H : ((some (x3_1.drop (x6_2 : Int).toNat : List Int)).bind fun y359 => (if y356.length + y359.length < 17592186044416 then (spec_OrderOf.l0 k2 (y356 ++ y359) l0_3 (l0_3.length : Int) (wrap64 (x12_1 + 1)) l0_0 a0_1 a0_2 l0_3) else (none))) = some r := by first | (rw [hy356]; with_reducible exact H) | (have H2_ := (Option.bind_some _ _).symm.trans H; rw [hy356]; with_reducible exact H2_) | (have H2_ := (Option.bind_some _ _).symm.trans H; with_reducible exact H2_) | with_reducible exact H | (rw [hy356]; exact H) | exact H
              have Ny356 := Aside0.mk hy356
              clear hy356
              have c48b0 := eq_true (od_ : 0 ≤ x6_2)
              have c49b0 := eq_true (od_ : x6_2 ≤ (x3_1.length : Int))
              obtain ⟨y359, hy359⟩ : ∃ y_ : List Int, y_ = (x3_1.drop (x6_2 : Int).toNat) := ⟨_, rfl⟩
              replace H : (if y356.length + y359.length < 17592186044416 then (spec_OrderOf.l0 k2 (y356 ++ y359) l0_3 (l0_3.length : Int) (wrap64 (x12_1 + 1)) l0_0 a0_1 a0_2 l0_3) else (none)) = some r := by first | (rw [hy359]; with_reducible exact H) | (have H2_ := (Option.bind_some _ _).symm.trans H; rw [hy359]; with_reducible exact H2_) | (have H2_ := (Option.bind_some _ _).symm.trans H; with_reducible exact H2_) | with_reducible exact H | (rw [hy359]; exact H) | exact H
              have Ny359 := Aside0.mk hy359
              clear hy359
              by_cases c50 : y356.length + y359.length < 17592186044416
              ·rw [if_pos c50] at H
               have LMc50 := Aside0.mk c50
               clear c50
               obtain ⟨y363, hy363⟩ : ∃ y_ : List Int, y_ = (y356 ++ y359) := ⟨_, rfl⟩
               replace H : (spec_OrderOf.l0 k2 y363 l0_3 (l0_3.length : Int) (wrap64 (x12_1 + 1)) l0_0 a0_1 a0_2 l0_3) = some r := by first | (rw [hy363]; with_reducible exact H) | (have H2_ := (Option.bind_some _ _).symm.trans H; rw [hy363]; with_reducible exact H2_) | (have H2_ := (Option.bind_some _ _).symm.trans H; with_reducible exact H2_) | with_reducible exact H | (rw [hy363]; exact H) | exact H
               have Ny363 := Aside0.mk hy363
               clear hy363
               have H' := Aside0.mk H
               clear H
               go_wp2_with (first | ((with_reducible refine gate_dst (N := 41) rfl ?_); refine Kd.R_lit (Kd.int .i64) _ 3 ?hg (N := 41) ?hd (xs := ([] : List Int)) (inner := []) (ok := fun _ => True) (okp := fun _ => True) ?hr ?hp (fun _ hk => hk) trivial (Below.refl _ _) (Nat.le_refl _) (by simp) ?_; (case hd => rfl); (case hg => rfl); (case hr => first | (go_simp; done) | (go_simp; rfl)); (case hp => exact (Reps.none _ _)); intro v347 w51 ho52 hb hg_ hnew_; clear hg_ hnew_; (first | rw [← Ny346.out] at ho52 | (simp only [Int.reduceToNat] at ho52; rw [← Ny346.out] at ho52)); have HO348 := Aside0.mk (Kd.R_lower (Kd.R_new' ho52 (Kd.R_lt (ra_ HO_3))) (below_size bl_)); replace HO_3 := Aside0.mk (Kd.R_elder' (ra_ HO_3) (Kd.R_base ho52) hb); replace BK318 := Aside0.mk (blk_below (bk_ BK318) hb); replace BK323 := Aside0.mk (blk_below (bk_ BK323) hb); replace HB := Aside0.mk (below_step bl_ hb); clear hb ho52; have q53 : (x6_2 : Int) ≤ ((x3_1.length : Int) : Int) := od_; obtain ⟨i053, hi053, _, hsz53, _⟩ := info_parts info3; have hroom53 : x3_1.length ≤ co16 := (Kd.R_reads' HO_3.out).2.1; have hC53 : Kd.C (Kd.int .i64) _ Ao16 x3_1.length x3_1 := (Kd.R_reads' HO_3.out).2.2; have hcut53 := cut_to (P := Try.prog) 32 3 .i64 Try.underlying32 hi053 Ao16 x3_1.length co16 x6_2 od_ q53 hroom53; have hr53 := Kd.C_take (m := (x6_2 : Int).toNat) hC53 (by omega); have hy53 : y349.length = (x6_2 : Int).toNat := (by rw [Ny349.out, List.length_take]; omega); rw [← Ny349.out] at hr53; rw [← hy53] at hcut53; have HR352 := Aside0.mk hr53; have HC352 := Aside0.mk (show y349.length ≤ co16 from by omega); clear hr53 hC53 hroom53 hi053 hsz53; have KY53 := Aside0.mk hy53; clear hy53; have KL53 := Aside0.mk (show (x6_2 : Int).toNat ≤ x3_1.length from by omega); replace q53 := eq_true q53) | ((with_reducible refine gate_builtin (b := .append) (xs := #[.tmp 41, .tmp 44]) rfl ?_); at_builtin; refine Kd.R_append_rows (Kd.int .i64) (w0 := w) w.heap.size rfl (.tmp 41) (.tmp 44) 32 3 (.int .i64 0) 8 rfl Try.underlying32 info3 rfl (by decide) (by omega) v347 y346 y349 _ _ _ (fun k_ => some k_ ≠ (.slice Ao16 x3_1.length co16 : Value).ownBlock) (fun _ => False) rfl rfl ?aO ?aR (fun _ _ h => h) (fun _ h => h.elim) ?aF ?aB ?aS ?aL ?_; (case aR => exact ca_ (by repeat (first | (with_reducible exact HR352.out) | (with_reducible refine Kd.C_alloc ?_ _) | (with_reducible refine Kd.C_drewN ?_ _) | (with_reducible refine Kd.C_drew ?_) | exact HR352.out))); (case aB => exact bl_); (case aF => exact (fun k_ hk => Kd.fresh' (Kd.R_lt (ra_ HO_3)) k_ hk)); (case aO => exact (by (with_reducible repeat (first | apply Kd.R_alloc | apply Kd.R_drewN | apply Kd.R_drew)); exact Kd.R_mono HO348.out (fun _ hk => hk.2))); (case aS => exact (below_size bl_)); (case aL => have := LMc46.out; omega); intro v354 w54 ho hb hg hat; rw [← Ny353.out] at ho; have n0_ := Aside0.mk (Kd.R_after (ok := (fun _ => True)) (ra_ HO_3) hg hat); have n1_ := Aside0.mk (blk_grown (bk_ BK318) hg (Kd.R_ne HO348.out BK318.out (by decide))); have n2_ := Aside0.mk (blk_grown (bk_ BK323) hg (Kd.R_ne HO348.out BK323.out (by decide))); have n3_ := Aside0.mk (hb); have n4_ := Aside0.mk ((show Kd.C (Kd.int .i64) w54 Ao16 y349.length y349 from by rw [Ny349.out]; exact Kd.C_take (m := (x6_2 : Int).toNat) ((Kd.R_reads' (Kd.R_after (ok := (fun _ => True)) (ra_ HO_3) hg hat)).2.2) KL53.out)); have n5_ := Aside0.mk (ho); clear HO_3; clear BK318; clear BK323; clear HB; clear HR352; clear HO348; have HO_3 := n0_; have BK318 := n1_; have BK323 := n2_; have HB := n3_; have HR352 := n4_; have HO355 := n5_; clear n0_ n1_ n2_ n3_ n4_ n5_; clear ho hb hg hat) | ((with_reducible refine gate_builtin (b := .append) (xs := #[.tmp 46, .tmp 48]) rfl ?_); at_builtin; refine Kd.R_append (Kd.int .i64) (w0 := w) w.heap.size rfl (.tmp 46) (.tmp 48) 32 3 (.int .i64 0) 8 rfl Try.underlying32 info3 rfl (by decide) (by omega) v354 y353 x12_1 [.int .i64 x12_1] (fun k_ => some k_ ≠ (.slice Ao16 x3_1.length co16 : Value).ownBlock) (fun _ => False) rfl rfl ?aP (fun _ hk => hk.elim) ?aF ?aO ?aB ?aS ?aL ?_; (case aP => exact rfl); (case aB => exact bl_); (case aF => exact (fun k_ hk => Kd.fresh' (Kd.R_lt (ra_ HO_3)) k_ hk)); (case aO => exact (ra_ HO355)); (case aS => exact (below_size bl_)); (case aL => have := LMc47.out; omega); intro v357 w55 ho hb hg hat; rw [← Ny356.out] at ho; have n0_ := Aside0.mk (Kd.R_after (ok := (fun _ => True)) (ra_ HO_3) hg hat); have n1_ := Aside0.mk (blk_grown (bk_ BK318) hg (Kd.R_ne HO355.out BK318.out (by decide))); have n2_ := Aside0.mk (blk_grown (bk_ BK323) hg (Kd.R_ne HO355.out BK323.out (by decide))); have n3_ := Aside0.mk (hb); have n4_ := Aside0.mk ((show Kd.C (Kd.int .i64) w55 Ao16 y349.length y349 from by rw [Ny349.out]; exact Kd.C_take (m := (x6_2 : Int).toNat) ((Kd.R_reads' (Kd.R_after (ok := (fun _ => True)) (ra_ HO_3) hg hat)).2.2) KL53.out)); have n5_ := Aside0.mk (ho); clear HO_3; clear BK318; clear BK323; clear HB; clear HR352; clear HO355; have HO_3 := n0_; have BK318 := n1_; have BK323 := n2_; have HB := n3_; have HR352 := n4_; have HO358 := n5_; clear n0_ n1_ n2_ n3_ n4_ n5_; clear ho hb hg hat; have q56 : (x6_2 : Int) ≤ ((x3_1.length : Int) : Int) := od_; obtain ⟨i056, hi056, _, hsz56, _⟩ := info_parts info3; have hroom56 : x3_1.length ≤ co16 := (Kd.R_reads' HO_3.out).2.1; have hC56 : Kd.C (Kd.int .i64) _ Ao16 x3_1.length x3_1 := (Kd.R_reads' HO_3.out).2.2; have q056 : (0 : Int) ≤ (x6_2 : Int) := od_; have hcut56 := cut_from (P := Try.prog) 32 3 .i64 Try.underlying32 hi056 1 hsz56 Ao16 x3_1.length co16 x6_2 q056 q56; have hr56 := Kd.C_drop (m := (x6_2 : Int).toNat) (c := co16) hC56 (by omega) hroom56; obtain ⟨A56, hA56⟩ : ∃ A1, A1 = (if co16 = (x6_2 : Int).toNat then Ao16 else (Ao16 : Option Addr).map (·.add ((x6_2 : Int).toNat * 1))) := ⟨_, rfl⟩; obtain ⟨c56, hc56⟩ : ∃ c1, c1 = co16 - (x6_2 : Int).toNat := ⟨_, rfl⟩; have hy56 : y359.length = x3_1.length - (x6_2 : Int).toNat := (by rw [Ny359.out, List.length_drop] <;> omega); rw [show (x3_1).drop (x6_2 : Int).toNat = y359 from Ny359.out.symm] at hr56; replace hr56 : Kd.C (Kd.int .i64) _ A56 y359.length y359 := (by rw [hA56]; exact hr56); rw [← hy56, ← hA56, ← hc56] at hcut56; have HR362 := Aside0.mk hr56; have HC362 := Aside0.mk (show y359.length ≤ c56 from by rw [hy56, hc56]; exact Nat.sub_le_sub_right hroom56 _); clear hr56 hC56 hroom56 hi056 hsz56 hc56; have KY56 := Aside0.mk hy56; have KA56 := Aside0.mk hA56; clear hy56 hA56; have KL56 := Aside0.mk (show (x6_2 : Int).toNat ≤ x3_1.length from by omega); replace q56 := eq_true q56) | ((with_reducible refine gate_builtin (b := .append) (xs := #[.tmp 50, .tmp 53]) rfl ?_); at_builtin; refine Kd.R_append_rows (Kd.int .i64) (w0 := w) w.heap.size rfl (.tmp 50) (.tmp 53) 32 3 (.int .i64 0) 8 rfl Try.underlying32 info3 rfl (by decide) (by omega) v357 y356 y359 _ _ _ (fun k_ => some k_ ≠ (.slice Ao16 x3_1.length co16 : Value).ownBlock) (fun _ => False) rfl rfl ?aO ?aR (fun _ _ h => h) (fun _ h => h.elim) ?aF ?aB ?aS ?aL ?_; (case aR => exact ca_ (by repeat (first | (with_reducible exact HR362.out) | (with_reducible refine Kd.C_alloc ?_ _) | (with_reducible refine Kd.C_drewN ?_ _) | (with_reducible refine Kd.C_drew ?_) | exact HR362.out))); (case aB => exact bl_); (case aF => exact (fun k_ hk => Kd.fresh' (Kd.R_lt (ra_ HO_3)) k_ hk)); (case aO => exact (ra_ HO358)); (case aS => exact (below_size bl_)); (case aL => have := LMc50.out; omega); intro v364 w57 ho hb hg hat; rw [← Ny363.out] at ho; have n0_ := Aside0.mk (Kd.R_after (ok := (fun _ => True)) (ra_ HO_3) hg hat); have n1_ := Aside0.mk (blk_grown (bk_ BK318) hg (Kd.R_ne HO358.out BK318.out (by decide))); have n2_ := Aside0.mk (blk_grown (bk_ BK323) hg (Kd.R_ne HO358.out BK323.out (by decide))); have n3_ := Aside0.mk (hb); have n4_ := Aside0.mk ((show Kd.C (Kd.int .i64) w57 Ao16 y349.length y349 from by rw [Ny349.out]; exact Kd.C_take (m := (x6_2 : Int).toNat) ((Kd.R_reads' (Kd.R_after (ok := (fun _ => True)) (ra_ HO_3) hg hat)).2.2) KL53.out)); have n5_ := Aside0.mk ((show Kd.C (Kd.int .i64) w57 A56 y359.length y359 from by rw [Ny359.out, KA56.out]; exact Kd.C_drop (m := (x6_2 : Int).toNat) (c := co16) ((Kd.R_reads' (Kd.R_after (ok := (fun _ => True)) (ra_ HO_3) hg hat)).2.2) KL56.out ((Kd.R_reads' (Kd.R_after (ok := (fun _ => True)) (ra_ HO_3) hg hat)).2.1))); have n6_ := Aside0.mk (ho); clear HO_3; clear BK318; clear BK323; clear HB; clear HR352; clear HR362; clear HO358; have HO_3 := n0_; have BK318 := n1_; have BK323 := n2_; have HB := n3_; have HR352 := n4_; have HR362 := n5_; have HO365 := n6_; clear n0_ n1_ n2_ n3_ n4_ n5_ n6_; clear ho hb hg hat))
               repeat (go_quiet (first | ((with_reducible refine gate_dst (N := 41) rfl ?_); refine Kd.R_lit (Kd.int .i64) _ 3 ?hg (N := 41) ?hd (xs := ([] : List Int)) (inner := []) (ok := fun _ => True) (okp := fun _ => True) ?hr ?hp (fun _ hk => hk) trivial (Below.refl _ _) (Nat.le_refl _) (by simp) ?_; (case hd => rfl); (case hg => rfl); (case hr => first | (go_simp; done) | (go_simp; rfl)); (case hp => exact (Reps.none _ _)); intro v347 w51 ho52 hb hg_ hnew_; clear hg_ hnew_; (first | rw [← Ny346.out] at ho52 | (simp only [Int.reduceToNat] at ho52; rw [← Ny346.out] at ho52)); have HO348 := Aside0.mk (Kd.R_lower (Kd.R_new' ho52 (Kd.R_lt (ra_ HO_3))) (below_size bl_)); replace HO_3 := Aside0.mk (Kd.R_elder' (ra_ HO_3) (Kd.R_base ho52) hb); replace BK318 := Aside0.mk (blk_below (bk_ BK318) hb); replace BK323 := Aside0.mk (blk_below (bk_ BK323) hb); replace HB := Aside0.mk (below_step bl_ hb); clear hb ho52; have q53 : (x6_2 : Int) ≤ ((x3_1.length : Int) : Int) := od_; obtain ⟨i053, hi053, _, hsz53, _⟩ := info_parts info3; have hroom53 : x3_1.length ≤ co16 := (Kd.R_reads' HO_3.out).2.1; have hC53 : Kd.C (Kd.int .i64) _ Ao16 x3_1.length x3_1 := (Kd.R_reads' HO_3.out).2.2; have hcut53 := cut_to (P := Try.prog) 32 3 .i64 Try.underlying32 hi053 Ao16 x3_1.length co16 x6_2 od_ q53 hroom53; have hr53 := Kd.C_take (m := (x6_2 : Int).toNat) hC53 (by omega); have hy53 : y349.length = (x6_2 : Int).toNat := (by rw [Ny349.out, List.length_take]; omega); rw [← Ny349.out] at hr53; rw [← hy53] at hcut53; have HR352 := Aside0.mk hr53; have HC352 := Aside0.mk (show y349.length ≤ co16 from by omega); clear hr53 hC53 hroom53 hi053 hsz53; have KY53 := Aside0.mk hy53; clear hy53; have KL53 := Aside0.mk (show (x6_2 : Int).toNat ≤ x3_1.length from by omega); replace q53 := eq_true q53) | ((with_reducible refine gate_builtin (b := .append) (xs := #[.tmp 41, .tmp 44]) rfl ?_); at_builtin; refine Kd.R_append_rows (Kd.int .i64) (w0 := w) w.heap.size rfl (.tmp 41) (.tmp 44) 32 3 (.int .i64 0) 8 rfl Try.underlying32 info3 rfl (by decide) (by omega) v347 y346 y349 _ _ _ (fun k_ => some k_ ≠ (.slice Ao16 x3_1.length co16 : Value).ownBlock) (fun _ => False) rfl rfl ?aO ?aR (fun _ _ h => h) (fun _ h => h.elim) ?aF ?aB ?aS ?aL ?_; (case aR => exact ca_ (by repeat (first | (with_reducible exact HR352.out) | (with_reducible refine Kd.C_alloc ?_ _) | (with_reducible refine Kd.C_drewN ?_ _) | (with_reducible refine Kd.C_drew ?_) | exact HR352.out))); (case aB => exact bl_); (case aF => exact (fun k_ hk => Kd.fresh' (Kd.R_lt (ra_ HO_3)) k_ hk)); (case aO => exact (by (with_reducible repeat (first | apply Kd.R_alloc | apply Kd.R_drewN | apply Kd.R_drew)); exact Kd.R_mono HO348.out (fun _ hk => hk.2))); (case aS => exact (below_size bl_)); (case aL => have := LMc46.out; omega); intro v354 w54 ho hb hg hat; rw [← Ny353.out] at ho; have n0_ := Aside0.mk (Kd.R_after (ok := (fun _ => True)) (ra_ HO_3) hg hat); have n1_ := Aside0.mk (blk_grown (bk_ BK318) hg (Kd.R_ne HO348.out BK318.out (by decide))); have n2_ := Aside0.mk (blk_grown (bk_ BK323) hg (Kd.R_ne HO348.out BK323.out (by decide))); have n3_ := Aside0.mk (hb); have n4_ := Aside0.mk ((show Kd.C (Kd.int .i64) w54 Ao16 y349.length y349 from by rw [Ny349.out]; exact Kd.C_take (m := (x6_2 : Int).toNat) ((Kd.R_reads' (Kd.R_after (ok := (fun _ => True)) (ra_ HO_3) hg hat)).2.2) KL53.out)); have n5_ := Aside0.mk (ho); clear HO_3; clear BK318; clear BK323; clear HB; clear HR352; clear HO348; have HO_3 := n0_; have BK318 := n1_; have BK323 := n2_; have HB := n3_; have HR352 := n4_; have HO355 := n5_; clear n0_ n1_ n2_ n3_ n4_ n5_; clear ho hb hg hat) | ((with_reducible refine gate_builtin (b := .append) (xs := #[.tmp 46, .tmp 48]) rfl ?_); at_builtin; refine Kd.R_append (Kd.int .i64) (w0 := w) w.heap.size rfl (.tmp 46) (.tmp 48) 32 3 (.int .i64 0) 8 rfl Try.underlying32 info3 rfl (by decide) (by omega) v354 y353 x12_1 [.int .i64 x12_1] (fun k_ => some k_ ≠ (.slice Ao16 x3_1.length co16 : Value).ownBlock) (fun _ => False) rfl rfl ?aP (fun _ hk => hk.elim) ?aF ?aO ?aB ?aS ?aL ?_; (case aP => exact rfl); (case aB => exact bl_); (case aF => exact (fun k_ hk => Kd.fresh' (Kd.R_lt (ra_ HO_3)) k_ hk)); (case aO => exact (ra_ HO355)); (case aS => exact (below_size bl_)); (case aL => have := LMc47.out; omega); intro v357 w55 ho hb hg hat; rw [← Ny356.out] at ho; have n0_ := Aside0.mk (Kd.R_after (ok := (fun _ => True)) (ra_ HO_3) hg hat); have n1_ := Aside0.mk (blk_grown (bk_ BK318) hg (Kd.R_ne HO355.out BK318.out (by decide))); have n2_ := Aside0.mk (blk_grown (bk_ BK323) hg (Kd.R_ne HO355.out BK323.out (by decide))); have n3_ := Aside0.mk (hb); have n4_ := Aside0.mk ((show Kd.C (Kd.int .i64) w55 Ao16 y349.length y349 from by rw [Ny349.out]; exact Kd.C_take (m := (x6_2 : Int).toNat) ((Kd.R_reads' (Kd.R_after (ok := (fun _ => True)) (ra_ HO_3) hg hat)).2.2) KL53.out)); have n5_ := Aside0.mk (ho); clear HO_3; clear BK318; clear BK323; clear HB; clear HR352; clear HO355; have HO_3 := n0_; have BK318 := n1_; have BK323 := n2_; have HB := n3_; have HR352 := n4_; have HO358 := n5_; clear n0_ n1_ n2_ n3_ n4_ n5_; clear ho hb hg hat; have q56 : (x6_2 : Int) ≤ ((x3_1.length : Int) : Int) := od_; obtain ⟨i056, hi056, _, hsz56, _⟩ := info_parts info3; have hroom56 : x3_1.length ≤ co16 := (Kd.R_reads' HO_3.out).2.1; have hC56 : Kd.C (Kd.int .i64) _ Ao16 x3_1.length x3_1 := (Kd.R_reads' HO_3.out).2.2; have q056 : (0 : Int) ≤ (x6_2 : Int) := od_; have hcut56 := cut_from (P := Try.prog) 32 3 .i64 Try.underlying32 hi056 1 hsz56 Ao16 x3_1.length co16 x6_2 q056 q56; have hr56 := Kd.C_drop (m := (x6_2 : Int).toNat) (c := co16) hC56 (by omega) hroom56; obtain ⟨A56, hA56⟩ : ∃ A1, A1 = (if co16 = (x6_2 : Int).toNat then Ao16 else (Ao16 : Option Addr).map (·.add ((x6_2 : Int).toNat * 1))) := ⟨_, rfl⟩; obtain ⟨c56, hc56⟩ : ∃ c1, c1 = co16 - (x6_2 : Int).toNat := ⟨_, rfl⟩; have hy56 : y359.length = x3_1.length - (x6_2 : Int).toNat := (by rw [Ny359.out, List.length_drop] <;> omega); rw [show (x3_1).drop (x6_2 : Int).toNat = y359 from Ny359.out.symm] at hr56; replace hr56 : Kd.C (Kd.int .i64) _ A56 y359.length y359 := (by rw [hA56]; exact hr56); rw [← hy56, ← hA56, ← hc56] at hcut56; have HR362 := Aside0.mk hr56; have HC362 := Aside0.mk (show y359.length ≤ c56 from by rw [hy56, hc56]; exact Nat.sub_le_sub_right hroom56 _); clear hr56 hC56 hroom56 hi056 hsz56 hc56; have KY56 := Aside0.mk hy56; have KA56 := Aside0.mk hA56; clear hy56 hA56; have KL56 := Aside0.mk (show (x6_2 : Int).toNat ≤ x3_1.length from by omega); replace q56 := eq_true q56) | ((with_reducible refine gate_builtin (b := .append) (xs := #[.tmp 50, .tmp 53]) rfl ?_); at_builtin; refine Kd.R_append_rows (Kd.int .i64) (w0 := w) w.heap.size rfl (.tmp 50) (.tmp 53) 32 3 (.int .i64 0) 8 rfl Try.underlying32 info3 rfl (by decide) (by omega) v357 y356 y359 _ _ _ (fun k_ => some k_ ≠ (.slice Ao16 x3_1.length co16 : Value).ownBlock) (fun _ => False) rfl rfl ?aO ?aR (fun _ _ h => h) (fun _ h => h.elim) ?aF ?aB ?aS ?aL ?_; (case aR => exact ca_ (by repeat (first | (with_reducible exact HR362.out) | (with_reducible refine Kd.C_alloc ?_ _) | (with_reducible refine Kd.C_drewN ?_ _) | (with_reducible refine Kd.C_drew ?_) | exact HR362.out))); (case aB => exact bl_); (case aF => exact (fun k_ hk => Kd.fresh' (Kd.R_lt (ra_ HO_3)) k_ hk)); (case aO => exact (ra_ HO358)); (case aS => exact (below_size bl_)); (case aL => have := LMc50.out; omega); intro v364 w57 ho hb hg hat; rw [← Ny363.out] at ho; have n0_ := Aside0.mk (Kd.R_after (ok := (fun _ => True)) (ra_ HO_3) hg hat); have n1_ := Aside0.mk (blk_grown (bk_ BK318) hg (Kd.R_ne HO358.out BK318.out (by decide))); have n2_ := Aside0.mk (blk_grown (bk_ BK323) hg (Kd.R_ne HO358.out BK323.out (by decide))); have n3_ := Aside0.mk (hb); have n4_ := Aside0.mk ((show Kd.C (Kd.int .i64) w57 Ao16 y349.length y349 from by rw [Ny349.out]; exact Kd.C_take (m := (x6_2 : Int).toNat) ((Kd.R_reads' (Kd.R_after (ok := (fun _ => True)) (ra_ HO_3) hg hat)).2.2) KL53.out)); have n5_ := Aside0.mk ((show Kd.C (Kd.int .i64) w57 A56 y359.length y359 from by rw [Ny359.out, KA56.out]; exact Kd.C_drop (m := (x6_2 : Int).toNat) (c := co16) ((Kd.R_reads' (Kd.R_after (ok := (fun _ => True)) (ra_ HO_3) hg hat)).2.2) KL56.out ((Kd.R_reads' (Kd.R_after (ok := (fun _ => True)) (ra_ HO_3) hg hat)).2.1))); have n6_ := Aside0.mk (ho); clear HO_3; clear BK318; clear BK323; clear HB; clear HR352; clear HR362; clear HO358; have HO_3 := n0_; have BK318 := n1_; have BK323 := n2_; have HB := n3_; have HR352 := n4_; have HR362 := n5_; have HO365 := n6_; clear n0_ n1_ n2_ n3_ n4_ n5_ n6_; clear ho hb hg hat)); try go_wp2_with (first | ((with_reducible refine gate_dst (N := 41) rfl ?_); refine Kd.R_lit (Kd.int .i64) _ 3 ?hg (N := 41) ?hd (xs := ([] : List Int)) (inner := []) (ok := fun _ => True) (okp := fun _ => True) ?hr ?hp (fun _ hk => hk) trivial (Below.refl _ _) (Nat.le_refl _) (by simp) ?_; (case hd => rfl); (case hg => rfl); (case hr => first | (go_simp; done) | (go_simp; rfl)); (case hp => exact (Reps.none _ _)); intro v347 w51 ho52 hb hg_ hnew_; clear hg_ hnew_; (first | rw [← Ny346.out] at ho52 | (simp only [Int.reduceToNat] at ho52; rw [← Ny346.out] at ho52)); have HO348 := Aside0.mk (Kd.R_lower (Kd.R_new' ho52 (Kd.R_lt (ra_ HO_3))) (below_size bl_)); replace HO_3 := Aside0.mk (Kd.R_elder' (ra_ HO_3) (Kd.R_base ho52) hb); replace BK318 := Aside0.mk (blk_below (bk_ BK318) hb); replace BK323 := Aside0.mk (blk_below (bk_ BK323) hb); replace HB := Aside0.mk (below_step bl_ hb); clear hb ho52; have q53 : (x6_2 : Int) ≤ ((x3_1.length : Int) : Int) := od_; obtain ⟨i053, hi053, _, hsz53, _⟩ := info_parts info3; have hroom53 : x3_1.length ≤ co16 := (Kd.R_reads' HO_3.out).2.1; have hC53 : Kd.C (Kd.int .i64) _ Ao16 x3_1.length x3_1 := (Kd.R_reads' HO_3.out).2.2; have hcut53 := cut_to (P := Try.prog) 32 3 .i64 Try.underlying32 hi053 Ao16 x3_1.length co16 x6_2 od_ q53 hroom53; have hr53 := Kd.C_take (m := (x6_2 : Int).toNat) hC53 (by omega); have hy53 : y349.length = (x6_2 : Int).toNat := (by rw [Ny349.out, List.length_take]; omega); rw [← Ny349.out] at hr53; rw [← hy53] at hcut53; have HR352 := Aside0.mk hr53; have HC352 := Aside0.mk (show y349.length ≤ co16 from by omega); clear hr53 hC53 hroom53 hi053 hsz53; have KY53 := Aside0.mk hy53; clear hy53; have KL53 := Aside0.mk (show (x6_2 : Int).toNat ≤ x3_1.length from by omega); replace q53 := eq_true q53) | ((with_reducible refine gate_builtin (b := .append) (xs := #[.tmp 41, .tmp 44]) rfl ?_); at_builtin; refine Kd.R_append_rows (Kd.int .i64) (w0 := w) w.heap.size rfl (.tmp 41) (.tmp 44) 32 3 (.int .i64 0) 8 rfl Try.underlying32 info3 rfl (by decide) (by omega) v347 y346 y349 _ _ _ (fun k_ => some k_ ≠ (.slice Ao16 x3_1.length co16 : Value).ownBlock) (fun _ => False) rfl rfl ?aO ?aR (fun _ _ h => h) (fun _ h => h.elim) ?aF ?aB ?aS ?aL ?_; (case aR => exact ca_ (by repeat (first | (with_reducible exact HR352.out) | (with_reducible refine Kd.C_alloc ?_ _) | (with_reducible refine Kd.C_drewN ?_ _) | (with_reducible refine Kd.C_drew ?_) | exact HR352.out))); (case aB => exact bl_); (case aF => exact (fun k_ hk => Kd.fresh' (Kd.R_lt (ra_ HO_3)) k_ hk)); (case aO => exact (by (with_reducible repeat (first | apply Kd.R_alloc | apply Kd.R_drewN | apply Kd.R_drew)); exact Kd.R_mono HO348.out (fun _ hk => hk.2))); (case aS => exact (below_size bl_)); (case aL => have := LMc46.out; omega); intro v354 w54 ho hb hg hat; rw [← Ny353.out] at ho; have n0_ := Aside0.mk (Kd.R_after (ok := (fun _ => True)) (ra_ HO_3) hg hat); have n1_ := Aside0.mk (blk_grown (bk_ BK318) hg (Kd.R_ne HO348.out BK318.out (by decide))); have n2_ := Aside0.mk (blk_grown (bk_ BK323) hg (Kd.R_ne HO348.out BK323.out (by decide))); have n3_ := Aside0.mk (hb); have n4_ := Aside0.mk ((show Kd.C (Kd.int .i64) w54 Ao16 y349.length y349 from by rw [Ny349.out]; exact Kd.C_take (m := (x6_2 : Int).toNat) ((Kd.R_reads' (Kd.R_after (ok := (fun _ => True)) (ra_ HO_3) hg hat)).2.2) KL53.out)); have n5_ := Aside0.mk (ho); clear HO_3; clear BK318; clear BK323; clear HB; clear HR352; clear HO348; have HO_3 := n0_; have BK318 := n1_; have BK323 := n2_; have HB := n3_; have HR352 := n4_; have HO355 := n5_; clear n0_ n1_ n2_ n3_ n4_ n5_; clear ho hb hg hat) | ((with_reducible refine gate_builtin (b := .append) (xs := #[.tmp 46, .tmp 48]) rfl ?_); at_builtin; refine Kd.R_append (Kd.int .i64) (w0 := w) w.heap.size rfl (.tmp 46) (.tmp 48) 32 3 (.int .i64 0) 8 rfl Try.underlying32 info3 rfl (by decide) (by omega) v354 y353 x12_1 [.int .i64 x12_1] (fun k_ => some k_ ≠ (.slice Ao16 x3_1.length co16 : Value).ownBlock) (fun _ => False) rfl rfl ?aP (fun _ hk => hk.elim) ?aF ?aO ?aB ?aS ?aL ?_; (case aP => exact rfl); (case aB => exact bl_); (case aF => exact (fun k_ hk => Kd.fresh' (Kd.R_lt (ra_ HO_3)) k_ hk)); (case aO => exact (ra_ HO355)); (case aS => exact (below_size bl_)); (case aL => have := LMc47.out; omega); intro v357 w55 ho hb hg hat; rw [← Ny356.out] at ho; have n0_ := Aside0.mk (Kd.R_after (ok := (fun _ => True)) (ra_ HO_3) hg hat); have n1_ := Aside0.mk (blk_grown (bk_ BK318) hg (Kd.R_ne HO355.out BK318.out (by decide))); have n2_ := Aside0.mk (blk_grown (bk_ BK323) hg (Kd.R_ne HO355.out BK323.out (by decide))); have n3_ := Aside0.mk (hb); have n4_ := Aside0.mk ((show Kd.C (Kd.int .i64) w55 Ao16 y349.length y349 from by rw [Ny349.out]; exact Kd.C_take (m := (x6_2 : Int).toNat) ((Kd.R_reads' (Kd.R_after (ok := (fun _ => True)) (ra_ HO_3) hg hat)).2.2) KL53.out)); have n5_ := Aside0.mk (ho); clear HO_3; clear BK318; clear BK323; clear HB; clear HR352; clear HO355; have HO_3 := n0_; have BK318 := n1_; have BK323 := n2_; have HB := n3_; have HR352 := n4_; have HO358 := n5_; clear n0_ n1_ n2_ n3_ n4_ n5_; clear ho hb hg hat; have q56 : (x6_2 : Int) ≤ ((x3_1.length : Int) : Int) := od_; obtain ⟨i056, hi056, _, hsz56, _⟩ := info_parts info3; have hroom56 : x3_1.length ≤ co16 := (Kd.R_reads' HO_3.out).2.1; have hC56 : Kd.C (Kd.int .i64) _ Ao16 x3_1.length x3_1 := (Kd.R_reads' HO_3.out).2.2; have q056 : (0 : Int) ≤ (x6_2 : Int) := od_; have hcut56 := cut_from (P := Try.prog) 32 3 .i64 Try.underlying32 hi056 1 hsz56 Ao16 x3_1.length co16 x6_2 q056 q56; have hr56 := Kd.C_drop (m := (x6_2 : Int).toNat) (c := co16) hC56 (by omega) hroom56; obtain ⟨A56, hA56⟩ : ∃ A1, A1 = (if co16 = (x6_2 : Int).toNat then Ao16 else (Ao16 : Option Addr).map (·.add ((x6_2 : Int).toNat * 1))) := ⟨_, rfl⟩; obtain ⟨c56, hc56⟩ : ∃ c1, c1 = co16 - (x6_2 : Int).toNat := ⟨_, rfl⟩; have hy56 : y359.length = x3_1.length - (x6_2 : Int).toNat := (by rw [Ny359.out, List.length_drop] <;> omega); rw [show (x3_1).drop (x6_2 : Int).toNat = y359 from Ny359.out.symm] at hr56; replace hr56 : Kd.C (Kd.int .i64) _ A56 y359.length y359 := (by rw [hA56]; exact hr56); rw [← hy56, ← hA56, ← hc56] at hcut56; have HR362 := Aside0.mk hr56; have HC362 := Aside0.mk (show y359.length ≤ c56 from by rw [hy56, hc56]; exact Nat.sub_le_sub_right hroom56 _); clear hr56 hC56 hroom56 hi056 hsz56 hc56; have KY56 := Aside0.mk hy56; have KA56 := Aside0.mk hA56; clear hy56 hA56; have KL56 := Aside0.mk (show (x6_2 : Int).toNat ≤ x3_1.length from by omega); replace q56 := eq_true q56) | ((with_reducible refine gate_builtin (b := .append) (xs := #[.tmp 50, .tmp 53]) rfl ?_); at_builtin; refine Kd.R_append_rows (Kd.int .i64) (w0 := w) w.heap.size rfl (.tmp 50) (.tmp 53) 32 3 (.int .i64 0) 8 rfl Try.underlying32 info3 rfl (by decide) (by omega) v357 y356 y359 _ _ _ (fun k_ => some k_ ≠ (.slice Ao16 x3_1.length co16 : Value).ownBlock) (fun _ => False) rfl rfl ?aO ?aR (fun _ _ h => h) (fun _ h => h.elim) ?aF ?aB ?aS ?aL ?_; (case aR => exact ca_ (by repeat (first | (with_reducible exact HR362.out) | (with_reducible refine Kd.C_alloc ?_ _) | (with_reducible refine Kd.C_drewN ?_ _) | (with_reducible refine Kd.C_drew ?_) | exact HR362.out))); (case aB => exact bl_); (case aF => exact (fun k_ hk => Kd.fresh' (Kd.R_lt (ra_ HO_3)) k_ hk)); (case aO => exact (ra_ HO358)); (case aS => exact (below_size bl_)); (case aL => have := LMc50.out; omega); intro v364 w57 ho hb hg hat; rw [← Ny363.out] at ho; have n0_ := Aside0.mk (Kd.R_after (ok := (fun _ => True)) (ra_ HO_3) hg hat); have n1_ := Aside0.mk (blk_grown (bk_ BK318) hg (Kd.R_ne HO358.out BK318.out (by decide))); have n2_ := Aside0.mk (blk_grown (bk_ BK323) hg (Kd.R_ne HO358.out BK323.out (by decide))); have n3_ := Aside0.mk (hb); have n4_ := Aside0.mk ((show Kd.C (Kd.int .i64) w57 Ao16 y349.length y349 from by rw [Ny349.out]; exact Kd.C_take (m := (x6_2 : Int).toNat) ((Kd.R_reads' (Kd.R_after (ok := (fun _ => True)) (ra_ HO_3) hg hat)).2.2) KL53.out)); have n5_ := Aside0.mk ((show Kd.C (Kd.int .i64) w57 A56 y359.length y359 from by rw [Ny359.out, KA56.out]; exact Kd.C_drop (m := (x6_2 : Int).toNat) (c := co16) ((Kd.R_reads' (Kd.R_after (ok := (fun _ => True)) (ra_ HO_3) hg hat)).2.2) KL56.out ((Kd.R_reads' (Kd.R_after (ok := (fun _ => True)) (ra_ HO_3) hg hat)).2.1))); have n6_ := Aside0.mk (ho); clear HO_3; clear BK318; clear BK323; clear HB; clear HR352; clear HR362; clear HO358; have HO_3 := n0_; have BK318 := n1_; have BK323 := n2_; have HB := n3_; have HR352 := n4_; have HR362 := n5_; have HO365 := n6_; clear n0_ n1_ n2_ n3_ n4_ n5_ n6_; clear ho hb hg hat)))
               go_roundg k2
               case measure => have := HK1.out; have := HK2.out; omega
               case rel => exact ⟨(y363), (wrap64 (x12_1 + 1)), sp_, H', ⟨by have := HK1.out; have := HK2.out; omega⟩, ⟨by (with_reducible repeat (first | apply Kd.R_alloc | apply Kd.R_drewN | apply Kd.R_drew)); exact Kd.R_mono HO365.out (fun _ hk => trivial)⟩, ⟨by (with_reducible repeat (first | refine blk_drewN ?_ _ | refine blk_drew ?_ | refine blk_alloc ?_ _)); exact BK318.out⟩, ⟨bl_⟩⟩
              ·rw [if_neg c50] at H
               exact absurd H (by simp)
             ·rw [if_neg c47] at H
              exact absurd H (by simp)
            ·rw [if_neg c46] at H
             exact absurd H (by simp)
           ·rw [if_neg c45] at H
            exact absurd H (by simp)
          ·rw [if_neg c44] at H
           exact absurd H (by simp)
     ·rw [if_neg c8] at H
      exact absurd H (by simp)
    ·rw [if_neg c7] at H
     exact absurd H (by simp)
   ·rw [if_neg c6] at H
    have c6b0 : decide (x12_1 < (l0_3.length : Int)) = false := decide_eq_false c6
    clear c6
    obtain rfl := Option.some.inj H
    go_wp2
    repeat (go_quiet (fail); try go_wp2)
    go_ret
    exact ⟨_, by first | rfl | (simp [errW_none, errW_some] <;> rfl) | (simp [*, errW_none, errW_some] <;> rfl), ra_ HO_3, bl_⟩
/-! ### spec_Before: function 132 -/
def spec_Before.f (l0_0 : List Int) (a0_1 : Int) (l0_2 : List Int) (a0_3 : Int) (a0_4 : Int) (a0_5 : Int) (a0_6 : Int) (a0_7 : Int) (l0_8 : List Int) (l1_0 : List Int) (a1_1 : Int) (l1_2 : List Int) (a1_3 : Int) (a1_4 : Int) (a1_5 : Int) (a1_6 : Int) (a1_7 : Int) (l1_8 : List Int) : Option (Bool) := if a0_6 = (-1) then (some false) else (some (decide (a0_6 < a1_4)))
set_option maxHeartbeats 8000000 in
set_option maxRecDepth 100000 in
theorem spec_Before.calls (A0_0 : Option Addr) (c0_0 : Nat) (l0_0 : List Int) (a0_1 : Int) (A0_2 : Option Addr) (c0_2 : Nat) (l0_2 : List Int) (a0_3 : Int) (a0_4 : Int) (a0_5 : Int) (a0_6 : Int) (a0_7 : Int) (A0_8 : Option Addr) (c0_8 : Nat) (l0_8 : List Int) (A1_0 : Option Addr) (c1_0 : Nat) (l1_0 : List Int) (a1_1 : Int) (A1_2 : Option Addr) (c1_2 : Nat) (l1_2 : List Int) (a1_3 : Int) (a1_4 : Int) (a1_5 : Int) (a1_6 : Int) (a1_7 : Int) (A1_8 : Option Addr) (c1_8 : Nat) (l1_8 : List Int) (r : Bool) (w : World) (hr0_0 : Kd.C (Kd.int .u8) w A0_0 l0_0.length l0_0) (hc0_0 : l0_0.length ≤ c0_0) (hr0_2 : Kd.C (Kd.int .i64) w A0_2 l0_2.length l0_2) (hc0_2 : l0_2.length ≤ c0_2) (hr0_8 : Kd.C (Kd.int .u8) w A0_8 l0_8.length l0_8) (hc0_8 : l0_8.length ≤ c0_8) (hr1_0 : Kd.C (Kd.int .u8) w A1_0 l1_0.length l1_0) (hc1_0 : l1_0.length ≤ c1_0) (hr1_2 : Kd.C (Kd.int .i64) w A1_2 l1_2.length l1_2) (hc1_2 : l1_2.length ≤ c1_2) (hr1_8 : Kd.C (Kd.int .u8) w A1_8 l1_8.length l1_8) (hc1_8 : l1_8.length ≤ c1_8) (h : spec_Before.f l0_0 a0_1 l0_2 a0_3 a0_4 a0_5 a0_6 a0_7 l0_8 l1_0 a1_1 l1_2 a1_3 a1_4 a1_5 a1_6 a1_7 l1_8 = some r) :
  Calls Try.prog 132 #[.agg #[.slice A0_0 l0_0.length c0_0, .int .i64 a0_1, .slice A0_2 l0_2.length c0_2, .int .i64 a0_3, .int .i64 a0_4, .int .i64 a0_5, .int .i64 a0_6, .int .i64 a0_7, .slice A0_8 l0_8.length c0_8], .agg #[.slice A1_0 l1_0.length c1_0, .int .i64 a1_1, .slice A1_2 l1_2.length c1_2, .int .i64 a1_3, .int .i64 a1_4, .int .i64 a1_5, .int .i64 a1_6, .int .i64 a1_7, .slice A1_8 l1_8.length c1_8]] w fun e w' => e = .returned (.bool r) ∧ Below w.heap.size w w' := by
 have hu126 := Try.underlying126
 have HR0_0 := Aside0.mk hr0_0
 have HC0_0 := Aside0.mk hc0_0
 clear hr0_0 hc0_0
 have HR0_2 := Aside0.mk hr0_2
 have HC0_2 := Aside0.mk hc0_2
 clear hr0_2 hc0_2
 have HR0_8 := Aside0.mk hr0_8
 have HC0_8 := Aside0.mk hc0_8
 clear hr0_8 hc0_8
 have HR1_0 := Aside0.mk hr1_0
 have HC1_0 := Aside0.mk hc1_0
 clear hr1_0 hc1_0
 have HR1_2 := Aside0.mk hr1_2
 have HC1_2 := Aside0.mk hc1_2
 clear hr1_2 hc1_2
 have HR1_8 := Aside0.mk hr1_8
 have HC1_8 := Aside0.mk hc1_8
 clear hr1_8 hc1_8
 have HB := Aside0.mk (Below.refl w.heap.size w)
 have H : (if a0_6 = (-1) then (some false) else (some (decide (a0_6 < a1_4)))) = some r := h
 clear h
 by_cases c3 : a0_6 = (-1)
 ·rw [if_pos c3] at H
  have c3b0 : (a0_6 == (-1)) = true := beq_iff_eq.mpr c3
  have c3b1 : (a0_6 != (-1)) = false := bne_eq_false_iff_eq.mpr c3
  clear c3
  obtain rfl := Option.some.inj H
  go_enter Try.func132, Try.ntmps132
  go_wp2_with (first | ((with_reducible refine gate_dst (N := 2) rfl ?_); refine be_ (N := 2) (cs := #[.slice A0_0 l0_0.length c0_0, .int .i64 a0_1, .slice A0_2 l0_2.length c0_2, .int .i64 a0_3, .int .i64 a0_4, .int .i64 a0_5, .int .i64 a0_6, .int .i64 a0_7, .slice A0_8 l0_8.length c0_8]) (t := 126) ?_; intro gb366 hg w4 hbox hb; have BK366 := Aside0.mk (hbox); have GW366 := gw_ (w := w) hg; have GE366 := gw_ (w := w) hg; replace HB := Aside0.mk (below_step bl_ hb); clear hb hbox hg) | ((with_reducible refine gate_dst (N := 3) rfl ?_); refine be_ (N := 3) (cs := #[.slice A1_0 l1_0.length c1_0, .int .i64 a1_1, .slice A1_2 l1_2.length c1_2, .int .i64 a1_3, .int .i64 a1_4, .int .i64 a1_5, .int .i64 a1_6, .int .i64 a1_7, .slice A1_8 l1_8.length c1_8]) (t := 126) ?_; intro gb367 hg w5 hbox hb; have BK367 := Aside0.mk (hbox); have GW367 := gw_ (w := w) hg; have GE367 := gw_ (w := w) hg; replace HB := Aside0.mk (below_step bl_ hb); have NB366_367 := Aside0.mk ((by rw [hg]; exact Nat.ne_of_lt (blk_lt (bk_ BK366)) : gb366 ≠ gb367)); have NB367_366 := Aside0.mk ((by rw [hg]; exact Nat.ne_of_gt (blk_lt (bk_ BK366)) : gb367 ≠ gb366)); replace BK366 := Aside0.mk (blk_below (bk_ BK366) hb); clear hb hbox hg; have hnb6 := NB366_367.out; have hnc6 := NB367_366.out; obtain ⟨hcz7_0, hcz7_1, hcz7_2, hcz7_3, hcz7_4, hcz7_5, hcz7_6, hcz7_7, hcz7_8, hfz7_0, hfz7_1, hfz7_2, hfz7_3, hfz7_4, hfz7_5, hfz7_6, hfz7_7, hfz7_8⟩ := bx9_ BK366))
  go_ret
  exact ⟨sq_, bl_⟩
 ·rw [if_neg c3] at H
  have c3b0 : (a0_6 == (-1)) = false := beq_eq_false_iff_ne.mpr c3
  have c3b1 : (a0_6 != (-1)) = true := bne_iff_ne.mpr c3
  obtain rfl := Option.some.inj H
  go_enter Try.func132, Try.ntmps132
  go_wp2_with (first | ((with_reducible refine gate_dst (N := 2) rfl ?_); refine be_ (N := 2) (cs := #[.slice A0_0 l0_0.length c0_0, .int .i64 a0_1, .slice A0_2 l0_2.length c0_2, .int .i64 a0_3, .int .i64 a0_4, .int .i64 a0_5, .int .i64 a0_6, .int .i64 a0_7, .slice A0_8 l0_8.length c0_8]) (t := 126) ?_; intro gb366 hg w8 hbox hb; have BK366 := Aside0.mk (hbox); have GW366 := gw_ (w := w) hg; have GE366 := gw_ (w := w) hg; replace HB := Aside0.mk (below_step bl_ hb); clear hb hbox hg) | ((with_reducible refine gate_dst (N := 3) rfl ?_); refine be_ (N := 3) (cs := #[.slice A1_0 l1_0.length c1_0, .int .i64 a1_1, .slice A1_2 l1_2.length c1_2, .int .i64 a1_3, .int .i64 a1_4, .int .i64 a1_5, .int .i64 a1_6, .int .i64 a1_7, .slice A1_8 l1_8.length c1_8]) (t := 126) ?_; intro gb367 hg w9 hbox hb; have BK367 := Aside0.mk (hbox); have GW367 := gw_ (w := w) hg; have GE367 := gw_ (w := w) hg; replace HB := Aside0.mk (below_step bl_ hb); have NB366_367 := Aside0.mk ((by rw [hg]; exact Nat.ne_of_lt (blk_lt (bk_ BK366)) : gb366 ≠ gb367)); have NB367_366 := Aside0.mk ((by rw [hg]; exact Nat.ne_of_gt (blk_lt (bk_ BK366)) : gb367 ≠ gb366)); replace BK366 := Aside0.mk (blk_below (bk_ BK366) hb); clear hb hbox hg; have hnb10 := NB366_367.out; have hnc10 := NB367_366.out; obtain ⟨hcz11_0, hcz11_1, hcz11_2, hcz11_3, hcz11_4, hcz11_5, hcz11_6, hcz11_7, hcz11_8, hfz11_0, hfz11_1, hfz11_2, hfz11_3, hfz11_4, hfz11_5, hfz11_6, hfz11_7, hfz11_8⟩ := bx9_ BK366; obtain ⟨hcz12_0, hcz12_1, hcz12_2, hcz12_3, hcz12_4, hcz12_5, hcz12_6, hcz12_7, hcz12_8, hfz12_0, hfz12_1, hfz12_2, hfz12_3, hfz12_4, hfz12_5, hfz12_6, hfz12_7, hfz12_8⟩ := bx9_ BK367))
  go_ret
  exact ⟨sq_, bl_⟩
end Go.Proofs.Ytepjnalkpfnmcaa.QFnExactInOrder
