-- by my own printer (myprint.py, over the kit's print.py)
import Derived.Test.YtbjpfknmkpnhjaaQFnExactOrderOfx0
namespace Go.Proofs.Ytbjpfknmkpnhjaa.QFnExactOrderOf
open Go.RowKit Go.Proofs.YtbjpfknmkpnhjaaW.PrintWords Go.Proofs.YtbjpfknmkpnhjaaW.PrintLast Go.Proofs.YtbjpfknmkpnhjaaW.PrintMore
attribute [local go_sem] max2_int min2_int max_two min_two max_three min_three max_four min_four   -- for this text's walks alone
set_option linter.unusedVariables false
set_option linter.unusedSimpArgs false
attribute [local go_sem] my_geq my_leq my_gtr
/-! ### spec_OrderOf: function 5 -/
mutual
def spec_OrderOf.l0 : Nat → List Int → List (S43) → Int → Int → List (S60) → Int → Int → List (S43) → Option (List Int)
 | 0, _, _, _, _, _, _, _, _ => none
 | k + 1, x3, x10, x11, x12, x131000, x131001, x131002, x131003 => if x12 < x11 then (if 0 ≤ x12 then (if x12 < (x10.length : Int) then (if ((rd_T43 x10 x12).f5) = (-1) then (spec_OrderOf.l0 k x3 x10 x11 (wrap64 (x12 + 1)) x131000 x131001 x131002 x131003) else (spec_OrderOf.l1 k x3 x12 (x3.length : Int) x10 x11 x12 x131000 x131001 x131002 x131003 ((rd_T43 x10 x12).f0) ((rd_T43 x10 x12).f1) ((rd_T43 x10 x12).f2) ((rd_T43 x10 x12).f3) ((rd_T43 x10 x12).f4) ((rd_T43 x10 x12).f5) ((rd_T43 x10 x12).f6) ((rd_T43 x10 x12).f7) ((rd_T43 x10 x12).f8))) else (none)) else (none)) else (some x3)
def spec_OrderOf.l1 : Nat → List Int → Int → Int → List (S43) → Int → Int → List (S60) → Int → Int → List (S43) → List Int → Int → List Int → Int → Int → Int → Int → Int → List Int → Option (List Int)
 | 0, _, _, _, _, _, _, _, _, _, _, _, _, _, _, _, _, _, _, _ => none
 | k + 1, x3, x4, x6, x10, x11, x12, x131000, x131001, x131002, x131003, x136000, x136001, x136002, x136003, x136004, x136005, x136006, x136007, x136008 => if x6 > 0 then (if 0 ≤ (wrap64 (x6 - 1)) then (if (wrap64 (x6 - 1)) < (x3.length : Int) then (if 0 ≤ (rd x3 (wrap64 (x6 - 1))) then (if (rd x3 (wrap64 (x6 - 1))) < (x131003.length : Int) then (if ((rd_T43 x131003 (rd x3 (wrap64 (x6 - 1)))).f5) > x136005 then (spec_OrderOf.l1 k x3 x4 (wrap64 (x6 - 1)) x10 x11 x12 x131000 x131001 x131002 x131003 x136000 x136001 x136002 x136003 x136004 x136005 x136006 x136007 x136008) else ((some (([] : List Int) : List Int)).bind fun y138 => (if 0 ≤ x6 then (if x6 ≤ (x3.length : Int) then ((some (x3.take (x6 : Int).toNat : List Int)).bind fun y141 => (if y138.length + y141.length < 17592186044416 then ((some (y138 ++ y141 : List Int)).bind fun y145 => (if y145.length < 17592186044416 then ((some (y145 ++ [x4] : List Int)).bind fun y148 => ((some (x3.drop (x6 : Int).toNat : List Int)).bind fun y151 => (if y148.length + y151.length < 17592186044416 then (spec_OrderOf.l0 k (y148 ++ y151) x10 x11 (wrap64 (x12 + 1)) x131000 x131001 x131002 x131003) else (none)))) else (none))) else (none))) else (none)) else (none)))) else (none)) else (none)) else (none)) else (none)) else ((some (([] : List Int) : List Int)).bind fun y158 => (if 0 ≤ x6 then (if x6 ≤ (x3.length : Int) then ((some (x3.take (x6 : Int).toNat : List Int)).bind fun y161 => (if y158.length + y161.length < 17592186044416 then ((some (y158 ++ y161 : List Int)).bind fun y165 => (if y165.length < 17592186044416 then ((some (y165 ++ [x4] : List Int)).bind fun y168 => ((some (x3.drop (x6 : Int).toNat : List Int)).bind fun y171 => (if y168.length + y171.length < 17592186044416 then (spec_OrderOf.l0 k (y168 ++ y171) x10 x11 (wrap64 (x12 + 1)) x131000 x131001 x131002 x131003) else (none)))) else (none))) else (none))) else (none)) else (none)))
end
def spec_OrderOf.f (k : Nat) (l0_0 : List (S60)) (a0_1 : Int) (a0_2 : Int) (l0_3 : List (S43)) : Option (List Int) := spec_OrderOf.l0 k (([] : List Int)) l0_3 (l0_3.length : Int) 0 l0_0 a0_1 a0_2 l0_3
set_option maxHeartbeats 8000000 in
set_option maxRecDepth 100000 in
theorem spec_OrderOf.calls (k : Nat) (A0_0 : Option Addr) (c0_0 : Nat) (l0_0 : List (S60)) (a0_1 : Int) (a0_2 : Int) (A0_3 : Option Addr) (c0_3 : Nat) (l0_3 : List (S43)) (r : List Int) (w : World) (hr0_0 : Kd.C k60 w A0_0 l0_0.length l0_0) (hc0_0 : l0_0.length ≤ c0_0) (hr0_3 : Kd.C k43 w A0_3 l0_3.length l0_3) (hc0_3 : l0_3.length ≤ c0_3) (h : spec_OrderOf.f k l0_0 a0_1 a0_2 l0_3 = some r) :
  Calls Try.prog 5 #[.agg #[.slice A0_0 l0_0.length c0_0, .int .i64 a0_1, .int .i64 a0_2, .slice A0_3 l0_3.length c0_3]] w fun e w' => ∃ v0_ : Value, e = .returned (v0_) ∧ Kd.R (Kd.int .i64) 3 w' w.heap.size (fun _ => True) v0_ r ∧ Below w.heap.size w w' := by
 have hu32 := Try.underlying32
 have hu43 := Try.underlying43
 have HR0_0 := Aside0.mk hr0_0
 have HC0_0 := Aside0.mk hc0_0
 clear hr0_0 hc0_0
 have HR0_3 := Aside0.mk hr0_3
 have HC0_3 := Aside0.mk hc0_3
 clear hr0_3 hc0_3
 have HB := Aside0.mk (Below.refl w.heap.size w)
 have H : (spec_OrderOf.l0 k (([] : List Int)) l0_3 (l0_3.length : Int) 0 l0_0 a0_1 a0_2 l0_3) = some r := h
 clear h
 obtain ⟨y131, hy131⟩ : ∃ y_ : List Int, y_ = (([] : List Int)) := ⟨_, rfl⟩
 replace H : (spec_OrderOf.l0 k y131 l0_3 (l0_3.length : Int) 0 l0_0 a0_1 a0_2 l0_3) = some r := by first | (rw [hy131]; with_reducible exact H) | (have H2_ := (Option.bind_some _ _).symm.trans H; rw [hy131]; with_reducible exact H2_) | (have H2_ := (Option.bind_some _ _).symm.trans H; with_reducible exact H2_) | with_reducible exact H | (rw [hy131]; exact H) | exact H
 have Ny131 := Aside0.mk hy131
 clear hy131
 have H' := Aside0.mk H
 clear H
 go_enter Try.func5, Try.ntmps5
 go_wp2_with (first | ((with_reducible refine gate_dst (N := 1) rfl ?_); refine be_ (N := 1) (cs := #[.slice A0_0 l0_0.length c0_0, .int .i64 a0_1, .int .i64 a0_2, .slice A0_3 l0_3.length c0_3]) (t := 32) ?_; intro gb130 hg w2 hbox hb; have BK130 := Aside0.mk (hbox); have GW130 := gw_ (w := w) hg; have GE130 := gw_ (w := w) hg; replace HB := Aside0.mk (below_step bl_ hb); clear hb hbox hg) | ((with_reducible refine gate_dst (N := 8) rfl ?_); refine Kd.R_lit (Kd.int .i64) _ 3 ?hg (N := 8) ?hd (xs := ([] : List Int)) (inner := []) (ok := fun _ => True) (okp := fun _ => True) ?hr ?hp (fun _ hk => hk) trivial (Below.refl _ _) (Nat.le_refl _) (by simp) ?_; (case hd => rfl); (case hg => rfl); (case hr => first | (go_simp; done) | (go_simp; rfl)); (case hp => exact (Reps.none _ _)); intro v132 w3 ho4 hb hg_ hnew_; clear hg_ hnew_; (first | rw [← Ny131.out] at ho4 | (simp only [Int.reduceToNat] at ho4; rw [← Ny131.out] at ho4)); have HO133 := Aside0.mk (Kd.R_lower ho4 (below_size bl_)); replace BK130 := Aside0.mk (blk_below (bk_ BK130) hb); replace HB := Aside0.mk (below_step bl_ hb); clear hb ho4; obtain ⟨hcz5_0, hcz5_1, hcz5_2, hcz5_3, hfz5_0, hfz5_1, hfz5_2, hfz5_3⟩ := bx4_ BK130))
 repeat (go_quiet (first | ((with_reducible refine gate_dst (N := 1) rfl ?_); refine be_ (N := 1) (cs := #[.slice A0_0 l0_0.length c0_0, .int .i64 a0_1, .int .i64 a0_2, .slice A0_3 l0_3.length c0_3]) (t := 32) ?_; intro gb130 hg w2 hbox hb; have BK130 := Aside0.mk (hbox); have GW130 := gw_ (w := w) hg; have GE130 := gw_ (w := w) hg; replace HB := Aside0.mk (below_step bl_ hb); clear hb hbox hg) | ((with_reducible refine gate_dst (N := 8) rfl ?_); refine Kd.R_lit (Kd.int .i64) _ 3 ?hg (N := 8) ?hd (xs := ([] : List Int)) (inner := []) (ok := fun _ => True) (okp := fun _ => True) ?hr ?hp (fun _ hk => hk) trivial (Below.refl _ _) (Nat.le_refl _) (by simp) ?_; (case hd => rfl); (case hg => rfl); (case hr => first | (go_simp; done) | (go_simp; rfl)); (case hp => exact (Reps.none _ _)); intro v132 w3 ho4 hb hg_ hnew_; clear hg_ hnew_; (first | rw [← Ny131.out] at ho4 | (simp only [Int.reduceToNat] at ho4; rw [← Ny131.out] at ho4)); have HO133 := Aside0.mk (Kd.R_lower ho4 (below_size bl_)); replace BK130 := Aside0.mk (blk_below (bk_ BK130) hb); replace HB := Aside0.mk (below_step bl_ hb); clear hb ho4; obtain ⟨hcz5_0, hcz5_1, hcz5_2, hcz5_3, hfz5_0, hfz5_1, hfz5_2, hfz5_3⟩ := bx4_ BK130)); try go_wp2_with (first | ((with_reducible refine gate_dst (N := 1) rfl ?_); refine be_ (N := 1) (cs := #[.slice A0_0 l0_0.length c0_0, .int .i64 a0_1, .int .i64 a0_2, .slice A0_3 l0_3.length c0_3]) (t := 32) ?_; intro gb130 hg w2 hbox hb; have BK130 := Aside0.mk (hbox); have GW130 := gw_ (w := w) hg; have GE130 := gw_ (w := w) hg; replace HB := Aside0.mk (below_step bl_ hb); clear hb hbox hg) | ((with_reducible refine gate_dst (N := 8) rfl ?_); refine Kd.R_lit (Kd.int .i64) _ 3 ?hg (N := 8) ?hd (xs := ([] : List Int)) (inner := []) (ok := fun _ => True) (okp := fun _ => True) ?hr ?hp (fun _ hk => hk) trivial (Below.refl _ _) (Nat.le_refl _) (by simp) ?_; (case hd => rfl); (case hg => rfl); (case hr => first | (go_simp; done) | (go_simp; rfl)); (case hp => exact (Reps.none _ _)); intro v132 w3 ho4 hb hg_ hnew_; clear hg_ hnew_; (first | rw [← Ny131.out] at ho4 | (simp only [Int.reduceToNat] at ho4; rw [← Ny131.out] at ho4)); have HO133 := Aside0.mk (Kd.R_lower ho4 (below_size bl_)); replace BK130 := Aside0.mk (blk_below (bk_ BK130) hb); replace HB := Aside0.mk (below_step bl_ hb); clear hb ho4; obtain ⟨hcz5_0, hcz5_1, hcz5_2, hcz5_3, hfz5_0, hfz5_1, hfz5_2, hfz5_3⟩ := bx4_ BK130)))
 go_loopg [3, 12] k (fun kq v3 v12 w' => ∃ (x3_1 : List Int) (x12_1 : Int), v12 = .int .i64 x12_1 ∧ Aside0 (spec_OrderOf.l0 kq x3_1 l0_3 (l0_3.length : Int) x12_1 l0_0 a0_1 a0_2 l0_3 = some r) ∧ Aside0 (kq ≤ k) ∧ Aside0 (Kd.R (Kd.int .i64) 3 w' w.heap.size (fun _ => True) v3 x3_1) ∧ Aside0 (w'.heap[gb130]? = some (.cells #[(.slice A0_0 l0_0.length c0_0), .int .i64 a0_1, .int .i64 a0_2, (.slice A0_3 l0_3.length c0_3)] 32 (0, 0))) ∧ Aside0 (Below w.heap.size w w'))
 case atStart => exact ⟨(y131), (0), sp_, H', ⟨Nat.le_refl _⟩, ⟨ra_ HO133⟩, ⟨by (with_reducible repeat (first | refine blk_drewN ?_ _ | refine blk_drew ?_ | refine blk_alloc ?_ _)); exact BK130.out⟩, ⟨bl_⟩⟩
 case round =>
  clear H'
  try clear p2
  try clear c5
  try clear hcz5_0
  try clear hcz5_1
  try clear hcz5_2
  try clear hcz5_3
  try clear hfz5_0
  try clear hfz5_1
  try clear hfz5_2
  try clear hfz5_3
  obtain ⟨x3_1, x12_1, rfl, HA, HK1, HO_3, BK130, HB⟩ := hrel
  cases gk with
  | zero => exact absurd HA.out (by simp [spec_OrderOf.l0])
  | succ k1 =>
   have H := HA.out
   clear HA
   simp only [spec_OrderOf.l0] at H
   by_cases c6 : x12_1 < (l0_3.length : Int)
   ·rw [if_pos c6] at H
    have c6b0 : decide (x12_1 < (l0_3.length : Int)) = true := decide_eq_true c6
    clear c6
    by_cases c7 : 0 ≤ x12_1
    ·rw [if_pos c7] at H
     have c7b0 : decide (0 ≤ x12_1) = true := decide_eq_true c7
     clear c7
     by_cases c8 : x12_1 < (l0_3.length : Int)
     ·rw [if_pos c8] at H
      have c8b0 : decide (x12_1 < (l0_3.length : Int)) = true := decide_eq_true c8
      clear c8
      by_cases c9 : ((rd_T43 l0_3 x12_1).f5) = (-1)
      ·rw [if_pos c9] at H
       have c9b0 : (((rd_T43 l0_3 x12_1).f5) == (-1)) = true := beq_iff_eq.mpr c9
       have c9b1 : (((rd_T43 l0_3 x12_1).f5) != (-1)) = false := bne_eq_false_iff_eq.mpr c9
       clear c9
       have H' := Aside0.mk H
       clear H
       have p134 : 0 ≤ (x12_1 : Int) := od_
       have q134 : x12_1 < (l0_3.length : Int) := od_
       obtain ⟨ad134, A134_0, c134_0, A134_2, c134_2, A134_8, c134_8, e134, hx134_0, hx134_1, hx134_2, hx134_3, hx134_4, hx134_5, hx134_6, hx134_7, hx134_8, hl134_0, hi134_0, hl134_2, hi134_2, hl134_8, hi134_8⟩ := at_T43 HR0_3.out x12_1 p134 q134
       cases e134
       replace hx134_0 := kc_ HB hx134_0
       replace hx134_1 := kc_ HB hx134_1
       replace hx134_2 := kc_ HB hx134_2
       replace hx134_3 := kc_ HB hx134_3
       replace hx134_4 := kc_ HB hx134_4
       replace hx134_5 := kc_ HB hx134_5
       replace hx134_6 := kc_ HB hx134_6
       replace hx134_7 := kc_ HB hx134_7
       replace hx134_8 := kc_ HB hx134_8
       have HR134_0 := Aside0.mk hi134_0
       have HC134_0 := Aside0.mk hl134_0
       clear hi134_0 hl134_0
       have HR134_2 := Aside0.mk hi134_2
       have HC134_2 := Aside0.mk hl134_2
       clear hi134_2 hl134_2
       have HR134_8 := Aside0.mk hi134_8
       have HC134_8 := Aside0.mk hl134_8
       clear hi134_8 hl134_8
       replace p134 := eq_true p134
       replace q134 := eq_true q134
       go_wp2_with (first | ((with_reducible refine gate_dst (N := 5) rfl ?_); refine be_ (N := 5) (cs := #[.slice none 0 0, .int .i64 0, .slice none 0 0, .int .i64 0, .int .i64 0, .int .i64 0, .int .i64 0, .int .i64 0, .slice none 0 0]) (t := 43) ?_; intro gb135 hg w10 hbox hb; replace HO_3 := Aside0.mk (Kd.R_below (ra_ HO_3) hb); have BK135 := Aside0.mk (hbox); have GW135 := gw_ (w := w) hg; have GE135 := gw_ (w := w) hg; replace HB := Aside0.mk (below_step bl_ hb); have NB130_135 := Aside0.mk ((by rw [hg]; exact Nat.ne_of_lt (blk_lt (bk_ BK130)) : gb130 ≠ gb135)); have NB135_130 := Aside0.mk ((by rw [hg]; exact Nat.ne_of_gt (blk_lt (bk_ BK130)) : gb135 ≠ gb130)); replace BK130 := Aside0.mk (blk_below (bk_ BK130) hb); clear hb hbox hg; have hnb11 := NB135_130.out; have hnc11 := NB130_135.out; obtain ⟨hcz12_0, hcz12_1, hcz12_2, hcz12_3, hcz12_4, hcz12_5, hcz12_6, hcz12_7, hcz12_8, hfz12_0, hfz12_1, hfz12_2, hfz12_3, hfz12_4, hfz12_5, hfz12_6, hfz12_7, hfz12_8⟩ := bx9_ BK135))
       repeat (go_quiet (first | ((with_reducible refine gate_dst (N := 5) rfl ?_); refine be_ (N := 5) (cs := #[.slice none 0 0, .int .i64 0, .slice none 0 0, .int .i64 0, .int .i64 0, .int .i64 0, .int .i64 0, .int .i64 0, .slice none 0 0]) (t := 43) ?_; intro gb135 hg w10 hbox hb; replace HO_3 := Aside0.mk (Kd.R_below (ra_ HO_3) hb); have BK135 := Aside0.mk (hbox); have GW135 := gw_ (w := w) hg; have GE135 := gw_ (w := w) hg; replace HB := Aside0.mk (below_step bl_ hb); have NB130_135 := Aside0.mk ((by rw [hg]; exact Nat.ne_of_lt (blk_lt (bk_ BK130)) : gb130 ≠ gb135)); have NB135_130 := Aside0.mk ((by rw [hg]; exact Nat.ne_of_gt (blk_lt (bk_ BK130)) : gb135 ≠ gb130)); replace BK130 := Aside0.mk (blk_below (bk_ BK130) hb); clear hb hbox hg; have hnb11 := NB135_130.out; have hnc11 := NB130_135.out; obtain ⟨hcz12_0, hcz12_1, hcz12_2, hcz12_3, hcz12_4, hcz12_5, hcz12_6, hcz12_7, hcz12_8, hfz12_0, hfz12_1, hfz12_2, hfz12_3, hfz12_4, hfz12_5, hfz12_6, hfz12_7, hfz12_8⟩ := bx9_ BK135)); try go_wp2_with (first | ((with_reducible refine gate_dst (N := 5) rfl ?_); refine be_ (N := 5) (cs := #[.slice none 0 0, .int .i64 0, .slice none 0 0, .int .i64 0, .int .i64 0, .int .i64 0, .int .i64 0, .int .i64 0, .slice none 0 0]) (t := 43) ?_; intro gb135 hg w10 hbox hb; replace HO_3 := Aside0.mk (Kd.R_below (ra_ HO_3) hb); have BK135 := Aside0.mk (hbox); have GW135 := gw_ (w := w) hg; have GE135 := gw_ (w := w) hg; replace HB := Aside0.mk (below_step bl_ hb); have NB130_135 := Aside0.mk ((by rw [hg]; exact Nat.ne_of_lt (blk_lt (bk_ BK130)) : gb130 ≠ gb135)); have NB135_130 := Aside0.mk ((by rw [hg]; exact Nat.ne_of_gt (blk_lt (bk_ BK130)) : gb135 ≠ gb130)); replace BK130 := Aside0.mk (blk_below (bk_ BK130) hb); clear hb hbox hg; have hnb11 := NB135_130.out; have hnc11 := NB130_135.out; obtain ⟨hcz12_0, hcz12_1, hcz12_2, hcz12_3, hcz12_4, hcz12_5, hcz12_6, hcz12_7, hcz12_8, hfz12_0, hfz12_1, hfz12_2, hfz12_3, hfz12_4, hfz12_5, hfz12_6, hfz12_7, hfz12_8⟩ := bx9_ BK135)))
       go_roundg k1
       case measure => have := HK1.out; omega
       case rel => exact ⟨(x3_1), (wrap64 (x12_1 + 1)), sp_, H', ⟨by have := HK1.out; omega⟩, ⟨by (with_reducible repeat (first | apply Kd.R_alloc | apply Kd.R_drewN | apply Kd.R_drew)); exact Kd.R_mono (Kd.R_far (p := ⟨gb135, 8, none⟩) (Kd.R_far (p := ⟨gb135, 7, none⟩) (Kd.R_far (p := ⟨gb135, 6, none⟩) (Kd.R_far (p := ⟨gb135, 5, none⟩) (Kd.R_far (p := ⟨gb135, 4, none⟩) (Kd.R_far (p := ⟨gb135, 3, none⟩) (Kd.R_far (p := ⟨gb135, 2, none⟩) (Kd.R_far (p := ⟨gb135, 1, none⟩) (Kd.R_far (p := ⟨gb135, 0, none⟩) (Kd.R_types HO_3.out BK135.out (by decide)) (fun _ hk => hk.2) (.slice A134_0 ((rd_T43 l0_3 x12_1).f0).length c134_0)) (fun _ hk => hk.2) (.int .i64 ((rd_T43 l0_3 x12_1).f1))) (fun _ hk => hk.2) (.slice A134_2 ((rd_T43 l0_3 x12_1).f2).length c134_2)) (fun _ hk => hk.2) (.int .i64 ((rd_T43 l0_3 x12_1).f3))) (fun _ hk => hk.2) (.int .i64 ((rd_T43 l0_3 x12_1).f4))) (fun _ hk => hk.2) (.int .i64 ((rd_T43 l0_3 x12_1).f5))) (fun _ hk => hk.2) (.int .i64 ((rd_T43 l0_3 x12_1).f6))) (fun _ hk => hk.2) (.int .i64 ((rd_T43 l0_3 x12_1).f7))) (fun _ hk => hk.2) (.slice A134_8 ((rd_T43 l0_3 x12_1).f8).length c134_8)) (fun _ hk => trivial)⟩, ⟨by (with_reducible repeat (first | refine blk_drewN ?_ _ | refine blk_drew ?_ | refine blk_alloc ?_ _)); refine blk_far ?_ NB130_135.out _; (with_reducible repeat (first | refine blk_drewN ?_ _ | refine blk_drew ?_ | refine blk_alloc ?_ _)); refine blk_far ?_ NB130_135.out _; (with_reducible repeat (first | refine blk_drewN ?_ _ | refine blk_drew ?_ | refine blk_alloc ?_ _)); refine blk_far ?_ NB130_135.out _; (with_reducible repeat (first | refine blk_drewN ?_ _ | refine blk_drew ?_ | refine blk_alloc ?_ _)); refine blk_far ?_ NB130_135.out _; (with_reducible repeat (first | refine blk_drewN ?_ _ | refine blk_drew ?_ | refine blk_alloc ?_ _)); refine blk_far ?_ NB130_135.out _; (with_reducible repeat (first | refine blk_drewN ?_ _ | refine blk_drew ?_ | refine blk_alloc ?_ _)); refine blk_far ?_ NB130_135.out _; (with_reducible repeat (first | refine blk_drewN ?_ _ | refine blk_drew ?_ | refine blk_alloc ?_ _)); refine blk_far ?_ NB130_135.out _; (with_reducible repeat (first | refine blk_drewN ?_ _ | refine blk_drew ?_ | refine blk_alloc ?_ _)); refine blk_far ?_ NB130_135.out _; (with_reducible repeat (first | refine blk_drewN ?_ _ | refine blk_drew ?_ | refine blk_alloc ?_ _)); refine blk_far ?_ NB130_135.out _; (with_reducible repeat (first | refine blk_drewN ?_ _ | refine blk_drew ?_ | refine blk_alloc ?_ _)); exact BK130.out⟩, ⟨bl_⟩⟩
      ·rw [if_neg c9] at H
       have c9b0 : (((rd_T43 l0_3 x12_1).f5) == (-1)) = false := beq_eq_false_iff_ne.mpr c9
       have c9b1 : (((rd_T43 l0_3 x12_1).f5) != (-1)) = true := bne_iff_ne.mpr c9
       have H' := Aside0.mk H
       clear H
       have p134 : 0 ≤ (x12_1 : Int) := od_
       have q134 : x12_1 < (l0_3.length : Int) := od_
       obtain ⟨ad134, A134_0, c134_0, A134_2, c134_2, A134_8, c134_8, e134, hx134_0, hx134_1, hx134_2, hx134_3, hx134_4, hx134_5, hx134_6, hx134_7, hx134_8, hl134_0, hi134_0, hl134_2, hi134_2, hl134_8, hi134_8⟩ := at_T43 HR0_3.out x12_1 p134 q134
       cases e134
       replace hx134_0 := kc_ HB hx134_0
       replace hx134_1 := kc_ HB hx134_1
       replace hx134_2 := kc_ HB hx134_2
       replace hx134_3 := kc_ HB hx134_3
       replace hx134_4 := kc_ HB hx134_4
       replace hx134_5 := kc_ HB hx134_5
       replace hx134_6 := kc_ HB hx134_6
       replace hx134_7 := kc_ HB hx134_7
       replace hx134_8 := kc_ HB hx134_8
       have HR134_0 := Aside0.mk hi134_0
       have HC134_0 := Aside0.mk hl134_0
       clear hi134_0 hl134_0
       have HR134_2 := Aside0.mk hi134_2
       have HC134_2 := Aside0.mk hl134_2
       clear hi134_2 hl134_2
       have HR134_8 := Aside0.mk hi134_8
       have HC134_8 := Aside0.mk hl134_8
       clear hi134_8 hl134_8
       replace p134 := eq_true p134
       replace q134 := eq_true q134
       go_wp2_with (first | ((with_reducible refine gate_dst (N := 5) rfl ?_); refine be_ (N := 5) (cs := #[.slice none 0 0, .int .i64 0, .slice none 0 0, .int .i64 0, .int .i64 0, .int .i64 0, .int .i64 0, .int .i64 0, .slice none 0 0]) (t := 43) ?_; intro gb135 hg w13 hbox hb; replace HO_3 := Aside0.mk (Kd.R_below (ra_ HO_3) hb); have BK135 := Aside0.mk (hbox); have GW135 := gw_ (w := w) hg; have GE135 := gw_ (w := w) hg; replace HB := Aside0.mk (below_step bl_ hb); have NB130_135 := Aside0.mk ((by rw [hg]; exact Nat.ne_of_lt (blk_lt (bk_ BK130)) : gb130 ≠ gb135)); have NB135_130 := Aside0.mk ((by rw [hg]; exact Nat.ne_of_gt (blk_lt (bk_ BK130)) : gb135 ≠ gb130)); replace BK130 := Aside0.mk (blk_below (bk_ BK130) hb); clear hb hbox hg; have hnb14 := NB135_130.out; have hnc14 := NB130_135.out; obtain ⟨hcz15_0, hcz15_1, hcz15_2, hcz15_3, hcz15_4, hcz15_5, hcz15_6, hcz15_7, hcz15_8, hfz15_0, hfz15_1, hfz15_2, hfz15_3, hfz15_4, hfz15_5, hfz15_6, hfz15_7, hfz15_8⟩ := bx9_ BK135; obtain ⟨Ao16, co16, eo16⟩ := Kd.R_slice HO_3.out; subst eo16))
       repeat (go_quiet (first | ((with_reducible refine gate_dst (N := 5) rfl ?_); refine be_ (N := 5) (cs := #[.slice none 0 0, .int .i64 0, .slice none 0 0, .int .i64 0, .int .i64 0, .int .i64 0, .int .i64 0, .int .i64 0, .slice none 0 0]) (t := 43) ?_; intro gb135 hg w13 hbox hb; replace HO_3 := Aside0.mk (Kd.R_below (ra_ HO_3) hb); have BK135 := Aside0.mk (hbox); have GW135 := gw_ (w := w) hg; have GE135 := gw_ (w := w) hg; replace HB := Aside0.mk (below_step bl_ hb); have NB130_135 := Aside0.mk ((by rw [hg]; exact Nat.ne_of_lt (blk_lt (bk_ BK130)) : gb130 ≠ gb135)); have NB135_130 := Aside0.mk ((by rw [hg]; exact Nat.ne_of_gt (blk_lt (bk_ BK130)) : gb135 ≠ gb130)); replace BK130 := Aside0.mk (blk_below (bk_ BK130) hb); clear hb hbox hg; have hnb14 := NB135_130.out; have hnc14 := NB130_135.out; obtain ⟨hcz15_0, hcz15_1, hcz15_2, hcz15_3, hcz15_4, hcz15_5, hcz15_6, hcz15_7, hcz15_8, hfz15_0, hfz15_1, hfz15_2, hfz15_3, hfz15_4, hfz15_5, hfz15_6, hfz15_7, hfz15_8⟩ := bx9_ BK135; obtain ⟨Ao16, co16, eo16⟩ := Kd.R_slice HO_3.out; subst eo16)); try go_wp2_with (first | ((with_reducible refine gate_dst (N := 5) rfl ?_); refine be_ (N := 5) (cs := #[.slice none 0 0, .int .i64 0, .slice none 0 0, .int .i64 0, .int .i64 0, .int .i64 0, .int .i64 0, .int .i64 0, .slice none 0 0]) (t := 43) ?_; intro gb135 hg w13 hbox hb; replace HO_3 := Aside0.mk (Kd.R_below (ra_ HO_3) hb); have BK135 := Aside0.mk (hbox); have GW135 := gw_ (w := w) hg; have GE135 := gw_ (w := w) hg; replace HB := Aside0.mk (below_step bl_ hb); have NB130_135 := Aside0.mk ((by rw [hg]; exact Nat.ne_of_lt (blk_lt (bk_ BK130)) : gb130 ≠ gb135)); have NB135_130 := Aside0.mk ((by rw [hg]; exact Nat.ne_of_gt (blk_lt (bk_ BK130)) : gb135 ≠ gb130)); replace BK130 := Aside0.mk (blk_below (bk_ BK130) hb); clear hb hbox hg; have hnb14 := NB135_130.out; have hnc14 := NB130_135.out; obtain ⟨hcz15_0, hcz15_1, hcz15_2, hcz15_3, hcz15_4, hcz15_5, hcz15_6, hcz15_7, hcz15_8, hfz15_0, hfz15_1, hfz15_2, hfz15_3, hfz15_4, hfz15_5, hfz15_6, hfz15_7, hfz15_8⟩ := bx9_ BK135; obtain ⟨Ao16, co16, eo16⟩ := Kd.R_slice HO_3.out; subst eo16)))
       go_loopg [6] k1 (fun kq v6 w' => ∃ (x6_2 : Int), v6 = .int .i64 x6_2 ∧ Aside0 (spec_OrderOf.l1 kq x3_1 x12_1 x6_2 l0_3 (l0_3.length : Int) x12_1 l0_0 a0_1 a0_2 l0_3 ((rd_T43 l0_3 x12_1).f0) ((rd_T43 l0_3 x12_1).f1) ((rd_T43 l0_3 x12_1).f2) ((rd_T43 l0_3 x12_1).f3) ((rd_T43 l0_3 x12_1).f4) ((rd_T43 l0_3 x12_1).f5) ((rd_T43 l0_3 x12_1).f6) ((rd_T43 l0_3 x12_1).f7) ((rd_T43 l0_3 x12_1).f8) = some r) ∧ Aside0 (kq ≤ k1) ∧ Aside0 (Kd.R (Kd.int .i64) 3 w' w.heap.size (fun _ => True) (.slice Ao16 x3_1.length co16) x3_1) ∧ Aside0 (w'.heap[gb130]? = some (.cells #[(.slice A0_0 l0_0.length c0_0), .int .i64 a0_1, .int .i64 a0_2, (.slice (some ad134) l0_3.length c0_3)] 32 (0, 0))) ∧ Aside0 (w'.heap[gb135]? = some (.cells #[(.slice A134_0 ((rd_T43 l0_3 x12_1).f0).length c134_0), .int .i64 ((rd_T43 l0_3 x12_1).f1), (.slice A134_2 ((rd_T43 l0_3 x12_1).f2).length c134_2), .int .i64 ((rd_T43 l0_3 x12_1).f3), .int .i64 ((rd_T43 l0_3 x12_1).f4), .int .i64 ((rd_T43 l0_3 x12_1).f5), .int .i64 ((rd_T43 l0_3 x12_1).f6), .int .i64 ((rd_T43 l0_3 x12_1).f7), (.slice A134_8 ((rd_T43 l0_3 x12_1).f8).length c134_8)] 43 (0, 0))) ∧ Aside0 (Below w.heap.size w w'))
       case atStart => exact ⟨((x3_1.length : Int)), sp_, H', ⟨Nat.le_refl _⟩, ⟨by (with_reducible repeat (first | apply Kd.R_alloc | apply Kd.R_drewN | apply Kd.R_drew)); exact Kd.R_mono (Kd.R_far (p := ⟨gb135, 8, none⟩) (Kd.R_far (p := ⟨gb135, 7, none⟩) (Kd.R_far (p := ⟨gb135, 6, none⟩) (Kd.R_far (p := ⟨gb135, 5, none⟩) (Kd.R_far (p := ⟨gb135, 4, none⟩) (Kd.R_far (p := ⟨gb135, 3, none⟩) (Kd.R_far (p := ⟨gb135, 2, none⟩) (Kd.R_far (p := ⟨gb135, 1, none⟩) (Kd.R_far (p := ⟨gb135, 0, none⟩) (Kd.R_types HO_3.out BK135.out (by decide)) (fun _ hk => hk.2) (.slice A134_0 ((rd_T43 l0_3 x12_1).f0).length c134_0)) (fun _ hk => hk.2) (.int .i64 ((rd_T43 l0_3 x12_1).f1))) (fun _ hk => hk.2) (.slice A134_2 ((rd_T43 l0_3 x12_1).f2).length c134_2)) (fun _ hk => hk.2) (.int .i64 ((rd_T43 l0_3 x12_1).f3))) (fun _ hk => hk.2) (.int .i64 ((rd_T43 l0_3 x12_1).f4))) (fun _ hk => hk.2) (.int .i64 ((rd_T43 l0_3 x12_1).f5))) (fun _ hk => hk.2) (.int .i64 ((rd_T43 l0_3 x12_1).f6))) (fun _ hk => hk.2) (.int .i64 ((rd_T43 l0_3 x12_1).f7))) (fun _ hk => hk.2) (.slice A134_8 ((rd_T43 l0_3 x12_1).f8).length c134_8)) (fun _ hk => trivial)⟩, ⟨by (with_reducible repeat (first | refine blk_drewN ?_ _ | refine blk_drew ?_ | refine blk_alloc ?_ _)); refine blk_far ?_ NB130_135.out _; (with_reducible repeat (first | refine blk_drewN ?_ _ | refine blk_drew ?_ | refine blk_alloc ?_ _)); refine blk_far ?_ NB130_135.out _; (with_reducible repeat (first | refine blk_drewN ?_ _ | refine blk_drew ?_ | refine blk_alloc ?_ _)); refine blk_far ?_ NB130_135.out _; (with_reducible repeat (first | refine blk_drewN ?_ _ | refine blk_drew ?_ | refine blk_alloc ?_ _)); refine blk_far ?_ NB130_135.out _; (with_reducible repeat (first | refine blk_drewN ?_ _ | refine blk_drew ?_ | refine blk_alloc ?_ _)); refine blk_far ?_ NB130_135.out _; (with_reducible repeat (first | refine blk_drewN ?_ _ | refine blk_drew ?_ | refine blk_alloc ?_ _)); refine blk_far ?_ NB130_135.out _; (with_reducible repeat (first | refine blk_drewN ?_ _ | refine blk_drew ?_ | refine blk_alloc ?_ _)); refine blk_far ?_ NB130_135.out _; (with_reducible repeat (first | refine blk_drewN ?_ _ | refine blk_drew ?_ | refine blk_alloc ?_ _)); refine blk_far ?_ NB130_135.out _; (with_reducible repeat (first | refine blk_drewN ?_ _ | refine blk_drew ?_ | refine blk_alloc ?_ _)); refine blk_far ?_ NB130_135.out _; (with_reducible repeat (first | refine blk_drewN ?_ _ | refine blk_drew ?_ | refine blk_alloc ?_ _)); exact BK130.out⟩, ⟨by (with_reducible repeat (first | refine blk_drewN ?_ _ | refine blk_drew ?_ | refine blk_alloc ?_ _)); apply bq9_8_7_6_5_4_3_2_1_0_; (with_reducible repeat (first | refine blk_drewN ?_ _ | refine blk_drew ?_ | refine blk_alloc ?_ _)); exact BK135.out⟩, ⟨bl_⟩⟩
       case round =>
        clear H'
        try clear c1
        try clear p1
        try clear q1
        try clear hx1
        try clear p2
        try clear c5
        try clear c6
        try clear c6b0
        try clear p6
        try clear c7
        try clear c7b0
        try clear c8
        try clear c8b0
        try clear c9
        try clear c9b0
        try clear c9b1
        try clear c11
        try clear c13
        try clear p13
        try clear q13
        try clear hx13
        try clear c14
        try clear hcz12_0
        try clear hcz12_1
        try clear hcz12_2
        try clear hcz12_3
        try clear hcz12_4
        try clear hcz12_5
        try clear hcz12_6
        try clear hcz12_7
        try clear hcz12_8
        try clear hcz15_0
        try clear hcz15_1
        try clear hcz15_2
        try clear hcz15_3
        try clear hcz15_4
        try clear hcz15_5
        try clear hcz15_6
        try clear hcz15_7
        try clear hcz15_8
        try clear hcz5_0
        try clear hcz5_1
        try clear hcz5_2
        try clear hcz5_3
        try clear hfz12_0
        try clear hfz12_1
        try clear hfz12_2
        try clear hfz12_3
        try clear hfz12_4
        try clear hfz12_5
        try clear hfz12_6
        try clear hfz12_7
        try clear hfz12_8
        try clear hfz15_0
        try clear hfz15_1
        try clear hfz15_2
        try clear hfz15_3
        try clear hfz15_4
        try clear hfz15_5
        try clear hfz15_6
        try clear hfz15_7
        try clear hfz15_8
        try clear hfz5_0
        try clear hfz5_1
        try clear hfz5_2
        try clear hfz5_3
        try clear hx134_0
        try clear hx134_1
        try clear hx134_2
        try clear hx134_3
        try clear hx134_4
        try clear hx134_5
        try clear hx134_6
        try clear hx134_7
        try clear hx134_8
        try clear p134
        try clear p2
        try clear q134
        obtain ⟨x6_2, rfl, HA, HK2, HO_3, BK130, BK135, HB⟩ := hrel
        cases gk with
        | zero => exact absurd HA.out (by simp [spec_OrderOf.l1])
        | succ k2 =>
         have H := HA.out
         clear HA
         simp only [spec_OrderOf.l1] at H
         by_cases c17 : x6_2 > 0
         ·rw [if_pos c17] at H
          have c17b0 : decide (0 < x6_2) = true := decide_eq_true c17
          clear c17
          obtain ⟨ji18, hji18⟩ : ∃ j_ : Int, (wrap64 (x6_2 - 1)) = j_ := ⟨_, rfl⟩
          replace H : (if 0 ≤ (ji18) then (if (ji18) < (x3_1.length : Int) then (if 0 ≤ (rd x3_1 (ji18)) then (if (rd x3_1 (ji18)) < (l0_3.length : Int) then (if ((rd_T43 l0_3 (rd x3_1 (ji18))).f5) > ((rd_T43 l0_3 x12_1).f5) then (spec_OrderOf.l1 k2 x3_1 x12_1 ji18 l0_3 (l0_3.length : Int) x12_1 l0_0 a0_1 a0_2 l0_3 ((rd_T43 l0_3 x12_1).f0) ((rd_T43 l0_3 x12_1).f1) ((rd_T43 l0_3 x12_1).f2) ((rd_T43 l0_3 x12_1).f3) ((rd_T43 l0_3 x12_1).f4) ((rd_T43 l0_3 x12_1).f5) ((rd_T43 l0_3 x12_1).f6) ((rd_T43 l0_3 x12_1).f7) ((rd_T43 l0_3 x12_1).f8)) else ((some (([] : List Int) : List Int)).bind fun y138 => (if 0 ≤ x6_2 then (if x6_2 ≤ (x3_1.length : Int) then ((some (x3_1.take (x6_2 : Int).toNat : List Int)).bind fun y141 => (if y138.length + y141.length < 17592186044416 then ((some (y138 ++ y141 : List Int)).bind fun y145 => (if y145.length < 17592186044416 then ((some (y145 ++ [x12_1] : List Int)).bind fun y148 => ((some (x3_1.drop (x6_2 : Int).toNat : List Int)).bind fun y151 => (if y148.length + y151.length < 17592186044416 then (spec_OrderOf.l0 k2 (y148 ++ y151) l0_3 (l0_3.length : Int) (wrap64 (x12_1 + 1)) l0_0 a0_1 a0_2 l0_3) else (none)))) else (none))) else (none))) else (none)) else (none)))) else (none)) else (none)) else (none)) else (none)) = some r := by first | (rw [hji18] at H; exact H) | (simp only [hji18] at H ⊢; exact H)
          have hji18w : (IntKind.i64.wrap (x6_2 - 1)) = ji18 := (i64_w _).trans hji18
          by_cases c19 : 0 ≤ (ji18)
          ·rw [if_pos c19] at H
           have c19b0 : decide (0 ≤ (ji18)) = true := decide_eq_true c19
           clear c19
           by_cases c20 : (ji18) < (x3_1.length : Int)
           ·rw [if_pos c20] at H
            have c20b0 : decide ((ji18) < (x3_1.length : Int)) = true := decide_eq_true c20
            clear c20
            by_cases c21 : 0 ≤ (rd x3_1 (ji18))
            ·rw [if_pos c21] at H
             have c21b0 : decide (0 ≤ (rd x3_1 (ji18))) = true := decide_eq_true c21
             clear c21
             by_cases c22 : (rd x3_1 (ji18)) < (l0_3.length : Int)
             ·rw [if_pos c22] at H
              have c22b0 : decide ((rd x3_1 (ji18)) < (l0_3.length : Int)) = true := decide_eq_true c22
              clear c22
              by_cases c23 : ((rd_T43 l0_3 (rd x3_1 (ji18))).f5) > ((rd_T43 l0_3 x12_1).f5)
              ·rw [if_pos c23] at H
               have c23b0 : decide (((rd_T43 l0_3 x12_1).f5) < ((rd_T43 l0_3 (rd x3_1 (ji18))).f5)) = true := decide_eq_true c23
               clear c23
               have H' := Aside0.mk H
               clear H
               have hnb24 := NB130_135.out
               have hnc24 := NB135_130.out
               have hcz25_0 := cz_ BK130 0 (.slice A0_0 l0_0.length c0_0)
               have hcz25_1 := cz_ BK130 1 (.int .i64 a0_1)
               have hcz25_2 := cz_ BK130 2 (.int .i64 a0_2)
               have hcz25_3 := cz_ BK130 3 (.slice (some ad134) l0_3.length c0_3)
               have hfz25_0 := fz_ BK130 0
               have hfz25_1 := fz_ BK130 1
               have hfz25_2 := fz_ BK130 2
               have hfz25_3 := fz_ BK130 3
               have p136 : 0 ≤ ((ji18) : Int) := od_
               have q136 : (ji18) < (x3_1.length : Int) := od_
               obtain ⟨ad136, e136, hx136_0⟩ := Kd.at_int (Kd.R_reads' HO_3.out).2.2 (ji18) p136 q136
               cases e136
               replace p136 := eq_true p136
               replace q136 := eq_true q136
               have p137 : 0 ≤ ((rd x3_1 (ji18)) : Int) := od_
               have q137 : (rd x3_1 (ji18)) < (l0_3.length : Int) := od_
               obtain ⟨ad137, A137_0, c137_0, A137_2, c137_2, A137_8, c137_8, e137, hx137_0, hx137_1, hx137_2, hx137_3, hx137_4, hx137_5, hx137_6, hx137_7, hx137_8, hl137_0, hi137_0, hl137_2, hi137_2, hl137_8, hi137_8⟩ := at_T43 HR0_3.out (rd x3_1 (ji18)) p137 q137
               obtain rfl : ad134 = ad137 := (by injection e137)
               replace hx137_0 := kc_ HB hx137_0
               replace hx137_1 := kc_ HB hx137_1
               replace hx137_2 := kc_ HB hx137_2
               replace hx137_3 := kc_ HB hx137_3
               replace hx137_4 := kc_ HB hx137_4
               replace hx137_5 := kc_ HB hx137_5
               replace hx137_6 := kc_ HB hx137_6
               replace hx137_7 := kc_ HB hx137_7
               replace hx137_8 := kc_ HB hx137_8
               have HR137_0 := Aside0.mk hi137_0
               have HC137_0 := Aside0.mk hl137_0
               clear hi137_0 hl137_0
               have HR137_2 := Aside0.mk hi137_2
               have HC137_2 := Aside0.mk hl137_2
               clear hi137_2 hl137_2
               have HR137_8 := Aside0.mk hi137_8
               have HC137_8 := Aside0.mk hl137_8
               clear hi137_8 hl137_8
               replace p137 := eq_true p137
               replace q137 := eq_true q137
               have hcz26_0 := cz_ BK135 0 (.slice A134_0 ((rd_T43 l0_3 x12_1).f0).length c134_0)
               have hcz26_1 := cz_ BK135 1 (.int .i64 ((rd_T43 l0_3 x12_1).f1))
               have hcz26_2 := cz_ BK135 2 (.slice A134_2 ((rd_T43 l0_3 x12_1).f2).length c134_2)
               have hcz26_3 := cz_ BK135 3 (.int .i64 ((rd_T43 l0_3 x12_1).f3))
               have hcz26_4 := cz_ BK135 4 (.int .i64 ((rd_T43 l0_3 x12_1).f4))
               have hcz26_5 := cz_ BK135 5 (.int .i64 ((rd_T43 l0_3 x12_1).f5))
               have hcz26_6 := cz_ BK135 6 (.int .i64 ((rd_T43 l0_3 x12_1).f6))
               have hcz26_7 := cz_ BK135 7 (.int .i64 ((rd_T43 l0_3 x12_1).f7))
               have hcz26_8 := cz_ BK135 8 (.slice A134_8 ((rd_T43 l0_3 x12_1).f8).length c134_8)
               have hfz26_0 := fz_ BK135 0
               have hfz26_1 := fz_ BK135 1
               have hfz26_2 := fz_ BK135 2
               have hfz26_3 := fz_ BK135 3
               have hfz26_4 := fz_ BK135 4
               have hfz26_5 := fz_ BK135 5
               have hfz26_6 := fz_ BK135 6
               have hfz26_7 := fz_ BK135 7
               have hfz26_8 := fz_ BK135 8
               go_wp2
               repeat (go_quiet (fail); try go_wp2)
               go_roundg k2
               case measure => have := HK1.out; have := HK2.out; omega
               case rel => exact ⟨(ji18), (by first | rfl | (simp; done) | (simp only [← hji18] <;> (first | rfl | (simp; done) | (simp [my_isEmpty, my_w256, Go.Proofs.YtbjpfknmkpnhjaaW.PrintLast.i64_w, Go.Proofs.YtbjpfknmkpnhjaaW.PrintLast.i32_w, Go.IntKind.wrap_u8, Go.IntKind.wrap_u32]; done))) | (simp [*]; done) | (simp [my_isEmpty, my_w256, Go.Proofs.YtbjpfknmkpnhjaaW.PrintLast.i64_w, Go.Proofs.YtbjpfknmkpnhjaaW.PrintLast.i32_w, Go.IntKind.wrap_u8, Go.IntKind.wrap_u32]; done)), H', ⟨by have := HK1.out; have := HK2.out; omega⟩, ⟨ra_ HO_3⟩, ⟨by (with_reducible repeat (first | refine blk_drewN ?_ _ | refine blk_drew ?_ | refine blk_alloc ?_ _)); exact BK130.out⟩, ⟨by (with_reducible repeat (first | refine blk_drewN ?_ _ | refine blk_drew ?_ | refine blk_alloc ?_ _)); exact BK135.out⟩, ⟨bl_⟩⟩
              ·rw [if_neg c23] at H
               have c23b0 : decide (((rd_T43 l0_3 x12_1).f5) < ((rd_T43 l0_3 (rd x3_1 (ji18))).f5)) = false := decide_eq_false c23
               clear c23
               obtain ⟨y138, hy138⟩ : ∃ y_ : List Int, y_ = (([] : List Int)) := ⟨_, rfl⟩
               replace H : (if 0 ≤ x6_2 then (if x6_2 ≤ (x3_1.length : Int) then ((some (x3_1.take (x6_2 : Int).toNat : List Int)).bind fun y141 => (if y138.length + y141.length < 17592186044416 then ((some (y138 ++ y141 : List Int)).bind fun y145 => (if y145.length < 17592186044416 then ((some (y145 ++ [x12_1] : List Int)).bind fun y148 => ((some (x3_1.drop (x6_2 : Int).toNat : List Int)).bind fun y151 => (if y148.length + y151.length < 17592186044416 then (spec_OrderOf.l0 k2 (y148 ++ y151) l0_3 (l0_3.length : Int) (wrap64 (x12_1 + 1)) l0_0 a0_1 a0_2 l0_3) else (none)))) else (none))) else (none))) else (none)) else (none)) = some r := by first | (rw [hy138]; with_reducible exact H) | (have H2_ := (Option.bind_some _ _).symm.trans H; rw [hy138]; with_reducible exact H2_) | (have H2_ := (Option.bind_some _ _).symm.trans H; with_reducible exact H2_) | with_reducible exact H | (rw [hy138]; exact H) | exact H
               have Ny138 := Aside0.mk hy138
               clear hy138
               by_cases c27 : 0 ≤ x6_2
               ·rw [if_pos c27] at H
                have c27b0 := eq_true c27
                have c27b1 : decide (0 ≤ x6_2) = true := decide_eq_true c27
                clear c27
                by_cases c28 : x6_2 ≤ (x3_1.length : Int)
                ·rw [if_pos c28] at H
                 have c28b0 := eq_true c28
                 have c28b1 : decide (x6_2 ≤ (x3_1.length : Int)) = true := decide_eq_true c28
                 clear c28
                 obtain ⟨y141, hy141⟩ : ∃ y_ : List Int, y_ = (x3_1.take (x6_2 : Int).toNat) := ⟨_, rfl⟩
                 replace H : (if y138.length + y141.length < 17592186044416 then ((some (y138 ++ y141 : List Int)).bind fun y145 => (if y145.length < 17592186044416 then ((some (y145 ++ [x12_1] : List Int)).bind fun y148 => ((some (x3_1.drop (x6_2 : Int).toNat : List Int)).bind fun y151 => (if y148.length + y151.length < 17592186044416 then (spec_OrderOf.l0 k2 (y148 ++ y151) l0_3 (l0_3.length : Int) (wrap64 (x12_1 + 1)) l0_0 a0_1 a0_2 l0_3) else (none)))) else (none))) else (none)) = some r := by first | (rw [hy141]; with_reducible exact H) | (have H2_ := (Option.bind_some _ _).symm.trans H; rw [hy141]; with_reducible exact H2_) | (have H2_ := (Option.bind_some _ _).symm.trans H; with_reducible exact H2_) | with_reducible exact H | (rw [hy141]; exact H) | exact H
                 have Ny141 := Aside0.mk hy141
                 clear hy141
                 by_cases c29 : y138.length + y141.length < 17592186044416
                 ·rw [if_pos c29] at H
                  have LMc29 := Aside0.mk c29
                  clear c29
                  obtain ⟨y145, hy145⟩ : ∃ y_ : List Int, y_ = (y138 ++ y141) := ⟨_, rfl⟩
                  replace H : (if y145.length < 17592186044416 then ((some (y145 ++ [x12_1] : List Int)).bind fun y148 => ((some (x3_1.drop (x6_2 : Int).toNat : List Int)).bind fun y151 => (if y148.length + y151.length < 17592186044416 then (spec_OrderOf.l0 k2 (y148 ++ y151) l0_3 (l0_3.length : Int) (wrap64 (x12_1 + 1)) l0_0 a0_1 a0_2 l0_3) else (none)))) else (none)) = some r := by first | (rw [hy145]; with_reducible exact H) | (have H2_ := (Option.bind_some _ _).symm.trans H; rw [hy145]; with_reducible exact H2_) | (have H2_ := (Option.bind_some _ _).symm.trans H; with_reducible exact H2_) | with_reducible exact H | (rw [hy145]; exact H) | exact H
                  have Ny145 := Aside0.mk hy145
                  clear hy145
                  by_cases c30 : y145.length < 17592186044416
                  ·rw [if_pos c30] at H
                   have LMc30 := Aside0.mk c30
                   clear c30
                   obtain ⟨y148, hy148⟩ : ∃ y_ : List Int, y_ = (y145 ++ [x12_1]) := ⟨_, rfl⟩
                   replace H : ((some (x3_1.drop (x6_2 : Int).toNat : List Int)).bind fun y151 => (if y148.length + y151.length < 17592186044416 then (spec_OrderOf.l0 k2 (y148 ++ y151) l0_3 (l0_3.length : Int) (wrap64 (x12_1 + 1)) l0_0 a0_1 a0_2 l0_3) else (none))) = some r := by first | (rw [hy148]; with_reducible exact H) | (have H2_ := (Option.bind_some _ _).symm.trans H; rw [hy148]; with_reducible exact H2_) | (have H2_ := (Option.bind_some _ _).symm.trans H; with_reducible exact H2_) | with_reducible exact H | (rw [hy148]; exact H) | exact H
                   have Ny148 := Aside0.mk hy148
                   clear hy148
                   have c31b0 := eq_true (od_ : 0 ≤ x6_2)
                   have c32b0 := eq_true (od_ : x6_2 ≤ (x3_1.length : Int))
                   obtain ⟨y151, hy151⟩ : ∃ y_ : List Int, y_ = (x3_1.drop (x6_2 : Int).toNat) := ⟨_, rfl⟩
                   replace H : (if y148.length + y151.length < 17592186044416 then (spec_OrderOf.l0 k2 (y148 ++ y151) l0_3 (l0_3.length : Int) (wrap64 (x12_1 + 1)) l0_0 a0_1 a0_2 l0_3) else (none)) = some r := by first | (rw [hy151]; with_reducible exact H) | (have H2_ := (Option.bind_some _ _).symm.trans H; rw [hy151]; with_reducible exact H2_) | (have H2_ := (Option.bind_some _ _).symm.trans H; with_reducible exact H2_) | with_reducible exact H | (rw [hy151]; exact H) | exact H
                   have Ny151 := Aside0.mk hy151
                   clear hy151
                   by_cases c33 : y148.length + y151.length < 17592186044416
                   ·rw [if_pos c33] at H
                    have LMc33 := Aside0.mk c33
                    clear c33
                    obtain ⟨y155, hy155⟩ : ∃ y_ : List Int, y_ = (y148 ++ y151) := ⟨_, rfl⟩
                    replace H : (spec_OrderOf.l0 k2 y155 l0_3 (l0_3.length : Int) (wrap64 (x12_1 + 1)) l0_0 a0_1 a0_2 l0_3) = some r := by first | (rw [hy155]; with_reducible exact H) | (have H2_ := (Option.bind_some _ _).symm.trans H; rw [hy155]; with_reducible exact H2_) | (have H2_ := (Option.bind_some _ _).symm.trans H; with_reducible exact H2_) | with_reducible exact H | (rw [hy155]; exact H) | exact H
                    have Ny155 := Aside0.mk hy155
                    clear hy155
                    have H' := Aside0.mk H
                    clear H
                    have hnb34 := NB130_135.out
                    have hnc34 := NB135_130.out
                    have hcz35_0 := cz_ BK130 0 (.slice A0_0 l0_0.length c0_0)
                    have hcz35_1 := cz_ BK130 1 (.int .i64 a0_1)
                    have hcz35_2 := cz_ BK130 2 (.int .i64 a0_2)
                    have hcz35_3 := cz_ BK130 3 (.slice (some ad134) l0_3.length c0_3)
                    have hfz35_0 := fz_ BK130 0
                    have hfz35_1 := fz_ BK130 1
                    have hfz35_2 := fz_ BK130 2
                    have hfz35_3 := fz_ BK130 3
                    have p136 : 0 ≤ ((ji18) : Int) := od_
                    have q136 : (ji18) < (x3_1.length : Int) := od_
                    obtain ⟨ad136, e136, hx136_0⟩ := Kd.at_int (Kd.R_reads' HO_3.out).2.2 (ji18) p136 q136
                    cases e136
                    replace p136 := eq_true p136
                    replace q136 := eq_true q136
                    have p137 : 0 ≤ ((rd x3_1 (ji18)) : Int) := od_
                    have q137 : (rd x3_1 (ji18)) < (l0_3.length : Int) := od_
                    obtain ⟨ad137, A137_0, c137_0, A137_2, c137_2, A137_8, c137_8, e137, hx137_0, hx137_1, hx137_2, hx137_3, hx137_4, hx137_5, hx137_6, hx137_7, hx137_8, hl137_0, hi137_0, hl137_2, hi137_2, hl137_8, hi137_8⟩ := at_T43 HR0_3.out (rd x3_1 (ji18)) p137 q137
                    obtain rfl : ad134 = ad137 := (by injection e137)
                    replace hx137_0 := kc_ HB hx137_0
                    replace hx137_1 := kc_ HB hx137_1
                    replace hx137_2 := kc_ HB hx137_2
                    replace hx137_3 := kc_ HB hx137_3
                    replace hx137_4 := kc_ HB hx137_4
                    replace hx137_5 := kc_ HB hx137_5
                    replace hx137_6 := kc_ HB hx137_6
                    replace hx137_7 := kc_ HB hx137_7
                    replace hx137_8 := kc_ HB hx137_8
                    have HR137_0 := Aside0.mk hi137_0
                    have HC137_0 := Aside0.mk hl137_0
                    clear hi137_0 hl137_0
                    have HR137_2 := Aside0.mk hi137_2
                    have HC137_2 := Aside0.mk hl137_2
                    clear hi137_2 hl137_2
                    have HR137_8 := Aside0.mk hi137_8
                    have HC137_8 := Aside0.mk hl137_8
                    clear hi137_8 hl137_8
                    replace p137 := eq_true p137
                    replace q137 := eq_true q137
                    have hcz36_0 := cz_ BK135 0 (.slice A134_0 ((rd_T43 l0_3 x12_1).f0).length c134_0)
                    have hcz36_1 := cz_ BK135 1 (.int .i64 ((rd_T43 l0_3 x12_1).f1))
                    have hcz36_2 := cz_ BK135 2 (.slice A134_2 ((rd_T43 l0_3 x12_1).f2).length c134_2)
                    have hcz36_3 := cz_ BK135 3 (.int .i64 ((rd_T43 l0_3 x12_1).f3))
                    have hcz36_4 := cz_ BK135 4 (.int .i64 ((rd_T43 l0_3 x12_1).f4))
                    have hcz36_5 := cz_ BK135 5 (.int .i64 ((rd_T43 l0_3 x12_1).f5))
                    have hcz36_6 := cz_ BK135 6 (.int .i64 ((rd_T43 l0_3 x12_1).f6))
                    have hcz36_7 := cz_ BK135 7 (.int .i64 ((rd_T43 l0_3 x12_1).f7))
                    have hcz36_8 := cz_ BK135 8 (.slice A134_8 ((rd_T43 l0_3 x12_1).f8).length c134_8)
                    have hfz36_0 := fz_ BK135 0
                    have hfz36_1 := fz_ BK135 1
                    have hfz36_2 := fz_ BK135 2
                    have hfz36_3 := fz_ BK135 3
                    have hfz36_4 := fz_ BK135 4
                    have hfz36_5 := fz_ BK135 5
                    have hfz36_6 := fz_ BK135 6
                    have hfz36_7 := fz_ BK135 7
                    have hfz36_8 := fz_ BK135 8
                    go_wp2_with (first | ((with_reducible refine gate_dst (N := 41) rfl ?_); refine Kd.R_lit (Kd.int .i64) _ 3 ?hg (N := 41) ?hd (xs := ([] : List Int)) (inner := []) (ok := fun _ => True) (okp := fun _ => True) ?hr ?hp (fun _ hk => hk) trivial (Below.refl _ _) (Nat.le_refl _) (by simp) ?_; (case hd => rfl); (case hg => rfl); (case hr => first | (go_simp; done) | (go_simp; rfl)); (case hp => exact (Reps.none _ _)); intro v139 w37 ho38 hb hg_ hnew_; clear hg_ hnew_; (first | rw [← Ny138.out] at ho38 | (simp only [Int.reduceToNat] at ho38; rw [← Ny138.out] at ho38)); have HO140 := Aside0.mk (Kd.R_lower (Kd.R_new' ho38 (Kd.R_lt (ra_ HO_3))) (below_size bl_)); replace HO_3 := Aside0.mk (Kd.R_elder' (ra_ HO_3) (Kd.R_base ho38) hb); replace BK130 := Aside0.mk (blk_below (bk_ BK130) hb); replace BK135 := Aside0.mk (blk_below (bk_ BK135) hb); replace HB := Aside0.mk (below_step bl_ hb); clear hb ho38; have q39 : (x6_2 : Int) ≤ ((x3_1.length : Int) : Int) := od_; obtain ⟨i039, hi039, _, hsz39, _⟩ := info_parts info3; have hroom39 : x3_1.length ≤ co16 := (Kd.R_reads' HO_3.out).2.1; have hC39 : Kd.C (Kd.int .i64) _ (some ad136) x3_1.length x3_1 := (Kd.R_reads' HO_3.out).2.2; have hcut39 := cut_to (P := Try.prog) 27 3 .i64 Try.underlying27 hi039 (some ad136) x3_1.length co16 x6_2 od_ q39 hroom39; have hr39 := Kd.C_take (m := (x6_2 : Int).toNat) hC39 (by omega); have hy39 : y141.length = (x6_2 : Int).toNat := (by rw [Ny141.out, List.length_take]; omega); rw [← Ny141.out] at hr39; rw [← hy39] at hcut39; have HR144 := Aside0.mk hr39; have HC144 := Aside0.mk (show y141.length ≤ co16 from by omega); clear hr39 hC39 hroom39 hi039 hsz39; have KY39 := Aside0.mk hy39; clear hy39; have KL39 := Aside0.mk (show (x6_2 : Int).toNat ≤ x3_1.length from by omega); replace q39 := eq_true q39) | ((with_reducible refine gate_builtin (b := .append) (xs := #[.tmp 41, .tmp 44]) rfl ?_); at_builtin; refine Kd.R_append_rows (Kd.int .i64) (w0 := w) w.heap.size rfl (.tmp 41) (.tmp 44) 27 3 (.int .i64 0) 8 rfl Try.underlying27 info3 rfl (by decide) (by omega) v139 y138 y141 _ _ _ (fun k_ => some k_ ≠ (.slice (some ad136) x3_1.length co16 : Value).ownBlock) (fun _ => False) rfl rfl ?aO ?aR (fun _ _ h => h) (fun _ h => h.elim) ?aF ?aB ?aS ?aL ?_; (case aR => exact ca_ (by repeat (first | (with_reducible exact HR144.out) | (with_reducible refine Kd.C_alloc ?_ _) | (with_reducible refine Kd.C_drewN ?_ _) | (with_reducible refine Kd.C_drew ?_) | exact HR144.out))); (case aB => exact bl_); (case aF => exact (fun k_ hk => Kd.fresh' (Kd.R_lt (ra_ HO_3)) k_ hk)); (case aO => exact (by (with_reducible repeat (first | apply Kd.R_alloc | apply Kd.R_drewN | apply Kd.R_drew)); exact Kd.R_mono HO140.out (fun _ hk => hk.2))); (case aS => exact (below_size bl_)); (case aL => have := LMc29.out; omega); intro v146 w40 ho hb hg hat; rw [← Ny145.out] at ho; have n0_ := Aside0.mk (Kd.R_after (ok := (fun _ => True)) (ra_ HO_3) hg hat); have n1_ := Aside0.mk (blk_grown (bk_ BK130) hg (Kd.R_ne HO140.out BK130.out (by decide))); have n2_ := Aside0.mk (blk_grown (bk_ BK135) hg (Kd.R_ne HO140.out BK135.out (by decide))); have n3_ := Aside0.mk (hb); have n4_ := Aside0.mk ((show Kd.C (Kd.int .i64) w40 (some ad136) y141.length y141 from by rw [Ny141.out]; exact Kd.C_take (m := (x6_2 : Int).toNat) ((Kd.R_reads' (Kd.R_after (ok := (fun _ => True)) (ra_ HO_3) hg hat)).2.2) KL39.out)); have n5_ := Aside0.mk (ho); clear HO_3; clear BK130; clear BK135; clear HB; clear HR144; clear HO140; have HO_3 := n0_; have BK130 := n1_; have BK135 := n2_; have HB := n3_; have HR144 := n4_; have HO147 := n5_; clear n0_ n1_ n2_ n3_ n4_ n5_; clear ho hb hg hat) | ((with_reducible refine gate_builtin (b := .append) (xs := #[.tmp 46, .tmp 48]) rfl ?_); at_builtin; refine Kd.R_append (Kd.int .i64) (w0 := w) w.heap.size rfl (.tmp 46) (.tmp 48) 27 3 (.int .i64 0) 8 rfl Try.underlying27 info3 rfl (by decide) (by omega) v146 y145 x12_1 [.int .i64 x12_1] (fun k_ => some k_ ≠ (.slice (some ad136) x3_1.length co16 : Value).ownBlock) (fun _ => False) rfl rfl ?aP (fun _ hk => hk.elim) ?aF ?aO ?aB ?aS ?aL ?_; (case aP => exact rfl); (case aB => exact bl_); (case aF => exact (fun k_ hk => Kd.fresh' (Kd.R_lt (ra_ HO_3)) k_ hk)); (case aO => exact (ra_ HO147)); (case aS => exact (below_size bl_)); (case aL => have := LMc30.out; omega); intro v149 w41 ho hb hg hat; rw [← Ny148.out] at ho; have n0_ := Aside0.mk (Kd.R_after (ok := (fun _ => True)) (ra_ HO_3) hg hat); have n1_ := Aside0.mk (blk_grown (bk_ BK130) hg (Kd.R_ne HO147.out BK130.out (by decide))); have n2_ := Aside0.mk (blk_grown (bk_ BK135) hg (Kd.R_ne HO147.out BK135.out (by decide))); have n3_ := Aside0.mk (hb); have n4_ := Aside0.mk ((show Kd.C (Kd.int .i64) w41 (some ad136) y141.length y141 from by rw [Ny141.out]; exact Kd.C_take (m := (x6_2 : Int).toNat) ((Kd.R_reads' (Kd.R_after (ok := (fun _ => True)) (ra_ HO_3) hg hat)).2.2) KL39.out)); have n5_ := Aside0.mk (ho); clear HO_3; clear BK130; clear BK135; clear HB; clear HR144; clear HO147; have HO_3 := n0_; have BK130 := n1_; have BK135 := n2_; have HB := n3_; have HR144 := n4_; have HO150 := n5_; clear n0_ n1_ n2_ n3_ n4_ n5_; clear ho hb hg hat; have q42 : (x6_2 : Int) ≤ ((x3_1.length : Int) : Int) := od_; obtain ⟨i042, hi042, _, hsz42, _⟩ := info_parts info3; have hroom42 : x3_1.length ≤ co16 := (Kd.R_reads' HO_3.out).2.1; have hC42 : Kd.C (Kd.int .i64) _ (some ad136) x3_1.length x3_1 := (Kd.R_reads' HO_3.out).2.2; have q042 : (0 : Int) ≤ (x6_2 : Int) := od_; have hcut42 := cut_from (P := Try.prog) 27 3 .i64 Try.underlying27 hi042 1 hsz42 (some ad136) x3_1.length co16 x6_2 q042 q42; have hr42 := Kd.C_drop (m := (x6_2 : Int).toNat) (c := co16) hC42 (by omega) hroom42; obtain ⟨A42, hA42⟩ : ∃ A1, A1 = (if co16 = (x6_2 : Int).toNat then (some ad136) else ((some ad136) : Option Addr).map (·.add ((x6_2 : Int).toNat * 1))) := ⟨_, rfl⟩; obtain ⟨c42, hc42⟩ : ∃ c1, c1 = co16 - (x6_2 : Int).toNat := ⟨_, rfl⟩; have hy42 : y151.length = x3_1.length - (x6_2 : Int).toNat := (by rw [Ny151.out, List.length_drop] <;> omega); rw [show (x3_1).drop (x6_2 : Int).toNat = y151 from Ny151.out.symm] at hr42; replace hr42 : Kd.C (Kd.int .i64) _ A42 y151.length y151 := (by rw [hA42]; exact hr42); rw [← hy42, ← hA42, ← hc42] at hcut42; have HR154 := Aside0.mk hr42; have HC154 := Aside0.mk (show y151.length ≤ c42 from by rw [hy42, hc42]; exact Nat.sub_le_sub_right hroom42 _); clear hr42 hC42 hroom42 hi042 hsz42 hc42; have KY42 := Aside0.mk hy42; have KA42 := Aside0.mk hA42; clear hy42 hA42; have KL42 := Aside0.mk (show (x6_2 : Int).toNat ≤ x3_1.length from by omega); replace q42 := eq_true q42) | ((with_reducible refine gate_builtin (b := .append) (xs := #[.tmp 50, .tmp 53]) rfl ?_); at_builtin; refine Kd.R_append_rows (Kd.int .i64) (w0 := w) w.heap.size rfl (.tmp 50) (.tmp 53) 27 3 (.int .i64 0) 8 rfl Try.underlying27 info3 rfl (by decide) (by omega) v149 y148 y151 _ _ _ (fun k_ => some k_ ≠ (.slice (some ad136) x3_1.length co16 : Value).ownBlock) (fun _ => False) rfl rfl ?aO ?aR (fun _ _ h => h) (fun _ h => h.elim) ?aF ?aB ?aS ?aL ?_; (case aR => exact ca_ (by repeat (first | (with_reducible exact HR154.out) | (with_reducible refine Kd.C_alloc ?_ _) | (with_reducible refine Kd.C_drewN ?_ _) | (with_reducible refine Kd.C_drew ?_) | exact HR154.out))); (case aB => exact bl_); (case aF => exact (fun k_ hk => Kd.fresh' (Kd.R_lt (ra_ HO_3)) k_ hk)); (case aO => exact (ra_ HO150)); (case aS => exact (below_size bl_)); (case aL => have := LMc33.out; omega); intro v156 w43 ho hb hg hat; rw [← Ny155.out] at ho; have n0_ := Aside0.mk (Kd.R_after (ok := (fun _ => True)) (ra_ HO_3) hg hat); have n1_ := Aside0.mk (blk_grown (bk_ BK130) hg (Kd.R_ne HO150.out BK130.out (by decide))); have n2_ := Aside0.mk (blk_grown (bk_ BK135) hg (Kd.R_ne HO150.out BK135.out (by decide))); have n3_ := Aside0.mk (hb); have n4_ := Aside0.mk ((show Kd.C (Kd.int .i64) w43 (some ad136) y141.length y141 from by rw [Ny141.out]; exact Kd.C_take (m := (x6_2 : Int).toNat) ((Kd.R_reads' (Kd.R_after (ok := (fun _ => True)) (ra_ HO_3) hg hat)).2.2) KL39.out)); have n5_ := Aside0.mk ((show Kd.C (Kd.int .i64) w43 A42 y151.length y151 from by rw [Ny151.out, KA42.out]; exact Kd.C_drop (m := (x6_2 : Int).toNat) (c := co16) ((Kd.R_reads' (Kd.R_after (ok := (fun _ => True)) (ra_ HO_3) hg hat)).2.2) KL42.out ((Kd.R_reads' (Kd.R_after (ok := (fun _ => True)) (ra_ HO_3) hg hat)).2.1))); have n6_ := Aside0.mk (ho); clear HO_3; clear BK130; clear BK135; clear HB; clear HR144; clear HR154; clear HO150; have HO_3 := n0_; have BK130 := n1_; have BK135 := n2_; have HB := n3_; have HR144 := n4_; have HR154 := n5_; have HO157 := n6_; clear n0_ n1_ n2_ n3_ n4_ n5_ n6_; clear ho hb hg hat))
                    repeat (go_quiet (first | ((with_reducible refine gate_dst (N := 41) rfl ?_); refine Kd.R_lit (Kd.int .i64) _ 3 ?hg (N := 41) ?hd (xs := ([] : List Int)) (inner := []) (ok := fun _ => True) (okp := fun _ => True) ?hr ?hp (fun _ hk => hk) trivial (Below.refl _ _) (Nat.le_refl _) (by simp) ?_; (case hd => rfl); (case hg => rfl); (case hr => first | (go_simp; done) | (go_simp; rfl)); (case hp => exact (Reps.none _ _)); intro v139 w37 ho38 hb hg_ hnew_; clear hg_ hnew_; (first | rw [← Ny138.out] at ho38 | (simp only [Int.reduceToNat] at ho38; rw [← Ny138.out] at ho38)); have HO140 := Aside0.mk (Kd.R_lower (Kd.R_new' ho38 (Kd.R_lt (ra_ HO_3))) (below_size bl_)); replace HO_3 := Aside0.mk (Kd.R_elder' (ra_ HO_3) (Kd.R_base ho38) hb); replace BK130 := Aside0.mk (blk_below (bk_ BK130) hb); replace BK135 := Aside0.mk (blk_below (bk_ BK135) hb); replace HB := Aside0.mk (below_step bl_ hb); clear hb ho38; have q39 : (x6_2 : Int) ≤ ((x3_1.length : Int) : Int) := od_; obtain ⟨i039, hi039, _, hsz39, _⟩ := info_parts info3; have hroom39 : x3_1.length ≤ co16 := (Kd.R_reads' HO_3.out).2.1; have hC39 : Kd.C (Kd.int .i64) _ (some ad136) x3_1.length x3_1 := (Kd.R_reads' HO_3.out).2.2; have hcut39 := cut_to (P := Try.prog) 27 3 .i64 Try.underlying27 hi039 (some ad136) x3_1.length co16 x6_2 od_ q39 hroom39; have hr39 := Kd.C_take (m := (x6_2 : Int).toNat) hC39 (by omega); have hy39 : y141.length = (x6_2 : Int).toNat := (by rw [Ny141.out, List.length_take]; omega); rw [← Ny141.out] at hr39; rw [← hy39] at hcut39; have HR144 := Aside0.mk hr39; have HC144 := Aside0.mk (show y141.length ≤ co16 from by omega); clear hr39 hC39 hroom39 hi039 hsz39; have KY39 := Aside0.mk hy39; clear hy39; have KL39 := Aside0.mk (show (x6_2 : Int).toNat ≤ x3_1.length from by omega); replace q39 := eq_true q39) | ((with_reducible refine gate_builtin (b := .append) (xs := #[.tmp 41, .tmp 44]) rfl ?_); at_builtin; refine Kd.R_append_rows (Kd.int .i64) (w0 := w) w.heap.size rfl (.tmp 41) (.tmp 44) 27 3 (.int .i64 0) 8 rfl Try.underlying27 info3 rfl (by decide) (by omega) v139 y138 y141 _ _ _ (fun k_ => some k_ ≠ (.slice (some ad136) x3_1.length co16 : Value).ownBlock) (fun _ => False) rfl rfl ?aO ?aR (fun _ _ h => h) (fun _ h => h.elim) ?aF ?aB ?aS ?aL ?_; (case aR => exact ca_ (by repeat (first | (with_reducible exact HR144.out) | (with_reducible refine Kd.C_alloc ?_ _) | (with_reducible refine Kd.C_drewN ?_ _) | (with_reducible refine Kd.C_drew ?_) | exact HR144.out))); (case aB => exact bl_); (case aF => exact (fun k_ hk => Kd.fresh' (Kd.R_lt (ra_ HO_3)) k_ hk)); (case aO => exact (by (with_reducible repeat (first | apply Kd.R_alloc | apply Kd.R_drewN | apply Kd.R_drew)); exact Kd.R_mono HO140.out (fun _ hk => hk.2))); (case aS => exact (below_size bl_)); (case aL => have := LMc29.out; omega); intro v146 w40 ho hb hg hat; rw [← Ny145.out] at ho; have n0_ := Aside0.mk (Kd.R_after (ok := (fun _ => True)) (ra_ HO_3) hg hat); have n1_ := Aside0.mk (blk_grown (bk_ BK130) hg (Kd.R_ne HO140.out BK130.out (by decide))); have n2_ := Aside0.mk (blk_grown (bk_ BK135) hg (Kd.R_ne HO140.out BK135.out (by decide))); have n3_ := Aside0.mk (hb); have n4_ := Aside0.mk ((show Kd.C (Kd.int .i64) w40 (some ad136) y141.length y141 from by rw [Ny141.out]; exact Kd.C_take (m := (x6_2 : Int).toNat) ((Kd.R_reads' (Kd.R_after (ok := (fun _ => True)) (ra_ HO_3) hg hat)).2.2) KL39.out)); have n5_ := Aside0.mk (ho); clear HO_3; clear BK130; clear BK135; clear HB; clear HR144; clear HO140; have HO_3 := n0_; have BK130 := n1_; have BK135 := n2_; have HB := n3_; have HR144 := n4_; have HO147 := n5_; clear n0_ n1_ n2_ n3_ n4_ n5_; clear ho hb hg hat) | ((with_reducible refine gate_builtin (b := .append) (xs := #[.tmp 46, .tmp 48]) rfl ?_); at_builtin; refine Kd.R_append (Kd.int .i64) (w0 := w) w.heap.size rfl (.tmp 46) (.tmp 48) 27 3 (.int .i64 0) 8 rfl Try.underlying27 info3 rfl (by decide) (by omega) v146 y145 x12_1 [.int .i64 x12_1] (fun k_ => some k_ ≠ (.slice (some ad136) x3_1.length co16 : Value).ownBlock) (fun _ => False) rfl rfl ?aP (fun _ hk => hk.elim) ?aF ?aO ?aB ?aS ?aL ?_; (case aP => exact rfl); (case aB => exact bl_); (case aF => exact (fun k_ hk => Kd.fresh' (Kd.R_lt (ra_ HO_3)) k_ hk)); (case aO => exact (ra_ HO147)); (case aS => exact (below_size bl_)); (case aL => have := LMc30.out; omega); intro v149 w41 ho hb hg hat; rw [← Ny148.out] at ho; have n0_ := Aside0.mk (Kd.R_after (ok := (fun _ => True)) (ra_ HO_3) hg hat); have n1_ := Aside0.mk (blk_grown (bk_ BK130) hg (Kd.R_ne HO147.out BK130.out (by decide))); have n2_ := Aside0.mk (blk_grown (bk_ BK135) hg (Kd.R_ne HO147.out BK135.out (by decide))); have n3_ := Aside0.mk (hb); have n4_ := Aside0.mk ((show Kd.C (Kd.int .i64) w41 (some ad136) y141.length y141 from by rw [Ny141.out]; exact Kd.C_take (m := (x6_2 : Int).toNat) ((Kd.R_reads' (Kd.R_after (ok := (fun _ => True)) (ra_ HO_3) hg hat)).2.2) KL39.out)); have n5_ := Aside0.mk (ho); clear HO_3; clear BK130; clear BK135; clear HB; clear HR144; clear HO147; have HO_3 := n0_; have BK130 := n1_; have BK135 := n2_; have HB := n3_; have HR144 := n4_; have HO150 := n5_; clear n0_ n1_ n2_ n3_ n4_ n5_; clear ho hb hg hat; have q42 : (x6_2 : Int) ≤ ((x3_1.length : Int) : Int) := od_; obtain ⟨i042, hi042, _, hsz42, _⟩ := info_parts info3; have hroom42 : x3_1.length ≤ co16 := (Kd.R_reads' HO_3.out).2.1; have hC42 : Kd.C (Kd.int .i64) _ (some ad136) x3_1.length x3_1 := (Kd.R_reads' HO_3.out).2.2; have q042 : (0 : Int) ≤ (x6_2 : Int) := od_; have hcut42 := cut_from (P := Try.prog) 27 3 .i64 Try.underlying27 hi042 1 hsz42 (some ad136) x3_1.length co16 x6_2 q042 q42; have hr42 := Kd.C_drop (m := (x6_2 : Int).toNat) (c := co16) hC42 (by omega) hroom42; obtain ⟨A42, hA42⟩ : ∃ A1, A1 = (if co16 = (x6_2 : Int).toNat then (some ad136) else ((some ad136) : Option Addr).map (·.add ((x6_2 : Int).toNat * 1))) := ⟨_, rfl⟩; obtain ⟨c42, hc42⟩ : ∃ c1, c1 = co16 - (x6_2 : Int).toNat := ⟨_, rfl⟩; have hy42 : y151.length = x3_1.length - (x6_2 : Int).toNat := (by rw [Ny151.out, List.length_drop] <;> omega); rw [show (x3_1).drop (x6_2 : Int).toNat = y151 from Ny151.out.symm] at hr42; replace hr42 : Kd.C (Kd.int .i64) _ A42 y151.length y151 := (by rw [hA42]; exact hr42); rw [← hy42, ← hA42, ← hc42] at hcut42; have HR154 := Aside0.mk hr42; have HC154 := Aside0.mk (show y151.length ≤ c42 from by rw [hy42, hc42]; exact Nat.sub_le_sub_right hroom42 _); clear hr42 hC42 hroom42 hi042 hsz42 hc42; have KY42 := Aside0.mk hy42; have KA42 := Aside0.mk hA42; clear hy42 hA42; have KL42 := Aside0.mk (show (x6_2 : Int).toNat ≤ x3_1.length from by omega); replace q42 := eq_true q42) | ((with_reducible refine gate_builtin (b := .append) (xs := #[.tmp 50, .tmp 53]) rfl ?_); at_builtin; refine Kd.R_append_rows (Kd.int .i64) (w0 := w) w.heap.size rfl (.tmp 50) (.tmp 53) 27 3 (.int .i64 0) 8 rfl Try.underlying27 info3 rfl (by decide) (by omega) v149 y148 y151 _ _ _ (fun k_ => some k_ ≠ (.slice (some ad136) x3_1.length co16 : Value).ownBlock) (fun _ => False) rfl rfl ?aO ?aR (fun _ _ h => h) (fun _ h => h.elim) ?aF ?aB ?aS ?aL ?_; (case aR => exact ca_ (by repeat (first | (with_reducible exact HR154.out) | (with_reducible refine Kd.C_alloc ?_ _) | (with_reducible refine Kd.C_drewN ?_ _) | (with_reducible refine Kd.C_drew ?_) | exact HR154.out))); (case aB => exact bl_); (case aF => exact (fun k_ hk => Kd.fresh' (Kd.R_lt (ra_ HO_3)) k_ hk)); (case aO => exact (ra_ HO150)); (case aS => exact (below_size bl_)); (case aL => have := LMc33.out; omega); intro v156 w43 ho hb hg hat; rw [← Ny155.out] at ho; have n0_ := Aside0.mk (Kd.R_after (ok := (fun _ => True)) (ra_ HO_3) hg hat); have n1_ := Aside0.mk (blk_grown (bk_ BK130) hg (Kd.R_ne HO150.out BK130.out (by decide))); have n2_ := Aside0.mk (blk_grown (bk_ BK135) hg (Kd.R_ne HO150.out BK135.out (by decide))); have n3_ := Aside0.mk (hb); have n4_ := Aside0.mk ((show Kd.C (Kd.int .i64) w43 (some ad136) y141.length y141 from by rw [Ny141.out]; exact Kd.C_take (m := (x6_2 : Int).toNat) ((Kd.R_reads' (Kd.R_after (ok := (fun _ => True)) (ra_ HO_3) hg hat)).2.2) KL39.out)); have n5_ := Aside0.mk ((show Kd.C (Kd.int .i64) w43 A42 y151.length y151 from by rw [Ny151.out, KA42.out]; exact Kd.C_drop (m := (x6_2 : Int).toNat) (c := co16) ((Kd.R_reads' (Kd.R_after (ok := (fun _ => True)) (ra_ HO_3) hg hat)).2.2) KL42.out ((Kd.R_reads' (Kd.R_after (ok := (fun _ => True)) (ra_ HO_3) hg hat)).2.1))); have n6_ := Aside0.mk (ho); clear HO_3; clear BK130; clear BK135; clear HB; clear HR144; clear HR154; clear HO150; have HO_3 := n0_; have BK130 := n1_; have BK135 := n2_; have HB := n3_; have HR144 := n4_; have HR154 := n5_; have HO157 := n6_; clear n0_ n1_ n2_ n3_ n4_ n5_ n6_; clear ho hb hg hat)); try go_wp2_with (first | ((with_reducible refine gate_dst (N := 41) rfl ?_); refine Kd.R_lit (Kd.int .i64) _ 3 ?hg (N := 41) ?hd (xs := ([] : List Int)) (inner := []) (ok := fun _ => True) (okp := fun _ => True) ?hr ?hp (fun _ hk => hk) trivial (Below.refl _ _) (Nat.le_refl _) (by simp) ?_; (case hd => rfl); (case hg => rfl); (case hr => first | (go_simp; done) | (go_simp; rfl)); (case hp => exact (Reps.none _ _)); intro v139 w37 ho38 hb hg_ hnew_; clear hg_ hnew_; (first | rw [← Ny138.out] at ho38 | (simp only [Int.reduceToNat] at ho38; rw [← Ny138.out] at ho38)); have HO140 := Aside0.mk (Kd.R_lower (Kd.R_new' ho38 (Kd.R_lt (ra_ HO_3))) (below_size bl_)); replace HO_3 := Aside0.mk (Kd.R_elder' (ra_ HO_3) (Kd.R_base ho38) hb); replace BK130 := Aside0.mk (blk_below (bk_ BK130) hb); replace BK135 := Aside0.mk (blk_below (bk_ BK135) hb); replace HB := Aside0.mk (below_step bl_ hb); clear hb ho38; have q39 : (x6_2 : Int) ≤ ((x3_1.length : Int) : Int) := od_; obtain ⟨i039, hi039, _, hsz39, _⟩ := info_parts info3; have hroom39 : x3_1.length ≤ co16 := (Kd.R_reads' HO_3.out).2.1; have hC39 : Kd.C (Kd.int .i64) _ (some ad136) x3_1.length x3_1 := (Kd.R_reads' HO_3.out).2.2; have hcut39 := cut_to (P := Try.prog) 27 3 .i64 Try.underlying27 hi039 (some ad136) x3_1.length co16 x6_2 od_ q39 hroom39; have hr39 := Kd.C_take (m := (x6_2 : Int).toNat) hC39 (by omega); have hy39 : y141.length = (x6_2 : Int).toNat := (by rw [Ny141.out, List.length_take]; omega); rw [← Ny141.out] at hr39; rw [← hy39] at hcut39; have HR144 := Aside0.mk hr39; have HC144 := Aside0.mk (show y141.length ≤ co16 from by omega); clear hr39 hC39 hroom39 hi039 hsz39; have KY39 := Aside0.mk hy39; clear hy39; have KL39 := Aside0.mk (show (x6_2 : Int).toNat ≤ x3_1.length from by omega); replace q39 := eq_true q39) | ((with_reducible refine gate_builtin (b := .append) (xs := #[.tmp 41, .tmp 44]) rfl ?_); at_builtin; refine Kd.R_append_rows (Kd.int .i64) (w0 := w) w.heap.size rfl (.tmp 41) (.tmp 44) 27 3 (.int .i64 0) 8 rfl Try.underlying27 info3 rfl (by decide) (by omega) v139 y138 y141 _ _ _ (fun k_ => some k_ ≠ (.slice (some ad136) x3_1.length co16 : Value).ownBlock) (fun _ => False) rfl rfl ?aO ?aR (fun _ _ h => h) (fun _ h => h.elim) ?aF ?aB ?aS ?aL ?_; (case aR => exact ca_ (by repeat (first | (with_reducible exact HR144.out) | (with_reducible refine Kd.C_alloc ?_ _) | (with_reducible refine Kd.C_drewN ?_ _) | (with_reducible refine Kd.C_drew ?_) | exact HR144.out))); (case aB => exact bl_); (case aF => exact (fun k_ hk => Kd.fresh' (Kd.R_lt (ra_ HO_3)) k_ hk)); (case aO => exact (by (with_reducible repeat (first | apply Kd.R_alloc | apply Kd.R_drewN | apply Kd.R_drew)); exact Kd.R_mono HO140.out (fun _ hk => hk.2))); (case aS => exact (below_size bl_)); (case aL => have := LMc29.out; omega); intro v146 w40 ho hb hg hat; rw [← Ny145.out] at ho; have n0_ := Aside0.mk (Kd.R_after (ok := (fun _ => True)) (ra_ HO_3) hg hat); have n1_ := Aside0.mk (blk_grown (bk_ BK130) hg (Kd.R_ne HO140.out BK130.out (by decide))); have n2_ := Aside0.mk (blk_grown (bk_ BK135) hg (Kd.R_ne HO140.out BK135.out (by decide))); have n3_ := Aside0.mk (hb); have n4_ := Aside0.mk ((show Kd.C (Kd.int .i64) w40 (some ad136) y141.length y141 from by rw [Ny141.out]; exact Kd.C_take (m := (x6_2 : Int).toNat) ((Kd.R_reads' (Kd.R_after (ok := (fun _ => True)) (ra_ HO_3) hg hat)).2.2) KL39.out)); have n5_ := Aside0.mk (ho); clear HO_3; clear BK130; clear BK135; clear HB; clear HR144; clear HO140; have HO_3 := n0_; have BK130 := n1_; have BK135 := n2_; have HB := n3_; have HR144 := n4_; have HO147 := n5_; clear n0_ n1_ n2_ n3_ n4_ n5_; clear ho hb hg hat) | ((with_reducible refine gate_builtin (b := .append) (xs := #[.tmp 46, .tmp 48]) rfl ?_); at_builtin; refine Kd.R_append (Kd.int .i64) (w0 := w) w.heap.size rfl (.tmp 46) (.tmp 48) 27 3 (.int .i64 0) 8 rfl Try.underlying27 info3 rfl (by decide) (by omega) v146 y145 x12_1 [.int .i64 x12_1] (fun k_ => some k_ ≠ (.slice (some ad136) x3_1.length co16 : Value).ownBlock) (fun _ => False) rfl rfl ?aP (fun _ hk => hk.elim) ?aF ?aO ?aB ?aS ?aL ?_; (case aP => exact rfl); (case aB => exact bl_); (case aF => exact (fun k_ hk => Kd.fresh' (Kd.R_lt (ra_ HO_3)) k_ hk)); (case aO => exact (ra_ HO147)); (case aS => exact (below_size bl_)); (case aL => have := LMc30.out; omega); intro v149 w41 ho hb hg hat; rw [← Ny148.out] at ho; have n0_ := Aside0.mk (Kd.R_after (ok := (fun _ => True)) (ra_ HO_3) hg hat); have n1_ := Aside0.mk (blk_grown (bk_ BK130) hg (Kd.R_ne HO147.out BK130.out (by decide))); have n2_ := Aside0.mk (blk_grown (bk_ BK135) hg (Kd.R_ne HO147.out BK135.out (by decide))); have n3_ := Aside0.mk (hb); have n4_ := Aside0.mk ((show Kd.C (Kd.int .i64) w41 (some ad136) y141.length y141 from by rw [Ny141.out]; exact Kd.C_take (m := (x6_2 : Int).toNat) ((Kd.R_reads' (Kd.R_after (ok := (fun _ => True)) (ra_ HO_3) hg hat)).2.2) KL39.out)); have n5_ := Aside0.mk (ho); clear HO_3; clear BK130; clear BK135; clear HB; clear HR144; clear HO147; have HO_3 := n0_; have BK130 := n1_; have BK135 := n2_; have HB := n3_; have HR144 := n4_; have HO150 := n5_; clear n0_ n1_ n2_ n3_ n4_ n5_; clear ho hb hg hat; have q42 : (x6_2 : Int) ≤ ((x3_1.length : Int) : Int) := od_; obtain ⟨i042, hi042, _, hsz42, _⟩ := info_parts info3; have hroom42 : x3_1.length ≤ co16 := (Kd.R_reads' HO_3.out).2.1; have hC42 : Kd.C (Kd.int .i64) _ (some ad136) x3_1.length x3_1 := (Kd.R_reads' HO_3.out).2.2; have q042 : (0 : Int) ≤ (x6_2 : Int) := od_; have hcut42 := cut_from (P := Try.prog) 27 3 .i64 Try.underlying27 hi042 1 hsz42 (some ad136) x3_1.length co16 x6_2 q042 q42; have hr42 := Kd.C_drop (m := (x6_2 : Int).toNat) (c := co16) hC42 (by omega) hroom42; obtain ⟨A42, hA42⟩ : ∃ A1, A1 = (if co16 = (x6_2 : Int).toNat then (some ad136) else ((some ad136) : Option Addr).map (·.add ((x6_2 : Int).toNat * 1))) := ⟨_, rfl⟩; obtain ⟨c42, hc42⟩ : ∃ c1, c1 = co16 - (x6_2 : Int).toNat := ⟨_, rfl⟩; have hy42 : y151.length = x3_1.length - (x6_2 : Int).toNat := (by rw [Ny151.out, List.length_drop] <;> omega); rw [show (x3_1).drop (x6_2 : Int).toNat = y151 from Ny151.out.symm] at hr42; replace hr42 : Kd.C (Kd.int .i64) _ A42 y151.length y151 := (by rw [hA42]; exact hr42); rw [← hy42, ← hA42, ← hc42] at hcut42; have HR154 := Aside0.mk hr42; have HC154 := Aside0.mk (show y151.length ≤ c42 from by rw [hy42, hc42]; exact Nat.sub_le_sub_right hroom42 _); clear hr42 hC42 hroom42 hi042 hsz42 hc42; have KY42 := Aside0.mk hy42; have KA42 := Aside0.mk hA42; clear hy42 hA42; have KL42 := Aside0.mk (show (x6_2 : Int).toNat ≤ x3_1.length from by omega); replace q42 := eq_true q42) | ((with_reducible refine gate_builtin (b := .append) (xs := #[.tmp 50, .tmp 53]) rfl ?_); at_builtin; refine Kd.R_append_rows (Kd.int .i64) (w0 := w) w.heap.size rfl (.tmp 50) (.tmp 53) 27 3 (.int .i64 0) 8 rfl Try.underlying27 info3 rfl (by decide) (by omega) v149 y148 y151 _ _ _ (fun k_ => some k_ ≠ (.slice (some ad136) x3_1.length co16 : Value).ownBlock) (fun _ => False) rfl rfl ?aO ?aR (fun _ _ h => h) (fun _ h => h.elim) ?aF ?aB ?aS ?aL ?_; (case aR => exact ca_ (by repeat (first | (with_reducible exact HR154.out) | (with_reducible refine Kd.C_alloc ?_ _) | (with_reducible refine Kd.C_drewN ?_ _) | (with_reducible refine Kd.C_drew ?_) | exact HR154.out))); (case aB => exact bl_); (case aF => exact (fun k_ hk => Kd.fresh' (Kd.R_lt (ra_ HO_3)) k_ hk)); (case aO => exact (ra_ HO150)); (case aS => exact (below_size bl_)); (case aL => have := LMc33.out; omega); intro v156 w43 ho hb hg hat; rw [← Ny155.out] at ho; have n0_ := Aside0.mk (Kd.R_after (ok := (fun _ => True)) (ra_ HO_3) hg hat); have n1_ := Aside0.mk (blk_grown (bk_ BK130) hg (Kd.R_ne HO150.out BK130.out (by decide))); have n2_ := Aside0.mk (blk_grown (bk_ BK135) hg (Kd.R_ne HO150.out BK135.out (by decide))); have n3_ := Aside0.mk (hb); have n4_ := Aside0.mk ((show Kd.C (Kd.int .i64) w43 (some ad136) y141.length y141 from by rw [Ny141.out]; exact Kd.C_take (m := (x6_2 : Int).toNat) ((Kd.R_reads' (Kd.R_after (ok := (fun _ => True)) (ra_ HO_3) hg hat)).2.2) KL39.out)); have n5_ := Aside0.mk ((show Kd.C (Kd.int .i64) w43 A42 y151.length y151 from by rw [Ny151.out, KA42.out]; exact Kd.C_drop (m := (x6_2 : Int).toNat) (c := co16) ((Kd.R_reads' (Kd.R_after (ok := (fun _ => True)) (ra_ HO_3) hg hat)).2.2) KL42.out ((Kd.R_reads' (Kd.R_after (ok := (fun _ => True)) (ra_ HO_3) hg hat)).2.1))); have n6_ := Aside0.mk (ho); clear HO_3; clear BK130; clear BK135; clear HB; clear HR144; clear HR154; clear HO150; have HO_3 := n0_; have BK130 := n1_; have BK135 := n2_; have HB := n3_; have HR144 := n4_; have HR154 := n5_; have HO157 := n6_; clear n0_ n1_ n2_ n3_ n4_ n5_ n6_; clear ho hb hg hat)))
                    go_roundg k2
                    case measure => have := HK1.out; have := HK2.out; omega
                    case rel => exact ⟨(y155), (wrap64 (x12_1 + 1)), sp_, H', ⟨by have := HK1.out; have := HK2.out; omega⟩, ⟨by (with_reducible repeat (first | apply Kd.R_alloc | apply Kd.R_drewN | apply Kd.R_drew)); exact Kd.R_mono HO157.out (fun _ hk => trivial)⟩, ⟨by (with_reducible repeat (first | refine blk_drewN ?_ _ | refine blk_drew ?_ | refine blk_alloc ?_ _)); exact BK130.out⟩, ⟨bl_⟩⟩
                   ·rw [if_neg c33] at H
                    exact absurd H (by simp)
                  ·rw [if_neg c30] at H
                   exact absurd H (by simp)
                 ·rw [if_neg c29] at H
                  exact absurd H (by simp)
                ·rw [if_neg c28] at H
                 exact absurd H (by simp)
               ·rw [if_neg c27] at H
                exact absurd H (by simp)
             ·rw [if_neg c22] at H
              exact absurd H (by simp)
            ·rw [if_neg c21] at H
             exact absurd H (by simp)
           ·rw [if_neg c20] at H
            exact absurd H (by simp)
          ·rw [if_neg c19] at H
           exact absurd H (by simp)
         ·rw [if_neg c17] at H
          have c17b0 : decide (0 < x6_2) = false := decide_eq_false c17
          clear c17
          obtain ⟨y158, hy158⟩ : ∃ y_ : List Int, y_ = (([] : List Int)) := ⟨_, rfl⟩
          replace H : (if 0 ≤ x6_2 then (if x6_2 ≤ (x3_1.length : Int) then ((some (x3_1.take (x6_2 : Int).toNat : List Int)).bind fun y161 => (if y158.length + y161.length < 17592186044416 then ((some (y158 ++ y161 : List Int)).bind fun y165 => (if y165.length < 17592186044416 then ((some (y165 ++ [x12_1] : List Int)).bind fun y168 => ((some (x3_1.drop (x6_2 : Int).toNat : List Int)).bind fun y171 => (if y168.length + y171.length < 17592186044416 then (spec_OrderOf.l0 k2 (y168 ++ y171) l0_3 (l0_3.length : Int) (wrap64 (x12_1 + 1)) l0_0 a0_1 a0_2 l0_3) else (none)))) else (none))) else (none))) else (none)) else (none)) = some r := by first | (rw [hy158]; with_reducible exact H) | (have H2_ := (Option.bind_some _ _).symm.trans H; rw [hy158]; with_reducible exact H2_) | (have H2_ := (Option.bind_some _ _).symm.trans H; with_reducible exact H2_) | with_reducible exact H | (rw [hy158]; exact H) | exact H
          have Ny158 := Aside0.mk hy158
          clear hy158
          by_cases c44 : 0 ≤ x6_2
          ·rw [if_pos c44] at H
           have c44b0 := eq_true c44
           have c44b1 : decide (0 ≤ x6_2) = true := decide_eq_true c44
           clear c44
           by_cases c45 : x6_2 ≤ (x3_1.length : Int)
           ·rw [if_pos c45] at H
            have c45b0 := eq_true c45
            have c45b1 : decide (x6_2 ≤ (x3_1.length : Int)) = true := decide_eq_true c45
            clear c45
            obtain ⟨y161, hy161⟩ : ∃ y_ : List Int, y_ = (x3_1.take (x6_2 : Int).toNat) := ⟨_, rfl⟩
            replace H : (if y158.length + y161.length < 17592186044416 then ((some (y158 ++ y161 : List Int)).bind fun y165 => (if y165.length < 17592186044416 then ((some (y165 ++ [x12_1] : List Int)).bind fun y168 => ((some (x3_1.drop (x6_2 : Int).toNat : List Int)).bind fun y171 => (if y168.length + y171.length < 17592186044416 then (spec_OrderOf.l0 k2 (y168 ++ y171) l0_3 (l0_3.length : Int) (wrap64 (x12_1 + 1)) l0_0 a0_1 a0_2 l0_3) else (none)))) else (none))) else (none)) = some r := by first | (rw [hy161]; with_reducible exact H) | (have H2_ := (Option.bind_some _ _).symm.trans H; rw [hy161]; with_reducible exact H2_) | (have H2_ := (Option.bind_some _ _).symm.trans H; with_reducible exact H2_) | with_reducible exact H | (rw [hy161]; exact H) | exact H
            have Ny161 := Aside0.mk hy161
            clear hy161
            by_cases c46 : y158.length + y161.length < 17592186044416
            ·rw [if_pos c46] at H
             have LMc46 := Aside0.mk c46
             clear c46
             obtain ⟨y165, hy165⟩ : ∃ y_ : List Int, y_ = (y158 ++ y161) := ⟨_, rfl⟩
             replace H : (if y165.length < 17592186044416 then ((some (y165 ++ [x12_1] : List Int)).bind fun y168 => ((some (x3_1.drop (x6_2 : Int).toNat : List Int)).bind fun y171 => (if y168.length + y171.length < 17592186044416 then (spec_OrderOf.l0 k2 (y168 ++ y171) l0_3 (l0_3.length : Int) (wrap64 (x12_1 + 1)) l0_0 a0_1 a0_2 l0_3) else (none)))) else (none)) = some r := by first | (rw [hy165]; with_reducible exact H) | (have H2_ := (Option.bind_some _ _).symm.trans H; rw [hy165]; with_reducible exact H2_) | (have H2_ := (Option.bind_some _ _).symm.trans H; with_reducible exact H2_) | with_reducible exact H | (rw [hy165]; exact H) | exact H
             have Ny165 := Aside0.mk hy165
             clear hy165
             by_cases c47 : y165.length < 17592186044416
             ·rw [if_pos c47] at H
              have LMc47 := Aside0.mk c47
              clear c47
              obtain ⟨y168, hy168⟩ : ∃ y_ : List Int, y_ = (y165 ++ [x12_1]) := ⟨_, rfl⟩
              replace H : ((some (x3_1.drop (x6_2 : Int).toNat : List Int)).bind fun y171 => (if y168.length + y171.length < 17592186044416 then (spec_OrderOf.l0 k2 (y168 ++ y171) l0_3 (l0_3.length : Int) (wrap64 (x12_1 + 1)) l0_0 a0_1 a0_2 l0_3) else (none))) = some r := by first | (rw [hy168]; with_reducible exact H) | (have H2_ := (Option.bind_some _ _).symm.trans H; rw [hy168]; with_reducible exact H2_) | (have H2_ := (Option.bind_some _ _).symm.trans H; with_reducible exact H2_) | with_reducible exact H | (rw [hy168]; exact H) | exact H
              have Ny168 := Aside0.mk hy168
              clear hy168
              have c48b0 := eq_true (od_ : 0 ≤ x6_2)
              have c49b0 := eq_true (od_ : x6_2 ≤ (x3_1.length : Int))
              obtain ⟨y171, hy171⟩ : ∃ y_ : List Int, y_ = (x3_1.drop (x6_2 : Int).toNat) := ⟨_, rfl⟩
              replace H : (if y168.length + y171.length < 17592186044416 then (spec_OrderOf.l0 k2 (y168 ++ y171) l0_3 (l0_3.length : Int) (wrap64 (x12_1 + 1)) l0_0 a0_1 a0_2 l0_3) else (none)) = some r := by first | (rw [hy171]; with_reducible exact H) | (have H2_ := (Option.bind_some _ _).symm.trans H; rw [hy171]; with_reducible exact H2_) | (have H2_ := (Option.bind_some _ _).symm.trans H; with_reducible exact H2_) | with_reducible exact H | (rw [hy171]; exact H) | exact H
              have Ny171 := Aside0.mk hy171
              clear hy171
              by_cases c50 : y168.length + y171.length < 17592186044416
              ·rw [if_pos c50] at H
               have LMc50 := Aside0.mk c50
               clear c50
               obtain ⟨y175, hy175⟩ : ∃ y_ : List Int, y_ = (y168 ++ y171) := ⟨_, rfl⟩
               replace H : (spec_OrderOf.l0 k2 y175 l0_3 (l0_3.length : Int) (wrap64 (x12_1 + 1)) l0_0 a0_1 a0_2 l0_3) = some r := by first | (rw [hy175]; with_reducible exact H) | (have H2_ := (Option.bind_some _ _).symm.trans H; rw [hy175]; with_reducible exact H2_) | (have H2_ := (Option.bind_some _ _).symm.trans H; with_reducible exact H2_) | with_reducible exact H | (rw [hy175]; exact H) | exact H
               have Ny175 := Aside0.mk hy175
               clear hy175
               have H' := Aside0.mk H
               clear H
               go_wp2_with (first | ((with_reducible refine gate_dst (N := 41) rfl ?_); refine Kd.R_lit (Kd.int .i64) _ 3 ?hg (N := 41) ?hd (xs := ([] : List Int)) (inner := []) (ok := fun _ => True) (okp := fun _ => True) ?hr ?hp (fun _ hk => hk) trivial (Below.refl _ _) (Nat.le_refl _) (by simp) ?_; (case hd => rfl); (case hg => rfl); (case hr => first | (go_simp; done) | (go_simp; rfl)); (case hp => exact (Reps.none _ _)); intro v159 w51 ho52 hb hg_ hnew_; clear hg_ hnew_; (first | rw [← Ny158.out] at ho52 | (simp only [Int.reduceToNat] at ho52; rw [← Ny158.out] at ho52)); have HO160 := Aside0.mk (Kd.R_lower (Kd.R_new' ho52 (Kd.R_lt (ra_ HO_3))) (below_size bl_)); replace HO_3 := Aside0.mk (Kd.R_elder' (ra_ HO_3) (Kd.R_base ho52) hb); replace BK130 := Aside0.mk (blk_below (bk_ BK130) hb); replace BK135 := Aside0.mk (blk_below (bk_ BK135) hb); replace HB := Aside0.mk (below_step bl_ hb); clear hb ho52; have q53 : (x6_2 : Int) ≤ ((x3_1.length : Int) : Int) := od_; obtain ⟨i053, hi053, _, hsz53, _⟩ := info_parts info3; have hroom53 : x3_1.length ≤ co16 := (Kd.R_reads' HO_3.out).2.1; have hC53 : Kd.C (Kd.int .i64) _ Ao16 x3_1.length x3_1 := (Kd.R_reads' HO_3.out).2.2; have hcut53 := cut_to (P := Try.prog) 27 3 .i64 Try.underlying27 hi053 Ao16 x3_1.length co16 x6_2 od_ q53 hroom53; have hr53 := Kd.C_take (m := (x6_2 : Int).toNat) hC53 (by omega); have hy53 : y161.length = (x6_2 : Int).toNat := (by rw [Ny161.out, List.length_take]; omega); rw [← Ny161.out] at hr53; rw [← hy53] at hcut53; have HR164 := Aside0.mk hr53; have HC164 := Aside0.mk (show y161.length ≤ co16 from by omega); clear hr53 hC53 hroom53 hi053 hsz53; have KY53 := Aside0.mk hy53; clear hy53; have KL53 := Aside0.mk (show (x6_2 : Int).toNat ≤ x3_1.length from by omega); replace q53 := eq_true q53) | ((with_reducible refine gate_builtin (b := .append) (xs := #[.tmp 41, .tmp 44]) rfl ?_); at_builtin; refine Kd.R_append_rows (Kd.int .i64) (w0 := w) w.heap.size rfl (.tmp 41) (.tmp 44) 27 3 (.int .i64 0) 8 rfl Try.underlying27 info3 rfl (by decide) (by omega) v159 y158 y161 _ _ _ (fun k_ => some k_ ≠ (.slice Ao16 x3_1.length co16 : Value).ownBlock) (fun _ => False) rfl rfl ?aO ?aR (fun _ _ h => h) (fun _ h => h.elim) ?aF ?aB ?aS ?aL ?_; (case aR => exact ca_ (by repeat (first | (with_reducible exact HR164.out) | (with_reducible refine Kd.C_alloc ?_ _) | (with_reducible refine Kd.C_drewN ?_ _) | (with_reducible refine Kd.C_drew ?_) | exact HR164.out))); (case aB => exact bl_); (case aF => exact (fun k_ hk => Kd.fresh' (Kd.R_lt (ra_ HO_3)) k_ hk)); (case aO => exact (by (with_reducible repeat (first | apply Kd.R_alloc | apply Kd.R_drewN | apply Kd.R_drew)); exact Kd.R_mono HO160.out (fun _ hk => hk.2))); (case aS => exact (below_size bl_)); (case aL => have := LMc46.out; omega); intro v166 w54 ho hb hg hat; rw [← Ny165.out] at ho; have n0_ := Aside0.mk (Kd.R_after (ok := (fun _ => True)) (ra_ HO_3) hg hat); have n1_ := Aside0.mk (blk_grown (bk_ BK130) hg (Kd.R_ne HO160.out BK130.out (by decide))); have n2_ := Aside0.mk (blk_grown (bk_ BK135) hg (Kd.R_ne HO160.out BK135.out (by decide))); have n3_ := Aside0.mk (hb); have n4_ := Aside0.mk ((show Kd.C (Kd.int .i64) w54 Ao16 y161.length y161 from by rw [Ny161.out]; exact Kd.C_take (m := (x6_2 : Int).toNat) ((Kd.R_reads' (Kd.R_after (ok := (fun _ => True)) (ra_ HO_3) hg hat)).2.2) KL53.out)); have n5_ := Aside0.mk (ho); clear HO_3; clear BK130; clear BK135; clear HB; clear HR164; clear HO160; have HO_3 := n0_; have BK130 := n1_; have BK135 := n2_; have HB := n3_; have HR164 := n4_; have HO167 := n5_; clear n0_ n1_ n2_ n3_ n4_ n5_; clear ho hb hg hat) | ((with_reducible refine gate_builtin (b := .append) (xs := #[.tmp 46, .tmp 48]) rfl ?_); at_builtin; refine Kd.R_append (Kd.int .i64) (w0 := w) w.heap.size rfl (.tmp 46) (.tmp 48) 27 3 (.int .i64 0) 8 rfl Try.underlying27 info3 rfl (by decide) (by omega) v166 y165 x12_1 [.int .i64 x12_1] (fun k_ => some k_ ≠ (.slice Ao16 x3_1.length co16 : Value).ownBlock) (fun _ => False) rfl rfl ?aP (fun _ hk => hk.elim) ?aF ?aO ?aB ?aS ?aL ?_; (case aP => exact rfl); (case aB => exact bl_); (case aF => exact (fun k_ hk => Kd.fresh' (Kd.R_lt (ra_ HO_3)) k_ hk)); (case aO => exact (ra_ HO167)); (case aS => exact (below_size bl_)); (case aL => have := LMc47.out; omega); intro v169 w55 ho hb hg hat; rw [← Ny168.out] at ho; have n0_ := Aside0.mk (Kd.R_after (ok := (fun _ => True)) (ra_ HO_3) hg hat); have n1_ := Aside0.mk (blk_grown (bk_ BK130) hg (Kd.R_ne HO167.out BK130.out (by decide))); have n2_ := Aside0.mk (blk_grown (bk_ BK135) hg (Kd.R_ne HO167.out BK135.out (by decide))); have n3_ := Aside0.mk (hb); have n4_ := Aside0.mk ((show Kd.C (Kd.int .i64) w55 Ao16 y161.length y161 from by rw [Ny161.out]; exact Kd.C_take (m := (x6_2 : Int).toNat) ((Kd.R_reads' (Kd.R_after (ok := (fun _ => True)) (ra_ HO_3) hg hat)).2.2) KL53.out)); have n5_ := Aside0.mk (ho); clear HO_3; clear BK130; clear BK135; clear HB; clear HR164; clear HO167; have HO_3 := n0_; have BK130 := n1_; have BK135 := n2_; have HB := n3_; have HR164 := n4_; have HO170 := n5_; clear n0_ n1_ n2_ n3_ n4_ n5_; clear ho hb hg hat; have q56 : (x6_2 : Int) ≤ ((x3_1.length : Int) : Int) := od_; obtain ⟨i056, hi056, _, hsz56, _⟩ := info_parts info3; have hroom56 : x3_1.length ≤ co16 := (Kd.R_reads' HO_3.out).2.1; have hC56 : Kd.C (Kd.int .i64) _ Ao16 x3_1.length x3_1 := (Kd.R_reads' HO_3.out).2.2; have q056 : (0 : Int) ≤ (x6_2 : Int) := od_; have hcut56 := cut_from (P := Try.prog) 27 3 .i64 Try.underlying27 hi056 1 hsz56 Ao16 x3_1.length co16 x6_2 q056 q56; have hr56 := Kd.C_drop (m := (x6_2 : Int).toNat) (c := co16) hC56 (by omega) hroom56; obtain ⟨A56, hA56⟩ : ∃ A1, A1 = (if co16 = (x6_2 : Int).toNat then Ao16 else (Ao16 : Option Addr).map (·.add ((x6_2 : Int).toNat * 1))) := ⟨_, rfl⟩; obtain ⟨c56, hc56⟩ : ∃ c1, c1 = co16 - (x6_2 : Int).toNat := ⟨_, rfl⟩; have hy56 : y171.length = x3_1.length - (x6_2 : Int).toNat := (by rw [Ny171.out, List.length_drop] <;> omega); rw [show (x3_1).drop (x6_2 : Int).toNat = y171 from Ny171.out.symm] at hr56; replace hr56 : Kd.C (Kd.int .i64) _ A56 y171.length y171 := (by rw [hA56]; exact hr56); rw [← hy56, ← hA56, ← hc56] at hcut56; have HR174 := Aside0.mk hr56; have HC174 := Aside0.mk (show y171.length ≤ c56 from by rw [hy56, hc56]; exact Nat.sub_le_sub_right hroom56 _); clear hr56 hC56 hroom56 hi056 hsz56 hc56; have KY56 := Aside0.mk hy56; have KA56 := Aside0.mk hA56; clear hy56 hA56; have KL56 := Aside0.mk (show (x6_2 : Int).toNat ≤ x3_1.length from by omega); replace q56 := eq_true q56) | ((with_reducible refine gate_builtin (b := .append) (xs := #[.tmp 50, .tmp 53]) rfl ?_); at_builtin; refine Kd.R_append_rows (Kd.int .i64) (w0 := w) w.heap.size rfl (.tmp 50) (.tmp 53) 27 3 (.int .i64 0) 8 rfl Try.underlying27 info3 rfl (by decide) (by omega) v169 y168 y171 _ _ _ (fun k_ => some k_ ≠ (.slice Ao16 x3_1.length co16 : Value).ownBlock) (fun _ => False) rfl rfl ?aO ?aR (fun _ _ h => h) (fun _ h => h.elim) ?aF ?aB ?aS ?aL ?_; (case aR => exact ca_ (by repeat (first | (with_reducible exact HR174.out) | (with_reducible refine Kd.C_alloc ?_ _) | (with_reducible refine Kd.C_drewN ?_ _) | (with_reducible refine Kd.C_drew ?_) | exact HR174.out))); (case aB => exact bl_); (case aF => exact (fun k_ hk => Kd.fresh' (Kd.R_lt (ra_ HO_3)) k_ hk)); (case aO => exact (ra_ HO170)); (case aS => exact (below_size bl_)); (case aL => have := LMc50.out; omega); intro v176 w57 ho hb hg hat; rw [← Ny175.out] at ho; have n0_ := Aside0.mk (Kd.R_after (ok := (fun _ => True)) (ra_ HO_3) hg hat); have n1_ := Aside0.mk (blk_grown (bk_ BK130) hg (Kd.R_ne HO170.out BK130.out (by decide))); have n2_ := Aside0.mk (blk_grown (bk_ BK135) hg (Kd.R_ne HO170.out BK135.out (by decide))); have n3_ := Aside0.mk (hb); have n4_ := Aside0.mk ((show Kd.C (Kd.int .i64) w57 Ao16 y161.length y161 from by rw [Ny161.out]; exact Kd.C_take (m := (x6_2 : Int).toNat) ((Kd.R_reads' (Kd.R_after (ok := (fun _ => True)) (ra_ HO_3) hg hat)).2.2) KL53.out)); have n5_ := Aside0.mk ((show Kd.C (Kd.int .i64) w57 A56 y171.length y171 from by rw [Ny171.out, KA56.out]; exact Kd.C_drop (m := (x6_2 : Int).toNat) (c := co16) ((Kd.R_reads' (Kd.R_after (ok := (fun _ => True)) (ra_ HO_3) hg hat)).2.2) KL56.out ((Kd.R_reads' (Kd.R_after (ok := (fun _ => True)) (ra_ HO_3) hg hat)).2.1))); have n6_ := Aside0.mk (ho); clear HO_3; clear BK130; clear BK135; clear HB; clear HR164; clear HR174; clear HO170; have HO_3 := n0_; have BK130 := n1_; have BK135 := n2_; have HB := n3_; have HR164 := n4_; have HR174 := n5_; have HO177 := n6_; clear n0_ n1_ n2_ n3_ n4_ n5_ n6_; clear ho hb hg hat))
               repeat (go_quiet (first | ((with_reducible refine gate_dst (N := 41) rfl ?_); refine Kd.R_lit (Kd.int .i64) _ 3 ?hg (N := 41) ?hd (xs := ([] : List Int)) (inner := []) (ok := fun _ => True) (okp := fun _ => True) ?hr ?hp (fun _ hk => hk) trivial (Below.refl _ _) (Nat.le_refl _) (by simp) ?_; (case hd => rfl); (case hg => rfl); (case hr => first | (go_simp; done) | (go_simp; rfl)); (case hp => exact (Reps.none _ _)); intro v159 w51 ho52 hb hg_ hnew_; clear hg_ hnew_; (first | rw [← Ny158.out] at ho52 | (simp only [Int.reduceToNat] at ho52; rw [← Ny158.out] at ho52)); have HO160 := Aside0.mk (Kd.R_lower (Kd.R_new' ho52 (Kd.R_lt (ra_ HO_3))) (below_size bl_)); replace HO_3 := Aside0.mk (Kd.R_elder' (ra_ HO_3) (Kd.R_base ho52) hb); replace BK130 := Aside0.mk (blk_below (bk_ BK130) hb); replace BK135 := Aside0.mk (blk_below (bk_ BK135) hb); replace HB := Aside0.mk (below_step bl_ hb); clear hb ho52; have q53 : (x6_2 : Int) ≤ ((x3_1.length : Int) : Int) := od_; obtain ⟨i053, hi053, _, hsz53, _⟩ := info_parts info3; have hroom53 : x3_1.length ≤ co16 := (Kd.R_reads' HO_3.out).2.1; have hC53 : Kd.C (Kd.int .i64) _ Ao16 x3_1.length x3_1 := (Kd.R_reads' HO_3.out).2.2; have hcut53 := cut_to (P := Try.prog) 27 3 .i64 Try.underlying27 hi053 Ao16 x3_1.length co16 x6_2 od_ q53 hroom53; have hr53 := Kd.C_take (m := (x6_2 : Int).toNat) hC53 (by omega); have hy53 : y161.length = (x6_2 : Int).toNat := (by rw [Ny161.out, List.length_take]; omega); rw [← Ny161.out] at hr53; rw [← hy53] at hcut53; have HR164 := Aside0.mk hr53; have HC164 := Aside0.mk (show y161.length ≤ co16 from by omega); clear hr53 hC53 hroom53 hi053 hsz53; have KY53 := Aside0.mk hy53; clear hy53; have KL53 := Aside0.mk (show (x6_2 : Int).toNat ≤ x3_1.length from by omega); replace q53 := eq_true q53) | ((with_reducible refine gate_builtin (b := .append) (xs := #[.tmp 41, .tmp 44]) rfl ?_); at_builtin; refine Kd.R_append_rows (Kd.int .i64) (w0 := w) w.heap.size rfl (.tmp 41) (.tmp 44) 27 3 (.int .i64 0) 8 rfl Try.underlying27 info3 rfl (by decide) (by omega) v159 y158 y161 _ _ _ (fun k_ => some k_ ≠ (.slice Ao16 x3_1.length co16 : Value).ownBlock) (fun _ => False) rfl rfl ?aO ?aR (fun _ _ h => h) (fun _ h => h.elim) ?aF ?aB ?aS ?aL ?_; (case aR => exact ca_ (by repeat (first | (with_reducible exact HR164.out) | (with_reducible refine Kd.C_alloc ?_ _) | (with_reducible refine Kd.C_drewN ?_ _) | (with_reducible refine Kd.C_drew ?_) | exact HR164.out))); (case aB => exact bl_); (case aF => exact (fun k_ hk => Kd.fresh' (Kd.R_lt (ra_ HO_3)) k_ hk)); (case aO => exact (by (with_reducible repeat (first | apply Kd.R_alloc | apply Kd.R_drewN | apply Kd.R_drew)); exact Kd.R_mono HO160.out (fun _ hk => hk.2))); (case aS => exact (below_size bl_)); (case aL => have := LMc46.out; omega); intro v166 w54 ho hb hg hat; rw [← Ny165.out] at ho; have n0_ := Aside0.mk (Kd.R_after (ok := (fun _ => True)) (ra_ HO_3) hg hat); have n1_ := Aside0.mk (blk_grown (bk_ BK130) hg (Kd.R_ne HO160.out BK130.out (by decide))); have n2_ := Aside0.mk (blk_grown (bk_ BK135) hg (Kd.R_ne HO160.out BK135.out (by decide))); have n3_ := Aside0.mk (hb); have n4_ := Aside0.mk ((show Kd.C (Kd.int .i64) w54 Ao16 y161.length y161 from by rw [Ny161.out]; exact Kd.C_take (m := (x6_2 : Int).toNat) ((Kd.R_reads' (Kd.R_after (ok := (fun _ => True)) (ra_ HO_3) hg hat)).2.2) KL53.out)); have n5_ := Aside0.mk (ho); clear HO_3; clear BK130; clear BK135; clear HB; clear HR164; clear HO160; have HO_3 := n0_; have BK130 := n1_; have BK135 := n2_; have HB := n3_; have HR164 := n4_; have HO167 := n5_; clear n0_ n1_ n2_ n3_ n4_ n5_; clear ho hb hg hat) | ((with_reducible refine gate_builtin (b := .append) (xs := #[.tmp 46, .tmp 48]) rfl ?_); at_builtin; refine Kd.R_append (Kd.int .i64) (w0 := w) w.heap.size rfl (.tmp 46) (.tmp 48) 27 3 (.int .i64 0) 8 rfl Try.underlying27 info3 rfl (by decide) (by omega) v166 y165 x12_1 [.int .i64 x12_1] (fun k_ => some k_ ≠ (.slice Ao16 x3_1.length co16 : Value).ownBlock) (fun _ => False) rfl rfl ?aP (fun _ hk => hk.elim) ?aF ?aO ?aB ?aS ?aL ?_; (case aP => exact rfl); (case aB => exact bl_); (case aF => exact (fun k_ hk => Kd.fresh' (Kd.R_lt (ra_ HO_3)) k_ hk)); (case aO => exact (ra_ HO167)); (case aS => exact (below_size bl_)); (case aL => have := LMc47.out; omega); intro v169 w55 ho hb hg hat; rw [← Ny168.out] at ho; have n0_ := Aside0.mk (Kd.R_after (ok := (fun _ => True)) (ra_ HO_3) hg hat); have n1_ := Aside0.mk (blk_grown (bk_ BK130) hg (Kd.R_ne HO167.out BK130.out (by decide))); have n2_ := Aside0.mk (blk_grown (bk_ BK135) hg (Kd.R_ne HO167.out BK135.out (by decide))); have n3_ := Aside0.mk (hb); have n4_ := Aside0.mk ((show Kd.C (Kd.int .i64) w55 Ao16 y161.length y161 from by rw [Ny161.out]; exact Kd.C_take (m := (x6_2 : Int).toNat) ((Kd.R_reads' (Kd.R_after (ok := (fun _ => True)) (ra_ HO_3) hg hat)).2.2) KL53.out)); have n5_ := Aside0.mk (ho); clear HO_3; clear BK130; clear BK135; clear HB; clear HR164; clear HO167; have HO_3 := n0_; have BK130 := n1_; have BK135 := n2_; have HB := n3_; have HR164 := n4_; have HO170 := n5_; clear n0_ n1_ n2_ n3_ n4_ n5_; clear ho hb hg hat; have q56 : (x6_2 : Int) ≤ ((x3_1.length : Int) : Int) := od_; obtain ⟨i056, hi056, _, hsz56, _⟩ := info_parts info3; have hroom56 : x3_1.length ≤ co16 := (Kd.R_reads' HO_3.out).2.1; have hC56 : Kd.C (Kd.int .i64) _ Ao16 x3_1.length x3_1 := (Kd.R_reads' HO_3.out).2.2; have q056 : (0 : Int) ≤ (x6_2 : Int) := od_; have hcut56 := cut_from (P := Try.prog) 27 3 .i64 Try.underlying27 hi056 1 hsz56 Ao16 x3_1.length co16 x6_2 q056 q56; have hr56 := Kd.C_drop (m := (x6_2 : Int).toNat) (c := co16) hC56 (by omega) hroom56; obtain ⟨A56, hA56⟩ : ∃ A1, A1 = (if co16 = (x6_2 : Int).toNat then Ao16 else (Ao16 : Option Addr).map (·.add ((x6_2 : Int).toNat * 1))) := ⟨_, rfl⟩; obtain ⟨c56, hc56⟩ : ∃ c1, c1 = co16 - (x6_2 : Int).toNat := ⟨_, rfl⟩; have hy56 : y171.length = x3_1.length - (x6_2 : Int).toNat := (by rw [Ny171.out, List.length_drop] <;> omega); rw [show (x3_1).drop (x6_2 : Int).toNat = y171 from Ny171.out.symm] at hr56; replace hr56 : Kd.C (Kd.int .i64) _ A56 y171.length y171 := (by rw [hA56]; exact hr56); rw [← hy56, ← hA56, ← hc56] at hcut56; have HR174 := Aside0.mk hr56; have HC174 := Aside0.mk (show y171.length ≤ c56 from by rw [hy56, hc56]; exact Nat.sub_le_sub_right hroom56 _); clear hr56 hC56 hroom56 hi056 hsz56 hc56; have KY56 := Aside0.mk hy56; have KA56 := Aside0.mk hA56; clear hy56 hA56; have KL56 := Aside0.mk (show (x6_2 : Int).toNat ≤ x3_1.length from by omega); replace q56 := eq_true q56) | ((with_reducible refine gate_builtin (b := .append) (xs := #[.tmp 50, .tmp 53]) rfl ?_); at_builtin; refine Kd.R_append_rows (Kd.int .i64) (w0 := w) w.heap.size rfl (.tmp 50) (.tmp 53) 27 3 (.int .i64 0) 8 rfl Try.underlying27 info3 rfl (by decide) (by omega) v169 y168 y171 _ _ _ (fun k_ => some k_ ≠ (.slice Ao16 x3_1.length co16 : Value).ownBlock) (fun _ => False) rfl rfl ?aO ?aR (fun _ _ h => h) (fun _ h => h.elim) ?aF ?aB ?aS ?aL ?_; (case aR => exact ca_ (by repeat (first | (with_reducible exact HR174.out) | (with_reducible refine Kd.C_alloc ?_ _) | (with_reducible refine Kd.C_drewN ?_ _) | (with_reducible refine Kd.C_drew ?_) | exact HR174.out))); (case aB => exact bl_); (case aF => exact (fun k_ hk => Kd.fresh' (Kd.R_lt (ra_ HO_3)) k_ hk)); (case aO => exact (ra_ HO170)); (case aS => exact (below_size bl_)); (case aL => have := LMc50.out; omega); intro v176 w57 ho hb hg hat; rw [← Ny175.out] at ho; have n0_ := Aside0.mk (Kd.R_after (ok := (fun _ => True)) (ra_ HO_3) hg hat); have n1_ := Aside0.mk (blk_grown (bk_ BK130) hg (Kd.R_ne HO170.out BK130.out (by decide))); have n2_ := Aside0.mk (blk_grown (bk_ BK135) hg (Kd.R_ne HO170.out BK135.out (by decide))); have n3_ := Aside0.mk (hb); have n4_ := Aside0.mk ((show Kd.C (Kd.int .i64) w57 Ao16 y161.length y161 from by rw [Ny161.out]; exact Kd.C_take (m := (x6_2 : Int).toNat) ((Kd.R_reads' (Kd.R_after (ok := (fun _ => True)) (ra_ HO_3) hg hat)).2.2) KL53.out)); have n5_ := Aside0.mk ((show Kd.C (Kd.int .i64) w57 A56 y171.length y171 from by rw [Ny171.out, KA56.out]; exact Kd.C_drop (m := (x6_2 : Int).toNat) (c := co16) ((Kd.R_reads' (Kd.R_after (ok := (fun _ => True)) (ra_ HO_3) hg hat)).2.2) KL56.out ((Kd.R_reads' (Kd.R_after (ok := (fun _ => True)) (ra_ HO_3) hg hat)).2.1))); have n6_ := Aside0.mk (ho); clear HO_3; clear BK130; clear BK135; clear HB; clear HR164; clear HR174; clear HO170; have HO_3 := n0_; have BK130 := n1_; have BK135 := n2_; have HB := n3_; have HR164 := n4_; have HR174 := n5_; have HO177 := n6_; clear n0_ n1_ n2_ n3_ n4_ n5_ n6_; clear ho hb hg hat)); try go_wp2_with (first | ((with_reducible refine gate_dst (N := 41) rfl ?_); refine Kd.R_lit (Kd.int .i64) _ 3 ?hg (N := 41) ?hd (xs := ([] : List Int)) (inner := []) (ok := fun _ => True) (okp := fun _ => True) ?hr ?hp (fun _ hk => hk) trivial (Below.refl _ _) (Nat.le_refl _) (by simp) ?_; (case hd => rfl); (case hg => rfl); (case hr => first | (go_simp; done) | (go_simp; rfl)); (case hp => exact (Reps.none _ _)); intro v159 w51 ho52 hb hg_ hnew_; clear hg_ hnew_; (first | rw [← Ny158.out] at ho52 | (simp only [Int.reduceToNat] at ho52; rw [← Ny158.out] at ho52)); have HO160 := Aside0.mk (Kd.R_lower (Kd.R_new' ho52 (Kd.R_lt (ra_ HO_3))) (below_size bl_)); replace HO_3 := Aside0.mk (Kd.R_elder' (ra_ HO_3) (Kd.R_base ho52) hb); replace BK130 := Aside0.mk (blk_below (bk_ BK130) hb); replace BK135 := Aside0.mk (blk_below (bk_ BK135) hb); replace HB := Aside0.mk (below_step bl_ hb); clear hb ho52; have q53 : (x6_2 : Int) ≤ ((x3_1.length : Int) : Int) := od_; obtain ⟨i053, hi053, _, hsz53, _⟩ := info_parts info3; have hroom53 : x3_1.length ≤ co16 := (Kd.R_reads' HO_3.out).2.1; have hC53 : Kd.C (Kd.int .i64) _ Ao16 x3_1.length x3_1 := (Kd.R_reads' HO_3.out).2.2; have hcut53 := cut_to (P := Try.prog) 27 3 .i64 Try.underlying27 hi053 Ao16 x3_1.length co16 x6_2 od_ q53 hroom53; have hr53 := Kd.C_take (m := (x6_2 : Int).toNat) hC53 (by omega); have hy53 : y161.length = (x6_2 : Int).toNat := (by rw [Ny161.out, List.length_take]; omega); rw [← Ny161.out] at hr53; rw [← hy53] at hcut53; have HR164 := Aside0.mk hr53; have HC164 := Aside0.mk (show y161.length ≤ co16 from by omega); clear hr53 hC53 hroom53 hi053 hsz53; have KY53 := Aside0.mk hy53; clear hy53; have KL53 := Aside0.mk (show (x6_2 : Int).toNat ≤ x3_1.length from by omega); replace q53 := eq_true q53) | ((with_reducible refine gate_builtin (b := .append) (xs := #[.tmp 41, .tmp 44]) rfl ?_); at_builtin; refine Kd.R_append_rows (Kd.int .i64) (w0 := w) w.heap.size rfl (.tmp 41) (.tmp 44) 27 3 (.int .i64 0) 8 rfl Try.underlying27 info3 rfl (by decide) (by omega) v159 y158 y161 _ _ _ (fun k_ => some k_ ≠ (.slice Ao16 x3_1.length co16 : Value).ownBlock) (fun _ => False) rfl rfl ?aO ?aR (fun _ _ h => h) (fun _ h => h.elim) ?aF ?aB ?aS ?aL ?_; (case aR => exact ca_ (by repeat (first | (with_reducible exact HR164.out) | (with_reducible refine Kd.C_alloc ?_ _) | (with_reducible refine Kd.C_drewN ?_ _) | (with_reducible refine Kd.C_drew ?_) | exact HR164.out))); (case aB => exact bl_); (case aF => exact (fun k_ hk => Kd.fresh' (Kd.R_lt (ra_ HO_3)) k_ hk)); (case aO => exact (by (with_reducible repeat (first | apply Kd.R_alloc | apply Kd.R_drewN | apply Kd.R_drew)); exact Kd.R_mono HO160.out (fun _ hk => hk.2))); (case aS => exact (below_size bl_)); (case aL => have := LMc46.out; omega); intro v166 w54 ho hb hg hat; rw [← Ny165.out] at ho; have n0_ := Aside0.mk (Kd.R_after (ok := (fun _ => True)) (ra_ HO_3) hg hat); have n1_ := Aside0.mk (blk_grown (bk_ BK130) hg (Kd.R_ne HO160.out BK130.out (by decide))); have n2_ := Aside0.mk (blk_grown (bk_ BK135) hg (Kd.R_ne HO160.out BK135.out (by decide))); have n3_ := Aside0.mk (hb); have n4_ := Aside0.mk ((show Kd.C (Kd.int .i64) w54 Ao16 y161.length y161 from by rw [Ny161.out]; exact Kd.C_take (m := (x6_2 : Int).toNat) ((Kd.R_reads' (Kd.R_after (ok := (fun _ => True)) (ra_ HO_3) hg hat)).2.2) KL53.out)); have n5_ := Aside0.mk (ho); clear HO_3; clear BK130; clear BK135; clear HB; clear HR164; clear HO160; have HO_3 := n0_; have BK130 := n1_; have BK135 := n2_; have HB := n3_; have HR164 := n4_; have HO167 := n5_; clear n0_ n1_ n2_ n3_ n4_ n5_; clear ho hb hg hat) | ((with_reducible refine gate_builtin (b := .append) (xs := #[.tmp 46, .tmp 48]) rfl ?_); at_builtin; refine Kd.R_append (Kd.int .i64) (w0 := w) w.heap.size rfl (.tmp 46) (.tmp 48) 27 3 (.int .i64 0) 8 rfl Try.underlying27 info3 rfl (by decide) (by omega) v166 y165 x12_1 [.int .i64 x12_1] (fun k_ => some k_ ≠ (.slice Ao16 x3_1.length co16 : Value).ownBlock) (fun _ => False) rfl rfl ?aP (fun _ hk => hk.elim) ?aF ?aO ?aB ?aS ?aL ?_; (case aP => exact rfl); (case aB => exact bl_); (case aF => exact (fun k_ hk => Kd.fresh' (Kd.R_lt (ra_ HO_3)) k_ hk)); (case aO => exact (ra_ HO167)); (case aS => exact (below_size bl_)); (case aL => have := LMc47.out; omega); intro v169 w55 ho hb hg hat; rw [← Ny168.out] at ho; have n0_ := Aside0.mk (Kd.R_after (ok := (fun _ => True)) (ra_ HO_3) hg hat); have n1_ := Aside0.mk (blk_grown (bk_ BK130) hg (Kd.R_ne HO167.out BK130.out (by decide))); have n2_ := Aside0.mk (blk_grown (bk_ BK135) hg (Kd.R_ne HO167.out BK135.out (by decide))); have n3_ := Aside0.mk (hb); have n4_ := Aside0.mk ((show Kd.C (Kd.int .i64) w55 Ao16 y161.length y161 from by rw [Ny161.out]; exact Kd.C_take (m := (x6_2 : Int).toNat) ((Kd.R_reads' (Kd.R_after (ok := (fun _ => True)) (ra_ HO_3) hg hat)).2.2) KL53.out)); have n5_ := Aside0.mk (ho); clear HO_3; clear BK130; clear BK135; clear HB; clear HR164; clear HO167; have HO_3 := n0_; have BK130 := n1_; have BK135 := n2_; have HB := n3_; have HR164 := n4_; have HO170 := n5_; clear n0_ n1_ n2_ n3_ n4_ n5_; clear ho hb hg hat; have q56 : (x6_2 : Int) ≤ ((x3_1.length : Int) : Int) := od_; obtain ⟨i056, hi056, _, hsz56, _⟩ := info_parts info3; have hroom56 : x3_1.length ≤ co16 := (Kd.R_reads' HO_3.out).2.1; have hC56 : Kd.C (Kd.int .i64) _ Ao16 x3_1.length x3_1 := (Kd.R_reads' HO_3.out).2.2; have q056 : (0 : Int) ≤ (x6_2 : Int) := od_; have hcut56 := cut_from (P := Try.prog) 27 3 .i64 Try.underlying27 hi056 1 hsz56 Ao16 x3_1.length co16 x6_2 q056 q56; have hr56 := Kd.C_drop (m := (x6_2 : Int).toNat) (c := co16) hC56 (by omega) hroom56; obtain ⟨A56, hA56⟩ : ∃ A1, A1 = (if co16 = (x6_2 : Int).toNat then Ao16 else (Ao16 : Option Addr).map (·.add ((x6_2 : Int).toNat * 1))) := ⟨_, rfl⟩; obtain ⟨c56, hc56⟩ : ∃ c1, c1 = co16 - (x6_2 : Int).toNat := ⟨_, rfl⟩; have hy56 : y171.length = x3_1.length - (x6_2 : Int).toNat := (by rw [Ny171.out, List.length_drop] <;> omega); rw [show (x3_1).drop (x6_2 : Int).toNat = y171 from Ny171.out.symm] at hr56; replace hr56 : Kd.C (Kd.int .i64) _ A56 y171.length y171 := (by rw [hA56]; exact hr56); rw [← hy56, ← hA56, ← hc56] at hcut56; have HR174 := Aside0.mk hr56; have HC174 := Aside0.mk (show y171.length ≤ c56 from by rw [hy56, hc56]; exact Nat.sub_le_sub_right hroom56 _); clear hr56 hC56 hroom56 hi056 hsz56 hc56; have KY56 := Aside0.mk hy56; have KA56 := Aside0.mk hA56; clear hy56 hA56; have KL56 := Aside0.mk (show (x6_2 : Int).toNat ≤ x3_1.length from by omega); replace q56 := eq_true q56) | ((with_reducible refine gate_builtin (b := .append) (xs := #[.tmp 50, .tmp 53]) rfl ?_); at_builtin; refine Kd.R_append_rows (Kd.int .i64) (w0 := w) w.heap.size rfl (.tmp 50) (.tmp 53) 27 3 (.int .i64 0) 8 rfl Try.underlying27 info3 rfl (by decide) (by omega) v169 y168 y171 _ _ _ (fun k_ => some k_ ≠ (.slice Ao16 x3_1.length co16 : Value).ownBlock) (fun _ => False) rfl rfl ?aO ?aR (fun _ _ h => h) (fun _ h => h.elim) ?aF ?aB ?aS ?aL ?_; (case aR => exact ca_ (by repeat (first | (with_reducible exact HR174.out) | (with_reducible refine Kd.C_alloc ?_ _) | (with_reducible refine Kd.C_drewN ?_ _) | (with_reducible refine Kd.C_drew ?_) | exact HR174.out))); (case aB => exact bl_); (case aF => exact (fun k_ hk => Kd.fresh' (Kd.R_lt (ra_ HO_3)) k_ hk)); (case aO => exact (ra_ HO170)); (case aS => exact (below_size bl_)); (case aL => have := LMc50.out; omega); intro v176 w57 ho hb hg hat; rw [← Ny175.out] at ho; have n0_ := Aside0.mk (Kd.R_after (ok := (fun _ => True)) (ra_ HO_3) hg hat); have n1_ := Aside0.mk (blk_grown (bk_ BK130) hg (Kd.R_ne HO170.out BK130.out (by decide))); have n2_ := Aside0.mk (blk_grown (bk_ BK135) hg (Kd.R_ne HO170.out BK135.out (by decide))); have n3_ := Aside0.mk (hb); have n4_ := Aside0.mk ((show Kd.C (Kd.int .i64) w57 Ao16 y161.length y161 from by rw [Ny161.out]; exact Kd.C_take (m := (x6_2 : Int).toNat) ((Kd.R_reads' (Kd.R_after (ok := (fun _ => True)) (ra_ HO_3) hg hat)).2.2) KL53.out)); have n5_ := Aside0.mk ((show Kd.C (Kd.int .i64) w57 A56 y171.length y171 from by rw [Ny171.out, KA56.out]; exact Kd.C_drop (m := (x6_2 : Int).toNat) (c := co16) ((Kd.R_reads' (Kd.R_after (ok := (fun _ => True)) (ra_ HO_3) hg hat)).2.2) KL56.out ((Kd.R_reads' (Kd.R_after (ok := (fun _ => True)) (ra_ HO_3) hg hat)).2.1))); have n6_ := Aside0.mk (ho); clear HO_3; clear BK130; clear BK135; clear HB; clear HR164; clear HR174; clear HO170; have HO_3 := n0_; have BK130 := n1_; have BK135 := n2_; have HB := n3_; have HR164 := n4_; have HR174 := n5_; have HO177 := n6_; clear n0_ n1_ n2_ n3_ n4_ n5_ n6_; clear ho hb hg hat)))
               go_roundg k2
               case measure => have := HK1.out; have := HK2.out; omega
               case rel => exact ⟨(y175), (wrap64 (x12_1 + 1)), sp_, H', ⟨by have := HK1.out; have := HK2.out; omega⟩, ⟨by (with_reducible repeat (first | apply Kd.R_alloc | apply Kd.R_drewN | apply Kd.R_drew)); exact Kd.R_mono HO177.out (fun _ hk => trivial)⟩, ⟨by (with_reducible repeat (first | refine blk_drewN ?_ _ | refine blk_drew ?_ | refine blk_alloc ?_ _)); exact BK130.out⟩, ⟨bl_⟩⟩
              ·rw [if_neg c50] at H
               exact absurd H (by simp)
             ·rw [if_neg c47] at H
              exact absurd H (by simp)
            ·rw [if_neg c46] at H
             exact absurd H (by simp)
           ·rw [if_neg c45] at H
            exact absurd H (by simp)
          ·rw [if_neg c44] at H
           exact absurd H (by simp)
     ·rw [if_neg c8] at H
      exact absurd H (by simp)
    ·rw [if_neg c7] at H
     exact absurd H (by simp)
   ·rw [if_neg c6] at H
    have c6b0 : decide (x12_1 < (l0_3.length : Int)) = false := decide_eq_false c6
    clear c6
    obtain rfl := Option.some.inj H
    go_wp2
    repeat (go_quiet (fail); try go_wp2)
    go_ret
    exact ⟨_, by first | rfl | (simp [errW_none, errW_some] <;> rfl) | (simp [*, errW_none, errW_some] <;> rfl), ra_ HO_3, bl_⟩
/-! ### laws_toHold: function 61 -/
def laws_toHold.f (a0_0 : ByteArray) (a0_1 : Int) (a0_2 : Int) : Option (ByteArray × Int × Int) := some (a0_0, a0_1, a0_2)
set_option maxHeartbeats 8000000 in
set_option maxRecDepth 100000 in
theorem laws_toHold.calls (a0_0 : ByteArray) (a0_1 : Int) (a0_2 : Int) (r1 : ByteArray) (r2 : Int) (r3 : Int) (w : World) (h : laws_toHold.f a0_0 a0_1 a0_2 = some (r1, r2, r3)) :
  Calls Try.prog 61 #[.agg #[.string a0_0, .int .i64 a0_1, .int .i64 a0_2]] w fun e w' => e = .returned (.agg #[.string r1, .int .i64 r2, .int .i64 r3]) ∧ Below w.heap.size w w' := by
 have hu108 := Try.underlying108
 have hu95 := Try.underlying95
 have HB := Aside0.mk (Below.refl w.heap.size w)
 have H : (some (a0_0, a0_1, a0_2)) = some (r1, r2, r3) := h
 clear h
 simp only [Option.some.injEq, Prod.mk.injEq] at H
 obtain ⟨rfl, rfl, rfl⟩ := H
 go_enter Try.func61, Try.ntmps61
 go_wp2_with (first | ((with_reducible refine gate_dst (N := 1) rfl ?_); refine be_ (N := 1) (cs := #[.string a0_0, .int .i64 a0_1, .int .i64 a0_2]) (t := 108) ?_; intro gb178 hg w2 hbox hb; have BK178 := Aside0.mk (hbox); have GW178 := gw_ (w := w) hg; have GE178 := gw_ (w := w) hg; replace HB := Aside0.mk (below_step bl_ hb); clear hb hbox hg) | ((with_reducible refine gate_dst (N := 2) rfl ?_); refine be_ (N := 2) (cs := #[.string (⟨#[]⟩ : ByteArray), .int .i64 0, .int .i64 0]) (t := 95) ?_; intro gb179 hg w3 hbox hb; have BK179 := Aside0.mk (hbox); have GW179 := gw_ (w := w) hg; have GE179 := gw_ (w := w) hg; replace HB := Aside0.mk (below_step bl_ hb); have NB178_179 := Aside0.mk ((by rw [hg]; exact Nat.ne_of_lt (blk_lt (bk_ BK178)) : gb178 ≠ gb179)); have NB179_178 := Aside0.mk ((by rw [hg]; exact Nat.ne_of_gt (blk_lt (bk_ BK178)) : gb179 ≠ gb178)); replace BK178 := Aside0.mk (blk_below (bk_ BK178) hb); clear hb hbox hg) | ((with_reducible refine gate_dst (N := 3) rfl ?_); refine be_ (N := 3) (cs := #[.string (⟨#[]⟩ : ByteArray), .int .i64 0, .int .i64 0]) (t := 95) ?_; intro gb180 hg w4 hbox hb; have BK180 := Aside0.mk (hbox); have GW180 := gw_ (w := w) hg; have GE180 := gw_ (w := w) hg; replace HB := Aside0.mk (below_step bl_ hb); have NB178_180 := Aside0.mk ((by rw [hg]; exact Nat.ne_of_lt (blk_lt (bk_ BK178)) : gb178 ≠ gb180)); have NB180_178 := Aside0.mk ((by rw [hg]; exact Nat.ne_of_gt (blk_lt (bk_ BK178)) : gb180 ≠ gb178)); replace BK178 := Aside0.mk (blk_below (bk_ BK178) hb); have NB179_180 := Aside0.mk ((by rw [hg]; exact Nat.ne_of_lt (blk_lt (bk_ BK179)) : gb179 ≠ gb180)); have NB180_179 := Aside0.mk ((by rw [hg]; exact Nat.ne_of_gt (blk_lt (bk_ BK179)) : gb180 ≠ gb179)); replace BK179 := Aside0.mk (blk_below (bk_ BK179) hb); clear hb hbox hg; have hnb5 := NB178_179.out; have hnc5 := NB179_178.out; have hnb6 := NB178_180.out; have hnc6 := NB180_178.out; obtain ⟨hcz7_0, hcz7_1, hcz7_2, hfz7_0, hfz7_1, hfz7_2⟩ := bx3_ BK178; have hnb8 := NB180_179.out; have hnc8 := NB179_180.out; obtain ⟨hcz9_0, hcz9_1, hcz9_2, hfz9_0, hfz9_1, hfz9_2⟩ := bx3_ BK180; obtain ⟨hcz10_0, hcz10_1, hcz10_2, hfz10_0, hfz10_1, hfz10_2⟩ := bx3_ BK179))
 refine bodyPost_ret (results_cell_row rfl _ _ gb179 95 #[.string a0_0, .int .i64 a0_1, .int .i64 a0_2] (0, 0) _ rfl (by (with_reducible repeat (first | refine blk_drewN ?_ _ | refine blk_drew ?_ | refine blk_alloc ?_ _)); apply bq3_2_1_0_; (with_reducible repeat (first | refine blk_drewN ?_ _ | refine blk_drew ?_ | refine blk_alloc ?_ _)); refine blk_far ?_ NB179_180.out _; (with_reducible repeat (first | refine blk_drewN ?_ _ | refine blk_drew ?_ | refine blk_alloc ?_ _)); refine blk_far ?_ NB179_180.out _; (with_reducible repeat (first | refine blk_drewN ?_ _ | refine blk_drew ?_ | refine blk_alloc ?_ _)); refine blk_far ?_ NB179_180.out _; (with_reducible repeat (first | refine blk_drewN ?_ _ | refine blk_drew ?_ | refine blk_alloc ?_ _)); exact BK179.out) Try.underlying95 rfl (by kernel_rfl)) rfl ?_
 exact ⟨sq_, bl_⟩
/-! ### laws_toHoldS: function 52 -/
def laws_toHoldS.l0 : Nat → List (S108) → List (S95) → Int → Option ((List (S95)))
 | 0, _, _, _ => none
 | k + 1, x0, x3, x4 => if x4 < (x0.length : Int) then (if 0 ≤ x4 then ((laws_toHold.f ((rd_T108 x0 x4).f0) ((rd_T108 x0 x4).f1) ((rd_T108 x0 x4).f2)).bind fun bt185 => (if x4 < (x3.length : Int) then (laws_toHoldS.l0 k x0 (x3.set (x4 : Int).toNat (⟨bt185.1, bt185.2.1, bt185.2.2⟩ : S95)) (wrap64 (x4 + 1))) else (none))) else (none)) else (some x3)
def laws_toHoldS.f (k : Nat) (l0 : List (S108)) : Option ((List (S95))) := if 0 ≤ (l0.length : Int) then (if ((l0.length : Int) : Int).toNat ≤ 8796093022208 then (laws_toHoldS.l0 k l0 (List.replicate ((l0.length : Int) : Int).toNat z95) 0) else (none)) else (none)
set_option maxHeartbeats 8000000 in
set_option maxRecDepth 100000 in
theorem laws_toHoldS.calls (k : Nat) (A0 : Option Addr) (c0 : Nat) (l0 : List (S108)) (r : List (S95)) (w : World) (hr0 : Kd.C k108 w A0 l0.length l0) (hc0 : l0.length ≤ c0) (h : laws_toHoldS.f k l0 = some r) :
  Calls Try.prog 52 #[.slice A0 l0.length c0] w fun e w' => ∃ v0_ : Value, e = .returned (v0_) ∧ Kd.R k95 95 w' w.heap.size (fun _ => True) v0_ r ∧ Below w.heap.size w w' := by
 have hu108 := Try.underlying108
 have hu95 := Try.underlying95
 have HR0 := Aside0.mk hr0
 have HC0 := Aside0.mk hc0
 clear hr0 hc0
 have HB := Aside0.mk (Below.refl w.heap.size w)
 have H : (if 0 ≤ (l0.length : Int) then (if ((l0.length : Int) : Int).toNat ≤ 8796093022208 then (laws_toHoldS.l0 k l0 (List.replicate ((l0.length : Int) : Int).toNat z95) 0) else (none)) else (none)) = some r := h
 clear h
 by_cases c2 : 0 ≤ (l0.length : Int)
 ·rw [if_pos c2] at H
  have c2b0 := eq_true c2
  have c2b1 : decide (0 ≤ (l0.length : Int)) = true := decide_eq_true c2
  clear c2
  by_cases c3 : ((l0.length : Int) : Int).toNat ≤ 8796093022208
  ·rw [if_pos c3] at H
   have c3b0 := eq_true c3
   have c3b1 : decide (((l0.length : Int) : Int).toNat ≤ 8796093022208) = true := decide_eq_true c3
   clear c3
   obtain ⟨y181, hy181⟩ : ∃ y_ : List (S95), y_ = (List.replicate ((l0.length : Int) : Int).toNat z95) := ⟨_, rfl⟩
   replace H : (laws_toHoldS.l0 k l0 y181 0) = some r := by first | (rw [hy181]; with_reducible exact H) | (have H2_ := (Option.bind_some _ _).symm.trans H; rw [hy181]; with_reducible exact H2_) | (have H2_ := (Option.bind_some _ _).symm.trans H; with_reducible exact H2_) | with_reducible exact H | (rw [hy181]; exact H) | exact H
   have Ny181 := Aside0.mk hy181
   clear hy181
   have H' := Aside0.mk H
   clear H
   go_enter Try.func52, Try.ntmps52
   go_wp2_with (first | ((with_reducible refine gate_dst (N := 7) rfl ?_); refine Kd.R_make k95 _ 95 rfl (N := 7) rfl 77 _ _ rfl (l0.length : Int) rfl rfl Try.underlying77 (.agg #[(.string ⟨#[]⟩), (.int .i64 0), (.int .i64 0)]) 32 info95 rfl (by decide) (by omega) z95 (ok := fun _ => True) (okp := fun _ => True) (k95_mkM _ _ _ z95 ) (fun _ hk => hk) trivial od_ (Nat.le_trans (Nat.mul_le_mul_right _ (od_ : (l0.length : Int).toNat ≤ 8796093022208)) (by omega)) (Below.refl _ _) (Nat.le_refl _) ?_; intro v182 w4 ho5 hb hg_ hnew_; clear hg_ hnew_; (first | rw [← Ny181.out] at ho5 | (simp only [Int.reduceToNat] at ho5; rw [← Ny181.out] at ho5)); have HO183 := Aside0.mk (Kd.R_lower ho5 (below_size bl_)); replace HB := Aside0.mk (below_step bl_ hb); clear hb ho5))
   go_loopg [4] k (fun kq v4 w' => ∃ (x3_1 : List (S95)) (x4_1 : Int), v4 = .int .i64 x4_1 ∧ Aside0 (laws_toHoldS.l0 kq l0 x3_1 x4_1 = some r) ∧ Aside0 (kq ≤ k) ∧ Aside0 (Kd.R k95 95 w' w.heap.size (fun _ => True) v182 x3_1) ∧ Aside0 (Below w.heap.size w w'))
   case atStart => exact ⟨(y181), (0), sp_, H', ⟨Nat.le_refl _⟩, ⟨ra_ HO183⟩, ⟨bl_⟩⟩
   case round =>
    clear H'
    try clear c2
    try clear c2b0
    try clear c2b1
    try clear p2
    try clear c3
    try clear c3b0
    try clear c3b1
    try clear c5
    obtain ⟨x3_1, x4_1, rfl, HA, HK1, HO_3, HB⟩ := hrel
    cases gk with
    | zero => exact absurd HA.out (by simp [laws_toHoldS.l0])
    | succ k1 =>
     have H := HA.out
     clear HA
     simp only [laws_toHoldS.l0] at H
     by_cases c6 : x4_1 < (l0.length : Int)
     ·rw [if_pos c6] at H
      have c6b0 : decide (x4_1 < (l0.length : Int)) = true := decide_eq_true c6
      clear c6
      by_cases c7 : 0 ≤ x4_1
      ·rw [if_pos c7] at H
       have c7b0 : decide (0 ≤ x4_1) = true := decide_eq_true c7
       clear c7
       obtain ⟨⟨t185, t186, t187⟩, A8, H⟩ := ob_ H
       (try dsimp only at H)
       by_cases c9 : x4_1 < (x3_1.length : Int)
       ·rw [if_pos c9] at H
        have c9b0 : decide (x4_1 < (x3_1.length : Int)) = true := decide_eq_true c9
        clear c9
        obtain ⟨y188, hy188⟩ : ∃ y_ : List (S95), y_ = (x3_1.set (x4_1 : Int).toNat (⟨t185, t186, t187⟩ : S95)) := ⟨_, rfl⟩
        replace H : (laws_toHoldS.l0 k1 l0 y188 (wrap64 (x4_1 + 1))) = some r := by first | (rw [hy188]; with_reducible exact H) | (have H2_ := (Option.bind_some _ _).symm.trans H; rw [hy188]; with_reducible exact H2_) | (have H2_ := (Option.bind_some _ _).symm.trans H; with_reducible exact H2_) | with_reducible exact H | (rw [hy188]; exact H) | exact H
        have Ny188 := Aside0.mk hy188
        clear hy188
        have H' := Aside0.mk H
        clear H
        have p184 : 0 ≤ (x4_1 : Int) := od_
        have q184 : x4_1 < (l0.length : Int) := od_
        obtain ⟨ad184, e184, hx184_0, hx184_1, hx184_2⟩ := at_T108 HR0.out x4_1 p184 q184
        cases e184
        replace hx184_0 := kc_ HB hx184_0
        replace hx184_1 := kc_ HB hx184_1
        replace hx184_2 := kc_ HB hx184_2
        replace p184 := eq_true p184
        replace q184 := eq_true q184
        go_wp2_with (first | ((with_reducible refine gate_callee (f := 61) rfl ?_); refine goesL_ (some 20) rfl rfl Try.func61 (by kernel_rfl) rfl #[.agg #[.string ((rd_T108 l0 x4_1).f0), .int .i64 ((rd_T108 l0 x4_1).f1), .int .i64 ((rd_T108 l0 x4_1).f2)]] rfl gl_ ?_; (with_reducible refine (laws_toHold.calls ((rd_T108 l0 x4_1).f0) ((rd_T108 l0 x4_1).f1) ((rd_T108 l0 x4_1).f2) t185 t186 t187 _ A8.out).mono ?_); rintro e w11 ⟨rfl, hb⟩; refine ⟨_, rfl, ?_⟩; replace HO_3 := Aside0.mk (Kd.R_below (ra_ HO_3) hb); replace HB := Aside0.mk (below_step bl_ hb); (try clear hb); (try clear hb2); (try clear hk); (try clear hi); have p10 : 0 ≤ (x4_1 : Int) := od_; have q10 : (x4_1 : Int) < ((x3_1.length : Int) : Int) := od_; obtain ⟨go10, co10, eo10, gb10, gl10, cl10, HG10⟩ := Kd.R_form HO_3.out (by omega); (first | cases eo10 | (injection eo10 with ea_ en_ ec_; (first | subst ea_ | (injection ea_ with ea_; subst ea_)); subst ec_; clear en_)); have GB10 := Aside0.mk gb10; have GG10 := Aside0.mk HG10; clear gb10 gl10 HG10; obtain ⟨ce10, hcl10, hM10, hcc10, hfr10⟩ := Kd.R_elem HO_3.out z95 (x4_1 : Int) p10 q10; obtain rfl := k95_openM hM10; have hx10_0 : w11.cell? ⟨go10, (x4_1 : Int).toNat * 3, none⟩ = some (.string ((rd_T95 x3_1 x4_1).f0)) := hcc10 0 _ rfl; have hx10_1 : w11.cell? ⟨go10, (x4_1 : Int).toNat * 3 + 1, none⟩ = some (.int .i64 ((rd_T95 x3_1 x4_1).f1)) := hcc10 1 _ rfl; have hx10_2 : w11.cell? ⟨go10, (x4_1 : Int).toNat * 3 + 2, none⟩ = some (.int .i64 ((rd_T95 x3_1 x4_1).f2)) := hcc10 2 _ rfl; have hf10_0 : w11.frozen? ⟨go10, (x4_1 : Int).toNat * 3, none⟩ = false := hfr10 0; have hf10_1 : w11.frozen? ⟨go10, (x4_1 : Int).toNat * 3 + 1, none⟩ = false := hfr10 1; have hf10_2 : w11.frozen? ⟨go10, (x4_1 : Int).toNat * 3 + 2, none⟩ = false := hfr10 2; clear hcl10 hcc10 hfr10 hM10; replace p10 := eq_true p10; replace q10 := eq_true q10; have HX12 := Aside0.mk (show Kd.R k95 95 w11 w.heap.size (fun _ => True) (.slice (some ⟨go10, 0, none⟩) x3_1.length co10) x3_1 from (ra_ HO_3)); obtain ⟨ce12, hcl12, hM12, hcc12, hfr12⟩ := Kd.R_elem HX12.out z95 (x4_1 : Int) od_ (by have h_ : (x4_1 : Int) < ((x3_1.length : Int) : Int) := od_; first | exact h_ | (have e_ := (Kd.R_reads' HO_3.out).1; omega) | simpa using h_); obtain rfl := k95_openM hM12; have HP12 := Kd.R_seg HX12.out (x4_1 : Int) od_ (by have h_ : (x4_1 : Int) < ((x3_1.length : Int) : Int) := od_; first | exact h_ | (have e_ := (Kd.R_reads' HO_3.out).1; omega) | simpa using h_) (seg := [.string t185, .int .i64 t186, .int .i64 t187]) (j := 0) hcl12 hcc12 (show 3 ≤ 3 from by decide) (x' := (⟨t185, t186, t187⟩ : S95)) (k95_mkM _ _ _ (⟨t185, t186, t187⟩ : S95) ) (fun _ hk => hk); have hx12_0 := hcc12 0 _ rfl; (try simp only [show (k95).sz = 3 from rfl, Nat.mul_one, Nat.add_zero] at hx12_0); have hf12_0 := hfr12 0; (try simp only [show (k95).sz = 3 from rfl, Nat.mul_one, Nat.add_zero] at hf12_0); have hx12_1 := hcc12 1 _ rfl; (try simp only [show (k95).sz = 3 from rfl, Nat.mul_one, Nat.add_zero] at hx12_1); have hf12_1 := hfr12 1; (try simp only [show (k95).sz = 3 from rfl, Nat.mul_one, Nat.add_zero] at hf12_1); have hx12_2 := hcc12 2 _ rfl; (try simp only [show (k95).sz = 3 from rfl, Nat.mul_one, Nat.add_zero] at hx12_2); have hf12_2 := hfr12 2; (try simp only [show (k95).sz = 3 from rfl, Nat.mul_one, Nat.add_zero] at hf12_2); clear hcl12 hcc12 hfr12 hM12) | ((with_reducible refine gate_store (t := 95) (p := 21) rfl ?_); refine store_event (t := 95) (p := 21) (v := ?vo_w13) (w1 := (((w11.setCell ⟨go10, (x4_1 : Int).toNat * 3, none⟩ (.string t185)).setCell ⟨go10, (x4_1 : Int).toNat * 3 + 1, none⟩ (.int .i64 t186)).setCell ⟨go10, (x4_1 : Int).toNat * 3 + 2, none⟩ (.int .i64 t187))) ?hg ?ho ?hn ?hr ?_; (case ho => rfl); (case hg => rfl); (case hn => rfl); (case hr => first | (go_simp; done) | (go_simp; rfl)); intro w13 hw; have hg : w11.grownBy w13 (some go10) := (by rw [hw]; exact HP12.2); have hp_ : Kd.R k95 95 w13 w.heap.size (fun _ => True) (.slice (some ⟨go10, 0, none⟩) x3_1.length co10) y188 := (by rw [hw, Ny188.out]; exact HP12.1); clear HP12; replace HO_3 := Aside0.mk (hp_); replace HB := Aside0.mk ((by rw [hw]; exact below_set (below_set (below_set (HB.out) GB10.out) GB10.out) GB10.out : Below w.heap.size w w13)); clear hg hw hp_))
        go_roundg k1
        case measure => have := HK1.out; omega
        case rel => exact ⟨(y188), (wrap64 (x4_1 + 1)), sp_, H', ⟨by have := HK1.out; omega⟩, ⟨ra_ HO_3⟩, ⟨bl_⟩⟩
       ·rw [if_neg c9] at H
        exact absurd H (by simp)
      ·rw [if_neg c7] at H
       exact absurd H (by simp)
     ·rw [if_neg c6] at H
      have c6b0 : decide (x4_1 < (l0.length : Int)) = false := decide_eq_false c6
      clear c6
      obtain rfl := Option.some.inj H
      go_wp2
      go_ret
      exact ⟨_, by first | rfl | (simp [errW_none, errW_some] <;> rfl) | (simp [*, errW_none, errW_some] <;> rfl), ra_ HO_3, bl_⟩
  ·rw [if_neg c3] at H
   exact absurd H (by simp)
 ·rw [if_neg c2] at H
  exact absurd H (by simp)
/-! ### laws_toIntS: function 37 -/
def laws_toIntS.l0 : Nat → List Int → List Int → Int → Option (List Int)
 | 0, _, _, _ => none
 | k + 1, x0, x3, x4 => if x4 < (x0.length : Int) then (if 0 ≤ x4 then (if x4 < (x3.length : Int) then (laws_toIntS.l0 k x0 (x3.set (x4 : Int).toNat (rd x0 x4)) (wrap64 (x4 + 1))) else (none)) else (none)) else (some x3)
def laws_toIntS.f (k : Nat) (l0 : List Int) : Option (List Int) := if 0 ≤ (l0.length : Int) then (if ((l0.length : Int) : Int).toNat ≤ 35184372088832 then (laws_toIntS.l0 k l0 (List.replicate ((l0.length : Int) : Int).toNat 0) 0) else (none)) else (none)
set_option maxHeartbeats 8000000 in
set_option maxRecDepth 100000 in
theorem laws_toIntS.calls (k : Nat) (A0 : Option Addr) (c0 : Nat) (l0 : List Int) (r : List Int) (w : World) (hr0 : Kd.C (Kd.int .i64) w A0 l0.length l0) (hc0 : l0.length ≤ c0) (h : laws_toIntS.f k l0 = some r) :
  Calls Try.prog 37 #[.slice A0 l0.length c0] w fun e w' => ∃ v0_ : Value, e = .returned (v0_) ∧ Kd.R (Kd.int .i64) 3 w' w.heap.size (fun _ => True) v0_ r ∧ Below w.heap.size w w' := by
 have HR0 := Aside0.mk hr0
 have HC0 := Aside0.mk hc0
 clear hr0 hc0
 have HB := Aside0.mk (Below.refl w.heap.size w)
 have H : (if 0 ≤ (l0.length : Int) then (if ((l0.length : Int) : Int).toNat ≤ 35184372088832 then (laws_toIntS.l0 k l0 (List.replicate ((l0.length : Int) : Int).toNat 0) 0) else (none)) else (none)) = some r := h
 clear h
 by_cases c2 : 0 ≤ (l0.length : Int)
 ·rw [if_pos c2] at H
  have c2b0 := eq_true c2
  have c2b1 : decide (0 ≤ (l0.length : Int)) = true := decide_eq_true c2
  clear c2
  by_cases c3 : ((l0.length : Int) : Int).toNat ≤ 35184372088832
  ·rw [if_pos c3] at H
   have c3b0 := eq_true c3
   have c3b1 : decide (((l0.length : Int) : Int).toNat ≤ 35184372088832) = true := decide_eq_true c3
   clear c3
   obtain ⟨y189, hy189⟩ : ∃ y_ : List Int, y_ = (List.replicate ((l0.length : Int) : Int).toNat 0) := ⟨_, rfl⟩
   replace H : (laws_toIntS.l0 k l0 y189 0) = some r := by first | (rw [hy189]; with_reducible exact H) | (have H2_ := (Option.bind_some _ _).symm.trans H; rw [hy189]; with_reducible exact H2_) | (have H2_ := (Option.bind_some _ _).symm.trans H; with_reducible exact H2_) | with_reducible exact H | (rw [hy189]; exact H) | exact H
   have Ny189 := Aside0.mk hy189
   clear hy189
   have H' := Aside0.mk H
   clear H
   go_enter Try.func37, Try.ntmps37
   go_wp2_with (first | ((with_reducible refine gate_dst (N := 7) rfl ?_); refine Kd.R_make (Kd.int .i64) _ 3 rfl (N := 7) rfl 27 _ _ rfl (l0.length : Int) rfl rfl Try.underlying27 (.int .i64 0) 8 info3 rfl (by decide) (by omega) 0 (ok := fun _ => True) (okp := fun _ => True) rfl (fun _ hk => hk) trivial od_ (Nat.le_trans (Nat.mul_le_mul_right _ (od_ : (l0.length : Int).toNat ≤ 35184372088832)) (by omega)) (Below.refl _ _) (Nat.le_refl _) ?_; intro v190 w4 ho5 hb hg_ hnew_; clear hg_ hnew_; (first | rw [← Ny189.out] at ho5 | (simp only [Int.reduceToNat] at ho5; rw [← Ny189.out] at ho5)); have HO191 := Aside0.mk (Kd.R_lower ho5 (below_size bl_)); replace HB := Aside0.mk (below_step bl_ hb); clear hb ho5))
   go_loopg [4] k (fun kq v4 w' => ∃ (x3_1 : List Int) (x4_1 : Int), v4 = .int .i64 x4_1 ∧ Aside0 (laws_toIntS.l0 kq l0 x3_1 x4_1 = some r) ∧ Aside0 (kq ≤ k) ∧ Aside0 (Kd.R (Kd.int .i64) 3 w' w.heap.size (fun _ => True) v190 x3_1) ∧ Aside0 (Below w.heap.size w w'))
   case atStart => exact ⟨(y189), (0), sp_, H', ⟨Nat.le_refl _⟩, ⟨ra_ HO191⟩, ⟨bl_⟩⟩
   case round =>
    clear H'
    try clear c2
    try clear c2b0
    try clear c2b1
    try clear p2
    try clear c3
    try clear c3b0
    try clear c3b1
    obtain ⟨x3_1, x4_1, rfl, HA, HK1, HO_3, HB⟩ := hrel
    cases gk with
    | zero => exact absurd HA.out (by simp [laws_toIntS.l0])
    | succ k1 =>
     have H := HA.out
     clear HA
     simp only [laws_toIntS.l0] at H
     by_cases c6 : x4_1 < (l0.length : Int)
     ·rw [if_pos c6] at H
      have c6b0 : decide (x4_1 < (l0.length : Int)) = true := decide_eq_true c6
      clear c6
      by_cases c7 : 0 ≤ x4_1
      ·rw [if_pos c7] at H
       have c7b0 : decide (0 ≤ x4_1) = true := decide_eq_true c7
       clear c7
       by_cases c8 : x4_1 < (x3_1.length : Int)
       ·rw [if_pos c8] at H
        have c8b0 : decide (x4_1 < (x3_1.length : Int)) = true := decide_eq_true c8
        clear c8
        obtain ⟨y193, hy193⟩ : ∃ y_ : List Int, y_ = (x3_1.set (x4_1 : Int).toNat (rd l0 x4_1)) := ⟨_, rfl⟩
        replace H : (laws_toIntS.l0 k1 l0 y193 (wrap64 (x4_1 + 1))) = some r := by first | (rw [hy193]; with_reducible exact H) | (have H2_ := (Option.bind_some _ _).symm.trans H; rw [hy193]; with_reducible exact H2_) | (have H2_ := (Option.bind_some _ _).symm.trans H; with_reducible exact H2_) | with_reducible exact H | (rw [hy193]; exact H) | exact H
        have Ny193 := Aside0.mk hy193
        clear hy193
        have H' := Aside0.mk H
        clear H
        have p192 : 0 ≤ (x4_1 : Int) := od_
        have q192 : x4_1 < (l0.length : Int) := od_
        obtain ⟨ad192, e192, hx192_0⟩ := Kd.at_int HR0.out x4_1 p192 q192
        cases e192
        replace hx192_0 := kc_ HB hx192_0
        replace p192 := eq_true p192
        replace q192 := eq_true q192
        have p9 : 0 ≤ (x4_1 : Int) := od_
        have q9 : (x4_1 : Int) < ((x3_1.length : Int) : Int) := od_
        obtain ⟨go9, co9, eo9, gb9, gl9, cl9, HG9⟩ := Kd.R_form HO_3.out (by omega)
        (first | cases eo9 | (injection eo9 with ea_ en_ ec_; (first | subst ea_ | (injection ea_ with ea_; subst ea_)); subst ec_; clear en_))
        have GB9 := Aside0.mk gb9
        have GG9 := Aside0.mk HG9
        clear gb9 gl9 HG9
        obtain ⟨hx9_0, hf9_0⟩ := Kd.R_celln 0 HO_3.out (x4_1 : Int) p9 q9
        replace p9 := eq_true p9
        replace q9 := eq_true q9
        have HP10 := Kd.R_putg HO_3.out (x4_1 : Int) (rd l0 x4_1)
        go_wp2_with (first | ((with_reducible refine gate_store (t := 3) (p := 20) rfl ?_); refine store_event (t := 3) (p := 20) (v := ?vo_w11) (w1 := (wr.setCell ⟨go9, (x4_1 : Int).toNat, none⟩ (.int .i64 (rd l0 x4_1)))) ?hg ?ho ?hn ?hr ?_; (case ho => rfl); (case hg => rfl); (case hn => rfl); (case hr => first | (go_simp; done) | (go_simp; rfl)); intro w11 hw; have hg : wr.grownBy w11 (some go9) := (by rw [hw]; exact HP10.2); have hp_ : Kd.R (Kd.int .i64) 3 w11 w.heap.size (fun _ => True) (.slice (some ⟨go9, 0, none⟩) x3_1.length co9) y193 := (by rw [hw, Ny193.out]; exact HP10.1); clear HP10; replace HO_3 := Aside0.mk (hp_); replace HB := Aside0.mk ((by rw [hw]; exact below_set (HB.out) GB9.out : Below w.heap.size w w11)); clear hg hw hp_))
        go_roundg k1
        case measure => have := HK1.out; omega
        case rel => exact ⟨(y193), (wrap64 (x4_1 + 1)), sp_, H', ⟨by have := HK1.out; omega⟩, ⟨ra_ HO_3⟩, ⟨bl_⟩⟩
       ·rw [if_neg c8] at H
        exact absurd H (by simp)
      ·rw [if_neg c7] at H
       exact absurd H (by simp)
     ·rw [if_neg c6] at H
      have c6b0 : decide (x4_1 < (l0.length : Int)) = false := decide_eq_false c6
      clear c6
      obtain rfl := Option.some.inj H
      go_wp2
      go_ret
      exact ⟨_, by first | rfl | (simp [errW_none, errW_some] <;> rfl) | (simp [*, errW_none, errW_some] <;> rfl), ra_ HO_3, bl_⟩
  ·rw [if_neg c3] at H
   exact absurd H (by simp)
 ·rw [if_neg c2] at H
  exact absurd H (by simp)
end Go.Proofs.Ytbjpfknmkpnhjaa.QFnExactOrderOf
