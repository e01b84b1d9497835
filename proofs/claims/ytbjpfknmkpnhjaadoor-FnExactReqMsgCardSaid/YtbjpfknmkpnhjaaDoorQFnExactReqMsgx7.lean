-- by my own printer (myprint.py, over the kit's print.py)
import Derived.Test.YtbjpfknmkpnhjaaDoorQFnExactReqMsgx0
import Derived.Test.YtbjpfknmkpnhjaaDoorQFnExactReqMsgx1
import Derived.Test.YtbjpfknmkpnhjaaDoorQFnExactReqMsgx5
import Derived.Test.YtbjpfknmkpnhjaaDoorQFnExactReqMsgx6
namespace Go.Proofs.YtbjpfknmkpnhjaaDoor.QFnExactReqMsg
open Go.RowKit Go.Proofs.YtbjpfknmkpnhjaaDoorW.PrintWords Go.Proofs.YtbjpfknmkpnhjaaDoorW.PrintLast Go.Proofs.YtbjpfknmkpnhjaaDoorW.PrintMore
attribute [local go_sem] max2_int min2_int max_two min_two max_three min_three max_four min_four   -- for this text's walks alone
set_option linter.unusedVariables false
set_option linter.unusedSimpArgs false
attribute [local go_sem] my_geq my_leq my_gtr
/-! ### spec_WithField: function 30 -/
mutual
def spec_WithField.j0 : Nat → Int → ByteArray → Bool → ByteArray → List (S67) → Option (ByteArray × (List (S67)) × Bool)
 | 0, _, _, _, _, _ => none
 | k + 1, x1, x2, x20, x148000, x148001 => if x20 = true then (some ((⟨#[]⟩ : ByteArray), ([] : List (S67)), false)) else (spec_WithField.l0 k x1 x2 false x148001 (x148001.length : Int) 0 x148000 ([] : List (S67)))
def spec_WithField.l0 : Nat → Int → ByteArray → Bool → List (S67) → Int → Int → ByteArray → List (S67) → Option (ByteArray × (List (S67)) × Bool)
 | 0, _, _, _, _, _, _, _, _ => none
 | k + 1, x1, x2, x9, x26, x27, x28, x152000, x152001 => if x28 < x27 then (if 0 ≤ x28 then (if x28 < (x26.length : Int) then (if x9 = true then (spec_WithField.j2 k x1 x2 x9 x26 x27 x28 false x152000 x152001 ((rd_T67 x26 x28).f0) ((rd_T67 x26 x28).f1)) else (spec_WithField.j2 k x1 x2 x9 x26 x27 x28 (decide (((rd_T67 x26 x28).f0) ≥ x1)) x152000 x152001 ((rd_T67 x26 x28).f0) ((rd_T67 x26 x28).f1))) else (none)) else (none)) else (if x9 = true then (some (x152000, x152001, true)) else (if x152001.length < 5864062014805 then (some (x152000, (x152001 ++ [(⟨x1, x2⟩ : S67)]), true)) else (none)))
def spec_WithField.j2 : Nat → Int → ByteArray → Bool → List (S67) → Int → Int → Bool → ByteArray → List (S67) → Int → ByteArray → Option (ByteArray × (List (S67)) × Bool)
 | 0, _, _, _, _, _, _, _, _, _, _, _ => none
 | k + 1, x1, x2, x9, x26, x27, x28, x39, x152000, x152001, x157000, x157001 => if x39 = true then (if x152001.length < 5864062014805 then ((some (x152001 ++ [(⟨x1, x2⟩ : S67)] : List (S67))).bind fun y157 => (if x157000 = x1 then (spec_WithField.l0 k x1 x2 true x26 x27 (wrap64 (x28 + 1)) x152000 y157) else (if y157.length < 5864062014805 then (spec_WithField.l0 k x1 x2 true x26 x27 (wrap64 (x28 + 1)) x152000 (y157 ++ [(⟨x157000, x157001⟩ : S67)])) else (none)))) else (none)) else (if x157000 = x1 then (spec_WithField.l0 k x1 x2 x9 x26 x27 (wrap64 (x28 + 1)) x152000 x152001) else (if x152001.length < 5864062014805 then (spec_WithField.l0 k x1 x2 x9 x26 x27 (wrap64 (x28 + 1)) x152000 (x152001 ++ [(⟨x157000, x157001⟩ : S67)])) else (none)))
end
def spec_WithField.f (k : Nat) (a0_0 : ByteArray) (l0_1 : List (S67)) (a1 : Int) (a2 : ByteArray) : Option (ByteArray × (List (S67)) × Bool) := (spec_MsgOk.f k a0_0 l0_1).bind fun t149 => (if t149 = true then ((spec_FieldOk.f k a1 a2).bind fun t150 => (spec_WithField.j0 k a1 a2 (!t150) a0_0 l0_1)) else (spec_WithField.j0 k a1 a2 true a0_0 l0_1))
set_option maxHeartbeats 8000000 in
set_option maxRecDepth 100000 in
theorem spec_WithField.calls (k : Nat) (a0_0 : ByteArray) (A0_1 : Option Addr) (c0_1 : Nat) (l0_1 : List (S67)) (a1 : Int) (a2 : ByteArray) (r1 : ByteArray) (r2 : List (S67)) (r3 : Bool) (w : World) (hr0_1 : Kd.C k67 w A0_1 l0_1.length l0_1) (hc0_1 : l0_1.length ≤ c0_1) (h : spec_WithField.f k a0_0 l0_1 a1 a2 = some (r1, r2, r3)) :
  Calls Tryd.prog 30 #[.agg #[.string a0_0, .slice A0_1 l0_1.length c0_1], .int .i64 a1, .string a2] w fun e w' => ∃ v1_ : Value, e = .returned (.tuple #[.agg #[.string r1, v1_], .bool r3]) ∧ Kd.R k67 67 w' w.heap.size (fun _ => True) v1_ r2 ∧ Below w.heap.size w w' := by
 have hu42 := Tryd.underlying42
 have hu67 := Tryd.underlying67
 have HR0_1 := Aside0.mk hr0_1
 have HC0_1 := Aside0.mk hc0_1
 clear hr0_1 hc0_1
 have HB := Aside0.mk (Below.refl w.heap.size w)
 have H : ((spec_MsgOk.f k a0_0 l0_1).bind fun t149 => (if t149 = true then ((spec_FieldOk.f k a1 a2).bind fun t150 => (spec_WithField.j0 k a1 a2 (!t150) a0_0 l0_1)) else (spec_WithField.j0 k a1 a2 true a0_0 l0_1))) = some (r1, r2, r3) := h
 clear h
 have HC4 := Aside0.mk H
 clear H
 go_enter Tryd.func30, Tryd.ntmps30
 go_upto_region 1 with (first | ((with_reducible refine gate_dst (N := 3) rfl ?_); refine be_ (N := 3) (cs := #[.string a0_0, .slice A0_1 l0_1.length c0_1]) (t := 42) ?_; intro gb147 hg w5 hbox hb; have BK147 := Aside0.mk (hbox); have GW147 := gw_ (w := w) hg; have GE147 := gw_ (w := w) hg; replace HB := Aside0.mk (below_step bl_ hb); clear hb hbox hg) | ((with_reducible refine gate_dst (N := 6) rfl ?_); refine be_ (N := 6) (cs := #[.string (⟨#[]⟩ : ByteArray), .slice none 0 0]) (t := 42) ?_; intro gb148 hg w6 hbox hb; have BK148 := Aside0.mk (hbox); have GW148 := gw_ (w := w) hg; have GE148 := gw_ (w := w) hg; replace HB := Aside0.mk (below_step bl_ hb); have NB147_148 := Aside0.mk ((by rw [hg]; exact Nat.ne_of_lt (blk_lt (bk_ BK147)) : gb147 ≠ gb148)); have NB148_147 := Aside0.mk ((by rw [hg]; exact Nat.ne_of_gt (blk_lt (bk_ BK147)) : gb148 ≠ gb147)); replace BK147 := Aside0.mk (blk_below (bk_ BK147) hb); clear hb hbox hg))
 (try simp only [Act.put, List.setIfInBounds_toArray, List.set_cons_zero, List.set_cons_succ])
 go_cut [20] (fun v20 wc => ∃ (kq : Nat) (x20_3 : Bool), v20 = .bool x20_3 ∧ Aside0 (spec_WithField.j0 kq a1 a2 x20_3 a0_0 l0_1 = some (r1, r2, r3)) ∧ Aside0 (kq ≤ k) ∧ Aside0 (wc.heap[gb147]? = some (.cells #[.string a0_0, (.slice A0_1 l0_1.length c0_1)] 42 (0, 0))) ∧ Aside0 (wc.heap[gb148]? = some (.cells #[.string (⟨#[]⟩ : ByteArray), (.slice none 0 0)] 42 (0, 0))) ∧ Aside0 (Below w.heap.size w wc))
 case first =>
  have H := HC4.out
  clear HC4
  obtain ⟨t149, A7, H⟩ := ob_ H
  by_cases c8 : t149 = true
  ·subst c8
   replace H := ip_ H
   obtain ⟨t150, A9, H⟩ := ob_ H
   have H' := Aside0.mk H
   clear H
   have hnb10 := NB147_148.out
   have hnc10 := NB148_147.out
   have hcz11_0 := cz_ BK147 0 (.string a0_0)
   have hcz11_1 := cz_ BK147 1 (.slice A0_1 l0_1.length c0_1)
   have hfz11_0 := fz_ BK147 0
   have hfz11_1 := fz_ BK147 1
   go_wp2_with (first | ((with_reducible refine gate_callee (f := 70) rfl ?_); refine goesL_ (some 13) rfl rfl Tryd.func70 (by kernel_rfl) rfl #[.agg #[.string a0_0, .slice A0_1 l0_1.length c0_1]] rfl gl_ ?_; (with_reducible refine (spec_MsgOk.calls k a0_0 _ _ l0_1 true _ ?side1 ?side2 A7.out).mono ?_); (case side1 => exact ca_ (Kd.C_below HR0_1.out HB.out)); (case side2 => exact HC0_1.out); rintro e w12 ⟨rfl, hb⟩; refine ⟨_, rfl, ?_⟩; replace BK147 := Aside0.mk (blk_below (bk_ BK147) hb); replace BK148 := Aside0.mk (blk_below (bk_ BK148) hb); replace HB := Aside0.mk (below_step bl_ hb); (try clear hb); (try clear hb2); (try clear hk); (try clear hi)) | (go_at_call 71; (with_reducible refine (spec_FieldOk.calls k a1 a2 t150 _ A9.out).mono ?_); rintro e w' ⟨rfl, ⟨nd, rfl⟩⟩))
   go_meet
   case rel => exact ⟨_, (!t150), sp_, H', ⟨by first | omega | exact Nat.le_refl _⟩, ⟨by (with_reducible repeat (first | refine blk_drewN ?_ _ | refine blk_drew ?_ | refine blk_alloc ?_ _)); exact BK147.out⟩, ⟨by (with_reducible repeat (first | refine blk_drewN ?_ _ | refine blk_drew ?_ | refine blk_alloc ?_ _)); exact BK148.out⟩, ⟨bl_⟩⟩
  ·replace c8 := Bool.eq_false_iff.mpr c8
   subst c8
   replace H := in_ H
   have H' := Aside0.mk H
   clear H
   have hnb13 := NB147_148.out
   have hnc13 := NB148_147.out
   have hcz14_0 := cz_ BK147 0 (.string a0_0)
   have hcz14_1 := cz_ BK147 1 (.slice A0_1 l0_1.length c0_1)
   have hfz14_0 := fz_ BK147 0
   have hfz14_1 := fz_ BK147 1
   go_wp2_with (first | ((with_reducible refine gate_callee (f := 70) rfl ?_); refine goesL_ (some 13) rfl rfl Tryd.func70 (by kernel_rfl) rfl #[.agg #[.string a0_0, .slice A0_1 l0_1.length c0_1]] rfl gl_ ?_; (with_reducible refine (spec_MsgOk.calls k a0_0 _ _ l0_1 false _ ?side1 ?side2 A7.out).mono ?_); (case side1 => exact ca_ (Kd.C_below HR0_1.out HB.out)); (case side2 => exact HC0_1.out); rintro e w15 ⟨rfl, hb⟩; refine ⟨_, rfl, ?_⟩; replace BK147 := Aside0.mk (blk_below (bk_ BK147) hb); replace BK148 := Aside0.mk (blk_below (bk_ BK148) hb); replace HB := Aside0.mk (below_step bl_ hb); (try clear hb); (try clear hb2); (try clear hk); (try clear hi)))
   go_meet
   case rel => exact ⟨_, (true), sp_, H', ⟨by first | omega | exact Nat.le_refl _⟩, ⟨by (with_reducible repeat (first | refine blk_drewN ?_ _ | refine blk_drew ?_ | refine blk_alloc ?_ _)); exact BK147.out⟩, ⟨by (with_reducible repeat (first | refine blk_drewN ?_ _ | refine blk_drew ?_ | refine blk_alloc ?_ _)); exact BK148.out⟩, ⟨bl_⟩⟩
 case rest =>
  clear HC4
  try clear c1
  try clear p2
  try clear c3
  try clear c7
  try clear c8
  try clear c10
  try clear c13
  try clear hcz11_0
  try clear hcz11_1
  try clear hcz14_0
  try clear hcz14_1
  try clear hfz11_0
  try clear hfz11_1
  try clear hfz14_0
  try clear hfz14_1
  obtain ⟨kq, x20_3, rfl, HA, HJ3, BK147, BK148, HB⟩ := hcut
  cases kq with
  | zero => exact absurd HA.out (by simp [spec_WithField.j0])
  | succ kj3 =>
   have H := HA.out
   clear HA
   simp only [spec_WithField.j0] at H
   by_cases c16 : x20_3 = true
   ·subst c16
    replace H := ip_ H
    simp only [Option.some.injEq, Prod.mk.injEq] at H
    obtain ⟨rfl, rfl, rfl⟩ := H
    have hnb17 := NB148_147.out
    have hnc17 := NB147_148.out
    have hcz18_0 := cz_ BK148 0 (.string (⟨#[]⟩ : ByteArray))
    have hcz18_1 := cz_ BK148 1 (.slice none 0 0)
    have hfz18_0 := fz_ BK148 0
    have hfz18_1 := fz_ BK148 1
    go_wp2
    refine bodyPost_ret (results_ct rfl _ _ gb148 42 #[.string (⟨#[]⟩ : ByteArray), .slice none 0 0] (0, 0) _ rfl (by (with_reducible repeat (first | refine blk_drewN ?_ _ | refine blk_drew ?_ | refine blk_alloc ?_ _)); apply bq2_1_0_; (with_reducible repeat (first | refine blk_drewN ?_ _ | refine blk_drew ?_ | refine blk_alloc ?_ _)); exact BK148.out) Tryd.underlying42 rfl (by kernel_rfl)) rfl ?_
    exact ⟨_, by first | rfl | (simp [errW_none, errW_some] <;> rfl) | (simp [*, errW_none, errW_some] <;> rfl), by first | exact Kd.R_nil _ _ _ _ _ | exact Kd.N_nil _ _ _ _ _ | exact Kd.V_nil _ _ _ _ _ | exact Kd.Q_nil _ _ _ _ _ | exact Kd.S_nil _ _ _ _ _, bl_⟩
   ·replace c16 := Bool.eq_false_iff.mpr c16
    subst c16
    replace H := in_ H
    have H' := Aside0.mk H
    clear H
    have hnb19 := NB147_148.out
    have hnc19 := NB148_147.out
    have hcz20_0 := cz_ BK147 0 (.string a0_0)
    have hcz20_1 := cz_ BK147 1 (.slice A0_1 l0_1.length c0_1)
    have hfz20_0 := fz_ BK147 0
    have hfz20_1 := fz_ BK147 1
    go_wp2_with (first | ((with_reducible refine gate_dst (N := 8) rfl ?_); refine be_ (N := 8) (cs := #[.string (⟨#[]⟩ : ByteArray), .slice none 0 0]) (t := 42) ?_; intro gb151 hg w21 hbox hb; have BK151 := Aside0.mk (hbox); have GW151 := gw_ (w := w) hg; have GE151 := gw_ (w := w) hg; replace HB := Aside0.mk (below_step bl_ hb); have NB147_151 := Aside0.mk ((by rw [hg]; exact Nat.ne_of_lt (blk_lt (bk_ BK147)) : gb147 ≠ gb151)); have NB151_147 := Aside0.mk ((by rw [hg]; exact Nat.ne_of_gt (blk_lt (bk_ BK147)) : gb151 ≠ gb147)); replace BK147 := Aside0.mk (blk_below (bk_ BK147) hb); have NB148_151 := Aside0.mk ((by rw [hg]; exact Nat.ne_of_lt (blk_lt (bk_ BK148)) : gb148 ≠ gb151)); have NB151_148 := Aside0.mk ((by rw [hg]; exact Nat.ne_of_gt (blk_lt (bk_ BK148)) : gb151 ≠ gb148)); replace BK148 := Aside0.mk (blk_below (bk_ BK148) hb); clear hb hbox hg; have hnb22 := NB151_147.out; have hnc22 := NB147_151.out; have hnb23 := NB151_148.out; have hnc23 := NB148_151.out; obtain ⟨hcz24_0, hcz24_1, hfz24_0, hfz24_1⟩ := bx2_ BK151; obtain ⟨hcz25_0, hcz25_1, hfz25_0, hfz25_1⟩ := bx2_ BK147))
    go_loopg [9, 28] kj3 (fun kq v9 v28 w' => ∃ (x9_2 : Bool) (x28_2 : Int) (x152001_2 : List (S67)) (u152001 : Value), v9 = .bool x9_2 ∧ v28 = .int .i64 x28_2 ∧ Aside0 (spec_WithField.l0 kq a1 a2 x9_2 l0_1 (l0_1.length : Int) x28_2 a0_0 x152001_2 = some (r1, r2, r3)) ∧ Aside0 (kq ≤ kj3) ∧ Aside0 (Kd.R k67 67 w' w.heap.size (fun _ => True) u152001 x152001_2) ∧ Aside0 (w'.heap[gb147]? = some (.cells #[.string a0_0, (.slice A0_1 l0_1.length c0_1)] 42 (0, 0))) ∧ Aside0 (w'.heap[gb148]? = some (.cells #[.string (⟨#[]⟩ : ByteArray), (.slice none 0 0)] 42 (0, 0))) ∧ Aside0 (w'.heap[gb151]? = some (.cells #[.string a0_0, u152001] 42 (0, 0))) ∧ Aside0 (Below w.heap.size w w'))
    case atStart => exact ⟨(false), (0), (([] : List (S67))), (.slice none 0 0), sp_, sp_, H', ⟨Nat.le_refl _⟩, ⟨by first | exact Kd.R_nil _ _ _ _ _ | exact Kd.N_nil _ _ _ _ _ | exact Kd.V_nil _ _ _ _ _ | exact Kd.Q_nil _ _ _ _ _ | exact Kd.S_nil _ _ _ _ _⟩, ⟨by (with_reducible repeat (first | refine blk_drewN ?_ _ | refine blk_drew ?_ | refine blk_alloc ?_ _)); refine blk_far ?_ NB147_151.out _; (with_reducible repeat (first | refine blk_drewN ?_ _ | refine blk_drew ?_ | refine blk_alloc ?_ _)); refine blk_far ?_ NB147_151.out _; (with_reducible repeat (first | refine blk_drewN ?_ _ | refine blk_drew ?_ | refine blk_alloc ?_ _)); exact BK147.out⟩, ⟨by (with_reducible repeat (first | refine blk_drewN ?_ _ | refine blk_drew ?_ | refine blk_alloc ?_ _)); refine blk_far ?_ NB148_151.out _; (with_reducible repeat (first | refine blk_drewN ?_ _ | refine blk_drew ?_ | refine blk_alloc ?_ _)); refine blk_far ?_ NB148_151.out _; (with_reducible repeat (first | refine blk_drewN ?_ _ | refine blk_drew ?_ | refine blk_alloc ?_ _)); exact BK148.out⟩, ⟨by (with_reducible repeat (first | refine blk_drewN ?_ _ | refine blk_drew ?_ | refine blk_alloc ?_ _)); apply bq2_1_0_; (with_reducible repeat (first | refine blk_drewN ?_ _ | refine blk_drew ?_ | refine blk_alloc ?_ _)); exact BK151.out⟩, ⟨bl_⟩⟩
    case round =>
     clear H'
     try clear c1
     try clear c2
     try clear p2
     try clear c3
     try clear c7
     try clear c8
     try clear c10
     try clear c13
     try clear c16
     try clear c17
     try clear c19
     try clear c22
     try clear c23
     try clear hcz11_0
     try clear hcz11_1
     try clear hcz14_0
     try clear hcz14_1
     try clear hcz18_0
     try clear hcz18_1
     try clear hcz20_0
     try clear hcz20_1
     try clear hcz24_0
     try clear hcz24_1
     try clear hcz25_0
     try clear hcz25_1
     try clear hfz11_0
     try clear hfz11_1
     try clear hfz14_0
     try clear hfz14_1
     try clear hfz18_0
     try clear hfz18_1
     try clear hfz20_0
     try clear hfz20_1
     try clear hfz24_0
     try clear hfz24_1
     try clear hfz25_0
     try clear hfz25_1
     try clear p2
     obtain ⟨x9_2, x28_2, x152001_2, u152001, rfl, rfl, HA, HK2, HO_152001, BK147, BK148, BK151, HB⟩ := hrel
     cases gk with
     | zero => exact absurd HA.out (by simp [spec_WithField.l0])
     | succ k2 =>
      have H := HA.out
      clear HA
      simp only [spec_WithField.l0] at H
      by_cases c26 : x28_2 < (l0_1.length : Int)
      ·rw [if_pos c26] at H
       have c26b0 : decide (x28_2 < (l0_1.length : Int)) = true := decide_eq_true c26
       clear c26
       by_cases c27 : 0 ≤ x28_2
       ·rw [if_pos c27] at H
        have c27b0 : decide (0 ≤ x28_2) = true := decide_eq_true c27
        clear c27
        by_cases c28 : x28_2 < (l0_1.length : Int)
        ·rw [if_pos c28] at H
         have c28b0 : decide (x28_2 < (l0_1.length : Int)) = true := decide_eq_true c28
         clear c28
         have HC29 := Aside0.mk H
         clear H
         have p155 : 0 ≤ (x28_2 : Int) := od_
         have q155 : x28_2 < (l0_1.length : Int) := od_
         obtain ⟨ad155, e155, hx155_0, hx155_1⟩ := at_T67 HR0_1.out x28_2 p155 q155
         cases e155
         replace hx155_0 := kc_ HB hx155_0
         replace hx155_1 := kc_ HB hx155_1
         replace p155 := eq_true p155
         replace q155 := eq_true q155
         go_upto_region 8 with (first | ((with_reducible refine gate_dst (N := 11) rfl ?_); refine be_ (N := 11) (cs := #[.int .i64 0, .string (⟨#[]⟩ : ByteArray)]) (t := 67) ?_; intro gb156 hg w30 hbox hb; replace HO_152001 := Aside0.mk (Kd.R_below (Kd.R_elderB (ra_ HO_152001) gb156 (Nat.le_of_eq hg.symm)) hb); have BK156 := Aside0.mk (hbox); have GW156 := gw_ (w := w) hg; have GE156 := gw_ (w := w) hg; replace HB := Aside0.mk (below_step bl_ hb); have NB147_156 := Aside0.mk ((by rw [hg]; exact Nat.ne_of_lt (blk_lt (bk_ BK147)) : gb147 ≠ gb156)); have NB156_147 := Aside0.mk ((by rw [hg]; exact Nat.ne_of_gt (blk_lt (bk_ BK147)) : gb156 ≠ gb147)); replace BK147 := Aside0.mk (blk_below (bk_ BK147) hb); have NB148_156 := Aside0.mk ((by rw [hg]; exact Nat.ne_of_lt (blk_lt (bk_ BK148)) : gb148 ≠ gb156)); have NB156_148 := Aside0.mk ((by rw [hg]; exact Nat.ne_of_gt (blk_lt (bk_ BK148)) : gb156 ≠ gb148)); replace BK148 := Aside0.mk (blk_below (bk_ BK148) hb); have NB151_156 := Aside0.mk ((by rw [hg]; exact Nat.ne_of_lt (blk_lt (bk_ BK151)) : gb151 ≠ gb156)); have NB156_151 := Aside0.mk ((by rw [hg]; exact Nat.ne_of_gt (blk_lt (bk_ BK151)) : gb156 ≠ gb151)); replace BK151 := Aside0.mk (blk_below (bk_ BK151) hb); clear hb hbox hg; have hnb31 := NB156_147.out; have hnc31 := NB147_156.out; have hnb32 := NB156_148.out; have hnc32 := NB148_156.out; have hnb33 := NB156_151.out; have hnc33 := NB151_156.out; obtain ⟨hcz34_0, hcz34_1, hfz34_0, hfz34_1⟩ := bx2_ BK156))
         (try simp only [Act.put, List.setIfInBounds_toArray, List.set_cons_zero, List.set_cons_succ])
         go_cut [39] (fun v39 wc => ∃ (kq : Nat) (x39_28 : Bool), v39 = .bool x39_28 ∧ Aside0 (spec_WithField.j2 kq a1 a2 x9_2 l0_1 (l0_1.length : Int) x28_2 x39_28 a0_0 x152001_2 ((rd_T67 l0_1 x28_2).f0) ((rd_T67 l0_1 x28_2).f1) = some (r1, r2, r3)) ∧ Aside0 (kq ≤ k2) ∧ Aside0 (Kd.R k67 67 wc w.heap.size (fun k_ => k_ ≠ gb156) u152001 x152001_2) ∧ Aside0 (wc.heap[gb147]? = some (.cells #[.string a0_0, (.slice (some ad155) l0_1.length c0_1)] 42 (0, 0))) ∧ Aside0 (wc.heap[gb148]? = some (.cells #[.string (⟨#[]⟩ : ByteArray), (.slice none 0 0)] 42 (0, 0))) ∧ Aside0 (wc.heap[gb151]? = some (.cells #[.string a0_0, u152001] 42 (0, 0))) ∧ Aside0 (wc.heap[gb156]? = some (.cells #[.int .i64 ((rd_T67 l0_1 x28_2).f0), .string ((rd_T67 l0_1 x28_2).f1)] 67 (0, 0))) ∧ Aside0 (Below w.heap.size w wc))
         case first =>
          have H := HC29.out
          clear HC29
          by_cases c35 : x9_2 = true
          ·subst c35
           replace H := ip_ H
           have H' := Aside0.mk H
           clear H
           go_wp2
           go_meet
           case rel => exact ⟨_, (false), sp_, H', ⟨by have := HJ3.out; have := HK2.out; first | omega | exact Nat.le_refl _⟩, ⟨by (with_reducible repeat (first | apply Kd.R_alloc | apply Kd.R_drewN | apply Kd.R_drew)); exact Kd.R_mono (Kd.R_far (p := ⟨gb156, 1, none⟩) (Kd.R_far (p := ⟨gb156, 0, none⟩) (Kd.R_mono HO_152001.out (fun k_ hk => (⟨hk, hk.2⟩ : _ ∧ k_ ≠ gb156))) (fun _ hk => hk.2) (.int .i64 ((rd_T67 l0_1 x28_2).f0))) (fun _ hk => hk.2) (.string ((rd_T67 l0_1 x28_2).f1))) (fun _ hk => hk.1.2)⟩, ⟨by (with_reducible repeat (first | refine blk_drewN ?_ _ | refine blk_drew ?_ | refine blk_alloc ?_ _)); refine blk_far ?_ NB147_156.out _; (with_reducible repeat (first | refine blk_drewN ?_ _ | refine blk_drew ?_ | refine blk_alloc ?_ _)); refine blk_far ?_ NB147_156.out _; (with_reducible repeat (first | refine blk_drewN ?_ _ | refine blk_drew ?_ | refine blk_alloc ?_ _)); exact BK147.out⟩, ⟨by (with_reducible repeat (first | refine blk_drewN ?_ _ | refine blk_drew ?_ | refine blk_alloc ?_ _)); refine blk_far ?_ NB148_156.out _; (with_reducible repeat (first | refine blk_drewN ?_ _ | refine blk_drew ?_ | refine blk_alloc ?_ _)); refine blk_far ?_ NB148_156.out _; (with_reducible repeat (first | refine blk_drewN ?_ _ | refine blk_drew ?_ | refine blk_alloc ?_ _)); exact BK148.out⟩, ⟨by (with_reducible repeat (first | refine blk_drewN ?_ _ | refine blk_drew ?_ | refine blk_alloc ?_ _)); refine blk_far ?_ NB151_156.out _; (with_reducible repeat (first | refine blk_drewN ?_ _ | refine blk_drew ?_ | refine blk_alloc ?_ _)); refine blk_far ?_ NB151_156.out _; (with_reducible repeat (first | refine blk_drewN ?_ _ | refine blk_drew ?_ | refine blk_alloc ?_ _)); exact BK151.out⟩, ⟨by (with_reducible repeat (first | refine blk_drewN ?_ _ | refine blk_drew ?_ | refine blk_alloc ?_ _)); apply bq2_1_0_; (with_reducible repeat (first | refine blk_drewN ?_ _ | refine blk_drew ?_ | refine blk_alloc ?_ _)); exact BK156.out⟩, ⟨bl_⟩⟩
          ·replace c35 := Bool.eq_false_iff.mpr c35
           subst c35
           replace H := in_ H
           have H' := Aside0.mk H
           clear H
           have hnb36 := NB156_147.out
           have hnc36 := NB147_156.out
           have hnb37 := NB156_148.out
           have hnc37 := NB148_156.out
           have hnb38 := NB156_151.out
           have hnc38 := NB151_156.out
           have hcz39_0 := cz_ BK156 0 (.int .i64 0)
           have hcz39_1 := cz_ BK156 1 (.string (⟨#[]⟩ : ByteArray))
           have hfz39_0 := fz_ BK156 0
           have hfz39_1 := fz_ BK156 1
           go_wp2
           go_meet
           case rel => exact ⟨_, (decide (((rd_T67 l0_1 x28_2).f0) ≥ a1)), sp_, H', ⟨by have := HJ3.out; have := HK2.out; first | omega | exact Nat.le_refl _⟩, ⟨by (with_reducible repeat (first | apply Kd.R_alloc | apply Kd.R_drewN | apply Kd.R_drew)); exact Kd.R_mono (Kd.R_far (p := ⟨gb156, 1, none⟩) (Kd.R_far (p := ⟨gb156, 0, none⟩) (Kd.R_mono HO_152001.out (fun k_ hk => (⟨hk, hk.2⟩ : _ ∧ k_ ≠ gb156))) (fun _ hk => hk.2) (.int .i64 ((rd_T67 l0_1 x28_2).f0))) (fun _ hk => hk.2) (.string ((rd_T67 l0_1 x28_2).f1))) (fun _ hk => hk.1.2)⟩, ⟨by (with_reducible repeat (first | refine blk_drewN ?_ _ | refine blk_drew ?_ | refine blk_alloc ?_ _)); refine blk_far ?_ NB147_156.out _; (with_reducible repeat (first | refine blk_drewN ?_ _ | refine blk_drew ?_ | refine blk_alloc ?_ _)); refine blk_far ?_ NB147_156.out _; (with_reducible repeat (first | refine blk_drewN ?_ _ | refine blk_drew ?_ | refine blk_alloc ?_ _)); exact BK147.out⟩, ⟨by (with_reducible repeat (first | refine blk_drewN ?_ _ | refine blk_drew ?_ | refine blk_alloc ?_ _)); refine blk_far ?_ NB148_156.out _; (with_reducible repeat (first | refine blk_drewN ?_ _ | refine blk_drew ?_ | refine blk_alloc ?_ _)); refine blk_far ?_ NB148_156.out _; (with_reducible repeat (first | refine blk_drewN ?_ _ | refine blk_drew ?_ | refine blk_alloc ?_ _)); exact BK148.out⟩, ⟨by (with_reducible repeat (first | refine blk_drewN ?_ _ | refine blk_drew ?_ | refine blk_alloc ?_ _)); refine blk_far ?_ NB151_156.out _; (with_reducible repeat (first | refine blk_drewN ?_ _ | refine blk_drew ?_ | refine blk_alloc ?_ _)); refine blk_far ?_ NB151_156.out _; (with_reducible repeat (first | refine blk_drewN ?_ _ | refine blk_drew ?_ | refine blk_alloc ?_ _)); exact BK151.out⟩, ⟨by (with_reducible repeat (first | refine blk_drewN ?_ _ | refine blk_drew ?_ | refine blk_alloc ?_ _)); apply bq2_1_0_; (with_reducible repeat (first | refine blk_drewN ?_ _ | refine blk_drew ?_ | refine blk_alloc ?_ _)); exact BK156.out⟩, ⟨bl_⟩⟩
         case rest =>
          clear HC29
          try clear c1
          try clear p1
          try clear q1
          try clear hx1
          try clear c2
          try clear p2
          try clear c3
          try clear c7
          try clear c8
          try clear c10
          try clear c13
          try clear p15
          try clear q15
          try clear hx15
          try clear c16
          try clear c17
          try clear c19
          try clear c22
          try clear c23
          try clear c26
          try clear c26b0
          try clear c27
          try clear c27b0
          try clear c28
          try clear c28b0
          try clear c30
          try clear c31
          try clear c32
          try clear c33
          try clear c35
          try clear c36
          try clear c37
          try clear c38
          try clear hcz11_0
          try clear hcz11_1
          try clear hcz14_0
          try clear hcz14_1
          try clear hcz18_0
          try clear hcz18_1
          try clear hcz20_0
          try clear hcz20_1
          try clear hcz24_0
          try clear hcz24_1
          try clear hcz25_0
          try clear hcz25_1
          try clear hcz34_0
          try clear hcz34_1
          try clear hcz39_0
          try clear hcz39_1
          try clear hfz11_0
          try clear hfz11_1
          try clear hfz14_0
          try clear hfz14_1
          try clear hfz18_0
          try clear hfz18_1
          try clear hfz20_0
          try clear hfz20_1
          try clear hfz24_0
          try clear hfz24_1
          try clear hfz25_0
          try clear hfz25_1
          try clear hfz34_0
          try clear hfz34_1
          try clear hfz39_0
          try clear hfz39_1
          try clear hx155_0
          try clear hx155_1
          try clear p155
          try clear p2
          try clear q155
          obtain ⟨kq, x39_28, rfl, HA, HJ28, HO_152001, BK147, BK148, BK151, BK156, HB⟩ := hcut
          cases kq with
          | zero => exact absurd HA.out (by simp [spec_WithField.j2])
          | succ kj28 =>
           have H := HA.out
           clear HA
           simp only [spec_WithField.j2] at H
           by_cases c40 : x39_28 = true
           ·subst c40
            replace H := ip_ H
            by_cases c41 : x152001_2.length < 5864062014805
            ·rw [if_pos c41] at H
             have LMc41 := Aside0.mk c41
             clear c41
             obtain ⟨y157, hy157⟩ : ∃ y_ : List (S67), y_ = (x152001_2 ++ [(⟨a1, a2⟩ : S67)]) := ⟨_, rfl⟩
             replace H : (if ((rd_T67 l0_1 x28_2).f0) = a1 then (spec_WithField.l0 kj28 a1 a2 true l0_1 (l0_1.length : Int) (wrap64 (x28_2 + 1)) a0_0 y157) else (if y157.length < 5864062014805 then (spec_WithField.l0 kj28 a1 a2 true l0_1 (l0_1.length : Int) (wrap64 (x28_2 + 1)) a0_0 (y157 ++ [(⟨((rd_T67 l0_1 x28_2).f0), ((rd_T67 l0_1 x28_2).f1)⟩ : S67)])) else (none))) = some (r1, r2, r3) := by first | (rw [hy157]; with_reducible exact H) | (have H2_ := (Option.bind_some _ _).symm.trans H; rw [hy157]; with_reducible exact H2_) | (have H2_ := (Option.bind_some _ _).symm.trans H; with_reducible exact H2_) | with_reducible exact H | (rw [hy157]; exact H) | exact H
             have Ny157 := Aside0.mk hy157
             clear hy157
             by_cases c42 : ((rd_T67 l0_1 x28_2).f0) = a1
             ·rw [if_pos c42] at H
              have c42b0 : (((rd_T67 l0_1 x28_2).f0) == a1) = true := beq_iff_eq.mpr c42
              have c42b1 : (((rd_T67 l0_1 x28_2).f0) != a1) = false := bne_eq_false_iff_eq.mpr c42
              clear c42
              have H' := Aside0.mk H
              clear H
              have hnb43 := NB151_147.out
              have hnc43 := NB147_151.out
              have hnb44 := NB151_148.out
              have hnc44 := NB148_151.out
              have hnb45 := NB151_156.out
              have hnc45 := NB156_151.out
              have hcz46_0 := cz_ BK151 0 (.string a0_0)
              have hcz46_1 := cz_ BK151 1 (u152001)
              have hfz46_0 := fz_ BK151 0
              have hfz46_1 := fz_ BK151 1
              go_wp2_with (first | ((with_reducible refine gate_builtin (b := .append) (xs := #[.tmp 41, .tmp 45]) rfl ?_); at_builtin; refine Kd.R_append k67 (w0 := w) w.heap.size rfl (.tmp 41) (.tmp 45) 40 67 (.agg #[(.int .i64 0), (.string ⟨#[]⟩)]) 24 rfl Tryd.underlying40 info67 rfl (by decide) (by omega) u152001 x152001_2 (⟨a1, a2⟩ : S67) [.int .i64 a1, .string a2] (fun k_ => k_ ≠ gb156) (fun _ => False) rfl rfl ?aP (fun _ hk => hk.elim) ?aF ?aO ?aB ?aS ?aL ?_; (case aP => exact k67_mkM _ _ _ (⟨a1, a2⟩ : S67)); (case aB => exact bl_); (case aF => exact (fun k_ hk => Kd.freshB (bk_ BK156) k_ hk)); (case aO => exact (ra_ HO_152001)); (case aS => exact (below_size bl_)); (case aL => have := LMc41.out; omega); intro v158 w47 ho hb hg hat; rw [← Ny157.out] at ho; have n0_ := Aside0.mk (blk_grown (bk_ BK147) hg (Kd.R_ne HO_152001.out BK147.out (by decide))); have n1_ := Aside0.mk (blk_grown (bk_ BK148) hg (Kd.R_ne HO_152001.out BK148.out (by decide))); have n2_ := Aside0.mk (blk_grown (bk_ BK151) hg (Kd.R_ne HO_152001.out BK151.out (by decide))); have n3_ := Aside0.mk (blk_grown (bk_ BK156) hg (Kd.R_away HO_152001.out (fun _ hk => hk))); have n4_ := Aside0.mk (hb); have n5_ := Aside0.mk (ho); clear BK147; clear BK148; clear BK151; clear BK156; clear HB; clear HO_152001; have BK147 := n0_; have BK148 := n1_; have BK151 := n2_; have BK156 := n3_; have HB := n4_; have HO159 := n5_; clear n0_ n1_ n2_ n3_ n4_ n5_; clear ho hb hg hat; obtain ⟨Ao48, co48, eo48⟩ := Kd.R_slice HO159.out; subst eo48; obtain ⟨hcz49_0, hcz49_1, hfz49_0, hfz49_1⟩ := bx2_ BK151; have hnb50 := NB156_147.out; have hnc50 := NB147_156.out; have hnb51 := NB156_148.out; have hnc51 := NB148_156.out; obtain ⟨hcz52_0, hcz52_1, hfz52_0, hfz52_1⟩ := bx2_ BK156))
              go_roundg kj28
              case measure => have := HJ3.out; have := HK2.out; have := HJ28.out; omega
              case rel => exact ⟨(true), (wrap64 (x28_2 + 1)), (y157), (.slice Ao48 y157.length co48), sp_, sp_, H', ⟨by have := HJ3.out; have := HK2.out; have := HJ28.out; omega⟩, ⟨by (with_reducible repeat (first | apply Kd.R_alloc | apply Kd.R_drewN | apply Kd.R_drew)); exact Kd.R_mono (Kd.R_far (p := ⟨gb151, 1, none⟩) (Kd.R_types HO159.out BK151.out (by decide)) (fun _ hk => hk.2) (.slice Ao48 y157.length co48)) (fun _ hk => trivial)⟩, ⟨by (with_reducible repeat (first | refine blk_drewN ?_ _ | refine blk_drew ?_ | refine blk_alloc ?_ _)); refine blk_far ?_ NB147_151.out _; (with_reducible repeat (first | refine blk_drewN ?_ _ | refine blk_drew ?_ | refine blk_alloc ?_ _)); exact BK147.out⟩, ⟨by (with_reducible repeat (first | refine blk_drewN ?_ _ | refine blk_drew ?_ | refine blk_alloc ?_ _)); refine blk_far ?_ NB148_151.out _; (with_reducible repeat (first | refine blk_drewN ?_ _ | refine blk_drew ?_ | refine blk_alloc ?_ _)); exact BK148.out⟩, ⟨by (with_reducible repeat (first | refine blk_drewN ?_ _ | refine blk_drew ?_ | refine blk_alloc ?_ _)); apply bq2_1_; (with_reducible repeat (first | refine blk_drewN ?_ _ | refine blk_drew ?_ | refine blk_alloc ?_ _)); exact BK151.out⟩, ⟨bl_⟩⟩
             ·rw [if_neg c42] at H
              have c42b0 : (((rd_T67 l0_1 x28_2).f0) == a1) = false := beq_eq_false_iff_ne.mpr c42
              have c42b1 : (((rd_T67 l0_1 x28_2).f0) != a1) = true := bne_iff_ne.mpr c42
              by_cases c53 : y157.length < 5864062014805
              ·rw [if_pos c53] at H
               have LMc53 := Aside0.mk c53
               clear c53
               obtain ⟨y160, hy160⟩ : ∃ y_ : List (S67), y_ = (y157 ++ [(⟨((rd_T67 l0_1 x28_2).f0), ((rd_T67 l0_1 x28_2).f1)⟩ : S67)]) := ⟨_, rfl⟩
               replace H : (spec_WithField.l0 kj28 a1 a2 true l0_1 (l0_1.length : Int) (wrap64 (x28_2 + 1)) a0_0 y160) = some (r1, r2, r3) := by first | (rw [hy160]; with_reducible exact H) | (have H2_ := (Option.bind_some _ _).symm.trans H; rw [hy160]; with_reducible exact H2_) | (have H2_ := (Option.bind_some _ _).symm.trans H; with_reducible exact H2_) | with_reducible exact H | (rw [hy160]; exact H) | exact H
               have Ny160 := Aside0.mk hy160
               clear hy160
               have H' := Aside0.mk H
               clear H
               have hnb54 := NB151_147.out
               have hnc54 := NB147_151.out
               have hnb55 := NB151_148.out
               have hnc55 := NB148_151.out
               have hnb56 := NB151_156.out
               have hnc56 := NB156_151.out
               have hcz57_0 := cz_ BK151 0 (.string a0_0)
               have hcz57_1 := cz_ BK151 1 (u152001)
               have hfz57_0 := fz_ BK151 0
               have hfz57_1 := fz_ BK151 1
               go_wp2_with (first | ((with_reducible refine gate_builtin (b := .append) (xs := #[.tmp 41, .tmp 45]) rfl ?_); at_builtin; refine Kd.R_append k67 (w0 := w) w.heap.size rfl (.tmp 41) (.tmp 45) 40 67 (.agg #[(.int .i64 0), (.string ⟨#[]⟩)]) 24 rfl Tryd.underlying40 info67 rfl (by decide) (by omega) u152001 x152001_2 (⟨a1, a2⟩ : S67) [.int .i64 a1, .string a2] (fun k_ => k_ ≠ gb156) (fun _ => False) rfl rfl ?aP (fun _ hk => hk.elim) ?aF ?aO ?aB ?aS ?aL ?_; (case aP => exact k67_mkM _ _ _ (⟨a1, a2⟩ : S67)); (case aB => exact bl_); (case aF => exact (fun k_ hk => Kd.freshB (bk_ BK156) k_ hk)); (case aO => exact (ra_ HO_152001)); (case aS => exact (below_size bl_)); (case aL => have := LMc41.out; omega); intro v158 w58 ho hb hg hat; rw [← Ny157.out] at ho; have n0_ := Aside0.mk (blk_grown (bk_ BK147) hg (Kd.R_ne HO_152001.out BK147.out (by decide))); have n1_ := Aside0.mk (blk_grown (bk_ BK148) hg (Kd.R_ne HO_152001.out BK148.out (by decide))); have n2_ := Aside0.mk (blk_grown (bk_ BK151) hg (Kd.R_ne HO_152001.out BK151.out (by decide))); have n3_ := Aside0.mk (blk_grown (bk_ BK156) hg (Kd.R_away HO_152001.out (fun _ hk => hk))); have n4_ := Aside0.mk (hb); have n5_ := Aside0.mk (ho); clear BK147; clear BK148; clear BK151; clear BK156; clear HB; clear HO_152001; have BK147 := n0_; have BK148 := n1_; have BK151 := n2_; have BK156 := n3_; have HB := n4_; have HO159 := n5_; clear n0_ n1_ n2_ n3_ n4_ n5_; clear ho hb hg hat; obtain ⟨Ao59, co59, eo59⟩ := Kd.R_slice HO159.out; subst eo59; obtain ⟨hcz60_0, hcz60_1, hfz60_0, hfz60_1⟩ := bx2_ BK151; have hnb61 := NB156_147.out; have hnc61 := NB147_156.out; have hnb62 := NB156_148.out; have hnc62 := NB148_156.out; obtain ⟨hcz63_0, hcz63_1, hfz63_0, hfz63_1⟩ := bx2_ BK156) | ((with_reducible refine gate_builtin (b := .append) (xs := #[.tmp 53, .tmp 55]) rfl ?_); at_builtin; refine Kd.R_append k67 (w0 := w) w.heap.size rfl (.tmp 53) (.tmp 55) 40 67 (.agg #[(.int .i64 0), (.string ⟨#[]⟩)]) 24 rfl Tryd.underlying40 info67 rfl (by decide) (by omega) (.slice Ao59 y157.length co59) y157 (⟨((rd_T67 l0_1 x28_2).f0), ((rd_T67 l0_1 x28_2).f1)⟩ : S67) [.int .i64 ((rd_T67 l0_1 x28_2).f0), .string ((rd_T67 l0_1 x28_2).f1)] (fun k_ => k_ ≠ gb156) (fun _ => False) rfl (by first | (go_simp; done) | (go_simp; rfl)) ?aP (fun _ hk => hk.elim) ?aF ?aO ?aB ?aS ?aL ?_; (case aP => exact k67_mkM _ _ _ (⟨((rd_T67 l0_1 x28_2).f0), ((rd_T67 l0_1 x28_2).f1)⟩ : S67)); (case aB => exact bl_); (case aF => exact (fun k_ hk => Kd.freshB (g := gb156) (o := .cells #[.int .i64 ((rd_T67 l0_1 x28_2).f0), .string ((rd_T67 l0_1 x28_2).f1)] 67 (0, 0)) (by (with_reducible repeat (first | refine blk_drewN ?_ _ | refine blk_drew ?_ | refine blk_alloc ?_ _)); refine blk_far ?_ NB156_151.out _; (with_reducible repeat (first | refine blk_drewN ?_ _ | refine blk_drew ?_ | refine blk_alloc ?_ _)); exact BK156.out) k_ hk)); (case aO => exact (by (with_reducible repeat (first | apply Kd.R_alloc | apply Kd.R_drewN | apply Kd.R_drew)); exact Kd.R_mono (Kd.R_far (p := ⟨gb151, 1, none⟩) (Kd.R_types HO159.out BK151.out (by decide)) (fun _ hk => hk.2) (.slice Ao59 y157.length co59)) (fun _ hk => hk.1))); (case aS => exact (below_size bl_)); (case aL => have := LMc53.out; omega); intro v161 w64 ho hb hg hat; rw [← Ny160.out] at ho; have n0_ := Aside0.mk (blk_grown (g := gb147) (o := .cells #[.string a0_0, .slice (some ad155) l0_1.length c0_1] 42 (0, 0)) (by (with_reducible repeat (first | refine blk_drewN ?_ _ | refine blk_drew ?_ | refine blk_alloc ?_ _)); refine blk_far ?_ NB147_151.out _; (with_reducible repeat (first | refine blk_drewN ?_ _ | refine blk_drew ?_ | refine blk_alloc ?_ _)); exact BK147.out) hg (Kd.R_ne HO159.out BK147.out (by decide))); have n1_ := Aside0.mk (blk_grown (g := gb148) (o := .cells #[.string (⟨#[]⟩ : ByteArray), .slice none 0 0] 42 (0, 0)) (by (with_reducible repeat (first | refine blk_drewN ?_ _ | refine blk_drew ?_ | refine blk_alloc ?_ _)); refine blk_far ?_ NB148_151.out _; (with_reducible repeat (first | refine blk_drewN ?_ _ | refine blk_drew ?_ | refine blk_alloc ?_ _)); exact BK148.out) hg (Kd.R_ne HO159.out BK148.out (by decide))); have n2_ := Aside0.mk (blk_grown (g := gb151) (o := .cells #[.string a0_0, .slice Ao59 y157.length co59] 42 (0, 0)) (by (with_reducible repeat (first | refine blk_drewN ?_ _ | refine blk_drew ?_ | refine blk_alloc ?_ _)); apply bq2_1_; (with_reducible repeat (first | refine blk_drewN ?_ _ | refine blk_drew ?_ | refine blk_alloc ?_ _)); exact BK151.out) hg (Kd.R_ne HO159.out BK151.out (by decide))); have n3_ := Aside0.mk (blk_grown (g := gb156) (o := .cells #[.int .i64 ((rd_T67 l0_1 x28_2).f0), .string ((rd_T67 l0_1 x28_2).f1)] 67 (0, 0)) (by (with_reducible repeat (first | refine blk_drewN ?_ _ | refine blk_drew ?_ | refine blk_alloc ?_ _)); refine blk_far ?_ NB156_151.out _; (with_reducible repeat (first | refine blk_drewN ?_ _ | refine blk_drew ?_ | refine blk_alloc ?_ _)); exact BK156.out) hg (Kd.R_away HO159.out (fun _ hk => hk))); have n4_ := Aside0.mk (hb); have n5_ := Aside0.mk (ho); clear BK147; clear BK148; clear BK151; clear BK156; clear HB; clear HO159; have BK147 := n0_; have BK148 := n1_; have BK151 := n2_; have BK156 := n3_; have HB := n4_; have HO162 := n5_; clear n0_ n1_ n2_ n3_ n4_ n5_; clear ho hb hg hat; obtain ⟨Ao65, co65, eo65⟩ := Kd.R_slice HO162.out; subst eo65; obtain ⟨hcz66_0, hcz66_1, hfz66_0, hfz66_1⟩ := bx2_ BK151))
               go_roundg kj28
               case measure => have := HJ3.out; have := HK2.out; have := HJ28.out; omega
               case rel => exact ⟨(true), (wrap64 (x28_2 + 1)), (y160), (.slice Ao65 y160.length co65), sp_, sp_, H', ⟨by have := HJ3.out; have := HK2.out; have := HJ28.out; omega⟩, ⟨by (with_reducible repeat (first | apply Kd.R_alloc | apply Kd.R_drewN | apply Kd.R_drew)); exact Kd.R_mono (Kd.R_far (p := ⟨gb151, 1, none⟩) (Kd.R_types HO162.out BK151.out (by decide)) (fun _ hk => hk.2) (.slice Ao65 y160.length co65)) (fun _ hk => trivial)⟩, ⟨by (with_reducible repeat (first | refine blk_drewN ?_ _ | refine blk_drew ?_ | refine blk_alloc ?_ _)); refine blk_far ?_ NB147_151.out _; (with_reducible repeat (first | refine blk_drewN ?_ _ | refine blk_drew ?_ | refine blk_alloc ?_ _)); exact BK147.out⟩, ⟨by (with_reducible repeat (first | refine blk_drewN ?_ _ | refine blk_drew ?_ | refine blk_alloc ?_ _)); refine blk_far ?_ NB148_151.out _; (with_reducible repeat (first | refine blk_drewN ?_ _ | refine blk_drew ?_ | refine blk_alloc ?_ _)); exact BK148.out⟩, ⟨by (with_reducible repeat (first | refine blk_drewN ?_ _ | refine blk_drew ?_ | refine blk_alloc ?_ _)); apply bq2_1_; (with_reducible repeat (first | refine blk_drewN ?_ _ | refine blk_drew ?_ | refine blk_alloc ?_ _)); exact BK151.out⟩, ⟨bl_⟩⟩
              ·rw [if_neg c53] at H
               exact absurd H (by simp)
            ·rw [if_neg c41] at H
             exact absurd H (by simp)
           ·replace c40 := Bool.eq_false_iff.mpr c40
            subst c40
            replace H := in_ H
            by_cases c67 : ((rd_T67 l0_1 x28_2).f0) = a1
            ·rw [if_pos c67] at H
             have c67b0 : (((rd_T67 l0_1 x28_2).f0) == a1) = true := beq_iff_eq.mpr c67
             have c67b1 : (((rd_T67 l0_1 x28_2).f0) != a1) = false := bne_eq_false_iff_eq.mpr c67
             clear c67
             have H' := Aside0.mk H
             clear H
             have hnb68 := NB156_147.out
             have hnc68 := NB147_156.out
             have hnb69 := NB156_148.out
             have hnc69 := NB148_156.out
             have hnb70 := NB156_151.out
             have hnc70 := NB151_156.out
             have hcz71_0 := cz_ BK156 0 (.int .i64 ((rd_T67 l0_1 x28_2).f0))
             have hcz71_1 := cz_ BK156 1 (.string ((rd_T67 l0_1 x28_2).f1))
             have hfz71_0 := fz_ BK156 0
             have hfz71_1 := fz_ BK156 1
             go_wp2
             go_roundg kj28
             case measure => have := HJ3.out; have := HK2.out; have := HJ28.out; omega
             case rel => exact ⟨(x9_2), (wrap64 (x28_2 + 1)), (x152001_2), (u152001), sp_, sp_, H', ⟨by have := HJ3.out; have := HK2.out; have := HJ28.out; omega⟩, ⟨by (with_reducible repeat (first | apply Kd.R_alloc | apply Kd.R_drewN | apply Kd.R_drew)); exact Kd.R_mono HO_152001.out (fun _ hk => trivial)⟩, ⟨by (with_reducible repeat (first | refine blk_drewN ?_ _ | refine blk_drew ?_ | refine blk_alloc ?_ _)); exact BK147.out⟩, ⟨by (with_reducible repeat (first | refine blk_drewN ?_ _ | refine blk_drew ?_ | refine blk_alloc ?_ _)); exact BK148.out⟩, ⟨by (with_reducible repeat (first | refine blk_drewN ?_ _ | refine blk_drew ?_ | refine blk_alloc ?_ _)); exact BK151.out⟩, ⟨bl_⟩⟩
            ·rw [if_neg c67] at H
             have c67b0 : (((rd_T67 l0_1 x28_2).f0) == a1) = false := beq_eq_false_iff_ne.mpr c67
             have c67b1 : (((rd_T67 l0_1 x28_2).f0) != a1) = true := bne_iff_ne.mpr c67
             by_cases c72 : x152001_2.length < 5864062014805
             ·rw [if_pos c72] at H
              have LMc72 := Aside0.mk c72
              clear c72
              obtain ⟨y163, hy163⟩ : ∃ y_ : List (S67), y_ = (x152001_2 ++ [(⟨((rd_T67 l0_1 x28_2).f0), ((rd_T67 l0_1 x28_2).f1)⟩ : S67)]) := ⟨_, rfl⟩
              replace H : (spec_WithField.l0 kj28 a1 a2 x9_2 l0_1 (l0_1.length : Int) (wrap64 (x28_2 + 1)) a0_0 y163) = some (r1, r2, r3) := by first | (rw [hy163]; with_reducible exact H) | (have H2_ := (Option.bind_some _ _).symm.trans H; rw [hy163]; with_reducible exact H2_) | (have H2_ := (Option.bind_some _ _).symm.trans H; with_reducible exact H2_) | with_reducible exact H | (rw [hy163]; exact H) | exact H
              have Ny163 := Aside0.mk hy163
              clear hy163
              have H' := Aside0.mk H
              clear H
              have hnb73 := NB156_147.out
              have hnc73 := NB147_156.out
              have hnb74 := NB156_148.out
              have hnc74 := NB148_156.out
              have hnb75 := NB156_151.out
              have hnc75 := NB151_156.out
              have hcz76_0 := cz_ BK156 0 (.int .i64 ((rd_T67 l0_1 x28_2).f0))
              have hcz76_1 := cz_ BK156 1 (.string ((rd_T67 l0_1 x28_2).f1))
              have hfz76_0 := fz_ BK156 0
              have hfz76_1 := fz_ BK156 1
              have hnb77 := NB151_147.out
              have hnc77 := NB147_151.out
              have hnb78 := NB151_148.out
              have hnc78 := NB148_151.out
              have hcz79_0 := cz_ BK151 0 (.string a0_0)
              have hcz79_1 := cz_ BK151 1 (u152001)
              have hfz79_0 := fz_ BK151 0
              have hfz79_1 := fz_ BK151 1
              go_wp2_with (first | ((with_reducible refine gate_builtin (b := .append) (xs := #[.tmp 53, .tmp 55]) rfl ?_); at_builtin; refine Kd.R_append k67 (w0 := w) w.heap.size rfl (.tmp 53) (.tmp 55) 40 67 (.agg #[(.int .i64 0), (.string ⟨#[]⟩)]) 24 rfl Tryd.underlying40 info67 rfl (by decide) (by omega) u152001 x152001_2 (⟨((rd_T67 l0_1 x28_2).f0), ((rd_T67 l0_1 x28_2).f1)⟩ : S67) [.int .i64 ((rd_T67 l0_1 x28_2).f0), .string ((rd_T67 l0_1 x28_2).f1)] (fun k_ => k_ ≠ gb156) (fun _ => False) rfl rfl ?aP (fun _ hk => hk.elim) ?aF ?aO ?aB ?aS ?aL ?_; (case aP => exact k67_mkM _ _ _ (⟨((rd_T67 l0_1 x28_2).f0), ((rd_T67 l0_1 x28_2).f1)⟩ : S67)); (case aB => exact bl_); (case aF => exact (fun k_ hk => Kd.freshB (bk_ BK156) k_ hk)); (case aO => exact (ra_ HO_152001)); (case aS => exact (below_size bl_)); (case aL => have := LMc72.out; omega); intro v164 w80 ho hb hg hat; rw [← Ny163.out] at ho; have n0_ := Aside0.mk (blk_grown (bk_ BK147) hg (Kd.R_ne HO_152001.out BK147.out (by decide))); have n1_ := Aside0.mk (blk_grown (bk_ BK148) hg (Kd.R_ne HO_152001.out BK148.out (by decide))); have n2_ := Aside0.mk (blk_grown (bk_ BK151) hg (Kd.R_ne HO_152001.out BK151.out (by decide))); have n3_ := Aside0.mk (blk_grown (bk_ BK156) hg (Kd.R_away HO_152001.out (fun _ hk => hk))); have n4_ := Aside0.mk (hb); have n5_ := Aside0.mk (ho); clear BK147; clear BK148; clear BK151; clear BK156; clear HB; clear HO_152001; have BK147 := n0_; have BK148 := n1_; have BK151 := n2_; have BK156 := n3_; have HB := n4_; have HO165 := n5_; clear n0_ n1_ n2_ n3_ n4_ n5_; clear ho hb hg hat; obtain ⟨Ao81, co81, eo81⟩ := Kd.R_slice HO165.out; subst eo81; obtain ⟨hcz82_0, hcz82_1, hfz82_0, hfz82_1⟩ := bx2_ BK151))
              go_roundg kj28
              case measure => have := HJ3.out; have := HK2.out; have := HJ28.out; omega
              case rel => exact ⟨(x9_2), (wrap64 (x28_2 + 1)), (y163), (.slice Ao81 y163.length co81), sp_, sp_, H', ⟨by have := HJ3.out; have := HK2.out; have := HJ28.out; omega⟩, ⟨by (with_reducible repeat (first | apply Kd.R_alloc | apply Kd.R_drewN | apply Kd.R_drew)); exact Kd.R_mono (Kd.R_far (p := ⟨gb151, 1, none⟩) (Kd.R_types HO165.out BK151.out (by decide)) (fun _ hk => hk.2) (.slice Ao81 y163.length co81)) (fun _ hk => trivial)⟩, ⟨by (with_reducible repeat (first | refine blk_drewN ?_ _ | refine blk_drew ?_ | refine blk_alloc ?_ _)); refine blk_far ?_ NB147_151.out _; (with_reducible repeat (first | refine blk_drewN ?_ _ | refine blk_drew ?_ | refine blk_alloc ?_ _)); exact BK147.out⟩, ⟨by (with_reducible repeat (first | refine blk_drewN ?_ _ | refine blk_drew ?_ | refine blk_alloc ?_ _)); refine blk_far ?_ NB148_151.out _; (with_reducible repeat (first | refine blk_drewN ?_ _ | refine blk_drew ?_ | refine blk_alloc ?_ _)); exact BK148.out⟩, ⟨by (with_reducible repeat (first | refine blk_drewN ?_ _ | refine blk_drew ?_ | refine blk_alloc ?_ _)); apply bq2_1_; (with_reducible repeat (first | refine blk_drewN ?_ _ | refine blk_drew ?_ | refine blk_alloc ?_ _)); exact BK151.out⟩, ⟨bl_⟩⟩
             ·rw [if_neg c72] at H
              exact absurd H (by simp)
        ·rw [if_neg c28] at H
         exact absurd H (by simp)
       ·rw [if_neg c27] at H
        exact absurd H (by simp)
      ·rw [if_neg c26] at H
       have c26b0 : decide (x28_2 < (l0_1.length : Int)) = false := decide_eq_false c26
       clear c26
       by_cases c83 : x9_2 = true
       ·subst c83
        replace H := ip_ H
        simp only [Option.some.injEq, Prod.mk.injEq] at H
        obtain ⟨rfl, rfl, rfl⟩ := H
        have hnb84 := NB151_147.out
        have hnc84 := NB147_151.out
        have hnb85 := NB151_148.out
        have hnc85 := NB148_151.out
        have hcz86_0 := cz_ BK151 0 (.string a0_0)
        have hcz86_1 := cz_ BK151 1 (u152001)
        have hfz86_0 := fz_ BK151 0
        have hfz86_1 := fz_ BK151 1
        have hnb87 := NB148_147.out
        have hnc87 := NB147_148.out
        have hcz88_0 := cz_ BK148 0 (.string (⟨#[]⟩ : ByteArray))
        have hcz88_1 := cz_ BK148 1 (.slice none 0 0)
        have hfz88_0 := fz_ BK148 0
        have hfz88_1 := fz_ BK148 1
        obtain ⟨Ao89, co89, eo89⟩ := Kd.R_slice HO_152001.out
        subst eo89
        go_wp2
        refine bodyPost_ret (results_ct rfl _ _ gb148 42 #[.string a0_0, .slice Ao89 x152001_2.length co89] (0, 0) _ rfl (by (with_reducible repeat (first | refine blk_drewN ?_ _ | refine blk_drew ?_ | refine blk_alloc ?_ _)); apply bq2_1_0_; (with_reducible repeat (first | refine blk_drewN ?_ _ | refine blk_drew ?_ | refine blk_alloc ?_ _)); exact BK148.out) Tryd.underlying42 rfl (by kernel_rfl)) rfl ?_
        exact ⟨_, by first | rfl | (simp [errW_none, errW_some] <;> rfl) | (simp [*, errW_none, errW_some] <;> rfl), by (with_reducible repeat (first | apply Kd.R_alloc | apply Kd.R_drewN | apply Kd.R_drew)); exact Kd.R_mono (Kd.R_far (p := ⟨gb148, 1, none⟩) (Kd.R_far (p := ⟨gb148, 0, none⟩) (Kd.R_types HO_152001.out BK148.out (by decide)) (fun _ hk => hk.2) (.string a0_0)) (fun _ hk => hk.2) (.slice Ao89 x152001_2.length co89)) (fun _ hk => trivial), bl_⟩
       ·replace c83 := Bool.eq_false_iff.mpr c83
        subst c83
        replace H := in_ H
        by_cases c90 : x152001_2.length < 5864062014805
        ·rw [if_pos c90] at H
         have LMc90 := Aside0.mk c90
         clear c90
         obtain ⟨y152, hy152⟩ : ∃ y_ : List (S67), y_ = (x152001_2 ++ [(⟨a1, a2⟩ : S67)]) := ⟨_, rfl⟩
         replace H : (some (a0_0, y152, true)) = some (r1, r2, r3) := by first | (rw [hy152]; with_reducible exact H) | (have H2_ := (Option.bind_some _ _).symm.trans H; rw [hy152]; with_reducible exact H2_) | (have H2_ := (Option.bind_some _ _).symm.trans H; with_reducible exact H2_) | with_reducible exact H | (rw [hy152]; exact H) | exact H
         have Ny152 := Aside0.mk hy152
         clear hy152
         simp only [Option.some.injEq, Prod.mk.injEq] at H
         obtain ⟨rfl, rfl, rfl⟩ := H
         have hnb91 := NB151_147.out
         have hnc91 := NB147_151.out
         have hnb92 := NB151_148.out
         have hnc92 := NB148_151.out
         have hcz93_0 := cz_ BK151 0 (.string a0_0)
         have hcz93_1 := cz_ BK151 1 (u152001)
         have hfz93_0 := fz_ BK151 0
         have hfz93_1 := fz_ BK151 1
         go_wp2_with (first | ((with_reducible refine gate_builtin (b := .append) (xs := #[.tmp 62, .tmp 66]) rfl ?_); at_builtin; refine Kd.R_append k67 (w0 := w) w.heap.size rfl (.tmp 62) (.tmp 66) 40 67 (.agg #[(.int .i64 0), (.string ⟨#[]⟩)]) 24 rfl Tryd.underlying40 info67 rfl (by decide) (by omega) u152001 x152001_2 (⟨a1, a2⟩ : S67) [.int .i64 a1, .string a2] (fun _ => True) (fun _ => False) rfl rfl ?aP (fun _ hk => hk.elim) ?aF ?aO ?aB ?aS ?aL ?_; (case aP => exact k67_mkM _ _ _ (⟨a1, a2⟩ : S67)); (case aB => exact bl_); (case aF => exact (fun _ _ => trivial)); (case aO => exact (ra_ HO_152001)); (case aS => exact (below_size bl_)); (case aL => have := LMc90.out; omega); intro v153 w94 ho hb hg hat; rw [← Ny152.out] at ho; have n0_ := Aside0.mk (blk_grown (bk_ BK147) hg (Kd.R_ne HO_152001.out BK147.out (by decide))); have n1_ := Aside0.mk (blk_grown (bk_ BK148) hg (Kd.R_ne HO_152001.out BK148.out (by decide))); have n2_ := Aside0.mk (blk_grown (bk_ BK151) hg (Kd.R_ne HO_152001.out BK151.out (by decide))); have n3_ := Aside0.mk (hb); have n4_ := Aside0.mk (ho); clear BK147; clear BK148; clear BK151; clear HB; clear HO_152001; have BK147 := n0_; have BK148 := n1_; have BK151 := n2_; have HB := n3_; have HO154 := n4_; clear n0_ n1_ n2_ n3_ n4_; clear ho hb hg hat; obtain ⟨Ao95, co95, eo95⟩ := Kd.R_slice HO154.out; subst eo95; obtain ⟨hcz96_0, hcz96_1, hfz96_0, hfz96_1⟩ := bx2_ BK151; have hnb97 := NB148_147.out; have hnc97 := NB147_148.out; obtain ⟨hcz98_0, hcz98_1, hfz98_0, hfz98_1⟩ := bx2_ BK148))
         refine bodyPost_ret (results_ct rfl _ _ gb148 42 #[.string a0_0, .slice Ao95 y152.length co95] (0, 0) _ rfl (by (with_reducible repeat (first | refine blk_drewN ?_ _ | refine blk_drew ?_ | refine blk_alloc ?_ _)); apply bq2_1_0_; (with_reducible repeat (first | refine blk_drewN ?_ _ | refine blk_drew ?_ | refine blk_alloc ?_ _)); refine blk_far ?_ NB148_151.out _; (with_reducible repeat (first | refine blk_drewN ?_ _ | refine blk_drew ?_ | refine blk_alloc ?_ _)); exact BK148.out) Tryd.underlying42 rfl (by kernel_rfl)) rfl ?_
         exact ⟨_, by first | rfl | (simp [errW_none, errW_some] <;> rfl) | (simp [*, errW_none, errW_some] <;> rfl), by (with_reducible repeat (first | apply Kd.R_alloc | apply Kd.R_drewN | apply Kd.R_drew)); exact Kd.R_mono (Kd.R_far (p := ⟨gb148, 1, none⟩) (Kd.R_far (p := ⟨gb148, 0, none⟩) (Kd.R_far (p := ⟨gb151, 1, none⟩) (Kd.R_types (Kd.R_types HO154.out BK151.out (by decide)) BK148.out (by decide)) (fun _ hk => hk.1.2) (.slice Ao95 y152.length co95)) (fun _ hk => hk.2) (.string a0_0)) (fun _ hk => hk.2) (.slice Ao95 y152.length co95)) (fun _ hk => trivial), bl_⟩
        ·rw [if_neg c90] at H
         exact absurd H (by simp)
/-! ### spec_l11Codes: function 72 -/
def spec_l11Codes.f  : Option (List ByteArray) := some (([(⟨#[]⟩ : ByteArray), (⟨#[48, 48]⟩ : ByteArray), (⟨#[48, 50]⟩ : ByteArray), (⟨#[48, 49]⟩ : ByteArray), (⟨#[48, 48]⟩ : ByteArray), (⟨#[50, 48]⟩ : ByteArray), (⟨#[52, 48]⟩ : ByteArray), (⟨#[51, 49]⟩ : ByteArray), (⟨#[57, 48]⟩ : ByteArray)] : List ByteArray))
set_option maxHeartbeats 8000000 in
set_option maxRecDepth 100000 in
theorem spec_l11Codes.calls  (r : List ByteArray) (w : World) (h : spec_l11Codes.f  = some r) :
  Calls Tryd.prog 72 #[] w fun e w' => ∃ v0_ : Value, e = .returned (v0_) ∧ Kd.R Kd.string 9 w' w.heap.size (fun _ => True) v0_ r ∧ Below w.heap.size w w' := by
 have HB := Aside0.mk (Below.refl w.heap.size w)
 have H : (some (([(⟨#[]⟩ : ByteArray), (⟨#[48, 48]⟩ : ByteArray), (⟨#[48, 50]⟩ : ByteArray), (⟨#[48, 49]⟩ : ByteArray), (⟨#[48, 48]⟩ : ByteArray), (⟨#[50, 48]⟩ : ByteArray), (⟨#[52, 48]⟩ : ByteArray), (⟨#[51, 49]⟩ : ByteArray), (⟨#[57, 48]⟩ : ByteArray)] : List ByteArray))) = some r := h
 clear h
 obtain ⟨y166, hy166⟩ : ∃ y_ : List ByteArray, y_ = (([(⟨#[]⟩ : ByteArray), (⟨#[48, 48]⟩ : ByteArray), (⟨#[48, 50]⟩ : ByteArray), (⟨#[48, 49]⟩ : ByteArray), (⟨#[48, 48]⟩ : ByteArray), (⟨#[50, 48]⟩ : ByteArray), (⟨#[52, 48]⟩ : ByteArray), (⟨#[51, 49]⟩ : ByteArray), (⟨#[57, 48]⟩ : ByteArray)] : List ByteArray)) := ⟨_, rfl⟩
 replace H : (some y166) = some r := by first | (rw [hy166]; with_reducible exact H) | (have H2_ := (Option.bind_some _ _).symm.trans H; rw [hy166]; with_reducible exact H2_) | (have H2_ := (Option.bind_some _ _).symm.trans H; with_reducible exact H2_) | with_reducible exact H | (rw [hy166]; exact H) | exact H
 have Ny166 := Aside0.mk hy166
 clear hy166
 obtain rfl := Option.some.inj H
 go_enter Tryd.func72, Tryd.ntmps72
 go_wp2_with (first | ((with_reducible refine gate_dst (N := 1) rfl ?_); refine Kd.R_lit Kd.string _ 9 ?hg (N := 1) ?hd (xs := ([(⟨#[]⟩ : ByteArray), (⟨#[48, 48]⟩ : ByteArray), (⟨#[48, 50]⟩ : ByteArray), (⟨#[48, 49]⟩ : ByteArray), (⟨#[48, 48]⟩ : ByteArray), (⟨#[50, 48]⟩ : ByteArray), (⟨#[52, 48]⟩ : ByteArray), (⟨#[51, 49]⟩ : ByteArray), (⟨#[57, 48]⟩ : ByteArray)] : List ByteArray)) (inner := [.string (⟨#[]⟩ : ByteArray), .string (⟨#[48, 48]⟩ : ByteArray), .string (⟨#[48, 50]⟩ : ByteArray), .string (⟨#[48, 49]⟩ : ByteArray), .string (⟨#[48, 48]⟩ : ByteArray), .string (⟨#[50, 48]⟩ : ByteArray), .string (⟨#[52, 48]⟩ : ByteArray), .string (⟨#[51, 49]⟩ : ByteArray), .string (⟨#[57, 48]⟩ : ByteArray)]) (ok := fun _ => True) (okp := fun _ => True) ?hr ?hp (fun _ hk => hk) trivial (Below.refl _ _) (Nat.le_refl _) (by simp) ?_; (case hd => rfl); (case hg => rfl); (case hr => first | (go_simp; done) | (go_simp; rfl)); (case hp => exact (Reps.one (show Kd.M Kd.string _ _ _ (⟨#[]⟩ : ByteArray) [.string (⟨#[]⟩ : ByteArray)] from rfl) (Reps.one (show Kd.M Kd.string _ _ _ (⟨#[48, 48]⟩ : ByteArray) [.string (⟨#[48, 48]⟩ : ByteArray)] from rfl) (Reps.one (show Kd.M Kd.string _ _ _ (⟨#[48, 50]⟩ : ByteArray) [.string (⟨#[48, 50]⟩ : ByteArray)] from rfl) (Reps.one (show Kd.M Kd.string _ _ _ (⟨#[48, 49]⟩ : ByteArray) [.string (⟨#[48, 49]⟩ : ByteArray)] from rfl) (Reps.one (show Kd.M Kd.string _ _ _ (⟨#[48, 48]⟩ : ByteArray) [.string (⟨#[48, 48]⟩ : ByteArray)] from rfl) (Reps.one (show Kd.M Kd.string _ _ _ (⟨#[50, 48]⟩ : ByteArray) [.string (⟨#[50, 48]⟩ : ByteArray)] from rfl) (Reps.one (show Kd.M Kd.string _ _ _ (⟨#[52, 48]⟩ : ByteArray) [.string (⟨#[52, 48]⟩ : ByteArray)] from rfl) (Reps.one (show Kd.M Kd.string _ _ _ (⟨#[51, 49]⟩ : ByteArray) [.string (⟨#[51, 49]⟩ : ByteArray)] from rfl) (Reps.one (show Kd.M Kd.string _ _ _ (⟨#[57, 48]⟩ : ByteArray) [.string (⟨#[57, 48]⟩ : ByteArray)] from rfl) (Reps.none _ _))))))))))); intro v167 w1 ho2 hb hg_ hnew_; clear hg_ hnew_; (first | rw [← Ny166.out] at ho2 | (simp only [Int.reduceToNat] at ho2; rw [← Ny166.out] at ho2)); have HO168 := Aside0.mk (Kd.R_lower ho2 (below_size bl_)); replace HB := Aside0.mk (below_step bl_ hb); clear hb ho2))
 go_ret
 exact ⟨_, by first | rfl | (simp [errW_none, errW_some] <;> rfl) | (simp [*, errW_none, errW_some] <;> rfl), ra_ HO168, bl_⟩
/-! ### spec_OpCode: function 31 -/
def spec_OpCode.f (a0 : Int) : Option (ByteArray) := (spec_l11Op.f a0).bind fun t169 => (if t169 = true then ((spec_l11Codes.f).bind fun t170 => (if 0 ≤ a0 then (if a0 < (t170.length : Int) then (some (rdOf ByteArray.empty t170 a0)) else (none)) else (none))) else (some (⟨#[]⟩ : ByteArray)))
set_option maxHeartbeats 8000000 in
set_option maxRecDepth 100000 in
theorem spec_OpCode.calls (a0 : Int) (r : ByteArray) (w : World) (h : spec_OpCode.f a0 = some r) :
  Calls Tryd.prog 31 #[.int .i64 a0] w fun e w' => e = .returned (.string r) ∧ Below w.heap.size w w' := by
 have HB := Aside0.mk (Below.refl w.heap.size w)
 have H : ((spec_l11Op.f a0).bind fun t169 => (if t169 = true then ((spec_l11Codes.f).bind fun t170 => (if 0 ≤ a0 then (if a0 < (t170.length : Int) then (some (rdOf ByteArray.empty t170 a0)) else (none)) else (none))) else (some (⟨#[]⟩ : ByteArray)))) = some r := h
 clear h
 obtain ⟨t169, A2, H⟩ := ob_ H
 by_cases c3 : t169 = true
 ·subst c3
  replace H := ip_ H
  obtain ⟨t170, A4, H⟩ := ob_ H
  by_cases c5 : 0 ≤ a0
  ·rw [if_pos c5] at H
   have c5b0 : decide (0 ≤ a0) = true := decide_eq_true c5
   clear c5
   by_cases c6 : a0 < (t170.length : Int)
   ·rw [if_pos c6] at H
    have c6b0 : decide (a0 < (t170.length : Int)) = true := decide_eq_true c6
    clear c6
    obtain rfl := Option.some.inj H
    go_enter Tryd.func31, Tryd.ntmps31
    go_wp2_with (first | ((with_reducible refine gate_callee (f := 64) rfl ?_); refine goesL_ (some 4) rfl rfl Tryd.func64 (by kernel_rfl) rfl #[.int .i64 a0] rfl gl_ ?_; (with_reducible refine (spec_l11Op.calls a0 true _ A2.out).mono ?_); rintro e w' ⟨rfl, ⟨nd, rfl⟩⟩; refine ⟨_, rfl, ?_⟩) | ((with_reducible refine gate_callee (f := 72) rfl ?_); refine goesL_ (some 6) rfl rfl Tryd.func72 (by kernel_rfl) rfl #[] rfl gl_ ?_; (with_reducible refine (spec_l11Codes.calls  t170 _ A4.out).mono ?_); rintro e w7 ⟨v171, rfl, ho0, hb⟩; refine ⟨_, rfl, ?_⟩; have HO172 := Aside0.mk (Kd.R_lower ho0 (below_size bl_)); replace HB := Aside0.mk (below_step bl_ hb); (try clear hb); (try clear hb2); (try clear hk); (try clear hi); (try clear ho0); obtain ⟨Ao8, co8, eo8⟩ := Kd.R_slice HO172.out; subst eo8; have p173 : 0 ≤ (a0 : Int) := od_; have q173 : a0 < (t170.length : Int) := od_; obtain ⟨ad173, e173, hx173_0⟩ := Kd.at_string (Kd.R_reads' HO172.out).2.2 a0 p173 q173; cases e173; replace p173 := eq_true p173; replace q173 := eq_true q173))
    go_ret
    exact ⟨sq_, bl_⟩
   ·rw [if_neg c6] at H
    exact absurd H (by simp)
  ·rw [if_neg c5] at H
   exact absurd H (by simp)
 ·replace c3 := Bool.eq_false_iff.mpr c3
  subst c3
  replace H := in_ H
  obtain rfl := Option.some.inj H
  go_enter Tryd.func31, Tryd.ntmps31
  go_wp2_with (first | ((with_reducible refine gate_callee (f := 64) rfl ?_); refine goesL_ (some 4) rfl rfl Tryd.func64 (by kernel_rfl) rfl #[.int .i64 a0] rfl gl_ ?_; (with_reducible refine (spec_l11Op.calls a0 false _ A2.out).mono ?_); rintro e w' ⟨rfl, ⟨nd, rfl⟩⟩; refine ⟨_, rfl, ?_⟩))
  go_ret
  exact ⟨sq_, bl_⟩
end Go.Proofs.YtbjpfknmkpnhjaaDoor.QFnExactReqMsg
