-- by my own printer (myprint.py, over the kit's print.py)
import Derived.Test.YtepjnalkpfnmcaaQFnExactHoldPutx0
import Derived.Test.YtepjnalkpfnmcaaQFnExactHoldPutx4
namespace Go.Proofs.Ytepjnalkpfnmcaa.QFnExactHoldPut
open Go.RowKit Go.Proofs.YtepjnalkpfnmcaaW.PrintWords Go.Proofs.YtepjnalkpfnmcaaW.PrintLast Go.Proofs.YtepjnalkpfnmcaaW.PrintMore
attribute [local go_sem] max2_int min2_int max_two min_two max_three min_three max_four min_four   -- for this text's walks alone
set_option linter.unusedVariables false
set_option linter.unusedSimpArgs false
attribute [local go_sem] my_geq my_leq my_gtr
/-! ### spec_HoldPut: function 63 -/
mutual
def spec_HoldPut.l0 : Nat → List (S93) → Bool → List (S93) → Int → Int → ByteArray → Int → Int → Option ((List (S93)) × Bool)
 | 0, _, _, _, _, _, _, _, _ => none
 | k + 1, x6, x7, x14, x15, x16, x142000, x142001, x142002 => if x16 < x15 then (if 0 ≤ x16 then (if x16 < (x14.length : Int) then (if x7 = true then (spec_HoldPut.j1 k x6 x7 x14 x15 x16 false x142000 x142001 x142002 ((rd_T93 x14 x16).f0) ((rd_T93 x14 x16).f1) ((rd_T93 x14 x16).f2)) else (spec_HoldPut.j1 k x6 x7 x14 x15 x16 (!(Op.bytesLess (((rd_T93 x14 x16).f0).toList) x142000.toList)) x142000 x142001 x142002 ((rd_T93 x14 x16).f0) ((rd_T93 x14 x16).f1) ((rd_T93 x14 x16).f2))) else (none)) else (none)) else (if x7 = true then ((spec_HoldsOk.f k x6).bind fun t157 => (if t157 = true then (some (x6, true)) else (some (([] : List (S93)), false)))) else (if x6.length < 4398046511104 then ((some (x6 ++ [(⟨x142000, x142001, x142002⟩ : S93)] : List (S93))).bind fun y158 => ((spec_HoldsOk.f k y158).bind fun t161 => (if t161 = true then (some (y158, true)) else (some (([] : List (S93)), false))))) else (none)))
def spec_HoldPut.j1 : Nat → List (S93) → Bool → List (S93) → Int → Int → Bool → ByteArray → Int → Int → ByteArray → Int → Int → Option ((List (S93)) × Bool)
 | 0, _, _, _, _, _, _, _, _, _, _, _, _ => none
 | k + 1, x6, x7, x14, x15, x16, x28, x142000, x142001, x142002, x148000, x148001, x148002 => if x28 = true then (if x6.length < 4398046511104 then ((some (x6 ++ [(⟨x142000, x142001, x142002⟩ : S93)] : List (S93))).bind fun y148 => (if x148000.toList = x142000.toList then (spec_HoldPut.l0 k y148 true x14 x15 (wrap64 (x16 + 1)) x142000 x142001 x142002) else (if y148.length < 4398046511104 then (spec_HoldPut.l0 k (y148 ++ [(⟨x148000, x148001, x148002⟩ : S93)]) true x14 x15 (wrap64 (x16 + 1)) x142000 x142001 x142002) else (none)))) else (none)) else (if x148000.toList = x142000.toList then (spec_HoldPut.l0 k x6 x7 x14 x15 (wrap64 (x16 + 1)) x142000 x142001 x142002) else (if x6.length < 4398046511104 then (spec_HoldPut.l0 k (x6 ++ [(⟨x148000, x148001, x148002⟩ : S93)]) x7 x14 x15 (wrap64 (x16 + 1)) x142000 x142001 x142002) else (none)))
end
def spec_HoldPut.f (k : Nat) (l0 : List (S93)) (a1_0 : ByteArray) (a1_1 : Int) (a1_2 : Int) : Option ((List (S93)) × Bool) := (spec_HoldsOk.f k l0).bind fun t142 => (if t142 = true then (spec_HoldPut.l0 k (([] : List (S93))) false l0 (l0.length : Int) 0 a1_0 a1_1 a1_2) else (some (([] : List (S93)), false)))
set_option maxHeartbeats 8000000 in
set_option maxRecDepth 100000 in
theorem spec_HoldPut.calls (k : Nat) (A0 : Option Addr) (c0 : Nat) (l0 : List (S93)) (a1_0 : ByteArray) (a1_1 : Int) (a1_2 : Int) (r1 : List (S93)) (r2 : Bool) (w : World) (hr0 : Kd.C k93 w A0 l0.length l0) (hc0 : l0.length ≤ c0) (h : spec_HoldPut.f k l0 a1_0 a1_1 a1_2 = some (r1, r2)) :
  Calls Try.prog 63 #[.slice A0 l0.length c0, .agg #[.string a1_0, .int .i64 a1_1, .int .i64 a1_2]] w fun e w' => ∃ v0_ : Value, e = .returned (.tuple #[v0_, .bool r2]) ∧ Kd.R k93 93 w' w.heap.size (fun _ => True) v0_ r1 ∧ Below w.heap.size w w' := by
 have hu93 := Try.underlying93
 have HR0 := Aside0.mk hr0
 have HC0 := Aside0.mk hc0
 clear hr0 hc0
 have HB := Aside0.mk (Below.refl w.heap.size w)
 have H : ((spec_HoldsOk.f k l0).bind fun t142 => (if t142 = true then (spec_HoldPut.l0 k (([] : List (S93))) false l0 (l0.length : Int) 0 a1_0 a1_1 a1_2) else (some (([] : List (S93)), false)))) = some (r1, r2) := h
 clear h
 obtain ⟨t142, A3, H⟩ := ob_ H
 by_cases c4 : t142 = true
 ·subst c4
  replace H := ip_ H
  obtain ⟨y143, hy143⟩ : ∃ y_ : List (S93), y_ = (([] : List (S93))) := ⟨_, rfl⟩
  replace H : (spec_HoldPut.l0 k y143 false l0 (l0.length : Int) 0 a1_0 a1_1 a1_2) = some (r1, r2) := by first | (rw [hy143]; with_reducible exact H) | (have H2_ := (Option.bind_some _ _).symm.trans H; rw [hy143]; with_reducible exact H2_) | (have H2_ := (Option.bind_some _ _).symm.trans H; with_reducible exact H2_) | with_reducible exact H | (rw [hy143]; exact H) | exact H
  have Ny143 := Aside0.mk hy143
  clear hy143
  have H' := Aside0.mk H
  clear H
  go_enter Try.func63, Try.ntmps63
  go_wp2_with (first | ((with_reducible refine gate_dst (N := 3) rfl ?_); refine be_ (N := 3) (cs := #[.string a1_0, .int .i64 a1_1, .int .i64 a1_2]) (t := 93) ?_; intro gb141 hg w5 hbox hb; have BK141 := Aside0.mk (hbox); have GW141 := gw_ (w := w) hg; have GE141 := gw_ (w := w) hg; replace HB := Aside0.mk (below_step bl_ hb); clear hb hbox hg) | ((with_reducible refine gate_callee (f := 124) rfl ?_); refine goesL_ (some 11) rfl rfl Try.func124 (by kernel_rfl) rfl #[.slice A0 l0.length c0] rfl gl_ ?_; (with_reducible refine (spec_HoldsOk.calls k _ _ l0 true _ ?side1 ?side2 A3.out).mono ?_); (case side1 => exact ca_ (Kd.C_below HR0.out HB.out)); (case side2 => exact HC0.out); rintro e w6 ⟨rfl, hb⟩; refine ⟨_, rfl, ?_⟩; replace BK141 := Aside0.mk (blk_below (bk_ BK141) hb); replace HB := Aside0.mk (below_step bl_ hb); (try clear hb); (try clear hb2); (try clear hk); (try clear hi)) | ((with_reducible refine gate_dst (N := 13) rfl ?_); refine Kd.R_lit k93 _ 93 ?hg (N := 13) ?hd (xs := ([] : List (S93))) (inner := []) (ok := fun _ => True) (okp := fun _ => True) ?hr ?hp (fun _ hk => hk) trivial (Below.refl _ _) (Nat.le_refl _) (by simp) ?_; (case hd => rfl); (case hg => rfl); (case hr => first | (go_simp; done) | (go_simp; rfl)); (case hp => exact (Reps.none _ _)); intro v144 w7 ho8 hb hg_ hnew_; clear hg_ hnew_; (first | rw [← Ny143.out] at ho8 | (simp only [Int.reduceToNat] at ho8; rw [← Ny143.out] at ho8)); have HO145 := Aside0.mk (Kd.R_lower (Kd.R_newB ho8 (bk_ BK141)) (below_size bl_)); replace BK141 := Aside0.mk (blk_below (bk_ BK141) hb); replace HB := Aside0.mk (below_step bl_ hb); clear hb ho8))
  go_loopg [6, 7, 16] k (fun kq v6 v7 v16 w' => ∃ (x6_1 : List (S93)) (x7_1 : Bool) (x16_1 : Int), v7 = .bool x7_1 ∧ v16 = .int .i64 x16_1 ∧ Aside0 (spec_HoldPut.l0 kq x6_1 x7_1 l0 (l0.length : Int) x16_1 a1_0 a1_1 a1_2 = some (r1, r2)) ∧ Aside0 (kq ≤ k) ∧ Aside0 (Kd.R k93 93 w' w.heap.size (fun k_ => k_ ≠ gb141) v6 x6_1) ∧ Aside0 (w'.heap[gb141]? = some (.cells #[.string a1_0, .int .i64 a1_1, .int .i64 a1_2] 93 (0, 0))) ∧ Aside0 (Below w.heap.size w w'))
  case atStart => exact ⟨(y143), (false), (0), sp_, sp_, H', ⟨Nat.le_refl _⟩, ⟨by (with_reducible repeat (first | apply Kd.R_alloc | apply Kd.R_drewN | apply Kd.R_drew)); exact Kd.R_mono HO145.out (fun _ hk => hk.2)⟩, ⟨by (with_reducible repeat (first | refine blk_drewN ?_ _ | refine blk_drew ?_ | refine blk_alloc ?_ _)); exact BK141.out⟩, ⟨bl_⟩⟩
  case round =>
   clear H'
   try clear c1
   try clear p2
   try clear c4
   try clear c6
   obtain ⟨x6_1, x7_1, x16_1, rfl, rfl, HA, HK1, HO_6, BK141, HB⟩ := hrel
   cases gk with
   | zero => exact absurd HA.out (by simp [spec_HoldPut.l0])
   | succ k1 =>
    have H := HA.out
    clear HA
    simp only [spec_HoldPut.l0] at H
    by_cases c9 : x16_1 < (l0.length : Int)
    ·rw [if_pos c9] at H
     have c9b0 : decide (x16_1 < (l0.length : Int)) = true := decide_eq_true c9
     clear c9
     by_cases c10 : 0 ≤ x16_1
     ·rw [if_pos c10] at H
      have c10b0 : decide (0 ≤ x16_1) = true := decide_eq_true c10
      clear c10
      by_cases c11 : x16_1 < (l0.length : Int)
      ·rw [if_pos c11] at H
       have c11b0 : decide (x16_1 < (l0.length : Int)) = true := decide_eq_true c11
       clear c11
       have HC12 := Aside0.mk H
       clear H
       have p146 : 0 ≤ (x16_1 : Int) := od_
       have q146 : x16_1 < (l0.length : Int) := od_
       obtain ⟨ad146, e146, hx146_0, hx146_1, hx146_2⟩ := at_T93 HR0.out x16_1 p146 q146
       cases e146
       replace hx146_0 := kc_ HB hx146_0
       replace hx146_1 := kc_ HB hx146_1
       replace hx146_2 := kc_ HB hx146_2
       replace p146 := eq_true p146
       replace q146 := eq_true q146
       go_upto_region 8 with (first | ((with_reducible refine gate_dst (N := 9) rfl ?_); refine be_ (N := 9) (cs := #[.string (⟨#[]⟩ : ByteArray), .int .i64 0, .int .i64 0]) (t := 93) ?_; intro gb147 hg w13 hbox hb; replace HO_6 := Aside0.mk (Kd.R_below (Kd.R_elderB (ra_ HO_6) gb147 (Nat.le_of_eq hg.symm)) hb); have BK147 := Aside0.mk (hbox); have GW147 := gw_ (w := w) hg; have GE147 := gw_ (w := w) hg; replace HB := Aside0.mk (below_step bl_ hb); have NB141_147 := Aside0.mk ((by rw [hg]; exact Nat.ne_of_lt (blk_lt (bk_ BK141)) : gb141 ≠ gb147)); have NB147_141 := Aside0.mk ((by rw [hg]; exact Nat.ne_of_gt (blk_lt (bk_ BK141)) : gb147 ≠ gb141)); replace BK141 := Aside0.mk (blk_below (bk_ BK141) hb); clear hb hbox hg; have hnb14 := NB147_141.out; have hnc14 := NB141_147.out; obtain ⟨hcz15_0, hcz15_1, hcz15_2, hfz15_0, hfz15_1, hfz15_2⟩ := bx3_ BK147))
       (try simp only [Act.put, List.setIfInBounds_toArray, List.set_cons_zero, List.set_cons_succ])
       go_cut [28] (fun v28 wc => ∃ (kq : Nat) (x28_11 : Bool), v28 = .bool x28_11 ∧ Aside0 (spec_HoldPut.j1 kq x6_1 x7_1 l0 (l0.length : Int) x16_1 x28_11 a1_0 a1_1 a1_2 ((rd_T93 l0 x16_1).f0) ((rd_T93 l0 x16_1).f1) ((rd_T93 l0 x16_1).f2) = some (r1, r2)) ∧ Aside0 (kq ≤ k1) ∧ Aside0 (Kd.R k93 93 wc w.heap.size (fun k_ => k_ ≠ gb141 ∧ k_ ≠ gb147) u6 x6_1) ∧ Aside0 (wc.heap[gb141]? = some (.cells #[.string a1_0, .int .i64 a1_1, .int .i64 a1_2] 93 (0, 0))) ∧ Aside0 (wc.heap[gb147]? = some (.cells #[.string ((rd_T93 l0 x16_1).f0), .int .i64 ((rd_T93 l0 x16_1).f1), .int .i64 ((rd_T93 l0 x16_1).f2)] 93 (0, 0))) ∧ Aside0 (Below w.heap.size w wc))
       case first =>
        have H := HC12.out
        clear HC12
        by_cases c16 : x7_1 = true
        ·subst c16
         replace H := ip_ H
         have H' := Aside0.mk H
         clear H
         go_wp2
         go_meet
         case rel => exact ⟨_, (false), sp_, H', ⟨by have := HK1.out; first | omega | exact Nat.le_refl _⟩, ⟨by (with_reducible repeat (first | apply Kd.R_alloc | apply Kd.R_drewN | apply Kd.R_drew)); exact Kd.R_mono (Kd.R_far (p := ⟨gb147, 2, none⟩) (Kd.R_far (p := ⟨gb147, 1, none⟩) (Kd.R_far (p := ⟨gb147, 0, none⟩) (Kd.R_mono HO_6.out (fun k_ hk => (⟨hk, hk.2⟩ : _ ∧ k_ ≠ gb147))) (fun _ hk => hk.2) (.string ((rd_T93 l0 x16_1).f0))) (fun _ hk => hk.2) (.int .i64 ((rd_T93 l0 x16_1).f1))) (fun _ hk => hk.2) (.int .i64 ((rd_T93 l0 x16_1).f2))) (fun _ hk => ⟨hk.1.1, hk.1.2⟩)⟩, ⟨by (with_reducible repeat (first | refine blk_drewN ?_ _ | refine blk_drew ?_ | refine blk_alloc ?_ _)); refine blk_far ?_ NB141_147.out _; (with_reducible repeat (first | refine blk_drewN ?_ _ | refine blk_drew ?_ | refine blk_alloc ?_ _)); refine blk_far ?_ NB141_147.out _; (with_reducible repeat (first | refine blk_drewN ?_ _ | refine blk_drew ?_ | refine blk_alloc ?_ _)); refine blk_far ?_ NB141_147.out _; (with_reducible repeat (first | refine blk_drewN ?_ _ | refine blk_drew ?_ | refine blk_alloc ?_ _)); exact BK141.out⟩, ⟨by (with_reducible repeat (first | refine blk_drewN ?_ _ | refine blk_drew ?_ | refine blk_alloc ?_ _)); apply bq3_2_1_0_; (with_reducible repeat (first | refine blk_drewN ?_ _ | refine blk_drew ?_ | refine blk_alloc ?_ _)); exact BK147.out⟩, ⟨bl_⟩⟩
        ·replace c16 := Bool.eq_false_iff.mpr c16
         subst c16
         replace H := in_ H
         have H' := Aside0.mk H
         clear H
         have hnb17 := NB147_141.out
         have hnc17 := NB141_147.out
         have hcz18_0 := cz_ BK147 0 (.string (⟨#[]⟩ : ByteArray))
         have hcz18_1 := cz_ BK147 1 (.int .i64 0)
         have hcz18_2 := cz_ BK147 2 (.int .i64 0)
         have hfz18_0 := fz_ BK147 0
         have hfz18_1 := fz_ BK147 1
         have hfz18_2 := fz_ BK147 2
         have hcz19_0 := cz_ BK141 0 (.string a1_0)
         have hcz19_1 := cz_ BK141 1 (.int .i64 a1_1)
         have hcz19_2 := cz_ BK141 2 (.int .i64 a1_2)
         have hfz19_0 := fz_ BK141 0
         have hfz19_1 := fz_ BK141 1
         have hfz19_2 := fz_ BK141 2
         go_wp2
         go_meet
         case rel => exact ⟨_, (!(Op.bytesLess (((rd_T93 l0 x16_1).f0).toList) a1_0.toList)), sp_, H', ⟨by have := HK1.out; first | omega | exact Nat.le_refl _⟩, ⟨by (with_reducible repeat (first | apply Kd.R_alloc | apply Kd.R_drewN | apply Kd.R_drew)); exact Kd.R_mono (Kd.R_far (p := ⟨gb147, 2, none⟩) (Kd.R_far (p := ⟨gb147, 1, none⟩) (Kd.R_far (p := ⟨gb147, 0, none⟩) (Kd.R_mono HO_6.out (fun k_ hk => (⟨hk, hk.2⟩ : _ ∧ k_ ≠ gb147))) (fun _ hk => hk.2) (.string ((rd_T93 l0 x16_1).f0))) (fun _ hk => hk.2) (.int .i64 ((rd_T93 l0 x16_1).f1))) (fun _ hk => hk.2) (.int .i64 ((rd_T93 l0 x16_1).f2))) (fun _ hk => ⟨hk.1.1, hk.1.2⟩)⟩, ⟨by (with_reducible repeat (first | refine blk_drewN ?_ _ | refine blk_drew ?_ | refine blk_alloc ?_ _)); refine blk_far ?_ NB141_147.out _; (with_reducible repeat (first | refine blk_drewN ?_ _ | refine blk_drew ?_ | refine blk_alloc ?_ _)); refine blk_far ?_ NB141_147.out _; (with_reducible repeat (first | refine blk_drewN ?_ _ | refine blk_drew ?_ | refine blk_alloc ?_ _)); refine blk_far ?_ NB141_147.out _; (with_reducible repeat (first | refine blk_drewN ?_ _ | refine blk_drew ?_ | refine blk_alloc ?_ _)); exact BK141.out⟩, ⟨by (with_reducible repeat (first | refine blk_drewN ?_ _ | refine blk_drew ?_ | refine blk_alloc ?_ _)); apply bq3_2_1_0_; (with_reducible repeat (first | refine blk_drewN ?_ _ | refine blk_drew ?_ | refine blk_alloc ?_ _)); exact BK147.out⟩, ⟨bl_⟩⟩
       case rest =>
        clear HC12
        try clear c1
        try clear p1
        try clear q1
        try clear hx1
        try clear p2
        try clear c4
        try clear c6
        try clear c9
        try clear c9b0
        try clear c10
        try clear c10b0
        try clear c11
        try clear c11b0
        try clear c12
        try clear c14
        try clear p14
        try clear q14
        try clear hx14
        try clear c16
        try clear c17
        try clear hcz15_0
        try clear hcz15_1
        try clear hcz15_2
        try clear hcz18_0
        try clear hcz18_1
        try clear hcz18_2
        try clear hcz19_0
        try clear hcz19_1
        try clear hcz19_2
        try clear hfz15_0
        try clear hfz15_1
        try clear hfz15_2
        try clear hfz18_0
        try clear hfz18_1
        try clear hfz18_2
        try clear hfz19_0
        try clear hfz19_1
        try clear hfz19_2
        try clear hx146_0
        try clear hx146_1
        try clear hx146_2
        try clear p146
        try clear p2
        try clear q146
        obtain ⟨kq, x28_11, rfl, HA, HJ11, HO_6, BK141, BK147, HB⟩ := hcut
        cases kq with
        | zero => exact absurd HA.out (by simp [spec_HoldPut.j1])
        | succ kj11 =>
         have H := HA.out
         clear HA
         simp only [spec_HoldPut.j1] at H
         by_cases c20 : x28_11 = true
         ·subst c20
          replace H := ip_ H
          by_cases c21 : x6_1.length < 4398046511104
          ·rw [if_pos c21] at H
           have LMc21 := Aside0.mk c21
           clear c21
           obtain ⟨y148, hy148⟩ : ∃ y_ : List (S93), y_ = (x6_1 ++ [(⟨a1_0, a1_1, a1_2⟩ : S93)]) := ⟨_, rfl⟩
           replace H : (if ((rd_T93 l0 x16_1).f0).toList = a1_0.toList then (spec_HoldPut.l0 kj11 y148 true l0 (l0.length : Int) (wrap64 (x16_1 + 1)) a1_0 a1_1 a1_2) else (if y148.length < 4398046511104 then (spec_HoldPut.l0 kj11 (y148 ++ [(⟨((rd_T93 l0 x16_1).f0), ((rd_T93 l0 x16_1).f1), ((rd_T93 l0 x16_1).f2)⟩ : S93)]) true l0 (l0.length : Int) (wrap64 (x16_1 + 1)) a1_0 a1_1 a1_2) else (none))) = some (r1, r2) := by first | (rw [hy148]; with_reducible exact H) | (have H2_ := (Option.bind_some _ _).symm.trans H; rw [hy148]; with_reducible exact H2_) | (have H2_ := (Option.bind_some _ _).symm.trans H; with_reducible exact H2_) | with_reducible exact H | (rw [hy148]; exact H) | exact H
           have Ny148 := Aside0.mk hy148
           clear hy148
           by_cases c22 : ((rd_T93 l0 x16_1).f0).toList = a1_0.toList
           ·rw [if_pos c22] at H
            have c22b0 : (((rd_T93 l0 x16_1).f0).toList == a1_0.toList) = true := beq_iff_eq.mpr c22
            have c22b1 : (((rd_T93 l0 x16_1).f0).toList != a1_0.toList) = false := bne_eq_false_iff_eq.mpr c22
            clear c22
            have H' := Aside0.mk H
            clear H
            have hnb23 := NB141_147.out
            have hnc23 := NB147_141.out
            have hcz24_0 := cz_ BK141 0 (.string a1_0)
            have hcz24_1 := cz_ BK141 1 (.int .i64 a1_1)
            have hcz24_2 := cz_ BK141 2 (.int .i64 a1_2)
            have hfz24_0 := fz_ BK141 0
            have hfz24_1 := fz_ BK141 1
            have hfz24_2 := fz_ BK141 2
            go_wp2_with (first | ((with_reducible refine gate_builtin (b := .append) (xs := #[.tmp 29, .tmp 31]) rfl ?_); at_builtin; refine Kd.R_append k93 (w0 := w) w.heap.size rfl (.tmp 29) (.tmp 31) 24 93 (.agg #[(.string ⟨#[]⟩), (.int .i64 0), (.int .i64 0)]) 32 rfl Try.underlying24 info93 rfl (by decide) (by omega) u6 x6_1 (⟨a1_0, a1_1, a1_2⟩ : S93) [.string a1_0, .int .i64 a1_1, .int .i64 a1_2] (fun k_ => k_ ≠ gb141 ∧ k_ ≠ gb147) (fun _ => False) rfl rfl ?aP (fun _ hk => hk.elim) ?aF ?aO ?aB ?aS ?aL ?_; (case aP => exact k93_mkM _ _ _ (⟨a1_0, a1_1, a1_2⟩ : S93)); (case aB => exact bl_); (case aF => exact (fun k_ hk => ⟨Kd.freshB (bk_ BK141) k_ hk, Kd.freshB (bk_ BK147) k_ hk⟩)); (case aO => exact (ra_ HO_6)); (case aS => exact (below_size bl_)); (case aL => have := LMc21.out; omega); intro v149 w25 ho hb hg hat; rw [← Ny148.out] at ho; have n0_ := Aside0.mk (blk_grown (bk_ BK141) hg (Kd.R_away HO_6.out (fun _ hk => hk.1))); have n1_ := Aside0.mk (blk_grown (bk_ BK147) hg (Kd.R_away HO_6.out (fun _ hk => hk.2))); have n2_ := Aside0.mk (hb); have n3_ := Aside0.mk (ho); clear BK141; clear BK147; clear HB; clear HO_6; have BK141 := n0_; have BK147 := n1_; have HB := n2_; have HO150 := n3_; clear n0_ n1_ n2_ n3_; clear ho hb hg hat; obtain ⟨hcz26_0, hcz26_1, hcz26_2, hfz26_0, hfz26_1, hfz26_2⟩ := bx3_ BK147; obtain ⟨hcz27_0, hcz27_1, hcz27_2, hfz27_0, hfz27_1, hfz27_2⟩ := bx3_ BK141))
            go_roundg kj11
            case measure => have := HK1.out; have := HJ11.out; omega
            case rel => exact ⟨(y148), (true), (wrap64 (x16_1 + 1)), sp_, sp_, H', ⟨by have := HK1.out; have := HJ11.out; omega⟩, ⟨by (with_reducible repeat (first | apply Kd.R_alloc | apply Kd.R_drewN | apply Kd.R_drew)); exact Kd.R_mono HO150.out (fun _ hk => hk.1)⟩, ⟨by (with_reducible repeat (first | refine blk_drewN ?_ _ | refine blk_drew ?_ | refine blk_alloc ?_ _)); exact BK141.out⟩, ⟨bl_⟩⟩
           ·rw [if_neg c22] at H
            have c22b0 : (((rd_T93 l0 x16_1).f0).toList == a1_0.toList) = false := beq_eq_false_iff_ne.mpr c22
            have c22b1 : (((rd_T93 l0 x16_1).f0).toList != a1_0.toList) = true := bne_iff_ne.mpr c22
            by_cases c28 : y148.length < 4398046511104
            ·rw [if_pos c28] at H
             have LMc28 := Aside0.mk c28
             clear c28
             obtain ⟨y151, hy151⟩ : ∃ y_ : List (S93), y_ = (y148 ++ [(⟨((rd_T93 l0 x16_1).f0), ((rd_T93 l0 x16_1).f1), ((rd_T93 l0 x16_1).f2)⟩ : S93)]) := ⟨_, rfl⟩
             replace H : (spec_HoldPut.l0 kj11 y151 true l0 (l0.length : Int) (wrap64 (x16_1 + 1)) a1_0 a1_1 a1_2) = some (r1, r2) := by first | (rw [hy151]; with_reducible exact H) | (have H2_ := (Option.bind_some _ _).symm.trans H; rw [hy151]; with_reducible exact H2_) | (have H2_ := (Option.bind_some _ _).symm.trans H; with_reducible exact H2_) | with_reducible exact H | (rw [hy151]; exact H) | exact H
             have Ny151 := Aside0.mk hy151
             clear hy151
             have H' := Aside0.mk H
             clear H
             have hnb29 := NB141_147.out
             have hnc29 := NB147_141.out
             have hcz30_0 := cz_ BK141 0 (.string a1_0)
             have hcz30_1 := cz_ BK141 1 (.int .i64 a1_1)
             have hcz30_2 := cz_ BK141 2 (.int .i64 a1_2)
             have hfz30_0 := fz_ BK141 0
             have hfz30_1 := fz_ BK141 1
             have hfz30_2 := fz_ BK141 2
             go_wp2_with (first | ((with_reducible refine gate_builtin (b := .append) (xs := #[.tmp 29, .tmp 31]) rfl ?_); at_builtin; refine Kd.R_append k93 (w0 := w) w.heap.size rfl (.tmp 29) (.tmp 31) 24 93 (.agg #[(.string ⟨#[]⟩), (.int .i64 0), (.int .i64 0)]) 32 rfl Try.underlying24 info93 rfl (by decide) (by omega) u6 x6_1 (⟨a1_0, a1_1, a1_2⟩ : S93) [.string a1_0, .int .i64 a1_1, .int .i64 a1_2] (fun k_ => k_ ≠ gb141 ∧ k_ ≠ gb147) (fun _ => False) rfl rfl ?aP (fun _ hk => hk.elim) ?aF ?aO ?aB ?aS ?aL ?_; (case aP => exact k93_mkM _ _ _ (⟨a1_0, a1_1, a1_2⟩ : S93)); (case aB => exact bl_); (case aF => exact (fun k_ hk => ⟨Kd.freshB (bk_ BK141) k_ hk, Kd.freshB (bk_ BK147) k_ hk⟩)); (case aO => exact (ra_ HO_6)); (case aS => exact (below_size bl_)); (case aL => have := LMc21.out; omega); intro v149 w31 ho hb hg hat; rw [← Ny148.out] at ho; have n0_ := Aside0.mk (blk_grown (bk_ BK141) hg (Kd.R_away HO_6.out (fun _ hk => hk.1))); have n1_ := Aside0.mk (blk_grown (bk_ BK147) hg (Kd.R_away HO_6.out (fun _ hk => hk.2))); have n2_ := Aside0.mk (hb); have n3_ := Aside0.mk (ho); clear BK141; clear BK147; clear HB; clear HO_6; have BK141 := n0_; have BK147 := n1_; have HB := n2_; have HO150 := n3_; clear n0_ n1_ n2_ n3_; clear ho hb hg hat; obtain ⟨hcz32_0, hcz32_1, hcz32_2, hfz32_0, hfz32_1, hfz32_2⟩ := bx3_ BK147; obtain ⟨hcz33_0, hcz33_1, hcz33_2, hfz33_0, hfz33_1, hfz33_2⟩ := bx3_ BK141) | ((with_reducible refine gate_builtin (b := .append) (xs := #[.tmp 38, .tmp 40]) rfl ?_); at_builtin; refine Kd.R_append k93 (w0 := w) w.heap.size rfl (.tmp 38) (.tmp 40) 24 93 (.agg #[(.string ⟨#[]⟩), (.int .i64 0), (.int .i64 0)]) 32 rfl Try.underlying24 info93 rfl (by decide) (by omega) v149 y148 (⟨((rd_T93 l0 x16_1).f0), ((rd_T93 l0 x16_1).f1), ((rd_T93 l0 x16_1).f2)⟩ : S93) [.string ((rd_T93 l0 x16_1).f0), .int .i64 ((rd_T93 l0 x16_1).f1), .int .i64 ((rd_T93 l0 x16_1).f2)] (fun k_ => k_ ≠ gb141 ∧ k_ ≠ gb147) (fun _ => False) rfl rfl ?aP (fun _ hk => hk.elim) ?aF ?aO ?aB ?aS ?aL ?_; (case aP => exact k93_mkM _ _ _ (⟨((rd_T93 l0 x16_1).f0), ((rd_T93 l0 x16_1).f1), ((rd_T93 l0 x16_1).f2)⟩ : S93)); (case aB => exact bl_); (case aF => exact (fun k_ hk => ⟨Kd.freshB (bk_ BK141) k_ hk, Kd.freshB (bk_ BK147) k_ hk⟩)); (case aO => exact (ra_ HO150)); (case aS => exact (below_size bl_)); (case aL => have := LMc28.out; omega); intro v152 w34 ho hb hg hat; rw [← Ny151.out] at ho; have n0_ := Aside0.mk (blk_grown (bk_ BK141) hg (Kd.R_away HO150.out (fun _ hk => hk.1))); have n1_ := Aside0.mk (blk_grown (bk_ BK147) hg (Kd.R_away HO150.out (fun _ hk => hk.2))); have n2_ := Aside0.mk (hb); have n3_ := Aside0.mk (ho); clear BK141; clear BK147; clear HB; clear HO150; have BK141 := n0_; have BK147 := n1_; have HB := n2_; have HO153 := n3_; clear n0_ n1_ n2_ n3_; clear ho hb hg hat))
             go_roundg kj11
             case measure => have := HK1.out; have := HJ11.out; omega
             case rel => exact ⟨(y151), (true), (wrap64 (x16_1 + 1)), sp_, sp_, H', ⟨by have := HK1.out; have := HJ11.out; omega⟩, ⟨by (with_reducible repeat (first | apply Kd.R_alloc | apply Kd.R_drewN | apply Kd.R_drew)); exact Kd.R_mono HO153.out (fun _ hk => hk.1)⟩, ⟨by (with_reducible repeat (first | refine blk_drewN ?_ _ | refine blk_drew ?_ | refine blk_alloc ?_ _)); exact BK141.out⟩, ⟨bl_⟩⟩
            ·rw [if_neg c28] at H
             exact absurd H (by simp)
          ·rw [if_neg c21] at H
           exact absurd H (by simp)
         ·replace c20 := Bool.eq_false_iff.mpr c20
          subst c20
          replace H := in_ H
          by_cases c35 : ((rd_T93 l0 x16_1).f0).toList = a1_0.toList
          ·rw [if_pos c35] at H
           have c35b0 : (((rd_T93 l0 x16_1).f0).toList == a1_0.toList) = true := beq_iff_eq.mpr c35
           have c35b1 : (((rd_T93 l0 x16_1).f0).toList != a1_0.toList) = false := bne_eq_false_iff_eq.mpr c35
           clear c35
           have H' := Aside0.mk H
           clear H
           have hnb36 := NB147_141.out
           have hnc36 := NB141_147.out
           have hcz37_0 := cz_ BK147 0 (.string ((rd_T93 l0 x16_1).f0))
           have hcz37_1 := cz_ BK147 1 (.int .i64 ((rd_T93 l0 x16_1).f1))
           have hcz37_2 := cz_ BK147 2 (.int .i64 ((rd_T93 l0 x16_1).f2))
           have hfz37_0 := fz_ BK147 0
           have hfz37_1 := fz_ BK147 1
           have hfz37_2 := fz_ BK147 2
           have hcz38_0 := cz_ BK141 0 (.string a1_0)
           have hcz38_1 := cz_ BK141 1 (.int .i64 a1_1)
           have hcz38_2 := cz_ BK141 2 (.int .i64 a1_2)
           have hfz38_0 := fz_ BK141 0
           have hfz38_1 := fz_ BK141 1
           have hfz38_2 := fz_ BK141 2
           go_wp2
           go_roundg kj11
           case measure => have := HK1.out; have := HJ11.out; omega
           case rel => exact ⟨(x6_1), (x7_1), (wrap64 (x16_1 + 1)), sp_, sp_, H', ⟨by have := HK1.out; have := HJ11.out; omega⟩, ⟨by (with_reducible repeat (first | apply Kd.R_alloc | apply Kd.R_drewN | apply Kd.R_drew)); exact Kd.R_mono HO_6.out (fun _ hk => hk.1)⟩, ⟨by (with_reducible repeat (first | refine blk_drewN ?_ _ | refine blk_drew ?_ | refine blk_alloc ?_ _)); exact BK141.out⟩, ⟨bl_⟩⟩
          ·rw [if_neg c35] at H
           have c35b0 : (((rd_T93 l0 x16_1).f0).toList == a1_0.toList) = false := beq_eq_false_iff_ne.mpr c35
           have c35b1 : (((rd_T93 l0 x16_1).f0).toList != a1_0.toList) = true := bne_iff_ne.mpr c35
           by_cases c39 : x6_1.length < 4398046511104
           ·rw [if_pos c39] at H
            have LMc39 := Aside0.mk c39
            clear c39
            obtain ⟨y154, hy154⟩ : ∃ y_ : List (S93), y_ = (x6_1 ++ [(⟨((rd_T93 l0 x16_1).f0), ((rd_T93 l0 x16_1).f1), ((rd_T93 l0 x16_1).f2)⟩ : S93)]) := ⟨_, rfl⟩
            replace H : (spec_HoldPut.l0 kj11 y154 x7_1 l0 (l0.length : Int) (wrap64 (x16_1 + 1)) a1_0 a1_1 a1_2) = some (r1, r2) := by first | (rw [hy154]; with_reducible exact H) | (have H2_ := (Option.bind_some _ _).symm.trans H; rw [hy154]; with_reducible exact H2_) | (have H2_ := (Option.bind_some _ _).symm.trans H; with_reducible exact H2_) | with_reducible exact H | (rw [hy154]; exact H) | exact H
            have Ny154 := Aside0.mk hy154
            clear hy154
            have H' := Aside0.mk H
            clear H
            have hnb40 := NB147_141.out
            have hnc40 := NB141_147.out
            have hcz41_0 := cz_ BK147 0 (.string ((rd_T93 l0 x16_1).f0))
            have hcz41_1 := cz_ BK147 1 (.int .i64 ((rd_T93 l0 x16_1).f1))
            have hcz41_2 := cz_ BK147 2 (.int .i64 ((rd_T93 l0 x16_1).f2))
            have hfz41_0 := fz_ BK147 0
            have hfz41_1 := fz_ BK147 1
            have hfz41_2 := fz_ BK147 2
            have hcz42_0 := cz_ BK141 0 (.string a1_0)
            have hcz42_1 := cz_ BK141 1 (.int .i64 a1_1)
            have hcz42_2 := cz_ BK141 2 (.int .i64 a1_2)
            have hfz42_0 := fz_ BK141 0
            have hfz42_1 := fz_ BK141 1
            have hfz42_2 := fz_ BK141 2
            go_wp2_with (first | ((with_reducible refine gate_builtin (b := .append) (xs := #[.tmp 38, .tmp 40]) rfl ?_); at_builtin; refine Kd.R_append k93 (w0 := w) w.heap.size rfl (.tmp 38) (.tmp 40) 24 93 (.agg #[(.string ⟨#[]⟩), (.int .i64 0), (.int .i64 0)]) 32 rfl Try.underlying24 info93 rfl (by decide) (by omega) u6 x6_1 (⟨((rd_T93 l0 x16_1).f0), ((rd_T93 l0 x16_1).f1), ((rd_T93 l0 x16_1).f2)⟩ : S93) [.string ((rd_T93 l0 x16_1).f0), .int .i64 ((rd_T93 l0 x16_1).f1), .int .i64 ((rd_T93 l0 x16_1).f2)] (fun k_ => k_ ≠ gb141 ∧ k_ ≠ gb147) (fun _ => False) rfl rfl ?aP (fun _ hk => hk.elim) ?aF ?aO ?aB ?aS ?aL ?_; (case aP => exact k93_mkM _ _ _ (⟨((rd_T93 l0 x16_1).f0), ((rd_T93 l0 x16_1).f1), ((rd_T93 l0 x16_1).f2)⟩ : S93)); (case aB => exact bl_); (case aF => exact (fun k_ hk => ⟨Kd.freshB (bk_ BK141) k_ hk, Kd.freshB (bk_ BK147) k_ hk⟩)); (case aO => exact (ra_ HO_6)); (case aS => exact (below_size bl_)); (case aL => have := LMc39.out; omega); intro v155 w43 ho hb hg hat; rw [← Ny154.out] at ho; have n0_ := Aside0.mk (blk_grown (bk_ BK141) hg (Kd.R_away HO_6.out (fun _ hk => hk.1))); have n1_ := Aside0.mk (blk_grown (bk_ BK147) hg (Kd.R_away HO_6.out (fun _ hk => hk.2))); have n2_ := Aside0.mk (hb); have n3_ := Aside0.mk (ho); clear BK141; clear BK147; clear HB; clear HO_6; have BK141 := n0_; have BK147 := n1_; have HB := n2_; have HO156 := n3_; clear n0_ n1_ n2_ n3_; clear ho hb hg hat))
            go_roundg kj11
            case measure => have := HK1.out; have := HJ11.out; omega
            case rel => exact ⟨(y154), (x7_1), (wrap64 (x16_1 + 1)), sp_, sp_, H', ⟨by have := HK1.out; have := HJ11.out; omega⟩, ⟨by (with_reducible repeat (first | apply Kd.R_alloc | apply Kd.R_drewN | apply Kd.R_drew)); exact Kd.R_mono HO156.out (fun _ hk => hk.1)⟩, ⟨by (with_reducible repeat (first | refine blk_drewN ?_ _ | refine blk_drew ?_ | refine blk_alloc ?_ _)); exact BK141.out⟩, ⟨bl_⟩⟩
           ·rw [if_neg c39] at H
            exact absurd H (by simp)
      ·rw [if_neg c11] at H
       exact absurd H (by simp)
     ·rw [if_neg c10] at H
      exact absurd H (by simp)
    ·rw [if_neg c9] at H
     have c9b0 : decide (x16_1 < (l0.length : Int)) = false := decide_eq_false c9
     clear c9
     by_cases c44 : x7_1 = true
     ·subst c44
      replace H := ip_ H
      obtain ⟨t157, A45, H⟩ := ob_ H
      by_cases c46 : t157 = true
      ·subst c46
       replace H := ip_ H
       simp only [Option.some.injEq, Prod.mk.injEq] at H
       obtain ⟨rfl, rfl⟩ := H
       obtain ⟨Ao47, co47, eo47⟩ := Kd.R_slice HO_6.out
       subst eo47
       go_wp2_with (first | ((with_reducible refine gate_callee (f := 124) rfl ?_); refine goesL_ (some 50) rfl rfl Try.func124 (by kernel_rfl) rfl #[.slice Ao47 x6_1.length co47] rfl gl_ ?_; (with_reducible refine (spec_HoldsOk.calls k1 _ _ x6_1 true _ ?side1 ?side2 A45.out).mono ?_); (case side1 => exact ca_ ((Kd.R_reads' HO_6.out).2.2)); (case side2 => exact (Kd.R_reads' HO_6.out).2.1); rintro e w48 ⟨rfl, hb⟩; refine ⟨_, rfl, ?_⟩; replace HO_6 := Aside0.mk (Kd.R_below (ra_ HO_6) hb); replace BK141 := Aside0.mk (blk_below (bk_ BK141) hb); replace HB := Aside0.mk (below_step bl_ hb); (try clear hb); (try clear hb2); (try clear hk); (try clear hi)))
       go_ret2
       exact ⟨_, by first | rfl | (simp [errW_none, errW_some] <;> rfl) | (simp [*, errW_none, errW_some] <;> rfl), by (with_reducible repeat (first | apply Kd.R_alloc | apply Kd.R_drewN | apply Kd.R_drew)); exact Kd.R_mono HO_6.out (fun _ hk => trivial), bl_⟩
      ·replace c46 := Bool.eq_false_iff.mpr c46
       subst c46
       replace H := in_ H
       simp only [Option.some.injEq, Prod.mk.injEq] at H
       obtain ⟨rfl, rfl⟩ := H
       obtain ⟨Ao49, co49, eo49⟩ := Kd.R_slice HO_6.out
       subst eo49
       go_wp2_with (first | ((with_reducible refine gate_callee (f := 124) rfl ?_); refine goesL_ (some 50) rfl rfl Try.func124 (by kernel_rfl) rfl #[.slice Ao49 x6_1.length co49] rfl gl_ ?_; (with_reducible refine (spec_HoldsOk.calls k1 _ _ x6_1 false _ ?side1 ?side2 A45.out).mono ?_); (case side1 => exact ca_ ((Kd.R_reads' HO_6.out).2.2)); (case side2 => exact (Kd.R_reads' HO_6.out).2.1); rintro e w50 ⟨rfl, hb⟩; refine ⟨_, rfl, ?_⟩; replace HO_6 := Aside0.mk (Kd.R_below (ra_ HO_6) hb); replace BK141 := Aside0.mk (blk_below (bk_ BK141) hb); replace HB := Aside0.mk (below_step bl_ hb); (try clear hb); (try clear hb2); (try clear hk); (try clear hi)))
       go_ret2
       exact ⟨_, by first | rfl | (simp [errW_none, errW_some] <;> rfl) | (simp [*, errW_none, errW_some] <;> rfl), by first | exact Kd.R_nil _ _ _ _ _ | exact Kd.N_nil _ _ _ _ _ | exact Kd.V_nil _ _ _ _ _ | exact Kd.Q_nil _ _ _ _ _ | exact Kd.S_nil _ _ _ _ _, bl_⟩
     ·replace c44 := Bool.eq_false_iff.mpr c44
      subst c44
      replace H := in_ H
      by_cases c51 : x6_1.length < 4398046511104
      ·rw [if_pos c51] at H
       have LMc51 := Aside0.mk c51
       clear c51
       obtain ⟨y158, hy158⟩ : ∃ y_ : List (S93), y_ = (x6_1 ++ [(⟨a1_0, a1_1, a1_2⟩ : S93)]) := ⟨_, rfl⟩
       replace H : ((spec_HoldsOk.f k1 y158).bind fun t161 => (if t161 = true then (some (y158, true)) else (some (([] : List (S93)), false)))) = some (r1, r2) := by first | (rw [hy158]; with_reducible exact H) | (have H2_ := (Option.bind_some _ _).symm.trans H; rw [hy158]; with_reducible exact H2_) | (have H2_ := (Option.bind_some _ _).symm.trans H; with_reducible exact H2_) | with_reducible exact H | (rw [hy158]; exact H) | exact H
       have Ny158 := Aside0.mk hy158
       clear hy158
       obtain ⟨t161, A52, H⟩ := ob_ H
       by_cases c53 : t161 = true
       ·subst c53
        replace H := ip_ H
        simp only [Option.some.injEq, Prod.mk.injEq] at H
        obtain ⟨rfl, rfl⟩ := H
        have hcz54_0 := cz_ BK141 0 (.string a1_0)
        have hcz54_1 := cz_ BK141 1 (.int .i64 a1_1)
        have hcz54_2 := cz_ BK141 2 (.int .i64 a1_2)
        have hfz54_0 := fz_ BK141 0
        have hfz54_1 := fz_ BK141 1
        have hfz54_2 := fz_ BK141 2
        go_wp2_with (first | ((with_reducible refine gate_builtin (b := .append) (xs := #[.tmp 45, .tmp 47]) rfl ?_); at_builtin; refine Kd.R_append k93 (w0 := w) w.heap.size rfl (.tmp 45) (.tmp 47) 24 93 (.agg #[(.string ⟨#[]⟩), (.int .i64 0), (.int .i64 0)]) 32 rfl Try.underlying24 info93 rfl (by decide) (by omega) u6 x6_1 (⟨a1_0, a1_1, a1_2⟩ : S93) [.string a1_0, .int .i64 a1_1, .int .i64 a1_2] (fun k_ => k_ ≠ gb141) (fun _ => False) rfl rfl ?aP (fun _ hk => hk.elim) ?aF ?aO ?aB ?aS ?aL ?_; (case aP => exact k93_mkM _ _ _ (⟨a1_0, a1_1, a1_2⟩ : S93)); (case aB => exact bl_); (case aF => exact (fun k_ hk => Kd.freshB (bk_ BK141) k_ hk)); (case aO => exact (ra_ HO_6)); (case aS => exact (below_size bl_)); (case aL => have := LMc51.out; omega); intro v159 w55 ho hb hg hat; rw [← Ny158.out] at ho; have n0_ := Aside0.mk (blk_grown (bk_ BK141) hg (Kd.R_away HO_6.out (fun _ hk => hk))); have n1_ := Aside0.mk (hb); have n2_ := Aside0.mk (ho); clear BK141; clear HB; clear HO_6; have BK141 := n0_; have HB := n1_; have HO160 := n2_; clear n0_ n1_ n2_; clear ho hb hg hat; obtain ⟨Ao56, co56, eo56⟩ := Kd.R_slice HO160.out; subst eo56) | ((with_reducible refine gate_callee (f := 124) rfl ?_); refine goesL_ (some 50) rfl rfl Try.func124 (by kernel_rfl) rfl #[.slice Ao56 y158.length co56] rfl gl_ ?_; (with_reducible refine (spec_HoldsOk.calls k1 _ _ y158 true _ ?side1 ?side2 A52.out).mono ?_); (case side1 => exact ca_ ((Kd.R_reads' HO160.out).2.2)); (case side2 => exact (Kd.R_reads' HO160.out).2.1); rintro e w57 ⟨rfl, hb⟩; refine ⟨_, rfl, ?_⟩; replace HO160 := Aside0.mk (Kd.R_below (ra_ HO160) hb); replace BK141 := Aside0.mk (blk_below (bk_ BK141) hb); replace HB := Aside0.mk (below_step bl_ hb); (try clear hb); (try clear hb2); (try clear hk); (try clear hi)))
        go_ret2
        exact ⟨_, by first | rfl | (simp [errW_none, errW_some] <;> rfl) | (simp [*, errW_none, errW_some] <;> rfl), by (with_reducible repeat (first | apply Kd.R_alloc | apply Kd.R_drewN | apply Kd.R_drew)); exact Kd.R_mono HO160.out (fun _ hk => trivial), bl_⟩
       ·replace c53 := Bool.eq_false_iff.mpr c53
        subst c53
        replace H := in_ H
        simp only [Option.some.injEq, Prod.mk.injEq] at H
        obtain ⟨rfl, rfl⟩ := H
        have hcz58_0 := cz_ BK141 0 (.string a1_0)
        have hcz58_1 := cz_ BK141 1 (.int .i64 a1_1)
        have hcz58_2 := cz_ BK141 2 (.int .i64 a1_2)
        have hfz58_0 := fz_ BK141 0
        have hfz58_1 := fz_ BK141 1
        have hfz58_2 := fz_ BK141 2
        go_wp2_with (first | ((with_reducible refine gate_builtin (b := .append) (xs := #[.tmp 45, .tmp 47]) rfl ?_); at_builtin; refine Kd.R_append k93 (w0 := w) w.heap.size rfl (.tmp 45) (.tmp 47) 24 93 (.agg #[(.string ⟨#[]⟩), (.int .i64 0), (.int .i64 0)]) 32 rfl Try.underlying24 info93 rfl (by decide) (by omega) u6 x6_1 (⟨a1_0, a1_1, a1_2⟩ : S93) [.string a1_0, .int .i64 a1_1, .int .i64 a1_2] (fun k_ => k_ ≠ gb141) (fun _ => False) rfl rfl ?aP (fun _ hk => hk.elim) ?aF ?aO ?aB ?aS ?aL ?_; (case aP => exact k93_mkM _ _ _ (⟨a1_0, a1_1, a1_2⟩ : S93)); (case aB => exact bl_); (case aF => exact (fun k_ hk => Kd.freshB (bk_ BK141) k_ hk)); (case aO => exact (ra_ HO_6)); (case aS => exact (below_size bl_)); (case aL => have := LMc51.out; omega); intro v159 w59 ho hb hg hat; rw [← Ny158.out] at ho; have n0_ := Aside0.mk (blk_grown (bk_ BK141) hg (Kd.R_away HO_6.out (fun _ hk => hk))); have n1_ := Aside0.mk (hb); have n2_ := Aside0.mk (ho); clear BK141; clear HB; clear HO_6; have BK141 := n0_; have HB := n1_; have HO160 := n2_; clear n0_ n1_ n2_; clear ho hb hg hat; obtain ⟨Ao60, co60, eo60⟩ := Kd.R_slice HO160.out; subst eo60) | ((with_reducible refine gate_callee (f := 124) rfl ?_); refine goesL_ (some 50) rfl rfl Try.func124 (by kernel_rfl) rfl #[.slice Ao60 y158.length co60] rfl gl_ ?_; (with_reducible refine (spec_HoldsOk.calls k1 _ _ y158 false _ ?side1 ?side2 A52.out).mono ?_); (case side1 => exact ca_ ((Kd.R_reads' HO160.out).2.2)); (case side2 => exact (Kd.R_reads' HO160.out).2.1); rintro e w61 ⟨rfl, hb⟩; refine ⟨_, rfl, ?_⟩; replace HO160 := Aside0.mk (Kd.R_below (ra_ HO160) hb); replace BK141 := Aside0.mk (blk_below (bk_ BK141) hb); replace HB := Aside0.mk (below_step bl_ hb); (try clear hb); (try clear hb2); (try clear hk); (try clear hi)))
        go_ret2
        exact ⟨_, by first | rfl | (simp [errW_none, errW_some] <;> rfl) | (simp [*, errW_none, errW_some] <;> rfl), by first | exact Kd.R_nil _ _ _ _ _ | exact Kd.N_nil _ _ _ _ _ | exact Kd.V_nil _ _ _ _ _ | exact Kd.Q_nil _ _ _ _ _ | exact Kd.S_nil _ _ _ _ _, bl_⟩
      ·rw [if_neg c51] at H
       exact absurd H (by simp)
 ·replace c4 := Bool.eq_false_iff.mpr c4
  subst c4
  replace H := in_ H
  simp only [Option.some.injEq, Prod.mk.injEq] at H
  obtain ⟨rfl, rfl⟩ := H
  go_enter Try.func63, Try.ntmps63
  go_wp2_with (first | ((with_reducible refine gate_dst (N := 3) rfl ?_); refine be_ (N := 3) (cs := #[.string a1_0, .int .i64 a1_1, .int .i64 a1_2]) (t := 93) ?_; intro gb141 hg w62 hbox hb; have BK141 := Aside0.mk (hbox); have GW141 := gw_ (w := w) hg; have GE141 := gw_ (w := w) hg; replace HB := Aside0.mk (below_step bl_ hb); clear hb hbox hg) | ((with_reducible refine gate_callee (f := 124) rfl ?_); refine goesL_ (some 11) rfl rfl Try.func124 (by kernel_rfl) rfl #[.slice A0 l0.length c0] rfl gl_ ?_; (with_reducible refine (spec_HoldsOk.calls k _ _ l0 false _ ?side1 ?side2 A3.out).mono ?_); (case side1 => exact ca_ (Kd.C_below HR0.out HB.out)); (case side2 => exact HC0.out); rintro e w63 ⟨rfl, hb⟩; refine ⟨_, rfl, ?_⟩; replace BK141 := Aside0.mk (blk_below (bk_ BK141) hb); replace HB := Aside0.mk (below_step bl_ hb); (try clear hb); (try clear hb2); (try clear hk); (try clear hi)))
  go_ret2
  exact ⟨_, by first | rfl | (simp [errW_none, errW_some] <;> rfl) | (simp [*, errW_none, errW_some] <;> rfl), by first | exact Kd.R_nil _ _ _ _ _ | exact Kd.N_nil _ _ _ _ _ | exact Kd.V_nil _ _ _ _ _ | exact Kd.Q_nil _ _ _ _ _ | exact Kd.S_nil _ _ _ _ _, bl_⟩
/-! ### impl_Hold_77: function 77 -/
section
variable {α : Type} {d : Kd α} {e base g n cap : Nat} {ok : Nat → Prop} {xs : List α}
theorem df_app (g : Nat) : ∀ (a b : List Value) (o : Nat) (w : World), w.setCells g o (a ++ b) = (w.setCells g o a).setCells g (o + a.length) b
 | [], b, o, w => by simp [World.setCells]
 | v :: a, b, o, w => by
  simp only [List.cons_append, World.setCells, List.length_cons]
  rw [df_app g a b, show o + 1 + a.length = o + (a.length + 1) by omega]
theorem df_store {W : World} (h : d.R e W base ok (.slice (some ⟨g, 0, none⟩) n cap) xs) (z : α) (i : Nat) (hi : i < n) (x : α) (c : List Value) (hc : c.length = d.sz) (hM : d.M W base (fun _ => False) x c) :
  d.R e (W.setCells g (i * d.sz) c) base ok (.slice (some ⟨g, 0, none⟩) n cap) (xs.set i x) ∧ W.grownBy (W.setCells g (i * d.sz) c) (some g) := by
 obtain ⟨c0, hl, _, hcc, _⟩ := Kd.R_elem h z (i : Int) (by omega) (by omega)
 have hq := Kd.R_seg (okp := fun _ => False) (x' := x) (seg := c) (j := 0) h (i : Int) (by omega) (by omega) hl hcc (by omega) (by rw [List.take_zero, List.nil_append, Nat.zero_add, List.drop_eq_nil_of_le (by omega), List.append_nil]; exact hM) (fun _ hk => hk.elim)
 simpa using hq
theorem df_zeros {α : Type} {d : Kd α} {e base g n cap : Nat} {ok : Nat → Prop} (z : α) (c : List Value) (hc : c.length = d.sz) (hM : ∀ W, d.M W base (fun _ => False) z c) : ∀ (m i : Nat) (xs : List α) (W : World), i + m = n →
  d.R e W base ok (.slice (some ⟨g, 0, none⟩) n cap) xs → ∃ ys, ys.take i = xs.take i ∧ d.R e (W.setCells g (i * d.sz) (List.replicate m c).flatten) base ok (.slice (some ⟨g, 0, none⟩) n cap) ys ∧ W.grownBy (W.setCells g (i * d.sz) (List.replicate m c).flatten) (some g)
 | 0, i, xs, W, _, h => ⟨xs, rfl, by simpa [World.setCells] using h, by simp [World.setCells]; exact World.grownBy.refl W _⟩
 | m + 1, i, xs, W, hi, h => by
  obtain ⟨h1, g1⟩ := df_store h z i (by omega) z c hc (hM W)
  obtain ⟨ys, ht, h2, g2⟩ := df_zeros z c hc hM m (i + 1) (xs.set i z) _ (by omega) h1
  have e1 : i * d.sz + c.length = (i + 1) * d.sz := by rw [hc, Nat.succ_mul]
  refine ⟨ys, ?_, ?_, ?_⟩
  ·have h3 := congrArg (List.take i) ht
   rw [List.take_take, List.take_take, Nat.min_eq_left (by omega)] at h3
   rw [h3, List.take_set_of_le (by omega)]
  ·rw [List.replicate_succ, List.flatten_cons, df_app, e1]; exact h2
  ·rw [List.replicate_succ, List.flatten_cons, df_app, e1]; exact g1.trans g2
theorem df_clear {P : Program} (w : World) (t e ty : TypeId) (z : Value) (ht : P.underlying t = some (.slice e)) (hv : ∀ w, (zeroValue e).run P w = .ok z w) (hz : 0 < z.cells.size) (h1 : ∀ u ∈ z.cells.toList, u.oneCell' = true) (b o n c : Nat) (hn : 0 < n)
  (hc : ∀ j, j < n * z.cells.size → (w.cell? ⟨b, o + j, none⟩).isSome = true) (hf : ∀ j, j < n * z.cells.size → w.frozen? ⟨b, o + j, none⟩ = false) :
  (Builtin.clear_ #[t] ty #[.slice (some ⟨b, o, none⟩) n c]).run P w = .ok (.tuple #[]) (w.setCells b o (List.replicate n z.cells.toList).flatten) := by
 have hzc : (Builtin.zeroCells z.cells n).toList = (List.replicate n z.cells.toList).flatten := by
  simp only [Builtin.zeroCells]
  apply List.ext_getElem
  ·simp
  ·intro i h1 h2
   have hi : i < n * z.cells.size := by simpa using h1
   have hm : i % z.cells.size < z.cells.size := Nat.mod_lt _ hz
   have key : ∀ (m i : Nat) (hi : i < m * z.cells.size) (h : i < (List.replicate m z.cells.toList).flatten.length), (List.replicate m z.cells.toList).flatten[i] = z.cells[i % z.cells.size]'(Nat.mod_lt _ hz) := by
    intro m
    induction m with
    | zero => intro i hi; simp at hi
    | succ m ih =>
     intro i hi h
     have e1 : (List.replicate (m + 1) z.cells.toList).flatten = z.cells.toList ++ (List.replicate m z.cells.toList).flatten := by rw [List.replicate_succ, List.flatten_cons]
     rw [List.getElem_of_eq e1]
     by_cases hlt : i < z.cells.size
     ·rw [List.getElem_append_left (by simpa using hlt)]
      simp [Nat.mod_eq_of_lt hlt]
     ·rw [List.getElem_append_right (by simpa using hlt), ih _ (by simp; rw [Nat.succ_mul] at hi; omega)]
      have e2 : i % z.cells.size = (i - z.cells.size) % z.cells.size := Nat.mod_eq_sub_mod (by omega)
      simp only [Array.length_toList, e2]
   rw [key n i hi h2]
   simp
   rw [getElem!_pos z.cells _ hm]
 have hst := run_storeCells_cells (P := P) b o (List.replicate n z.cells.toList).flatten 0 w (by simpa using hc) (by simpa using hf) (by
  intro v hv'
  obtain ⟨l, hl, hv2⟩ := List.mem_flatten.1 hv'
  rw [List.eq_of_mem_replicate hl] at hv2
  exact h1 v hv2)
 simp only [Nat.add_zero] at hst
 obtain ⟨m, rfl⟩ : ∃ m, n = m + 1 := ⟨n - 1, by omega⟩
 simp [Builtin.clear_, run_underlying ht, hv, hzc, hst]
end
theorem impl_Hold_77.rdN {xs : List S93} {x : Int} (h : x.toNat < xs.length) : rd_T93 xs x = xs[x.toNat] := by
 unfold rd_T93
 rw [List.getD_eq_getElem?_getD, List.getElem?_eq_getElem h]; rfl
def impl_Hold_77.idxF (p : S93 → Bool) (xs : List S93) : Int := match xs.findIdx? p with | some j => (j : Int) | none => -1
theorem impl_Hold_77.idxF_none (p : S93 → Bool) (xs : List S93) (h : ∀ j (hj : j < xs.length), p xs[j] = false) : impl_Hold_77.idxF p xs = -1 := by
 unfold impl_Hold_77.idxF
 have : xs.findIdx? p = none := by
  rw [List.findIdx?_eq_none_iff]
  intro x hx
  obtain ⟨j, hj, rfl⟩ := List.getElem_of_mem hx
  exact h j hj
 rw [this]
theorem impl_Hold_77.idxF_some (p : S93 → Bool) (xs : List S93) (i : Nat) (hi : i < xs.length) (hp : p xs[i] = true) (h : ∀ j (hj : j < i), p (xs[j]'(by omega)) = false) : impl_Hold_77.idxF p xs = (i : Int) := by
 unfold impl_Hold_77.idxF
 have : xs.findIdx? p = some i := by
  rw [List.findIdx?_eq_some_iff_getElem]
  exact ⟨hi, hp, fun j hj => by simpa using h j hj⟩
 rw [this]
set_option maxHeartbeats 2000000 in
set_option maxRecDepth 100000 in
theorem impl_Hold_77.idx (A0 : Option Addr) (c0 : Nat) (l0 : List S93) (g : Nat) (lb : Array Value) (p : S93 → Bool) (w : World) (hr0 : Kd.C k93 w A0 l0.length l0) (hc0 : l0.length ≤ c0)
  (eg : ∀ args w, (callFunc g args).run Try.prog w = .ok (.enter g args) w)
  (hp : ∀ (W : World) (x : S93), Below w.heap.size w W → Calls Try.prog g (#[.agg #[.string x.f0, .int .i64 x.f1, .int .i64 x.f2]] ++ lb) W fun e w' => e = .returned (.bool (p x)) ∧ Below W.heap.size W w') :
  Calls Try.prog 135 #[.slice A0 l0.length c0, .func (.func g) #[] lb] w fun e w' => e = .returned (.int .i64 (impl_Hold_77.idxF p l0)) ∧ Below w.heap.size w w' := by
 have hlen : l0.length ≤ 9223372036854775807 := hr0.2.1
 have HR0 := Aside0.mk hr0
 have HL := Aside0.mk hlen
 have HP := Aside0.mk hp
 clear hr0 hp
 have HB := Aside0.mk (Below.refl w.heap.size w)
 have hu93 := Try.underlying93
 clear hlen hc0
 go_enter Try.func135, Try.ntmps135
 go_wp2
 go_loopg [5, 8] l0.length (fun gg _ s8 wr => ∃ x : Int, s8 = .int .i64 x ∧ Aside0 (0 ≤ x) ∧ Aside0 (x ≤ l0.length) ∧ Aside0 (l0.length - x.toNat ≤ gg) ∧ Aside0 (∀ j (hj : j < l0.length), (j : Int) < x → p l0[j] = false) ∧ Aside0 (Below w.heap.size w wr))
 case atStart => exact ⟨0, rfl, ⟨by omega⟩, ⟨by omega⟩, ⟨by omega⟩, ⟨fun j hj h => by omega⟩, ⟨Below.refl _ w⟩⟩
 case round =>
  obtain ⟨x, rfl, H0, H1, HG, AF, HB⟩ := hrel
  by_cases hlt : x < (l0.length : Int)
  ·have hN : x.toNat < l0.length := by have := H0.out; omega
   have HN := Aside0.mk hN
   have c0 : decide (x < (l0.length : Int)) = true := decide_eq_true hlt
   obtain ⟨ad, e, hx0, hx1, hx2⟩ := at_T93 HR0.out x H0.out hlt
   cases e
   replace hx0 := kc_ HB hx0
   replace hx1 := kc_ HB hx1
   replace hx2 := kc_ HB hx2
   have p0 := eq_true H0.out
   have q0 := eq_true hlt
   clear hN hlt
   have HX := Aside0.mk (impl_Hold_77.rdN HN.out)
   cases hq : p (rd_T93 l0 x) with
   | true =>
    have HC := Aside0.mk (hq ▸ HP.out wr (rd_T93 l0 x) HB.out)
    have HQ := Aside0.mk hq
    clear hq
    go_wp2_with (go_at_fn g; refine HC.out.mono ?_; rintro e w' ⟨rfl, hb'⟩)
    go_ret
    exact ⟨by show Ending.returned (Value.int .i64 x) = _; rw [impl_Hold_77.idxF_some p l0 x.toNat HN.out (by rw [← HX.out]; exact HQ.out) (fun j hj => AF.out j (by have := HN.out; omega) (by omega)), Int.toNat_of_nonneg H0.out], below_step HB.out hb'⟩
   | false =>
    have HC := Aside0.mk (hq ▸ HP.out wr (rd_T93 l0 x) HB.out)
    have HQ := Aside0.mk hq
    clear hq
    go_wp2_with (go_at_fn g; refine HC.out.mono ?_; rintro e w' ⟨rfl, hb'⟩; have HB' := Aside0.mk hb'; clear hb')
    have hw := HL.out
    have e1 : wrap64 (x + 1) = x + 1 := by have := HN.out; have := H0.out; unfold wrap64; omega
    go_roundg (l0.length - (x.toNat + 1))
    case measure => have := HG.out; have := HN.out; omega
    case rel =>
     have hN := HN.out
     have h0 := H0.out
     refine ⟨wrap64 (x + 1), (by first | rfl | (simp; done) | (simp [*]; done)), ⟨by omega⟩, ⟨by omega⟩, ⟨by omega⟩, ⟨fun j hj h => ?_⟩, ⟨below_step HB.out HB'.out⟩⟩
     by_cases e : j = x.toNat
     ·subst e; rw [← HX.out]; exact HQ.out
     ·exact AF.out j hj (by omega)
  ·have c0 : decide (x < (l0.length : Int)) = false := decide_eq_false hlt
   have HN := Aside0.mk hlt
   clear hlt
   go_wp2
   go_ret
   exact ⟨by show Ending.returned (Value.int .i64 (-1)) = _; rw [impl_Hold_77.idxF_none p l0 (fun j hj => AF.out j hj (by have := HN.out; omega))], HB.out⟩
set_option maxHeartbeats 4000000 in
set_option maxRecDepth 100000 in
theorem impl_Hold_77.calls_none (v : Value) (xs : List S93) (gf : Nat) (lb : Array Value) (p : S93 → Bool) (ok : Nat → Prop) (w0 w : World) (hB : Below w0.heap.size w0 w) (hR : Kd.R k93 93 w w0.heap.size ok v xs)
  (eg : ∀ args w, (callFunc gf args).run Try.prog w = .ok (.enter gf args) w)
  (hp : ∀ (W : World) (x : S93), Kept w W (fun k => some k = v.ownBlock) → Calls Try.prog gf (#[.agg #[.string x.f0, .int .i64 x.f1, .int .i64 x.f2]] ++ lb) W fun e w' => e = .returned (.bool (p x)) ∧ Below W.heap.size W w')
  (ha : ∀ j (hj : j < xs.length), p xs[j] = false) :
  Calls Try.prog 77 #[v, .func (.func gf) #[] lb] w fun e w' => ∃ v', e = .returned v' ∧ Kd.R k93 93 w' w0.heap.size ok v' (xs.filter (fun x => !p x)) ∧ Below w0.heap.size w0 w' ∧ Kept w w' (fun k => some k = v.ownBlock) := by
 obtain ⟨A, c, rfl, hc, hC⟩ := Kd.R_reads hR
 have hf : xs.filter (fun x => !p x) = xs := List.filter_eq_self.2 fun x hx => by
  obtain ⟨j, hj, rfl⟩ := List.getElem_of_mem hx
  rw [ha j hj]; rfl
 have hi := impl_Hold_77.idx A c xs gf lb p w hC hc eg (fun W x hb => hp W x (Kept.of_below hb _))
 rw [impl_Hold_77.idxF_none p xs ha] at hi
 rw [hf]
 have HI := Aside0.mk hi
 have HR := Aside0.mk hR
 have HB := Aside0.mk hB
 clear hi hR hB hp ha hf hC
 have hu93 := Try.underlying93
 clear hc
 go_enter Try.func77, Try.ntmps77
 go_wp2_with (go_at_call 135; refine HI.out.mono ?_; rintro e w' ⟨rfl, hb'⟩)
 go_ret
 exact ⟨_, rfl, Kd.R_below HR.out hb', below_then HB.out HB.out.size hb', Kept.of_below hb' _⟩
set_option maxHeartbeats 4000000 in
set_option maxRecDepth 100000 in
theorem impl_Hold_77.calls_some (g cap : Nat) (xs : List S93) (gf : Nat) (lb : Array Value) (p : S93 → Bool) (ok : Nat → Prop) (w0 w : World) (hB : Below w0.heap.size w0 w) (hR : Kd.R k93 93 w w0.heap.size ok (.slice (some ⟨g, 0, none⟩) xs.length cap) xs)
  (eg : ∀ args w, (callFunc gf args).run Try.prog w = .ok (.enter gf args) w)
  (hp : ∀ (W : World) (x : S93), Kept w W (fun k => k = g) → Calls Try.prog gf (#[.agg #[.string x.f0, .int .i64 x.f1, .int .i64 x.f2]] ++ lb) W fun e w' => e = .returned (.bool (p x)) ∧ Below W.heap.size W w')
  (i0 : Nat) (hi0 : i0 < xs.length) (hpi : p (xs[i0]'hi0) = true) (ha : ∀ j (hj : j < i0), p (xs[j]'(Nat.lt_trans hj hi0)) = false) :
  Calls Try.prog 77 #[.slice (some ⟨g, 0, none⟩) xs.length cap, .func (.func gf) #[] lb] w fun e w' => ∃ v', e = .returned v' ∧ Kd.R k93 93 w' w0.heap.size ok v' (xs.filter (fun x => !p x)) ∧ Below w0.heap.size w0 w' ∧ Kept w w' (fun k => k = g) := by
 obtain ⟨hn, hc, hC⟩ := Kd.R_reads' hR
 have hlen : xs.length ≤ 9223372036854775807 := hC.2.1
 have hi := impl_Hold_77.idx (some ⟨g, 0, none⟩) cap xs gf lb p w hC hc eg (fun W x hb => hp W x (Kept.of_below hb _))
 rw [impl_Hold_77.idxF_some p xs i0 hi0 hpi ha] at hi
 have HI := Aside0.mk hi
 have HR := Aside0.mk hR
 have HB := Aside0.mk hB
 have HP := Aside0.mk hp
 have hst : xs.take (i0 + 1) = xs.take i0 ++ [xs[i0]] := by rw [List.take_succ_eq_append_getElem hi0]
 have hst0 : (xs.take i0).filter (fun x => !p x) = xs.take i0 := List.filter_eq_self.2 fun x hx => by
  obtain ⟨j, hj, rfl⟩ := List.getElem_of_mem hx
  rw [List.getElem_take, ha j (by rw [List.length_take] at hj; omega)]; rfl
 have hst1 : (xs.take (i0 + 1)).filter (fun x => !p x) = xs.take i0 := by rw [hst, List.filter_append, hst0]; simp [hpi]
 have HST := Aside0.mk hst1
 have HL := Aside0.mk hlen
 have HC := Aside0.mk hc
 have HI0 := Aside0.mk hi0
 have hg0 : w0.heap.size ≤ g := Kd.R_base hR g rfl
 have HG0 := Aside0.mk hg0
 clear hi hR hB hp hst hst0 hst1 ha hC hpi hg0
 have hu93 := Try.underlying93
 have c1 : (((i0 : Nat) : Int) == -1) = false := by first | (simp; done) | (simp; omega)
 have e1 : IntKind.i64.wrap ((i0 : Int) + 1) = (i0 : Int) + 1 := by rw [i64_w]; unfold wrap64; omega
 clear hlen hc hi0 hn
 go_enter Try.func77, Try.ntmps77
 go_wp2_with (go_at_call 135; refine HI.out.mono ?_; rintro e w' ⟨rfl, hb'⟩)
 go_loopg [5, 6] xs.length (fun gg s5 s6 wr => ∃ (i j : Int) (dk : List S93), s5 = .int .i64 i ∧ s6 = .int .i64 j ∧ Aside0 (0 ≤ i) ∧ Aside0 (i < j) ∧ Aside0 (0 ≤ j) ∧ Aside0 (j ≤ xs.length) ∧ Aside0 (xs.length - j.toNat ≤ gg) ∧ Aside0 (dk.take i.toNat = (xs.take j.toNat).filter (fun x => !p x) ∧ dk.drop j.toNat = xs.drop j.toNat ∧ ((xs.take j.toNat).filter (fun x => !p x)).length = i.toNat) ∧ Aside0 (Kd.R k93 93 wr w0.heap.size ok (.slice (some ⟨g, 0, none⟩) xs.length cap) dk) ∧ Aside0 (Below w0.heap.size w0 wr) ∧ Aside0 (Kept w wr (fun k => k = g)))
 case atStart => exact ⟨i0, i0 + 1, xs, rfl, by first | rfl | (simp; done), ⟨by omega⟩, ⟨by omega⟩, ⟨by omega⟩, ⟨by have := HI0.out; omega⟩, ⟨by omega⟩, ⟨by rw [show ((i0 : Int) + 1).toNat = i0 + 1 by omega, Int.toNat_natCast, HST.out]; exact ⟨rfl, rfl, by rw [List.length_take]; have := HI0.out; omega⟩⟩, ⟨Kd.R_below HR.out hb'⟩, ⟨below_then HB.out HB.out.size hb'⟩, ⟨Kept.of_below hb' _⟩⟩
 case round =>
  obtain ⟨i, j, dk, rfl, rfl, H0, H1, H2, H3, HG, HD, HR, HB, HK⟩ := hrel
  by_cases hlt : j < (xs.length : Int)
  ·obtain ⟨c, hcl, hM, hcc, hfr⟩ := Kd.R_elem HR.out z93 j H2.out hlt
   obtain rfl := k93_openM hM
   obtain ⟨x, hx⟩ : ∃ x, x = rd_T93 dk j := ⟨_, rfl⟩
   have hx0 : wr.cell? ⟨g, j.toNat * 3, none⟩ = some (.string x.f0) := by rw [hx]; exact hcc 0 _ rfl
   have hx1 : wr.cell? ⟨g, j.toNat * 3 + 1, none⟩ = some (.int .i64 x.f1) := by rw [hx]; exact hcc 1 _ rfl
   have hx2 : wr.cell? ⟨g, j.toNat * 3 + 2, none⟩ = some (.int .i64 x.f2) := by rw [hx]; exact hcc 2 _ rfl
   have hdl : dk.length = xs.length := (Kd.R_reads' HR.out).1.symm
   have hXX : x = xs[j.toNat]'(by have := H2.out; omega) := by
    have h1 := congrArg (fun l => l[0]?) HD.out.2.1
    have h0 := H2.out
    simp only [List.getElem?_drop, Nat.add_zero] at h1
    rw [hx]; unfold rd_T93
    rw [List.getD_eq_getElem?_getD, h1, List.getElem?_eq_getElem (by omega)]; rfl
   have hts : xs.take (j.toNat + 1) = xs.take j.toNat ++ [x] := by rw [hXX, List.take_succ_eq_append_getElem]
   have HDL := Aside0.mk hdl
   have HTS := Aside0.mk hts
   clear hcl hM hcc hfr hx hXX hdl hts
   have p0 := eq_true H2.out
   have q0 := eq_true hlt
   have HLT := Aside0.mk hlt
   have e2 : wrap64 (j + 1) = j + 1 := by have := HL.out; have := H2.out; unfold wrap64; omega
   have e3 : (j + 1).toNat = j.toNat + 1 := by have := H2.out; omega
   have E3 := Aside0.mk e3
   have E2 := Aside0.mk e2
   clear hlt e2 e3
   cases hq : p x with
   | true =>
    have HC := Aside0.mk (fun W => hq ▸ HP.out W x)
    have HQ := Aside0.mk hq
    clear hq
    go_wp2_with (go_at_fn gf; refine (HC.out _ (Kept.alloc HK.out _)).mono ?_; rintro e w2 ⟨rfl, hb2⟩; have HB2 := Aside0.mk hb2; clear hb2)
    go_roundg (xs.length - (j.toNat + 1))
    case measure => have := HG.out; have := HLT.out; have := H2.out; omega
    case rel =>
     have := HLT.out; have := H2.out; have := H1.out; have := H0.out
     refine ⟨i, wrap64 (j + 1), dk, rfl, by first | rfl | (simp; done), ⟨by omega⟩, ⟨by rw [E2.out]; omega⟩, ⟨by rw [E2.out]; omega⟩, ⟨by rw [E2.out]; omega⟩, ⟨by rw [E2.out]; omega⟩, ⟨?_⟩, ⟨Kd.R_below (Kd.R_alloc HR.out _) HB2.out⟩, ⟨below_then (HB.out.alloc HB.out.size _) (by simp; have := HB.out.size; omega) HB2.out⟩, ⟨Kept.below (Kept.alloc HK.out _) HB2.out⟩⟩
     rw [E2.out, E3.out, HTS.out, List.filter_append]
     simp only [List.filter_cons, HQ.out, Bool.not_true, List.filter_nil, List.append_nil, Bool.false_eq_true, if_false]
     refine ⟨HD.out.1, ?_, HD.out.2.2⟩
     have h1 := congrArg (List.drop 1) HD.out.2.1
     simpa [List.drop_drop] using h1
   | false =>
    have HC := Aside0.mk (fun W => hq ▸ HP.out W x)
    have HQ := Aside0.mk hq
    clear hq
    go_wp2_with (go_at_fn gf; refine (HC.out _ (Kept.alloc HK.out _)).mono ?_; rintro e w2 ⟨rfl, hb2⟩; have HB2 := Aside0.mk hb2; have hbv := (hb2.block wr.heap.size (by simp)).trans (heap_alloc_new wr _); have HBV := Aside0.mk hbv; have hv0 := (blk_cell hbv 0).trans (show _ = some (Value.string x.f0) from rfl); have hv1 := (blk_cell hbv 1).trans (show _ = some (Value.int .i64 x.f1) from rfl); have hv2 := (blk_cell hbv 2).trans (show _ = some (Value.int .i64 x.f2) from rfl); have HR2 := Aside0.mk (Kd.R_below (Kd.R_alloc HR.out _) hb2); obtain ⟨c, hcl, hM, hcc, hfr⟩ := Kd.R_elem HR2.out z93 i H0.out (by have := H1.out; have := HLT.out; omega); obtain rfl := k93_openM hM; have hi0 := hcc 0 _ rfl; have hf0 := hfr 0; have hi1 := hcc 1 _ rfl; have hf1 := hfr 1; have hi2 := hcc 2 _ rfl; have hf2 := hfr 2; simp only [show k93.sz = 3 from rfl, Nat.add_zero] at hi0 hf0 hi1 hf1 hi2 hf2; have p1 := eq_true H0.out; have q1 := eq_true (show i < (xs.length : Int) by have := H1.out; have := HLT.out; omega); clear hb2 hbv hcl hM hcc hfr)
    go_roundg (xs.length - (j.toNat + 1))
    case measure => have := HG.out; have := HLT.out; have := H2.out; omega
    case rel =>
     have := HLT.out; have := H2.out; have := H1.out; have := H0.out; have hdl := HDL.out; have hw := HL.out
     have hs := df_store HR2.out z93 i.toNat (by omega) x [.string x.f0, .int .i64 x.f1, .int .i64 x.f2] rfl (k93_mkM _ _ _ x)
     have e4 : wrap64 (i + 1) = i + 1 := by unfold wrap64; omega
     have e5 : (i + 1).toNat = i.toNat + 1 := by omega
     have ht1 : (dk.set i.toNat x).take (i.toNat + 1) = dk.take i.toNat ++ [x] := by
      rw [List.take_succ_eq_append_getElem (by rw [List.length_set]; omega), List.take_set_of_le (Nat.le_refl _), List.getElem_set_self]
     refine ⟨wrap64 (i + 1), wrap64 (j + 1), dk.set i.toNat x, rfl, rfl, ⟨by rw [e4]; omega⟩, ⟨by rw [E2.out, e4]; omega⟩, ⟨by rw [E2.out]; omega⟩, ⟨by rw [E2.out]; omega⟩, ⟨by rw [E2.out]; omega⟩, ⟨?_⟩, ⟨hs.1⟩, ⟨(below_then (HB.out.alloc HB.out.size _) (by simp; have := HB.out.size; omega) HB2.out).grown hs.2 (by have := HB2.out.size; have := HB.out.size; simp at *; omega) (fun k hk => by cases hk; exact HG0.out)⟩, ⟨Kept.of_grown hs.2 (Kept.below (Kept.alloc HK.out _) HB2.out) (fun k hk => by cases hk; exact .inl rfl)⟩⟩
     rw [E2.out, E3.out, e4, e5, HTS.out, List.filter_append, ht1]
     simp only [List.filter_cons, HQ.out, Bool.not_false, List.filter_nil, if_true]
     refine ⟨by rw [HD.out.1], ?_, by rw [List.length_append, HD.out.2.2]; rfl⟩
     have h1 := congrArg (List.drop 1) HD.out.2.1
     rw [List.drop_set_of_lt (by omega)]
     simpa [List.drop_drop] using h1
  ·have hje : j = (xs.length : Int) := by have := H3.out; omega
   have hfi : xs.filter (fun x => !p x) = dk.take i.toNat := by
    have h1 := HD.out.1
    rw [hje, Int.toNat_natCast, List.take_length] at h1
    exact h1.symm
   have HFI := Aside0.mk hfi
   have q0 : decide (j < (xs.length : Int)) = false := decide_eq_false hlt
   have p1 := eq_true H0.out
   have q1 := eq_true (show i ≤ (xs.length : Int) by have := H1.out; omega)
   have h0 := H0.out
   have h1 := H1.out
   have hcc := HC.out
   have q2 := eq_true (show i ≤ (cap : Int) by omega)
   have n1 := eq_false (show ¬ i.toNat = cap by omega)
   have n2 := eq_false (show ¬ cap = i.toNat by omega)
   have hcl : ∀ ty, (Builtin.clear_ #[24] ty #[.slice (some ⟨g, i.toNat * 3, none⟩) (xs.length - i.toNat) (cap - i.toNat)]).run Try.prog wr = .ok (.tuple #[]) (wr.setCells g (i.toNat * 3) (List.replicate (xs.length - i.toNat) [Value.string ⟨#[]⟩, Value.int .i64 0, Value.int .i64 0]).flatten) := fun ty =>
    df_clear wr 24 93 ty (.agg #[Value.string ⟨#[]⟩, Value.int .i64 0, Value.int .i64 0]) Try.underlying24 (fun w => by simp [go_sem]) (by decide) (by decide) g _ _ _ (by omega) (fun q hq => by
     replace hq : q < (xs.length - i.toNat) * 3 := hq
     obtain ⟨c, hcl, _, hcc, _⟩ := Kd.R_elem HR.out z93 ((i.toNat + q / 3 : Nat) : Int) (by omega) (by omega)
     have h3 := hcc (q % 3) _ (List.getElem?_eq_getElem (show q % 3 < c.length by rw [hcl]; show q % 3 < 3; omega))
     rw [show ((i.toNat + q / 3 : Nat) : Int).toNat * k93.sz + q % 3 = i.toNat * 3 + q from by show _ * 3 + _ = _; omega] at h3
     rw [h3]; rfl) (fun q hq => by
     replace hq : q < (xs.length - i.toNat) * 3 := hq
     obtain ⟨c, hcl, _, _, hfr⟩ := Kd.R_elem HR.out z93 ((i.toNat + q / 3 : Nat) : Int) (by omega) (by omega)
     have h3 := hfr (q % 3)
     rwa [show ((i.toNat + q / 3 : Nat) : Int).toNat * k93.sz + q % 3 = i.toNat * 3 + q from by show _ * 3 + _ = _; omega] at h3)
   have HZ := Aside0.mk (df_zeros (d := k93) z93 [Value.string ⟨#[]⟩, Value.int .i64 0, Value.int .i64 0] rfl (fun W => k93_mkM _ _ _ z93) (xs.length - i.toNat) i.toNat dk wr (by omega) HR.out)
   have HJ := Aside0.mk hje
   clear hlt hje hfi h0 h1 hcc
   go_wp2
   go_ret
   obtain ⟨ys, ht, hR', hg'⟩ := HZ.out
   have hyl := (Kd.R_reads' hR').1
   have hi := H0.out
   have hj := H1.out
   have hjj := HJ.out
   refine ⟨_, rfl, ?_, HB.out.grown hg' HB.out.size (fun k hk => by cases hk; exact HG0.out), Kept.of_grown hg' HK.out (fun k hk => by cases hk; exact .inl rfl)⟩
   rw [HFI.out, ← ht]
   exact Kd.R_take hR' (by omega)
theorem impl_Hold_77.calls (v : Value) (xs : List S93) (gf : Nat) (lb : Array Value) (p : S93 → Bool) (ok : Nat → Prop) (w0 w : World) (hB : Below w0.heap.size w0 w) (hR : Kd.R k93 93 w w0.heap.size ok v xs)
  (eg : ∀ args w, (callFunc gf args).run Try.prog w = .ok (.enter gf args) w)
  (hp : ∀ (W : World) (x : S93), Kept w W (fun k => some k = v.ownBlock) → Calls Try.prog gf (#[.agg #[.string x.f0, .int .i64 x.f1, .int .i64 x.f2]] ++ lb) W fun e w' => e = .returned (.bool (p x)) ∧ Below W.heap.size W w') :
  Calls Try.prog 77 #[v, .func (.func gf) #[] lb] w fun e w' => ∃ v', e = .returned v' ∧ Kd.R k93 93 w' w0.heap.size ok v' (xs.filter (fun x => !p x)) ∧ Below w0.heap.size w0 w' ∧ Kept w w' (fun k => some k = v.ownBlock) := by
 cases hf : xs.findIdx? p with
 | none =>
  rw [List.findIdx?_eq_none_iff] at hf
  exact impl_Hold_77.calls_none v xs gf lb p ok w0 w hB hR eg hp (fun j hj => hf _ (List.getElem_mem _))
 | some i =>
  rw [List.findIdx?_eq_some_iff_getElem] at hf
  obtain ⟨hi, h1, h2⟩ := hf
  obtain ⟨g, cap, rfl, _⟩ := Kd.R_form hR (by omega)
  refine (impl_Hold_77.calls_some g cap xs gf lb p ok w0 w hB hR eg (fun W x hk => hp W x (Kept.mono hk (fun k e => by subst e; rfl))) i hi h1 (fun j hj => by simpa using h2 j hj)).mono ?_
  rintro e w' ⟨v', rfl, hr, hb, hk⟩
  exact ⟨v', rfl, hr, hb, Kept.mono hk (fun k e => by subst e; rfl)⟩
/-! ### impl_Hold_78: function 78 -/
def impl_Hold_78.f (l0 : List (S93)) : Option ((List (S93))) := (some (([] : List (S93)) : List (S93))).bind fun y162 => (if y162.length + l0.length < 4398046511104 then (some (y162 ++ l0)) else (none))
set_option maxHeartbeats 8000000 in
set_option maxRecDepth 100000 in
theorem impl_Hold_78.calls_some (ad0 : Addr) (c0 : Nat) (l0 : List (S93)) (r : List (S93)) (w : World) (hr0 : Kd.C k93 w (some ad0) l0.length l0) (hc0 : l0.length ≤ c0) (h : impl_Hold_78.f l0 = some r) :
  Calls Try.prog 78 #[.slice (some ad0) l0.length c0] w fun e w' => ∃ v0_ : Value, e = .returned (v0_) ∧ Kd.R k93 93 w' w.heap.size (fun _ => True) v0_ r ∧ Below w.heap.size w w' := by
 have q0_ : ∀ (n c : Nat) (W : World), (binOp .eql 24 (.slice (some ad0) n c) (.slice none 0 0)).run Try.prog W = .ok (.bool false) W := fun n c W => Lib.run_eql_slice_nil W _ _ (some ad0) n c 0 0 Try.underlying24
 have HR0 := Aside0.mk hr0
 have HC0 := Aside0.mk hc0
 clear hr0 hc0
 have HB := Aside0.mk (Below.refl w.heap.size w)
 have H : ((some (([] : List (S93)) : List (S93))).bind fun y162 => (if y162.length + l0.length < 4398046511104 then (some (y162 ++ l0)) else (none))) = some r := h
 clear h
 obtain ⟨y162, hy162⟩ : ∃ y_ : List (S93), y_ = (([] : List (S93))) := ⟨_, rfl⟩
 replace H : (if y162.length + l0.length < 4398046511104 then (some (y162 ++ l0)) else (none)) = some r := by first | (rw [hy162]; with_reducible exact H) | (have H2_ := (Option.bind_some _ _).symm.trans H; rw [hy162]; with_reducible exact H2_) | (have H2_ := (Option.bind_some _ _).symm.trans H; with_reducible exact H2_) | with_reducible exact H | (rw [hy162]; exact H) | exact H
 have Ny162 := Aside0.mk hy162
 clear hy162
 by_cases c2 : y162.length + l0.length < 4398046511104
 ·rw [if_pos c2] at H
  have LMc2 := Aside0.mk c2
  clear c2
  obtain ⟨y165, hy165⟩ : ∃ y_ : List (S93), y_ = (y162 ++ l0) := ⟨_, rfl⟩
  replace H : (some y165) = some r := by first | (rw [hy165]; with_reducible exact H) | (have H2_ := (Option.bind_some _ _).symm.trans H; rw [hy165]; with_reducible exact H2_) | (have H2_ := (Option.bind_some _ _).symm.trans H; with_reducible exact H2_) | with_reducible exact H | (rw [hy165]; exact H) | exact H
  have Ny165 := Aside0.mk hy165
  clear hy165
  obtain rfl := Option.some.inj H
  go_enter Try.func78, Try.ntmps78
  go_wp2_with (first | ((with_reducible refine gate_dst (N := 5) rfl ?_); refine Kd.R_lit k93 _ 93 ?hg (N := 5) ?hd (xs := ([] : List (S93))) (inner := []) (ok := fun _ => True) (okp := fun _ => True) ?hr ?hp (fun _ hk => hk) trivial (Below.refl _ _) (Nat.le_refl _) (by simp) ?_; (case hd => rfl); (case hg => rfl); (case hr => first | (go_simp; done) | (go_simp; rfl)); (case hp => exact (Reps.none _ _)); intro v163 w3 ho4 hb hg_ hnew_; clear hg_ hnew_; (first | rw [← Ny162.out] at ho4 | (simp only [Int.reduceToNat] at ho4; rw [← Ny162.out] at ho4)); have HO164 := Aside0.mk (Kd.R_lower ho4 (below_size bl_)); replace HB := Aside0.mk (below_step bl_ hb); clear hb ho4) | ((with_reducible refine gate_builtin (b := .append) (xs := #[.tmp 5, .tmp 6]) rfl ?_); at_builtin; refine Kd.R_append_rows k93 (w0 := w) w.heap.size rfl (.tmp 5) (.tmp 6) 24 93 (.agg #[(.string ⟨#[]⟩), (.int .i64 0), (.int .i64 0)]) 32 rfl Try.underlying24 info93 rfl (by decide) (by omega) v163 y162 l0 _ _ _ (fun _ => True) (fun _ => False) rfl rfl ?aO ?aR (fun _ _ h => h) (fun _ h => h.elim) ?aF ?aB ?aS ?aL ?_; (case aR => exact ca_ (Kd.C_below HR0.out HB.out)); (case aB => exact bl_); (case aF => exact (fun _ _ => trivial)); (case aO => exact (ra_ HO164)); (case aS => exact (below_size bl_)); (case aL => have := LMc2.out; omega); intro v166 w5 ho hb hg hat; rw [← Ny165.out] at ho; have n0_ := Aside0.mk (hb); have n1_ := Aside0.mk (ho); clear HB; clear HO164; have HB := n0_; have HO167 := n1_; clear n0_ n1_; clear ho hb hg hat))
  go_ret
  exact ⟨_, by first | rfl | (simp [errW_none, errW_some] <;> rfl) | (simp [*, errW_none, errW_some] <;> rfl), ra_ HO167, bl_⟩
 ·rw [if_neg c2] at H
  exact absurd H (by simp)
set_option maxHeartbeats 8000000 in
set_option maxRecDepth 100000 in
theorem impl_Hold_78.calls_none (c0 : Nat) (l0 : List (S93)) (r : List (S93)) (w : World) (hr0 : Kd.C k93 w none l0.length l0) (hc0 : l0.length ≤ c0) (h : impl_Hold_78.f l0 = some r) :
  Calls Try.prog 78 #[.slice none l0.length c0] w fun e w' => ∃ v0_ : Value, e = .returned (v0_) ∧ Kd.R k93 93 w' w.heap.size (fun _ => True) v0_ r ∧ Below w.heap.size w w' := by
 have q0_ : ∀ (n c : Nat) (W : World), (binOp .eql 24 (.slice none n c) (.slice none 0 0)).run Try.prog W = .ok (.bool true) W := fun n c W => Lib.run_eql_slice_nil W _ _ none n c 0 0 Try.underlying24
 have hn : l0 = [] := List.eq_nil_of_length_eq_zero (Nat.eq_zero_of_not_pos (fun hp => by obtain ⟨a, ha, _⟩ := hr0.2.2 hp; cases ha))
 subst hn
 have hr : r = [] := by simp [impl_Hold_78.f] at h; first | exact h | exact h.symm
 subst hr
 clear hr0 hc0 h
 go_enter Try.func78, Try.ntmps78
 go_wp2
 go_ret
 exact ⟨_, rfl, Kd.R_nil _ _ _ _ _, by repeat (first | exact Below.refl _ _ | apply below_alloc | apply pw_below_drewN | apply below_drew1)⟩
set_option maxHeartbeats 8000000 in
set_option maxRecDepth 100000 in
theorem impl_Hold_78.calls (A0 : Option Addr) (c0 : Nat) (l0 : List (S93)) (r : List (S93)) (w : World) (hr0 : Kd.C k93 w A0 l0.length l0) (hc0 : l0.length ≤ c0) (h : impl_Hold_78.f l0 = some r) :
  Calls Try.prog 78 #[.slice A0 l0.length c0] w fun e w' => ∃ v0_ : Value, e = .returned (v0_) ∧ Kd.R k93 93 w' w.heap.size (fun _ => True) v0_ r ∧ Below w.heap.size w w' := by
 cases A0 with
 | none => exact impl_Hold_78.calls_none c0 l0 r w hr0 hc0 h
 | some ad0 => exact impl_Hold_78.calls_some ad0 c0 l0 r w hr0 hc0 h
-- NOT PRINTED: function 79 (impl_HoldDrop_1)
/-! ### impl_HoldDrop: function 18 -/
set_option maxRecDepth 100000 in
theorem impl_HoldDrop.clo (x : S93) (a1 : ByteArray) (B : Nat) (w : World) (ha : w.heap[B]? = some (.cells #[.string a1] 9 (0, 0))) :
  Calls Try.prog 79 #[.agg #[.string x.f0, .int .i64 x.f1, .int .i64 x.f2], .pointer (some ⟨B, 0, none⟩)] w fun e w' => e = .returned (.bool (x.f0.toList == a1.toList)) ∧ Below w.heap.size w w' := by
 have hu93 := Try.underlying93
 have hlta := blk_lt ha
 have hca := blk_cell ha 0
 have hfa := blk_frozen ha 0
 clear ha
 go_enter Try.func79, Try.ntmps79
 go_wp2
 go_ret
 exact ⟨by first | rfl | simp, by first | exact below_then (below_alloc (Below.refl _ _) _) (by simp) (by assumption) | (repeat (first | exact Below.refl _ _ | apply below_alloc | apply pw_below_drewN | apply below_drew1))⟩
def impl_HoldDrop.f (l0 : List S93) (a1 : ByteArray) : Option (List S93) := (impl_Hold_78.f l0).bind fun l => some (l.filter (fun x => !(x.f0.toList == a1.toList)))
set_option maxHeartbeats 2000000 in
set_option maxRecDepth 100000 in
theorem impl_HoldDrop.calls (A0 : Option Addr) (c0 : Nat) (l0 : List (S93)) (a1 : ByteArray) (r : List (S93)) (w : World) (hr0 : Kd.C k93 w A0 l0.length l0) (hc0 : l0.length ≤ c0) (h : impl_HoldDrop.f l0 a1 = some r) :
  Calls Try.prog 18 #[.slice A0 l0.length c0, .string a1] w fun e w' => ∃ v0_ : Value, e = .returned (v0_) ∧ Kd.R k93 93 w' w.heap.size (fun _ => True) v0_ r ∧ Below w.heap.size w w' := by
 obtain ⟨l, hl, h⟩ := Option.bind_eq_some_iff.1 h
 obtain rfl := Option.some.inj h
 clear h
 have HR0 := Aside0.mk hr0
 have HC0 := Aside0.mk hc0
 have HL := Aside0.mk hl
 clear hr0 hc0 hl
 go_enter Try.func18, Try.ntmps18
 go_wp2_with (first | (go_at_call 78; refine (impl_Hold_78.calls A0 c0 l0 l _ (Kd.C_alloc HR0.out _) HC0.out HL.out).mono ?_; rintro e w2 ⟨v, rfl, ho, hb⟩; have HO := Aside0.mk ho; have HB := Aside0.mk hb; clear ho hb) | (go_at_call 77; refine (impl_Hold_77.calls v l 79 #[.pointer (some ⟨w.heap.size, 0, none⟩)] (fun x => x.f0.toList == a1.toList) (fun _ => True) w _ (below_then (below_alloc (Below.refl _ _) _) (by simp) HB.out) (Kd.R_lower HO.out (by simp)) (fun _ _ => by kernel_rfl) (fun W x hk => impl_HoldDrop.clo x a1 w.heap.size W ((hk.2 w.heap.size (by have := HB.out.size; simp at this; omega) (fun e => by have := Kd.R_base HO.out _ e.symm; simp at this; omega)).trans ((HB.out.block _ (by simp)).trans (heap_alloc_new w _))))).mono ?_; rintro e w3 ⟨v', rfl, hr, hb, _⟩))
 go_ret
 exact ⟨v', rfl, hr, hb⟩
/-! ### impl_within: function 145 -/
def impl_within.f (a0 : Int) (a1 : Int) (a2 : Int) : Option (Bool) := if a1 ≤ a0 then (some (decide (a0 ≤ a2))) else (some false)
set_option maxHeartbeats 8000000 in
set_option maxRecDepth 100000 in
theorem impl_within.calls (a0 : Int) (a1 : Int) (a2 : Int) (r : Bool) (w : World) (h : impl_within.f a0 a1 a2 = some r) :
  Calls Try.prog 145 #[.int .i64 a0, .int .i64 a1, .int .i64 a2] w fun e w' => e = .returned (.bool r) ∧ Drawn0 w w' := by
 have H : (if a1 ≤ a0 then (some (decide (a0 ≤ a2))) else (some false)) = some r := h
 clear h
 by_cases c4 : a1 ≤ a0
 ·rw [if_pos c4] at H
  have c4b0 : decide (a1 ≤ a0) = true := decide_eq_true c4
  clear c4
  obtain rfl := Option.some.inj H
  go_enter Try.func145, Try.ntmps145
  go_wp2
  go_ret
  exact ⟨sp_, by repeat (first | exact Drawn0.refl _ | apply Drawn0.step)⟩
 ·rw [if_neg c4] at H
  have c4b0 : decide (a1 ≤ a0) = false := decide_eq_false c4
  clear c4
  obtain rfl := Option.some.inj H
  go_enter Try.func145, Try.ntmps145
  go_wp2
  go_ret
  exact ⟨sp_, by repeat (first | exact Drawn0.refl _ | apply Drawn0.step)⟩
end Go.Proofs.Ytepjnalkpfnmcaa.QFnExactHoldPut
