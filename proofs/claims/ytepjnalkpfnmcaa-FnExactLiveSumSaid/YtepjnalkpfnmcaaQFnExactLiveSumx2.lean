-- by my own printer (myprint.py, over the kit's print.py)
import Derived.Test.YtepjnalkpfnmcaaQFnExactLiveSumx0
import Derived.Test.YtepjnalkpfnmcaaQFnExactLiveSumx1
namespace Go.Proofs.Ytepjnalkpfnmcaa.QFnExactLiveSum
open Go.RowKit Go.Proofs.YtepjnalkpfnmcaaW.PrintWords Go.Proofs.YtepjnalkpfnmcaaW.PrintLast Go.Proofs.YtepjnalkpfnmcaaW.PrintMore
attribute [local go_sem] max2_int min2_int max_two min_two max_three min_three max_four min_four   -- for this text's walks alone
set_option linter.unusedVariables false
set_option linter.unusedSimpArgs false

attribute [local go_sem] my_geq my_leq my_gtr
/-! ### spec_LiveOnes: function 22 -/
def spec_LiveOnes.l0 : Nat → Int → List (S93) → List (S93) → Int → Int → Option ((List (S93)))
 | 0, _, _, _, _, _ => none
 | k + 1, x1, x5, x9, x10, x11 => if x11 < x10 then (if 0 ≤ x11 then (if x11 < (x9.length : Int) then ((spec_Live.f ((rd_T93 x9 x11).f0) ((rd_T93 x9 x11).f1) ((rd_T93 x9 x11).f2) x1).bind fun t126 => (if t126 = true then (if x5.length < 4398046511104 then (spec_LiveOnes.l0 k x1 (x5 ++ [(⟨(rd_T93 x9 x11).f0, (rd_T93 x9 x11).f1, (rd_T93 x9 x11).f2⟩ : S93)]) x9 x10 (wrap64 (x11 + 1))) else (none)) else (spec_LiveOnes.l0 k x1 x5 x9 x10 (wrap64 (x11 + 1))))) else (none)) else (none)) else (some x5)
def spec_LiveOnes.f (k : Nat) (l0 : List (S93)) (a1 : Int) : Option ((List (S93))) := spec_LiveOnes.l0 k a1 (([] : List (S93))) l0 (l0.length : Int) 0
theorem spec_LiveOnes.mono_l : ∀ k, (∀ y0 y1 y2 y3 y4, LeO (spec_LiveOnes.l0 k y0 y1 y2 y3 y4) (spec_LiveOnes.l0 (k + 1) y0 y1 y2 y3 y4))
 | 0 => fun _ _ _ _ _ r h => by simp [spec_LiveOnes.l0] at h
 | k + 1 => by
  have ih0 := spec_LiveOnes.mono_l k
  ·intro y0 y1 y2 y3 y4
   unfold spec_LiveOnes.l0
   repeat' first
   | (with_reducible exact ih0 _ _ _ _ _)
   | (with_reducible exact LeO.refl _)
   | (with_reducible exact LeO.none _)
   | (with_reducible refine LeO.ite ?_ ?_)
   | (with_reducible refine LeO.bind ?_ (fun _ => ?_))
   | exact ih0 _ _ _ _ _
   | exact LeO.none _
   | refine LeO.ite ?_ ?_
   | refine LeO.bind ?_ (fun _ => ?_)
theorem spec_LiveOnes.mono : ∀ a0 a1 k, LeO (spec_LiveOnes.f k a0 a1) (spec_LiveOnes.f (k + 1) a0 a1) := by
 intro a0 a1 k
 have ih0 := spec_LiveOnes.mono_l k
 unfold spec_LiveOnes.f
 repeat' first
   | (with_reducible exact ih0 _ _ _ _ _)
   | (with_reducible exact LeO.refl _)
   | (with_reducible exact LeO.none _)
   | (with_reducible refine LeO.ite ?_ ?_)
   | (with_reducible refine LeO.bind ?_ (fun _ => ?_))
   | exact ih0 _ _ _ _ _
   | exact LeO.none _
   | refine LeO.ite ?_ ?_
   | refine LeO.bind ?_ (fun _ => ?_)
set_option maxHeartbeats 8000000 in
set_option maxRecDepth 100000 in
theorem spec_LiveOnes.calls (k : Nat) (A0 : Option Addr) (c0 : Nat) (l0 : List (S93)) (a1 : Int) (r : List (S93)) (w : World) (hr0 : Kd.C k93 w A0 l0.length l0) (hc0 : l0.length ≤ c0) (h : spec_LiveOnes.f k l0 a1 = some r) :
  Calls Try.prog 22 #[.slice A0 l0.length c0, .int .i64 a1] w fun e w' => ∃ v0_ : Value, e = .returned (v0_) ∧ Kd.R k93 93 w' w.heap.size (fun _ => True) v0_ r ∧ Below w.heap.size w w' := by
 have hu93 := Try.underlying93
 have HR0 := Aside0.mk hr0
 have HC0 := Aside0.mk hc0
 clear hr0 hc0
 have HB := Aside0.mk (Below.refl w.heap.size w)
 have H : (spec_LiveOnes.l0 k a1 (([] : List (S93))) l0 (l0.length : Int) 0) = some r := h
 clear h
 obtain ⟨y121, hy121⟩ : ∃ y_ : List (S93), y_ = (([] : List (S93))) := ⟨_, rfl⟩
 replace H : (spec_LiveOnes.l0 k a1 y121 l0 (l0.length : Int) 0) = some r := by first | (rw [hy121]; with_reducible exact H) | (have H2_ := (Option.bind_some _ _).symm.trans H; rw [hy121]; with_reducible exact H2_) | (have H2_ := (Option.bind_some _ _).symm.trans H; with_reducible exact H2_) | with_reducible exact H | (rw [hy121]; exact H) | exact H
 have Ny121 := Aside0.mk hy121
 clear hy121
 have H' := Aside0.mk H
 clear H
 go_enter Try.func22, Try.ntmps22
 go_wp2_with (first | ((with_reducible refine gate_dst (N := 8) rfl ?_); refine Kd.R_lit k93 _ 93 ?hg (N := 8) ?hd (xs := ([] : List (S93))) (inner := []) (ok := fun _ => True) (okp := fun _ => True) ?hr ?hp (fun _ hk => hk) trivial (Below.refl _ _) (Nat.le_refl _) (by simp) ?_; (case hd => rfl); (case hg => rfl); (case hr => first | (go_simp; done) | (go_simp; rfl)); (case hp => exact (Reps.none _ _)); intro v122 w3 ho4 hb hg_ hnew_; clear hg_ hnew_; (first | rw [← Ny121.out] at ho4 | (simp only [Int.reduceToNat] at ho4; rw [← Ny121.out] at ho4)); have n0_ := Aside0.mk (Kd.R_lower ho4 (below_size bl_)); have n1_ := Aside0.mk (below_step bl_ hb); clear HB; have HO123 := n0_; have HB := n1_; clear n0_ n1_; clear hb ho4))
 go_loopg [5, 11] k (fun kq v5 v11 w' => ∃ (x5_1 : List (S93)) (x11_1 : Int), v11 = .int .i64 x11_1 ∧ Aside0 (spec_LiveOnes.l0 kq a1 x5_1 l0 (l0.length : Int) x11_1 = some r) ∧ Aside0 (kq ≤ k) ∧ Aside0 (Kd.R k93 93 w' w.heap.size (fun _ => True) v5 x5_1) ∧ Aside0 (Below w.heap.size w w'))
 case atStart => exact ⟨(y121), (0), sp_, H', ⟨Nat.le_refl _⟩, ⟨ra_ HO123⟩, ⟨bl_⟩⟩
 case round =>
  clear H'
  try clear c2
  try clear p2
  obtain ⟨x5_1, x11_1, rfl, HA, HK1, HO_5, HB⟩ := hrel
  cases gk with
  | zero => exact absurd HA.out (by simp [spec_LiveOnes.l0])
  | succ k1 =>
   have H := HA.out
   clear HA
   simp only [spec_LiveOnes.l0] at H
   by_cases c5 : x11_1 < (l0.length : Int)
   ·rw [if_pos c5] at H
    have c5b0 : decide (x11_1 < (l0.length : Int)) = true := decide_eq_true c5
    clear c5
    by_cases c6 : 0 ≤ x11_1
    ·rw [if_pos c6] at H
     have c6b0 : decide (0 ≤ x11_1) = true := decide_eq_true c6
     clear c6
     by_cases c7 : x11_1 < (l0.length : Int)
     ·rw [if_pos c7] at H
      have c7b0 : decide (x11_1 < (l0.length : Int)) = true := decide_eq_true c7
      clear c7
      replace H := Option.bind_eq_some_iff.mp H
      obtain ⟨t126, A80, H⟩ := H
      replace H : (if t126 = true then (if x5_1.length < 4398046511104 then (spec_LiveOnes.l0 k1 a1 (x5_1 ++ [(⟨(rd_T93 l0 x11_1).f0, (rd_T93 l0 x11_1).f1, (rd_T93 l0 x11_1).f2⟩ : S93)]) l0 (l0.length : Int) (wrap64 (x11_1 + 1))) else (none)) else (spec_LiveOnes.l0 k1 a1 x5_1 l0 (l0.length : Int) (wrap64 (x11_1 + 1)))) = some r := H
      have A8 := Aside0.mk A80
      clear A80
      by_cases c9 : t126 = true
      ·subst c9
       have H1 : (if x5_1.length < 4398046511104 then (spec_LiveOnes.l0 k1 a1 (x5_1 ++ [(⟨(rd_T93 l0 x11_1).f0, (rd_T93 l0 x11_1).f1, (rd_T93 l0 x11_1).f2⟩ : S93)]) l0 (l0.length : Int) (wrap64 (x11_1 + 1))) else (none)) = some r := by rw [if_pos rfl] at H; exact H
       clear H
       have H := H1
       clear H1
       by_cases c10 : x5_1.length < 4398046511104
       ·rw [if_pos c10] at H
        have LMc10 := Aside0.mk c10
        clear c10
        obtain ⟨y127, hy127⟩ : ∃ y_ : List (S93), y_ = (x5_1 ++ [(⟨(rd_T93 l0 x11_1).f0, (rd_T93 l0 x11_1).f1, (rd_T93 l0 x11_1).f2⟩ : S93)]) := ⟨_, rfl⟩
        replace H : (spec_LiveOnes.l0 k1 a1 y127 l0 (l0.length : Int) (wrap64 (x11_1 + 1))) = some r := by first | (rw [hy127]; with_reducible exact H) | (have H2_ := (Option.bind_some _ _).symm.trans H; rw [hy127]; with_reducible exact H2_) | (have H2_ := (Option.bind_some _ _).symm.trans H; with_reducible exact H2_) | with_reducible exact H | (rw [hy127]; exact H) | exact H
        have Ny127 := Aside0.mk hy127
        clear hy127
        have H' := Aside0.mk H
        clear H
        have p124 : 0 ≤ (x11_1 : Int) := od_
        have q124 : x11_1 < (l0.length : Int) := od_
        obtain ⟨ad124, e124, hx124_0, hx124_1, hx124_2⟩ := at_T93 HR0.out x11_1 p124 q124
        cases e124
        replace hx124_0 := kc_ HB hx124_0
        replace hx124_1 := kc_ HB hx124_1
        replace hx124_2 := kc_ HB hx124_2
        replace p124 := eq_true p124
        replace q124 := eq_true q124
        go_wp2_with (first | ((with_reducible refine gate_dst (N := 7) rfl ?_); refine box_event ?hg (N := 7) ?hd (cs := #[.string (⟨#[]⟩ : ByteArray), .int .i64 0, .int .i64 0]) (t := 93) ?hr ?_; (case hd => rfl); (case hg => rfl); (case hr => first | (go_simp; done) | (go_simp; rfl)); intro gb125 hg w11 hbox hb; have n0_ := Aside0.mk (Kd.R_below (Kd.R_elderB (ra_ HO_5) gb125 (Nat.le_of_eq hg.symm)) hb); have n1_ := Aside0.mk (below_step bl_ hb); have n2_ := Aside0.mk (hbox); have n3_ := gw_ (w := w) hg; have n4_ := gw_ (w := w) hg; clear HO_5; clear HB; have HO_5 := n0_; have HB := n1_; have BK125 := n2_; have GW125 := n3_; have GE125 := n4_; clear n0_ n1_ n2_ n3_ n4_; clear hb hbox hg; have hcz12_0 := cz_ BK125 0 (.string (⟨#[]⟩ : ByteArray)); have hcz12_1 := cz_ BK125 1 (.int .i64 0); have hcz12_2 := cz_ BK125 2 (.int .i64 0); have hfz12_0 := fz_ BK125 0; have hfz12_1 := fz_ BK125 1; have hfz12_2 := fz_ BK125 2) | ((with_reducible refine gate_callee (f := 82) rfl ?_); refine goesL_ (some 17) rfl rfl Try.func82 (by kernel_rfl) rfl #[.agg #[.string ((rd_T93 l0 x11_1).f0), .int .i64 ((rd_T93 l0 x11_1).f1), .int .i64 ((rd_T93 l0 x11_1).f2)], .int .i64 a1] rfl gl_ ?_; (with_reducible refine (spec_Live.calls ((rd_T93 l0 x11_1).f0) ((rd_T93 l0 x11_1).f1) ((rd_T93 l0 x11_1).f2) a1 true _ A8.out).mono ?_); rintro e w13 ⟨rfl, hb⟩; refine ⟨_, rfl, ?_⟩; have n0_ := Aside0.mk (Kd.R_below (by (with_reducible repeat (first | apply Kd.R_alloc | apply Kd.R_drewN | apply Kd.R_drew)); exact (Kd.R_mono (Kd.R_far (p := ⟨gb125, 2, none⟩) (Kd.R_far (p := ⟨gb125, 1, none⟩) (Kd.R_far (p := ⟨gb125, 0, none⟩) (Kd.R_mono HO_5.out (fun k_ hk => (⟨hk, hk.2⟩ : _ ∧ k_ ≠ gb125))) (fun _ hk => hk.2) (.string ((rd_T93 l0 x11_1).f0))) (fun _ hk => hk.2) (.int .i64 ((rd_T93 l0 x11_1).f1))) (fun _ hk => hk.2) (.int .i64 ((rd_T93 l0 x11_1).f2))) (fun _ h_ => h_.1))) hb); have n1_ := Aside0.mk (blk_below (g := gb125) (o := .cells #[.string ((rd_T93 l0 x11_1).f0), .int .i64 ((rd_T93 l0 x11_1).f1), .int .i64 ((rd_T93 l0 x11_1).f2)] 93 (0, 0)) (by (with_reducible repeat (first | refine blk_drewN ?_ _ | refine blk_drew ?_ | refine blk_alloc ?_ _)); refine blk_put (cs := #[.string ((rd_T93 l0 x11_1).f0), .int .i64 ((rd_T93 l0 x11_1).f1), .int .i64 0]) ?_ 2 _ rfl; refine blk_put (cs := #[.string ((rd_T93 l0 x11_1).f0), .int .i64 0, .int .i64 0]) ?_ 1 _ rfl; refine blk_put (cs := #[.string (⟨#[]⟩ : ByteArray), .int .i64 0, .int .i64 0]) ?_ 0 _ rfl; (with_reducible repeat (first | refine blk_drewN ?_ _ | refine blk_drew ?_ | refine blk_alloc ?_ _)); exact BK125.out) hb); have n2_ := Aside0.mk (below_step bl_ hb); clear HO_5; clear BK125; clear HB; have HO_5 := n0_; have BK125 := n1_; have HB := n2_; clear n0_ n1_ n2_; (try clear hb); (try clear hb2); (try clear hk); (try clear hi); have hcz14_0 := cz_ BK125 0 (.string ((rd_T93 l0 x11_1).f0)); have hcz14_1 := cz_ BK125 1 (.int .i64 ((rd_T93 l0 x11_1).f1)); have hcz14_2 := cz_ BK125 2 (.int .i64 ((rd_T93 l0 x11_1).f2)); have hfz14_0 := fz_ BK125 0; have hfz14_1 := fz_ BK125 1; have hfz14_2 := fz_ BK125 2) | ((with_reducible refine gate_builtin (b := .append) (xs := #[.tmp 18, .tmp 20]) rfl ?_); at_builtin; refine Kd.R_append k93 (w0 := w) w.heap.size rfl (.tmp 18) (.tmp 20) 24 93 (.agg #[(.string ⟨#[]⟩), (.int .i64 0), (.int .i64 0)]) 32 rfl Try.underlying24 info93 rfl (by decide) (by omega) u5 x5_1 (⟨(rd_T93 l0 x11_1).f0, (rd_T93 l0 x11_1).f1, (rd_T93 l0 x11_1).f2⟩ : S93) [.string ((rd_T93 l0 x11_1).f0), .int .i64 ((rd_T93 l0 x11_1).f1), .int .i64 ((rd_T93 l0 x11_1).f2)] (fun k_ => k_ ≠ gb125) (fun _ => False) rfl rfl ?aP (fun _ hk => hk.elim) ?aF ?aO ?aB ?aS ?aL ?_; (case aP => exact k93_mkM _ _ _ (⟨(rd_T93 l0 x11_1).f0, (rd_T93 l0 x11_1).f1, (rd_T93 l0 x11_1).f2⟩ : S93)); (case aB => exact bl_); (case aF => exact (fun k_ hk => Kd.freshB (bk_ BK125) k_ hk)); (case aO => exact (by (with_reducible repeat (first | apply Kd.R_alloc | apply Kd.R_drewN | apply Kd.R_drew)); exact Kd.R_mono HO_5.out (fun _ hk => hk.2))); (case aS => exact (below_size bl_)); (case aL => have := LMc10.out; omega); intro v128 w15 ho hb hg hat; rw [← Ny127.out] at ho; have n0_ := Aside0.mk (blk_grown (bk_ BK125) hg (Kd.R_away HO_5.out (fun _ hk => hk.2))); have n1_ := Aside0.mk (hb); have n2_ := Aside0.mk (ho); clear BK125; clear HB; clear HO_5; have BK125 := n0_; have HB := n1_; have HO129 := n2_; clear n0_ n1_ n2_; clear ho hb hg hat))
        go_roundg k1
        case measure => have := HK1.out; omega
        case rel => exact ⟨(y127), (wrap64 (x11_1 + 1)), sp_, H', ⟨by have := HK1.out; omega⟩, ⟨by (with_reducible repeat (first | apply Kd.R_alloc | apply Kd.R_drewN | apply Kd.R_drew)); exact Kd.R_mono HO129.out (fun _ hk => trivial)⟩, ⟨bl_⟩⟩
       ·rw [if_neg c10] at H
        exact absurd H (by simp)
      ·replace c9 := Bool.eq_false_iff.mpr c9
       subst c9
       have H1 : (spec_LiveOnes.l0 k1 a1 x5_1 l0 (l0.length : Int) (wrap64 (x11_1 + 1))) = some r := by rw [if_neg (show ¬ (false = true) by decide)] at H; exact H
       clear H
       have H := H1
       clear H1
       have H' := Aside0.mk H
       clear H
       have p124 : 0 ≤ (x11_1 : Int) := od_
       have q124 : x11_1 < (l0.length : Int) := od_
       obtain ⟨ad124, e124, hx124_0, hx124_1, hx124_2⟩ := at_T93 HR0.out x11_1 p124 q124
       cases e124
       replace hx124_0 := kc_ HB hx124_0
       replace hx124_1 := kc_ HB hx124_1
       replace hx124_2 := kc_ HB hx124_2
       replace p124 := eq_true p124
       replace q124 := eq_true q124
       go_wp2_with (first | ((with_reducible refine gate_dst (N := 7) rfl ?_); refine box_event ?hg (N := 7) ?hd (cs := #[.string (⟨#[]⟩ : ByteArray), .int .i64 0, .int .i64 0]) (t := 93) ?hr ?_; (case hd => rfl); (case hg => rfl); (case hr => first | (go_simp; done) | (go_simp; rfl)); intro gb125 hg w16 hbox hb; have n0_ := Aside0.mk (Kd.R_below (Kd.R_elderB (ra_ HO_5) gb125 (Nat.le_of_eq hg.symm)) hb); have n1_ := Aside0.mk (below_step bl_ hb); have n2_ := Aside0.mk (hbox); have n3_ := gw_ (w := w) hg; have n4_ := gw_ (w := w) hg; clear HO_5; clear HB; have HO_5 := n0_; have HB := n1_; have BK125 := n2_; have GW125 := n3_; have GE125 := n4_; clear n0_ n1_ n2_ n3_ n4_; clear hb hbox hg; have hcz17_0 := cz_ BK125 0 (.string (⟨#[]⟩ : ByteArray)); have hcz17_1 := cz_ BK125 1 (.int .i64 0); have hcz17_2 := cz_ BK125 2 (.int .i64 0); have hfz17_0 := fz_ BK125 0; have hfz17_1 := fz_ BK125 1; have hfz17_2 := fz_ BK125 2) | ((with_reducible refine gate_callee (f := 82) rfl ?_); refine goesL_ (some 17) rfl rfl Try.func82 (by kernel_rfl) rfl #[.agg #[.string ((rd_T93 l0 x11_1).f0), .int .i64 ((rd_T93 l0 x11_1).f1), .int .i64 ((rd_T93 l0 x11_1).f2)], .int .i64 a1] rfl gl_ ?_; (with_reducible refine (spec_Live.calls ((rd_T93 l0 x11_1).f0) ((rd_T93 l0 x11_1).f1) ((rd_T93 l0 x11_1).f2) a1 false _ A8.out).mono ?_); rintro e w18 ⟨rfl, hb⟩; refine ⟨_, rfl, ?_⟩; have n0_ := Aside0.mk (Kd.R_below (by (with_reducible repeat (first | apply Kd.R_alloc | apply Kd.R_drewN | apply Kd.R_drew)); exact (Kd.R_mono (Kd.R_far (p := ⟨gb125, 2, none⟩) (Kd.R_far (p := ⟨gb125, 1, none⟩) (Kd.R_far (p := ⟨gb125, 0, none⟩) (Kd.R_mono HO_5.out (fun k_ hk => (⟨hk, hk.2⟩ : _ ∧ k_ ≠ gb125))) (fun _ hk => hk.2) (.string ((rd_T93 l0 x11_1).f0))) (fun _ hk => hk.2) (.int .i64 ((rd_T93 l0 x11_1).f1))) (fun _ hk => hk.2) (.int .i64 ((rd_T93 l0 x11_1).f2))) (fun _ h_ => h_.1))) hb); have n1_ := Aside0.mk (blk_below (g := gb125) (o := .cells #[.string ((rd_T93 l0 x11_1).f0), .int .i64 ((rd_T93 l0 x11_1).f1), .int .i64 ((rd_T93 l0 x11_1).f2)] 93 (0, 0)) (by (with_reducible repeat (first | refine blk_drewN ?_ _ | refine blk_drew ?_ | refine blk_alloc ?_ _)); refine blk_put (cs := #[.string ((rd_T93 l0 x11_1).f0), .int .i64 ((rd_T93 l0 x11_1).f1), .int .i64 0]) ?_ 2 _ rfl; refine blk_put (cs := #[.string ((rd_T93 l0 x11_1).f0), .int .i64 0, .int .i64 0]) ?_ 1 _ rfl; refine blk_put (cs := #[.string (⟨#[]⟩ : ByteArray), .int .i64 0, .int .i64 0]) ?_ 0 _ rfl; (with_reducible repeat (first | refine blk_drewN ?_ _ | refine blk_drew ?_ | refine blk_alloc ?_ _)); exact BK125.out) hb); have n2_ := Aside0.mk (below_step bl_ hb); clear HO_5; clear BK125; clear HB; have HO_5 := n0_; have BK125 := n1_; have HB := n2_; clear n0_ n1_ n2_; (try clear hb); (try clear hb2); (try clear hk); (try clear hi)))
       go_roundg k1
       case measure => have := HK1.out; omega
       case rel => exact ⟨(x5_1), (wrap64 (x11_1 + 1)), sp_, H', ⟨by have := HK1.out; omega⟩, ⟨by (with_reducible repeat (first | apply Kd.R_alloc | apply Kd.R_drewN | apply Kd.R_drew)); exact Kd.R_mono HO_5.out (fun _ hk => trivial)⟩, ⟨bl_⟩⟩
     ·rw [if_neg c7] at H
      exact absurd H (by simp)
    ·rw [if_neg c6] at H
     exact absurd H (by simp)
   ·rw [if_neg c5] at H
    have c5b0 : decide (x11_1 < (l0.length : Int)) = false := decide_eq_false c5
    clear c5
    obtain rfl := Option.some.inj H
    go_wp2
    go_ret
    exact ⟨_, by first | rfl | (simp [errW_none, errW_some] <;> rfl) | (simp [*, errW_none, errW_some] <;> rfl), ra_ HO_5, bl_⟩

/-! ### spec_l01Money: function 141 -/
def spec_l01Money.f (a0 : Int) : Option (Bool) := if a0 ≥ 0 then (some (decide (a0 ≤ 4611686018427387904))) else (some false)
set_option maxHeartbeats 8000000 in
set_option maxRecDepth 100000 in
theorem spec_l01Money.calls (a0 : Int) (r : Bool) (w : World) (h : spec_l01Money.f a0 = some r) :
  Calls Try.prog 141 #[.int .i64 a0] w fun e w' => e = .returned (.bool r) ∧ Drawn0 w w' := by
 have H : (if a0 ≥ 0 then (some (decide (a0 ≤ 4611686018427387904))) else (some false)) = some r := h
 clear h
 by_cases c2 : a0 ≥ 0
 ·rw [if_pos c2] at H
  have c2b0 : decide (0 ≤ a0) = true := decide_eq_true c2
  clear c2
  obtain rfl := Option.some.inj H
  go_enter Try.func141, Try.ntmps141
  go_wp2
  go_ret
  exact ⟨sp_, by repeat (first | exact Drawn0.refl _ | apply Drawn0.step)⟩
 ·rw [if_neg c2] at H
  have c2b0 : decide (0 ≤ a0) = false := decide_eq_false c2
  clear c2
  obtain rfl := Option.some.inj H
  go_enter Try.func141, Try.ntmps141
  go_wp2
  go_ret
  exact ⟨sp_, by repeat (first | exact Drawn0.refl _ | apply Drawn0.step)⟩

/-! ### spec_AddMoney: function 176 -/
def spec_AddMoney.f (a0 : Int) (a1 : Int) : Option (Int × Bool) := (spec_l01Money.f a0).bind fun t130 => (if t130 = true then ((spec_l01Money.f a1).bind fun t131 => (if t131 = true then (if a0 > (wrap64 (4611686018427387904 - a1)) then (some (0, false)) else (some (wrap64 (a0 + a1), true))) else (some (0, false)))) else (some (0, false)))
set_option maxHeartbeats 8000000 in
set_option maxRecDepth 100000 in
theorem spec_AddMoney.calls (a0 : Int) (a1 : Int) (r1 : Int) (r2 : Bool) (w : World) (h : spec_AddMoney.f a0 a1 = some (r1, r2)) :
  Calls Try.prog 176 #[.int .i64 a0, .int .i64 a1] w fun e w' => e = .returned (.tuple #[.int .i64 r1, .bool r2]) ∧ Drawn0 w w' := by
 have H : ((spec_l01Money.f a0).bind fun t130 => (if t130 = true then ((spec_l01Money.f a1).bind fun t131 => (if t131 = true then (if a0 > (wrap64 (4611686018427387904 - a1)) then (some (0, false)) else (some (wrap64 (a0 + a1), true))) else (some (0, false)))) else (some (0, false)))) = some (r1, r2) := h
 clear h
 replace H := Option.bind_eq_some_iff.mp H
 obtain ⟨t130, A30, H⟩ := H
 replace H : (if t130 = true then ((spec_l01Money.f a1).bind fun t131 => (if t131 = true then (if a0 > (wrap64 (4611686018427387904 - a1)) then (some (0, false)) else (some (wrap64 (a0 + a1), true))) else (some (0, false)))) else (some (0, false))) = some (r1, r2) := H
 have A3 := Aside0.mk A30
 clear A30
 by_cases c4 : t130 = true
 ·subst c4
  have H1 : ((spec_l01Money.f a1).bind fun t131 => (if t131 = true then (if a0 > (wrap64 (4611686018427387904 - a1)) then (some (0, false)) else (some (wrap64 (a0 + a1), true))) else (some (0, false)))) = some (r1, r2) := by rw [if_pos rfl] at H; exact H
  clear H
  have H := H1
  clear H1
  replace H := Option.bind_eq_some_iff.mp H
  obtain ⟨t131, A50, H⟩ := H
  replace H : (if t131 = true then (if a0 > (wrap64 (4611686018427387904 - a1)) then (some (0, false)) else (some (wrap64 (a0 + a1), true))) else (some (0, false))) = some (r1, r2) := H
  have A5 := Aside0.mk A50
  clear A50
  by_cases c6 : t131 = true
  ·subst c6
   have H1 : (if a0 > (wrap64 (4611686018427387904 - a1)) then (some (0, false)) else (some (wrap64 (a0 + a1), true))) = some (r1, r2) := by rw [if_pos rfl] at H; exact H
   clear H
   have H := H1
   clear H1
   by_cases c7 : a0 > (wrap64 (4611686018427387904 - a1))
   ·rw [if_pos c7] at H
    have c7b0 : decide ((wrap64 (4611686018427387904 - a1)) < a0) = true := decide_eq_true c7
    clear c7
    simp only [Option.some.injEq, Prod.mk.injEq] at H
    obtain ⟨rfl, rfl⟩ := H
    go_enter Try.func176, Try.ntmps176
    go_wp2_with (first | ((with_reducible refine gate_callee (f := 141) rfl ?_); refine goesL_ (some 7) rfl rfl Try.func141 (by kernel_rfl) rfl #[.int .i64 a0] rfl gl_ ?_; (with_reducible refine (spec_l01Money.calls a0 true _ A3.out).mono ?_); rintro e w' ⟨rfl, ⟨nd, rfl⟩⟩; refine ⟨_, rfl, ?_⟩) | (go_at_call 141; (with_reducible refine (spec_l01Money.calls a1 true _ A5.out).mono ?_); rintro e w' ⟨rfl, ⟨nd, rfl⟩⟩))
    go_ret2
    exact ⟨sp_, by repeat (first | exact Drawn0.refl _ | apply Drawn0.step)⟩
   ·rw [if_neg c7] at H
    have c7b0 : decide ((wrap64 (4611686018427387904 - a1)) < a0) = false := decide_eq_false c7
    clear c7
    simp only [Option.some.injEq, Prod.mk.injEq] at H
    obtain ⟨rfl, rfl⟩ := H
    go_enter Try.func176, Try.ntmps176
    go_wp2_with (first | ((with_reducible refine gate_callee (f := 141) rfl ?_); refine goesL_ (some 7) rfl rfl Try.func141 (by kernel_rfl) rfl #[.int .i64 a0] rfl gl_ ?_; (with_reducible refine (spec_l01Money.calls a0 true _ A3.out).mono ?_); rintro e w' ⟨rfl, ⟨nd, rfl⟩⟩; refine ⟨_, rfl, ?_⟩) | (go_at_call 141; (with_reducible refine (spec_l01Money.calls a1 true _ A5.out).mono ?_); rintro e w' ⟨rfl, ⟨nd, rfl⟩⟩))
    go_ret2
    exact ⟨sp_, by repeat (first | exact Drawn0.refl _ | apply Drawn0.step)⟩
  ·replace c6 := Bool.eq_false_iff.mpr c6
   subst c6
   have H1 : (some (0, false)) = some (r1, r2) := by rw [if_neg (show ¬ (false = true) by decide)] at H; exact H
   clear H
   have H := H1
   clear H1
   simp only [Option.some.injEq, Prod.mk.injEq] at H
   obtain ⟨rfl, rfl⟩ := H
   go_enter Try.func176, Try.ntmps176
   go_wp2_with (first | ((with_reducible refine gate_callee (f := 141) rfl ?_); refine goesL_ (some 7) rfl rfl Try.func141 (by kernel_rfl) rfl #[.int .i64 a0] rfl gl_ ?_; (with_reducible refine (spec_l01Money.calls a0 true _ A3.out).mono ?_); rintro e w' ⟨rfl, ⟨nd, rfl⟩⟩; refine ⟨_, rfl, ?_⟩) | (go_at_call 141; (with_reducible refine (spec_l01Money.calls a1 false _ A5.out).mono ?_); rintro e w' ⟨rfl, ⟨nd, rfl⟩⟩))
   go_ret2
   exact ⟨sp_, by repeat (first | exact Drawn0.refl _ | apply Drawn0.step)⟩
 ·replace c4 := Bool.eq_false_iff.mpr c4
  subst c4
  have H1 : (some (0, false)) = some (r1, r2) := by rw [if_neg (show ¬ (false = true) by decide)] at H; exact H
  clear H
  have H := H1
  clear H1
  simp only [Option.some.injEq, Prod.mk.injEq] at H
  obtain ⟨rfl, rfl⟩ := H
  go_enter Try.func176, Try.ntmps176
  go_wp2_with (first | ((with_reducible refine gate_callee (f := 141) rfl ?_); refine goesL_ (some 7) rfl rfl Try.func141 (by kernel_rfl) rfl #[.int .i64 a0] rfl gl_ ?_; (with_reducible refine (spec_l01Money.calls a0 false _ A3.out).mono ?_); rintro e w' ⟨rfl, ⟨nd, rfl⟩⟩; refine ⟨_, rfl, ?_⟩))
  go_ret2
  exact ⟨sp_, by repeat (first | exact Drawn0.refl _ | apply Drawn0.step)⟩

/-! ### spec_l01Clamp: function 177 -/
def spec_l01Clamp.f (a0 : Int) (a1 : Int) (a2 : Int) : Option (Int) := if a0 < a1 then (some a1) else (if a0 > a2 then (some a2) else (some a0))
set_option maxHeartbeats 8000000 in
set_option maxRecDepth 100000 in
theorem spec_l01Clamp.calls (a0 : Int) (a1 : Int) (a2 : Int) (r : Int) (w : World) (h : spec_l01Clamp.f a0 a1 a2 = some r) :
  Calls Try.prog 177 #[.int .i64 a0, .int .i64 a1, .int .i64 a2] w fun e w' => e = .returned (.int .i64 r) ∧ Drawn0 w w' := by
 have H : (if a0 < a1 then (some a1) else (if a0 > a2 then (some a2) else (some a0))) = some r := h
 clear h
 by_cases c4 : a0 < a1
 ·rw [if_pos c4] at H
  have c4b0 : decide (a0 < a1) = true := decide_eq_true c4
  clear c4
  obtain rfl := Option.some.inj H
  go_enter Try.func177, Try.ntmps177
  go_wp2
  go_ret
  exact ⟨sp_, by repeat (first | exact Drawn0.refl _ | apply Drawn0.step)⟩
 ·rw [if_neg c4] at H
  have c4b0 : decide (a0 < a1) = false := decide_eq_false c4
  clear c4
  by_cases c5 : a0 > a2
  ·rw [if_pos c5] at H
   have c5b0 : decide (a2 < a0) = true := decide_eq_true c5
   clear c5
   obtain rfl := Option.some.inj H
   go_enter Try.func177, Try.ntmps177
   go_wp2
   go_ret
   exact ⟨sp_, by repeat (first | exact Drawn0.refl _ | apply Drawn0.step)⟩
  ·rw [if_neg c5] at H
   have c5b0 : decide (a2 < a0) = false := decide_eq_false c5
   clear c5
   obtain rfl := Option.some.inj H
   go_enter Try.func177, Try.ntmps177
   go_wp2
   go_ret
   exact ⟨sp_, by repeat (first | exact Drawn0.refl _ | apply Drawn0.step)⟩

/-! ### spec_AddSat: function 136 -/
def spec_AddSat.f (a0 : Int) (a1 : Int) : Option (Int) := (spec_l01Clamp.f a0 0 4611686018427387904).bind fun t132 => ((spec_l01Clamp.f a1 0 4611686018427387904).bind fun t133 => ((spec_AddMoney.f t132 t133).bind fun bt134 => (if bt134.2 = true then (some bt134.1) else (some 4611686018427387904))))
set_option maxHeartbeats 8000000 in
set_option maxRecDepth 100000 in
theorem spec_AddSat.calls (a0 : Int) (a1 : Int) (r : Int) (w : World) (h : spec_AddSat.f a0 a1 = some r) :
  Calls Try.prog 136 #[.int .i64 a0, .int .i64 a1] w fun e w' => e = .returned (.int .i64 r) ∧ Drawn0 w w' := by
 have H : ((spec_l01Clamp.f a0 0 4611686018427387904).bind fun t132 => ((spec_l01Clamp.f a1 0 4611686018427387904).bind fun t133 => ((spec_AddMoney.f t132 t133).bind fun bt134 => (if bt134.2 = true then (some bt134.1) else (some 4611686018427387904))))) = some r := h
 clear h
 replace H := Option.bind_eq_some_iff.mp H
 obtain ⟨t132, A30, H⟩ := H
 replace H : ((spec_l01Clamp.f a1 0 4611686018427387904).bind fun t133 => ((spec_AddMoney.f t132 t133).bind fun bt134 => (if bt134.2 = true then (some bt134.1) else (some 4611686018427387904)))) = some r := H
 have A3 := Aside0.mk A30
 clear A30
 replace H := Option.bind_eq_some_iff.mp H
 obtain ⟨t133, A40, H⟩ := H
 replace H : ((spec_AddMoney.f t132 t133).bind fun bt134 => (if bt134.2 = true then (some bt134.1) else (some 4611686018427387904))) = some r := H
 have A4 := Aside0.mk A40
 clear A40
 replace H := Option.bind_eq_some_iff.mp H
 obtain ⟨⟨t134, t135⟩, A50, H⟩ := H
 replace H : (if t135 = true then (some t134) else (some 4611686018427387904)) = some r := H
 have A5 := Aside0.mk A50
 clear A50
 by_cases c6 : t135 = true
 ·subst c6
  have H1 : (some t134) = some r := by rw [if_pos rfl] at H; exact H
  clear H
  have H := H1
  clear H1
  obtain rfl := Option.some.inj H
  go_enter Try.func136, Try.ntmps136
  go_wp2_with (first | ((with_reducible refine gate_callee (f := 177) rfl ?_); refine goesL_ (some 9) rfl rfl Try.func177 (by kernel_rfl) rfl #[.int .i64 a0, .int .i64 0, .int .i64 4611686018427387904] rfl gl_ ?_; (with_reducible refine (spec_l01Clamp.calls a0 0 4611686018427387904 t132 _ A3.out).mono ?_); rintro e w' ⟨rfl, ⟨nd, rfl⟩⟩; refine ⟨_, rfl, ?_⟩) | ((with_reducible refine gate_callee (f := 177) rfl ?_); refine goesL_ (some 11) rfl rfl Try.func177 (by kernel_rfl) rfl #[.int .i64 a1, .int .i64 0, .int .i64 4611686018427387904] rfl gl_ ?_; (with_reducible refine (spec_l01Clamp.calls a1 0 4611686018427387904 t133 _ A4.out).mono ?_); rintro e w' ⟨rfl, ⟨nd, rfl⟩⟩; refine ⟨_, rfl, ?_⟩) | ((with_reducible refine gate_callee (f := 176) rfl ?_); refine goesL_ (some 12) rfl rfl Try.func176 (by kernel_rfl) rfl #[.int .i64 t132, .int .i64 t133] rfl gl_ ?_; (with_reducible refine (spec_AddMoney.calls t132 t133 t134 true _ A5.out).mono ?_); rintro e w' ⟨rfl, ⟨nd, rfl⟩⟩; refine ⟨_, rfl, ?_⟩))
  go_ret
  exact ⟨sp_, by repeat (first | exact Drawn0.refl _ | apply Drawn0.step)⟩
 ·replace c6 := Bool.eq_false_iff.mpr c6
  subst c6
  have H1 : (some 4611686018427387904) = some r := by rw [if_neg (show ¬ (false = true) by decide)] at H; exact H
  clear H
  have H := H1
  clear H1
  obtain rfl := Option.some.inj H
  go_enter Try.func136, Try.ntmps136
  go_wp2_with (first | ((with_reducible refine gate_callee (f := 177) rfl ?_); refine goesL_ (some 9) rfl rfl Try.func177 (by kernel_rfl) rfl #[.int .i64 a0, .int .i64 0, .int .i64 4611686018427387904] rfl gl_ ?_; (with_reducible refine (spec_l01Clamp.calls a0 0 4611686018427387904 t132 _ A3.out).mono ?_); rintro e w' ⟨rfl, ⟨nd, rfl⟩⟩; refine ⟨_, rfl, ?_⟩) | ((with_reducible refine gate_callee (f := 177) rfl ?_); refine goesL_ (some 11) rfl rfl Try.func177 (by kernel_rfl) rfl #[.int .i64 a1, .int .i64 0, .int .i64 4611686018427387904] rfl gl_ ?_; (with_reducible refine (spec_l01Clamp.calls a1 0 4611686018427387904 t133 _ A4.out).mono ?_); rintro e w' ⟨rfl, ⟨nd, rfl⟩⟩; refine ⟨_, rfl, ?_⟩) | ((with_reducible refine gate_callee (f := 176) rfl ?_); refine goesL_ (some 12) rfl rfl Try.func176 (by kernel_rfl) rfl #[.int .i64 t132, .int .i64 t133] rfl gl_ ?_; (with_reducible refine (spec_AddMoney.calls t132 t133 t134 false _ A5.out).mono ?_); rintro e w' ⟨rfl, ⟨nd, rfl⟩⟩; refine ⟨_, rfl, ?_⟩))
  go_ret
  exact ⟨sp_, by repeat (first | exact Drawn0.refl _ | apply Drawn0.step)⟩

/-! ### spec_Stored: function 85 -/
def spec_Stored.l0 : Nat → Int → List (S93) → Int → Int → Option (Int)
 | 0, _, _, _, _ => none
 | k + 1, x3, x6, x7, x8 => if x8 < x7 then (if 0 ≤ x8 then (if x8 < (x6.length : Int) then ((spec_AddSat.f x3 ((rd_T93 x6 x8).f1)).bind fun t138 => (spec_Stored.l0 k t138 x6 x7 (wrap64 (x8 + 1)))) else (none)) else (none)) else (some x3)
def spec_Stored.f (k : Nat) (l0 : List (S93)) : Option (Int) := spec_Stored.l0 k 0 l0 (l0.length : Int) 0
theorem spec_Stored.mono_l : ∀ k, (∀ y0 y1 y2 y3, LeO (spec_Stored.l0 k y0 y1 y2 y3) (spec_Stored.l0 (k + 1) y0 y1 y2 y3))
 | 0 => fun _ _ _ _ r h => by simp [spec_Stored.l0] at h
 | k + 1 => by
  have ih0 := spec_Stored.mono_l k
  ·intro y0 y1 y2 y3
   unfold spec_Stored.l0
   repeat' first
   | (with_reducible exact ih0 _ _ _ _)
   | (with_reducible exact LeO.refl _)
   | (with_reducible exact LeO.none _)
   | (with_reducible refine LeO.ite ?_ ?_)
   | (with_reducible refine LeO.bind ?_ (fun _ => ?_))
   | exact ih0 _ _ _ _
   | exact LeO.none _
   | refine LeO.ite ?_ ?_
   | refine LeO.bind ?_ (fun _ => ?_)
theorem spec_Stored.mono : ∀ a0 k, LeO (spec_Stored.f k a0) (spec_Stored.f (k + 1) a0) := by
 intro a0 k
 have ih0 := spec_Stored.mono_l k
 unfold spec_Stored.f
 repeat' first
   | (with_reducible exact ih0 _ _ _ _)
   | (with_reducible exact LeO.refl _)
   | (with_reducible exact LeO.none _)
   | (with_reducible refine LeO.ite ?_ ?_)
   | (with_reducible refine LeO.bind ?_ (fun _ => ?_))
   | exact ih0 _ _ _ _
   | exact LeO.none _
   | refine LeO.ite ?_ ?_
   | refine LeO.bind ?_ (fun _ => ?_)
set_option maxHeartbeats 8000000 in
set_option maxRecDepth 100000 in
theorem spec_Stored.calls (k : Nat) (A0 : Option Addr) (c0 : Nat) (l0 : List (S93)) (r : Int) (w : World) (hr0 : Kd.C k93 w A0 l0.length l0) (hc0 : l0.length ≤ c0) (h : spec_Stored.f k l0 = some r) :
  Calls Try.prog 85 #[.slice A0 l0.length c0] w fun e w' => e = .returned (.int .i64 r) ∧ Below w.heap.size w w' := by
 have hu93 := Try.underlying93
 have HR0 := Aside0.mk hr0
 have HC0 := Aside0.mk hc0
 clear hr0 hc0
 have HB := Aside0.mk (Below.refl w.heap.size w)
 have H : (spec_Stored.l0 k 0 l0 (l0.length : Int) 0) = some r := h
 clear h
 have H' := Aside0.mk H
 clear H
 go_enter Try.func85, Try.ntmps85
 go_wp2
 go_loopg [3, 8] k (fun kq v3 v8 w' => ∃ (x3_1 : Int) (x8_1 : Int), v3 = .int .i64 x3_1 ∧ v8 = .int .i64 x8_1 ∧ Aside0 (spec_Stored.l0 kq x3_1 l0 (l0.length : Int) x8_1 = some r) ∧ Aside0 (kq ≤ k) ∧ Aside0 (Below w.heap.size w w'))
 case atStart => exact ⟨(0), (0), sp_, sp_, H', ⟨Nat.le_refl _⟩, ⟨bl_⟩⟩
 case round =>
  clear H'
  obtain ⟨x3_1, x8_1, rfl, rfl, HA, HK1, HB⟩ := hrel
  cases gk with
  | zero => exact absurd HA.out (by simp [spec_Stored.l0])
  | succ k1 =>
   have H := HA.out
   clear HA
   simp only [spec_Stored.l0] at H
   by_cases c2 : x8_1 < (l0.length : Int)
   ·rw [if_pos c2] at H
    have c2b0 : decide (x8_1 < (l0.length : Int)) = true := decide_eq_true c2
    clear c2
    by_cases c3 : 0 ≤ x8_1
    ·rw [if_pos c3] at H
     have c3b0 : decide (0 ≤ x8_1) = true := decide_eq_true c3
     clear c3
     by_cases c4 : x8_1 < (l0.length : Int)
     ·rw [if_pos c4] at H
      have c4b0 : decide (x8_1 < (l0.length : Int)) = true := decide_eq_true c4
      clear c4
      replace H := Option.bind_eq_some_iff.mp H
      obtain ⟨t138, A50, H⟩ := H
      replace H : (spec_Stored.l0 k1 t138 l0 (l0.length : Int) (wrap64 (x8_1 + 1))) = some r := H
      have A5 := Aside0.mk A50
      clear A50
      have H' := Aside0.mk H
      clear H
      have p136 : 0 ≤ (x8_1 : Int) := od_
      have q136 : x8_1 < (l0.length : Int) := od_
      obtain ⟨ad136, e136, hx136_0, hx136_1, hx136_2⟩ := at_T93 HR0.out x8_1 p136 q136
      cases e136
      replace hx136_0 := kc_ HB hx136_0
      replace hx136_1 := kc_ HB hx136_1
      replace hx136_2 := kc_ HB hx136_2
      replace p136 := eq_true p136
      replace q136 := eq_true q136
      go_wp2_with (first | ((with_reducible refine gate_dst (N := 5) rfl ?_); refine box_event ?hg (N := 5) ?hd (cs := #[.string (⟨#[]⟩ : ByteArray), .int .i64 0, .int .i64 0]) (t := 93) ?hr ?_; (case hd => rfl); (case hg => rfl); (case hr => first | (go_simp; done) | (go_simp; rfl)); intro gb137 hg w6 hbox hb; have n0_ := Aside0.mk (below_step bl_ hb); have n1_ := Aside0.mk (hbox); have n2_ := gw_ (w := w) hg; have n3_ := gw_ (w := w) hg; clear HB; have HB := n0_; have BK137 := n1_; have GW137 := n2_; have GE137 := n3_; clear n0_ n1_ n2_ n3_; clear hb hbox hg; have hcz7_0 := cz_ BK137 0 (.string (⟨#[]⟩ : ByteArray)); have hcz7_1 := cz_ BK137 1 (.int .i64 0); have hcz7_2 := cz_ BK137 2 (.int .i64 0); have hfz7_0 := fz_ BK137 0; have hfz7_1 := fz_ BK137 1; have hfz7_2 := fz_ BK137 2) | ((with_reducible refine gate_callee (f := 136) rfl ?_); refine goesL_ (some 15) rfl rfl Try.func136 (by kernel_rfl) rfl #[.int .i64 x3_1, .int .i64 ((rd_T93 l0 x8_1).f1)] rfl gl_ ?_; (with_reducible refine (spec_AddSat.calls x3_1 ((rd_T93 l0 x8_1).f1) t138 _ A5.out).mono ?_); rintro e w' ⟨rfl, ⟨nd, rfl⟩⟩; refine ⟨_, rfl, ?_⟩))
      go_roundg k1
      case measure => have := HK1.out; omega
      case rel => exact ⟨(t138), (wrap64 (x8_1 + 1)), sp_, sp_, H', ⟨by have := HK1.out; omega⟩, ⟨bl_⟩⟩
     ·rw [if_neg c4] at H
      exact absurd H (by simp)
    ·rw [if_neg c3] at H
     exact absurd H (by simp)
   ·rw [if_neg c2] at H
    have c2b0 : decide (x8_1 < (l0.length : Int)) = false := decide_eq_false c2
    clear c2
    obtain rfl := Option.some.inj H
    go_wp2
    go_ret
    exact ⟨sq_, bl_⟩

/-! ### spec_LiveSum: function 24 -/
def spec_LiveSum.f (k : Nat) (l0 : List (S93)) (a1 : Int) : Option (Int) := (spec_LiveOnes.f k l0 a1).bind fun t139 => ((spec_Stored.f k t139).bind fun t142 => (some t142))
theorem spec_LiveSum.mono : ∀ a0 a1 k, LeO (spec_LiveSum.f k a0 a1) (spec_LiveSum.f (k + 1) a0 a1) := by
 intro a0 a1 k
 unfold spec_LiveSum.f
 repeat' first
   | (with_reducible exact spec_LiveOnes.mono _ _ _)
   | (with_reducible exact spec_Stored.mono _ _)
   | (with_reducible exact LeO.refl _)
   | (with_reducible exact LeO.none _)
   | (with_reducible refine LeO.ite ?_ ?_)
   | (with_reducible refine LeO.bind ?_ (fun _ => ?_))
   | exact spec_LiveOnes.mono _ _ _
   | exact spec_Stored.mono _ _
   | exact LeO.none _
   | refine LeO.ite ?_ ?_
   | refine LeO.bind ?_ (fun _ => ?_)
set_option maxHeartbeats 8000000 in
set_option maxRecDepth 100000 in
theorem spec_LiveSum.calls (k : Nat) (A0 : Option Addr) (c0 : Nat) (l0 : List (S93)) (a1 : Int) (r : Int) (w : World) (hr0 : Kd.C k93 w A0 l0.length l0) (hc0 : l0.length ≤ c0) (h : spec_LiveSum.f k l0 a1 = some r) :
  Calls Try.prog 24 #[.slice A0 l0.length c0, .int .i64 a1] w fun e w' => e = .returned (.int .i64 r) ∧ Below w.heap.size w w' := by
 have HR0 := Aside0.mk hr0
 have HC0 := Aside0.mk hc0
 clear hr0 hc0
 have HB := Aside0.mk (Below.refl w.heap.size w)
 have H : ((spec_LiveOnes.f k l0 a1).bind fun t139 => ((spec_Stored.f k t139).bind fun t142 => (some t142))) = some r := h
 clear h
 replace H := Option.bind_eq_some_iff.mp H
 obtain ⟨t139, A30, H⟩ := H
 replace H : ((spec_Stored.f k t139).bind fun t142 => (some t142)) = some r := H
 have A3 := Aside0.mk A30
 clear A30
 replace H := Option.bind_eq_some_iff.mp H
 obtain ⟨t142, A40, H⟩ := H
 replace H : (some t142) = some r := H
 have A4 := Aside0.mk A40
 clear A40
 obtain rfl := Option.some.inj H
 go_enter Try.func24, Try.ntmps24
 go_wp2_with (first | ((with_reducible refine gate_callee (f := 22) rfl ?_); refine goesL_ (some 7) rfl rfl Try.func22 (by kernel_rfl) rfl #[.slice A0 l0.length c0, .int .i64 a1] rfl gl_ ?_; (with_reducible refine (spec_LiveOnes.calls k _ _ l0 a1 t139 _ ?side1 ?side2 A3.out).mono ?_); (case side1 => exact ca_ (HR0.out)); (case side2 => exact HC0.out); rintro e w5 ⟨v140, rfl, ho0, hb⟩; refine ⟨_, rfl, ?_⟩; have n0_ := Aside0.mk (Kd.R_lower ho0 (below_size bl_)); have n1_ := Aside0.mk (below_step bl_ hb); clear HB; have HO141 := n0_; have HB := n1_; clear n0_ n1_; (try clear hb); (try clear hb2); (try clear hk); (try clear hi); (try clear ho0); obtain ⟨Ao6, co6, eo6⟩ := Kd.R_slice HO141.out; subst eo6) | ((with_reducible refine gate_callee (f := 85) rfl ?_); refine goesL_ (some 8) rfl rfl Try.func85 (by kernel_rfl) rfl #[.slice Ao6 t139.length co6] rfl gl_ ?_; (with_reducible refine (spec_Stored.calls k _ _ t139 t142 _ ?side1 ?side2 A4.out).mono ?_); (case side1 => exact ca_ ((Kd.R_reads' HO141.out).2.2)); (case side2 => exact (Kd.R_reads' HO141.out).2.1); rintro e w7 ⟨rfl, hb⟩; refine ⟨_, rfl, ?_⟩; have n0_ := Aside0.mk (Kd.R_below (ra_ HO141) hb); have n1_ := Aside0.mk (below_step bl_ hb); clear HO141; clear HB; have HO141 := n0_; have HB := n1_; clear n0_ n1_; (try clear hb); (try clear hb2); (try clear hk); (try clear hi)))
 go_ret
 exact ⟨sq_, bl_⟩

/-! ### impl_Hold_77: function 77 -/
section
variable {α : Type} {d : Kd α} {e base g n cap : Nat} {ok : Nat → Prop} {xs : List α}
theorem df_app (g : Nat) : ∀ (a b : List Value) (o : Nat) (w : World), w.setCells g o (a ++ b) = (w.setCells g o a).setCells g (o + a.length) b
 | [], b, o, w => by simp [World.setCells]
 | v :: a, b, o, w => by
  simp only [List.cons_append, World.setCells, List.length_cons]
  rw [df_app g a b, show o + 1 + a.length = o + (a.length + 1) by omega]
theorem df_store {W : World} (h : d.R e W base ok (.slice (some ⟨g, 0, none⟩) n cap) xs) (z : α) (i : Nat) (hi : i < n) (x : α) (c : List Value) (hc : c.length = d.sz) (hM : d.M W base (fun _ => False) x c) :
  d.R e (W.setCells g (i * d.sz) c) base ok (.slice (some ⟨g, 0, none⟩) n cap) (xs.set i x) ∧ W.grownBy (W.setCells g (i * d.sz) c) (some g) := by
 obtain ⟨c0, hl, _, hcc, _⟩ := Kd.R_elem h z (i : Int) (by omega) (by omega)
 have hq := Kd.R_seg (okp := fun _ => False) (x' := x) (seg := c) (j := 0) h (i : Int) (by omega) (by omega) hl hcc (by omega) (by rw [List.take_zero, List.nil_append, Nat.zero_add, List.drop_eq_nil_of_le (by omega), List.append_nil]; exact hM) (fun _ hk => hk.elim)
 simpa using hq
theorem df_zeros {α : Type} {d : Kd α} {e base g n cap : Nat} {ok : Nat → Prop} (z : α) (c : List Value) (hc : c.length = d.sz) (hM : ∀ W, d.M W base (fun _ => False) z c) : ∀ (m i : Nat) (xs : List α) (W : World), i + m = n →
  d.R e W base ok (.slice (some ⟨g, 0, none⟩) n cap) xs → ∃ ys, ys.take i = xs.take i ∧ d.R e (W.setCells g (i * d.sz) (List.replicate m c).flatten) base ok (.slice (some ⟨g, 0, none⟩) n cap) ys ∧ W.grownBy (W.setCells g (i * d.sz) (List.replicate m c).flatten) (some g)
 | 0, i, xs, W, _, h => ⟨xs, rfl, by simpa [World.setCells] using h, by simp [World.setCells]; exact World.grownBy.refl W _⟩
 | m + 1, i, xs, W, hi, h => by
  obtain ⟨h1, g1⟩ := df_store h z i (by omega) z c hc (hM W)
  obtain ⟨ys, ht, h2, g2⟩ := df_zeros z c hc hM m (i + 1) (xs.set i z) _ (by omega) h1
  have e1 : i * d.sz + c.length = (i + 1) * d.sz := by rw [hc, Nat.succ_mul]
  refine ⟨ys, ?_, ?_, ?_⟩
  ·have h3 := congrArg (List.take i) ht
   rw [List.take_take, List.take_take, Nat.min_eq_left (by omega)] at h3
   rw [h3, List.take_set_of_le (by omega)]
  ·rw [List.replicate_succ, List.flatten_cons, df_app, e1]; exact h2
  ·rw [List.replicate_succ, List.flatten_cons, df_app, e1]; exact g1.trans g2
theorem df_clear {P : Program} (w : World) (t e ty : TypeId) (z : Value) (ht : P.underlying t = some (.slice e)) (hv : ∀ w, (zeroValue e).run P w = .ok z w) (hz : 0 < z.cells.size) (h1 : ∀ u ∈ z.cells.toList, u.oneCell' = true) (b o n c : Nat) (hn : 0 < n)
  (hc : ∀ j, j < n * z.cells.size → (w.cell? ⟨b, o + j, none⟩).isSome = true) (hf : ∀ j, j < n * z.cells.size → w.frozen? ⟨b, o + j, none⟩ = false) :
  (Builtin.clear_ #[t] ty #[.slice (some ⟨b, o, none⟩) n c]).run P w = .ok (.tuple #[]) (w.setCells b o (List.replicate n z.cells.toList).flatten) := by
 have hzc : (Builtin.zeroCells z.cells n).toList = (List.replicate n z.cells.toList).flatten := by
  simp only [Builtin.zeroCells]
  apply List.ext_getElem
  ·simp
  ·intro i h1 h2
   have hi : i < n * z.cells.size := by simpa using h1
   have hm : i % z.cells.size < z.cells.size := Nat.mod_lt _ hz
   have key : ∀ (m i : Nat) (hi : i < m * z.cells.size) (h : i < (List.replicate m z.cells.toList).flatten.length), (List.replicate m z.cells.toList).flatten[i] = z.cells[i % z.cells.size]'(Nat.mod_lt _ hz) := by
    intro m
    induction m with
    | zero => intro i hi; simp at hi
    | succ m ih =>
     intro i hi h
     have e1 : (List.replicate (m + 1) z.cells.toList).flatten = z.cells.toList ++ (List.replicate m z.cells.toList).flatten := by rw [List.replicate_succ, List.flatten_cons]
     rw [List.getElem_of_eq e1]
     by_cases hlt : i < z.cells.size
     ·rw [List.getElem_append_left (by simpa using hlt)]
      simp [Nat.mod_eq_of_lt hlt]
     ·rw [List.getElem_append_right (by simpa using hlt), ih _ (by simp; rw [Nat.succ_mul] at hi; omega)]
      have e2 : i % z.cells.size = (i - z.cells.size) % z.cells.size := Nat.mod_eq_sub_mod (by omega)
      simp only [Array.length_toList, e2]
   rw [key n i hi h2]
   simp
   rw [getElem!_pos z.cells _ hm]
 have hst := run_storeCells_cells (P := P) b o (List.replicate n z.cells.toList).flatten 0 w (by simpa using hc) (by simpa using hf) (by
  intro v hv'
  obtain ⟨l, hl, hv2⟩ := List.mem_flatten.1 hv'
  rw [List.eq_of_mem_replicate hl] at hv2
  exact h1 v hv2)
 simp only [Nat.add_zero] at hst
 obtain ⟨m, rfl⟩ : ∃ m, n = m + 1 := ⟨n - 1, by omega⟩
 simp [Builtin.clear_, run_underlying ht, hv, hzc, hst]
end
theorem impl_Hold_77.rdN {xs : List S93} {x : Int} (h : x.toNat < xs.length) : rd_T93 xs x = xs[x.toNat] := by
 unfold rd_T93
 rw [List.getD_eq_getElem?_getD, List.getElem?_eq_getElem h]; rfl
def impl_Hold_77.idxF (p : S93 → Bool) (xs : List S93) : Int := match xs.findIdx? p with | some j => (j : Int) | none => -1
theorem impl_Hold_77.idxF_none (p : S93 → Bool) (xs : List S93) (h : ∀ j (hj : j < xs.length), p xs[j] = false) : impl_Hold_77.idxF p xs = -1 := by
 unfold impl_Hold_77.idxF
 have : xs.findIdx? p = none := by
  rw [List.findIdx?_eq_none_iff]
  intro x hx
  obtain ⟨j, hj, rfl⟩ := List.getElem_of_mem hx
  exact h j hj
 rw [this]
theorem impl_Hold_77.idxF_some (p : S93 → Bool) (xs : List S93) (i : Nat) (hi : i < xs.length) (hp : p xs[i] = true) (h : ∀ j (hj : j < i), p (xs[j]'(by omega)) = false) : impl_Hold_77.idxF p xs = (i : Int) := by
 unfold impl_Hold_77.idxF
 have : xs.findIdx? p = some i := by
  rw [List.findIdx?_eq_some_iff_getElem]
  exact ⟨hi, hp, fun j hj => by simpa using h j hj⟩
 rw [this]
set_option maxHeartbeats 2000000 in
set_option maxRecDepth 100000 in
theorem impl_Hold_77.idx (A0 : Option Addr) (c0 : Nat) (l0 : List S93) (g : Nat) (lb : Array Value) (p : S93 → Bool) (w : World) (hr0 : Kd.C k93 w A0 l0.length l0) (hc0 : l0.length ≤ c0)
  (eg : ∀ args w, (callFunc g args).run Try.prog w = .ok (.enter g args) w)
  (hp : ∀ (W : World) (x : S93), Below w.heap.size w W → Calls Try.prog g (#[.agg #[.string x.f0, .int .i64 x.f1, .int .i64 x.f2]] ++ lb) W fun e w' => e = .returned (.bool (p x)) ∧ Below W.heap.size W w') :
  Calls Try.prog 135 #[.slice A0 l0.length c0, .func (.func g) #[] lb] w fun e w' => e = .returned (.int .i64 (impl_Hold_77.idxF p l0)) ∧ Below w.heap.size w w' := by
 have hlen : l0.length ≤ 9223372036854775807 := hr0.2.1
 have HR0 := Aside0.mk hr0
 have HL := Aside0.mk hlen
 have HP := Aside0.mk hp
 clear hr0 hp
 have HB := Aside0.mk (Below.refl w.heap.size w)
 have hu93 := Try.underlying93
 clear hlen hc0
 go_enter Try.func135, Try.ntmps135
 go_wp2
 go_loopg [5, 8] l0.length (fun gg _ s8 wr => ∃ x : Int, s8 = .int .i64 x ∧ Aside0 (0 ≤ x) ∧ Aside0 (x ≤ l0.length) ∧ Aside0 (l0.length - x.toNat ≤ gg) ∧ Aside0 (∀ j (hj : j < l0.length), (j : Int) < x → p l0[j] = false) ∧ Aside0 (Below w.heap.size w wr))
 case atStart => exact ⟨0, rfl, ⟨by omega⟩, ⟨by omega⟩, ⟨by omega⟩, ⟨fun j hj h => by omega⟩, ⟨Below.refl _ w⟩⟩
 case round =>
  obtain ⟨x, rfl, H0, H1, HG, AF, HB⟩ := hrel
  by_cases hlt : x < (l0.length : Int)
  ·have hN : x.toNat < l0.length := by have := H0.out; omega
   have HN := Aside0.mk hN
   have c0 : decide (x < (l0.length : Int)) = true := decide_eq_true hlt
   obtain ⟨ad, e, hx0, hx1, hx2⟩ := at_T93 HR0.out x H0.out hlt
   cases e
   replace hx0 := kc_ HB hx0
   replace hx1 := kc_ HB hx1
   replace hx2 := kc_ HB hx2
   have p0 := eq_true H0.out
   have q0 := eq_true hlt
   clear hN hlt
   have HX := Aside0.mk (impl_Hold_77.rdN HN.out)
   cases hq : p (rd_T93 l0 x) with
   | true =>
    have HC := Aside0.mk (hq ▸ HP.out wr (rd_T93 l0 x) HB.out)
    have HQ := Aside0.mk hq
    clear hq
    go_wp2_with (go_at_fn g; refine HC.out.mono ?_; rintro e w' ⟨rfl, hb'⟩)
    go_ret
    exact ⟨by show Ending.returned (Value.int .i64 x) = _; rw [impl_Hold_77.idxF_some p l0 x.toNat HN.out (by rw [← HX.out]; exact HQ.out) (fun j hj => AF.out j (by have := HN.out; omega) (by omega)), Int.toNat_of_nonneg H0.out], below_step HB.out hb'⟩
   | false =>
    have HC := Aside0.mk (hq ▸ HP.out wr (rd_T93 l0 x) HB.out)
    have HQ := Aside0.mk hq
    clear hq
    go_wp2_with (go_at_fn g; refine HC.out.mono ?_; rintro e w' ⟨rfl, hb'⟩; have HB' := Aside0.mk hb'; clear hb')
    have hw := HL.out
    have e1 : wrap64 (x + 1) = x + 1 := by have := HN.out; have := H0.out; unfold wrap64; omega
    go_roundg (l0.length - (x.toNat + 1))
    case measure => have := HG.out; have := HN.out; omega
    case rel =>
     have hN := HN.out
     have h0 := H0.out
     refine ⟨wrap64 (x + 1), (by first | rfl | (simp; done) | (simp [*]; done)), ⟨by omega⟩, ⟨by omega⟩, ⟨by omega⟩, ⟨fun j hj h => ?_⟩, ⟨below_step HB.out HB'.out⟩⟩
     by_cases e : j = x.toNat
     ·subst e; rw [← HX.out]; exact HQ.out
     ·exact AF.out j hj (by omega)
  ·have c0 : decide (x < (l0.length : Int)) = false := decide_eq_false hlt
   have HN := Aside0.mk hlt
   clear hlt
   go_wp2
   go_ret
   exact ⟨by show Ending.returned (Value.int .i64 (-1)) = _; rw [impl_Hold_77.idxF_none p l0 (fun j hj => AF.out j hj (by have := HN.out; omega))], HB.out⟩
set_option maxHeartbeats 4000000 in
set_option maxRecDepth 100000 in
theorem impl_Hold_77.calls_none (v : Value) (xs : List S93) (gf : Nat) (lb : Array Value) (p : S93 → Bool) (ok : Nat → Prop) (w0 w : World) (hB : Below w0.heap.size w0 w) (hR : Kd.R k93 93 w w0.heap.size ok v xs)
  (eg : ∀ args w, (callFunc gf args).run Try.prog w = .ok (.enter gf args) w)
  (hp : ∀ (W : World) (x : S93), Kept w W (fun k => some k = v.ownBlock) → Calls Try.prog gf (#[.agg #[.string x.f0, .int .i64 x.f1, .int .i64 x.f2]] ++ lb) W fun e w' => e = .returned (.bool (p x)) ∧ Below W.heap.size W w')
  (ha : ∀ j (hj : j < xs.length), p xs[j] = false) :
  Calls Try.prog 77 #[v, .func (.func gf) #[] lb] w fun e w' => ∃ v', e = .returned v' ∧ Kd.R k93 93 w' w0.heap.size ok v' (xs.filter (fun x => !p x)) ∧ Below w0.heap.size w0 w' ∧ Kept w w' (fun k => some k = v.ownBlock) := by
 obtain ⟨A, c, rfl, hc, hC⟩ := Kd.R_reads hR
 have hf : xs.filter (fun x => !p x) = xs := List.filter_eq_self.2 fun x hx => by
  obtain ⟨j, hj, rfl⟩ := List.getElem_of_mem hx
  rw [ha j hj]; rfl
 have hi := impl_Hold_77.idx A c xs gf lb p w hC hc eg (fun W x hb => hp W x (Kept.of_below hb _))
 rw [impl_Hold_77.idxF_none p xs ha] at hi
 rw [hf]
 have HI := Aside0.mk hi
 have HR := Aside0.mk hR
 have HB := Aside0.mk hB
 clear hi hR hB hp ha hf hC
 have hu93 := Try.underlying93
 clear hc
 go_enter Try.func77, Try.ntmps77
 go_wp2_with (go_at_call 135; refine HI.out.mono ?_; rintro e w' ⟨rfl, hb'⟩)
 go_ret
 exact ⟨_, rfl, Kd.R_below HR.out hb', below_then HB.out HB.out.size hb', Kept.of_below hb' _⟩
set_option maxHeartbeats 4000000 in
set_option maxRecDepth 100000 in
theorem impl_Hold_77.calls_some (g cap : Nat) (xs : List S93) (gf : Nat) (lb : Array Value) (p : S93 → Bool) (ok : Nat → Prop) (w0 w : World) (hB : Below w0.heap.size w0 w) (hR : Kd.R k93 93 w w0.heap.size ok (.slice (some ⟨g, 0, none⟩) xs.length cap) xs)
  (eg : ∀ args w, (callFunc gf args).run Try.prog w = .ok (.enter gf args) w)
  (hp : ∀ (W : World) (x : S93), Kept w W (fun k => k = g) → Calls Try.prog gf (#[.agg #[.string x.f0, .int .i64 x.f1, .int .i64 x.f2]] ++ lb) W fun e w' => e = .returned (.bool (p x)) ∧ Below W.heap.size W w')
  (i0 : Nat) (hi0 : i0 < xs.length) (hpi : p (xs[i0]'hi0) = true) (ha : ∀ j (hj : j < i0), p (xs[j]'(Nat.lt_trans hj hi0)) = false) :
  Calls Try.prog 77 #[.slice (some ⟨g, 0, none⟩) xs.length cap, .func (.func gf) #[] lb] w fun e w' => ∃ v', e = .returned v' ∧ Kd.R k93 93 w' w0.heap.size ok v' (xs.filter (fun x => !p x)) ∧ Below w0.heap.size w0 w' ∧ Kept w w' (fun k => k = g) := by
 obtain ⟨hn, hc, hC⟩ := Kd.R_reads' hR
 have hlen : xs.length ≤ 9223372036854775807 := hC.2.1
 have hi := impl_Hold_77.idx (some ⟨g, 0, none⟩) cap xs gf lb p w hC hc eg (fun W x hb => hp W x (Kept.of_below hb _))
 rw [impl_Hold_77.idxF_some p xs i0 hi0 hpi ha] at hi
 have HI := Aside0.mk hi
 have HR := Aside0.mk hR
 have HB := Aside0.mk hB
 have HP := Aside0.mk hp
 have hst : xs.take (i0 + 1) = xs.take i0 ++ [xs[i0]] := by rw [List.take_succ_eq_append_getElem hi0]
 have hst0 : (xs.take i0).filter (fun x => !p x) = xs.take i0 := List.filter_eq_self.2 fun x hx => by
  obtain ⟨j, hj, rfl⟩ := List.getElem_of_mem hx
  rw [List.getElem_take, ha j (by rw [List.length_take] at hj; omega)]; rfl
 have hst1 : (xs.take (i0 + 1)).filter (fun x => !p x) = xs.take i0 := by rw [hst, List.filter_append, hst0]; simp [hpi]
 have HST := Aside0.mk hst1
 have HL := Aside0.mk hlen
 have HC := Aside0.mk hc
 have HI0 := Aside0.mk hi0
 have hg0 : w0.heap.size ≤ g := Kd.R_base hR g rfl
 have HG0 := Aside0.mk hg0
 clear hi hR hB hp hst hst0 hst1 ha hC hpi hg0
 have hu93 := Try.underlying93
 have c1 : (((i0 : Nat) : Int) == -1) = false := by first | (simp; done) | (simp; omega)
 have e1 : IntKind.i64.wrap ((i0 : Int) + 1) = (i0 : Int) + 1 := by rw [i64_w]; unfold wrap64; omega
 clear hlen hc hi0 hn
 go_enter Try.func77, Try.ntmps77
 go_wp2_with (go_at_call 135; refine HI.out.mono ?_; rintro e w' ⟨rfl, hb'⟩)
 go_loopg [5, 6] xs.length (fun gg s5 s6 wr => ∃ (i j : Int) (dk : List S93), s5 = .int .i64 i ∧ s6 = .int .i64 j ∧ Aside0 (0 ≤ i) ∧ Aside0 (i < j) ∧ Aside0 (0 ≤ j) ∧ Aside0 (j ≤ xs.length) ∧ Aside0 (xs.length - j.toNat ≤ gg) ∧ Aside0 (dk.take i.toNat = (xs.take j.toNat).filter (fun x => !p x) ∧ dk.drop j.toNat = xs.drop j.toNat ∧ ((xs.take j.toNat).filter (fun x => !p x)).length = i.toNat) ∧ Aside0 (Kd.R k93 93 wr w0.heap.size ok (.slice (some ⟨g, 0, none⟩) xs.length cap) dk) ∧ Aside0 (Below w0.heap.size w0 wr) ∧ Aside0 (Kept w wr (fun k => k = g)))
 case atStart => exact ⟨i0, i0 + 1, xs, rfl, by first | rfl | (simp; done), ⟨by omega⟩, ⟨by omega⟩, ⟨by omega⟩, ⟨by have := HI0.out; omega⟩, ⟨by omega⟩, ⟨by rw [show ((i0 : Int) + 1).toNat = i0 + 1 by omega, Int.toNat_natCast, HST.out]; exact ⟨rfl, rfl, by rw [List.length_take]; have := HI0.out; omega⟩⟩, ⟨Kd.R_below HR.out hb'⟩, ⟨below_then HB.out HB.out.size hb'⟩, ⟨Kept.of_below hb' _⟩⟩
 case round =>
  obtain ⟨i, j, dk, rfl, rfl, H0, H1, H2, H3, HG, HD, HR, HB, HK⟩ := hrel
  by_cases hlt : j < (xs.length : Int)
  ·obtain ⟨c, hcl, hM, hcc, hfr⟩ := Kd.R_elem HR.out z93 j H2.out hlt
   obtain rfl := k93_openM hM
   obtain ⟨x, hx⟩ : ∃ x, x = rd_T93 dk j := ⟨_, rfl⟩
   have hx0 : wr.cell? ⟨g, j.toNat * 3, none⟩ = some (.string x.f0) := by rw [hx]; exact hcc 0 _ rfl
   have hx1 : wr.cell? ⟨g, j.toNat * 3 + 1, none⟩ = some (.int .i64 x.f1) := by rw [hx]; exact hcc 1 _ rfl
   have hx2 : wr.cell? ⟨g, j.toNat * 3 + 2, none⟩ = some (.int .i64 x.f2) := by rw [hx]; exact hcc 2 _ rfl
   have hdl : dk.length = xs.length := (Kd.R_reads' HR.out).1.symm
   have hXX : x = xs[j.toNat]'(by have := H2.out; omega) := by
    have h1 := congrArg (fun l => l[0]?) HD.out.2.1
    have h0 := H2.out
    simp only [List.getElem?_drop, Nat.add_zero] at h1
    rw [hx]; unfold rd_T93
    rw [List.getD_eq_getElem?_getD, h1, List.getElem?_eq_getElem (by omega)]; rfl
   have hts : xs.take (j.toNat + 1) = xs.take j.toNat ++ [x] := by rw [hXX, List.take_succ_eq_append_getElem]
   have HDL := Aside0.mk hdl
   have HTS := Aside0.mk hts
   clear hcl hM hcc hfr hx hXX hdl hts
   have p0 := eq_true H2.out
   have q0 := eq_true hlt
   have HLT := Aside0.mk hlt
   have e2 : wrap64 (j + 1) = j + 1 := by have := HL.out; have := H2.out; unfold wrap64; omega
   have e3 : (j + 1).toNat = j.toNat + 1 := by have := H2.out; omega
   have E3 := Aside0.mk e3
   have E2 := Aside0.mk e2
   clear hlt e2 e3
   cases hq : p x with
   | true =>
    have HC := Aside0.mk (fun W => hq ▸ HP.out W x)
    have HQ := Aside0.mk hq
    clear hq
    go_wp2_with (go_at_fn gf; refine (HC.out _ (Kept.alloc HK.out _)).mono ?_; rintro e w2 ⟨rfl, hb2⟩; have HB2 := Aside0.mk hb2; clear hb2)
    go_roundg (xs.length - (j.toNat + 1))
    case measure => have := HG.out; have := HLT.out; have := H2.out; omega
    case rel =>
     have := HLT.out; have := H2.out; have := H1.out; have := H0.out
     refine ⟨i, wrap64 (j + 1), dk, rfl, by first | rfl | (simp; done), ⟨by omega⟩, ⟨by rw [E2.out]; omega⟩, ⟨by rw [E2.out]; omega⟩, ⟨by rw [E2.out]; omega⟩, ⟨by rw [E2.out]; omega⟩, ⟨?_⟩, ⟨Kd.R_below (Kd.R_alloc HR.out _) HB2.out⟩, ⟨below_then (HB.out.alloc HB.out.size _) (by simp; have := HB.out.size; omega) HB2.out⟩, ⟨Kept.below (Kept.alloc HK.out _) HB2.out⟩⟩
     rw [E2.out, E3.out, HTS.out, List.filter_append]
     simp only [List.filter_cons, HQ.out, Bool.not_true, List.filter_nil, List.append_nil, Bool.false_eq_true, if_false]
     refine ⟨HD.out.1, ?_, HD.out.2.2⟩
     have h1 := congrArg (List.drop 1) HD.out.2.1
     simpa [List.drop_drop] using h1
   | false =>
    have HC := Aside0.mk (fun W => hq ▸ HP.out W x)
    have HQ := Aside0.mk hq
    clear hq
    go_wp2_with (go_at_fn gf; refine (HC.out _ (Kept.alloc HK.out _)).mono ?_; rintro e w2 ⟨rfl, hb2⟩; have HB2 := Aside0.mk hb2; have hbv := (hb2.block wr.heap.size (by simp)).trans (heap_alloc_new wr _); have HBV := Aside0.mk hbv; have hv0 := (blk_cell hbv 0).trans (show _ = some (Value.string x.f0) from rfl); have hv1 := (blk_cell hbv 1).trans (show _ = some (Value.int .i64 x.f1) from rfl); have hv2 := (blk_cell hbv 2).trans (show _ = some (Value.int .i64 x.f2) from rfl); have HR2 := Aside0.mk (Kd.R_below (Kd.R_alloc HR.out _) hb2); obtain ⟨c, hcl, hM, hcc, hfr⟩ := Kd.R_elem HR2.out z93 i H0.out (by have := H1.out; have := HLT.out; omega); obtain rfl := k93_openM hM; have hi0 := hcc 0 _ rfl; have hf0 := hfr 0; have hi1 := hcc 1 _ rfl; have hf1 := hfr 1; have hi2 := hcc 2 _ rfl; have hf2 := hfr 2; simp only [show k93.sz = 3 from rfl, Nat.add_zero] at hi0 hf0 hi1 hf1 hi2 hf2; have p1 := eq_true H0.out; have q1 := eq_true (show i < (xs.length : Int) by have := H1.out; have := HLT.out; omega); clear hb2 hbv hcl hM hcc hfr)
    go_roundg (xs.length - (j.toNat + 1))
    case measure => have := HG.out; have := HLT.out; have := H2.out; omega
    case rel =>
     have := HLT.out; have := H2.out; have := H1.out; have := H0.out; have hdl := HDL.out; have hw := HL.out
     have hs := df_store HR2.out z93 i.toNat (by omega) x [.string x.f0, .int .i64 x.f1, .int .i64 x.f2] rfl (k93_mkM _ _ _ x)
     have e4 : wrap64 (i + 1) = i + 1 := by unfold wrap64; omega
     have e5 : (i + 1).toNat = i.toNat + 1 := by omega
     have ht1 : (dk.set i.toNat x).take (i.toNat + 1) = dk.take i.toNat ++ [x] := by
      rw [List.take_succ_eq_append_getElem (by rw [List.length_set]; omega), List.take_set_of_le (Nat.le_refl _), List.getElem_set_self]
     refine ⟨wrap64 (i + 1), wrap64 (j + 1), dk.set i.toNat x, rfl, rfl, ⟨by rw [e4]; omega⟩, ⟨by rw [E2.out, e4]; omega⟩, ⟨by rw [E2.out]; omega⟩, ⟨by rw [E2.out]; omega⟩, ⟨by rw [E2.out]; omega⟩, ⟨?_⟩, ⟨hs.1⟩, ⟨(below_then (HB.out.alloc HB.out.size _) (by simp; have := HB.out.size; omega) HB2.out).grown hs.2 (by have := HB2.out.size; have := HB.out.size; simp at *; omega) (fun k hk => by cases hk; exact HG0.out)⟩, ⟨Kept.of_grown hs.2 (Kept.below (Kept.alloc HK.out _) HB2.out) (fun k hk => by cases hk; exact .inl rfl)⟩⟩
     rw [E2.out, E3.out, e4, e5, HTS.out, List.filter_append, ht1]
     simp only [List.filter_cons, HQ.out, Bool.not_false, List.filter_nil, if_true]
     refine ⟨by rw [HD.out.1], ?_, by rw [List.length_append, HD.out.2.2]; rfl⟩
     have h1 := congrArg (List.drop 1) HD.out.2.1
     rw [List.drop_set_of_lt (by omega)]
     simpa [List.drop_drop] using h1
  ·have hje : j = (xs.length : Int) := by have := H3.out; omega
   have hfi : xs.filter (fun x => !p x) = dk.take i.toNat := by
    have h1 := HD.out.1
    rw [hje, Int.toNat_natCast, List.take_length] at h1
    exact h1.symm
   have HFI := Aside0.mk hfi
   have q0 : decide (j < (xs.length : Int)) = false := decide_eq_false hlt
   have p1 := eq_true H0.out
   have q1 := eq_true (show i ≤ (xs.length : Int) by have := H1.out; omega)
   have h0 := H0.out
   have h1 := H1.out
   have hcc := HC.out
   have q2 := eq_true (show i ≤ (cap : Int) by omega)
   have n1 := eq_false (show ¬ i.toNat = cap by omega)
   have n2 := eq_false (show ¬ cap = i.toNat by omega)
   have hcl : ∀ ty, (Builtin.clear_ #[24] ty #[.slice (some ⟨g, i.toNat * 3, none⟩) (xs.length - i.toNat) (cap - i.toNat)]).run Try.prog wr = .ok (.tuple #[]) (wr.setCells g (i.toNat * 3) (List.replicate (xs.length - i.toNat) [Value.string ⟨#[]⟩, Value.int .i64 0, Value.int .i64 0]).flatten) := fun ty =>
    df_clear wr 24 93 ty (.agg #[Value.string ⟨#[]⟩, Value.int .i64 0, Value.int .i64 0]) Try.underlying24 (fun w => by simp [go_sem]) (by decide) (by decide) g _ _ _ (by omega) (fun q hq => by
     replace hq : q < (xs.length - i.toNat) * 3 := hq
     obtain ⟨c, hcl, _, hcc, _⟩ := Kd.R_elem HR.out z93 ((i.toNat + q / 3 : Nat) : Int) (by omega) (by omega)
     have h3 := hcc (q % 3) _ (List.getElem?_eq_getElem (show q % 3 < c.length by rw [hcl]; show q % 3 < 3; omega))
     rw [show ((i.toNat + q / 3 : Nat) : Int).toNat * k93.sz + q % 3 = i.toNat * 3 + q from by show _ * 3 + _ = _; omega] at h3
     rw [h3]; rfl) (fun q hq => by
     replace hq : q < (xs.length - i.toNat) * 3 := hq
     obtain ⟨c, hcl, _, _, hfr⟩ := Kd.R_elem HR.out z93 ((i.toNat + q / 3 : Nat) : Int) (by omega) (by omega)
     have h3 := hfr (q % 3)
     rwa [show ((i.toNat + q / 3 : Nat) : Int).toNat * k93.sz + q % 3 = i.toNat * 3 + q from by show _ * 3 + _ = _; omega] at h3)
   have HZ := Aside0.mk (df_zeros (d := k93) z93 [Value.string ⟨#[]⟩, Value.int .i64 0, Value.int .i64 0] rfl (fun W => k93_mkM _ _ _ z93) (xs.length - i.toNat) i.toNat dk wr (by omega) HR.out)
   have HJ := Aside0.mk hje
   clear hlt hje hfi h0 h1 hcc
   go_wp2
   go_ret
   obtain ⟨ys, ht, hR', hg'⟩ := HZ.out
   have hyl := (Kd.R_reads' hR').1
   have hi := H0.out
   have hj := H1.out
   have hjj := HJ.out
   refine ⟨_, rfl, ?_, HB.out.grown hg' HB.out.size (fun k hk => by cases hk; exact HG0.out), Kept.of_grown hg' HK.out (fun k hk => by cases hk; exact .inl rfl)⟩
   rw [HFI.out, ← ht]
   exact Kd.R_take hR' (by omega)
theorem impl_Hold_77.calls (v : Value) (xs : List S93) (gf : Nat) (lb : Array Value) (p : S93 → Bool) (ok : Nat → Prop) (w0 w : World) (hB : Below w0.heap.size w0 w) (hR : Kd.R k93 93 w w0.heap.size ok v xs)
  (eg : ∀ args w, (callFunc gf args).run Try.prog w = .ok (.enter gf args) w)
  (hp : ∀ (W : World) (x : S93), Kept w W (fun k => some k = v.ownBlock) → Calls Try.prog gf (#[.agg #[.string x.f0, .int .i64 x.f1, .int .i64 x.f2]] ++ lb) W fun e w' => e = .returned (.bool (p x)) ∧ Below W.heap.size W w') :
  Calls Try.prog 77 #[v, .func (.func gf) #[] lb] w fun e w' => ∃ v', e = .returned v' ∧ Kd.R k93 93 w' w0.heap.size ok v' (xs.filter (fun x => !p x)) ∧ Below w0.heap.size w0 w' ∧ Kept w w' (fun k => some k = v.ownBlock) := by
 cases hf : xs.findIdx? p with
 | none =>
  rw [List.findIdx?_eq_none_iff] at hf
  exact impl_Hold_77.calls_none v xs gf lb p ok w0 w hB hR eg hp (fun j hj => hf _ (List.getElem_mem _))
 | some i =>
  rw [List.findIdx?_eq_some_iff_getElem] at hf
  obtain ⟨hi, h1, h2⟩ := hf
  obtain ⟨g, cap, rfl, _⟩ := Kd.R_form hR (by omega)
  refine (impl_Hold_77.calls_some g cap xs gf lb p ok w0 w hB hR eg (fun W x hk => hp W x (Kept.mono hk (fun k e => by subst e; rfl))) i hi h1 (fun j hj => by simpa using h2 j hj)).mono ?_
  rintro e w' ⟨v', rfl, hr, hb, hk⟩
  exact ⟨v', rfl, hr, hb, Kept.mono hk (fun k e => by subst e; rfl)⟩

/-! ### impl_Hold_78: function 78 -/
def impl_Hold_78.f (l0 : List (S93)) : Option ((List (S93))) := (some (([] : List (S93)) : List (S93))).bind fun y143 => (if y143.length + l0.length < 4398046511104 then (some (y143 ++ l0)) else (none))
set_option maxHeartbeats 8000000 in
set_option maxRecDepth 100000 in
theorem impl_Hold_78.calls_some (ad0 : Addr) (c0 : Nat) (l0 : List (S93)) (r : List (S93)) (w : World) (hr0 : Kd.C k93 w (some ad0) l0.length l0) (hc0 : l0.length ≤ c0) (h : impl_Hold_78.f l0 = some r) :
  Calls Try.prog 78 #[.slice (some ad0) l0.length c0] w fun e w' => ∃ v0_ : Value, e = .returned (v0_) ∧ Kd.R k93 93 w' w.heap.size (fun _ => True) v0_ r ∧ Below w.heap.size w w' := by
 have q0_ : ∀ (n c : Nat) (W : World), (binOp .eql 24 (.slice (some ad0) n c) (.slice none 0 0)).run Try.prog W = .ok (.bool false) W := fun n c W => Lib.run_eql_slice_nil W _ _ (some ad0) n c 0 0 Try.underlying24
 have HR0 := Aside0.mk hr0
 have HC0 := Aside0.mk hc0
 clear hr0 hc0
 have HB := Aside0.mk (Below.refl w.heap.size w)
 have H : ((some (([] : List (S93)) : List (S93))).bind fun y143 => (if y143.length + l0.length < 4398046511104 then (some (y143 ++ l0)) else (none))) = some r := h
 clear h
 obtain ⟨y143, hy143⟩ : ∃ y_ : List (S93), y_ = (([] : List (S93))) := ⟨_, rfl⟩
 replace H : (if y143.length + l0.length < 4398046511104 then (some (y143 ++ l0)) else (none)) = some r := by first | (rw [hy143]; with_reducible exact H) | (have H2_ := (Option.bind_some _ _).symm.trans H; rw [hy143]; with_reducible exact H2_) | (have H2_ := (Option.bind_some _ _).symm.trans H; with_reducible exact H2_) | with_reducible exact H | (rw [hy143]; exact H) | exact H
 have Ny143 := Aside0.mk hy143
 clear hy143
 by_cases c2 : y143.length + l0.length < 4398046511104
 ·rw [if_pos c2] at H
  have LMc2 := Aside0.mk c2
  clear c2
  obtain ⟨y146, hy146⟩ : ∃ y_ : List (S93), y_ = (y143 ++ l0) := ⟨_, rfl⟩
  replace H : (some y146) = some r := by first | (rw [hy146]; with_reducible exact H) | (have H2_ := (Option.bind_some _ _).symm.trans H; rw [hy146]; with_reducible exact H2_) | (have H2_ := (Option.bind_some _ _).symm.trans H; with_reducible exact H2_) | with_reducible exact H | (rw [hy146]; exact H) | exact H
  have Ny146 := Aside0.mk hy146
  clear hy146
  obtain rfl := Option.some.inj H
  go_enter Try.func78, Try.ntmps78
  go_wp2_with (first | ((with_reducible refine gate_dst (N := 5) rfl ?_); refine Kd.R_lit k93 _ 93 ?hg (N := 5) ?hd (xs := ([] : List (S93))) (inner := []) (ok := fun _ => True) (okp := fun _ => True) ?hr ?hp (fun _ hk => hk) trivial (Below.refl _ _) (Nat.le_refl _) (by simp) ?_; (case hd => rfl); (case hg => rfl); (case hr => first | (go_simp; done) | (go_simp; rfl)); (case hp => exact (Reps.none _ _)); intro v144 w3 ho4 hb hg_ hnew_; clear hg_ hnew_; (first | rw [← Ny143.out] at ho4 | (simp only [Int.reduceToNat] at ho4; rw [← Ny143.out] at ho4)); have n0_ := Aside0.mk (Kd.R_lower ho4 (below_size bl_)); have n1_ := Aside0.mk (below_step bl_ hb); clear HB; have HO145 := n0_; have HB := n1_; clear n0_ n1_; clear hb ho4) | ((with_reducible refine gate_builtin (b := .append) (xs := #[.tmp 5, .tmp 6]) rfl ?_); at_builtin; refine Kd.R_append_rows k93 (w0 := w) w.heap.size rfl (.tmp 5) (.tmp 6) 24 93 (.agg #[(.string ⟨#[]⟩), (.int .i64 0), (.int .i64 0)]) 32 rfl Try.underlying24 info93 rfl (by decide) (by omega) v144 y143 l0 _ _ _ (fun _ => True) (fun _ => False) rfl rfl ?aO ?aR (fun _ _ h => h) (fun _ h => h.elim) ?aF ?aB ?aS ?aL ?_; (case aR => exact ca_ (Kd.C_below HR0.out HB.out)); (case aB => exact bl_); (case aF => exact (fun _ _ => trivial)); (case aO => exact (ra_ HO145)); (case aS => exact (below_size bl_)); (case aL => have := LMc2.out; omega); intro v147 w5 ho hb hg hat; rw [← Ny146.out] at ho; have n0_ := Aside0.mk (hb); have n1_ := Aside0.mk (ho); clear HB; clear HO145; have HB := n0_; have HO148 := n1_; clear n0_ n1_; clear ho hb hg hat))
  go_ret
  exact ⟨_, by first | rfl | (simp [errW_none, errW_some] <;> rfl) | (simp [*, errW_none, errW_some] <;> rfl), ra_ HO148, bl_⟩
 ·rw [if_neg c2] at H
  exact absurd H (by simp)

set_option maxHeartbeats 8000000 in
set_option maxRecDepth 100000 in
theorem impl_Hold_78.calls_none (c0 : Nat) (l0 : List (S93)) (r : List (S93)) (w : World) (hr0 : Kd.C k93 w none l0.length l0) (hc0 : l0.length ≤ c0) (h : impl_Hold_78.f l0 = some r) :
  Calls Try.prog 78 #[.slice none l0.length c0] w fun e w' => ∃ v0_ : Value, e = .returned (v0_) ∧ Kd.R k93 93 w' w.heap.size (fun _ => True) v0_ r ∧ Below w.heap.size w w' := by
 have q0_ : ∀ (n c : Nat) (W : World), (binOp .eql 24 (.slice none n c) (.slice none 0 0)).run Try.prog W = .ok (.bool true) W := fun n c W => Lib.run_eql_slice_nil W _ _ none n c 0 0 Try.underlying24
 have hn : l0 = [] := List.eq_nil_of_length_eq_zero (Nat.eq_zero_of_not_pos (fun hp => by obtain ⟨a, ha, _⟩ := hr0.2.2 hp; cases ha))
 subst hn
 have hr : r = [] := by simp [impl_Hold_78.f] at h; first | exact h | exact h.symm
 subst hr
 clear hr0 hc0 h
 go_enter Try.func78, Try.ntmps78
 go_wp2
 go_ret
 exact ⟨_, rfl, Kd.R_nil _ _ _ _ _, by repeat (first | exact Below.refl _ _ | apply below_alloc | apply pw_below_drewN | apply below_drew1)⟩
set_option maxHeartbeats 8000000 in
set_option maxRecDepth 100000 in
theorem impl_Hold_78.calls (A0 : Option Addr) (c0 : Nat) (l0 : List (S93)) (r : List (S93)) (w : World) (hr0 : Kd.C k93 w A0 l0.length l0) (hc0 : l0.length ≤ c0) (h : impl_Hold_78.f l0 = some r) :
  Calls Try.prog 78 #[.slice A0 l0.length c0] w fun e w' => ∃ v0_ : Value, e = .returned (v0_) ∧ Kd.R k93 93 w' w.heap.size (fun _ => True) v0_ r ∧ Below w.heap.size w w' := by
 cases A0 with
 | none => exact impl_Hold_78.calls_none c0 l0 r w hr0 hc0 h
 | some ad0 => exact impl_Hold_78.calls_some ad0 c0 l0 r w hr0 hc0 h

/-! ### impl_Live: function 84 -/
def impl_Live.f (a0_0 : ByteArray) (a0_1 : Int) (a0_2 : Int) (a1 : Int) : Option (Bool) := some (decide (a0_2 > a1))
set_option maxHeartbeats 8000000 in
set_option maxRecDepth 100000 in
theorem impl_Live.calls (a0_0 : ByteArray) (a0_1 : Int) (a0_2 : Int) (a1 : Int) (r : Bool) (w : World) (h : impl_Live.f a0_0 a0_1 a0_2 a1 = some r) :
  Calls Try.prog 84 #[.agg #[.string a0_0, .int .i64 a0_1, .int .i64 a0_2], .int .i64 a1] w fun e w' => e = .returned (.bool r) ∧ Below w.heap.size w w' := by
 have hu93 := Try.underlying93
 have HB := Aside0.mk (Below.refl w.heap.size w)
 have H : (some (decide (a0_2 > a1))) = some r := h
 clear h
 obtain rfl := Option.some.inj H
 go_enter Try.func84, Try.ntmps84
 go_wp2_with (first | ((with_reducible refine gate_dst (N := 2) rfl ?_); refine box_event ?hg (N := 2) ?hd (cs := #[.string a0_0, .int .i64 a0_1, .int .i64 a0_2]) (t := 93) ?hr ?_; (case hd => rfl); (case hg => rfl); (case hr => first | (go_simp; done) | (go_simp; rfl)); intro gb149 hg w3 hbox hb; have n0_ := Aside0.mk (below_step bl_ hb); have n1_ := Aside0.mk (hbox); have n2_ := gw_ (w := w) hg; have n3_ := gw_ (w := w) hg; clear HB; have HB := n0_; have BK149 := n1_; have GW149 := n2_; have GE149 := n3_; clear n0_ n1_ n2_ n3_; clear hb hbox hg; have hcz4_0 := cz_ BK149 0 (.string a0_0); have hcz4_1 := cz_ BK149 1 (.int .i64 a0_1); have hcz4_2 := cz_ BK149 2 (.int .i64 a0_2); have hfz4_0 := fz_ BK149 0; have hfz4_1 := fz_ BK149 1; have hfz4_2 := fz_ BK149 2))
 go_ret
 exact ⟨sq_, bl_⟩

-- NOT PRINTED: function 83 (impl_LiveOnes_1)

/-! ### impl_LiveOnes: function 23 -/
set_option maxRecDepth 100000 in
theorem impl_LiveOnes.clo (x : S93) (a1 : Int) (B : Nat) (w : World) (ha : w.heap[B]? = some (.cells #[.int .i64 a1] 3 (0, 0))) :
  Calls Try.prog 83 #[.agg #[.string x.f0, .int .i64 x.f1, .int .i64 x.f2], .pointer (some ⟨B, 0, none⟩)] w fun e w' => e = .returned (.bool (!decide (x.f2 > a1))) ∧ Below w.heap.size w w' := by
 have hu93 := Try.underlying93
 have hlta := blk_lt ha
 have hca := blk_cell ha 0
 have hfa := blk_frozen ha 0
 clear ha
 go_enter Try.func83, Try.ntmps83
 go_wp2_with (go_at_call 84; refine (impl_Live.calls _ _ _ _ _ _ rfl).mono ?_; rintro e w' ⟨rfl, hb⟩)
 go_ret
 exact ⟨by first | rfl | simp, by first | exact below_then (below_alloc (Below.refl _ _) _) (by simp) (by assumption) | (repeat (first | exact Below.refl _ _ | apply below_alloc | apply pw_below_drewN | apply below_drew1))⟩
def impl_LiveOnes.f (l0 : List S93) (a1 : Int) : Option (List S93) := (impl_Hold_78.f l0).bind fun l => some (l.filter (fun x => !(!decide (x.f2 > a1))))
set_option maxHeartbeats 2000000 in
set_option maxRecDepth 100000 in
theorem impl_LiveOnes.calls (A0 : Option Addr) (c0 : Nat) (l0 : List (S93)) (a1 : Int) (r : List (S93)) (w : World) (hr0 : Kd.C k93 w A0 l0.length l0) (hc0 : l0.length ≤ c0) (h : impl_LiveOnes.f l0 a1 = some r) :
  Calls Try.prog 23 #[.slice A0 l0.length c0, .int .i64 a1] w fun e w' => ∃ v0_ : Value, e = .returned (v0_) ∧ Kd.R k93 93 w' w.heap.size (fun _ => True) v0_ r ∧ Below w.heap.size w w' := by
 obtain ⟨l, hl, h⟩ := Option.bind_eq_some_iff.1 h
 obtain rfl := Option.some.inj h
 clear h
 have HR0 := Aside0.mk hr0
 have HC0 := Aside0.mk hc0
 have HL := Aside0.mk hl
 clear hr0 hc0 hl
 go_enter Try.func23, Try.ntmps23
 go_wp2_with (first | (go_at_call 78; refine (impl_Hold_78.calls A0 c0 l0 l _ (Kd.C_alloc HR0.out _) HC0.out HL.out).mono ?_; rintro e w2 ⟨v, rfl, ho, hb⟩; have HO := Aside0.mk ho; have HB := Aside0.mk hb; clear ho hb) | (go_at_call 77; refine (impl_Hold_77.calls v l 83 #[.pointer (some ⟨w.heap.size, 0, none⟩)] (fun x => !decide (x.f2 > a1)) (fun _ => True) w _ (below_then (below_alloc (Below.refl _ _) _) (by simp) HB.out) (Kd.R_lower HO.out (by simp)) (fun _ _ => by kernel_rfl) (fun W x hk => impl_LiveOnes.clo x a1 w.heap.size W ((hk.2 w.heap.size (by have := HB.out.size; simp at this; omega) (fun e => by have := Kd.R_base HO.out _ e.symm; simp at this; omega)).trans ((HB.out.block _ (by simp)).trans (heap_alloc_new w _))))).mono ?_; rintro e w3 ⟨v', rfl, hr, hb, _⟩))
 go_ret
 exact ⟨v', rfl, hr, hb⟩

end Go.Proofs.Ytepjnalkpfnmcaa.QFnExactLiveSum
