-- by my own printer (myprint.py, over the kit's print.py)
import Derived.Test.YtgcggfoailaalaaQFnExactBookOkx0
import Derived.Test.YtgcggfoailaalaaQFnExactBookOkx15
namespace Go.Proofs.Ytgcggfoailaalaa.QFnExactBookOk
open Go.RowKit Go.Proofs.YtgcggfoailaalaaW.PrintWords Go.Proofs.YtgcggfoailaalaaW.PrintLast Go.Proofs.YtgcggfoailaalaaW.PrintMore
attribute [local go_sem] max2_int min2_int max_two min_two max_three min_three max_four min_four   -- for this text's walks alone
set_option linter.unusedVariables false
set_option linter.unusedSimpArgs false
attribute [local go_sem] my_geq my_leq my_gtr
abbrev tb10_0_16 : Array Bool := #[b0, b0, b0, b0, b0, b0, b0, b0, b0, b0]
abbrev tb10_1_16 : Array Bool := #[b1, b0, b0, b0, b0, b0, b0, b0, b0, b0]
abbrev tb10_17_16 : Array Bool := #[b1, b1, b1, b0, b1, b0, b0, b0, b0, b0]
abbrev tb10_1ff_16 : Array Bool := #[b1, b1, b1, b1, b1, b1, b1, b1, b1, b0]
abbrev tb10_3_16 : Array Bool := #[b1, b1, b0, b0, b0, b0, b0, b0, b0, b0]
abbrev tb10_37_16 : Array Bool := #[b1, b1, b1, b0, b1, b1, b0, b0, b0, b0]
abbrev tb10_3ff_16 : Array Bool := #[b1, b1, b1, b1, b1, b1, b1, b1, b1, b1]
abbrev tb10_7_16 : Array Bool := #[b1, b1, b1, b0, b0, b0, b0, b0, b0, b0]
abbrev tb10_77_16 : Array Bool := #[b1, b1, b1, b0, b1, b1, b1, b0, b0, b0]
abbrev tb10_7f_16 : Array Bool := #[b1, b1, b1, b1, b1, b1, b1, b0, b0, b0]
abbrev tb10_ff_16 : Array Bool := #[b1, b1, b1, b1, b1, b1, b1, b1, b0, b0]
/-! ### laws_eqSlot: function 138 -/
def laws_eqSlot.f (k : Nat) (a0_0 : ByteArray) (a0_1 : ByteArray) (l0_2 : List Int) (a1_0 : ByteArray) (a1_1 : ByteArray) (l1_2 : List Int) : Option (Bool) := if a0_0.toList = a1_0.toList then (if a0_1.toList = a1_1.toList then ((laws_eqByteS.f k l0_2 l1_2).bind fun t357 => (if t357 = true then (some true) else (some false))) else (some false)) else (some false)
theorem laws_eqSlot.mono : ∀ a0 a1 a2 a3 a4 a5 k, LeO (laws_eqSlot.f k a0 a1 a2 a3 a4 a5) (laws_eqSlot.f (k + 1) a0 a1 a2 a3 a4 a5) := by
 intro a0 a1 a2 a3 a4 a5 k
 unfold laws_eqSlot.f
 repeat' first
   | (with_reducible exact laws_eqByteS.mono _ _ _)
   | (with_reducible exact LeO.refl _)
   | (with_reducible exact LeO.none _)
   | (with_reducible refine LeO.ite ?_ ?_)
   | (with_reducible refine LeO.bind ?_ (fun _ => ?_))
set_option maxHeartbeats 8000000 in
set_option maxRecDepth 100000 in
theorem laws_eqSlot.calls (k : Nat) (a0_0 : ByteArray) (a0_1 : ByteArray) (A0_2 : Option Addr) (c0_2 : Nat) (l0_2 : List Int) (a1_0 : ByteArray) (a1_1 : ByteArray) (A1_2 : Option Addr) (c1_2 : Nat) (l1_2 : List Int) (r : Bool) (w : World) (hr0_2 : Kd.C (Kd.int .u8) w A0_2 l0_2.length l0_2) (hc0_2 : l0_2.length ≤ c0_2) (hr1_2 : Kd.C (Kd.int .u8) w A1_2 l1_2.length l1_2) (hc1_2 : l1_2.length ≤ c1_2) (h : laws_eqSlot.f k a0_0 a0_1 l0_2 a1_0 a1_1 l1_2 = some r) :
  Calls Try.prog 138 #[.agg #[.string a0_0, .string a0_1, .slice A0_2 l0_2.length c0_2], .agg #[.string a1_0, .string a1_1, .slice A1_2 l1_2.length c1_2]] w fun e w' => e = .returned (.bool r) ∧ Below w.heap.size w w' := by
 have hu144 := Try.underlying144
 have HR0_2 := Aside0.mk hr0_2
 have HC0_2 := Aside0.mk hc0_2
 clear hr0_2 hc0_2
 have HR1_2 := Aside0.mk hr1_2
 have HC1_2 := Aside0.mk hc1_2
 clear hr1_2 hc1_2
 have HB := Aside0.mk (Below.refl w.heap.size w)
 have H : (if a0_0.toList = a1_0.toList then (if a0_1.toList = a1_1.toList then ((laws_eqByteS.f k l0_2 l1_2).bind fun t357 => (if t357 = true then (some true) else (some false))) else (some false)) else (some false)) = some r := h
 clear h
 by_cases c3 : a0_0.toList = a1_0.toList
 ·rw [if_pos c3] at H
  have c3b0 : (a0_0.toList == a1_0.toList) = true := beq_iff_eq.mpr c3
  have c3b1 : (a0_0.toList != a1_0.toList) = false := bne_eq_false_iff_eq.mpr c3
  clear c3
  by_cases c4 : a0_1.toList = a1_1.toList
  ·rw [if_pos c4] at H
   have c4b0 : (a0_1.toList == a1_1.toList) = true := beq_iff_eq.mpr c4
   have c4b1 : (a0_1.toList != a1_1.toList) = false := bne_eq_false_iff_eq.mpr c4
   clear c4
   replace H := Option.bind_eq_some_iff.mp H
   obtain ⟨t357, A50, H⟩ := H
   replace H : (if t357 = true then (some true) else (some false)) = some r := H
   have A5 := Aside0.mk A50
   clear A50
   by_cases c6 : t357 = true
   ·subst c6
    have H1 : (some true) = some r := by rw [if_pos rfl] at H; exact H
    clear H
    have H := H1
    clear H1
    obtain rfl := Option.some.inj H
    go_enter Try.func138, Try.ntmps138
    go_wp2_with (first | ((with_reducible refine gate_dst (N := 2) rfl ?_); refine box_event ?hg (N := 2) ?hd (cs := #[.string a0_0, .string a0_1, .slice A0_2 l0_2.length c0_2]) (t := 144) ?hr ?_; (case hd => rfl); (case hg => rfl); (case hr => first | (go_simp; done) | (go_simp; rfl)); intro gb355 hg w7 hbox hb; have n0_ := Aside0.mk (below_step bl_ hb); have n1_ := Aside0.mk (hbox); have n2_ := gw_ (w := w) hg; have n3_ := gw_ (w := w) hg; clear HB; have HB := n0_; have BK355 := n1_; have GW355 := n2_; have GE355 := n3_; clear n0_ n1_ n2_ n3_; clear hb hbox hg) | ((with_reducible refine gate_dst (N := 3) rfl ?_); refine box_event ?hg (N := 3) ?hd (cs := #[.string a1_0, .string a1_1, .slice A1_2 l1_2.length c1_2]) (t := 144) ?hr ?_; (case hd => rfl); (case hg => rfl); (case hr => first | (go_simp; done) | (go_simp; rfl)); intro gb356 hg w8 hbox hb; have n0_ := Aside0.mk (blk_below (bk_ BK355) hb); have n1_ := Aside0.mk (below_step bl_ hb); have n2_ := Aside0.mk (hbox); have n3_ := gw_ (w := w) hg; have n4_ := gw_ (w := w) hg; have n5_ := Aside0.mk ((by rw [hg]; exact Nat.ne_of_lt (blk_lt (bk_ BK355)) : gb355 ≠ gb356)); have n6_ := Aside0.mk ((by rw [hg]; exact Nat.ne_of_gt (blk_lt (bk_ BK355)) : gb356 ≠ gb355)); clear BK355; clear HB; have BK355 := n0_; have HB := n1_; have BK356 := n2_; have GW356 := n3_; have GE356 := n4_; have NB355_356 := n5_; have NB356_355 := n6_; clear n0_ n1_ n2_ n3_ n4_ n5_ n6_; clear hb hbox hg; have hnb9 := NB355_356.out; have hnc9 := NB356_355.out; have hcz10_0 := cz_ BK355 0 (.string a0_0); have hcz10_1 := cz_ BK355 1 (.string a0_1); have hcz10_2 := cz_ BK355 2 (.slice A0_2 l0_2.length c0_2); have hcz11_0 := cz_ BK356 0 (.string a1_0); have hcz11_1 := cz_ BK356 1 (.string a1_1); have hcz11_2 := cz_ BK356 2 (.slice A1_2 l1_2.length c1_2)) | ((with_reducible refine gate_callee (f := 149) rfl ?_); refine goesL_ (some 19) rfl rfl Try.func149 (by kernel_rfl) rfl #[.slice A0_2 l0_2.length c0_2, .slice A1_2 l1_2.length c1_2] rfl gl_ ?_; (with_reducible refine (laws_eqByteS.calls k _ _ l0_2 _ _ l1_2 true _ ?side1 ?side2 ?side3 ?side4 A5.out).mono ?_); (case side1 => exact ca_ (Kd.C_below HR0_2.out HB.out)); (case side2 => exact HC0_2.out); (case side3 => exact ca_ (Kd.C_below HR1_2.out HB.out)); (case side4 => exact HC1_2.out); rintro e w' ⟨rfl, ⟨nd, rfl⟩⟩; refine ⟨_, rfl, ?_⟩))
    go_ret
    exact ⟨sq_, bl_⟩
   ·replace c6 := Bool.eq_false_iff.mpr c6
    subst c6
    have H1 : (some false) = some r := by rw [if_neg (show ¬ (false = true) by decide)] at H; exact H
    clear H
    have H := H1
    clear H1
    obtain rfl := Option.some.inj H
    go_enter Try.func138, Try.ntmps138
    go_wp2_with (first | ((with_reducible refine gate_dst (N := 2) rfl ?_); refine box_event ?hg (N := 2) ?hd (cs := #[.string a0_0, .string a0_1, .slice A0_2 l0_2.length c0_2]) (t := 144) ?hr ?_; (case hd => rfl); (case hg => rfl); (case hr => first | (go_simp; done) | (go_simp; rfl)); intro gb355 hg w12 hbox hb; have n0_ := Aside0.mk (below_step bl_ hb); have n1_ := Aside0.mk (hbox); have n2_ := gw_ (w := w) hg; have n3_ := gw_ (w := w) hg; clear HB; have HB := n0_; have BK355 := n1_; have GW355 := n2_; have GE355 := n3_; clear n0_ n1_ n2_ n3_; clear hb hbox hg) | ((with_reducible refine gate_dst (N := 3) rfl ?_); refine box_event ?hg (N := 3) ?hd (cs := #[.string a1_0, .string a1_1, .slice A1_2 l1_2.length c1_2]) (t := 144) ?hr ?_; (case hd => rfl); (case hg => rfl); (case hr => first | (go_simp; done) | (go_simp; rfl)); intro gb356 hg w13 hbox hb; have n0_ := Aside0.mk (blk_below (bk_ BK355) hb); have n1_ := Aside0.mk (below_step bl_ hb); have n2_ := Aside0.mk (hbox); have n3_ := gw_ (w := w) hg; have n4_ := gw_ (w := w) hg; have n5_ := Aside0.mk ((by rw [hg]; exact Nat.ne_of_lt (blk_lt (bk_ BK355)) : gb355 ≠ gb356)); have n6_ := Aside0.mk ((by rw [hg]; exact Nat.ne_of_gt (blk_lt (bk_ BK355)) : gb356 ≠ gb355)); clear BK355; clear HB; have BK355 := n0_; have HB := n1_; have BK356 := n2_; have GW356 := n3_; have GE356 := n4_; have NB355_356 := n5_; have NB356_355 := n6_; clear n0_ n1_ n2_ n3_ n4_ n5_ n6_; clear hb hbox hg; have hnb14 := NB355_356.out; have hnc14 := NB356_355.out; have hcz15_0 := cz_ BK355 0 (.string a0_0); have hcz15_1 := cz_ BK355 1 (.string a0_1); have hcz15_2 := cz_ BK355 2 (.slice A0_2 l0_2.length c0_2); have hcz16_0 := cz_ BK356 0 (.string a1_0); have hcz16_1 := cz_ BK356 1 (.string a1_1); have hcz16_2 := cz_ BK356 2 (.slice A1_2 l1_2.length c1_2)) | ((with_reducible refine gate_callee (f := 149) rfl ?_); refine goesL_ (some 19) rfl rfl Try.func149 (by kernel_rfl) rfl #[.slice A0_2 l0_2.length c0_2, .slice A1_2 l1_2.length c1_2] rfl gl_ ?_; (with_reducible refine (laws_eqByteS.calls k _ _ l0_2 _ _ l1_2 false _ ?side1 ?side2 ?side3 ?side4 A5.out).mono ?_); (case side1 => exact ca_ (Kd.C_below HR0_2.out HB.out)); (case side2 => exact HC0_2.out); (case side3 => exact ca_ (Kd.C_below HR1_2.out HB.out)); (case side4 => exact HC1_2.out); rintro e w' ⟨rfl, ⟨nd, rfl⟩⟩; refine ⟨_, rfl, ?_⟩))
    go_ret
    exact ⟨sq_, bl_⟩
  ·rw [if_neg c4] at H
   have c4b0 : (a0_1.toList == a1_1.toList) = false := beq_eq_false_iff_ne.mpr c4
   have c4b1 : (a0_1.toList != a1_1.toList) = true := bne_iff_ne.mpr c4
   obtain rfl := Option.some.inj H
   go_enter Try.func138, Try.ntmps138
   go_wp2_with (first | ((with_reducible refine gate_dst (N := 2) rfl ?_); refine box_event ?hg (N := 2) ?hd (cs := #[.string a0_0, .string a0_1, .slice A0_2 l0_2.length c0_2]) (t := 144) ?hr ?_; (case hd => rfl); (case hg => rfl); (case hr => first | (go_simp; done) | (go_simp; rfl)); intro gb355 hg w17 hbox hb; have n0_ := Aside0.mk (below_step bl_ hb); have n1_ := Aside0.mk (hbox); have n2_ := gw_ (w := w) hg; have n3_ := gw_ (w := w) hg; clear HB; have HB := n0_; have BK355 := n1_; have GW355 := n2_; have GE355 := n3_; clear n0_ n1_ n2_ n3_; clear hb hbox hg) | ((with_reducible refine gate_dst (N := 3) rfl ?_); refine box_event ?hg (N := 3) ?hd (cs := #[.string a1_0, .string a1_1, .slice A1_2 l1_2.length c1_2]) (t := 144) ?hr ?_; (case hd => rfl); (case hg => rfl); (case hr => first | (go_simp; done) | (go_simp; rfl)); intro gb356 hg w18 hbox hb; have n0_ := Aside0.mk (blk_below (bk_ BK355) hb); have n1_ := Aside0.mk (below_step bl_ hb); have n2_ := Aside0.mk (hbox); have n3_ := gw_ (w := w) hg; have n4_ := gw_ (w := w) hg; have n5_ := Aside0.mk ((by rw [hg]; exact Nat.ne_of_lt (blk_lt (bk_ BK355)) : gb355 ≠ gb356)); have n6_ := Aside0.mk ((by rw [hg]; exact Nat.ne_of_gt (blk_lt (bk_ BK355)) : gb356 ≠ gb355)); clear BK355; clear HB; have BK355 := n0_; have HB := n1_; have BK356 := n2_; have GW356 := n3_; have GE356 := n4_; have NB355_356 := n5_; have NB356_355 := n6_; clear n0_ n1_ n2_ n3_ n4_ n5_ n6_; clear hb hbox hg; have hnb19 := NB355_356.out; have hnc19 := NB356_355.out; have hcz20_0 := cz_ BK355 0 (.string a0_0); have hcz20_1 := cz_ BK355 1 (.string a0_1); have hcz20_2 := cz_ BK355 2 (.slice A0_2 l0_2.length c0_2); have hcz21_0 := cz_ BK356 0 (.string a1_0); have hcz21_1 := cz_ BK356 1 (.string a1_1); have hcz21_2 := cz_ BK356 2 (.slice A1_2 l1_2.length c1_2)))
   go_ret
   exact ⟨sq_, bl_⟩
 ·rw [if_neg c3] at H
  have c3b0 : (a0_0.toList == a1_0.toList) = false := beq_eq_false_iff_ne.mpr c3
  have c3b1 : (a0_0.toList != a1_0.toList) = true := bne_iff_ne.mpr c3
  obtain rfl := Option.some.inj H
  go_enter Try.func138, Try.ntmps138
  go_wp2_with (first | ((with_reducible refine gate_dst (N := 2) rfl ?_); refine box_event ?hg (N := 2) ?hd (cs := #[.string a0_0, .string a0_1, .slice A0_2 l0_2.length c0_2]) (t := 144) ?hr ?_; (case hd => rfl); (case hg => rfl); (case hr => first | (go_simp; done) | (go_simp; rfl)); intro gb355 hg w22 hbox hb; have n0_ := Aside0.mk (below_step bl_ hb); have n1_ := Aside0.mk (hbox); have n2_ := gw_ (w := w) hg; have n3_ := gw_ (w := w) hg; clear HB; have HB := n0_; have BK355 := n1_; have GW355 := n2_; have GE355 := n3_; clear n0_ n1_ n2_ n3_; clear hb hbox hg) | ((with_reducible refine gate_dst (N := 3) rfl ?_); refine box_event ?hg (N := 3) ?hd (cs := #[.string a1_0, .string a1_1, .slice A1_2 l1_2.length c1_2]) (t := 144) ?hr ?_; (case hd => rfl); (case hg => rfl); (case hr => first | (go_simp; done) | (go_simp; rfl)); intro gb356 hg w23 hbox hb; have n0_ := Aside0.mk (blk_below (bk_ BK355) hb); have n1_ := Aside0.mk (below_step bl_ hb); have n2_ := Aside0.mk (hbox); have n3_ := gw_ (w := w) hg; have n4_ := gw_ (w := w) hg; have n5_ := Aside0.mk ((by rw [hg]; exact Nat.ne_of_lt (blk_lt (bk_ BK355)) : gb355 ≠ gb356)); have n6_ := Aside0.mk ((by rw [hg]; exact Nat.ne_of_gt (blk_lt (bk_ BK355)) : gb356 ≠ gb355)); clear BK355; clear HB; have BK355 := n0_; have HB := n1_; have BK356 := n2_; have GW356 := n3_; have GE356 := n4_; have NB355_356 := n5_; have NB356_355 := n6_; clear n0_ n1_ n2_ n3_ n4_ n5_ n6_; clear hb hbox hg; have hnb24 := NB355_356.out; have hnc24 := NB356_355.out; have hcz25_0 := cz_ BK355 0 (.string a0_0); have hcz25_1 := cz_ BK355 1 (.string a0_1); have hcz25_2 := cz_ BK355 2 (.slice A0_2 l0_2.length c0_2); have hcz26_0 := cz_ BK356 0 (.string a1_0); have hcz26_1 := cz_ BK356 1 (.string a1_1); have hcz26_2 := cz_ BK356 2 (.slice A1_2 l1_2.length c1_2)))
  go_ret
  exact ⟨sq_, bl_⟩

/-! ### laws_eqSlotS: function 80 -/
def laws_eqSlotS.l0 : Nat → List (S144) → List (S144) → Int → Option (Bool)
 | 0, _, _, _ => none
 | k + 1, x0, x1, x5 => if x5 < (x0.length : Int) then (if 0 ≤ x5 then (if x5 < (x1.length : Int) then ((laws_eqSlot.f k ((rd_T144 x0 x5).f0) ((rd_T144 x0 x5).f1) ((rd_T144 x0 x5).f2) ((rd_T144 x1 x5).f0) ((rd_T144 x1 x5).f1) ((rd_T144 x1 x5).f2)).bind fun t360 => (if t360 = true then (laws_eqSlotS.l0 k x0 x1 (wrap64 (x5 + 1))) else (some false))) else (none)) else (none)) else (some true)
def laws_eqSlotS.f (k : Nat) (l0 : List (S144)) (l1 : List (S144)) : Option (Bool) := if (l0.length : Int) = (l1.length : Int) then (laws_eqSlotS.l0 k l0 l1 0) else (some false)
theorem laws_eqSlotS.mono_l : ∀ k, (∀ y0 y1 y2, LeO (laws_eqSlotS.l0 k y0 y1 y2) (laws_eqSlotS.l0 (k + 1) y0 y1 y2))
 | 0 => fun _ _ _ r h => by simp [laws_eqSlotS.l0] at h
 | k + 1 => by
  have ih0 := laws_eqSlotS.mono_l k
  ·intro y0 y1 y2
   unfold laws_eqSlotS.l0
   repeat' first
   | (with_reducible exact ih0 _ _ _)
   | (with_reducible exact laws_eqSlot.mono _ _ _ _ _ _ _)
   | (with_reducible exact LeO.refl _)
   | (with_reducible exact LeO.none _)
   | (with_reducible refine LeO.ite ?_ ?_)
   | (with_reducible refine LeO.bind ?_ (fun _ => ?_))
theorem laws_eqSlotS.mono : ∀ a0 a1 k, LeO (laws_eqSlotS.f k a0 a1) (laws_eqSlotS.f (k + 1) a0 a1) := by
 intro a0 a1 k
 have ih0 := laws_eqSlotS.mono_l k
 unfold laws_eqSlotS.f
 repeat' first
   | (with_reducible exact ih0 _ _ _)
   | (with_reducible exact laws_eqSlot.mono _ _ _ _ _ _ _)
   | (with_reducible exact LeO.refl _)
   | (with_reducible exact LeO.none _)
   | (with_reducible refine LeO.ite ?_ ?_)
   | (with_reducible refine LeO.bind ?_ (fun _ => ?_))
def laws_eqSlotS.T6 : Bool × List (List Nat × List Nat) := (true, [([], []), ([], []), ([0, 1], [0, 1]), ([2], [2]), ([], []), ([], []), ([4, 5], [4, 5]), ([6], [6]), ([3, 7], [3, 7]), ([8], [8])])
def laws_eqSlotS.B6 : List Nat := [0, 0, 3, 7, 0, 0, 48, 112, 255, 511]
theorem laws_eqSlotS.tab6 : rtab .any (opsOf Try.f80 6) = laws_eqSlotS.T6 := by kernel_rfl
theorem laws_eqSlotS.bits6 : waitsOk laws_eqSlotS.T6.2 laws_eqSlotS.B6 = true := by kernel_rfl
set_option maxHeartbeats 8000000 in
set_option maxRecDepth 100000 in
theorem laws_eqSlotS.calls (k : Nat) (A0 : Option Addr) (c0 : Nat) (l0 : List (S144)) (A1 : Option Addr) (c1 : Nat) (l1 : List (S144)) (r : Bool) (w : World) (hr0 : Kd.C k144 w A0 l0.length l0) (hc0 : l0.length ≤ c0) (hr1 : Kd.C k144 w A1 l1.length l1) (hc1 : l1.length ≤ c1) (h : laws_eqSlotS.f k l0 l1 = some r) :
  Calls Try.prog 80 #[.slice A0 l0.length c0, .slice A1 l1.length c1] w fun e w' => e = .returned (.bool r) ∧ Below w.heap.size w w' := by
 have hu144 := Try.underlying144
 have HR0 := Aside0.mk hr0
 have HC0 := Aside0.mk hc0
 clear hr0 hc0
 have HR1 := Aside0.mk hr1
 have HC1 := Aside0.mk hc1
 clear hr1 hc1
 have HB := Aside0.mk (Below.refl w.heap.size w)
 have H : (if (l0.length : Int) = (l1.length : Int) then (laws_eqSlotS.l0 k l0 l1 0) else (some false)) = some r := h
 clear h
 by_cases c3 : (l0.length : Int) = (l1.length : Int)
 ·rw [if_pos c3] at H
  have c3b0 : ((l0.length : Int) == (l1.length : Int)) = true := beq_iff_eq.mpr c3
  have c3b1 : ((l0.length : Int) != (l1.length : Int)) = false := bne_eq_false_iff_eq.mpr c3
  have c3b2 : (l0.length == l1.length) = true := by first | simpa using c3 | (simp at c3 ⊢; omega)
  clear c3
  have H' := Aside0.mk H
  clear H
  go_enter Try.func80, Try.ntmps80
  go_wp2
  go_loopg [5] k (fun kq v5 w' => ∃ (x5_1 : Int), v5 = .int .i64 x5_1 ∧ Aside0 (laws_eqSlotS.l0 kq l0 l1 x5_1 = some r) ∧ Aside0 (kq ≤ k) ∧ Aside0 (Below w.heap.size w w'))
  case atStart => exact ⟨(0), sp_, H', ⟨Nat.le_refl _⟩, ⟨bl_⟩⟩
  case round =>
   clear H'
   try clear c1
   try clear p2
   try clear c3
   try clear c3b0
   try clear c3b1
   try clear c3b2
   obtain ⟨x5_1, rfl, HA, HK1, HB⟩ := hrel
   cases gk with
   | zero => exact absurd HA.out (by simp [laws_eqSlotS.l0])
   | succ k1 =>
    have H := HA.out
    clear HA
    simp only [laws_eqSlotS.l0] at H
    by_cases c4 : x5_1 < (l0.length : Int)
    ·rw [if_pos c4] at H
     have c4b0 : decide (x5_1 < (l0.length : Int)) = true := decide_eq_true c4
     clear c4
     by_cases c5 : 0 ≤ x5_1
     ·rw [if_pos c5] at H
      have c5b0 : decide (0 ≤ x5_1) = true := decide_eq_true c5
      clear c5
      by_cases c6 : x5_1 < (l1.length : Int)
      ·rw [if_pos c6] at H
       have c6b0 : decide (x5_1 < (l1.length : Int)) = true := decide_eq_true c6
       clear c6
       replace H := Option.bind_eq_some_iff.mp H
       obtain ⟨t360, A70, H⟩ := H
       replace H : (if t360 = true then (laws_eqSlotS.l0 k1 l0 l1 (wrap64 (x5_1 + 1))) else (some false)) = some r := H
       have A7 := Aside0.mk A70
       clear A70
       by_cases c8 : t360 = true
       ·subst c8
        have H1 : (laws_eqSlotS.l0 k1 l0 l1 (wrap64 (x5_1 + 1))) = some r := by rw [if_pos rfl] at H; exact H
        clear H
        have H := H1
        clear H1
        have H' := Aside0.mk H
        clear H
        try go_wp2
        have n0_ := Aside0.mk (below_drew1 HB.out)
        clear HB
        have HB := n0_
        clear n0_
        have p358 : 0 ≤ (x5_1 : Int) := od_
        have q358 : x5_1 < (l0.length : Int) := od_
        obtain ⟨ad358, A358_2, c358_2, e358, hx358_0, hx358_1, hx358_2, hl358_2, hi358_2⟩ := at_T144 HR0.out x5_1 p358 q358
        have hw358_2 := hx358_2
        have hw358_1 := hx358_1
        have hw358_0 := hx358_0
        cases e358
        replace hx358_0 := kc_ HB hx358_0
        replace hx358_1 := kc_ HB hx358_1
        replace hx358_2 := kc_ HB hx358_2
        have HR358_2 := Aside0.mk hi358_2
        have HC358_2 := Aside0.mk hl358_2
        clear hi358_2 hl358_2
        replace p358 := eq_true p358
        replace q358 := eq_true q358
        have p359 : 0 ≤ (x5_1 : Int) := od_
        have q359 : x5_1 < (l1.length : Int) := od_
        obtain ⟨ad359, A359_2, c359_2, e359, hx359_0, hx359_1, hx359_2, hl359_2, hi359_2⟩ := at_T144 HR1.out x5_1 p359 q359
        have hw359_2 := hx359_2
        have hw359_1 := hx359_1
        have hw359_0 := hx359_0
        cases e359
        replace hx359_0 := kc_ HB hx359_0
        replace hx359_1 := kc_ HB hx359_1
        replace hx359_2 := kc_ HB hx359_2
        have HR359_2 := Aside0.mk hi359_2
        have HC359_2 := Aside0.mk hl359_2
        clear hi359_2 hl359_2
        replace p359 := eq_true p359
        replace q359 := eq_true q359
        refine start_ (n := 10) (S := fun w' => w'.cell? (ad358.add ((x5_1).toNat * 3)) = some (.string ((rd_T144 l0 x5_1).f0)) ∧ w'.cell? ⟨(ad358.add ((x5_1).toNat * 3)).block, (ad358.add ((x5_1).toNat * 3)).off + 1, none⟩ = some (.string ((rd_T144 l0 x5_1).f1)) ∧ w'.cell? ⟨(ad358.add ((x5_1).toNat * 3)).block, (ad358.add ((x5_1).toNat * 3)).off + 2, none⟩ = some (.slice A358_2 ((rd_T144 l0 x5_1).f2).length c358_2) ∧ w'.cell? (ad359.add ((x5_1).toNat * 3)) = some (.string ((rd_T144 l1 x5_1).f0)) ∧ w'.cell? ⟨(ad359.add ((x5_1).toNat * 3)).block, (ad359.add ((x5_1).toNat * 3)).off + 1, none⟩ = some (.string ((rd_T144 l1 x5_1).f1)) ∧ w'.cell? ⟨(ad359.add ((x5_1).toNat * 3)).block, (ad359.add ((x5_1).toNat * 3)).off + 2, none⟩ = some (.slice A359_2 ((rd_T144 l1 x5_1).f2).length c359_2)) (ds := []) tb10_0_16 (by kernel_rfl) rfl rfl ⟨(kc_ HB hw358_0), (kc_ HB hw358_1), (kc_ HB hw358_2), (kc_ HB hw359_0), (kc_ HB hw359_1), (kc_ HB hw359_2)⟩ (fun hHeld => ?_); refine with_tabW laws_eqSlotS.tab6 laws_eqSlotS.bits6 (fun HT_ HW_ => ?_)
        generalize wr.drew = w9 at HB HR358_2 HR359_2 hx358_0 hx358_1 hx358_2 hx359_0 hx359_1 hx359_2 hHeld ⊢
        refine pl_ HT_ 0 17 tb10_1_16 ?_
        refine pl_ HT_ 1 18 tb10_3_16 ?_
        refine pl_ HT_ 2 19 tb10_7_16 ?_
        refine pl_ HT_ 4 21 tb10_17_16 ?_
        refine pl_ HT_ 5 22 tb10_37_16 ?_
        refine pl_ HT_ 6 23 tb10_77_16 ?_
        refine take_ (i := 3) (N := some 20) (v := ?_) (a' := ?_) tb10_7f_16 rfl rfl (take_ofW HT_.out HW_.out (by kernel_rfl)) (fun _ _ _ h => h) (Or.inl ⟨by rfl, ?_⟩) hHeld ?_ ?_
        rotate_left
        ·rintro w' ⟨s0, s1, s2, s3, s4, s5⟩
         go_simp
         with_reducible rfl
        rotate_left
        ·simp only [Act.put, q_]
         rfl
        refine take_ (i := 7) (N := some 24) (v := ?_) (a' := ?_) tb10_ff_16 rfl rfl (take_ofW HT_.out HW_.out (by kernel_rfl)) (fun _ _ _ h => h) (Or.inl ⟨by rfl, ?_⟩) hHeld ?_ ?_
        rotate_left
        ·rintro w' ⟨s0, s1, s2, s3, s4, s5⟩
         go_simp
         with_reducible rfl
        rotate_left
        ·simp only [Act.put, q_]
         rfl
        refine one_ (i := 8) (N := some 25) tb10_1ff_16 rfl rfl (one_of HT_.out (by kernel_rfl)) (by decide) (fun K hK => ?_)
        refine goes_ Try.func138 (by kernel_rfl) rfl #[.agg #[.string ((rd_T144 l0 x5_1).f0), .string ((rd_T144 l0 x5_1).f1), .slice A358_2 ((rd_T144 l0 x5_1).f2).length c358_2], .agg #[.string ((rd_T144 l1 x5_1).f0), .string ((rd_T144 l1 x5_1).f1), .slice A359_2 ((rd_T144 l1 x5_1).f2).length c359_2]] (by rfl) rfl rfl gl_ ?_
        with_reducible refine (laws_eqSlot.calls k1 ((rd_T144 l0 x5_1).f0) ((rd_T144 l0 x5_1).f1) _ _ ((rd_T144 l0 x5_1).f2) ((rd_T144 l1 x5_1).f0) ((rd_T144 l1 x5_1).f1) _ _ ((rd_T144 l1 x5_1).f2) true _ ?side1 ?side2 ?side3 ?side4 A7.out).mono ?_
        (case side1 => exact ca_ (Kd.C_below HR358_2.out HB.out))
        (case side2 => exact HC358_2.out)
        (case side3 => exact ca_ (Kd.C_below HR359_2.out HB.out))
        (case side4 => exact HC359_2.out)
        rintro e w10 ⟨rfl, hb⟩
        refine ⟨_, rfl, ?_⟩
        have n0_ := Aside0.mk (below_step bl_ hb)
        clear HB
        have HB := n0_
        clear n0_
        (try clear hb)
        (try clear hb2)
        (try clear hk)
        (try clear hi)
        refine hK.out _ _ ⟨(kc_ HB hw358_0), (kc_ HB hw358_1), (kc_ HB hw358_2), (kc_ HB hw359_0), (kc_ HB hw359_1), (kc_ HB hw359_2)⟩ (fun hHeld => ?_)
        clear hK K
        refine norm_ (a' := ?_) ?_ ?_
        rotate_left
        ·show Act.put _ (some 25) _ = _
         simp only [Act.put, q_]
         rfl
        refine pl_ HT_ 9 26 tb10_3ff_16 ?_
        refine done_ (done_of HT_.out (by kernel_rfl)) ?_
        try go_wp2
        go_roundg k1
        case measure => have := HK1.out; omega
        case rel => exact ⟨(wrap64 (x5_1 + 1)), sp_, H', ⟨by have := HK1.out; omega⟩, ⟨bl_⟩⟩
       ·replace c8 := Bool.eq_false_iff.mpr c8
        subst c8
        have H1 : (some false) = some r := by rw [if_neg (show ¬ (false = true) by decide)] at H; exact H
        clear H
        have H := H1
        clear H1
        obtain rfl := Option.some.inj H
        try go_wp2
        have n0_ := Aside0.mk (below_drew1 HB.out)
        clear HB
        have HB := n0_
        clear n0_
        have p358 : 0 ≤ (x5_1 : Int) := od_
        have q358 : x5_1 < (l0.length : Int) := od_
        obtain ⟨ad358, A358_2, c358_2, e358, hx358_0, hx358_1, hx358_2, hl358_2, hi358_2⟩ := at_T144 HR0.out x5_1 p358 q358
        have hw358_2 := hx358_2
        have hw358_1 := hx358_1
        have hw358_0 := hx358_0
        cases e358
        replace hx358_0 := kc_ HB hx358_0
        replace hx358_1 := kc_ HB hx358_1
        replace hx358_2 := kc_ HB hx358_2
        have HR358_2 := Aside0.mk hi358_2
        have HC358_2 := Aside0.mk hl358_2
        clear hi358_2 hl358_2
        replace p358 := eq_true p358
        replace q358 := eq_true q358
        have p359 : 0 ≤ (x5_1 : Int) := od_
        have q359 : x5_1 < (l1.length : Int) := od_
        obtain ⟨ad359, A359_2, c359_2, e359, hx359_0, hx359_1, hx359_2, hl359_2, hi359_2⟩ := at_T144 HR1.out x5_1 p359 q359
        have hw359_2 := hx359_2
        have hw359_1 := hx359_1
        have hw359_0 := hx359_0
        cases e359
        replace hx359_0 := kc_ HB hx359_0
        replace hx359_1 := kc_ HB hx359_1
        replace hx359_2 := kc_ HB hx359_2
        have HR359_2 := Aside0.mk hi359_2
        have HC359_2 := Aside0.mk hl359_2
        clear hi359_2 hl359_2
        replace p359 := eq_true p359
        replace q359 := eq_true q359
        refine start_ (n := 10) (S := fun w' => w'.cell? (ad358.add ((x5_1).toNat * 3)) = some (.string ((rd_T144 l0 x5_1).f0)) ∧ w'.cell? ⟨(ad358.add ((x5_1).toNat * 3)).block, (ad358.add ((x5_1).toNat * 3)).off + 1, none⟩ = some (.string ((rd_T144 l0 x5_1).f1)) ∧ w'.cell? ⟨(ad358.add ((x5_1).toNat * 3)).block, (ad358.add ((x5_1).toNat * 3)).off + 2, none⟩ = some (.slice A358_2 ((rd_T144 l0 x5_1).f2).length c358_2) ∧ w'.cell? (ad359.add ((x5_1).toNat * 3)) = some (.string ((rd_T144 l1 x5_1).f0)) ∧ w'.cell? ⟨(ad359.add ((x5_1).toNat * 3)).block, (ad359.add ((x5_1).toNat * 3)).off + 1, none⟩ = some (.string ((rd_T144 l1 x5_1).f1)) ∧ w'.cell? ⟨(ad359.add ((x5_1).toNat * 3)).block, (ad359.add ((x5_1).toNat * 3)).off + 2, none⟩ = some (.slice A359_2 ((rd_T144 l1 x5_1).f2).length c359_2)) (ds := []) tb10_0_16 (by kernel_rfl) rfl rfl ⟨(kc_ HB hw358_0), (kc_ HB hw358_1), (kc_ HB hw358_2), (kc_ HB hw359_0), (kc_ HB hw359_1), (kc_ HB hw359_2)⟩ (fun hHeld => ?_); refine with_tabW laws_eqSlotS.tab6 laws_eqSlotS.bits6 (fun HT_ HW_ => ?_)
        generalize wr.drew = w11 at HB HR358_2 HR359_2 hx358_0 hx358_1 hx358_2 hx359_0 hx359_1 hx359_2 hHeld ⊢
        refine pl_ HT_ 0 17 tb10_1_16 ?_
        refine pl_ HT_ 1 18 tb10_3_16 ?_
        refine pl_ HT_ 2 19 tb10_7_16 ?_
        refine pl_ HT_ 4 21 tb10_17_16 ?_
        refine pl_ HT_ 5 22 tb10_37_16 ?_
        refine pl_ HT_ 6 23 tb10_77_16 ?_
        refine take_ (i := 3) (N := some 20) (v := ?_) (a' := ?_) tb10_7f_16 rfl rfl (take_ofW HT_.out HW_.out (by kernel_rfl)) (fun _ _ _ h => h) (Or.inl ⟨by rfl, ?_⟩) hHeld ?_ ?_
        rotate_left
        ·rintro w' ⟨s0, s1, s2, s3, s4, s5⟩
         go_simp
         with_reducible rfl
        rotate_left
        ·simp only [Act.put, q_]
         rfl
        refine take_ (i := 7) (N := some 24) (v := ?_) (a' := ?_) tb10_ff_16 rfl rfl (take_ofW HT_.out HW_.out (by kernel_rfl)) (fun _ _ _ h => h) (Or.inl ⟨by rfl, ?_⟩) hHeld ?_ ?_
        rotate_left
        ·rintro w' ⟨s0, s1, s2, s3, s4, s5⟩
         go_simp
         with_reducible rfl
        rotate_left
        ·simp only [Act.put, q_]
         rfl
        refine one_ (i := 8) (N := some 25) tb10_1ff_16 rfl rfl (one_of HT_.out (by kernel_rfl)) (by decide) (fun K hK => ?_)
        refine goes_ Try.func138 (by kernel_rfl) rfl #[.agg #[.string ((rd_T144 l0 x5_1).f0), .string ((rd_T144 l0 x5_1).f1), .slice A358_2 ((rd_T144 l0 x5_1).f2).length c358_2], .agg #[.string ((rd_T144 l1 x5_1).f0), .string ((rd_T144 l1 x5_1).f1), .slice A359_2 ((rd_T144 l1 x5_1).f2).length c359_2]] (by rfl) rfl rfl gl_ ?_
        with_reducible refine (laws_eqSlot.calls k1 ((rd_T144 l0 x5_1).f0) ((rd_T144 l0 x5_1).f1) _ _ ((rd_T144 l0 x5_1).f2) ((rd_T144 l1 x5_1).f0) ((rd_T144 l1 x5_1).f1) _ _ ((rd_T144 l1 x5_1).f2) false _ ?side1 ?side2 ?side3 ?side4 A7.out).mono ?_
        (case side1 => exact ca_ (Kd.C_below HR358_2.out HB.out))
        (case side2 => exact HC358_2.out)
        (case side3 => exact ca_ (Kd.C_below HR359_2.out HB.out))
        (case side4 => exact HC359_2.out)
        rintro e w12 ⟨rfl, hb⟩
        refine ⟨_, rfl, ?_⟩
        have n0_ := Aside0.mk (below_step bl_ hb)
        clear HB
        have HB := n0_
        clear n0_
        (try clear hb)
        (try clear hb2)
        (try clear hk)
        (try clear hi)
        refine hK.out _ _ ⟨(kc_ HB hw358_0), (kc_ HB hw358_1), (kc_ HB hw358_2), (kc_ HB hw359_0), (kc_ HB hw359_1), (kc_ HB hw359_2)⟩ (fun hHeld => ?_)
        clear hK K
        refine norm_ (a' := ?_) ?_ ?_
        rotate_left
        ·show Act.put _ (some 25) _ = _
         simp only [Act.put, q_]
         rfl
        refine pl_ HT_ 9 26 tb10_3ff_16 ?_
        refine done_ (done_of HT_.out (by kernel_rfl)) ?_
        try go_wp2
        go_ret
        exact ⟨sq_, bl_⟩
      ·rw [if_neg c6] at H
       exact absurd H (by simp)
     ·rw [if_neg c5] at H
      exact absurd H (by simp)
    ·rw [if_neg c4] at H
     have c4b0 : decide (x5_1 < (l0.length : Int)) = false := decide_eq_false c4
     clear c4
     obtain rfl := Option.some.inj H
     go_wp2
     go_ret
     exact ⟨sq_, bl_⟩
 ·rw [if_neg c3] at H
  have c3b0 : ((l0.length : Int) == (l1.length : Int)) = false := beq_eq_false_iff_ne.mpr c3
  have c3b1 : ((l0.length : Int) != (l1.length : Int)) = true := bne_iff_ne.mpr c3
  have c3b2 : (l0.length == l1.length) = false := by first | simpa using c3 | (simp at c3 ⊢; omega)
  obtain rfl := Option.some.inj H
  go_enter Try.func80, Try.ntmps80
  go_wp2
  go_ret
  exact ⟨sq_, bl_⟩

/-! ### laws_eqAcct: function 21 -/
def laws_eqAcct.f (k : Nat) (a0_0 : ByteArray) (a0_1 : Int) (a0_2 : Int) (a0_3 : Int) (a0_4 : Int) (l0_5 : List (S142)) (a0_6 : Int) (a0_7 : Int) (l0_8 : List Int) (l0_9 : List Int) (l0_10 : List (S144)) (a1_0 : ByteArray) (a1_1 : Int) (a1_2 : Int) (a1_3 : Int) (a1_4 : Int) (l1_5 : List (S142)) (a1_6 : Int) (a1_7 : Int) (l1_8 : List Int) (l1_9 : List Int) (l1_10 : List (S144)) : Option (Bool) := if a0_0.toList = a1_0.toList then (if a0_1 = a1_1 then (if a0_2 = a1_2 then (if a0_3 = a1_3 then (if a0_4 = a1_4 then ((laws_eqHoldS.f k l0_5 l1_5).bind fun t363 => (if t363 = true then ((laws_eqRing.f k a0_6 a0_7 l0_8 l0_9 a1_6 a1_7 l1_8 l1_9).bind fun t364 => (if t364 = true then ((laws_eqSlotS.f k l0_10 l1_10).bind fun t365 => (if t365 = true then (some true) else (some false))) else (some false))) else (some false))) else (some false)) else (some false)) else (some false)) else (some false)) else (some false)
theorem laws_eqAcct.mono : ∀ a0 a1 a2 a3 a4 a5 a6 a7 a8 a9 a10 a11 a12 a13 a14 a15 a16 a17 a18 a19 a20 a21 k, LeO (laws_eqAcct.f k a0 a1 a2 a3 a4 a5 a6 a7 a8 a9 a10 a11 a12 a13 a14 a15 a16 a17 a18 a19 a20 a21) (laws_eqAcct.f (k + 1) a0 a1 a2 a3 a4 a5 a6 a7 a8 a9 a10 a11 a12 a13 a14 a15 a16 a17 a18 a19 a20 a21) := by
 intro a0 a1 a2 a3 a4 a5 a6 a7 a8 a9 a10 a11 a12 a13 a14 a15 a16 a17 a18 a19 a20 a21 k
 unfold laws_eqAcct.f
 repeat' first
   | (with_reducible exact laws_eqHoldS.mono _ _ _)
   | (with_reducible exact laws_eqRing.mono _ _ _ _ _ _ _ _ _)
   | (with_reducible exact laws_eqSlotS.mono _ _ _)
   | (with_reducible exact LeO.refl _)
   | (with_reducible exact LeO.none _)
   | (with_reducible refine LeO.ite ?_ ?_)
   | (with_reducible refine LeO.bind ?_ (fun _ => ?_))
set_option maxHeartbeats 8000000 in
set_option maxRecDepth 100000 in
theorem laws_eqAcct.calls (k : Nat) (a0_0 : ByteArray) (a0_1 : Int) (a0_2 : Int) (a0_3 : Int) (a0_4 : Int) (A0_5 : Option Addr) (c0_5 : Nat) (l0_5 : List (S142)) (a0_6 : Int) (a0_7 : Int) (A0_8 : Option Addr) (c0_8 : Nat) (l0_8 : List Int) (A0_9 : Option Addr) (c0_9 : Nat) (l0_9 : List Int) (A0_10 : Option Addr) (c0_10 : Nat) (l0_10 : List (S144)) (a1_0 : ByteArray) (a1_1 : Int) (a1_2 : Int) (a1_3 : Int) (a1_4 : Int) (A1_5 : Option Addr) (c1_5 : Nat) (l1_5 : List (S142)) (a1_6 : Int) (a1_7 : Int) (A1_8 : Option Addr) (c1_8 : Nat) (l1_8 : List Int) (A1_9 : Option Addr) (c1_9 : Nat) (l1_9 : List Int) (A1_10 : Option Addr) (c1_10 : Nat) (l1_10 : List (S144)) (r : Bool) (w : World) (hr0_5 : Kd.C k142 w A0_5 l0_5.length l0_5) (hc0_5 : l0_5.length ≤ c0_5) (hr0_8 : Kd.C (Kd.int .i64) w A0_8 l0_8.length l0_8) (hc0_8 : l0_8.length ≤ c0_8) (hr0_9 : Kd.C (Kd.int .i64) w A0_9 l0_9.length l0_9) (hc0_9 : l0_9.length ≤ c0_9) (hr0_10 : Kd.C k144 w A0_10 l0_10.length l0_10) (hc0_10 : l0_10.length ≤ c0_10) (hr1_5 : Kd.C k142 w A1_5 l1_5.length l1_5) (hc1_5 : l1_5.length ≤ c1_5) (hr1_8 : Kd.C (Kd.int .i64) w A1_8 l1_8.length l1_8) (hc1_8 : l1_8.length ≤ c1_8) (hr1_9 : Kd.C (Kd.int .i64) w A1_9 l1_9.length l1_9) (hc1_9 : l1_9.length ≤ c1_9) (hr1_10 : Kd.C k144 w A1_10 l1_10.length l1_10) (hc1_10 : l1_10.length ≤ c1_10) (h : laws_eqAcct.f k a0_0 a0_1 a0_2 a0_3 a0_4 l0_5 a0_6 a0_7 l0_8 l0_9 l0_10 a1_0 a1_1 a1_2 a1_3 a1_4 l1_5 a1_6 a1_7 l1_8 l1_9 l1_10 = some r) :
  Calls Try.prog 21 #[.agg #[.string a0_0, .int .i64 a0_1, .int .i64 a0_2, .int .i64 a0_3, .int .i64 a0_4, .slice A0_5 l0_5.length c0_5, .int .i64 a0_6, .int .i64 a0_7, .slice A0_8 l0_8.length c0_8, .slice A0_9 l0_9.length c0_9, .slice A0_10 l0_10.length c0_10], .agg #[.string a1_0, .int .i64 a1_1, .int .i64 a1_2, .int .i64 a1_3, .int .i64 a1_4, .slice A1_5 l1_5.length c1_5, .int .i64 a1_6, .int .i64 a1_7, .slice A1_8 l1_8.length c1_8, .slice A1_9 l1_9.length c1_9, .slice A1_10 l1_10.length c1_10]] w fun e w' => e = .returned (.bool r) ∧ Below w.heap.size w w' := by
 have hu48 := Try.underlying48
 have hu45 := Try.underlying45
 have HR0_5 := Aside0.mk hr0_5
 have HC0_5 := Aside0.mk hc0_5
 clear hr0_5 hc0_5
 have HR0_8 := Aside0.mk hr0_8
 have HC0_8 := Aside0.mk hc0_8
 clear hr0_8 hc0_8
 have HR0_9 := Aside0.mk hr0_9
 have HC0_9 := Aside0.mk hc0_9
 clear hr0_9 hc0_9
 have HR0_10 := Aside0.mk hr0_10
 have HC0_10 := Aside0.mk hc0_10
 clear hr0_10 hc0_10
 have HR1_5 := Aside0.mk hr1_5
 have HC1_5 := Aside0.mk hc1_5
 clear hr1_5 hc1_5
 have HR1_8 := Aside0.mk hr1_8
 have HC1_8 := Aside0.mk hc1_8
 clear hr1_8 hc1_8
 have HR1_9 := Aside0.mk hr1_9
 have HC1_9 := Aside0.mk hc1_9
 clear hr1_9 hc1_9
 have HR1_10 := Aside0.mk hr1_10
 have HC1_10 := Aside0.mk hc1_10
 clear hr1_10 hc1_10
 have HB := Aside0.mk (Below.refl w.heap.size w)
 have H : (if a0_0.toList = a1_0.toList then (if a0_1 = a1_1 then (if a0_2 = a1_2 then (if a0_3 = a1_3 then (if a0_4 = a1_4 then ((laws_eqHoldS.f k l0_5 l1_5).bind fun t363 => (if t363 = true then ((laws_eqRing.f k a0_6 a0_7 l0_8 l0_9 a1_6 a1_7 l1_8 l1_9).bind fun t364 => (if t364 = true then ((laws_eqSlotS.f k l0_10 l1_10).bind fun t365 => (if t365 = true then (some true) else (some false))) else (some false))) else (some false))) else (some false)) else (some false)) else (some false)) else (some false)) else (some false)) = some r := h
 clear h
 by_cases c3 : a0_0.toList = a1_0.toList
 ·rw [if_pos c3] at H
  have c3b0 : (a0_0.toList == a1_0.toList) = true := beq_iff_eq.mpr c3
  have c3b1 : (a0_0.toList != a1_0.toList) = false := bne_eq_false_iff_eq.mpr c3
  clear c3
  by_cases c4 : a0_1 = a1_1
  ·rw [if_pos c4] at H
   have c4b0 : (a0_1 == a1_1) = true := beq_iff_eq.mpr c4
   have c4b1 : (a0_1 != a1_1) = false := bne_eq_false_iff_eq.mpr c4
   clear c4
   by_cases c5 : a0_2 = a1_2
   ·rw [if_pos c5] at H
    have c5b0 : (a0_2 == a1_2) = true := beq_iff_eq.mpr c5
    have c5b1 : (a0_2 != a1_2) = false := bne_eq_false_iff_eq.mpr c5
    clear c5
    by_cases c6 : a0_3 = a1_3
    ·rw [if_pos c6] at H
     have c6b0 : (a0_3 == a1_3) = true := beq_iff_eq.mpr c6
     have c6b1 : (a0_3 != a1_3) = false := bne_eq_false_iff_eq.mpr c6
     clear c6
     by_cases c7 : a0_4 = a1_4
     ·rw [if_pos c7] at H
      have c7b0 : (a0_4 == a1_4) = true := beq_iff_eq.mpr c7
      have c7b1 : (a0_4 != a1_4) = false := bne_eq_false_iff_eq.mpr c7
      clear c7
      replace H := Option.bind_eq_some_iff.mp H
      obtain ⟨t363, A80, H⟩ := H
      replace H : (if t363 = true then ((laws_eqRing.f k a0_6 a0_7 l0_8 l0_9 a1_6 a1_7 l1_8 l1_9).bind fun t364 => (if t364 = true then ((laws_eqSlotS.f k l0_10 l1_10).bind fun t365 => (if t365 = true then (some true) else (some false))) else (some false))) else (some false)) = some r := H
      have A8 := Aside0.mk A80
      clear A80
      by_cases c9 : t363 = true
      ·subst c9
       have H1 : ((laws_eqRing.f k a0_6 a0_7 l0_8 l0_9 a1_6 a1_7 l1_8 l1_9).bind fun t364 => (if t364 = true then ((laws_eqSlotS.f k l0_10 l1_10).bind fun t365 => (if t365 = true then (some true) else (some false))) else (some false))) = some r := by rw [if_pos rfl] at H; exact H
       clear H
       have H := H1
       clear H1
       replace H := Option.bind_eq_some_iff.mp H
       obtain ⟨t364, A100, H⟩ := H
       replace H : (if t364 = true then ((laws_eqSlotS.f k l0_10 l1_10).bind fun t365 => (if t365 = true then (some true) else (some false))) else (some false)) = some r := H
       have A10 := Aside0.mk A100
       clear A100
       by_cases c11 : t364 = true
       ·subst c11
        have H1 : ((laws_eqSlotS.f k l0_10 l1_10).bind fun t365 => (if t365 = true then (some true) else (some false))) = some r := by rw [if_pos rfl] at H; exact H
        clear H
        have H := H1
        clear H1
        replace H := Option.bind_eq_some_iff.mp H
        obtain ⟨t365, A120, H⟩ := H
        replace H : (if t365 = true then (some true) else (some false)) = some r := H
        have A12 := Aside0.mk A120
        clear A120
        by_cases c13 : t365 = true
        ·subst c13
         have H1 : (some true) = some r := by rw [if_pos rfl] at H; exact H
         clear H
         have H := H1
         clear H1
         obtain rfl := Option.some.inj H
         go_enter Try.func21, Try.ntmps21
         go_wp2_with (first | ((with_reducible refine gate_dst (N := 2) rfl ?_); refine box_event ?hg (N := 2) ?hd (cs := #[.string a0_0, .int .i64 a0_1, .int .i64 a0_2, .int .i64 a0_3, .int .i64 a0_4, .slice A0_5 l0_5.length c0_5, .int .i64 a0_6, .int .i64 a0_7, .slice A0_8 l0_8.length c0_8, .slice A0_9 l0_9.length c0_9, .slice A0_10 l0_10.length c0_10]) (t := 48) ?hr ?_; (case hd => rfl); (case hg => rfl); (case hr => first | (go_simp; done) | (go_simp; rfl)); intro gb361 hg w14 hbox hb; have n0_ := Aside0.mk (below_step bl_ hb); have n1_ := Aside0.mk (hbox); have n2_ := gw_ (w := w) hg; have n3_ := gw_ (w := w) hg; clear HB; have HB := n0_; have BK361 := n1_; have GW361 := n2_; have GE361 := n3_; clear n0_ n1_ n2_ n3_; clear hb hbox hg) | ((with_reducible refine gate_dst (N := 3) rfl ?_); refine box_event ?hg (N := 3) ?hd (cs := #[.string a1_0, .int .i64 a1_1, .int .i64 a1_2, .int .i64 a1_3, .int .i64 a1_4, .slice A1_5 l1_5.length c1_5, .int .i64 a1_6, .int .i64 a1_7, .slice A1_8 l1_8.length c1_8, .slice A1_9 l1_9.length c1_9, .slice A1_10 l1_10.length c1_10]) (t := 48) ?hr ?_; (case hd => rfl); (case hg => rfl); (case hr => first | (go_simp; done) | (go_simp; rfl)); intro gb362 hg w15 hbox hb; have n0_ := Aside0.mk (blk_below (bk_ BK361) hb); have n1_ := Aside0.mk (below_step bl_ hb); have n2_ := Aside0.mk (hbox); have n3_ := gw_ (w := w) hg; have n4_ := gw_ (w := w) hg; have n5_ := Aside0.mk ((by rw [hg]; exact Nat.ne_of_lt (blk_lt (bk_ BK361)) : gb361 ≠ gb362)); have n6_ := Aside0.mk ((by rw [hg]; exact Nat.ne_of_gt (blk_lt (bk_ BK361)) : gb362 ≠ gb361)); clear BK361; clear HB; have BK361 := n0_; have HB := n1_; have BK362 := n2_; have GW362 := n3_; have GE362 := n4_; have NB361_362 := n5_; have NB362_361 := n6_; clear n0_ n1_ n2_ n3_ n4_ n5_ n6_; clear hb hbox hg; have hnb16 := NB361_362.out; have hnc16 := NB362_361.out; have hcz17_0 := cz_ BK361 0 (.string a0_0); have hcz17_1 := cz_ BK361 1 (.int .i64 a0_1); have hcz17_2 := cz_ BK361 2 (.int .i64 a0_2); have hcz17_3 := cz_ BK361 3 (.int .i64 a0_3); have hcz17_4 := cz_ BK361 4 (.int .i64 a0_4); have hcz17_5 := cz_ BK361 5 (.slice A0_5 l0_5.length c0_5); have hcz17_6 := cz_ BK361 6 (.int .i64 a0_6); have hcz17_7 := cz_ BK361 7 (.int .i64 a0_7); have hcz17_8 := cz_ BK361 8 (.slice A0_8 l0_8.length c0_8); have hcz17_9 := cz_ BK361 9 (.slice A0_9 l0_9.length c0_9); have hcz17_10 := cz_ BK361 10 (.slice A0_10 l0_10.length c0_10); have hcz18_0 := cz_ BK362 0 (.string a1_0); have hcz18_1 := cz_ BK362 1 (.int .i64 a1_1); have hcz18_2 := cz_ BK362 2 (.int .i64 a1_2); have hcz18_3 := cz_ BK362 3 (.int .i64 a1_3); have hcz18_4 := cz_ BK362 4 (.int .i64 a1_4); have hcz18_5 := cz_ BK362 5 (.slice A1_5 l1_5.length c1_5); have hcz18_6 := cz_ BK362 6 (.int .i64 a1_6); have hcz18_7 := cz_ BK362 7 (.int .i64 a1_7); have hcz18_8 := cz_ BK362 8 (.slice A1_8 l1_8.length c1_8); have hcz18_9 := cz_ BK362 9 (.slice A1_9 l1_9.length c1_9); have hcz18_10 := cz_ BK362 10 (.slice A1_10 l1_10.length c1_10)) | ((with_reducible refine gate_callee (f := 78) rfl ?_); refine goesL_ (some 34) rfl rfl Try.func78 (by kernel_rfl) rfl #[.slice A0_5 l0_5.length c0_5, .slice A1_5 l1_5.length c1_5] rfl gl_ ?_; (with_reducible refine (laws_eqHoldS.calls k _ _ l0_5 _ _ l1_5 true _ ?side1 ?side2 ?side3 ?side4 A8.out).mono ?_); (case side1 => exact ca_ (Kd.C_below HR0_5.out HB.out)); (case side2 => exact HC0_5.out); (case side3 => exact ca_ (Kd.C_below HR1_5.out HB.out)); (case side4 => exact HC1_5.out); rintro e w19 ⟨rfl, hb⟩; refine ⟨_, rfl, ?_⟩; have n0_ := Aside0.mk (blk_below (bk_ BK361) hb); have n1_ := Aside0.mk (blk_below (bk_ BK362) hb); have n2_ := Aside0.mk (below_step bl_ hb); clear BK361; clear BK362; clear HB; have BK361 := n0_; have BK362 := n1_; have HB := n2_; clear n0_ n1_ n2_; (try clear hb); (try clear hb2); (try clear hk); (try clear hi); have hcz20_0 := cz_ BK361 0 (.string a0_0); have hcz20_1 := cz_ BK361 1 (.int .i64 a0_1); have hcz20_2 := cz_ BK361 2 (.int .i64 a0_2); have hcz20_3 := cz_ BK361 3 (.int .i64 a0_3); have hcz20_4 := cz_ BK361 4 (.int .i64 a0_4); have hcz20_5 := cz_ BK361 5 (.slice A0_5 l0_5.length c0_5); have hcz20_6 := cz_ BK361 6 (.int .i64 a0_6); have hcz20_7 := cz_ BK361 7 (.int .i64 a0_7); have hcz20_8 := cz_ BK361 8 (.slice A0_8 l0_8.length c0_8); have hcz20_9 := cz_ BK361 9 (.slice A0_9 l0_9.length c0_9); have hcz20_10 := cz_ BK361 10 (.slice A0_10 l0_10.length c0_10); have hcz21_0 := cz_ BK362 0 (.string a1_0); have hcz21_1 := cz_ BK362 1 (.int .i64 a1_1); have hcz21_2 := cz_ BK362 2 (.int .i64 a1_2); have hcz21_3 := cz_ BK362 3 (.int .i64 a1_3); have hcz21_4 := cz_ BK362 4 (.int .i64 a1_4); have hcz21_5 := cz_ BK362 5 (.slice A1_5 l1_5.length c1_5); have hcz21_6 := cz_ BK362 6 (.int .i64 a1_6); have hcz21_7 := cz_ BK362 7 (.int .i64 a1_7); have hcz21_8 := cz_ BK362 8 (.slice A1_8 l1_8.length c1_8); have hcz21_9 := cz_ BK362 9 (.slice A1_9 l1_9.length c1_9); have hcz21_10 := cz_ BK362 10 (.slice A1_10 l1_10.length c1_10)) | ((with_reducible refine gate_callee (f := 79) rfl ?_); refine goesL_ (some 40) rfl rfl Try.func79 (by kernel_rfl) rfl #[.agg #[.int .i64 a0_6, .int .i64 a0_7, .slice A0_8 l0_8.length c0_8, .slice A0_9 l0_9.length c0_9], .agg #[.int .i64 a1_6, .int .i64 a1_7, .slice A1_8 l1_8.length c1_8, .slice A1_9 l1_9.length c1_9]] rfl gl_ ?_; (with_reducible refine (laws_eqRing.calls k a0_6 a0_7 _ _ l0_8 _ _ l0_9 a1_6 a1_7 _ _ l1_8 _ _ l1_9 true _ ?side1 ?side2 ?side3 ?side4 ?side5 ?side6 ?side7 ?side8 A10.out).mono ?_); (case side1 => exact ca_ (Kd.C_below HR0_8.out HB.out)); (case side2 => exact HC0_8.out); (case side3 => exact ca_ (Kd.C_below HR0_9.out HB.out)); (case side4 => exact HC0_9.out); (case side5 => exact ca_ (Kd.C_below HR1_8.out HB.out)); (case side6 => exact HC1_8.out); (case side7 => exact ca_ (Kd.C_below HR1_9.out HB.out)); (case side8 => exact HC1_9.out); rintro e w22 ⟨rfl, hb⟩; refine ⟨_, rfl, ?_⟩; have n0_ := Aside0.mk (blk_below (bk_ BK361) hb); have n1_ := Aside0.mk (blk_below (bk_ BK362) hb); have n2_ := Aside0.mk (below_step bl_ hb); clear BK361; clear BK362; clear HB; have BK361 := n0_; have BK362 := n1_; have HB := n2_; clear n0_ n1_ n2_; (try clear hb); (try clear hb2); (try clear hk); (try clear hi); have hcz23_0 := cz_ BK361 0 (.string a0_0); have hcz23_1 := cz_ BK361 1 (.int .i64 a0_1); have hcz23_2 := cz_ BK361 2 (.int .i64 a0_2); have hcz23_3 := cz_ BK361 3 (.int .i64 a0_3); have hcz23_4 := cz_ BK361 4 (.int .i64 a0_4); have hcz23_5 := cz_ BK361 5 (.slice A0_5 l0_5.length c0_5); have hcz23_6 := cz_ BK361 6 (.int .i64 a0_6); have hcz23_7 := cz_ BK361 7 (.int .i64 a0_7); have hcz23_8 := cz_ BK361 8 (.slice A0_8 l0_8.length c0_8); have hcz23_9 := cz_ BK361 9 (.slice A0_9 l0_9.length c0_9); have hcz23_10 := cz_ BK361 10 (.slice A0_10 l0_10.length c0_10); have hcz24_0 := cz_ BK362 0 (.string a1_0); have hcz24_1 := cz_ BK362 1 (.int .i64 a1_1); have hcz24_2 := cz_ BK362 2 (.int .i64 a1_2); have hcz24_3 := cz_ BK362 3 (.int .i64 a1_3); have hcz24_4 := cz_ BK362 4 (.int .i64 a1_4); have hcz24_5 := cz_ BK362 5 (.slice A1_5 l1_5.length c1_5); have hcz24_6 := cz_ BK362 6 (.int .i64 a1_6); have hcz24_7 := cz_ BK362 7 (.int .i64 a1_7); have hcz24_8 := cz_ BK362 8 (.slice A1_8 l1_8.length c1_8); have hcz24_9 := cz_ BK362 9 (.slice A1_9 l1_9.length c1_9); have hcz24_10 := cz_ BK362 10 (.slice A1_10 l1_10.length c1_10)) | ((with_reducible refine gate_callee (f := 80) rfl ?_); refine goesL_ (some 46) rfl rfl Try.func80 (by kernel_rfl) rfl #[.slice A0_10 l0_10.length c0_10, .slice A1_10 l1_10.length c1_10] rfl gl_ ?_; (with_reducible refine (laws_eqSlotS.calls k _ _ l0_10 _ _ l1_10 true _ ?side1 ?side2 ?side3 ?side4 A12.out).mono ?_); (case side1 => exact ca_ (Kd.C_below HR0_10.out HB.out)); (case side2 => exact HC0_10.out); (case side3 => exact ca_ (Kd.C_below HR1_10.out HB.out)); (case side4 => exact HC1_10.out); rintro e w25 ⟨rfl, hb⟩; refine ⟨_, rfl, ?_⟩; have n0_ := Aside0.mk (blk_below (bk_ BK361) hb); have n1_ := Aside0.mk (blk_below (bk_ BK362) hb); have n2_ := Aside0.mk (below_step bl_ hb); clear BK361; clear BK362; clear HB; have BK361 := n0_; have BK362 := n1_; have HB := n2_; clear n0_ n1_ n2_; (try clear hb); (try clear hb2); (try clear hk); (try clear hi)))
         go_ret
         exact ⟨sq_, bl_⟩
        ·replace c13 := Bool.eq_false_iff.mpr c13
         subst c13
         have H1 : (some false) = some r := by rw [if_neg (show ¬ (false = true) by decide)] at H; exact H
         clear H
         have H := H1
         clear H1
         obtain rfl := Option.some.inj H
         go_enter Try.func21, Try.ntmps21
         go_wp2_with (first | ((with_reducible refine gate_dst (N := 2) rfl ?_); refine box_event ?hg (N := 2) ?hd (cs := #[.string a0_0, .int .i64 a0_1, .int .i64 a0_2, .int .i64 a0_3, .int .i64 a0_4, .slice A0_5 l0_5.length c0_5, .int .i64 a0_6, .int .i64 a0_7, .slice A0_8 l0_8.length c0_8, .slice A0_9 l0_9.length c0_9, .slice A0_10 l0_10.length c0_10]) (t := 48) ?hr ?_; (case hd => rfl); (case hg => rfl); (case hr => first | (go_simp; done) | (go_simp; rfl)); intro gb361 hg w26 hbox hb; have n0_ := Aside0.mk (below_step bl_ hb); have n1_ := Aside0.mk (hbox); have n2_ := gw_ (w := w) hg; have n3_ := gw_ (w := w) hg; clear HB; have HB := n0_; have BK361 := n1_; have GW361 := n2_; have GE361 := n3_; clear n0_ n1_ n2_ n3_; clear hb hbox hg) | ((with_reducible refine gate_dst (N := 3) rfl ?_); refine box_event ?hg (N := 3) ?hd (cs := #[.string a1_0, .int .i64 a1_1, .int .i64 a1_2, .int .i64 a1_3, .int .i64 a1_4, .slice A1_5 l1_5.length c1_5, .int .i64 a1_6, .int .i64 a1_7, .slice A1_8 l1_8.length c1_8, .slice A1_9 l1_9.length c1_9, .slice A1_10 l1_10.length c1_10]) (t := 48) ?hr ?_; (case hd => rfl); (case hg => rfl); (case hr => first | (go_simp; done) | (go_simp; rfl)); intro gb362 hg w27 hbox hb; have n0_ := Aside0.mk (blk_below (bk_ BK361) hb); have n1_ := Aside0.mk (below_step bl_ hb); have n2_ := Aside0.mk (hbox); have n3_ := gw_ (w := w) hg; have n4_ := gw_ (w := w) hg; have n5_ := Aside0.mk ((by rw [hg]; exact Nat.ne_of_lt (blk_lt (bk_ BK361)) : gb361 ≠ gb362)); have n6_ := Aside0.mk ((by rw [hg]; exact Nat.ne_of_gt (blk_lt (bk_ BK361)) : gb362 ≠ gb361)); clear BK361; clear HB; have BK361 := n0_; have HB := n1_; have BK362 := n2_; have GW362 := n3_; have GE362 := n4_; have NB361_362 := n5_; have NB362_361 := n6_; clear n0_ n1_ n2_ n3_ n4_ n5_ n6_; clear hb hbox hg; have hnb28 := NB361_362.out; have hnc28 := NB362_361.out; have hcz29_0 := cz_ BK361 0 (.string a0_0); have hcz29_1 := cz_ BK361 1 (.int .i64 a0_1); have hcz29_2 := cz_ BK361 2 (.int .i64 a0_2); have hcz29_3 := cz_ BK361 3 (.int .i64 a0_3); have hcz29_4 := cz_ BK361 4 (.int .i64 a0_4); have hcz29_5 := cz_ BK361 5 (.slice A0_5 l0_5.length c0_5); have hcz29_6 := cz_ BK361 6 (.int .i64 a0_6); have hcz29_7 := cz_ BK361 7 (.int .i64 a0_7); have hcz29_8 := cz_ BK361 8 (.slice A0_8 l0_8.length c0_8); have hcz29_9 := cz_ BK361 9 (.slice A0_9 l0_9.length c0_9); have hcz29_10 := cz_ BK361 10 (.slice A0_10 l0_10.length c0_10); have hcz30_0 := cz_ BK362 0 (.string a1_0); have hcz30_1 := cz_ BK362 1 (.int .i64 a1_1); have hcz30_2 := cz_ BK362 2 (.int .i64 a1_2); have hcz30_3 := cz_ BK362 3 (.int .i64 a1_3); have hcz30_4 := cz_ BK362 4 (.int .i64 a1_4); have hcz30_5 := cz_ BK362 5 (.slice A1_5 l1_5.length c1_5); have hcz30_6 := cz_ BK362 6 (.int .i64 a1_6); have hcz30_7 := cz_ BK362 7 (.int .i64 a1_7); have hcz30_8 := cz_ BK362 8 (.slice A1_8 l1_8.length c1_8); have hcz30_9 := cz_ BK362 9 (.slice A1_9 l1_9.length c1_9); have hcz30_10 := cz_ BK362 10 (.slice A1_10 l1_10.length c1_10)) | ((with_reducible refine gate_callee (f := 78) rfl ?_); refine goesL_ (some 34) rfl rfl Try.func78 (by kernel_rfl) rfl #[.slice A0_5 l0_5.length c0_5, .slice A1_5 l1_5.length c1_5] rfl gl_ ?_; (with_reducible refine (laws_eqHoldS.calls k _ _ l0_5 _ _ l1_5 true _ ?side1 ?side2 ?side3 ?side4 A8.out).mono ?_); (case side1 => exact ca_ (Kd.C_below HR0_5.out HB.out)); (case side2 => exact HC0_5.out); (case side3 => exact ca_ (Kd.C_below HR1_5.out HB.out)); (case side4 => exact HC1_5.out); rintro e w31 ⟨rfl, hb⟩; refine ⟨_, rfl, ?_⟩; have n0_ := Aside0.mk (blk_below (bk_ BK361) hb); have n1_ := Aside0.mk (blk_below (bk_ BK362) hb); have n2_ := Aside0.mk (below_step bl_ hb); clear BK361; clear BK362; clear HB; have BK361 := n0_; have BK362 := n1_; have HB := n2_; clear n0_ n1_ n2_; (try clear hb); (try clear hb2); (try clear hk); (try clear hi); have hcz32_0 := cz_ BK361 0 (.string a0_0); have hcz32_1 := cz_ BK361 1 (.int .i64 a0_1); have hcz32_2 := cz_ BK361 2 (.int .i64 a0_2); have hcz32_3 := cz_ BK361 3 (.int .i64 a0_3); have hcz32_4 := cz_ BK361 4 (.int .i64 a0_4); have hcz32_5 := cz_ BK361 5 (.slice A0_5 l0_5.length c0_5); have hcz32_6 := cz_ BK361 6 (.int .i64 a0_6); have hcz32_7 := cz_ BK361 7 (.int .i64 a0_7); have hcz32_8 := cz_ BK361 8 (.slice A0_8 l0_8.length c0_8); have hcz32_9 := cz_ BK361 9 (.slice A0_9 l0_9.length c0_9); have hcz32_10 := cz_ BK361 10 (.slice A0_10 l0_10.length c0_10); have hcz33_0 := cz_ BK362 0 (.string a1_0); have hcz33_1 := cz_ BK362 1 (.int .i64 a1_1); have hcz33_2 := cz_ BK362 2 (.int .i64 a1_2); have hcz33_3 := cz_ BK362 3 (.int .i64 a1_3); have hcz33_4 := cz_ BK362 4 (.int .i64 a1_4); have hcz33_5 := cz_ BK362 5 (.slice A1_5 l1_5.length c1_5); have hcz33_6 := cz_ BK362 6 (.int .i64 a1_6); have hcz33_7 := cz_ BK362 7 (.int .i64 a1_7); have hcz33_8 := cz_ BK362 8 (.slice A1_8 l1_8.length c1_8); have hcz33_9 := cz_ BK362 9 (.slice A1_9 l1_9.length c1_9); have hcz33_10 := cz_ BK362 10 (.slice A1_10 l1_10.length c1_10)) | ((with_reducible refine gate_callee (f := 79) rfl ?_); refine goesL_ (some 40) rfl rfl Try.func79 (by kernel_rfl) rfl #[.agg #[.int .i64 a0_6, .int .i64 a0_7, .slice A0_8 l0_8.length c0_8, .slice A0_9 l0_9.length c0_9], .agg #[.int .i64 a1_6, .int .i64 a1_7, .slice A1_8 l1_8.length c1_8, .slice A1_9 l1_9.length c1_9]] rfl gl_ ?_; (with_reducible refine (laws_eqRing.calls k a0_6 a0_7 _ _ l0_8 _ _ l0_9 a1_6 a1_7 _ _ l1_8 _ _ l1_9 true _ ?side1 ?side2 ?side3 ?side4 ?side5 ?side6 ?side7 ?side8 A10.out).mono ?_); (case side1 => exact ca_ (Kd.C_below HR0_8.out HB.out)); (case side2 => exact HC0_8.out); (case side3 => exact ca_ (Kd.C_below HR0_9.out HB.out)); (case side4 => exact HC0_9.out); (case side5 => exact ca_ (Kd.C_below HR1_8.out HB.out)); (case side6 => exact HC1_8.out); (case side7 => exact ca_ (Kd.C_below HR1_9.out HB.out)); (case side8 => exact HC1_9.out); rintro e w34 ⟨rfl, hb⟩; refine ⟨_, rfl, ?_⟩; have n0_ := Aside0.mk (blk_below (bk_ BK361) hb); have n1_ := Aside0.mk (blk_below (bk_ BK362) hb); have n2_ := Aside0.mk (below_step bl_ hb); clear BK361; clear BK362; clear HB; have BK361 := n0_; have BK362 := n1_; have HB := n2_; clear n0_ n1_ n2_; (try clear hb); (try clear hb2); (try clear hk); (try clear hi); have hcz35_0 := cz_ BK361 0 (.string a0_0); have hcz35_1 := cz_ BK361 1 (.int .i64 a0_1); have hcz35_2 := cz_ BK361 2 (.int .i64 a0_2); have hcz35_3 := cz_ BK361 3 (.int .i64 a0_3); have hcz35_4 := cz_ BK361 4 (.int .i64 a0_4); have hcz35_5 := cz_ BK361 5 (.slice A0_5 l0_5.length c0_5); have hcz35_6 := cz_ BK361 6 (.int .i64 a0_6); have hcz35_7 := cz_ BK361 7 (.int .i64 a0_7); have hcz35_8 := cz_ BK361 8 (.slice A0_8 l0_8.length c0_8); have hcz35_9 := cz_ BK361 9 (.slice A0_9 l0_9.length c0_9); have hcz35_10 := cz_ BK361 10 (.slice A0_10 l0_10.length c0_10); have hcz36_0 := cz_ BK362 0 (.string a1_0); have hcz36_1 := cz_ BK362 1 (.int .i64 a1_1); have hcz36_2 := cz_ BK362 2 (.int .i64 a1_2); have hcz36_3 := cz_ BK362 3 (.int .i64 a1_3); have hcz36_4 := cz_ BK362 4 (.int .i64 a1_4); have hcz36_5 := cz_ BK362 5 (.slice A1_5 l1_5.length c1_5); have hcz36_6 := cz_ BK362 6 (.int .i64 a1_6); have hcz36_7 := cz_ BK362 7 (.int .i64 a1_7); have hcz36_8 := cz_ BK362 8 (.slice A1_8 l1_8.length c1_8); have hcz36_9 := cz_ BK362 9 (.slice A1_9 l1_9.length c1_9); have hcz36_10 := cz_ BK362 10 (.slice A1_10 l1_10.length c1_10)) | ((with_reducible refine gate_callee (f := 80) rfl ?_); refine goesL_ (some 46) rfl rfl Try.func80 (by kernel_rfl) rfl #[.slice A0_10 l0_10.length c0_10, .slice A1_10 l1_10.length c1_10] rfl gl_ ?_; (with_reducible refine (laws_eqSlotS.calls k _ _ l0_10 _ _ l1_10 false _ ?side1 ?side2 ?side3 ?side4 A12.out).mono ?_); (case side1 => exact ca_ (Kd.C_below HR0_10.out HB.out)); (case side2 => exact HC0_10.out); (case side3 => exact ca_ (Kd.C_below HR1_10.out HB.out)); (case side4 => exact HC1_10.out); rintro e w37 ⟨rfl, hb⟩; refine ⟨_, rfl, ?_⟩; have n0_ := Aside0.mk (blk_below (bk_ BK361) hb); have n1_ := Aside0.mk (blk_below (bk_ BK362) hb); have n2_ := Aside0.mk (below_step bl_ hb); clear BK361; clear BK362; clear HB; have BK361 := n0_; have BK362 := n1_; have HB := n2_; clear n0_ n1_ n2_; (try clear hb); (try clear hb2); (try clear hk); (try clear hi)))
         go_ret
         exact ⟨sq_, bl_⟩
       ·replace c11 := Bool.eq_false_iff.mpr c11
        subst c11
        have H1 : (some false) = some r := by rw [if_neg (show ¬ (false = true) by decide)] at H; exact H
        clear H
        have H := H1
        clear H1
        obtain rfl := Option.some.inj H
        go_enter Try.func21, Try.ntmps21
        go_wp2_with (first | ((with_reducible refine gate_dst (N := 2) rfl ?_); refine box_event ?hg (N := 2) ?hd (cs := #[.string a0_0, .int .i64 a0_1, .int .i64 a0_2, .int .i64 a0_3, .int .i64 a0_4, .slice A0_5 l0_5.length c0_5, .int .i64 a0_6, .int .i64 a0_7, .slice A0_8 l0_8.length c0_8, .slice A0_9 l0_9.length c0_9, .slice A0_10 l0_10.length c0_10]) (t := 48) ?hr ?_; (case hd => rfl); (case hg => rfl); (case hr => first | (go_simp; done) | (go_simp; rfl)); intro gb361 hg w38 hbox hb; have n0_ := Aside0.mk (below_step bl_ hb); have n1_ := Aside0.mk (hbox); have n2_ := gw_ (w := w) hg; have n3_ := gw_ (w := w) hg; clear HB; have HB := n0_; have BK361 := n1_; have GW361 := n2_; have GE361 := n3_; clear n0_ n1_ n2_ n3_; clear hb hbox hg) | ((with_reducible refine gate_dst (N := 3) rfl ?_); refine box_event ?hg (N := 3) ?hd (cs := #[.string a1_0, .int .i64 a1_1, .int .i64 a1_2, .int .i64 a1_3, .int .i64 a1_4, .slice A1_5 l1_5.length c1_5, .int .i64 a1_6, .int .i64 a1_7, .slice A1_8 l1_8.length c1_8, .slice A1_9 l1_9.length c1_9, .slice A1_10 l1_10.length c1_10]) (t := 48) ?hr ?_; (case hd => rfl); (case hg => rfl); (case hr => first | (go_simp; done) | (go_simp; rfl)); intro gb362 hg w39 hbox hb; have n0_ := Aside0.mk (blk_below (bk_ BK361) hb); have n1_ := Aside0.mk (below_step bl_ hb); have n2_ := Aside0.mk (hbox); have n3_ := gw_ (w := w) hg; have n4_ := gw_ (w := w) hg; have n5_ := Aside0.mk ((by rw [hg]; exact Nat.ne_of_lt (blk_lt (bk_ BK361)) : gb361 ≠ gb362)); have n6_ := Aside0.mk ((by rw [hg]; exact Nat.ne_of_gt (blk_lt (bk_ BK361)) : gb362 ≠ gb361)); clear BK361; clear HB; have BK361 := n0_; have HB := n1_; have BK362 := n2_; have GW362 := n3_; have GE362 := n4_; have NB361_362 := n5_; have NB362_361 := n6_; clear n0_ n1_ n2_ n3_ n4_ n5_ n6_; clear hb hbox hg; have hnb40 := NB361_362.out; have hnc40 := NB362_361.out; have hcz41_0 := cz_ BK361 0 (.string a0_0); have hcz41_1 := cz_ BK361 1 (.int .i64 a0_1); have hcz41_2 := cz_ BK361 2 (.int .i64 a0_2); have hcz41_3 := cz_ BK361 3 (.int .i64 a0_3); have hcz41_4 := cz_ BK361 4 (.int .i64 a0_4); have hcz41_5 := cz_ BK361 5 (.slice A0_5 l0_5.length c0_5); have hcz41_6 := cz_ BK361 6 (.int .i64 a0_6); have hcz41_7 := cz_ BK361 7 (.int .i64 a0_7); have hcz41_8 := cz_ BK361 8 (.slice A0_8 l0_8.length c0_8); have hcz41_9 := cz_ BK361 9 (.slice A0_9 l0_9.length c0_9); have hcz41_10 := cz_ BK361 10 (.slice A0_10 l0_10.length c0_10); have hcz42_0 := cz_ BK362 0 (.string a1_0); have hcz42_1 := cz_ BK362 1 (.int .i64 a1_1); have hcz42_2 := cz_ BK362 2 (.int .i64 a1_2); have hcz42_3 := cz_ BK362 3 (.int .i64 a1_3); have hcz42_4 := cz_ BK362 4 (.int .i64 a1_4); have hcz42_5 := cz_ BK362 5 (.slice A1_5 l1_5.length c1_5); have hcz42_6 := cz_ BK362 6 (.int .i64 a1_6); have hcz42_7 := cz_ BK362 7 (.int .i64 a1_7); have hcz42_8 := cz_ BK362 8 (.slice A1_8 l1_8.length c1_8); have hcz42_9 := cz_ BK362 9 (.slice A1_9 l1_9.length c1_9); have hcz42_10 := cz_ BK362 10 (.slice A1_10 l1_10.length c1_10)) | ((with_reducible refine gate_callee (f := 78) rfl ?_); refine goesL_ (some 34) rfl rfl Try.func78 (by kernel_rfl) rfl #[.slice A0_5 l0_5.length c0_5, .slice A1_5 l1_5.length c1_5] rfl gl_ ?_; (with_reducible refine (laws_eqHoldS.calls k _ _ l0_5 _ _ l1_5 true _ ?side1 ?side2 ?side3 ?side4 A8.out).mono ?_); (case side1 => exact ca_ (Kd.C_below HR0_5.out HB.out)); (case side2 => exact HC0_5.out); (case side3 => exact ca_ (Kd.C_below HR1_5.out HB.out)); (case side4 => exact HC1_5.out); rintro e w43 ⟨rfl, hb⟩; refine ⟨_, rfl, ?_⟩; have n0_ := Aside0.mk (blk_below (bk_ BK361) hb); have n1_ := Aside0.mk (blk_below (bk_ BK362) hb); have n2_ := Aside0.mk (below_step bl_ hb); clear BK361; clear BK362; clear HB; have BK361 := n0_; have BK362 := n1_; have HB := n2_; clear n0_ n1_ n2_; (try clear hb); (try clear hb2); (try clear hk); (try clear hi); have hcz44_0 := cz_ BK361 0 (.string a0_0); have hcz44_1 := cz_ BK361 1 (.int .i64 a0_1); have hcz44_2 := cz_ BK361 2 (.int .i64 a0_2); have hcz44_3 := cz_ BK361 3 (.int .i64 a0_3); have hcz44_4 := cz_ BK361 4 (.int .i64 a0_4); have hcz44_5 := cz_ BK361 5 (.slice A0_5 l0_5.length c0_5); have hcz44_6 := cz_ BK361 6 (.int .i64 a0_6); have hcz44_7 := cz_ BK361 7 (.int .i64 a0_7); have hcz44_8 := cz_ BK361 8 (.slice A0_8 l0_8.length c0_8); have hcz44_9 := cz_ BK361 9 (.slice A0_9 l0_9.length c0_9); have hcz44_10 := cz_ BK361 10 (.slice A0_10 l0_10.length c0_10); have hcz45_0 := cz_ BK362 0 (.string a1_0); have hcz45_1 := cz_ BK362 1 (.int .i64 a1_1); have hcz45_2 := cz_ BK362 2 (.int .i64 a1_2); have hcz45_3 := cz_ BK362 3 (.int .i64 a1_3); have hcz45_4 := cz_ BK362 4 (.int .i64 a1_4); have hcz45_5 := cz_ BK362 5 (.slice A1_5 l1_5.length c1_5); have hcz45_6 := cz_ BK362 6 (.int .i64 a1_6); have hcz45_7 := cz_ BK362 7 (.int .i64 a1_7); have hcz45_8 := cz_ BK362 8 (.slice A1_8 l1_8.length c1_8); have hcz45_9 := cz_ BK362 9 (.slice A1_9 l1_9.length c1_9); have hcz45_10 := cz_ BK362 10 (.slice A1_10 l1_10.length c1_10)) | ((with_reducible refine gate_callee (f := 79) rfl ?_); refine goesL_ (some 40) rfl rfl Try.func79 (by kernel_rfl) rfl #[.agg #[.int .i64 a0_6, .int .i64 a0_7, .slice A0_8 l0_8.length c0_8, .slice A0_9 l0_9.length c0_9], .agg #[.int .i64 a1_6, .int .i64 a1_7, .slice A1_8 l1_8.length c1_8, .slice A1_9 l1_9.length c1_9]] rfl gl_ ?_; (with_reducible refine (laws_eqRing.calls k a0_6 a0_7 _ _ l0_8 _ _ l0_9 a1_6 a1_7 _ _ l1_8 _ _ l1_9 false _ ?side1 ?side2 ?side3 ?side4 ?side5 ?side6 ?side7 ?side8 A10.out).mono ?_); (case side1 => exact ca_ (Kd.C_below HR0_8.out HB.out)); (case side2 => exact HC0_8.out); (case side3 => exact ca_ (Kd.C_below HR0_9.out HB.out)); (case side4 => exact HC0_9.out); (case side5 => exact ca_ (Kd.C_below HR1_8.out HB.out)); (case side6 => exact HC1_8.out); (case side7 => exact ca_ (Kd.C_below HR1_9.out HB.out)); (case side8 => exact HC1_9.out); rintro e w46 ⟨rfl, hb⟩; refine ⟨_, rfl, ?_⟩; have n0_ := Aside0.mk (blk_below (bk_ BK361) hb); have n1_ := Aside0.mk (blk_below (bk_ BK362) hb); have n2_ := Aside0.mk (below_step bl_ hb); clear BK361; clear BK362; clear HB; have BK361 := n0_; have BK362 := n1_; have HB := n2_; clear n0_ n1_ n2_; (try clear hb); (try clear hb2); (try clear hk); (try clear hi)))
        go_ret
        exact ⟨sq_, bl_⟩
      ·replace c9 := Bool.eq_false_iff.mpr c9
       subst c9
       have H1 : (some false) = some r := by rw [if_neg (show ¬ (false = true) by decide)] at H; exact H
       clear H
       have H := H1
       clear H1
       obtain rfl := Option.some.inj H
       go_enter Try.func21, Try.ntmps21
       go_wp2_with (first | ((with_reducible refine gate_dst (N := 2) rfl ?_); refine box_event ?hg (N := 2) ?hd (cs := #[.string a0_0, .int .i64 a0_1, .int .i64 a0_2, .int .i64 a0_3, .int .i64 a0_4, .slice A0_5 l0_5.length c0_5, .int .i64 a0_6, .int .i64 a0_7, .slice A0_8 l0_8.length c0_8, .slice A0_9 l0_9.length c0_9, .slice A0_10 l0_10.length c0_10]) (t := 48) ?hr ?_; (case hd => rfl); (case hg => rfl); (case hr => first | (go_simp; done) | (go_simp; rfl)); intro gb361 hg w47 hbox hb; have n0_ := Aside0.mk (below_step bl_ hb); have n1_ := Aside0.mk (hbox); have n2_ := gw_ (w := w) hg; have n3_ := gw_ (w := w) hg; clear HB; have HB := n0_; have BK361 := n1_; have GW361 := n2_; have GE361 := n3_; clear n0_ n1_ n2_ n3_; clear hb hbox hg) | ((with_reducible refine gate_dst (N := 3) rfl ?_); refine box_event ?hg (N := 3) ?hd (cs := #[.string a1_0, .int .i64 a1_1, .int .i64 a1_2, .int .i64 a1_3, .int .i64 a1_4, .slice A1_5 l1_5.length c1_5, .int .i64 a1_6, .int .i64 a1_7, .slice A1_8 l1_8.length c1_8, .slice A1_9 l1_9.length c1_9, .slice A1_10 l1_10.length c1_10]) (t := 48) ?hr ?_; (case hd => rfl); (case hg => rfl); (case hr => first | (go_simp; done) | (go_simp; rfl)); intro gb362 hg w48 hbox hb; have n0_ := Aside0.mk (blk_below (bk_ BK361) hb); have n1_ := Aside0.mk (below_step bl_ hb); have n2_ := Aside0.mk (hbox); have n3_ := gw_ (w := w) hg; have n4_ := gw_ (w := w) hg; have n5_ := Aside0.mk ((by rw [hg]; exact Nat.ne_of_lt (blk_lt (bk_ BK361)) : gb361 ≠ gb362)); have n6_ := Aside0.mk ((by rw [hg]; exact Nat.ne_of_gt (blk_lt (bk_ BK361)) : gb362 ≠ gb361)); clear BK361; clear HB; have BK361 := n0_; have HB := n1_; have BK362 := n2_; have GW362 := n3_; have GE362 := n4_; have NB361_362 := n5_; have NB362_361 := n6_; clear n0_ n1_ n2_ n3_ n4_ n5_ n6_; clear hb hbox hg; have hnb49 := NB361_362.out; have hnc49 := NB362_361.out; have hcz50_0 := cz_ BK361 0 (.string a0_0); have hcz50_1 := cz_ BK361 1 (.int .i64 a0_1); have hcz50_2 := cz_ BK361 2 (.int .i64 a0_2); have hcz50_3 := cz_ BK361 3 (.int .i64 a0_3); have hcz50_4 := cz_ BK361 4 (.int .i64 a0_4); have hcz50_5 := cz_ BK361 5 (.slice A0_5 l0_5.length c0_5); have hcz50_6 := cz_ BK361 6 (.int .i64 a0_6); have hcz50_7 := cz_ BK361 7 (.int .i64 a0_7); have hcz50_8 := cz_ BK361 8 (.slice A0_8 l0_8.length c0_8); have hcz50_9 := cz_ BK361 9 (.slice A0_9 l0_9.length c0_9); have hcz50_10 := cz_ BK361 10 (.slice A0_10 l0_10.length c0_10); have hcz51_0 := cz_ BK362 0 (.string a1_0); have hcz51_1 := cz_ BK362 1 (.int .i64 a1_1); have hcz51_2 := cz_ BK362 2 (.int .i64 a1_2); have hcz51_3 := cz_ BK362 3 (.int .i64 a1_3); have hcz51_4 := cz_ BK362 4 (.int .i64 a1_4); have hcz51_5 := cz_ BK362 5 (.slice A1_5 l1_5.length c1_5); have hcz51_6 := cz_ BK362 6 (.int .i64 a1_6); have hcz51_7 := cz_ BK362 7 (.int .i64 a1_7); have hcz51_8 := cz_ BK362 8 (.slice A1_8 l1_8.length c1_8); have hcz51_9 := cz_ BK362 9 (.slice A1_9 l1_9.length c1_9); have hcz51_10 := cz_ BK362 10 (.slice A1_10 l1_10.length c1_10)) | ((with_reducible refine gate_callee (f := 78) rfl ?_); refine goesL_ (some 34) rfl rfl Try.func78 (by kernel_rfl) rfl #[.slice A0_5 l0_5.length c0_5, .slice A1_5 l1_5.length c1_5] rfl gl_ ?_; (with_reducible refine (laws_eqHoldS.calls k _ _ l0_5 _ _ l1_5 false _ ?side1 ?side2 ?side3 ?side4 A8.out).mono ?_); (case side1 => exact ca_ (Kd.C_below HR0_5.out HB.out)); (case side2 => exact HC0_5.out); (case side3 => exact ca_ (Kd.C_below HR1_5.out HB.out)); (case side4 => exact HC1_5.out); rintro e w52 ⟨rfl, hb⟩; refine ⟨_, rfl, ?_⟩; have n0_ := Aside0.mk (blk_below (bk_ BK361) hb); have n1_ := Aside0.mk (blk_below (bk_ BK362) hb); have n2_ := Aside0.mk (below_step bl_ hb); clear BK361; clear BK362; clear HB; have BK361 := n0_; have BK362 := n1_; have HB := n2_; clear n0_ n1_ n2_; (try clear hb); (try clear hb2); (try clear hk); (try clear hi)))
       go_ret
       exact ⟨sq_, bl_⟩
     ·rw [if_neg c7] at H
      have c7b0 : (a0_4 == a1_4) = false := beq_eq_false_iff_ne.mpr c7
      have c7b1 : (a0_4 != a1_4) = true := bne_iff_ne.mpr c7
      obtain rfl := Option.some.inj H
      go_enter Try.func21, Try.ntmps21
      go_wp2_with (first | ((with_reducible refine gate_dst (N := 2) rfl ?_); refine box_event ?hg (N := 2) ?hd (cs := #[.string a0_0, .int .i64 a0_1, .int .i64 a0_2, .int .i64 a0_3, .int .i64 a0_4, .slice A0_5 l0_5.length c0_5, .int .i64 a0_6, .int .i64 a0_7, .slice A0_8 l0_8.length c0_8, .slice A0_9 l0_9.length c0_9, .slice A0_10 l0_10.length c0_10]) (t := 48) ?hr ?_; (case hd => rfl); (case hg => rfl); (case hr => first | (go_simp; done) | (go_simp; rfl)); intro gb361 hg w53 hbox hb; have n0_ := Aside0.mk (below_step bl_ hb); have n1_ := Aside0.mk (hbox); have n2_ := gw_ (w := w) hg; have n3_ := gw_ (w := w) hg; clear HB; have HB := n0_; have BK361 := n1_; have GW361 := n2_; have GE361 := n3_; clear n0_ n1_ n2_ n3_; clear hb hbox hg) | ((with_reducible refine gate_dst (N := 3) rfl ?_); refine box_event ?hg (N := 3) ?hd (cs := #[.string a1_0, .int .i64 a1_1, .int .i64 a1_2, .int .i64 a1_3, .int .i64 a1_4, .slice A1_5 l1_5.length c1_5, .int .i64 a1_6, .int .i64 a1_7, .slice A1_8 l1_8.length c1_8, .slice A1_9 l1_9.length c1_9, .slice A1_10 l1_10.length c1_10]) (t := 48) ?hr ?_; (case hd => rfl); (case hg => rfl); (case hr => first | (go_simp; done) | (go_simp; rfl)); intro gb362 hg w54 hbox hb; have n0_ := Aside0.mk (blk_below (bk_ BK361) hb); have n1_ := Aside0.mk (below_step bl_ hb); have n2_ := Aside0.mk (hbox); have n3_ := gw_ (w := w) hg; have n4_ := gw_ (w := w) hg; have n5_ := Aside0.mk ((by rw [hg]; exact Nat.ne_of_lt (blk_lt (bk_ BK361)) : gb361 ≠ gb362)); have n6_ := Aside0.mk ((by rw [hg]; exact Nat.ne_of_gt (blk_lt (bk_ BK361)) : gb362 ≠ gb361)); clear BK361; clear HB; have BK361 := n0_; have HB := n1_; have BK362 := n2_; have GW362 := n3_; have GE362 := n4_; have NB361_362 := n5_; have NB362_361 := n6_; clear n0_ n1_ n2_ n3_ n4_ n5_ n6_; clear hb hbox hg; have hnb55 := NB361_362.out; have hnc55 := NB362_361.out; have hcz56_0 := cz_ BK361 0 (.string a0_0); have hcz56_1 := cz_ BK361 1 (.int .i64 a0_1); have hcz56_2 := cz_ BK361 2 (.int .i64 a0_2); have hcz56_3 := cz_ BK361 3 (.int .i64 a0_3); have hcz56_4 := cz_ BK361 4 (.int .i64 a0_4); have hcz56_5 := cz_ BK361 5 (.slice A0_5 l0_5.length c0_5); have hcz56_6 := cz_ BK361 6 (.int .i64 a0_6); have hcz56_7 := cz_ BK361 7 (.int .i64 a0_7); have hcz56_8 := cz_ BK361 8 (.slice A0_8 l0_8.length c0_8); have hcz56_9 := cz_ BK361 9 (.slice A0_9 l0_9.length c0_9); have hcz56_10 := cz_ BK361 10 (.slice A0_10 l0_10.length c0_10); have hcz57_0 := cz_ BK362 0 (.string a1_0); have hcz57_1 := cz_ BK362 1 (.int .i64 a1_1); have hcz57_2 := cz_ BK362 2 (.int .i64 a1_2); have hcz57_3 := cz_ BK362 3 (.int .i64 a1_3); have hcz57_4 := cz_ BK362 4 (.int .i64 a1_4); have hcz57_5 := cz_ BK362 5 (.slice A1_5 l1_5.length c1_5); have hcz57_6 := cz_ BK362 6 (.int .i64 a1_6); have hcz57_7 := cz_ BK362 7 (.int .i64 a1_7); have hcz57_8 := cz_ BK362 8 (.slice A1_8 l1_8.length c1_8); have hcz57_9 := cz_ BK362 9 (.slice A1_9 l1_9.length c1_9); have hcz57_10 := cz_ BK362 10 (.slice A1_10 l1_10.length c1_10)))
      go_ret
      exact ⟨sq_, bl_⟩
    ·rw [if_neg c6] at H
     have c6b0 : (a0_3 == a1_3) = false := beq_eq_false_iff_ne.mpr c6
     have c6b1 : (a0_3 != a1_3) = true := bne_iff_ne.mpr c6
     obtain rfl := Option.some.inj H
     go_enter Try.func21, Try.ntmps21
     go_wp2_with (first | ((with_reducible refine gate_dst (N := 2) rfl ?_); refine box_event ?hg (N := 2) ?hd (cs := #[.string a0_0, .int .i64 a0_1, .int .i64 a0_2, .int .i64 a0_3, .int .i64 a0_4, .slice A0_5 l0_5.length c0_5, .int .i64 a0_6, .int .i64 a0_7, .slice A0_8 l0_8.length c0_8, .slice A0_9 l0_9.length c0_9, .slice A0_10 l0_10.length c0_10]) (t := 48) ?hr ?_; (case hd => rfl); (case hg => rfl); (case hr => first | (go_simp; done) | (go_simp; rfl)); intro gb361 hg w58 hbox hb; have n0_ := Aside0.mk (below_step bl_ hb); have n1_ := Aside0.mk (hbox); have n2_ := gw_ (w := w) hg; have n3_ := gw_ (w := w) hg; clear HB; have HB := n0_; have BK361 := n1_; have GW361 := n2_; have GE361 := n3_; clear n0_ n1_ n2_ n3_; clear hb hbox hg) | ((with_reducible refine gate_dst (N := 3) rfl ?_); refine box_event ?hg (N := 3) ?hd (cs := #[.string a1_0, .int .i64 a1_1, .int .i64 a1_2, .int .i64 a1_3, .int .i64 a1_4, .slice A1_5 l1_5.length c1_5, .int .i64 a1_6, .int .i64 a1_7, .slice A1_8 l1_8.length c1_8, .slice A1_9 l1_9.length c1_9, .slice A1_10 l1_10.length c1_10]) (t := 48) ?hr ?_; (case hd => rfl); (case hg => rfl); (case hr => first | (go_simp; done) | (go_simp; rfl)); intro gb362 hg w59 hbox hb; have n0_ := Aside0.mk (blk_below (bk_ BK361) hb); have n1_ := Aside0.mk (below_step bl_ hb); have n2_ := Aside0.mk (hbox); have n3_ := gw_ (w := w) hg; have n4_ := gw_ (w := w) hg; have n5_ := Aside0.mk ((by rw [hg]; exact Nat.ne_of_lt (blk_lt (bk_ BK361)) : gb361 ≠ gb362)); have n6_ := Aside0.mk ((by rw [hg]; exact Nat.ne_of_gt (blk_lt (bk_ BK361)) : gb362 ≠ gb361)); clear BK361; clear HB; have BK361 := n0_; have HB := n1_; have BK362 := n2_; have GW362 := n3_; have GE362 := n4_; have NB361_362 := n5_; have NB362_361 := n6_; clear n0_ n1_ n2_ n3_ n4_ n5_ n6_; clear hb hbox hg; have hnb60 := NB361_362.out; have hnc60 := NB362_361.out; have hcz61_0 := cz_ BK361 0 (.string a0_0); have hcz61_1 := cz_ BK361 1 (.int .i64 a0_1); have hcz61_2 := cz_ BK361 2 (.int .i64 a0_2); have hcz61_3 := cz_ BK361 3 (.int .i64 a0_3); have hcz61_4 := cz_ BK361 4 (.int .i64 a0_4); have hcz61_5 := cz_ BK361 5 (.slice A0_5 l0_5.length c0_5); have hcz61_6 := cz_ BK361 6 (.int .i64 a0_6); have hcz61_7 := cz_ BK361 7 (.int .i64 a0_7); have hcz61_8 := cz_ BK361 8 (.slice A0_8 l0_8.length c0_8); have hcz61_9 := cz_ BK361 9 (.slice A0_9 l0_9.length c0_9); have hcz61_10 := cz_ BK361 10 (.slice A0_10 l0_10.length c0_10); have hcz62_0 := cz_ BK362 0 (.string a1_0); have hcz62_1 := cz_ BK362 1 (.int .i64 a1_1); have hcz62_2 := cz_ BK362 2 (.int .i64 a1_2); have hcz62_3 := cz_ BK362 3 (.int .i64 a1_3); have hcz62_4 := cz_ BK362 4 (.int .i64 a1_4); have hcz62_5 := cz_ BK362 5 (.slice A1_5 l1_5.length c1_5); have hcz62_6 := cz_ BK362 6 (.int .i64 a1_6); have hcz62_7 := cz_ BK362 7 (.int .i64 a1_7); have hcz62_8 := cz_ BK362 8 (.slice A1_8 l1_8.length c1_8); have hcz62_9 := cz_ BK362 9 (.slice A1_9 l1_9.length c1_9); have hcz62_10 := cz_ BK362 10 (.slice A1_10 l1_10.length c1_10)))
     go_ret
     exact ⟨sq_, bl_⟩
   ·rw [if_neg c5] at H
    have c5b0 : (a0_2 == a1_2) = false := beq_eq_false_iff_ne.mpr c5
    have c5b1 : (a0_2 != a1_2) = true := bne_iff_ne.mpr c5
    obtain rfl := Option.some.inj H
    go_enter Try.func21, Try.ntmps21
    go_wp2_with (first | ((with_reducible refine gate_dst (N := 2) rfl ?_); refine box_event ?hg (N := 2) ?hd (cs := #[.string a0_0, .int .i64 a0_1, .int .i64 a0_2, .int .i64 a0_3, .int .i64 a0_4, .slice A0_5 l0_5.length c0_5, .int .i64 a0_6, .int .i64 a0_7, .slice A0_8 l0_8.length c0_8, .slice A0_9 l0_9.length c0_9, .slice A0_10 l0_10.length c0_10]) (t := 48) ?hr ?_; (case hd => rfl); (case hg => rfl); (case hr => first | (go_simp; done) | (go_simp; rfl)); intro gb361 hg w63 hbox hb; have n0_ := Aside0.mk (below_step bl_ hb); have n1_ := Aside0.mk (hbox); have n2_ := gw_ (w := w) hg; have n3_ := gw_ (w := w) hg; clear HB; have HB := n0_; have BK361 := n1_; have GW361 := n2_; have GE361 := n3_; clear n0_ n1_ n2_ n3_; clear hb hbox hg) | ((with_reducible refine gate_dst (N := 3) rfl ?_); refine box_event ?hg (N := 3) ?hd (cs := #[.string a1_0, .int .i64 a1_1, .int .i64 a1_2, .int .i64 a1_3, .int .i64 a1_4, .slice A1_5 l1_5.length c1_5, .int .i64 a1_6, .int .i64 a1_7, .slice A1_8 l1_8.length c1_8, .slice A1_9 l1_9.length c1_9, .slice A1_10 l1_10.length c1_10]) (t := 48) ?hr ?_; (case hd => rfl); (case hg => rfl); (case hr => first | (go_simp; done) | (go_simp; rfl)); intro gb362 hg w64 hbox hb; have n0_ := Aside0.mk (blk_below (bk_ BK361) hb); have n1_ := Aside0.mk (below_step bl_ hb); have n2_ := Aside0.mk (hbox); have n3_ := gw_ (w := w) hg; have n4_ := gw_ (w := w) hg; have n5_ := Aside0.mk ((by rw [hg]; exact Nat.ne_of_lt (blk_lt (bk_ BK361)) : gb361 ≠ gb362)); have n6_ := Aside0.mk ((by rw [hg]; exact Nat.ne_of_gt (blk_lt (bk_ BK361)) : gb362 ≠ gb361)); clear BK361; clear HB; have BK361 := n0_; have HB := n1_; have BK362 := n2_; have GW362 := n3_; have GE362 := n4_; have NB361_362 := n5_; have NB362_361 := n6_; clear n0_ n1_ n2_ n3_ n4_ n5_ n6_; clear hb hbox hg; have hnb65 := NB361_362.out; have hnc65 := NB362_361.out; have hcz66_0 := cz_ BK361 0 (.string a0_0); have hcz66_1 := cz_ BK361 1 (.int .i64 a0_1); have hcz66_2 := cz_ BK361 2 (.int .i64 a0_2); have hcz66_3 := cz_ BK361 3 (.int .i64 a0_3); have hcz66_4 := cz_ BK361 4 (.int .i64 a0_4); have hcz66_5 := cz_ BK361 5 (.slice A0_5 l0_5.length c0_5); have hcz66_6 := cz_ BK361 6 (.int .i64 a0_6); have hcz66_7 := cz_ BK361 7 (.int .i64 a0_7); have hcz66_8 := cz_ BK361 8 (.slice A0_8 l0_8.length c0_8); have hcz66_9 := cz_ BK361 9 (.slice A0_9 l0_9.length c0_9); have hcz66_10 := cz_ BK361 10 (.slice A0_10 l0_10.length c0_10); have hcz67_0 := cz_ BK362 0 (.string a1_0); have hcz67_1 := cz_ BK362 1 (.int .i64 a1_1); have hcz67_2 := cz_ BK362 2 (.int .i64 a1_2); have hcz67_3 := cz_ BK362 3 (.int .i64 a1_3); have hcz67_4 := cz_ BK362 4 (.int .i64 a1_4); have hcz67_5 := cz_ BK362 5 (.slice A1_5 l1_5.length c1_5); have hcz67_6 := cz_ BK362 6 (.int .i64 a1_6); have hcz67_7 := cz_ BK362 7 (.int .i64 a1_7); have hcz67_8 := cz_ BK362 8 (.slice A1_8 l1_8.length c1_8); have hcz67_9 := cz_ BK362 9 (.slice A1_9 l1_9.length c1_9); have hcz67_10 := cz_ BK362 10 (.slice A1_10 l1_10.length c1_10)))
    go_ret
    exact ⟨sq_, bl_⟩
  ·rw [if_neg c4] at H
   have c4b0 : (a0_1 == a1_1) = false := beq_eq_false_iff_ne.mpr c4
   have c4b1 : (a0_1 != a1_1) = true := bne_iff_ne.mpr c4
   obtain rfl := Option.some.inj H
   go_enter Try.func21, Try.ntmps21
   go_wp2_with (first | ((with_reducible refine gate_dst (N := 2) rfl ?_); refine box_event ?hg (N := 2) ?hd (cs := #[.string a0_0, .int .i64 a0_1, .int .i64 a0_2, .int .i64 a0_3, .int .i64 a0_4, .slice A0_5 l0_5.length c0_5, .int .i64 a0_6, .int .i64 a0_7, .slice A0_8 l0_8.length c0_8, .slice A0_9 l0_9.length c0_9, .slice A0_10 l0_10.length c0_10]) (t := 48) ?hr ?_; (case hd => rfl); (case hg => rfl); (case hr => first | (go_simp; done) | (go_simp; rfl)); intro gb361 hg w68 hbox hb; have n0_ := Aside0.mk (below_step bl_ hb); have n1_ := Aside0.mk (hbox); have n2_ := gw_ (w := w) hg; have n3_ := gw_ (w := w) hg; clear HB; have HB := n0_; have BK361 := n1_; have GW361 := n2_; have GE361 := n3_; clear n0_ n1_ n2_ n3_; clear hb hbox hg) | ((with_reducible refine gate_dst (N := 3) rfl ?_); refine box_event ?hg (N := 3) ?hd (cs := #[.string a1_0, .int .i64 a1_1, .int .i64 a1_2, .int .i64 a1_3, .int .i64 a1_4, .slice A1_5 l1_5.length c1_5, .int .i64 a1_6, .int .i64 a1_7, .slice A1_8 l1_8.length c1_8, .slice A1_9 l1_9.length c1_9, .slice A1_10 l1_10.length c1_10]) (t := 48) ?hr ?_; (case hd => rfl); (case hg => rfl); (case hr => first | (go_simp; done) | (go_simp; rfl)); intro gb362 hg w69 hbox hb; have n0_ := Aside0.mk (blk_below (bk_ BK361) hb); have n1_ := Aside0.mk (below_step bl_ hb); have n2_ := Aside0.mk (hbox); have n3_ := gw_ (w := w) hg; have n4_ := gw_ (w := w) hg; have n5_ := Aside0.mk ((by rw [hg]; exact Nat.ne_of_lt (blk_lt (bk_ BK361)) : gb361 ≠ gb362)); have n6_ := Aside0.mk ((by rw [hg]; exact Nat.ne_of_gt (blk_lt (bk_ BK361)) : gb362 ≠ gb361)); clear BK361; clear HB; have BK361 := n0_; have HB := n1_; have BK362 := n2_; have GW362 := n3_; have GE362 := n4_; have NB361_362 := n5_; have NB362_361 := n6_; clear n0_ n1_ n2_ n3_ n4_ n5_ n6_; clear hb hbox hg; have hnb70 := NB361_362.out; have hnc70 := NB362_361.out; have hcz71_0 := cz_ BK361 0 (.string a0_0); have hcz71_1 := cz_ BK361 1 (.int .i64 a0_1); have hcz71_2 := cz_ BK361 2 (.int .i64 a0_2); have hcz71_3 := cz_ BK361 3 (.int .i64 a0_3); have hcz71_4 := cz_ BK361 4 (.int .i64 a0_4); have hcz71_5 := cz_ BK361 5 (.slice A0_5 l0_5.length c0_5); have hcz71_6 := cz_ BK361 6 (.int .i64 a0_6); have hcz71_7 := cz_ BK361 7 (.int .i64 a0_7); have hcz71_8 := cz_ BK361 8 (.slice A0_8 l0_8.length c0_8); have hcz71_9 := cz_ BK361 9 (.slice A0_9 l0_9.length c0_9); have hcz71_10 := cz_ BK361 10 (.slice A0_10 l0_10.length c0_10); have hcz72_0 := cz_ BK362 0 (.string a1_0); have hcz72_1 := cz_ BK362 1 (.int .i64 a1_1); have hcz72_2 := cz_ BK362 2 (.int .i64 a1_2); have hcz72_3 := cz_ BK362 3 (.int .i64 a1_3); have hcz72_4 := cz_ BK362 4 (.int .i64 a1_4); have hcz72_5 := cz_ BK362 5 (.slice A1_5 l1_5.length c1_5); have hcz72_6 := cz_ BK362 6 (.int .i64 a1_6); have hcz72_7 := cz_ BK362 7 (.int .i64 a1_7); have hcz72_8 := cz_ BK362 8 (.slice A1_8 l1_8.length c1_8); have hcz72_9 := cz_ BK362 9 (.slice A1_9 l1_9.length c1_9); have hcz72_10 := cz_ BK362 10 (.slice A1_10 l1_10.length c1_10)))
   go_ret
   exact ⟨sq_, bl_⟩
 ·rw [if_neg c3] at H
  have c3b0 : (a0_0.toList == a1_0.toList) = false := beq_eq_false_iff_ne.mpr c3
  have c3b1 : (a0_0.toList != a1_0.toList) = true := bne_iff_ne.mpr c3
  obtain rfl := Option.some.inj H
  go_enter Try.func21, Try.ntmps21
  go_wp2_with (first | ((with_reducible refine gate_dst (N := 2) rfl ?_); refine box_event ?hg (N := 2) ?hd (cs := #[.string a0_0, .int .i64 a0_1, .int .i64 a0_2, .int .i64 a0_3, .int .i64 a0_4, .slice A0_5 l0_5.length c0_5, .int .i64 a0_6, .int .i64 a0_7, .slice A0_8 l0_8.length c0_8, .slice A0_9 l0_9.length c0_9, .slice A0_10 l0_10.length c0_10]) (t := 48) ?hr ?_; (case hd => rfl); (case hg => rfl); (case hr => first | (go_simp; done) | (go_simp; rfl)); intro gb361 hg w73 hbox hb; have n0_ := Aside0.mk (below_step bl_ hb); have n1_ := Aside0.mk (hbox); have n2_ := gw_ (w := w) hg; have n3_ := gw_ (w := w) hg; clear HB; have HB := n0_; have BK361 := n1_; have GW361 := n2_; have GE361 := n3_; clear n0_ n1_ n2_ n3_; clear hb hbox hg) | ((with_reducible refine gate_dst (N := 3) rfl ?_); refine box_event ?hg (N := 3) ?hd (cs := #[.string a1_0, .int .i64 a1_1, .int .i64 a1_2, .int .i64 a1_3, .int .i64 a1_4, .slice A1_5 l1_5.length c1_5, .int .i64 a1_6, .int .i64 a1_7, .slice A1_8 l1_8.length c1_8, .slice A1_9 l1_9.length c1_9, .slice A1_10 l1_10.length c1_10]) (t := 48) ?hr ?_; (case hd => rfl); (case hg => rfl); (case hr => first | (go_simp; done) | (go_simp; rfl)); intro gb362 hg w74 hbox hb; have n0_ := Aside0.mk (blk_below (bk_ BK361) hb); have n1_ := Aside0.mk (below_step bl_ hb); have n2_ := Aside0.mk (hbox); have n3_ := gw_ (w := w) hg; have n4_ := gw_ (w := w) hg; have n5_ := Aside0.mk ((by rw [hg]; exact Nat.ne_of_lt (blk_lt (bk_ BK361)) : gb361 ≠ gb362)); have n6_ := Aside0.mk ((by rw [hg]; exact Nat.ne_of_gt (blk_lt (bk_ BK361)) : gb362 ≠ gb361)); clear BK361; clear HB; have BK361 := n0_; have HB := n1_; have BK362 := n2_; have GW362 := n3_; have GE362 := n4_; have NB361_362 := n5_; have NB362_361 := n6_; clear n0_ n1_ n2_ n3_ n4_ n5_ n6_; clear hb hbox hg; have hnb75 := NB361_362.out; have hnc75 := NB362_361.out; have hcz76_0 := cz_ BK361 0 (.string a0_0); have hcz76_1 := cz_ BK361 1 (.int .i64 a0_1); have hcz76_2 := cz_ BK361 2 (.int .i64 a0_2); have hcz76_3 := cz_ BK361 3 (.int .i64 a0_3); have hcz76_4 := cz_ BK361 4 (.int .i64 a0_4); have hcz76_5 := cz_ BK361 5 (.slice A0_5 l0_5.length c0_5); have hcz76_6 := cz_ BK361 6 (.int .i64 a0_6); have hcz76_7 := cz_ BK361 7 (.int .i64 a0_7); have hcz76_8 := cz_ BK361 8 (.slice A0_8 l0_8.length c0_8); have hcz76_9 := cz_ BK361 9 (.slice A0_9 l0_9.length c0_9); have hcz76_10 := cz_ BK361 10 (.slice A0_10 l0_10.length c0_10); have hcz77_0 := cz_ BK362 0 (.string a1_0); have hcz77_1 := cz_ BK362 1 (.int .i64 a1_1); have hcz77_2 := cz_ BK362 2 (.int .i64 a1_2); have hcz77_3 := cz_ BK362 3 (.int .i64 a1_3); have hcz77_4 := cz_ BK362 4 (.int .i64 a1_4); have hcz77_5 := cz_ BK362 5 (.slice A1_5 l1_5.length c1_5); have hcz77_6 := cz_ BK362 6 (.int .i64 a1_6); have hcz77_7 := cz_ BK362 7 (.int .i64 a1_7); have hcz77_8 := cz_ BK362 8 (.slice A1_8 l1_8.length c1_8); have hcz77_9 := cz_ BK362 9 (.slice A1_9 l1_9.length c1_9); have hcz77_10 := cz_ BK362 10 (.slice A1_10 l1_10.length c1_10)))
  go_ret
  exact ⟨sq_, bl_⟩
end Go.Proofs.Ytgcggfoailaalaa.QFnExactBookOk
