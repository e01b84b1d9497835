-- by my own printer (myprint.py, over the kit's print.py)
import Derived.Test.YtepjnalkpfnmcaaQFnExactRoomx0
import Derived.Test.YtepjnalkpfnmcaaQFnExactRoomx7
namespace Go.Proofs.Ytepjnalkpfnmcaa.QFnExactRoom
open Go.RowKit Go.Proofs.YtepjnalkpfnmcaaW.PrintWords Go.Proofs.YtepjnalkpfnmcaaW.PrintLast Go.Proofs.YtepjnalkpfnmcaaW.PrintMore
attribute [local go_sem] max2_int min2_int max_two min_two max_three min_three max_four min_four   -- for this text's walks alone
set_option linter.unusedVariables false
set_option linter.unusedSimpArgs false

attribute [local go_sem] my_geq my_leq my_gtr
/-! ### laws_toAcct: function 28 -/
def laws_toAcct.f (k : Nat) (a0_0 : ByteArray) (a0_1 : Int) (a0_2 : Int) (a0_3 : Int) (a0_4 : Int) (l0_5 : List (S89)) (a0_6 : Int) (a0_7 : Int) (l0_8 : List Int) (l0_9 : List Int) (l0_10 : List (S70)) : Option (ByteArray × Int × Int × Int × Int × (List (S93)) × Int × Int × List Int × List Int × (List (S74))) := (laws_toHoldS.f k l0_5).bind fun t237 => ((laws_toRing.f k a0_6 a0_7 l0_8 l0_9).bind fun bt240 => ((laws_toSlotS.f k l0_10).bind fun t248 => (some (a0_0, a0_1, a0_2, a0_3, a0_4, t237, bt240.1, bt240.2.1, bt240.2.2.1, bt240.2.2.2, t248))))
theorem laws_toAcct.mono : ∀ a0 a1 a2 a3 a4 a5 a6 a7 a8 a9 a10 k, LeO (laws_toAcct.f k a0 a1 a2 a3 a4 a5 a6 a7 a8 a9 a10) (laws_toAcct.f (k + 1) a0 a1 a2 a3 a4 a5 a6 a7 a8 a9 a10) := by
 intro a0 a1 a2 a3 a4 a5 a6 a7 a8 a9 a10 k
 unfold laws_toAcct.f
 repeat' first
   | (with_reducible exact laws_toHoldS.mono _ _)
   | (with_reducible exact laws_toRing.mono _ _ _ _ _)
   | (with_reducible exact laws_toSlotS.mono _ _)
   | (with_reducible exact LeO.refl _)
   | (with_reducible exact LeO.none _)
   | (with_reducible refine LeO.ite ?_ ?_)
   | (with_reducible refine LeO.bind ?_ (fun _ => ?_))
   | exact laws_toHoldS.mono _ _
   | exact laws_toRing.mono _ _ _ _ _
   | exact laws_toSlotS.mono _ _
   | exact LeO.none _
   | refine LeO.ite ?_ ?_
   | refine LeO.bind ?_ (fun _ => ?_)
set_option maxHeartbeats 8000000 in
set_option maxRecDepth 100000 in
theorem laws_toAcct.calls (k : Nat) (a0_0 : ByteArray) (a0_1 : Int) (a0_2 : Int) (a0_3 : Int) (a0_4 : Int) (A0_5 : Option Addr) (c0_5 : Nat) (l0_5 : List (S89)) (a0_6 : Int) (a0_7 : Int) (A0_8 : Option Addr) (c0_8 : Nat) (l0_8 : List Int) (A0_9 : Option Addr) (c0_9 : Nat) (l0_9 : List Int) (A0_10 : Option Addr) (c0_10 : Nat) (l0_10 : List (S70)) (r1 : ByteArray) (r2 : Int) (r3 : Int) (r4 : Int) (r5 : Int) (r6 : List (S93)) (r7 : Int) (r8 : Int) (r9 : List Int) (r10 : List Int) (r11 : List (S74)) (w : World) (hr0_5 : Kd.C k89 w A0_5 l0_5.length l0_5) (hc0_5 : l0_5.length ≤ c0_5) (hr0_8 : Kd.C (Kd.int .i64) w A0_8 l0_8.length l0_8) (hc0_8 : l0_8.length ≤ c0_8) (hr0_9 : Kd.C (Kd.int .i64) w A0_9 l0_9.length l0_9) (hc0_9 : l0_9.length ≤ c0_9) (hr0_10 : Kd.C k70 w A0_10 l0_10.length l0_10) (hc0_10 : l0_10.length ≤ c0_10) (h : laws_toAcct.f k a0_0 a0_1 a0_2 a0_3 a0_4 l0_5 a0_6 a0_7 l0_8 l0_9 l0_10 = some (r1, r2, r3, r4, r5, r6, r7, r8, r9, r10, r11)) :
  Calls Try.prog 28 #[.agg #[.string a0_0, .int .i64 a0_1, .int .i64 a0_2, .int .i64 a0_3, .int .i64 a0_4, .slice A0_5 l0_5.length c0_5, .int .i64 a0_6, .int .i64 a0_7, .slice A0_8 l0_8.length c0_8, .slice A0_9 l0_9.length c0_9, .slice A0_10 l0_10.length c0_10]] w fun e w' => ∃ v5_ v8_ v9_ v10_ : Value, e = .returned (.agg #[.string r1, .int .i64 r2, .int .i64 r3, .int .i64 r4, .int .i64 r5, v5_, .int .i64 r7, .int .i64 r8, v8_, v9_, v10_]) ∧ Kd.R k93 93 w' w.heap.size (fun _ => True) v5_ r6 ∧ Kd.R (Kd.int .i64) 3 w' w.heap.size (fun k_ => some k_ ≠ (v9_ : Value).ownBlock) v8_ r9 ∧ Kd.R (Kd.int .i64) 3 w' w.heap.size (fun k_ => some k_ ≠ (v8_ : Value).ownBlock) v9_ r10 ∧ Kd.S k74 74 w' w.heap.size (fun _ => True) v10_ r11 ∧ Below w.heap.size w w' := by
 have hu37 := Try.underlying37
 have hu43 := Try.underlying43
 have hu34 := Try.underlying34
 have hu40 := Try.underlying40
 have HR0_5 := Aside0.mk hr0_5
 have HC0_5 := Aside0.mk hc0_5
 clear hr0_5 hc0_5
 have HR0_8 := Aside0.mk hr0_8
 have HC0_8 := Aside0.mk hc0_8
 clear hr0_8 hc0_8
 have HR0_9 := Aside0.mk hr0_9
 have HC0_9 := Aside0.mk hc0_9
 clear hr0_9 hc0_9
 have HR0_10 := Aside0.mk hr0_10
 have HC0_10 := Aside0.mk hc0_10
 clear hr0_10 hc0_10
 have HB := Aside0.mk (Below.refl w.heap.size w)
 have H : ((laws_toHoldS.f k l0_5).bind fun t237 => ((laws_toRing.f k a0_6 a0_7 l0_8 l0_9).bind fun bt240 => ((laws_toSlotS.f k l0_10).bind fun t248 => (some (a0_0, a0_1, a0_2, a0_3, a0_4, t237, bt240.1, bt240.2.1, bt240.2.2.1, bt240.2.2.2, t248))))) = some (r1, r2, r3, r4, r5, r6, r7, r8, r9, r10, r11) := h
 clear h
 replace H := Option.bind_eq_some_iff.mp H
 obtain ⟨t237, A20, H⟩ := H
 replace H : ((laws_toRing.f k a0_6 a0_7 l0_8 l0_9).bind fun bt240 => ((laws_toSlotS.f k l0_10).bind fun t248 => (some (a0_0, a0_1, a0_2, a0_3, a0_4, t237, bt240.1, bt240.2.1, bt240.2.2.1, bt240.2.2.2, t248)))) = some (r1, r2, r3, r4, r5, r6, r7, r8, r9, r10, r11) := H
 have A2 := Aside0.mk A20
 clear A20
 replace H := Option.bind_eq_some_iff.mp H
 obtain ⟨⟨t240, t241, t242, t245⟩, A30, H⟩ := H
 replace H : ((laws_toSlotS.f k l0_10).bind fun t248 => (some (a0_0, a0_1, a0_2, a0_3, a0_4, t237, t240, t241, t242, t245, t248))) = some (r1, r2, r3, r4, r5, r6, r7, r8, r9, r10, r11) := H
 have A3 := Aside0.mk A30
 clear A30
 replace H := Option.bind_eq_some_iff.mp H
 obtain ⟨t248, A40, H⟩ := H
 replace H : (some (a0_0, a0_1, a0_2, a0_3, a0_4, t237, t240, t241, t242, t245, t248)) = some (r1, r2, r3, r4, r5, r6, r7, r8, r9, r10, r11) := H
 have A4 := Aside0.mk A40
 clear A40
 simp only [Option.some.injEq, Prod.mk.injEq] at H
 obtain ⟨rfl, rfl, rfl, rfl, rfl, rfl, rfl, rfl, rfl, rfl, rfl⟩ := H
 go_enter Try.func28, Try.ntmps28
 go_wp2_with (first | ((with_reducible refine gate_dst (N := 1) rfl ?_); refine box_event ?hg (N := 1) ?hd (cs := #[.string a0_0, .int .i64 a0_1, .int .i64 a0_2, .int .i64 a0_3, .int .i64 a0_4, .slice A0_5 l0_5.length c0_5, .int .i64 a0_6, .int .i64 a0_7, .slice A0_8 l0_8.length c0_8, .slice A0_9 l0_9.length c0_9, .slice A0_10 l0_10.length c0_10]) (t := 37) ?hr ?_; (case hd => rfl); (case hg => rfl); (case hr => first | (go_simp; done) | (go_simp; rfl)); intro gb234 hg w5 hbox hb; have n0_ := Aside0.mk (below_step bl_ hb); have n1_ := Aside0.mk (hbox); have n2_ := gw_ (w := w) hg; have n3_ := gw_ (w := w) hg; clear HB; have HB := n0_; have BK234 := n1_; have GW234 := n2_; have GE234 := n3_; clear n0_ n1_ n2_ n3_; clear hb hbox hg) | ((with_reducible refine gate_dst (N := 2) rfl ?_); refine box_event ?hg (N := 2) ?hd (cs := #[.string (⟨#[]⟩ : ByteArray), .int .i64 0, .int .i64 0, .int .i64 0, .int .i64 0, .slice none 0 0, .int .i64 0, .int .i64 0, .slice none 0 0, .slice none 0 0, .slice none 0 0]) (t := 43) ?hr ?_; (case hd => rfl); (case hg => rfl); (case hr => first | (go_simp; done) | (go_simp; rfl)); intro gb235 hg w6 hbox hb; have n0_ := Aside0.mk (blk_below (bk_ BK234) hb); have n1_ := Aside0.mk (below_step bl_ hb); have n2_ := Aside0.mk (hbox); have n3_ := gw_ (w := w) hg; have n4_ := gw_ (w := w) hg; have n5_ := Aside0.mk ((by rw [hg]; exact Nat.ne_of_lt (blk_lt (bk_ BK234)) : gb234 ≠ gb235)); have n6_ := Aside0.mk ((by rw [hg]; exact Nat.ne_of_gt (blk_lt (bk_ BK234)) : gb235 ≠ gb234)); clear BK234; clear HB; have BK234 := n0_; have HB := n1_; have BK235 := n2_; have GW235 := n3_; have GE235 := n4_; have NB234_235 := n5_; have NB235_234 := n6_; clear n0_ n1_ n2_ n3_ n4_ n5_ n6_; clear hb hbox hg) | ((with_reducible refine gate_dst (N := 3) rfl ?_); refine box_event ?hg (N := 3) ?hd (cs := #[.string (⟨#[]⟩ : ByteArray), .int .i64 0, .int .i64 0, .int .i64 0, .int .i64 0, .slice none 0 0, .int .i64 0, .int .i64 0, .slice none 0 0, .slice none 0 0, .slice none 0 0]) (t := 43) ?hr ?_; (case hd => rfl); (case hg => rfl); (case hr => first | (go_simp; done) | (go_simp; rfl)); intro gb236 hg w7 hbox hb; have n0_ := Aside0.mk (blk_below (bk_ BK234) hb); have n1_ := Aside0.mk (blk_below (bk_ BK235) hb); have n2_ := Aside0.mk (below_step bl_ hb); have n3_ := Aside0.mk (hbox); have n4_ := gw_ (w := w) hg; have n5_ := gw_ (w := w) hg; have n6_ := Aside0.mk ((by rw [hg]; exact Nat.ne_of_lt (blk_lt (bk_ BK234)) : gb234 ≠ gb236)); have n7_ := Aside0.mk ((by rw [hg]; exact Nat.ne_of_gt (blk_lt (bk_ BK234)) : gb236 ≠ gb234)); have n8_ := Aside0.mk ((by rw [hg]; exact Nat.ne_of_lt (blk_lt (bk_ BK235)) : gb235 ≠ gb236)); have n9_ := Aside0.mk ((by rw [hg]; exact Nat.ne_of_gt (blk_lt (bk_ BK235)) : gb236 ≠ gb235)); clear BK234; clear BK235; clear HB; have BK234 := n0_; have BK235 := n1_; have HB := n2_; have BK236 := n3_; have GW236 := n4_; have GE236 := n5_; have NB234_236 := n6_; have NB236_234 := n7_; have NB235_236 := n8_; have NB236_235 := n9_; clear n0_ n1_ n2_ n3_ n4_ n5_ n6_ n7_ n8_ n9_; clear hb hbox hg; have hnb8 := NB234_235.out; have hnc8 := NB235_234.out; have hnb9 := NB234_236.out; have hnc9 := NB236_234.out; have hcz10_0 := cz_ BK234 0 (.string a0_0); have hcz10_1 := cz_ BK234 1 (.int .i64 a0_1); have hcz10_2 := cz_ BK234 2 (.int .i64 a0_2); have hcz10_3 := cz_ BK234 3 (.int .i64 a0_3); have hcz10_4 := cz_ BK234 4 (.int .i64 a0_4); have hcz10_5 := cz_ BK234 5 (.slice A0_5 l0_5.length c0_5); have hcz10_6 := cz_ BK234 6 (.int .i64 a0_6); have hcz10_7 := cz_ BK234 7 (.int .i64 a0_7); have hcz10_8 := cz_ BK234 8 (.slice A0_8 l0_8.length c0_8); have hcz10_9 := cz_ BK234 9 (.slice A0_9 l0_9.length c0_9); have hcz10_10 := cz_ BK234 10 (.slice A0_10 l0_10.length c0_10); have hfz10_0 := fz_ BK234 0; have hfz10_1 := fz_ BK234 1; have hfz10_2 := fz_ BK234 2; have hfz10_3 := fz_ BK234 3; have hfz10_4 := fz_ BK234 4; have hfz10_5 := fz_ BK234 5; have hfz10_6 := fz_ BK234 6; have hfz10_7 := fz_ BK234 7; have hfz10_8 := fz_ BK234 8; have hfz10_9 := fz_ BK234 9; have hfz10_10 := fz_ BK234 10; have hnb11 := NB236_235.out; have hnc11 := NB235_236.out; have hcz12_0 := cz_ BK236 0 (.string (⟨#[]⟩ : ByteArray)); have hcz12_1 := cz_ BK236 1 (.int .i64 0); have hcz12_2 := cz_ BK236 2 (.int .i64 0); have hcz12_3 := cz_ BK236 3 (.int .i64 0); have hcz12_4 := cz_ BK236 4 (.int .i64 0); have hcz12_5 := cz_ BK236 5 (.slice none 0 0); have hcz12_6 := cz_ BK236 6 (.int .i64 0); have hcz12_7 := cz_ BK236 7 (.int .i64 0); have hcz12_8 := cz_ BK236 8 (.slice none 0 0); have hcz12_9 := cz_ BK236 9 (.slice none 0 0); have hcz12_10 := cz_ BK236 10 (.slice none 0 0); have hfz12_0 := fz_ BK236 0; have hfz12_1 := fz_ BK236 1; have hfz12_2 := fz_ BK236 2; have hfz12_3 := fz_ BK236 3; have hfz12_4 := fz_ BK236 4; have hfz12_5 := fz_ BK236 5; have hfz12_6 := fz_ BK236 6; have hfz12_7 := fz_ BK236 7; have hfz12_8 := fz_ BK236 8; have hfz12_9 := fz_ BK236 9; have hfz12_10 := fz_ BK236 10) | ((with_reducible refine gate_callee (f := 17) rfl ?_); refine goesL_ (some 21) rfl rfl Try.func17 (by kernel_rfl) rfl #[.slice A0_5 l0_5.length c0_5] rfl gl_ ?_; (with_reducible refine (laws_toHoldS.calls k _ _ l0_5 t237 _ ?side1 ?side2 A2.out).mono ?_); (case side1 => exact Kd.C_below HR0_5.out bl_); (case side2 => exact HC0_5.out); rintro e w13 ⟨v238, rfl, ho0, hb⟩; refine ⟨_, rfl, ?_⟩; have n0_ := Aside0.mk (Kd.R_lower ho0 (below_size bl_)); have n1_ := Aside0.mk (blk_below (g := gb234) (o := .cells #[.string a0_0, .int .i64 a0_1, .int .i64 a0_2, .int .i64 a0_3, .int .i64 a0_4, .slice A0_5 l0_5.length c0_5, .int .i64 a0_6, .int .i64 a0_7, .slice A0_8 l0_8.length c0_8, .slice A0_9 l0_9.length c0_9, .slice A0_10 l0_10.length c0_10] 37 (0, 0)) (by (with_reducible repeat (first | refine blk_drewN ?_ _ | refine blk_drew ?_ | refine blk_alloc ?_ _)); refine blk_far ?_ NB234_236.out _; (with_reducible repeat (first | refine blk_drewN ?_ _ | refine blk_drew ?_ | refine blk_alloc ?_ _)); refine blk_far ?_ NB234_236.out _; (with_reducible repeat (first | refine blk_drewN ?_ _ | refine blk_drew ?_ | refine blk_alloc ?_ _)); refine blk_far ?_ NB234_236.out _; (with_reducible repeat (first | refine blk_drewN ?_ _ | refine blk_drew ?_ | refine blk_alloc ?_ _)); refine blk_far ?_ NB234_236.out _; (with_reducible repeat (first | refine blk_drewN ?_ _ | refine blk_drew ?_ | refine blk_alloc ?_ _)); refine blk_far ?_ NB234_236.out _; (with_reducible repeat (first | refine blk_drewN ?_ _ | refine blk_drew ?_ | refine blk_alloc ?_ _)); exact BK234.out) hb); have n2_ := Aside0.mk (blk_below (g := gb235) (o := .cells #[.string (⟨#[]⟩ : ByteArray), .int .i64 0, .int .i64 0, .int .i64 0, .int .i64 0, .slice none 0 0, .int .i64 0, .int .i64 0, .slice none 0 0, .slice none 0 0, .slice none 0 0] 43 (0, 0)) (by (with_reducible repeat (first | refine blk_drewN ?_ _ | refine blk_drew ?_ | refine blk_alloc ?_ _)); refine blk_far ?_ NB235_236.out _; (with_reducible repeat (first | refine blk_drewN ?_ _ | refine blk_drew ?_ | refine blk_alloc ?_ _)); refine blk_far ?_ NB235_236.out _; (with_reducible repeat (first | refine blk_drewN ?_ _ | refine blk_drew ?_ | refine blk_alloc ?_ _)); refine blk_far ?_ NB235_236.out _; (with_reducible repeat (first | refine blk_drewN ?_ _ | refine blk_drew ?_ | refine blk_alloc ?_ _)); refine blk_far ?_ NB235_236.out _; (with_reducible repeat (first | refine blk_drewN ?_ _ | refine blk_drew ?_ | refine blk_alloc ?_ _)); refine blk_far ?_ NB235_236.out _; (with_reducible repeat (first | refine blk_drewN ?_ _ | refine blk_drew ?_ | refine blk_alloc ?_ _)); exact BK235.out) hb); have n3_ := Aside0.mk (blk_below (g := gb236) (o := .cells #[.string a0_0, .int .i64 a0_1, .int .i64 a0_2, .int .i64 a0_3, .int .i64 a0_4, .slice none 0 0, .int .i64 0, .int .i64 0, .slice none 0 0, .slice none 0 0, .slice none 0 0] 43 (0, 0)) (by (with_reducible repeat (first | refine blk_drewN ?_ _ | refine blk_drew ?_ | refine blk_alloc ?_ _)); refine blk_put (cs := #[.string a0_0, .int .i64 a0_1, .int .i64 a0_2, .int .i64 a0_3, .int .i64 0, .slice none 0 0, .int .i64 0, .int .i64 0, .slice none 0 0, .slice none 0 0, .slice none 0 0]) ?_ 4 _ rfl; refine blk_put (cs := #[.string a0_0, .int .i64 a0_1, .int .i64 a0_2, .int .i64 0, .int .i64 0, .slice none 0 0, .int .i64 0, .int .i64 0, .slice none 0 0, .slice none 0 0, .slice none 0 0]) ?_ 3 _ rfl; refine blk_put (cs := #[.string a0_0, .int .i64 a0_1, .int .i64 0, .int .i64 0, .int .i64 0, .slice none 0 0, .int .i64 0, .int .i64 0, .slice none 0 0, .slice none 0 0, .slice none 0 0]) ?_ 2 _ rfl; refine blk_put (cs := #[.string a0_0, .int .i64 0, .int .i64 0, .int .i64 0, .int .i64 0, .slice none 0 0, .int .i64 0, .int .i64 0, .slice none 0 0, .slice none 0 0, .slice none 0 0]) ?_ 1 _ rfl; refine blk_put (cs := #[.string (⟨#[]⟩ : ByteArray), .int .i64 0, .int .i64 0, .int .i64 0, .int .i64 0, .slice none 0 0, .int .i64 0, .int .i64 0, .slice none 0 0, .slice none 0 0, .slice none 0 0]) ?_ 0 _ rfl; (with_reducible repeat (first | refine blk_drewN ?_ _ | refine blk_drew ?_ | refine blk_alloc ?_ _)); exact BK236.out) hb); have n4_ := Aside0.mk (below_step bl_ hb); clear BK234; clear BK235; clear BK236; clear HB; have HO239 := n0_; have BK234 := n1_; have BK235 := n2_; have BK236 := n3_; have HB := n4_; clear n0_ n1_ n2_ n3_ n4_; (try clear hb); (try clear hb2); (try clear hk); (try clear hi); (try clear ho0); obtain ⟨Ao14, co14, eo14⟩ := Kd.R_slice HO239.out; subst eo14; have hcz15_0 := cz_ BK236 0 (.string a0_0); have hcz15_1 := cz_ BK236 1 (.int .i64 a0_1); have hcz15_2 := cz_ BK236 2 (.int .i64 a0_2); have hcz15_3 := cz_ BK236 3 (.int .i64 a0_3); have hcz15_4 := cz_ BK236 4 (.int .i64 a0_4); have hcz15_5 := cz_ BK236 5 (.slice none 0 0); have hcz15_6 := cz_ BK236 6 (.int .i64 0); have hcz15_7 := cz_ BK236 7 (.int .i64 0); have hcz15_8 := cz_ BK236 8 (.slice none 0 0); have hcz15_9 := cz_ BK236 9 (.slice none 0 0); have hcz15_10 := cz_ BK236 10 (.slice none 0 0); have hfz15_0 := fz_ BK236 0; have hfz15_1 := fz_ BK236 1; have hfz15_2 := fz_ BK236 2; have hfz15_3 := fz_ BK236 3; have hfz15_4 := fz_ BK236 4; have hfz15_5 := fz_ BK236 5; have hfz15_6 := fz_ BK236 6; have hfz15_7 := fz_ BK236 7; have hfz15_8 := fz_ BK236 8; have hfz15_9 := fz_ BK236 9; have hfz15_10 := fz_ BK236 10; have hcz16_0 := cz_ BK234 0 (.string a0_0); have hcz16_1 := cz_ BK234 1 (.int .i64 a0_1); have hcz16_2 := cz_ BK234 2 (.int .i64 a0_2); have hcz16_3 := cz_ BK234 3 (.int .i64 a0_3); have hcz16_4 := cz_ BK234 4 (.int .i64 a0_4); have hcz16_5 := cz_ BK234 5 (.slice A0_5 l0_5.length c0_5); have hcz16_6 := cz_ BK234 6 (.int .i64 a0_6); have hcz16_7 := cz_ BK234 7 (.int .i64 a0_7); have hcz16_8 := cz_ BK234 8 (.slice A0_8 l0_8.length c0_8); have hcz16_9 := cz_ BK234 9 (.slice A0_9 l0_9.length c0_9); have hcz16_10 := cz_ BK234 10 (.slice A0_10 l0_10.length c0_10); have hfz16_0 := fz_ BK234 0; have hfz16_1 := fz_ BK234 1; have hfz16_2 := fz_ BK234 2; have hfz16_3 := fz_ BK234 3; have hfz16_4 := fz_ BK234 4; have hfz16_5 := fz_ BK234 5; have hfz16_6 := fz_ BK234 6; have hfz16_7 := fz_ BK234 7; have hfz16_8 := fz_ BK234 8; have hfz16_9 := fz_ BK234 9; have hfz16_10 := fz_ BK234 10) | ((with_reducible refine gate_callee (f := 90) rfl ?_); refine goesL_ (some 25) rfl rfl Try.func90 (by kernel_rfl) rfl #[.agg #[.int .i64 a0_6, .int .i64 a0_7, .slice A0_8 l0_8.length c0_8, .slice A0_9 l0_9.length c0_9]] rfl gl_ ?_; (with_reducible refine (laws_toRing.calls k a0_6 a0_7 _ _ l0_8 _ _ l0_9 t240 t241 t242 t245 _ ?side1 ?side2 ?side3 ?side4 A3.out).mono ?_); (case side1 => exact Kd.C_below HR0_8.out bl_); (case side2 => exact HC0_8.out); (case side3 => exact Kd.C_below HR0_9.out bl_); (case side4 => exact HC0_9.out); rintro e w17 ⟨v243, v246, rfl, ho0, ho1, hb⟩; refine ⟨_, rfl, ?_⟩; have n0_ := Aside0.mk (Kd.R_below (by (with_reducible repeat (first | apply Kd.R_alloc | apply Kd.R_drewN | apply Kd.R_drew)); exact (Kd.R_mono (Kd.R_far (p := ⟨gb236, 5, none⟩) (Kd.R_types HO239.out BK236.out (by decide)) (fun _ hk => hk.2) (.slice Ao14 t237.length co14)) (fun _ h_ => h_.1))) hb); have n1_ := Aside0.mk (Kd.R_lower ho0 (below_size bl_)); have n2_ := Aside0.mk (Kd.R_lower ho1 (below_size bl_)); have n3_ := Aside0.mk (blk_below (g := gb234) (o := .cells #[.string a0_0, .int .i64 a0_1, .int .i64 a0_2, .int .i64 a0_3, .int .i64 a0_4, .slice A0_5 l0_5.length c0_5, .int .i64 a0_6, .int .i64 a0_7, .slice A0_8 l0_8.length c0_8, .slice A0_9 l0_9.length c0_9, .slice A0_10 l0_10.length c0_10] 37 (0, 0)) (by (with_reducible repeat (first | refine blk_drewN ?_ _ | refine blk_drew ?_ | refine blk_alloc ?_ _)); refine blk_far ?_ NB234_236.out _; (with_reducible repeat (first | refine blk_drewN ?_ _ | refine blk_drew ?_ | refine blk_alloc ?_ _)); exact BK234.out) hb); have n4_ := Aside0.mk (blk_below (g := gb235) (o := .cells #[.string (⟨#[]⟩ : ByteArray), .int .i64 0, .int .i64 0, .int .i64 0, .int .i64 0, .slice none 0 0, .int .i64 0, .int .i64 0, .slice none 0 0, .slice none 0 0, .slice none 0 0] 43 (0, 0)) (by (with_reducible repeat (first | refine blk_drewN ?_ _ | refine blk_drew ?_ | refine blk_alloc ?_ _)); refine blk_far ?_ NB235_236.out _; (with_reducible repeat (first | refine blk_drewN ?_ _ | refine blk_drew ?_ | refine blk_alloc ?_ _)); exact BK235.out) hb); have n5_ := Aside0.mk (blk_below (g := gb236) (o := .cells #[.string a0_0, .int .i64 a0_1, .int .i64 a0_2, .int .i64 a0_3, .int .i64 a0_4, .slice Ao14 t237.length co14, .int .i64 0, .int .i64 0, .slice none 0 0, .slice none 0 0, .slice none 0 0] 43 (0, 0)) (by (with_reducible repeat (first | refine blk_drewN ?_ _ | refine blk_drew ?_ | refine blk_alloc ?_ _)); refine blk_put (cs := #[.string a0_0, .int .i64 a0_1, .int .i64 a0_2, .int .i64 a0_3, .int .i64 a0_4, .slice none 0 0, .int .i64 0, .int .i64 0, .slice none 0 0, .slice none 0 0, .slice none 0 0]) ?_ 5 _ rfl; (with_reducible repeat (first | refine blk_drewN ?_ _ | refine blk_drew ?_ | refine blk_alloc ?_ _)); exact BK236.out) hb); have n6_ := Aside0.mk (below_step bl_ hb); clear HO239; clear BK234; clear BK235; clear BK236; clear HB; have HO239 := n0_; have HO244 := n1_; have HO247 := n2_; have BK234 := n3_; have BK235 := n4_; have BK236 := n5_; have HB := n6_; clear n0_ n1_ n2_ n3_ n4_ n5_ n6_; (try clear hb); (try clear hb2); (try clear hk); (try clear hi); (try clear ho0); (try clear ho1); have hcz18_0 := cz_ BK236 0 (.string a0_0); have hcz18_1 := cz_ BK236 1 (.int .i64 a0_1); have hcz18_2 := cz_ BK236 2 (.int .i64 a0_2); have hcz18_3 := cz_ BK236 3 (.int .i64 a0_3); have hcz18_4 := cz_ BK236 4 (.int .i64 a0_4); have hcz18_5 := cz_ BK236 5 (.slice Ao14 t237.length co14); have hcz18_6 := cz_ BK236 6 (.int .i64 0); have hcz18_7 := cz_ BK236 7 (.int .i64 0); have hcz18_8 := cz_ BK236 8 (.slice none 0 0); have hcz18_9 := cz_ BK236 9 (.slice none 0 0); have hcz18_10 := cz_ BK236 10 (.slice none 0 0); have hfz18_0 := fz_ BK236 0; have hfz18_1 := fz_ BK236 1; have hfz18_2 := fz_ BK236 2; have hfz18_3 := fz_ BK236 3; have hfz18_4 := fz_ BK236 4; have hfz18_5 := fz_ BK236 5; have hfz18_6 := fz_ BK236 6; have hfz18_7 := fz_ BK236 7; have hfz18_8 := fz_ BK236 8; have hfz18_9 := fz_ BK236 9; have hfz18_10 := fz_ BK236 10; obtain ⟨Ao19, co19, eo19⟩ := Kd.R_slice HO244.out; subst eo19; obtain ⟨Ao20, co20, eo20⟩ := Kd.R_slice HO247.out; subst eo20; have hcz21_0 := cz_ BK234 0 (.string a0_0); have hcz21_1 := cz_ BK234 1 (.int .i64 a0_1); have hcz21_2 := cz_ BK234 2 (.int .i64 a0_2); have hcz21_3 := cz_ BK234 3 (.int .i64 a0_3); have hcz21_4 := cz_ BK234 4 (.int .i64 a0_4); have hcz21_5 := cz_ BK234 5 (.slice A0_5 l0_5.length c0_5); have hcz21_6 := cz_ BK234 6 (.int .i64 a0_6); have hcz21_7 := cz_ BK234 7 (.int .i64 a0_7); have hcz21_8 := cz_ BK234 8 (.slice A0_8 l0_8.length c0_8); have hcz21_9 := cz_ BK234 9 (.slice A0_9 l0_9.length c0_9); have hcz21_10 := cz_ BK234 10 (.slice A0_10 l0_10.length c0_10); have hfz21_0 := fz_ BK234 0; have hfz21_1 := fz_ BK234 1; have hfz21_2 := fz_ BK234 2; have hfz21_3 := fz_ BK234 3; have hfz21_4 := fz_ BK234 4; have hfz21_5 := fz_ BK234 5; have hfz21_6 := fz_ BK234 6; have hfz21_7 := fz_ BK234 7; have hfz21_8 := fz_ BK234 8; have hfz21_9 := fz_ BK234 9; have hfz21_10 := fz_ BK234 10) | ((with_reducible refine gate_callee (f := 38) rfl ?_); refine goesL_ (some 29) rfl rfl Try.func38 (by kernel_rfl) rfl #[.slice A0_10 l0_10.length c0_10] rfl gl_ ?_; (with_reducible refine (laws_toSlotS.calls k _ _ l0_10 t248 _ ?side1 ?side2 A4.out).mono ?_); (case side1 => exact Kd.C_below HR0_10.out bl_); (case side2 => exact HC0_10.out); rintro e w22 ⟨v249, rfl, ho0, hb⟩; refine ⟨_, rfl, ?_⟩; have n0_ := Aside0.mk (Kd.R_below (by (with_reducible repeat (first | apply Kd.R_alloc | apply Kd.R_drewN | apply Kd.R_drew)); exact (Kd.R_mono (Kd.R_far (p := ⟨gb236, 9, none⟩) (Kd.R_far (p := ⟨gb236, 8, none⟩) (Kd.R_far (p := ⟨gb236, 7, none⟩) (Kd.R_far (p := ⟨gb236, 6, none⟩) (Kd.R_types HO239.out BK236.out (by decide)) (fun _ hk => hk.2) (.int .i64 t240)) (fun _ hk => hk.2) (.int .i64 t241)) (fun _ hk => hk.2) (.slice Ao19 t242.length co19)) (fun _ hk => hk.2) (.slice Ao20 t245.length co20)) (fun _ h_ => h_.1))) hb); have n1_ := Aside0.mk (Kd.R_below (by (with_reducible repeat (first | apply Kd.R_alloc | apply Kd.R_drewN | apply Kd.R_drew)); exact (Kd.R_mono (Kd.R_far (p := ⟨gb236, 9, none⟩) (Kd.R_far (p := ⟨gb236, 8, none⟩) (Kd.R_far (p := ⟨gb236, 7, none⟩) (Kd.R_far (p := ⟨gb236, 6, none⟩) (Kd.R_types HO244.out BK236.out (by decide)) (fun _ hk => hk.2) (.int .i64 t240)) (fun _ hk => hk.2) (.int .i64 t241)) (fun _ hk => hk.2) (.slice Ao19 t242.length co19)) (fun _ hk => hk.2) (.slice Ao20 t245.length co20)) (fun _ h_ => h_.1))) hb); have n2_ := Aside0.mk (Kd.R_below (by (with_reducible repeat (first | apply Kd.R_alloc | apply Kd.R_drewN | apply Kd.R_drew)); exact (Kd.R_mono (Kd.R_far (p := ⟨gb236, 9, none⟩) (Kd.R_far (p := ⟨gb236, 8, none⟩) (Kd.R_far (p := ⟨gb236, 7, none⟩) (Kd.R_far (p := ⟨gb236, 6, none⟩) (Kd.R_types HO247.out BK236.out (by decide)) (fun _ hk => hk.2) (.int .i64 t240)) (fun _ hk => hk.2) (.int .i64 t241)) (fun _ hk => hk.2) (.slice Ao19 t242.length co19)) (fun _ hk => hk.2) (.slice Ao20 t245.length co20)) (fun _ h_ => h_.1))) hb); have n3_ := Aside0.mk (Kd.S_lower ho0 (below_size bl_)); have n4_ := Aside0.mk (blk_below (g := gb234) (o := .cells #[.string a0_0, .int .i64 a0_1, .int .i64 a0_2, .int .i64 a0_3, .int .i64 a0_4, .slice A0_5 l0_5.length c0_5, .int .i64 a0_6, .int .i64 a0_7, .slice A0_8 l0_8.length c0_8, .slice A0_9 l0_9.length c0_9, .slice A0_10 l0_10.length c0_10] 37 (0, 0)) (by (with_reducible repeat (first | refine blk_drewN ?_ _ | refine blk_drew ?_ | refine blk_alloc ?_ _)); refine blk_far ?_ NB234_236.out _; (with_reducible repeat (first | refine blk_drewN ?_ _ | refine blk_drew ?_ | refine blk_alloc ?_ _)); refine blk_far ?_ NB234_236.out _; (with_reducible repeat (first | refine blk_drewN ?_ _ | refine blk_drew ?_ | refine blk_alloc ?_ _)); refine blk_far ?_ NB234_236.out _; (with_reducible repeat (first | refine blk_drewN ?_ _ | refine blk_drew ?_ | refine blk_alloc ?_ _)); refine blk_far ?_ NB234_236.out _; (with_reducible repeat (first | refine blk_drewN ?_ _ | refine blk_drew ?_ | refine blk_alloc ?_ _)); exact BK234.out) hb); have n5_ := Aside0.mk (blk_below (g := gb235) (o := .cells #[.string (⟨#[]⟩ : ByteArray), .int .i64 0, .int .i64 0, .int .i64 0, .int .i64 0, .slice none 0 0, .int .i64 0, .int .i64 0, .slice none 0 0, .slice none 0 0, .slice none 0 0] 43 (0, 0)) (by (with_reducible repeat (first | refine blk_drewN ?_ _ | refine blk_drew ?_ | refine blk_alloc ?_ _)); refine blk_far ?_ NB235_236.out _; (with_reducible repeat (first | refine blk_drewN ?_ _ | refine blk_drew ?_ | refine blk_alloc ?_ _)); refine blk_far ?_ NB235_236.out _; (with_reducible repeat (first | refine blk_drewN ?_ _ | refine blk_drew ?_ | refine blk_alloc ?_ _)); refine blk_far ?_ NB235_236.out _; (with_reducible repeat (first | refine blk_drewN ?_ _ | refine blk_drew ?_ | refine blk_alloc ?_ _)); refine blk_far ?_ NB235_236.out _; (with_reducible repeat (first | refine blk_drewN ?_ _ | refine blk_drew ?_ | refine blk_alloc ?_ _)); exact BK235.out) hb); have n6_ := Aside0.mk (blk_below (g := gb236) (o := .cells #[.string a0_0, .int .i64 a0_1, .int .i64 a0_2, .int .i64 a0_3, .int .i64 a0_4, .slice Ao14 t237.length co14, .int .i64 t240, .int .i64 t241, .slice Ao19 t242.length co19, .slice Ao20 t245.length co20, .slice none 0 0] 43 (0, 0)) (by (with_reducible repeat (first | refine blk_drewN ?_ _ | refine blk_drew ?_ | refine blk_alloc ?_ _)); refine blk_put (cs := #[.string a0_0, .int .i64 a0_1, .int .i64 a0_2, .int .i64 a0_3, .int .i64 a0_4, .slice Ao14 t237.length co14, .int .i64 t240, .int .i64 t241, .slice Ao19 t242.length co19, .slice none 0 0, .slice none 0 0]) ?_ 9 _ rfl; refine blk_put (cs := #[.string a0_0, .int .i64 a0_1, .int .i64 a0_2, .int .i64 a0_3, .int .i64 a0_4, .slice Ao14 t237.length co14, .int .i64 t240, .int .i64 t241, .slice none 0 0, .slice none 0 0, .slice none 0 0]) ?_ 8 _ rfl; refine blk_put (cs := #[.string a0_0, .int .i64 a0_1, .int .i64 a0_2, .int .i64 a0_3, .int .i64 a0_4, .slice Ao14 t237.length co14, .int .i64 t240, .int .i64 0, .slice none 0 0, .slice none 0 0, .slice none 0 0]) ?_ 7 _ rfl; refine blk_put (cs := #[.string a0_0, .int .i64 a0_1, .int .i64 a0_2, .int .i64 a0_3, .int .i64 a0_4, .slice Ao14 t237.length co14, .int .i64 0, .int .i64 0, .slice none 0 0, .slice none 0 0, .slice none 0 0]) ?_ 6 _ rfl; (with_reducible repeat (first | refine blk_drewN ?_ _ | refine blk_drew ?_ | refine blk_alloc ?_ _)); exact BK236.out) hb); have n7_ := Aside0.mk (below_step bl_ hb); clear HO239; clear HO244; clear HO247; clear BK234; clear BK235; clear BK236; clear HB; have HO239 := n0_; have HO244 := n1_; have HO247 := n2_; have HO250 := n3_; have BK234 := n4_; have BK235 := n5_; have BK236 := n6_; have HB := n7_; clear n0_ n1_ n2_ n3_ n4_ n5_ n6_ n7_; (try clear hb); (try clear hb2); (try clear hk); (try clear hi); (try clear ho0); obtain ⟨Ao23, co23, eo23⟩ := Kd.S_slice HO250.out; subst eo23; have hcz24_0 := cz_ BK236 0 (.string a0_0); have hcz24_1 := cz_ BK236 1 (.int .i64 a0_1); have hcz24_2 := cz_ BK236 2 (.int .i64 a0_2); have hcz24_3 := cz_ BK236 3 (.int .i64 a0_3); have hcz24_4 := cz_ BK236 4 (.int .i64 a0_4); have hcz24_5 := cz_ BK236 5 (.slice Ao14 t237.length co14); have hcz24_6 := cz_ BK236 6 (.int .i64 t240); have hcz24_7 := cz_ BK236 7 (.int .i64 t241); have hcz24_8 := cz_ BK236 8 (.slice Ao19 t242.length co19); have hcz24_9 := cz_ BK236 9 (.slice Ao20 t245.length co20); have hcz24_10 := cz_ BK236 10 (.slice none 0 0); have hfz24_0 := fz_ BK236 0; have hfz24_1 := fz_ BK236 1; have hfz24_2 := fz_ BK236 2; have hfz24_3 := fz_ BK236 3; have hfz24_4 := fz_ BK236 4; have hfz24_5 := fz_ BK236 5; have hfz24_6 := fz_ BK236 6; have hfz24_7 := fz_ BK236 7; have hfz24_8 := fz_ BK236 8; have hfz24_9 := fz_ BK236 9; have hfz24_10 := fz_ BK236 10; have hcz25_0 := cz_ BK235 0 (.string (⟨#[]⟩ : ByteArray)); have hcz25_1 := cz_ BK235 1 (.int .i64 0); have hcz25_2 := cz_ BK235 2 (.int .i64 0); have hcz25_3 := cz_ BK235 3 (.int .i64 0); have hcz25_4 := cz_ BK235 4 (.int .i64 0); have hcz25_5 := cz_ BK235 5 (.slice none 0 0); have hcz25_6 := cz_ BK235 6 (.int .i64 0); have hcz25_7 := cz_ BK235 7 (.int .i64 0); have hcz25_8 := cz_ BK235 8 (.slice none 0 0); have hcz25_9 := cz_ BK235 9 (.slice none 0 0); have hcz25_10 := cz_ BK235 10 (.slice none 0 0); have hfz25_0 := fz_ BK235 0; have hfz25_1 := fz_ BK235 1; have hfz25_2 := fz_ BK235 2; have hfz25_3 := fz_ BK235 3; have hfz25_4 := fz_ BK235 4; have hfz25_5 := fz_ BK235 5; have hfz25_6 := fz_ BK235 6; have hfz25_7 := fz_ BK235 7; have hfz25_8 := fz_ BK235 8; have hfz25_9 := fz_ BK235 9; have hfz25_10 := fz_ BK235 10))
 refine bodyPost_ret (results_cell_row rfl _ _ gb235 43 #[.string a0_0, .int .i64 a0_1, .int .i64 a0_2, .int .i64 a0_3, .int .i64 a0_4, .slice Ao14 t237.length co14, .int .i64 t240, .int .i64 t241, .slice Ao19 t242.length co19, .slice Ao20 t245.length co20, .slice Ao23 t248.length co23] (0, 0) _ rfl (by (with_reducible repeat (first | refine blk_drewN ?_ _ | refine blk_drew ?_ | refine blk_alloc ?_ _)); refine blk_put (cs := #[.string a0_0, .int .i64 a0_1, .int .i64 a0_2, .int .i64 a0_3, .int .i64 a0_4, .slice Ao14 t237.length co14, .int .i64 t240, .int .i64 t241, .slice Ao19 t242.length co19, .slice Ao20 t245.length co20, .slice none 0 0]) ?_ 10 _ rfl; refine blk_put (cs := #[.string a0_0, .int .i64 a0_1, .int .i64 a0_2, .int .i64 a0_3, .int .i64 a0_4, .slice Ao14 t237.length co14, .int .i64 t240, .int .i64 t241, .slice Ao19 t242.length co19, .slice none 0 0, .slice none 0 0]) ?_ 9 _ rfl; refine blk_put (cs := #[.string a0_0, .int .i64 a0_1, .int .i64 a0_2, .int .i64 a0_3, .int .i64 a0_4, .slice Ao14 t237.length co14, .int .i64 t240, .int .i64 t241, .slice none 0 0, .slice none 0 0, .slice none 0 0]) ?_ 8 _ rfl; refine blk_put (cs := #[.string a0_0, .int .i64 a0_1, .int .i64 a0_2, .int .i64 a0_3, .int .i64 a0_4, .slice Ao14 t237.length co14, .int .i64 t240, .int .i64 0, .slice none 0 0, .slice none 0 0, .slice none 0 0]) ?_ 7 _ rfl; refine blk_put (cs := #[.string a0_0, .int .i64 a0_1, .int .i64 a0_2, .int .i64 a0_3, .int .i64 a0_4, .slice Ao14 t237.length co14, .int .i64 0, .int .i64 0, .slice none 0 0, .slice none 0 0, .slice none 0 0]) ?_ 6 _ rfl; refine blk_put (cs := #[.string a0_0, .int .i64 a0_1, .int .i64 a0_2, .int .i64 a0_3, .int .i64 a0_4, .slice none 0 0, .int .i64 0, .int .i64 0, .slice none 0 0, .slice none 0 0, .slice none 0 0]) ?_ 5 _ rfl; refine blk_put (cs := #[.string a0_0, .int .i64 a0_1, .int .i64 a0_2, .int .i64 a0_3, .int .i64 0, .slice none 0 0, .int .i64 0, .int .i64 0, .slice none 0 0, .slice none 0 0, .slice none 0 0]) ?_ 4 _ rfl; refine blk_put (cs := #[.string a0_0, .int .i64 a0_1, .int .i64 a0_2, .int .i64 0, .int .i64 0, .slice none 0 0, .int .i64 0, .int .i64 0, .slice none 0 0, .slice none 0 0, .slice none 0 0]) ?_ 3 _ rfl; refine blk_put (cs := #[.string a0_0, .int .i64 a0_1, .int .i64 0, .int .i64 0, .int .i64 0, .slice none 0 0, .int .i64 0, .int .i64 0, .slice none 0 0, .slice none 0 0, .slice none 0 0]) ?_ 2 _ rfl; refine blk_put (cs := #[.string a0_0, .int .i64 0, .int .i64 0, .int .i64 0, .int .i64 0, .slice none 0 0, .int .i64 0, .int .i64 0, .slice none 0 0, .slice none 0 0, .slice none 0 0]) ?_ 1 _ rfl; refine blk_put (cs := #[.string (⟨#[]⟩ : ByteArray), .int .i64 0, .int .i64 0, .int .i64 0, .int .i64 0, .slice none 0 0, .int .i64 0, .int .i64 0, .slice none 0 0, .slice none 0 0, .slice none 0 0]) ?_ 0 _ rfl; (with_reducible repeat (first | refine blk_drewN ?_ _ | refine blk_drew ?_ | refine blk_alloc ?_ _)); refine blk_far ?_ NB235_236.out _; (with_reducible repeat (first | refine blk_drewN ?_ _ | refine blk_drew ?_ | refine blk_alloc ?_ _)); exact BK235.out) Try.underlying43 rfl (by kernel_rfl)) rfl ?_
 exact ⟨_, _, _, _, by first | rfl | (simp [errW_none, errW_some] <;> rfl) | (simp [*, errW_none, errW_some] <;> rfl), by (with_reducible repeat (first | apply Kd.R_alloc | apply Kd.R_drewN | apply Kd.R_drew)); exact Kd.R_mono (Kd.R_far (p := ⟨gb235, 10, none⟩) (Kd.R_far (p := ⟨gb235, 9, none⟩) (Kd.R_far (p := ⟨gb235, 8, none⟩) (Kd.R_far (p := ⟨gb235, 7, none⟩) (Kd.R_far (p := ⟨gb235, 6, none⟩) (Kd.R_far (p := ⟨gb235, 5, none⟩) (Kd.R_far (p := ⟨gb235, 4, none⟩) (Kd.R_far (p := ⟨gb235, 3, none⟩) (Kd.R_far (p := ⟨gb235, 2, none⟩) (Kd.R_far (p := ⟨gb235, 1, none⟩) (Kd.R_far (p := ⟨gb235, 0, none⟩) (Kd.R_far (p := ⟨gb236, 10, none⟩) (Kd.R_types (Kd.R_types HO239.out BK236.out (by decide)) BK235.out (by decide)) (fun _ hk => hk.1.2) (.slice Ao23 t248.length co23)) (fun _ hk => hk.2) (.string a0_0)) (fun _ hk => hk.2) (.int .i64 a0_1)) (fun _ hk => hk.2) (.int .i64 a0_2)) (fun _ hk => hk.2) (.int .i64 a0_3)) (fun _ hk => hk.2) (.int .i64 a0_4)) (fun _ hk => hk.2) (.slice Ao14 t237.length co14)) (fun _ hk => hk.2) (.int .i64 t240)) (fun _ hk => hk.2) (.int .i64 t241)) (fun _ hk => hk.2) (.slice Ao19 t242.length co19)) (fun _ hk => hk.2) (.slice Ao20 t245.length co20)) (fun _ hk => hk.2) (.slice Ao23 t248.length co23)) (fun _ hk => trivial), by (with_reducible repeat (first | apply Kd.R_alloc | apply Kd.R_drewN | apply Kd.R_drew)); exact Kd.R_mono (Kd.R_far (p := ⟨gb235, 10, none⟩) (Kd.R_far (p := ⟨gb235, 9, none⟩) (Kd.R_far (p := ⟨gb235, 8, none⟩) (Kd.R_far (p := ⟨gb235, 7, none⟩) (Kd.R_far (p := ⟨gb235, 6, none⟩) (Kd.R_far (p := ⟨gb235, 5, none⟩) (Kd.R_far (p := ⟨gb235, 4, none⟩) (Kd.R_far (p := ⟨gb235, 3, none⟩) (Kd.R_far (p := ⟨gb235, 2, none⟩) (Kd.R_far (p := ⟨gb235, 1, none⟩) (Kd.R_far (p := ⟨gb235, 0, none⟩) (Kd.R_far (p := ⟨gb236, 10, none⟩) (Kd.R_types (Kd.R_types HO244.out BK236.out (by decide)) BK235.out (by decide)) (fun _ hk => hk.1.2) (.slice Ao23 t248.length co23)) (fun _ hk => hk.2) (.string a0_0)) (fun _ hk => hk.2) (.int .i64 a0_1)) (fun _ hk => hk.2) (.int .i64 a0_2)) (fun _ hk => hk.2) (.int .i64 a0_3)) (fun _ hk => hk.2) (.int .i64 a0_4)) (fun _ hk => hk.2) (.slice Ao14 t237.length co14)) (fun _ hk => hk.2) (.int .i64 t240)) (fun _ hk => hk.2) (.int .i64 t241)) (fun _ hk => hk.2) (.slice Ao19 t242.length co19)) (fun _ hk => hk.2) (.slice Ao20 t245.length co20)) (fun _ hk => hk.2) (.slice Ao23 t248.length co23)) (fun _ hk => hk.1.1), by (with_reducible repeat (first | apply Kd.R_alloc | apply Kd.R_drewN | apply Kd.R_drew)); exact Kd.R_mono (Kd.R_far (p := ⟨gb235, 10, none⟩) (Kd.R_far (p := ⟨gb235, 9, none⟩) (Kd.R_far (p := ⟨gb235, 8, none⟩) (Kd.R_far (p := ⟨gb235, 7, none⟩) (Kd.R_far (p := ⟨gb235, 6, none⟩) (Kd.R_far (p := ⟨gb235, 5, none⟩) (Kd.R_far (p := ⟨gb235, 4, none⟩) (Kd.R_far (p := ⟨gb235, 3, none⟩) (Kd.R_far (p := ⟨gb235, 2, none⟩) (Kd.R_far (p := ⟨gb235, 1, none⟩) (Kd.R_far (p := ⟨gb235, 0, none⟩) (Kd.R_far (p := ⟨gb236, 10, none⟩) (Kd.R_types (Kd.R_types HO247.out BK236.out (by decide)) BK235.out (by decide)) (fun _ hk => hk.1.2) (.slice Ao23 t248.length co23)) (fun _ hk => hk.2) (.string a0_0)) (fun _ hk => hk.2) (.int .i64 a0_1)) (fun _ hk => hk.2) (.int .i64 a0_2)) (fun _ hk => hk.2) (.int .i64 a0_3)) (fun _ hk => hk.2) (.int .i64 a0_4)) (fun _ hk => hk.2) (.slice Ao14 t237.length co14)) (fun _ hk => hk.2) (.int .i64 t240)) (fun _ hk => hk.2) (.int .i64 t241)) (fun _ hk => hk.2) (.slice Ao19 t242.length co19)) (fun _ hk => hk.2) (.slice Ao20 t245.length co20)) (fun _ hk => hk.2) (.slice Ao23 t248.length co23)) (fun _ hk => hk.1.1), by (with_reducible repeat (first | apply Kd.S_alloc | apply Kd.S_drewN | apply Kd.S_drew)); exact Kd.S_mono (Kd.S_far (p := ⟨gb235, 10, none⟩) (Kd.S_far (p := ⟨gb235, 9, none⟩) (Kd.S_far (p := ⟨gb235, 8, none⟩) (Kd.S_far (p := ⟨gb235, 7, none⟩) (Kd.S_far (p := ⟨gb235, 6, none⟩) (Kd.S_far (p := ⟨gb235, 5, none⟩) (Kd.S_far (p := ⟨gb235, 4, none⟩) (Kd.S_far (p := ⟨gb235, 3, none⟩) (Kd.S_far (p := ⟨gb235, 2, none⟩) (Kd.S_far (p := ⟨gb235, 1, none⟩) (Kd.S_far (p := ⟨gb235, 0, none⟩) (Kd.S_far (p := ⟨gb236, 10, none⟩) (Kd.S_types (Kd.S_types HO250.out BK236.out (by decide)) BK235.out (by decide)) (fun _ hk => hk.1.2) (.slice Ao23 t248.length co23)) (fun _ hk => hk.2) (.string a0_0)) (fun _ hk => hk.2) (.int .i64 a0_1)) (fun _ hk => hk.2) (.int .i64 a0_2)) (fun _ hk => hk.2) (.int .i64 a0_3)) (fun _ hk => hk.2) (.int .i64 a0_4)) (fun _ hk => hk.2) (.slice Ao14 t237.length co14)) (fun _ hk => hk.2) (.int .i64 t240)) (fun _ hk => hk.2) (.int .i64 t241)) (fun _ hk => hk.2) (.slice Ao19 t242.length co19)) (fun _ hk => hk.2) (.slice Ao20 t245.length co20)) (fun _ hk => hk.2) (.slice Ao23 t248.length co23)) (fun _ hk => trivial), bl_⟩

/-! ### impl_Hold_77: function 77 -/
section
variable {α : Type} {d : Kd α} {e base g n cap : Nat} {ok : Nat → Prop} {xs : List α}
theorem df_app (g : Nat) : ∀ (a b : List Value) (o : Nat) (w : World), w.setCells g o (a ++ b) = (w.setCells g o a).setCells g (o + a.length) b
 | [], b, o, w => by simp [World.setCells]
 | v :: a, b, o, w => by
  simp only [List.cons_append, World.setCells, List.length_cons]
  rw [df_app g a b, show o + 1 + a.length = o + (a.length + 1) by omega]
theorem df_store {W : World} (h : d.R e W base ok (.slice (some ⟨g, 0, none⟩) n cap) xs) (z : α) (i : Nat) (hi : i < n) (x : α) (c : List Value) (hc : c.length = d.sz) (hM : d.M W base (fun _ => False) x c) :
  d.R e (W.setCells g (i * d.sz) c) base ok (.slice (some ⟨g, 0, none⟩) n cap) (xs.set i x) ∧ W.grownBy (W.setCells g (i * d.sz) c) (some g) := by
 obtain ⟨c0, hl, _, hcc, _⟩ := Kd.R_elem h z (i : Int) (by omega) (by omega)
 have hq := Kd.R_seg (okp := fun _ => False) (x' := x) (seg := c) (j := 0) h (i : Int) (by omega) (by omega) hl hcc (by omega) (by rw [List.take_zero, List.nil_append, Nat.zero_add, List.drop_eq_nil_of_le (by omega), List.append_nil]; exact hM) (fun _ hk => hk.elim)
 simpa using hq
theorem df_zeros {α : Type} {d : Kd α} {e base g n cap : Nat} {ok : Nat → Prop} (z : α) (c : List Value) (hc : c.length = d.sz) (hM : ∀ W, d.M W base (fun _ => False) z c) : ∀ (m i : Nat) (xs : List α) (W : World), i + m = n →
  d.R e W base ok (.slice (some ⟨g, 0, none⟩) n cap) xs → ∃ ys, ys.take i = xs.take i ∧ d.R e (W.setCells g (i * d.sz) (List.replicate m c).flatten) base ok (.slice (some ⟨g, 0, none⟩) n cap) ys ∧ W.grownBy (W.setCells g (i * d.sz) (List.replicate m c).flatten) (some g)
 | 0, i, xs, W, _, h => ⟨xs, rfl, by simpa [World.setCells] using h, by simp [World.setCells]; exact World.grownBy.refl W _⟩
 | m + 1, i, xs, W, hi, h => by
  obtain ⟨h1, g1⟩ := df_store h z i (by omega) z c hc (hM W)
  obtain ⟨ys, ht, h2, g2⟩ := df_zeros z c hc hM m (i + 1) (xs.set i z) _ (by omega) h1
  have e1 : i * d.sz + c.length = (i + 1) * d.sz := by rw [hc, Nat.succ_mul]
  refine ⟨ys, ?_, ?_, ?_⟩
  ·have h3 := congrArg (List.take i) ht
   rw [List.take_take, List.take_take, Nat.min_eq_left (by omega)] at h3
   rw [h3, List.take_set_of_le (by omega)]
  ·rw [List.replicate_succ, List.flatten_cons, df_app, e1]; exact h2
  ·rw [List.replicate_succ, List.flatten_cons, df_app, e1]; exact g1.trans g2
theorem df_clear {P : Program} (w : World) (t e ty : TypeId) (z : Value) (ht : P.underlying t = some (.slice e)) (hv : ∀ w, (zeroValue e).run P w = .ok z w) (hz : 0 < z.cells.size) (h1 : ∀ u ∈ z.cells.toList, u.oneCell' = true) (b o n c : Nat) (hn : 0 < n)
  (hc : ∀ j, j < n * z.cells.size → (w.cell? ⟨b, o + j, none⟩).isSome = true) (hf : ∀ j, j < n * z.cells.size → w.frozen? ⟨b, o + j, none⟩ = false) :
  (Builtin.clear_ #[t] ty #[.slice (some ⟨b, o, none⟩) n c]).run P w = .ok (.tuple #[]) (w.setCells b o (List.replicate n z.cells.toList).flatten) := by
 have hzc : (Builtin.zeroCells z.cells n).toList = (List.replicate n z.cells.toList).flatten := by
  simp only [Builtin.zeroCells]
  apply List.ext_getElem
  ·simp
  ·intro i h1 h2
   have hi : i < n * z.cells.size := by simpa using h1
   have hm : i % z.cells.size < z.cells.size := Nat.mod_lt _ hz
   have key : ∀ (m i : Nat) (hi : i < m * z.cells.size) (h : i < (List.replicate m z.cells.toList).flatten.length), (List.replicate m z.cells.toList).flatten[i] = z.cells[i % z.cells.size]'(Nat.mod_lt _ hz) := by
    intro m
    induction m with
    | zero => intro i hi; simp at hi
    | succ m ih =>
     intro i hi h
     have e1 : (List.replicate (m + 1) z.cells.toList).flatten = z.cells.toList ++ (List.replicate m z.cells.toList).flatten := by rw [List.replicate_succ, List.flatten_cons]
     rw [List.getElem_of_eq e1]
     by_cases hlt : i < z.cells.size
     ·rw [List.getElem_append_left (by simpa using hlt)]
      simp [Nat.mod_eq_of_lt hlt]
     ·rw [List.getElem_append_right (by simpa using hlt), ih _ (by simp; rw [Nat.succ_mul] at hi; omega)]
      have e2 : i % z.cells.size = (i - z.cells.size) % z.cells.size := Nat.mod_eq_sub_mod (by omega)
      simp only [Array.length_toList, e2]
   rw [key n i hi h2]
   simp
   rw [getElem!_pos z.cells _ hm]
 have hst := run_storeCells_cells (P := P) b o (List.replicate n z.cells.toList).flatten 0 w (by simpa using hc) (by simpa using hf) (by
  intro v hv'
  obtain ⟨l, hl, hv2⟩ := List.mem_flatten.1 hv'
  rw [List.eq_of_mem_replicate hl] at hv2
  exact h1 v hv2)
 simp only [Nat.add_zero] at hst
 obtain ⟨m, rfl⟩ : ∃ m, n = m + 1 := ⟨n - 1, by omega⟩
 simp [Builtin.clear_, run_underlying ht, hv, hzc, hst]
end
theorem impl_Hold_77.rdN {xs : List S93} {x : Int} (h : x.toNat < xs.length) : rd_T93 xs x = xs[x.toNat] := by
 unfold rd_T93
 rw [List.getD_eq_getElem?_getD, List.getElem?_eq_getElem h]; rfl
def impl_Hold_77.idxF (p : S93 → Bool) (xs : List S93) : Int := match xs.findIdx? p with | some j => (j : Int) | none => -1
theorem impl_Hold_77.idxF_none (p : S93 → Bool) (xs : List S93) (h : ∀ j (hj : j < xs.length), p xs[j] = false) : impl_Hold_77.idxF p xs = -1 := by
 unfold impl_Hold_77.idxF
 have : xs.findIdx? p = none := by
  rw [List.findIdx?_eq_none_iff]
  intro x hx
  obtain ⟨j, hj, rfl⟩ := List.getElem_of_mem hx
  exact h j hj
 rw [this]
theorem impl_Hold_77.idxF_some (p : S93 → Bool) (xs : List S93) (i : Nat) (hi : i < xs.length) (hp : p xs[i] = true) (h : ∀ j (hj : j < i), p (xs[j]'(by omega)) = false) : impl_Hold_77.idxF p xs = (i : Int) := by
 unfold impl_Hold_77.idxF
 have : xs.findIdx? p = some i := by
  rw [List.findIdx?_eq_some_iff_getElem]
  exact ⟨hi, hp, fun j hj => by simpa using h j hj⟩
 rw [this]
set_option maxHeartbeats 2000000 in
set_option maxRecDepth 100000 in
theorem impl_Hold_77.idx (A0 : Option Addr) (c0 : Nat) (l0 : List S93) (g : Nat) (lb : Array Value) (p : S93 → Bool) (w : World) (hr0 : Kd.C k93 w A0 l0.length l0) (hc0 : l0.length ≤ c0)
  (eg : ∀ args w, (callFunc g args).run Try.prog w = .ok (.enter g args) w)
  (hp : ∀ (W : World) (x : S93), Below w.heap.size w W → Calls Try.prog g (#[.agg #[.string x.f0, .int .i64 x.f1, .int .i64 x.f2]] ++ lb) W fun e w' => e = .returned (.bool (p x)) ∧ Below W.heap.size W w') :
  Calls Try.prog 135 #[.slice A0 l0.length c0, .func (.func g) #[] lb] w fun e w' => e = .returned (.int .i64 (impl_Hold_77.idxF p l0)) ∧ Below w.heap.size w w' := by
 have hlen : l0.length ≤ 9223372036854775807 := hr0.2.1
 have HR0 := Aside0.mk hr0
 have HL := Aside0.mk hlen
 have HP := Aside0.mk hp
 clear hr0 hp
 have HB := Aside0.mk (Below.refl w.heap.size w)
 have hu93 := Try.underlying93
 clear hlen hc0
 go_enter Try.func135, Try.ntmps135
 go_wp2
 go_loopg [5, 8] l0.length (fun gg _ s8 wr => ∃ x : Int, s8 = .int .i64 x ∧ Aside0 (0 ≤ x) ∧ Aside0 (x ≤ l0.length) ∧ Aside0 (l0.length - x.toNat ≤ gg) ∧ Aside0 (∀ j (hj : j < l0.length), (j : Int) < x → p l0[j] = false) ∧ Aside0 (Below w.heap.size w wr))
 case atStart => exact ⟨0, rfl, ⟨by omega⟩, ⟨by omega⟩, ⟨by omega⟩, ⟨fun j hj h => by omega⟩, ⟨Below.refl _ w⟩⟩
 case round =>
  obtain ⟨x, rfl, H0, H1, HG, AF, HB⟩ := hrel
  by_cases hlt : x < (l0.length : Int)
  ·have hN : x.toNat < l0.length := by have := H0.out; omega
   have HN := Aside0.mk hN
   have c0 : decide (x < (l0.length : Int)) = true := decide_eq_true hlt
   obtain ⟨ad, e, hx0, hx1, hx2⟩ := at_T93 HR0.out x H0.out hlt
   cases e
   replace hx0 := kc_ HB hx0
   replace hx1 := kc_ HB hx1
   replace hx2 := kc_ HB hx2
   have p0 := eq_true H0.out
   have q0 := eq_true hlt
   clear hN hlt
   have HX := Aside0.mk (impl_Hold_77.rdN HN.out)
   cases hq : p (rd_T93 l0 x) with
   | true =>
    have HC := Aside0.mk (hq ▸ HP.out wr (rd_T93 l0 x) HB.out)
    have HQ := Aside0.mk hq
    clear hq
    go_wp2_with (go_at_fn g; refine HC.out.mono ?_; rintro e w' ⟨rfl, hb'⟩)
    go_ret
    exact ⟨by show Ending.returned (Value.int .i64 x) = _; rw [impl_Hold_77.idxF_some p l0 x.toNat HN.out (by rw [← HX.out]; exact HQ.out) (fun j hj => AF.out j (by have := HN.out; omega) (by omega)), Int.toNat_of_nonneg H0.out], below_step HB.out hb'⟩
   | false =>
    have HC := Aside0.mk (hq ▸ HP.out wr (rd_T93 l0 x) HB.out)
    have HQ := Aside0.mk hq
    clear hq
    go_wp2_with (go_at_fn g; refine HC.out.mono ?_; rintro e w' ⟨rfl, hb'⟩; have HB' := Aside0.mk hb'; clear hb')
    have hw := HL.out
    have e1 : wrap64 (x + 1) = x + 1 := by have := HN.out; have := H0.out; unfold wrap64; omega
    go_roundg (l0.length - (x.toNat + 1))
    case measure => have := HG.out; have := HN.out; omega
    case rel =>
     have hN := HN.out
     have h0 := H0.out
     refine ⟨wrap64 (x + 1), (by first | rfl | (simp; done) | (simp [*]; done)), ⟨by omega⟩, ⟨by omega⟩, ⟨by omega⟩, ⟨fun j hj h => ?_⟩, ⟨below_step HB.out HB'.out⟩⟩
     by_cases e : j = x.toNat
     ·subst e; rw [← HX.out]; exact HQ.out
     ·exact AF.out j hj (by omega)
  ·have c0 : decide (x < (l0.length : Int)) = false := decide_eq_false hlt
   have HN := Aside0.mk hlt
   clear hlt
   go_wp2
   go_ret
   exact ⟨by show Ending.returned (Value.int .i64 (-1)) = _; rw [impl_Hold_77.idxF_none p l0 (fun j hj => AF.out j hj (by have := HN.out; omega))], HB.out⟩
set_option maxHeartbeats 4000000 in
set_option maxRecDepth 100000 in
theorem impl_Hold_77.calls_none (v : Value) (xs : List S93) (gf : Nat) (lb : Array Value) (p : S93 → Bool) (ok : Nat → Prop) (w0 w : World) (hB : Below w0.heap.size w0 w) (hR : Kd.R k93 93 w w0.heap.size ok v xs)
  (eg : ∀ args w, (callFunc gf args).run Try.prog w = .ok (.enter gf args) w)
  (hp : ∀ (W : World) (x : S93), Kept w W (fun k => some k = v.ownBlock) → Calls Try.prog gf (#[.agg #[.string x.f0, .int .i64 x.f1, .int .i64 x.f2]] ++ lb) W fun e w' => e = .returned (.bool (p x)) ∧ Below W.heap.size W w')
  (ha : ∀ j (hj : j < xs.length), p xs[j] = false) :
  Calls Try.prog 77 #[v, .func (.func gf) #[] lb] w fun e w' => ∃ v', e = .returned v' ∧ Kd.R k93 93 w' w0.heap.size ok v' (xs.filter (fun x => !p x)) ∧ Below w0.heap.size w0 w' ∧ Kept w w' (fun k => some k = v.ownBlock) := by
 obtain ⟨A, c, rfl, hc, hC⟩ := Kd.R_reads hR
 have hf : xs.filter (fun x => !p x) = xs := List.filter_eq_self.2 fun x hx => by
  obtain ⟨j, hj, rfl⟩ := List.getElem_of_mem hx
  rw [ha j hj]; rfl
 have hi := impl_Hold_77.idx A c xs gf lb p w hC hc eg (fun W x hb => hp W x (Kept.of_below hb _))
 rw [impl_Hold_77.idxF_none p xs ha] at hi
 rw [hf]
 have HI := Aside0.mk hi
 have HR := Aside0.mk hR
 have HB := Aside0.mk hB
 clear hi hR hB hp ha hf hC
 have hu93 := Try.underlying93
 clear hc
 go_enter Try.func77, Try.ntmps77
 go_wp2_with (go_at_call 135; refine HI.out.mono ?_; rintro e w' ⟨rfl, hb'⟩)
 go_ret
 exact ⟨_, rfl, Kd.R_below HR.out hb', below_then HB.out HB.out.size hb', Kept.of_below hb' _⟩
set_option maxHeartbeats 4000000 in
set_option maxRecDepth 100000 in
theorem impl_Hold_77.calls_some (g cap : Nat) (xs : List S93) (gf : Nat) (lb : Array Value) (p : S93 → Bool) (ok : Nat → Prop) (w0 w : World) (hB : Below w0.heap.size w0 w) (hR : Kd.R k93 93 w w0.heap.size ok (.slice (some ⟨g, 0, none⟩) xs.length cap) xs)
  (eg : ∀ args w, (callFunc gf args).run Try.prog w = .ok (.enter gf args) w)
  (hp : ∀ (W : World) (x : S93), Kept w W (fun k => k = g) → Calls Try.prog gf (#[.agg #[.string x.f0, .int .i64 x.f1, .int .i64 x.f2]] ++ lb) W fun e w' => e = .returned (.bool (p x)) ∧ Below W.heap.size W w')
  (i0 : Nat) (hi0 : i0 < xs.length) (hpi : p (xs[i0]'hi0) = true) (ha : ∀ j (hj : j < i0), p (xs[j]'(Nat.lt_trans hj hi0)) = false) :
  Calls Try.prog 77 #[.slice (some ⟨g, 0, none⟩) xs.length cap, .func (.func gf) #[] lb] w fun e w' => ∃ v', e = .returned v' ∧ Kd.R k93 93 w' w0.heap.size ok v' (xs.filter (fun x => !p x)) ∧ Below w0.heap.size w0 w' ∧ Kept w w' (fun k => k = g) := by
 obtain ⟨hn, hc, hC⟩ := Kd.R_reads' hR
 have hlen : xs.length ≤ 9223372036854775807 := hC.2.1
 have hi := impl_Hold_77.idx (some ⟨g, 0, none⟩) cap xs gf lb p w hC hc eg (fun W x hb => hp W x (Kept.of_below hb _))
 rw [impl_Hold_77.idxF_some p xs i0 hi0 hpi ha] at hi
 have HI := Aside0.mk hi
 have HR := Aside0.mk hR
 have HB := Aside0.mk hB
 have HP := Aside0.mk hp
 have hst : xs.take (i0 + 1) = xs.take i0 ++ [xs[i0]] := by rw [List.take_succ_eq_append_getElem hi0]
 have hst0 : (xs.take i0).filter (fun x => !p x) = xs.take i0 := List.filter_eq_self.2 fun x hx => by
  obtain ⟨j, hj, rfl⟩ := List.getElem_of_mem hx
  rw [List.getElem_take, ha j (by rw [List.length_take] at hj; omega)]; rfl
 have hst1 : (xs.take (i0 + 1)).filter (fun x => !p x) = xs.take i0 := by rw [hst, List.filter_append, hst0]; simp [hpi]
 have HST := Aside0.mk hst1
 have HL := Aside0.mk hlen
 have HC := Aside0.mk hc
 have HI0 := Aside0.mk hi0
 have hg0 : w0.heap.size ≤ g := Kd.R_base hR g rfl
 have HG0 := Aside0.mk hg0
 clear hi hR hB hp hst hst0 hst1 ha hC hpi hg0
 have hu93 := Try.underlying93
 have c1 : (((i0 : Nat) : Int) == -1) = false := by first | (simp; done) | (simp; omega)
 have e1 : IntKind.i64.wrap ((i0 : Int) + 1) = (i0 : Int) + 1 := by rw [i64_w]; unfold wrap64; omega
 clear hlen hc hi0 hn
 go_enter Try.func77, Try.ntmps77
 go_wp2_with (go_at_call 135; refine HI.out.mono ?_; rintro e w' ⟨rfl, hb'⟩)
 go_loopg [5, 6] xs.length (fun gg s5 s6 wr => ∃ (i j : Int) (dk : List S93), s5 = .int .i64 i ∧ s6 = .int .i64 j ∧ Aside0 (0 ≤ i) ∧ Aside0 (i < j) ∧ Aside0 (0 ≤ j) ∧ Aside0 (j ≤ xs.length) ∧ Aside0 (xs.length - j.toNat ≤ gg) ∧ Aside0 (dk.take i.toNat = (xs.take j.toNat).filter (fun x => !p x) ∧ dk.drop j.toNat = xs.drop j.toNat ∧ ((xs.take j.toNat).filter (fun x => !p x)).length = i.toNat) ∧ Aside0 (Kd.R k93 93 wr w0.heap.size ok (.slice (some ⟨g, 0, none⟩) xs.length cap) dk) ∧ Aside0 (Below w0.heap.size w0 wr) ∧ Aside0 (Kept w wr (fun k => k = g)))
 case atStart => exact ⟨i0, i0 + 1, xs, rfl, by first | rfl | (simp; done), ⟨by omega⟩, ⟨by omega⟩, ⟨by omega⟩, ⟨by have := HI0.out; omega⟩, ⟨by omega⟩, ⟨by rw [show ((i0 : Int) + 1).toNat = i0 + 1 by omega, Int.toNat_natCast, HST.out]; exact ⟨rfl, rfl, by rw [List.length_take]; have := HI0.out; omega⟩⟩, ⟨Kd.R_below HR.out hb'⟩, ⟨below_then HB.out HB.out.size hb'⟩, ⟨Kept.of_below hb' _⟩⟩
 case round =>
  obtain ⟨i, j, dk, rfl, rfl, H0, H1, H2, H3, HG, HD, HR, HB, HK⟩ := hrel
  by_cases hlt : j < (xs.length : Int)
  ·obtain ⟨c, hcl, hM, hcc, hfr⟩ := Kd.R_elem HR.out z93 j H2.out hlt
   obtain rfl := k93_openM hM
   obtain ⟨x, hx⟩ : ∃ x, x = rd_T93 dk j := ⟨_, rfl⟩
   have hx0 : wr.cell? ⟨g, j.toNat * 3, none⟩ = some (.string x.f0) := by rw [hx]; exact hcc 0 _ rfl
   have hx1 : wr.cell? ⟨g, j.toNat * 3 + 1, none⟩ = some (.int .i64 x.f1) := by rw [hx]; exact hcc 1 _ rfl
   have hx2 : wr.cell? ⟨g, j.toNat * 3 + 2, none⟩ = some (.int .i64 x.f2) := by rw [hx]; exact hcc 2 _ rfl
   have hdl : dk.length = xs.length := (Kd.R_reads' HR.out).1.symm
   have hXX : x = xs[j.toNat]'(by have := H2.out; omega) := by
    have h1 := congrArg (fun l => l[0]?) HD.out.2.1
    have h0 := H2.out
    simp only [List.getElem?_drop, Nat.add_zero] at h1
    rw [hx]; unfold rd_T93
    rw [List.getD_eq_getElem?_getD, h1, List.getElem?_eq_getElem (by omega)]; rfl
   have hts : xs.take (j.toNat + 1) = xs.take j.toNat ++ [x] := by rw [hXX, List.take_succ_eq_append_getElem]
   have HDL := Aside0.mk hdl
   have HTS := Aside0.mk hts
   clear hcl hM hcc hfr hx hXX hdl hts
   have p0 := eq_true H2.out
   have q0 := eq_true hlt
   have HLT := Aside0.mk hlt
   have e2 : wrap64 (j + 1) = j + 1 := by have := HL.out; have := H2.out; unfold wrap64; omega
   have e3 : (j + 1).toNat = j.toNat + 1 := by have := H2.out; omega
   have E3 := Aside0.mk e3
   have E2 := Aside0.mk e2
   clear hlt e2 e3
   cases hq : p x with
   | true =>
    have HC := Aside0.mk (fun W => hq ▸ HP.out W x)
    have HQ := Aside0.mk hq
    clear hq
    go_wp2_with (go_at_fn gf; refine (HC.out _ (Kept.alloc HK.out _)).mono ?_; rintro e w2 ⟨rfl, hb2⟩; have HB2 := Aside0.mk hb2; clear hb2)
    go_roundg (xs.length - (j.toNat + 1))
    case measure => have := HG.out; have := HLT.out; have := H2.out; omega
    case rel =>
     have := HLT.out; have := H2.out; have := H1.out; have := H0.out
     refine ⟨i, wrap64 (j + 1), dk, rfl, by first | rfl | (simp; done), ⟨by omega⟩, ⟨by rw [E2.out]; omega⟩, ⟨by rw [E2.out]; omega⟩, ⟨by rw [E2.out]; omega⟩, ⟨by rw [E2.out]; omega⟩, ⟨?_⟩, ⟨Kd.R_below (Kd.R_alloc HR.out _) HB2.out⟩, ⟨below_then (HB.out.alloc HB.out.size _) (by simp; have := HB.out.size; omega) HB2.out⟩, ⟨Kept.below (Kept.alloc HK.out _) HB2.out⟩⟩
     rw [E2.out, E3.out, HTS.out, List.filter_append]
     simp only [List.filter_cons, HQ.out, Bool.not_true, List.filter_nil, List.append_nil, Bool.false_eq_true, if_false]
     refine ⟨HD.out.1, ?_, HD.out.2.2⟩
     have h1 := congrArg (List.drop 1) HD.out.2.1
     simpa [List.drop_drop] using h1
   | false =>
    have HC := Aside0.mk (fun W => hq ▸ HP.out W x)
    have HQ := Aside0.mk hq
    clear hq
    go_wp2_with (go_at_fn gf; refine (HC.out _ (Kept.alloc HK.out _)).mono ?_; rintro e w2 ⟨rfl, hb2⟩; have HB2 := Aside0.mk hb2; have hbv := (hb2.block wr.heap.size (by simp)).trans (heap_alloc_new wr _); have HBV := Aside0.mk hbv; have hv0 := (blk_cell hbv 0).trans (show _ = some (Value.string x.f0) from rfl); have hv1 := (blk_cell hbv 1).trans (show _ = some (Value.int .i64 x.f1) from rfl); have hv2 := (blk_cell hbv 2).trans (show _ = some (Value.int .i64 x.f2) from rfl); have HR2 := Aside0.mk (Kd.R_below (Kd.R_alloc HR.out _) hb2); obtain ⟨c, hcl, hM, hcc, hfr⟩ := Kd.R_elem HR2.out z93 i H0.out (by have := H1.out; have := HLT.out; omega); obtain rfl := k93_openM hM; have hi0 := hcc 0 _ rfl; have hf0 := hfr 0; have hi1 := hcc 1 _ rfl; have hf1 := hfr 1; have hi2 := hcc 2 _ rfl; have hf2 := hfr 2; simp only [show k93.sz = 3 from rfl, Nat.add_zero] at hi0 hf0 hi1 hf1 hi2 hf2; have p1 := eq_true H0.out; have q1 := eq_true (show i < (xs.length : Int) by have := H1.out; have := HLT.out; omega); clear hb2 hbv hcl hM hcc hfr)
    go_roundg (xs.length - (j.toNat + 1))
    case measure => have := HG.out; have := HLT.out; have := H2.out; omega
    case rel =>
     have := HLT.out; have := H2.out; have := H1.out; have := H0.out; have hdl := HDL.out; have hw := HL.out
     have hs := df_store HR2.out z93 i.toNat (by omega) x [.string x.f0, .int .i64 x.f1, .int .i64 x.f2] rfl (k93_mkM _ _ _ x)
     have e4 : wrap64 (i + 1) = i + 1 := by unfold wrap64; omega
     have e5 : (i + 1).toNat = i.toNat + 1 := by omega
     have ht1 : (dk.set i.toNat x).take (i.toNat + 1) = dk.take i.toNat ++ [x] := by
      rw [List.take_succ_eq_append_getElem (by rw [List.length_set]; omega), List.take_set_of_le (Nat.le_refl _), List.getElem_set_self]
     refine ⟨wrap64 (i + 1), wrap64 (j + 1), dk.set i.toNat x, rfl, rfl, ⟨by rw [e4]; omega⟩, ⟨by rw [E2.out, e4]; omega⟩, ⟨by rw [E2.out]; omega⟩, ⟨by rw [E2.out]; omega⟩, ⟨by rw [E2.out]; omega⟩, ⟨?_⟩, ⟨hs.1⟩, ⟨(below_then (HB.out.alloc HB.out.size _) (by simp; have := HB.out.size; omega) HB2.out).grown hs.2 (by have := HB2.out.size; have := HB.out.size; simp at *; omega) (fun k hk => by cases hk; exact HG0.out)⟩, ⟨Kept.of_grown hs.2 (Kept.below (Kept.alloc HK.out _) HB2.out) (fun k hk => by cases hk; exact .inl rfl)⟩⟩
     rw [E2.out, E3.out, e4, e5, HTS.out, List.filter_append, ht1]
     simp only [List.filter_cons, HQ.out, Bool.not_false, List.filter_nil, if_true]
     refine ⟨by rw [HD.out.1], ?_, by rw [List.length_append, HD.out.2.2]; rfl⟩
     have h1 := congrArg (List.drop 1) HD.out.2.1
     rw [List.drop_set_of_lt (by omega)]
     simpa [List.drop_drop] using h1
  ·have hje : j = (xs.length : Int) := by have := H3.out; omega
   have hfi : xs.filter (fun x => !p x) = dk.take i.toNat := by
    have h1 := HD.out.1
    rw [hje, Int.toNat_natCast, List.take_length] at h1
    exact h1.symm
   have HFI := Aside0.mk hfi
   have q0 : decide (j < (xs.length : Int)) = false := decide_eq_false hlt
   have p1 := eq_true H0.out
   have q1 := eq_true (show i ≤ (xs.length : Int) by have := H1.out; omega)
   have h0 := H0.out
   have h1 := H1.out
   have hcc := HC.out
   have q2 := eq_true (show i ≤ (cap : Int) by omega)
   have n1 := eq_false (show ¬ i.toNat = cap by omega)
   have n2 := eq_false (show ¬ cap = i.toNat by omega)
   have hcl : ∀ ty, (Builtin.clear_ #[24] ty #[.slice (some ⟨g, i.toNat * 3, none⟩) (xs.length - i.toNat) (cap - i.toNat)]).run Try.prog wr = .ok (.tuple #[]) (wr.setCells g (i.toNat * 3) (List.replicate (xs.length - i.toNat) [Value.string ⟨#[]⟩, Value.int .i64 0, Value.int .i64 0]).flatten) := fun ty =>
    df_clear wr 24 93 ty (.agg #[Value.string ⟨#[]⟩, Value.int .i64 0, Value.int .i64 0]) Try.underlying24 (fun w => by simp [go_sem]) (by decide) (by decide) g _ _ _ (by omega) (fun q hq => by
     replace hq : q < (xs.length - i.toNat) * 3 := hq
     obtain ⟨c, hcl, _, hcc, _⟩ := Kd.R_elem HR.out z93 ((i.toNat + q / 3 : Nat) : Int) (by omega) (by omega)
     have h3 := hcc (q % 3) _ (List.getElem?_eq_getElem (show q % 3 < c.length by rw [hcl]; show q % 3 < 3; omega))
     rw [show ((i.toNat + q / 3 : Nat) : Int).toNat * k93.sz + q % 3 = i.toNat * 3 + q from by show _ * 3 + _ = _; omega] at h3
     rw [h3]; rfl) (fun q hq => by
     replace hq : q < (xs.length - i.toNat) * 3 := hq
     obtain ⟨c, hcl, _, _, hfr⟩ := Kd.R_elem HR.out z93 ((i.toNat + q / 3 : Nat) : Int) (by omega) (by omega)
     have h3 := hfr (q % 3)
     rwa [show ((i.toNat + q / 3 : Nat) : Int).toNat * k93.sz + q % 3 = i.toNat * 3 + q from by show _ * 3 + _ = _; omega] at h3)
   have HZ := Aside0.mk (df_zeros (d := k93) z93 [Value.string ⟨#[]⟩, Value.int .i64 0, Value.int .i64 0] rfl (fun W => k93_mkM _ _ _ z93) (xs.length - i.toNat) i.toNat dk wr (by omega) HR.out)
   have HJ := Aside0.mk hje
   clear hlt hje hfi h0 h1 hcc
   go_wp2
   go_ret
   obtain ⟨ys, ht, hR', hg'⟩ := HZ.out
   have hyl := (Kd.R_reads' hR').1
   have hi := H0.out
   have hj := H1.out
   have hjj := HJ.out
   refine ⟨_, rfl, ?_, HB.out.grown hg' HB.out.size (fun k hk => by cases hk; exact HG0.out), Kept.of_grown hg' HK.out (fun k hk => by cases hk; exact .inl rfl)⟩
   rw [HFI.out, ← ht]
   exact Kd.R_take hR' (by omega)
theorem impl_Hold_77.calls (v : Value) (xs : List S93) (gf : Nat) (lb : Array Value) (p : S93 → Bool) (ok : Nat → Prop) (w0 w : World) (hB : Below w0.heap.size w0 w) (hR : Kd.R k93 93 w w0.heap.size ok v xs)
  (eg : ∀ args w, (callFunc gf args).run Try.prog w = .ok (.enter gf args) w)
  (hp : ∀ (W : World) (x : S93), Kept w W (fun k => some k = v.ownBlock) → Calls Try.prog gf (#[.agg #[.string x.f0, .int .i64 x.f1, .int .i64 x.f2]] ++ lb) W fun e w' => e = .returned (.bool (p x)) ∧ Below W.heap.size W w') :
  Calls Try.prog 77 #[v, .func (.func gf) #[] lb] w fun e w' => ∃ v', e = .returned v' ∧ Kd.R k93 93 w' w0.heap.size ok v' (xs.filter (fun x => !p x)) ∧ Below w0.heap.size w0 w' ∧ Kept w w' (fun k => some k = v.ownBlock) := by
 cases hf : xs.findIdx? p with
 | none =>
  rw [List.findIdx?_eq_none_iff] at hf
  exact impl_Hold_77.calls_none v xs gf lb p ok w0 w hB hR eg hp (fun j hj => hf _ (List.getElem_mem _))
 | some i =>
  rw [List.findIdx?_eq_some_iff_getElem] at hf
  obtain ⟨hi, h1, h2⟩ := hf
  obtain ⟨g, cap, rfl, _⟩ := Kd.R_form hR (by omega)
  refine (impl_Hold_77.calls_some g cap xs gf lb p ok w0 w hB hR eg (fun W x hk => hp W x (Kept.mono hk (fun k e => by subst e; rfl))) i hi h1 (fun j hj => by simpa using h2 j hj)).mono ?_
  rintro e w' ⟨v', rfl, hr, hb, hk⟩
  exact ⟨v', rfl, hr, hb, Kept.mono hk (fun k e => by subst e; rfl)⟩

/-! ### impl_Hold_78: function 78 -/
def impl_Hold_78.f (l0 : List (S93)) : Option ((List (S93))) := (some (([] : List (S93)) : List (S93))).bind fun y251 => (if y251.length + l0.length < 4398046511104 then (some (y251 ++ l0)) else (none))
set_option maxHeartbeats 8000000 in
set_option maxRecDepth 100000 in
theorem impl_Hold_78.calls_some (ad0 : Addr) (c0 : Nat) (l0 : List (S93)) (r : List (S93)) (w : World) (hr0 : Kd.C k93 w (some ad0) l0.length l0) (hc0 : l0.length ≤ c0) (h : impl_Hold_78.f l0 = some r) :
  Calls Try.prog 78 #[.slice (some ad0) l0.length c0] w fun e w' => ∃ v0_ : Value, e = .returned (v0_) ∧ Kd.R k93 93 w' w.heap.size (fun _ => True) v0_ r ∧ Below w.heap.size w w' := by
 have q0_ : ∀ (n c : Nat) (W : World), (binOp .eql 24 (.slice (some ad0) n c) (.slice none 0 0)).run Try.prog W = .ok (.bool false) W := fun n c W => Lib.run_eql_slice_nil W _ _ (some ad0) n c 0 0 Try.underlying24
 have HR0 := Aside0.mk hr0
 have HC0 := Aside0.mk hc0
 clear hr0 hc0
 have HB := Aside0.mk (Below.refl w.heap.size w)
 have H : ((some (([] : List (S93)) : List (S93))).bind fun y251 => (if y251.length + l0.length < 4398046511104 then (some (y251 ++ l0)) else (none))) = some r := h
 clear h
 obtain ⟨y251, hy251⟩ : ∃ y_ : List (S93), y_ = (([] : List (S93))) := ⟨_, rfl⟩
 replace H : (if y251.length + l0.length < 4398046511104 then (some (y251 ++ l0)) else (none)) = some r := by first | (rw [hy251]; with_reducible exact H) | (have H2_ := (Option.bind_some _ _).symm.trans H; rw [hy251]; with_reducible exact H2_) | (have H2_ := (Option.bind_some _ _).symm.trans H; with_reducible exact H2_) | with_reducible exact H | (rw [hy251]; exact H) | exact H
 have Ny251 := Aside0.mk hy251
 clear hy251
 by_cases c2 : y251.length + l0.length < 4398046511104
 ·rw [if_pos c2] at H
  have LMc2 := Aside0.mk c2
  clear c2
  obtain ⟨y254, hy254⟩ : ∃ y_ : List (S93), y_ = (y251 ++ l0) := ⟨_, rfl⟩
  replace H : (some y254) = some r := by first | (rw [hy254]; with_reducible exact H) | (have H2_ := (Option.bind_some _ _).symm.trans H; rw [hy254]; with_reducible exact H2_) | (have H2_ := (Option.bind_some _ _).symm.trans H; with_reducible exact H2_) | with_reducible exact H | (rw [hy254]; exact H) | exact H
  have Ny254 := Aside0.mk hy254
  clear hy254
  obtain rfl := Option.some.inj H
  go_enter Try.func78, Try.ntmps78
  go_wp2_with (first | ((with_reducible refine gate_dst (N := 5) rfl ?_); refine Kd.R_lit k93 _ 93 ?hg (N := 5) ?hd (xs := ([] : List (S93))) (inner := []) (ok := fun _ => True) (okp := fun _ => True) ?hr ?hp (fun _ hk => hk) trivial (Below.refl _ _) (Nat.le_refl _) (by simp) ?_; (case hd => rfl); (case hg => rfl); (case hr => first | (go_simp; done) | (go_simp; rfl)); (case hp => exact (Reps.none _ _)); intro v252 w3 ho4 hb hg_ hnew_; clear hg_ hnew_; (first | rw [← Ny251.out] at ho4 | (simp only [Int.reduceToNat] at ho4; rw [← Ny251.out] at ho4)); have n0_ := Aside0.mk (Kd.R_lower ho4 (below_size bl_)); have n1_ := Aside0.mk (below_step bl_ hb); clear HB; have HO253 := n0_; have HB := n1_; clear n0_ n1_; clear hb ho4) | ((with_reducible refine gate_builtin (b := .append) (xs := #[.tmp 5, .tmp 6]) rfl ?_); at_builtin; refine Kd.R_append_rows k93 (w0 := w) w.heap.size rfl (.tmp 5) (.tmp 6) 24 93 (.agg #[(.string ⟨#[]⟩), (.int .i64 0), (.int .i64 0)]) 32 rfl Try.underlying24 info93 rfl (by decide) (by omega) v252 y251 l0 _ _ _ (fun _ => True) (fun _ => False) rfl rfl ?aO ?aR (fun _ _ h => h) (fun _ h => h.elim) ?aF ?aB ?aS ?aL ?_; (case aR => exact ca_ (Kd.C_below HR0.out HB.out)); (case aB => exact bl_); (case aF => exact (fun _ _ => trivial)); (case aO => exact (ra_ HO253)); (case aS => exact (below_size bl_)); (case aL => have := LMc2.out; omega); intro v255 w5 ho hb hg hat; rw [← Ny254.out] at ho; have n0_ := Aside0.mk (hb); have n1_ := Aside0.mk (ho); clear HB; clear HO253; have HB := n0_; have HO256 := n1_; clear n0_ n1_; clear ho hb hg hat))
  go_ret
  exact ⟨_, by first | rfl | (simp [errW_none, errW_some] <;> rfl) | (simp [*, errW_none, errW_some] <;> rfl), ra_ HO256, bl_⟩
 ·rw [if_neg c2] at H
  exact absurd H (by simp)

set_option maxHeartbeats 8000000 in
set_option maxRecDepth 100000 in
theorem impl_Hold_78.calls_none (c0 : Nat) (l0 : List (S93)) (r : List (S93)) (w : World) (hr0 : Kd.C k93 w none l0.length l0) (hc0 : l0.length ≤ c0) (h : impl_Hold_78.f l0 = some r) :
  Calls Try.prog 78 #[.slice none l0.length c0] w fun e w' => ∃ v0_ : Value, e = .returned (v0_) ∧ Kd.R k93 93 w' w.heap.size (fun _ => True) v0_ r ∧ Below w.heap.size w w' := by
 have q0_ : ∀ (n c : Nat) (W : World), (binOp .eql 24 (.slice none n c) (.slice none 0 0)).run Try.prog W = .ok (.bool true) W := fun n c W => Lib.run_eql_slice_nil W _ _ none n c 0 0 Try.underlying24
 have hn : l0 = [] := List.eq_nil_of_length_eq_zero (Nat.eq_zero_of_not_pos (fun hp => by obtain ⟨a, ha, _⟩ := hr0.2.2 hp; cases ha))
 subst hn
 have hr : r = [] := by simp [impl_Hold_78.f] at h; first | exact h | exact h.symm
 subst hr
 clear hr0 hc0 h
 go_enter Try.func78, Try.ntmps78
 go_wp2
 go_ret
 exact ⟨_, rfl, Kd.R_nil _ _ _ _ _, by repeat (first | exact Below.refl _ _ | apply below_alloc | apply pw_below_drewN | apply below_drew1)⟩
set_option maxHeartbeats 8000000 in
set_option maxRecDepth 100000 in
theorem impl_Hold_78.calls (A0 : Option Addr) (c0 : Nat) (l0 : List (S93)) (r : List (S93)) (w : World) (hr0 : Kd.C k93 w A0 l0.length l0) (hc0 : l0.length ≤ c0) (h : impl_Hold_78.f l0 = some r) :
  Calls Try.prog 78 #[.slice A0 l0.length c0] w fun e w' => ∃ v0_ : Value, e = .returned (v0_) ∧ Kd.R k93 93 w' w.heap.size (fun _ => True) v0_ r ∧ Below w.heap.size w w' := by
 cases A0 with
 | none => exact impl_Hold_78.calls_none c0 l0 r w hr0 hc0 h
 | some ad0 => exact impl_Hold_78.calls_some ad0 c0 l0 r w hr0 hc0 h

/-! ### impl_Live: function 84 -/
def impl_Live.f (a0_0 : ByteArray) (a0_1 : Int) (a0_2 : Int) (a1 : Int) : Option (Bool) := some (decide (a0_2 > a1))
set_option maxHeartbeats 8000000 in
set_option maxRecDepth 100000 in
theorem impl_Live.calls (a0_0 : ByteArray) (a0_1 : Int) (a0_2 : Int) (a1 : Int) (r : Bool) (w : World) (h : impl_Live.f a0_0 a0_1 a0_2 a1 = some r) :
  Calls Try.prog 84 #[.agg #[.string a0_0, .int .i64 a0_1, .int .i64 a0_2], .int .i64 a1] w fun e w' => e = .returned (.bool r) ∧ Below w.heap.size w w' := by
 have hu93 := Try.underlying93
 have HB := Aside0.mk (Below.refl w.heap.size w)
 have H : (some (decide (a0_2 > a1))) = some r := h
 clear h
 obtain rfl := Option.some.inj H
 go_enter Try.func84, Try.ntmps84
 go_wp2_with (first | ((with_reducible refine gate_dst (N := 2) rfl ?_); refine box_event ?hg (N := 2) ?hd (cs := #[.string a0_0, .int .i64 a0_1, .int .i64 a0_2]) (t := 93) ?hr ?_; (case hd => rfl); (case hg => rfl); (case hr => first | (go_simp; done) | (go_simp; rfl)); intro gb257 hg w3 hbox hb; have n0_ := Aside0.mk (below_step bl_ hb); have n1_ := Aside0.mk (hbox); have n2_ := gw_ (w := w) hg; have n3_ := gw_ (w := w) hg; clear HB; have HB := n0_; have BK257 := n1_; have GW257 := n2_; have GE257 := n3_; clear n0_ n1_ n2_ n3_; clear hb hbox hg; have hcz4_0 := cz_ BK257 0 (.string a0_0); have hcz4_1 := cz_ BK257 1 (.int .i64 a0_1); have hcz4_2 := cz_ BK257 2 (.int .i64 a0_2); have hfz4_0 := fz_ BK257 0; have hfz4_1 := fz_ BK257 1; have hfz4_2 := fz_ BK257 2))
 go_ret
 exact ⟨sq_, bl_⟩

-- NOT PRINTED: function 83 (impl_LiveOnes_1)

/-! ### impl_LiveOnes: function 23 -/
set_option maxRecDepth 100000 in
theorem impl_LiveOnes.clo (x : S93) (a1 : Int) (B : Nat) (w : World) (ha : w.heap[B]? = some (.cells #[.int .i64 a1] 3 (0, 0))) :
  Calls Try.prog 83 #[.agg #[.string x.f0, .int .i64 x.f1, .int .i64 x.f2], .pointer (some ⟨B, 0, none⟩)] w fun e w' => e = .returned (.bool (!decide (x.f2 > a1))) ∧ Below w.heap.size w w' := by
 have hu93 := Try.underlying93
 have hlta := blk_lt ha
 have hca := blk_cell ha 0
 have hfa := blk_frozen ha 0
 clear ha
 go_enter Try.func83, Try.ntmps83
 go_wp2_with (go_at_call 84; refine (impl_Live.calls _ _ _ _ _ _ rfl).mono ?_; rintro e w' ⟨rfl, hb⟩)
 go_ret
 exact ⟨by first | rfl | simp, by first | exact below_then (below_alloc (Below.refl _ _) _) (by simp) (by assumption) | (repeat (first | exact Below.refl _ _ | apply below_alloc | apply pw_below_drewN | apply below_drew1))⟩
def impl_LiveOnes.f (l0 : List S93) (a1 : Int) : Option (List S93) := (impl_Hold_78.f l0).bind fun l => some (l.filter (fun x => !(!decide (x.f2 > a1))))
set_option maxHeartbeats 2000000 in
set_option maxRecDepth 100000 in
theorem impl_LiveOnes.calls (A0 : Option Addr) (c0 : Nat) (l0 : List (S93)) (a1 : Int) (r : List (S93)) (w : World) (hr0 : Kd.C k93 w A0 l0.length l0) (hc0 : l0.length ≤ c0) (h : impl_LiveOnes.f l0 a1 = some r) :
  Calls Try.prog 23 #[.slice A0 l0.length c0, .int .i64 a1] w fun e w' => ∃ v0_ : Value, e = .returned (v0_) ∧ Kd.R k93 93 w' w.heap.size (fun _ => True) v0_ r ∧ Below w.heap.size w w' := by
 obtain ⟨l, hl, h⟩ := Option.bind_eq_some_iff.1 h
 obtain rfl := Option.some.inj h
 clear h
 have HR0 := Aside0.mk hr0
 have HC0 := Aside0.mk hc0
 have HL := Aside0.mk hl
 clear hr0 hc0 hl
 go_enter Try.func23, Try.ntmps23
 go_wp2_with (first | (go_at_call 78; refine (impl_Hold_78.calls A0 c0 l0 l _ (Kd.C_alloc HR0.out _) HC0.out HL.out).mono ?_; rintro e w2 ⟨v, rfl, ho, hb⟩; have HO := Aside0.mk ho; have HB := Aside0.mk hb; clear ho hb) | (go_at_call 77; refine (impl_Hold_77.calls v l 83 #[.pointer (some ⟨w.heap.size, 0, none⟩)] (fun x => !decide (x.f2 > a1)) (fun _ => True) w _ (below_then (below_alloc (Below.refl _ _) _) (by simp) HB.out) (Kd.R_lower HO.out (by simp)) (fun _ _ => by kernel_rfl) (fun W x hk => impl_LiveOnes.clo x a1 w.heap.size W ((hk.2 w.heap.size (by have := HB.out.size; simp at this; omega) (fun e => by have := Kd.R_base HO.out _ e.symm; simp at this; omega)).trans ((HB.out.block _ (by simp)).trans (heap_alloc_new w _))))).mono ?_; rintro e w3 ⟨v', rfl, hr, hb, _⟩))
 go_ret
 exact ⟨v', rfl, hr, hb⟩

/-! ### impl_AddSat: function 137 -/
def impl_AddSat.f (a0 : Int) (a1 : Int) : Option (Int) := if (mx 0 (mn a0 4611686018427387904)) > (4611686018427387904 - (mx 0 (mn a1 4611686018427387904))) then (some 4611686018427387904) else (some (wrap64 ((mx 0 (mn a0 4611686018427387904)) + (mx 0 (mn a1 4611686018427387904)))))
set_option maxHeartbeats 8000000 in
set_option maxRecDepth 100000 in
theorem impl_AddSat.calls (a0 : Int) (a1 : Int) (r : Int) (w : World) (h : impl_AddSat.f a0 a1 = some r) :
  Calls Try.prog 137 #[.int .i64 a0, .int .i64 a1] w fun e w' => e = .returned (.int .i64 r) ∧ Below w.heap.size w w' := by
 have HB := Aside0.mk (Below.refl w.heap.size w)
 have H : (if (mx 0 (mn a0 4611686018427387904)) > (4611686018427387904 - (mx 0 (mn a1 4611686018427387904))) then (some 4611686018427387904) else (some (wrap64 ((mx 0 (mn a0 4611686018427387904)) + (mx 0 (mn a1 4611686018427387904)))))) = some r := h
 clear h
 obtain ⟨ji3, hji3⟩ : ∃ j_ : Int, (mn a0 4611686018427387904) = j_ := ⟨_, rfl⟩
 replace H : (if (mx 0 (ji3)) > (4611686018427387904 - (mx 0 (mn a1 4611686018427387904))) then (some 4611686018427387904) else (some (wrap64 ((mx 0 (ji3)) + (mx 0 (mn a1 4611686018427387904)))))) = some r := by first | (rw [hji3] at H; exact H) | (simp only [hji3] at H ⊢; exact H)
 (try (have hji3h : ji3 ≤ 4611686018427387904 := by (rw [← hji3]; unfold mn; (repeat' split) <;> omega)))
 (try (have hji3g : ji3 ≤ 64 := by omega))
 have hji3_ : (if 4611686018427387904 < a0 then 4611686018427387904 else a0) = ji3 := hji3
 obtain ⟨ji4, hji4⟩ : ∃ j_ : Int, (mx 0 (ji3)) = j_ := ⟨_, rfl⟩
 replace H : (if (ji4) > (4611686018427387904 - (mx 0 (mn a1 4611686018427387904))) then (some 4611686018427387904) else (some (wrap64 ((ji4) + (mx 0 (mn a1 4611686018427387904)))))) = some r := by first | (rw [hji4] at H; exact H) | (simp only [hji4] at H ⊢; exact H)
 have hji4_ : (if 0 < (ji3) then (ji3) else 0) = ji4 := hji4
 obtain ⟨ji5, hji5⟩ : ∃ j_ : Int, (mn a1 4611686018427387904) = j_ := ⟨_, rfl⟩
 replace H : (if (ji4) > (4611686018427387904 - (mx 0 (ji5))) then (some 4611686018427387904) else (some (wrap64 ((ji4) + (mx 0 (ji5)))))) = some r := by first | (rw [hji5] at H; exact H) | (simp only [hji5] at H ⊢; exact H)
 (try (have hji5h : ji5 ≤ 4611686018427387904 := by (rw [← hji5]; unfold mn; (repeat' split) <;> omega)))
 (try (have hji5g : ji5 ≤ 64 := by omega))
 have hji5_ : (if 4611686018427387904 < a1 then 4611686018427387904 else a1) = ji5 := hji5
 obtain ⟨ji6, hji6⟩ : ∃ j_ : Int, (mx 0 (ji5)) = j_ := ⟨_, rfl⟩
 replace H : (if (ji4) > (4611686018427387904 - (ji6)) then (some 4611686018427387904) else (some (wrap64 ((ji4) + (ji6))))) = some r := by first | (rw [hji6] at H; exact H) | (simp only [hji6] at H ⊢; exact H)
 have hji6_ : (if 0 < (ji5) then (ji5) else 0) = ji6 := hji6
 by_cases c7 : (ji4) > (4611686018427387904 - (ji6))
 ·rw [if_pos c7] at H
  have c7b0 : decide ((4611686018427387904 - (ji6)) < (ji4)) = true := decide_eq_true c7
  clear c7
  obtain rfl := Option.some.inj H
  go_enter Try.func137, Try.ntmps137
  go_wp2
  go_ret
  exact ⟨by first | rfl | (simp [errW_none, errW_some] <;> rfl) | (simp only [← hji3, ← hji4, ← hji5, ← hji6]; first | rfl | (simp [errW_none, errW_some] <;> rfl)) | (simp [*, errW_none, errW_some] <;> rfl), bl_⟩
 ·rw [if_neg c7] at H
  have c7b0 : decide ((4611686018427387904 - (ji6)) < (ji4)) = false := decide_eq_false c7
  clear c7
  obtain rfl := Option.some.inj H
  go_enter Try.func137, Try.ntmps137
  go_wp2
  go_ret
  exact ⟨by first | rfl | (simp [errW_none, errW_some] <;> rfl) | (simp only [← hji3, ← hji4, ← hji5, ← hji6]; first | rfl | (simp [errW_none, errW_some] <;> rfl)) | (simp [*, errW_none, errW_some] <;> rfl), bl_⟩

/-! ### impl_Stored: function 86 -/
def impl_Stored.l0 : Nat → Int → List (S93) → Int → Int → Option (Int)
 | 0, _, _, _, _ => none
 | k + 1, x3, x6, x7, x8 => if x8 < x7 then (if 0 ≤ x8 then (if x8 < (x6.length : Int) then ((impl_AddSat.f x3 ((rd_T93 x6 x8).f1)).bind fun t261 => (impl_Stored.l0 k t261 x6 x7 (wrap64 (x8 + 1)))) else (none)) else (none)) else (some x3)
def impl_Stored.f (k : Nat) (l0 : List (S93)) : Option (Int) := impl_Stored.l0 k 0 l0 (l0.length : Int) 0
theorem impl_Stored.mono_l : ∀ k, (∀ y0 y1 y2 y3, LeO (impl_Stored.l0 k y0 y1 y2 y3) (impl_Stored.l0 (k + 1) y0 y1 y2 y3))
 | 0 => fun _ _ _ _ r h => by simp [impl_Stored.l0] at h
 | k + 1 => by
  have ih0 := impl_Stored.mono_l k
  ·intro y0 y1 y2 y3
   unfold impl_Stored.l0
   repeat' first
   | (with_reducible exact ih0 _ _ _ _)
   | (with_reducible exact LeO.refl _)
   | (with_reducible exact LeO.none _)
   | (with_reducible refine LeO.ite ?_ ?_)
   | (with_reducible refine LeO.bind ?_ (fun _ => ?_))
   | exact ih0 _ _ _ _
   | exact LeO.none _
   | refine LeO.ite ?_ ?_
   | refine LeO.bind ?_ (fun _ => ?_)
theorem impl_Stored.mono : ∀ a0 k, LeO (impl_Stored.f k a0) (impl_Stored.f (k + 1) a0) := by
 intro a0 k
 have ih0 := impl_Stored.mono_l k
 unfold impl_Stored.f
 repeat' first
   | (with_reducible exact ih0 _ _ _ _)
   | (with_reducible exact LeO.refl _)
   | (with_reducible exact LeO.none _)
   | (with_reducible refine LeO.ite ?_ ?_)
   | (with_reducible refine LeO.bind ?_ (fun _ => ?_))
   | exact ih0 _ _ _ _
   | exact LeO.none _
   | refine LeO.ite ?_ ?_
   | refine LeO.bind ?_ (fun _ => ?_)
set_option maxHeartbeats 8000000 in
set_option maxRecDepth 100000 in
theorem impl_Stored.calls (k : Nat) (A0 : Option Addr) (c0 : Nat) (l0 : List (S93)) (r : Int) (w : World) (hr0 : Kd.C k93 w A0 l0.length l0) (hc0 : l0.length ≤ c0) (h : impl_Stored.f k l0 = some r) :
  Calls Try.prog 86 #[.slice A0 l0.length c0] w fun e w' => e = .returned (.int .i64 r) ∧ Below w.heap.size w w' := by
 have hu93 := Try.underlying93
 have HR0 := Aside0.mk hr0
 have HC0 := Aside0.mk hc0
 clear hr0 hc0
 have HB := Aside0.mk (Below.refl w.heap.size w)
 have H : (impl_Stored.l0 k 0 l0 (l0.length : Int) 0) = some r := h
 clear h
 have H' := Aside0.mk H
 clear H
 go_enter Try.func86, Try.ntmps86
 go_wp2
 go_loopg [3, 8] k (fun kq v3 v8 w' => ∃ (x3_1 : Int) (x8_1 : Int), v3 = .int .i64 x3_1 ∧ v8 = .int .i64 x8_1 ∧ Aside0 (impl_Stored.l0 kq x3_1 l0 (l0.length : Int) x8_1 = some r) ∧ Aside0 (kq ≤ k) ∧ Aside0 (Below w.heap.size w w'))
 case atStart => exact ⟨(0), (0), sp_, sp_, H', ⟨Nat.le_refl _⟩, ⟨bl_⟩⟩
 case round =>
  clear H'
  obtain ⟨x3_1, x8_1, rfl, rfl, HA, HK1, HB⟩ := hrel
  cases gk with
  | zero => exact absurd HA.out (by simp [impl_Stored.l0])
  | succ k1 =>
   have H := HA.out
   clear HA
   simp only [impl_Stored.l0] at H
   by_cases c2 : x8_1 < (l0.length : Int)
   ·rw [if_pos c2] at H
    have c2b0 : decide (x8_1 < (l0.length : Int)) = true := decide_eq_true c2
    clear c2
    by_cases c3 : 0 ≤ x8_1
    ·rw [if_pos c3] at H
     have c3b0 : decide (0 ≤ x8_1) = true := decide_eq_true c3
     clear c3
     by_cases c4 : x8_1 < (l0.length : Int)
     ·rw [if_pos c4] at H
      have c4b0 : decide (x8_1 < (l0.length : Int)) = true := decide_eq_true c4
      clear c4
      replace H := Option.bind_eq_some_iff.mp H
      obtain ⟨t261, A50, H⟩ := H
      replace H : (impl_Stored.l0 k1 t261 l0 (l0.length : Int) (wrap64 (x8_1 + 1))) = some r := H
      have A5 := Aside0.mk A50
      clear A50
      have H' := Aside0.mk H
      clear H
      have p259 : 0 ≤ (x8_1 : Int) := od_
      have q259 : x8_1 < (l0.length : Int) := od_
      obtain ⟨ad259, e259, hx259_0, hx259_1, hx259_2⟩ := at_T93 HR0.out x8_1 p259 q259
      cases e259
      replace hx259_0 := kc_ HB hx259_0
      replace hx259_1 := kc_ HB hx259_1
      replace hx259_2 := kc_ HB hx259_2
      replace p259 := eq_true p259
      replace q259 := eq_true q259
      go_wp2_with (first | ((with_reducible refine gate_dst (N := 5) rfl ?_); refine box_event ?hg (N := 5) ?hd (cs := #[.string (⟨#[]⟩ : ByteArray), .int .i64 0, .int .i64 0]) (t := 93) ?hr ?_; (case hd => rfl); (case hg => rfl); (case hr => first | (go_simp; done) | (go_simp; rfl)); intro gb260 hg w6 hbox hb; have n0_ := Aside0.mk (below_step bl_ hb); have n1_ := Aside0.mk (hbox); have n2_ := gw_ (w := w) hg; have n3_ := gw_ (w := w) hg; clear HB; have HB := n0_; have BK260 := n1_; have GW260 := n2_; have GE260 := n3_; clear n0_ n1_ n2_ n3_; clear hb hbox hg; have hcz7_0 := cz_ BK260 0 (.string (⟨#[]⟩ : ByteArray)); have hcz7_1 := cz_ BK260 1 (.int .i64 0); have hcz7_2 := cz_ BK260 2 (.int .i64 0); have hfz7_0 := fz_ BK260 0; have hfz7_1 := fz_ BK260 1; have hfz7_2 := fz_ BK260 2) | ((with_reducible refine gate_callee (f := 137) rfl ?_); refine goesL_ (some 15) rfl rfl Try.func137 (by kernel_rfl) rfl #[.int .i64 x3_1, .int .i64 ((rd_T93 l0 x8_1).f1)] rfl gl_ ?_; (with_reducible refine (impl_AddSat.calls x3_1 ((rd_T93 l0 x8_1).f1) t261 _ A5.out).mono ?_); rintro e w8 ⟨rfl, hb⟩; refine ⟨_, rfl, ?_⟩; have n0_ := Aside0.mk (blk_below (g := gb260) (o := .cells #[.string ((rd_T93 l0 x8_1).f0), .int .i64 ((rd_T93 l0 x8_1).f1), .int .i64 ((rd_T93 l0 x8_1).f2)] 93 (0, 0)) (by (with_reducible repeat (first | refine blk_drewN ?_ _ | refine blk_drew ?_ | refine blk_alloc ?_ _)); refine blk_put (cs := #[.string ((rd_T93 l0 x8_1).f0), .int .i64 ((rd_T93 l0 x8_1).f1), .int .i64 0]) ?_ 2 _ rfl; refine blk_put (cs := #[.string ((rd_T93 l0 x8_1).f0), .int .i64 0, .int .i64 0]) ?_ 1 _ rfl; refine blk_put (cs := #[.string (⟨#[]⟩ : ByteArray), .int .i64 0, .int .i64 0]) ?_ 0 _ rfl; (with_reducible repeat (first | refine blk_drewN ?_ _ | refine blk_drew ?_ | refine blk_alloc ?_ _)); exact BK260.out) hb); have n1_ := Aside0.mk (below_step bl_ hb); clear BK260; clear HB; have BK260 := n0_; have HB := n1_; clear n0_ n1_; (try clear hb); (try clear hb2); (try clear hk); (try clear hi)))
      go_roundg k1
      case measure => have := HK1.out; omega
      case rel => exact ⟨(t261), (wrap64 (x8_1 + 1)), sp_, sp_, H', ⟨by have := HK1.out; omega⟩, ⟨bl_⟩⟩
     ·rw [if_neg c4] at H
      exact absurd H (by simp)
    ·rw [if_neg c3] at H
     exact absurd H (by simp)
   ·rw [if_neg c2] at H
    have c2b0 : decide (x8_1 < (l0.length : Int)) = false := decide_eq_false c2
    clear c2
    obtain rfl := Option.some.inj H
    go_wp2
    go_ret
    exact ⟨sq_, bl_⟩

/-! ### impl_LiveSum: function 25 -/
def impl_LiveSum.f (k : Nat) (l0 : List (S93)) (a1 : Int) : Option (Int) := (impl_LiveOnes.f l0 a1).bind fun t262 => ((impl_Stored.f k t262).bind fun t265 => (some t265))
theorem impl_LiveSum.mono : ∀ a0 a1 k, LeO (impl_LiveSum.f k a0 a1) (impl_LiveSum.f (k + 1) a0 a1) := by
 intro a0 a1 k
 unfold impl_LiveSum.f
 repeat' first
   | (with_reducible exact impl_Stored.mono _ _)
   | (with_reducible exact LeO.refl _)
   | (with_reducible exact LeO.none _)
   | (with_reducible refine LeO.ite ?_ ?_)
   | (with_reducible refine LeO.bind ?_ (fun _ => ?_))
   | exact impl_Stored.mono _ _
   | exact LeO.none _
   | refine LeO.ite ?_ ?_
   | refine LeO.bind ?_ (fun _ => ?_)
set_option maxHeartbeats 8000000 in
set_option maxRecDepth 100000 in
theorem impl_LiveSum.calls (k : Nat) (A0 : Option Addr) (c0 : Nat) (l0 : List (S93)) (a1 : Int) (r : Int) (w : World) (hr0 : Kd.C k93 w A0 l0.length l0) (hc0 : l0.length ≤ c0) (h : impl_LiveSum.f k l0 a1 = some r) :
  Calls Try.prog 25 #[.slice A0 l0.length c0, .int .i64 a1] w fun e w' => e = .returned (.int .i64 r) ∧ Below w.heap.size w w' := by
 have HR0 := Aside0.mk hr0
 have HC0 := Aside0.mk hc0
 clear hr0 hc0
 have HB := Aside0.mk (Below.refl w.heap.size w)
 have H : ((impl_LiveOnes.f l0 a1).bind fun t262 => ((impl_Stored.f k t262).bind fun t265 => (some t265))) = some r := h
 clear h
 replace H := Option.bind_eq_some_iff.mp H
 obtain ⟨t262, A30, H⟩ := H
 replace H : ((impl_Stored.f k t262).bind fun t265 => (some t265)) = some r := H
 have A3 := Aside0.mk A30
 clear A30
 replace H := Option.bind_eq_some_iff.mp H
 obtain ⟨t265, A40, H⟩ := H
 replace H : (some t265) = some r := H
 have A4 := Aside0.mk A40
 clear A40
 obtain rfl := Option.some.inj H
 go_enter Try.func25, Try.ntmps25
 go_wp2_with (first | ((with_reducible refine gate_callee (f := 23) rfl ?_); refine goesL_ (some 7) rfl rfl Try.func23 (by kernel_rfl) rfl #[.slice A0 l0.length c0, .int .i64 a1] rfl gl_ ?_; (with_reducible refine (impl_LiveOnes.calls _ _ l0 a1 t262 _ ?side1 ?side2 A3.out).mono ?_); (case side1 => exact ca_ (HR0.out)); (case side2 => exact HC0.out); rintro e w5 ⟨v263, rfl, ho0, hb⟩; refine ⟨_, rfl, ?_⟩; have n0_ := Aside0.mk (Kd.R_lower ho0 (below_size bl_)); have n1_ := Aside0.mk (below_step bl_ hb); clear HB; have HO264 := n0_; have HB := n1_; clear n0_ n1_; (try clear hb); (try clear hb2); (try clear hk); (try clear hi); (try clear ho0); obtain ⟨Ao6, co6, eo6⟩ := Kd.R_slice HO264.out; subst eo6) | ((with_reducible refine gate_callee (f := 86) rfl ?_); refine goesL_ (some 8) rfl rfl Try.func86 (by kernel_rfl) rfl #[.slice Ao6 t262.length co6] rfl gl_ ?_; (with_reducible refine (impl_Stored.calls k _ _ t262 t265 _ ?side1 ?side2 A4.out).mono ?_); (case side1 => exact ca_ ((Kd.R_reads' HO264.out).2.2)); (case side2 => exact (Kd.R_reads' HO264.out).2.1); rintro e w7 ⟨rfl, hb⟩; refine ⟨_, rfl, ?_⟩; have n0_ := Aside0.mk (Kd.R_below (ra_ HO264) hb); have n1_ := Aside0.mk (below_step bl_ hb); clear HO264; clear HB; have HO264 := n0_; have HB := n1_; clear n0_ n1_; (try clear hb); (try clear hb2); (try clear hk); (try clear hi)))
 go_ret
 exact ⟨sq_, bl_⟩

-- NOT PRINTED: function 162 (impl_slotAt_1)

/-! ### impl_slotAt: function 108 -/
theorem impl_slotAt.rdN {xs : List S74} {x : Int} (h : x.toNat < xs.length) : rd_T74 xs x = xs[x.toNat] := by
 unfold rd_T74
 rw [List.getD_eq_getElem?_getD, List.getElem?_eq_getElem h]; rfl
def impl_slotAt.idxF (p : S74 → Bool) (xs : List S74) : Int := match xs.findIdx? p with | some j => (j : Int) | none => -1
theorem impl_slotAt.idxF_none (p : S74 → Bool) (xs : List S74) (h : ∀ j (hj : j < xs.length), p xs[j] = false) : impl_slotAt.idxF p xs = -1 := by
 unfold impl_slotAt.idxF
 have : xs.findIdx? p = none := by
  rw [List.findIdx?_eq_none_iff]
  intro x hx
  obtain ⟨j, hj, rfl⟩ := List.getElem_of_mem hx
  exact h j hj
 rw [this]
theorem impl_slotAt.idxF_some (p : S74 → Bool) (xs : List S74) (i : Nat) (hi : i < xs.length) (hp : p xs[i] = true) (h : ∀ j (hj : j < i), p (xs[j]'(by omega)) = false) : impl_slotAt.idxF p xs = (i : Int) := by
 unfold impl_slotAt.idxF
 have : xs.findIdx? p = some i := by
  rw [List.findIdx?_eq_some_iff_getElem]
  exact ⟨hi, hp, fun j hj => by simpa using h j hj⟩
 rw [this]
set_option maxHeartbeats 2000000 in
set_option maxRecDepth 100000 in
theorem impl_slotAt.idx (A0 : Option Addr) (c0 : Nat) (l0 : List S74) (g : Nat) (lb : Array Value) (p : S74 → Bool) (w : World) (hr0 : Kd.C k74 w A0 l0.length l0) (hc0 : l0.length ≤ c0)
  (eg : ∀ args w, (callFunc g args).run Try.prog w = .ok (.enter g args) w)
  (hp : ∀ (W : World) (x : S74) (A2 : Option Addr) (c2 : Nat), Below w.heap.size w W → Calls Try.prog g (#[.agg #[.string x.f0, .string x.f1, .slice A2 x.f2.length c2]] ++ lb) W fun e w' => e = .returned (.bool (p x)) ∧ Below W.heap.size W w') :
  Calls Try.prog 161 #[.slice A0 l0.length c0, .func (.func g) #[] lb] w fun e w' => e = .returned (.int .i64 (impl_slotAt.idxF p l0)) ∧ Below w.heap.size w w' := by
 have hlen : l0.length ≤ 9223372036854775807 := hr0.2.1
 have HR0 := Aside0.mk hr0
 have HL := Aside0.mk hlen
 have HP := Aside0.mk hp
 clear hr0 hp
 have HB := Aside0.mk (Below.refl w.heap.size w)
 have hu74 := Try.underlying74
 clear hlen hc0
 go_enter Try.func161, Try.ntmps161
 go_wp2
 go_loopg [5, 8] l0.length (fun gg _ s8 wr => ∃ x : Int, s8 = .int .i64 x ∧ Aside0 (0 ≤ x) ∧ Aside0 (x ≤ l0.length) ∧ Aside0 (l0.length - x.toNat ≤ gg) ∧ Aside0 (∀ j (hj : j < l0.length), (j : Int) < x → p l0[j] = false) ∧ Aside0 (Below w.heap.size w wr))
 case atStart => exact ⟨0, rfl, ⟨by omega⟩, ⟨by omega⟩, ⟨by omega⟩, ⟨fun j hj h => by omega⟩, ⟨Below.refl _ w⟩⟩
 case round =>
  obtain ⟨x, rfl, H0, H1, HG, AF, HB⟩ := hrel
  by_cases hlt : x < (l0.length : Int)
  ·have hN : x.toNat < l0.length := by have := H0.out; omega
   have HN := Aside0.mk hN
   have c0 : decide (x < (l0.length : Int)) = true := decide_eq_true hlt
   obtain ⟨ad, A2, c2, e, hx0, hx1, hx2, hl2, hi2⟩ := at_T74 HR0.out x H0.out hlt
   cases e
   replace hx0 := kc_ HB hx0
   replace hx1 := kc_ HB hx1
   replace hx2 := kc_ HB hx2
   have p0 := eq_true H0.out
   have q0 := eq_true hlt
   clear hN hlt
   have HX := Aside0.mk (impl_slotAt.rdN HN.out)
   cases hq : p (rd_T74 l0 x) with
   | true =>
    have HC := Aside0.mk (hq ▸ HP.out wr (rd_T74 l0 x) A2 c2 HB.out)
    have HQ := Aside0.mk hq
    clear hq
    go_wp2_with (go_at_fn g; refine HC.out.mono ?_; rintro e w' ⟨rfl, hb'⟩)
    go_ret
    exact ⟨by show Ending.returned (Value.int .i64 x) = _; rw [impl_slotAt.idxF_some p l0 x.toNat HN.out (by rw [← HX.out]; exact HQ.out) (fun j hj => AF.out j (by have := HN.out; omega) (by omega)), Int.toNat_of_nonneg H0.out], below_step HB.out hb'⟩
   | false =>
    have HC := Aside0.mk (hq ▸ HP.out wr (rd_T74 l0 x) A2 c2 HB.out)
    have HQ := Aside0.mk hq
    clear hq
    go_wp2_with (go_at_fn g; refine HC.out.mono ?_; rintro e w' ⟨rfl, hb'⟩; have HB' := Aside0.mk hb'; clear hb')
    have hw := HL.out
    have e1 : wrap64 (x + 1) = x + 1 := by have := HN.out; have := H0.out; unfold wrap64; omega
    go_roundg (l0.length - (x.toNat + 1))
    case measure => have := HG.out; have := HN.out; omega
    case rel =>
     have hN := HN.out
     have h0 := H0.out
     refine ⟨wrap64 (x + 1), (by first | rfl | (simp; done) | (simp [*]; done)), ⟨by omega⟩, ⟨by omega⟩, ⟨by omega⟩, ⟨fun j hj h => ?_⟩, ⟨below_step HB.out HB'.out⟩⟩
     by_cases e : j = x.toNat
     ·subst e; rw [← HX.out]; exact HQ.out
     ·exact AF.out j hj (by omega)
  ·have c0 : decide (x < (l0.length : Int)) = false := decide_eq_false hlt
   have HN := Aside0.mk hlt
   clear hlt
   go_wp2
   go_ret
   exact ⟨by show Ending.returned (Value.int .i64 (-1)) = _; rw [impl_slotAt.idxF_none p l0 (fun j hj => AF.out j hj (by have := HN.out; omega))], HB.out⟩

set_option maxRecDepth 100000 in
theorem impl_slotAt.clo (x : S74) (A2 : Option Addr) (c2 : Nat) (a1 : ByteArray) (a2 : ByteArray) (Ba1 Ba2 : Nat) (w : World) (ha1 : w.heap[Ba1]? = some (.cells #[.string a1] 9 (0, 0))) (ha2 : w.heap[Ba2]? = some (.cells #[.string a2] 9 (0, 0))) :
  Calls Try.prog 162 #[.agg #[.string x.f0, .string x.f1, .slice A2 x.f2.length c2], .pointer (some ⟨Ba1, 0, none⟩), .pointer (some ⟨Ba2, 0, none⟩)] w fun e w' => e = .returned (.bool (x.f0.toList == a1.toList && x.f1.toList == a2.toList)) ∧ Below w.heap.size w w' := by
 have hu74 := Try.underlying74
 have hlta1 := blk_lt ha1
 have hca1 := blk_cell ha1 0
 have hfa1 := blk_frozen ha1 0
 have hlta2 := blk_lt ha2
 have hca2 := blk_cell ha2 0
 have hfa2 := blk_frozen ha2 0
 cases hq : x.f0.toList == a1.toList with
 | true =>
  go_enter Try.func162, Try.ntmps162
  go_wp2
  go_ret
  exact ⟨by simp [hq], by repeat (first | exact Below.refl _ _ | apply below_alloc | apply pw_below_drewN | apply below_drew1)⟩
 | false =>
  go_enter Try.func162, Try.ntmps162
  go_wp2
  go_ret
  exact ⟨by simp [hq], by repeat (first | exact Below.refl _ _ | apply below_alloc | apply pw_below_drewN | apply below_drew1)⟩

def impl_slotAt.f (l0 : List S74) (a1 : ByteArray) (a2 : ByteArray) : Option (Int) := some (impl_slotAt.idxF (fun x => x.f0.toList == a1.toList && x.f1.toList == a2.toList) l0)
set_option maxHeartbeats 2000000 in
set_option maxRecDepth 100000 in
theorem impl_slotAt.calls (A0 : Option Addr) (c0 : Nat) (l0 : List (S74)) (a1 : ByteArray) (a2 : ByteArray) (r : Int) (w : World) (hr0 : Kd.C k74 w A0 l0.length l0) (hc0 : l0.length ≤ c0) (h : impl_slotAt.f l0 a1 a2 = some r) :
  Calls Try.prog 108 #[.slice A0 l0.length c0, .string a1, .string a2] w fun e w' => e = .returned (.int .i64 r) ∧ Below w.heap.size w w' := by
 obtain rfl := Option.some.inj h
 clear h
 have HR0 := Aside0.mk hr0
 have HC0 := Aside0.mk hc0
 clear hr0 hc0
 have HP := Aside0.mk (show ∀ (W : World) (x : S74) (A2 : Option Addr) (c2 : Nat), Below ((w.alloc (.cells #[.string a1] 9)).alloc (.cells #[.string a2] 9)).heap.size ((w.alloc (.cells #[.string a1] 9)).alloc (.cells #[.string a2] 9)) W → Calls Try.prog 162 (#[.agg #[.string x.f0, .string x.f1, .slice A2 x.f2.length c2]] ++ #[.pointer (some ⟨w.heap.size, 0, none⟩), .pointer (some ⟨w.heap.size + 1, 0, none⟩)]) W fun e w' => e = .returned (.bool ((fun x => x.f0.toList == a1.toList && x.f1.toList == a2.toList) x)) ∧ Below W.heap.size W w' from
  fun W x A2 c2 hb => impl_slotAt.clo x A2 c2 a1 a2 w.heap.size (w.heap.size + 1) W ((hb.block _ (blk_lt (blk_alloc (heap_alloc_new w _) _))).trans (blk_alloc (heap_alloc_new w _) _)) ((hb.block _ (blk_lt (show ((w.alloc (.cells #[.string a1] 9)).alloc (.cells #[.string a2] 9)).heap[(w.heap.size + 1)]? = _ from (by have h_ := heap_alloc_new (w.alloc (.cells #[.string a1] 9)) (.cells #[.string a2] 9); rw [show (w.alloc (.cells #[.string a1] 9)).heap.size = (w.heap.size + 1) from by simp] at h_; exact h_)))).trans (show ((w.alloc (.cells #[.string a1] 9)).alloc (.cells #[.string a2] 9)).heap[(w.heap.size + 1)]? = _ from (by have h_ := heap_alloc_new (w.alloc (.cells #[.string a1] 9)) (.cells #[.string a2] 9); rw [show (w.alloc (.cells #[.string a1] 9)).heap.size = (w.heap.size + 1) from by simp] at h_; exact h_))))
 go_enter Try.func108, Try.ntmps108
 go_wp2_with (go_at_call 161; refine (impl_slotAt.idx A0 _ l0 162 _ (fun x => x.f0.toList == a1.toList && x.f1.toList == a2.toList) _ (Kd.C_below HR0.out (below_alloc (below_alloc (Below.refl _ _) _) _)) HC0.out (fun _ _ => by kernel_rfl) HP.out).mono ?_; rintro e w' ⟨rfl, hb'⟩)
 go_ret
 exact ⟨rfl, below_step (below_alloc (below_alloc (Below.refl _ _) _) _) hb'⟩

/-! ### impl_within: function 145 -/
def impl_within.f (a0 : Int) (a1 : Int) (a2 : Int) : Option (Bool) := if a1 ≤ a0 then (some (decide (a0 ≤ a2))) else (some false)
set_option maxHeartbeats 8000000 in
set_option maxRecDepth 100000 in
theorem impl_within.calls (a0 : Int) (a1 : Int) (a2 : Int) (r : Bool) (w : World) (h : impl_within.f a0 a1 a2 = some r) :
  Calls Try.prog 145 #[.int .i64 a0, .int .i64 a1, .int .i64 a2] w fun e w' => e = .returned (.bool r) ∧ Drawn0 w w' := by
 have H : (if a1 ≤ a0 then (some (decide (a0 ≤ a2))) else (some false)) = some r := h
 clear h
 by_cases c4 : a1 ≤ a0
 ·rw [if_pos c4] at H
  have c4b0 : decide (a1 ≤ a0) = true := decide_eq_true c4
  clear c4
  obtain rfl := Option.some.inj H
  go_enter Try.func145, Try.ntmps145
  go_wp2
  go_ret
  exact ⟨sp_, by repeat (first | exact Drawn0.refl _ | apply Drawn0.step)⟩
 ·rw [if_neg c4] at H
  have c4b0 : decide (a1 ≤ a0) = false := decide_eq_false c4
  clear c4
  obtain rfl := Option.some.inj H
  go_enter Try.func145, Try.ntmps145
  go_wp2
  go_ret
  exact ⟨sp_, by repeat (first | exact Drawn0.refl _ | apply Drawn0.step)⟩

end Go.Proofs.Ytepjnalkpfnmcaa.QFnExactRoom
