-- by my own printer (myprint.py, over the kit's print.py)
import Derived.Test.YtohfefkjcnbejaaGreatDoorQFnExactReqOfx0
import Derived.Test.YtohfefkjcnbejaaGreatDoorQFnExactReqOfx1
import Derived.Test.YtohfefkjcnbejaaGreatDoorQFnExactReqOfx7
import Derived.Test.YtohfefkjcnbejaaGreatDoorQFnExactReqOfx8
import Derived.Test.YtohfefkjcnbejaaGreatDoorQFnExactReqOfx14
import Derived.Test.YtohfefkjcnbejaaGreatDoorQFnExactReqOfx15
namespace Go.Proofs.YtohfefkjcnbejaaGreatDoor.QFnExactReqOf
open Go.RowKit Go.Proofs.YtohfefkjcnbejaaGreatDoorW.PrintWords Go.Proofs.YtohfefkjcnbejaaGreatDoorW.PrintLast Go.Proofs.YtohfefkjcnbejaaGreatDoorW.PrintMore
attribute [local go_sem] max2_int min2_int max_two min_two max_three min_three max_four min_four   -- for this text's walks alone
set_option linter.unusedVariables false
set_option linter.unusedSimpArgs false
attribute [local go_sem] my_geq my_leq my_gtr
/-! ### laws_FnExactReqOf: function 3 -/
def laws_FnExactReqOf.j0 : Nat → Bool → ByteArray → List (S90) → ByteArray → List (S91) → Option (Bool)
 | 0, _, _, _, _, _ => none
 | k + 1, x35, x348000, x348001, x368000, x368001 => if x35 = true then (some false) else ((laws_toMsg.f k x348000 x348001).bind fun bt379 => ((laws_eqMsg.f k x368000 x368001 bt379.1 bt379.2).bind fun t383 => (if t383 = true then (some true) else (some false))))
def laws_FnExactReqOf.f (k : Nat) (a0_0 : ByteArray) (l0_1 : List (S90)) : Option (Bool) := (laws_szMsg.f k a0_0 l0_1 1048576).bind fun t348 => (if t348 < 0 then (some true) else ((laws_toMsg.f k a0_0 l0_1).bind fun bt349 => ((spec_ReqOf.f k bt349.1 bt349.2).bind fun bt353 => ((laws_toMsg.f k a0_0 l0_1).bind fun bt363 => ((impl_ReqOf.f k bt363.1 bt363.2).bind fun bt368 => ((laws_eqReq.f bt368.1 bt368.2.1 bt368.2.2.1 bt368.2.2.2.1 bt368.2.2.2.2.1 bt368.2.2.2.2.2.1 bt368.2.2.2.2.2.2.1 bt368.2.2.2.2.2.2.2.1 bt353.1 bt353.2.1 bt353.2.2.1 bt353.2.2.2.1 bt353.2.2.2.2.1 bt353.2.2.2.2.2.1 bt353.2.2.2.2.2.2.1 bt353.2.2.2.2.2.2.2.1).bind fun t378 => (if t378 = true then (laws_FnExactReqOf.j0 k (bt368.2.2.2.2.2.2.2.2 != bt353.2.2.2.2.2.2.2.2) a0_0 l0_1 bt363.1 bt363.2) else (laws_FnExactReqOf.j0 k true a0_0 l0_1 bt363.1 bt363.2))))))))
set_option maxHeartbeats 8000000 in
set_option maxRecDepth 100000 in
theorem laws_FnExactReqOf.calls (k : Nat) (a0_0 : ByteArray) (A0_1 : Option Addr) (c0_1 : Nat) (l0_1 : List (S90)) (r : Bool) (w : World) (hr0_1 : Kd.C k90 w A0_1 l0_1.length l0_1) (hc0_1 : l0_1.length ≤ c0_1) (h : laws_FnExactReqOf.f k a0_0 l0_1 = some true) :
  Calls Tryz.prog 3 #[.agg #[.string a0_0, .slice A0_1 l0_1.length c0_1]] w fun e w' => e = .returned (.bool true) ∧ Below w.heap.size w w' := by
 have hu24 := Tryz.underlying24
 have hu27 := Tryz.underlying27
 have hu32 := Tryz.underlying32
 have HR0_1 := Aside0.mk hr0_1
 have HC0_1 := Aside0.mk hc0_1
 clear hr0_1 hc0_1
 have HB := Aside0.mk (Below.refl w.heap.size w)
 have H : ((laws_szMsg.f k a0_0 l0_1 1048576).bind fun t348 => (if t348 < 0 then (some true) else ((laws_toMsg.f k a0_0 l0_1).bind fun bt349 => ((spec_ReqOf.f k bt349.1 bt349.2).bind fun bt353 => ((laws_toMsg.f k a0_0 l0_1).bind fun bt363 => ((impl_ReqOf.f k bt363.1 bt363.2).bind fun bt368 => ((laws_eqReq.f bt368.1 bt368.2.1 bt368.2.2.1 bt368.2.2.2.1 bt368.2.2.2.2.1 bt368.2.2.2.2.2.1 bt368.2.2.2.2.2.2.1 bt368.2.2.2.2.2.2.2.1 bt353.1 bt353.2.1 bt353.2.2.1 bt353.2.2.2.1 bt353.2.2.2.2.1 bt353.2.2.2.2.2.1 bt353.2.2.2.2.2.2.1 bt353.2.2.2.2.2.2.2.1).bind fun t378 => (if t378 = true then (laws_FnExactReqOf.j0 k (bt368.2.2.2.2.2.2.2.2 != bt353.2.2.2.2.2.2.2.2) a0_0 l0_1 bt363.1 bt363.2) else (laws_FnExactReqOf.j0 k true a0_0 l0_1 bt363.1 bt363.2))))))))) = some true := h
 clear h
 obtain ⟨t348, A2, H⟩ := ob_ H
 by_cases c3 : t348 < 0
 ·rw [if_pos c3] at H
  have c3b0 : decide (t348 < 0) = true := decide_eq_true c3
  clear c3
  clear H
  go_enter Tryz.func3, Tryz.ntmps3
  go_wp2_with (first | ((with_reducible refine gate_dst (N := 1) rfl ?_); refine be_ (N := 1) (cs := #[.string a0_0, .slice A0_1 l0_1.length c0_1]) (t := 24) ?_; intro gb347 hg w4 hbox hb; have BK347 := Aside0.mk (hbox); have GW347 := gw_ (w := w) hg; have GE347 := gw_ (w := w) hg; replace HB := Aside0.mk (below_step bl_ hb); clear hb hbox hg; obtain ⟨hcz5_0, hcz5_1, hfz5_0, hfz5_1⟩ := bx2_ BK347) | ((with_reducible refine gate_callee (f := 8) rfl ?_); refine goesL_ (some 11) rfl rfl Tryz.func8 (by kernel_rfl) rfl #[.agg #[.string a0_0, .slice A0_1 l0_1.length c0_1], .int .i64 1048576] rfl gl_ ?_; (with_reducible refine (laws_szMsg.calls k a0_0 _ _ l0_1 1048576 t348 _ ?side1 ?side2 A2.out).mono ?_); (case side1 => exact ca_ (Kd.C_below HR0_1.out HB.out)); (case side2 => exact HC0_1.out); rintro e w6 ⟨rfl, hb⟩; refine ⟨_, rfl, ?_⟩; replace BK347 := Aside0.mk (blk_below (bk_ BK347) hb); replace HB := Aside0.mk (below_step bl_ hb); (try clear hb); (try clear hb2); (try clear hk); (try clear hi)))
  go_ret
  exact ⟨sq_, bl_⟩
 ·rw [if_neg c3] at H
  have c3b0 : decide (t348 < 0) = false := decide_eq_false c3
  clear c3
  obtain ⟨⟨t349, t350⟩, A7, H⟩ := ob_ H
  (try dsimp only at H)
  obtain ⟨⟨t353, t354, t355, t356, t357, t358, t359, t360, t361⟩, A8, H⟩ := ob_ H
  (try dsimp only at H)
  obtain ⟨⟨t363, t364⟩, A9, H⟩ := ob_ H
  (try dsimp only at H)
  obtain ⟨⟨t368, t369, t370, t371, t372, t373, t374, t375, t376⟩, A10, H⟩ := ob_ H
  (try dsimp only at H)
  have HC11 := Aside0.mk H
  clear H
  go_enter Tryz.func3, Tryz.ntmps3
  go_upto_region 8 with (first | ((with_reducible refine gate_dst (N := 1) rfl ?_); refine be_ (N := 1) (cs := #[.string a0_0, .slice A0_1 l0_1.length c0_1]) (t := 24) ?_; intro gb347 hg w12 hbox hb; have BK347 := Aside0.mk (hbox); have GW347 := gw_ (w := w) hg; have GE347 := gw_ (w := w) hg; replace HB := Aside0.mk (below_step bl_ hb); clear hb hbox hg; obtain ⟨hcz13_0, hcz13_1, hfz13_0, hfz13_1⟩ := bx2_ BK347) | ((with_reducible refine gate_callee (f := 8) rfl ?_); refine goesL_ (some 11) rfl rfl Tryz.func8 (by kernel_rfl) rfl #[.agg #[.string a0_0, .slice A0_1 l0_1.length c0_1], .int .i64 1048576] rfl gl_ ?_; (with_reducible refine (laws_szMsg.calls k a0_0 _ _ l0_1 1048576 t348 _ ?side1 ?side2 A2.out).mono ?_); (case side1 => exact ca_ (Kd.C_below HR0_1.out HB.out)); (case side2 => exact HC0_1.out); rintro e w14 ⟨rfl, hb⟩; refine ⟨_, rfl, ?_⟩; replace BK347 := Aside0.mk (blk_below (bk_ BK347) hb); replace HB := Aside0.mk (below_step bl_ hb); (try clear hb); (try clear hb2); (try clear hk); (try clear hi); obtain ⟨hcz15_0, hcz15_1, hfz15_0, hfz15_1⟩ := bx2_ BK347) | ((with_reducible refine gate_callee (f := 10) rfl ?_); refine goesL_ (some 16) rfl rfl Tryz.func10 (by kernel_rfl) rfl #[.agg #[.string a0_0, .slice A0_1 l0_1.length c0_1]] rfl gl_ ?_; (with_reducible refine (laws_toMsg.calls k a0_0 _ _ l0_1 t349 t350 _ ?side1 ?side2 A7.out).mono ?_); (case side1 => exact ca_ (Kd.C_below HR0_1.out HB.out)); (case side2 => exact HC0_1.out); rintro e w16 ⟨v351, rfl, ho0, hb⟩; refine ⟨_, rfl, ?_⟩; have HO352 := Aside0.mk (Kd.R_lower ho0 (below_size bl_)); replace BK347 := Aside0.mk (blk_below (bk_ BK347) hb); replace HB := Aside0.mk (below_step bl_ hb); (try clear hb); (try clear hb2); (try clear hk); (try clear hi); (try clear ho0); obtain ⟨Ao17, co17, eo17⟩ := Kd.R_slice HO352.out; subst eo17) | ((with_reducible refine gate_callee (f := 9) rfl ?_); refine goesL_ (some 17) rfl rfl Tryz.func9 (by kernel_rfl) rfl #[.agg #[.string t349, .slice Ao17 t350.length co17]] rfl gl_ ?_; (with_reducible refine (spec_ReqOf.calls k t349 _ _ t350 t353 t354 t355 t356 t357 t358 t359 t360 t361 _ ?side1 ?side2 A8.out).mono ?_); (case side1 => exact ca_ ((Kd.R_reads' HO352.out).2.2)); (case side2 => exact (Kd.R_reads' HO352.out).2.1); rintro e w18 ⟨rfl, hb⟩; refine ⟨_, rfl, ?_⟩; replace HO352 := Aside0.mk (Kd.R_below (ra_ HO352) hb); replace BK347 := Aside0.mk (blk_below (bk_ BK347) hb); replace HB := Aside0.mk (below_step bl_ hb); (try clear hb); (try clear hb2); (try clear hk); (try clear hi)) | ((with_reducible refine gate_dst (N := 4) rfl ?_); refine be_ (N := 4) (cs := #[.int .i64 0, .string (⟨#[]⟩ : ByteArray), .string (⟨#[]⟩ : ByteArray), .string (⟨#[]⟩ : ByteArray), .string (⟨#[]⟩ : ByteArray), .string (⟨#[]⟩ : ByteArray), .int .i64 0, .int .i64 0]) (t := 27) ?_; intro gb362 hg w19 hbox hb; replace HO352 := Aside0.mk (Kd.R_below (ra_ HO352) hb); have BK362 := Aside0.mk (hbox); have GW362 := gw_ (w := w) hg; have GE362 := gw_ (w := w) hg; replace HB := Aside0.mk (below_step bl_ hb); have NB347_362 := Aside0.mk ((by rw [hg]; exact Nat.ne_of_lt (blk_lt (bk_ BK347)) : gb347 ≠ gb362)); have NB362_347 := Aside0.mk ((by rw [hg]; exact Nat.ne_of_gt (blk_lt (bk_ BK347)) : gb362 ≠ gb347)); replace BK347 := Aside0.mk (blk_below (bk_ BK347) hb); clear hb hbox hg; have hnb20 := NB362_347.out; have hnc20 := NB347_362.out; obtain ⟨hcz21_0, hcz21_1, hcz21_2, hcz21_3, hcz21_4, hcz21_5, hcz21_6, hcz21_7, hfz21_0, hfz21_1, hfz21_2, hfz21_3, hfz21_4, hfz21_5, hfz21_6, hfz21_7⟩ := bx8_ BK362; obtain ⟨hcz22_0, hcz22_1, hfz22_0, hfz22_1⟩ := bx2_ BK347) | ((with_reducible refine gate_callee (f := 10) rfl ?_); refine goesL_ (some 21) rfl rfl Tryz.func10 (by kernel_rfl) rfl #[.agg #[.string a0_0, .slice A0_1 l0_1.length c0_1]] rfl gl_ ?_; (with_reducible refine (laws_toMsg.calls k a0_0 _ _ l0_1 t363 t364 _ ?side1 ?side2 A9.out).mono ?_); (case side1 => exact Kd.C_below HR0_1.out bl_); (case side2 => exact HC0_1.out); rintro e w23 ⟨v365, rfl, ho0, hb⟩; refine ⟨_, rfl, ?_⟩; have HO366 := Aside0.mk (Kd.R_lower (Kd.R_new' ho0 (Kd.R_lt (by (with_reducible repeat (first | apply Kd.R_alloc | apply Kd.R_drewN | apply Kd.R_drew)); exact (Kd.R_mono (Kd.R_far (p := ⟨gb362, 7, none⟩) (Kd.R_far (p := ⟨gb362, 6, none⟩) (Kd.R_far (p := ⟨gb362, 5, none⟩) (Kd.R_far (p := ⟨gb362, 4, none⟩) (Kd.R_far (p := ⟨gb362, 3, none⟩) (Kd.R_far (p := ⟨gb362, 2, none⟩) (Kd.R_far (p := ⟨gb362, 1, none⟩) (Kd.R_far (p := ⟨gb362, 0, none⟩) (Kd.R_types HO352.out BK362.out (by decide)) (fun _ hk => hk.2) (.int .i64 t353)) (fun _ hk => hk.2) (.string t354)) (fun _ hk => hk.2) (.string t355)) (fun _ hk => hk.2) (.string t356)) (fun _ hk => hk.2) (.string t357)) (fun _ hk => hk.2) (.string t358)) (fun _ hk => hk.2) (.int .i64 t359)) (fun _ hk => hk.2) (.int .i64 t360)) (fun _ h_ => h_.1))))) (below_size bl_)); replace HO352 := Aside0.mk (Kd.R_elder' (by (with_reducible repeat (first | apply Kd.R_alloc | apply Kd.R_drewN | apply Kd.R_drew)); exact (Kd.R_mono (Kd.R_far (p := ⟨gb362, 7, none⟩) (Kd.R_far (p := ⟨gb362, 6, none⟩) (Kd.R_far (p := ⟨gb362, 5, none⟩) (Kd.R_far (p := ⟨gb362, 4, none⟩) (Kd.R_far (p := ⟨gb362, 3, none⟩) (Kd.R_far (p := ⟨gb362, 2, none⟩) (Kd.R_far (p := ⟨gb362, 1, none⟩) (Kd.R_far (p := ⟨gb362, 0, none⟩) (Kd.R_types HO352.out BK362.out (by decide)) (fun _ hk => hk.2) (.int .i64 t353)) (fun _ hk => hk.2) (.string t354)) (fun _ hk => hk.2) (.string t355)) (fun _ hk => hk.2) (.string t356)) (fun _ hk => hk.2) (.string t357)) (fun _ hk => hk.2) (.string t358)) (fun _ hk => hk.2) (.int .i64 t359)) (fun _ hk => hk.2) (.int .i64 t360)) (fun _ h_ => h_.1))) (Kd.R_base ho0) hb); replace BK347 := Aside0.mk (blk_below (g := gb347) (o := .cells #[.string a0_0, .slice A0_1 l0_1.length c0_1] 24 (0, 0)) (by (with_reducible repeat (first | refine blk_drewN ?_ _ | refine blk_drew ?_ | refine blk_alloc ?_ _)); refine blk_far ?_ NB347_362.out _; (with_reducible repeat (first | refine blk_drewN ?_ _ | refine blk_drew ?_ | refine blk_alloc ?_ _)); refine blk_far ?_ NB347_362.out _; (with_reducible repeat (first | refine blk_drewN ?_ _ | refine blk_drew ?_ | refine blk_alloc ?_ _)); refine blk_far ?_ NB347_362.out _; (with_reducible repeat (first | refine blk_drewN ?_ _ | refine blk_drew ?_ | refine blk_alloc ?_ _)); refine blk_far ?_ NB347_362.out _; (with_reducible repeat (first | refine blk_drewN ?_ _ | refine blk_drew ?_ | refine blk_alloc ?_ _)); refine blk_far ?_ NB347_362.out _; (with_reducible repeat (first | refine blk_drewN ?_ _ | refine blk_drew ?_ | refine blk_alloc ?_ _)); refine blk_far ?_ NB347_362.out _; (with_reducible repeat (first | refine blk_drewN ?_ _ | refine blk_drew ?_ | refine blk_alloc ?_ _)); refine blk_far ?_ NB347_362.out _; (with_reducible repeat (first | refine blk_drewN ?_ _ | refine blk_drew ?_ | refine blk_alloc ?_ _)); refine blk_far ?_ NB347_362.out _; (with_reducible repeat (first | refine blk_drewN ?_ _ | refine blk_drew ?_ | refine blk_alloc ?_ _)); exact BK347.out) hb); replace BK362 := Aside0.mk (blk_below (g := gb362) (o := .cells #[.int .i64 t353, .string t354, .string t355, .string t356, .string t357, .string t358, .int .i64 t359, .int .i64 t360] 27 (0, 0)) (by (with_reducible repeat (first | refine blk_drewN ?_ _ | refine blk_drew ?_ | refine blk_alloc ?_ _)); apply bq8_7_6_5_4_3_2_1_0_; (with_reducible repeat (first | refine blk_drewN ?_ _ | refine blk_drew ?_ | refine blk_alloc ?_ _)); exact BK362.out) hb); replace HB := Aside0.mk (below_step bl_ hb); (try clear hb); (try clear hb2); (try clear hk); (try clear hi); (try clear ho0)) | ((with_reducible refine gate_dst (N := 6) rfl ?_); refine be_ (N := 6) (cs := #[.string (⟨#[]⟩ : ByteArray), .slice none 0 0]) (t := 32) ?_; intro gb367 hg w24 hbox hb; replace HO352 := Aside0.mk (Kd.R_below (ra_ HO352) hb); replace HO366 := Aside0.mk (Kd.R_below (ra_ HO366) hb); have BK367 := Aside0.mk (hbox); have GW367 := gw_ (w := w) hg; have GE367 := gw_ (w := w) hg; replace HB := Aside0.mk (below_step bl_ hb); have NB347_367 := Aside0.mk ((by rw [hg]; exact Nat.ne_of_lt (blk_lt (bk_ BK347)) : gb347 ≠ gb367)); have NB367_347 := Aside0.mk ((by rw [hg]; exact Nat.ne_of_gt (blk_lt (bk_ BK347)) : gb367 ≠ gb347)); replace BK347 := Aside0.mk (blk_below (bk_ BK347) hb); have NB362_367 := Aside0.mk ((by rw [hg]; exact Nat.ne_of_lt (blk_lt (bk_ BK362)) : gb362 ≠ gb367)); have NB367_362 := Aside0.mk ((by rw [hg]; exact Nat.ne_of_gt (blk_lt (bk_ BK362)) : gb367 ≠ gb362)); replace BK362 := Aside0.mk (blk_below (bk_ BK362) hb); clear hb hbox hg; have hnb25 := NB367_347.out; have hnc25 := NB347_367.out; have hnb26 := NB367_362.out; have hnc26 := NB362_367.out; obtain ⟨hcz27_0, hcz27_1, hfz27_0, hfz27_1⟩ := bx2_ BK367; obtain ⟨Ao28, co28, eo28⟩ := Kd.R_slice HO366.out; subst eo28) | ((with_reducible refine gate_callee (f := 11) rfl ?_); refine goesL_ (some 24) rfl rfl Tryz.func11 (by kernel_rfl) rfl #[.agg #[.string t363, .slice Ao28 t364.length co28]] rfl gl_ ?_; (with_reducible refine (impl_ReqOf.calls k t363 _ _ t364 t368 t369 t370 t371 t372 t373 t374 t375 t376 _ ?side1 ?side2 A10.out).mono ?_); (case side1 => refine (Kd.R_reads' (e := 91) (base := w.heap.size) (ok := fun k_ => (True ∧ some k_ ≠ (.slice Ao17 t350.length co17 : Value).ownBlock)) (n := t364.length) (c := co28) ?_).2.2; exact (by (with_reducible repeat (first | apply Kd.R_alloc | apply Kd.R_drewN | apply Kd.R_drew)); exact (Kd.R_mono (Kd.R_far (p := ⟨gb367, 1, none⟩) (Kd.R_far (p := ⟨gb367, 0, none⟩) (Kd.R_types HO366.out BK367.out (by decide)) (fun _ hk => hk.2) (.string t363)) (fun _ hk => hk.2) (.slice Ao28 t364.length co28)) (fun _ h_ => h_.1)))); (case side2 => exact (Kd.R_reads' HO366.out).2.1); rintro e w29 ⟨rfl, hb⟩; refine ⟨_, rfl, ?_⟩; replace HO352 := Aside0.mk (Kd.R_below (by (with_reducible repeat (first | apply Kd.R_alloc | apply Kd.R_drewN | apply Kd.R_drew)); exact (Kd.R_mono (Kd.R_far (p := ⟨gb367, 1, none⟩) (Kd.R_far (p := ⟨gb367, 0, none⟩) (Kd.R_types HO352.out BK367.out (by decide)) (fun _ hk => hk.2) (.string t363)) (fun _ hk => hk.2) (.slice Ao28 t364.length co28)) (fun _ h_ => h_.1))) hb); replace HO366 := Aside0.mk (Kd.R_below (by (with_reducible repeat (first | apply Kd.R_alloc | apply Kd.R_drewN | apply Kd.R_drew)); exact (Kd.R_mono (Kd.R_far (p := ⟨gb367, 1, none⟩) (Kd.R_far (p := ⟨gb367, 0, none⟩) (Kd.R_types HO366.out BK367.out (by decide)) (fun _ hk => hk.2) (.string t363)) (fun _ hk => hk.2) (.slice Ao28 t364.length co28)) (fun _ h_ => h_.1))) hb); replace BK347 := Aside0.mk (blk_below (g := gb347) (o := .cells #[.string a0_0, .slice A0_1 l0_1.length c0_1] 24 (0, 0)) (by (with_reducible repeat (first | refine blk_drewN ?_ _ | refine blk_drew ?_ | refine blk_alloc ?_ _)); refine blk_far ?_ NB347_367.out _; (with_reducible repeat (first | refine blk_drewN ?_ _ | refine blk_drew ?_ | refine blk_alloc ?_ _)); refine blk_far ?_ NB347_367.out _; (with_reducible repeat (first | refine blk_drewN ?_ _ | refine blk_drew ?_ | refine blk_alloc ?_ _)); exact BK347.out) hb); replace BK362 := Aside0.mk (blk_below (g := gb362) (o := .cells #[.int .i64 t353, .string t354, .string t355, .string t356, .string t357, .string t358, .int .i64 t359, .int .i64 t360] 27 (0, 0)) (by (with_reducible repeat (first | refine blk_drewN ?_ _ | refine blk_drew ?_ | refine blk_alloc ?_ _)); refine blk_far ?_ NB362_367.out _; (with_reducible repeat (first | refine blk_drewN ?_ _ | refine blk_drew ?_ | refine blk_alloc ?_ _)); refine blk_far ?_ NB362_367.out _; (with_reducible repeat (first | refine blk_drewN ?_ _ | refine blk_drew ?_ | refine blk_alloc ?_ _)); exact BK362.out) hb); replace BK367 := Aside0.mk (blk_below (g := gb367) (o := .cells #[.string t363, .slice Ao28 t364.length co28] 32 (0, 0)) (by (with_reducible repeat (first | refine blk_drewN ?_ _ | refine blk_drew ?_ | refine blk_alloc ?_ _)); apply bq2_1_0_; (with_reducible repeat (first | refine blk_drewN ?_ _ | refine blk_drew ?_ | refine blk_alloc ?_ _)); exact BK367.out) hb); replace HB := Aside0.mk (below_step bl_ hb); (try clear hb); (try clear hb2); (try clear hk); (try clear hi)) | ((with_reducible refine gate_dst (N := 7) rfl ?_); refine be_ (N := 7) (cs := #[.int .i64 0, .string (⟨#[]⟩ : ByteArray), .string (⟨#[]⟩ : ByteArray), .string (⟨#[]⟩ : ByteArray), .string (⟨#[]⟩ : ByteArray), .string (⟨#[]⟩ : ByteArray), .int .i64 0, .int .i64 0]) (t := 27) ?_; intro gb377 hg w30 hbox hb; replace HO352 := Aside0.mk (Kd.R_below (ra_ HO352) hb); replace HO366 := Aside0.mk (Kd.R_below (ra_ HO366) hb); have BK377 := Aside0.mk (hbox); have GW377 := gw_ (w := w) hg; have GE377 := gw_ (w := w) hg; replace HB := Aside0.mk (below_step bl_ hb); have NB347_377 := Aside0.mk ((by rw [hg]; exact Nat.ne_of_lt (blk_lt (bk_ BK347)) : gb347 ≠ gb377)); have NB377_347 := Aside0.mk ((by rw [hg]; exact Nat.ne_of_gt (blk_lt (bk_ BK347)) : gb377 ≠ gb347)); replace BK347 := Aside0.mk (blk_below (bk_ BK347) hb); have NB362_377 := Aside0.mk ((by rw [hg]; exact Nat.ne_of_lt (blk_lt (bk_ BK362)) : gb362 ≠ gb377)); have NB377_362 := Aside0.mk ((by rw [hg]; exact Nat.ne_of_gt (blk_lt (bk_ BK362)) : gb377 ≠ gb362)); replace BK362 := Aside0.mk (blk_below (bk_ BK362) hb); have NB367_377 := Aside0.mk ((by rw [hg]; exact Nat.ne_of_lt (blk_lt (bk_ BK367)) : gb367 ≠ gb377)); have NB377_367 := Aside0.mk ((by rw [hg]; exact Nat.ne_of_gt (blk_lt (bk_ BK367)) : gb377 ≠ gb367)); replace BK367 := Aside0.mk (blk_below (bk_ BK367) hb); clear hb hbox hg; have hnb31 := NB377_347.out; have hnc31 := NB347_377.out; have hnb32 := NB377_362.out; have hnc32 := NB362_377.out; have hnb33 := NB377_367.out; have hnc33 := NB367_377.out; obtain ⟨hcz34_0, hcz34_1, hcz34_2, hcz34_3, hcz34_4, hcz34_5, hcz34_6, hcz34_7, hfz34_0, hfz34_1, hfz34_2, hfz34_3, hfz34_4, hfz34_5, hfz34_6, hfz34_7⟩ := bx8_ BK377))
  (try simp only [Act.put, List.setIfInBounds_toArray, List.set_cons_zero, List.set_cons_succ])
  go_cut [35] (fun v35 wc => ∃ (kq : Nat) (x35_10 : Bool), v35 = .bool x35_10 ∧ Aside0 (laws_FnExactReqOf.j0 kq x35_10 a0_0 l0_1 t363 t364 = some true) ∧ Aside0 (kq ≤ k) ∧ Aside0 (Kd.R k91 91 wc w.heap.size (fun _ => True) (.slice Ao28 t364.length co28) t364) ∧ Aside0 (wc.heap[gb347]? = some (.cells #[.string a0_0, (.slice A0_1 l0_1.length c0_1)] 24 (0, 0))) ∧ Aside0 (wc.heap[gb362]? = some (.cells #[.int .i64 t353, .string t354, .string t355, .string t356, .string t357, .string t358, .int .i64 t359, .int .i64 t360] 27 (0, 0))) ∧ Aside0 (wc.heap[gb367]? = some (.cells #[.string t363, (.slice Ao28 t364.length co28)] 32 (0, 0))) ∧ Aside0 (wc.heap[gb377]? = some (.cells #[.int .i64 t368, .string t369, .string t370, .string t371, .string t372, .string t373, .int .i64 t374, .int .i64 t375] 27 (0, 0))) ∧ Aside0 (Below w.heap.size w wc))
  case first =>
   have H := HC11.out
   clear HC11
   obtain ⟨t378, A35, H⟩ := ob_ H
   by_cases c36 : t378 = true
   ·subst c36
    replace H := ip_ H
    have H' := Aside0.mk H
    clear H
    have hnb37 := NB377_347.out
    have hnc37 := NB347_377.out
    have hnb38 := NB377_362.out
    have hnc38 := NB362_377.out
    have hnb39 := NB377_367.out
    have hnc39 := NB367_377.out
    have hcz40_0 := cz_ BK377 0 (.int .i64 0)
    have hcz40_1 := cz_ BK377 1 (.string (⟨#[]⟩ : ByteArray))
    have hcz40_2 := cz_ BK377 2 (.string (⟨#[]⟩ : ByteArray))
    have hcz40_3 := cz_ BK377 3 (.string (⟨#[]⟩ : ByteArray))
    have hcz40_4 := cz_ BK377 4 (.string (⟨#[]⟩ : ByteArray))
    have hcz40_5 := cz_ BK377 5 (.string (⟨#[]⟩ : ByteArray))
    have hcz40_6 := cz_ BK377 6 (.int .i64 0)
    have hcz40_7 := cz_ BK377 7 (.int .i64 0)
    have hfz40_0 := fz_ BK377 0
    have hfz40_1 := fz_ BK377 1
    have hfz40_2 := fz_ BK377 2
    have hfz40_3 := fz_ BK377 3
    have hfz40_4 := fz_ BK377 4
    have hfz40_5 := fz_ BK377 5
    have hfz40_6 := fz_ BK377 6
    have hfz40_7 := fz_ BK377 7
    have hnb41 := NB362_347.out
    have hnc41 := NB347_362.out
    have hnb42 := NB362_367.out
    have hnc42 := NB367_362.out
    have hcz43_0 := cz_ BK362 0 (.int .i64 t353)
    have hcz43_1 := cz_ BK362 1 (.string t354)
    have hcz43_2 := cz_ BK362 2 (.string t355)
    have hcz43_3 := cz_ BK362 3 (.string t356)
    have hcz43_4 := cz_ BK362 4 (.string t357)
    have hcz43_5 := cz_ BK362 5 (.string t358)
    have hcz43_6 := cz_ BK362 6 (.int .i64 t359)
    have hcz43_7 := cz_ BK362 7 (.int .i64 t360)
    have hfz43_0 := fz_ BK362 0
    have hfz43_1 := fz_ BK362 1
    have hfz43_2 := fz_ BK362 2
    have hfz43_3 := fz_ BK362 3
    have hfz43_4 := fz_ BK362 4
    have hfz43_5 := fz_ BK362 5
    have hfz43_6 := fz_ BK362 6
    have hfz43_7 := fz_ BK362 7
    go_wp2_with (first | ((with_reducible refine gate_callee (f := 12) rfl ?_); refine goesL_ (some 29) rfl rfl Tryz.func12 (by kernel_rfl) rfl #[.agg #[.int .i64 t368, .string t369, .string t370, .string t371, .string t372, .string t373, .int .i64 t374, .int .i64 t375], .agg #[.int .i64 t353, .string t354, .string t355, .string t356, .string t357, .string t358, .int .i64 t359, .int .i64 t360]] rfl gl_ ?_; (with_reducible refine (laws_eqReq.calls t368 t369 t370 t371 t372 t373 t374 t375 t353 t354 t355 t356 t357 t358 t359 t360 true _ A35.out).mono ?_); rintro e w44 ⟨rfl, hb⟩; refine ⟨_, rfl, ?_⟩; replace HO352 := Aside0.mk (Kd.R_below (by (with_reducible repeat (first | apply Kd.R_alloc | apply Kd.R_drewN | apply Kd.R_drew)); exact (Kd.R_mono (Kd.R_far (p := ⟨gb377, 7, none⟩) (Kd.R_far (p := ⟨gb377, 6, none⟩) (Kd.R_far (p := ⟨gb377, 5, none⟩) (Kd.R_far (p := ⟨gb377, 4, none⟩) (Kd.R_far (p := ⟨gb377, 3, none⟩) (Kd.R_far (p := ⟨gb377, 2, none⟩) (Kd.R_far (p := ⟨gb377, 1, none⟩) (Kd.R_far (p := ⟨gb377, 0, none⟩) (Kd.R_types HO352.out BK377.out (by decide)) (fun _ hk => hk.2) (.int .i64 t368)) (fun _ hk => hk.2) (.string t369)) (fun _ hk => hk.2) (.string t370)) (fun _ hk => hk.2) (.string t371)) (fun _ hk => hk.2) (.string t372)) (fun _ hk => hk.2) (.string t373)) (fun _ hk => hk.2) (.int .i64 t374)) (fun _ hk => hk.2) (.int .i64 t375)) (fun _ h_ => h_.1))) hb); replace HO366 := Aside0.mk (Kd.R_below (by (with_reducible repeat (first | apply Kd.R_alloc | apply Kd.R_drewN | apply Kd.R_drew)); exact (Kd.R_mono (Kd.R_far (p := ⟨gb377, 7, none⟩) (Kd.R_far (p := ⟨gb377, 6, none⟩) (Kd.R_far (p := ⟨gb377, 5, none⟩) (Kd.R_far (p := ⟨gb377, 4, none⟩) (Kd.R_far (p := ⟨gb377, 3, none⟩) (Kd.R_far (p := ⟨gb377, 2, none⟩) (Kd.R_far (p := ⟨gb377, 1, none⟩) (Kd.R_far (p := ⟨gb377, 0, none⟩) (Kd.R_types HO366.out BK377.out (by decide)) (fun _ hk => hk.2) (.int .i64 t368)) (fun _ hk => hk.2) (.string t369)) (fun _ hk => hk.2) (.string t370)) (fun _ hk => hk.2) (.string t371)) (fun _ hk => hk.2) (.string t372)) (fun _ hk => hk.2) (.string t373)) (fun _ hk => hk.2) (.int .i64 t374)) (fun _ hk => hk.2) (.int .i64 t375)) (fun _ h_ => h_.1))) hb); replace BK347 := Aside0.mk (blk_below (g := gb347) (o := .cells #[.string a0_0, .slice A0_1 l0_1.length c0_1] 24 (0, 0)) (by (with_reducible repeat (first | refine blk_drewN ?_ _ | refine blk_drew ?_ | refine blk_alloc ?_ _)); refine blk_far ?_ NB347_377.out _; (with_reducible repeat (first | refine blk_drewN ?_ _ | refine blk_drew ?_ | refine blk_alloc ?_ _)); refine blk_far ?_ NB347_377.out _; (with_reducible repeat (first | refine blk_drewN ?_ _ | refine blk_drew ?_ | refine blk_alloc ?_ _)); refine blk_far ?_ NB347_377.out _; (with_reducible repeat (first | refine blk_drewN ?_ _ | refine blk_drew ?_ | refine blk_alloc ?_ _)); refine blk_far ?_ NB347_377.out _; (with_reducible repeat (first | refine blk_drewN ?_ _ | refine blk_drew ?_ | refine blk_alloc ?_ _)); refine blk_far ?_ NB347_377.out _; (with_reducible repeat (first | refine blk_drewN ?_ _ | refine blk_drew ?_ | refine blk_alloc ?_ _)); refine blk_far ?_ NB347_377.out _; (with_reducible repeat (first | refine blk_drewN ?_ _ | refine blk_drew ?_ | refine blk_alloc ?_ _)); refine blk_far ?_ NB347_377.out _; (with_reducible repeat (first | refine blk_drewN ?_ _ | refine blk_drew ?_ | refine blk_alloc ?_ _)); refine blk_far ?_ NB347_377.out _; (with_reducible repeat (first | refine blk_drewN ?_ _ | refine blk_drew ?_ | refine blk_alloc ?_ _)); exact BK347.out) hb); replace BK362 := Aside0.mk (blk_below (g := gb362) (o := .cells #[.int .i64 t353, .string t354, .string t355, .string t356, .string t357, .string t358, .int .i64 t359, .int .i64 t360] 27 (0, 0)) (by (with_reducible repeat (first | refine blk_drewN ?_ _ | refine blk_drew ?_ | refine blk_alloc ?_ _)); refine blk_far ?_ NB362_377.out _; (with_reducible repeat (first | refine blk_drewN ?_ _ | refine blk_drew ?_ | refine blk_alloc ?_ _)); refine blk_far ?_ NB362_377.out _; (with_reducible repeat (first | refine blk_drewN ?_ _ | refine blk_drew ?_ | refine blk_alloc ?_ _)); refine blk_far ?_ NB362_377.out _; (with_reducible repeat (first | refine blk_drewN ?_ _ | refine blk_drew ?_ | refine blk_alloc ?_ _)); refine blk_far ?_ NB362_377.out _; (with_reducible repeat (first | refine blk_drewN ?_ _ | refine blk_drew ?_ | refine blk_alloc ?_ _)); refine blk_far ?_ NB362_377.out _; (with_reducible repeat (first | refine blk_drewN ?_ _ | refine blk_drew ?_ | refine blk_alloc ?_ _)); refine blk_far ?_ NB362_377.out _; (with_reducible repeat (first | refine blk_drewN ?_ _ | refine blk_drew ?_ | refine blk_alloc ?_ _)); refine blk_far ?_ NB362_377.out _; (with_reducible repeat (first | refine blk_drewN ?_ _ | refine blk_drew ?_ | refine blk_alloc ?_ _)); refine blk_far ?_ NB362_377.out _; (with_reducible repeat (first | refine blk_drewN ?_ _ | refine blk_drew ?_ | refine blk_alloc ?_ _)); exact BK362.out) hb); replace BK367 := Aside0.mk (blk_below (g := gb367) (o := .cells #[.string t363, .slice Ao28 t364.length co28] 32 (0, 0)) (by (with_reducible repeat (first | refine blk_drewN ?_ _ | refine blk_drew ?_ | refine blk_alloc ?_ _)); refine blk_far ?_ NB367_377.out _; (with_reducible repeat (first | refine blk_drewN ?_ _ | refine blk_drew ?_ | refine blk_alloc ?_ _)); refine blk_far ?_ NB367_377.out _; (with_reducible repeat (first | refine blk_drewN ?_ _ | refine blk_drew ?_ | refine blk_alloc ?_ _)); refine blk_far ?_ NB367_377.out _; (with_reducible repeat (first | refine blk_drewN ?_ _ | refine blk_drew ?_ | refine blk_alloc ?_ _)); refine blk_far ?_ NB367_377.out _; (with_reducible repeat (first | refine blk_drewN ?_ _ | refine blk_drew ?_ | refine blk_alloc ?_ _)); refine blk_far ?_ NB367_377.out _; (with_reducible repeat (first | refine blk_drewN ?_ _ | refine blk_drew ?_ | refine blk_alloc ?_ _)); refine blk_far ?_ NB367_377.out _; (with_reducible repeat (first | refine blk_drewN ?_ _ | refine blk_drew ?_ | refine blk_alloc ?_ _)); refine blk_far ?_ NB367_377.out _; (with_reducible repeat (first | refine blk_drewN ?_ _ | refine blk_drew ?_ | refine blk_alloc ?_ _)); refine blk_far ?_ NB367_377.out _; (with_reducible repeat (first | refine blk_drewN ?_ _ | refine blk_drew ?_ | refine blk_alloc ?_ _)); exact BK367.out) hb); replace BK377 := Aside0.mk (blk_below (g := gb377) (o := .cells #[.int .i64 t368, .string t369, .string t370, .string t371, .string t372, .string t373, .int .i64 t374, .int .i64 t375] 27 (0, 0)) (by (with_reducible repeat (first | refine blk_drewN ?_ _ | refine blk_drew ?_ | refine blk_alloc ?_ _)); apply bq8_7_6_5_4_3_2_1_0_; (with_reducible repeat (first | refine blk_drewN ?_ _ | refine blk_drew ?_ | refine blk_alloc ?_ _)); exact BK377.out) hb); replace HB := Aside0.mk (below_step bl_ hb); (try clear hb); (try clear hb2); (try clear hk); (try clear hi)))
    go_meet
    case rel => exact ⟨_, ((t376 != t361)), sp_, H', ⟨by first | omega | exact Nat.le_refl _⟩, ⟨by (with_reducible repeat (first | apply Kd.R_alloc | apply Kd.R_drewN | apply Kd.R_drew)); exact Kd.R_mono HO366.out (fun _ hk => trivial)⟩, ⟨by (with_reducible repeat (first | refine blk_drewN ?_ _ | refine blk_drew ?_ | refine blk_alloc ?_ _)); exact BK347.out⟩, ⟨by (with_reducible repeat (first | refine blk_drewN ?_ _ | refine blk_drew ?_ | refine blk_alloc ?_ _)); exact BK362.out⟩, ⟨by (with_reducible repeat (first | refine blk_drewN ?_ _ | refine blk_drew ?_ | refine blk_alloc ?_ _)); exact BK367.out⟩, ⟨by (with_reducible repeat (first | refine blk_drewN ?_ _ | refine blk_drew ?_ | refine blk_alloc ?_ _)); exact BK377.out⟩, ⟨bl_⟩⟩
   ·replace c36 := Bool.eq_false_iff.mpr c36
    subst c36
    replace H := in_ H
    have H' := Aside0.mk H
    clear H
    have hnb45 := NB377_347.out
    have hnc45 := NB347_377.out
    have hnb46 := NB377_362.out
    have hnc46 := NB362_377.out
    have hnb47 := NB377_367.out
    have hnc47 := NB367_377.out
    have hcz48_0 := cz_ BK377 0 (.int .i64 0)
    have hcz48_1 := cz_ BK377 1 (.string (⟨#[]⟩ : ByteArray))
    have hcz48_2 := cz_ BK377 2 (.string (⟨#[]⟩ : ByteArray))
    have hcz48_3 := cz_ BK377 3 (.string (⟨#[]⟩ : ByteArray))
    have hcz48_4 := cz_ BK377 4 (.string (⟨#[]⟩ : ByteArray))
    have hcz48_5 := cz_ BK377 5 (.string (⟨#[]⟩ : ByteArray))
    have hcz48_6 := cz_ BK377 6 (.int .i64 0)
    have hcz48_7 := cz_ BK377 7 (.int .i64 0)
    have hfz48_0 := fz_ BK377 0
    have hfz48_1 := fz_ BK377 1
    have hfz48_2 := fz_ BK377 2
    have hfz48_3 := fz_ BK377 3
    have hfz48_4 := fz_ BK377 4
    have hfz48_5 := fz_ BK377 5
    have hfz48_6 := fz_ BK377 6
    have hfz48_7 := fz_ BK377 7
    have hnb49 := NB362_347.out
    have hnc49 := NB347_362.out
    have hnb50 := NB362_367.out
    have hnc50 := NB367_362.out
    have hcz51_0 := cz_ BK362 0 (.int .i64 t353)
    have hcz51_1 := cz_ BK362 1 (.string t354)
    have hcz51_2 := cz_ BK362 2 (.string t355)
    have hcz51_3 := cz_ BK362 3 (.string t356)
    have hcz51_4 := cz_ BK362 4 (.string t357)
    have hcz51_5 := cz_ BK362 5 (.string t358)
    have hcz51_6 := cz_ BK362 6 (.int .i64 t359)
    have hcz51_7 := cz_ BK362 7 (.int .i64 t360)
    have hfz51_0 := fz_ BK362 0
    have hfz51_1 := fz_ BK362 1
    have hfz51_2 := fz_ BK362 2
    have hfz51_3 := fz_ BK362 3
    have hfz51_4 := fz_ BK362 4
    have hfz51_5 := fz_ BK362 5
    have hfz51_6 := fz_ BK362 6
    have hfz51_7 := fz_ BK362 7
    go_wp2_with (first | ((with_reducible refine gate_callee (f := 12) rfl ?_); refine goesL_ (some 29) rfl rfl Tryz.func12 (by kernel_rfl) rfl #[.agg #[.int .i64 t368, .string t369, .string t370, .string t371, .string t372, .string t373, .int .i64 t374, .int .i64 t375], .agg #[.int .i64 t353, .string t354, .string t355, .string t356, .string t357, .string t358, .int .i64 t359, .int .i64 t360]] rfl gl_ ?_; (with_reducible refine (laws_eqReq.calls t368 t369 t370 t371 t372 t373 t374 t375 t353 t354 t355 t356 t357 t358 t359 t360 false _ A35.out).mono ?_); rintro e w52 ⟨rfl, hb⟩; refine ⟨_, rfl, ?_⟩; replace HO352 := Aside0.mk (Kd.R_below (by (with_reducible repeat (first | apply Kd.R_alloc | apply Kd.R_drewN | apply Kd.R_drew)); exact (Kd.R_mono (Kd.R_far (p := ⟨gb377, 7, none⟩) (Kd.R_far (p := ⟨gb377, 6, none⟩) (Kd.R_far (p := ⟨gb377, 5, none⟩) (Kd.R_far (p := ⟨gb377, 4, none⟩) (Kd.R_far (p := ⟨gb377, 3, none⟩) (Kd.R_far (p := ⟨gb377, 2, none⟩) (Kd.R_far (p := ⟨gb377, 1, none⟩) (Kd.R_far (p := ⟨gb377, 0, none⟩) (Kd.R_types HO352.out BK377.out (by decide)) (fun _ hk => hk.2) (.int .i64 t368)) (fun _ hk => hk.2) (.string t369)) (fun _ hk => hk.2) (.string t370)) (fun _ hk => hk.2) (.string t371)) (fun _ hk => hk.2) (.string t372)) (fun _ hk => hk.2) (.string t373)) (fun _ hk => hk.2) (.int .i64 t374)) (fun _ hk => hk.2) (.int .i64 t375)) (fun _ h_ => h_.1))) hb); replace HO366 := Aside0.mk (Kd.R_below (by (with_reducible repeat (first | apply Kd.R_alloc | apply Kd.R_drewN | apply Kd.R_drew)); exact (Kd.R_mono (Kd.R_far (p := ⟨gb377, 7, none⟩) (Kd.R_far (p := ⟨gb377, 6, none⟩) (Kd.R_far (p := ⟨gb377, 5, none⟩) (Kd.R_far (p := ⟨gb377, 4, none⟩) (Kd.R_far (p := ⟨gb377, 3, none⟩) (Kd.R_far (p := ⟨gb377, 2, none⟩) (Kd.R_far (p := ⟨gb377, 1, none⟩) (Kd.R_far (p := ⟨gb377, 0, none⟩) (Kd.R_types HO366.out BK377.out (by decide)) (fun _ hk => hk.2) (.int .i64 t368)) (fun _ hk => hk.2) (.string t369)) (fun _ hk => hk.2) (.string t370)) (fun _ hk => hk.2) (.string t371)) (fun _ hk => hk.2) (.string t372)) (fun _ hk => hk.2) (.string t373)) (fun _ hk => hk.2) (.int .i64 t374)) (fun _ hk => hk.2) (.int .i64 t375)) (fun _ h_ => h_.1))) hb); replace BK347 := Aside0.mk (blk_below (g := gb347) (o := .cells #[.string a0_0, .slice A0_1 l0_1.length c0_1] 24 (0, 0)) (by (with_reducible repeat (first | refine blk_drewN ?_ _ | refine blk_drew ?_ | refine blk_alloc ?_ _)); refine blk_far ?_ NB347_377.out _; (with_reducible repeat (first | refine blk_drewN ?_ _ | refine blk_drew ?_ | refine blk_alloc ?_ _)); refine blk_far ?_ NB347_377.out _; (with_reducible repeat (first | refine blk_drewN ?_ _ | refine blk_drew ?_ | refine blk_alloc ?_ _)); refine blk_far ?_ NB347_377.out _; (with_reducible repeat (first | refine blk_drewN ?_ _ | refine blk_drew ?_ | refine blk_alloc ?_ _)); refine blk_far ?_ NB347_377.out _; (with_reducible repeat (first | refine blk_drewN ?_ _ | refine blk_drew ?_ | refine blk_alloc ?_ _)); refine blk_far ?_ NB347_377.out _; (with_reducible repeat (first | refine blk_drewN ?_ _ | refine blk_drew ?_ | refine blk_alloc ?_ _)); refine blk_far ?_ NB347_377.out _; (with_reducible repeat (first | refine blk_drewN ?_ _ | refine blk_drew ?_ | refine blk_alloc ?_ _)); refine blk_far ?_ NB347_377.out _; (with_reducible repeat (first | refine blk_drewN ?_ _ | refine blk_drew ?_ | refine blk_alloc ?_ _)); refine blk_far ?_ NB347_377.out _; (with_reducible repeat (first | refine blk_drewN ?_ _ | refine blk_drew ?_ | refine blk_alloc ?_ _)); exact BK347.out) hb); replace BK362 := Aside0.mk (blk_below (g := gb362) (o := .cells #[.int .i64 t353, .string t354, .string t355, .string t356, .string t357, .string t358, .int .i64 t359, .int .i64 t360] 27 (0, 0)) (by (with_reducible repeat (first | refine blk_drewN ?_ _ | refine blk_drew ?_ | refine blk_alloc ?_ _)); refine blk_far ?_ NB362_377.out _; (with_reducible repeat (first | refine blk_drewN ?_ _ | refine blk_drew ?_ | refine blk_alloc ?_ _)); refine blk_far ?_ NB362_377.out _; (with_reducible repeat (first | refine blk_drewN ?_ _ | refine blk_drew ?_ | refine blk_alloc ?_ _)); refine blk_far ?_ NB362_377.out _; (with_reducible repeat (first | refine blk_drewN ?_ _ | refine blk_drew ?_ | refine blk_alloc ?_ _)); refine blk_far ?_ NB362_377.out _; (with_reducible repeat (first | refine blk_drewN ?_ _ | refine blk_drew ?_ | refine blk_alloc ?_ _)); refine blk_far ?_ NB362_377.out _; (with_reducible repeat (first | refine blk_drewN ?_ _ | refine blk_drew ?_ | refine blk_alloc ?_ _)); refine blk_far ?_ NB362_377.out _; (with_reducible repeat (first | refine blk_drewN ?_ _ | refine blk_drew ?_ | refine blk_alloc ?_ _)); refine blk_far ?_ NB362_377.out _; (with_reducible repeat (first | refine blk_drewN ?_ _ | refine blk_drew ?_ | refine blk_alloc ?_ _)); refine blk_far ?_ NB362_377.out _; (with_reducible repeat (first | refine blk_drewN ?_ _ | refine blk_drew ?_ | refine blk_alloc ?_ _)); exact BK362.out) hb); replace BK367 := Aside0.mk (blk_below (g := gb367) (o := .cells #[.string t363, .slice Ao28 t364.length co28] 32 (0, 0)) (by (with_reducible repeat (first | refine blk_drewN ?_ _ | refine blk_drew ?_ | refine blk_alloc ?_ _)); refine blk_far ?_ NB367_377.out _; (with_reducible repeat (first | refine blk_drewN ?_ _ | refine blk_drew ?_ | refine blk_alloc ?_ _)); refine blk_far ?_ NB367_377.out _; (with_reducible repeat (first | refine blk_drewN ?_ _ | refine blk_drew ?_ | refine blk_alloc ?_ _)); refine blk_far ?_ NB367_377.out _; (with_reducible repeat (first | refine blk_drewN ?_ _ | refine blk_drew ?_ | refine blk_alloc ?_ _)); refine blk_far ?_ NB367_377.out _; (with_reducible repeat (first | refine blk_drewN ?_ _ | refine blk_drew ?_ | refine blk_alloc ?_ _)); refine blk_far ?_ NB367_377.out _; (with_reducible repeat (first | refine blk_drewN ?_ _ | refine blk_drew ?_ | refine blk_alloc ?_ _)); refine blk_far ?_ NB367_377.out _; (with_reducible repeat (first | refine blk_drewN ?_ _ | refine blk_drew ?_ | refine blk_alloc ?_ _)); refine blk_far ?_ NB367_377.out _; (with_reducible repeat (first | refine blk_drewN ?_ _ | refine blk_drew ?_ | refine blk_alloc ?_ _)); refine blk_far ?_ NB367_377.out _; (with_reducible repeat (first | refine blk_drewN ?_ _ | refine blk_drew ?_ | refine blk_alloc ?_ _)); exact BK367.out) hb); replace BK377 := Aside0.mk (blk_below (g := gb377) (o := .cells #[.int .i64 t368, .string t369, .string t370, .string t371, .string t372, .string t373, .int .i64 t374, .int .i64 t375] 27 (0, 0)) (by (with_reducible repeat (first | refine blk_drewN ?_ _ | refine blk_drew ?_ | refine blk_alloc ?_ _)); apply bq8_7_6_5_4_3_2_1_0_; (with_reducible repeat (first | refine blk_drewN ?_ _ | refine blk_drew ?_ | refine blk_alloc ?_ _)); exact BK377.out) hb); replace HB := Aside0.mk (below_step bl_ hb); (try clear hb); (try clear hb2); (try clear hk); (try clear hi)))
    go_meet
    case rel => exact ⟨_, (true), sp_, H', ⟨by first | omega | exact Nat.le_refl _⟩, ⟨by (with_reducible repeat (first | apply Kd.R_alloc | apply Kd.R_drewN | apply Kd.R_drew)); exact Kd.R_mono HO366.out (fun _ hk => trivial)⟩, ⟨by (with_reducible repeat (first | refine blk_drewN ?_ _ | refine blk_drew ?_ | refine blk_alloc ?_ _)); exact BK347.out⟩, ⟨by (with_reducible repeat (first | refine blk_drewN ?_ _ | refine blk_drew ?_ | refine blk_alloc ?_ _)); exact BK362.out⟩, ⟨by (with_reducible repeat (first | refine blk_drewN ?_ _ | refine blk_drew ?_ | refine blk_alloc ?_ _)); exact BK367.out⟩, ⟨by (with_reducible repeat (first | refine blk_drewN ?_ _ | refine blk_drew ?_ | refine blk_alloc ?_ _)); exact BK377.out⟩, ⟨bl_⟩⟩
  case rest =>
   clear HC11
   try clear c1
   try clear c2
   try clear p2
   try clear c3
   try clear c3b0
   try clear c4
   try clear c5
   try clear c8
   try clear c9
   try clear c10
   try clear c11
   try clear c12
   try clear c20
   try clear c25
   try clear c26
   try clear c31
   try clear c32
   try clear c33
   try clear c36
   try clear c37
   try clear c38
   try clear c39
   try clear c41
   try clear c42
   try clear c45
   try clear c46
   try clear c47
   try clear c49
   try clear c50
   try clear hcz13_0
   try clear hcz13_1
   try clear hcz15_0
   try clear hcz15_1
   try clear hcz21_0
   try clear hcz21_1
   try clear hcz21_2
   try clear hcz21_3
   try clear hcz21_4
   try clear hcz21_5
   try clear hcz21_6
   try clear hcz21_7
   try clear hcz22_0
   try clear hcz22_1
   try clear hcz27_0
   try clear hcz27_1
   try clear hcz34_0
   try clear hcz34_1
   try clear hcz34_2
   try clear hcz34_3
   try clear hcz34_4
   try clear hcz34_5
   try clear hcz34_6
   try clear hcz34_7
   try clear hcz40_0
   try clear hcz40_1
   try clear hcz40_2
   try clear hcz40_3
   try clear hcz40_4
   try clear hcz40_5
   try clear hcz40_6
   try clear hcz40_7
   try clear hcz43_0
   try clear hcz43_1
   try clear hcz43_2
   try clear hcz43_3
   try clear hcz43_4
   try clear hcz43_5
   try clear hcz43_6
   try clear hcz43_7
   try clear hcz48_0
   try clear hcz48_1
   try clear hcz48_2
   try clear hcz48_3
   try clear hcz48_4
   try clear hcz48_5
   try clear hcz48_6
   try clear hcz48_7
   try clear hcz51_0
   try clear hcz51_1
   try clear hcz51_2
   try clear hcz51_3
   try clear hcz51_4
   try clear hcz51_5
   try clear hcz51_6
   try clear hcz51_7
   try clear hcz5_0
   try clear hcz5_1
   try clear hfz13_0
   try clear hfz13_1
   try clear hfz15_0
   try clear hfz15_1
   try clear hfz21_0
   try clear hfz21_1
   try clear hfz21_2
   try clear hfz21_3
   try clear hfz21_4
   try clear hfz21_5
   try clear hfz21_6
   try clear hfz21_7
   try clear hfz22_0
   try clear hfz22_1
   try clear hfz27_0
   try clear hfz27_1
   try clear hfz34_0
   try clear hfz34_1
   try clear hfz34_2
   try clear hfz34_3
   try clear hfz34_4
   try clear hfz34_5
   try clear hfz34_6
   try clear hfz34_7
   try clear hfz40_0
   try clear hfz40_1
   try clear hfz40_2
   try clear hfz40_3
   try clear hfz40_4
   try clear hfz40_5
   try clear hfz40_6
   try clear hfz40_7
   try clear hfz43_0
   try clear hfz43_1
   try clear hfz43_2
   try clear hfz43_3
   try clear hfz43_4
   try clear hfz43_5
   try clear hfz43_6
   try clear hfz43_7
   try clear hfz48_0
   try clear hfz48_1
   try clear hfz48_2
   try clear hfz48_3
   try clear hfz48_4
   try clear hfz48_5
   try clear hfz48_6
   try clear hfz48_7
   try clear hfz51_0
   try clear hfz51_1
   try clear hfz51_2
   try clear hfz51_3
   try clear hfz51_4
   try clear hfz51_5
   try clear hfz51_6
   try clear hfz51_7
   try clear hfz5_0
   try clear hfz5_1
   obtain ⟨kq, x35_10, rfl, HA, HJ10, HO_368001, BK347, BK362, BK367, BK377, HB⟩ := hcut
   cases kq with
   | zero => exact absurd HA.out (by simp [laws_FnExactReqOf.j0])
   | succ kj10 =>
    have H := HA.out
    clear HA
    simp only [laws_FnExactReqOf.j0] at H
    by_cases c53 : x35_10 = true
    ·subst c53
     replace H := ip_ H
     exact absurd H (by simp)
    ·replace c53 := Bool.eq_false_iff.mpr c53
     subst c53
     replace H := in_ H
     obtain ⟨⟨t379, t380⟩, A54, H⟩ := ob_ H
     (try dsimp only at H)
     obtain ⟨t383, A55, H⟩ := ob_ H
     by_cases c56 : t383 = true
     ·subst c56
      have H1 : (some true) = some true := rfl
      clear H
      have H := H1
      clear H1
      clear H
      try go_wp2
      have n0_ := Aside0.mk (Kd.R_drew HO_368001.out)
      have n1_ := Aside0.mk (blk_drew BK347.out)
      have n2_ := Aside0.mk (blk_drew BK362.out)
      have n3_ := Aside0.mk (blk_drew BK367.out)
      have n4_ := Aside0.mk (blk_drew BK377.out)
      have n5_ := Aside0.mk (below_drew1 HB.out)
      clear HO_368001
      clear BK347
      clear BK362
      clear BK367
      clear BK377
      clear HB
      have HO_368001 := n0_
      have BK347 := n1_
      have BK362 := n2_
      have BK367 := n3_
      have BK377 := n4_
      have HB := n5_
      clear n0_ n1_ n2_ n3_ n4_ n5_
      refine start_ (n := 5) (S := fun w' => w'.cell? ⟨gb367, 0, none⟩ = some (.string t363) ∧ w'.cell? ⟨gb367, 1, none⟩ = some (.slice Ao28 t364.length co28) ∧ w'.cell? ⟨gb347, 0, none⟩ = some (.string a0_0) ∧ w'.cell? ⟨gb347, 1, none⟩ = some (.slice A0_1 l0_1.length c0_1)) (ds := []) #[false, false, false, false, false] (by kernel_rfl) rfl rfl ⟨cy_ BK367 0, cy_ BK367 1, cy_ BK347 0, cy_ BK347 1⟩ (fun hHeld => ?_)
      generalize wc.drew = w57 at HO_368001 BK347 BK362 BK367 BK377 HB hHeld ⊢
      refine take_ (i := 0) (N := some 36) (v := ?_) (a' := ?_) #[true, false, false, false, false] rfl rfl (by kernel_rfl) (fun _ _ _ h => h) (Or.inl ⟨by rfl, ?_⟩) hHeld ?_ ?_
      rotate_left
      ·rintro w' ⟨s0, s1, s2, s3⟩
       go_simp
       with_reducible rfl
      rotate_left
      ·simp only [Act.put, q_]
       rfl
      refine take_ (i := 1) (N := some 37) (v := ?_) (a' := ?_) #[true, true, false, false, false] rfl rfl (by kernel_rfl) (fun _ _ _ h => h) (Or.inl ⟨by rfl, ?_⟩) hHeld ?_ ?_
      rotate_left
      ·rintro w' ⟨s0, s1, s2, s3⟩
       go_simp
       with_reducible rfl
      rotate_left
      ·simp only [Act.put, q_]
       rfl
      refine one_ (i := 2) (N := some 38) #[true, true, true, false, false] rfl rfl (by kernel_rfl) (by decide) (fun K hK => ?_)
      refine goes_ Tryz.func10 (by kernel_rfl) rfl #[.agg #[.string a0_0, .slice A0_1 l0_1.length c0_1]] (by rfl) rfl rfl gl_ ?_
      with_reducible refine (laws_toMsg.calls kj10 a0_0 _ _ l0_1 t379 t380 _ ?side1 ?side2 A54.out).mono ?_
      (case side1 => exact ca_ (Kd.C_below HR0_1.out HB.out))
      (case side2 => exact HC0_1.out)
      rintro e w58 ⟨v381, rfl, ho0, hb⟩
      refine ⟨_, rfl, ?_⟩
      have n0_ := Aside0.mk (Kd.R_elder' (ra_ HO_368001) (Kd.R_base ho0) hb)
      have n1_ := Aside0.mk (Kd.R_lower (Kd.R_new' ho0 (Kd.R_lt (ra_ HO_368001))) (below_size bl_))
      have n2_ := Aside0.mk (blk_below (bk_ BK347) hb)
      have n3_ := Aside0.mk (blk_below (bk_ BK362) hb)
      have n4_ := Aside0.mk (blk_below (bk_ BK367) hb)
      have n5_ := Aside0.mk (blk_below (bk_ BK377) hb)
      have n6_ := Aside0.mk (below_step bl_ hb)
      clear HO_368001
      clear BK347
      clear BK362
      clear BK367
      clear BK377
      clear HB
      have HO_368001 := n0_
      have HO382 := n1_
      have BK347 := n2_
      have BK362 := n3_
      have BK367 := n4_
      have BK377 := n5_
      have HB := n6_
      clear n0_ n1_ n2_ n3_ n4_ n5_ n6_
      (try clear hb)
      (try clear hb2)
      (try clear hk)
      (try clear hi)
      (try clear ho0)
      obtain ⟨Ao59, co59, eo59⟩ := Kd.R_slice HO382.out
      (first | subst eo59 | (injection eo59 with f1_ f2_ f3_; have f4_ := f1_.symm; have f5_ := f3_.symm; clear f1_ f2_ f3_; subst f4_; subst f5_))
      refine hK.out _ _ ⟨cy_ BK367 0, cy_ BK367 1, cy_ BK347 0, cy_ BK347 1⟩ (fun hHeld => ?_)
      clear hK K
      refine norm_ (a' := ?_) ?_ ?_
      rotate_left
      ·show Act.put _ (some 38) _ = _
       simp only [Act.put, q_]
       rfl
      refine one_ (i := 3) (N := some 39) #[true, true, true, true, false] rfl rfl (by kernel_rfl) (by decide) (fun K hK => ?_)
      refine goes_ Tryz.func13 (by kernel_rfl) rfl #[.agg #[.string t363, .slice Ao28 t364.length co28], .agg #[.string t379, .slice Ao59 t380.length co59]] (by rfl) rfl rfl gl_ ?_
      with_reducible refine (laws_eqMsg.calls kj10 t363 _ _ t364 t379 _ _ t380 true _ ?side1 ?side2 ?side3 ?side4 A55.out).mono ?_
      (case side1 => exact ca_ ((Kd.R_reads' HO_368001.out).2.2))
      (case side2 => exact (Kd.R_reads' HO_368001.out).2.1)
      (case side3 => exact ca_ ((Kd.R_reads' HO382.out).2.2))
      (case side4 => exact (Kd.R_reads' HO382.out).2.1)
      rintro e w60 ⟨rfl, hb⟩
      refine ⟨_, rfl, ?_⟩
      have n0_ := Aside0.mk (Kd.R_below (ra_ HO_368001) hb)
      have n1_ := Aside0.mk (Kd.R_below (ra_ HO382) hb)
      have n2_ := Aside0.mk (blk_below (bk_ BK347) hb)
      have n3_ := Aside0.mk (blk_below (bk_ BK362) hb)
      have n4_ := Aside0.mk (blk_below (bk_ BK367) hb)
      have n5_ := Aside0.mk (blk_below (bk_ BK377) hb)
      have n6_ := Aside0.mk (below_step bl_ hb)
      clear HO_368001
      clear HO382
      clear BK347
      clear BK362
      clear BK367
      clear BK377
      clear HB
      have HO_368001 := n0_
      have HO382 := n1_
      have BK347 := n2_
      have BK362 := n3_
      have BK367 := n4_
      have BK377 := n5_
      have HB := n6_
      clear n0_ n1_ n2_ n3_ n4_ n5_ n6_
      (try clear hb)
      (try clear hb2)
      (try clear hk)
      (try clear hi)
      refine hK.out _ _ ⟨cy_ BK367 0, cy_ BK367 1, cy_ BK347 0, cy_ BK347 1⟩ (fun hHeld => ?_)
      clear hK K
      refine norm_ (a' := ?_) ?_ ?_
      rotate_left
      ·show Act.put _ (some 39) _ = _
       simp only [Act.put, q_]
       rfl
      refine pure_ (i := 4) (N := some 40) (v := ?_) (a' := ?_) #[true, true, true, true, true] rfl rfl (by kernel_rfl) (fun _ _ _ h => h) (Or.inl ⟨by rfl, ?_⟩) ?_ ?_
      rotate_left
      ·intro w'
       go_simp
       with_reducible rfl
      rotate_left
      ·simp only [Act.put, q_]
       rfl
      refine done_ (by kernel_rfl) ?_
      try go_wp2
      go_ret
      exact ⟨sq_, bl_⟩
     ·replace c56 := Bool.eq_false_iff.mpr c56
      subst c56
      replace H := in_ H
      exact absurd H (by simp)
def ok90 (x : S90) : Prop := ((Lit.int .i64 x.f0).wf = true) ∧ (x.f1.size ≤ maxLen)
def ok24 (x : S24) : Prop := (x.f0.size ≤ maxLen) ∧ (x.f1.length ≤ maxLen ∧ ∀ y0 ∈ x.f1, ok90 y0)
/-- THE ONE PURE STATEMENT of laws_FnExactReqOf. -/
def laws_FnExactReqOf.Pure : Prop := ∀ (s0 : S24), (ok24 s0) → ∃ k, laws_FnExactReqOf.f k s0.f0 s0.f1 = some true
end Go.Proofs.YtohfefkjcnbejaaGreatDoor.QFnExactReqOf
