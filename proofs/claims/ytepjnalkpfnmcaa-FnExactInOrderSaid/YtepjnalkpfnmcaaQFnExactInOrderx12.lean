-- by my own printer (myprint.py, over the kit's print.py)
import Derived.Test.YtepjnalkpfnmcaaQFnExactInOrderx0
import Derived.Test.YtepjnalkpfnmcaaQFnExactInOrderx2
import Derived.Test.YtepjnalkpfnmcaaQFnExactInOrderx4
import Derived.Test.YtepjnalkpfnmcaaQFnExactInOrderx7
import Derived.Test.YtepjnalkpfnmcaaQFnExactInOrderx9
import Derived.Test.YtepjnalkpfnmcaaQFnExactInOrderx11
namespace Go.Proofs.Ytepjnalkpfnmcaa.QFnExactInOrder
open Go.RowKit Go.Proofs.YtepjnalkpfnmcaaW.PrintWords Go.Proofs.YtepjnalkpfnmcaaW.PrintLast Go.Proofs.YtepjnalkpfnmcaaW.PrintMore
attribute [local go_sem] max2_int min2_int max_two min_two max_three min_three max_four min_four   -- for this text's walks alone
set_option linter.unusedVariables false
set_option linter.unusedSimpArgs false
attribute [local go_sem] my_geq my_leq my_gtr
/-! ### laws_FnExactInOrder: function 14 -/
def laws_FnExactInOrder.f (k : Nat) (l0_0 : List (S162)) (a0_1 : Int) (a0_2 : Int) (l0_3 : List (S164)) : Option (Bool) := (laws_szWorld.f k l0_0 a0_1 a0_2 l0_3 1048576).bind fun t406 => (if t406 < 0 then (some true) else ((laws_toWorld.f k l0_0 a0_1 a0_2 l0_3).bind fun bt407 => ((spec_InOrder.f k bt407.1 bt407.2.1 bt407.2.2.1 bt407.2.2.2).bind fun t415 => ((laws_toWorld.f k l0_0 a0_1 a0_2 l0_3).bind fun bt416 => ((impl_InOrder.f k bt416.1 bt416.2.1 bt416.2.2.1 bt416.2.2.2).bind fun t425 => (if (t425 != t415) = true then (some false) else ((laws_toWorld.f k l0_0 a0_1 a0_2 l0_3).bind fun bt426 => ((laws_eqWorld.f k bt416.1 bt416.2.1 bt416.2.2.1 bt416.2.2.2 bt426.1 bt426.2.1 bt426.2.2.1 bt426.2.2.2).bind fun t434 => (if t434 = true then (some true) else (some false))))))))))
set_option maxHeartbeats 8000000 in
set_option maxRecDepth 100000 in
theorem laws_FnExactInOrder.calls (k : Nat) (A0_0 : Option Addr) (c0_0 : Nat) (l0_0 : List (S162)) (a0_1 : Int) (a0_2 : Int) (A0_3 : Option Addr) (c0_3 : Nat) (l0_3 : List (S164)) (r : Bool) (w : World) (hr0_0 : Kd.C k162 w A0_0 l0_0.length l0_0) (hc0_0 : l0_0.length ≤ c0_0) (hr0_3 : Kd.C k164 w A0_3 l0_3.length l0_3) (hc0_3 : l0_3.length ≤ c0_3) (h : laws_FnExactInOrder.f k l0_0 a0_1 a0_2 l0_3 = some true) :
  Calls Try.prog 14 #[.agg #[.slice A0_0 l0_0.length c0_0, .int .i64 a0_1, .int .i64 a0_2, .slice A0_3 l0_3.length c0_3]] w fun e w' => e = .returned (.bool true) ∧ Below w.heap.size w w' := by
 have hu50 := Try.underlying50
 have hu56 := Try.underlying56
 have HR0_0 := Aside0.mk hr0_0
 have HC0_0 := Aside0.mk hc0_0
 clear hr0_0 hc0_0
 have HR0_3 := Aside0.mk hr0_3
 have HC0_3 := Aside0.mk hc0_3
 clear hr0_3 hc0_3
 have HB := Aside0.mk (Below.refl w.heap.size w)
 have H : ((laws_szWorld.f k l0_0 a0_1 a0_2 l0_3 1048576).bind fun t406 => (if t406 < 0 then (some true) else ((laws_toWorld.f k l0_0 a0_1 a0_2 l0_3).bind fun bt407 => ((spec_InOrder.f k bt407.1 bt407.2.1 bt407.2.2.1 bt407.2.2.2).bind fun t415 => ((laws_toWorld.f k l0_0 a0_1 a0_2 l0_3).bind fun bt416 => ((impl_InOrder.f k bt416.1 bt416.2.1 bt416.2.2.1 bt416.2.2.2).bind fun t425 => (if (t425 != t415) = true then (some false) else ((laws_toWorld.f k l0_0 a0_1 a0_2 l0_3).bind fun bt426 => ((laws_eqWorld.f k bt416.1 bt416.2.1 bt416.2.2.1 bt416.2.2.2 bt426.1 bt426.2.1 bt426.2.2.1 bt426.2.2.2).bind fun t434 => (if t434 = true then (some true) else (some false))))))))))) = some true := h
 clear h
 obtain ⟨t406, A2, H⟩ := ob_ H
 by_cases c3 : t406 < 0
 ·rw [if_pos c3] at H
  have c3b0 : decide (t406 < 0) = true := decide_eq_true c3
  clear c3
  clear H
  go_enter Try.func14, Try.ntmps14
  go_wp2_with (first | ((with_reducible refine gate_dst (N := 1) rfl ?_); refine be_ (N := 1) (cs := #[.slice A0_0 l0_0.length c0_0, .int .i64 a0_1, .int .i64 a0_2, .slice A0_3 l0_3.length c0_3]) (t := 50) ?_; intro gb405 hg w4 hbox hb; have BK405 := Aside0.mk (hbox); have GW405 := gw_ (w := w) hg; have GE405 := gw_ (w := w) hg; replace HB := Aside0.mk (below_step bl_ hb); clear hb hbox hg; obtain ⟨hcz5_0, hcz5_1, hcz5_2, hcz5_3, hfz5_0, hfz5_1, hfz5_2, hfz5_3⟩ := bx4_ BK405) | ((with_reducible refine gate_callee (f := 31) rfl ?_); refine goesL_ (some 9) rfl rfl Try.func31 (by kernel_rfl) rfl #[.agg #[.slice A0_0 l0_0.length c0_0, .int .i64 a0_1, .int .i64 a0_2, .slice A0_3 l0_3.length c0_3], .int .i64 1048576] rfl gl_ ?_; (with_reducible refine (laws_szWorld.calls k _ _ l0_0 a0_1 a0_2 _ _ l0_3 1048576 t406 _ ?side1 ?side2 ?side3 ?side4 A2.out).mono ?_); (case side1 => exact ca_ (Kd.C_below HR0_0.out HB.out)); (case side2 => exact HC0_0.out); (case side3 => exact ca_ (Kd.C_below HR0_3.out HB.out)); (case side4 => exact HC0_3.out); rintro e w6 ⟨rfl, hb⟩; refine ⟨_, rfl, ?_⟩; replace BK405 := Aside0.mk (blk_below (bk_ BK405) hb); replace HB := Aside0.mk (below_step bl_ hb); (try clear hb); (try clear hb2); (try clear hk); (try clear hi)))
  go_ret
  exact ⟨sq_, bl_⟩
 ·rw [if_neg c3] at H
  have c3b0 : decide (t406 < 0) = false := decide_eq_false c3
  clear c3
  obtain ⟨⟨t407, t410, t411, t412⟩, A7, H⟩ := ob_ H
  (try dsimp only at H)
  obtain ⟨t415, A8, H⟩ := ob_ H
  obtain ⟨⟨t416, t419, t420, t421⟩, A9, H⟩ := ob_ H
  (try dsimp only at H)
  obtain ⟨t425, A10, H⟩ := ob_ H
  by_cases c11 : (t425 != t415) = true
  ·rw [if_pos c11] at H
   have c11b0 : (t425 != t415) = true := c11
   (try (have c11b1 : decide (t425 = t415) = false := by simpa using c11))
   (try (have c11b2 : (t425 == t415) = false := by simpa using c11))
   (try (have c11b3 : ¬ (t425 = t415) := by simpa using c11))
   clear c11
   exact absurd H (by simp)
  ·rw [if_neg c11] at H
   have c11b0 : (t425 != t415) = false := by simpa using c11
   (try (have c11b1 : decide (t425 = t415) = true := by simpa using c11))
   (try (have c11b2 : (t425 == t415) = true := by simpa using c11))
   clear c11
   obtain ⟨⟨t426, t429, t430, t431⟩, A12, H⟩ := ob_ H
   (try dsimp only at H)
   obtain ⟨t434, A13, H⟩ := ob_ H
   by_cases c14 : t434 = true
   ·subst c14
    have H1 : (some true) = some true := rfl
    clear H
    have H := H1
    clear H1
    clear H
    go_enter Try.func14, Try.ntmps14
    try go_wp2_with (first | ((with_reducible refine gate_dst (N := 1) rfl ?_); refine be_ (N := 1) (cs := #[.slice A0_0 l0_0.length c0_0, .int .i64 a0_1, .int .i64 a0_2, .slice A0_3 l0_3.length c0_3]) (t := 50) ?_; intro gb405 hg w15 hbox hb; have BK405 := Aside0.mk (hbox); have GW405 := gw_ (w := w) hg; have GE405 := gw_ (w := w) hg; replace HB := Aside0.mk (below_step bl_ hb); clear hb hbox hg; obtain ⟨hcz16_0, hcz16_1, hcz16_2, hcz16_3, hfz16_0, hfz16_1, hfz16_2, hfz16_3⟩ := bx4_ BK405) | ((with_reducible refine gate_callee (f := 31) rfl ?_); refine goesL_ (some 9) rfl rfl Try.func31 (by kernel_rfl) rfl #[.agg #[.slice A0_0 l0_0.length c0_0, .int .i64 a0_1, .int .i64 a0_2, .slice A0_3 l0_3.length c0_3], .int .i64 1048576] rfl gl_ ?_; (with_reducible refine (laws_szWorld.calls k _ _ l0_0 a0_1 a0_2 _ _ l0_3 1048576 t406 _ ?side1 ?side2 ?side3 ?side4 A2.out).mono ?_); (case side1 => exact ca_ (Kd.C_below HR0_0.out HB.out)); (case side2 => exact HC0_0.out); (case side3 => exact ca_ (Kd.C_below HR0_3.out HB.out)); (case side4 => exact HC0_3.out); rintro e w17 ⟨rfl, hb⟩; refine ⟨_, rfl, ?_⟩; replace BK405 := Aside0.mk (blk_below (bk_ BK405) hb); replace HB := Aside0.mk (below_step bl_ hb); (try clear hb); (try clear hb2); (try clear hk); (try clear hi); obtain ⟨hcz18_0, hcz18_1, hcz18_2, hcz18_3, hfz18_0, hfz18_1, hfz18_2, hfz18_3⟩ := bx4_ BK405) | ((with_reducible refine gate_callee (f := 33) rfl ?_); refine goesL_ (some 13) rfl rfl Try.func33 (by kernel_rfl) rfl #[.agg #[.slice A0_0 l0_0.length c0_0, .int .i64 a0_1, .int .i64 a0_2, .slice A0_3 l0_3.length c0_3]] rfl gl_ ?_; (with_reducible refine (laws_toWorld.calls k _ _ l0_0 a0_1 a0_2 _ _ l0_3 t407 t410 t411 t412 _ ?side1 ?side2 ?side3 ?side4 A7.out).mono ?_); (case side1 => exact ca_ (Kd.C_below HR0_0.out HB.out)); (case side2 => exact HC0_0.out); (case side3 => exact ca_ (Kd.C_below HR0_3.out HB.out)); (case side4 => exact HC0_3.out); rintro e w19 ⟨v408, v413, rfl, ho0, ho1, hb⟩; refine ⟨_, rfl, ?_⟩; have HO409 := Aside0.mk (Kd.R_lower ho0 (below_size bl_)); have HO414 := Aside0.mk (Kd.S_lower ho1 (below_size bl_)); replace BK405 := Aside0.mk (blk_below (bk_ BK405) hb); replace HB := Aside0.mk (below_step bl_ hb); (try clear hb); (try clear hb2); (try clear hk); (try clear hi); (try clear ho0); (try clear ho1); obtain ⟨Ao20, co20, eo20⟩ := Kd.R_slice HO409.out; subst eo20; obtain ⟨Ao21, co21, eo21⟩ := Kd.S_slice HO414.out; subst eo21) | ((with_reducible refine gate_callee (f := 75) rfl ?_); refine goesL_ (some 14) rfl rfl Try.func75 (by kernel_rfl) rfl #[.agg #[.slice Ao20 t407.length co20, .int .i64 t410, .int .i64 t411, .slice Ao21 t412.length co21]] rfl gl_ ?_; (with_reducible refine (spec_InOrder.calls k _ _ t407 t410 t411 _ _ t412 t415 _ ?side1 ?side2 ?side3 ?side4 A8.out).mono ?_); (case side1 => exact ca_ ((Kd.R_reads' HO409.out).2.2)); (case side2 => exact (Kd.R_reads' HO409.out).2.1); (case side3 => exact ca_ ((Kd.S_reads' HO414.out).2.2)); (case side4 => exact (Kd.S_reads' HO414.out).2.1); rintro e w22 ⟨rfl, hb⟩; refine ⟨_, rfl, ?_⟩; replace HO409 := Aside0.mk (Kd.R_below (ra_ HO409) hb); replace HO414 := Aside0.mk (Kd.S_below (by (with_reducible repeat (first | apply Kd.S_alloc | apply Kd.S_drewN | apply Kd.S_drew)); exact HO414.out) hb); replace BK405 := Aside0.mk (blk_below (bk_ BK405) hb); replace HB := Aside0.mk (below_step bl_ hb); (try clear hb); (try clear hb2); (try clear hk); (try clear hi); obtain ⟨hcz23_0, hcz23_1, hcz23_2, hcz23_3, hfz23_0, hfz23_1, hfz23_2, hfz23_3⟩ := bx4_ BK405) | ((with_reducible refine gate_callee (f := 33) rfl ?_); refine goesL_ (some 16) rfl rfl Try.func33 (by kernel_rfl) rfl #[.agg #[.slice A0_0 l0_0.length c0_0, .int .i64 a0_1, .int .i64 a0_2, .slice A0_3 l0_3.length c0_3]] rfl gl_ ?_; (with_reducible refine (laws_toWorld.calls k _ _ l0_0 a0_1 a0_2 _ _ l0_3 t416 t419 t420 t421 _ ?side1 ?side2 ?side3 ?side4 A9.out).mono ?_); (case side1 => exact ca_ (Kd.C_below HR0_0.out HB.out)); (case side2 => exact HC0_0.out); (case side3 => exact ca_ (Kd.C_below HR0_3.out HB.out)); (case side4 => exact HC0_3.out); rintro e w24 ⟨v417, v422, rfl, ho0, ho1, hb⟩; refine ⟨_, rfl, ?_⟩; have HO418 := Aside0.mk (Kd.R_lower (Kd.R_new' ho0 (Kd.R_lt (ra_ HO409))) (below_size bl_)); replace HO409 := Aside0.mk (Kd.R_elder' (ra_ HO409) (Kd.R_base ho0) hb); have HO423 := Aside0.mk (Kd.S_lower (Kd.S_new' ho1 (Kd.S_lt (by (with_reducible repeat (first | apply Kd.S_alloc | apply Kd.S_drewN | apply Kd.S_drew)); exact HO414.out))) (below_size bl_)); replace HO414 := Aside0.mk (Kd.S_elder' (by (with_reducible repeat (first | apply Kd.S_alloc | apply Kd.S_drewN | apply Kd.S_drew)); exact HO414.out) (Kd.S_base ho1) hb); replace BK405 := Aside0.mk (blk_below (bk_ BK405) hb); replace HB := Aside0.mk (below_step bl_ hb); (try clear hb); (try clear hb2); (try clear hk); (try clear hi); (try clear ho0); (try clear ho1)) | ((with_reducible refine gate_dst (N := 5) rfl ?_); refine be_ (N := 5) (cs := #[.slice none 0 0, .int .i64 0, .int .i64 0, .slice none 0 0]) (t := 56) ?_; intro gb424 hg w25 hbox hb; replace HO409 := Aside0.mk (Kd.R_below (ra_ HO409) hb); replace HO414 := Aside0.mk (Kd.S_below (by (with_reducible repeat (first | apply Kd.S_alloc | apply Kd.S_drewN | apply Kd.S_drew)); exact HO414.out) hb); replace HO418 := Aside0.mk (Kd.R_below (ra_ HO418) hb); replace HO423 := Aside0.mk (Kd.S_below (by (with_reducible repeat (first | apply Kd.S_alloc | apply Kd.S_drewN | apply Kd.S_drew)); exact HO423.out) hb); have BK424 := Aside0.mk (hbox); have GW424 := gw_ (w := w) hg; have GE424 := gw_ (w := w) hg; replace HB := Aside0.mk (below_step bl_ hb); have NB405_424 := Aside0.mk ((by rw [hg]; exact Nat.ne_of_lt (blk_lt (bk_ BK405)) : gb405 ≠ gb424)); have NB424_405 := Aside0.mk ((by rw [hg]; exact Nat.ne_of_gt (blk_lt (bk_ BK405)) : gb424 ≠ gb405)); replace BK405 := Aside0.mk (blk_below (bk_ BK405) hb); clear hb hbox hg; obtain ⟨Ao26, co26, eo26⟩ := Kd.R_slice HO418.out; subst eo26; have hnb27 := NB424_405.out; have hnc27 := NB405_424.out; obtain ⟨hcz28_0, hcz28_1, hcz28_2, hcz28_3, hfz28_0, hfz28_1, hfz28_2, hfz28_3⟩ := bx4_ BK424; obtain ⟨Ao29, co29, eo29⟩ := Kd.S_slice HO423.out; subst eo29) | ((with_reducible refine gate_callee (f := 76) rfl ?_); refine goesL_ (some 18) rfl rfl Try.func76 (by kernel_rfl) rfl #[.agg #[.slice Ao26 t416.length co26, .int .i64 t419, .int .i64 t420, .slice Ao29 t421.length co29]] rfl gl_ ?_; (with_reducible refine (impl_InOrder.calls k _ _ t416 t419 t420 _ _ t421 t425 _ ?side1 ?side2 ?side3 ?side4 A10.out).mono ?_); (case side1 => refine (Kd.R_reads' (e := 121) (base := w.heap.size) (ok := fun k_ => (True ∧ some k_ ≠ (.slice Ao20 t407.length co20 : Value).ownBlock)) (n := t416.length) (c := co26) ?_).2.2; exact (by (with_reducible repeat (first | apply Kd.R_alloc | apply Kd.R_drewN | apply Kd.R_drew)); exact (Kd.R_mono (Kd.R_far (p := ⟨gb424, 3, none⟩) (Kd.R_far (p := ⟨gb424, 2, none⟩) (Kd.R_far (p := ⟨gb424, 1, none⟩) (Kd.R_far (p := ⟨gb424, 0, none⟩) (Kd.R_types HO418.out BK424.out (by decide)) (fun _ hk => hk.2) (.slice Ao26 t416.length co26)) (fun _ hk => hk.2) (.int .i64 t419)) (fun _ hk => hk.2) (.int .i64 t420)) (fun _ hk => hk.2) (.slice Ao29 t421.length co29)) (fun _ h_ => h_.1)))); (case side2 => exact (Kd.R_reads' HO418.out).2.1); (case side3 => refine (Kd.S_reads' (e := 126) (base := w.heap.size) (ok := fun k_ => (True ∧ some k_ ≠ (.slice Ao21 t412.length co21 : Value).ownBlock)) (n := t421.length) (c := co29) ?_).2.2; exact (by (with_reducible repeat (first | apply Kd.S_alloc | apply Kd.S_drewN | apply Kd.S_drew)); exact (Kd.S_mono (Kd.S_far (p := ⟨gb424, 3, none⟩) (Kd.S_far (p := ⟨gb424, 2, none⟩) (Kd.S_far (p := ⟨gb424, 1, none⟩) (Kd.S_far (p := ⟨gb424, 0, none⟩) (Kd.S_types HO423.out BK424.out (by decide)) (fun _ hk => hk.2) (.slice Ao26 t416.length co26)) (fun _ hk => hk.2) (.int .i64 t419)) (fun _ hk => hk.2) (.int .i64 t420)) (fun _ hk => hk.2) (.slice Ao29 t421.length co29)) (fun _ h_ => h_.1)))); (case side4 => exact (Kd.S_reads' HO423.out).2.1); rintro e w30 ⟨rfl, hb⟩; refine ⟨_, rfl, ?_⟩; replace HO409 := Aside0.mk (Kd.R_below (by (with_reducible repeat (first | apply Kd.R_alloc | apply Kd.R_drewN | apply Kd.R_drew)); exact (Kd.R_mono (Kd.R_far (p := ⟨gb424, 3, none⟩) (Kd.R_far (p := ⟨gb424, 2, none⟩) (Kd.R_far (p := ⟨gb424, 1, none⟩) (Kd.R_far (p := ⟨gb424, 0, none⟩) (Kd.R_types HO409.out BK424.out (by decide)) (fun _ hk => hk.2) (.slice Ao26 t416.length co26)) (fun _ hk => hk.2) (.int .i64 t419)) (fun _ hk => hk.2) (.int .i64 t420)) (fun _ hk => hk.2) (.slice Ao29 t421.length co29)) (fun _ h_ => h_.1))) hb); replace HO414 := Aside0.mk (Kd.S_below (by (with_reducible repeat (first | apply Kd.S_alloc | apply Kd.S_drewN | apply Kd.S_drew)); exact (Kd.S_mono (Kd.S_far (p := ⟨gb424, 3, none⟩) (Kd.S_far (p := ⟨gb424, 2, none⟩) (Kd.S_far (p := ⟨gb424, 1, none⟩) (Kd.S_far (p := ⟨gb424, 0, none⟩) (Kd.S_types HO414.out BK424.out (by decide)) (fun _ hk => hk.2) (.slice Ao26 t416.length co26)) (fun _ hk => hk.2) (.int .i64 t419)) (fun _ hk => hk.2) (.int .i64 t420)) (fun _ hk => hk.2) (.slice Ao29 t421.length co29)) (fun _ h_ => h_.1))) hb); replace HO418 := Aside0.mk (Kd.R_below (by (with_reducible repeat (first | apply Kd.R_alloc | apply Kd.R_drewN | apply Kd.R_drew)); exact (Kd.R_mono (Kd.R_far (p := ⟨gb424, 3, none⟩) (Kd.R_far (p := ⟨gb424, 2, none⟩) (Kd.R_far (p := ⟨gb424, 1, none⟩) (Kd.R_far (p := ⟨gb424, 0, none⟩) (Kd.R_types HO418.out BK424.out (by decide)) (fun _ hk => hk.2) (.slice Ao26 t416.length co26)) (fun _ hk => hk.2) (.int .i64 t419)) (fun _ hk => hk.2) (.int .i64 t420)) (fun _ hk => hk.2) (.slice Ao29 t421.length co29)) (fun _ h_ => h_.1))) hb); replace HO423 := Aside0.mk (Kd.S_below (by (with_reducible repeat (first | apply Kd.S_alloc | apply Kd.S_drewN | apply Kd.S_drew)); exact (Kd.S_mono (Kd.S_far (p := ⟨gb424, 3, none⟩) (Kd.S_far (p := ⟨gb424, 2, none⟩) (Kd.S_far (p := ⟨gb424, 1, none⟩) (Kd.S_far (p := ⟨gb424, 0, none⟩) (Kd.S_types HO423.out BK424.out (by decide)) (fun _ hk => hk.2) (.slice Ao26 t416.length co26)) (fun _ hk => hk.2) (.int .i64 t419)) (fun _ hk => hk.2) (.int .i64 t420)) (fun _ hk => hk.2) (.slice Ao29 t421.length co29)) (fun _ h_ => h_.1))) hb); replace BK405 := Aside0.mk (blk_below (g := gb405) (o := .cells #[.slice A0_0 l0_0.length c0_0, .int .i64 a0_1, .int .i64 a0_2, .slice A0_3 l0_3.length c0_3] 50 (0, 0)) (by (with_reducible repeat (first | refine blk_drewN ?_ _ | refine blk_drew ?_ | refine blk_alloc ?_ _)); refine blk_far ?_ NB405_424.out _; (with_reducible repeat (first | refine blk_drewN ?_ _ | refine blk_drew ?_ | refine blk_alloc ?_ _)); refine blk_far ?_ NB405_424.out _; (with_reducible repeat (first | refine blk_drewN ?_ _ | refine blk_drew ?_ | refine blk_alloc ?_ _)); refine blk_far ?_ NB405_424.out _; (with_reducible repeat (first | refine blk_drewN ?_ _ | refine blk_drew ?_ | refine blk_alloc ?_ _)); refine blk_far ?_ NB405_424.out _; (with_reducible repeat (first | refine blk_drewN ?_ _ | refine blk_drew ?_ | refine blk_alloc ?_ _)); exact BK405.out) hb); replace BK424 := Aside0.mk (blk_below (g := gb424) (o := .cells #[.slice Ao26 t416.length co26, .int .i64 t419, .int .i64 t420, .slice Ao29 t421.length co29] 56 (0, 0)) (by (with_reducible repeat (first | refine blk_drewN ?_ _ | refine blk_drew ?_ | refine blk_alloc ?_ _)); apply bq4_3_2_1_0_; (with_reducible repeat (first | refine blk_drewN ?_ _ | refine blk_drew ?_ | refine blk_alloc ?_ _)); exact BK424.out) hb); replace HB := Aside0.mk (below_step bl_ hb); (try clear hb); (try clear hb2); (try clear hk); (try clear hi)))
    have n0_ := Aside0.mk (Kd.R_drew HO409.out)
    have n1_ := Aside0.mk (Kd.S_drew HO414.out)
    have n2_ := Aside0.mk (Kd.R_drew HO418.out)
    have n3_ := Aside0.mk (Kd.S_drew HO423.out)
    have n4_ := Aside0.mk (blk_drew BK405.out)
    have n5_ := Aside0.mk (blk_drew BK424.out)
    have n6_ := Aside0.mk (below_drew1 HB.out)
    clear HO409
    clear HO414
    clear HO418
    clear HO423
    clear BK405
    clear BK424
    clear HB
    have HO409 := n0_
    have HO414 := n1_
    have HO418 := n2_
    have HO423 := n3_
    have BK405 := n4_
    have BK424 := n5_
    have HB := n6_
    clear n0_ n1_ n2_ n3_ n4_ n5_ n6_
    refine start_ (n := 5) (S := fun w' => w'.cell? ⟨gb424, 0, none⟩ = some (.slice Ao26 t416.length co26) ∧ w'.cell? ⟨gb424, 1, none⟩ = some (.int .i64 t419) ∧ w'.cell? ⟨gb424, 2, none⟩ = some (.int .i64 t420) ∧ w'.cell? ⟨gb424, 3, none⟩ = some (.slice Ao29 t421.length co29) ∧ w'.cell? ⟨gb405, 0, none⟩ = some (.slice A0_0 l0_0.length c0_0) ∧ w'.cell? ⟨gb405, 1, none⟩ = some (.int .i64 a0_1) ∧ w'.cell? ⟨gb405, 2, none⟩ = some (.int .i64 a0_2) ∧ w'.cell? ⟨gb405, 3, none⟩ = some (.slice A0_3 l0_3.length c0_3)) (ds := []) #[false, false, false, false, false] (by kernel_rfl) rfl rfl ⟨cy_ BK424 0, cy_ BK424 1, cy_ BK424 2, cy_ BK424 3, cy_ BK405 0, cy_ BK405 1, cy_ BK405 2, cy_ BK405 3⟩ (fun hHeld => ?_)
    generalize w30.drew = w31 at HO409 HO414 HO418 HO423 BK405 BK424 HB hHeld ⊢
    refine take_ (i := 0) (N := some 22) (v := ?_) (a' := ?_) #[true, false, false, false, false] rfl rfl (by kernel_rfl) (fun _ _ _ h => h) (Or.inl ⟨by rfl, ?_⟩) hHeld ?_ ?_
    rotate_left
    ·rintro w' ⟨s0, s1, s2, s3, s4, s5, s6, s7⟩
     go_simp
     with_reducible rfl
    rotate_left
    ·simp only [Act.put, q_]
     rfl
    refine take_ (i := 1) (N := some 23) (v := ?_) (a' := ?_) #[true, true, false, false, false] rfl rfl (by kernel_rfl) (fun _ _ _ h => h) (Or.inl ⟨by rfl, ?_⟩) hHeld ?_ ?_
    rotate_left
    ·rintro w' ⟨s0, s1, s2, s3, s4, s5, s6, s7⟩
     go_simp
     with_reducible rfl
    rotate_left
    ·simp only [Act.put, q_]
     rfl
    refine one_ (i := 2) (N := some 24) #[true, true, true, false, false] rfl rfl (by kernel_rfl) (by decide) (fun K hK => ?_)
    refine goes_ Try.func33 (by kernel_rfl) rfl #[.agg #[.slice A0_0 l0_0.length c0_0, .int .i64 a0_1, .int .i64 a0_2, .slice A0_3 l0_3.length c0_3]] (by rfl) rfl rfl gl_ ?_
    with_reducible refine (laws_toWorld.calls k _ _ l0_0 a0_1 a0_2 _ _ l0_3 t426 t429 t430 t431 _ ?side1 ?side2 ?side3 ?side4 A12.out).mono ?_
    (case side1 => exact ca_ (Kd.C_below HR0_0.out HB.out))
    (case side2 => exact HC0_0.out)
    (case side3 => exact ca_ (Kd.C_below HR0_3.out HB.out))
    (case side4 => exact HC0_3.out)
    rintro e w32 ⟨v427, v432, rfl, ho0, ho1, hb⟩
    refine ⟨_, rfl, ?_⟩
    have n0_ := Aside0.mk (Kd.R_elder' (ra_ HO409) (Kd.R_base ho0) hb)
    have n1_ := Aside0.mk (Kd.S_elder' (by (with_reducible repeat (first | apply Kd.S_alloc | apply Kd.S_drewN | apply Kd.S_drew)); exact HO414.out) (Kd.S_base ho1) hb)
    have n2_ := Aside0.mk (Kd.R_elder' (ra_ HO418) (Kd.R_base ho0) hb)
    have n3_ := Aside0.mk (Kd.S_elder' (by (with_reducible repeat (first | apply Kd.S_alloc | apply Kd.S_drewN | apply Kd.S_drew)); exact HO423.out) (Kd.S_base ho1) hb)
    have n4_ := Aside0.mk (Kd.R_lower (Kd.R_new' (Kd.R_new' ho0 (Kd.R_lt (ra_ HO409))) (Kd.R_lt (ra_ HO418))) (below_size bl_))
    have n5_ := Aside0.mk (Kd.S_lower (Kd.S_new' (Kd.S_new' ho1 (Kd.S_lt (by (with_reducible repeat (first | apply Kd.S_alloc | apply Kd.S_drewN | apply Kd.S_drew)); exact HO414.out))) (Kd.S_lt (by (with_reducible repeat (first | apply Kd.S_alloc | apply Kd.S_drewN | apply Kd.S_drew)); exact HO423.out))) (below_size bl_))
    have n6_ := Aside0.mk (blk_below (bk_ BK405) hb)
    have n7_ := Aside0.mk (blk_below (bk_ BK424) hb)
    have n8_ := Aside0.mk (below_step bl_ hb)
    clear HO409
    clear HO414
    clear HO418
    clear HO423
    clear BK405
    clear BK424
    clear HB
    have HO409 := n0_
    have HO414 := n1_
    have HO418 := n2_
    have HO423 := n3_
    have HO428 := n4_
    have HO433 := n5_
    have BK405 := n6_
    have BK424 := n7_
    have HB := n8_
    clear n0_ n1_ n2_ n3_ n4_ n5_ n6_ n7_ n8_
    (try clear hb)
    (try clear hb2)
    (try clear hk)
    (try clear hi)
    (try clear ho0)
    (try clear ho1)
    obtain ⟨Ao33, co33, eo33⟩ := Kd.R_slice HO428.out
    (first | subst eo33 | (injection eo33 with f1_ f2_ f3_; have f4_ := f1_.symm; have f5_ := f3_.symm; clear f1_ f2_ f3_; subst f4_; subst f5_))
    obtain ⟨Ao34, co34, eo34⟩ := Kd.S_slice HO433.out
    (first | subst eo34 | (injection eo34 with f1_ f2_ f3_; have f4_ := f1_.symm; have f5_ := f3_.symm; clear f1_ f2_ f3_; subst f4_; subst f5_))
    refine hK.out _ _ ⟨cy_ BK424 0, cy_ BK424 1, cy_ BK424 2, cy_ BK424 3, cy_ BK405 0, cy_ BK405 1, cy_ BK405 2, cy_ BK405 3⟩ (fun hHeld => ?_)
    clear hK K
    refine norm_ (a' := ?_) ?_ ?_
    rotate_left
    ·show Act.put _ (some 24) _ = _
     simp only [Act.put, q_]
     rfl
    refine one_ (i := 3) (N := some 25) #[true, true, true, true, false] rfl rfl (by kernel_rfl) (by decide) (fun K hK => ?_)
    refine goes_ Try.func35 (by kernel_rfl) rfl #[.agg #[.slice Ao26 t416.length co26, .int .i64 t419, .int .i64 t420, .slice Ao29 t421.length co29], .agg #[.slice Ao33 t426.length co33, .int .i64 t429, .int .i64 t430, .slice Ao34 t431.length co34]] (by rfl) rfl rfl gl_ ?_
    with_reducible refine (laws_eqWorld.calls k _ _ t416 t419 t420 _ _ t421 _ _ t426 t429 t430 _ _ t431 true _ ?side1 ?side2 ?side3 ?side4 ?side5 ?side6 ?side7 ?side8 A13.out).mono ?_
    (case side1 => exact ca_ ((Kd.R_reads' HO418.out).2.2))
    (case side2 => exact (Kd.R_reads' HO418.out).2.1)
    (case side3 => exact ca_ ((Kd.S_reads' HO423.out).2.2))
    (case side4 => exact (Kd.S_reads' HO423.out).2.1)
    (case side5 => exact ca_ ((Kd.R_reads' HO428.out).2.2))
    (case side6 => exact (Kd.R_reads' HO428.out).2.1)
    (case side7 => exact ca_ ((Kd.S_reads' HO433.out).2.2))
    (case side8 => exact (Kd.S_reads' HO433.out).2.1)
    rintro e w35 ⟨rfl, hb⟩
    refine ⟨_, rfl, ?_⟩
    have n0_ := Aside0.mk (Kd.R_below (ra_ HO409) hb)
    have n1_ := Aside0.mk (Kd.S_below (by (with_reducible repeat (first | apply Kd.S_alloc | apply Kd.S_drewN | apply Kd.S_drew)); exact HO414.out) hb)
    have n2_ := Aside0.mk (Kd.R_below (ra_ HO418) hb)
    have n3_ := Aside0.mk (Kd.S_below (by (with_reducible repeat (first | apply Kd.S_alloc | apply Kd.S_drewN | apply Kd.S_drew)); exact HO423.out) hb)
    have n4_ := Aside0.mk (Kd.R_below (ra_ HO428) hb)
    have n5_ := Aside0.mk (Kd.S_below (by (with_reducible repeat (first | apply Kd.S_alloc | apply Kd.S_drewN | apply Kd.S_drew)); exact HO433.out) hb)
    have n6_ := Aside0.mk (blk_below (bk_ BK405) hb)
    have n7_ := Aside0.mk (blk_below (bk_ BK424) hb)
    have n8_ := Aside0.mk (below_step bl_ hb)
    clear HO409
    clear HO414
    clear HO418
    clear HO423
    clear HO428
    clear HO433
    clear BK405
    clear BK424
    clear HB
    have HO409 := n0_
    have HO414 := n1_
    have HO418 := n2_
    have HO423 := n3_
    have HO428 := n4_
    have HO433 := n5_
    have BK405 := n6_
    have BK424 := n7_
    have HB := n8_
    clear n0_ n1_ n2_ n3_ n4_ n5_ n6_ n7_ n8_
    (try clear hb)
    (try clear hb2)
    (try clear hk)
    (try clear hi)
    refine hK.out _ _ ⟨cy_ BK424 0, cy_ BK424 1, cy_ BK424 2, cy_ BK424 3, cy_ BK405 0, cy_ BK405 1, cy_ BK405 2, cy_ BK405 3⟩ (fun hHeld => ?_)
    clear hK K
    refine norm_ (a' := ?_) ?_ ?_
    rotate_left
    ·show Act.put _ (some 25) _ = _
     simp only [Act.put, q_]
     rfl
    refine pure_ (i := 4) (N := some 26) (v := ?_) (a' := ?_) #[true, true, true, true, true] rfl rfl (by kernel_rfl) (fun _ _ _ h => h) (Or.inl ⟨by rfl, ?_⟩) ?_ ?_
    rotate_left
    ·intro w'
     go_simp
     with_reducible rfl
    rotate_left
    ·simp only [Act.put, q_]
     rfl
    refine done_ (by kernel_rfl) ?_
    try go_wp2
    go_ret
    exact ⟨sq_, bl_⟩
   ·replace c14 := Bool.eq_false_iff.mpr c14
    subst c14
    replace H := in_ H
    exact absurd H (by simp)
def ok89 (x : S89) : Prop := (x.f0.size ≤ maxLen) ∧ ((Lit.int .i64 x.f1).wf = true) ∧ ((Lit.int .i64 x.f2).wf = true)
def ok34 (x : S34) : Prop := ((Lit.int .i64 x.f0).wf = true) ∧ ((Lit.int .i64 x.f1).wf = true) ∧ (x.f2.length ≤ maxLen ∧ ∀ y0 ∈ x.f2, (Lit.int .i64 y0).wf = true) ∧ (x.f3.length ≤ maxLen ∧ ∀ y0 ∈ x.f3, (Lit.int .i64 y0).wf = true)
def ok70 (x : S70) : Prop := (x.f0.size ≤ maxLen) ∧ (x.f1.size ≤ maxLen) ∧ (x.f2.length ≤ maxLen ∧ ∀ y0 ∈ x.f2, (Lit.int .u8 y0).wf = true)
def ok37 (x : S37) : Prop := (x.f0.size ≤ maxLen) ∧ ((Lit.int .i64 x.f1).wf = true) ∧ ((Lit.int .i64 x.f2).wf = true) ∧ ((Lit.int .i64 x.f3).wf = true) ∧ ((Lit.int .i64 x.f4).wf = true) ∧ (x.f5.length ≤ maxLen ∧ ∀ y0 ∈ x.f5, ok89 y0) ∧ (ok34 x.f6) ∧ (x.f7.length ≤ maxLen ∧ ∀ y0 ∈ x.f7, ok70 y0)
def ok162 (x : S162) : Prop := ((Lit.int .i64 x.f0).wf = true) ∧ (x.f1.length ≤ maxLen ∧ ∀ y0 ∈ x.f1, ok37 y0)
def ok164 (x : S164) : Prop := (x.f0.length ≤ maxLen ∧ ∀ y0 ∈ x.f0, (Lit.int .u8 y0).wf = true) ∧ ((Lit.int .i64 x.f1).wf = true) ∧ (x.f2.length ≤ maxLen ∧ ∀ y0 ∈ x.f2, (Lit.int .i64 y0).wf = true) ∧ ((Lit.int .i64 x.f3).wf = true) ∧ ((Lit.int .i64 x.f4).wf = true) ∧ ((Lit.int .i64 x.f5).wf = true) ∧ ((Lit.int .i64 x.f6).wf = true) ∧ ((Lit.int .i64 x.f7).wf = true) ∧ (x.f8.length ≤ maxLen ∧ ∀ y0 ∈ x.f8, (Lit.int .u8 y0).wf = true)
def ok50 (x : S50) : Prop := (x.f0.length ≤ maxLen ∧ ∀ y0 ∈ x.f0, ok162 y0) ∧ ((Lit.int .i64 x.f1).wf = true) ∧ ((Lit.int .i64 x.f2).wf = true) ∧ (x.f3.length ≤ maxLen ∧ ∀ y0 ∈ x.f3, ok164 y0)
/-- THE ONE PURE STATEMENT of laws_FnExactInOrder. -/
def laws_FnExactInOrder.Pure : Prop := ∀ (s0 : S50), (ok50 s0) → ∃ k, laws_FnExactInOrder.f k s0.f0 s0.f1 s0.f2 s0.f3 = some true
end Go.Proofs.Ytepjnalkpfnmcaa.QFnExactInOrder
