-- by my own printer (myprint.py, over the kit's print.py)
import Derived.Test.YtbjpfknmkpnhjaaDoorQFnExactReqMsgx0
import Derived.Test.YtbjpfknmkpnhjaaDoorQFnExactReqMsgx1
import Derived.Test.YtbjpfknmkpnhjaaDoorQFnExactReqMsgx9
import Derived.Test.YtbjpfknmkpnhjaaDoorQFnExactReqMsgx10
import Derived.Test.YtbjpfknmkpnhjaaDoorQFnExactReqMsgx14
import Derived.Test.YtbjpfknmkpnhjaaDoorQFnExactReqMsgx15
import Derived.Test.YtbjpfknmkpnhjaaDoorQFnExactReqMsgx16
namespace Go.Proofs.YtbjpfknmkpnhjaaDoor.QFnExactReqMsg
open Go.RowKit Go.Proofs.YtbjpfknmkpnhjaaDoorW.PrintWords Go.Proofs.YtbjpfknmkpnhjaaDoorW.PrintLast Go.Proofs.YtbjpfknmkpnhjaaDoorW.PrintMore
attribute [local go_sem] max2_int min2_int max_two min_two max_three min_three max_four min_four   -- for this text's walks alone
set_option linter.unusedVariables false
set_option linter.unusedSimpArgs false
attribute [local go_sem] my_geq my_leq my_gtr
/-! ### laws_FnExactReqMsg: function 4 -/
mutual
def laws_FnExactReqMsg.j0 : Nat → Bool → Bool → Int → ByteArray → ByteArray → ByteArray → ByteArray → ByteArray → Int → Int → ByteArray → List (S67) → ByteArray → List (S67) → Option (Bool)
 | 0, _, _, _, _, _, _, _, _, _, _, _, _, _, _ => none
 | k + 1, x5, x37, x391000, x391001, x391002, x391003, x391004, x391005, x391006, x391007, x406000, x406001, x420000, x420001 => if x37 = true then (some false) else ((laws_markMsg.f k x420000 x420001 1).bind fun bt421 => ((laws_heldMsg.f k x420000 bt421.2 1).bind fun t423 => (if t423 < 0 then (some false) else (if t423 = bt421.1 then ((laws_toReq.f x391000 x391001 x391002 x391003 x391004 x391005 x391006 x391007).bind fun bt424 => ((impl_ReqMsg.f k bt424.1 bt424.2.1 bt424.2.2.1 bt424.2.2.2.1 bt424.2.2.2.2.1 bt424.2.2.2.2.2.1 bt424.2.2.2.2.2.2.1 bt424.2.2.2.2.2.2.2).bind fun bt432 => ((laws_eqMsg.f k bt432.1 bt432.2.1 x406000 x406001).bind fun t438 => (if t438 = true then (laws_FnExactReqMsg.j1 k bt421.1 (bt432.2.2 != x5) x420000 bt421.2) else (laws_FnExactReqMsg.j1 k bt421.1 true x420000 bt421.2))))) else (some false)))))
def laws_FnExactReqMsg.j1 : Nat → Int → Bool → ByteArray → List (S67) → Option (Bool)
 | 0, _, _, _, _ => none
 | k + 1, x8, x63, x420000, x420001 => if x63 = true then (some false) else ((laws_heldMsg.f k x420000 x420001 1).bind fun t439 => (if t439 < 0 then (some false) else (if t439 = x8 then (some true) else (some false))))
end
def laws_FnExactReqMsg.f (k : Nat) (a0_0 : Int) (a0_1 : ByteArray) (a0_2 : ByteArray) (a0_3 : ByteArray) (a0_4 : ByteArray) (a0_5 : ByteArray) (a0_6 : Int) (a0_7 : Int) : Option (Bool) := (laws_szReq.f a0_0 a0_1 a0_2 a0_3 a0_4 a0_5 a0_6 a0_7 1048576).bind fun t391 => (if t391 < 0 then (some true) else ((laws_toReq.f a0_0 a0_1 a0_2 a0_3 a0_4 a0_5 a0_6 a0_7).bind fun bt392 => ((spec_ReqMsg.f k bt392.1 bt392.2.1 bt392.2.2.1 bt392.2.2.2.1 bt392.2.2.2.2.1 bt392.2.2.2.2.2.1 bt392.2.2.2.2.2.2.1 bt392.2.2.2.2.2.2.2).bind fun bt400 => ((laws_toReq.f a0_0 a0_1 a0_2 a0_3 a0_4 a0_5 a0_6 a0_7).bind fun bt406 => ((impl_ReqMsg.f k bt406.1 bt406.2.1 bt406.2.2.1 bt406.2.2.2.1 bt406.2.2.2.2.1 bt406.2.2.2.2.2.1 bt406.2.2.2.2.2.2.1 bt406.2.2.2.2.2.2.2).bind fun bt414 => ((laws_eqMsg.f k bt414.1 bt414.2.1 bt400.1 bt400.2.1).bind fun t420 => (if t420 = true then (laws_FnExactReqMsg.j0 k bt400.2.2 (bt414.2.2 != bt400.2.2) a0_0 a0_1 a0_2 a0_3 a0_4 a0_5 a0_6 a0_7 bt400.1 bt400.2.1 bt414.1 bt414.2.1) else (laws_FnExactReqMsg.j0 k bt400.2.2 true a0_0 a0_1 a0_2 a0_3 a0_4 a0_5 a0_6 a0_7 bt400.1 bt400.2.1 bt414.1 bt414.2.1))))))))
set_option maxHeartbeats 8000000 in
set_option maxRecDepth 100000 in
theorem laws_FnExactReqMsg.calls (k : Nat) (a0_0 : Int) (a0_1 : ByteArray) (a0_2 : ByteArray) (a0_3 : ByteArray) (a0_4 : ByteArray) (a0_5 : ByteArray) (a0_6 : Int) (a0_7 : Int) (r : Bool) (w : World) (h : laws_FnExactReqMsg.f k a0_0 a0_1 a0_2 a0_3 a0_4 a0_5 a0_6 a0_7 = some true) (ht_ : Tb w) :
  Calls Tryd.prog 4 #[.agg #[.int .i64 a0_0, .string a0_1, .string a0_2, .string a0_3, .string a0_4, .string a0_5, .int .i64 a0_6, .int .i64 a0_7]] w fun e w' => e = .returned (.bool true) ∧ Below w.heap.size w w' := by
 have HTB := Aside0.mk ht_
 clear ht_
 have hu38 := Tryd.underlying38
 have hu42 := Tryd.underlying42
 have HB := Aside0.mk (Below.refl w.heap.size w)
 have H : ((laws_szReq.f a0_0 a0_1 a0_2 a0_3 a0_4 a0_5 a0_6 a0_7 1048576).bind fun t391 => (if t391 < 0 then (some true) else ((laws_toReq.f a0_0 a0_1 a0_2 a0_3 a0_4 a0_5 a0_6 a0_7).bind fun bt392 => ((spec_ReqMsg.f k bt392.1 bt392.2.1 bt392.2.2.1 bt392.2.2.2.1 bt392.2.2.2.2.1 bt392.2.2.2.2.2.1 bt392.2.2.2.2.2.2.1 bt392.2.2.2.2.2.2.2).bind fun bt400 => ((laws_toReq.f a0_0 a0_1 a0_2 a0_3 a0_4 a0_5 a0_6 a0_7).bind fun bt406 => ((impl_ReqMsg.f k bt406.1 bt406.2.1 bt406.2.2.1 bt406.2.2.2.1 bt406.2.2.2.2.1 bt406.2.2.2.2.2.1 bt406.2.2.2.2.2.2.1 bt406.2.2.2.2.2.2.2).bind fun bt414 => ((laws_eqMsg.f k bt414.1 bt414.2.1 bt400.1 bt400.2.1).bind fun t420 => (if t420 = true then (laws_FnExactReqMsg.j0 k bt400.2.2 (bt414.2.2 != bt400.2.2) a0_0 a0_1 a0_2 a0_3 a0_4 a0_5 a0_6 a0_7 bt400.1 bt400.2.1 bt414.1 bt414.2.1) else (laws_FnExactReqMsg.j0 k bt400.2.2 true a0_0 a0_1 a0_2 a0_3 a0_4 a0_5 a0_6 a0_7 bt400.1 bt400.2.1 bt414.1 bt414.2.1))))))))) = some true := h
 clear h
 obtain ⟨t391, A2, H⟩ := ob_ H
 by_cases c3 : t391 < 0
 ·rw [if_pos c3] at H
  have c3b0 : decide (t391 < 0) = true := decide_eq_true c3
  clear c3
  clear H
  go_enter Tryd.func4, Tryd.ntmps4
  go_wp2_with (first | ((with_reducible refine gate_dst (N := 1) rfl ?_); refine be_ (N := 1) (cs := #[.int .i64 a0_0, .string a0_1, .string a0_2, .string a0_3, .string a0_4, .string a0_5, .int .i64 a0_6, .int .i64 a0_7]) (t := 38) ?_; intro gb390 hg w4 hbox hb; have BK390 := Aside0.mk (hbox); have GW390 := gw_ (w := w) hg; have GE390 := gw_ (w := w) hg; replace HB := Aside0.mk (below_step bl_ hb); clear hb hbox hg; obtain ⟨hcz5_0, hcz5_1, hcz5_2, hcz5_3, hcz5_4, hcz5_5, hcz5_6, hcz5_7, hfz5_0, hfz5_1, hfz5_2, hfz5_3, hfz5_4, hfz5_5, hfz5_6, hfz5_7⟩ := bx8_ BK390) | ((with_reducible refine gate_callee (f := 12) rfl ?_); refine goesL_ (some 14) rfl rfl Tryd.func12 (by kernel_rfl) rfl #[.agg #[.int .i64 a0_0, .string a0_1, .string a0_2, .string a0_3, .string a0_4, .string a0_5, .int .i64 a0_6, .int .i64 a0_7], .int .i64 1048576] rfl gl_ ?_; (with_reducible refine (laws_szReq.calls a0_0 a0_1 a0_2 a0_3 a0_4 a0_5 a0_6 a0_7 1048576 t391 _ A2.out).mono ?_); rintro e w6 ⟨rfl, hb⟩; refine ⟨_, rfl, ?_⟩; replace BK390 := Aside0.mk (blk_below (bk_ BK390) hb); replace HB := Aside0.mk (below_step bl_ hb); (try clear hb); (try clear hb2); (try clear hk); (try clear hi)))
  go_ret
  exact ⟨sq_, bl_⟩
 ·rw [if_neg c3] at H
  have c3b0 : decide (t391 < 0) = false := decide_eq_false c3
  clear c3
  obtain ⟨⟨t392, t393, t394, t395, t396, t397, t398, t399⟩, A7, H⟩ := ob_ H
  (try dsimp only at H)
  obtain ⟨⟨t400, t401, t404⟩, A8, H⟩ := ob_ H
  (try dsimp only at H)
  obtain ⟨⟨t406, t407, t408, t409, t410, t411, t412, t413⟩, A9, H⟩ := ob_ H
  (try dsimp only at H)
  obtain ⟨⟨t414, t415, t418⟩, A10, H⟩ := ob_ H
  (try dsimp only at H)
  have HC11 := Aside0.mk H
  clear H
  go_enter Tryd.func4, Tryd.ntmps4
  go_upto_region 7 with (first | ((with_reducible refine gate_dst (N := 1) rfl ?_); refine be_ (N := 1) (cs := #[.int .i64 a0_0, .string a0_1, .string a0_2, .string a0_3, .string a0_4, .string a0_5, .int .i64 a0_6, .int .i64 a0_7]) (t := 38) ?_; intro gb390 hg w12 hbox hb; have BK390 := Aside0.mk (hbox); have GW390 := gw_ (w := w) hg; have GE390 := gw_ (w := w) hg; replace HB := Aside0.mk (below_step bl_ hb); clear hb hbox hg; obtain ⟨hcz13_0, hcz13_1, hcz13_2, hcz13_3, hcz13_4, hcz13_5, hcz13_6, hcz13_7, hfz13_0, hfz13_1, hfz13_2, hfz13_3, hfz13_4, hfz13_5, hfz13_6, hfz13_7⟩ := bx8_ BK390) | ((with_reducible refine gate_callee (f := 12) rfl ?_); refine goesL_ (some 14) rfl rfl Tryd.func12 (by kernel_rfl) rfl #[.agg #[.int .i64 a0_0, .string a0_1, .string a0_2, .string a0_3, .string a0_4, .string a0_5, .int .i64 a0_6, .int .i64 a0_7], .int .i64 1048576] rfl gl_ ?_; (with_reducible refine (laws_szReq.calls a0_0 a0_1 a0_2 a0_3 a0_4 a0_5 a0_6 a0_7 1048576 t391 _ A2.out).mono ?_); rintro e w14 ⟨rfl, hb⟩; refine ⟨_, rfl, ?_⟩; replace BK390 := Aside0.mk (blk_below (bk_ BK390) hb); replace HB := Aside0.mk (below_step bl_ hb); (try clear hb); (try clear hb2); (try clear hk); (try clear hi); obtain ⟨hcz15_0, hcz15_1, hcz15_2, hcz15_3, hcz15_4, hcz15_5, hcz15_6, hcz15_7, hfz15_0, hfz15_1, hfz15_2, hfz15_3, hfz15_4, hfz15_5, hfz15_6, hfz15_7⟩ := bx8_ BK390) | ((with_reducible refine gate_callee (f := 14) rfl ?_); refine goesL_ (some 19) rfl rfl Tryd.func14 (by kernel_rfl) rfl #[.agg #[.int .i64 a0_0, .string a0_1, .string a0_2, .string a0_3, .string a0_4, .string a0_5, .int .i64 a0_6, .int .i64 a0_7]] rfl gl_ ?_; (with_reducible refine (laws_toReq.calls a0_0 a0_1 a0_2 a0_3 a0_4 a0_5 a0_6 a0_7 t392 t393 t394 t395 t396 t397 t398 t399 _ A7.out).mono ?_); rintro e w16 ⟨rfl, hb⟩; refine ⟨_, rfl, ?_⟩; replace BK390 := Aside0.mk (blk_below (bk_ BK390) hb); replace HB := Aside0.mk (below_step bl_ hb); (try clear hb); (try clear hb2); (try clear hk); (try clear hi)) | ((with_reducible refine gate_callee (f := 13) rfl ?_); refine goesL_ (some 20) rfl rfl Tryd.func13 (by kernel_rfl) rfl #[.agg #[.int .i64 t392, .string t393, .string t394, .string t395, .string t396, .string t397, .int .i64 t398, .int .i64 t399]] rfl gl_ ?_; (with_reducible refine (spec_ReqMsg.calls k t392 t393 t394 t395 t396 t397 t398 t399 t400 t401 t404 _ A8.out).mono ?_); rintro e w17 ⟨v402, rfl, ho0, hb⟩; refine ⟨_, rfl, ?_⟩; have HO403 := Aside0.mk (Kd.R_lower ho0 (below_size bl_)); replace BK390 := Aside0.mk (blk_below (bk_ BK390) hb); replace HB := Aside0.mk (below_step bl_ hb); (try clear hb); (try clear hb2); (try clear hk); (try clear hi); (try clear ho0)) | ((with_reducible refine gate_dst (N := 4) rfl ?_); refine be_ (N := 4) (cs := #[.string (⟨#[]⟩ : ByteArray), .slice none 0 0]) (t := 42) ?_; intro gb405 hg w18 hbox hb; replace HO403 := Aside0.mk (Kd.R_below (ra_ HO403) hb); have BK405 := Aside0.mk (hbox); have GW405 := gw_ (w := w) hg; have GE405 := gw_ (w := w) hg; replace HB := Aside0.mk (below_step bl_ hb); have NB390_405 := Aside0.mk ((by rw [hg]; exact Nat.ne_of_lt (blk_lt (bk_ BK390)) : gb390 ≠ gb405)); have NB405_390 := Aside0.mk ((by rw [hg]; exact Nat.ne_of_gt (blk_lt (bk_ BK390)) : gb405 ≠ gb390)); replace BK390 := Aside0.mk (blk_below (bk_ BK390) hb); clear hb hbox hg; have hnb19 := NB405_390.out; have hnc19 := NB390_405.out; obtain ⟨hcz20_0, hcz20_1, hfz20_0, hfz20_1⟩ := bx2_ BK405; obtain ⟨Ao21, co21, eo21⟩ := Kd.R_slice HO403.out; subst eo21; obtain ⟨hcz22_0, hcz22_1, hcz22_2, hcz22_3, hcz22_4, hcz22_5, hcz22_6, hcz22_7, hfz22_0, hfz22_1, hfz22_2, hfz22_3, hfz22_4, hfz22_5, hfz22_6, hfz22_7⟩ := bx8_ BK390) | ((with_reducible refine gate_callee (f := 14) rfl ?_); refine goesL_ (some 25) rfl rfl Tryd.func14 (by kernel_rfl) rfl #[.agg #[.int .i64 a0_0, .string a0_1, .string a0_2, .string a0_3, .string a0_4, .string a0_5, .int .i64 a0_6, .int .i64 a0_7]] rfl gl_ ?_; (with_reducible refine (laws_toReq.calls a0_0 a0_1 a0_2 a0_3 a0_4 a0_5 a0_6 a0_7 t406 t407 t408 t409 t410 t411 t412 t413 _ A9.out).mono ?_); rintro e w23 ⟨rfl, hb⟩; refine ⟨_, rfl, ?_⟩; replace HO403 := Aside0.mk (Kd.R_below (by (with_reducible repeat (first | apply Kd.R_alloc | apply Kd.R_drewN | apply Kd.R_drew)); exact (Kd.R_mono (Kd.R_far (p := ⟨gb405, 1, none⟩) (Kd.R_far (p := ⟨gb405, 0, none⟩) (Kd.R_types HO403.out BK405.out (by decide)) (fun _ hk => hk.2) (.string t400)) (fun _ hk => hk.2) (.slice Ao21 t401.length co21)) (fun _ h_ => h_.1))) hb); replace BK390 := Aside0.mk (blk_below (g := gb390) (o := .cells #[.int .i64 a0_0, .string a0_1, .string a0_2, .string a0_3, .string a0_4, .string a0_5, .int .i64 a0_6, .int .i64 a0_7] 38 (0, 0)) (by (with_reducible repeat (first | refine blk_drewN ?_ _ | refine blk_drew ?_ | refine blk_alloc ?_ _)); refine blk_far ?_ NB390_405.out _; (with_reducible repeat (first | refine blk_drewN ?_ _ | refine blk_drew ?_ | refine blk_alloc ?_ _)); refine blk_far ?_ NB390_405.out _; (with_reducible repeat (first | refine blk_drewN ?_ _ | refine blk_drew ?_ | refine blk_alloc ?_ _)); exact BK390.out) hb); replace BK405 := Aside0.mk (blk_below (g := gb405) (o := .cells #[.string t400, .slice Ao21 t401.length co21] 42 (0, 0)) (by (with_reducible repeat (first | refine blk_drewN ?_ _ | refine blk_drew ?_ | refine blk_alloc ?_ _)); apply bq2_1_0_; (with_reducible repeat (first | refine blk_drewN ?_ _ | refine blk_drew ?_ | refine blk_alloc ?_ _)); exact BK405.out) hb); replace HB := Aside0.mk (below_step bl_ hb); (try clear hb); (try clear hb2); (try clear hk); (try clear hi)) | ((with_reducible refine gate_callee (f := 15) rfl ?_); refine goesL_ (some 26) rfl rfl Tryd.func15 (by kernel_rfl) rfl #[.agg #[.int .i64 t406, .string t407, .string t408, .string t409, .string t410, .string t411, .int .i64 t412, .int .i64 t413]] rfl gl_ ?_; (with_reducible refine (impl_ReqMsg.calls k t406 t407 t408 t409 t410 t411 t412 t413 t414 t415 t418 _ A10.out ?tb).mono ?_); (case tb => exact tb_below HTB.out bl_); rintro e w24 ⟨v416, rfl, ho0, hb⟩; refine ⟨_, rfl, ?_⟩; have HO417 := Aside0.mk (Kd.R_lower (Kd.R_new' ho0 (Kd.R_lt (ra_ HO403))) (below_size bl_)); replace HO403 := Aside0.mk (Kd.R_elder' (ra_ HO403) (Kd.R_base ho0) hb); replace BK390 := Aside0.mk (blk_below (bk_ BK390) hb); replace BK405 := Aside0.mk (blk_below (bk_ BK405) hb); replace HB := Aside0.mk (below_step bl_ hb); (try clear hb); (try clear hb2); (try clear hk); (try clear hi); (try clear ho0)) | ((with_reducible refine gate_dst (N := 6) rfl ?_); refine be_ (N := 6) (cs := #[.string (⟨#[]⟩ : ByteArray), .slice none 0 0]) (t := 42) ?_; intro gb419 hg w25 hbox hb; replace HO403 := Aside0.mk (Kd.R_below (ra_ HO403) hb); replace HO417 := Aside0.mk (Kd.R_below (ra_ HO417) hb); have BK419 := Aside0.mk (hbox); have GW419 := gw_ (w := w) hg; have GE419 := gw_ (w := w) hg; replace HB := Aside0.mk (below_step bl_ hb); have NB390_419 := Aside0.mk ((by rw [hg]; exact Nat.ne_of_lt (blk_lt (bk_ BK390)) : gb390 ≠ gb419)); have NB419_390 := Aside0.mk ((by rw [hg]; exact Nat.ne_of_gt (blk_lt (bk_ BK390)) : gb419 ≠ gb390)); replace BK390 := Aside0.mk (blk_below (bk_ BK390) hb); have NB405_419 := Aside0.mk ((by rw [hg]; exact Nat.ne_of_lt (blk_lt (bk_ BK405)) : gb405 ≠ gb419)); have NB419_405 := Aside0.mk ((by rw [hg]; exact Nat.ne_of_gt (blk_lt (bk_ BK405)) : gb419 ≠ gb405)); replace BK405 := Aside0.mk (blk_below (bk_ BK405) hb); clear hb hbox hg; have hnb26 := NB419_390.out; have hnc26 := NB390_419.out; have hnb27 := NB419_405.out; have hnc27 := NB405_419.out; obtain ⟨hcz28_0, hcz28_1, hfz28_0, hfz28_1⟩ := bx2_ BK419; obtain ⟨Ao29, co29, eo29⟩ := Kd.R_slice HO417.out; subst eo29))
  (try simp only [Act.put, List.setIfInBounds_toArray, List.set_cons_zero, List.set_cons_succ])
  go_cut [37] (fun v37 wc => ∃ (kq : Nat) (x37_10 : Bool), v37 = .bool x37_10 ∧ Aside0 (laws_FnExactReqMsg.j0 kq t404 x37_10 a0_0 a0_1 a0_2 a0_3 a0_4 a0_5 a0_6 a0_7 t400 t401 t414 t415 = some true) ∧ Aside0 (kq ≤ k) ∧ Aside0 (Kd.R k67 67 wc w.heap.size (fun k_ => some k_ ≠ ((.slice Ao29 t415.length co29) : Value).ownBlock) (.slice Ao21 t401.length co21) t401) ∧ Aside0 (Kd.R k67 67 wc w.heap.size (fun k_ => some k_ ≠ ((.slice Ao21 t401.length co21) : Value).ownBlock) (.slice Ao29 t415.length co29) t415) ∧ Aside0 (wc.heap[gb390]? = some (.cells #[.int .i64 a0_0, .string a0_1, .string a0_2, .string a0_3, .string a0_4, .string a0_5, .int .i64 a0_6, .int .i64 a0_7] 38 (0, 0))) ∧ Aside0 (wc.heap[gb405]? = some (.cells #[.string t400, (.slice Ao21 t401.length co21)] 42 (0, 0))) ∧ Aside0 (wc.heap[gb419]? = some (.cells #[.string t414, (.slice Ao29 t415.length co29)] 42 (0, 0))) ∧ Aside0 (Below w.heap.size w wc))
  case first =>
   have H := HC11.out
   clear HC11
   obtain ⟨t420, A30, H⟩ := ob_ H
   by_cases c31 : t420 = true
   ·subst c31
    replace H := ip_ H
    have H' := Aside0.mk H
    clear H
    have hnb32 := NB419_390.out
    have hnc32 := NB390_419.out
    have hnb33 := NB419_405.out
    have hnc33 := NB405_419.out
    have hcz34_0 := cz_ BK419 0 (.string (⟨#[]⟩ : ByteArray))
    have hcz34_1 := cz_ BK419 1 (.slice none 0 0)
    have hfz34_0 := fz_ BK419 0
    have hfz34_1 := fz_ BK419 1
    have hnb35 := NB405_390.out
    have hnc35 := NB390_405.out
    have hcz36_0 := cz_ BK405 0 (.string t400)
    have hcz36_1 := cz_ BK405 1 (.slice Ao21 t401.length co21)
    have hfz36_0 := fz_ BK405 0
    have hfz36_1 := fz_ BK405 1
    go_wp2_with (first | ((with_reducible refine gate_callee (f := 16) rfl ?_); refine goesL_ (some 31) rfl rfl Tryd.func16 (by kernel_rfl) rfl #[.agg #[.string t414, .slice Ao29 t415.length co29], .agg #[.string t400, .slice Ao21 t401.length co21]] rfl gl_ ?_; (with_reducible refine (laws_eqMsg.calls k t414 _ _ t415 t400 _ _ t401 true _ ?side1 ?side2 ?side3 ?side4 A30.out).mono ?_); (case side1 => refine (Kd.R_reads' (e := 67) (base := w.heap.size) (ok := fun k_ => (True ∧ some k_ ≠ (.slice Ao21 t401.length co21 : Value).ownBlock)) (n := t415.length) (c := co29) ?_).2.2; exact (by (with_reducible repeat (first | apply Kd.R_alloc | apply Kd.R_drewN | apply Kd.R_drew)); exact (Kd.R_mono (Kd.R_far (p := ⟨gb419, 1, none⟩) (Kd.R_far (p := ⟨gb419, 0, none⟩) (Kd.R_types HO417.out BK419.out (by decide)) (fun _ hk => hk.2) (.string t414)) (fun _ hk => hk.2) (.slice Ao29 t415.length co29)) (fun _ h_ => h_.1)))); (case side2 => exact (Kd.R_reads' HO417.out).2.1); (case side3 => refine (Kd.R_reads' (e := 67) (base := w.heap.size) (ok := fun k_ => (True ∧ some k_ ≠ (.slice Ao29 t415.length co29 : Value).ownBlock)) (n := t401.length) (c := co21) ?_).2.2; exact (by (with_reducible repeat (first | apply Kd.R_alloc | apply Kd.R_drewN | apply Kd.R_drew)); exact (Kd.R_mono (Kd.R_far (p := ⟨gb419, 1, none⟩) (Kd.R_far (p := ⟨gb419, 0, none⟩) (Kd.R_types HO403.out BK419.out (by decide)) (fun _ hk => hk.2) (.string t414)) (fun _ hk => hk.2) (.slice Ao29 t415.length co29)) (fun _ h_ => h_.1)))); (case side4 => exact (Kd.R_reads' HO403.out).2.1); rintro e w37 ⟨rfl, hb⟩; refine ⟨_, rfl, ?_⟩; replace HO403 := Aside0.mk (Kd.R_below (by (with_reducible repeat (first | apply Kd.R_alloc | apply Kd.R_drewN | apply Kd.R_drew)); exact (Kd.R_mono (Kd.R_far (p := ⟨gb419, 1, none⟩) (Kd.R_far (p := ⟨gb419, 0, none⟩) (Kd.R_types HO403.out BK419.out (by decide)) (fun _ hk => hk.2) (.string t414)) (fun _ hk => hk.2) (.slice Ao29 t415.length co29)) (fun _ h_ => h_.1))) hb); replace HO417 := Aside0.mk (Kd.R_below (by (with_reducible repeat (first | apply Kd.R_alloc | apply Kd.R_drewN | apply Kd.R_drew)); exact (Kd.R_mono (Kd.R_far (p := ⟨gb419, 1, none⟩) (Kd.R_far (p := ⟨gb419, 0, none⟩) (Kd.R_types HO417.out BK419.out (by decide)) (fun _ hk => hk.2) (.string t414)) (fun _ hk => hk.2) (.slice Ao29 t415.length co29)) (fun _ h_ => h_.1))) hb); replace BK390 := Aside0.mk (blk_below (g := gb390) (o := .cells #[.int .i64 a0_0, .string a0_1, .string a0_2, .string a0_3, .string a0_4, .string a0_5, .int .i64 a0_6, .int .i64 a0_7] 38 (0, 0)) (by (with_reducible repeat (first | refine blk_drewN ?_ _ | refine blk_drew ?_ | refine blk_alloc ?_ _)); refine blk_far ?_ NB390_419.out _; (with_reducible repeat (first | refine blk_drewN ?_ _ | refine blk_drew ?_ | refine blk_alloc ?_ _)); refine blk_far ?_ NB390_419.out _; (with_reducible repeat (first | refine blk_drewN ?_ _ | refine blk_drew ?_ | refine blk_alloc ?_ _)); exact BK390.out) hb); replace BK405 := Aside0.mk (blk_below (g := gb405) (o := .cells #[.string t400, .slice Ao21 t401.length co21] 42 (0, 0)) (by (with_reducible repeat (first | refine blk_drewN ?_ _ | refine blk_drew ?_ | refine blk_alloc ?_ _)); refine blk_far ?_ NB405_419.out _; (with_reducible repeat (first | refine blk_drewN ?_ _ | refine blk_drew ?_ | refine blk_alloc ?_ _)); refine blk_far ?_ NB405_419.out _; (with_reducible repeat (first | refine blk_drewN ?_ _ | refine blk_drew ?_ | refine blk_alloc ?_ _)); exact BK405.out) hb); replace BK419 := Aside0.mk (blk_below (g := gb419) (o := .cells #[.string t414, .slice Ao29 t415.length co29] 42 (0, 0)) (by (with_reducible repeat (first | refine blk_drewN ?_ _ | refine blk_drew ?_ | refine blk_alloc ?_ _)); apply bq2_1_0_; (with_reducible repeat (first | refine blk_drewN ?_ _ | refine blk_drew ?_ | refine blk_alloc ?_ _)); exact BK419.out) hb); replace HB := Aside0.mk (below_step bl_ hb); (try clear hb); (try clear hb2); (try clear hk); (try clear hi)))
    go_meet
    case rel => exact ⟨_, ((t418 != t404)), sp_, H', ⟨by first | omega | exact Nat.le_refl _⟩, ⟨by (with_reducible repeat (first | apply Kd.R_alloc | apply Kd.R_drewN | apply Kd.R_drew)); exact Kd.R_mono HO403.out (fun _ hk => hk.2)⟩, ⟨by (with_reducible repeat (first | apply Kd.R_alloc | apply Kd.R_drewN | apply Kd.R_drew)); exact Kd.R_mono HO417.out (fun _ hk => hk.2)⟩, ⟨by (with_reducible repeat (first | refine blk_drewN ?_ _ | refine blk_drew ?_ | refine blk_alloc ?_ _)); exact BK390.out⟩, ⟨by (with_reducible repeat (first | refine blk_drewN ?_ _ | refine blk_drew ?_ | refine blk_alloc ?_ _)); exact BK405.out⟩, ⟨by (with_reducible repeat (first | refine blk_drewN ?_ _ | refine blk_drew ?_ | refine blk_alloc ?_ _)); exact BK419.out⟩, ⟨bl_⟩⟩
   ·replace c31 := Bool.eq_false_iff.mpr c31
    subst c31
    replace H := in_ H
    have H' := Aside0.mk H
    clear H
    have hnb38 := NB419_390.out
    have hnc38 := NB390_419.out
    have hnb39 := NB419_405.out
    have hnc39 := NB405_419.out
    have hcz40_0 := cz_ BK419 0 (.string (⟨#[]⟩ : ByteArray))
    have hcz40_1 := cz_ BK419 1 (.slice none 0 0)
    have hfz40_0 := fz_ BK419 0
    have hfz40_1 := fz_ BK419 1
    have hnb41 := NB405_390.out
    have hnc41 := NB390_405.out
    have hcz42_0 := cz_ BK405 0 (.string t400)
    have hcz42_1 := cz_ BK405 1 (.slice Ao21 t401.length co21)
    have hfz42_0 := fz_ BK405 0
    have hfz42_1 := fz_ BK405 1
    go_wp2_with (first | ((with_reducible refine gate_callee (f := 16) rfl ?_); refine goesL_ (some 31) rfl rfl Tryd.func16 (by kernel_rfl) rfl #[.agg #[.string t414, .slice Ao29 t415.length co29], .agg #[.string t400, .slice Ao21 t401.length co21]] rfl gl_ ?_; (with_reducible refine (laws_eqMsg.calls k t414 _ _ t415 t400 _ _ t401 false _ ?side1 ?side2 ?side3 ?side4 A30.out).mono ?_); (case side1 => refine (Kd.R_reads' (e := 67) (base := w.heap.size) (ok := fun k_ => (True ∧ some k_ ≠ (.slice Ao21 t401.length co21 : Value).ownBlock)) (n := t415.length) (c := co29) ?_).2.2; exact (by (with_reducible repeat (first | apply Kd.R_alloc | apply Kd.R_drewN | apply Kd.R_drew)); exact (Kd.R_mono (Kd.R_far (p := ⟨gb419, 1, none⟩) (Kd.R_far (p := ⟨gb419, 0, none⟩) (Kd.R_types HO417.out BK419.out (by decide)) (fun _ hk => hk.2) (.string t414)) (fun _ hk => hk.2) (.slice Ao29 t415.length co29)) (fun _ h_ => h_.1)))); (case side2 => exact (Kd.R_reads' HO417.out).2.1); (case side3 => refine (Kd.R_reads' (e := 67) (base := w.heap.size) (ok := fun k_ => (True ∧ some k_ ≠ (.slice Ao29 t415.length co29 : Value).ownBlock)) (n := t401.length) (c := co21) ?_).2.2; exact (by (with_reducible repeat (first | apply Kd.R_alloc | apply Kd.R_drewN | apply Kd.R_drew)); exact (Kd.R_mono (Kd.R_far (p := ⟨gb419, 1, none⟩) (Kd.R_far (p := ⟨gb419, 0, none⟩) (Kd.R_types HO403.out BK419.out (by decide)) (fun _ hk => hk.2) (.string t414)) (fun _ hk => hk.2) (.slice Ao29 t415.length co29)) (fun _ h_ => h_.1)))); (case side4 => exact (Kd.R_reads' HO403.out).2.1); rintro e w43 ⟨rfl, hb⟩; refine ⟨_, rfl, ?_⟩; replace HO403 := Aside0.mk (Kd.R_below (by (with_reducible repeat (first | apply Kd.R_alloc | apply Kd.R_drewN | apply Kd.R_drew)); exact (Kd.R_mono (Kd.R_far (p := ⟨gb419, 1, none⟩) (Kd.R_far (p := ⟨gb419, 0, none⟩) (Kd.R_types HO403.out BK419.out (by decide)) (fun _ hk => hk.2) (.string t414)) (fun _ hk => hk.2) (.slice Ao29 t415.length co29)) (fun _ h_ => h_.1))) hb); replace HO417 := Aside0.mk (Kd.R_below (by (with_reducible repeat (first | apply Kd.R_alloc | apply Kd.R_drewN | apply Kd.R_drew)); exact (Kd.R_mono (Kd.R_far (p := ⟨gb419, 1, none⟩) (Kd.R_far (p := ⟨gb419, 0, none⟩) (Kd.R_types HO417.out BK419.out (by decide)) (fun _ hk => hk.2) (.string t414)) (fun _ hk => hk.2) (.slice Ao29 t415.length co29)) (fun _ h_ => h_.1))) hb); replace BK390 := Aside0.mk (blk_below (g := gb390) (o := .cells #[.int .i64 a0_0, .string a0_1, .string a0_2, .string a0_3, .string a0_4, .string a0_5, .int .i64 a0_6, .int .i64 a0_7] 38 (0, 0)) (by (with_reducible repeat (first | refine blk_drewN ?_ _ | refine blk_drew ?_ | refine blk_alloc ?_ _)); refine blk_far ?_ NB390_419.out _; (with_reducible repeat (first | refine blk_drewN ?_ _ | refine blk_drew ?_ | refine blk_alloc ?_ _)); refine blk_far ?_ NB390_419.out _; (with_reducible repeat (first | refine blk_drewN ?_ _ | refine blk_drew ?_ | refine blk_alloc ?_ _)); exact BK390.out) hb); replace BK405 := Aside0.mk (blk_below (g := gb405) (o := .cells #[.string t400, .slice Ao21 t401.length co21] 42 (0, 0)) (by (with_reducible repeat (first | refine blk_drewN ?_ _ | refine blk_drew ?_ | refine blk_alloc ?_ _)); refine blk_far ?_ NB405_419.out _; (with_reducible repeat (first | refine blk_drewN ?_ _ | refine blk_drew ?_ | refine blk_alloc ?_ _)); refine blk_far ?_ NB405_419.out _; (with_reducible repeat (first | refine blk_drewN ?_ _ | refine blk_drew ?_ | refine blk_alloc ?_ _)); exact BK405.out) hb); replace BK419 := Aside0.mk (blk_below (g := gb419) (o := .cells #[.string t414, .slice Ao29 t415.length co29] 42 (0, 0)) (by (with_reducible repeat (first | refine blk_drewN ?_ _ | refine blk_drew ?_ | refine blk_alloc ?_ _)); apply bq2_1_0_; (with_reducible repeat (first | refine blk_drewN ?_ _ | refine blk_drew ?_ | refine blk_alloc ?_ _)); exact BK419.out) hb); replace HB := Aside0.mk (below_step bl_ hb); (try clear hb); (try clear hb2); (try clear hk); (try clear hi)))
    go_meet
    case rel => exact ⟨_, (true), sp_, H', ⟨by first | omega | exact Nat.le_refl _⟩, ⟨by (with_reducible repeat (first | apply Kd.R_alloc | apply Kd.R_drewN | apply Kd.R_drew)); exact Kd.R_mono HO403.out (fun _ hk => hk.2)⟩, ⟨by (with_reducible repeat (first | apply Kd.R_alloc | apply Kd.R_drewN | apply Kd.R_drew)); exact Kd.R_mono HO417.out (fun _ hk => hk.2)⟩, ⟨by (with_reducible repeat (first | refine blk_drewN ?_ _ | refine blk_drew ?_ | refine blk_alloc ?_ _)); exact BK390.out⟩, ⟨by (with_reducible repeat (first | refine blk_drewN ?_ _ | refine blk_drew ?_ | refine blk_alloc ?_ _)); exact BK405.out⟩, ⟨by (with_reducible repeat (first | refine blk_drewN ?_ _ | refine blk_drew ?_ | refine blk_alloc ?_ _)); exact BK419.out⟩, ⟨bl_⟩⟩
  case rest =>
   clear HC11
   try clear c1
   try clear c2
   try clear p2
   try clear c3
   try clear c3b0
   try clear c4
   try clear c12
   try clear c13
   try clear c14
   try clear c15
   try clear c16
   try clear c19
   try clear c26
   try clear c27
   try clear c31
   try clear c32
   try clear c33
   try clear c35
   try clear c38
   try clear c39
   try clear c41
   try clear hcz13_0
   try clear hcz13_1
   try clear hcz13_2
   try clear hcz13_3
   try clear hcz13_4
   try clear hcz13_5
   try clear hcz13_6
   try clear hcz13_7
   try clear hcz15_0
   try clear hcz15_1
   try clear hcz15_2
   try clear hcz15_3
   try clear hcz15_4
   try clear hcz15_5
   try clear hcz15_6
   try clear hcz15_7
   try clear hcz20_0
   try clear hcz20_1
   try clear hcz22_0
   try clear hcz22_1
   try clear hcz22_2
   try clear hcz22_3
   try clear hcz22_4
   try clear hcz22_5
   try clear hcz22_6
   try clear hcz22_7
   try clear hcz28_0
   try clear hcz28_1
   try clear hcz34_0
   try clear hcz34_1
   try clear hcz36_0
   try clear hcz36_1
   try clear hcz40_0
   try clear hcz40_1
   try clear hcz42_0
   try clear hcz42_1
   try clear hcz5_0
   try clear hcz5_1
   try clear hcz5_2
   try clear hcz5_3
   try clear hcz5_4
   try clear hcz5_5
   try clear hcz5_6
   try clear hcz5_7
   try clear hfz13_0
   try clear hfz13_1
   try clear hfz13_2
   try clear hfz13_3
   try clear hfz13_4
   try clear hfz13_5
   try clear hfz13_6
   try clear hfz13_7
   try clear hfz15_0
   try clear hfz15_1
   try clear hfz15_2
   try clear hfz15_3
   try clear hfz15_4
   try clear hfz15_5
   try clear hfz15_6
   try clear hfz15_7
   try clear hfz20_0
   try clear hfz20_1
   try clear hfz22_0
   try clear hfz22_1
   try clear hfz22_2
   try clear hfz22_3
   try clear hfz22_4
   try clear hfz22_5
   try clear hfz22_6
   try clear hfz22_7
   try clear hfz28_0
   try clear hfz28_1
   try clear hfz34_0
   try clear hfz34_1
   try clear hfz36_0
   try clear hfz36_1
   try clear hfz40_0
   try clear hfz40_1
   try clear hfz42_0
   try clear hfz42_1
   try clear hfz5_0
   try clear hfz5_1
   try clear hfz5_2
   try clear hfz5_3
   try clear hfz5_4
   try clear hfz5_5
   try clear hfz5_6
   try clear hfz5_7
   obtain ⟨kq, x37_10, rfl, HA, HJ10, HO_406001, HO_420001, BK390, BK405, BK419, HB⟩ := hcut
   cases kq with
   | zero => exact absurd HA.out (by simp [laws_FnExactReqMsg.j0])
   | succ kj10 =>
    have H := HA.out
    clear HA
    simp only [laws_FnExactReqMsg.j0] at H
    by_cases c44 : x37_10 = true
    ·subst c44
     replace H := ip_ H
     exact absurd H (by simp)
    ·replace c44 := Bool.eq_false_iff.mpr c44
     subst c44
     replace H := in_ H
     obtain ⟨⟨t421, t422⟩, A45, H⟩ := ob_ H
     (try dsimp only at H)
     obtain ⟨t423, A46, H⟩ := ob_ H
     by_cases c47 : t423 < 0
     ·rw [if_pos c47] at H
      have c47b0 : decide (t423 < 0) = true := decide_eq_true c47
      clear c47
      exact absurd H (by simp)
     ·rw [if_neg c47] at H
      have c47b0 : decide (t423 < 0) = false := decide_eq_false c47
      clear c47
      by_cases c48 : t423 = t421
      ·rw [if_pos c48] at H
       have c48b0 : (t423 == t421) = true := beq_iff_eq.mpr c48
       have c48b1 : (t423 != t421) = false := bne_eq_false_iff_eq.mpr c48
       clear c48
       obtain ⟨⟨t424, t425, t426, t427, t428, t429, t430, t431⟩, A49, H⟩ := ob_ H
       (try dsimp only at H)
       obtain ⟨⟨t432, t433, t436⟩, A50, H⟩ := ob_ H
       (try dsimp only at H)
       have HC51 := Aside0.mk H
       clear H
       have hnb52 := NB419_390.out
       have hnc52 := NB390_419.out
       have hnb53 := NB419_405.out
       have hnc53 := NB405_419.out
       have hcz54_0 := cz_ BK419 0 (.string t414)
       have hcz54_1 := cz_ BK419 1 (.slice Ao29 t415.length co29)
       have hfz54_0 := fz_ BK419 0
       have hfz54_1 := fz_ BK419 1
       go_upto_region 18 with (first | ((with_reducible refine gate_callee (f := 17) rfl ?_); refine goesL_ (some 40) rfl rfl Tryd.func17 (by kernel_rfl) rfl #[.agg #[.string t414, .slice Ao29 t415.length co29], .int .i64 1] rfl gl_ ?_; (with_reducible refine (laws_markMsg.calls kj10 t414 (fun k_ => some k_ = (.slice Ao29 t415.length co29 : Value).ownBlock) (.slice Ao29 t415.length co29) t415 1 t421 t422 w _ ?side1 ?side2 A45.out).mono ?_); (case side1 => repeat (first | (with_reducible first | exact HB.out | apply below_alloc | apply pw_below_drewN | apply below_drew1 | refine below_set ?_ GE390.out | refine below_set ?_ GE405.out | refine below_set ?_ GE419.out) | exact HB.out)); (case side2 => exact Kd.R_tight rfl HO_420001.out); rintro e w55 ⟨rfl, hy0, hb, hkp⟩; refine ⟨_, rfl, ?_⟩; replace HO_406001 := Aside0.mk (Kd.R_mono (ok' := fun k_ => some k_ ≠ (.slice Ao29 t415.length co29 : Value).ownBlock) (Kd.R_keptB (HO_406001.out) hkp (fun k_ hk_ hs_ => (hk_) hs_)) (fun k_ hk_ => hk_.1)); replace BK390 := Aside0.mk (blk_kept (by (with_reducible repeat (first | refine blk_drewN ?_ _ | refine blk_drew ?_ | refine blk_alloc ?_ _)); exact BK390.out) hkp (fun hs_ => (fun e_ => (Kd.R_ne HO_420001.out BK390.out (by decide)) e_) hs_)); replace BK405 := Aside0.mk (blk_kept (by (with_reducible repeat (first | refine blk_drewN ?_ _ | refine blk_drew ?_ | refine blk_alloc ?_ _)); exact BK405.out) hkp (fun hs_ => (fun e_ => (Kd.R_ne HO_420001.out BK405.out (by decide)) e_) hs_)); replace BK419 := Aside0.mk (blk_kept (by (with_reducible repeat (first | refine blk_drewN ?_ _ | refine blk_drew ?_ | refine blk_alloc ?_ _)); exact BK419.out) hkp (fun hs_ => (fun e_ => (Kd.R_ne HO_420001.out BK419.out (by decide)) e_) hs_)); replace HO_420001 := Aside0.mk (Kd.R_reok rfl hy0 (fun k_ e_ => HO_420001.out.1 k_ e_)); replace HB := Aside0.mk (hb); (try clear hb); (try clear hkp); (try clear hy0); obtain ⟨hcz56_0, hcz56_1, hfz56_0, hfz56_1⟩ := bx2_ BK419) | ((with_reducible refine gate_callee (f := 18) rfl ?_); refine goesL_ (some 43) rfl rfl Tryd.func18 (by kernel_rfl) rfl #[.agg #[.string t414, .slice Ao29 t422.length co29], .int .i64 1] rfl (by (try simp only [List.map_toArray, List.map_cons, List.map_nil]); first | done | (rw [show t422.length = t415.length from (Kd.R_reads' HO_420001.out).1.symm] <;> rfl) | rfl | (simp only [List.length_drop, List.length_take]; rfl)) ?_; (with_reducible refine (laws_heldMsg.calls kj10 t414 _ _ t422 1 t423 _ ?side1 ?side2 A46.out).mono ?_); (case side1 => exact ca_ ((Kd.R_reads' HO_420001.out).2.2)); (case side2 => rw [show t422.length = t415.length from (Kd.R_reads' HO_420001.out).1.symm]; exact (Kd.R_reads' HO_420001.out).2.1); rintro e w57 ⟨rfl, hb⟩; refine ⟨_, rfl, ?_⟩; replace HO_406001 := Aside0.mk (Kd.R_below (ra_ HO_406001) hb); replace HO_420001 := Aside0.mk (Kd.R_below (ra_ HO_420001) hb); replace BK390 := Aside0.mk (blk_below (bk_ BK390) hb); replace BK405 := Aside0.mk (blk_below (bk_ BK405) hb); replace BK419 := Aside0.mk (blk_below (bk_ BK419) hb); replace HB := Aside0.mk (below_step bl_ hb); (try clear hb); (try clear hb2); (try clear hk); (try clear hi); have hnb58 := NB390_405.out; have hnc58 := NB405_390.out; obtain ⟨hcz59_0, hcz59_1, hcz59_2, hcz59_3, hcz59_4, hcz59_5, hcz59_6, hcz59_7, hfz59_0, hfz59_1, hfz59_2, hfz59_3, hfz59_4, hfz59_5, hfz59_6, hfz59_7⟩ := bx8_ BK390) | ((with_reducible refine gate_callee (f := 14) rfl ?_); refine goesL_ (some 51) rfl rfl Tryd.func14 (by kernel_rfl) rfl #[.agg #[.int .i64 a0_0, .string a0_1, .string a0_2, .string a0_3, .string a0_4, .string a0_5, .int .i64 a0_6, .int .i64 a0_7]] rfl gl_ ?_; (with_reducible refine (laws_toReq.calls a0_0 a0_1 a0_2 a0_3 a0_4 a0_5 a0_6 a0_7 t424 t425 t426 t427 t428 t429 t430 t431 _ A49.out).mono ?_); rintro e w60 ⟨rfl, hb⟩; refine ⟨_, rfl, ?_⟩; replace HO_406001 := Aside0.mk (Kd.R_below (ra_ HO_406001) hb); replace HO_420001 := Aside0.mk (Kd.R_below (ra_ HO_420001) hb); replace BK390 := Aside0.mk (blk_below (bk_ BK390) hb); replace BK405 := Aside0.mk (blk_below (bk_ BK405) hb); replace BK419 := Aside0.mk (blk_below (bk_ BK419) hb); replace HB := Aside0.mk (below_step bl_ hb); (try clear hb); (try clear hb2); (try clear hk); (try clear hi)) | ((with_reducible refine gate_callee (f := 15) rfl ?_); refine goesL_ (some 52) rfl rfl Tryd.func15 (by kernel_rfl) rfl #[.agg #[.int .i64 t424, .string t425, .string t426, .string t427, .string t428, .string t429, .int .i64 t430, .int .i64 t431]] rfl gl_ ?_; (with_reducible refine (impl_ReqMsg.calls kj10 t424 t425 t426 t427 t428 t429 t430 t431 t432 t433 t436 _ A50.out ?tb).mono ?_); (case tb => exact tb_below HTB.out bl_); rintro e w61 ⟨v434, rfl, ho0, hb⟩; refine ⟨_, rfl, ?_⟩; have HO435 := Aside0.mk (Kd.R_lower (Kd.R_new' (Kd.R_new' ho0 (Kd.R_lt (ra_ HO_406001))) (Kd.R_lt (ra_ HO_420001))) (below_size bl_)); replace HO_406001 := Aside0.mk (Kd.R_elder' (ra_ HO_406001) (Kd.R_base ho0) hb); replace HO_420001 := Aside0.mk (Kd.R_elder' (ra_ HO_420001) (Kd.R_base ho0) hb); replace BK390 := Aside0.mk (blk_below (bk_ BK390) hb); replace BK405 := Aside0.mk (blk_below (bk_ BK405) hb); replace BK419 := Aside0.mk (blk_below (bk_ BK419) hb); replace HB := Aside0.mk (below_step bl_ hb); (try clear hb); (try clear hb2); (try clear hk); (try clear hi); (try clear ho0)) | ((with_reducible refine gate_dst (N := 10) rfl ?_); refine be_ (N := 10) (cs := #[.string (⟨#[]⟩ : ByteArray), .slice none 0 0]) (t := 42) ?_; intro gb437 hg w62 hbox hb; replace HO_406001 := Aside0.mk (Kd.R_below (ra_ HO_406001) hb); replace HO_420001 := Aside0.mk (Kd.R_below (ra_ HO_420001) hb); replace HO435 := Aside0.mk (Kd.R_below (ra_ HO435) hb); have BK437 := Aside0.mk (hbox); have GW437 := gw_ (w := w) hg; have GE437 := gw_ (w := w) hg; replace HB := Aside0.mk (below_step bl_ hb); have NB390_437 := Aside0.mk ((by rw [hg]; exact Nat.ne_of_lt (blk_lt (bk_ BK390)) : gb390 ≠ gb437)); have NB437_390 := Aside0.mk ((by rw [hg]; exact Nat.ne_of_gt (blk_lt (bk_ BK390)) : gb437 ≠ gb390)); replace BK390 := Aside0.mk (blk_below (bk_ BK390) hb); have NB405_437 := Aside0.mk ((by rw [hg]; exact Nat.ne_of_lt (blk_lt (bk_ BK405)) : gb405 ≠ gb437)); have NB437_405 := Aside0.mk ((by rw [hg]; exact Nat.ne_of_gt (blk_lt (bk_ BK405)) : gb437 ≠ gb405)); replace BK405 := Aside0.mk (blk_below (bk_ BK405) hb); have NB419_437 := Aside0.mk ((by rw [hg]; exact Nat.ne_of_lt (blk_lt (bk_ BK419)) : gb419 ≠ gb437)); have NB437_419 := Aside0.mk ((by rw [hg]; exact Nat.ne_of_gt (blk_lt (bk_ BK419)) : gb437 ≠ gb419)); replace BK419 := Aside0.mk (blk_below (bk_ BK419) hb); clear hb hbox hg; have hnb63 := NB437_390.out; have hnc63 := NB390_437.out; have hnb64 := NB437_405.out; have hnc64 := NB405_437.out; have hnb65 := NB437_419.out; have hnc65 := NB419_437.out; obtain ⟨hcz66_0, hcz66_1, hfz66_0, hfz66_1⟩ := bx2_ BK437; obtain ⟨Ao67, co67, eo67⟩ := Kd.R_slice HO435.out; subst eo67))
       (try simp only [Act.put, List.setIfInBounds_toArray, List.set_cons_zero, List.set_cons_succ])
       go_cut [63] (fun v63 wc => ∃ (kq : Nat) (x63_50 : Bool), v63 = .bool x63_50 ∧ Aside0 (laws_FnExactReqMsg.j1 kq t421 x63_50 t414 t422 = some true) ∧ Aside0 (kq ≤ kj10) ∧ Aside0 (Kd.R k67 67 wc w.heap.size (fun k_ => some k_ ≠ ((.slice Ao29 t415.length co29) : Value).ownBlock ∧ some k_ ≠ ((.slice Ao67 t433.length co67) : Value).ownBlock) (.slice Ao21 t401.length co21) t401) ∧ Aside0 (Kd.R k67 67 wc w.heap.size (fun k_ => some k_ ≠ ((.slice Ao21 t401.length co21) : Value).ownBlock ∧ some k_ ≠ ((.slice Ao67 t433.length co67) : Value).ownBlock) (.slice Ao29 t415.length co29) t422) ∧ Aside0 (Kd.R k67 67 wc w.heap.size (fun k_ => some k_ ≠ ((.slice Ao21 t401.length co21) : Value).ownBlock ∧ some k_ ≠ ((.slice Ao29 t415.length co29) : Value).ownBlock) (.slice Ao67 t433.length co67) t433) ∧ Aside0 (wc.heap[gb390]? = some (.cells #[.int .i64 a0_0, .string a0_1, .string a0_2, .string a0_3, .string a0_4, .string a0_5, .int .i64 a0_6, .int .i64 a0_7] 38 (0, 0))) ∧ Aside0 (wc.heap[gb405]? = some (.cells #[.string t400, (.slice Ao21 t401.length co21)] 42 (0, 0))) ∧ Aside0 (wc.heap[gb419]? = some (.cells #[.string t414, (.slice Ao29 t415.length co29)] 42 (0, 0))) ∧ Aside0 (wc.heap[gb437]? = some (.cells #[.string t432, (.slice Ao67 t433.length co67)] 42 (0, 0))) ∧ Aside0 (Below w.heap.size w wc))
       case first =>
        have H := HC51.out
        clear HC51
        obtain ⟨t438, A68, H⟩ := ob_ H
        by_cases c69 : t438 = true
        ·subst c69
         replace H := ip_ H
         have H' := Aside0.mk H
         clear H
         have hnb70 := NB437_390.out
         have hnc70 := NB390_437.out
         have hnb71 := NB437_405.out
         have hnc71 := NB405_437.out
         have hnb72 := NB437_419.out
         have hnc72 := NB419_437.out
         have hcz73_0 := cz_ BK437 0 (.string (⟨#[]⟩ : ByteArray))
         have hcz73_1 := cz_ BK437 1 (.slice none 0 0)
         have hfz73_0 := fz_ BK437 0
         have hfz73_1 := fz_ BK437 1
         have hnb74 := NB405_390.out
         have hnc74 := NB390_405.out
         have hnb75 := NB405_419.out
         have hnc75 := NB419_405.out
         have hcz76_0 := cz_ BK405 0 (.string t400)
         have hcz76_1 := cz_ BK405 1 (.slice Ao21 t401.length co21)
         have hfz76_0 := fz_ BK405 0
         have hfz76_1 := fz_ BK405 1
         go_wp2_with (first | ((with_reducible refine gate_callee (f := 16) rfl ?_); refine goesL_ (some 57) rfl rfl Tryd.func16 (by kernel_rfl) rfl #[.agg #[.string t432, .slice Ao67 t433.length co67], .agg #[.string t400, .slice Ao21 t401.length co21]] rfl gl_ ?_; (with_reducible refine (laws_eqMsg.calls kj10 t432 _ _ t433 t400 _ _ t401 true _ ?side1 ?side2 ?side3 ?side4 A68.out).mono ?_); (case side1 => refine (Kd.R_reads' (e := 67) (base := w.heap.size) (ok := fun k_ => ((True ∧ some k_ ≠ (.slice Ao21 t401.length co21 : Value).ownBlock) ∧ some k_ ≠ (.slice Ao29 t415.length co29 : Value).ownBlock)) (n := t433.length) (c := co67) ?_).2.2; exact (by (with_reducible repeat (first | apply Kd.R_alloc | apply Kd.R_drewN | apply Kd.R_drew)); exact (Kd.R_mono (Kd.R_far (p := ⟨gb437, 1, none⟩) (Kd.R_far (p := ⟨gb437, 0, none⟩) (Kd.R_types HO435.out BK437.out (by decide)) (fun _ hk => hk.2) (.string t432)) (fun _ hk => hk.2) (.slice Ao67 t433.length co67)) (fun _ h_ => h_.1)))); (case side2 => exact (Kd.R_reads' HO435.out).2.1); (case side3 => refine (Kd.R_reads' (e := 67) (base := w.heap.size) (ok := fun k_ => (some k_ ≠ (.slice Ao29 t415.length co29 : Value).ownBlock ∧ some k_ ≠ (.slice Ao67 t433.length co67 : Value).ownBlock)) (n := t401.length) (c := co21) ?_).2.2; exact (by (with_reducible repeat (first | apply Kd.R_alloc | apply Kd.R_drewN | apply Kd.R_drew)); exact (Kd.R_mono (Kd.R_far (p := ⟨gb437, 1, none⟩) (Kd.R_far (p := ⟨gb437, 0, none⟩) (Kd.R_types HO_406001.out BK437.out (by decide)) (fun _ hk => hk.2) (.string t432)) (fun _ hk => hk.2) (.slice Ao67 t433.length co67)) (fun _ h_ => h_.1)))); (case side4 => exact (Kd.R_reads' HO_406001.out).2.1); rintro e w77 ⟨rfl, hb⟩; refine ⟨_, rfl, ?_⟩; replace HO_406001 := Aside0.mk (Kd.R_below (by (with_reducible repeat (first | apply Kd.R_alloc | apply Kd.R_drewN | apply Kd.R_drew)); exact (Kd.R_mono (Kd.R_far (p := ⟨gb437, 1, none⟩) (Kd.R_far (p := ⟨gb437, 0, none⟩) (Kd.R_types HO_406001.out BK437.out (by decide)) (fun _ hk => hk.2) (.string t432)) (fun _ hk => hk.2) (.slice Ao67 t433.length co67)) (fun _ h_ => h_.1))) hb); replace HO_420001 := Aside0.mk (Kd.R_below (by (with_reducible repeat (first | apply Kd.R_alloc | apply Kd.R_drewN | apply Kd.R_drew)); exact (Kd.R_mono (Kd.R_far (p := ⟨gb437, 1, none⟩) (Kd.R_far (p := ⟨gb437, 0, none⟩) (Kd.R_types HO_420001.out BK437.out (by decide)) (fun _ hk => hk.2) (.string t432)) (fun _ hk => hk.2) (.slice Ao67 t433.length co67)) (fun _ h_ => h_.1))) hb); replace HO435 := Aside0.mk (Kd.R_below (by (with_reducible repeat (first | apply Kd.R_alloc | apply Kd.R_drewN | apply Kd.R_drew)); exact (Kd.R_mono (Kd.R_far (p := ⟨gb437, 1, none⟩) (Kd.R_far (p := ⟨gb437, 0, none⟩) (Kd.R_types HO435.out BK437.out (by decide)) (fun _ hk => hk.2) (.string t432)) (fun _ hk => hk.2) (.slice Ao67 t433.length co67)) (fun _ h_ => h_.1))) hb); replace BK390 := Aside0.mk (blk_below (g := gb390) (o := .cells #[.int .i64 a0_0, .string a0_1, .string a0_2, .string a0_3, .string a0_4, .string a0_5, .int .i64 a0_6, .int .i64 a0_7] 38 (0, 0)) (by (with_reducible repeat (first | refine blk_drewN ?_ _ | refine blk_drew ?_ | refine blk_alloc ?_ _)); refine blk_far ?_ NB390_437.out _; (with_reducible repeat (first | refine blk_drewN ?_ _ | refine blk_drew ?_ | refine blk_alloc ?_ _)); refine blk_far ?_ NB390_437.out _; (with_reducible repeat (first | refine blk_drewN ?_ _ | refine blk_drew ?_ | refine blk_alloc ?_ _)); exact BK390.out) hb); replace BK405 := Aside0.mk (blk_below (g := gb405) (o := .cells #[.string t400, .slice Ao21 t401.length co21] 42 (0, 0)) (by (with_reducible repeat (first | refine blk_drewN ?_ _ | refine blk_drew ?_ | refine blk_alloc ?_ _)); refine blk_far ?_ NB405_437.out _; (with_reducible repeat (first | refine blk_drewN ?_ _ | refine blk_drew ?_ | refine blk_alloc ?_ _)); refine blk_far ?_ NB405_437.out _; (with_reducible repeat (first | refine blk_drewN ?_ _ | refine blk_drew ?_ | refine blk_alloc ?_ _)); exact BK405.out) hb); replace BK419 := Aside0.mk (blk_below (g := gb419) (o := .cells #[.string t414, .slice Ao29 t415.length co29] 42 (0, 0)) (by (with_reducible repeat (first | refine blk_drewN ?_ _ | refine blk_drew ?_ | refine blk_alloc ?_ _)); refine blk_far ?_ NB419_437.out _; (with_reducible repeat (first | refine blk_drewN ?_ _ | refine blk_drew ?_ | refine blk_alloc ?_ _)); refine blk_far ?_ NB419_437.out _; (with_reducible repeat (first | refine blk_drewN ?_ _ | refine blk_drew ?_ | refine blk_alloc ?_ _)); exact BK419.out) hb); replace BK437 := Aside0.mk (blk_below (g := gb437) (o := .cells #[.string t432, .slice Ao67 t433.length co67] 42 (0, 0)) (by (with_reducible repeat (first | refine blk_drewN ?_ _ | refine blk_drew ?_ | refine blk_alloc ?_ _)); apply bq2_1_0_; (with_reducible repeat (first | refine blk_drewN ?_ _ | refine blk_drew ?_ | refine blk_alloc ?_ _)); exact BK437.out) hb); replace HB := Aside0.mk (below_step bl_ hb); (try clear hb); (try clear hb2); (try clear hk); (try clear hi)))
         go_meet
         case rel => exact ⟨_, ((t436 != t404)), sp_, H', ⟨by have := HJ10.out; first | omega | exact Nat.le_refl _⟩, ⟨ra_ HO_406001⟩, ⟨ra_ HO_420001⟩, ⟨by (with_reducible repeat (first | apply Kd.R_alloc | apply Kd.R_drewN | apply Kd.R_drew)); exact Kd.R_mono HO435.out (fun _ hk => ⟨hk.1.2, hk.2⟩)⟩, ⟨by (with_reducible repeat (first | refine blk_drewN ?_ _ | refine blk_drew ?_ | refine blk_alloc ?_ _)); exact BK390.out⟩, ⟨by (with_reducible repeat (first | refine blk_drewN ?_ _ | refine blk_drew ?_ | refine blk_alloc ?_ _)); exact BK405.out⟩, ⟨by (with_reducible repeat (first | refine blk_drewN ?_ _ | refine blk_drew ?_ | refine blk_alloc ?_ _)); exact BK419.out⟩, ⟨by (with_reducible repeat (first | refine blk_drewN ?_ _ | refine blk_drew ?_ | refine blk_alloc ?_ _)); exact BK437.out⟩, ⟨bl_⟩⟩
        ·replace c69 := Bool.eq_false_iff.mpr c69
         subst c69
         replace H := in_ H
         have H' := Aside0.mk H
         clear H
         have hnb78 := NB437_390.out
         have hnc78 := NB390_437.out
         have hnb79 := NB437_405.out
         have hnc79 := NB405_437.out
         have hnb80 := NB437_419.out
         have hnc80 := NB419_437.out
         have hcz81_0 := cz_ BK437 0 (.string (⟨#[]⟩ : ByteArray))
         have hcz81_1 := cz_ BK437 1 (.slice none 0 0)
         have hfz81_0 := fz_ BK437 0
         have hfz81_1 := fz_ BK437 1
         have hnb82 := NB405_390.out
         have hnc82 := NB390_405.out
         have hnb83 := NB405_419.out
         have hnc83 := NB419_405.out
         have hcz84_0 := cz_ BK405 0 (.string t400)
         have hcz84_1 := cz_ BK405 1 (.slice Ao21 t401.length co21)
         have hfz84_0 := fz_ BK405 0
         have hfz84_1 := fz_ BK405 1
         go_wp2_with (first | ((with_reducible refine gate_callee (f := 16) rfl ?_); refine goesL_ (some 57) rfl rfl Tryd.func16 (by kernel_rfl) rfl #[.agg #[.string t432, .slice Ao67 t433.length co67], .agg #[.string t400, .slice Ao21 t401.length co21]] rfl gl_ ?_; (with_reducible refine (laws_eqMsg.calls kj10 t432 _ _ t433 t400 _ _ t401 false _ ?side1 ?side2 ?side3 ?side4 A68.out).mono ?_); (case side1 => refine (Kd.R_reads' (e := 67) (base := w.heap.size) (ok := fun k_ => ((True ∧ some k_ ≠ (.slice Ao21 t401.length co21 : Value).ownBlock) ∧ some k_ ≠ (.slice Ao29 t415.length co29 : Value).ownBlock)) (n := t433.length) (c := co67) ?_).2.2; exact (by (with_reducible repeat (first | apply Kd.R_alloc | apply Kd.R_drewN | apply Kd.R_drew)); exact (Kd.R_mono (Kd.R_far (p := ⟨gb437, 1, none⟩) (Kd.R_far (p := ⟨gb437, 0, none⟩) (Kd.R_types HO435.out BK437.out (by decide)) (fun _ hk => hk.2) (.string t432)) (fun _ hk => hk.2) (.slice Ao67 t433.length co67)) (fun _ h_ => h_.1)))); (case side2 => exact (Kd.R_reads' HO435.out).2.1); (case side3 => refine (Kd.R_reads' (e := 67) (base := w.heap.size) (ok := fun k_ => (some k_ ≠ (.slice Ao29 t415.length co29 : Value).ownBlock ∧ some k_ ≠ (.slice Ao67 t433.length co67 : Value).ownBlock)) (n := t401.length) (c := co21) ?_).2.2; exact (by (with_reducible repeat (first | apply Kd.R_alloc | apply Kd.R_drewN | apply Kd.R_drew)); exact (Kd.R_mono (Kd.R_far (p := ⟨gb437, 1, none⟩) (Kd.R_far (p := ⟨gb437, 0, none⟩) (Kd.R_types HO_406001.out BK437.out (by decide)) (fun _ hk => hk.2) (.string t432)) (fun _ hk => hk.2) (.slice Ao67 t433.length co67)) (fun _ h_ => h_.1)))); (case side4 => exact (Kd.R_reads' HO_406001.out).2.1); rintro e w85 ⟨rfl, hb⟩; refine ⟨_, rfl, ?_⟩; replace HO_406001 := Aside0.mk (Kd.R_below (by (with_reducible repeat (first | apply Kd.R_alloc | apply Kd.R_drewN | apply Kd.R_drew)); exact (Kd.R_mono (Kd.R_far (p := ⟨gb437, 1, none⟩) (Kd.R_far (p := ⟨gb437, 0, none⟩) (Kd.R_types HO_406001.out BK437.out (by decide)) (fun _ hk => hk.2) (.string t432)) (fun _ hk => hk.2) (.slice Ao67 t433.length co67)) (fun _ h_ => h_.1))) hb); replace HO_420001 := Aside0.mk (Kd.R_below (by (with_reducible repeat (first | apply Kd.R_alloc | apply Kd.R_drewN | apply Kd.R_drew)); exact (Kd.R_mono (Kd.R_far (p := ⟨gb437, 1, none⟩) (Kd.R_far (p := ⟨gb437, 0, none⟩) (Kd.R_types HO_420001.out BK437.out (by decide)) (fun _ hk => hk.2) (.string t432)) (fun _ hk => hk.2) (.slice Ao67 t433.length co67)) (fun _ h_ => h_.1))) hb); replace HO435 := Aside0.mk (Kd.R_below (by (with_reducible repeat (first | apply Kd.R_alloc | apply Kd.R_drewN | apply Kd.R_drew)); exact (Kd.R_mono (Kd.R_far (p := ⟨gb437, 1, none⟩) (Kd.R_far (p := ⟨gb437, 0, none⟩) (Kd.R_types HO435.out BK437.out (by decide)) (fun _ hk => hk.2) (.string t432)) (fun _ hk => hk.2) (.slice Ao67 t433.length co67)) (fun _ h_ => h_.1))) hb); replace BK390 := Aside0.mk (blk_below (g := gb390) (o := .cells #[.int .i64 a0_0, .string a0_1, .string a0_2, .string a0_3, .string a0_4, .string a0_5, .int .i64 a0_6, .int .i64 a0_7] 38 (0, 0)) (by (with_reducible repeat (first | refine blk_drewN ?_ _ | refine blk_drew ?_ | refine blk_alloc ?_ _)); refine blk_far ?_ NB390_437.out _; (with_reducible repeat (first | refine blk_drewN ?_ _ | refine blk_drew ?_ | refine blk_alloc ?_ _)); refine blk_far ?_ NB390_437.out _; (with_reducible repeat (first | refine blk_drewN ?_ _ | refine blk_drew ?_ | refine blk_alloc ?_ _)); exact BK390.out) hb); replace BK405 := Aside0.mk (blk_below (g := gb405) (o := .cells #[.string t400, .slice Ao21 t401.length co21] 42 (0, 0)) (by (with_reducible repeat (first | refine blk_drewN ?_ _ | refine blk_drew ?_ | refine blk_alloc ?_ _)); refine blk_far ?_ NB405_437.out _; (with_reducible repeat (first | refine blk_drewN ?_ _ | refine blk_drew ?_ | refine blk_alloc ?_ _)); refine blk_far ?_ NB405_437.out _; (with_reducible repeat (first | refine blk_drewN ?_ _ | refine blk_drew ?_ | refine blk_alloc ?_ _)); exact BK405.out) hb); replace BK419 := Aside0.mk (blk_below (g := gb419) (o := .cells #[.string t414, .slice Ao29 t415.length co29] 42 (0, 0)) (by (with_reducible repeat (first | refine blk_drewN ?_ _ | refine blk_drew ?_ | refine blk_alloc ?_ _)); refine blk_far ?_ NB419_437.out _; (with_reducible repeat (first | refine blk_drewN ?_ _ | refine blk_drew ?_ | refine blk_alloc ?_ _)); refine blk_far ?_ NB419_437.out _; (with_reducible repeat (first | refine blk_drewN ?_ _ | refine blk_drew ?_ | refine blk_alloc ?_ _)); exact BK419.out) hb); replace BK437 := Aside0.mk (blk_below (g := gb437) (o := .cells #[.string t432, .slice Ao67 t433.length co67] 42 (0, 0)) (by (with_reducible repeat (first | refine blk_drewN ?_ _ | refine blk_drew ?_ | refine blk_alloc ?_ _)); apply bq2_1_0_; (with_reducible repeat (first | refine blk_drewN ?_ _ | refine blk_drew ?_ | refine blk_alloc ?_ _)); exact BK437.out) hb); replace HB := Aside0.mk (below_step bl_ hb); (try clear hb); (try clear hb2); (try clear hk); (try clear hi)))
         go_meet
         case rel => exact ⟨_, (true), sp_, H', ⟨by have := HJ10.out; first | omega | exact Nat.le_refl _⟩, ⟨ra_ HO_406001⟩, ⟨ra_ HO_420001⟩, ⟨by (with_reducible repeat (first | apply Kd.R_alloc | apply Kd.R_drewN | apply Kd.R_drew)); exact Kd.R_mono HO435.out (fun _ hk => ⟨hk.1.2, hk.2⟩)⟩, ⟨by (with_reducible repeat (first | refine blk_drewN ?_ _ | refine blk_drew ?_ | refine blk_alloc ?_ _)); exact BK390.out⟩, ⟨by (with_reducible repeat (first | refine blk_drewN ?_ _ | refine blk_drew ?_ | refine blk_alloc ?_ _)); exact BK405.out⟩, ⟨by (with_reducible repeat (first | refine blk_drewN ?_ _ | refine blk_drew ?_ | refine blk_alloc ?_ _)); exact BK419.out⟩, ⟨by (with_reducible repeat (first | refine blk_drewN ?_ _ | refine blk_drew ?_ | refine blk_alloc ?_ _)); exact BK437.out⟩, ⟨bl_⟩⟩
       case rest =>
        clear HC51
        try clear c1
        try clear c2
        try clear p2
        try clear c3
        try clear c3b0
        try clear c4
        try clear c5
        try clear c6
        try clear c7
        try clear c8
        try clear c12
        try clear c13
        try clear c14
        try clear c15
        try clear c16
        try clear c17
        try clear c18
        try clear c19
        try clear c26
        try clear c27
        try clear c31
        try clear c32
        try clear c33
        try clear c35
        try clear c38
        try clear c39
        try clear c41
        try clear c44
        try clear c47
        try clear c47b0
        try clear c48
        try clear c48b0
        try clear c48b1
        try clear c52
        try clear c53
        try clear c58
        try clear c63
        try clear c64
        try clear c65
        try clear c69
        try clear c70
        try clear c71
        try clear c72
        try clear c74
        try clear c75
        try clear c78
        try clear c79
        try clear c80
        try clear c82
        try clear c83
        try clear hcz13_0
        try clear hcz13_1
        try clear hcz13_2
        try clear hcz13_3
        try clear hcz13_4
        try clear hcz13_5
        try clear hcz13_6
        try clear hcz13_7
        try clear hcz15_0
        try clear hcz15_1
        try clear hcz15_2
        try clear hcz15_3
        try clear hcz15_4
        try clear hcz15_5
        try clear hcz15_6
        try clear hcz15_7
        try clear hcz20_0
        try clear hcz20_1
        try clear hcz22_0
        try clear hcz22_1
        try clear hcz22_2
        try clear hcz22_3
        try clear hcz22_4
        try clear hcz22_5
        try clear hcz22_6
        try clear hcz22_7
        try clear hcz28_0
        try clear hcz28_1
        try clear hcz34_0
        try clear hcz34_1
        try clear hcz36_0
        try clear hcz36_1
        try clear hcz40_0
        try clear hcz40_1
        try clear hcz42_0
        try clear hcz42_1
        try clear hcz54_0
        try clear hcz54_1
        try clear hcz56_0
        try clear hcz56_1
        try clear hcz59_0
        try clear hcz59_1
        try clear hcz59_2
        try clear hcz59_3
        try clear hcz59_4
        try clear hcz59_5
        try clear hcz59_6
        try clear hcz59_7
        try clear hcz5_0
        try clear hcz5_1
        try clear hcz5_2
        try clear hcz5_3
        try clear hcz5_4
        try clear hcz5_5
        try clear hcz5_6
        try clear hcz5_7
        try clear hcz66_0
        try clear hcz66_1
        try clear hcz73_0
        try clear hcz73_1
        try clear hcz76_0
        try clear hcz76_1
        try clear hcz81_0
        try clear hcz81_1
        try clear hcz84_0
        try clear hcz84_1
        try clear hfz13_0
        try clear hfz13_1
        try clear hfz13_2
        try clear hfz13_3
        try clear hfz13_4
        try clear hfz13_5
        try clear hfz13_6
        try clear hfz13_7
        try clear hfz15_0
        try clear hfz15_1
        try clear hfz15_2
        try clear hfz15_3
        try clear hfz15_4
        try clear hfz15_5
        try clear hfz15_6
        try clear hfz15_7
        try clear hfz20_0
        try clear hfz20_1
        try clear hfz22_0
        try clear hfz22_1
        try clear hfz22_2
        try clear hfz22_3
        try clear hfz22_4
        try clear hfz22_5
        try clear hfz22_6
        try clear hfz22_7
        try clear hfz28_0
        try clear hfz28_1
        try clear hfz34_0
        try clear hfz34_1
        try clear hfz36_0
        try clear hfz36_1
        try clear hfz40_0
        try clear hfz40_1
        try clear hfz42_0
        try clear hfz42_1
        try clear hfz54_0
        try clear hfz54_1
        try clear hfz56_0
        try clear hfz56_1
        try clear hfz59_0
        try clear hfz59_1
        try clear hfz59_2
        try clear hfz59_3
        try clear hfz59_4
        try clear hfz59_5
        try clear hfz59_6
        try clear hfz59_7
        try clear hfz5_0
        try clear hfz5_1
        try clear hfz5_2
        try clear hfz5_3
        try clear hfz5_4
        try clear hfz5_5
        try clear hfz5_6
        try clear hfz5_7
        try clear hfz66_0
        try clear hfz66_1
        try clear hfz73_0
        try clear hfz73_1
        try clear hfz76_0
        try clear hfz76_1
        try clear hfz81_0
        try clear hfz81_1
        try clear hfz84_0
        try clear hfz84_1
        try clear p2
        obtain ⟨kq, x63_50, rfl, HA, HJ50, HO_406001, HO_420001, HO_438001, BK390, BK405, BK419, BK437, HB⟩ := hcut
        have hl420001_50 := (Kd.R_reads' HO_420001.out).1
        rw [hl420001_50] at HO_420001
        (try simp only [hl420001_50])
        (try simp only [hl420001_50] at BK390)
        (try simp only [hl420001_50] at BK405)
        (try simp only [hl420001_50] at BK419)
        (try simp only [hl420001_50] at BK437)
        (try simp only [hl420001_50] at HO_406001)
        (try simp only [hl420001_50] at HO_438001)
        cases kq with
        | zero => exact absurd HA.out (by simp [laws_FnExactReqMsg.j1])
        | succ kj50 =>
         have H := HA.out
         clear HA
         simp only [laws_FnExactReqMsg.j1] at H
         by_cases c86 : x63_50 = true
         ·subst c86
          replace H := ip_ H
          exact absurd H (by simp)
         ·replace c86 := Bool.eq_false_iff.mpr c86
          subst c86
          replace H := in_ H
          obtain ⟨t439, A87, H⟩ := ob_ H
          by_cases c88 : t439 < 0
          ·rw [if_pos c88] at H
           have c88b0 : decide (t439 < 0) = true := decide_eq_true c88
           clear c88
           exact absurd H (by simp)
          ·rw [if_neg c88] at H
           have c88b0 : decide (t439 < 0) = false := decide_eq_false c88
           clear c88
           by_cases c89 : t439 = t421
           ·rw [if_pos c89] at H
            have c89b0 : (t439 == t421) = true := beq_iff_eq.mpr c89
            have c89b1 : (t439 != t421) = false := bne_eq_false_iff_eq.mpr c89
            clear c89
            clear H
            have hnb90 := NB419_390.out
            have hnc90 := NB390_419.out
            have hnb91 := NB419_405.out
            have hnc91 := NB405_419.out
            have hnb92 := NB419_437.out
            have hnc92 := NB437_419.out
            have hcz93_0 := cz_ BK419 0 (.string t414)
            have hcz93_1 := cz_ BK419 1 (.slice Ao29 t422.length co29)
            have hfz93_0 := fz_ BK419 0
            have hfz93_1 := fz_ BK419 1
            go_wp2_with (first | ((with_reducible refine gate_callee (f := 18) rfl ?_); refine goesL_ (some 66) rfl rfl Tryd.func18 (by kernel_rfl) rfl #[.agg #[.string t414, .slice Ao29 t422.length co29], .int .i64 1] rfl gl_ ?_; (with_reducible refine (laws_heldMsg.calls kj50 t414 _ _ t422 1 t439 _ ?side1 ?side2 A87.out).mono ?_); (case side1 => exact ca_ ((Kd.R_reads' HO_420001.out).2.2)); (case side2 => exact (Kd.R_reads' HO_420001.out).2.1); rintro e w94 ⟨rfl, hb⟩; refine ⟨_, rfl, ?_⟩; replace HO_406001 := Aside0.mk (Kd.R_below (ra_ HO_406001) hb); replace HO_420001 := Aside0.mk (Kd.R_below (ra_ HO_420001) hb); replace HO_438001 := Aside0.mk (Kd.R_below (ra_ HO_438001) hb); replace BK390 := Aside0.mk (blk_below (bk_ BK390) hb); replace BK405 := Aside0.mk (blk_below (bk_ BK405) hb); replace BK419 := Aside0.mk (blk_below (bk_ BK419) hb); replace BK437 := Aside0.mk (blk_below (bk_ BK437) hb); replace HB := Aside0.mk (below_step bl_ hb); (try clear hb); (try clear hb2); (try clear hk); (try clear hi)))
            go_ret
            exact ⟨sq_, bl_⟩
           ·rw [if_neg c89] at H
            have c89b0 : (t439 == t421) = false := beq_eq_false_iff_ne.mpr c89
            have c89b1 : (t439 != t421) = true := bne_iff_ne.mpr c89
            exact absurd H (by simp)
      ·rw [if_neg c48] at H
       have c48b0 : (t423 == t421) = false := beq_eq_false_iff_ne.mpr c48
       have c48b1 : (t423 != t421) = true := bne_iff_ne.mpr c48
       exact absurd H (by simp)
def ok38 (x : S38) : Prop := ((Lit.int .i64 x.f0).wf = true) ∧ (x.f1.size ≤ maxLen) ∧ (x.f2.size ≤ maxLen) ∧ (x.f3.size ≤ maxLen) ∧ (x.f4.size ≤ maxLen) ∧ (x.f5.size ≤ maxLen) ∧ ((Lit.int .i64 x.f6).wf = true) ∧ ((Lit.int .i64 x.f7).wf = true)
/-- THE ONE PURE STATEMENT of laws_FnExactReqMsg. -/
def laws_FnExactReqMsg.Pure : Prop := ∀ (s0 : S38), (ok38 s0) → ∃ k, laws_FnExactReqMsg.f k s0.f0 s0.f1 s0.f2 s0.f3 s0.f4 s0.f5 s0.f6 s0.f7 = some true
end Go.Proofs.YtbjpfknmkpnhjaaDoor.QFnExactReqMsg
