-- by my own printer (myprint.py, over the kit's print.py)
import Derived.Test.YtbjpfknmkpnhjaaDoorQFnExactReqMsgx0
namespace Go.Proofs.YtbjpfknmkpnhjaaDoor.QFnExactReqMsg
open Go.RowKit Go.Proofs.YtbjpfknmkpnhjaaDoorW.PrintWords Go.Proofs.YtbjpfknmkpnhjaaDoorW.PrintLast Go.Proofs.YtbjpfknmkpnhjaaDoorW.PrintMore
attribute [local go_sem] max2_int min2_int max_two min_two max_three min_three max_four min_four   -- for this text's walks alone
set_option linter.unusedVariables false
set_option linter.unusedSimpArgs false
attribute [local go_sem] my_geq my_leq my_gtr
/-! ### laws_toReq: function 14 -/
def laws_toReq.f (a0_0 : Int) (a0_1 : ByteArray) (a0_2 : ByteArray) (a0_3 : ByteArray) (a0_4 : ByteArray) (a0_5 : ByteArray) (a0_6 : Int) (a0_7 : Int) : Option (Int × ByteArray × ByteArray × ByteArray × ByteArray × ByteArray × Int × Int) := some (a0_0, a0_1, a0_2, a0_3, a0_4, a0_5, a0_6, a0_7)
set_option maxHeartbeats 8000000 in
set_option maxRecDepth 100000 in
theorem laws_toReq.calls (a0_0 : Int) (a0_1 : ByteArray) (a0_2 : ByteArray) (a0_3 : ByteArray) (a0_4 : ByteArray) (a0_5 : ByteArray) (a0_6 : Int) (a0_7 : Int) (r1 : Int) (r2 : ByteArray) (r3 : ByteArray) (r4 : ByteArray) (r5 : ByteArray) (r6 : ByteArray) (r7 : Int) (r8 : Int) (w : World) (h : laws_toReq.f a0_0 a0_1 a0_2 a0_3 a0_4 a0_5 a0_6 a0_7 = some (r1, r2, r3, r4, r5, r6, r7, r8)) :
  Calls Tryd.prog 14 #[.agg #[.int .i64 a0_0, .string a0_1, .string a0_2, .string a0_3, .string a0_4, .string a0_5, .int .i64 a0_6, .int .i64 a0_7]] w fun e w' => e = .returned (.agg #[.int .i64 r1, .string r2, .string r3, .string r4, .string r5, .string r6, .int .i64 r7, .int .i64 r8]) ∧ Below w.heap.size w w' := by
 have hu38 := Tryd.underlying38
 have hu45 := Tryd.underlying45
 have HB := Aside0.mk (Below.refl w.heap.size w)
 have H : (some (a0_0, a0_1, a0_2, a0_3, a0_4, a0_5, a0_6, a0_7)) = some (r1, r2, r3, r4, r5, r6, r7, r8) := h
 clear h
 simp only [Option.some.injEq, Prod.mk.injEq] at H
 obtain ⟨rfl, rfl, rfl, rfl, rfl, rfl, rfl, rfl⟩ := H
 go_enter Tryd.func14, Tryd.ntmps14
 go_wp2_with (first | ((with_reducible refine gate_dst (N := 1) rfl ?_); refine be_ (N := 1) (cs := #[.int .i64 a0_0, .string a0_1, .string a0_2, .string a0_3, .string a0_4, .string a0_5, .int .i64 a0_6, .int .i64 a0_7]) (t := 38) ?_; intro gb238 hg w2 hbox hb; have BK238 := Aside0.mk (hbox); have GW238 := gw_ (w := w) hg; have GE238 := gw_ (w := w) hg; replace HB := Aside0.mk (below_step bl_ hb); clear hb hbox hg) | ((with_reducible refine gate_dst (N := 2) rfl ?_); refine be_ (N := 2) (cs := #[.int .i64 0, .string (⟨#[]⟩ : ByteArray), .string (⟨#[]⟩ : ByteArray), .string (⟨#[]⟩ : ByteArray), .string (⟨#[]⟩ : ByteArray), .string (⟨#[]⟩ : ByteArray), .int .i64 0, .int .i64 0]) (t := 45) ?_; intro gb239 hg w3 hbox hb; have BK239 := Aside0.mk (hbox); have GW239 := gw_ (w := w) hg; have GE239 := gw_ (w := w) hg; replace HB := Aside0.mk (below_step bl_ hb); have NB238_239 := Aside0.mk ((by rw [hg]; exact Nat.ne_of_lt (blk_lt (bk_ BK238)) : gb238 ≠ gb239)); have NB239_238 := Aside0.mk ((by rw [hg]; exact Nat.ne_of_gt (blk_lt (bk_ BK238)) : gb239 ≠ gb238)); replace BK238 := Aside0.mk (blk_below (bk_ BK238) hb); clear hb hbox hg) | ((with_reducible refine gate_dst (N := 3) rfl ?_); refine be_ (N := 3) (cs := #[.int .i64 0, .string (⟨#[]⟩ : ByteArray), .string (⟨#[]⟩ : ByteArray), .string (⟨#[]⟩ : ByteArray), .string (⟨#[]⟩ : ByteArray), .string (⟨#[]⟩ : ByteArray), .int .i64 0, .int .i64 0]) (t := 45) ?_; intro gb240 hg w4 hbox hb; have BK240 := Aside0.mk (hbox); have GW240 := gw_ (w := w) hg; have GE240 := gw_ (w := w) hg; replace HB := Aside0.mk (below_step bl_ hb); have NB238_240 := Aside0.mk ((by rw [hg]; exact Nat.ne_of_lt (blk_lt (bk_ BK238)) : gb238 ≠ gb240)); have NB240_238 := Aside0.mk ((by rw [hg]; exact Nat.ne_of_gt (blk_lt (bk_ BK238)) : gb240 ≠ gb238)); replace BK238 := Aside0.mk (blk_below (bk_ BK238) hb); have NB239_240 := Aside0.mk ((by rw [hg]; exact Nat.ne_of_lt (blk_lt (bk_ BK239)) : gb239 ≠ gb240)); have NB240_239 := Aside0.mk ((by rw [hg]; exact Nat.ne_of_gt (blk_lt (bk_ BK239)) : gb240 ≠ gb239)); replace BK239 := Aside0.mk (blk_below (bk_ BK239) hb); clear hb hbox hg; have hnb5 := NB238_239.out; have hnc5 := NB239_238.out; have hnb6 := NB238_240.out; have hnc6 := NB240_238.out; obtain ⟨hcz7_0, hcz7_1, hcz7_2, hcz7_3, hcz7_4, hcz7_5, hcz7_6, hcz7_7, hfz7_0, hfz7_1, hfz7_2, hfz7_3, hfz7_4, hfz7_5, hfz7_6, hfz7_7⟩ := bx8_ BK238; have hnb8 := NB240_239.out; have hnc8 := NB239_240.out; obtain ⟨hcz9_0, hcz9_1, hcz9_2, hcz9_3, hcz9_4, hcz9_5, hcz9_6, hcz9_7, hfz9_0, hfz9_1, hfz9_2, hfz9_3, hfz9_4, hfz9_5, hfz9_6, hfz9_7⟩ := bx8_ BK240; obtain ⟨hcz10_0, hcz10_1, hcz10_2, hcz10_3, hcz10_4, hcz10_5, hcz10_6, hcz10_7, hfz10_0, hfz10_1, hfz10_2, hfz10_3, hfz10_4, hfz10_5, hfz10_6, hfz10_7⟩ := bx8_ BK239))
 refine bodyPost_ret (results_cell_row rfl _ _ gb239 45 #[.int .i64 a0_0, .string a0_1, .string a0_2, .string a0_3, .string a0_4, .string a0_5, .int .i64 a0_6, .int .i64 a0_7] (0, 0) _ rfl (by (with_reducible repeat (first | refine blk_drewN ?_ _ | refine blk_drew ?_ | refine blk_alloc ?_ _)); apply bq8_7_6_5_4_3_2_1_0_; (with_reducible repeat (first | refine blk_drewN ?_ _ | refine blk_drew ?_ | refine blk_alloc ?_ _)); refine blk_far ?_ NB239_240.out _; (with_reducible repeat (first | refine blk_drewN ?_ _ | refine blk_drew ?_ | refine blk_alloc ?_ _)); refine blk_far ?_ NB239_240.out _; (with_reducible repeat (first | refine blk_drewN ?_ _ | refine blk_drew ?_ | refine blk_alloc ?_ _)); refine blk_far ?_ NB239_240.out _; (with_reducible repeat (first | refine blk_drewN ?_ _ | refine blk_drew ?_ | refine blk_alloc ?_ _)); refine blk_far ?_ NB239_240.out _; (with_reducible repeat (first | refine blk_drewN ?_ _ | refine blk_drew ?_ | refine blk_alloc ?_ _)); refine blk_far ?_ NB239_240.out _; (with_reducible repeat (first | refine blk_drewN ?_ _ | refine blk_drew ?_ | refine blk_alloc ?_ _)); refine blk_far ?_ NB239_240.out _; (with_reducible repeat (first | refine blk_drewN ?_ _ | refine blk_drew ?_ | refine blk_alloc ?_ _)); refine blk_far ?_ NB239_240.out _; (with_reducible repeat (first | refine blk_drewN ?_ _ | refine blk_drew ?_ | refine blk_alloc ?_ _)); refine blk_far ?_ NB239_240.out _; (with_reducible repeat (first | refine blk_drewN ?_ _ | refine blk_drew ?_ | refine blk_alloc ?_ _)); exact BK239.out) Tryd.underlying45 rfl (by kernel_rfl)) rfl ?_
 exact ⟨sq_, bl_⟩
/-! ### impl_within: function 60 -/
def impl_within.f (a0 : Int) (a1 : Int) (a2 : Int) : Option (Bool) := if a1 ≤ a0 then (some (decide (a0 ≤ a2))) else (some false)
set_option maxHeartbeats 8000000 in
set_option maxRecDepth 100000 in
theorem impl_within.calls (a0 : Int) (a1 : Int) (a2 : Int) (r : Bool) (w : World) (h : impl_within.f a0 a1 a2 = some r) :
  Calls Tryd.prog 60 #[.int .i64 a0, .int .i64 a1, .int .i64 a2] w fun e w' => e = .returned (.bool r) ∧ Drawn0 w w' := by
 have H : (if a1 ≤ a0 then (some (decide (a0 ≤ a2))) else (some false)) = some r := h
 clear h
 by_cases c4 : a1 ≤ a0
 ·rw [if_pos c4] at H
  have c4b0 : decide (a1 ≤ a0) = true := decide_eq_true c4
  clear c4
  obtain rfl := Option.some.inj H
  go_enter Tryd.func60, Tryd.ntmps60
  go_wp2
  go_ret
  exact ⟨sp_, by repeat (first | exact Drawn0.refl _ | apply Drawn0.step)⟩
 ·rw [if_neg c4] at H
  have c4b0 : decide (a1 ≤ a0) = false := decide_eq_false c4
  clear c4
  obtain rfl := Option.some.inj H
  go_enter Tryd.func60, Tryd.ntmps60
  go_wp2
  go_ret
  exact ⟨sp_, by repeat (first | exact Drawn0.refl _ | apply Drawn0.step)⟩
/-! ### impl_opRows: function 116 -/
def impl_opRows.f  : Option ((List (S96))) := some (([(⟨(⟨#[48, 49, 48, 48]⟩ : ByteArray), (⟨#[48, 48]⟩ : ByteArray), (⟨#[97, 117, 116, 104]⟩ : ByteArray), (([4, 14, 38] : List Int))⟩ : S96), (⟨(⟨#[48, 49, 48, 48]⟩ : ByteArray), (⟨#[48, 50]⟩ : ByteArray), (⟨#[109, 111, 114, 101]⟩ : ByteArray), (([4, 38] : List Int))⟩ : S96), (⟨(⟨#[48, 50, 50, 48]⟩ : ByteArray), (⟨#[48, 49]⟩ : ByteArray), (⟨#[112, 97, 114, 116]⟩ : ByteArray), (([4, 38] : List Int))⟩ : S96), (⟨(⟨#[48, 50, 50, 48]⟩ : ByteArray), (⟨#[48, 48]⟩ : ByteArray), (⟨#[102, 105, 110, 97, 108]⟩ : ByteArray), (([4, 38] : List Int))⟩ : S96), (⟨(⟨#[48, 50, 50, 48]⟩ : ByteArray), (⟨#[50, 48]⟩ : ByteArray), (⟨#[102, 114, 101, 101]⟩ : ByteArray), (([38] : List Int))⟩ : S96), (⟨(⟨#[48, 50, 48, 48]⟩ : ByteArray), (⟨#[52, 48]⟩ : ByteArray), (⟨#[109, 111, 118, 101]⟩ : ByteArray), (([38, 103] : List Int))⟩ : S96), (⟨(⟨#[48, 49, 48, 48]⟩ : ByteArray), (⟨#[51, 49]⟩ : ByteArray), (⟨#[97, 115, 107]⟩ : ByteArray), ([] : List Int)⟩ : S96), (⟨(⟨#[48, 50, 48, 48]⟩ : ByteArray), (⟨#[57, 48]⟩ : ByteArray), (⟨#[115, 119, 101, 101, 112]⟩ : ByteArray), ([] : List Int)⟩ : S96)] : List (S96)))
set_option maxHeartbeats 8000000 in
set_option maxRecDepth 100000 in
theorem impl_opRows.calls  (r : List (S96)) (w : World) (h : impl_opRows.f  = some r) :
  Calls Tryd.prog 116 #[] w fun e w' => ∃ v0_ : Value, e = .returned (v0_) ∧ Kd.N k96 96 w' w.heap.size (fun k_ => (w.heap.size ≤ k_)) v0_ r ∧ Below w.heap.size w w' := by
 have hu96 := Tryd.underlying96
 have HB := Aside0.mk (Below.refl w.heap.size w)
 have H : (some (([(⟨(⟨#[48, 49, 48, 48]⟩ : ByteArray), (⟨#[48, 48]⟩ : ByteArray), (⟨#[97, 117, 116, 104]⟩ : ByteArray), (([4, 14, 38] : List Int))⟩ : S96), (⟨(⟨#[48, 49, 48, 48]⟩ : ByteArray), (⟨#[48, 50]⟩ : ByteArray), (⟨#[109, 111, 114, 101]⟩ : ByteArray), (([4, 38] : List Int))⟩ : S96), (⟨(⟨#[48, 50, 50, 48]⟩ : ByteArray), (⟨#[48, 49]⟩ : ByteArray), (⟨#[112, 97, 114, 116]⟩ : ByteArray), (([4, 38] : List Int))⟩ : S96), (⟨(⟨#[48, 50, 50, 48]⟩ : ByteArray), (⟨#[48, 48]⟩ : ByteArray), (⟨#[102, 105, 110, 97, 108]⟩ : ByteArray), (([4, 38] : List Int))⟩ : S96), (⟨(⟨#[48, 50, 50, 48]⟩ : ByteArray), (⟨#[50, 48]⟩ : ByteArray), (⟨#[102, 114, 101, 101]⟩ : ByteArray), (([38] : List Int))⟩ : S96), (⟨(⟨#[48, 50, 48, 48]⟩ : ByteArray), (⟨#[52, 48]⟩ : ByteArray), (⟨#[109, 111, 118, 101]⟩ : ByteArray), (([38, 103] : List Int))⟩ : S96), (⟨(⟨#[48, 49, 48, 48]⟩ : ByteArray), (⟨#[51, 49]⟩ : ByteArray), (⟨#[97, 115, 107]⟩ : ByteArray), ([] : List Int)⟩ : S96), (⟨(⟨#[48, 50, 48, 48]⟩ : ByteArray), (⟨#[57, 48]⟩ : ByteArray), (⟨#[115, 119, 101, 101, 112]⟩ : ByteArray), ([] : List Int)⟩ : S96)] : List (S96)))) = some r := h
 clear h
 obtain ⟨y241, hy241⟩ : ∃ y_ : List Int, y_ = (([4, 14, 38] : List Int)) := ⟨_, rfl⟩
 replace H : (some (([(⟨(⟨#[48, 49, 48, 48]⟩ : ByteArray), (⟨#[48, 48]⟩ : ByteArray), (⟨#[97, 117, 116, 104]⟩ : ByteArray), y241⟩ : S96), (⟨(⟨#[48, 49, 48, 48]⟩ : ByteArray), (⟨#[48, 50]⟩ : ByteArray), (⟨#[109, 111, 114, 101]⟩ : ByteArray), (([4, 38] : List Int))⟩ : S96), (⟨(⟨#[48, 50, 50, 48]⟩ : ByteArray), (⟨#[48, 49]⟩ : ByteArray), (⟨#[112, 97, 114, 116]⟩ : ByteArray), (([4, 38] : List Int))⟩ : S96), (⟨(⟨#[48, 50, 50, 48]⟩ : ByteArray), (⟨#[48, 48]⟩ : ByteArray), (⟨#[102, 105, 110, 97, 108]⟩ : ByteArray), (([4, 38] : List Int))⟩ : S96), (⟨(⟨#[48, 50, 50, 48]⟩ : ByteArray), (⟨#[50, 48]⟩ : ByteArray), (⟨#[102, 114, 101, 101]⟩ : ByteArray), (([38] : List Int))⟩ : S96), (⟨(⟨#[48, 50, 48, 48]⟩ : ByteArray), (⟨#[52, 48]⟩ : ByteArray), (⟨#[109, 111, 118, 101]⟩ : ByteArray), (([38, 103] : List Int))⟩ : S96), (⟨(⟨#[48, 49, 48, 48]⟩ : ByteArray), (⟨#[51, 49]⟩ : ByteArray), (⟨#[97, 115, 107]⟩ : ByteArray), ([] : List Int)⟩ : S96), (⟨(⟨#[48, 50, 48, 48]⟩ : ByteArray), (⟨#[57, 48]⟩ : ByteArray), (⟨#[115, 119, 101, 101, 112]⟩ : ByteArray), ([] : List Int)⟩ : S96)] : List (S96)))) = some r := by first | (rw [hy241]; with_reducible exact H) | (have H2_ := (Option.bind_some _ _).symm.trans H; rw [hy241]; with_reducible exact H2_) | (have H2_ := (Option.bind_some _ _).symm.trans H; with_reducible exact H2_) | with_reducible exact H | (rw [hy241]; exact H) | exact H
 have Ny241 := Aside0.mk hy241
 clear hy241
 obtain ⟨y244, hy244⟩ : ∃ y_ : List Int, y_ = (([4, 38] : List Int)) := ⟨_, rfl⟩
 replace H : (some (([(⟨(⟨#[48, 49, 48, 48]⟩ : ByteArray), (⟨#[48, 48]⟩ : ByteArray), (⟨#[97, 117, 116, 104]⟩ : ByteArray), y241⟩ : S96), (⟨(⟨#[48, 49, 48, 48]⟩ : ByteArray), (⟨#[48, 50]⟩ : ByteArray), (⟨#[109, 111, 114, 101]⟩ : ByteArray), y244⟩ : S96), (⟨(⟨#[48, 50, 50, 48]⟩ : ByteArray), (⟨#[48, 49]⟩ : ByteArray), (⟨#[112, 97, 114, 116]⟩ : ByteArray), (([4, 38] : List Int))⟩ : S96), (⟨(⟨#[48, 50, 50, 48]⟩ : ByteArray), (⟨#[48, 48]⟩ : ByteArray), (⟨#[102, 105, 110, 97, 108]⟩ : ByteArray), (([4, 38] : List Int))⟩ : S96), (⟨(⟨#[48, 50, 50, 48]⟩ : ByteArray), (⟨#[50, 48]⟩ : ByteArray), (⟨#[102, 114, 101, 101]⟩ : ByteArray), (([38] : List Int))⟩ : S96), (⟨(⟨#[48, 50, 48, 48]⟩ : ByteArray), (⟨#[52, 48]⟩ : ByteArray), (⟨#[109, 111, 118, 101]⟩ : ByteArray), (([38, 103] : List Int))⟩ : S96), (⟨(⟨#[48, 49, 48, 48]⟩ : ByteArray), (⟨#[51, 49]⟩ : ByteArray), (⟨#[97, 115, 107]⟩ : ByteArray), ([] : List Int)⟩ : S96), (⟨(⟨#[48, 50, 48, 48]⟩ : ByteArray), (⟨#[57, 48]⟩ : ByteArray), (⟨#[115, 119, 101, 101, 112]⟩ : ByteArray), ([] : List Int)⟩ : S96)] : List (S96)))) = some r := by first | (rw [hy244]; with_reducible exact H) | (have H2_ := (Option.bind_some _ _).symm.trans H; rw [hy244]; with_reducible exact H2_) | (have H2_ := (Option.bind_some _ _).symm.trans H; with_reducible exact H2_) | with_reducible exact H | (rw [hy244]; exact H) | exact H
 have Ny244 := Aside0.mk hy244
 clear hy244
 obtain ⟨y247, hy247⟩ : ∃ y_ : List Int, y_ = (([4, 38] : List Int)) := ⟨_, rfl⟩
 replace H : (some (([(⟨(⟨#[48, 49, 48, 48]⟩ : ByteArray), (⟨#[48, 48]⟩ : ByteArray), (⟨#[97, 117, 116, 104]⟩ : ByteArray), y241⟩ : S96), (⟨(⟨#[48, 49, 48, 48]⟩ : ByteArray), (⟨#[48, 50]⟩ : ByteArray), (⟨#[109, 111, 114, 101]⟩ : ByteArray), y244⟩ : S96), (⟨(⟨#[48, 50, 50, 48]⟩ : ByteArray), (⟨#[48, 49]⟩ : ByteArray), (⟨#[112, 97, 114, 116]⟩ : ByteArray), y247⟩ : S96), (⟨(⟨#[48, 50, 50, 48]⟩ : ByteArray), (⟨#[48, 48]⟩ : ByteArray), (⟨#[102, 105, 110, 97, 108]⟩ : ByteArray), (([4, 38] : List Int))⟩ : S96), (⟨(⟨#[48, 50, 50, 48]⟩ : ByteArray), (⟨#[50, 48]⟩ : ByteArray), (⟨#[102, 114, 101, 101]⟩ : ByteArray), (([38] : List Int))⟩ : S96), (⟨(⟨#[48, 50, 48, 48]⟩ : ByteArray), (⟨#[52, 48]⟩ : ByteArray), (⟨#[109, 111, 118, 101]⟩ : ByteArray), (([38, 103] : List Int))⟩ : S96), (⟨(⟨#[48, 49, 48, 48]⟩ : ByteArray), (⟨#[51, 49]⟩ : ByteArray), (⟨#[97, 115, 107]⟩ : ByteArray), ([] : List Int)⟩ : S96), (⟨(⟨#[48, 50, 48, 48]⟩ : ByteArray), (⟨#[57, 48]⟩ : ByteArray), (⟨#[115, 119, 101, 101, 112]⟩ : ByteArray), ([] : List Int)⟩ : S96)] : List (S96)))) = some r := by first | (rw [hy247]; with_reducible exact H) | (have H2_ := (Option.bind_some _ _).symm.trans H; rw [hy247]; with_reducible exact H2_) | (have H2_ := (Option.bind_some _ _).symm.trans H; with_reducible exact H2_) | with_reducible exact H | (rw [hy247]; exact H) | exact H
 have Ny247 := Aside0.mk hy247
 clear hy247
 obtain ⟨y250, hy250⟩ : ∃ y_ : List Int, y_ = (([4, 38] : List Int)) := ⟨_, rfl⟩
 replace H : (some (([(⟨(⟨#[48, 49, 48, 48]⟩ : ByteArray), (⟨#[48, 48]⟩ : ByteArray), (⟨#[97, 117, 116, 104]⟩ : ByteArray), y241⟩ : S96), (⟨(⟨#[48, 49, 48, 48]⟩ : ByteArray), (⟨#[48, 50]⟩ : ByteArray), (⟨#[109, 111, 114, 101]⟩ : ByteArray), y244⟩ : S96), (⟨(⟨#[48, 50, 50, 48]⟩ : ByteArray), (⟨#[48, 49]⟩ : ByteArray), (⟨#[112, 97, 114, 116]⟩ : ByteArray), y247⟩ : S96), (⟨(⟨#[48, 50, 50, 48]⟩ : ByteArray), (⟨#[48, 48]⟩ : ByteArray), (⟨#[102, 105, 110, 97, 108]⟩ : ByteArray), y250⟩ : S96), (⟨(⟨#[48, 50, 50, 48]⟩ : ByteArray), (⟨#[50, 48]⟩ : ByteArray), (⟨#[102, 114, 101, 101]⟩ : ByteArray), (([38] : List Int))⟩ : S96), (⟨(⟨#[48, 50, 48, 48]⟩ : ByteArray), (⟨#[52, 48]⟩ : ByteArray), (⟨#[109, 111, 118, 101]⟩ : ByteArray), (([38, 103] : List Int))⟩ : S96), (⟨(⟨#[48, 49, 48, 48]⟩ : ByteArray), (⟨#[51, 49]⟩ : ByteArray), (⟨#[97, 115, 107]⟩ : ByteArray), ([] : List Int)⟩ : S96), (⟨(⟨#[48, 50, 48, 48]⟩ : ByteArray), (⟨#[57, 48]⟩ : ByteArray), (⟨#[115, 119, 101, 101, 112]⟩ : ByteArray), ([] : List Int)⟩ : S96)] : List (S96)))) = some r := by first | (rw [hy250]; with_reducible exact H) | (have H2_ := (Option.bind_some _ _).symm.trans H; rw [hy250]; with_reducible exact H2_) | (have H2_ := (Option.bind_some _ _).symm.trans H; with_reducible exact H2_) | with_reducible exact H | (rw [hy250]; exact H) | exact H
 have Ny250 := Aside0.mk hy250
 clear hy250
 obtain ⟨y253, hy253⟩ : ∃ y_ : List Int, y_ = (([38] : List Int)) := ⟨_, rfl⟩
 replace H : (some (([(⟨(⟨#[48, 49, 48, 48]⟩ : ByteArray), (⟨#[48, 48]⟩ : ByteArray), (⟨#[97, 117, 116, 104]⟩ : ByteArray), y241⟩ : S96), (⟨(⟨#[48, 49, 48, 48]⟩ : ByteArray), (⟨#[48, 50]⟩ : ByteArray), (⟨#[109, 111, 114, 101]⟩ : ByteArray), y244⟩ : S96), (⟨(⟨#[48, 50, 50, 48]⟩ : ByteArray), (⟨#[48, 49]⟩ : ByteArray), (⟨#[112, 97, 114, 116]⟩ : ByteArray), y247⟩ : S96), (⟨(⟨#[48, 50, 50, 48]⟩ : ByteArray), (⟨#[48, 48]⟩ : ByteArray), (⟨#[102, 105, 110, 97, 108]⟩ : ByteArray), y250⟩ : S96), (⟨(⟨#[48, 50, 50, 48]⟩ : ByteArray), (⟨#[50, 48]⟩ : ByteArray), (⟨#[102, 114, 101, 101]⟩ : ByteArray), y253⟩ : S96), (⟨(⟨#[48, 50, 48, 48]⟩ : ByteArray), (⟨#[52, 48]⟩ : ByteArray), (⟨#[109, 111, 118, 101]⟩ : ByteArray), (([38, 103] : List Int))⟩ : S96), (⟨(⟨#[48, 49, 48, 48]⟩ : ByteArray), (⟨#[51, 49]⟩ : ByteArray), (⟨#[97, 115, 107]⟩ : ByteArray), ([] : List Int)⟩ : S96), (⟨(⟨#[48, 50, 48, 48]⟩ : ByteArray), (⟨#[57, 48]⟩ : ByteArray), (⟨#[115, 119, 101, 101, 112]⟩ : ByteArray), ([] : List Int)⟩ : S96)] : List (S96)))) = some r := by first | (rw [hy253]; with_reducible exact H) | (have H2_ := (Option.bind_some _ _).symm.trans H; rw [hy253]; with_reducible exact H2_) | (have H2_ := (Option.bind_some _ _).symm.trans H; with_reducible exact H2_) | with_reducible exact H | (rw [hy253]; exact H) | exact H
 have Ny253 := Aside0.mk hy253
 clear hy253
 obtain ⟨y256, hy256⟩ : ∃ y_ : List Int, y_ = (([38, 103] : List Int)) := ⟨_, rfl⟩
 replace H : (some (([(⟨(⟨#[48, 49, 48, 48]⟩ : ByteArray), (⟨#[48, 48]⟩ : ByteArray), (⟨#[97, 117, 116, 104]⟩ : ByteArray), y241⟩ : S96), (⟨(⟨#[48, 49, 48, 48]⟩ : ByteArray), (⟨#[48, 50]⟩ : ByteArray), (⟨#[109, 111, 114, 101]⟩ : ByteArray), y244⟩ : S96), (⟨(⟨#[48, 50, 50, 48]⟩ : ByteArray), (⟨#[48, 49]⟩ : ByteArray), (⟨#[112, 97, 114, 116]⟩ : ByteArray), y247⟩ : S96), (⟨(⟨#[48, 50, 50, 48]⟩ : ByteArray), (⟨#[48, 48]⟩ : ByteArray), (⟨#[102, 105, 110, 97, 108]⟩ : ByteArray), y250⟩ : S96), (⟨(⟨#[48, 50, 50, 48]⟩ : ByteArray), (⟨#[50, 48]⟩ : ByteArray), (⟨#[102, 114, 101, 101]⟩ : ByteArray), y253⟩ : S96), (⟨(⟨#[48, 50, 48, 48]⟩ : ByteArray), (⟨#[52, 48]⟩ : ByteArray), (⟨#[109, 111, 118, 101]⟩ : ByteArray), y256⟩ : S96), (⟨(⟨#[48, 49, 48, 48]⟩ : ByteArray), (⟨#[51, 49]⟩ : ByteArray), (⟨#[97, 115, 107]⟩ : ByteArray), ([] : List Int)⟩ : S96), (⟨(⟨#[48, 50, 48, 48]⟩ : ByteArray), (⟨#[57, 48]⟩ : ByteArray), (⟨#[115, 119, 101, 101, 112]⟩ : ByteArray), ([] : List Int)⟩ : S96)] : List (S96)))) = some r := by first | (rw [hy256]; with_reducible exact H) | (have H2_ := (Option.bind_some _ _).symm.trans H; rw [hy256]; with_reducible exact H2_) | (have H2_ := (Option.bind_some _ _).symm.trans H; with_reducible exact H2_) | with_reducible exact H | (rw [hy256]; exact H) | exact H
 have Ny256 := Aside0.mk hy256
 clear hy256
 obtain ⟨y259, hy259⟩ : ∃ y_ : List (S96), y_ = (([(⟨(⟨#[48, 49, 48, 48]⟩ : ByteArray), (⟨#[48, 48]⟩ : ByteArray), (⟨#[97, 117, 116, 104]⟩ : ByteArray), y241⟩ : S96), (⟨(⟨#[48, 49, 48, 48]⟩ : ByteArray), (⟨#[48, 50]⟩ : ByteArray), (⟨#[109, 111, 114, 101]⟩ : ByteArray), y244⟩ : S96), (⟨(⟨#[48, 50, 50, 48]⟩ : ByteArray), (⟨#[48, 49]⟩ : ByteArray), (⟨#[112, 97, 114, 116]⟩ : ByteArray), y247⟩ : S96), (⟨(⟨#[48, 50, 50, 48]⟩ : ByteArray), (⟨#[48, 48]⟩ : ByteArray), (⟨#[102, 105, 110, 97, 108]⟩ : ByteArray), y250⟩ : S96), (⟨(⟨#[48, 50, 50, 48]⟩ : ByteArray), (⟨#[50, 48]⟩ : ByteArray), (⟨#[102, 114, 101, 101]⟩ : ByteArray), y253⟩ : S96), (⟨(⟨#[48, 50, 48, 48]⟩ : ByteArray), (⟨#[52, 48]⟩ : ByteArray), (⟨#[109, 111, 118, 101]⟩ : ByteArray), y256⟩ : S96), (⟨(⟨#[48, 49, 48, 48]⟩ : ByteArray), (⟨#[51, 49]⟩ : ByteArray), (⟨#[97, 115, 107]⟩ : ByteArray), ([] : List Int)⟩ : S96), (⟨(⟨#[48, 50, 48, 48]⟩ : ByteArray), (⟨#[57, 48]⟩ : ByteArray), (⟨#[115, 119, 101, 101, 112]⟩ : ByteArray), ([] : List Int)⟩ : S96)] : List (S96))) := ⟨_, rfl⟩
 replace H : (some y259) = some r := by first | (rw [hy259]; with_reducible exact H) | (have H2_ := (Option.bind_some _ _).symm.trans H; rw [hy259]; with_reducible exact H2_) | (have H2_ := (Option.bind_some _ _).symm.trans H; with_reducible exact H2_) | with_reducible exact H | (rw [hy259]; exact H) | exact H
 have Ny259 := Aside0.mk hy259
 clear hy259
 obtain rfl := Option.some.inj H
 go_enter Tryd.func116, Tryd.ntmps116
 go_wp2_with (first | ((with_reducible refine gate_dst (N := 1) rfl ?_); refine Kd.R_lit (Kd.int .i64) _ 3 ?hg (N := 1) ?hd (xs := ([4, 14, 38] : List Int)) (inner := [.int .i64 4, .int .i64 14, .int .i64 38]) (ok := fun _ => True) (okp := fun _ => True) ?hr ?hp (fun _ hk => hk) trivial (Below.refl _ _) (Nat.le_refl _) (by simp) ?_; (case hd => rfl); (case hg => rfl); (case hr => first | (go_simp; done) | (go_simp; rfl)); (case hp => exact (Reps.one (show Kd.M (Kd.int .i64) _ _ _ 4 [.int .i64 4] from rfl) (Reps.one (show Kd.M (Kd.int .i64) _ _ _ 14 [.int .i64 14] from rfl) (Reps.one (show Kd.M (Kd.int .i64) _ _ _ 38 [.int .i64 38] from rfl) (Reps.none _ _))))); intro v242 w1 ho2 hb hg_ hnew_; clear hg_ hnew_; (first | rw [← Ny241.out] at ho2 | (simp only [Int.reduceToNat] at ho2; rw [← Ny241.out] at ho2)); have HO243 := Aside0.mk (Kd.R_lower (Kd.R_newM (M := fun k_ => (w.heap.size ≤ k_)) ho2 (below_size bl_) (fun k_ h_ => h_)) (below_size bl_)); replace HB := Aside0.mk (below_step bl_ hb); clear hb ho2; obtain ⟨Ao3, co3, eo3⟩ := Kd.R_slice HO243.out; subst eo3) | ((with_reducible refine gate_dst (N := 3) rfl ?_); refine Kd.R_lit (Kd.int .i64) _ 3 ?hg (N := 3) ?hd (xs := ([4, 38] : List Int)) (inner := [.int .i64 4, .int .i64 38]) (ok := fun _ => True) (okp := fun _ => True) ?hr ?hp (fun _ hk => hk) trivial (Below.refl _ _) (Nat.le_refl _) (by simp) ?_; (case hd => rfl); (case hg => rfl); (case hr => first | (go_simp; done) | (go_simp; rfl)); (case hp => exact (Reps.one (show Kd.M (Kd.int .i64) _ _ _ 4 [.int .i64 4] from rfl) (Reps.one (show Kd.M (Kd.int .i64) _ _ _ 38 [.int .i64 38] from rfl) (Reps.none _ _)))); intro v245 w4 ho5 hb hg_ hnew_; clear hg_ hnew_; (first | rw [← Ny244.out] at ho5 | (simp only [Int.reduceToNat] at ho5; rw [← Ny244.out] at ho5)); have HO246 := Aside0.mk (Kd.R_lower (Kd.R_new' (Kd.R_newM (M := fun k_ => (w.heap.size ≤ k_)) ho5 (below_size bl_) (fun k_ h_ => h_)) (Kd.R_lt (ra_ HO243))) (below_size bl_)); replace HO243 := Aside0.mk (Kd.R_elder' (ra_ HO243) (Kd.R_base ho5) hb); replace HB := Aside0.mk (below_step bl_ hb); clear hb ho5; obtain ⟨Ao6, co6, eo6⟩ := Kd.R_slice HO246.out; subst eo6) | ((with_reducible refine gate_dst (N := 5) rfl ?_); refine Kd.R_lit (Kd.int .i64) _ 3 ?hg (N := 5) ?hd (xs := ([4, 38] : List Int)) (inner := [.int .i64 4, .int .i64 38]) (ok := fun _ => True) (okp := fun _ => True) ?hr ?hp (fun _ hk => hk) trivial (Below.refl _ _) (Nat.le_refl _) (by simp) ?_; (case hd => rfl); (case hg => rfl); (case hr => first | (go_simp; done) | (go_simp; rfl)); (case hp => exact (Reps.one (show Kd.M (Kd.int .i64) _ _ _ 4 [.int .i64 4] from rfl) (Reps.one (show Kd.M (Kd.int .i64) _ _ _ 38 [.int .i64 38] from rfl) (Reps.none _ _)))); intro v248 w7 ho8 hb hg_ hnew_; clear hg_ hnew_; (first | rw [← Ny247.out] at ho8 | (simp only [Int.reduceToNat] at ho8; rw [← Ny247.out] at ho8)); have HO249 := Aside0.mk (Kd.R_lower (Kd.R_new' (Kd.R_new' (Kd.R_newM (M := fun k_ => (w.heap.size ≤ k_)) ho8 (below_size bl_) (fun k_ h_ => h_)) (Kd.R_lt (ra_ HO243))) (Kd.R_lt (ra_ HO246))) (below_size bl_)); replace HO243 := Aside0.mk (Kd.R_elder' (ra_ HO243) (Kd.R_base ho8) hb); replace HO246 := Aside0.mk (Kd.R_elder' (ra_ HO246) (Kd.R_base ho8) hb); replace HB := Aside0.mk (below_step bl_ hb); clear hb ho8; obtain ⟨Ao9, co9, eo9⟩ := Kd.R_slice HO249.out; subst eo9) | ((with_reducible refine gate_dst (N := 7) rfl ?_); refine Kd.R_lit (Kd.int .i64) _ 3 ?hg (N := 7) ?hd (xs := ([4, 38] : List Int)) (inner := [.int .i64 4, .int .i64 38]) (ok := fun _ => True) (okp := fun _ => True) ?hr ?hp (fun _ hk => hk) trivial (Below.refl _ _) (Nat.le_refl _) (by simp) ?_; (case hd => rfl); (case hg => rfl); (case hr => first | (go_simp; done) | (go_simp; rfl)); (case hp => exact (Reps.one (show Kd.M (Kd.int .i64) _ _ _ 4 [.int .i64 4] from rfl) (Reps.one (show Kd.M (Kd.int .i64) _ _ _ 38 [.int .i64 38] from rfl) (Reps.none _ _)))); intro v251 w10 ho11 hb hg_ hnew_; clear hg_ hnew_; (first | rw [← Ny250.out] at ho11 | (simp only [Int.reduceToNat] at ho11; rw [← Ny250.out] at ho11)); have HO252 := Aside0.mk (Kd.R_lower (Kd.R_new' (Kd.R_new' (Kd.R_new' (Kd.R_newM (M := fun k_ => (w.heap.size ≤ k_)) ho11 (below_size bl_) (fun k_ h_ => h_)) (Kd.R_lt (ra_ HO243))) (Kd.R_lt (ra_ HO246))) (Kd.R_lt (ra_ HO249))) (below_size bl_)); replace HO243 := Aside0.mk (Kd.R_elder' (ra_ HO243) (Kd.R_base ho11) hb); replace HO246 := Aside0.mk (Kd.R_elder' (ra_ HO246) (Kd.R_base ho11) hb); replace HO249 := Aside0.mk (Kd.R_elder' (ra_ HO249) (Kd.R_base ho11) hb); replace HB := Aside0.mk (below_step bl_ hb); clear hb ho11; obtain ⟨Ao12, co12, eo12⟩ := Kd.R_slice HO252.out; subst eo12) | ((with_reducible refine gate_dst (N := 9) rfl ?_); refine Kd.R_lit (Kd.int .i64) _ 3 ?hg (N := 9) ?hd (xs := ([38] : List Int)) (inner := [.int .i64 38]) (ok := fun _ => True) (okp := fun _ => True) ?hr ?hp (fun _ hk => hk) trivial (Below.refl _ _) (Nat.le_refl _) (by simp) ?_; (case hd => rfl); (case hg => rfl); (case hr => first | (go_simp; done) | (go_simp; rfl)); (case hp => exact (Reps.one (show Kd.M (Kd.int .i64) _ _ _ 38 [.int .i64 38] from rfl) (Reps.none _ _))); intro v254 w13 ho14 hb hg_ hnew_; clear hg_ hnew_; (first | rw [← Ny253.out] at ho14 | (simp only [Int.reduceToNat] at ho14; rw [← Ny253.out] at ho14)); have HO255 := Aside0.mk (Kd.R_lower (Kd.R_new' (Kd.R_new' (Kd.R_new' (Kd.R_new' (Kd.R_newM (M := fun k_ => (w.heap.size ≤ k_)) ho14 (below_size bl_) (fun k_ h_ => h_)) (Kd.R_lt (ra_ HO243))) (Kd.R_lt (ra_ HO246))) (Kd.R_lt (ra_ HO249))) (Kd.R_lt (ra_ HO252))) (below_size bl_)); replace HO243 := Aside0.mk (Kd.R_elder' (ra_ HO243) (Kd.R_base ho14) hb); replace HO246 := Aside0.mk (Kd.R_elder' (ra_ HO246) (Kd.R_base ho14) hb); replace HO249 := Aside0.mk (Kd.R_elder' (ra_ HO249) (Kd.R_base ho14) hb); replace HO252 := Aside0.mk (Kd.R_elder' (ra_ HO252) (Kd.R_base ho14) hb); replace HB := Aside0.mk (below_step bl_ hb); clear hb ho14; obtain ⟨Ao15, co15, eo15⟩ := Kd.R_slice HO255.out; subst eo15) | ((with_reducible refine gate_dst (N := 11) rfl ?_); refine Kd.R_lit (Kd.int .i64) _ 3 ?hg (N := 11) ?hd (xs := ([38, 103] : List Int)) (inner := [.int .i64 38, .int .i64 103]) (ok := fun _ => True) (okp := fun _ => True) ?hr ?hp (fun _ hk => hk) trivial (Below.refl _ _) (Nat.le_refl _) (by simp) ?_; (case hd => rfl); (case hg => rfl); (case hr => first | (go_simp; done) | (go_simp; rfl)); (case hp => exact (Reps.one (show Kd.M (Kd.int .i64) _ _ _ 38 [.int .i64 38] from rfl) (Reps.one (show Kd.M (Kd.int .i64) _ _ _ 103 [.int .i64 103] from rfl) (Reps.none _ _)))); intro v257 w16 ho17 hb hg_ hnew_; clear hg_ hnew_; (first | rw [← Ny256.out] at ho17 | (simp only [Int.reduceToNat] at ho17; rw [← Ny256.out] at ho17)); have HO258 := Aside0.mk (Kd.R_lower (Kd.R_new' (Kd.R_new' (Kd.R_new' (Kd.R_new' (Kd.R_new' (Kd.R_newM (M := fun k_ => (w.heap.size ≤ k_)) ho17 (below_size bl_) (fun k_ h_ => h_)) (Kd.R_lt (ra_ HO243))) (Kd.R_lt (ra_ HO246))) (Kd.R_lt (ra_ HO249))) (Kd.R_lt (ra_ HO252))) (Kd.R_lt (ra_ HO255))) (below_size bl_)); replace HO243 := Aside0.mk (Kd.R_elder' (ra_ HO243) (Kd.R_base ho17) hb); replace HO246 := Aside0.mk (Kd.R_elder' (ra_ HO246) (Kd.R_base ho17) hb); replace HO249 := Aside0.mk (Kd.R_elder' (ra_ HO249) (Kd.R_base ho17) hb); replace HO252 := Aside0.mk (Kd.R_elder' (ra_ HO252) (Kd.R_base ho17) hb); replace HO255 := Aside0.mk (Kd.R_elder' (ra_ HO255) (Kd.R_base ho17) hb); replace HB := Aside0.mk (below_step bl_ hb); clear hb ho17; obtain ⟨Ao18, co18, eo18⟩ := Kd.R_slice HO258.out; subst eo18) | ((with_reducible refine gate_dst (N := 15) rfl ?_); refine Kd.N_lit k96 _ 96 ?hg (N' := 15) ?hd (xs := ([(⟨(⟨#[48, 49, 48, 48]⟩ : ByteArray), (⟨#[48, 48]⟩ : ByteArray), (⟨#[97, 117, 116, 104]⟩ : ByteArray), y241⟩ : S96), (⟨(⟨#[48, 49, 48, 48]⟩ : ByteArray), (⟨#[48, 50]⟩ : ByteArray), (⟨#[109, 111, 114, 101]⟩ : ByteArray), y244⟩ : S96), (⟨(⟨#[48, 50, 50, 48]⟩ : ByteArray), (⟨#[48, 49]⟩ : ByteArray), (⟨#[112, 97, 114, 116]⟩ : ByteArray), y247⟩ : S96), (⟨(⟨#[48, 50, 50, 48]⟩ : ByteArray), (⟨#[48, 48]⟩ : ByteArray), (⟨#[102, 105, 110, 97, 108]⟩ : ByteArray), y250⟩ : S96), (⟨(⟨#[48, 50, 50, 48]⟩ : ByteArray), (⟨#[50, 48]⟩ : ByteArray), (⟨#[102, 114, 101, 101]⟩ : ByteArray), y253⟩ : S96), (⟨(⟨#[48, 50, 48, 48]⟩ : ByteArray), (⟨#[52, 48]⟩ : ByteArray), (⟨#[109, 111, 118, 101]⟩ : ByteArray), y256⟩ : S96), (⟨(⟨#[48, 49, 48, 48]⟩ : ByteArray), (⟨#[51, 49]⟩ : ByteArray), (⟨#[97, 115, 107]⟩ : ByteArray), ([] : List Int)⟩ : S96), (⟨(⟨#[48, 50, 48, 48]⟩ : ByteArray), (⟨#[57, 48]⟩ : ByteArray), (⟨#[115, 119, 101, 101, 112]⟩ : ByteArray), ([] : List Int)⟩ : S96)] : List (S96))) (inner := [.string (⟨#[48, 49, 48, 48]⟩ : ByteArray), .string (⟨#[48, 48]⟩ : ByteArray), .string (⟨#[97, 117, 116, 104]⟩ : ByteArray), .slice Ao3 y241.length co3, .string (⟨#[48, 49, 48, 48]⟩ : ByteArray), .string (⟨#[48, 50]⟩ : ByteArray), .string (⟨#[109, 111, 114, 101]⟩ : ByteArray), .slice Ao6 y244.length co6, .string (⟨#[48, 50, 50, 48]⟩ : ByteArray), .string (⟨#[48, 49]⟩ : ByteArray), .string (⟨#[112, 97, 114, 116]⟩ : ByteArray), .slice Ao9 y247.length co9, .string (⟨#[48, 50, 50, 48]⟩ : ByteArray), .string (⟨#[48, 48]⟩ : ByteArray), .string (⟨#[102, 105, 110, 97, 108]⟩ : ByteArray), .slice Ao12 y250.length co12, .string (⟨#[48, 50, 50, 48]⟩ : ByteArray), .string (⟨#[50, 48]⟩ : ByteArray), .string (⟨#[102, 114, 101, 101]⟩ : ByteArray), .slice Ao15 y253.length co15, .string (⟨#[48, 50, 48, 48]⟩ : ByteArray), .string (⟨#[52, 48]⟩ : ByteArray), .string (⟨#[109, 111, 118, 101]⟩ : ByteArray), .slice Ao18 y256.length co18, .string (⟨#[48, 49, 48, 48]⟩ : ByteArray), .string (⟨#[51, 49]⟩ : ByteArray), .string (⟨#[97, 115, 107]⟩ : ByteArray), .slice none 0 0, .string (⟨#[48, 50, 48, 48]⟩ : ByteArray), .string (⟨#[57, 48]⟩ : ByteArray), .string (⟨#[115, 119, 101, 101, 112]⟩ : ByteArray), .slice none 0 0]) (ok := (fun k_ => (w.heap.size ≤ k_))) (okp := (fun k_ => (w.heap.size ≤ k_))) ?hr ?hp (fun _ hk => hk) ((show ∀ k_, w16.heap.size ≤ k_ → (fun k_ => (w.heap.size ≤ k_)) k_ from fun k_ hk => (Nat.le_trans (below_size bl_) hk)) _ (Nat.le_refl _)) (Below.refl _ _) (Nat.le_refl _) (by simp) ?_; (case hd => rfl); (case hg => rfl); (case hr => first | (go_simp; done) | (go_simp; rfl)); (case hp => exact (Reps.c4 (show Kd.FK k96 _ _ (⟨(⟨#[48, 49, 48, 48]⟩ : ByteArray), (⟨#[48, 48]⟩ : ByteArray), (⟨#[97, 117, 116, 104]⟩ : ByteArray), y241⟩ : S96) [.string (⟨#[48, 49, 48, 48]⟩ : ByteArray), .string (⟨#[48, 48]⟩ : ByteArray), .string (⟨#[97, 117, 116, 104]⟩ : ByteArray), .slice Ao3 y241.length co3] from (k96_mkF _ _ (⟨(⟨#[48, 49, 48, 48]⟩ : ByteArray), (⟨#[48, 48]⟩ : ByteArray), (⟨#[97, 117, 116, 104]⟩ : ByteArray), y241⟩ : S96) (Kd.R_reads' (Kd.R_mono (ok' := (fun k_ => (w.heap.size ≤ k_))) (HO243.out) (fun k_ hk => hk.1.1.1.1.1.1))).2.1 (Kd.R_F (Kd.R_mono (ok' := (fun k_ => (w.heap.size ≤ k_))) (HO243.out) (fun k_ hk => hk.1.1.1.1.1.1))))) (Reps.c4 (show Kd.FK k96 _ _ (⟨(⟨#[48, 49, 48, 48]⟩ : ByteArray), (⟨#[48, 50]⟩ : ByteArray), (⟨#[109, 111, 114, 101]⟩ : ByteArray), y244⟩ : S96) [.string (⟨#[48, 49, 48, 48]⟩ : ByteArray), .string (⟨#[48, 50]⟩ : ByteArray), .string (⟨#[109, 111, 114, 101]⟩ : ByteArray), .slice Ao6 y244.length co6] from (k96_mkF _ _ (⟨(⟨#[48, 49, 48, 48]⟩ : ByteArray), (⟨#[48, 50]⟩ : ByteArray), (⟨#[109, 111, 114, 101]⟩ : ByteArray), y244⟩ : S96) (Kd.R_reads' (Kd.R_mono (ok' := (fun k_ => (w.heap.size ≤ k_))) (HO246.out) (fun k_ hk => hk.1.1.1.1.1.1))).2.1 (Kd.R_F (Kd.R_mono (ok' := (fun k_ => (w.heap.size ≤ k_))) (HO246.out) (fun k_ hk => hk.1.1.1.1.1.1))))) (Reps.c4 (show Kd.FK k96 _ _ (⟨(⟨#[48, 50, 50, 48]⟩ : ByteArray), (⟨#[48, 49]⟩ : ByteArray), (⟨#[112, 97, 114, 116]⟩ : ByteArray), y247⟩ : S96) [.string (⟨#[48, 50, 50, 48]⟩ : ByteArray), .string (⟨#[48, 49]⟩ : ByteArray), .string (⟨#[112, 97, 114, 116]⟩ : ByteArray), .slice Ao9 y247.length co9] from (k96_mkF _ _ (⟨(⟨#[48, 50, 50, 48]⟩ : ByteArray), (⟨#[48, 49]⟩ : ByteArray), (⟨#[112, 97, 114, 116]⟩ : ByteArray), y247⟩ : S96) (Kd.R_reads' (Kd.R_mono (ok' := (fun k_ => (w.heap.size ≤ k_))) (HO249.out) (fun k_ hk => hk.1.1.1.1.1.1))).2.1 (Kd.R_F (Kd.R_mono (ok' := (fun k_ => (w.heap.size ≤ k_))) (HO249.out) (fun k_ hk => hk.1.1.1.1.1.1))))) (Reps.c4 (show Kd.FK k96 _ _ (⟨(⟨#[48, 50, 50, 48]⟩ : ByteArray), (⟨#[48, 48]⟩ : ByteArray), (⟨#[102, 105, 110, 97, 108]⟩ : ByteArray), y250⟩ : S96) [.string (⟨#[48, 50, 50, 48]⟩ : ByteArray), .string (⟨#[48, 48]⟩ : ByteArray), .string (⟨#[102, 105, 110, 97, 108]⟩ : ByteArray), .slice Ao12 y250.length co12] from (k96_mkF _ _ (⟨(⟨#[48, 50, 50, 48]⟩ : ByteArray), (⟨#[48, 48]⟩ : ByteArray), (⟨#[102, 105, 110, 97, 108]⟩ : ByteArray), y250⟩ : S96) (Kd.R_reads' (Kd.R_mono (ok' := (fun k_ => (w.heap.size ≤ k_))) (HO252.out) (fun k_ hk => hk.1.1.1.1.1.1))).2.1 (Kd.R_F (Kd.R_mono (ok' := (fun k_ => (w.heap.size ≤ k_))) (HO252.out) (fun k_ hk => hk.1.1.1.1.1.1))))) (Reps.c4 (show Kd.FK k96 _ _ (⟨(⟨#[48, 50, 50, 48]⟩ : ByteArray), (⟨#[50, 48]⟩ : ByteArray), (⟨#[102, 114, 101, 101]⟩ : ByteArray), y253⟩ : S96) [.string (⟨#[48, 50, 50, 48]⟩ : ByteArray), .string (⟨#[50, 48]⟩ : ByteArray), .string (⟨#[102, 114, 101, 101]⟩ : ByteArray), .slice Ao15 y253.length co15] from (k96_mkF _ _ (⟨(⟨#[48, 50, 50, 48]⟩ : ByteArray), (⟨#[50, 48]⟩ : ByteArray), (⟨#[102, 114, 101, 101]⟩ : ByteArray), y253⟩ : S96) (Kd.R_reads' (Kd.R_mono (ok' := (fun k_ => (w.heap.size ≤ k_))) (HO255.out) (fun k_ hk => hk.1.1.1.1.1.1))).2.1 (Kd.R_F (Kd.R_mono (ok' := (fun k_ => (w.heap.size ≤ k_))) (HO255.out) (fun k_ hk => hk.1.1.1.1.1.1))))) (Reps.c4 (show Kd.FK k96 _ _ (⟨(⟨#[48, 50, 48, 48]⟩ : ByteArray), (⟨#[52, 48]⟩ : ByteArray), (⟨#[109, 111, 118, 101]⟩ : ByteArray), y256⟩ : S96) [.string (⟨#[48, 50, 48, 48]⟩ : ByteArray), .string (⟨#[52, 48]⟩ : ByteArray), .string (⟨#[109, 111, 118, 101]⟩ : ByteArray), .slice Ao18 y256.length co18] from (k96_mkF _ _ (⟨(⟨#[48, 50, 48, 48]⟩ : ByteArray), (⟨#[52, 48]⟩ : ByteArray), (⟨#[109, 111, 118, 101]⟩ : ByteArray), y256⟩ : S96) (Kd.R_reads' (Kd.R_mono (ok' := (fun k_ => (w.heap.size ≤ k_))) (HO258.out) (fun k_ hk => hk.1.1.1.1.1.1))).2.1 (Kd.R_F (Kd.R_mono (ok' := (fun k_ => (w.heap.size ≤ k_))) (HO258.out) (fun k_ hk => hk.1.1.1.1.1.1))))) (Reps.c4 (show Kd.FK k96 _ _ (⟨(⟨#[48, 49, 48, 48]⟩ : ByteArray), (⟨#[51, 49]⟩ : ByteArray), (⟨#[97, 115, 107]⟩ : ByteArray), ([] : List Int)⟩ : S96) [.string (⟨#[48, 49, 48, 48]⟩ : ByteArray), .string (⟨#[51, 49]⟩ : ByteArray), .string (⟨#[97, 115, 107]⟩ : ByteArray), .slice none 0 0] from (k96_mkF _ _ (⟨(⟨#[48, 49, 48, 48]⟩ : ByteArray), (⟨#[51, 49]⟩ : ByteArray), (⟨#[97, 115, 107]⟩ : ByteArray), ([] : List Int)⟩ : S96) (Nat.le_refl _) (Kd.F_nil _ _ _))) (Reps.c4 (show Kd.FK k96 _ _ (⟨(⟨#[48, 50, 48, 48]⟩ : ByteArray), (⟨#[57, 48]⟩ : ByteArray), (⟨#[115, 119, 101, 101, 112]⟩ : ByteArray), ([] : List Int)⟩ : S96) [.string (⟨#[48, 50, 48, 48]⟩ : ByteArray), .string (⟨#[57, 48]⟩ : ByteArray), .string (⟨#[115, 119, 101, 101, 112]⟩ : ByteArray), .slice none 0 0] from (k96_mkF _ _ (⟨(⟨#[48, 50, 48, 48]⟩ : ByteArray), (⟨#[57, 48]⟩ : ByteArray), (⟨#[115, 119, 101, 101, 112]⟩ : ByteArray), ([] : List Int)⟩ : S96) (Nat.le_refl _) (Kd.F_nil _ _ _))) (Reps.none _ _)))))))))); intro v260 w19 ho20 hb hg_ hnew_; clear hg_ hnew_; (first | rw [← Ny259.out] at ho20 | (simp only [Int.reduceToNat] at ho20; rw [← Ny259.out] at ho20)); have n0_ := Aside0.mk (Kd.N_lower ho20 (below_size bl_)); have n1_ := Aside0.mk (below_step bl_ hb); clear HB; clear HO243; clear HO246; clear HO249; clear HO252; clear HO255; clear HO258; have HO261 := n0_; have HB := n1_; clear n0_ n1_; clear hb ho20))
 go_ret
 exact ⟨_, by first | rfl | (simp [errW_none, errW_some] <;> rfl) | (simp [*, errW_none, errW_some] <;> rfl), by (with_reducible repeat (first | apply Kd.N_alloc | apply Kd.N_drewN | apply Kd.N_drew)); exact HO261.out, bl_⟩
/-! ### impl_opOf: function 76 -/
def impl_opOf.f (a0 : Int) : Option (ByteArray × ByteArray × ByteArray × List Int) := (impl_within.f a0 1 8).bind fun t263 => (if t263 = true then ((impl_opRows.f).bind fun t264 => (if 0 ≤ (wrap64 (a0 - 1)) then (if (wrap64 (a0 - 1)) < (t264.length : Int) then (some ((rd_T96 t264 (wrap64 (a0 - 1))).f0, (rd_T96 t264 (wrap64 (a0 - 1))).f1, (rd_T96 t264 (wrap64 (a0 - 1))).f2, (rd_T96 t264 (wrap64 (a0 - 1))).f3)) else (none)) else (none))) else (some ((⟨#[]⟩ : ByteArray), (⟨#[]⟩ : ByteArray), (⟨#[]⟩ : ByteArray), ([] : List Int))))
set_option maxHeartbeats 8000000 in
set_option maxRecDepth 100000 in
theorem impl_opOf.calls (a0 : Int) (r1 : ByteArray) (r2 : ByteArray) (r3 : ByteArray) (r4 : List Int) (w : World) (h : impl_opOf.f a0 = some (r1, r2, r3, r4)) :
  Calls Tryd.prog 76 #[.int .i64 a0] w fun e w' => ∃ v3_ : Value, e = .returned (.agg #[.string r1, .string r2, .string r3, v3_]) ∧ Kd.V (Kd.int .i64) 3 w' w.heap.size (fun k_ => (w.heap.size ≤ k_)) v3_ r4 ∧ Below w.heap.size w w' := by
 have hu96 := Tryd.underlying96
 have HB := Aside0.mk (Below.refl w.heap.size w)
 have H : ((impl_within.f a0 1 8).bind fun t263 => (if t263 = true then ((impl_opRows.f).bind fun t264 => (if 0 ≤ (wrap64 (a0 - 1)) then (if (wrap64 (a0 - 1)) < (t264.length : Int) then (some ((rd_T96 t264 (wrap64 (a0 - 1))).f0, (rd_T96 t264 (wrap64 (a0 - 1))).f1, (rd_T96 t264 (wrap64 (a0 - 1))).f2, (rd_T96 t264 (wrap64 (a0 - 1))).f3)) else (none)) else (none))) else (some ((⟨#[]⟩ : ByteArray), (⟨#[]⟩ : ByteArray), (⟨#[]⟩ : ByteArray), ([] : List Int))))) = some (r1, r2, r3, r4) := h
 clear h
 obtain ⟨t263, A2, H⟩ := ob_ H
 by_cases c3 : t263 = true
 ·subst c3
  replace H := ip_ H
  obtain ⟨t264, A4, H⟩ := ob_ H
  obtain ⟨ji5, hji5⟩ : ∃ j_ : Int, (wrap64 (a0 - 1)) = j_ := ⟨_, rfl⟩
  replace H : (if 0 ≤ (ji5) then (if (ji5) < (t264.length : Int) then (some ((rd_T96 t264 (ji5)).f0, (rd_T96 t264 (ji5)).f1, (rd_T96 t264 (ji5)).f2, (rd_T96 t264 (ji5)).f3)) else (none)) else (none)) = some (r1, r2, r3, r4) := by first | (rw [hji5] at H; exact H) | (simp only [hji5] at H ⊢; exact H)
  (try rw [hji5] at A2)
  (try rw [hji5] at A4)
  have hji5w : (IntKind.i64.wrap (a0 - 1)) = ji5 := (i64_w _).trans hji5
  by_cases c6 : 0 ≤ (ji5)
  ·rw [if_pos c6] at H
   have c6b0 : decide (0 ≤ (ji5)) = true := decide_eq_true c6
   clear c6
   by_cases c7 : (ji5) < (t264.length : Int)
   ·rw [if_pos c7] at H
    have c7b0 : decide ((ji5) < (t264.length : Int)) = true := decide_eq_true c7
    clear c7
    simp only [Option.some.injEq, Prod.mk.injEq] at H
    obtain ⟨rfl, rfl, rfl, rfl⟩ := H
    go_enter Tryd.func76, Tryd.ntmps76
    go_wp2_with (first | ((with_reducible refine gate_dst (N := 2) rfl ?_); refine be_ (N := 2) (cs := #[.string (⟨#[]⟩ : ByteArray), .string (⟨#[]⟩ : ByteArray), .string (⟨#[]⟩ : ByteArray), .slice none 0 0]) (t := 96) ?_; intro gb262 hg w8 hbox hb; have BK262 := Aside0.mk (hbox); have GW262 := gw_ (w := w) hg; have GE262 := gw_ (w := w) hg; replace HB := Aside0.mk (below_step bl_ hb); clear hb hbox hg) | ((with_reducible refine gate_callee (f := 60) rfl ?_); refine goesL_ (some 4) rfl rfl Tryd.func60 (by kernel_rfl) rfl #[.int .i64 a0, .int .i64 1, .int .i64 8] rfl gl_ ?_; (with_reducible refine (impl_within.calls a0 1 8 true _ A2.out).mono ?_); rintro e w' ⟨rfl, ⟨nd, rfl⟩⟩; refine ⟨_, rfl, ?_⟩; (try (rw [drewN_self w8]; generalize hq_ : World.drewN w8 _ = w8; have n0_ : Aside0 (w8.heap[gb262]? = some (.cells #[.string (⟨#[]⟩ : ByteArray), .string (⟨#[]⟩ : ByteArray), .string (⟨#[]⟩ : ByteArray), .slice none 0 0] 96 (0, 0))) := ⟨by rw [← hq_]; exact (by (with_reducible repeat (first | refine blk_drewN ?_ _ | refine blk_drew ?_ | refine blk_alloc ?_ _)); exact BK262.out)⟩; have n1_ : Aside0 (Below w.heap.size w w8) := ⟨by rw [← hq_]; exact bl_⟩; clear BK262 HB hq_; have BK262 := n0_; have HB := n1_; clear n0_ n1_))) | ((with_reducible refine gate_callee (f := 116) rfl ?_); refine goesL_ (some 7) rfl rfl Tryd.func116 (by kernel_rfl) rfl #[] rfl gl_ ?_; (with_reducible refine (impl_opRows.calls  t264 _ A4.out).mono ?_); rintro e w9 ⟨v265, rfl, ho0, hb⟩; refine ⟨_, rfl, ?_⟩; have HO266 := Aside0.mk (Kd.N_lower (Kd.N_mono (ok' := fun k_ => (w.heap.size ≤ k_) ∧ k_ ≠ gb262) ho0 (fun k_ hk_ => ⟨(Nat.le_trans (below_size bl_) hk_), (Kd.freshB (bk_ BK262) k_ hk_)⟩)) (below_size bl_)); replace BK262 := Aside0.mk (blk_below (bk_ BK262) hb); replace HB := Aside0.mk (below_step bl_ hb); (try clear hb); (try clear hb2); (try clear hk); (try clear hi); (try clear ho0); obtain ⟨Ao10, co10, eo10⟩ := Kd.N_slice HO266.out; subst eo10; have p267 : 0 ≤ ((ji5) : Int) := od_; have q267 : (ji5) < (t264.length : Int) := od_; obtain ⟨ad267, A267_3, c267_3, e267, hx267_0, hx267_1, hx267_2, hx267_3, hl267_3, hi267_3⟩ := at_T96 (Kd.N_reads' HO266.out).2.2 (ji5) p267 q267; cases e267; obtain ⟨ce267, hce267, hMe267, hcc267⟩ := Kd.N_get HO266.out z96 (ji5) p267 (by first | exact q267 | exact od_ | (have e_ := (Kd.N_reads' HO266.out).1; omega)); obtain ⟨ua267_3, uc267_3, rfl, ul267_3, ge267_3⟩ := k96_openF hMe267; have hv267_3 := hcc267 3 _ rfl; rw [add_field _ _ 3 (by omega)] at hv267_3; replace hv267_3 := Option.some.inj (hv267_3.symm.trans hx267_3); injection hv267_3 with hva_ hvn_ hvc_; rw [hva_] at ge267_3; rw [hvc_] at ul267_3; have HL267_3 := Aside0.mk (show Kd.V (Kd.int .i64) 3 _ w.heap.size _ _ ((rd_T96 t264 (ji5)).f3) from Kd.V_mk ul267_3 ge267_3); clear hva_ hvn_ hvc_ ge267_3 ul267_3; clear hcc267 hce267; have HR267_3 := Aside0.mk hi267_3; have HC267_3 := Aside0.mk hl267_3; clear hi267_3 hl267_3; replace p267 := eq_true p267; replace q267 := eq_true q267; obtain ⟨hcz11_0, hcz11_1, hcz11_2, hcz11_3, hfz11_0, hfz11_1, hfz11_2, hfz11_3⟩ := bx4_ BK262))
    refine bodyPost_ret (results_cell_row rfl _ _ gb262 96 #[.string ((rd_T96 t264 (ji5)).f0), .string ((rd_T96 t264 (ji5)).f1), .string ((rd_T96 t264 (ji5)).f2), .slice A267_3 ((rd_T96 t264 (ji5)).f3).length c267_3] (0, 0) _ rfl (by (with_reducible repeat (first | refine blk_drewN ?_ _ | refine blk_drew ?_ | refine blk_alloc ?_ _)); apply bq4_3_2_1_0_; (with_reducible repeat (first | refine blk_drewN ?_ _ | refine blk_drew ?_ | refine blk_alloc ?_ _)); exact BK262.out) Tryd.underlying96 rfl (by kernel_rfl)) rfl ?_
    exact ⟨_, by first | rfl | (simp [errW_none, errW_some] <;> rfl) | (simp only [← hji5]; first | rfl | (simp [errW_none, errW_some] <;> rfl)) | (simp [*, errW_none, errW_some] <;> rfl), by (with_reducible repeat (first | apply Kd.V_alloc | apply Kd.V_drewN | apply Kd.V_drew)); exact Kd.V_mono (Kd.V_far (p := ⟨gb262, 3, none⟩) (Kd.V_far (p := ⟨gb262, 2, none⟩) (Kd.V_far (p := ⟨gb262, 1, none⟩) (Kd.V_far (p := ⟨gb262, 0, none⟩) (Kd.V_mono HL267_3.out (fun k_ hk => (⟨hk, hk.1.2⟩ : _ ∧ k_ ≠ gb262))) (fun _ hk => hk.2) (.string ((rd_T96 t264 (ji5)).f0))) (fun _ hk => hk.2) (.string ((rd_T96 t264 (ji5)).f1))) (fun _ hk => hk.2) (.string ((rd_T96 t264 (ji5)).f2))) (fun _ hk => hk.2) (.slice A267_3 ((rd_T96 t264 (ji5)).f3).length c267_3)) (fun _ hk => hk.1.1.1), bl_⟩
   ·rw [if_neg c7] at H
    exact absurd H (by simp)
  ·rw [if_neg c6] at H
   exact absurd H (by simp)
 ·replace c3 := Bool.eq_false_iff.mpr c3
  subst c3
  replace H := in_ H
  simp only [Option.some.injEq, Prod.mk.injEq] at H
  obtain ⟨rfl, rfl, rfl, rfl⟩ := H
  go_enter Tryd.func76, Tryd.ntmps76
  go_wp2_with (first | ((with_reducible refine gate_dst (N := 2) rfl ?_); refine be_ (N := 2) (cs := #[.string (⟨#[]⟩ : ByteArray), .string (⟨#[]⟩ : ByteArray), .string (⟨#[]⟩ : ByteArray), .slice none 0 0]) (t := 96) ?_; intro gb262 hg w12 hbox hb; have BK262 := Aside0.mk (hbox); have GW262 := gw_ (w := w) hg; have GE262 := gw_ (w := w) hg; replace HB := Aside0.mk (below_step bl_ hb); clear hb hbox hg) | ((with_reducible refine gate_callee (f := 60) rfl ?_); refine goesL_ (some 4) rfl rfl Tryd.func60 (by kernel_rfl) rfl #[.int .i64 a0, .int .i64 1, .int .i64 8] rfl gl_ ?_; (with_reducible refine (impl_within.calls a0 1 8 false _ A2.out).mono ?_); rintro e w' ⟨rfl, ⟨nd, rfl⟩⟩; refine ⟨_, rfl, ?_⟩; (try (rw [drewN_self w12]; generalize hq_ : World.drewN w12 _ = w12; have n0_ : Aside0 (w12.heap[gb262]? = some (.cells #[.string (⟨#[]⟩ : ByteArray), .string (⟨#[]⟩ : ByteArray), .string (⟨#[]⟩ : ByteArray), .slice none 0 0] 96 (0, 0))) := ⟨by rw [← hq_]; exact (by (with_reducible repeat (first | refine blk_drewN ?_ _ | refine blk_drew ?_ | refine blk_alloc ?_ _)); exact BK262.out)⟩; have n1_ : Aside0 (Below w.heap.size w w12) := ⟨by rw [← hq_]; exact bl_⟩; clear BK262 HB hq_; have BK262 := n0_; have HB := n1_; clear n0_ n1_)); obtain ⟨hcz13_0, hcz13_1, hcz13_2, hcz13_3, hfz13_0, hfz13_1, hfz13_2, hfz13_3⟩ := bx4_ BK262))
  refine bodyPost_ret (results_cell_row rfl _ _ gb262 96 #[.string (⟨#[]⟩ : ByteArray), .string (⟨#[]⟩ : ByteArray), .string (⟨#[]⟩ : ByteArray), .slice none 0 0] (0, 0) _ rfl (by (with_reducible repeat (first | refine blk_drewN ?_ _ | refine blk_drew ?_ | refine blk_alloc ?_ _)); apply bq4_3_2_1_0_; (with_reducible repeat (first | refine blk_drewN ?_ _ | refine blk_drew ?_ | refine blk_alloc ?_ _)); exact BK262.out) Tryd.underlying96 rfl (by kernel_rfl)) rfl ?_
  exact ⟨_, by first | rfl | (simp [errW_none, errW_some] <;> rfl) | (simp [*, errW_none, errW_some] <;> rfl), (Kd.V_nil _ _ _ _ _), bl_⟩
/-! ### slices_Index_int_int: function 127 -/
def slices_Index_int_int.l0 : Nat → List Int → Int → Int → Int → Option (Int)
 | 0, _, _, _, _ => none
 | k + 1, x0, x1, x7, x8 => if x8 < x7 then (if 0 ≤ x8 then (if x8 < (x0.length : Int) then (if x1 = (rd x0 x8) then (some x8) else (slices_Index_int_int.l0 k x0 x1 x7 (wrap64 (x8 + 1)))) else (none)) else (none)) else (some (-1))
def slices_Index_int_int.f (k : Nat) (l0 : List Int) (a1 : Int) : Option (Int) := slices_Index_int_int.l0 k l0 a1 (l0.length : Int) 0
set_option maxHeartbeats 8000000 in
set_option maxRecDepth 100000 in
theorem slices_Index_int_int.calls (k : Nat) (A0 : Option Addr) (c0 : Nat) (l0 : List Int) (a1 : Int) (r : Int) (w : World) (hr0 : Kd.C (Kd.int .i64) w A0 l0.length l0) (hc0 : l0.length ≤ c0) (h : slices_Index_int_int.f k l0 a1 = some r) :
  Calls Tryd.prog 127 #[.slice A0 l0.length c0, .int .i64 a1] w fun e w' => e = .returned (.int .i64 r) ∧ Drawn0 w w' := by
 have HR0 := Aside0.mk hr0
 have HC0 := Aside0.mk hc0
 clear hr0 hc0
 have H : (slices_Index_int_int.l0 k l0 a1 (l0.length : Int) 0) = some r := h
 clear h
 have H' := Aside0.mk H
 clear H
 go_enter Tryd.func127, Tryd.ntmps127
 go_wp2
 go_loopg [8] k (fun kq v8 w' => ∃ (x8_1 : Int), v8 = .int .i64 x8_1 ∧ Aside0 (slices_Index_int_int.l0 kq l0 a1 (l0.length : Int) x8_1 = some r) ∧ Aside0 (kq ≤ k) ∧ Drawn0 w w')
 case atStart => exact ⟨(0), sp_, H', ⟨Nat.le_refl _⟩, by repeat (first | exact Drawn0.refl _ | apply Drawn0.step)⟩
 case round =>
  clear H'
  try clear c1
  try clear p2
  obtain ⟨x8_1, rfl, HA, HK1, ⟨m1, rfl⟩⟩ := hrel
  cases gk with
  | zero => exact absurd HA.out (by simp [slices_Index_int_int.l0])
  | succ k1 =>
   have H := HA.out
   clear HA
   simp only [slices_Index_int_int.l0] at H
   by_cases c3 : x8_1 < (l0.length : Int)
   ·rw [if_pos c3] at H
    have c3b0 : decide (x8_1 < (l0.length : Int)) = true := decide_eq_true c3
    clear c3
    by_cases c4 : 0 ≤ x8_1
    ·rw [if_pos c4] at H
     have c4b0 : decide (0 ≤ x8_1) = true := decide_eq_true c4
     clear c4
     by_cases c5 : x8_1 < (l0.length : Int)
     ·rw [if_pos c5] at H
      have c5b0 : decide (x8_1 < (l0.length : Int)) = true := decide_eq_true c5
      clear c5
      by_cases c6 : a1 = (rd l0 x8_1)
      ·rw [if_pos c6] at H
       have c6b0 : (a1 == (rd l0 x8_1)) = true := beq_iff_eq.mpr c6
       have c6b1 : (a1 != (rd l0 x8_1)) = false := bne_eq_false_iff_eq.mpr c6
       clear c6
       obtain rfl := Option.some.inj H
       have p268 : 0 ≤ (x8_1 : Int) := od_
       have q268 : x8_1 < (l0.length : Int) := od_
       obtain ⟨ad268, e268, hx268_0⟩ := Kd.at_int HR0.out x8_1 p268 q268
       cases e268
       replace p268 := eq_true p268
       replace q268 := eq_true q268
       go_wp2
       go_ret
       exact ⟨sp_, by repeat (first | exact Drawn0.refl _ | apply Drawn0.step)⟩
      ·rw [if_neg c6] at H
       have c6b0 : (a1 == (rd l0 x8_1)) = false := beq_eq_false_iff_ne.mpr c6
       have c6b1 : (a1 != (rd l0 x8_1)) = true := bne_iff_ne.mpr c6
       have H' := Aside0.mk H
       clear H
       have p268 : 0 ≤ (x8_1 : Int) := od_
       have q268 : x8_1 < (l0.length : Int) := od_
       obtain ⟨ad268, e268, hx268_0⟩ := Kd.at_int HR0.out x8_1 p268 q268
       cases e268
       replace p268 := eq_true p268
       replace q268 := eq_true q268
       go_wp2
       go_roundg k1
       case measure => have := HK1.out; omega
       case rel => exact ⟨(wrap64 (x8_1 + 1)), sp_, H', ⟨by have := HK1.out; omega⟩, by repeat (first | exact Drawn0.refl _ | apply Drawn0.step)⟩
     ·rw [if_neg c5] at H
      exact absurd H (by simp)
    ·rw [if_neg c4] at H
     exact absurd H (by simp)
   ·rw [if_neg c3] at H
    have c3b0 : decide (x8_1 < (l0.length : Int)) = false := decide_eq_false c3
    clear c3
    obtain rfl := Option.some.inj H
    go_wp2
    go_ret
    exact ⟨sp_, by repeat (first | exact Drawn0.refl _ | apply Drawn0.step)⟩
/-! ### slices_Contains_int_int: function 84 -/
def slices_Contains_int_int.f (k : Nat) (l0 : List Int) (a1 : Int) : Option (Bool) := (slices_Index_int_int.f k l0 a1).bind fun t269 => (some (decide (t269 ≥ 0)))
set_option maxHeartbeats 8000000 in
set_option maxRecDepth 100000 in
theorem slices_Contains_int_int.calls (k : Nat) (A0 : Option Addr) (c0 : Nat) (l0 : List Int) (a1 : Int) (r : Bool) (w : World) (hr0 : Kd.C (Kd.int .i64) w A0 l0.length l0) (hc0 : l0.length ≤ c0) (h : slices_Contains_int_int.f k l0 a1 = some r) :
  Calls Tryd.prog 84 #[.slice A0 l0.length c0, .int .i64 a1] w fun e w' => e = .returned (.bool r) ∧ Drawn0 w w' := by
 have HR0 := Aside0.mk hr0
 have HC0 := Aside0.mk hc0
 clear hr0 hc0
 have H : ((slices_Index_int_int.f k l0 a1).bind fun t269 => (some (decide (t269 ≥ 0)))) = some r := h
 clear h
 obtain ⟨t269, A3, H⟩ := ob_ H
 obtain rfl := Option.some.inj H
 go_enter Tryd.func84, Tryd.ntmps84
 go_wp2_with (first | ((with_reducible refine gate_callee (f := 127) rfl ?_); refine goesL_ (some 7) rfl rfl Tryd.func127 (by kernel_rfl) rfl #[.slice A0 l0.length c0, .int .i64 a1] rfl gl_ ?_; (with_reducible refine (slices_Index_int_int.calls k _ _ l0 a1 t269 _ ?side1 ?side2 A3.out).mono ?_); (case side1 => exact ca_ (HR0.out)); (case side2 => exact HC0.out); rintro e w' ⟨rfl, ⟨nd, rfl⟩⟩; refine ⟨_, rfl, ?_⟩))
 go_ret
 exact ⟨sp_, by repeat (first | exact Drawn0.refl _ | apply Drawn0.step)⟩
/-! ### impl_uses: function 40 -/
def impl_uses.f (k : Nat) (a0 : Int) (a1 : Int) : Option (Bool) := (impl_opOf.f a0).bind fun bt270 => ((slices_Contains_int_int.f k bt270.2.2.2 a1).bind fun t276 => (some t276))
set_option maxHeartbeats 8000000 in
set_option maxRecDepth 100000 in
theorem impl_uses.calls (k : Nat) (a0 : Int) (a1 : Int) (r : Bool) (w : World) (h : impl_uses.f k a0 a1 = some r) :
  Calls Tryd.prog 40 #[.int .i64 a0, .int .i64 a1] w fun e w' => e = .returned (.bool r) ∧ Below w.heap.size w w' := by
 have hfl96_3 : ∀ (x0_ x1_ x2_ x3_ : Value) (w : World), (Instr.field 96 (.agg #[x0_, x1_, x2_, x3_]) 3).run Tryd.prog w = .ok x3_ w := by intros; kernel_rfl
 have HB := Aside0.mk (Below.refl w.heap.size w)
 have H : ((impl_opOf.f a0).bind fun bt270 => ((slices_Contains_int_int.f k bt270.2.2.2 a1).bind fun t276 => (some t276))) = some r := h
 clear h
 obtain ⟨⟨t270, t271, t272, t273⟩, A3, H⟩ := ob_ H
 (try dsimp only at H)
 obtain ⟨t276, A4, H⟩ := ob_ H
 obtain rfl := Option.some.inj H
 go_enter Tryd.func40, Tryd.ntmps40
 go_wp2_with (first | ((with_reducible refine gate_callee (f := 76) rfl ?_); refine goesL_ (some 6) rfl rfl Tryd.func76 (by kernel_rfl) rfl #[.int .i64 a0] rfl gl_ ?_; (with_reducible refine (impl_opOf.calls a0 t270 t271 t272 t273 _ A3.out).mono ?_); rintro e w5 ⟨v274, rfl, ho0, hb⟩; refine ⟨_, rfl, ?_⟩; have HO275 := Aside0.mk (Kd.V_lower (Kd.V_mono (ok' := fun k_ => True) ho0 (fun k_ hk_ => trivial)) (below_size bl_)); replace HB := Aside0.mk (below_step bl_ hb); (try clear hb); (try clear hb2); (try clear hk); (try clear hi); (try clear ho0); obtain ⟨Ao6, co6, eo6⟩ := Kd.V_slice HO275.out; subst eo6) | ((with_reducible refine gate_callee (f := 84) rfl ?_); refine goesL_ (some 9) rfl rfl Tryd.func84 (by kernel_rfl) rfl #[.slice Ao6 t273.length co6, .int .i64 a1] rfl gl_ ?_; (with_reducible refine (slices_Contains_int_int.calls k _ _ t273 a1 t276 _ ?side1 ?side2 A4.out).mono ?_); (case side1 => exact ca_ ((Kd.V_reads' HO275.out).2.2)); (case side2 => exact (Kd.V_reads' HO275.out).2.1); rintro e w' ⟨rfl, ⟨nd, rfl⟩⟩; refine ⟨_, rfl, ?_⟩))
 go_ret
 exact ⟨sq_, bl_⟩
/-! ### impl_Digits: function 118 -/
def impl_Digits.l0 : Nat → ByteArray → Int → Int → Option (Bool)
 | 0, _, _, _ => none
 | k + 1, x0, x5, x6 => if x6 < x5 then (if 0 ≤ x6 then (if x6 < (x0.size : Int) then (if (bt x0 x6) < 48 then (some false) else (if (bt x0 x6) > 57 then (some false) else (impl_Digits.l0 k x0 x5 (wrap64 (x6 + 1))))) else (none)) else (none)) else (some (x0.toList != ([] : List UInt8)))
def impl_Digits.f (k : Nat) (a0 : ByteArray) : Option (Bool) := impl_Digits.l0 k a0 (a0.size : Int) 0
set_option maxHeartbeats 8000000 in
set_option maxRecDepth 100000 in
theorem impl_Digits.calls (k : Nat) (a0 : ByteArray) (r : Bool) (w : World) (h : impl_Digits.f k a0 = some r) :
  Calls Tryd.prog 118 #[.string a0] w fun e w' => e = .returned (.bool r) ∧ Drawn0 w w' := by
 have H : (impl_Digits.l0 k a0 (a0.size : Int) 0) = some r := h
 clear h
 have H' := Aside0.mk H
 clear H
 go_enter Tryd.func118, Tryd.ntmps118
 go_wp2
 go_loopg [6] k (fun kq v6 w' => ∃ (x6_1 : Int), v6 = .int .i64 x6_1 ∧ Aside0 (impl_Digits.l0 kq a0 (a0.size : Int) x6_1 = some r) ∧ Aside0 (kq ≤ k) ∧ Drawn0 w w')
 case atStart => exact ⟨(0), sp_, H', ⟨Nat.le_refl _⟩, by repeat (first | exact Drawn0.refl _ | apply Drawn0.step)⟩
 case round =>
  clear H'
  try clear c1
  obtain ⟨x6_1, rfl, HA, HK1, ⟨m1, rfl⟩⟩ := hrel
  cases gk with
  | zero => exact absurd HA.out (by simp [impl_Digits.l0])
  | succ k1 =>
   have H := HA.out
   clear HA
   simp only [impl_Digits.l0] at H
   by_cases c2 : x6_1 < (a0.size : Int)
   ·rw [if_pos c2] at H
    have c2b0 : decide (x6_1 < (a0.size : Int)) = true := decide_eq_true c2
    clear c2
    by_cases c3 : 0 ≤ x6_1
    ·rw [if_pos c3] at H
     have c3b0 : decide (0 ≤ x6_1) = true := decide_eq_true c3
     clear c3
     by_cases c4 : x6_1 < (a0.size : Int)
     ·rw [if_pos c4] at H
      have c4b0 : decide (x6_1 < (a0.size : Int)) = true := decide_eq_true c4
      clear c4
      by_cases c6 : (bt a0 x6_1) < 48
      ·rw [if_pos c6] at H
       have c6b0 : decide ((bt a0 x6_1) < 48) = true := decide_eq_true c6
       clear c6
       obtain rfl := Option.some.inj H
       have p5 : 0 ≤ (x6_1 : Int) := od_
       have q5 : x6_1 < (a0.size : Int) := od_
       have hx5 := bt_at a0 x6_1
       replace p5 := eq_true p5
       replace q5 := eq_true q5
       go_wp2
       go_ret
       exact ⟨sp_, by repeat (first | exact Drawn0.refl _ | apply Drawn0.step)⟩
      ·rw [if_neg c6] at H
       have c6b0 : decide ((bt a0 x6_1) < 48) = false := decide_eq_false c6
       clear c6
       by_cases c8 : (bt a0 x6_1) > 57
       ·rw [if_pos c8] at H
        have c8b0 : decide (57 < (bt a0 x6_1)) = true := decide_eq_true c8
        clear c8
        obtain rfl := Option.some.inj H
        have p5 : 0 ≤ (x6_1 : Int) := od_
        have q5 : x6_1 < (a0.size : Int) := od_
        have hx5 := bt_at a0 x6_1
        replace p5 := eq_true p5
        replace q5 := eq_true q5
        have p7 : 0 ≤ (x6_1 : Int) := od_
        have q7 : x6_1 < (a0.size : Int) := od_
        have hx7 := bt_at a0 x6_1
        replace p7 := eq_true p7
        replace q7 := eq_true q7
        go_wp2
        go_ret
        exact ⟨sp_, by repeat (first | exact Drawn0.refl _ | apply Drawn0.step)⟩
       ·rw [if_neg c8] at H
        have c8b0 : decide (57 < (bt a0 x6_1)) = false := decide_eq_false c8
        clear c8
        have H' := Aside0.mk H
        clear H
        have p5 : 0 ≤ (x6_1 : Int) := od_
        have q5 : x6_1 < (a0.size : Int) := od_
        have hx5 := bt_at a0 x6_1
        replace p5 := eq_true p5
        replace q5 := eq_true q5
        have p7 : 0 ≤ (x6_1 : Int) := od_
        have q7 : x6_1 < (a0.size : Int) := od_
        have hx7 := bt_at a0 x6_1
        replace p7 := eq_true p7
        replace q7 := eq_true q7
        go_wp2
        go_roundg k1
        case measure => have := HK1.out; omega
        case rel => exact ⟨(wrap64 (x6_1 + 1)), sp_, H', ⟨by have := HK1.out; omega⟩, by repeat (first | exact Drawn0.refl _ | apply Drawn0.step)⟩
     ·rw [if_neg c4] at H
      exact absurd H (by simp)
    ·rw [if_neg c3] at H
     exact absurd H (by simp)
   ·rw [if_neg c2] at H
    have c2b0 : decide (x6_1 < (a0.size : Int)) = false := decide_eq_false c2
    clear c2
    obtain rfl := Option.some.inj H
    go_wp2
    go_ret
    exact ⟨sp_, by repeat (first | exact Drawn0.refl _ | apply Drawn0.step)⟩
/-! ### impl_Luhn: function 151 -/
def impl_Luhn.l0 : Nat → ByteArray → Int → Bool → Int → Option (Int)
 | 0, _, _, _, _ => none
 | k + 1, x0, x3, x4, x5 => if x5 ≥ 0 then (if 0 ≤ x5 then (if x5 < (x0.size : Int) then (if x4 = true then (if ((((bt x0 x5) - 48) % 256) * 2) > 9 then (impl_Luhn.l0 k x0 (wrap64 (x3 + (((((bt x0 x5) - 48) % 256) * 2) - 9))) (!x4) (wrap64 (x5 - 1))) else (impl_Luhn.l0 k x0 (wrap64 (x3 + ((((bt x0 x5) - 48) % 256) * 2))) (!x4) (wrap64 (x5 - 1)))) else (impl_Luhn.l0 k x0 (wrap64 (x3 + (((bt x0 x5) - 48) % 256))) (!x4) (wrap64 (x5 - 1)))) else (none)) else (none)) else (some (Int.tmod (wrap64 (10 - (Int.tmod x3 10))) 10))
def impl_Luhn.f (k : Nat) (a0 : ByteArray) : Option (Int) := (impl_Digits.f k a0).bind fun t277 => (if t277 = true then (impl_Luhn.l0 k a0 0 true (wrap64 ((a0.size : Int) - 1))) else (some (-1)))
set_option maxHeartbeats 8000000 in
set_option maxRecDepth 100000 in
theorem impl_Luhn.calls (k : Nat) (a0 : ByteArray) (r : Int) (w : World) (h : impl_Luhn.f k a0 = some r) :
  Calls Tryd.prog 151 #[.string a0] w fun e w' => e = .returned (.int .i64 r) ∧ Drawn0 w w' := by
 have H : ((impl_Digits.f k a0).bind fun t277 => (if t277 = true then (impl_Luhn.l0 k a0 0 true (wrap64 ((a0.size : Int) - 1))) else (some (-1)))) = some r := h
 clear h
 obtain ⟨t277, A2, H⟩ := ob_ H
 by_cases c3 : t277 = true
 ·subst c3
  replace H := ip_ H
  have H' := Aside0.mk H
  clear H
  go_enter Tryd.func151, Tryd.ntmps151
  go_wp2_with (first | ((with_reducible refine gate_callee (f := 118) rfl ?_); refine goesL_ (some 8) rfl rfl Tryd.func118 (by kernel_rfl) rfl #[.string a0] rfl gl_ ?_; (with_reducible refine (impl_Digits.calls k a0 true _ A2.out).mono ?_); rintro e w' ⟨rfl, ⟨nd, rfl⟩⟩; refine ⟨_, rfl, ?_⟩))
  go_loopg [3, 4, 5] k (fun kq v3 v4 v5 w' => ∃ (x3_1 : Int) (x4_1 : Bool) (x5_1 : Int), v3 = .int .i64 x3_1 ∧ v4 = .bool x4_1 ∧ v5 = .int .i64 x5_1 ∧ Aside0 (impl_Luhn.l0 kq a0 x3_1 x4_1 x5_1 = some r) ∧ Aside0 (kq ≤ k) ∧ Drawn0 w w')
  case atStart => exact ⟨(0), (true), (wrap64 ((a0.size : Int) - 1)), sp_, sp_, sp_, H', ⟨Nat.le_refl _⟩, by repeat (first | exact Drawn0.refl _ | apply Drawn0.step)⟩
  case round =>
   clear H'
   try clear c1
   try clear p2
   try clear c3
   obtain ⟨x3_1, x4_1, x5_1, rfl, rfl, rfl, HA, HK1, ⟨m1, rfl⟩⟩ := hrel
   cases gk with
   | zero => exact absurd HA.out (by simp [impl_Luhn.l0])
   | succ k1 =>
    have H := HA.out
    clear HA
    simp only [impl_Luhn.l0] at H
    by_cases c4 : x5_1 ≥ 0
    ·rw [if_pos c4] at H
     have c4b0 : decide (0 ≤ x5_1) = true := decide_eq_true c4
     clear c4
     by_cases c5 : 0 ≤ x5_1
     ·rw [if_pos c5] at H
      have c5b0 : decide (0 ≤ x5_1) = true := decide_eq_true c5
      clear c5
      by_cases c6 : x5_1 < (a0.size : Int)
      ·rw [if_pos c6] at H
       have c6b0 : decide (x5_1 < (a0.size : Int)) = true := decide_eq_true c6
       clear c6
       by_cases c8 : x4_1 = true
       ·subst c8
        replace H := ip_ H
        by_cases c9 : ((((bt a0 x5_1) - 48) % 256) * 2) > 9
        ·rw [if_pos c9] at H
         have c9b0 : decide (9 < ((((bt a0 x5_1) - 48) % 256) * 2)) = true := decide_eq_true c9
         clear c9
         have H' := Aside0.mk H
         clear H
         have p7 : 0 ≤ (x5_1 : Int) := od_
         have q7 : x5_1 < (a0.size : Int) := od_
         have hx7 := bt_at a0 x5_1
         replace p7 := eq_true p7
         replace q7 := eq_true q7
         go_wp2
         go_roundg k1
         case measure => have := HK1.out; omega
         case rel => exact ⟨(wrap64 (x3_1 + (((((bt a0 x5_1) - 48) % 256) * 2) - 9))), (!true), (wrap64 (x5_1 - 1)), sp_, sp_, sp_, H', ⟨by have := HK1.out; omega⟩, by repeat (first | exact Drawn0.refl _ | apply Drawn0.step)⟩
        ·rw [if_neg c9] at H
         have c9b0 : decide (9 < ((((bt a0 x5_1) - 48) % 256) * 2)) = false := decide_eq_false c9
         clear c9
         have H' := Aside0.mk H
         clear H
         have p7 : 0 ≤ (x5_1 : Int) := od_
         have q7 : x5_1 < (a0.size : Int) := od_
         have hx7 := bt_at a0 x5_1
         replace p7 := eq_true p7
         replace q7 := eq_true q7
         go_wp2
         go_roundg k1
         case measure => have := HK1.out; omega
         case rel => exact ⟨(wrap64 (x3_1 + ((((bt a0 x5_1) - 48) % 256) * 2))), (!true), (wrap64 (x5_1 - 1)), sp_, sp_, sp_, H', ⟨by have := HK1.out; omega⟩, by repeat (first | exact Drawn0.refl _ | apply Drawn0.step)⟩
       ·replace c8 := Bool.eq_false_iff.mpr c8
        subst c8
        replace H := in_ H
        have H' := Aside0.mk H
        clear H
        have p7 : 0 ≤ (x5_1 : Int) := od_
        have q7 : x5_1 < (a0.size : Int) := od_
        have hx7 := bt_at a0 x5_1
        replace p7 := eq_true p7
        replace q7 := eq_true q7
        go_wp2
        go_roundg k1
        case measure => have := HK1.out; omega
        case rel => exact ⟨(wrap64 (x3_1 + (((bt a0 x5_1) - 48) % 256))), (!false), (wrap64 (x5_1 - 1)), sp_, sp_, sp_, H', ⟨by have := HK1.out; omega⟩, by repeat (first | exact Drawn0.refl _ | apply Drawn0.step)⟩
      ·rw [if_neg c6] at H
       exact absurd H (by simp)
     ·rw [if_neg c5] at H
      exact absurd H (by simp)
    ·rw [if_neg c4] at H
     have c4b0 : decide (0 ≤ x5_1) = false := decide_eq_false c4
     clear c4
     obtain rfl := Option.some.inj H
     go_wp2
     go_ret
     exact ⟨sp_, by repeat (first | exact Drawn0.refl _ | apply Drawn0.step)⟩
 ·replace c3 := Bool.eq_false_iff.mpr c3
  subst c3
  replace H := in_ H
  obtain rfl := Option.some.inj H
  go_enter Tryd.func151, Tryd.ntmps151
  go_wp2_with (first | ((with_reducible refine gate_callee (f := 118) rfl ?_); refine goesL_ (some 8) rfl rfl Tryd.func118 (by kernel_rfl) rfl #[.string a0] rfl gl_ ?_; (with_reducible refine (impl_Digits.calls k a0 false _ A2.out).mono ?_); rintro e w' ⟨rfl, ⟨nd, rfl⟩⟩; refine ⟨_, rfl, ?_⟩))
  go_ret
  exact ⟨sp_, by repeat (first | exact Drawn0.refl _ | apply Drawn0.step)⟩
/-! ### impl_LuhnOk: function 117 -/
def impl_LuhnOk.f (k : Nat) (a0 : ByteArray) : Option (Bool) := if (wrap64 ((a0.size : Int) - 1)) ≥ 1 then ((impl_Digits.f k a0).bind fun t278 => (if t278 = true then (if 0 ≤ (wrap64 ((a0.size : Int) - 1)) then (if (wrap64 ((a0.size : Int) - 1)) ≤ (a0.size : Int) then ((impl_Luhn.f k (a0.extract 0 ((wrap64 ((a0.size : Int) - 1)) : Int).toNat)).bind fun t279 => (if (wrap64 ((a0.size : Int) - 1)) < (a0.size : Int) then (some (t279 == (((bt a0 (wrap64 ((a0.size : Int) - 1))) - 48) % 256))) else (none))) else (none)) else (none)) else (some false))) else (some false)
set_option maxHeartbeats 8000000 in
set_option maxRecDepth 100000 in
theorem impl_LuhnOk.calls (k : Nat) (a0 : ByteArray) (r : Bool) (w : World) (h : impl_LuhnOk.f k a0 = some r) :
  Calls Tryd.prog 117 #[.string a0] w fun e w' => e = .returned (.bool r) ∧ Drawn0 w w' := by
 have H : (if (wrap64 ((a0.size : Int) - 1)) ≥ 1 then ((impl_Digits.f k a0).bind fun t278 => (if t278 = true then (if 0 ≤ (wrap64 ((a0.size : Int) - 1)) then (if (wrap64 ((a0.size : Int) - 1)) ≤ (a0.size : Int) then ((impl_Luhn.f k (a0.extract 0 ((wrap64 ((a0.size : Int) - 1)) : Int).toNat)).bind fun t279 => (if (wrap64 ((a0.size : Int) - 1)) < (a0.size : Int) then (some (t279 == (((bt a0 (wrap64 ((a0.size : Int) - 1))) - 48) % 256))) else (none))) else (none)) else (none)) else (some false))) else (some false)) = some r := h
 clear h
 by_cases c2 : (wrap64 ((a0.size : Int) - 1)) ≥ 1
 ·rw [if_pos c2] at H
  have c2b0 : decide (1 ≤ (wrap64 ((a0.size : Int) - 1))) = true := decide_eq_true c2
  clear c2
  obtain ⟨t278, A3, H⟩ := ob_ H
  by_cases c4 : t278 = true
  ·subst c4
   replace H := ip_ H
   obtain ⟨ji5, hji5⟩ : ∃ j_ : Int, (wrap64 ((a0.size : Int) - 1)) = j_ := ⟨_, rfl⟩
   replace H : (if 0 ≤ (ji5) then (if (ji5) ≤ (a0.size : Int) then ((impl_Luhn.f k (a0.extract 0 ((ji5) : Int).toNat)).bind fun t279 => (if (ji5) < (a0.size : Int) then (some (t279 == (((bt a0 (ji5)) - 48) % 256))) else (none))) else (none)) else (none)) = some r := by first | (rw [hji5] at H; exact H) | (simp only [hji5] at H ⊢; exact H)
   (try rw [hji5] at c2b0)
   (try rw [hji5] at A3)
   have hji5w : (IntKind.i64.wrap ((a0.size : Int) - 1)) = ji5 := (i64_w _).trans hji5
   by_cases c6 : 0 ≤ (ji5)
   ·rw [if_pos c6] at H
    have c6b0 := eq_true c6
    have c6b1 : decide (0 ≤ (ji5)) = true := decide_eq_true c6
    clear c6
    by_cases c7 : (ji5) ≤ (a0.size : Int)
    ·rw [if_pos c7] at H
     have c7b0 := eq_true c7
     have c7b1 : decide ((ji5) ≤ (a0.size : Int)) = true := decide_eq_true c7
     clear c7
     obtain ⟨t279, A8, H⟩ := ob_ H
     by_cases c9 : (ji5) < (a0.size : Int)
     ·rw [if_pos c9] at H
      have c9b0 : decide ((ji5) < (a0.size : Int)) = true := decide_eq_true c9
      clear c9
      obtain rfl := Option.some.inj H
      go_enter Tryd.func117, Tryd.ntmps117
      go_wp2_with (first | (go_at_call 118; (with_reducible refine (impl_Digits.calls k a0 true _ A3.out).mono ?_); rintro e w' ⟨rfl, ⟨nd, rfl⟩⟩; (try first | exact ⟨rfl, _, World.drewN_drewN _ _ _⟩ | exact ⟨rfl, _, Eq.trans (World.drewN_drewN _ _ _) (congrArg (World.drewN _) (Nat.add_assoc _ _ _))⟩)) | (go_at_call 151; (with_reducible refine (impl_Luhn.calls k (a0.extract 0 ((ji5) : Int).toNat) t279 _ A8.out).mono ?_); rintro e w' ⟨rfl, ⟨nd, rfl⟩⟩; (try first | exact ⟨rfl, _, World.drewN_drewN _ _ _⟩ | exact ⟨rfl, _, Eq.trans (World.drewN_drewN _ _ _) (congrArg (World.drewN _) (Nat.add_assoc _ _ _))⟩); have p10 : 0 ≤ ((ji5) : Int) := od_; have q10 : (ji5) < (a0.size : Int) := od_; have hx10 := bt_at a0 (ji5); replace p10 := eq_true p10; replace q10 := eq_true q10))
      repeat (go_quiet (first | (go_at_call 118; (with_reducible refine (impl_Digits.calls k a0 true _ A3.out).mono ?_); rintro e w' ⟨rfl, ⟨nd, rfl⟩⟩; (try first | exact ⟨rfl, _, World.drewN_drewN _ _ _⟩ | exact ⟨rfl, _, Eq.trans (World.drewN_drewN _ _ _) (congrArg (World.drewN _) (Nat.add_assoc _ _ _))⟩)) | (go_at_call 151; (with_reducible refine (impl_Luhn.calls k (a0.extract 0 ((ji5) : Int).toNat) t279 _ A8.out).mono ?_); rintro e w' ⟨rfl, ⟨nd, rfl⟩⟩; (try first | exact ⟨rfl, _, World.drewN_drewN _ _ _⟩ | exact ⟨rfl, _, Eq.trans (World.drewN_drewN _ _ _) (congrArg (World.drewN _) (Nat.add_assoc _ _ _))⟩); have p10 : 0 ≤ ((ji5) : Int) := od_; have q10 : (ji5) < (a0.size : Int) := od_; have hx10 := bt_at a0 (ji5); replace p10 := eq_true p10; replace q10 := eq_true q10)); try go_wp2_with (first | (go_at_call 118; (with_reducible refine (impl_Digits.calls k a0 true _ A3.out).mono ?_); rintro e w' ⟨rfl, ⟨nd, rfl⟩⟩; (try first | exact ⟨rfl, _, World.drewN_drewN _ _ _⟩ | exact ⟨rfl, _, Eq.trans (World.drewN_drewN _ _ _) (congrArg (World.drewN _) (Nat.add_assoc _ _ _))⟩)) | (go_at_call 151; (with_reducible refine (impl_Luhn.calls k (a0.extract 0 ((ji5) : Int).toNat) t279 _ A8.out).mono ?_); rintro e w' ⟨rfl, ⟨nd, rfl⟩⟩; (try first | exact ⟨rfl, _, World.drewN_drewN _ _ _⟩ | exact ⟨rfl, _, Eq.trans (World.drewN_drewN _ _ _) (congrArg (World.drewN _) (Nat.add_assoc _ _ _))⟩); have p10 : 0 ≤ ((ji5) : Int) := od_; have q10 : (ji5) < (a0.size : Int) := od_; have hx10 := bt_at a0 (ji5); replace p10 := eq_true p10; replace q10 := eq_true q10)))
      go_ret
      exact ⟨by first | rfl | (simp; done) | (simp only [← hji5] <;> (first | rfl | (simp; done) | (simp [my_isEmpty, my_w256, Go.Proofs.YtbjpfknmkpnhjaaDoorW.PrintLast.i64_w, Go.Proofs.YtbjpfknmkpnhjaaDoorW.PrintLast.i32_w, Go.IntKind.wrap_u8, Go.IntKind.wrap_u32]; done))) | (simp [*]; done) | (simp [my_isEmpty, my_w256, Go.Proofs.YtbjpfknmkpnhjaaDoorW.PrintLast.i64_w, Go.Proofs.YtbjpfknmkpnhjaaDoorW.PrintLast.i32_w, Go.IntKind.wrap_u8, Go.IntKind.wrap_u32]; done), by repeat (first | exact Drawn0.refl _ | apply Drawn0.step)⟩
     ·rw [if_neg c9] at H
      exact absurd H (by simp)
    ·rw [if_neg c7] at H
     exact absurd H (by simp)
   ·rw [if_neg c6] at H
    exact absurd H (by simp)
  ·replace c4 := Bool.eq_false_iff.mpr c4
   subst c4
   replace H := in_ H
   obtain rfl := Option.some.inj H
   go_enter Tryd.func117, Tryd.ntmps117
   go_wp2_with (first | (go_at_call 118; (with_reducible refine (impl_Digits.calls k a0 false _ A3.out).mono ?_); rintro e w' ⟨rfl, ⟨nd, rfl⟩⟩; (try first | exact ⟨rfl, _, World.drewN_drewN _ _ _⟩ | exact ⟨rfl, _, Eq.trans (World.drewN_drewN _ _ _) (congrArg (World.drewN _) (Nat.add_assoc _ _ _))⟩)))
   repeat (go_quiet (first | (go_at_call 118; (with_reducible refine (impl_Digits.calls k a0 false _ A3.out).mono ?_); rintro e w' ⟨rfl, ⟨nd, rfl⟩⟩; (try first | exact ⟨rfl, _, World.drewN_drewN _ _ _⟩ | exact ⟨rfl, _, Eq.trans (World.drewN_drewN _ _ _) (congrArg (World.drewN _) (Nat.add_assoc _ _ _))⟩))); try go_wp2_with (first | (go_at_call 118; (with_reducible refine (impl_Digits.calls k a0 false _ A3.out).mono ?_); rintro e w' ⟨rfl, ⟨nd, rfl⟩⟩; (try first | exact ⟨rfl, _, World.drewN_drewN _ _ _⟩ | exact ⟨rfl, _, Eq.trans (World.drewN_drewN _ _ _) (congrArg (World.drewN _) (Nat.add_assoc _ _ _))⟩))))
   go_ret
   exact ⟨sp_, by repeat (first | exact Drawn0.refl _ | apply Drawn0.step)⟩
 ·rw [if_neg c2] at H
  have c2b0 : decide (1 ≤ (wrap64 ((a0.size : Int) - 1))) = false := decide_eq_false c2
  clear c2
  obtain rfl := Option.some.inj H
  go_enter Tryd.func117, Tryd.ntmps117
  go_wp2
  repeat (go_quiet (fail); try go_wp2)
  go_ret
  exact ⟨sp_, by repeat (first | exact Drawn0.refl _ | apply Drawn0.step)⟩
/-! ### impl_AcctIdOk: function 77 -/
def impl_AcctIdOk.f (k : Nat) (a0 : ByteArray) : Option (Bool) := if (a0.size : Int) ≤ 19 then ((impl_LuhnOk.f k a0).bind fun t280 => (some t280)) else (some false)
set_option maxHeartbeats 8000000 in
set_option maxRecDepth 100000 in
theorem impl_AcctIdOk.calls (k : Nat) (a0 : ByteArray) (r : Bool) (w : World) (h : impl_AcctIdOk.f k a0 = some r) :
  Calls Tryd.prog 77 #[.string a0] w fun e w' => e = .returned (.bool r) ∧ Drawn0 w w' := by
 have H : (if (a0.size : Int) ≤ 19 then ((impl_LuhnOk.f k a0).bind fun t280 => (some t280)) else (some false)) = some r := h
 clear h
 by_cases c2 : (a0.size : Int) ≤ 19
 ·rw [if_pos c2] at H
  have c2b0 : decide ((a0.size : Int) ≤ 19) = true := decide_eq_true c2
  have c2b1 : decide (a0.size ≤ 19) = true := decide_eq_true (by omega)
  clear c2
  obtain ⟨t280, A3, H⟩ := ob_ H
  obtain rfl := Option.some.inj H
  go_enter Tryd.func77, Tryd.ntmps77
  go_wp2_with (first | (go_at_call 117; (with_reducible refine (impl_LuhnOk.calls k a0 t280 _ A3.out).mono ?_); rintro e w' ⟨rfl, ⟨nd, rfl⟩⟩))
  go_ret
  exact ⟨sp_, by repeat (first | exact Drawn0.refl _ | apply Drawn0.step)⟩
 ·rw [if_neg c2] at H
  have c2b0 : decide ((a0.size : Int) ≤ 19) = false := decide_eq_false c2
  have c2b1 : decide (a0.size ≤ 19) = false := decide_eq_false (by omega)
  clear c2
  obtain rfl := Option.some.inj H
  go_enter Tryd.func77, Tryd.ntmps77
  go_wp2
  go_ret
  exact ⟨sp_, by repeat (first | exact Drawn0.refl _ | apply Drawn0.step)⟩
/-! ### impl_isWide: function 78 -/
def impl_isWide.f (k : Nat) (a0 : ByteArray) (a1 : Int) : Option (Bool) := (impl_Digits.f k a0).bind fun t281 => (if t281 = true then (some ((a0.size : Int) == a1)) else (some false))
set_option maxHeartbeats 8000000 in
set_option maxRecDepth 100000 in
theorem impl_isWide.calls (k : Nat) (a0 : ByteArray) (a1 : Int) (r : Bool) (w : World) (h : impl_isWide.f k a0 a1 = some r) :
  Calls Tryd.prog 78 #[.string a0, .int .i64 a1] w fun e w' => e = .returned (.bool r) ∧ Drawn0 w w' := by
 have H : ((impl_Digits.f k a0).bind fun t281 => (if t281 = true then (some ((a0.size : Int) == a1)) else (some false))) = some r := h
 clear h
 obtain ⟨t281, A3, H⟩ := ob_ H
 by_cases c4 : t281 = true
 ·subst c4
  replace H := ip_ H
  obtain rfl := Option.some.inj H
  go_enter Tryd.func78, Tryd.ntmps78
  go_wp2_with (first | ((with_reducible refine gate_callee (f := 118) rfl ?_); refine goesL_ (some 6) rfl rfl Tryd.func118 (by kernel_rfl) rfl #[.string a0] rfl gl_ ?_; (with_reducible refine (impl_Digits.calls k a0 true _ A3.out).mono ?_); rintro e w' ⟨rfl, ⟨nd, rfl⟩⟩; refine ⟨_, rfl, ?_⟩))
  go_ret
  exact ⟨sp_, by repeat (first | exact Drawn0.refl _ | apply Drawn0.step)⟩
 ·replace c4 := Bool.eq_false_iff.mpr c4
  subst c4
  replace H := in_ H
  obtain rfl := Option.some.inj H
  go_enter Tryd.func78, Tryd.ntmps78
  go_wp2_with (first | ((with_reducible refine gate_callee (f := 118) rfl ?_); refine goesL_ (some 6) rfl rfl Tryd.func118 (by kernel_rfl) rfl #[.string a0] rfl gl_ ?_; (with_reducible refine (impl_Digits.calls k a0 false _ A3.out).mono ?_); rintro e w' ⟨rfl, ⟨nd, rfl⟩⟩; refine ⟨_, rfl, ?_⟩))
  go_ret
  exact ⟨sp_, by repeat (first | exact Drawn0.refl _ | apply Drawn0.step)⟩
end Go.Proofs.YtbjpfknmkpnhjaaDoor.QFnExactReqMsg
