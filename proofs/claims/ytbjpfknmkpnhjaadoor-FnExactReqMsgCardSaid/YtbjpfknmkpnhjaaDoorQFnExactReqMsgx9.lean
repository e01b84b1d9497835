-- by my own printer (myprint.py, over the kit's print.py)
import Derived.Test.YtbjpfknmkpnhjaaDoorQFnExactReqMsgx0
import Derived.Test.YtbjpfknmkpnhjaaDoorQFnExactReqMsgx1
import Derived.Test.YtbjpfknmkpnhjaaDoorQFnExactReqMsgx3
import Derived.Test.YtbjpfknmkpnhjaaDoorQFnExactReqMsgx7
import Derived.Test.YtbjpfknmkpnhjaaDoorQFnExactReqMsgx8
namespace Go.Proofs.YtbjpfknmkpnhjaaDoor.QFnExactReqMsg
open Go.RowKit Go.Proofs.YtbjpfknmkpnhjaaDoorW.PrintWords Go.Proofs.YtbjpfknmkpnhjaaDoorW.PrintLast Go.Proofs.YtbjpfknmkpnhjaaDoorW.PrintMore
attribute [local go_sem] max2_int min2_int max_two min_two max_three min_three max_four min_four   -- for this text's walks alone
set_option linter.unusedVariables false
set_option linter.unusedSimpArgs false
attribute [local go_sem] my_geq my_leq my_gtr
abbrev tb10_0_9 : Array Bool := #[b0, b0, b0, b0, b0, b0, b0, b0, b0, b0]
abbrev tb10_1f_9 : Array Bool := #[b1, b1, b1, b1, b1, b0, b0, b0, b0, b0]
abbrev tb10_1ff_9 : Array Bool := #[b1, b1, b1, b1, b1, b1, b1, b1, b1, b0]
abbrev tb10_2_9 : Array Bool := #[b0, b1, b0, b0, b0, b0, b0, b0, b0, b0]
abbrev tb10_3_9 : Array Bool := #[b1, b1, b0, b0, b0, b0, b0, b0, b0, b0]
abbrev tb10_3f_9 : Array Bool := #[b1, b1, b1, b1, b1, b1, b0, b0, b0, b0]
abbrev tb10_3ff_9 : Array Bool := #[b1, b1, b1, b1, b1, b1, b1, b1, b1, b1]
abbrev tb10_7_9 : Array Bool := #[b1, b1, b1, b0, b0, b0, b0, b0, b0, b0]
abbrev tb10_7f_9 : Array Bool := #[b1, b1, b1, b1, b1, b1, b1, b0, b0, b0]
abbrev tb10_f_9 : Array Bool := #[b1, b1, b1, b1, b0, b0, b0, b0, b0, b0]
abbrev tb10_ff_9 : Array Bool := #[b1, b1, b1, b1, b1, b1, b1, b1, b0, b0]
abbrev tb9_0_9 : Array Bool := #[b0, b0, b0, b0, b0, b0, b0, b0, b0]
abbrev tb9_1f_9 : Array Bool := #[b1, b1, b1, b1, b1, b0, b0, b0, b0]
abbrev tb9_1ff_9 : Array Bool := #[b1, b1, b1, b1, b1, b1, b1, b1, b1]
abbrev tb9_2_9 : Array Bool := #[b0, b1, b0, b0, b0, b0, b0, b0, b0]
abbrev tb9_3_9 : Array Bool := #[b1, b1, b0, b0, b0, b0, b0, b0, b0]
abbrev tb9_3f_9 : Array Bool := #[b1, b1, b1, b1, b1, b1, b0, b0, b0]
abbrev tb9_7_9 : Array Bool := #[b1, b1, b1, b0, b0, b0, b0, b0, b0]
abbrev tb9_7f_9 : Array Bool := #[b1, b1, b1, b1, b1, b1, b1, b0, b0]
abbrev tb9_f_9 : Array Bool := #[b1, b1, b1, b1, b0, b0, b0, b0, b0]
abbrev tb9_ff_9 : Array Bool := #[b1, b1, b1, b1, b1, b1, b1, b1, b0]
/-! ### spec_ReqMsg: function 13 -/
mutual
def spec_ReqMsg.j0 : Nat → Int → ByteArray → ByteArray → ByteArray → ByteArray → ByteArray → Int → Int → ByteArray → List (S67) → Option (ByteArray × (List (S67)) × Bool)
 | 0, _, _, _, _, _, _, _, _, _, _ => none
 | k + 1, x189000, x189001, x189002, x189003, x189004, x189005, x189006, x189007, x192000, x192001 => (spec_l11Amount.f x189000).bind fun t215 => (if t215 = true then ((spec_Wide.f k x189006 12).bind fun t216 => ((spec_WithField.f k x192000 x192001 4 t216).bind fun bt217 => (spec_ReqMsg.j1 k x189000 x189001 x189002 x189003 x189004 x189005 x189006 x189007 bt217.1 bt217.2.1))) else (spec_ReqMsg.j1 k x189000 x189001 x189002 x189003 x189004 x189005 x189006 x189007 x192000 x192001))
def spec_ReqMsg.j1 : Nat → Int → ByteArray → ByteArray → ByteArray → ByteArray → ByteArray → Int → Int → ByteArray → List (S67) → Option (ByteArray × (List (S67)) × Bool)
 | 0, _, _, _, _, _, _, _, _, _, _ => none
 | k + 1, x189000, x189001, x189002, x189003, x189004, x189005, x189006, x189007, x192000, x192001 => if x189000 = 1 then ((spec_Wide.f k x189007 4).bind fun t222 => ((spec_WithField.f k x192000 x192001 14 t222).bind fun bt223 => (if x189000 = 6 then ((spec_WithField.f k bt223.1 bt223.2.1 103 x189002).bind fun bt228 => (some (bt228.1, bt228.2.1, true))) else (some (bt223.1, bt223.2.1, true))))) else (if x189000 = 6 then ((spec_WithField.f k x192000 x192001 103 x189002).bind fun bt233 => (some (bt233.1, bt233.2.1, true))) else (some (x192000, x192001, true)))
end
def spec_ReqMsg.f (k : Nat) (a0_0 : Int) (a0_1 : ByteArray) (a0_2 : ByteArray) (a0_3 : ByteArray) (a0_4 : ByteArray) (a0_5 : ByteArray) (a0_6 : Int) (a0_7 : Int) : Option (ByteArray × (List (S67)) × Bool) := (spec_ReqOk.f k a0_0 a0_1 a0_2 a0_3 a0_4 a0_5 a0_6 a0_7).bind fun t190 => (if t190 = true then ((spec_WithField.f k a0_5 ([] : List (S67)) 2 a0_1).bind fun bt192 => ((spec_OpCode.f a0_0).bind fun t197 => (if t197.size + 4 ≤ 9223372036854775807 then ((spec_WithField.f k bt192.1 bt192.2.1 3 (t197 ++ (⟨#[48, 48, 48, 48]⟩ : ByteArray))).bind fun bt198 => ((spec_WithField.f k bt198.1 bt198.2.1 11 a0_4).bind fun bt203 => ((spec_l11Hold.f a0_0).bind fun t208 => (if t208 = true then ((spec_FieldFit.f k 38 a0_3).bind fun t209 => ((spec_WithField.f k bt203.1 bt203.2.1 38 t209).bind fun bt210 => (spec_ReqMsg.j0 k a0_0 a0_1 a0_2 a0_3 a0_4 a0_5 a0_6 a0_7 bt210.1 bt210.2.1))) else (spec_ReqMsg.j0 k a0_0 a0_1 a0_2 a0_3 a0_4 a0_5 a0_6 a0_7 bt203.1 bt203.2.1))))) else (none)))) else (some ((⟨#[]⟩ : ByteArray), ([] : List (S67)), false)))
def spec_ReqMsg.T5 : Bool × List (List Nat × List Nat) := (true, [([], []), ([], []), ([1], [1]), ([2], [2]), ([3], [3]), ([0, 4, 3], [0, 4]), ([5], [5]), ([6], [6]), ([6], [6]), ([7, 5, 0, 1, 2, 3, 4, 5, 6, 7], [7])])
def spec_ReqMsg.B5 : List Nat := [0, 0, 2, 6, 14, 31, 63, 127, 127, 255]
theorem spec_ReqMsg.tab5 : rtab .any (opsOf Tryd.f13 5) = spec_ReqMsg.T5 := by kernel_rfl
theorem spec_ReqMsg.bits5 : waitsOk spec_ReqMsg.T5.2 spec_ReqMsg.B5 = true := by kernel_rfl
def spec_ReqMsg.T8 : Bool × List (List Nat × List Nat) := (true, [([], []), ([], []), ([1], [1]), ([2], [2]), ([0, 3, 3], [0, 3]), ([4], [4]), ([5], [5]), ([5], [5]), ([6, 4, 0, 1, 2, 3, 4, 5, 6], [6])])
def spec_ReqMsg.B8 : List Nat := [0, 0, 2, 6, 15, 31, 63, 63, 127]
theorem spec_ReqMsg.tab8 : rtab .any (opsOf Tryd.f13 8) = spec_ReqMsg.T8 := by kernel_rfl
theorem spec_ReqMsg.bits8 : waitsOk spec_ReqMsg.T8.2 spec_ReqMsg.B8 = true := by kernel_rfl
def spec_ReqMsg.T10 : Bool × List (List Nat × List Nat) := (true, [([], []), ([], []), ([1], [1]), ([2], [2]), ([0, 3, 3], [0, 3]), ([4], [4]), ([5], [5]), ([5], [5]), ([6, 4, 0, 1, 2, 3, 4, 5, 6], [6])])
def spec_ReqMsg.B10 : List Nat := [0, 0, 2, 6, 15, 31, 63, 63, 127]
theorem spec_ReqMsg.tab10 : rtab .any (opsOf Tryd.f13 10) = spec_ReqMsg.T10 := by kernel_rfl
theorem spec_ReqMsg.bits10 : waitsOk spec_ReqMsg.T10.2 spec_ReqMsg.B10 = true := by kernel_rfl
def spec_ReqMsg.T12 : Bool × List (List Nat × List Nat) := (true, [([], []), ([], []), ([1], [1]), ([2], [2]), ([0, 3, 3], [0, 3]), ([4], [4]), ([5], [5]), ([5], [5]), ([6, 4, 0, 1, 2, 3, 4, 5, 6], [6])])
def spec_ReqMsg.B12 : List Nat := [0, 0, 2, 6, 15, 31, 63, 63, 127]
theorem spec_ReqMsg.tab12 : rtab .any (opsOf Tryd.f13 12) = spec_ReqMsg.T12 := by kernel_rfl
theorem spec_ReqMsg.bits12 : waitsOk spec_ReqMsg.T12.2 spec_ReqMsg.B12 = true := by kernel_rfl
set_option maxHeartbeats 8000000 in
set_option maxRecDepth 100000 in
theorem spec_ReqMsg.calls (k : Nat) (a0_0 : Int) (a0_1 : ByteArray) (a0_2 : ByteArray) (a0_3 : ByteArray) (a0_4 : ByteArray) (a0_5 : ByteArray) (a0_6 : Int) (a0_7 : Int) (r1 : ByteArray) (r2 : List (S67)) (r3 : Bool) (w : World) (h : spec_ReqMsg.f k a0_0 a0_1 a0_2 a0_3 a0_4 a0_5 a0_6 a0_7 = some (r1, r2, r3)) :
  Calls Tryd.prog 13 #[.agg #[.int .i64 a0_0, .string a0_1, .string a0_2, .string a0_3, .string a0_4, .string a0_5, .int .i64 a0_6, .int .i64 a0_7]] w fun e w' => ∃ v1_ : Value, e = .returned (.tuple #[.agg #[.string r1, v1_], .bool r3]) ∧ Kd.R k67 67 w' w.heap.size (fun _ => True) v1_ r2 ∧ Below w.heap.size w w' := by
 have hu45 := Tryd.underlying45
 have hu42 := Tryd.underlying42
 have HB := Aside0.mk (Below.refl w.heap.size w)
 have H : ((spec_ReqOk.f k a0_0 a0_1 a0_2 a0_3 a0_4 a0_5 a0_6 a0_7).bind fun t190 => (if t190 = true then ((spec_WithField.f k a0_5 ([] : List (S67)) 2 a0_1).bind fun bt192 => ((spec_OpCode.f a0_0).bind fun t197 => (if t197.size + 4 ≤ 9223372036854775807 then ((spec_WithField.f k bt192.1 bt192.2.1 3 (t197 ++ (⟨#[48, 48, 48, 48]⟩ : ByteArray))).bind fun bt198 => ((spec_WithField.f k bt198.1 bt198.2.1 11 a0_4).bind fun bt203 => ((spec_l11Hold.f a0_0).bind fun t208 => (if t208 = true then ((spec_FieldFit.f k 38 a0_3).bind fun t209 => ((spec_WithField.f k bt203.1 bt203.2.1 38 t209).bind fun bt210 => (spec_ReqMsg.j0 k a0_0 a0_1 a0_2 a0_3 a0_4 a0_5 a0_6 a0_7 bt210.1 bt210.2.1))) else (spec_ReqMsg.j0 k a0_0 a0_1 a0_2 a0_3 a0_4 a0_5 a0_6 a0_7 bt203.1 bt203.2.1))))) else (none)))) else (some ((⟨#[]⟩ : ByteArray), ([] : List (S67)), false)))) = some (r1, r2, r3) := h
 clear h
 obtain ⟨t190, A2, H⟩ := ob_ H
 by_cases c3 : t190 = true
 ·subst c3
  replace H := ip_ H
  obtain ⟨⟨t192, t193, t196⟩, A4, H⟩ := ob_ H
  (try dsimp only at H)
  obtain ⟨t197, A5, H⟩ := ob_ H
  by_cases c6 : t197.size + 4 ≤ 9223372036854775807
  ·rw [if_pos c6] at H
   have c6b0 := eq_true c6
   have c6b1 : decide (t197.size + 4 ≤ 9223372036854775807) = true := decide_eq_true c6
   try have c6b2 : (9223372036854775807 < t197.size + 4) = False := eq_false (Nat.not_lt.2 c6)
   obtain ⟨⟨t198, t199, t202⟩, A7, H⟩ := ob_ H
   (try dsimp only at H)
   obtain ⟨⟨t203, t204, t207⟩, A8, H⟩ := ob_ H
   (try dsimp only at H)
   obtain ⟨t208, A9, H⟩ := ob_ H
   have HC10 := Aside0.mk H
   clear H
   go_enter Tryd.func13, Tryd.ntmps13
   try go_wp2_with (first | ((with_reducible refine gate_dst (N := 1) rfl ?_); refine be_ (N := 1) (cs := #[.int .i64 a0_0, .string a0_1, .string a0_2, .string a0_3, .string a0_4, .string a0_5, .int .i64 a0_6, .int .i64 a0_7]) (t := 45) ?_; intro gb188 hg w11 hbox hb; have BK188 := Aside0.mk (hbox); have GW188 := gw_ (w := w) hg; have GE188 := gw_ (w := w) hg; replace HB := Aside0.mk (below_step bl_ hb); clear hb hbox hg) | ((with_reducible refine gate_dst (N := 2) rfl ?_); refine be_ (N := 2) (cs := #[.string (⟨#[]⟩ : ByteArray), .slice none 0 0]) (t := 42) ?_; intro gb189 hg w12 hbox hb; have BK189 := Aside0.mk (hbox); have GW189 := gw_ (w := w) hg; have GE189 := gw_ (w := w) hg; replace HB := Aside0.mk (below_step bl_ hb); have NB188_189 := Aside0.mk ((by rw [hg]; exact Nat.ne_of_lt (blk_lt (bk_ BK188)) : gb188 ≠ gb189)); have NB189_188 := Aside0.mk ((by rw [hg]; exact Nat.ne_of_gt (blk_lt (bk_ BK188)) : gb189 ≠ gb188)); replace BK188 := Aside0.mk (blk_below (bk_ BK188) hb); clear hb hbox hg; have hnb13 := NB188_189.out; have hnc13 := NB189_188.out; obtain ⟨hcz14_0, hcz14_1, hcz14_2, hcz14_3, hcz14_4, hcz14_5, hcz14_6, hcz14_7, hfz14_0, hfz14_1, hfz14_2, hfz14_3, hfz14_4, hfz14_5, hfz14_6, hfz14_7⟩ := bx8_ BK188) | ((with_reducible refine gate_callee (f := 29) rfl ?_); refine goesL_ (some 6) rfl rfl Tryd.func29 (by kernel_rfl) rfl #[.agg #[.int .i64 a0_0, .string a0_1, .string a0_2, .string a0_3, .string a0_4, .string a0_5, .int .i64 a0_6, .int .i64 a0_7]] rfl gl_ ?_; (with_reducible refine (spec_ReqOk.calls k a0_0 a0_1 a0_2 a0_3 a0_4 a0_5 a0_6 a0_7 true _ A2.out).mono ?_); rintro e w15 ⟨rfl, hb⟩; refine ⟨_, rfl, ?_⟩; replace BK188 := Aside0.mk (blk_below (bk_ BK188) hb); replace BK189 := Aside0.mk (blk_below (bk_ BK189) hb); replace HB := Aside0.mk (below_step bl_ hb); (try clear hb); (try clear hb2); (try clear hk); (try clear hi); obtain ⟨hcz16_0, hcz16_1, hcz16_2, hcz16_3, hcz16_4, hcz16_5, hcz16_6, hcz16_7, hfz16_0, hfz16_1, hfz16_2, hfz16_3, hfz16_4, hfz16_5, hfz16_6, hfz16_7⟩ := bx8_ BK188) | ((with_reducible refine gate_dst (N := 4) rfl ?_); refine be_ (N := 4) (cs := #[.string (⟨#[]⟩ : ByteArray), .slice none 0 0]) (t := 42) ?_; intro gb191 hg w17 hbox hb; have BK191 := Aside0.mk (hbox); have GW191 := gw_ (w := w) hg; have GE191 := gw_ (w := w) hg; replace HB := Aside0.mk (below_step bl_ hb); have NB188_191 := Aside0.mk ((by rw [hg]; exact Nat.ne_of_lt (blk_lt (bk_ BK188)) : gb188 ≠ gb191)); have NB191_188 := Aside0.mk ((by rw [hg]; exact Nat.ne_of_gt (blk_lt (bk_ BK188)) : gb191 ≠ gb188)); replace BK188 := Aside0.mk (blk_below (bk_ BK188) hb); have NB189_191 := Aside0.mk ((by rw [hg]; exact Nat.ne_of_lt (blk_lt (bk_ BK189)) : gb189 ≠ gb191)); have NB191_189 := Aside0.mk ((by rw [hg]; exact Nat.ne_of_gt (blk_lt (bk_ BK189)) : gb191 ≠ gb189)); replace BK189 := Aside0.mk (blk_below (bk_ BK189) hb); clear hb hbox hg; have hnb18 := NB191_188.out; have hnc18 := NB188_191.out; have hnb19 := NB191_189.out; have hnc19 := NB189_191.out; obtain ⟨hcz20_0, hcz20_1, hfz20_0, hfz20_1⟩ := bx2_ BK191; obtain ⟨hcz21_0, hcz21_1, hcz21_2, hcz21_3, hcz21_4, hcz21_5, hcz21_6, hcz21_7, hfz21_0, hfz21_1, hfz21_2, hfz21_3, hfz21_4, hfz21_5, hfz21_6, hfz21_7⟩ := bx8_ BK188) | ((with_reducible refine gate_callee (f := 30) rfl ?_); refine goesL_ (some 16) rfl rfl Tryd.func30 (by kernel_rfl) rfl #[.agg #[.string a0_5, .slice none 0 0], .int .i64 2, .string a0_1] rfl gl_ ?_; (refine (spec_WithField.calls k a0_5 _ _ ([] : List (S67)) 2 a0_1 t192 t193 t196 _ ?side1 ?side2 A4.out).mono ?_); (case side1 => exact Kd.C_nil _ _); (case side2 => exact Nat.le_refl _); rintro e w22 ⟨v194, rfl, ho0, hb⟩; refine ⟨_, rfl, ?_⟩; have HO195 := Aside0.mk (Kd.R_lower ho0 (below_size bl_)); replace BK188 := Aside0.mk (blk_below (g := gb188) (o := .cells #[.int .i64 a0_0, .string a0_1, .string a0_2, .string a0_3, .string a0_4, .string a0_5, .int .i64 a0_6, .int .i64 a0_7] 45 (0, 0)) (by (with_reducible repeat (first | refine blk_drewN ?_ _ | refine blk_drew ?_ | refine blk_alloc ?_ _)); refine blk_far ?_ NB188_191.out _; (with_reducible repeat (first | refine blk_drewN ?_ _ | refine blk_drew ?_ | refine blk_alloc ?_ _)); refine blk_far ?_ NB188_191.out _; (with_reducible repeat (first | refine blk_drewN ?_ _ | refine blk_drew ?_ | refine blk_alloc ?_ _)); exact BK188.out) hb); replace BK189 := Aside0.mk (blk_below (g := gb189) (o := .cells #[.string (⟨#[]⟩ : ByteArray), .slice none 0 0] 42 (0, 0)) (by (with_reducible repeat (first | refine blk_drewN ?_ _ | refine blk_drew ?_ | refine blk_alloc ?_ _)); refine blk_far ?_ NB189_191.out _; (with_reducible repeat (first | refine blk_drewN ?_ _ | refine blk_drew ?_ | refine blk_alloc ?_ _)); refine blk_far ?_ NB189_191.out _; (with_reducible repeat (first | refine blk_drewN ?_ _ | refine blk_drew ?_ | refine blk_alloc ?_ _)); exact BK189.out) hb); replace BK191 := Aside0.mk (blk_below (g := gb191) (o := .cells #[.string a0_5, .slice none 0 0] 42 (0, 0)) (by (with_reducible repeat (first | refine blk_drewN ?_ _ | refine blk_drew ?_ | refine blk_alloc ?_ _)); apply bq2_1_0_; (with_reducible repeat (first | refine blk_drewN ?_ _ | refine blk_drew ?_ | refine blk_alloc ?_ _)); exact BK191.out) hb); replace HB := Aside0.mk (below_step bl_ hb); (try clear hb); (try clear hb2); (try clear hk); (try clear hi); (try clear ho0); obtain ⟨hcz23_0, hcz23_1, hfz23_0, hfz23_1⟩ := bx2_ BK191; obtain ⟨Ao24, co24, eo24⟩ := Kd.R_slice HO195.out; subst eo24))
   have n0_ : Aside0 (Kd.R k67 67 ((w22.setCell ⟨gb191, 0, none⟩ (.string t192)).setCell ⟨gb191, 1, none⟩ (.slice Ao24 t193.length co24)) w.heap.size (fun _ => True) (.slice Ao24 t193.length co24) t193) := ⟨by (with_reducible repeat (first | apply Kd.R_alloc | apply Kd.R_drewN | apply Kd.R_drew)); exact Kd.R_mono (Kd.R_far (p := ⟨gb191, 1, none⟩) (Kd.R_far (p := ⟨gb191, 0, none⟩) (Kd.R_types HO195.out BK191.out (by decide)) (fun _ hk => hk.2) (.string t192)) (fun _ hk => hk.2) (.slice Ao24 t193.length co24)) (fun _ hk => trivial)⟩
   have n1_ : Aside0 (((w22.setCell ⟨gb191, 0, none⟩ (.string t192)).setCell ⟨gb191, 1, none⟩ (.slice Ao24 t193.length co24)).heap[gb188]? = some (.cells #[.int .i64 a0_0, .string a0_1, .string a0_2, .string a0_3, .string a0_4, .string a0_5, .int .i64 a0_6, .int .i64 a0_7] 45 (0, 0))) := ⟨by (with_reducible repeat (first | refine blk_drewN ?_ _ | refine blk_drew ?_ | refine blk_alloc ?_ _)); refine blk_far ?_ NB188_191.out _; (with_reducible repeat (first | refine blk_drewN ?_ _ | refine blk_drew ?_ | refine blk_alloc ?_ _)); refine blk_far ?_ NB188_191.out _; (with_reducible repeat (first | refine blk_drewN ?_ _ | refine blk_drew ?_ | refine blk_alloc ?_ _)); exact BK188.out⟩
   have n2_ : Aside0 (((w22.setCell ⟨gb191, 0, none⟩ (.string t192)).setCell ⟨gb191, 1, none⟩ (.slice Ao24 t193.length co24)).heap[gb189]? = some (.cells #[.string (⟨#[]⟩ : ByteArray), .slice none 0 0] 42 (0, 0))) := ⟨by (with_reducible repeat (first | refine blk_drewN ?_ _ | refine blk_drew ?_ | refine blk_alloc ?_ _)); refine blk_far ?_ NB189_191.out _; (with_reducible repeat (first | refine blk_drewN ?_ _ | refine blk_drew ?_ | refine blk_alloc ?_ _)); refine blk_far ?_ NB189_191.out _; (with_reducible repeat (first | refine blk_drewN ?_ _ | refine blk_drew ?_ | refine blk_alloc ?_ _)); exact BK189.out⟩
   have n3_ : Aside0 (((w22.setCell ⟨gb191, 0, none⟩ (.string t192)).setCell ⟨gb191, 1, none⟩ (.slice Ao24 t193.length co24)).heap[gb191]? = some (.cells #[.string t192, .slice Ao24 t193.length co24] 42 (0, 0))) := ⟨by (with_reducible repeat (first | refine blk_drewN ?_ _ | refine blk_drew ?_ | refine blk_alloc ?_ _)); apply bq2_1_0_; (with_reducible repeat (first | refine blk_drewN ?_ _ | refine blk_drew ?_ | refine blk_alloc ?_ _)); exact BK191.out⟩
   have n4_ : Aside0 (Below w.heap.size w ((w22.setCell ⟨gb191, 0, none⟩ (.string t192)).setCell ⟨gb191, 1, none⟩ (.slice Ao24 t193.length co24))) := ⟨bl_⟩
   (try clear HO195)
   (try clear BK188)
   (try clear BK189)
   (try clear BK191)
   (try clear HB)
   generalize ((w22.setCell ⟨gb191, 0, none⟩ (.string t192)).setCell ⟨gb191, 1, none⟩ (.slice Ao24 t193.length co24)) = w25 at n0_ n1_ n2_ n3_ n4_ ⊢
   have HO195 := n0_
   have BK188 := n1_
   have BK189 := n2_
   have BK191 := n3_
   have HB := n4_
   clear n0_ n1_ n2_ n3_ n4_
   have n0_ := Aside0.mk (Kd.R_drew HO195.out)
   have n1_ := Aside0.mk (blk_drew BK188.out)
   have n2_ := Aside0.mk (blk_drew BK189.out)
   have n3_ := Aside0.mk (blk_drew BK191.out)
   have n4_ := Aside0.mk (below_drew1 HB.out)
   clear HO195
   clear BK188
   clear BK189
   clear BK191
   clear HB
   have HO195 := n0_
   have BK188 := n1_
   have BK189 := n2_
   have BK191 := n3_
   have HB := n4_
   clear n0_ n1_ n2_ n3_ n4_
   refine start_ (n := 10) (S := fun w' => w'.cell? ⟨gb191, 0, none⟩ = some (.string t192) ∧ w'.cell? ⟨gb191, 1, none⟩ = some (.slice Ao24 t193.length co24) ∧ w'.cell? ⟨gb188, 0, none⟩ = some (.int .i64 a0_0) ∧ w'.cell? ⟨gb188, 1, none⟩ = some (.string a0_1) ∧ w'.cell? ⟨gb188, 2, none⟩ = some (.string a0_2) ∧ w'.cell? ⟨gb188, 3, none⟩ = some (.string a0_3) ∧ w'.cell? ⟨gb188, 4, none⟩ = some (.string a0_4) ∧ w'.cell? ⟨gb188, 5, none⟩ = some (.string a0_5) ∧ w'.cell? ⟨gb188, 6, none⟩ = some (.int .i64 a0_6) ∧ w'.cell? ⟨gb188, 7, none⟩ = some (.int .i64 a0_7)) (ds := [9]) tb10_0_9 (by kernel_rfl) rfl rfl ⟨cy_ BK191 0, cy_ BK191 1, cy_ BK188 0, cy_ BK188 1, cy_ BK188 2, cy_ BK188 3, cy_ BK188 4, cy_ BK188 5, cy_ BK188 6, cy_ BK188 7⟩ (fun hHeld => ?_); refine with_tabW spec_ReqMsg.tab5 spec_ReqMsg.bits5 (fun HT_ HW_ => ?_)
   generalize w25.drew = w26 at HO195 BK188 BK189 BK191 HB hHeld ⊢
   refine pl_ HT_ 1 21 tb10_2_9 ?_
   refine take_ (i := 0) (N := some 20) (v := ?_) (a' := ?_) tb10_3_9 rfl rfl (take_ofW HT_.out HW_.out (by kernel_rfl)) (fun _ _ _ h => h) (Or.inl ⟨by rfl, ?_⟩) hHeld ?_ ?_
   rotate_left
   ·rintro w' ⟨s0, s1, s2, s3, s4, s5, s6, s7, s8, s9⟩
    go_simp
    with_reducible rfl
   rotate_left
   ·simp only [Act.put, q_]
    rfl
   refine take_ (i := 2) (N := some 22) (v := ?_) (a' := ?_) tb10_7_9 rfl rfl (take_ofW HT_.out HW_.out (by kernel_rfl)) (fun _ _ _ h => h) (Or.inl ⟨by rfl, ?_⟩) hHeld ?_ ?_
   rotate_left
   ·rintro w' ⟨s0, s1, s2, s3, s4, s5, s6, s7, s8, s9⟩
    go_simp
    with_reducible rfl
   rotate_left
   ·simp only [Act.put, q_]
    rfl
   refine one_ (i := 3) (N := some 23) tb10_f_9 rfl rfl (one_of HT_.out (by kernel_rfl)) (by decide) (fun K hK => ?_)
   refine goes_ Tryd.func31 (by kernel_rfl) rfl #[.int .i64 a0_0] (by rfl) rfl rfl gl_ ?_
   with_reducible refine (spec_OpCode.calls a0_0 t197 _ A5.out).mono ?_
   rintro e w27 ⟨rfl, hb⟩
   refine ⟨_, rfl, ?_⟩
   have n0_ := Aside0.mk (Kd.R_below (ra_ HO195) hb)
   have n1_ := Aside0.mk (blk_below (bk_ BK188) hb)
   have n2_ := Aside0.mk (blk_below (bk_ BK189) hb)
   have n3_ := Aside0.mk (blk_below (bk_ BK191) hb)
   have n4_ := Aside0.mk (below_step bl_ hb)
   clear HO195
   clear BK188
   clear BK189
   clear BK191
   clear HB
   have HO195 := n0_
   have BK188 := n1_
   have BK189 := n2_
   have BK191 := n3_
   have HB := n4_
   clear n0_ n1_ n2_ n3_ n4_
   (try clear hb)
   (try clear hb2)
   (try clear hk)
   (try clear hi)
   refine hK.out _ _ ⟨cy_ BK191 0, cy_ BK191 1, cy_ BK188 0, cy_ BK188 1, cy_ BK188 2, cy_ BK188 3, cy_ BK188 4, cy_ BK188 5, cy_ BK188 6, cy_ BK188 7⟩ (fun hHeld => ?_)
   clear hK K
   refine norm_ (a' := ?_) ?_ ?_
   rotate_left
   ·show Act.put _ (some 23) _ = _
    simp only [Act.put, q_]
    rfl
   refine pl_ HT_ 4 24 tb10_1f_9 ?_
   refine one_ (i := 5) (N := some 25) tb10_3f_9 rfl rfl (one_of HT_.out (by kernel_rfl)) (by decide) (fun K hK => ?_)
   refine goes_ Tryd.func30 (by kernel_rfl) rfl #[.agg #[.string t192, .slice Ao24 t193.length co24], .int .i64 3, .string (t197 ++ (⟨#[48, 48, 48, 48]⟩ : ByteArray))] (by rfl) rfl rfl gl_ ?_
   with_reducible refine (spec_WithField.calls k t192 _ _ t193 3 (t197 ++ (⟨#[48, 48, 48, 48]⟩ : ByteArray)) t198 t199 t202 _ ?side1 ?side2 A7.out).mono ?_
   (case side1 => exact ca_ ((Kd.R_reads' HO195.out).2.2))
   (case side2 => exact (Kd.R_reads' HO195.out).2.1)
   rintro e w28 ⟨v200, rfl, ho0, hb⟩
   refine ⟨_, rfl, ?_⟩
   have n0_ := Aside0.mk (Kd.R_elder' (ra_ HO195) (Kd.R_base ho0) hb)
   have n1_ := Aside0.mk (Kd.R_lower (Kd.R_new' ho0 (Kd.R_lt (ra_ HO195))) (below_size bl_))
   have n2_ := Aside0.mk (blk_below (bk_ BK188) hb)
   have n3_ := Aside0.mk (blk_below (bk_ BK189) hb)
   have n4_ := Aside0.mk (blk_below (bk_ BK191) hb)
   have n5_ := Aside0.mk (below_step bl_ hb)
   clear HO195
   clear BK188
   clear BK189
   clear BK191
   clear HB
   have HO195 := n0_
   have HO201 := n1_
   have BK188 := n2_
   have BK189 := n3_
   have BK191 := n4_
   have HB := n5_
   clear n0_ n1_ n2_ n3_ n4_ n5_
   (try clear hb)
   (try clear hb2)
   (try clear hk)
   (try clear hi)
   (try clear ho0)
   obtain ⟨Ao30, co30, eo30⟩ := Kd.R_slice HO201.out
   (first | subst eo30 | (injection eo30 with f1_ f2_ f3_; have f4_ := f1_.symm; have f5_ := f3_.symm; clear f1_ f2_ f3_; subst f4_; subst f5_))
   refine hK.out _ _ ⟨cy_ BK191 0, cy_ BK191 1, cy_ BK188 0, cy_ BK188 1, cy_ BK188 2, cy_ BK188 3, cy_ BK188 4, cy_ BK188 5, cy_ BK188 6, cy_ BK188 7⟩ (fun hHeld => ?_)
   clear hK K
   refine norm_ (a' := ?_) ?_ ?_
   rotate_left
   ·show Act.put _ (some 25) _ = _
    simp only [Act.put, q_]
    rfl
   refine pl_ HT_ 6 19 tb10_7f_9 ?_
   refine pl_ HT_ 7 26 tb10_ff_9 ?_
   refine pl_ HT_ 8 27 tb10_1ff_9 ?_
   refine last_ (i := 9) (N := none) tb10_3ff_9 rfl rfl (one_of HT_.out (by kernel_rfl)) (by decide) (fun K hK => ?_)
   have hs29 : w28.cell? ⟨gb191, 0, none⟩ = some (.string t192) := cy_ BK191 0
   have hfs29 := fz_ BK191 0
   have hns29_0 := NB188_191.out
   have hns29_1 := NB189_191.out
   have hms29_0 := NB191_188.out
   have hms29_1 := NB191_189.out
   have hs31 : w28.cell? ⟨gb191, 1, none⟩ = some (.slice Ao24 t193.length co24) := cy_ BK191 1
   have hfs31 := fz_ BK191 1
   have hns31_0 := NB188_191.out
   have hns31_1 := NB189_191.out
   have hms31_0 := NB191_188.out
   have hms31_1 := NB191_189.out
   refine skip_ (w1 := ?_) (by rfl) rfl ?_ ?_
   rotate_left
   ·go_simp
    rfl
   refine hK.out _ _ ?_
   clear hK K
   refine done_ (done_of HT_.out (by kernel_rfl)) ?_
   have hcz32_0 := cz_ BK191 0 (.string t192)
   have hcz32_1 := cz_ BK191 1 (.slice Ao24 t193.length co24)
   have hfz32_0 := fz_ BK191 0
   have hfz32_1 := fz_ BK191 1
   have hcz33_0 := cz_ BK188 0 (.int .i64 a0_0)
   have hcz33_1 := cz_ BK188 1 (.string a0_1)
   have hcz33_2 := cz_ BK188 2 (.string a0_2)
   have hcz33_3 := cz_ BK188 3 (.string a0_3)
   have hcz33_4 := cz_ BK188 4 (.string a0_4)
   have hcz33_5 := cz_ BK188 5 (.string a0_5)
   have hcz33_6 := cz_ BK188 6 (.int .i64 a0_6)
   have hcz33_7 := cz_ BK188 7 (.int .i64 a0_7)
   have hfz33_0 := fz_ BK188 0
   have hfz33_1 := fz_ BK188 1
   have hfz33_2 := fz_ BK188 2
   have hfz33_3 := fz_ BK188 3
   have hfz33_4 := fz_ BK188 4
   have hfz33_5 := fz_ BK188 5
   have hfz33_6 := fz_ BK188 6
   have hfz33_7 := fz_ BK188 7
   go_upto_if 37 with (first | ((with_reducible refine gate_callee (f := 30) rfl ?_); refine goesL_ (some 32) rfl rfl Tryd.func30 (by kernel_rfl) rfl #[.agg #[.string t198, .slice Ao30 t199.length co30], .int .i64 11, .string a0_4] rfl gl_ ?_; (with_reducible refine (spec_WithField.calls k t198 _ _ t199 11 a0_4 t203 t204 t207 _ ?side1 ?side2 A8.out).mono ?_); (case side1 => refine (Kd.R_reads' (e := 67) (base := w.heap.size) (ok := fun k_ => (True ∧ some k_ ≠ (.slice Ao24 t193.length co24 : Value).ownBlock)) (n := t199.length) (c := co30) ?_).2.2; exact (by (with_reducible repeat (first | apply Kd.R_alloc | apply Kd.R_drewN | apply Kd.R_drew)); exact (Kd.R_mono (Kd.R_far (p := ⟨gb191, 1, none⟩) (Kd.R_far (p := ⟨gb191, 0, none⟩) (Kd.R_types HO201.out BK191.out (by decide)) (fun _ hk => hk.2) (.string t198)) (fun _ hk => hk.2) (.slice Ao30 t199.length co30)) (fun _ h_ => h_.1)))); (case side2 => exact (Kd.R_reads' HO201.out).2.1); rintro e w34 ⟨v205, rfl, ho0, hb⟩; refine ⟨_, rfl, ?_⟩; have HO206 := Aside0.mk (Kd.R_lower (Kd.R_new' (Kd.R_new' ho0 (Kd.R_lt (by (with_reducible repeat (first | apply Kd.R_alloc | apply Kd.R_drewN | apply Kd.R_drew)); exact (Kd.R_mono (Kd.R_far (p := ⟨gb191, 1, none⟩) (Kd.R_far (p := ⟨gb191, 0, none⟩) (Kd.R_types HO195.out BK191.out (by decide)) (fun _ hk => hk.2) (.string t198)) (fun _ hk => hk.2) (.slice Ao30 t199.length co30)) (fun _ h_ => h_.1))))) (Kd.R_lt (by (with_reducible repeat (first | apply Kd.R_alloc | apply Kd.R_drewN | apply Kd.R_drew)); exact (Kd.R_mono (Kd.R_far (p := ⟨gb191, 1, none⟩) (Kd.R_far (p := ⟨gb191, 0, none⟩) (Kd.R_types HO201.out BK191.out (by decide)) (fun _ hk => hk.2) (.string t198)) (fun _ hk => hk.2) (.slice Ao30 t199.length co30)) (fun _ h_ => h_.1))))) (below_size bl_)); replace HO195 := Aside0.mk (Kd.R_elder' (by (with_reducible repeat (first | apply Kd.R_alloc | apply Kd.R_drewN | apply Kd.R_drew)); exact (Kd.R_mono (Kd.R_far (p := ⟨gb191, 1, none⟩) (Kd.R_far (p := ⟨gb191, 0, none⟩) (Kd.R_types HO195.out BK191.out (by decide)) (fun _ hk => hk.2) (.string t198)) (fun _ hk => hk.2) (.slice Ao30 t199.length co30)) (fun _ h_ => h_.1))) (Kd.R_base ho0) hb); replace HO201 := Aside0.mk (Kd.R_elder' (by (with_reducible repeat (first | apply Kd.R_alloc | apply Kd.R_drewN | apply Kd.R_drew)); exact (Kd.R_mono (Kd.R_far (p := ⟨gb191, 1, none⟩) (Kd.R_far (p := ⟨gb191, 0, none⟩) (Kd.R_types HO201.out BK191.out (by decide)) (fun _ hk => hk.2) (.string t198)) (fun _ hk => hk.2) (.slice Ao30 t199.length co30)) (fun _ h_ => h_.1))) (Kd.R_base ho0) hb); replace BK188 := Aside0.mk (blk_below (g := gb188) (o := .cells #[.int .i64 a0_0, .string a0_1, .string a0_2, .string a0_3, .string a0_4, .string a0_5, .int .i64 a0_6, .int .i64 a0_7] 45 (0, 0)) (by (with_reducible repeat (first | refine blk_drewN ?_ _ | refine blk_drew ?_ | refine blk_alloc ?_ _)); refine blk_far ?_ NB188_191.out _; (with_reducible repeat (first | refine blk_drewN ?_ _ | refine blk_drew ?_ | refine blk_alloc ?_ _)); refine blk_far ?_ NB188_191.out _; (with_reducible repeat (first | refine blk_drewN ?_ _ | refine blk_drew ?_ | refine blk_alloc ?_ _)); exact BK188.out) hb); replace BK189 := Aside0.mk (blk_below (g := gb189) (o := .cells #[.string (⟨#[]⟩ : ByteArray), .slice none 0 0] 42 (0, 0)) (by (with_reducible repeat (first | refine blk_drewN ?_ _ | refine blk_drew ?_ | refine blk_alloc ?_ _)); refine blk_far ?_ NB189_191.out _; (with_reducible repeat (first | refine blk_drewN ?_ _ | refine blk_drew ?_ | refine blk_alloc ?_ _)); refine blk_far ?_ NB189_191.out _; (with_reducible repeat (first | refine blk_drewN ?_ _ | refine blk_drew ?_ | refine blk_alloc ?_ _)); exact BK189.out) hb); replace BK191 := Aside0.mk (blk_below (g := gb191) (o := .cells #[.string t198, .slice Ao30 t199.length co30] 42 (0, 0)) (by (with_reducible repeat (first | refine blk_drewN ?_ _ | refine blk_drew ?_ | refine blk_alloc ?_ _)); apply bq2_1_0_; (with_reducible repeat (first | refine blk_drewN ?_ _ | refine blk_drew ?_ | refine blk_alloc ?_ _)); exact BK191.out) hb); replace HB := Aside0.mk (below_step bl_ hb); (try clear hb); (try clear hb2); (try clear hk); (try clear hi); (try clear ho0); obtain ⟨hcz35_0, hcz35_1, hfz35_0, hfz35_1⟩ := bx2_ BK191; obtain ⟨Ao36, co36, eo36⟩ := Kd.R_slice HO206.out; subst eo36; obtain ⟨hcz37_0, hcz37_1, hcz37_2, hcz37_3, hcz37_4, hcz37_5, hcz37_6, hcz37_7, hfz37_0, hfz37_1, hfz37_2, hfz37_3, hfz37_4, hfz37_5, hfz37_6, hfz37_7⟩ := bx8_ BK188) | ((with_reducible refine gate_callee (f := 32) rfl ?_); refine goesL_ (some 37) rfl rfl Tryd.func32 (by kernel_rfl) rfl #[.int .i64 a0_0] rfl gl_ ?_; (with_reducible refine (spec_l11Hold.calls a0_0 t208 _ A9.out).mono ?_); rintro e w' ⟨rfl, ⟨nd, rfl⟩⟩; refine ⟨_, rfl, ?_⟩))
   (try simp only [Act.put, List.setIfInBounds_toArray, List.set_cons_zero, List.set_cons_succ])
   go_cut [] (fun wc => ∃ (kq : Nat) (x192000_9 : ByteArray) (x192001_9 : List (S67)) (u192001 : Value), Aside0 (spec_ReqMsg.j0 kq a0_0 a0_1 a0_2 a0_3 a0_4 a0_5 a0_6 a0_7 x192000_9 x192001_9 = some (r1, r2, r3)) ∧ Aside0 (kq ≤ k) ∧ Aside0 (Kd.R k67 67 wc w.heap.size (fun _ => True) u192001 x192001_9) ∧ Aside0 (wc.heap[gb188]? = some (.cells #[.int .i64 a0_0, .string a0_1, .string a0_2, .string a0_3, .string a0_4, .string a0_5, .int .i64 a0_6, .int .i64 a0_7] 45 (0, 0))) ∧ Aside0 (wc.heap[gb189]? = some (.cells #[.string (⟨#[]⟩ : ByteArray), (.slice none 0 0)] 42 (0, 0))) ∧ Aside0 (wc.heap[gb191]? = some (.cells #[.string x192000_9, u192001] 42 (0, 0))) ∧ Aside0 (Below w.heap.size w wc))
   case first =>
    have H := HC10.out
    clear HC10
    by_cases c38 : t208 = true
    ·subst c38
     replace H := ip_ H
     obtain ⟨t209, A39, H⟩ := ob_ H
     obtain ⟨⟨t210, t211, t214⟩, A40, H⟩ := ob_ H
     (try dsimp only at H)
     have H' := Aside0.mk H
     clear H
     try go_wp2
     have n0_ : Aside0 (Kd.R k67 67 ((w34.setCell ⟨gb191, 0, none⟩ (.string t203)).setCell ⟨gb191, 1, none⟩ (.slice Ao36 t204.length co36)) w.heap.size (fun k_ => some k_ ≠ (.slice Ao30 t199.length co30 : Value).ownBlock ∧ some k_ ≠ (.slice Ao36 t204.length co36 : Value).ownBlock) (.slice Ao24 t193.length co24) t193) := ⟨by (with_reducible repeat (first | apply Kd.R_alloc | apply Kd.R_drewN | apply Kd.R_drew)); exact Kd.R_mono (Kd.R_far (p := ⟨gb191, 1, none⟩) (Kd.R_far (p := ⟨gb191, 0, none⟩) (Kd.R_types HO195.out BK191.out (by decide)) (fun _ hk => hk.2) (.string t203)) (fun _ hk => hk.2) (.slice Ao36 t204.length co36)) (fun _ hk => ⟨hk.1.1.2, hk.1.2⟩)⟩
     have n1_ : Aside0 (Kd.R k67 67 ((w34.setCell ⟨gb191, 0, none⟩ (.string t203)).setCell ⟨gb191, 1, none⟩ (.slice Ao36 t204.length co36)) w.heap.size (fun k_ => some k_ ≠ (.slice Ao24 t193.length co24 : Value).ownBlock ∧ some k_ ≠ (.slice Ao36 t204.length co36 : Value).ownBlock) (.slice Ao30 t199.length co30) t199) := ⟨by (with_reducible repeat (first | apply Kd.R_alloc | apply Kd.R_drewN | apply Kd.R_drew)); exact Kd.R_mono (Kd.R_far (p := ⟨gb191, 1, none⟩) (Kd.R_far (p := ⟨gb191, 0, none⟩) (Kd.R_types HO201.out BK191.out (by decide)) (fun _ hk => hk.2) (.string t203)) (fun _ hk => hk.2) (.slice Ao36 t204.length co36)) (fun _ hk => ⟨hk.1.1.2, hk.1.2⟩)⟩
     have n2_ : Aside0 (Kd.R k67 67 ((w34.setCell ⟨gb191, 0, none⟩ (.string t203)).setCell ⟨gb191, 1, none⟩ (.slice Ao36 t204.length co36)) w.heap.size (fun k_ => some k_ ≠ (.slice Ao24 t193.length co24 : Value).ownBlock ∧ some k_ ≠ (.slice Ao30 t199.length co30 : Value).ownBlock) (.slice Ao36 t204.length co36) t204) := ⟨by (with_reducible repeat (first | apply Kd.R_alloc | apply Kd.R_drewN | apply Kd.R_drew)); exact Kd.R_mono (Kd.R_far (p := ⟨gb191, 1, none⟩) (Kd.R_far (p := ⟨gb191, 0, none⟩) (Kd.R_types HO206.out BK191.out (by decide)) (fun _ hk => hk.2) (.string t203)) (fun _ hk => hk.2) (.slice Ao36 t204.length co36)) (fun _ hk => ⟨hk.1.1.2, hk.1.2⟩)⟩
     have n3_ : Aside0 (((w34.setCell ⟨gb191, 0, none⟩ (.string t203)).setCell ⟨gb191, 1, none⟩ (.slice Ao36 t204.length co36)).heap[gb188]? = some (.cells #[.int .i64 a0_0, .string a0_1, .string a0_2, .string a0_3, .string a0_4, .string a0_5, .int .i64 a0_6, .int .i64 a0_7] 45 (0, 0))) := ⟨by (with_reducible repeat (first | refine blk_drewN ?_ _ | refine blk_drew ?_ | refine blk_alloc ?_ _)); refine blk_far ?_ NB188_191.out _; (with_reducible repeat (first | refine blk_drewN ?_ _ | refine blk_drew ?_ | refine blk_alloc ?_ _)); refine blk_far ?_ NB188_191.out _; (with_reducible repeat (first | refine blk_drewN ?_ _ | refine blk_drew ?_ | refine blk_alloc ?_ _)); exact BK188.out⟩
     have n4_ : Aside0 (((w34.setCell ⟨gb191, 0, none⟩ (.string t203)).setCell ⟨gb191, 1, none⟩ (.slice Ao36 t204.length co36)).heap[gb189]? = some (.cells #[.string (⟨#[]⟩ : ByteArray), .slice none 0 0] 42 (0, 0))) := ⟨by (with_reducible repeat (first | refine blk_drewN ?_ _ | refine blk_drew ?_ | refine blk_alloc ?_ _)); refine blk_far ?_ NB189_191.out _; (with_reducible repeat (first | refine blk_drewN ?_ _ | refine blk_drew ?_ | refine blk_alloc ?_ _)); refine blk_far ?_ NB189_191.out _; (with_reducible repeat (first | refine blk_drewN ?_ _ | refine blk_drew ?_ | refine blk_alloc ?_ _)); exact BK189.out⟩
     have n5_ : Aside0 (((w34.setCell ⟨gb191, 0, none⟩ (.string t203)).setCell ⟨gb191, 1, none⟩ (.slice Ao36 t204.length co36)).heap[gb191]? = some (.cells #[.string t203, .slice Ao36 t204.length co36] 42 (0, 0))) := ⟨by (with_reducible repeat (first | refine blk_drewN ?_ _ | refine blk_drew ?_ | refine blk_alloc ?_ _)); apply bq2_1_0_; (with_reducible repeat (first | refine blk_drewN ?_ _ | refine blk_drew ?_ | refine blk_alloc ?_ _)); exact BK191.out⟩
     have n6_ : Aside0 (Below w.heap.size w ((w34.setCell ⟨gb191, 0, none⟩ (.string t203)).setCell ⟨gb191, 1, none⟩ (.slice Ao36 t204.length co36))) := ⟨bl_⟩
     (try clear HO195)
     (try clear HO201)
     (try clear HO206)
     (try clear BK188)
     (try clear BK189)
     (try clear BK191)
     (try clear HB)
     generalize ((w34.setCell ⟨gb191, 0, none⟩ (.string t203)).setCell ⟨gb191, 1, none⟩ (.slice Ao36 t204.length co36)) = w41 at n0_ n1_ n2_ n3_ n4_ n5_ n6_ ⊢
     have HO195 := n0_
     have HO201 := n1_
     have HO206 := n2_
     have BK188 := n3_
     have BK189 := n4_
     have BK191 := n5_
     have HB := n6_
     clear n0_ n1_ n2_ n3_ n4_ n5_ n6_
     (try (rw [drewN_self w41]; generalize hq_ : World.drewN w41 _ = w41; have n0_ : Aside0 (Kd.R k67 67 w41 w.heap.size (fun k_ => some k_ ≠ (.slice Ao30 t199.length co30 : Value).ownBlock ∧ some k_ ≠ (.slice Ao36 t204.length co36 : Value).ownBlock) (.slice Ao24 t193.length co24) t193) := ⟨by rw [← hq_]; exact (ra_ HO195)⟩; have n1_ : Aside0 (Kd.R k67 67 w41 w.heap.size (fun k_ => some k_ ≠ (.slice Ao24 t193.length co24 : Value).ownBlock ∧ some k_ ≠ (.slice Ao36 t204.length co36 : Value).ownBlock) (.slice Ao30 t199.length co30) t199) := ⟨by rw [← hq_]; exact (ra_ HO201)⟩; have n2_ : Aside0 (Kd.R k67 67 w41 w.heap.size (fun k_ => some k_ ≠ (.slice Ao24 t193.length co24 : Value).ownBlock ∧ some k_ ≠ (.slice Ao30 t199.length co30 : Value).ownBlock) (.slice Ao36 t204.length co36) t204) := ⟨by rw [← hq_]; exact (ra_ HO206)⟩; have n3_ : Aside0 (w41.heap[gb188]? = some (.cells #[.int .i64 a0_0, .string a0_1, .string a0_2, .string a0_3, .string a0_4, .string a0_5, .int .i64 a0_6, .int .i64 a0_7] 45 (0, 0))) := ⟨by rw [← hq_]; exact (by (with_reducible repeat (first | refine blk_drewN ?_ _ | refine blk_drew ?_ | refine blk_alloc ?_ _)); exact BK188.out)⟩; have n4_ : Aside0 (w41.heap[gb189]? = some (.cells #[.string (⟨#[]⟩ : ByteArray), .slice none 0 0] 42 (0, 0))) := ⟨by rw [← hq_]; exact (by (with_reducible repeat (first | refine blk_drewN ?_ _ | refine blk_drew ?_ | refine blk_alloc ?_ _)); exact BK189.out)⟩; have n5_ : Aside0 (w41.heap[gb191]? = some (.cells #[.string t203, .slice Ao36 t204.length co36] 42 (0, 0))) := ⟨by rw [← hq_]; exact (by (with_reducible repeat (first | refine blk_drewN ?_ _ | refine blk_drew ?_ | refine blk_alloc ?_ _)); exact BK191.out)⟩; have n6_ : Aside0 (Below w.heap.size w w41) := ⟨by rw [← hq_]; exact bl_⟩; clear HO195 HO201 HO206 BK188 BK189 BK191 HB hq_; have HO195 := n0_; have HO201 := n1_; have HO206 := n2_; have BK188 := n3_; have BK189 := n4_; have BK191 := n5_; have HB := n6_; clear n0_ n1_ n2_ n3_ n4_ n5_ n6_))
     have n0_ := Aside0.mk (Kd.R_drew HO195.out)
     have n1_ := Aside0.mk (Kd.R_drew HO201.out)
     have n2_ := Aside0.mk (Kd.R_drew HO206.out)
     have n3_ := Aside0.mk (blk_drew BK188.out)
     have n4_ := Aside0.mk (blk_drew BK189.out)
     have n5_ := Aside0.mk (blk_drew BK191.out)
     have n6_ := Aside0.mk (below_drew1 HB.out)
     clear HO195
     clear HO201
     clear HO206
     clear BK188
     clear BK189
     clear BK191
     clear HB
     have HO195 := n0_
     have HO201 := n1_
     have HO206 := n2_
     have BK188 := n3_
     have BK189 := n4_
     have BK191 := n5_
     have HB := n6_
     clear n0_ n1_ n2_ n3_ n4_ n5_ n6_
     refine start_ (n := 9) (S := fun w' => w'.cell? ⟨gb191, 0, none⟩ = some (.string t203) ∧ w'.cell? ⟨gb191, 1, none⟩ = some (.slice Ao36 t204.length co36) ∧ w'.cell? ⟨gb188, 0, none⟩ = some (.int .i64 a0_0) ∧ w'.cell? ⟨gb188, 1, none⟩ = some (.string a0_1) ∧ w'.cell? ⟨gb188, 2, none⟩ = some (.string a0_2) ∧ w'.cell? ⟨gb188, 3, none⟩ = some (.string a0_3) ∧ w'.cell? ⟨gb188, 4, none⟩ = some (.string a0_4) ∧ w'.cell? ⟨gb188, 5, none⟩ = some (.string a0_5) ∧ w'.cell? ⟨gb188, 6, none⟩ = some (.int .i64 a0_6) ∧ w'.cell? ⟨gb188, 7, none⟩ = some (.int .i64 a0_7)) (ds := [8]) tb9_0_9 (by kernel_rfl) rfl rfl ⟨cy_ BK191 0, cy_ BK191 1, cy_ BK188 0, cy_ BK188 1, cy_ BK188 2, cy_ BK188 3, cy_ BK188 4, cy_ BK188 5, cy_ BK188 6, cy_ BK188 7⟩ (fun hHeld => ?_); refine with_tabW spec_ReqMsg.tab8 spec_ReqMsg.bits8 (fun HT_ HW_ => ?_)
     generalize w41.drew = w42 at HO195 HO201 HO206 BK188 BK189 BK191 HB hHeld ⊢
     refine pl_ HT_ 1 40 tb9_2_9 ?_
     refine take_ (i := 0) (N := some 39) (v := ?_) (a' := ?_) tb9_3_9 rfl rfl (take_ofW HT_.out HW_.out (by kernel_rfl)) (fun _ _ _ h => h) (Or.inl ⟨by rfl, ?_⟩) hHeld ?_ ?_
     rotate_left
     ·rintro w' ⟨s0, s1, s2, s3, s4, s5, s6, s7, s8, s9⟩
      go_simp
      with_reducible rfl
     rotate_left
     ·simp only [Act.put, q_]
      rfl
     refine take_ (i := 2) (N := some 41) (v := ?_) (a' := ?_) tb9_7_9 rfl rfl (take_ofW HT_.out HW_.out (by kernel_rfl)) (fun _ _ _ h => h) (Or.inl ⟨by rfl, ?_⟩) hHeld ?_ ?_
     rotate_left
     ·rintro w' ⟨s0, s1, s2, s3, s4, s5, s6, s7, s8, s9⟩
      go_simp
      with_reducible rfl
     rotate_left
     ·simp only [Act.put, q_]
      rfl
     refine one_ (i := 3) (N := some 42) tb9_f_9 rfl rfl (one_of HT_.out (by kernel_rfl)) (by decide) (fun K hK => ?_)
     refine goes_ Tryd.func33 (by kernel_rfl) rfl #[.int .i64 38, .string a0_3] (by rfl) rfl rfl gl_ ?_
     with_reducible refine (spec_FieldFit.calls k 38 a0_3 t209 _ A39.out).mono ?_
     rintro e w' ⟨rfl, ⟨nd, rfl⟩⟩
     refine ⟨_, rfl, ?_⟩
     refine hK.out _ _ ⟨cy_ BK191 0, cy_ BK191 1, cy_ BK188 0, cy_ BK188 1, cy_ BK188 2, cy_ BK188 3, cy_ BK188 4, cy_ BK188 5, cy_ BK188 6, cy_ BK188 7⟩ (fun hHeld => ?_)
     clear hK K
     refine norm_ (a' := ?_) ?_ ?_
     rotate_left
     ·show Act.put _ (some 42) _ = _
      simp only [Act.put, q_]
      rfl
     refine one_ (i := 4) (N := some 43) tb9_1f_9 rfl rfl (one_of HT_.out (by kernel_rfl)) (by decide) (fun K hK => ?_)
     refine goes_ Tryd.func30 (by kernel_rfl) rfl #[.agg #[.string t203, .slice Ao36 t204.length co36], .int .i64 38, .string t209] (by rfl) rfl rfl gl_ ?_
     with_reducible refine (spec_WithField.calls k t203 _ _ t204 38 t209 t210 t211 t214 _ ?side1 ?side2 A40.out).mono ?_
     (case side1 => exact ca_ ((Kd.R_reads' HO206.out).2.2))
     (case side2 => exact (Kd.R_reads' HO206.out).2.1)
     rintro e w43 ⟨v212, rfl, ho0, hb⟩
     refine ⟨_, rfl, ?_⟩
     have n0_ := Aside0.mk (Kd.R_elder' (ra_ HO195) (Kd.R_base ho0) hb)
     have n1_ := Aside0.mk (Kd.R_elder' (ra_ HO201) (Kd.R_base ho0) hb)
     have n2_ := Aside0.mk (Kd.R_elder' (ra_ HO206) (Kd.R_base ho0) hb)
     have n3_ := Aside0.mk (Kd.R_lower (Kd.R_new' (Kd.R_new' (Kd.R_new' ho0 (Kd.R_lt (ra_ HO195))) (Kd.R_lt (ra_ HO201))) (Kd.R_lt (ra_ HO206))) (below_size bl_))
     have n4_ := Aside0.mk (blk_below (bk_ BK188) hb)
     have n5_ := Aside0.mk (blk_below (bk_ BK189) hb)
     have n6_ := Aside0.mk (blk_below (bk_ BK191) hb)
     have n7_ := Aside0.mk (below_step bl_ hb)
     clear HO195
     clear HO201
     clear HO206
     clear BK188
     clear BK189
     clear BK191
     clear HB
     have HO195 := n0_
     have HO201 := n1_
     have HO206 := n2_
     have HO213 := n3_
     have BK188 := n4_
     have BK189 := n5_
     have BK191 := n6_
     have HB := n7_
     clear n0_ n1_ n2_ n3_ n4_ n5_ n6_ n7_
     (try clear hb)
     (try clear hb2)
     (try clear hk)
     (try clear hi)
     (try clear ho0)
     obtain ⟨Ao45, co45, eo45⟩ := Kd.R_slice HO213.out
     (first | subst eo45 | (injection eo45 with f1_ f2_ f3_; have f4_ := f1_.symm; have f5_ := f3_.symm; clear f1_ f2_ f3_; subst f4_; subst f5_))
     refine hK.out _ _ ⟨cy_ BK191 0, cy_ BK191 1, cy_ BK188 0, cy_ BK188 1, cy_ BK188 2, cy_ BK188 3, cy_ BK188 4, cy_ BK188 5, cy_ BK188 6, cy_ BK188 7⟩ (fun hHeld => ?_)
     clear hK K
     refine norm_ (a' := ?_) ?_ ?_
     rotate_left
     ·show Act.put _ (some 43) _ = _
      simp only [Act.put, q_]
      rfl
     refine pl_ HT_ 5 38 tb9_3f_9 ?_
     refine pl_ HT_ 6 44 tb9_7f_9 ?_
     refine pl_ HT_ 7 45 tb9_ff_9 ?_
     refine last_ (i := 8) (N := none) tb9_1ff_9 rfl rfl (one_of HT_.out (by kernel_rfl)) (by decide) (fun K hK => ?_)
     have hs44 : w43.cell? ⟨gb191, 0, none⟩ = some (.string t203) := cy_ BK191 0
     have hfs44 := fz_ BK191 0
     have hns44_0 := NB188_191.out
     have hns44_1 := NB189_191.out
     have hms44_0 := NB191_188.out
     have hms44_1 := NB191_189.out
     have hs46 : w43.cell? ⟨gb191, 1, none⟩ = some (.slice Ao36 t204.length co36) := cy_ BK191 1
     have hfs46 := fz_ BK191 1
     have hns46_0 := NB188_191.out
     have hns46_1 := NB189_191.out
     have hms46_0 := NB191_188.out
     have hms46_1 := NB191_189.out
     refine skip_ (w1 := ?_) (by rfl) rfl ?_ ?_
     rotate_left
     ·go_simp
      rfl
     refine hK.out _ _ ?_
     clear hK K
     refine done_ (done_of HT_.out (by kernel_rfl)) ?_
     try go_wp2
     go_meet
     case rel => exact ⟨_, (t210), (t211), (.slice Ao45 t211.length co45), H', ⟨by first | omega | exact Nat.le_refl _⟩, ⟨by (with_reducible repeat (first | apply Kd.R_alloc | apply Kd.R_drewN | apply Kd.R_drew)); exact Kd.R_mono (Kd.R_far (p := ⟨gb191, 1, none⟩) (Kd.R_far (p := ⟨gb191, 0, none⟩) (Kd.R_types HO213.out BK191.out (by decide)) (fun _ hk => hk.2) (.string t210)) (fun _ hk => hk.2) (.slice Ao45 t211.length co45)) (fun _ hk => trivial)⟩, ⟨by (with_reducible repeat (first | refine blk_drewN ?_ _ | refine blk_drew ?_ | refine blk_alloc ?_ _)); refine blk_far ?_ NB188_191.out _; (with_reducible repeat (first | refine blk_drewN ?_ _ | refine blk_drew ?_ | refine blk_alloc ?_ _)); refine blk_far ?_ NB188_191.out _; (with_reducible repeat (first | refine blk_drewN ?_ _ | refine blk_drew ?_ | refine blk_alloc ?_ _)); exact BK188.out⟩, ⟨by (with_reducible repeat (first | refine blk_drewN ?_ _ | refine blk_drew ?_ | refine blk_alloc ?_ _)); refine blk_far ?_ NB189_191.out _; (with_reducible repeat (first | refine blk_drewN ?_ _ | refine blk_drew ?_ | refine blk_alloc ?_ _)); refine blk_far ?_ NB189_191.out _; (with_reducible repeat (first | refine blk_drewN ?_ _ | refine blk_drew ?_ | refine blk_alloc ?_ _)); exact BK189.out⟩, ⟨by (with_reducible repeat (first | refine blk_drewN ?_ _ | refine blk_drew ?_ | refine blk_alloc ?_ _)); apply bq2_1_0_; (with_reducible repeat (first | refine blk_drewN ?_ _ | refine blk_drew ?_ | refine blk_alloc ?_ _)); exact BK191.out⟩, ⟨bl_⟩⟩
    ·replace c38 := Bool.eq_false_iff.mpr c38
     subst c38
     replace H := in_ H
     have H' := Aside0.mk H
     clear H
     go_wp2
     go_meet
     case rel => exact ⟨_, (t203), (t204), (.slice Ao36 t204.length co36), H', ⟨by first | omega | exact Nat.le_refl _⟩, ⟨by (with_reducible repeat (first | apply Kd.R_alloc | apply Kd.R_drewN | apply Kd.R_drew)); exact Kd.R_mono (Kd.R_far (p := ⟨gb191, 1, none⟩) (Kd.R_far (p := ⟨gb191, 0, none⟩) (Kd.R_types HO206.out BK191.out (by decide)) (fun _ hk => hk.2) (.string t203)) (fun _ hk => hk.2) (.slice Ao36 t204.length co36)) (fun _ hk => trivial)⟩, ⟨by (with_reducible repeat (first | refine blk_drewN ?_ _ | refine blk_drew ?_ | refine blk_alloc ?_ _)); refine blk_far ?_ NB188_191.out _; (with_reducible repeat (first | refine blk_drewN ?_ _ | refine blk_drew ?_ | refine blk_alloc ?_ _)); refine blk_far ?_ NB188_191.out _; (with_reducible repeat (first | refine blk_drewN ?_ _ | refine blk_drew ?_ | refine blk_alloc ?_ _)); exact BK188.out⟩, ⟨by (with_reducible repeat (first | refine blk_drewN ?_ _ | refine blk_drew ?_ | refine blk_alloc ?_ _)); refine blk_far ?_ NB189_191.out _; (with_reducible repeat (first | refine blk_drewN ?_ _ | refine blk_drew ?_ | refine blk_alloc ?_ _)); refine blk_far ?_ NB189_191.out _; (with_reducible repeat (first | refine blk_drewN ?_ _ | refine blk_drew ?_ | refine blk_alloc ?_ _)); exact BK189.out⟩, ⟨by (with_reducible repeat (first | refine blk_drewN ?_ _ | refine blk_drew ?_ | refine blk_alloc ?_ _)); apply bq2_1_0_; (with_reducible repeat (first | refine blk_drewN ?_ _ | refine blk_drew ?_ | refine blk_alloc ?_ _)); exact BK191.out⟩, ⟨bl_⟩⟩
   case rest =>
    clear HC10
    try clear c1
    try clear c2
    try clear p2
    try clear c3
    try clear c6
    try clear c6b0
    try clear c6b1
    try clear c6b2
    try clear c13
    try clear c18
    try clear c19
    try clear c29
    try clear c30
    try clear c31
    try clear c32
    try clear c33
    try clear c38
    try clear hcz14_0
    try clear hcz14_1
    try clear hcz14_2
    try clear hcz14_3
    try clear hcz14_4
    try clear hcz14_5
    try clear hcz14_6
    try clear hcz14_7
    try clear hcz16_0
    try clear hcz16_1
    try clear hcz16_2
    try clear hcz16_3
    try clear hcz16_4
    try clear hcz16_5
    try clear hcz16_6
    try clear hcz16_7
    try clear hcz20_0
    try clear hcz20_1
    try clear hcz21_0
    try clear hcz21_1
    try clear hcz21_2
    try clear hcz21_3
    try clear hcz21_4
    try clear hcz21_5
    try clear hcz21_6
    try clear hcz21_7
    try clear hcz23_0
    try clear hcz23_1
    try clear hcz32_0
    try clear hcz32_1
    try clear hcz33_0
    try clear hcz33_1
    try clear hcz33_2
    try clear hcz33_3
    try clear hcz33_4
    try clear hcz33_5
    try clear hcz33_6
    try clear hcz33_7
    try clear hcz35_0
    try clear hcz35_1
    try clear hcz37_0
    try clear hcz37_1
    try clear hcz37_2
    try clear hcz37_3
    try clear hcz37_4
    try clear hcz37_5
    try clear hcz37_6
    try clear hcz37_7
    try clear hfz14_0
    try clear hfz14_1
    try clear hfz14_2
    try clear hfz14_3
    try clear hfz14_4
    try clear hfz14_5
    try clear hfz14_6
    try clear hfz14_7
    try clear hfz16_0
    try clear hfz16_1
    try clear hfz16_2
    try clear hfz16_3
    try clear hfz16_4
    try clear hfz16_5
    try clear hfz16_6
    try clear hfz16_7
    try clear hfz20_0
    try clear hfz20_1
    try clear hfz21_0
    try clear hfz21_1
    try clear hfz21_2
    try clear hfz21_3
    try clear hfz21_4
    try clear hfz21_5
    try clear hfz21_6
    try clear hfz21_7
    try clear hfz23_0
    try clear hfz23_1
    try clear hfz32_0
    try clear hfz32_1
    try clear hfz33_0
    try clear hfz33_1
    try clear hfz33_2
    try clear hfz33_3
    try clear hfz33_4
    try clear hfz33_5
    try clear hfz33_6
    try clear hfz33_7
    try clear hfz35_0
    try clear hfz35_1
    try clear hfz37_0
    try clear hfz37_1
    try clear hfz37_2
    try clear hfz37_3
    try clear hfz37_4
    try clear hfz37_5
    try clear hfz37_6
    try clear hfz37_7
    obtain ⟨kq, x192000_9, x192001_9, u192001, HA, HJ9, HO_192001, BK188, BK189, BK191, HB⟩ := hcut
    cases kq with
    | zero => exact absurd HA.out (by simp [spec_ReqMsg.j0])
    | succ kj9 =>
     have H := HA.out
     clear HA
     simp only [spec_ReqMsg.j0] at H
     obtain ⟨t215, A47, H⟩ := ob_ H
     have HC48 := Aside0.mk H
     clear H
     have hnb49 := NB188_189.out
     have hnc49 := NB189_188.out
     have hnb50 := NB188_191.out
     have hnc50 := NB191_188.out
     have hcz51_0 := cz_ BK188 0 (.int .i64 a0_0)
     have hcz51_1 := cz_ BK188 1 (.string a0_1)
     have hcz51_2 := cz_ BK188 2 (.string a0_2)
     have hcz51_3 := cz_ BK188 3 (.string a0_3)
     have hcz51_4 := cz_ BK188 4 (.string a0_4)
     have hcz51_5 := cz_ BK188 5 (.string a0_5)
     have hcz51_6 := cz_ BK188 6 (.int .i64 a0_6)
     have hcz51_7 := cz_ BK188 7 (.int .i64 a0_7)
     have hfz51_0 := fz_ BK188 0
     have hfz51_1 := fz_ BK188 1
     have hfz51_2 := fz_ BK188 2
     have hfz51_3 := fz_ BK188 3
     have hfz51_4 := fz_ BK188 4
     have hfz51_5 := fz_ BK188 5
     have hfz51_6 := fz_ BK188 6
     have hfz51_7 := fz_ BK188 7
     go_upto_if 48 with (first | ((with_reducible refine gate_callee (f := 34) rfl ?_); refine goesL_ (some 48) rfl rfl Tryd.func34 (by kernel_rfl) rfl #[.int .i64 a0_0] rfl gl_ ?_; (with_reducible refine (spec_l11Amount.calls a0_0 t215 _ A47.out).mono ?_); rintro e w' ⟨rfl, ⟨nd, rfl⟩⟩; refine ⟨_, rfl, ?_⟩))
     (try simp only [Act.put, List.setIfInBounds_toArray, List.set_cons_zero, List.set_cons_succ])
     go_cut [] (fun wc => ∃ (kq : Nat) (x192000_47 : ByteArray) (x192001_47 : List (S67)) (u192001 : Value), Aside0 (spec_ReqMsg.j1 kq a0_0 a0_1 a0_2 a0_3 a0_4 a0_5 a0_6 a0_7 x192000_47 x192001_47 = some (r1, r2, r3)) ∧ Aside0 (kq ≤ kj9) ∧ Aside0 (Kd.R k67 67 wc w.heap.size (fun _ => True) u192001 x192001_47) ∧ Aside0 (wc.heap[gb188]? = some (.cells #[.int .i64 a0_0, .string a0_1, .string a0_2, .string a0_3, .string a0_4, .string a0_5, .int .i64 a0_6, .int .i64 a0_7] 45 (0, 0))) ∧ Aside0 (wc.heap[gb189]? = some (.cells #[.string (⟨#[]⟩ : ByteArray), (.slice none 0 0)] 42 (0, 0))) ∧ Aside0 (wc.heap[gb191]? = some (.cells #[.string x192000_47, u192001] 42 (0, 0))) ∧ Aside0 (Below w.heap.size w wc))
     case first =>
      have H := HC48.out
      clear HC48
      by_cases c52 : t215 = true
      ·subst c52
       replace H := ip_ H
       obtain ⟨t216, A53, H⟩ := ob_ H
       obtain ⟨⟨t217, t218, t221⟩, A54, H⟩ := ob_ H
       (try dsimp only at H)
       have H' := Aside0.mk H
       clear H
       try go_wp2
       (try (rw [drewN_self wc]; generalize hq_ : World.drewN wc _ = wc; have n0_ : Aside0 (Kd.R k67 67 wc w.heap.size (fun _ => True) u192001 x192001_9) := ⟨by rw [← hq_]; exact (ra_ HO_192001)⟩; have n1_ : Aside0 (wc.heap[gb188]? = some (.cells #[.int .i64 a0_0, .string a0_1, .string a0_2, .string a0_3, .string a0_4, .string a0_5, .int .i64 a0_6, .int .i64 a0_7] 45 (0, 0))) := ⟨by rw [← hq_]; exact (by (with_reducible repeat (first | refine blk_drewN ?_ _ | refine blk_drew ?_ | refine blk_alloc ?_ _)); exact BK188.out)⟩; have n2_ : Aside0 (wc.heap[gb189]? = some (.cells #[.string (⟨#[]⟩ : ByteArray), .slice none 0 0] 42 (0, 0))) := ⟨by rw [← hq_]; exact (by (with_reducible repeat (first | refine blk_drewN ?_ _ | refine blk_drew ?_ | refine blk_alloc ?_ _)); exact BK189.out)⟩; have n3_ : Aside0 (wc.heap[gb191]? = some (.cells #[.string x192000_9, u192001] 42 (0, 0))) := ⟨by rw [← hq_]; exact (by (with_reducible repeat (first | refine blk_drewN ?_ _ | refine blk_drew ?_ | refine blk_alloc ?_ _)); exact BK191.out)⟩; have n4_ : Aside0 (Below w.heap.size w wc) := ⟨by rw [← hq_]; exact bl_⟩; clear HO_192001 BK188 BK189 BK191 HB hq_; have HO_192001 := n0_; have BK188 := n1_; have BK189 := n2_; have BK191 := n3_; have HB := n4_; clear n0_ n1_ n2_ n3_ n4_))
       have n0_ := Aside0.mk (Kd.R_drew HO_192001.out)
       have n1_ := Aside0.mk (blk_drew BK188.out)
       have n2_ := Aside0.mk (blk_drew BK189.out)
       have n3_ := Aside0.mk (blk_drew BK191.out)
       have n4_ := Aside0.mk (below_drew1 HB.out)
       clear HO_192001
       clear BK188
       clear BK189
       clear BK191
       clear HB
       have HO_192001 := n0_
       have BK188 := n1_
       have BK189 := n2_
       have BK191 := n3_
       have HB := n4_
       clear n0_ n1_ n2_ n3_ n4_
       refine start_ (n := 9) (S := fun w' => w'.cell? ⟨gb191, 0, none⟩ = some (.string x192000_9) ∧ w'.cell? ⟨gb191, 1, none⟩ = some (u192001) ∧ w'.cell? ⟨gb188, 0, none⟩ = some (.int .i64 a0_0) ∧ w'.cell? ⟨gb188, 1, none⟩ = some (.string a0_1) ∧ w'.cell? ⟨gb188, 2, none⟩ = some (.string a0_2) ∧ w'.cell? ⟨gb188, 3, none⟩ = some (.string a0_3) ∧ w'.cell? ⟨gb188, 4, none⟩ = some (.string a0_4) ∧ w'.cell? ⟨gb188, 5, none⟩ = some (.string a0_5) ∧ w'.cell? ⟨gb188, 6, none⟩ = some (.int .i64 a0_6) ∧ w'.cell? ⟨gb188, 7, none⟩ = some (.int .i64 a0_7)) (ds := [8]) tb9_0_9 (by kernel_rfl) rfl rfl ⟨cy_ BK191 0, cy_ BK191 1, cy_ BK188 0, cy_ BK188 1, cy_ BK188 2, cy_ BK188 3, cy_ BK188 4, cy_ BK188 5, cy_ BK188 6, cy_ BK188 7⟩ (fun hHeld => ?_); refine with_tabW spec_ReqMsg.tab10 spec_ReqMsg.bits10 (fun HT_ HW_ => ?_)
       generalize wc.drew = w55 at HO_192001 BK188 BK189 BK191 HB hHeld ⊢
       refine pl_ HT_ 1 51 tb9_2_9 ?_
       refine take_ (i := 0) (N := some 50) (v := ?_) (a' := ?_) tb9_3_9 rfl rfl (take_ofW HT_.out HW_.out (by kernel_rfl)) (fun _ _ _ h => h) (Or.inl ⟨by rfl, ?_⟩) hHeld ?_ ?_
       rotate_left
       ·rintro w' ⟨s0, s1, s2, s3, s4, s5, s6, s7, s8, s9⟩
        go_simp
        with_reducible rfl
       rotate_left
       ·simp only [Act.put, q_]
        rfl
       refine take_ (i := 2) (N := some 52) (v := ?_) (a' := ?_) tb9_7_9 rfl rfl (take_ofW HT_.out HW_.out (by kernel_rfl)) (fun _ _ _ h => h) (Or.inl ⟨by rfl, ?_⟩) hHeld ?_ ?_
       rotate_left
       ·rintro w' ⟨s0, s1, s2, s3, s4, s5, s6, s7, s8, s9⟩
        go_simp
        with_reducible rfl
       rotate_left
       ·simp only [Act.put, q_]
        rfl
       refine one_ (i := 3) (N := some 53) tb9_f_9 rfl rfl (one_of HT_.out (by kernel_rfl)) (by decide) (fun K hK => ?_)
       refine goes_ Tryd.func35 (by kernel_rfl) rfl #[.int .i64 a0_6, .int .i64 12] (by rfl) rfl rfl gl_ ?_
       with_reducible refine (spec_Wide.calls kj9 a0_6 12 t216 _ A53.out).mono ?_
       rintro e w56 ⟨rfl, hb⟩
       refine ⟨_, rfl, ?_⟩
       have n0_ := Aside0.mk (Kd.R_below (ra_ HO_192001) hb)
       have n1_ := Aside0.mk (blk_below (bk_ BK188) hb)
       have n2_ := Aside0.mk (blk_below (bk_ BK189) hb)
       have n3_ := Aside0.mk (blk_below (bk_ BK191) hb)
       have n4_ := Aside0.mk (below_step bl_ hb)
       clear HO_192001
       clear BK188
       clear BK189
       clear BK191
       clear HB
       have HO_192001 := n0_
       have BK188 := n1_
       have BK189 := n2_
       have BK191 := n3_
       have HB := n4_
       clear n0_ n1_ n2_ n3_ n4_
       (try clear hb)
       (try clear hb2)
       (try clear hk)
       (try clear hi)
       obtain ⟨Ao57, co57, eo57⟩ := Kd.R_slice HO_192001.out
       (first | subst eo57 | (injection eo57 with f1_ f2_ f3_; have f4_ := f1_.symm; have f5_ := f3_.symm; clear f1_ f2_ f3_; subst f4_; subst f5_))
       refine hK.out _ _ ⟨cy_ BK191 0, cy_ BK191 1, cy_ BK188 0, cy_ BK188 1, cy_ BK188 2, cy_ BK188 3, cy_ BK188 4, cy_ BK188 5, cy_ BK188 6, cy_ BK188 7⟩ (fun hHeld => ?_)
       clear hK K
       refine norm_ (a' := ?_) ?_ ?_
       rotate_left
       ·show Act.put _ (some 53) _ = _
        simp only [Act.put, q_]
        rfl
       refine one_ (i := 4) (N := some 54) tb9_1f_9 rfl rfl (one_of HT_.out (by kernel_rfl)) (by decide) (fun K hK => ?_)
       refine goes_ Tryd.func30 (by kernel_rfl) rfl #[.agg #[.string x192000_9, .slice Ao57 x192001_9.length co57], .int .i64 4, .string t216] (by rfl) rfl rfl gl_ ?_
       with_reducible refine (spec_WithField.calls kj9 x192000_9 _ _ x192001_9 4 t216 t217 t218 t221 _ ?side1 ?side2 A54.out).mono ?_
       (case side1 => exact ca_ ((Kd.R_reads' HO_192001.out).2.2))
       (case side2 => exact (Kd.R_reads' HO_192001.out).2.1)
       rintro e w58 ⟨v219, rfl, ho0, hb⟩
       refine ⟨_, rfl, ?_⟩
       have n0_ := Aside0.mk (Kd.R_elder' (ra_ HO_192001) (Kd.R_base ho0) hb)
       have n1_ := Aside0.mk (Kd.R_lower (Kd.R_new' ho0 (Kd.R_lt (ra_ HO_192001))) (below_size bl_))
       have n2_ := Aside0.mk (blk_below (bk_ BK188) hb)
       have n3_ := Aside0.mk (blk_below (bk_ BK189) hb)
       have n4_ := Aside0.mk (blk_below (bk_ BK191) hb)
       have n5_ := Aside0.mk (below_step bl_ hb)
       clear HO_192001
       clear BK188
       clear BK189
       clear BK191
       clear HB
       have HO_192001 := n0_
       have HO220 := n1_
       have BK188 := n2_
       have BK189 := n3_
       have BK191 := n4_
       have HB := n5_
       clear n0_ n1_ n2_ n3_ n4_ n5_
       (try clear hb)
       (try clear hb2)
       (try clear hk)
       (try clear hi)
       (try clear ho0)
       obtain ⟨Ao60, co60, eo60⟩ := Kd.R_slice HO220.out
       (first | subst eo60 | (injection eo60 with f1_ f2_ f3_; have f4_ := f1_.symm; have f5_ := f3_.symm; clear f1_ f2_ f3_; subst f4_; subst f5_))
       refine hK.out _ _ ⟨cy_ BK191 0, cy_ BK191 1, cy_ BK188 0, cy_ BK188 1, cy_ BK188 2, cy_ BK188 3, cy_ BK188 4, cy_ BK188 5, cy_ BK188 6, cy_ BK188 7⟩ (fun hHeld => ?_)
       clear hK K
       refine norm_ (a' := ?_) ?_ ?_
       rotate_left
       ·show Act.put _ (some 54) _ = _
        simp only [Act.put, q_]
        rfl
       refine pl_ HT_ 5 49 tb9_3f_9 ?_
       refine pl_ HT_ 6 55 tb9_7f_9 ?_
       refine pl_ HT_ 7 56 tb9_ff_9 ?_
       refine last_ (i := 8) (N := none) tb9_1ff_9 rfl rfl (one_of HT_.out (by kernel_rfl)) (by decide) (fun K hK => ?_)
       have hs59 : w58.cell? ⟨gb191, 0, none⟩ = some (.string x192000_9) := cy_ BK191 0
       have hfs59 := fz_ BK191 0
       have hns59_0 := NB188_191.out
       have hns59_1 := NB189_191.out
       have hms59_0 := NB191_188.out
       have hms59_1 := NB191_189.out
       have hs61 : w58.cell? ⟨gb191, 1, none⟩ = some (.slice Ao57 x192001_9.length co57) := cy_ BK191 1
       have hfs61 := fz_ BK191 1
       have hns61_0 := NB188_191.out
       have hns61_1 := NB189_191.out
       have hms61_0 := NB191_188.out
       have hms61_1 := NB191_189.out
       refine skip_ (w1 := ?_) (by rfl) rfl ?_ ?_
       rotate_left
       ·go_simp
        rfl
       refine hK.out _ _ ?_
       clear hK K
       refine done_ (done_of HT_.out (by kernel_rfl)) ?_
       try go_wp2
       go_meet
       case rel => exact ⟨_, (t217), (t218), (.slice Ao60 t218.length co60), H', ⟨by have := HJ9.out; first | omega | exact Nat.le_refl _⟩, ⟨by (with_reducible repeat (first | apply Kd.R_alloc | apply Kd.R_drewN | apply Kd.R_drew)); exact Kd.R_mono (Kd.R_far (p := ⟨gb191, 1, none⟩) (Kd.R_far (p := ⟨gb191, 0, none⟩) (Kd.R_types HO220.out BK191.out (by decide)) (fun _ hk => hk.2) (.string t217)) (fun _ hk => hk.2) (.slice Ao60 t218.length co60)) (fun _ hk => trivial)⟩, ⟨by (with_reducible repeat (first | refine blk_drewN ?_ _ | refine blk_drew ?_ | refine blk_alloc ?_ _)); refine blk_far ?_ NB188_191.out _; (with_reducible repeat (first | refine blk_drewN ?_ _ | refine blk_drew ?_ | refine blk_alloc ?_ _)); refine blk_far ?_ NB188_191.out _; (with_reducible repeat (first | refine blk_drewN ?_ _ | refine blk_drew ?_ | refine blk_alloc ?_ _)); exact BK188.out⟩, ⟨by (with_reducible repeat (first | refine blk_drewN ?_ _ | refine blk_drew ?_ | refine blk_alloc ?_ _)); refine blk_far ?_ NB189_191.out _; (with_reducible repeat (first | refine blk_drewN ?_ _ | refine blk_drew ?_ | refine blk_alloc ?_ _)); refine blk_far ?_ NB189_191.out _; (with_reducible repeat (first | refine blk_drewN ?_ _ | refine blk_drew ?_ | refine blk_alloc ?_ _)); exact BK189.out⟩, ⟨by (with_reducible repeat (first | refine blk_drewN ?_ _ | refine blk_drew ?_ | refine blk_alloc ?_ _)); apply bq2_1_0_; (with_reducible repeat (first | refine blk_drewN ?_ _ | refine blk_drew ?_ | refine blk_alloc ?_ _)); exact BK191.out⟩, ⟨bl_⟩⟩
      ·replace c52 := Bool.eq_false_iff.mpr c52
       subst c52
       replace H := in_ H
       have H' := Aside0.mk H
       clear H
       go_wp2
       go_meet
       case rel => exact ⟨_, (x192000_9), (x192001_9), (u192001), H', ⟨by have := HJ9.out; first | omega | exact Nat.le_refl _⟩, ⟨ra_ HO_192001⟩, ⟨by (with_reducible repeat (first | refine blk_drewN ?_ _ | refine blk_drew ?_ | refine blk_alloc ?_ _)); exact BK188.out⟩, ⟨by (with_reducible repeat (first | refine blk_drewN ?_ _ | refine blk_drew ?_ | refine blk_alloc ?_ _)); exact BK189.out⟩, ⟨by (with_reducible repeat (first | refine blk_drewN ?_ _ | refine blk_drew ?_ | refine blk_alloc ?_ _)); exact BK191.out⟩, ⟨bl_⟩⟩
     case rest =>
      clear HC48
      try clear c1
      try clear c2
      try clear p2
      try clear c3
      try clear c4
      try clear c5
      try clear c6
      try clear c6b0
      try clear c6b1
      try clear c6b2
      try clear c13
      try clear c18
      try clear c19
      try clear c29
      try clear c30
      try clear c31
      try clear c32
      try clear c33
      try clear c34
      try clear c35
      try clear c38
      try clear c49
      try clear c50
      try clear c52
      try clear hcz14_0
      try clear hcz14_1
      try clear hcz14_2
      try clear hcz14_3
      try clear hcz14_4
      try clear hcz14_5
      try clear hcz14_6
      try clear hcz14_7
      try clear hcz16_0
      try clear hcz16_1
      try clear hcz16_2
      try clear hcz16_3
      try clear hcz16_4
      try clear hcz16_5
      try clear hcz16_6
      try clear hcz16_7
      try clear hcz20_0
      try clear hcz20_1
      try clear hcz21_0
      try clear hcz21_1
      try clear hcz21_2
      try clear hcz21_3
      try clear hcz21_4
      try clear hcz21_5
      try clear hcz21_6
      try clear hcz21_7
      try clear hcz23_0
      try clear hcz23_1
      try clear hcz32_0
      try clear hcz32_1
      try clear hcz33_0
      try clear hcz33_1
      try clear hcz33_2
      try clear hcz33_3
      try clear hcz33_4
      try clear hcz33_5
      try clear hcz33_6
      try clear hcz33_7
      try clear hcz35_0
      try clear hcz35_1
      try clear hcz37_0
      try clear hcz37_1
      try clear hcz37_2
      try clear hcz37_3
      try clear hcz37_4
      try clear hcz37_5
      try clear hcz37_6
      try clear hcz37_7
      try clear hcz51_0
      try clear hcz51_1
      try clear hcz51_2
      try clear hcz51_3
      try clear hcz51_4
      try clear hcz51_5
      try clear hcz51_6
      try clear hcz51_7
      try clear hfz14_0
      try clear hfz14_1
      try clear hfz14_2
      try clear hfz14_3
      try clear hfz14_4
      try clear hfz14_5
      try clear hfz14_6
      try clear hfz14_7
      try clear hfz16_0
      try clear hfz16_1
      try clear hfz16_2
      try clear hfz16_3
      try clear hfz16_4
      try clear hfz16_5
      try clear hfz16_6
      try clear hfz16_7
      try clear hfz20_0
      try clear hfz20_1
      try clear hfz21_0
      try clear hfz21_1
      try clear hfz21_2
      try clear hfz21_3
      try clear hfz21_4
      try clear hfz21_5
      try clear hfz21_6
      try clear hfz21_7
      try clear hfz23_0
      try clear hfz23_1
      try clear hfz32_0
      try clear hfz32_1
      try clear hfz33_0
      try clear hfz33_1
      try clear hfz33_2
      try clear hfz33_3
      try clear hfz33_4
      try clear hfz33_5
      try clear hfz33_6
      try clear hfz33_7
      try clear hfz35_0
      try clear hfz35_1
      try clear hfz37_0
      try clear hfz37_1
      try clear hfz37_2
      try clear hfz37_3
      try clear hfz37_4
      try clear hfz37_5
      try clear hfz37_6
      try clear hfz37_7
      try clear hfz51_0
      try clear hfz51_1
      try clear hfz51_2
      try clear hfz51_3
      try clear hfz51_4
      try clear hfz51_5
      try clear hfz51_6
      try clear hfz51_7
      try clear p2
      obtain ⟨kq, x192000_47, x192001_47, u192001, HA, HJ47, HO_192001, BK188, BK189, BK191, HB⟩ := hcut
      cases kq with
      | zero => exact absurd HA.out (by simp [spec_ReqMsg.j1])
      | succ kj47 =>
       have H := HA.out
       clear HA
       simp only [spec_ReqMsg.j1] at H
       by_cases c62 : a0_0 = 1
       ·rw [if_pos c62] at H
        have c62b0 : (a0_0 == 1) = true := beq_iff_eq.mpr c62
        have c62b1 : (a0_0 != 1) = false := bne_eq_false_iff_eq.mpr c62
        clear c62
        obtain ⟨t222, A63, H⟩ := ob_ H
        obtain ⟨⟨t223, t224, t227⟩, A64, H⟩ := ob_ H
        (try dsimp only at H)
        by_cases c65 : a0_0 = 6
        ·rw [if_pos c65] at H
         have c65b0 : (a0_0 == 6) = true := beq_iff_eq.mpr c65
         have c65b1 : (a0_0 != 6) = false := bne_eq_false_iff_eq.mpr c65
         clear c65
         obtain ⟨⟨t228, t229, t232⟩, A66, H⟩ := ob_ H
         (try dsimp only at H)
         simp only [Option.some.injEq, Prod.mk.injEq] at H
         obtain ⟨rfl, rfl, rfl⟩ := H
         have hnb67 := NB188_189.out
         have hnc67 := NB189_188.out
         have hnb68 := NB188_191.out
         have hnc68 := NB191_188.out
         have hcz69_0 := cz_ BK188 0 (.int .i64 a0_0)
         have hcz69_1 := cz_ BK188 1 (.string a0_1)
         have hcz69_2 := cz_ BK188 2 (.string a0_2)
         have hcz69_3 := cz_ BK188 3 (.string a0_3)
         have hcz69_4 := cz_ BK188 4 (.string a0_4)
         have hcz69_5 := cz_ BK188 5 (.string a0_5)
         have hcz69_6 := cz_ BK188 6 (.int .i64 a0_6)
         have hcz69_7 := cz_ BK188 7 (.int .i64 a0_7)
         have hfz69_0 := fz_ BK188 0
         have hfz69_1 := fz_ BK188 1
         have hfz69_2 := fz_ BK188 2
         have hfz69_3 := fz_ BK188 3
         have hfz69_4 := fz_ BK188 4
         have hfz69_5 := fz_ BK188 5
         have hfz69_6 := fz_ BK188 6
         have hfz69_7 := fz_ BK188 7
         try go_wp2
         have n0_ := Aside0.mk (Kd.R_drew HO_192001.out)
         have n1_ := Aside0.mk (blk_drew BK188.out)
         have n2_ := Aside0.mk (blk_drew BK189.out)
         have n3_ := Aside0.mk (blk_drew BK191.out)
         have n4_ := Aside0.mk (below_drew1 HB.out)
         clear HO_192001
         clear BK188
         clear BK189
         clear BK191
         clear HB
         have HO_192001 := n0_
         have BK188 := n1_
         have BK189 := n2_
         have BK191 := n3_
         have HB := n4_
         clear n0_ n1_ n2_ n3_ n4_
         refine start_ (n := 9) (S := fun w' => w'.cell? ⟨gb191, 0, none⟩ = some (.string x192000_47) ∧ w'.cell? ⟨gb191, 1, none⟩ = some (u192001) ∧ w'.cell? ⟨gb188, 0, none⟩ = some (.int .i64 a0_0) ∧ w'.cell? ⟨gb188, 1, none⟩ = some (.string a0_1) ∧ w'.cell? ⟨gb188, 2, none⟩ = some (.string a0_2) ∧ w'.cell? ⟨gb188, 3, none⟩ = some (.string a0_3) ∧ w'.cell? ⟨gb188, 4, none⟩ = some (.string a0_4) ∧ w'.cell? ⟨gb188, 5, none⟩ = some (.string a0_5) ∧ w'.cell? ⟨gb188, 6, none⟩ = some (.int .i64 a0_6) ∧ w'.cell? ⟨gb188, 7, none⟩ = some (.int .i64 a0_7)) (ds := [8]) tb9_0_9 (by kernel_rfl) rfl rfl ⟨cy_ BK191 0, cy_ BK191 1, cy_ BK188 0, cy_ BK188 1, cy_ BK188 2, cy_ BK188 3, cy_ BK188 4, cy_ BK188 5, cy_ BK188 6, cy_ BK188 7⟩ (fun hHeld => ?_); refine with_tabW spec_ReqMsg.tab12 spec_ReqMsg.bits12 (fun HT_ HW_ => ?_)
         generalize wc.drew = w70 at HO_192001 BK188 BK189 BK191 HB hHeld ⊢
         refine pl_ HT_ 1 62 tb9_2_9 ?_
         refine take_ (i := 0) (N := some 61) (v := ?_) (a' := ?_) tb9_3_9 rfl rfl (take_ofW HT_.out HW_.out (by kernel_rfl)) (fun _ _ _ h => h) (Or.inl ⟨by rfl, ?_⟩) hHeld ?_ ?_
         rotate_left
         ·rintro w' ⟨s0, s1, s2, s3, s4, s5, s6, s7, s8, s9⟩
          go_simp
          with_reducible rfl
         rotate_left
         ·simp only [Act.put, q_]
          rfl
         refine take_ (i := 2) (N := some 63) (v := ?_) (a' := ?_) tb9_7_9 rfl rfl (take_ofW HT_.out HW_.out (by kernel_rfl)) (fun _ _ _ h => h) (Or.inl ⟨by rfl, ?_⟩) hHeld ?_ ?_
         rotate_left
         ·rintro w' ⟨s0, s1, s2, s3, s4, s5, s6, s7, s8, s9⟩
          go_simp
          with_reducible rfl
         rotate_left
         ·simp only [Act.put, q_]
          rfl
         refine one_ (i := 3) (N := some 64) tb9_f_9 rfl rfl (one_of HT_.out (by kernel_rfl)) (by decide) (fun K hK => ?_)
         refine goes_ Tryd.func35 (by kernel_rfl) rfl #[.int .i64 a0_7, .int .i64 4] (by rfl) rfl rfl gl_ ?_
         with_reducible refine (spec_Wide.calls kj47 a0_7 4 t222 _ A63.out).mono ?_
         rintro e w71 ⟨rfl, hb⟩
         refine ⟨_, rfl, ?_⟩
         have n0_ := Aside0.mk (Kd.R_below (ra_ HO_192001) hb)
         have n1_ := Aside0.mk (blk_below (bk_ BK188) hb)
         have n2_ := Aside0.mk (blk_below (bk_ BK189) hb)
         have n3_ := Aside0.mk (blk_below (bk_ BK191) hb)
         have n4_ := Aside0.mk (below_step bl_ hb)
         clear HO_192001
         clear BK188
         clear BK189
         clear BK191
         clear HB
         have HO_192001 := n0_
         have BK188 := n1_
         have BK189 := n2_
         have BK191 := n3_
         have HB := n4_
         clear n0_ n1_ n2_ n3_ n4_
         (try clear hb)
         (try clear hb2)
         (try clear hk)
         (try clear hi)
         obtain ⟨Ao72, co72, eo72⟩ := Kd.R_slice HO_192001.out
         (first | subst eo72 | (injection eo72 with f1_ f2_ f3_; have f4_ := f1_.symm; have f5_ := f3_.symm; clear f1_ f2_ f3_; subst f4_; subst f5_))
         refine hK.out _ _ ⟨cy_ BK191 0, cy_ BK191 1, cy_ BK188 0, cy_ BK188 1, cy_ BK188 2, cy_ BK188 3, cy_ BK188 4, cy_ BK188 5, cy_ BK188 6, cy_ BK188 7⟩ (fun hHeld => ?_)
         clear hK K
         refine norm_ (a' := ?_) ?_ ?_
         rotate_left
         ·show Act.put _ (some 64) _ = _
          simp only [Act.put, q_]
          rfl
         refine one_ (i := 4) (N := some 65) tb9_1f_9 rfl rfl (one_of HT_.out (by kernel_rfl)) (by decide) (fun K hK => ?_)
         refine goes_ Tryd.func30 (by kernel_rfl) rfl #[.agg #[.string x192000_47, .slice Ao72 x192001_47.length co72], .int .i64 14, .string t222] (by rfl) rfl rfl gl_ ?_
         with_reducible refine (spec_WithField.calls kj47 x192000_47 _ _ x192001_47 14 t222 t223 t224 t227 _ ?side1 ?side2 A64.out).mono ?_
         (case side1 => exact ca_ ((Kd.R_reads' HO_192001.out).2.2))
         (case side2 => exact (Kd.R_reads' HO_192001.out).2.1)
         rintro e w73 ⟨v225, rfl, ho0, hb⟩
         refine ⟨_, rfl, ?_⟩
         have n0_ := Aside0.mk (Kd.R_elder' (ra_ HO_192001) (Kd.R_base ho0) hb)
         have n1_ := Aside0.mk (Kd.R_lower (Kd.R_new' ho0 (Kd.R_lt (ra_ HO_192001))) (below_size bl_))
         have n2_ := Aside0.mk (blk_below (bk_ BK188) hb)
         have n3_ := Aside0.mk (blk_below (bk_ BK189) hb)
         have n4_ := Aside0.mk (blk_below (bk_ BK191) hb)
         have n5_ := Aside0.mk (below_step bl_ hb)
         clear HO_192001
         clear BK188
         clear BK189
         clear BK191
         clear HB
         have HO_192001 := n0_
         have HO226 := n1_
         have BK188 := n2_
         have BK189 := n3_
         have BK191 := n4_
         have HB := n5_
         clear n0_ n1_ n2_ n3_ n4_ n5_
         (try clear hb)
         (try clear hb2)
         (try clear hk)
         (try clear hi)
         (try clear ho0)
         obtain ⟨Ao75, co75, eo75⟩ := Kd.R_slice HO226.out
         (first | subst eo75 | (injection eo75 with f1_ f2_ f3_; have f4_ := f1_.symm; have f5_ := f3_.symm; clear f1_ f2_ f3_; subst f4_; subst f5_))
         refine hK.out _ _ ⟨cy_ BK191 0, cy_ BK191 1, cy_ BK188 0, cy_ BK188 1, cy_ BK188 2, cy_ BK188 3, cy_ BK188 4, cy_ BK188 5, cy_ BK188 6, cy_ BK188 7⟩ (fun hHeld => ?_)
         clear hK K
         refine norm_ (a' := ?_) ?_ ?_
         rotate_left
         ·show Act.put _ (some 65) _ = _
          simp only [Act.put, q_]
          rfl
         refine pl_ HT_ 5 60 tb9_3f_9 ?_
         refine pl_ HT_ 6 66 tb9_7f_9 ?_
         refine pl_ HT_ 7 67 tb9_ff_9 ?_
         refine last_ (i := 8) (N := none) tb9_1ff_9 rfl rfl (one_of HT_.out (by kernel_rfl)) (by decide) (fun K hK => ?_)
         have hs74 : w73.cell? ⟨gb191, 0, none⟩ = some (.string x192000_47) := cy_ BK191 0
         have hfs74 := fz_ BK191 0
         have hns74_0 := NB188_191.out
         have hns74_1 := NB189_191.out
         have hms74_0 := NB191_188.out
         have hms74_1 := NB191_189.out
         have hs76 : w73.cell? ⟨gb191, 1, none⟩ = some (.slice Ao72 x192001_47.length co72) := cy_ BK191 1
         have hfs76 := fz_ BK191 1
         have hns76_0 := NB188_191.out
         have hns76_1 := NB189_191.out
         have hms76_0 := NB191_188.out
         have hms76_1 := NB191_189.out
         refine skip_ (w1 := ?_) (by rfl) rfl ?_ ?_
         rotate_left
         ·go_simp
          rfl
         refine hK.out _ _ ?_
         clear hK K
         refine done_ (done_of HT_.out (by kernel_rfl)) ?_
         have hcz77_0 := cz_ BK188 0 (.int .i64 a0_0)
         have hcz77_1 := cz_ BK188 1 (.string a0_1)
         have hcz77_2 := cz_ BK188 2 (.string a0_2)
         have hcz77_3 := cz_ BK188 3 (.string a0_3)
         have hcz77_4 := cz_ BK188 4 (.string a0_4)
         have hcz77_5 := cz_ BK188 5 (.string a0_5)
         have hcz77_6 := cz_ BK188 6 (.int .i64 a0_6)
         have hcz77_7 := cz_ BK188 7 (.int .i64 a0_7)
         have hfz77_0 := fz_ BK188 0
         have hfz77_1 := fz_ BK188 1
         have hfz77_2 := fz_ BK188 2
         have hfz77_3 := fz_ BK188 3
         have hfz77_4 := fz_ BK188 4
         have hfz77_5 := fz_ BK188 5
         have hfz77_6 := fz_ BK188 6
         have hfz77_7 := fz_ BK188 7
         have hnb78 := NB191_189.out
         have hnc78 := NB189_191.out
         have hcz79_0 := cz_ BK191 0 (.string x192000_47)
         have hcz79_1 := cz_ BK191 1 (.slice Ao72 x192001_47.length co72)
         have hfz79_0 := fz_ BK191 0
         have hfz79_1 := fz_ BK191 1
         try go_wp2_with (first | ((with_reducible refine gate_callee (f := 30) rfl ?_); refine goesL_ (some 75) rfl rfl Tryd.func30 (by kernel_rfl) rfl #[.agg #[.string t223, .slice Ao75 t224.length co75], .int .i64 103, .string a0_2] rfl gl_ ?_; (with_reducible refine (spec_WithField.calls kj47 t223 _ _ t224 103 a0_2 t228 t229 t232 _ ?side1 ?side2 A66.out).mono ?_); (case side1 => refine (Kd.R_reads' (e := 67) (base := w.heap.size) (ok := fun k_ => (True ∧ some k_ ≠ (.slice Ao72 x192001_47.length co72 : Value).ownBlock)) (n := t224.length) (c := co75) ?_).2.2; exact (by (with_reducible repeat (first | apply Kd.R_alloc | apply Kd.R_drewN | apply Kd.R_drew)); exact (Kd.R_mono (Kd.R_far (p := ⟨gb191, 1, none⟩) (Kd.R_far (p := ⟨gb191, 0, none⟩) (Kd.R_types HO226.out BK191.out (by decide)) (fun _ hk => hk.2) (.string t223)) (fun _ hk => hk.2) (.slice Ao75 t224.length co75)) (fun _ h_ => h_.1)))); (case side2 => exact (Kd.R_reads' HO226.out).2.1); rintro e w80 ⟨v230, rfl, ho0, hb⟩; refine ⟨_, rfl, ?_⟩; have HO231 := Aside0.mk (Kd.R_lower (Kd.R_new' (Kd.R_new' ho0 (Kd.R_lt (by (with_reducible repeat (first | apply Kd.R_alloc | apply Kd.R_drewN | apply Kd.R_drew)); exact (Kd.R_mono (Kd.R_far (p := ⟨gb191, 1, none⟩) (Kd.R_far (p := ⟨gb191, 0, none⟩) (Kd.R_types HO_192001.out BK191.out (by decide)) (fun _ hk => hk.2) (.string t223)) (fun _ hk => hk.2) (.slice Ao75 t224.length co75)) (fun _ h_ => h_.1))))) (Kd.R_lt (by (with_reducible repeat (first | apply Kd.R_alloc | apply Kd.R_drewN | apply Kd.R_drew)); exact (Kd.R_mono (Kd.R_far (p := ⟨gb191, 1, none⟩) (Kd.R_far (p := ⟨gb191, 0, none⟩) (Kd.R_types HO226.out BK191.out (by decide)) (fun _ hk => hk.2) (.string t223)) (fun _ hk => hk.2) (.slice Ao75 t224.length co75)) (fun _ h_ => h_.1))))) (below_size bl_)); replace HO_192001 := Aside0.mk (Kd.R_elder' (by (with_reducible repeat (first | apply Kd.R_alloc | apply Kd.R_drewN | apply Kd.R_drew)); exact (Kd.R_mono (Kd.R_far (p := ⟨gb191, 1, none⟩) (Kd.R_far (p := ⟨gb191, 0, none⟩) (Kd.R_types HO_192001.out BK191.out (by decide)) (fun _ hk => hk.2) (.string t223)) (fun _ hk => hk.2) (.slice Ao75 t224.length co75)) (fun _ h_ => h_.1))) (Kd.R_base ho0) hb); replace HO226 := Aside0.mk (Kd.R_elder' (by (with_reducible repeat (first | apply Kd.R_alloc | apply Kd.R_drewN | apply Kd.R_drew)); exact (Kd.R_mono (Kd.R_far (p := ⟨gb191, 1, none⟩) (Kd.R_far (p := ⟨gb191, 0, none⟩) (Kd.R_types HO226.out BK191.out (by decide)) (fun _ hk => hk.2) (.string t223)) (fun _ hk => hk.2) (.slice Ao75 t224.length co75)) (fun _ h_ => h_.1))) (Kd.R_base ho0) hb); replace BK188 := Aside0.mk (blk_below (g := gb188) (o := .cells #[.int .i64 a0_0, .string a0_1, .string a0_2, .string a0_3, .string a0_4, .string a0_5, .int .i64 a0_6, .int .i64 a0_7] 45 (0, 0)) (by (with_reducible repeat (first | refine blk_drewN ?_ _ | refine blk_drew ?_ | refine blk_alloc ?_ _)); refine blk_far ?_ NB188_191.out _; (with_reducible repeat (first | refine blk_drewN ?_ _ | refine blk_drew ?_ | refine blk_alloc ?_ _)); refine blk_far ?_ NB188_191.out _; (with_reducible repeat (first | refine blk_drewN ?_ _ | refine blk_drew ?_ | refine blk_alloc ?_ _)); exact BK188.out) hb); replace BK189 := Aside0.mk (blk_below (g := gb189) (o := .cells #[.string (⟨#[]⟩ : ByteArray), .slice none 0 0] 42 (0, 0)) (by (with_reducible repeat (first | refine blk_drewN ?_ _ | refine blk_drew ?_ | refine blk_alloc ?_ _)); refine blk_far ?_ NB189_191.out _; (with_reducible repeat (first | refine blk_drewN ?_ _ | refine blk_drew ?_ | refine blk_alloc ?_ _)); refine blk_far ?_ NB189_191.out _; (with_reducible repeat (first | refine blk_drewN ?_ _ | refine blk_drew ?_ | refine blk_alloc ?_ _)); exact BK189.out) hb); replace BK191 := Aside0.mk (blk_below (g := gb191) (o := .cells #[.string t223, .slice Ao75 t224.length co75] 42 (0, 0)) (by (with_reducible repeat (first | refine blk_drewN ?_ _ | refine blk_drew ?_ | refine blk_alloc ?_ _)); apply bq2_1_0_; (with_reducible repeat (first | refine blk_drewN ?_ _ | refine blk_drew ?_ | refine blk_alloc ?_ _)); exact BK191.out) hb); replace HB := Aside0.mk (below_step bl_ hb); (try clear hb); (try clear hb2); (try clear hk); (try clear hi); (try clear ho0); obtain ⟨hcz81_0, hcz81_1, hfz81_0, hfz81_1⟩ := bx2_ BK191; obtain ⟨Ao82, co82, eo82⟩ := Kd.R_slice HO231.out; subst eo82; obtain ⟨hcz83_0, hcz83_1, hfz83_0, hfz83_1⟩ := bx2_ BK189))
         refine bodyPost_ret (results_ct rfl _ _ gb189 42 #[.string t228, .slice Ao82 t229.length co82] (0, 0) _ rfl (by (with_reducible repeat (first | refine blk_drewN ?_ _ | refine blk_drew ?_ | refine blk_alloc ?_ _)); apply bq2_1_0_; (with_reducible repeat (first | refine blk_drewN ?_ _ | refine blk_drew ?_ | refine blk_alloc ?_ _)); refine blk_far ?_ NB189_191.out _; (with_reducible repeat (first | refine blk_drewN ?_ _ | refine blk_drew ?_ | refine blk_alloc ?_ _)); refine blk_far ?_ NB189_191.out _; (with_reducible repeat (first | refine blk_drewN ?_ _ | refine blk_drew ?_ | refine blk_alloc ?_ _)); exact BK189.out) Tryd.underlying42 rfl (by kernel_rfl)) rfl ?_
         exact ⟨_, by first | rfl | (simp [errW_none, errW_some] <;> rfl) | (simp [*, errW_none, errW_some] <;> rfl), by (with_reducible repeat (first | apply Kd.R_alloc | apply Kd.R_drewN | apply Kd.R_drew)); exact Kd.R_mono (Kd.R_far (p := ⟨gb189, 1, none⟩) (Kd.R_far (p := ⟨gb189, 0, none⟩) (Kd.R_far (p := ⟨gb191, 1, none⟩) (Kd.R_far (p := ⟨gb191, 0, none⟩) (Kd.R_types (Kd.R_types HO231.out BK191.out (by decide)) BK189.out (by decide)) (fun _ hk => hk.1.2) (.string t228)) (fun _ hk => hk.1.2) (.slice Ao82 t229.length co82)) (fun _ hk => hk.2) (.string t228)) (fun _ hk => hk.2) (.slice Ao82 t229.length co82)) (fun _ hk => trivial), bl_⟩
        ·rw [if_neg c65] at H
         have c65b0 : (a0_0 == 6) = false := beq_eq_false_iff_ne.mpr c65
         have c65b1 : (a0_0 != 6) = true := bne_iff_ne.mpr c65
         simp only [Option.some.injEq, Prod.mk.injEq] at H
         obtain ⟨rfl, rfl, rfl⟩ := H
         have hnb84 := NB188_189.out
         have hnc84 := NB189_188.out
         have hnb85 := NB188_191.out
         have hnc85 := NB191_188.out
         have hcz86_0 := cz_ BK188 0 (.int .i64 a0_0)
         have hcz86_1 := cz_ BK188 1 (.string a0_1)
         have hcz86_2 := cz_ BK188 2 (.string a0_2)
         have hcz86_3 := cz_ BK188 3 (.string a0_3)
         have hcz86_4 := cz_ BK188 4 (.string a0_4)
         have hcz86_5 := cz_ BK188 5 (.string a0_5)
         have hcz86_6 := cz_ BK188 6 (.int .i64 a0_6)
         have hcz86_7 := cz_ BK188 7 (.int .i64 a0_7)
         have hfz86_0 := fz_ BK188 0
         have hfz86_1 := fz_ BK188 1
         have hfz86_2 := fz_ BK188 2
         have hfz86_3 := fz_ BK188 3
         have hfz86_4 := fz_ BK188 4
         have hfz86_5 := fz_ BK188 5
         have hfz86_6 := fz_ BK188 6
         have hfz86_7 := fz_ BK188 7
         try go_wp2
         have n0_ := Aside0.mk (Kd.R_drew HO_192001.out)
         have n1_ := Aside0.mk (blk_drew BK188.out)
         have n2_ := Aside0.mk (blk_drew BK189.out)
         have n3_ := Aside0.mk (blk_drew BK191.out)
         have n4_ := Aside0.mk (below_drew1 HB.out)
         clear HO_192001
         clear BK188
         clear BK189
         clear BK191
         clear HB
         have HO_192001 := n0_
         have BK188 := n1_
         have BK189 := n2_
         have BK191 := n3_
         have HB := n4_
         clear n0_ n1_ n2_ n3_ n4_
         refine start_ (n := 9) (S := fun w' => w'.cell? ⟨gb191, 0, none⟩ = some (.string x192000_47) ∧ w'.cell? ⟨gb191, 1, none⟩ = some (u192001) ∧ w'.cell? ⟨gb188, 0, none⟩ = some (.int .i64 a0_0) ∧ w'.cell? ⟨gb188, 1, none⟩ = some (.string a0_1) ∧ w'.cell? ⟨gb188, 2, none⟩ = some (.string a0_2) ∧ w'.cell? ⟨gb188, 3, none⟩ = some (.string a0_3) ∧ w'.cell? ⟨gb188, 4, none⟩ = some (.string a0_4) ∧ w'.cell? ⟨gb188, 5, none⟩ = some (.string a0_5) ∧ w'.cell? ⟨gb188, 6, none⟩ = some (.int .i64 a0_6) ∧ w'.cell? ⟨gb188, 7, none⟩ = some (.int .i64 a0_7)) (ds := [8]) tb9_0_9 (by kernel_rfl) rfl rfl ⟨cy_ BK191 0, cy_ BK191 1, cy_ BK188 0, cy_ BK188 1, cy_ BK188 2, cy_ BK188 3, cy_ BK188 4, cy_ BK188 5, cy_ BK188 6, cy_ BK188 7⟩ (fun hHeld => ?_); refine with_tabW spec_ReqMsg.tab12 spec_ReqMsg.bits12 (fun HT_ HW_ => ?_)
         generalize wc.drew = w87 at HO_192001 BK188 BK189 BK191 HB hHeld ⊢
         refine pl_ HT_ 1 62 tb9_2_9 ?_
         refine take_ (i := 0) (N := some 61) (v := ?_) (a' := ?_) tb9_3_9 rfl rfl (take_ofW HT_.out HW_.out (by kernel_rfl)) (fun _ _ _ h => h) (Or.inl ⟨by rfl, ?_⟩) hHeld ?_ ?_
         rotate_left
         ·rintro w' ⟨s0, s1, s2, s3, s4, s5, s6, s7, s8, s9⟩
          go_simp
          with_reducible rfl
         rotate_left
         ·simp only [Act.put, q_]
          rfl
         refine take_ (i := 2) (N := some 63) (v := ?_) (a' := ?_) tb9_7_9 rfl rfl (take_ofW HT_.out HW_.out (by kernel_rfl)) (fun _ _ _ h => h) (Or.inl ⟨by rfl, ?_⟩) hHeld ?_ ?_
         rotate_left
         ·rintro w' ⟨s0, s1, s2, s3, s4, s5, s6, s7, s8, s9⟩
          go_simp
          with_reducible rfl
         rotate_left
         ·simp only [Act.put, q_]
          rfl
         refine one_ (i := 3) (N := some 64) tb9_f_9 rfl rfl (one_of HT_.out (by kernel_rfl)) (by decide) (fun K hK => ?_)
         refine goes_ Tryd.func35 (by kernel_rfl) rfl #[.int .i64 a0_7, .int .i64 4] (by rfl) rfl rfl gl_ ?_
         with_reducible refine (spec_Wide.calls kj47 a0_7 4 t222 _ A63.out).mono ?_
         rintro e w88 ⟨rfl, hb⟩
         refine ⟨_, rfl, ?_⟩
         have n0_ := Aside0.mk (Kd.R_below (ra_ HO_192001) hb)
         have n1_ := Aside0.mk (blk_below (bk_ BK188) hb)
         have n2_ := Aside0.mk (blk_below (bk_ BK189) hb)
         have n3_ := Aside0.mk (blk_below (bk_ BK191) hb)
         have n4_ := Aside0.mk (below_step bl_ hb)
         clear HO_192001
         clear BK188
         clear BK189
         clear BK191
         clear HB
         have HO_192001 := n0_
         have BK188 := n1_
         have BK189 := n2_
         have BK191 := n3_
         have HB := n4_
         clear n0_ n1_ n2_ n3_ n4_
         (try clear hb)
         (try clear hb2)
         (try clear hk)
         (try clear hi)
         obtain ⟨Ao89, co89, eo89⟩ := Kd.R_slice HO_192001.out
         (first | subst eo89 | (injection eo89 with f1_ f2_ f3_; have f4_ := f1_.symm; have f5_ := f3_.symm; clear f1_ f2_ f3_; subst f4_; subst f5_))
         refine hK.out _ _ ⟨cy_ BK191 0, cy_ BK191 1, cy_ BK188 0, cy_ BK188 1, cy_ BK188 2, cy_ BK188 3, cy_ BK188 4, cy_ BK188 5, cy_ BK188 6, cy_ BK188 7⟩ (fun hHeld => ?_)
         clear hK K
         refine norm_ (a' := ?_) ?_ ?_
         rotate_left
         ·show Act.put _ (some 64) _ = _
          simp only [Act.put, q_]
          rfl
         refine one_ (i := 4) (N := some 65) tb9_1f_9 rfl rfl (one_of HT_.out (by kernel_rfl)) (by decide) (fun K hK => ?_)
         refine goes_ Tryd.func30 (by kernel_rfl) rfl #[.agg #[.string x192000_47, .slice Ao89 x192001_47.length co89], .int .i64 14, .string t222] (by rfl) rfl rfl gl_ ?_
         with_reducible refine (spec_WithField.calls kj47 x192000_47 _ _ x192001_47 14 t222 t223 t224 t227 _ ?side1 ?side2 A64.out).mono ?_
         (case side1 => exact ca_ ((Kd.R_reads' HO_192001.out).2.2))
         (case side2 => exact (Kd.R_reads' HO_192001.out).2.1)
         rintro e w90 ⟨v225, rfl, ho0, hb⟩
         refine ⟨_, rfl, ?_⟩
         have n0_ := Aside0.mk (Kd.R_elder' (ra_ HO_192001) (Kd.R_base ho0) hb)
         have n1_ := Aside0.mk (Kd.R_lower (Kd.R_new' ho0 (Kd.R_lt (ra_ HO_192001))) (below_size bl_))
         have n2_ := Aside0.mk (blk_below (bk_ BK188) hb)
         have n3_ := Aside0.mk (blk_below (bk_ BK189) hb)
         have n4_ := Aside0.mk (blk_below (bk_ BK191) hb)
         have n5_ := Aside0.mk (below_step bl_ hb)
         clear HO_192001
         clear BK188
         clear BK189
         clear BK191
         clear HB
         have HO_192001 := n0_
         have HO226 := n1_
         have BK188 := n2_
         have BK189 := n3_
         have BK191 := n4_
         have HB := n5_
         clear n0_ n1_ n2_ n3_ n4_ n5_
         (try clear hb)
         (try clear hb2)
         (try clear hk)
         (try clear hi)
         (try clear ho0)
         obtain ⟨Ao92, co92, eo92⟩ := Kd.R_slice HO226.out
         (first | subst eo92 | (injection eo92 with f1_ f2_ f3_; have f4_ := f1_.symm; have f5_ := f3_.symm; clear f1_ f2_ f3_; subst f4_; subst f5_))
         refine hK.out _ _ ⟨cy_ BK191 0, cy_ BK191 1, cy_ BK188 0, cy_ BK188 1, cy_ BK188 2, cy_ BK188 3, cy_ BK188 4, cy_ BK188 5, cy_ BK188 6, cy_ BK188 7⟩ (fun hHeld => ?_)
         clear hK K
         refine norm_ (a' := ?_) ?_ ?_
         rotate_left
         ·show Act.put _ (some 65) _ = _
          simp only [Act.put, q_]
          rfl
         refine pl_ HT_ 5 60 tb9_3f_9 ?_
         refine pl_ HT_ 6 66 tb9_7f_9 ?_
         refine pl_ HT_ 7 67 tb9_ff_9 ?_
         refine last_ (i := 8) (N := none) tb9_1ff_9 rfl rfl (one_of HT_.out (by kernel_rfl)) (by decide) (fun K hK => ?_)
         have hs91 : w90.cell? ⟨gb191, 0, none⟩ = some (.string x192000_47) := cy_ BK191 0
         have hfs91 := fz_ BK191 0
         have hns91_0 := NB188_191.out
         have hns91_1 := NB189_191.out
         have hms91_0 := NB191_188.out
         have hms91_1 := NB191_189.out
         have hs93 : w90.cell? ⟨gb191, 1, none⟩ = some (.slice Ao89 x192001_47.length co89) := cy_ BK191 1
         have hfs93 := fz_ BK191 1
         have hns93_0 := NB188_191.out
         have hns93_1 := NB189_191.out
         have hms93_0 := NB191_188.out
         have hms93_1 := NB191_189.out
         refine skip_ (w1 := ?_) (by rfl) rfl ?_ ?_
         rotate_left
         ·go_simp
          rfl
         refine hK.out _ _ ?_
         clear hK K
         refine done_ (done_of HT_.out (by kernel_rfl)) ?_
         have hcz94_0 := cz_ BK188 0 (.int .i64 a0_0)
         have hcz94_1 := cz_ BK188 1 (.string a0_1)
         have hcz94_2 := cz_ BK188 2 (.string a0_2)
         have hcz94_3 := cz_ BK188 3 (.string a0_3)
         have hcz94_4 := cz_ BK188 4 (.string a0_4)
         have hcz94_5 := cz_ BK188 5 (.string a0_5)
         have hcz94_6 := cz_ BK188 6 (.int .i64 a0_6)
         have hcz94_7 := cz_ BK188 7 (.int .i64 a0_7)
         have hfz94_0 := fz_ BK188 0
         have hfz94_1 := fz_ BK188 1
         have hfz94_2 := fz_ BK188 2
         have hfz94_3 := fz_ BK188 3
         have hfz94_4 := fz_ BK188 4
         have hfz94_5 := fz_ BK188 5
         have hfz94_6 := fz_ BK188 6
         have hfz94_7 := fz_ BK188 7
         have hnb95 := NB191_189.out
         have hnc95 := NB189_191.out
         have hcz96_0 := cz_ BK191 0 (.string x192000_47)
         have hcz96_1 := cz_ BK191 1 (.slice Ao89 x192001_47.length co89)
         have hfz96_0 := fz_ BK191 0
         have hfz96_1 := fz_ BK191 1
         have hcz97_0 := cz_ BK189 0 (.string (⟨#[]⟩ : ByteArray))
         have hcz97_1 := cz_ BK189 1 (.slice none 0 0)
         have hfz97_0 := fz_ BK189 0
         have hfz97_1 := fz_ BK189 1
         try go_wp2
         refine bodyPost_ret (results_ct rfl _ _ gb189 42 #[.string t223, .slice Ao92 t224.length co92] (0, 0) _ rfl (by (with_reducible repeat (first | refine blk_drewN ?_ _ | refine blk_drew ?_ | refine blk_alloc ?_ _)); apply bq2_1_0_; (with_reducible repeat (first | refine blk_drewN ?_ _ | refine blk_drew ?_ | refine blk_alloc ?_ _)); refine blk_far ?_ NB189_191.out _; (with_reducible repeat (first | refine blk_drewN ?_ _ | refine blk_drew ?_ | refine blk_alloc ?_ _)); refine blk_far ?_ NB189_191.out _; (with_reducible repeat (first | refine blk_drewN ?_ _ | refine blk_drew ?_ | refine blk_alloc ?_ _)); exact BK189.out) Tryd.underlying42 rfl (by kernel_rfl)) rfl ?_
         exact ⟨_, by first | rfl | (simp [errW_none, errW_some] <;> rfl) | (simp [*, errW_none, errW_some] <;> rfl), by (with_reducible repeat (first | apply Kd.R_alloc | apply Kd.R_drewN | apply Kd.R_drew)); exact Kd.R_mono (Kd.R_far (p := ⟨gb189, 1, none⟩) (Kd.R_far (p := ⟨gb189, 0, none⟩) (Kd.R_far (p := ⟨gb191, 1, none⟩) (Kd.R_far (p := ⟨gb191, 0, none⟩) (Kd.R_types (Kd.R_types HO226.out BK191.out (by decide)) BK189.out (by decide)) (fun _ hk => hk.1.2) (.string t223)) (fun _ hk => hk.1.2) (.slice Ao92 t224.length co92)) (fun _ hk => hk.2) (.string t223)) (fun _ hk => hk.2) (.slice Ao92 t224.length co92)) (fun _ hk => trivial), bl_⟩
       ·rw [if_neg c62] at H
        have c62b0 : (a0_0 == 1) = false := beq_eq_false_iff_ne.mpr c62
        have c62b1 : (a0_0 != 1) = true := bne_iff_ne.mpr c62
        by_cases c98 : a0_0 = 6
        ·rw [if_pos c98] at H
         have c98b0 : (a0_0 == 6) = true := beq_iff_eq.mpr c98
         have c98b1 : (a0_0 != 6) = false := bne_eq_false_iff_eq.mpr c98
         clear c98
         obtain ⟨⟨t233, t234, t237⟩, A99, H⟩ := ob_ H
         (try dsimp only at H)
         simp only [Option.some.injEq, Prod.mk.injEq] at H
         obtain ⟨rfl, rfl, rfl⟩ := H
         have hnb100 := NB188_189.out
         have hnc100 := NB189_188.out
         have hnb101 := NB188_191.out
         have hnc101 := NB191_188.out
         have hcz102_0 := cz_ BK188 0 (.int .i64 a0_0)
         have hcz102_1 := cz_ BK188 1 (.string a0_1)
         have hcz102_2 := cz_ BK188 2 (.string a0_2)
         have hcz102_3 := cz_ BK188 3 (.string a0_3)
         have hcz102_4 := cz_ BK188 4 (.string a0_4)
         have hcz102_5 := cz_ BK188 5 (.string a0_5)
         have hcz102_6 := cz_ BK188 6 (.int .i64 a0_6)
         have hcz102_7 := cz_ BK188 7 (.int .i64 a0_7)
         have hfz102_0 := fz_ BK188 0
         have hfz102_1 := fz_ BK188 1
         have hfz102_2 := fz_ BK188 2
         have hfz102_3 := fz_ BK188 3
         have hfz102_4 := fz_ BK188 4
         have hfz102_5 := fz_ BK188 5
         have hfz102_6 := fz_ BK188 6
         have hfz102_7 := fz_ BK188 7
         have hnb103 := NB191_189.out
         have hnc103 := NB189_191.out
         have hcz104_0 := cz_ BK191 0 (.string x192000_47)
         have hcz104_1 := cz_ BK191 1 (u192001)
         have hfz104_0 := fz_ BK191 0
         have hfz104_1 := fz_ BK191 1
         obtain ⟨Ao105, co105, eo105⟩ := Kd.R_slice HO_192001.out
         subst eo105
         go_wp2_with (first | ((with_reducible refine gate_callee (f := 30) rfl ?_); refine goesL_ (some 75) rfl rfl Tryd.func30 (by kernel_rfl) rfl #[.agg #[.string x192000_47, .slice Ao105 x192001_47.length co105], .int .i64 103, .string a0_2] rfl gl_ ?_; (with_reducible refine (spec_WithField.calls kj47 x192000_47 _ _ x192001_47 103 a0_2 t233 t234 t237 _ ?side1 ?side2 A99.out).mono ?_); (case side1 => exact ca_ ((Kd.R_reads' HO_192001.out).2.2)); (case side2 => exact (Kd.R_reads' HO_192001.out).2.1); rintro e w106 ⟨v235, rfl, ho0, hb⟩; refine ⟨_, rfl, ?_⟩; have HO236 := Aside0.mk (Kd.R_lower (Kd.R_new' ho0 (Kd.R_lt (ra_ HO_192001))) (below_size bl_)); replace HO_192001 := Aside0.mk (Kd.R_elder' (ra_ HO_192001) (Kd.R_base ho0) hb); replace BK188 := Aside0.mk (blk_below (bk_ BK188) hb); replace BK189 := Aside0.mk (blk_below (bk_ BK189) hb); replace BK191 := Aside0.mk (blk_below (bk_ BK191) hb); replace HB := Aside0.mk (below_step bl_ hb); (try clear hb); (try clear hb2); (try clear hk); (try clear hi); (try clear ho0); obtain ⟨hcz107_0, hcz107_1, hfz107_0, hfz107_1⟩ := bx2_ BK191; obtain ⟨Ao108, co108, eo108⟩ := Kd.R_slice HO236.out; subst eo108; obtain ⟨hcz109_0, hcz109_1, hfz109_0, hfz109_1⟩ := bx2_ BK189))
         refine bodyPost_ret (results_ct rfl _ _ gb189 42 #[.string t233, .slice Ao108 t234.length co108] (0, 0) _ rfl (by (with_reducible repeat (first | refine blk_drewN ?_ _ | refine blk_drew ?_ | refine blk_alloc ?_ _)); apply bq2_1_0_; (with_reducible repeat (first | refine blk_drewN ?_ _ | refine blk_drew ?_ | refine blk_alloc ?_ _)); refine blk_far ?_ NB189_191.out _; (with_reducible repeat (first | refine blk_drewN ?_ _ | refine blk_drew ?_ | refine blk_alloc ?_ _)); refine blk_far ?_ NB189_191.out _; (with_reducible repeat (first | refine blk_drewN ?_ _ | refine blk_drew ?_ | refine blk_alloc ?_ _)); exact BK189.out) Tryd.underlying42 rfl (by kernel_rfl)) rfl ?_
         exact ⟨_, by first | rfl | (simp [errW_none, errW_some] <;> rfl) | (simp [*, errW_none, errW_some] <;> rfl), by (with_reducible repeat (first | apply Kd.R_alloc | apply Kd.R_drewN | apply Kd.R_drew)); exact Kd.R_mono (Kd.R_far (p := ⟨gb189, 1, none⟩) (Kd.R_far (p := ⟨gb189, 0, none⟩) (Kd.R_far (p := ⟨gb191, 1, none⟩) (Kd.R_far (p := ⟨gb191, 0, none⟩) (Kd.R_types (Kd.R_types HO236.out BK191.out (by decide)) BK189.out (by decide)) (fun _ hk => hk.1.2) (.string t233)) (fun _ hk => hk.1.2) (.slice Ao108 t234.length co108)) (fun _ hk => hk.2) (.string t233)) (fun _ hk => hk.2) (.slice Ao108 t234.length co108)) (fun _ hk => trivial), bl_⟩
        ·rw [if_neg c98] at H
         have c98b0 : (a0_0 == 6) = false := beq_eq_false_iff_ne.mpr c98
         have c98b1 : (a0_0 != 6) = true := bne_iff_ne.mpr c98
         simp only [Option.some.injEq, Prod.mk.injEq] at H
         obtain ⟨rfl, rfl, rfl⟩ := H
         have hnb110 := NB188_189.out
         have hnc110 := NB189_188.out
         have hnb111 := NB188_191.out
         have hnc111 := NB191_188.out
         have hcz112_0 := cz_ BK188 0 (.int .i64 a0_0)
         have hcz112_1 := cz_ BK188 1 (.string a0_1)
         have hcz112_2 := cz_ BK188 2 (.string a0_2)
         have hcz112_3 := cz_ BK188 3 (.string a0_3)
         have hcz112_4 := cz_ BK188 4 (.string a0_4)
         have hcz112_5 := cz_ BK188 5 (.string a0_5)
         have hcz112_6 := cz_ BK188 6 (.int .i64 a0_6)
         have hcz112_7 := cz_ BK188 7 (.int .i64 a0_7)
         have hfz112_0 := fz_ BK188 0
         have hfz112_1 := fz_ BK188 1
         have hfz112_2 := fz_ BK188 2
         have hfz112_3 := fz_ BK188 3
         have hfz112_4 := fz_ BK188 4
         have hfz112_5 := fz_ BK188 5
         have hfz112_6 := fz_ BK188 6
         have hfz112_7 := fz_ BK188 7
         have hnb113 := NB191_189.out
         have hnc113 := NB189_191.out
         have hcz114_0 := cz_ BK191 0 (.string x192000_47)
         have hcz114_1 := cz_ BK191 1 (u192001)
         have hfz114_0 := fz_ BK191 0
         have hfz114_1 := fz_ BK191 1
         have hcz115_0 := cz_ BK189 0 (.string (⟨#[]⟩ : ByteArray))
         have hcz115_1 := cz_ BK189 1 (.slice none 0 0)
         have hfz115_0 := fz_ BK189 0
         have hfz115_1 := fz_ BK189 1
         obtain ⟨Ao116, co116, eo116⟩ := Kd.R_slice HO_192001.out
         subst eo116
         go_wp2
         refine bodyPost_ret (results_ct rfl _ _ gb189 42 #[.string x192000_47, .slice Ao116 x192001_47.length co116] (0, 0) _ rfl (by (with_reducible repeat (first | refine blk_drewN ?_ _ | refine blk_drew ?_ | refine blk_alloc ?_ _)); apply bq2_1_0_; (with_reducible repeat (first | refine blk_drewN ?_ _ | refine blk_drew ?_ | refine blk_alloc ?_ _)); exact BK189.out) Tryd.underlying42 rfl (by kernel_rfl)) rfl ?_
         exact ⟨_, by first | rfl | (simp [errW_none, errW_some] <;> rfl) | (simp [*, errW_none, errW_some] <;> rfl), by (with_reducible repeat (first | apply Kd.R_alloc | apply Kd.R_drewN | apply Kd.R_drew)); exact Kd.R_mono (Kd.R_far (p := ⟨gb189, 1, none⟩) (Kd.R_far (p := ⟨gb189, 0, none⟩) (Kd.R_types HO_192001.out BK189.out (by decide)) (fun _ hk => hk.2) (.string x192000_47)) (fun _ hk => hk.2) (.slice Ao116 x192001_47.length co116)) (fun _ hk => trivial), bl_⟩
  ·rw [if_neg c6] at H
   exact absurd H (by simp)
 ·replace c3 := Bool.eq_false_iff.mpr c3
  subst c3
  replace H := in_ H
  simp only [Option.some.injEq, Prod.mk.injEq] at H
  obtain ⟨rfl, rfl, rfl⟩ := H
  go_enter Tryd.func13, Tryd.ntmps13
  go_wp2_with (first | ((with_reducible refine gate_dst (N := 1) rfl ?_); refine be_ (N := 1) (cs := #[.int .i64 a0_0, .string a0_1, .string a0_2, .string a0_3, .string a0_4, .string a0_5, .int .i64 a0_6, .int .i64 a0_7]) (t := 45) ?_; intro gb188 hg w117 hbox hb; have BK188 := Aside0.mk (hbox); have GW188 := gw_ (w := w) hg; have GE188 := gw_ (w := w) hg; replace HB := Aside0.mk (below_step bl_ hb); clear hb hbox hg) | ((with_reducible refine gate_dst (N := 2) rfl ?_); refine be_ (N := 2) (cs := #[.string (⟨#[]⟩ : ByteArray), .slice none 0 0]) (t := 42) ?_; intro gb189 hg w118 hbox hb; have BK189 := Aside0.mk (hbox); have GW189 := gw_ (w := w) hg; have GE189 := gw_ (w := w) hg; replace HB := Aside0.mk (below_step bl_ hb); have NB188_189 := Aside0.mk ((by rw [hg]; exact Nat.ne_of_lt (blk_lt (bk_ BK188)) : gb188 ≠ gb189)); have NB189_188 := Aside0.mk ((by rw [hg]; exact Nat.ne_of_gt (blk_lt (bk_ BK188)) : gb189 ≠ gb188)); replace BK188 := Aside0.mk (blk_below (bk_ BK188) hb); clear hb hbox hg; have hnb119 := NB188_189.out; have hnc119 := NB189_188.out; obtain ⟨hcz120_0, hcz120_1, hcz120_2, hcz120_3, hcz120_4, hcz120_5, hcz120_6, hcz120_7, hfz120_0, hfz120_1, hfz120_2, hfz120_3, hfz120_4, hfz120_5, hfz120_6, hfz120_7⟩ := bx8_ BK188) | ((with_reducible refine gate_callee (f := 29) rfl ?_); refine goesL_ (some 6) rfl rfl Tryd.func29 (by kernel_rfl) rfl #[.agg #[.int .i64 a0_0, .string a0_1, .string a0_2, .string a0_3, .string a0_4, .string a0_5, .int .i64 a0_6, .int .i64 a0_7]] rfl gl_ ?_; (with_reducible refine (spec_ReqOk.calls k a0_0 a0_1 a0_2 a0_3 a0_4 a0_5 a0_6 a0_7 false _ A2.out).mono ?_); rintro e w121 ⟨rfl, hb⟩; refine ⟨_, rfl, ?_⟩; replace BK188 := Aside0.mk (blk_below (bk_ BK188) hb); replace BK189 := Aside0.mk (blk_below (bk_ BK189) hb); replace HB := Aside0.mk (below_step bl_ hb); (try clear hb); (try clear hb2); (try clear hk); (try clear hi); obtain ⟨hcz122_0, hcz122_1, hfz122_0, hfz122_1⟩ := bx2_ BK189))
  refine bodyPost_ret (results_ct rfl _ _ gb189 42 #[.string (⟨#[]⟩ : ByteArray), .slice none 0 0] (0, 0) _ rfl (by (with_reducible repeat (first | refine blk_drewN ?_ _ | refine blk_drew ?_ | refine blk_alloc ?_ _)); apply bq2_1_0_; (with_reducible repeat (first | refine blk_drewN ?_ _ | refine blk_drew ?_ | refine blk_alloc ?_ _)); exact BK189.out) Tryd.underlying42 rfl (by kernel_rfl)) rfl ?_
  exact ⟨_, by first | rfl | (simp [errW_none, errW_some] <;> rfl) | (simp [*, errW_none, errW_some] <;> rfl), by first | exact Kd.R_nil _ _ _ _ _ | exact Kd.N_nil _ _ _ _ _ | exact Kd.V_nil _ _ _ _ _ | exact Kd.Q_nil _ _ _ _ _ | exact Kd.S_nil _ _ _ _ _, bl_⟩
end Go.Proofs.YtbjpfknmkpnhjaaDoor.QFnExactReqMsg
