-- by my own printer (myprint.py, over the kit's print.py)
import Derived.Test.YtbjpfknmkpnhjaaDoorQFnMoneyx0
import Derived.Test.YtbjpfknmkpnhjaaDoorQFnMoneyx2
import Derived.Test.YtbjpfknmkpnhjaaDoorQFnMoneyx4
import Derived.Test.YtbjpfknmkpnhjaaDoorQFnMoneyx6
namespace Go.Proofs.YtbjpfknmkpnhjaaDoor.QFnMoney
open Go.RowKit Go.Proofs.YtbjpfknmkpnhjaaDoorW.PrintWords Go.Proofs.YtbjpfknmkpnhjaaDoorW.PrintLast Go.Proofs.YtbjpfknmkpnhjaaDoorW.PrintMore
attribute [local go_sem] max2_int min2_int max_two min_two max_three min_three max_four min_four   -- for this text's walks alone
set_option linter.unusedVariables false
set_option linter.unusedSimpArgs false
attribute [local go_sem] my_geq my_leq my_gtr
abbrev tb12_0_7 : Array Bool := #[b0, b0, b0, b0, b0, b0, b0, b0, b0, b0, b0, b0]
abbrev tb12_1_7 : Array Bool := #[b1, b0, b0, b0, b0, b0, b0, b0, b0, b0, b0, b0]
abbrev tb12_1ff_7 : Array Bool := #[b1, b1, b1, b1, b1, b1, b1, b1, b1, b0, b0, b0]
abbrev tb12_2d_7 : Array Bool := #[b1, b0, b1, b1, b0, b1, b0, b0, b0, b0, b0, b0]
abbrev tb12_3ff_7 : Array Bool := #[b1, b1, b1, b1, b1, b1, b1, b1, b1, b1, b0, b0]
abbrev tb12_5_7 : Array Bool := #[b1, b0, b1, b0, b0, b0, b0, b0, b0, b0, b0, b0]
abbrev tb12_6d_7 : Array Bool := #[b1, b0, b1, b1, b0, b1, b1, b0, b0, b0, b0, b0]
abbrev tb12_7ff_7 : Array Bool := #[b1, b1, b1, b1, b1, b1, b1, b1, b1, b1, b1, b0]
abbrev tb12_d_7 : Array Bool := #[b1, b0, b1, b1, b0, b0, b0, b0, b0, b0, b0, b0]
abbrev tb12_ed_7 : Array Bool := #[b1, b0, b1, b1, b0, b1, b1, b1, b0, b0, b0, b0]
abbrev tb12_ef_7 : Array Bool := #[b1, b1, b1, b1, b0, b1, b1, b1, b0, b0, b0, b0]
abbrev tb12_ff_7 : Array Bool := #[b1, b1, b1, b1, b1, b1, b1, b1, b0, b0, b0, b0]
abbrev tb12_fff_7 : Array Bool := #[b1, b1, b1, b1, b1, b1, b1, b1, b1, b1, b1, b1]
abbrev tb17_0_7 : Array Bool := #[b0, b0, b0, b0, b0, b0, b0, b0, b0, b0, b0, b0, b0, b0, b0, b0, b0]
abbrev tb17_1_7 : Array Bool := #[b1, b0, b0, b0, b0, b0, b0, b0, b0, b0, b0, b0, b0, b0, b0, b0, b0]
abbrev tb17_1f_7 : Array Bool := #[b1, b1, b1, b1, b1, b0, b0, b0, b0, b0, b0, b0, b0, b0, b0, b0, b0]
abbrev tb17_1ff_7 : Array Bool := #[b1, b1, b1, b1, b1, b1, b1, b1, b1, b0, b0, b0, b0, b0, b0, b0, b0]
abbrev tb17_1fff_7 : Array Bool := #[b1, b1, b1, b1, b1, b1, b1, b1, b1, b1, b1, b1, b1, b0, b0, b0, b0]
abbrev tb17_1ffff_7 : Array Bool := #[b1, b1, b1, b1, b1, b1, b1, b1, b1, b1, b1, b1, b1, b1, b1, b1, b1]
abbrev tb17_27ff_7 : Array Bool := #[b1, b1, b1, b1, b1, b1, b1, b1, b1, b1, b1, b0, b0, b1, b0, b0, b0]
abbrev tb17_2fff_7 : Array Bool := #[b1, b1, b1, b1, b1, b1, b1, b1, b1, b1, b1, b1, b0, b1, b0, b0, b0]
abbrev tb17_3_7 : Array Bool := #[b1, b1, b0, b0, b0, b0, b0, b0, b0, b0, b0, b0, b0, b0, b0, b0, b0]
abbrev tb17_3f_7 : Array Bool := #[b1, b1, b1, b1, b1, b1, b0, b0, b0, b0, b0, b0, b0, b0, b0, b0, b0]
abbrev tb17_3ff_7 : Array Bool := #[b1, b1, b1, b1, b1, b1, b1, b1, b1, b1, b0, b0, b0, b0, b0, b0, b0]
abbrev tb17_3fff_7 : Array Bool := #[b1, b1, b1, b1, b1, b1, b1, b1, b1, b1, b1, b1, b1, b1, b0, b0, b0]
abbrev tb17_7_7 : Array Bool := #[b1, b1, b1, b0, b0, b0, b0, b0, b0, b0, b0, b0, b0, b0, b0, b0, b0]
abbrev tb17_7f_7 : Array Bool := #[b1, b1, b1, b1, b1, b1, b1, b0, b0, b0, b0, b0, b0, b0, b0, b0, b0]
abbrev tb17_7ff_7 : Array Bool := #[b1, b1, b1, b1, b1, b1, b1, b1, b1, b1, b1, b0, b0, b0, b0, b0, b0]
abbrev tb17_7fff_7 : Array Bool := #[b1, b1, b1, b1, b1, b1, b1, b1, b1, b1, b1, b1, b1, b1, b1, b0, b0]
abbrev tb17_f_7 : Array Bool := #[b1, b1, b1, b1, b0, b0, b0, b0, b0, b0, b0, b0, b0, b0, b0, b0, b0]
abbrev tb17_ff_7 : Array Bool := #[b1, b1, b1, b1, b1, b1, b1, b1, b0, b0, b0, b0, b0, b0, b0, b0, b0]
abbrev tb17_fff_7 : Array Bool := #[b1, b1, b1, b1, b1, b1, b1, b1, b1, b1, b1, b1, b0, b0, b0, b0, b0]
abbrev tb17_ffff_7 : Array Bool := #[b1, b1, b1, b1, b1, b1, b1, b1, b1, b1, b1, b1, b1, b1, b1, b1, b0]
abbrev tb8_0_7 : Array Bool := #[b0, b0, b0, b0, b0, b0, b0, b0]
abbrev tb8_1_7 : Array Bool := #[b1, b0, b0, b0, b0, b0, b0, b0]
abbrev tb8_13_7 : Array Bool := #[b1, b1, b0, b0, b1, b0, b0, b0]
abbrev tb8_17_7 : Array Bool := #[b1, b1, b1, b0, b1, b0, b0, b0]
abbrev tb8_1f_7 : Array Bool := #[b1, b1, b1, b1, b1, b0, b0, b0]
abbrev tb8_3_7 : Array Bool := #[b1, b1, b0, b0, b0, b0, b0, b0]
abbrev tb8_3f_7 : Array Bool := #[b1, b1, b1, b1, b1, b1, b0, b0]
abbrev tb8_7f_7 : Array Bool := #[b1, b1, b1, b1, b1, b1, b1, b0]
abbrev tb8_ff_7 : Array Bool := #[b1, b1, b1, b1, b1, b1, b1, b1]
/-! ### spec_RingRoll: function 139 -/
mutual
def spec_RingRoll.j0 : Nat → Int → Bool → Int → Int → List Int → List Int → Int → Int → List Int → List Int → Option (Int × Int × List Int × List Int)
 | 0, _, _, _, _, _, _, _, _, _, _ => none
 | k + 1, x1, x26, x216000, x216001, x216002, x216003, x226000, x226001, x226002, x226003 => if x26 = true then (some (x226000, x226001, x226002, x226003)) else (if x216000 = 0 then (none) else (spec_RingRoll.l0 k x1 (wrap64 ((wrap64 (Int.tdiv x1 x216000)) - x216001)) (x216002.length : Int) 0 x216000 x216001 x216002 x216003 x226000 x226001 x226002 x226003))
def spec_RingRoll.l0 : Nat → Int → Int → Int → Int → Int → Int → List Int → List Int → Int → Int → List Int → List Int → Option (Int × Int × List Int × List Int)
 | 0, _, _, _, _, _, _, _, _, _, _, _, _ => none
 | k + 1, x1, x6, x37, x38, x216000, x216001, x216002, x216003, x226000, x226001, x226002, x226003 => if x38 < x37 then (if 0 ≤ x38 then (if x38 < (x226002.length : Int) then ((some (x226002.set (x38 : Int).toNat 0 : List Int)).bind fun y228 => (if x38 < (x226003.length : Int) then ((some (x226003.set (x38 : Int).toNat 0 : List Int)).bind fun y229 => (if x38 ≥ x6 then (if 0 ≤ (wrap64 (x38 - x6)) then (if (wrap64 (x38 - x6)) < (x216002.length : Int) then (if (wrap64 (x38 - x6)) < (x216003.length : Int) then (spec_RingRoll.l0 k x1 x6 x37 (wrap64 (x38 + 1)) x216000 x216001 x216002 x216003 x226000 x226001 (y228.set (x38 : Int).toNat (rd x216002 (wrap64 (x38 - x6)))) (y229.set (x38 : Int).toNat (rd x216003 (wrap64 (x38 - x6))))) else (none)) else (none)) else (none)) else (spec_RingRoll.l0 k x1 x6 x37 (wrap64 (x38 + 1)) x216000 x216001 x216002 x216003 x226000 x226001 y228 y229))) else (none))) else (none)) else (none)) else (if x216000 = 0 then (none) else (some (x226000, wrap64 (Int.tdiv x1 x216000), x226002, x226003)))
end
def spec_RingRoll.f (k : Nat) (a0_0 : Int) (a0_1 : Int) (l0_2 : List Int) (l0_3 : List Int) (a1 : Int) : Option (Int × Int × List Int × List Int) := (spec_l06Copy.f a0_0 a0_1 l0_2 l0_3).bind fun bt217 => ((spec_RingOk.f k a0_0 a0_1 l0_2 l0_3).bind fun t226 => (if t226 = true then ((spec_l06Time.f a1).bind fun t227 => (if t227 = true then (if a0_0 = 0 then (none) else (spec_RingRoll.j0 k a1 (decide ((wrap64 (Int.tdiv a1 a0_0)) ≤ a0_1)) a0_0 a0_1 l0_2 l0_3 bt217.1 bt217.2.1 bt217.2.2.1 bt217.2.2.2)) else (spec_RingRoll.j0 k a1 true a0_0 a0_1 l0_2 l0_3 bt217.1 bt217.2.1 bt217.2.2.1 bt217.2.2.2))) else (spec_RingRoll.j0 k a1 true a0_0 a0_1 l0_2 l0_3 bt217.1 bt217.2.1 bt217.2.2.1 bt217.2.2.2)))
def spec_RingRoll.T2 : Bool × List (List Nat × List Nat) := (true, [([], []), ([0], [0]), ([1], [1]), ([2, 1], [2]), ([3], [3]), ([4, 3, 3], [3, 4]), ([5, 3], [3, 5]), ([3, 6], [3, 6]), ([7, 5], [7]), ([8], [8]), ([8], [8]), ([10, 8], [8, 10]), ([9, 11, 8], [8, 9, 11]), ([8], [8]), ([13, 8], [8, 13]), ([12, 14, 8], [8, 12, 14]), ([8, 15], [8, 15])])
def spec_RingRoll.B2 : List Nat := [0, 1, 3, 7, 15, 31, 63, 127, 255, 511, 511, 1535, 4095, 511, 8703, 32767, 65535]
theorem spec_RingRoll.tab2 : rtab .any (opsOf Tryd.f139 2) = spec_RingRoll.T2 := by kernel_rfl
theorem spec_RingRoll.bits2 : waitsOk spec_RingRoll.T2.2 spec_RingRoll.B2 = true := by kernel_rfl
def spec_RingRoll.T4 : Bool × List (List Nat × List Nat) := (true, [([], []), ([], []), ([1], [1]), ([0, 2], [0, 2]), ([], []), ([4], [4]), ([3, 5], [3, 5]), ([6, 0, 1, 2, 3, 4, 5, 6], [6])])
def spec_RingRoll.B4 : List Nat := [0, 0, 2, 7, 0, 16, 63, 127]
theorem spec_RingRoll.tab4 : rtab .any (opsOf Tryd.f139 4) = spec_RingRoll.T4 := by kernel_rfl
theorem spec_RingRoll.bits4 : waitsOk spec_RingRoll.T4.2 spec_RingRoll.B4 = true := by kernel_rfl
def spec_RingRoll.T11 : Bool × List (List Nat × List Nat) := (true, [([], []), ([0], [0]), ([], []), ([], []), ([3], [3]), ([], []), ([], []), ([5, 6], [5, 6]), ([4, 7], [4, 7]), ([8], [8]), ([1, 2, 0, 1, 2, 3, 4, 5, 6, 7, 8, 9], [1, 2]), ([10, 9, 0, 1, 2, 3, 4, 5, 6, 7, 8, 9], [9, 10])])
def spec_RingRoll.B11 : List Nat := [0, 1, 0, 0, 8, 0, 0, 96, 248, 504, 1023, 2047]
theorem spec_RingRoll.tab11 : rtab .any (opsOf Tryd.f139 11) = spec_RingRoll.T11 := by kernel_rfl
theorem spec_RingRoll.bits11 : waitsOk spec_RingRoll.T11.2 spec_RingRoll.B11 = true := by kernel_rfl
def spec_RingRoll.T12 : Bool × List (List Nat × List Nat) := (true, [([], []), ([0], [0]), ([], []), ([], []), ([3], [3]), ([], []), ([], []), ([5, 6], [5, 6]), ([4, 7], [4, 7]), ([8], [8]), ([1, 2, 0, 1, 2, 3, 4, 5, 6, 7, 8, 9], [1, 2]), ([10, 9, 0, 1, 2, 3, 4, 5, 6, 7, 8, 9], [9, 10])])
def spec_RingRoll.B12 : List Nat := [0, 1, 0, 0, 8, 0, 0, 96, 248, 504, 1023, 2047]
theorem spec_RingRoll.tab12 : rtab .any (opsOf Tryd.f139 12) = spec_RingRoll.T12 := by kernel_rfl
theorem spec_RingRoll.bits12 : waitsOk spec_RingRoll.T12.2 spec_RingRoll.B12 = true := by kernel_rfl
set_option maxHeartbeats 8000000 in
set_option maxRecDepth 100000 in
theorem spec_RingRoll.calls (k : Nat) (a0_0 : Int) (a0_1 : Int) (A0_2 : Option Addr) (c0_2 : Nat) (l0_2 : List Int) (A0_3 : Option Addr) (c0_3 : Nat) (l0_3 : List Int) (a1 : Int) (r1 : Int) (r2 : Int) (r3 : List Int) (r4 : List Int) (w : World) (hr0_2 : Kd.C (Kd.int .i64) w A0_2 l0_2.length l0_2) (hc0_2 : l0_2.length ≤ c0_2) (hr0_3 : Kd.C (Kd.int .i64) w A0_3 l0_3.length l0_3) (hc0_3 : l0_3.length ≤ c0_3) (h : spec_RingRoll.f k a0_0 a0_1 l0_2 l0_3 a1 = some (r1, r2, r3, r4)) :
  Calls Tryd.prog 139 #[.agg #[.int .i64 a0_0, .int .i64 a0_1, .slice A0_2 l0_2.length c0_2, .slice A0_3 l0_3.length c0_3], .int .i64 a1] w fun e w' => ∃ v2_ v3_ : Value, e = .returned (.agg #[.int .i64 r1, .int .i64 r2, v2_, v3_]) ∧ Kd.R (Kd.int .i64) 3 w' w.heap.size (fun k_ => some k_ ≠ (v3_ : Value).ownBlock) v2_ r3 ∧ Kd.R (Kd.int .i64) 3 w' w.heap.size (fun k_ => some k_ ≠ (v2_ : Value).ownBlock) v3_ r4 ∧ Below w.heap.size w w' := by
 have hu26 := Tryd.underlying26
 have HR0_2 := Aside0.mk hr0_2
 have HC0_2 := Aside0.mk hc0_2
 clear hr0_2 hc0_2
 have HR0_3 := Aside0.mk hr0_3
 have HC0_3 := Aside0.mk hc0_3
 clear hr0_3 hc0_3
 have HB := Aside0.mk (Below.refl w.heap.size w)
 have H : ((spec_l06Copy.f a0_0 a0_1 l0_2 l0_3).bind fun bt217 => ((spec_RingOk.f k a0_0 a0_1 l0_2 l0_3).bind fun t226 => (if t226 = true then ((spec_l06Time.f a1).bind fun t227 => (if t227 = true then (if a0_0 = 0 then (none) else (spec_RingRoll.j0 k a1 (decide ((wrap64 (Int.tdiv a1 a0_0)) ≤ a0_1)) a0_0 a0_1 l0_2 l0_3 bt217.1 bt217.2.1 bt217.2.2.1 bt217.2.2.2)) else (spec_RingRoll.j0 k a1 true a0_0 a0_1 l0_2 l0_3 bt217.1 bt217.2.1 bt217.2.2.1 bt217.2.2.2))) else (spec_RingRoll.j0 k a1 true a0_0 a0_1 l0_2 l0_3 bt217.1 bt217.2.1 bt217.2.2.1 bt217.2.2.2)))) = some (r1, r2, r3, r4) := h
 clear h
 obtain ⟨⟨t217, t218, t219, t222⟩, A3, H⟩ := ob_ H
 (try dsimp only at H)
 have HC4 := Aside0.mk H
 clear H
 go_enter Tryd.func139, Tryd.ntmps139
 go_upto_region 2 with (first | ((with_reducible refine gate_dst (N := 2) rfl ?_); refine be_ (N := 2) (cs := #[.int .i64 a0_0, .int .i64 a0_1, .slice A0_2 l0_2.length c0_2, .slice A0_3 l0_3.length c0_3]) (t := 26) ?_; intro gb215 hg w5 hbox hb; have BK215 := Aside0.mk (hbox); have GW215 := gw_ (w := w) hg; have GE215 := gw_ (w := w) hg; replace HB := Aside0.mk (below_step bl_ hb); clear hb hbox hg) | ((with_reducible refine gate_dst (N := 4) rfl ?_); refine be_ (N := 4) (cs := #[.int .i64 0, .int .i64 0, .slice none 0 0, .slice none 0 0]) (t := 26) ?_; intro gb216 hg w6 hbox hb; have BK216 := Aside0.mk (hbox); have GW216 := gw_ (w := w) hg; have GE216 := gw_ (w := w) hg; replace HB := Aside0.mk (below_step bl_ hb); have NB215_216 := Aside0.mk ((by rw [hg]; exact Nat.ne_of_lt (blk_lt (bk_ BK215)) : gb215 ≠ gb216)); have NB216_215 := Aside0.mk ((by rw [hg]; exact Nat.ne_of_gt (blk_lt (bk_ BK215)) : gb216 ≠ gb215)); replace BK215 := Aside0.mk (blk_below (bk_ BK215) hb); clear hb hbox hg; have hnb7 := NB215_216.out; have hnc7 := NB216_215.out; obtain ⟨hcz8_0, hcz8_1, hcz8_2, hcz8_3, hfz8_0, hfz8_1, hfz8_2, hfz8_3⟩ := bx4_ BK215) | ((with_reducible refine gate_callee (f := 138) rfl ?_); refine goesL_ (some 9) rfl rfl Tryd.func138 (by kernel_rfl) rfl #[.agg #[.int .i64 a0_0, .int .i64 a0_1, .slice A0_2 l0_2.length c0_2, .slice A0_3 l0_3.length c0_3]] rfl gl_ ?_; (with_reducible refine (spec_l06Copy.calls a0_0 a0_1 _ _ l0_2 _ _ l0_3 t217 t218 t219 t222 _ ?side1 ?side2 ?side3 ?side4 A3.out).mono ?_); (case side1 => exact ca_ (Kd.C_below HR0_2.out HB.out)); (case side2 => exact HC0_2.out); (case side3 => exact ca_ (Kd.C_below HR0_3.out HB.out)); (case side4 => exact HC0_3.out); rintro e w9 ⟨v220, v223, rfl, ho0, ho1, hb⟩; refine ⟨_, rfl, ?_⟩; have HO221 := Aside0.mk (Kd.R_lower ho0 (below_size bl_)); have HO224 := Aside0.mk (Kd.R_lower ho1 (below_size bl_)); replace BK215 := Aside0.mk (blk_below (bk_ BK215) hb); replace BK216 := Aside0.mk (blk_below (bk_ BK216) hb); replace HB := Aside0.mk (below_step bl_ hb); (try clear hb); (try clear hb2); (try clear hk); (try clear hi); (try clear ho0); (try clear ho1)) | ((with_reducible refine gate_dst (N := 5) rfl ?_); refine be_ (N := 5) (cs := #[.int .i64 0, .int .i64 0, .slice none 0 0, .slice none 0 0]) (t := 26) ?_; intro gb225 hg w10 hbox hb; replace HO221 := Aside0.mk (Kd.R_below (ra_ HO221) hb); replace HO224 := Aside0.mk (Kd.R_below (ra_ HO224) hb); have BK225 := Aside0.mk (hbox); have GW225 := gw_ (w := w) hg; have GE225 := gw_ (w := w) hg; replace HB := Aside0.mk (below_step bl_ hb); have NB215_225 := Aside0.mk ((by rw [hg]; exact Nat.ne_of_lt (blk_lt (bk_ BK215)) : gb215 ≠ gb225)); have NB225_215 := Aside0.mk ((by rw [hg]; exact Nat.ne_of_gt (blk_lt (bk_ BK215)) : gb225 ≠ gb215)); replace BK215 := Aside0.mk (blk_below (bk_ BK215) hb); have NB216_225 := Aside0.mk ((by rw [hg]; exact Nat.ne_of_lt (blk_lt (bk_ BK216)) : gb216 ≠ gb225)); have NB225_216 := Aside0.mk ((by rw [hg]; exact Nat.ne_of_gt (blk_lt (bk_ BK216)) : gb225 ≠ gb216)); replace BK216 := Aside0.mk (blk_below (bk_ BK216) hb); clear hb hbox hg; have hnb11 := NB225_215.out; have hnc11 := NB215_225.out; have hnb12 := NB225_216.out; have hnc12 := NB216_225.out; obtain ⟨hcz13_0, hcz13_1, hcz13_2, hcz13_3, hfz13_0, hfz13_1, hfz13_2, hfz13_3⟩ := bx4_ BK225; obtain ⟨Ao14, co14, eo14⟩ := Kd.R_slice HO221.out; subst eo14; obtain ⟨Ao15, co15, eo15⟩ := Kd.R_slice HO224.out; subst eo15))
 (try simp only [Act.put, List.setIfInBounds_toArray, List.set_cons_zero, List.set_cons_succ])
 go_cut [26] (fun v26 wc => ∃ (kq : Nat) (x26_3 : Bool), v26 = .bool x26_3 ∧ Aside0 (spec_RingRoll.j0 kq a1 x26_3 a0_0 a0_1 l0_2 l0_3 t217 t218 t219 t222 = some (r1, r2, r3, r4)) ∧ Aside0 (kq ≤ k) ∧ Aside0 (Kd.R (Kd.int .i64) 3 wc w.heap.size (fun k_ => some k_ ≠ ((.slice Ao15 t222.length co15) : Value).ownBlock) (.slice Ao14 t219.length co14) t219) ∧ Aside0 (Kd.R (Kd.int .i64) 3 wc w.heap.size (fun k_ => some k_ ≠ ((.slice Ao14 t219.length co14) : Value).ownBlock) (.slice Ao15 t222.length co15) t222) ∧ Aside0 (wc.heap[gb215]? = some (.cells #[.int .i64 a0_0, .int .i64 a0_1, (.slice A0_2 l0_2.length c0_2), (.slice A0_3 l0_3.length c0_3)] 26 (0, 0))) ∧ Aside0 (wc.heap[gb216]? = some (.cells #[.int .i64 0, .int .i64 0, (.slice none 0 0), (.slice none 0 0)] 26 (0, 0))) ∧ Aside0 (wc.heap[gb225]? = some (.cells #[.int .i64 t217, .int .i64 t218, (.slice Ao14 t219.length co14), (.slice Ao15 t222.length co15)] 26 (0, 0))) ∧ Aside0 (Below w.heap.size w wc))
 case first =>
  have H := HC4.out
  clear HC4
  obtain ⟨t226, A16, H⟩ := ob_ H
  by_cases c17 : t226 = true
  ·subst c17
   replace H := ip_ H
   obtain ⟨t227, A18, H⟩ := ob_ H
   by_cases c19 : t227 = true
   ·subst c19
    replace H := ip_ H
    by_cases c20 : a0_0 = 0
    ·rw [if_pos c20] at H
     exact absurd H (by simp)
    ·rw [if_neg c20] at H
     have c20b0 : (a0_0 == 0) = false := beq_eq_false_iff_ne.mpr c20
     have c20b1 : (a0_0 != 0) = true := bne_iff_ne.mpr c20
     (first | rw [c20b0] | (simp only [i64_w, i32_w]; rw [c20b0]) | skip)
     have H' := Aside0.mk H
     clear H
     try go_wp2
     have n0_ : Aside0 (Kd.R (Kd.int .i64) 3 ((((w10.setCell ⟨gb225, 0, none⟩ (.int .i64 t217)).setCell ⟨gb225, 1, none⟩ (.int .i64 t218)).setCell ⟨gb225, 2, none⟩ (.slice Ao14 t219.length co14)).setCell ⟨gb225, 3, none⟩ (.slice Ao15 t222.length co15)) w.heap.size (fun k_ => some k_ ≠ (.slice Ao15 t222.length co15 : Value).ownBlock) (.slice Ao14 t219.length co14) t219) := ⟨by (with_reducible repeat (first | apply Kd.R_alloc | apply Kd.R_drewN | apply Kd.R_drew)); exact Kd.R_mono (Kd.R_far (p := ⟨gb225, 3, none⟩) (Kd.R_far (p := ⟨gb225, 2, none⟩) (Kd.R_far (p := ⟨gb225, 1, none⟩) (Kd.R_far (p := ⟨gb225, 0, none⟩) (Kd.R_types HO221.out BK225.out (by decide)) (fun _ hk => hk.2) (.int .i64 t217)) (fun _ hk => hk.2) (.int .i64 t218)) (fun _ hk => hk.2) (.slice Ao14 t219.length co14)) (fun _ hk => hk.2) (.slice Ao15 t222.length co15)) (fun _ hk => hk.1)⟩
     have n1_ : Aside0 (Kd.R (Kd.int .i64) 3 ((((w10.setCell ⟨gb225, 0, none⟩ (.int .i64 t217)).setCell ⟨gb225, 1, none⟩ (.int .i64 t218)).setCell ⟨gb225, 2, none⟩ (.slice Ao14 t219.length co14)).setCell ⟨gb225, 3, none⟩ (.slice Ao15 t222.length co15)) w.heap.size (fun k_ => some k_ ≠ (.slice Ao14 t219.length co14 : Value).ownBlock) (.slice Ao15 t222.length co15) t222) := ⟨by (with_reducible repeat (first | apply Kd.R_alloc | apply Kd.R_drewN | apply Kd.R_drew)); exact Kd.R_mono (Kd.R_far (p := ⟨gb225, 3, none⟩) (Kd.R_far (p := ⟨gb225, 2, none⟩) (Kd.R_far (p := ⟨gb225, 1, none⟩) (Kd.R_far (p := ⟨gb225, 0, none⟩) (Kd.R_types HO224.out BK225.out (by decide)) (fun _ hk => hk.2) (.int .i64 t217)) (fun _ hk => hk.2) (.int .i64 t218)) (fun _ hk => hk.2) (.slice Ao14 t219.length co14)) (fun _ hk => hk.2) (.slice Ao15 t222.length co15)) (fun _ hk => hk.1)⟩
     have n2_ : Aside0 (((((w10.setCell ⟨gb225, 0, none⟩ (.int .i64 t217)).setCell ⟨gb225, 1, none⟩ (.int .i64 t218)).setCell ⟨gb225, 2, none⟩ (.slice Ao14 t219.length co14)).setCell ⟨gb225, 3, none⟩ (.slice Ao15 t222.length co15)).heap[gb215]? = some (.cells #[.int .i64 a0_0, .int .i64 a0_1, .slice A0_2 l0_2.length c0_2, .slice A0_3 l0_3.length c0_3] 26 (0, 0))) := ⟨by (with_reducible repeat (first | refine blk_drewN ?_ _ | refine blk_drew ?_ | refine blk_alloc ?_ _)); refine blk_far ?_ NB215_225.out _; (with_reducible repeat (first | refine blk_drewN ?_ _ | refine blk_drew ?_ | refine blk_alloc ?_ _)); refine blk_far ?_ NB215_225.out _; (with_reducible repeat (first | refine blk_drewN ?_ _ | refine blk_drew ?_ | refine blk_alloc ?_ _)); refine blk_far ?_ NB215_225.out _; (with_reducible repeat (first | refine blk_drewN ?_ _ | refine blk_drew ?_ | refine blk_alloc ?_ _)); refine blk_far ?_ NB215_225.out _; (with_reducible repeat (first | refine blk_drewN ?_ _ | refine blk_drew ?_ | refine blk_alloc ?_ _)); exact BK215.out⟩
     have n3_ : Aside0 (((((w10.setCell ⟨gb225, 0, none⟩ (.int .i64 t217)).setCell ⟨gb225, 1, none⟩ (.int .i64 t218)).setCell ⟨gb225, 2, none⟩ (.slice Ao14 t219.length co14)).setCell ⟨gb225, 3, none⟩ (.slice Ao15 t222.length co15)).heap[gb216]? = some (.cells #[.int .i64 0, .int .i64 0, .slice none 0 0, .slice none 0 0] 26 (0, 0))) := ⟨by (with_reducible repeat (first | refine blk_drewN ?_ _ | refine blk_drew ?_ | refine blk_alloc ?_ _)); refine blk_far ?_ NB216_225.out _; (with_reducible repeat (first | refine blk_drewN ?_ _ | refine blk_drew ?_ | refine blk_alloc ?_ _)); refine blk_far ?_ NB216_225.out _; (with_reducible repeat (first | refine blk_drewN ?_ _ | refine blk_drew ?_ | refine blk_alloc ?_ _)); refine blk_far ?_ NB216_225.out _; (with_reducible repeat (first | refine blk_drewN ?_ _ | refine blk_drew ?_ | refine blk_alloc ?_ _)); refine blk_far ?_ NB216_225.out _; (with_reducible repeat (first | refine blk_drewN ?_ _ | refine blk_drew ?_ | refine blk_alloc ?_ _)); exact BK216.out⟩
     have n4_ : Aside0 (((((w10.setCell ⟨gb225, 0, none⟩ (.int .i64 t217)).setCell ⟨gb225, 1, none⟩ (.int .i64 t218)).setCell ⟨gb225, 2, none⟩ (.slice Ao14 t219.length co14)).setCell ⟨gb225, 3, none⟩ (.slice Ao15 t222.length co15)).heap[gb225]? = some (.cells #[.int .i64 t217, .int .i64 t218, .slice Ao14 t219.length co14, .slice Ao15 t222.length co15] 26 (0, 0))) := ⟨by (with_reducible repeat (first | refine blk_drewN ?_ _ | refine blk_drew ?_ | refine blk_alloc ?_ _)); apply bq4_3_2_1_0_; (with_reducible repeat (first | refine blk_drewN ?_ _ | refine blk_drew ?_ | refine blk_alloc ?_ _)); exact BK225.out⟩
     have n5_ : Aside0 (Below w.heap.size w ((((w10.setCell ⟨gb225, 0, none⟩ (.int .i64 t217)).setCell ⟨gb225, 1, none⟩ (.int .i64 t218)).setCell ⟨gb225, 2, none⟩ (.slice Ao14 t219.length co14)).setCell ⟨gb225, 3, none⟩ (.slice Ao15 t222.length co15))) := ⟨bl_⟩
     (try clear HO221)
     (try clear HO224)
     (try clear BK215)
     (try clear BK216)
     (try clear BK225)
     (try clear HB)
     generalize ((((w10.setCell ⟨gb225, 0, none⟩ (.int .i64 t217)).setCell ⟨gb225, 1, none⟩ (.int .i64 t218)).setCell ⟨gb225, 2, none⟩ (.slice Ao14 t219.length co14)).setCell ⟨gb225, 3, none⟩ (.slice Ao15 t222.length co15)) = w21 at n0_ n1_ n2_ n3_ n4_ n5_ ⊢
     have HO221 := n0_
     have HO224 := n1_
     have BK215 := n2_
     have BK216 := n3_
     have BK225 := n4_
     have HB := n5_
     clear n0_ n1_ n2_ n3_ n4_ n5_
     have n0_ := Aside0.mk (Kd.R_drew HO221.out)
     have n1_ := Aside0.mk (Kd.R_drew HO224.out)
     have n2_ := Aside0.mk (blk_drew BK215.out)
     have n3_ := Aside0.mk (blk_drew BK216.out)
     have n4_ := Aside0.mk (blk_drew BK225.out)
     have n5_ := Aside0.mk (below_drew1 HB.out)
     clear HO221
     clear HO224
     clear BK215
     clear BK216
     clear BK225
     clear HB
     have HO221 := n0_
     have HO224 := n1_
     have BK215 := n2_
     have BK216 := n3_
     have BK225 := n4_
     have HB := n5_
     clear n0_ n1_ n2_ n3_ n4_ n5_
     refine start_ (n := 17) (S := fun w' => w'.cell? ⟨gb215, 0, none⟩ = some (.int .i64 a0_0) ∧ w'.cell? ⟨gb215, 1, none⟩ = some (.int .i64 a0_1) ∧ w'.cell? ⟨gb215, 2, none⟩ = some (.slice A0_2 l0_2.length c0_2) ∧ w'.cell? ⟨gb215, 3, none⟩ = some (.slice A0_3 l0_3.length c0_3)) (ds := []) tb17_0_7 (by kernel_rfl) rfl rfl ⟨cy_ BK215 0, cy_ BK215 1, cy_ BK215 2, cy_ BK215 3⟩ (fun hHeld => ?_); refine with_tabW spec_RingRoll.tab2 spec_RingRoll.bits2 (fun HT_ HW_ => ?_)
     generalize w21.drew = w22 at HO221 HO224 BK215 BK216 BK225 HB hHeld ⊢
     refine take_ (i := 0) (N := some 10) (v := ?_) (a' := ?_) tb17_1_7 rfl rfl (take_ofW HT_.out HW_.out (by kernel_rfl)) (fun _ _ _ h => h) (Or.inl ⟨by rfl, ?_⟩) hHeld ?_ ?_
     rotate_left
     ·rintro w' ⟨s0, s1, s2, s3⟩
      go_simp
      with_reducible rfl
     rotate_left
     ·simp only [Act.put, q_]
      rfl
     refine one_ (i := 1) (N := some 11) tb17_3_7 rfl rfl (one_of HT_.out (by kernel_rfl)) (by decide) (fun K hK => ?_)
     refine goes_ Tryd.func135 (by kernel_rfl) rfl #[.agg #[.int .i64 a0_0, .int .i64 a0_1, .slice A0_2 l0_2.length c0_2, .slice A0_3 l0_3.length c0_3]] (by rfl) rfl rfl gl_ ?_
     with_reducible refine (spec_RingOk.calls k a0_0 a0_1 _ _ l0_2 _ _ l0_3 true _ ?side1 ?side2 ?side3 ?side4 A16.out).mono ?_
     (case side1 => exact ca_ (Kd.C_below HR0_2.out HB.out))
     (case side2 => exact HC0_2.out)
     (case side3 => exact ca_ (Kd.C_below HR0_3.out HB.out))
     (case side4 => exact HC0_3.out)
     rintro e w23 ⟨rfl, hb⟩
     refine ⟨_, rfl, ?_⟩
     have n0_ := Aside0.mk (Kd.R_below (ra_ HO221) hb)
     have n1_ := Aside0.mk (Kd.R_below (ra_ HO224) hb)
     have n2_ := Aside0.mk (blk_below (bk_ BK215) hb)
     have n3_ := Aside0.mk (blk_below (bk_ BK216) hb)
     have n4_ := Aside0.mk (blk_below (bk_ BK225) hb)
     have n5_ := Aside0.mk (below_step bl_ hb)
     clear HO221
     clear HO224
     clear BK215
     clear BK216
     clear BK225
     clear HB
     have HO221 := n0_
     have HO224 := n1_
     have BK215 := n2_
     have BK216 := n3_
     have BK225 := n4_
     have HB := n5_
     clear n0_ n1_ n2_ n3_ n4_ n5_
     (try clear hb)
     (try clear hb2)
     (try clear hk)
     (try clear hi)
     refine hK.out _ _ ⟨cy_ BK215 0, cy_ BK215 1, cy_ BK215 2, cy_ BK215 3⟩ (fun hHeld => ?_)
     clear hK K
     refine norm_ (a' := ?_) ?_ ?_
     rotate_left
     ·show Act.put _ (some 11) _ = _
      simp only [Act.put, q_]
      rfl
     refine pl_ HT_ 2 12 tb17_7_7 ?_
     refine pl_ HT_ 3 13 tb17_f_7 ?_
     refine pl_ HT_ 4 14 tb17_1f_7 ?_
     refine one_ (i := 5) (N := some 15) tb17_3f_7 rfl rfl (one_of HT_.out (by kernel_rfl)) (by decide) (fun K hK => ?_)
     refine goes_ Tryd.func137 (by kernel_rfl) rfl #[.int .i64 a1] (by rfl) rfl rfl gl_ ?_
     with_reducible refine (spec_l06Time.calls a1 true _ A18.out).mono ?_
     rintro e w' ⟨rfl, ⟨nd, rfl⟩⟩
     refine ⟨_, rfl, ?_⟩
     refine hK.out _ _ ⟨cy_ BK215 0, cy_ BK215 1, cy_ BK215 2, cy_ BK215 3⟩ (fun hHeld => ?_)
     clear hK K
     refine norm_ (a' := ?_) ?_ ?_
     rotate_left
     ·show Act.put _ (some 15) _ = _
      simp only [Act.put, q_]
      rfl
     refine pl_ HT_ 6 16 tb17_7f_7 ?_
     refine pl_ HT_ 7 17 tb17_ff_7 ?_
     refine pl_ HT_ 8 18 tb17_1ff_7 ?_
     refine pl_ HT_ 9 19 tb17_3ff_7 ?_
     refine pl_ HT_ 10 20 tb17_7ff_7 ?_
     refine pl_ HT_ 13 23 tb17_27ff_7 ?_
     refine take_ (i := 11) (N := some 21) (v := ?_) (a' := ?_) tb17_2fff_7 rfl rfl (take_ofW HT_.out HW_.out (by kernel_rfl)) (fun _ _ _ h => h) (Or.inl ⟨by rfl, ?_⟩) hHeld ?_ ?_
     rotate_left
     ·rintro w' ⟨s0, s1, s2, s3⟩
      go_simp
      with_reducible rfl
     rotate_left
     ·simp only [Act.put, q_]
      rfl
     refine pl_ HT_ 12 22 tb17_3fff_7 ?_
     refine take_ (i := 14) (N := some 24) (v := ?_) (a' := ?_) tb17_7fff_7 rfl rfl (take_ofW HT_.out HW_.out (by kernel_rfl)) (fun _ _ _ h => h) (Or.inl ⟨by rfl, ?_⟩) hHeld ?_ ?_
     rotate_left
     ·rintro w' ⟨s0, s1, s2, s3⟩
      go_simp
      with_reducible rfl
     rotate_left
     ·simp only [Act.put, q_]
      rfl
     refine pl_ HT_ 15 25 tb17_ffff_7 ?_
     refine pl_ HT_ 16 26 tb17_1ffff_7 ?_
     refine done_ (done_of HT_.out (by kernel_rfl)) ?_
     try go_wp2
     go_meet
     case rel => exact ⟨_, (decide ((wrap64 (Int.tdiv a1 a0_0)) ≤ a0_1)), sp_, H', ⟨by first | omega | exact Nat.le_refl _⟩, ⟨ra_ HO221⟩, ⟨ra_ HO224⟩, ⟨by (with_reducible repeat (first | refine blk_drewN ?_ _ | refine blk_drew ?_ | refine blk_alloc ?_ _)); exact BK215.out⟩, ⟨by (with_reducible repeat (first | refine blk_drewN ?_ _ | refine blk_drew ?_ | refine blk_alloc ?_ _)); exact BK216.out⟩, ⟨by (with_reducible repeat (first | refine blk_drewN ?_ _ | refine blk_drew ?_ | refine blk_alloc ?_ _)); exact BK225.out⟩, ⟨bl_⟩⟩
   ·replace c19 := Bool.eq_false_iff.mpr c19
    subst c19
    replace H := in_ H
    have H' := Aside0.mk H
    clear H
    try go_wp2
    have n0_ : Aside0 (Kd.R (Kd.int .i64) 3 ((((w10.setCell ⟨gb225, 0, none⟩ (.int .i64 t217)).setCell ⟨gb225, 1, none⟩ (.int .i64 t218)).setCell ⟨gb225, 2, none⟩ (.slice Ao14 t219.length co14)).setCell ⟨gb225, 3, none⟩ (.slice Ao15 t222.length co15)) w.heap.size (fun k_ => some k_ ≠ (.slice Ao15 t222.length co15 : Value).ownBlock) (.slice Ao14 t219.length co14) t219) := ⟨by (with_reducible repeat (first | apply Kd.R_alloc | apply Kd.R_drewN | apply Kd.R_drew)); exact Kd.R_mono (Kd.R_far (p := ⟨gb225, 3, none⟩) (Kd.R_far (p := ⟨gb225, 2, none⟩) (Kd.R_far (p := ⟨gb225, 1, none⟩) (Kd.R_far (p := ⟨gb225, 0, none⟩) (Kd.R_types HO221.out BK225.out (by decide)) (fun _ hk => hk.2) (.int .i64 t217)) (fun _ hk => hk.2) (.int .i64 t218)) (fun _ hk => hk.2) (.slice Ao14 t219.length co14)) (fun _ hk => hk.2) (.slice Ao15 t222.length co15)) (fun _ hk => hk.1)⟩
    have n1_ : Aside0 (Kd.R (Kd.int .i64) 3 ((((w10.setCell ⟨gb225, 0, none⟩ (.int .i64 t217)).setCell ⟨gb225, 1, none⟩ (.int .i64 t218)).setCell ⟨gb225, 2, none⟩ (.slice Ao14 t219.length co14)).setCell ⟨gb225, 3, none⟩ (.slice Ao15 t222.length co15)) w.heap.size (fun k_ => some k_ ≠ (.slice Ao14 t219.length co14 : Value).ownBlock) (.slice Ao15 t222.length co15) t222) := ⟨by (with_reducible repeat (first | apply Kd.R_alloc | apply Kd.R_drewN | apply Kd.R_drew)); exact Kd.R_mono (Kd.R_far (p := ⟨gb225, 3, none⟩) (Kd.R_far (p := ⟨gb225, 2, none⟩) (Kd.R_far (p := ⟨gb225, 1, none⟩) (Kd.R_far (p := ⟨gb225, 0, none⟩) (Kd.R_types HO224.out BK225.out (by decide)) (fun _ hk => hk.2) (.int .i64 t217)) (fun _ hk => hk.2) (.int .i64 t218)) (fun _ hk => hk.2) (.slice Ao14 t219.length co14)) (fun _ hk => hk.2) (.slice Ao15 t222.length co15)) (fun _ hk => hk.1)⟩
    have n2_ : Aside0 (((((w10.setCell ⟨gb225, 0, none⟩ (.int .i64 t217)).setCell ⟨gb225, 1, none⟩ (.int .i64 t218)).setCell ⟨gb225, 2, none⟩ (.slice Ao14 t219.length co14)).setCell ⟨gb225, 3, none⟩ (.slice Ao15 t222.length co15)).heap[gb215]? = some (.cells #[.int .i64 a0_0, .int .i64 a0_1, .slice A0_2 l0_2.length c0_2, .slice A0_3 l0_3.length c0_3] 26 (0, 0))) := ⟨by (with_reducible repeat (first | refine blk_drewN ?_ _ | refine blk_drew ?_ | refine blk_alloc ?_ _)); refine blk_far ?_ NB215_225.out _; (with_reducible repeat (first | refine blk_drewN ?_ _ | refine blk_drew ?_ | refine blk_alloc ?_ _)); refine blk_far ?_ NB215_225.out _; (with_reducible repeat (first | refine blk_drewN ?_ _ | refine blk_drew ?_ | refine blk_alloc ?_ _)); refine blk_far ?_ NB215_225.out _; (with_reducible repeat (first | refine blk_drewN ?_ _ | refine blk_drew ?_ | refine blk_alloc ?_ _)); refine blk_far ?_ NB215_225.out _; (with_reducible repeat (first | refine blk_drewN ?_ _ | refine blk_drew ?_ | refine blk_alloc ?_ _)); exact BK215.out⟩
    have n3_ : Aside0 (((((w10.setCell ⟨gb225, 0, none⟩ (.int .i64 t217)).setCell ⟨gb225, 1, none⟩ (.int .i64 t218)).setCell ⟨gb225, 2, none⟩ (.slice Ao14 t219.length co14)).setCell ⟨gb225, 3, none⟩ (.slice Ao15 t222.length co15)).heap[gb216]? = some (.cells #[.int .i64 0, .int .i64 0, .slice none 0 0, .slice none 0 0] 26 (0, 0))) := ⟨by (with_reducible repeat (first | refine blk_drewN ?_ _ | refine blk_drew ?_ | refine blk_alloc ?_ _)); refine blk_far ?_ NB216_225.out _; (with_reducible repeat (first | refine blk_drewN ?_ _ | refine blk_drew ?_ | refine blk_alloc ?_ _)); refine blk_far ?_ NB216_225.out _; (with_reducible repeat (first | refine blk_drewN ?_ _ | refine blk_drew ?_ | refine blk_alloc ?_ _)); refine blk_far ?_ NB216_225.out _; (with_reducible repeat (first | refine blk_drewN ?_ _ | refine blk_drew ?_ | refine blk_alloc ?_ _)); refine blk_far ?_ NB216_225.out _; (with_reducible repeat (first | refine blk_drewN ?_ _ | refine blk_drew ?_ | refine blk_alloc ?_ _)); exact BK216.out⟩
    have n4_ : Aside0 (((((w10.setCell ⟨gb225, 0, none⟩ (.int .i64 t217)).setCell ⟨gb225, 1, none⟩ (.int .i64 t218)).setCell ⟨gb225, 2, none⟩ (.slice Ao14 t219.length co14)).setCell ⟨gb225, 3, none⟩ (.slice Ao15 t222.length co15)).heap[gb225]? = some (.cells #[.int .i64 t217, .int .i64 t218, .slice Ao14 t219.length co14, .slice Ao15 t222.length co15] 26 (0, 0))) := ⟨by (with_reducible repeat (first | refine blk_drewN ?_ _ | refine blk_drew ?_ | refine blk_alloc ?_ _)); apply bq4_3_2_1_0_; (with_reducible repeat (first | refine blk_drewN ?_ _ | refine blk_drew ?_ | refine blk_alloc ?_ _)); exact BK225.out⟩
    have n5_ : Aside0 (Below w.heap.size w ((((w10.setCell ⟨gb225, 0, none⟩ (.int .i64 t217)).setCell ⟨gb225, 1, none⟩ (.int .i64 t218)).setCell ⟨gb225, 2, none⟩ (.slice Ao14 t219.length co14)).setCell ⟨gb225, 3, none⟩ (.slice Ao15 t222.length co15))) := ⟨bl_⟩
    (try clear HO221)
    (try clear HO224)
    (try clear BK215)
    (try clear BK216)
    (try clear BK225)
    (try clear HB)
    generalize ((((w10.setCell ⟨gb225, 0, none⟩ (.int .i64 t217)).setCell ⟨gb225, 1, none⟩ (.int .i64 t218)).setCell ⟨gb225, 2, none⟩ (.slice Ao14 t219.length co14)).setCell ⟨gb225, 3, none⟩ (.slice Ao15 t222.length co15)) = w24 at n0_ n1_ n2_ n3_ n4_ n5_ ⊢
    have HO221 := n0_
    have HO224 := n1_
    have BK215 := n2_
    have BK216 := n3_
    have BK225 := n4_
    have HB := n5_
    clear n0_ n1_ n2_ n3_ n4_ n5_
    have n0_ := Aside0.mk (Kd.R_drew HO221.out)
    have n1_ := Aside0.mk (Kd.R_drew HO224.out)
    have n2_ := Aside0.mk (blk_drew BK215.out)
    have n3_ := Aside0.mk (blk_drew BK216.out)
    have n4_ := Aside0.mk (blk_drew BK225.out)
    have n5_ := Aside0.mk (below_drew1 HB.out)
    clear HO221
    clear HO224
    clear BK215
    clear BK216
    clear BK225
    clear HB
    have HO221 := n0_
    have HO224 := n1_
    have BK215 := n2_
    have BK216 := n3_
    have BK225 := n4_
    have HB := n5_
    clear n0_ n1_ n2_ n3_ n4_ n5_
    refine start_ (n := 17) (S := fun w' => w'.cell? ⟨gb215, 0, none⟩ = some (.int .i64 a0_0) ∧ w'.cell? ⟨gb215, 1, none⟩ = some (.int .i64 a0_1) ∧ w'.cell? ⟨gb215, 2, none⟩ = some (.slice A0_2 l0_2.length c0_2) ∧ w'.cell? ⟨gb215, 3, none⟩ = some (.slice A0_3 l0_3.length c0_3)) (ds := []) tb17_0_7 (by kernel_rfl) rfl rfl ⟨cy_ BK215 0, cy_ BK215 1, cy_ BK215 2, cy_ BK215 3⟩ (fun hHeld => ?_); refine with_tabW spec_RingRoll.tab2 spec_RingRoll.bits2 (fun HT_ HW_ => ?_)
    generalize w24.drew = w25 at HO221 HO224 BK215 BK216 BK225 HB hHeld ⊢
    refine take_ (i := 0) (N := some 10) (v := ?_) (a' := ?_) tb17_1_7 rfl rfl (take_ofW HT_.out HW_.out (by kernel_rfl)) (fun _ _ _ h => h) (Or.inl ⟨by rfl, ?_⟩) hHeld ?_ ?_
    rotate_left
    ·rintro w' ⟨s0, s1, s2, s3⟩
     go_simp
     with_reducible rfl
    rotate_left
    ·simp only [Act.put, q_]
     rfl
    refine one_ (i := 1) (N := some 11) tb17_3_7 rfl rfl (one_of HT_.out (by kernel_rfl)) (by decide) (fun K hK => ?_)
    refine goes_ Tryd.func135 (by kernel_rfl) rfl #[.agg #[.int .i64 a0_0, .int .i64 a0_1, .slice A0_2 l0_2.length c0_2, .slice A0_3 l0_3.length c0_3]] (by rfl) rfl rfl gl_ ?_
    with_reducible refine (spec_RingOk.calls k a0_0 a0_1 _ _ l0_2 _ _ l0_3 true _ ?side1 ?side2 ?side3 ?side4 A16.out).mono ?_
    (case side1 => exact ca_ (Kd.C_below HR0_2.out HB.out))
    (case side2 => exact HC0_2.out)
    (case side3 => exact ca_ (Kd.C_below HR0_3.out HB.out))
    (case side4 => exact HC0_3.out)
    rintro e w26 ⟨rfl, hb⟩
    refine ⟨_, rfl, ?_⟩
    have n0_ := Aside0.mk (Kd.R_below (ra_ HO221) hb)
    have n1_ := Aside0.mk (Kd.R_below (ra_ HO224) hb)
    have n2_ := Aside0.mk (blk_below (bk_ BK215) hb)
    have n3_ := Aside0.mk (blk_below (bk_ BK216) hb)
    have n4_ := Aside0.mk (blk_below (bk_ BK225) hb)
    have n5_ := Aside0.mk (below_step bl_ hb)
    clear HO221
    clear HO224
    clear BK215
    clear BK216
    clear BK225
    clear HB
    have HO221 := n0_
    have HO224 := n1_
    have BK215 := n2_
    have BK216 := n3_
    have BK225 := n4_
    have HB := n5_
    clear n0_ n1_ n2_ n3_ n4_ n5_
    (try clear hb)
    (try clear hb2)
    (try clear hk)
    (try clear hi)
    refine hK.out _ _ ⟨cy_ BK215 0, cy_ BK215 1, cy_ BK215 2, cy_ BK215 3⟩ (fun hHeld => ?_)
    clear hK K
    refine norm_ (a' := ?_) ?_ ?_
    rotate_left
    ·show Act.put _ (some 11) _ = _
     simp only [Act.put, q_]
     rfl
    refine pl_ HT_ 2 12 tb17_7_7 ?_
    refine pl_ HT_ 3 13 tb17_f_7 ?_
    refine pl_ HT_ 4 14 tb17_1f_7 ?_
    refine one_ (i := 5) (N := some 15) tb17_3f_7 rfl rfl (one_of HT_.out (by kernel_rfl)) (by decide) (fun K hK => ?_)
    refine goes_ Tryd.func137 (by kernel_rfl) rfl #[.int .i64 a1] (by rfl) rfl rfl gl_ ?_
    with_reducible refine (spec_l06Time.calls a1 false _ A18.out).mono ?_
    rintro e w' ⟨rfl, ⟨nd, rfl⟩⟩
    refine ⟨_, rfl, ?_⟩
    refine hK.out _ _ ⟨cy_ BK215 0, cy_ BK215 1, cy_ BK215 2, cy_ BK215 3⟩ (fun hHeld => ?_)
    clear hK K
    refine norm_ (a' := ?_) ?_ ?_
    rotate_left
    ·show Act.put _ (some 15) _ = _
     simp only [Act.put, q_]
     rfl
    refine pl_ HT_ 6 16 tb17_7f_7 ?_
    refine pl_ HT_ 7 17 tb17_ff_7 ?_
    refine pl_ HT_ 8 18 tb17_1ff_7 ?_
    refine pr_ HT_ 9 19 tb17_3ff_7 ?_
    refine pr_ HT_ 10 20 tb17_7ff_7 ?_
    refine pr_ HT_ 11 21 tb17_fff_7 ?_
    refine pr_ HT_ 12 22 tb17_1fff_7 ?_
    refine pr_ HT_ 13 23 tb17_3fff_7 ?_
    refine pr_ HT_ 14 24 tb17_7fff_7 ?_
    refine pr_ HT_ 15 25 tb17_ffff_7 ?_
    refine pl_ HT_ 16 26 tb17_1ffff_7 ?_
    refine done_ (done_of HT_.out (by kernel_rfl)) ?_
    try go_wp2
    go_meet
    case rel => exact ⟨_, (true), sp_, H', ⟨by first | omega | exact Nat.le_refl _⟩, ⟨ra_ HO221⟩, ⟨ra_ HO224⟩, ⟨by (with_reducible repeat (first | refine blk_drewN ?_ _ | refine blk_drew ?_ | refine blk_alloc ?_ _)); exact BK215.out⟩, ⟨by (with_reducible repeat (first | refine blk_drewN ?_ _ | refine blk_drew ?_ | refine blk_alloc ?_ _)); exact BK216.out⟩, ⟨by (with_reducible repeat (first | refine blk_drewN ?_ _ | refine blk_drew ?_ | refine blk_alloc ?_ _)); exact BK225.out⟩, ⟨bl_⟩⟩
  ·replace c17 := Bool.eq_false_iff.mpr c17
   subst c17
   replace H := in_ H
   have H' := Aside0.mk H
   clear H
   try go_wp2
   have n0_ : Aside0 (Kd.R (Kd.int .i64) 3 ((((w10.setCell ⟨gb225, 0, none⟩ (.int .i64 t217)).setCell ⟨gb225, 1, none⟩ (.int .i64 t218)).setCell ⟨gb225, 2, none⟩ (.slice Ao14 t219.length co14)).setCell ⟨gb225, 3, none⟩ (.slice Ao15 t222.length co15)) w.heap.size (fun k_ => some k_ ≠ (.slice Ao15 t222.length co15 : Value).ownBlock) (.slice Ao14 t219.length co14) t219) := ⟨by (with_reducible repeat (first | apply Kd.R_alloc | apply Kd.R_drewN | apply Kd.R_drew)); exact Kd.R_mono (Kd.R_far (p := ⟨gb225, 3, none⟩) (Kd.R_far (p := ⟨gb225, 2, none⟩) (Kd.R_far (p := ⟨gb225, 1, none⟩) (Kd.R_far (p := ⟨gb225, 0, none⟩) (Kd.R_types HO221.out BK225.out (by decide)) (fun _ hk => hk.2) (.int .i64 t217)) (fun _ hk => hk.2) (.int .i64 t218)) (fun _ hk => hk.2) (.slice Ao14 t219.length co14)) (fun _ hk => hk.2) (.slice Ao15 t222.length co15)) (fun _ hk => hk.1)⟩
   have n1_ : Aside0 (Kd.R (Kd.int .i64) 3 ((((w10.setCell ⟨gb225, 0, none⟩ (.int .i64 t217)).setCell ⟨gb225, 1, none⟩ (.int .i64 t218)).setCell ⟨gb225, 2, none⟩ (.slice Ao14 t219.length co14)).setCell ⟨gb225, 3, none⟩ (.slice Ao15 t222.length co15)) w.heap.size (fun k_ => some k_ ≠ (.slice Ao14 t219.length co14 : Value).ownBlock) (.slice Ao15 t222.length co15) t222) := ⟨by (with_reducible repeat (first | apply Kd.R_alloc | apply Kd.R_drewN | apply Kd.R_drew)); exact Kd.R_mono (Kd.R_far (p := ⟨gb225, 3, none⟩) (Kd.R_far (p := ⟨gb225, 2, none⟩) (Kd.R_far (p := ⟨gb225, 1, none⟩) (Kd.R_far (p := ⟨gb225, 0, none⟩) (Kd.R_types HO224.out BK225.out (by decide)) (fun _ hk => hk.2) (.int .i64 t217)) (fun _ hk => hk.2) (.int .i64 t218)) (fun _ hk => hk.2) (.slice Ao14 t219.length co14)) (fun _ hk => hk.2) (.slice Ao15 t222.length co15)) (fun _ hk => hk.1)⟩
   have n2_ : Aside0 (((((w10.setCell ⟨gb225, 0, none⟩ (.int .i64 t217)).setCell ⟨gb225, 1, none⟩ (.int .i64 t218)).setCell ⟨gb225, 2, none⟩ (.slice Ao14 t219.length co14)).setCell ⟨gb225, 3, none⟩ (.slice Ao15 t222.length co15)).heap[gb215]? = some (.cells #[.int .i64 a0_0, .int .i64 a0_1, .slice A0_2 l0_2.length c0_2, .slice A0_3 l0_3.length c0_3] 26 (0, 0))) := ⟨by (with_reducible repeat (first | refine blk_drewN ?_ _ | refine blk_drew ?_ | refine blk_alloc ?_ _)); refine blk_far ?_ NB215_225.out _; (with_reducible repeat (first | refine blk_drewN ?_ _ | refine blk_drew ?_ | refine blk_alloc ?_ _)); refine blk_far ?_ NB215_225.out _; (with_reducible repeat (first | refine blk_drewN ?_ _ | refine blk_drew ?_ | refine blk_alloc ?_ _)); refine blk_far ?_ NB215_225.out _; (with_reducible repeat (first | refine blk_drewN ?_ _ | refine blk_drew ?_ | refine blk_alloc ?_ _)); refine blk_far ?_ NB215_225.out _; (with_reducible repeat (first | refine blk_drewN ?_ _ | refine blk_drew ?_ | refine blk_alloc ?_ _)); exact BK215.out⟩
   have n3_ : Aside0 (((((w10.setCell ⟨gb225, 0, none⟩ (.int .i64 t217)).setCell ⟨gb225, 1, none⟩ (.int .i64 t218)).setCell ⟨gb225, 2, none⟩ (.slice Ao14 t219.length co14)).setCell ⟨gb225, 3, none⟩ (.slice Ao15 t222.length co15)).heap[gb216]? = some (.cells #[.int .i64 0, .int .i64 0, .slice none 0 0, .slice none 0 0] 26 (0, 0))) := ⟨by (with_reducible repeat (first | refine blk_drewN ?_ _ | refine blk_drew ?_ | refine blk_alloc ?_ _)); refine blk_far ?_ NB216_225.out _; (with_reducible repeat (first | refine blk_drewN ?_ _ | refine blk_drew ?_ | refine blk_alloc ?_ _)); refine blk_far ?_ NB216_225.out _; (with_reducible repeat (first | refine blk_drewN ?_ _ | refine blk_drew ?_ | refine blk_alloc ?_ _)); refine blk_far ?_ NB216_225.out _; (with_reducible repeat (first | refine blk_drewN ?_ _ | refine blk_drew ?_ | refine blk_alloc ?_ _)); refine blk_far ?_ NB216_225.out _; (with_reducible repeat (first | refine blk_drewN ?_ _ | refine blk_drew ?_ | refine blk_alloc ?_ _)); exact BK216.out⟩
   have n4_ : Aside0 (((((w10.setCell ⟨gb225, 0, none⟩ (.int .i64 t217)).setCell ⟨gb225, 1, none⟩ (.int .i64 t218)).setCell ⟨gb225, 2, none⟩ (.slice Ao14 t219.length co14)).setCell ⟨gb225, 3, none⟩ (.slice Ao15 t222.length co15)).heap[gb225]? = some (.cells #[.int .i64 t217, .int .i64 t218, .slice Ao14 t219.length co14, .slice Ao15 t222.length co15] 26 (0, 0))) := ⟨by (with_reducible repeat (first | refine blk_drewN ?_ _ | refine blk_drew ?_ | refine blk_alloc ?_ _)); apply bq4_3_2_1_0_; (with_reducible repeat (first | refine blk_drewN ?_ _ | refine blk_drew ?_ | refine blk_alloc ?_ _)); exact BK225.out⟩
   have n5_ : Aside0 (Below w.heap.size w ((((w10.setCell ⟨gb225, 0, none⟩ (.int .i64 t217)).setCell ⟨gb225, 1, none⟩ (.int .i64 t218)).setCell ⟨gb225, 2, none⟩ (.slice Ao14 t219.length co14)).setCell ⟨gb225, 3, none⟩ (.slice Ao15 t222.length co15))) := ⟨bl_⟩
   (try clear HO221)
   (try clear HO224)
   (try clear BK215)
   (try clear BK216)
   (try clear BK225)
   (try clear HB)
   generalize ((((w10.setCell ⟨gb225, 0, none⟩ (.int .i64 t217)).setCell ⟨gb225, 1, none⟩ (.int .i64 t218)).setCell ⟨gb225, 2, none⟩ (.slice Ao14 t219.length co14)).setCell ⟨gb225, 3, none⟩ (.slice Ao15 t222.length co15)) = w27 at n0_ n1_ n2_ n3_ n4_ n5_ ⊢
   have HO221 := n0_
   have HO224 := n1_
   have BK215 := n2_
   have BK216 := n3_
   have BK225 := n4_
   have HB := n5_
   clear n0_ n1_ n2_ n3_ n4_ n5_
   have n0_ := Aside0.mk (Kd.R_drew HO221.out)
   have n1_ := Aside0.mk (Kd.R_drew HO224.out)
   have n2_ := Aside0.mk (blk_drew BK215.out)
   have n3_ := Aside0.mk (blk_drew BK216.out)
   have n4_ := Aside0.mk (blk_drew BK225.out)
   have n5_ := Aside0.mk (below_drew1 HB.out)
   clear HO221
   clear HO224
   clear BK215
   clear BK216
   clear BK225
   clear HB
   have HO221 := n0_
   have HO224 := n1_
   have BK215 := n2_
   have BK216 := n3_
   have BK225 := n4_
   have HB := n5_
   clear n0_ n1_ n2_ n3_ n4_ n5_
   refine start_ (n := 17) (S := fun w' => w'.cell? ⟨gb215, 0, none⟩ = some (.int .i64 a0_0) ∧ w'.cell? ⟨gb215, 1, none⟩ = some (.int .i64 a0_1) ∧ w'.cell? ⟨gb215, 2, none⟩ = some (.slice A0_2 l0_2.length c0_2) ∧ w'.cell? ⟨gb215, 3, none⟩ = some (.slice A0_3 l0_3.length c0_3)) (ds := []) tb17_0_7 (by kernel_rfl) rfl rfl ⟨cy_ BK215 0, cy_ BK215 1, cy_ BK215 2, cy_ BK215 3⟩ (fun hHeld => ?_); refine with_tabW spec_RingRoll.tab2 spec_RingRoll.bits2 (fun HT_ HW_ => ?_)
   generalize w27.drew = w28 at HO221 HO224 BK215 BK216 BK225 HB hHeld ⊢
   refine take_ (i := 0) (N := some 10) (v := ?_) (a' := ?_) tb17_1_7 rfl rfl (take_ofW HT_.out HW_.out (by kernel_rfl)) (fun _ _ _ h => h) (Or.inl ⟨by rfl, ?_⟩) hHeld ?_ ?_
   rotate_left
   ·rintro w' ⟨s0, s1, s2, s3⟩
    go_simp
    with_reducible rfl
   rotate_left
   ·simp only [Act.put, q_]
    rfl
   refine one_ (i := 1) (N := some 11) tb17_3_7 rfl rfl (one_of HT_.out (by kernel_rfl)) (by decide) (fun K hK => ?_)
   refine goes_ Tryd.func135 (by kernel_rfl) rfl #[.agg #[.int .i64 a0_0, .int .i64 a0_1, .slice A0_2 l0_2.length c0_2, .slice A0_3 l0_3.length c0_3]] (by rfl) rfl rfl gl_ ?_
   with_reducible refine (spec_RingOk.calls k a0_0 a0_1 _ _ l0_2 _ _ l0_3 false _ ?side1 ?side2 ?side3 ?side4 A16.out).mono ?_
   (case side1 => exact ca_ (Kd.C_below HR0_2.out HB.out))
   (case side2 => exact HC0_2.out)
   (case side3 => exact ca_ (Kd.C_below HR0_3.out HB.out))
   (case side4 => exact HC0_3.out)
   rintro e w29 ⟨rfl, hb⟩
   refine ⟨_, rfl, ?_⟩
   have n0_ := Aside0.mk (Kd.R_below (ra_ HO221) hb)
   have n1_ := Aside0.mk (Kd.R_below (ra_ HO224) hb)
   have n2_ := Aside0.mk (blk_below (bk_ BK215) hb)
   have n3_ := Aside0.mk (blk_below (bk_ BK216) hb)
   have n4_ := Aside0.mk (blk_below (bk_ BK225) hb)
   have n5_ := Aside0.mk (below_step bl_ hb)
   clear HO221
   clear HO224
   clear BK215
   clear BK216
   clear BK225
   clear HB
   have HO221 := n0_
   have HO224 := n1_
   have BK215 := n2_
   have BK216 := n3_
   have BK225 := n4_
   have HB := n5_
   clear n0_ n1_ n2_ n3_ n4_ n5_
   (try clear hb)
   (try clear hb2)
   (try clear hk)
   (try clear hi)
   refine hK.out _ _ ⟨cy_ BK215 0, cy_ BK215 1, cy_ BK215 2, cy_ BK215 3⟩ (fun hHeld => ?_)
   clear hK K
   refine norm_ (a' := ?_) ?_ ?_
   rotate_left
   ·show Act.put _ (some 11) _ = _
    simp only [Act.put, q_]
    rfl
   refine pl_ HT_ 2 12 tb17_7_7 ?_
   refine pl_ HT_ 3 13 tb17_f_7 ?_
   refine pr_ HT_ 4 14 tb17_1f_7 ?_
   refine pr_ HT_ 5 15 tb17_3f_7 ?_
   refine pr_ HT_ 6 16 tb17_7f_7 ?_
   refine pl_ HT_ 7 17 tb17_ff_7 ?_
   refine pl_ HT_ 8 18 tb17_1ff_7 ?_
   refine pr_ HT_ 9 19 tb17_3ff_7 ?_
   refine pr_ HT_ 10 20 tb17_7ff_7 ?_
   refine pr_ HT_ 11 21 tb17_fff_7 ?_
   refine pr_ HT_ 12 22 tb17_1fff_7 ?_
   refine pr_ HT_ 13 23 tb17_3fff_7 ?_
   refine pr_ HT_ 14 24 tb17_7fff_7 ?_
   refine pr_ HT_ 15 25 tb17_ffff_7 ?_
   refine pl_ HT_ 16 26 tb17_1ffff_7 ?_
   refine done_ (done_of HT_.out (by kernel_rfl)) ?_
   try go_wp2
   go_meet
   case rel => exact ⟨_, (true), sp_, H', ⟨by first | omega | exact Nat.le_refl _⟩, ⟨ra_ HO221⟩, ⟨ra_ HO224⟩, ⟨by (with_reducible repeat (first | refine blk_drewN ?_ _ | refine blk_drew ?_ | refine blk_alloc ?_ _)); exact BK215.out⟩, ⟨by (with_reducible repeat (first | refine blk_drewN ?_ _ | refine blk_drew ?_ | refine blk_alloc ?_ _)); exact BK216.out⟩, ⟨by (with_reducible repeat (first | refine blk_drewN ?_ _ | refine blk_drew ?_ | refine blk_alloc ?_ _)); exact BK225.out⟩, ⟨bl_⟩⟩
 case rest =>
  clear HC4
  try clear c1
  try clear c2
  try clear p2
  try clear p6
  try clear c13
  try clear c17
  try clear c19
  try clear c20
  try clear c20b0
  obtain ⟨kq, x26_3, rfl, HA, HJ3, HO_226002, HO_226003, BK215, BK216, BK225, HB⟩ := hcut
  cases kq with
  | zero => exact absurd HA.out (by simp [spec_RingRoll.j0])
  | succ kj3 =>
   have H := HA.out
   clear HA
   simp only [spec_RingRoll.j0] at H
   by_cases c30 : x26_3 = true
   ·subst c30
    replace H := ip_ H
    simp only [Option.some.injEq, Prod.mk.injEq] at H
    obtain ⟨rfl, rfl, rfl, rfl⟩ := H
    have hnb31 := NB225_215.out
    have hnc31 := NB215_225.out
    have hnb32 := NB225_216.out
    have hnc32 := NB216_225.out
    have hcz33_0 := cz_ BK225 0 (.int .i64 t217)
    have hcz33_1 := cz_ BK225 1 (.int .i64 t218)
    have hcz33_2 := cz_ BK225 2 (.slice Ao14 t219.length co14)
    have hcz33_3 := cz_ BK225 3 (.slice Ao15 t222.length co15)
    have hfz33_0 := fz_ BK225 0
    have hfz33_1 := fz_ BK225 1
    have hfz33_2 := fz_ BK225 2
    have hfz33_3 := fz_ BK225 3
    have hnb34 := NB216_215.out
    have hnc34 := NB215_216.out
    have hcz35_0 := cz_ BK216 0 (.int .i64 0)
    have hcz35_1 := cz_ BK216 1 (.int .i64 0)
    have hcz35_2 := cz_ BK216 2 (.slice none 0 0)
    have hcz35_3 := cz_ BK216 3 (.slice none 0 0)
    have hfz35_0 := fz_ BK216 0
    have hfz35_1 := fz_ BK216 1
    have hfz35_2 := fz_ BK216 2
    have hfz35_3 := fz_ BK216 3
    go_wp2
    refine bodyPost_ret (results_cell_row rfl _ _ gb216 26 #[.int .i64 t217, .int .i64 t218, .slice Ao14 t219.length co14, .slice Ao15 t222.length co15] (0, 0) _ rfl (by (with_reducible repeat (first | refine blk_drewN ?_ _ | refine blk_drew ?_ | refine blk_alloc ?_ _)); apply bq4_3_2_1_0_; (with_reducible repeat (first | refine blk_drewN ?_ _ | refine blk_drew ?_ | refine blk_alloc ?_ _)); exact BK216.out) Tryd.underlying26 rfl (by kernel_rfl)) rfl ?_
    exact ⟨_, _, by first | rfl | (simp [errW_none, errW_some] <;> rfl) | (simp [*, errW_none, errW_some] <;> rfl), by (with_reducible repeat (first | apply Kd.R_alloc | apply Kd.R_drewN | apply Kd.R_drew)); exact Kd.R_mono (Kd.R_far (p := ⟨gb216, 3, none⟩) (Kd.R_far (p := ⟨gb216, 2, none⟩) (Kd.R_far (p := ⟨gb216, 1, none⟩) (Kd.R_far (p := ⟨gb216, 0, none⟩) (Kd.R_types HO_226002.out BK216.out (by decide)) (fun _ hk => hk.2) (.int .i64 t217)) (fun _ hk => hk.2) (.int .i64 t218)) (fun _ hk => hk.2) (.slice Ao14 t219.length co14)) (fun _ hk => hk.2) (.slice Ao15 t222.length co15)) (fun _ hk => hk.1), by (with_reducible repeat (first | apply Kd.R_alloc | apply Kd.R_drewN | apply Kd.R_drew)); exact Kd.R_mono (Kd.R_far (p := ⟨gb216, 3, none⟩) (Kd.R_far (p := ⟨gb216, 2, none⟩) (Kd.R_far (p := ⟨gb216, 1, none⟩) (Kd.R_far (p := ⟨gb216, 0, none⟩) (Kd.R_types HO_226003.out BK216.out (by decide)) (fun _ hk => hk.2) (.int .i64 t217)) (fun _ hk => hk.2) (.int .i64 t218)) (fun _ hk => hk.2) (.slice Ao14 t219.length co14)) (fun _ hk => hk.2) (.slice Ao15 t222.length co15)) (fun _ hk => hk.1), bl_⟩
   ·replace c30 := Bool.eq_false_iff.mpr c30
    subst c30
    replace H := in_ H
    by_cases c36 : a0_0 = 0
    ·rw [if_pos c36] at H
     exact absurd H (by simp)
    ·rw [if_neg c36] at H
     have c36b0 : (a0_0 == 0) = false := beq_eq_false_iff_ne.mpr c36
     have c36b1 : (a0_0 != 0) = true := bne_iff_ne.mpr c36
     have H' := Aside0.mk H
     clear H
     try go_wp2
     have n0_ := Aside0.mk (Kd.R_drew HO_226002.out)
     have n1_ := Aside0.mk (Kd.R_drew HO_226003.out)
     have n2_ := Aside0.mk (blk_drew BK215.out)
     have n3_ := Aside0.mk (blk_drew BK216.out)
     have n4_ := Aside0.mk (blk_drew BK225.out)
     have n5_ := Aside0.mk (below_drew1 HB.out)
     clear HO_226002
     clear HO_226003
     clear BK215
     clear BK216
     clear BK225
     clear HB
     have HO_226002 := n0_
     have HO_226003 := n1_
     have BK215 := n2_
     have BK216 := n3_
     have BK225 := n4_
     have HB := n5_
     clear n0_ n1_ n2_ n3_ n4_ n5_
     refine start_ (n := 8) (S := fun w' => w'.cell? ⟨gb215, 0, none⟩ = some (.int .i64 a0_0) ∧ w'.cell? ⟨gb215, 1, none⟩ = some (.int .i64 a0_1) ∧ w'.cell? ⟨gb215, 2, none⟩ = some (.slice A0_2 l0_2.length c0_2) ∧ w'.cell? ⟨gb215, 3, none⟩ = some (.slice A0_3 l0_3.length c0_3)) (ds := []) tb8_0_7 (by kernel_rfl) rfl rfl ⟨cy_ BK215 0, cy_ BK215 1, cy_ BK215 2, cy_ BK215 3⟩ (fun hHeld => ?_); refine with_tabW spec_RingRoll.tab4 spec_RingRoll.bits4 (fun HT_ HW_ => ?_)
     generalize wc.drew = w37 at HO_226002 HO_226003 BK215 BK216 BK225 HB hHeld ⊢
     refine pl_ HT_ 0 28 tb8_1_7 ?_
     refine pl_ HT_ 1 29 tb8_3_7 ?_
     refine pl_ HT_ 4 32 tb8_13_7 ?_
     refine take_ (i := 2) (N := some 30) (v := ?_) (a' := ?_) tb8_17_7 rfl rfl (take_ofW HT_.out HW_.out (by kernel_rfl)) (fun _ _ _ h => h) (Or.inl ⟨by rfl, ?_⟩) hHeld ?_ ?_
     rotate_left
     ·rintro w' ⟨s0, s1, s2, s3⟩
      go_simp
      with_reducible rfl
     rotate_left
     ·simp only [Act.put, q_]
      rfl
     refine pl_ HT_ 3 31 tb8_1f_7 ?_
     refine take_ (i := 5) (N := some 33) (v := ?_) (a' := ?_) tb8_3f_7 rfl rfl (take_ofW HT_.out HW_.out (by kernel_rfl)) (fun _ _ _ h => h) (Or.inl ⟨by rfl, ?_⟩) hHeld ?_ ?_
     rotate_left
     ·rintro w' ⟨s0, s1, s2, s3⟩
      go_simp
      with_reducible rfl
     rotate_left
     ·simp only [Act.put, q_]
      rfl
     refine pl_ HT_ 6 34 tb8_7f_7 ?_
     refine pl_ HT_ 7 6 tb8_ff_7 ?_
     refine done_ (done_of HT_.out (by kernel_rfl)) ?_
     have hnb38 := NB215_216.out
     have hnc38 := NB216_215.out
     have hnb39 := NB215_225.out
     have hnc39 := NB225_215.out
     have hcz40_0 := cz_ BK215 0 (.int .i64 a0_0)
     have hcz40_1 := cz_ BK215 1 (.int .i64 a0_1)
     have hcz40_2 := cz_ BK215 2 (.slice A0_2 l0_2.length c0_2)
     have hcz40_3 := cz_ BK215 3 (.slice A0_3 l0_3.length c0_3)
     have hfz40_0 := fz_ BK215 0
     have hfz40_1 := fz_ BK215 1
     have hfz40_2 := fz_ BK215 2
     have hfz40_3 := fz_ BK215 3
     try go_wp2
     go_loopg [38] kj3 (fun kq v38 w' => ∃ (x38_2 : Int) (x226002_2 : List Int) (x226003_2 : List Int) (u226002 : Value) (u226003 : Value), v38 = .int .i64 x38_2 ∧ Aside0 (spec_RingRoll.l0 kq a1 (wrap64 ((wrap64 (Int.tdiv a1 a0_0)) - a0_1)) (l0_2.length : Int) x38_2 a0_0 a0_1 l0_2 l0_3 t217 t218 x226002_2 x226003_2 = some (r1, r2, r3, r4)) ∧ Aside0 (kq ≤ kj3) ∧ Aside0 (Kd.R (Kd.int .i64) 3 w' w.heap.size (fun k_ => some k_ ≠ (u226003 : Value).ownBlock) u226002 x226002_2) ∧ Aside0 (Kd.R (Kd.int .i64) 3 w' w.heap.size (fun k_ => some k_ ≠ (u226002 : Value).ownBlock) u226003 x226003_2) ∧ Aside0 (w'.heap[gb215]? = some (.cells #[.int .i64 a0_0, .int .i64 a0_1, (.slice A0_2 l0_2.length c0_2), (.slice A0_3 l0_3.length c0_3)] 26 (0, 0))) ∧ Aside0 (w'.heap[gb216]? = some (.cells #[.int .i64 0, .int .i64 0, (.slice none 0 0), (.slice none 0 0)] 26 (0, 0))) ∧ Aside0 (w'.heap[gb225]? = some (.cells #[.int .i64 t217, .int .i64 t218, u226002, u226003] 26 (0, 0))) ∧ Aside0 (Below w.heap.size w w'))
     case atStart => exact ⟨(0), (t219), (t222), (.slice Ao14 t219.length co14), (.slice Ao15 t222.length co15), sp_, H', ⟨Nat.le_refl _⟩, ⟨ra_ HO_226002⟩, ⟨ra_ HO_226003⟩, ⟨by (with_reducible repeat (first | refine blk_drewN ?_ _ | refine blk_drew ?_ | refine blk_alloc ?_ _)); exact BK215.out⟩, ⟨by (with_reducible repeat (first | refine blk_drewN ?_ _ | refine blk_drew ?_ | refine blk_alloc ?_ _)); exact BK216.out⟩, ⟨by (with_reducible repeat (first | refine blk_drewN ?_ _ | refine blk_drew ?_ | refine blk_alloc ?_ _)); exact BK225.out⟩, ⟨bl_⟩⟩
     case round =>
      clear H'
      try clear c1
      try clear c2
      try clear p2
      try clear c3
      try clear p6
      try clear c13
      try clear c17
      try clear c19
      try clear c20
      try clear c20b0
      try clear c30
      try clear c31
      try clear c32
      try clear c34
      try clear c36
      try clear c36b0
      try clear c36b1
      try clear c38
      try clear c39
      try clear hcz33_0
      try clear hcz33_1
      try clear hcz33_2
      try clear hcz33_3
      try clear hcz35_0
      try clear hcz35_1
      try clear hcz35_2
      try clear hcz35_3
      try clear hcz40_0
      try clear hcz40_1
      try clear hcz40_2
      try clear hcz40_3
      try clear hfz33_0
      try clear hfz33_1
      try clear hfz33_2
      try clear hfz33_3
      try clear hfz35_0
      try clear hfz35_1
      try clear hfz35_2
      try clear hfz35_3
      try clear hfz40_0
      try clear hfz40_1
      try clear hfz40_2
      try clear hfz40_3
      try clear p2
      try clear p6
      obtain ⟨x38_2, x226002_2, x226003_2, u226002, u226003, rfl, HA, HK2, HO_226002, HO_226003, BK215, BK216, BK225, HB⟩ := hrel
      cases gk with
      | zero => exact absurd HA.out (by simp [spec_RingRoll.l0])
      | succ k2 =>
       have H := HA.out
       clear HA
       simp only [spec_RingRoll.l0] at H
       by_cases c41 : x38_2 < (l0_2.length : Int)
       ·rw [if_pos c41] at H
        have c41b0 : decide (x38_2 < (l0_2.length : Int)) = true := decide_eq_true c41
        clear c41
        by_cases c42 : 0 ≤ x38_2
        ·rw [if_pos c42] at H
         have c42b0 : decide (0 ≤ x38_2) = true := decide_eq_true c42
         clear c42
         by_cases c43 : x38_2 < (x226002_2.length : Int)
         ·rw [if_pos c43] at H
          have c43b0 : decide (x38_2 < (x226002_2.length : Int)) = true := decide_eq_true c43
          clear c43
          obtain ⟨y228, hy228⟩ : ∃ y_ : List Int, y_ = (x226002_2.set (x38_2 : Int).toNat 0) := ⟨_, rfl⟩
          replace H : (if x38_2 < (x226003_2.length : Int) then ((some (x226003_2.set (x38_2 : Int).toNat 0 : List Int)).bind fun y229 => (if x38_2 ≥ (wrap64 ((wrap64 (Int.tdiv a1 a0_0)) - a0_1)) then (if 0 ≤ (wrap64 (x38_2 - (wrap64 ((wrap64 (Int.tdiv a1 a0_0)) - a0_1)))) then (if (wrap64 (x38_2 - (wrap64 ((wrap64 (Int.tdiv a1 a0_0)) - a0_1)))) < (l0_2.length : Int) then (if (wrap64 (x38_2 - (wrap64 ((wrap64 (Int.tdiv a1 a0_0)) - a0_1)))) < (l0_3.length : Int) then (spec_RingRoll.l0 k2 a1 (wrap64 ((wrap64 (Int.tdiv a1 a0_0)) - a0_1)) (l0_2.length : Int) (wrap64 (x38_2 + 1)) a0_0 a0_1 l0_2 l0_3 t217 t218 (y228.set (x38_2 : Int).toNat (rd l0_2 (wrap64 (x38_2 - (wrap64 ((wrap64 (Int.tdiv a1 a0_0)) - a0_1)))))) (y229.set (x38_2 : Int).toNat (rd l0_3 (wrap64 (x38_2 - (wrap64 ((wrap64 (Int.tdiv a1 a0_0)) - a0_1))))))) else (none)) else (none)) else (none)) else (spec_RingRoll.l0 k2 a1 (wrap64 ((wrap64 (Int.tdiv a1 a0_0)) - a0_1)) (l0_2.length : Int) (wrap64 (x38_2 + 1)) a0_0 a0_1 l0_2 l0_3 t217 t218 y228 y229))) else (none)) = some (r1, r2, r3, r4) := by first | (rw [hy228]; with_reducible exact H) | (have H2_ := (Option.bind_some _ _).symm.trans H; rw [hy228]; with_reducible exact H2_) | (have H2_ := (Option.bind_some _ _).symm.trans H; with_reducible exact H2_) | with_reducible exact H | (rw [hy228]; exact H) | exact H
          have Ny228 := Aside0.mk hy228
          clear hy228
          by_cases c45 : x38_2 < (x226003_2.length : Int)
          ·rw [if_pos c45] at H
           have c45b0 : decide (x38_2 < (x226003_2.length : Int)) = true := decide_eq_true c45
           clear c45
           obtain ⟨y229, hy229⟩ : ∃ y_ : List Int, y_ = (x226003_2.set (x38_2 : Int).toNat 0) := ⟨_, rfl⟩
           replace H : (if x38_2 ≥ (wrap64 ((wrap64 (Int.tdiv a1 a0_0)) - a0_1)) then (if 0 ≤ (wrap64 (x38_2 - (wrap64 ((wrap64 (Int.tdiv a1 a0_0)) - a0_1)))) then (if (wrap64 (x38_2 - (wrap64 ((wrap64 (Int.tdiv a1 a0_0)) - a0_1)))) < (l0_2.length : Int) then (if (wrap64 (x38_2 - (wrap64 ((wrap64 (Int.tdiv a1 a0_0)) - a0_1)))) < (l0_3.length : Int) then (spec_RingRoll.l0 k2 a1 (wrap64 ((wrap64 (Int.tdiv a1 a0_0)) - a0_1)) (l0_2.length : Int) (wrap64 (x38_2 + 1)) a0_0 a0_1 l0_2 l0_3 t217 t218 (y228.set (x38_2 : Int).toNat (rd l0_2 (wrap64 (x38_2 - (wrap64 ((wrap64 (Int.tdiv a1 a0_0)) - a0_1)))))) (y229.set (x38_2 : Int).toNat (rd l0_3 (wrap64 (x38_2 - (wrap64 ((wrap64 (Int.tdiv a1 a0_0)) - a0_1))))))) else (none)) else (none)) else (none)) else (spec_RingRoll.l0 k2 a1 (wrap64 ((wrap64 (Int.tdiv a1 a0_0)) - a0_1)) (l0_2.length : Int) (wrap64 (x38_2 + 1)) a0_0 a0_1 l0_2 l0_3 t217 t218 y228 y229)) = some (r1, r2, r3, r4) := by first | (rw [hy229]; with_reducible exact H) | (have H2_ := (Option.bind_some _ _).symm.trans H; rw [hy229]; with_reducible exact H2_) | (have H2_ := (Option.bind_some _ _).symm.trans H; with_reducible exact H2_) | with_reducible exact H | (rw [hy229]; exact H) | exact H
           have Ny229 := Aside0.mk hy229
           clear hy229
           by_cases c47 : x38_2 ≥ (wrap64 ((wrap64 (Int.tdiv a1 a0_0)) - a0_1))
           ·rw [if_pos c47] at H
            have c47b0 : decide ((wrap64 ((wrap64 (Int.tdiv a1 a0_0)) - a0_1)) ≤ x38_2) = true := decide_eq_true c47
            clear c47
            obtain ⟨ji48, hji48⟩ : ∃ j_ : Int, (wrap64 (x38_2 - (wrap64 ((wrap64 (Int.tdiv a1 a0_0)) - a0_1)))) = j_ := ⟨_, rfl⟩
            replace H : (if 0 ≤ (ji48) then (if (ji48) < (l0_2.length : Int) then (if (ji48) < (l0_3.length : Int) then (spec_RingRoll.l0 k2 a1 (wrap64 ((wrap64 (Int.tdiv a1 a0_0)) - a0_1)) (l0_2.length : Int) (wrap64 (x38_2 + 1)) a0_0 a0_1 l0_2 l0_3 t217 t218 (y228.set (x38_2 : Int).toNat (rd l0_2 (ji48))) (y229.set (x38_2 : Int).toNat (rd l0_3 (ji48)))) else (none)) else (none)) else (none)) = some (r1, r2, r3, r4) := by first | (rw [hji48] at H; exact H) | (simp only [hji48] at H ⊢; exact H)
            have hji48w : (IntKind.i64.wrap (x38_2 - (wrap64 ((wrap64 (Int.tdiv a1 a0_0)) - a0_1)))) = ji48 := (i64_w _).trans hji48
            by_cases c49 : 0 ≤ (ji48)
            ·rw [if_pos c49] at H
             have c49b0 : decide (0 ≤ (ji48)) = true := decide_eq_true c49
             clear c49
             by_cases c50 : (ji48) < (l0_2.length : Int)
             ·rw [if_pos c50] at H
              have c50b0 : decide ((ji48) < (l0_2.length : Int)) = true := decide_eq_true c50
              clear c50
              obtain ⟨y231, hy231⟩ : ∃ y_ : List Int, y_ = (y228.set (x38_2 : Int).toNat (rd l0_2 (ji48))) := ⟨_, rfl⟩
              replace H : (if (ji48) < (l0_3.length : Int) then (spec_RingRoll.l0 k2 a1 (wrap64 ((wrap64 (Int.tdiv a1 a0_0)) - a0_1)) (l0_2.length : Int) (wrap64 (x38_2 + 1)) a0_0 a0_1 l0_2 l0_3 t217 t218 y231 (y229.set (x38_2 : Int).toNat (rd l0_3 (ji48)))) else (none)) = some (r1, r2, r3, r4) := by first | (rw [hy231]; with_reducible exact H) | (have H2_ := (Option.bind_some _ _).symm.trans H; rw [hy231]; with_reducible exact H2_) | (have H2_ := (Option.bind_some _ _).symm.trans H; with_reducible exact H2_) | with_reducible exact H | (rw [hy231]; exact H) | exact H
              have Ny231 := Aside0.mk hy231
              clear hy231
              by_cases c52 : (ji48) < (l0_3.length : Int)
              ·rw [if_pos c52] at H
               have c52b0 : decide ((ji48) < (l0_3.length : Int)) = true := decide_eq_true c52
               clear c52
               obtain ⟨y233, hy233⟩ : ∃ y_ : List Int, y_ = (y229.set (x38_2 : Int).toNat (rd l0_3 (ji48))) := ⟨_, rfl⟩
               replace H : (spec_RingRoll.l0 k2 a1 (wrap64 ((wrap64 (Int.tdiv a1 a0_0)) - a0_1)) (l0_2.length : Int) (wrap64 (x38_2 + 1)) a0_0 a0_1 l0_2 l0_3 t217 t218 y231 y233) = some (r1, r2, r3, r4) := by first | (rw [hy233]; with_reducible exact H) | (have H2_ := (Option.bind_some _ _).symm.trans H; rw [hy233]; with_reducible exact H2_) | (have H2_ := (Option.bind_some _ _).symm.trans H; with_reducible exact H2_) | with_reducible exact H | (rw [hy233]; exact H) | exact H
               have Ny233 := Aside0.mk hy233
               clear hy233
               have H' := Aside0.mk H
               clear H
               have hnb54 := NB225_215.out
               have hnc54 := NB215_225.out
               have hnb55 := NB225_216.out
               have hnc55 := NB216_225.out
               have hcz56_0 := cz_ BK225 0 (.int .i64 t217)
               have hcz56_1 := cz_ BK225 1 (.int .i64 t218)
               have hcz56_2 := cz_ BK225 2 (u226002)
               have hcz56_3 := cz_ BK225 3 (u226003)
               have hfz56_0 := fz_ BK225 0
               have hfz56_1 := fz_ BK225 1
               have hfz56_2 := fz_ BK225 2
               have hfz56_3 := fz_ BK225 3
               have p44 : 0 ≤ (x38_2 : Int) := od_
               have q44 : (x38_2 : Int) < ((x226002_2.length : Int) : Int) := od_
               obtain ⟨go44, co44, eo44, gb44, gl44, cl44, HG44⟩ := Kd.R_form HO_226002.out (by omega)
               (first | cases eo44 | (injection eo44 with ea_ en_ ec_; (first | subst ea_ | (injection ea_ with ea_; subst ea_)); subst ec_; clear en_))
               have GB44 := Aside0.mk gb44
               have GG44 := Aside0.mk HG44
               clear gb44 gl44 HG44
               obtain ⟨hx44_0, hf44_0⟩ := Kd.R_celln 0 HO_226002.out (x38_2 : Int) p44 q44
               replace p44 := eq_true p44
               replace q44 := eq_true q44
               have HP57 := Kd.R_putg HO_226002.out (x38_2 : Int) 0
               try go_wp2_with (first | ((with_reducible refine gate_store (t := 3) (p := 44) rfl ?_); refine store_event (t := 3) (p := 44) (v := ?vo_w58) (w1 := (wr.setCell ⟨go44, (x38_2 : Int).toNat, none⟩ (.int .i64 0))) ?hg ?ho ?hn ?hr ?_; (case ho => rfl); (case hg => rfl); (case hn => rfl); (case hr => first | (go_simp; done) | (go_simp; rfl)); intro w58 hw; have hg : wr.grownBy w58 (some go44) := (by rw [hw]; exact HP57.2); have hp_ : Kd.R (Kd.int .i64) 3 w58 w.heap.size (fun k_ => some k_ ≠ (u226003 : Value).ownBlock) (.slice (some ⟨go44, 0, none⟩) x226002_2.length co44) y228 := (by rw [hw, Ny228.out]; exact HP57.1); clear HP57; replace HO_226003 := Aside0.mk (Kd.R_after (v := (.slice (some ⟨go44, 0, none⟩) x226002_2.length co44)) (v1 := (.slice (some ⟨go44, 0, none⟩) x226002_2.length co44)) (ok := (fun _ => True)) (by (with_reducible repeat (first | apply Kd.R_alloc | apply Kd.R_drewN | apply Kd.R_drew)); exact Kd.R_mono HO_226003.out (fun _ hk => ⟨trivial, hk⟩)) hg (.inl rfl)); replace BK215 := Aside0.mk (blk_grown (bk_ BK215) hg (Kd.R_ne HO_226002.out BK215.out (by decide))); replace BK216 := Aside0.mk (blk_grown (bk_ BK216) hg (Kd.R_ne HO_226002.out BK216.out (by decide))); replace BK225 := Aside0.mk (blk_grown (bk_ BK225) hg (Kd.R_ne HO_226002.out BK225.out (by decide))); replace HO_226002 := Aside0.mk (hp_); replace HB := Aside0.mk ((by rw [hw]; exact below_set (HB.out) GB44.out : Below w.heap.size w w58)); clear hg hw hp_; obtain ⟨hcz59_0, hcz59_1, hcz59_2, hcz59_3, hfz59_0, hfz59_1, hfz59_2, hfz59_3⟩ := bx4_ BK225; have p46 : 0 ≤ (x38_2 : Int) := od_; have q46 : (x38_2 : Int) < ((x226003_2.length : Int) : Int) := od_; obtain ⟨go46, co46, eo46, gb46, gl46, cl46, HG46⟩ := Kd.R_form HO_226003.out (by omega); (first | cases eo46 | (injection eo46 with ea_ en_ ec_; (first | subst ea_ | (injection ea_ with ea_; subst ea_)); subst ec_; clear en_)); have GB46 := Aside0.mk gb46; have GG46 := Aside0.mk HG46; clear gb46 gl46 HG46; obtain ⟨hx46_0, hf46_0⟩ := Kd.R_celln 0 HO_226003.out (x38_2 : Int) p46 q46; replace p46 := eq_true p46; replace q46 := eq_true q46; have n_ := Aside0.mk (Kd.R_mono (ok' := (fun k_ => some k_ ≠ (.slice (some ⟨go44, 0, none⟩) x226002_2.length co44 : Value).ownBlock)) HO_226003.out (fun k_ hk => hk.2)); clear HO_226003; have HO_226003 := n_; clear n_; obtain ⟨hy60_, hz60_⟩ := Kd.R_celln 0 HO_226003.out (x38_2 : Int) od_ od_; have HP60 := Kd.R_putg HO_226003.out (x38_2 : Int) 0) | ((with_reducible refine gate_store (t := 3) (p := 48) rfl ?_); refine store_event (t := 3) (p := 48) (v := ?vo_w61) (w1 := (w58.setCell ⟨go46, (x38_2 : Int).toNat, none⟩ (.int .i64 0))) ?hg ?ho ?hn ?hr ?_; (case ho => rfl); (case hg => rfl); (case hn => rfl); (case hr => first | (go_simp; done) | (go_simp; rfl)); intro w61 hw; have hg : w58.grownBy w61 (some go46) := (by rw [hw]; exact HP60.2); have hp_ : Kd.R (Kd.int .i64) 3 w61 w.heap.size (fun k_ => some k_ ≠ (.slice (some ⟨go44, 0, none⟩) x226002_2.length co44 : Value).ownBlock) (.slice (some ⟨go46, 0, none⟩) x226003_2.length co46) y229 := (by rw [hw, Ny229.out]; exact HP60.1); clear HP60; replace HO_226002 := Aside0.mk (Kd.R_after (v := (.slice (some ⟨go46, 0, none⟩) x226003_2.length co46)) (v1 := (.slice (some ⟨go46, 0, none⟩) x226003_2.length co46)) (ok := (fun _ => True)) (by (with_reducible repeat (first | apply Kd.R_alloc | apply Kd.R_drewN | apply Kd.R_drew)); exact Kd.R_mono HO_226002.out (fun _ hk => ⟨trivial, hk⟩)) hg (.inl rfl)); replace BK215 := Aside0.mk (blk_grown (bk_ BK215) hg (Kd.R_ne HO_226003.out BK215.out (by decide))); replace BK216 := Aside0.mk (blk_grown (bk_ BK216) hg (Kd.R_ne HO_226003.out BK216.out (by decide))); replace BK225 := Aside0.mk (blk_grown (bk_ BK225) hg (Kd.R_ne HO_226003.out BK225.out (by decide))); replace HO_226003 := Aside0.mk (hp_); replace HB := Aside0.mk ((by rw [hw]; exact below_set (HB.out) GB46.out : Below w.heap.size w w61)); clear hg hw hp_))
               have n0_ := Aside0.mk (Kd.R_drew HO_226002.out)
               have n1_ := Aside0.mk (Kd.R_drew HO_226003.out)
               have n2_ := Aside0.mk (blk_drew BK215.out)
               have n3_ := Aside0.mk (blk_drew BK216.out)
               have n4_ := Aside0.mk (blk_drew BK225.out)
               have n5_ := Aside0.mk (below_drew1 HB.out)
               clear HO_226002
               clear HO_226003
               clear BK215
               clear BK216
               clear BK225
               clear HB
               have HO_226002 := n0_
               have HO_226003 := n1_
               have BK215 := n2_
               have BK216 := n3_
               have BK225 := n4_
               have HB := n5_
               clear n0_ n1_ n2_ n3_ n4_ n5_
               have p230 : 0 ≤ ((ji48) : Int) := od_
               have q230 : (ji48) < (l0_2.length : Int) := od_
               obtain ⟨ad230, e230, hx230_0⟩ := Kd.at_int HR0_2.out (ji48) p230 q230
               have hw230_0 := hx230_0
               cases e230
               replace hx230_0 := kc_ HB hx230_0
               replace p230 := eq_true p230
               replace q230 := eq_true q230
               have p51 : 0 ≤ (x38_2 : Int) := od_
               have q51 : (x38_2 : Int) < ((x226002_2.length : Int) : Int) := od_
               obtain ⟨hx51_0, hf51_0⟩ := Kd.R_celln 0 HO_226002.out (x38_2 : Int) p51 q51
               replace p51 := eq_true p51
               replace q51 := eq_true q51
               have HP63 := Kd.R_putn HO_226002.out (x38_2 : Int) (rd l0_2 (ji48))
               rw [← Ny231.out] at HP63
               have HQ63 := Aside0.mk HP63
               clear HP63
               refine start_ (n := 12) (S := fun w' => w'.cell? ⟨gb225, 0, none⟩ = some (.int .i64 t217) ∧ w'.cell? ⟨gb225, 1, none⟩ = some (.int .i64 t218) ∧ w'.cell? ⟨gb225, 2, none⟩ = some (.slice (some ⟨go44, 0, none⟩) x226002_2.length co44) ∧ w'.cell? ⟨gb225, 3, none⟩ = some (.slice (some ⟨go46, 0, none⟩) x226003_2.length co46) ∧ w'.cell? ⟨gb215, 0, none⟩ = some (.int .i64 a0_0) ∧ w'.cell? ⟨gb215, 1, none⟩ = some (.int .i64 a0_1) ∧ w'.cell? ⟨gb215, 2, none⟩ = some (.slice (some ad230) l0_2.length c0_2) ∧ w'.cell? ⟨gb215, 3, none⟩ = some (.slice A0_3 l0_3.length c0_3) ∧ w'.cell? (ad230.add ((ji48)).toNat) = some (.int .i64 (rd l0_2 (ji48)))) (ds := [11]) tb12_0_7 (by kernel_rfl) rfl rfl ⟨cy_ BK225 0, cy_ BK225 1, cy_ BK225 2, cy_ BK225 3, cy_ BK215 0, cy_ BK215 1, cy_ BK215 2, cy_ BK215 3, (kc_ HB hw230_0)⟩ (fun hHeld => ?_); refine with_tabW spec_RingRoll.tab11 spec_RingRoll.bits11 (fun HT_ HW_ => ?_)
               generalize w61.drew = w62 at HO_226002 HO_226003 BK215 BK216 BK225 HB HQ63 hf51_0 hx230_0 hx51_0 hHeld ⊢
               refine pl_ HT_ 0 52 tb12_1_7 ?_
               refine pl_ HT_ 2 54 tb12_5_7 ?_
               refine pl_ HT_ 3 55 tb12_d_7 ?_
               refine pl_ HT_ 5 57 tb12_2d_7 ?_
               refine pl_ HT_ 6 58 tb12_6d_7 ?_
               refine pl_ HT_ 7 59 tb12_ed_7 ?_
               refine take_ (i := 1) (N := some 53) (v := ?_) (a' := ?_) tb12_ef_7 rfl rfl (take_ofW HT_.out HW_.out (by kernel_rfl)) (fun _ _ _ h => h) (Or.inl ⟨by rfl, ?_⟩) hHeld ?_ ?_
               rotate_left
               ·rintro w' ⟨s0, s1, s2, s3, s4, s5, s6, s7, s8⟩
                go_simp
                with_reducible rfl
               rotate_left
               ·simp only [Act.put, q_]
                rfl
               refine take_ (i := 4) (N := some 56) (v := ?_) (a' := ?_) tb12_ff_7 rfl rfl (take_ofW HT_.out HW_.out (by kernel_rfl)) (fun _ _ _ h => h) (Or.inl ⟨by rfl, ?_⟩) hHeld ?_ ?_
               rotate_left
               ·rintro w' ⟨s0, s1, s2, s3, s4, s5, s6, s7, s8⟩
                go_simp
                with_reducible rfl
               rotate_left
               ·simp only [Act.put, q_]
                rfl
               refine pl_ HT_ 8 60 tb12_1ff_7 ?_
               refine take_ (i := 9) (N := some 61) (v := ?_) (a' := ?_) tb12_3ff_7 rfl rfl (take_ofW HT_.out HW_.out (by kernel_rfl)) (fun _ _ _ h => h) (Or.inl ⟨by rfl, ?_⟩) hHeld ?_ ?_
               rotate_left
               ·rintro w' ⟨s0, s1, s2, s3, s4, s5, s6, s7, s8⟩
                go_simp
                with_reducible rfl
               rotate_left
               ·simp only [Act.put, q_]
                rfl
               refine pl_ HT_ 10 62 tb12_7ff_7 ?_
               refine last_ (i := 11) (N := none) tb12_fff_7 rfl rfl (one_of HT_.out (by kernel_rfl)) (by decide) (fun K hK => ?_)
               refine skip_ (w1 := ?_) (by rfl) rfl ?_ ?_
               rotate_left
               ·go_simp
                rfl
               refine hK.out _ _ ?_
               clear hK K
               refine done_ (done_of HT_.out (by kernel_rfl)) ?_
               try go_wp2
               have n0_ : Aside0 (Kd.R (Kd.int .i64) 3 (w62.setCell ⟨go44, (x38_2 : Int).toNat, none⟩ (.int .i64 (rd l0_2 (ji48)))) w.heap.size (fun k_ => some k_ ≠ (.slice (some ⟨go46, 0, none⟩) x226003_2.length co46 : Value).ownBlock) (.slice (some ⟨go44, 0, none⟩) x226002_2.length co44) y231) := ⟨by (with_reducible repeat (first | apply Kd.R_alloc | apply Kd.R_drewN | apply Kd.R_drew)); exact Kd.R_mono HQ63.out (fun _ hk => hk.2)⟩
               have n1_ : Aside0 (Kd.R (Kd.int .i64) 3 (w62.setCell ⟨go44, (x38_2 : Int).toNat, none⟩ (.int .i64 (rd l0_2 (ji48)))) w.heap.size (fun k_ => some k_ ≠ (.slice (some ⟨go44, 0, none⟩) x226002_2.length co44 : Value).ownBlock) (.slice (some ⟨go46, 0, none⟩) x226003_2.length co46) y229) := ⟨by (with_reducible repeat (first | apply Kd.R_alloc | apply Kd.R_drewN | apply Kd.R_drew)); exact Kd.R_mono (Kd.R_far (p := ⟨go44, (x38_2 : Int).toNat, none⟩) (Kd.R_mono HO_226003.out (fun k_ hk => (⟨hk, fun e_ => hk (by rw [e_]; rfl)⟩ : _ ∧ k_ ≠ go44))) (fun _ hk => hk.2) (.int .i64 (rd l0_2 (ji48)))) (fun _ hk => hk.1)⟩
               have n2_ : Aside0 ((w62.setCell ⟨go44, (x38_2 : Int).toNat, none⟩ (.int .i64 (rd l0_2 (ji48)))).heap[gb215]? = some (.cells #[.int .i64 a0_0, .int .i64 a0_1, .slice (some ad230) l0_2.length c0_2, .slice A0_3 l0_3.length c0_3] 26 (0, 0))) := ⟨by (with_reducible repeat (first | refine blk_drewN ?_ _ | refine blk_drew ?_ | refine blk_alloc ?_ _)); refine blk_far ?_ (by have h_ := Kd.R_ne HO_226002.out BK215.out (by decide); intro e_; exact h_ (by rw [e_]; rfl)) _; (with_reducible repeat (first | refine blk_drewN ?_ _ | refine blk_drew ?_ | refine blk_alloc ?_ _)); exact BK215.out⟩
               have n3_ : Aside0 ((w62.setCell ⟨go44, (x38_2 : Int).toNat, none⟩ (.int .i64 (rd l0_2 (ji48)))).heap[gb216]? = some (.cells #[.int .i64 0, .int .i64 0, .slice none 0 0, .slice none 0 0] 26 (0, 0))) := ⟨by (with_reducible repeat (first | refine blk_drewN ?_ _ | refine blk_drew ?_ | refine blk_alloc ?_ _)); refine blk_far ?_ (by have h_ := Kd.R_ne HO_226002.out BK216.out (by decide); intro e_; exact h_ (by rw [e_]; rfl)) _; (with_reducible repeat (first | refine blk_drewN ?_ _ | refine blk_drew ?_ | refine blk_alloc ?_ _)); exact BK216.out⟩
               have n4_ : Aside0 ((w62.setCell ⟨go44, (x38_2 : Int).toNat, none⟩ (.int .i64 (rd l0_2 (ji48)))).heap[gb225]? = some (.cells #[.int .i64 t217, .int .i64 t218, .slice (some ⟨go44, 0, none⟩) x226002_2.length co44, .slice (some ⟨go46, 0, none⟩) x226003_2.length co46] 26 (0, 0))) := ⟨by (with_reducible repeat (first | refine blk_drewN ?_ _ | refine blk_drew ?_ | refine blk_alloc ?_ _)); refine blk_far ?_ (by have h_ := Kd.R_ne HO_226002.out BK225.out (by decide); intro e_; exact h_ (by rw [e_]; rfl)) _; (with_reducible repeat (first | refine blk_drewN ?_ _ | refine blk_drew ?_ | refine blk_alloc ?_ _)); exact BK225.out⟩
               have n5_ : Aside0 (Below w.heap.size w (w62.setCell ⟨go44, (x38_2 : Int).toNat, none⟩ (.int .i64 (rd l0_2 (ji48))))) := ⟨by repeat (first | (with_reducible first | exact HB.out | apply below_alloc | apply pw_below_drewN | apply below_drew1 | refine below_set ?_ GB44.out | refine below_set ?_ GE215.out | refine below_set ?_ GE216.out | refine below_set ?_ GE225.out) | exact HB.out)⟩
               (try clear HO_226002)
               (try clear HO_226003)
               (try clear BK215)
               (try clear BK216)
               (try clear BK225)
               (try clear HB)
               generalize (w62.setCell ⟨go44, (x38_2 : Int).toNat, none⟩ (.int .i64 (rd l0_2 (ji48)))) = w64 at n0_ n1_ n2_ n3_ n4_ n5_ ⊢
               have HO_226002 := n0_
               have HO_226003 := n1_
               have BK215 := n2_
               have BK216 := n3_
               have BK225 := n4_
               have HB := n5_
               clear n0_ n1_ n2_ n3_ n4_ n5_
               have n0_ := Aside0.mk (Kd.R_drew HO_226002.out)
               have n1_ := Aside0.mk (Kd.R_drew HO_226003.out)
               have n2_ := Aside0.mk (blk_drew BK215.out)
               have n3_ := Aside0.mk (blk_drew BK216.out)
               have n4_ := Aside0.mk (blk_drew BK225.out)
               have n5_ := Aside0.mk (below_drew1 HB.out)
               clear HO_226002
               clear HO_226003
               clear BK215
               clear BK216
               clear BK225
               clear HB
               have HO_226002 := n0_
               have HO_226003 := n1_
               have BK215 := n2_
               have BK216 := n3_
               have BK225 := n4_
               have HB := n5_
               clear n0_ n1_ n2_ n3_ n4_ n5_
               have p232 : 0 ≤ ((ji48) : Int) := od_
               have q232 : (ji48) < (l0_3.length : Int) := od_
               obtain ⟨ad232, e232, hx232_0⟩ := Kd.at_int HR0_3.out (ji48) p232 q232
               have hw232_0 := hx232_0
               cases e232
               replace hx232_0 := kc_ HB hx232_0
               replace p232 := eq_true p232
               replace q232 := eq_true q232
               have p53 : 0 ≤ (x38_2 : Int) := od_
               have q53 : (x38_2 : Int) < ((x226003_2.length : Int) : Int) := od_
               obtain ⟨hx53_0, hf53_0⟩ := Kd.R_celln 0 HO_226003.out (x38_2 : Int) p53 q53
               replace p53 := eq_true p53
               replace q53 := eq_true q53
               have HP66 := Kd.R_putn HO_226003.out (x38_2 : Int) (rd l0_3 (ji48))
               rw [← Ny233.out] at HP66
               have HQ66 := Aside0.mk HP66
               clear HP66
               refine start_ (n := 12) (S := fun w' => w'.cell? ⟨gb225, 0, none⟩ = some (.int .i64 t217) ∧ w'.cell? ⟨gb225, 1, none⟩ = some (.int .i64 t218) ∧ w'.cell? ⟨gb225, 2, none⟩ = some (.slice (some ⟨go44, 0, none⟩) x226002_2.length co44) ∧ w'.cell? ⟨gb225, 3, none⟩ = some (.slice (some ⟨go46, 0, none⟩) x226003_2.length co46) ∧ w'.cell? ⟨gb215, 0, none⟩ = some (.int .i64 a0_0) ∧ w'.cell? ⟨gb215, 1, none⟩ = some (.int .i64 a0_1) ∧ w'.cell? ⟨gb215, 2, none⟩ = some (.slice (some ad230) l0_2.length c0_2) ∧ w'.cell? ⟨gb215, 3, none⟩ = some (.slice (some ad232) l0_3.length c0_3) ∧ w'.cell? (ad232.add ((ji48)).toNat) = some (.int .i64 (rd l0_3 (ji48)))) (ds := [11]) tb12_0_7 (by kernel_rfl) rfl rfl ⟨cy_ BK225 0, cy_ BK225 1, cy_ BK225 2, cy_ BK225 3, cy_ BK215 0, cy_ BK215 1, cy_ BK215 2, cy_ BK215 3, (kc_ HB hw232_0)⟩ (fun hHeld => ?_); refine with_tabW spec_RingRoll.tab12 spec_RingRoll.bits12 (fun HT_ HW_ => ?_)
               generalize w64.drew = w65 at HO_226002 HO_226003 BK215 BK216 BK225 HB HQ63 HQ66 hf53_0 hx232_0 hx53_0 hHeld ⊢
               refine pl_ HT_ 0 63 tb12_1_7 ?_
               refine pl_ HT_ 2 65 tb12_5_7 ?_
               refine pl_ HT_ 3 66 tb12_d_7 ?_
               refine pl_ HT_ 5 68 tb12_2d_7 ?_
               refine pl_ HT_ 6 69 tb12_6d_7 ?_
               refine pl_ HT_ 7 70 tb12_ed_7 ?_
               refine take_ (i := 1) (N := some 64) (v := ?_) (a' := ?_) tb12_ef_7 rfl rfl (take_ofW HT_.out HW_.out (by kernel_rfl)) (fun _ _ _ h => h) (Or.inl ⟨by rfl, ?_⟩) hHeld ?_ ?_
               rotate_left
               ·rintro w' ⟨s0, s1, s2, s3, s4, s5, s6, s7, s8⟩
                go_simp
                with_reducible rfl
               rotate_left
               ·simp only [Act.put, q_]
                rfl
               refine take_ (i := 4) (N := some 67) (v := ?_) (a' := ?_) tb12_ff_7 rfl rfl (take_ofW HT_.out HW_.out (by kernel_rfl)) (fun _ _ _ h => h) (Or.inl ⟨by rfl, ?_⟩) hHeld ?_ ?_
               rotate_left
               ·rintro w' ⟨s0, s1, s2, s3, s4, s5, s6, s7, s8⟩
                go_simp
                with_reducible rfl
               rotate_left
               ·simp only [Act.put, q_]
                rfl
               refine pl_ HT_ 8 71 tb12_1ff_7 ?_
               refine take_ (i := 9) (N := some 72) (v := ?_) (a' := ?_) tb12_3ff_7 rfl rfl (take_ofW HT_.out HW_.out (by kernel_rfl)) (fun _ _ _ h => h) (Or.inl ⟨by rfl, ?_⟩) hHeld ?_ ?_
               rotate_left
               ·rintro w' ⟨s0, s1, s2, s3, s4, s5, s6, s7, s8⟩
                go_simp
                with_reducible rfl
               rotate_left
               ·simp only [Act.put, q_]
                rfl
               refine pl_ HT_ 10 73 tb12_7ff_7 ?_
               refine last_ (i := 11) (N := none) tb12_fff_7 rfl rfl (one_of HT_.out (by kernel_rfl)) (by decide) (fun K hK => ?_)
               refine skip_ (w1 := ?_) (by rfl) rfl ?_ ?_
               rotate_left
               ·go_simp
                rfl
               refine hK.out _ _ ?_
               clear hK K
               refine done_ (done_of HT_.out (by kernel_rfl)) ?_
               try go_wp2
               go_roundg k2
               case measure => have := HJ3.out; have := HK2.out; omega
               case rel => exact ⟨(wrap64 (x38_2 + 1)), (y231), (y233), (.slice (some ⟨go44, 0, none⟩) x226002_2.length co44), (.slice (some ⟨go46, 0, none⟩) x226003_2.length co46), sp_, H', ⟨by have := HJ3.out; have := HK2.out; omega⟩, ⟨by (with_reducible repeat (first | apply Kd.R_alloc | apply Kd.R_drewN | apply Kd.R_drew)); exact Kd.R_mono (Kd.R_far (p := ⟨go46, (x38_2 : Int).toNat, none⟩) (Kd.R_mono HO_226002.out (fun k_ hk => (⟨hk, fun e_ => hk (by rw [e_]; rfl)⟩ : _ ∧ k_ ≠ go46))) (fun _ hk => hk.2) (.int .i64 (rd l0_3 (ji48)))) (fun _ hk => hk.1)⟩, ⟨by (with_reducible repeat (first | apply Kd.R_alloc | apply Kd.R_drewN | apply Kd.R_drew)); exact HQ66.out⟩, ⟨by (with_reducible repeat (first | refine blk_drewN ?_ _ | refine blk_drew ?_ | refine blk_alloc ?_ _)); refine blk_far ?_ (by have h_ := Kd.R_ne HO_226003.out BK215.out (by decide); intro e_; exact h_ (by rw [e_]; rfl)) _; (with_reducible repeat (first | refine blk_drewN ?_ _ | refine blk_drew ?_ | refine blk_alloc ?_ _)); exact BK215.out⟩, ⟨by (with_reducible repeat (first | refine blk_drewN ?_ _ | refine blk_drew ?_ | refine blk_alloc ?_ _)); refine blk_far ?_ (by have h_ := Kd.R_ne HO_226003.out BK216.out (by decide); intro e_; exact h_ (by rw [e_]; rfl)) _; (with_reducible repeat (first | refine blk_drewN ?_ _ | refine blk_drew ?_ | refine blk_alloc ?_ _)); exact BK216.out⟩, ⟨by (with_reducible repeat (first | refine blk_drewN ?_ _ | refine blk_drew ?_ | refine blk_alloc ?_ _)); refine blk_far ?_ (by have h_ := Kd.R_ne HO_226003.out BK225.out (by decide); intro e_; exact h_ (by rw [e_]; rfl)) _; (with_reducible repeat (first | refine blk_drewN ?_ _ | refine blk_drew ?_ | refine blk_alloc ?_ _)); exact BK225.out⟩, ⟨by repeat (first | (with_reducible first | exact HB.out | apply below_alloc | apply pw_below_drewN | apply below_drew1 | refine below_set ?_ GB46.out | refine below_set ?_ GE215.out | refine below_set ?_ GE216.out | refine below_set ?_ GE225.out) | exact HB.out)⟩⟩
              ·rw [if_neg c52] at H
               exact absurd H (by simp)
             ·rw [if_neg c50] at H
              exact absurd H (by simp)
            ·rw [if_neg c49] at H
             exact absurd H (by simp)
           ·rw [if_neg c47] at H
            have c47b0 : decide ((wrap64 ((wrap64 (Int.tdiv a1 a0_0)) - a0_1)) ≤ x38_2) = false := decide_eq_false c47
            clear c47
            have H' := Aside0.mk H
            clear H
            have hnb67 := NB225_215.out
            have hnc67 := NB215_225.out
            have hnb68 := NB225_216.out
            have hnc68 := NB216_225.out
            have hcz69_0 := cz_ BK225 0 (.int .i64 t217)
            have hcz69_1 := cz_ BK225 1 (.int .i64 t218)
            have hcz69_2 := cz_ BK225 2 (u226002)
            have hcz69_3 := cz_ BK225 3 (u226003)
            have hfz69_0 := fz_ BK225 0
            have hfz69_1 := fz_ BK225 1
            have hfz69_2 := fz_ BK225 2
            have hfz69_3 := fz_ BK225 3
            have p44 : 0 ≤ (x38_2 : Int) := od_
            have q44 : (x38_2 : Int) < ((x226002_2.length : Int) : Int) := od_
            obtain ⟨go44, co44, eo44, gb44, gl44, cl44, HG44⟩ := Kd.R_form HO_226002.out (by omega)
            (first | cases eo44 | (injection eo44 with ea_ en_ ec_; (first | subst ea_ | (injection ea_ with ea_; subst ea_)); subst ec_; clear en_))
            have GB44 := Aside0.mk gb44
            have GG44 := Aside0.mk HG44
            clear gb44 gl44 HG44
            obtain ⟨hx44_0, hf44_0⟩ := Kd.R_celln 0 HO_226002.out (x38_2 : Int) p44 q44
            replace p44 := eq_true p44
            replace q44 := eq_true q44
            have HP70 := Kd.R_putg HO_226002.out (x38_2 : Int) 0
            go_wp2_with (first | ((with_reducible refine gate_store (t := 3) (p := 44) rfl ?_); refine store_event (t := 3) (p := 44) (v := ?vo_w71) (w1 := (wr.setCell ⟨go44, (x38_2 : Int).toNat, none⟩ (.int .i64 0))) ?hg ?ho ?hn ?hr ?_; (case ho => rfl); (case hg => rfl); (case hn => rfl); (case hr => first | (go_simp; done) | (go_simp; rfl)); intro w71 hw; have hg : wr.grownBy w71 (some go44) := (by rw [hw]; exact HP70.2); have hp_ : Kd.R (Kd.int .i64) 3 w71 w.heap.size (fun k_ => some k_ ≠ (u226003 : Value).ownBlock) (.slice (some ⟨go44, 0, none⟩) x226002_2.length co44) y228 := (by rw [hw, Ny228.out]; exact HP70.1); clear HP70; replace HO_226003 := Aside0.mk (Kd.R_after (v := (.slice (some ⟨go44, 0, none⟩) x226002_2.length co44)) (v1 := (.slice (some ⟨go44, 0, none⟩) x226002_2.length co44)) (ok := (fun _ => True)) (by (with_reducible repeat (first | apply Kd.R_alloc | apply Kd.R_drewN | apply Kd.R_drew)); exact Kd.R_mono HO_226003.out (fun _ hk => ⟨trivial, hk⟩)) hg (.inl rfl)); replace BK215 := Aside0.mk (blk_grown (bk_ BK215) hg (Kd.R_ne HO_226002.out BK215.out (by decide))); replace BK216 := Aside0.mk (blk_grown (bk_ BK216) hg (Kd.R_ne HO_226002.out BK216.out (by decide))); replace BK225 := Aside0.mk (blk_grown (bk_ BK225) hg (Kd.R_ne HO_226002.out BK225.out (by decide))); replace HO_226002 := Aside0.mk (hp_); replace HB := Aside0.mk ((by rw [hw]; exact below_set (HB.out) GB44.out : Below w.heap.size w w71)); clear hg hw hp_; obtain ⟨hcz72_0, hcz72_1, hcz72_2, hcz72_3, hfz72_0, hfz72_1, hfz72_2, hfz72_3⟩ := bx4_ BK225; have p46 : 0 ≤ (x38_2 : Int) := od_; have q46 : (x38_2 : Int) < ((x226003_2.length : Int) : Int) := od_; obtain ⟨go46, co46, eo46, gb46, gl46, cl46, HG46⟩ := Kd.R_form HO_226003.out (by omega); (first | cases eo46 | (injection eo46 with ea_ en_ ec_; (first | subst ea_ | (injection ea_ with ea_; subst ea_)); subst ec_; clear en_)); have GB46 := Aside0.mk gb46; have GG46 := Aside0.mk HG46; clear gb46 gl46 HG46; obtain ⟨hx46_0, hf46_0⟩ := Kd.R_celln 0 HO_226003.out (x38_2 : Int) p46 q46; replace p46 := eq_true p46; replace q46 := eq_true q46; have n_ := Aside0.mk (Kd.R_mono (ok' := (fun k_ => some k_ ≠ (.slice (some ⟨go44, 0, none⟩) x226002_2.length co44 : Value).ownBlock)) HO_226003.out (fun k_ hk => hk.2)); clear HO_226003; have HO_226003 := n_; clear n_; obtain ⟨hy73_, hz73_⟩ := Kd.R_celln 0 HO_226003.out (x38_2 : Int) od_ od_; have HP73 := Kd.R_putg HO_226003.out (x38_2 : Int) 0) | ((with_reducible refine gate_store (t := 3) (p := 48) rfl ?_); refine store_event (t := 3) (p := 48) (v := ?vo_w74) (w1 := (w71.setCell ⟨go46, (x38_2 : Int).toNat, none⟩ (.int .i64 0))) ?hg ?ho ?hn ?hr ?_; (case ho => rfl); (case hg => rfl); (case hn => rfl); (case hr => first | (go_simp; done) | (go_simp; rfl)); intro w74 hw; have hg : w71.grownBy w74 (some go46) := (by rw [hw]; exact HP73.2); have hp_ : Kd.R (Kd.int .i64) 3 w74 w.heap.size (fun k_ => some k_ ≠ (.slice (some ⟨go44, 0, none⟩) x226002_2.length co44 : Value).ownBlock) (.slice (some ⟨go46, 0, none⟩) x226003_2.length co46) y229 := (by rw [hw, Ny229.out]; exact HP73.1); clear HP73; replace HO_226002 := Aside0.mk (Kd.R_after (v := (.slice (some ⟨go46, 0, none⟩) x226003_2.length co46)) (v1 := (.slice (some ⟨go46, 0, none⟩) x226003_2.length co46)) (ok := (fun _ => True)) (by (with_reducible repeat (first | apply Kd.R_alloc | apply Kd.R_drewN | apply Kd.R_drew)); exact Kd.R_mono HO_226002.out (fun _ hk => ⟨trivial, hk⟩)) hg (.inl rfl)); replace BK215 := Aside0.mk (blk_grown (bk_ BK215) hg (Kd.R_ne HO_226003.out BK215.out (by decide))); replace BK216 := Aside0.mk (blk_grown (bk_ BK216) hg (Kd.R_ne HO_226003.out BK216.out (by decide))); replace BK225 := Aside0.mk (blk_grown (bk_ BK225) hg (Kd.R_ne HO_226003.out BK225.out (by decide))); replace HO_226003 := Aside0.mk (hp_); replace HB := Aside0.mk ((by rw [hw]; exact below_set (HB.out) GB46.out : Below w.heap.size w w74)); clear hg hw hp_))
            go_roundg k2
            case measure => have := HJ3.out; have := HK2.out; omega
            case rel => exact ⟨(wrap64 (x38_2 + 1)), (y228), (y229), (.slice (some ⟨go44, 0, none⟩) x226002_2.length co44), (.slice (some ⟨go46, 0, none⟩) x226003_2.length co46), sp_, H', ⟨by have := HJ3.out; have := HK2.out; omega⟩, ⟨by (with_reducible repeat (first | apply Kd.R_alloc | apply Kd.R_drewN | apply Kd.R_drew)); exact Kd.R_mono HO_226002.out (fun _ hk => hk.2)⟩, ⟨ra_ HO_226003⟩, ⟨by (with_reducible repeat (first | refine blk_drewN ?_ _ | refine blk_drew ?_ | refine blk_alloc ?_ _)); exact BK215.out⟩, ⟨by (with_reducible repeat (first | refine blk_drewN ?_ _ | refine blk_drew ?_ | refine blk_alloc ?_ _)); exact BK216.out⟩, ⟨by (with_reducible repeat (first | refine blk_drewN ?_ _ | refine blk_drew ?_ | refine blk_alloc ?_ _)); exact BK225.out⟩, ⟨bl_⟩⟩
          ·rw [if_neg c45] at H
           exact absurd H (by simp)
         ·rw [if_neg c43] at H
          exact absurd H (by simp)
        ·rw [if_neg c42] at H
         exact absurd H (by simp)
       ·rw [if_neg c41] at H
        have c41b0 : decide (x38_2 < (l0_2.length : Int)) = false := decide_eq_false c41
        clear c41
        by_cases c75 : a0_0 = 0
        ·rw [if_pos c75] at H
         exact absurd H (by simp)
        ·rw [if_neg c75] at H
         have c75b0 : (a0_0 == 0) = false := beq_eq_false_iff_ne.mpr c75
         have c75b1 : (a0_0 != 0) = true := bne_iff_ne.mpr c75
         simp only [Option.some.injEq, Prod.mk.injEq] at H
         obtain ⟨rfl, rfl, rfl, rfl⟩ := H
         have hnb76 := NB215_216.out
         have hnc76 := NB216_215.out
         have hnb77 := NB215_225.out
         have hnc77 := NB225_215.out
         have hcz78_0 := cz_ BK215 0 (.int .i64 a0_0)
         have hcz78_1 := cz_ BK215 1 (.int .i64 a0_1)
         have hcz78_2 := cz_ BK215 2 (.slice A0_2 l0_2.length c0_2)
         have hcz78_3 := cz_ BK215 3 (.slice A0_3 l0_3.length c0_3)
         have hfz78_0 := fz_ BK215 0
         have hfz78_1 := fz_ BK215 1
         have hfz78_2 := fz_ BK215 2
         have hfz78_3 := fz_ BK215 3
         have hnb79 := NB225_216.out
         have hnc79 := NB216_225.out
         have hcz80_0 := cz_ BK225 0 (.int .i64 t217)
         have hcz80_1 := cz_ BK225 1 (.int .i64 t218)
         have hcz80_2 := cz_ BK225 2 (u226002)
         have hcz80_3 := cz_ BK225 3 (u226003)
         have hfz80_0 := fz_ BK225 0
         have hfz80_1 := fz_ BK225 1
         have hfz80_2 := fz_ BK225 2
         have hfz80_3 := fz_ BK225 3
         have hcz81_0 := cz_ BK216 0 (.int .i64 0)
         have hcz81_1 := cz_ BK216 1 (.int .i64 0)
         have hcz81_2 := cz_ BK216 2 (.slice none 0 0)
         have hcz81_3 := cz_ BK216 3 (.slice none 0 0)
         have hfz81_0 := fz_ BK216 0
         have hfz81_1 := fz_ BK216 1
         have hfz81_2 := fz_ BK216 2
         have hfz81_3 := fz_ BK216 3
         obtain ⟨Ao82, co82, eo82⟩ := Kd.R_slice HO_226002.out
         subst eo82
         obtain ⟨Ao83, co83, eo83⟩ := Kd.R_slice HO_226003.out
         subst eo83
         go_wp2
         refine bodyPost_ret (results_cell_row rfl _ _ gb216 26 #[.int .i64 t217, .int .i64 (wrap64 (Int.tdiv a1 a0_0)), .slice Ao82 x226002_2.length co82, .slice Ao83 x226003_2.length co83] (0, 0) _ rfl (by (with_reducible repeat (first | refine blk_drewN ?_ _ | refine blk_drew ?_ | refine blk_alloc ?_ _)); apply bq4_3_2_1_0_; (with_reducible repeat (first | refine blk_drewN ?_ _ | refine blk_drew ?_ | refine blk_alloc ?_ _)); refine blk_far ?_ NB216_225.out _; (with_reducible repeat (first | refine blk_drewN ?_ _ | refine blk_drew ?_ | refine blk_alloc ?_ _)); exact BK216.out) Tryd.underlying26 rfl (by kernel_rfl)) rfl ?_
         exact ⟨_, _, by first | rfl | (simp [errW_none, errW_some] <;> rfl) | (simp [*, errW_none, errW_some] <;> rfl), by (with_reducible repeat (first | apply Kd.R_alloc | apply Kd.R_drewN | apply Kd.R_drew)); exact Kd.R_mono (Kd.R_far (p := ⟨gb216, 3, none⟩) (Kd.R_far (p := ⟨gb216, 2, none⟩) (Kd.R_far (p := ⟨gb216, 1, none⟩) (Kd.R_far (p := ⟨gb216, 0, none⟩) (Kd.R_far (p := ⟨gb225, 1, none⟩) (Kd.R_types (Kd.R_types HO_226002.out BK225.out (by decide)) BK216.out (by decide)) (fun _ hk => hk.1.2) (.int .i64 (wrap64 (Int.tdiv a1 a0_0)))) (fun _ hk => hk.2) (.int .i64 t217)) (fun _ hk => hk.2) (.int .i64 (wrap64 (Int.tdiv a1 a0_0)))) (fun _ hk => hk.2) (.slice Ao82 x226002_2.length co82)) (fun _ hk => hk.2) (.slice Ao83 x226003_2.length co83)) (fun _ hk => hk.1.1), by (with_reducible repeat (first | apply Kd.R_alloc | apply Kd.R_drewN | apply Kd.R_drew)); exact Kd.R_mono (Kd.R_far (p := ⟨gb216, 3, none⟩) (Kd.R_far (p := ⟨gb216, 2, none⟩) (Kd.R_far (p := ⟨gb216, 1, none⟩) (Kd.R_far (p := ⟨gb216, 0, none⟩) (Kd.R_far (p := ⟨gb225, 1, none⟩) (Kd.R_types (Kd.R_types HO_226003.out BK225.out (by decide)) BK216.out (by decide)) (fun _ hk => hk.1.2) (.int .i64 (wrap64 (Int.tdiv a1 a0_0)))) (fun _ hk => hk.2) (.int .i64 t217)) (fun _ hk => hk.2) (.int .i64 (wrap64 (Int.tdiv a1 a0_0)))) (fun _ hk => hk.2) (.slice Ao82 x226002_2.length co82)) (fun _ hk => hk.2) (.slice Ao83 x226003_2.length co83)) (fun _ hk => hk.1.1), bl_⟩
end Go.Proofs.YtbjpfknmkpnhjaaDoor.QFnMoney
