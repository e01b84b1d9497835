-- by my own printer (myprint.py, over the kit's print.py)
import Derived.Test.YtbjpfknmkpnhjaaDoorQFnMoneyx0
import Derived.Test.YtbjpfknmkpnhjaaDoorQFnMoneyx1
import Derived.Test.YtbjpfknmkpnhjaaDoorQFnMoneyx2
import Derived.Test.YtbjpfknmkpnhjaaDoorQFnMoneyx4
import Derived.Test.YtbjpfknmkpnhjaaDoorQFnMoneyx6
import Derived.Test.YtbjpfknmkpnhjaaDoorQFnMoneyx7
namespace Go.Proofs.YtbjpfknmkpnhjaaDoor.QFnMoney
open Go.RowKit Go.Proofs.YtbjpfknmkpnhjaaDoorW.PrintWords Go.Proofs.YtbjpfknmkpnhjaaDoorW.PrintLast Go.Proofs.YtbjpfknmkpnhjaaDoorW.PrintMore
attribute [local go_sem] max2_int min2_int max_two min_two max_three min_three max_four min_four   -- for this text's walks alone
set_option linter.unusedVariables false
set_option linter.unusedSimpArgs false
attribute [local go_sem] my_geq my_leq my_gtr
abbrev tb10_0_8 : Array Bool := #[b0, b0, b0, b0, b0, b0, b0, b0, b0, b0]
abbrev tb10_1_8 : Array Bool := #[b1, b0, b0, b0, b0, b0, b0, b0, b0, b0]
abbrev tb10_1ff_8 : Array Bool := #[b1, b1, b1, b1, b1, b1, b1, b1, b1, b0]
abbrev tb10_3ff_8 : Array Bool := #[b1, b1, b1, b1, b1, b1, b1, b1, b1, b1]
abbrev tb10_45_8 : Array Bool := #[b1, b0, b1, b0, b0, b0, b1, b0, b0, b0]
abbrev tb10_47_8 : Array Bool := #[b1, b1, b1, b0, b0, b0, b1, b0, b0, b0]
abbrev tb10_4f_8 : Array Bool := #[b1, b1, b1, b1, b0, b0, b1, b0, b0, b0]
abbrev tb10_5_8 : Array Bool := #[b1, b0, b1, b0, b0, b0, b0, b0, b0, b0]
abbrev tb10_5f_8 : Array Bool := #[b1, b1, b1, b1, b1, b0, b1, b0, b0, b0]
abbrev tb10_7f_8 : Array Bool := #[b1, b1, b1, b1, b1, b1, b1, b0, b0, b0]
abbrev tb10_ff_8 : Array Bool := #[b1, b1, b1, b1, b1, b1, b1, b1, b0, b0]
abbrev tb9_0_8 : Array Bool := #[b0, b0, b0, b0, b0, b0, b0, b0, b0]
abbrev tb9_1_8 : Array Bool := #[b1, b0, b0, b0, b0, b0, b0, b0, b0]
abbrev tb9_1f_8 : Array Bool := #[b1, b1, b1, b1, b1, b0, b0, b0, b0]
abbrev tb9_1ff_8 : Array Bool := #[b1, b1, b1, b1, b1, b1, b1, b1, b1]
abbrev tb9_3f_8 : Array Bool := #[b1, b1, b1, b1, b1, b1, b0, b0, b0]
abbrev tb9_5_8 : Array Bool := #[b1, b0, b1, b0, b0, b0, b0, b0, b0]
abbrev tb9_7_8 : Array Bool := #[b1, b1, b1, b0, b0, b0, b0, b0, b0]
abbrev tb9_7f_8 : Array Bool := #[b1, b1, b1, b1, b1, b1, b1, b0, b0]
abbrev tb9_f_8 : Array Bool := #[b1, b1, b1, b1, b0, b0, b0, b0, b0]
abbrev tb9_ff_8 : Array Bool := #[b1, b1, b1, b1, b1, b1, b1, b1, b0]
/-! ### spec_RingAdd: function 99 -/
def spec_RingAdd.j0 : Nat → Int → Int → Bool → Int → Int → List Int → List Int → Option (Int × Int × List Int × List Int)
 | 0, _, _, _, _, _, _, _ => none
 | k + 1, x1, x2, x20, x235000, x235001, x235002, x235003 => if x20 = true then ((spec_l06Copy.f x235000 x235001 x235002 x235003).bind fun bt239 => (some (bt239.1, bt239.2.1, bt239.2.2.1, bt239.2.2.2))) else ((spec_RingRoll.f k x235000 x235001 x235002 x235003 x1).bind fun bt247 => (if 0 < (bt247.2.2.1.length : Int) then ((spec_AddSat.f (rd bt247.2.2.1 0) 1).bind fun t257 => (if 0 < (bt247.2.2.2.length : Int) then ((spec_AddSat.f (rd bt247.2.2.2 0) x2).bind fun t260 => (some (bt247.1, bt247.2.1, (bt247.2.2.1.set (0 : Int).toNat t257), (bt247.2.2.2.set (0 : Int).toNat t260)))) else (none))) else (none)))
def spec_RingAdd.f (k : Nat) (a0_0 : Int) (a0_1 : Int) (l0_2 : List Int) (l0_3 : List Int) (a1 : Int) (a2 : Int) : Option (Int × Int × List Int × List Int) := (spec_RingOk.f k a0_0 a0_1 l0_2 l0_3).bind fun t236 => (if t236 = true then ((spec_l06Time.f a1).bind fun t237 => (if t237 = true then ((spec_l01Money.f a2).bind fun t238 => (spec_RingAdd.j0 k a1 a2 (!t238) a0_0 a0_1 l0_2 l0_3)) else (spec_RingAdd.j0 k a1 a2 true a0_0 a0_1 l0_2 l0_3))) else (spec_RingAdd.j0 k a1 a2 true a0_0 a0_1 l0_2 l0_3))
def spec_RingAdd.T4 : Bool × List (List Nat × List Nat) := (true, [([], []), ([0], [0]), ([], []), ([2], [2]), ([3], [3]), ([4], [4]), ([5], [5]), ([1, 0, 1, 2, 3, 4, 5, 6], [1]), ([7, 6, 6, 0, 1, 2, 3, 4, 5, 6], [6, 7])])
def spec_RingAdd.B4 : List Nat := [0, 1, 0, 4, 12, 28, 60, 127, 255]
theorem spec_RingAdd.tab4 : rtab .any (opsOf Tryd.f99 4) = spec_RingAdd.T4 := by kernel_rfl
theorem spec_RingAdd.bits4 : waitsOk spec_RingAdd.T4.2 spec_RingAdd.B4 = true := by kernel_rfl
def spec_RingAdd.T5 : Bool × List (List Nat × List Nat) := (true, [([], []), ([0], [0]), ([], []), ([2], [2]), ([3], [3]), ([4], [4]), ([], []), ([5, 6], [5, 6]), ([1, 0, 1, 2, 3, 4, 5, 6, 7], [1]), ([8, 7, 7, 0, 1, 2, 3, 4, 5, 6, 7], [7, 8])])
def spec_RingAdd.B5 : List Nat := [0, 1, 0, 4, 12, 28, 0, 124, 255, 511]
theorem spec_RingAdd.tab5 : rtab .any (opsOf Tryd.f99 5) = spec_RingAdd.T5 := by kernel_rfl
theorem spec_RingAdd.bits5 : waitsOk spec_RingAdd.T5.2 spec_RingAdd.B5 = true := by kernel_rfl
set_option maxHeartbeats 8000000 in
set_option maxRecDepth 100000 in
theorem spec_RingAdd.calls (k : Nat) (a0_0 : Int) (a0_1 : Int) (A0_2 : Option Addr) (c0_2 : Nat) (l0_2 : List Int) (A0_3 : Option Addr) (c0_3 : Nat) (l0_3 : List Int) (a1 : Int) (a2 : Int) (r1 : Int) (r2 : Int) (r3 : List Int) (r4 : List Int) (w : World) (hr0_2 : Kd.C (Kd.int .i64) w A0_2 l0_2.length l0_2) (hc0_2 : l0_2.length ≤ c0_2) (hr0_3 : Kd.C (Kd.int .i64) w A0_3 l0_3.length l0_3) (hc0_3 : l0_3.length ≤ c0_3) (h : spec_RingAdd.f k a0_0 a0_1 l0_2 l0_3 a1 a2 = some (r1, r2, r3, r4)) :
  Calls Tryd.prog 99 #[.agg #[.int .i64 a0_0, .int .i64 a0_1, .slice A0_2 l0_2.length c0_2, .slice A0_3 l0_3.length c0_3], .int .i64 a1, .int .i64 a2] w fun e w' => ∃ v2_ v3_ : Value, e = .returned (.agg #[.int .i64 r1, .int .i64 r2, v2_, v3_]) ∧ Kd.R (Kd.int .i64) 3 w' w.heap.size (fun k_ => some k_ ≠ (v3_ : Value).ownBlock) v2_ r3 ∧ Kd.R (Kd.int .i64) 3 w' w.heap.size (fun k_ => some k_ ≠ (v2_ : Value).ownBlock) v3_ r4 ∧ Below w.heap.size w w' := by
 have hu26 := Tryd.underlying26
 have HR0_2 := Aside0.mk hr0_2
 have HC0_2 := Aside0.mk hc0_2
 clear hr0_2 hc0_2
 have HR0_3 := Aside0.mk hr0_3
 have HC0_3 := Aside0.mk hc0_3
 clear hr0_3 hc0_3
 have HB := Aside0.mk (Below.refl w.heap.size w)
 have H : ((spec_RingOk.f k a0_0 a0_1 l0_2 l0_3).bind fun t236 => (if t236 = true then ((spec_l06Time.f a1).bind fun t237 => (if t237 = true then ((spec_l01Money.f a2).bind fun t238 => (spec_RingAdd.j0 k a1 a2 (!t238) a0_0 a0_1 l0_2 l0_3)) else (spec_RingAdd.j0 k a1 a2 true a0_0 a0_1 l0_2 l0_3))) else (spec_RingAdd.j0 k a1 a2 true a0_0 a0_1 l0_2 l0_3))) = some (r1, r2, r3, r4) := h
 clear h
 have HC4 := Aside0.mk H
 clear H
 go_enter Tryd.func99, Tryd.ntmps99
 go_upto_region 1 with (first | ((with_reducible refine gate_dst (N := 3) rfl ?_); refine be_ (N := 3) (cs := #[.int .i64 a0_0, .int .i64 a0_1, .slice A0_2 l0_2.length c0_2, .slice A0_3 l0_3.length c0_3]) (t := 26) ?_; intro gb234 hg w5 hbox hb; have BK234 := Aside0.mk (hbox); have GW234 := gw_ (w := w) hg; have GE234 := gw_ (w := w) hg; replace HB := Aside0.mk (below_step bl_ hb); clear hb hbox hg) | ((with_reducible refine gate_dst (N := 6) rfl ?_); refine be_ (N := 6) (cs := #[.int .i64 0, .int .i64 0, .slice none 0 0, .slice none 0 0]) (t := 26) ?_; intro gb235 hg w6 hbox hb; have BK235 := Aside0.mk (hbox); have GW235 := gw_ (w := w) hg; have GE235 := gw_ (w := w) hg; replace HB := Aside0.mk (below_step bl_ hb); have NB234_235 := Aside0.mk ((by rw [hg]; exact Nat.ne_of_lt (blk_lt (bk_ BK234)) : gb234 ≠ gb235)); have NB235_234 := Aside0.mk ((by rw [hg]; exact Nat.ne_of_gt (blk_lt (bk_ BK234)) : gb235 ≠ gb234)); replace BK234 := Aside0.mk (blk_below (bk_ BK234) hb); clear hb hbox hg))
 (try simp only [Act.put, List.setIfInBounds_toArray, List.set_cons_zero, List.set_cons_succ])
 go_cut [20] (fun v20 wc => ∃ (kq : Nat) (x20_3 : Bool), v20 = .bool x20_3 ∧ Aside0 (spec_RingAdd.j0 kq a1 a2 x20_3 a0_0 a0_1 l0_2 l0_3 = some (r1, r2, r3, r4)) ∧ Aside0 (kq ≤ k) ∧ Aside0 (wc.heap[gb234]? = some (.cells #[.int .i64 a0_0, .int .i64 a0_1, (.slice A0_2 l0_2.length c0_2), (.slice A0_3 l0_3.length c0_3)] 26 (0, 0))) ∧ Aside0 (wc.heap[gb235]? = some (.cells #[.int .i64 0, .int .i64 0, (.slice none 0 0), (.slice none 0 0)] 26 (0, 0))) ∧ Aside0 (Below w.heap.size w wc))
 case first =>
  have H := HC4.out
  clear HC4
  obtain ⟨t236, A7, H⟩ := ob_ H
  by_cases c8 : t236 = true
  ·subst c8
   replace H := ip_ H
   obtain ⟨t237, A9, H⟩ := ob_ H
   by_cases c10 : t237 = true
   ·subst c10
    replace H := ip_ H
    obtain ⟨t238, A11, H⟩ := ob_ H
    have H' := Aside0.mk H
    clear H
    have hnb12 := NB234_235.out
    have hnc12 := NB235_234.out
    have hcz13_0 := cz_ BK234 0 (.int .i64 a0_0)
    have hcz13_1 := cz_ BK234 1 (.int .i64 a0_1)
    have hcz13_2 := cz_ BK234 2 (.slice A0_2 l0_2.length c0_2)
    have hcz13_3 := cz_ BK234 3 (.slice A0_3 l0_3.length c0_3)
    have hfz13_0 := fz_ BK234 0
    have hfz13_1 := fz_ BK234 1
    have hfz13_2 := fz_ BK234 2
    have hfz13_3 := fz_ BK234 3
    go_wp2_with (first | ((with_reducible refine gate_callee (f := 135) rfl ?_); refine goesL_ (some 9) rfl rfl Tryd.func135 (by kernel_rfl) rfl #[.agg #[.int .i64 a0_0, .int .i64 a0_1, .slice A0_2 l0_2.length c0_2, .slice A0_3 l0_3.length c0_3]] rfl gl_ ?_; (with_reducible refine (spec_RingOk.calls k a0_0 a0_1 _ _ l0_2 _ _ l0_3 true _ ?side1 ?side2 ?side3 ?side4 A7.out).mono ?_); (case side1 => exact ca_ (Kd.C_below HR0_2.out HB.out)); (case side2 => exact HC0_2.out); (case side3 => exact ca_ (Kd.C_below HR0_3.out HB.out)); (case side4 => exact HC0_3.out); rintro e w14 ⟨rfl, hb⟩; refine ⟨_, rfl, ?_⟩; replace BK234 := Aside0.mk (blk_below (bk_ BK234) hb); replace BK235 := Aside0.mk (blk_below (bk_ BK235) hb); replace HB := Aside0.mk (below_step bl_ hb); (try clear hb); (try clear hb2); (try clear hk); (try clear hi)) | (go_at_call 137; (with_reducible refine (spec_l06Time.calls a1 true _ A9.out).mono ?_); rintro e w' ⟨rfl, ⟨nd, rfl⟩⟩) | (go_at_call 115; (with_reducible refine (spec_l01Money.calls a2 t238 _ A11.out).mono ?_); rintro e w' ⟨rfl, ⟨nd, rfl⟩⟩))
    go_meet
    case rel => exact ⟨_, (!t238), sp_, H', ⟨by first | omega | exact Nat.le_refl _⟩, ⟨by (with_reducible repeat (first | refine blk_drewN ?_ _ | refine blk_drew ?_ | refine blk_alloc ?_ _)); exact BK234.out⟩, ⟨by (with_reducible repeat (first | refine blk_drewN ?_ _ | refine blk_drew ?_ | refine blk_alloc ?_ _)); exact BK235.out⟩, ⟨bl_⟩⟩
   ·replace c10 := Bool.eq_false_iff.mpr c10
    subst c10
    replace H := in_ H
    have H' := Aside0.mk H
    clear H
    have hnb15 := NB234_235.out
    have hnc15 := NB235_234.out
    have hcz16_0 := cz_ BK234 0 (.int .i64 a0_0)
    have hcz16_1 := cz_ BK234 1 (.int .i64 a0_1)
    have hcz16_2 := cz_ BK234 2 (.slice A0_2 l0_2.length c0_2)
    have hcz16_3 := cz_ BK234 3 (.slice A0_3 l0_3.length c0_3)
    have hfz16_0 := fz_ BK234 0
    have hfz16_1 := fz_ BK234 1
    have hfz16_2 := fz_ BK234 2
    have hfz16_3 := fz_ BK234 3
    go_wp2_with (first | ((with_reducible refine gate_callee (f := 135) rfl ?_); refine goesL_ (some 9) rfl rfl Tryd.func135 (by kernel_rfl) rfl #[.agg #[.int .i64 a0_0, .int .i64 a0_1, .slice A0_2 l0_2.length c0_2, .slice A0_3 l0_3.length c0_3]] rfl gl_ ?_; (with_reducible refine (spec_RingOk.calls k a0_0 a0_1 _ _ l0_2 _ _ l0_3 true _ ?side1 ?side2 ?side3 ?side4 A7.out).mono ?_); (case side1 => exact ca_ (Kd.C_below HR0_2.out HB.out)); (case side2 => exact HC0_2.out); (case side3 => exact ca_ (Kd.C_below HR0_3.out HB.out)); (case side4 => exact HC0_3.out); rintro e w17 ⟨rfl, hb⟩; refine ⟨_, rfl, ?_⟩; replace BK234 := Aside0.mk (blk_below (bk_ BK234) hb); replace BK235 := Aside0.mk (blk_below (bk_ BK235) hb); replace HB := Aside0.mk (below_step bl_ hb); (try clear hb); (try clear hb2); (try clear hk); (try clear hi)) | (go_at_call 137; (with_reducible refine (spec_l06Time.calls a1 false _ A9.out).mono ?_); rintro e w' ⟨rfl, ⟨nd, rfl⟩⟩))
    go_meet
    case rel => exact ⟨_, (true), sp_, H', ⟨by first | omega | exact Nat.le_refl _⟩, ⟨by (with_reducible repeat (first | refine blk_drewN ?_ _ | refine blk_drew ?_ | refine blk_alloc ?_ _)); exact BK234.out⟩, ⟨by (with_reducible repeat (first | refine blk_drewN ?_ _ | refine blk_drew ?_ | refine blk_alloc ?_ _)); exact BK235.out⟩, ⟨bl_⟩⟩
  ·replace c8 := Bool.eq_false_iff.mpr c8
   subst c8
   replace H := in_ H
   have H' := Aside0.mk H
   clear H
   have hnb18 := NB234_235.out
   have hnc18 := NB235_234.out
   have hcz19_0 := cz_ BK234 0 (.int .i64 a0_0)
   have hcz19_1 := cz_ BK234 1 (.int .i64 a0_1)
   have hcz19_2 := cz_ BK234 2 (.slice A0_2 l0_2.length c0_2)
   have hcz19_3 := cz_ BK234 3 (.slice A0_3 l0_3.length c0_3)
   have hfz19_0 := fz_ BK234 0
   have hfz19_1 := fz_ BK234 1
   have hfz19_2 := fz_ BK234 2
   have hfz19_3 := fz_ BK234 3
   go_wp2_with (first | ((with_reducible refine gate_callee (f := 135) rfl ?_); refine goesL_ (some 9) rfl rfl Tryd.func135 (by kernel_rfl) rfl #[.agg #[.int .i64 a0_0, .int .i64 a0_1, .slice A0_2 l0_2.length c0_2, .slice A0_3 l0_3.length c0_3]] rfl gl_ ?_; (with_reducible refine (spec_RingOk.calls k a0_0 a0_1 _ _ l0_2 _ _ l0_3 false _ ?side1 ?side2 ?side3 ?side4 A7.out).mono ?_); (case side1 => exact ca_ (Kd.C_below HR0_2.out HB.out)); (case side2 => exact HC0_2.out); (case side3 => exact ca_ (Kd.C_below HR0_3.out HB.out)); (case side4 => exact HC0_3.out); rintro e w20 ⟨rfl, hb⟩; refine ⟨_, rfl, ?_⟩; replace BK234 := Aside0.mk (blk_below (bk_ BK234) hb); replace BK235 := Aside0.mk (blk_below (bk_ BK235) hb); replace HB := Aside0.mk (below_step bl_ hb); (try clear hb); (try clear hb2); (try clear hk); (try clear hi)))
   go_meet
   case rel => exact ⟨_, (true), sp_, H', ⟨by first | omega | exact Nat.le_refl _⟩, ⟨by (with_reducible repeat (first | refine blk_drewN ?_ _ | refine blk_drew ?_ | refine blk_alloc ?_ _)); exact BK234.out⟩, ⟨by (with_reducible repeat (first | refine blk_drewN ?_ _ | refine blk_drew ?_ | refine blk_alloc ?_ _)); exact BK235.out⟩, ⟨bl_⟩⟩
 case rest =>
  clear HC4
  try clear c1
  try clear p2
  try clear c8
  try clear c9
  try clear c10
  try clear c12
  try clear c13
  try clear c15
  try clear c18
  try clear hcz13_0
  try clear hcz13_1
  try clear hcz13_2
  try clear hcz13_3
  try clear hcz16_0
  try clear hcz16_1
  try clear hcz16_2
  try clear hcz16_3
  try clear hcz19_0
  try clear hcz19_1
  try clear hcz19_2
  try clear hcz19_3
  try clear hfz13_0
  try clear hfz13_1
  try clear hfz13_2
  try clear hfz13_3
  try clear hfz16_0
  try clear hfz16_1
  try clear hfz16_2
  try clear hfz16_3
  try clear hfz19_0
  try clear hfz19_1
  try clear hfz19_2
  try clear hfz19_3
  obtain ⟨kq, x20_3, rfl, HA, HJ3, BK234, BK235, HB⟩ := hcut
  cases kq with
  | zero => exact absurd HA.out (by simp [spec_RingAdd.j0])
  | succ kj3 =>
   have H := HA.out
   clear HA
   simp only [spec_RingAdd.j0] at H
   by_cases c21 : x20_3 = true
   ·subst c21
    replace H := ip_ H
    obtain ⟨⟨t239, t240, t241, t244⟩, A22, H⟩ := ob_ H
    (try dsimp only at H)
    simp only [Option.some.injEq, Prod.mk.injEq] at H
    obtain ⟨rfl, rfl, rfl, rfl⟩ := H
    have hnb23 := NB234_235.out
    have hnc23 := NB235_234.out
    have hcz24_0 := cz_ BK234 0 (.int .i64 a0_0)
    have hcz24_1 := cz_ BK234 1 (.int .i64 a0_1)
    have hcz24_2 := cz_ BK234 2 (.slice A0_2 l0_2.length c0_2)
    have hcz24_3 := cz_ BK234 3 (.slice A0_3 l0_3.length c0_3)
    have hfz24_0 := fz_ BK234 0
    have hfz24_1 := fz_ BK234 1
    have hfz24_2 := fz_ BK234 2
    have hfz24_3 := fz_ BK234 3
    go_wp2_with (first | ((with_reducible refine gate_callee (f := 138) rfl ?_); refine goesL_ (some 22) rfl rfl Tryd.func138 (by kernel_rfl) rfl #[.agg #[.int .i64 a0_0, .int .i64 a0_1, .slice A0_2 l0_2.length c0_2, .slice A0_3 l0_3.length c0_3]] rfl gl_ ?_; (with_reducible refine (spec_l06Copy.calls a0_0 a0_1 _ _ l0_2 _ _ l0_3 t239 t240 t241 t244 _ ?side1 ?side2 ?side3 ?side4 A22.out).mono ?_); (case side1 => exact ca_ (Kd.C_below HR0_2.out HB.out)); (case side2 => exact HC0_2.out); (case side3 => exact ca_ (Kd.C_below HR0_3.out HB.out)); (case side4 => exact HC0_3.out); rintro e w25 ⟨v242, v245, rfl, ho0, ho1, hb⟩; refine ⟨_, rfl, ?_⟩; have HO243 := Aside0.mk (Kd.R_lower ho0 (below_size bl_)); have HO246 := Aside0.mk (Kd.R_lower ho1 (below_size bl_)); replace BK234 := Aside0.mk (blk_below (bk_ BK234) hb); replace BK235 := Aside0.mk (blk_below (bk_ BK235) hb); replace HB := Aside0.mk (below_step bl_ hb); (try clear hb); (try clear hb2); (try clear hk); (try clear hi); (try clear ho0); (try clear ho1); obtain ⟨hcz26_0, hcz26_1, hcz26_2, hcz26_3, hfz26_0, hfz26_1, hfz26_2, hfz26_3⟩ := bx4_ BK235; obtain ⟨Ao27, co27, eo27⟩ := Kd.R_slice HO243.out; subst eo27; obtain ⟨Ao28, co28, eo28⟩ := Kd.R_slice HO246.out; subst eo28))
    refine bodyPost_ret (results_cell_row rfl _ _ gb235 26 #[.int .i64 t239, .int .i64 t240, .slice Ao27 t241.length co27, .slice Ao28 t244.length co28] (0, 0) _ rfl (by (with_reducible repeat (first | refine blk_drewN ?_ _ | refine blk_drew ?_ | refine blk_alloc ?_ _)); apply bq4_3_2_1_0_; (with_reducible repeat (first | refine blk_drewN ?_ _ | refine blk_drew ?_ | refine blk_alloc ?_ _)); exact BK235.out) Tryd.underlying26 rfl (by kernel_rfl)) rfl ?_
    exact ⟨_, _, by first | rfl | (simp [errW_none, errW_some] <;> rfl) | (simp [*, errW_none, errW_some] <;> rfl), by (with_reducible repeat (first | apply Kd.R_alloc | apply Kd.R_drewN | apply Kd.R_drew)); exact Kd.R_mono (Kd.R_far (p := ⟨gb235, 3, none⟩) (Kd.R_far (p := ⟨gb235, 2, none⟩) (Kd.R_far (p := ⟨gb235, 1, none⟩) (Kd.R_far (p := ⟨gb235, 0, none⟩) (Kd.R_types HO243.out BK235.out (by decide)) (fun _ hk => hk.2) (.int .i64 t239)) (fun _ hk => hk.2) (.int .i64 t240)) (fun _ hk => hk.2) (.slice Ao27 t241.length co27)) (fun _ hk => hk.2) (.slice Ao28 t244.length co28)) (fun _ hk => hk.1), by (with_reducible repeat (first | apply Kd.R_alloc | apply Kd.R_drewN | apply Kd.R_drew)); exact Kd.R_mono (Kd.R_far (p := ⟨gb235, 3, none⟩) (Kd.R_far (p := ⟨gb235, 2, none⟩) (Kd.R_far (p := ⟨gb235, 1, none⟩) (Kd.R_far (p := ⟨gb235, 0, none⟩) (Kd.R_types HO246.out BK235.out (by decide)) (fun _ hk => hk.2) (.int .i64 t239)) (fun _ hk => hk.2) (.int .i64 t240)) (fun _ hk => hk.2) (.slice Ao27 t241.length co27)) (fun _ hk => hk.2) (.slice Ao28 t244.length co28)) (fun _ hk => hk.1), bl_⟩
   ·replace c21 := Bool.eq_false_iff.mpr c21
    subst c21
    replace H := in_ H
    obtain ⟨⟨t247, t248, t249, t252⟩, A29, H⟩ := ob_ H
    (try dsimp only at H)
    by_cases c30 : 0 < (t249.length : Int)
    ·rw [if_pos c30] at H
     have c30b0 : decide (0 < (t249.length : Int)) = true := decide_eq_true c30
     have c30b1 : decide (0 < t249.length) = true := decide_eq_true (by omega)
     clear c30
     obtain ⟨t257, A31, H⟩ := ob_ H
     obtain ⟨y258, hy258⟩ : ∃ y_ : List Int, y_ = (t249.set (0 : Int).toNat t257) := ⟨_, rfl⟩
     replace H : (if 0 < (t252.length : Int) then ((spec_AddSat.f (rd t252 0) a2).bind fun t260 => (some (t247, t248, y258, (t252.set (0 : Int).toNat t260)))) else (none)) = some (r1, r2, r3, r4) := by first | (rw [hy258]; with_reducible exact H) | (have H2_ := (Option.bind_some _ _).symm.trans H; rw [hy258]; with_reducible exact H2_) | (have H2_ := (Option.bind_some _ _).symm.trans H; with_reducible exact H2_) | with_reducible exact H | (rw [hy258]; exact H) | exact H
     have Ny258 := Aside0.mk hy258
     clear hy258
     by_cases c33 : 0 < (t252.length : Int)
     ·rw [if_pos c33] at H
      have c33b0 : decide (0 < (t252.length : Int)) = true := decide_eq_true c33
      have c33b1 : decide (0 < t252.length) = true := decide_eq_true (by omega)
      clear c33
      obtain ⟨t260, A34, H⟩ := ob_ H
      obtain ⟨y261, hy261⟩ : ∃ y_ : List Int, y_ = (t252.set (0 : Int).toNat t260) := ⟨_, rfl⟩
      replace H : (some (t247, t248, y258, y261)) = some (r1, r2, r3, r4) := by first | (rw [hy261]; with_reducible exact H) | (have H2_ := (Option.bind_some _ _).symm.trans H; rw [hy261]; with_reducible exact H2_) | (have H2_ := (Option.bind_some _ _).symm.trans H; with_reducible exact H2_) | with_reducible exact H | (rw [hy261]; exact H) | exact H
      have Ny261 := Aside0.mk hy261
      clear hy261
      simp only [Option.some.injEq, Prod.mk.injEq] at H
      obtain ⟨rfl, rfl, rfl, rfl⟩ := H
      have hnb36 := NB234_235.out
      have hnc36 := NB235_234.out
      have hcz37_0 := cz_ BK234 0 (.int .i64 a0_0)
      have hcz37_1 := cz_ BK234 1 (.int .i64 a0_1)
      have hcz37_2 := cz_ BK234 2 (.slice A0_2 l0_2.length c0_2)
      have hcz37_3 := cz_ BK234 3 (.slice A0_3 l0_3.length c0_3)
      have hfz37_0 := fz_ BK234 0
      have hfz37_1 := fz_ BK234 1
      have hfz37_2 := fz_ BK234 2
      have hfz37_3 := fz_ BK234 3
      try go_wp2_with (first | ((with_reducible refine gate_callee (f := 139) rfl ?_); refine goesL_ (some 25) rfl rfl Tryd.func139 (by kernel_rfl) rfl #[.agg #[.int .i64 a0_0, .int .i64 a0_1, .slice A0_2 l0_2.length c0_2, .slice A0_3 l0_3.length c0_3], .int .i64 a1] rfl gl_ ?_; (with_reducible refine (spec_RingRoll.calls kj3 a0_0 a0_1 _ _ l0_2 _ _ l0_3 a1 t247 t248 t249 t252 _ ?side1 ?side2 ?side3 ?side4 A29.out).mono ?_); (case side1 => exact ca_ (Kd.C_below HR0_2.out HB.out)); (case side2 => exact HC0_2.out); (case side3 => exact ca_ (Kd.C_below HR0_3.out HB.out)); (case side4 => exact HC0_3.out); rintro e w38 ⟨v250, v253, rfl, ho0, ho1, hb⟩; refine ⟨_, rfl, ?_⟩; have HO251 := Aside0.mk (Kd.R_lower ho0 (below_size bl_)); have HO254 := Aside0.mk (Kd.R_lower ho1 (below_size bl_)); replace BK234 := Aside0.mk (blk_below (bk_ BK234) hb); replace BK235 := Aside0.mk (blk_below (bk_ BK235) hb); replace HB := Aside0.mk (below_step bl_ hb); (try clear hb); (try clear hb2); (try clear hk); (try clear hi); (try clear ho0); (try clear ho1)) | ((with_reducible refine gate_dst (N := 7) rfl ?_); refine be_ (N := 7) (cs := #[.int .i64 0, .int .i64 0, .slice none 0 0, .slice none 0 0]) (t := 26) ?_; intro gb255 hg w39 hbox hb; replace HO251 := Aside0.mk (Kd.R_below (ra_ HO251) hb); replace HO254 := Aside0.mk (Kd.R_below (ra_ HO254) hb); have BK255 := Aside0.mk (hbox); have GW255 := gw_ (w := w) hg; have GE255 := gw_ (w := w) hg; replace HB := Aside0.mk (below_step bl_ hb); have NB234_255 := Aside0.mk ((by rw [hg]; exact Nat.ne_of_lt (blk_lt (bk_ BK234)) : gb234 ≠ gb255)); have NB255_234 := Aside0.mk ((by rw [hg]; exact Nat.ne_of_gt (blk_lt (bk_ BK234)) : gb255 ≠ gb234)); replace BK234 := Aside0.mk (blk_below (bk_ BK234) hb); have NB235_255 := Aside0.mk ((by rw [hg]; exact Nat.ne_of_lt (blk_lt (bk_ BK235)) : gb235 ≠ gb255)); have NB255_235 := Aside0.mk ((by rw [hg]; exact Nat.ne_of_gt (blk_lt (bk_ BK235)) : gb255 ≠ gb235)); replace BK235 := Aside0.mk (blk_below (bk_ BK235) hb); clear hb hbox hg; have hnb40 := NB255_234.out; have hnc40 := NB234_255.out; have hnb41 := NB255_235.out; have hnc41 := NB235_255.out; obtain ⟨hcz42_0, hcz42_1, hcz42_2, hcz42_3, hfz42_0, hfz42_1, hfz42_2, hfz42_3⟩ := bx4_ BK255; obtain ⟨Ao43, co43, eo43⟩ := Kd.R_slice HO251.out; subst eo43; obtain ⟨Ao44, co44, eo44⟩ := Kd.R_slice HO254.out; subst eo44))
      have n0_ : Aside0 (Kd.R (Kd.int .i64) 3 ((((w39.setCell ⟨gb255, 0, none⟩ (.int .i64 t247)).setCell ⟨gb255, 1, none⟩ (.int .i64 t248)).setCell ⟨gb255, 2, none⟩ (.slice Ao43 t249.length co43)).setCell ⟨gb255, 3, none⟩ (.slice Ao44 t252.length co44)) w.heap.size (fun k_ => some k_ ≠ (.slice Ao44 t252.length co44 : Value).ownBlock) (.slice Ao43 t249.length co43) t249) := ⟨by (with_reducible repeat (first | apply Kd.R_alloc | apply Kd.R_drewN | apply Kd.R_drew)); exact Kd.R_mono (Kd.R_far (p := ⟨gb255, 3, none⟩) (Kd.R_far (p := ⟨gb255, 2, none⟩) (Kd.R_far (p := ⟨gb255, 1, none⟩) (Kd.R_far (p := ⟨gb255, 0, none⟩) (Kd.R_types HO251.out BK255.out (by decide)) (fun _ hk => hk.2) (.int .i64 t247)) (fun _ hk => hk.2) (.int .i64 t248)) (fun _ hk => hk.2) (.slice Ao43 t249.length co43)) (fun _ hk => hk.2) (.slice Ao44 t252.length co44)) (fun _ hk => hk.1)⟩
      have n1_ : Aside0 (Kd.R (Kd.int .i64) 3 ((((w39.setCell ⟨gb255, 0, none⟩ (.int .i64 t247)).setCell ⟨gb255, 1, none⟩ (.int .i64 t248)).setCell ⟨gb255, 2, none⟩ (.slice Ao43 t249.length co43)).setCell ⟨gb255, 3, none⟩ (.slice Ao44 t252.length co44)) w.heap.size (fun k_ => some k_ ≠ (.slice Ao43 t249.length co43 : Value).ownBlock) (.slice Ao44 t252.length co44) t252) := ⟨by (with_reducible repeat (first | apply Kd.R_alloc | apply Kd.R_drewN | apply Kd.R_drew)); exact Kd.R_mono (Kd.R_far (p := ⟨gb255, 3, none⟩) (Kd.R_far (p := ⟨gb255, 2, none⟩) (Kd.R_far (p := ⟨gb255, 1, none⟩) (Kd.R_far (p := ⟨gb255, 0, none⟩) (Kd.R_types HO254.out BK255.out (by decide)) (fun _ hk => hk.2) (.int .i64 t247)) (fun _ hk => hk.2) (.int .i64 t248)) (fun _ hk => hk.2) (.slice Ao43 t249.length co43)) (fun _ hk => hk.2) (.slice Ao44 t252.length co44)) (fun _ hk => hk.1)⟩
      have n2_ : Aside0 (((((w39.setCell ⟨gb255, 0, none⟩ (.int .i64 t247)).setCell ⟨gb255, 1, none⟩ (.int .i64 t248)).setCell ⟨gb255, 2, none⟩ (.slice Ao43 t249.length co43)).setCell ⟨gb255, 3, none⟩ (.slice Ao44 t252.length co44)).heap[gb234]? = some (.cells #[.int .i64 a0_0, .int .i64 a0_1, .slice A0_2 l0_2.length c0_2, .slice A0_3 l0_3.length c0_3] 26 (0, 0))) := ⟨by (with_reducible repeat (first | refine blk_drewN ?_ _ | refine blk_drew ?_ | refine blk_alloc ?_ _)); refine blk_far ?_ NB234_255.out _; (with_reducible repeat (first | refine blk_drewN ?_ _ | refine blk_drew ?_ | refine blk_alloc ?_ _)); refine blk_far ?_ NB234_255.out _; (with_reducible repeat (first | refine blk_drewN ?_ _ | refine blk_drew ?_ | refine blk_alloc ?_ _)); refine blk_far ?_ NB234_255.out _; (with_reducible repeat (first | refine blk_drewN ?_ _ | refine blk_drew ?_ | refine blk_alloc ?_ _)); refine blk_far ?_ NB234_255.out _; (with_reducible repeat (first | refine blk_drewN ?_ _ | refine blk_drew ?_ | refine blk_alloc ?_ _)); exact BK234.out⟩
      have n3_ : Aside0 (((((w39.setCell ⟨gb255, 0, none⟩ (.int .i64 t247)).setCell ⟨gb255, 1, none⟩ (.int .i64 t248)).setCell ⟨gb255, 2, none⟩ (.slice Ao43 t249.length co43)).setCell ⟨gb255, 3, none⟩ (.slice Ao44 t252.length co44)).heap[gb235]? = some (.cells #[.int .i64 0, .int .i64 0, .slice none 0 0, .slice none 0 0] 26 (0, 0))) := ⟨by (with_reducible repeat (first | refine blk_drewN ?_ _ | refine blk_drew ?_ | refine blk_alloc ?_ _)); refine blk_far ?_ NB235_255.out _; (with_reducible repeat (first | refine blk_drewN ?_ _ | refine blk_drew ?_ | refine blk_alloc ?_ _)); refine blk_far ?_ NB235_255.out _; (with_reducible repeat (first | refine blk_drewN ?_ _ | refine blk_drew ?_ | refine blk_alloc ?_ _)); refine blk_far ?_ NB235_255.out _; (with_reducible repeat (first | refine blk_drewN ?_ _ | refine blk_drew ?_ | refine blk_alloc ?_ _)); refine blk_far ?_ NB235_255.out _; (with_reducible repeat (first | refine blk_drewN ?_ _ | refine blk_drew ?_ | refine blk_alloc ?_ _)); exact BK235.out⟩
      have n4_ : Aside0 (((((w39.setCell ⟨gb255, 0, none⟩ (.int .i64 t247)).setCell ⟨gb255, 1, none⟩ (.int .i64 t248)).setCell ⟨gb255, 2, none⟩ (.slice Ao43 t249.length co43)).setCell ⟨gb255, 3, none⟩ (.slice Ao44 t252.length co44)).heap[gb255]? = some (.cells #[.int .i64 t247, .int .i64 t248, .slice Ao43 t249.length co43, .slice Ao44 t252.length co44] 26 (0, 0))) := ⟨by (with_reducible repeat (first | refine blk_drewN ?_ _ | refine blk_drew ?_ | refine blk_alloc ?_ _)); apply bq4_3_2_1_0_; (with_reducible repeat (first | refine blk_drewN ?_ _ | refine blk_drew ?_ | refine blk_alloc ?_ _)); exact BK255.out⟩
      have n5_ : Aside0 (Below w.heap.size w ((((w39.setCell ⟨gb255, 0, none⟩ (.int .i64 t247)).setCell ⟨gb255, 1, none⟩ (.int .i64 t248)).setCell ⟨gb255, 2, none⟩ (.slice Ao43 t249.length co43)).setCell ⟨gb255, 3, none⟩ (.slice Ao44 t252.length co44))) := ⟨bl_⟩
      (try clear HO251)
      (try clear HO254)
      (try clear BK234)
      (try clear BK235)
      (try clear BK255)
      (try clear HB)
      generalize ((((w39.setCell ⟨gb255, 0, none⟩ (.int .i64 t247)).setCell ⟨gb255, 1, none⟩ (.int .i64 t248)).setCell ⟨gb255, 2, none⟩ (.slice Ao43 t249.length co43)).setCell ⟨gb255, 3, none⟩ (.slice Ao44 t252.length co44)) = w45 at n0_ n1_ n2_ n3_ n4_ n5_ ⊢
      have HO251 := n0_
      have HO254 := n1_
      have BK234 := n2_
      have BK235 := n3_
      have BK255 := n4_
      have HB := n5_
      clear n0_ n1_ n2_ n3_ n4_ n5_
      have n0_ := Aside0.mk (Kd.R_drew HO251.out)
      have n1_ := Aside0.mk (Kd.R_drew HO254.out)
      have n2_ := Aside0.mk (blk_drew BK234.out)
      have n3_ := Aside0.mk (blk_drew BK235.out)
      have n4_ := Aside0.mk (blk_drew BK255.out)
      have n5_ := Aside0.mk (below_drew1 HB.out)
      clear HO251
      clear HO254
      clear BK234
      clear BK235
      clear BK255
      clear HB
      have HO251 := n0_
      have HO254 := n1_
      have BK234 := n2_
      have BK235 := n3_
      have BK255 := n4_
      have HB := n5_
      clear n0_ n1_ n2_ n3_ n4_ n5_
      have p256 : 0 ≤ (0 : Int) := (by omega)
      have q256 : 0 < (t249.length : Int) := od_
      obtain ⟨ad256, e256, hx256_0⟩ := Kd.at_int (Kd.R_reads' HO251.out).2.2 0 p256 q256
      cases e256
      have qi256 : (0 < t249.length) = True := eq_true (by omega)
      (try rw [show ((0 : Int)).toNat = 0 from rfl] at hx256_0)
      (try rw [Addr.add_zero'] at hx256_0)
      replace p256 := eq_true p256
      replace q256 := eq_true q256
      refine start_ (n := 9) (S := fun w' => w'.cell? ⟨gb255, 0, none⟩ = some (.int .i64 t247) ∧ w'.cell? ⟨gb255, 1, none⟩ = some (.int .i64 t248) ∧ w'.cell? ⟨gb255, 2, none⟩ = some (.slice (some ad256) t249.length co43) ∧ w'.cell? ⟨gb255, 3, none⟩ = some (.slice Ao44 t252.length co44) ∧ w'.cell? ad256 = some (.int .i64 (rd t249 0))) (ds := [8]) tb9_0_8 (by kernel_rfl) rfl rfl ⟨cy_ BK255 0, cy_ BK255 1, cy_ BK255 2, cy_ BK255 3, hx256_0⟩ (fun hHeld => ?_); refine with_tabW spec_RingAdd.tab4 spec_RingAdd.bits4 (fun HT_ HW_ => ?_)
      generalize w45.drew = w46 at HO251 HO254 BK234 BK235 BK255 HB hx256_0 hHeld ⊢
      refine pl_ HT_ 0 26 tb9_1_8 ?_
      refine pl_ HT_ 2 28 tb9_5_8 ?_
      refine take_ (i := 1) (N := some 27) (v := ?_) (a' := ?_) tb9_7_8 rfl rfl (take_ofW HT_.out HW_.out (by kernel_rfl)) (fun _ _ _ h => h) (Or.inl ⟨by rfl, ?_⟩) hHeld ?_ ?_
      rotate_left
      ·rintro w' ⟨s0, s1, s2, s3, s4⟩
       go_simp
       with_reducible rfl
      rotate_left
      ·simp only [Act.put, q_]
       rfl
      refine take_ (i := 3) (N := some 29) (v := ?_) (a' := ?_) tb9_f_8 rfl rfl (take_ofW HT_.out HW_.out (by kernel_rfl)) (fun _ _ _ h => h) (Or.inl ⟨by rfl, ?_⟩) hHeld ?_ ?_
      rotate_left
      ·rintro w' ⟨s0, s1, s2, s3, s4⟩
       go_simp
       with_reducible rfl
      rotate_left
      ·simp only [Act.put, q_]
       rfl
      refine pl_ HT_ 4 30 tb9_1f_8 ?_
      refine take_ (i := 5) (N := some 31) (v := ?_) (a' := ?_) tb9_3f_8 rfl rfl (take_ofW HT_.out HW_.out (by kernel_rfl)) (fun _ _ _ h => h) (Or.inl ⟨by rfl, ?_⟩) hHeld ?_ ?_
      rotate_left
      ·rintro w' ⟨s0, s1, s2, s3, s4⟩
       go_simp
       with_reducible rfl
      rotate_left
      ·simp only [Act.put, q_]
       rfl
      refine one_ (i := 6) (N := some 32) tb9_7f_8 rfl rfl (one_of HT_.out (by kernel_rfl)) (by decide) (fun K hK => ?_)
      refine goes_ Tryd.func55 (by kernel_rfl) rfl #[.int .i64 (rd t249 0), .int .i64 1] (by rfl) rfl rfl gl_ ?_
      with_reducible refine (spec_AddSat.calls (rd t249 0) 1 t257 _ A31.out).mono ?_
      rintro e w' ⟨rfl, ⟨nd, rfl⟩⟩
      refine ⟨_, rfl, ?_⟩
      have p32 : 0 ≤ (0 : Int) := (by omega)
      have q32 : (0 : Int) < ((t249.length : Int) : Int) := od_
      have qi32 : (0 < t249.length) = True := eq_true (by omega)
      obtain ⟨go32, co32, eo32, gb32, gl32, cl32, HG32⟩ := Kd.R_form HO251.out (by omega)
      (first | cases eo32 | (injection eo32 with ea_ en_ ec_; (first | subst ea_ | (injection ea_ with ea_; subst ea_)); subst ec_; clear en_))
      have GB32 := Aside0.mk gb32
      have GG32 := Aside0.mk HG32
      clear gb32 gl32 HG32
      (first | simp only [add_plain] at hx256_0 | skip)
      obtain ⟨hx32_0, hf32_0⟩ := Kd.R_celln 0 HO251.out (0 : Int) p32 q32
      (try rw [show ((0 : Int)).toNat = 0 from rfl] at hx32_0)
      (try simp only [Nat.reduceMul, Nat.zero_mul, Nat.zero_add, Nat.reduceAdd] at hx32_0)
      (try rw [show ((0 : Int)).toNat = 0 from rfl] at hf32_0)
      (try simp only [Nat.reduceMul, Nat.zero_mul, Nat.zero_add, Nat.reduceAdd] at hf32_0)
      replace p32 := eq_true p32
      replace q32 := eq_true q32
      have HP47 := Kd.R_putn HO251.out (0 : Int) t257
      rw [← Ny258.out] at HP47
      have HQ47 := Aside0.mk HP47
      clear HP47
      refine hK.out _ _ ⟨cy_ BK255 0, cy_ BK255 1, cy_ BK255 2, cy_ BK255 3, hHeld.2.2.2.2⟩ (fun hHeld => ?_)
      clear hK K
      refine norm_ (a' := ?_) ?_ ?_
      rotate_left
      ·show Act.put _ (some 32) _ = _
       simp only [Act.put, q_]
       rfl
      refine pl_ HT_ 7 33 tb9_ff_8 ?_
      refine last_ (i := 8) (N := none) tb9_1ff_8 rfl rfl (one_of HT_.out (by kernel_rfl)) (by decide) (fun K hK => ?_)
      refine skip_ (w1 := ?_) (by rfl) rfl ?_ ?_
      rotate_left
      ·go_simp
       rfl
      refine hK.out _ _ ?_
      clear hK K
      refine done_ (done_of HT_.out (by kernel_rfl)) ?_
      (try simp only [sd_])
      have n0_ : Aside0 (Kd.R (Kd.int .i64) 3 (w46.setCell ⟨go32, 0, none⟩ (.int .i64 t257)) w.heap.size (fun k_ => some k_ ≠ (.slice Ao44 t252.length co44 : Value).ownBlock) (.slice (some ⟨go32, 0, none⟩) t249.length co43) y258) := ⟨by (with_reducible repeat (first | apply Kd.R_alloc | apply Kd.R_drewN | apply Kd.R_drew)); exact HQ47.out⟩
      have n1_ : Aside0 (Kd.R (Kd.int .i64) 3 (w46.setCell ⟨go32, 0, none⟩ (.int .i64 t257)) w.heap.size (fun k_ => some k_ ≠ (.slice (some ⟨go32, 0, none⟩) t249.length co43 : Value).ownBlock) (.slice Ao44 t252.length co44) t252) := ⟨by (with_reducible repeat (first | apply Kd.R_alloc | apply Kd.R_drewN | apply Kd.R_drew)); exact Kd.R_mono (Kd.R_far (p := ⟨go32, 0, none⟩) (Kd.R_mono HO254.out (fun k_ hk => (⟨hk, fun e_ => hk (by rw [e_]; rfl)⟩ : _ ∧ k_ ≠ go32))) (fun _ hk => hk.2) (.int .i64 t257)) (fun _ hk => hk.1)⟩
      have n2_ : Aside0 ((w46.setCell ⟨go32, 0, none⟩ (.int .i64 t257)).heap[gb234]? = some (.cells #[.int .i64 a0_0, .int .i64 a0_1, .slice A0_2 l0_2.length c0_2, .slice A0_3 l0_3.length c0_3] 26 (0, 0))) := ⟨by (with_reducible repeat (first | refine blk_drewN ?_ _ | refine blk_drew ?_ | refine blk_alloc ?_ _)); refine blk_far ?_ (by have h_ := Kd.R_ne HO251.out BK234.out (by decide); intro e_; exact h_ (by rw [e_]; rfl)) _; (with_reducible repeat (first | refine blk_drewN ?_ _ | refine blk_drew ?_ | refine blk_alloc ?_ _)); exact BK234.out⟩
      have n3_ : Aside0 ((w46.setCell ⟨go32, 0, none⟩ (.int .i64 t257)).heap[gb235]? = some (.cells #[.int .i64 0, .int .i64 0, .slice none 0 0, .slice none 0 0] 26 (0, 0))) := ⟨by (with_reducible repeat (first | refine blk_drewN ?_ _ | refine blk_drew ?_ | refine blk_alloc ?_ _)); refine blk_far ?_ (by have h_ := Kd.R_ne HO251.out BK235.out (by decide); intro e_; exact h_ (by rw [e_]; rfl)) _; (with_reducible repeat (first | refine blk_drewN ?_ _ | refine blk_drew ?_ | refine blk_alloc ?_ _)); exact BK235.out⟩
      have n4_ : Aside0 ((w46.setCell ⟨go32, 0, none⟩ (.int .i64 t257)).heap[gb255]? = some (.cells #[.int .i64 t247, .int .i64 t248, .slice (some ⟨go32, 0, none⟩) t249.length co43, .slice Ao44 t252.length co44] 26 (0, 0))) := ⟨by (with_reducible repeat (first | refine blk_drewN ?_ _ | refine blk_drew ?_ | refine blk_alloc ?_ _)); refine blk_far ?_ (by have h_ := Kd.R_ne HO251.out BK255.out (by decide); intro e_; exact h_ (by rw [e_]; rfl)) _; (with_reducible repeat (first | refine blk_drewN ?_ _ | refine blk_drew ?_ | refine blk_alloc ?_ _)); exact BK255.out⟩
      have n5_ : Aside0 (Below w.heap.size w (w46.setCell ⟨go32, 0, none⟩ (.int .i64 t257))) := ⟨by repeat (first | (with_reducible first | exact HB.out | apply below_alloc | apply pw_below_drewN | apply below_drew1 | refine below_set ?_ GB32.out | refine below_set ?_ GE234.out | refine below_set ?_ GE235.out | refine below_set ?_ GE255.out) | exact HB.out)⟩
      (try clear HO251)
      (try clear HO254)
      (try clear BK234)
      (try clear BK235)
      (try clear BK255)
      (try clear HB)
      generalize (w46.setCell ⟨go32, 0, none⟩ (.int .i64 t257)) = w48 at n0_ n1_ n2_ n3_ n4_ n5_ ⊢
      have HO251 := n0_
      have HO254 := n1_
      have BK234 := n2_
      have BK235 := n3_
      have BK255 := n4_
      have HB := n5_
      clear n0_ n1_ n2_ n3_ n4_ n5_
      try go_wp2
      (try (rw [drewN_self w48]; generalize hq_ : World.drewN w48 _ = w48; have n0_ : Aside0 (Kd.R (Kd.int .i64) 3 w48 w.heap.size (fun k_ => some k_ ≠ (.slice Ao44 t252.length co44 : Value).ownBlock) (.slice (some ⟨go32, 0, none⟩) t249.length co43) y258) := ⟨by rw [← hq_]; exact (ra_ HO251)⟩; have n1_ : Aside0 (Kd.R (Kd.int .i64) 3 w48 w.heap.size (fun k_ => some k_ ≠ (.slice (some ⟨go32, 0, none⟩) t249.length co43 : Value).ownBlock) (.slice Ao44 t252.length co44) t252) := ⟨by rw [← hq_]; exact (ra_ HO254)⟩; have n2_ : Aside0 (w48.heap[gb234]? = some (.cells #[.int .i64 a0_0, .int .i64 a0_1, .slice A0_2 l0_2.length c0_2, .slice A0_3 l0_3.length c0_3] 26 (0, 0))) := ⟨by rw [← hq_]; exact (by (with_reducible repeat (first | refine blk_drewN ?_ _ | refine blk_drew ?_ | refine blk_alloc ?_ _)); exact BK234.out)⟩; have n3_ : Aside0 (w48.heap[gb235]? = some (.cells #[.int .i64 0, .int .i64 0, .slice none 0 0, .slice none 0 0] 26 (0, 0))) := ⟨by rw [← hq_]; exact (by (with_reducible repeat (first | refine blk_drewN ?_ _ | refine blk_drew ?_ | refine blk_alloc ?_ _)); exact BK235.out)⟩; have n4_ : Aside0 (w48.heap[gb255]? = some (.cells #[.int .i64 t247, .int .i64 t248, .slice (some ⟨go32, 0, none⟩) t249.length co43, .slice Ao44 t252.length co44] 26 (0, 0))) := ⟨by rw [← hq_]; exact (by (with_reducible repeat (first | refine blk_drewN ?_ _ | refine blk_drew ?_ | refine blk_alloc ?_ _)); exact BK255.out)⟩; have n5_ : Aside0 (Below w.heap.size w w48) := ⟨by rw [← hq_]; exact bl_⟩; clear HO251 HO254 BK234 BK235 BK255 HB hq_; have HO251 := n0_; have HO254 := n1_; have BK234 := n2_; have BK235 := n3_; have BK255 := n4_; have HB := n5_; clear n0_ n1_ n2_ n3_ n4_ n5_))
      have n0_ := Aside0.mk (Kd.R_drew HO251.out)
      have n1_ := Aside0.mk (Kd.R_drew HO254.out)
      have n2_ := Aside0.mk (blk_drew BK234.out)
      have n3_ := Aside0.mk (blk_drew BK235.out)
      have n4_ := Aside0.mk (blk_drew BK255.out)
      have n5_ := Aside0.mk (below_drew1 HB.out)
      clear HO251
      clear HO254
      clear BK234
      clear BK235
      clear BK255
      clear HB
      have HO251 := n0_
      have HO254 := n1_
      have BK234 := n2_
      have BK235 := n3_
      have BK255 := n4_
      have HB := n5_
      clear n0_ n1_ n2_ n3_ n4_ n5_
      have p259 : 0 ≤ (0 : Int) := (by omega)
      have q259 : 0 < (t252.length : Int) := od_
      obtain ⟨ad259, e259, hx259_0⟩ := Kd.at_int (Kd.R_reads' HO254.out).2.2 0 p259 q259
      cases e259
      have qi259 : (0 < t252.length) = True := eq_true (by omega)
      (try rw [show ((0 : Int)).toNat = 0 from rfl] at hx259_0)
      (try rw [Addr.add_zero'] at hx259_0)
      replace p259 := eq_true p259
      replace q259 := eq_true q259
      refine start_ (n := 10) (S := fun w' => w'.cell? ⟨gb255, 0, none⟩ = some (.int .i64 t247) ∧ w'.cell? ⟨gb255, 1, none⟩ = some (.int .i64 t248) ∧ w'.cell? ⟨gb255, 2, none⟩ = some (.slice (some ⟨go32, 0, none⟩) t249.length co43) ∧ w'.cell? ⟨gb255, 3, none⟩ = some (.slice (some ad259) t252.length co44) ∧ w'.cell? ad259 = some (.int .i64 (rd t252 0))) (ds := [9]) tb10_0_8 (by kernel_rfl) rfl rfl ⟨cy_ BK255 0, cy_ BK255 1, cy_ BK255 2, cy_ BK255 3, hx259_0⟩ (fun hHeld => ?_); refine with_tabW spec_RingAdd.tab5 spec_RingAdd.bits5 (fun HT_ HW_ => ?_)
      generalize w48.drew = w49 at HO251 HO254 BK234 BK235 BK255 HB hx259_0 hHeld ⊢
      refine pl_ HT_ 0 34 tb10_1_8 ?_
      refine pl_ HT_ 2 36 tb10_5_8 ?_
      refine pl_ HT_ 6 40 tb10_45_8 ?_
      refine take_ (i := 1) (N := some 35) (v := ?_) (a' := ?_) tb10_47_8 rfl rfl (take_ofW HT_.out HW_.out (by kernel_rfl)) (fun _ _ _ h => h) (Or.inl ⟨by rfl, ?_⟩) hHeld ?_ ?_
      rotate_left
      ·rintro w' ⟨s0, s1, s2, s3, s4⟩
       go_simp
       with_reducible rfl
      rotate_left
      ·simp only [Act.put, q_]
       rfl
      refine take_ (i := 3) (N := some 37) (v := ?_) (a' := ?_) tb10_4f_8 rfl rfl (take_ofW HT_.out HW_.out (by kernel_rfl)) (fun _ _ _ h => h) (Or.inl ⟨by rfl, ?_⟩) hHeld ?_ ?_
      rotate_left
      ·rintro w' ⟨s0, s1, s2, s3, s4⟩
       go_simp
       with_reducible rfl
      rotate_left
      ·simp only [Act.put, q_]
       rfl
      refine pl_ HT_ 4 38 tb10_5f_8 ?_
      refine take_ (i := 5) (N := some 39) (v := ?_) (a' := ?_) tb10_7f_8 rfl rfl (take_ofW HT_.out HW_.out (by kernel_rfl)) (fun _ _ _ h => h) (Or.inl ⟨by rfl, ?_⟩) hHeld ?_ ?_
      rotate_left
      ·rintro w' ⟨s0, s1, s2, s3, s4⟩
       go_simp
       with_reducible rfl
      rotate_left
      ·simp only [Act.put, q_]
       rfl
      refine one_ (i := 7) (N := some 41) tb10_ff_8 rfl rfl (one_of HT_.out (by kernel_rfl)) (by decide) (fun K hK => ?_)
      refine goes_ Tryd.func55 (by kernel_rfl) rfl #[.int .i64 (rd t252 0), .int .i64 a2] (by rfl) rfl rfl gl_ ?_
      with_reducible refine (spec_AddSat.calls (rd t252 0) a2 t260 _ A34.out).mono ?_
      rintro e w' ⟨rfl, ⟨nd, rfl⟩⟩
      refine ⟨_, rfl, ?_⟩
      have p35 : 0 ≤ (0 : Int) := (by omega)
      have q35 : (0 : Int) < ((t252.length : Int) : Int) := od_
      have qi35 : (0 < t252.length) = True := eq_true (by omega)
      obtain ⟨go35, co35, eo35, gb35, gl35, cl35, HG35⟩ := Kd.R_form HO254.out (by omega)
      (first | cases eo35 | (injection eo35 with ea_ en_ ec_; (first | subst ea_ | (injection ea_ with ea_; subst ea_)); subst ec_; clear en_))
      have GB35 := Aside0.mk gb35
      have GG35 := Aside0.mk HG35
      clear gb35 gl35 HG35
      (first | simp only [add_plain] at hx259_0 | skip)
      obtain ⟨hx35_0, hf35_0⟩ := Kd.R_celln 0 HO254.out (0 : Int) p35 q35
      (try rw [show ((0 : Int)).toNat = 0 from rfl] at hx35_0)
      (try simp only [Nat.reduceMul, Nat.zero_mul, Nat.zero_add, Nat.reduceAdd] at hx35_0)
      (try rw [show ((0 : Int)).toNat = 0 from rfl] at hf35_0)
      (try simp only [Nat.reduceMul, Nat.zero_mul, Nat.zero_add, Nat.reduceAdd] at hf35_0)
      replace p35 := eq_true p35
      replace q35 := eq_true q35
      have HP50 := Kd.R_putn HO254.out (0 : Int) t260
      rw [← Ny261.out] at HP50
      have HQ50 := Aside0.mk HP50
      clear HP50
      refine hK.out _ _ ⟨cy_ BK255 0, cy_ BK255 1, cy_ BK255 2, cy_ BK255 3, hHeld.2.2.2.2⟩ (fun hHeld => ?_)
      clear hK K
      refine norm_ (a' := ?_) ?_ ?_
      rotate_left
      ·show Act.put _ (some 41) _ = _
       simp only [Act.put, q_]
       rfl
      refine pl_ HT_ 8 42 tb10_1ff_8 ?_
      refine last_ (i := 9) (N := none) tb10_3ff_8 rfl rfl (one_of HT_.out (by kernel_rfl)) (by decide) (fun K hK => ?_)
      refine skip_ (w1 := ?_) (by rfl) rfl ?_ ?_
      rotate_left
      ·go_simp
       rfl
      refine hK.out _ _ ?_
      clear hK K
      refine done_ (done_of HT_.out (by kernel_rfl)) ?_
      (try simp only [sd_])
      have n0_ : Aside0 (Kd.R (Kd.int .i64) 3 (w49.setCell ⟨go35, 0, none⟩ (.int .i64 t260)) w.heap.size (fun k_ => some k_ ≠ (.slice (some ⟨go35, 0, none⟩) t252.length co44 : Value).ownBlock) (.slice (some ⟨go32, 0, none⟩) t249.length co43) y258) := ⟨by (with_reducible repeat (first | apply Kd.R_alloc | apply Kd.R_drewN | apply Kd.R_drew)); exact Kd.R_mono (Kd.R_far (p := ⟨go35, 0, none⟩) (Kd.R_mono HO251.out (fun k_ hk => (⟨hk, fun e_ => hk (by rw [e_]; rfl)⟩ : _ ∧ k_ ≠ go35))) (fun _ hk => hk.2) (.int .i64 t260)) (fun _ hk => hk.1)⟩
      have n1_ : Aside0 (Kd.R (Kd.int .i64) 3 (w49.setCell ⟨go35, 0, none⟩ (.int .i64 t260)) w.heap.size (fun k_ => some k_ ≠ (.slice (some ⟨go32, 0, none⟩) t249.length co43 : Value).ownBlock) (.slice (some ⟨go35, 0, none⟩) t252.length co44) y261) := ⟨by (with_reducible repeat (first | apply Kd.R_alloc | apply Kd.R_drewN | apply Kd.R_drew)); exact HQ50.out⟩
      have n2_ : Aside0 ((w49.setCell ⟨go35, 0, none⟩ (.int .i64 t260)).heap[gb234]? = some (.cells #[.int .i64 a0_0, .int .i64 a0_1, .slice A0_2 l0_2.length c0_2, .slice A0_3 l0_3.length c0_3] 26 (0, 0))) := ⟨by (with_reducible repeat (first | refine blk_drewN ?_ _ | refine blk_drew ?_ | refine blk_alloc ?_ _)); refine blk_far ?_ (by have h_ := Kd.R_ne HO254.out BK234.out (by decide); intro e_; exact h_ (by rw [e_]; rfl)) _; (with_reducible repeat (first | refine blk_drewN ?_ _ | refine blk_drew ?_ | refine blk_alloc ?_ _)); exact BK234.out⟩
      have n3_ : Aside0 ((w49.setCell ⟨go35, 0, none⟩ (.int .i64 t260)).heap[gb235]? = some (.cells #[.int .i64 0, .int .i64 0, .slice none 0 0, .slice none 0 0] 26 (0, 0))) := ⟨by (with_reducible repeat (first | refine blk_drewN ?_ _ | refine blk_drew ?_ | refine blk_alloc ?_ _)); refine blk_far ?_ (by have h_ := Kd.R_ne HO254.out BK235.out (by decide); intro e_; exact h_ (by rw [e_]; rfl)) _; (with_reducible repeat (first | refine blk_drewN ?_ _ | refine blk_drew ?_ | refine blk_alloc ?_ _)); exact BK235.out⟩
      have n4_ : Aside0 ((w49.setCell ⟨go35, 0, none⟩ (.int .i64 t260)).heap[gb255]? = some (.cells #[.int .i64 t247, .int .i64 t248, .slice (some ⟨go32, 0, none⟩) t249.length co43, .slice (some ⟨go35, 0, none⟩) t252.length co44] 26 (0, 0))) := ⟨by (with_reducible repeat (first | refine blk_drewN ?_ _ | refine blk_drew ?_ | refine blk_alloc ?_ _)); refine blk_far ?_ (by have h_ := Kd.R_ne HO254.out BK255.out (by decide); intro e_; exact h_ (by rw [e_]; rfl)) _; (with_reducible repeat (first | refine blk_drewN ?_ _ | refine blk_drew ?_ | refine blk_alloc ?_ _)); exact BK255.out⟩
      have n5_ : Aside0 (Below w.heap.size w (w49.setCell ⟨go35, 0, none⟩ (.int .i64 t260))) := ⟨by repeat (first | (with_reducible first | exact HB.out | apply below_alloc | apply pw_below_drewN | apply below_drew1 | refine below_set ?_ GB35.out | refine below_set ?_ GE234.out | refine below_set ?_ GE235.out | refine below_set ?_ GE255.out) | exact HB.out)⟩
      (try clear HO251)
      (try clear HO254)
      (try clear BK234)
      (try clear BK235)
      (try clear BK255)
      (try clear HB)
      generalize (w49.setCell ⟨go35, 0, none⟩ (.int .i64 t260)) = w51 at n0_ n1_ n2_ n3_ n4_ n5_ ⊢
      have HO251 := n0_
      have HO254 := n1_
      have BK234 := n2_
      have BK235 := n3_
      have BK255 := n4_
      have HB := n5_
      clear n0_ n1_ n2_ n3_ n4_ n5_
      have hcz52_0 := cz_ BK255 0 (.int .i64 t247)
      have hcz52_1 := cz_ BK255 1 (.int .i64 t248)
      have hcz52_2 := cz_ BK255 2 (.slice (some ⟨go32, 0, none⟩) t249.length co43)
      have hcz52_3 := cz_ BK255 3 (.slice (some ⟨go35, 0, none⟩) t252.length co44)
      have hfz52_0 := fz_ BK255 0
      have hfz52_1 := fz_ BK255 1
      have hfz52_2 := fz_ BK255 2
      have hfz52_3 := fz_ BK255 3
      have hcz53_0 := cz_ BK235 0 (.int .i64 0)
      have hcz53_1 := cz_ BK235 1 (.int .i64 0)
      have hcz53_2 := cz_ BK235 2 (.slice none 0 0)
      have hcz53_3 := cz_ BK235 3 (.slice none 0 0)
      have hfz53_0 := fz_ BK235 0
      have hfz53_1 := fz_ BK235 1
      have hfz53_2 := fz_ BK235 2
      have hfz53_3 := fz_ BK235 3
      try go_wp2
      refine bodyPost_ret (results_cell_row rfl _ _ gb235 26 #[.int .i64 t247, .int .i64 t248, .slice (some ⟨go32, 0, none⟩) t249.length co43, .slice (some ⟨go35, 0, none⟩) t252.length co44] (0, 0) _ rfl (by (with_reducible repeat (first | refine blk_drewN ?_ _ | refine blk_drew ?_ | refine blk_alloc ?_ _)); apply bq4_3_2_1_0_; (with_reducible repeat (first | refine blk_drewN ?_ _ | refine blk_drew ?_ | refine blk_alloc ?_ _)); exact BK235.out) Tryd.underlying26 rfl (by kernel_rfl)) rfl ?_
      exact ⟨_, _, by first | rfl | (simp [errW_none, errW_some] <;> rfl) | (simp [*, errW_none, errW_some] <;> rfl), by (with_reducible repeat (first | apply Kd.R_alloc | apply Kd.R_drewN | apply Kd.R_drew)); exact Kd.R_mono (Kd.R_far (p := ⟨gb235, 3, none⟩) (Kd.R_far (p := ⟨gb235, 2, none⟩) (Kd.R_far (p := ⟨gb235, 1, none⟩) (Kd.R_far (p := ⟨gb235, 0, none⟩) (Kd.R_types HO251.out BK235.out (by decide)) (fun _ hk => hk.2) (.int .i64 t247)) (fun _ hk => hk.2) (.int .i64 t248)) (fun _ hk => hk.2) (.slice (some ⟨go32, 0, none⟩) t249.length co43)) (fun _ hk => hk.2) (.slice (some ⟨go35, 0, none⟩) t252.length co44)) (fun _ hk => hk.1), by (with_reducible repeat (first | apply Kd.R_alloc | apply Kd.R_drewN | apply Kd.R_drew)); exact Kd.R_mono (Kd.R_far (p := ⟨gb235, 3, none⟩) (Kd.R_far (p := ⟨gb235, 2, none⟩) (Kd.R_far (p := ⟨gb235, 1, none⟩) (Kd.R_far (p := ⟨gb235, 0, none⟩) (Kd.R_types HO254.out BK235.out (by decide)) (fun _ hk => hk.2) (.int .i64 t247)) (fun _ hk => hk.2) (.int .i64 t248)) (fun _ hk => hk.2) (.slice (some ⟨go32, 0, none⟩) t249.length co43)) (fun _ hk => hk.2) (.slice (some ⟨go35, 0, none⟩) t252.length co44)) (fun _ hk => hk.1), bl_⟩
     ·rw [if_neg c33] at H
      exact absurd H (by simp)
    ·rw [if_neg c30] at H
     exact absurd H (by simp)
end Go.Proofs.YtbjpfknmkpnhjaaDoor.QFnMoney
