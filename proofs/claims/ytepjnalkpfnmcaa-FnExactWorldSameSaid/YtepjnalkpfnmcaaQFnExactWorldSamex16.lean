-- by my own printer (myprint.py, over the kit's print.py)
import Derived.Test.YtepjnalkpfnmcaaQFnExactWorldSamex0
import Derived.Test.YtepjnalkpfnmcaaQFnExactWorldSamex3
import Derived.Test.YtepjnalkpfnmcaaQFnExactWorldSamex8
import Derived.Test.YtepjnalkpfnmcaaQFnExactWorldSamex10
import Derived.Test.YtepjnalkpfnmcaaQFnExactWorldSamex12
import Derived.Test.YtepjnalkpfnmcaaQFnExactWorldSamex15
namespace Go.Proofs.Ytepjnalkpfnmcaa.QFnExactWorldSame
open Go.RowKit Go.Proofs.YtepjnalkpfnmcaaW.PrintWords Go.Proofs.YtepjnalkpfnmcaaW.PrintLast Go.Proofs.YtepjnalkpfnmcaaW.PrintMore
attribute [local go_sem] max2_int min2_int max_two min_two max_three min_three max_four min_four   -- for this text's walks alone
set_option linter.unusedVariables false
set_option linter.unusedSimpArgs false
attribute [local go_sem] my_geq my_leq my_gtr
/-! ### laws_FnExactWorldSame: function 7 -/
def laws_FnExactWorldSame.f (k : Nat) (l0_0 : List (S162)) (a0_1 : Int) (a0_2 : Int) (l0_3 : List (S164)) (l1_0 : List (S162)) (a1_1 : Int) (a1_2 : Int) (l1_3 : List (S164)) : Option (Bool) := (laws_szWorld.f k l0_0 a0_1 a0_2 l0_3 1048576).bind fun t406 => (if t406 < 0 then (some true) else ((laws_szWorld.f k l1_0 a1_1 a1_2 l1_3 t406).bind fun t407 => (if t407 < 0 then (some true) else ((laws_toWorld.f k l0_0 a0_1 a0_2 l0_3).bind fun bt408 => ((laws_toWorld.f k l1_0 a1_1 a1_2 l1_3).bind fun bt416 => ((spec_WorldSame.f k bt408.1 bt408.2.1 bt408.2.2.1 bt408.2.2.2 bt416.1 bt416.2.1 bt416.2.2.1 bt416.2.2.2).bind fun t424 => ((laws_toWorld.f k l0_0 a0_1 a0_2 l0_3).bind fun bt425 => ((laws_toWorld.f k l1_0 a1_1 a1_2 l1_3).bind fun bt434 => ((impl_WorldSame.f k bt425.1 bt425.2.1 bt425.2.2.1 bt425.2.2.2 bt434.1 bt434.2.1 bt434.2.2.1 bt434.2.2.2).bind fun t443 => (if (t443 != t424) = true then (some false) else ((laws_toWorld.f k l0_0 a0_1 a0_2 l0_3).bind fun bt444 => ((laws_eqWorld.f k bt425.1 bt425.2.1 bt425.2.2.1 bt425.2.2.2 bt444.1 bt444.2.1 bt444.2.2.1 bt444.2.2.2).bind fun t452 => (if t452 = true then ((laws_toWorld.f k l1_0 a1_1 a1_2 l1_3).bind fun bt453 => ((laws_eqWorld.f k bt434.1 bt434.2.1 bt434.2.2.1 bt434.2.2.2 bt453.1 bt453.2.1 bt453.2.2.1 bt453.2.2.2).bind fun t461 => (if t461 = true then (some true) else (some false)))) else (some false))))))))))))))
set_option maxHeartbeats 8000000 in
set_option maxRecDepth 100000 in
theorem laws_FnExactWorldSame.calls (k : Nat) (A0_0 : Option Addr) (c0_0 : Nat) (l0_0 : List (S162)) (a0_1 : Int) (a0_2 : Int) (A0_3 : Option Addr) (c0_3 : Nat) (l0_3 : List (S164)) (A1_0 : Option Addr) (c1_0 : Nat) (l1_0 : List (S162)) (a1_1 : Int) (a1_2 : Int) (A1_3 : Option Addr) (c1_3 : Nat) (l1_3 : List (S164)) (r : Bool) (w : World) (hr0_0 : Kd.C k162 w A0_0 l0_0.length l0_0) (hc0_0 : l0_0.length ≤ c0_0) (hr0_3 : Kd.C k164 w A0_3 l0_3.length l0_3) (hc0_3 : l0_3.length ≤ c0_3) (hr1_0 : Kd.C k162 w A1_0 l1_0.length l1_0) (hc1_0 : l1_0.length ≤ c1_0) (hr1_3 : Kd.C k164 w A1_3 l1_3.length l1_3) (hc1_3 : l1_3.length ≤ c1_3) (h : laws_FnExactWorldSame.f k l0_0 a0_1 a0_2 l0_3 l1_0 a1_1 a1_2 l1_3 = some true) :
  Calls Try.prog 7 #[.agg #[.slice A0_0 l0_0.length c0_0, .int .i64 a0_1, .int .i64 a0_2, .slice A0_3 l0_3.length c0_3], .agg #[.slice A1_0 l1_0.length c1_0, .int .i64 a1_1, .int .i64 a1_2, .slice A1_3 l1_3.length c1_3]] w fun e w' => e = .returned (.bool true) ∧ Below w.heap.size w w' := by
 have hu50 := Try.underlying50
 have hu56 := Try.underlying56
 have HR0_0 := Aside0.mk hr0_0
 have HC0_0 := Aside0.mk hc0_0
 clear hr0_0 hc0_0
 have HR0_3 := Aside0.mk hr0_3
 have HC0_3 := Aside0.mk hc0_3
 clear hr0_3 hc0_3
 have HR1_0 := Aside0.mk hr1_0
 have HC1_0 := Aside0.mk hc1_0
 clear hr1_0 hc1_0
 have HR1_3 := Aside0.mk hr1_3
 have HC1_3 := Aside0.mk hc1_3
 clear hr1_3 hc1_3
 have HB := Aside0.mk (Below.refl w.heap.size w)
 have H : ((laws_szWorld.f k l0_0 a0_1 a0_2 l0_3 1048576).bind fun t406 => (if t406 < 0 then (some true) else ((laws_szWorld.f k l1_0 a1_1 a1_2 l1_3 t406).bind fun t407 => (if t407 < 0 then (some true) else ((laws_toWorld.f k l0_0 a0_1 a0_2 l0_3).bind fun bt408 => ((laws_toWorld.f k l1_0 a1_1 a1_2 l1_3).bind fun bt416 => ((spec_WorldSame.f k bt408.1 bt408.2.1 bt408.2.2.1 bt408.2.2.2 bt416.1 bt416.2.1 bt416.2.2.1 bt416.2.2.2).bind fun t424 => ((laws_toWorld.f k l0_0 a0_1 a0_2 l0_3).bind fun bt425 => ((laws_toWorld.f k l1_0 a1_1 a1_2 l1_3).bind fun bt434 => ((impl_WorldSame.f k bt425.1 bt425.2.1 bt425.2.2.1 bt425.2.2.2 bt434.1 bt434.2.1 bt434.2.2.1 bt434.2.2.2).bind fun t443 => (if (t443 != t424) = true then (some false) else ((laws_toWorld.f k l0_0 a0_1 a0_2 l0_3).bind fun bt444 => ((laws_eqWorld.f k bt425.1 bt425.2.1 bt425.2.2.1 bt425.2.2.2 bt444.1 bt444.2.1 bt444.2.2.1 bt444.2.2.2).bind fun t452 => (if t452 = true then ((laws_toWorld.f k l1_0 a1_1 a1_2 l1_3).bind fun bt453 => ((laws_eqWorld.f k bt434.1 bt434.2.1 bt434.2.2.1 bt434.2.2.2 bt453.1 bt453.2.1 bt453.2.2.1 bt453.2.2.2).bind fun t461 => (if t461 = true then (some true) else (some false)))) else (some false))))))))))))))) = some true := h
 clear h
 obtain ⟨t406, A3, H⟩ := ob_ H
 by_cases c4 : t406 < 0
 ·rw [if_pos c4] at H
  have c4b0 : decide (t406 < 0) = true := decide_eq_true c4
  clear c4
  clear H
  go_enter Try.func7, Try.ntmps7
  go_wp2_with (first | ((with_reducible refine gate_dst (N := 2) rfl ?_); refine be_ (N := 2) (cs := #[.slice A0_0 l0_0.length c0_0, .int .i64 a0_1, .int .i64 a0_2, .slice A0_3 l0_3.length c0_3]) (t := 50) ?_; intro gb404 hg w5 hbox hb; have BK404 := Aside0.mk (hbox); have GW404 := gw_ (w := w) hg; have GE404 := gw_ (w := w) hg; replace HB := Aside0.mk (below_step bl_ hb); clear hb hbox hg) | ((with_reducible refine gate_dst (N := 3) rfl ?_); refine be_ (N := 3) (cs := #[.slice A1_0 l1_0.length c1_0, .int .i64 a1_1, .int .i64 a1_2, .slice A1_3 l1_3.length c1_3]) (t := 50) ?_; intro gb405 hg w6 hbox hb; have BK405 := Aside0.mk (hbox); have GW405 := gw_ (w := w) hg; have GE405 := gw_ (w := w) hg; replace HB := Aside0.mk (below_step bl_ hb); have NB404_405 := Aside0.mk ((by rw [hg]; exact Nat.ne_of_lt (blk_lt (bk_ BK404)) : gb404 ≠ gb405)); have NB405_404 := Aside0.mk ((by rw [hg]; exact Nat.ne_of_gt (blk_lt (bk_ BK404)) : gb405 ≠ gb404)); replace BK404 := Aside0.mk (blk_below (bk_ BK404) hb); clear hb hbox hg; have hnb7 := NB404_405.out; have hnc7 := NB405_404.out; obtain ⟨hcz8_0, hcz8_1, hcz8_2, hcz8_3, hfz8_0, hfz8_1, hfz8_2, hfz8_3⟩ := bx4_ BK404) | ((with_reducible refine gate_callee (f := 31) rfl ?_); refine goesL_ (some 12) rfl rfl Try.func31 (by kernel_rfl) rfl #[.agg #[.slice A0_0 l0_0.length c0_0, .int .i64 a0_1, .int .i64 a0_2, .slice A0_3 l0_3.length c0_3], .int .i64 1048576] rfl gl_ ?_; (with_reducible refine (laws_szWorld.calls k _ _ l0_0 a0_1 a0_2 _ _ l0_3 1048576 t406 _ ?side1 ?side2 ?side3 ?side4 A3.out).mono ?_); (case side1 => exact ca_ (Kd.C_below HR0_0.out HB.out)); (case side2 => exact HC0_0.out); (case side3 => exact ca_ (Kd.C_below HR0_3.out HB.out)); (case side4 => exact HC0_3.out); rintro e w9 ⟨rfl, hb⟩; refine ⟨_, rfl, ?_⟩; replace BK404 := Aside0.mk (blk_below (bk_ BK404) hb); replace BK405 := Aside0.mk (blk_below (bk_ BK405) hb); replace HB := Aside0.mk (below_step bl_ hb); (try clear hb); (try clear hb2); (try clear hk); (try clear hi)))
  go_ret
  exact ⟨sq_, bl_⟩
 ·rw [if_neg c4] at H
  have c4b0 : decide (t406 < 0) = false := decide_eq_false c4
  clear c4
  obtain ⟨t407, A10, H⟩ := ob_ H
  by_cases c11 : t407 < 0
  ·rw [if_pos c11] at H
   have c11b0 : decide (t407 < 0) = true := decide_eq_true c11
   clear c11
   clear H
   go_enter Try.func7, Try.ntmps7
   go_wp2_with (first | ((with_reducible refine gate_dst (N := 2) rfl ?_); refine be_ (N := 2) (cs := #[.slice A0_0 l0_0.length c0_0, .int .i64 a0_1, .int .i64 a0_2, .slice A0_3 l0_3.length c0_3]) (t := 50) ?_; intro gb404 hg w12 hbox hb; have BK404 := Aside0.mk (hbox); have GW404 := gw_ (w := w) hg; have GE404 := gw_ (w := w) hg; replace HB := Aside0.mk (below_step bl_ hb); clear hb hbox hg) | ((with_reducible refine gate_dst (N := 3) rfl ?_); refine be_ (N := 3) (cs := #[.slice A1_0 l1_0.length c1_0, .int .i64 a1_1, .int .i64 a1_2, .slice A1_3 l1_3.length c1_3]) (t := 50) ?_; intro gb405 hg w13 hbox hb; have BK405 := Aside0.mk (hbox); have GW405 := gw_ (w := w) hg; have GE405 := gw_ (w := w) hg; replace HB := Aside0.mk (below_step bl_ hb); have NB404_405 := Aside0.mk ((by rw [hg]; exact Nat.ne_of_lt (blk_lt (bk_ BK404)) : gb404 ≠ gb405)); have NB405_404 := Aside0.mk ((by rw [hg]; exact Nat.ne_of_gt (blk_lt (bk_ BK404)) : gb405 ≠ gb404)); replace BK404 := Aside0.mk (blk_below (bk_ BK404) hb); clear hb hbox hg; have hnb14 := NB404_405.out; have hnc14 := NB405_404.out; obtain ⟨hcz15_0, hcz15_1, hcz15_2, hcz15_3, hfz15_0, hfz15_1, hfz15_2, hfz15_3⟩ := bx4_ BK404) | ((with_reducible refine gate_callee (f := 31) rfl ?_); refine goesL_ (some 12) rfl rfl Try.func31 (by kernel_rfl) rfl #[.agg #[.slice A0_0 l0_0.length c0_0, .int .i64 a0_1, .int .i64 a0_2, .slice A0_3 l0_3.length c0_3], .int .i64 1048576] rfl gl_ ?_; (with_reducible refine (laws_szWorld.calls k _ _ l0_0 a0_1 a0_2 _ _ l0_3 1048576 t406 _ ?side1 ?side2 ?side3 ?side4 A3.out).mono ?_); (case side1 => exact ca_ (Kd.C_below HR0_0.out HB.out)); (case side2 => exact HC0_0.out); (case side3 => exact ca_ (Kd.C_below HR0_3.out HB.out)); (case side4 => exact HC0_3.out); rintro e w16 ⟨rfl, hb⟩; refine ⟨_, rfl, ?_⟩; replace BK404 := Aside0.mk (blk_below (bk_ BK404) hb); replace BK405 := Aside0.mk (blk_below (bk_ BK405) hb); replace HB := Aside0.mk (below_step bl_ hb); (try clear hb); (try clear hb2); (try clear hk); (try clear hi); obtain ⟨hcz17_0, hcz17_1, hcz17_2, hcz17_3, hfz17_0, hfz17_1, hfz17_2, hfz17_3⟩ := bx4_ BK405) | ((with_reducible refine gate_callee (f := 31) rfl ?_); refine goesL_ (some 17) rfl rfl Try.func31 (by kernel_rfl) rfl #[.agg #[.slice A1_0 l1_0.length c1_0, .int .i64 a1_1, .int .i64 a1_2, .slice A1_3 l1_3.length c1_3], .int .i64 t406] rfl gl_ ?_; (with_reducible refine (laws_szWorld.calls k _ _ l1_0 a1_1 a1_2 _ _ l1_3 t406 t407 _ ?side1 ?side2 ?side3 ?side4 A10.out).mono ?_); (case side1 => exact ca_ (Kd.C_below HR1_0.out HB.out)); (case side2 => exact HC1_0.out); (case side3 => exact ca_ (Kd.C_below HR1_3.out HB.out)); (case side4 => exact HC1_3.out); rintro e w18 ⟨rfl, hb⟩; refine ⟨_, rfl, ?_⟩; replace BK404 := Aside0.mk (blk_below (bk_ BK404) hb); replace BK405 := Aside0.mk (blk_below (bk_ BK405) hb); replace HB := Aside0.mk (below_step bl_ hb); (try clear hb); (try clear hb2); (try clear hk); (try clear hi)))
   go_ret
   exact ⟨sq_, bl_⟩
  ·rw [if_neg c11] at H
   have c11b0 : decide (t407 < 0) = false := decide_eq_false c11
   clear c11
   obtain ⟨⟨t408, t411, t412, t413⟩, A19, H⟩ := ob_ H
   (try dsimp only at H)
   obtain ⟨⟨t416, t419, t420, t421⟩, A20, H⟩ := ob_ H
   (try dsimp only at H)
   obtain ⟨t424, A21, H⟩ := ob_ H
   obtain ⟨⟨t425, t428, t429, t430⟩, A22, H⟩ := ob_ H
   (try dsimp only at H)
   obtain ⟨⟨t434, t437, t438, t439⟩, A23, H⟩ := ob_ H
   (try dsimp only at H)
   obtain ⟨t443, A24, H⟩ := ob_ H
   by_cases c25 : (t443 != t424) = true
   ·rw [if_pos c25] at H
    have c25b0 : (t443 != t424) = true := c25
    (try (have c25b1 : decide (t443 = t424) = false := by simpa using c25))
    (try (have c25b2 : (t443 == t424) = false := by simpa using c25))
    (try (have c25b3 : ¬ (t443 = t424) := by simpa using c25))
    clear c25
    exact absurd H (by simp)
   ·rw [if_neg c25] at H
    have c25b0 : (t443 != t424) = false := by simpa using c25
    (try (have c25b1 : decide (t443 = t424) = true := by simpa using c25))
    (try (have c25b2 : (t443 == t424) = true := by simpa using c25))
    clear c25
    obtain ⟨⟨t444, t447, t448, t449⟩, A26, H⟩ := ob_ H
    (try dsimp only at H)
    obtain ⟨t452, A27, H⟩ := ob_ H
    by_cases c28 : t452 = true
    ·subst c28
     replace H := ip_ H
     obtain ⟨⟨t453, t456, t457, t458⟩, A29, H⟩ := ob_ H
     (try dsimp only at H)
     obtain ⟨t461, A30, H⟩ := ob_ H
     by_cases c31 : t461 = true
     ·subst c31
      have H1 : (some true) = some true := rfl
      clear H
      have H := H1
      clear H1
      clear H
      go_enter Try.func7, Try.ntmps7
      try go_wp2_with (first | ((with_reducible refine gate_dst (N := 2) rfl ?_); refine be_ (N := 2) (cs := #[.slice A0_0 l0_0.length c0_0, .int .i64 a0_1, .int .i64 a0_2, .slice A0_3 l0_3.length c0_3]) (t := 50) ?_; intro gb404 hg w32 hbox hb; have BK404 := Aside0.mk (hbox); have GW404 := gw_ (w := w) hg; have GE404 := gw_ (w := w) hg; replace HB := Aside0.mk (below_step bl_ hb); clear hb hbox hg) | ((with_reducible refine gate_dst (N := 3) rfl ?_); refine be_ (N := 3) (cs := #[.slice A1_0 l1_0.length c1_0, .int .i64 a1_1, .int .i64 a1_2, .slice A1_3 l1_3.length c1_3]) (t := 50) ?_; intro gb405 hg w33 hbox hb; have BK405 := Aside0.mk (hbox); have GW405 := gw_ (w := w) hg; have GE405 := gw_ (w := w) hg; replace HB := Aside0.mk (below_step bl_ hb); have NB404_405 := Aside0.mk ((by rw [hg]; exact Nat.ne_of_lt (blk_lt (bk_ BK404)) : gb404 ≠ gb405)); have NB405_404 := Aside0.mk ((by rw [hg]; exact Nat.ne_of_gt (blk_lt (bk_ BK404)) : gb405 ≠ gb404)); replace BK404 := Aside0.mk (blk_below (bk_ BK404) hb); clear hb hbox hg; have hnb34 := NB404_405.out; have hnc34 := NB405_404.out; obtain ⟨hcz35_0, hcz35_1, hcz35_2, hcz35_3, hfz35_0, hfz35_1, hfz35_2, hfz35_3⟩ := bx4_ BK404) | ((with_reducible refine gate_callee (f := 31) rfl ?_); refine goesL_ (some 12) rfl rfl Try.func31 (by kernel_rfl) rfl #[.agg #[.slice A0_0 l0_0.length c0_0, .int .i64 a0_1, .int .i64 a0_2, .slice A0_3 l0_3.length c0_3], .int .i64 1048576] rfl gl_ ?_; (with_reducible refine (laws_szWorld.calls k _ _ l0_0 a0_1 a0_2 _ _ l0_3 1048576 t406 _ ?side1 ?side2 ?side3 ?side4 A3.out).mono ?_); (case side1 => exact ca_ (Kd.C_below HR0_0.out HB.out)); (case side2 => exact HC0_0.out); (case side3 => exact ca_ (Kd.C_below HR0_3.out HB.out)); (case side4 => exact HC0_3.out); rintro e w36 ⟨rfl, hb⟩; refine ⟨_, rfl, ?_⟩; replace BK404 := Aside0.mk (blk_below (bk_ BK404) hb); replace BK405 := Aside0.mk (blk_below (bk_ BK405) hb); replace HB := Aside0.mk (below_step bl_ hb); (try clear hb); (try clear hb2); (try clear hk); (try clear hi); obtain ⟨hcz37_0, hcz37_1, hcz37_2, hcz37_3, hfz37_0, hfz37_1, hfz37_2, hfz37_3⟩ := bx4_ BK405) | ((with_reducible refine gate_callee (f := 31) rfl ?_); refine goesL_ (some 17) rfl rfl Try.func31 (by kernel_rfl) rfl #[.agg #[.slice A1_0 l1_0.length c1_0, .int .i64 a1_1, .int .i64 a1_2, .slice A1_3 l1_3.length c1_3], .int .i64 t406] rfl gl_ ?_; (with_reducible refine (laws_szWorld.calls k _ _ l1_0 a1_1 a1_2 _ _ l1_3 t406 t407 _ ?side1 ?side2 ?side3 ?side4 A10.out).mono ?_); (case side1 => exact ca_ (Kd.C_below HR1_0.out HB.out)); (case side2 => exact HC1_0.out); (case side3 => exact ca_ (Kd.C_below HR1_3.out HB.out)); (case side4 => exact HC1_3.out); rintro e w38 ⟨rfl, hb⟩; refine ⟨_, rfl, ?_⟩; replace BK404 := Aside0.mk (blk_below (bk_ BK404) hb); replace BK405 := Aside0.mk (blk_below (bk_ BK405) hb); replace HB := Aside0.mk (below_step bl_ hb); (try clear hb); (try clear hb2); (try clear hk); (try clear hi)))
      have n0_ := Aside0.mk (blk_drew BK404.out)
      have n1_ := Aside0.mk (blk_drew BK405.out)
      have n2_ := Aside0.mk (below_drew1 HB.out)
      clear BK404
      clear BK405
      clear HB
      have BK404 := n0_
      have BK405 := n1_
      have HB := n2_
      clear n0_ n1_ n2_
      refine start_ (n := 6) (S := fun w' => w'.cell? ⟨gb404, 0, none⟩ = some (.slice A0_0 l0_0.length c0_0) ∧ w'.cell? ⟨gb404, 1, none⟩ = some (.int .i64 a0_1) ∧ w'.cell? ⟨gb404, 2, none⟩ = some (.int .i64 a0_2) ∧ w'.cell? ⟨gb404, 3, none⟩ = some (.slice A0_3 l0_3.length c0_3) ∧ w'.cell? ⟨gb405, 0, none⟩ = some (.slice A1_0 l1_0.length c1_0) ∧ w'.cell? ⟨gb405, 1, none⟩ = some (.int .i64 a1_1) ∧ w'.cell? ⟨gb405, 2, none⟩ = some (.int .i64 a1_2) ∧ w'.cell? ⟨gb405, 3, none⟩ = some (.slice A1_3 l1_3.length c1_3)) (ds := []) #[false, false, false, false, false, false] (by kernel_rfl) rfl rfl ⟨cy_ BK404 0, cy_ BK404 1, cy_ BK404 2, cy_ BK404 3, cy_ BK405 0, cy_ BK405 1, cy_ BK405 2, cy_ BK405 3⟩ (fun hHeld => ?_)
      generalize w38.drew = w39 at BK404 BK405 HB hHeld ⊢
      refine take_ (i := 0) (N := some 20) (v := ?_) (a' := ?_) #[true, false, false, false, false, false] rfl rfl (by kernel_rfl) (fun _ _ _ h => h) (Or.inl ⟨by rfl, ?_⟩) hHeld ?_ ?_
      rotate_left
      ·rintro w' ⟨s0, s1, s2, s3, s4, s5, s6, s7⟩
       go_simp
       with_reducible rfl
      rotate_left
      ·simp only [Act.put, q_]
       rfl
      refine take_ (i := 2) (N := some 22) (v := ?_) (a' := ?_) #[true, false, true, false, false, false] rfl rfl (by kernel_rfl) (fun _ _ _ h => h) (Or.inl ⟨by rfl, ?_⟩) hHeld ?_ ?_
      rotate_left
      ·rintro w' ⟨s0, s1, s2, s3, s4, s5, s6, s7⟩
       go_simp
       with_reducible rfl
      rotate_left
      ·simp only [Act.put, q_]
       rfl
      refine one_ (i := 1) (N := some 21) #[true, true, true, false, false, false] rfl rfl (by kernel_rfl) (by decide) (fun K hK => ?_)
      refine goes_ Try.func33 (by kernel_rfl) rfl #[.agg #[.slice A0_0 l0_0.length c0_0, .int .i64 a0_1, .int .i64 a0_2, .slice A0_3 l0_3.length c0_3]] (by rfl) rfl rfl gl_ ?_
      with_reducible refine (laws_toWorld.calls k _ _ l0_0 a0_1 a0_2 _ _ l0_3 t408 t411 t412 t413 _ ?side1 ?side2 ?side3 ?side4 A19.out).mono ?_
      (case side1 => exact ca_ (Kd.C_below HR0_0.out HB.out))
      (case side2 => exact HC0_0.out)
      (case side3 => exact ca_ (Kd.C_below HR0_3.out HB.out))
      (case side4 => exact HC0_3.out)
      rintro e w40 ⟨v409, v414, rfl, ho0, ho1, hb⟩
      refine ⟨_, rfl, ?_⟩
      have n0_ := Aside0.mk (Kd.R_lower ho0 (below_size bl_))
      have n1_ := Aside0.mk (Kd.S_lower ho1 (below_size bl_))
      have n2_ := Aside0.mk (blk_below (bk_ BK404) hb)
      have n3_ := Aside0.mk (blk_below (bk_ BK405) hb)
      have n4_ := Aside0.mk (below_step bl_ hb)
      clear BK404
      clear BK405
      clear HB
      have HO410 := n0_
      have HO415 := n1_
      have BK404 := n2_
      have BK405 := n3_
      have HB := n4_
      clear n0_ n1_ n2_ n3_ n4_
      (try clear hb)
      (try clear hb2)
      (try clear hk)
      (try clear hi)
      (try clear ho0)
      (try clear ho1)
      refine hK.out _ _ ⟨cy_ BK404 0, cy_ BK404 1, cy_ BK404 2, cy_ BK404 3, cy_ BK405 0, cy_ BK405 1, cy_ BK405 2, cy_ BK405 3⟩ (fun hHeld => ?_)
      clear hK K
      refine norm_ (a' := ?_) ?_ ?_
      rotate_left
      ·show Act.put _ (some 21) _ = _
       simp only [Act.put, q_]
       rfl
      refine one_ (i := 3) (N := some 23) #[true, true, true, true, false, false] rfl rfl (by kernel_rfl) (by decide) (fun K hK => ?_)
      refine goes_ Try.func33 (by kernel_rfl) rfl #[.agg #[.slice A1_0 l1_0.length c1_0, .int .i64 a1_1, .int .i64 a1_2, .slice A1_3 l1_3.length c1_3]] (by rfl) rfl rfl gl_ ?_
      with_reducible refine (laws_toWorld.calls k _ _ l1_0 a1_1 a1_2 _ _ l1_3 t416 t419 t420 t421 _ ?side1 ?side2 ?side3 ?side4 A20.out).mono ?_
      (case side1 => exact ca_ (Kd.C_below HR1_0.out HB.out))
      (case side2 => exact HC1_0.out)
      (case side3 => exact ca_ (Kd.C_below HR1_3.out HB.out))
      (case side4 => exact HC1_3.out)
      rintro e w41 ⟨v417, v422, rfl, ho0, ho1, hb⟩
      refine ⟨_, rfl, ?_⟩
      have n0_ := Aside0.mk (Kd.R_elder' (ra_ HO410) (Kd.R_base ho0) hb)
      have n1_ := Aside0.mk (Kd.S_elder' (by (with_reducible repeat (first | apply Kd.S_alloc | apply Kd.S_drewN | apply Kd.S_drew)); exact HO415.out) (Kd.S_base ho1) hb)
      have n2_ := Aside0.mk (Kd.R_lower (Kd.R_new' ho0 (Kd.R_lt (ra_ HO410))) (below_size bl_))
      have n3_ := Aside0.mk (Kd.S_lower (Kd.S_new' ho1 (Kd.S_lt (by (with_reducible repeat (first | apply Kd.S_alloc | apply Kd.S_drewN | apply Kd.S_drew)); exact HO415.out))) (below_size bl_))
      have n4_ := Aside0.mk (blk_below (bk_ BK404) hb)
      have n5_ := Aside0.mk (blk_below (bk_ BK405) hb)
      have n6_ := Aside0.mk (below_step bl_ hb)
      clear HO410
      clear HO415
      clear BK404
      clear BK405
      clear HB
      have HO410 := n0_
      have HO415 := n1_
      have HO418 := n2_
      have HO423 := n3_
      have BK404 := n4_
      have BK405 := n5_
      have HB := n6_
      clear n0_ n1_ n2_ n3_ n4_ n5_ n6_
      (try clear hb)
      (try clear hb2)
      (try clear hk)
      (try clear hi)
      (try clear ho0)
      (try clear ho1)
      obtain ⟨Ao42, co42, eo42⟩ := Kd.R_slice HO410.out
      (first | subst eo42 | (injection eo42 with f1_ f2_ f3_; have f4_ := f1_.symm; have f5_ := f3_.symm; clear f1_ f2_ f3_; subst f4_; subst f5_))
      obtain ⟨Ao43, co43, eo43⟩ := Kd.S_slice HO415.out
      (first | subst eo43 | (injection eo43 with f1_ f2_ f3_; have f4_ := f1_.symm; have f5_ := f3_.symm; clear f1_ f2_ f3_; subst f4_; subst f5_))
      obtain ⟨Ao44, co44, eo44⟩ := Kd.R_slice HO418.out
      (first | subst eo44 | (injection eo44 with f1_ f2_ f3_; have f4_ := f1_.symm; have f5_ := f3_.symm; clear f1_ f2_ f3_; subst f4_; subst f5_))
      obtain ⟨Ao45, co45, eo45⟩ := Kd.S_slice HO423.out
      (first | subst eo45 | (injection eo45 with f1_ f2_ f3_; have f4_ := f1_.symm; have f5_ := f3_.symm; clear f1_ f2_ f3_; subst f4_; subst f5_))
      refine hK.out _ _ ⟨cy_ BK404 0, cy_ BK404 1, cy_ BK404 2, cy_ BK404 3, cy_ BK405 0, cy_ BK405 1, cy_ BK405 2, cy_ BK405 3⟩ (fun hHeld => ?_)
      clear hK K
      refine norm_ (a' := ?_) ?_ ?_
      rotate_left
      ·show Act.put _ (some 23) _ = _
       simp only [Act.put, q_]
       rfl
      refine one_ (i := 4) (N := some 24) #[true, true, true, true, true, false] rfl rfl (by kernel_rfl) (by decide) (fun K hK => ?_)
      refine goes_ Try.func32 (by kernel_rfl) rfl #[.agg #[.slice Ao42 t408.length co42, .int .i64 t411, .int .i64 t412, .slice Ao43 t413.length co43], .agg #[.slice Ao44 t416.length co44, .int .i64 t419, .int .i64 t420, .slice Ao45 t421.length co45]] (by rfl) rfl rfl gl_ ?_
      with_reducible refine (spec_WorldSame.calls k _ _ t408 t411 t412 _ _ t413 _ _ t416 t419 t420 _ _ t421 t424 _ ?side1 ?side2 ?side3 ?side4 ?side5 ?side6 ?side7 ?side8 A21.out).mono ?_
      (case side1 => exact ca_ ((Kd.R_reads' HO410.out).2.2))
      (case side2 => exact (Kd.R_reads' HO410.out).2.1)
      (case side3 => exact ca_ ((Kd.S_reads' HO415.out).2.2))
      (case side4 => exact (Kd.S_reads' HO415.out).2.1)
      (case side5 => exact ca_ ((Kd.R_reads' HO418.out).2.2))
      (case side6 => exact (Kd.R_reads' HO418.out).2.1)
      (case side7 => exact ca_ ((Kd.S_reads' HO423.out).2.2))
      (case side8 => exact (Kd.S_reads' HO423.out).2.1)
      rintro e w46 ⟨rfl, hb⟩
      refine ⟨_, rfl, ?_⟩
      have n0_ := Aside0.mk (Kd.R_below (ra_ HO410) hb)
      have n1_ := Aside0.mk (Kd.S_below (by (with_reducible repeat (first | apply Kd.S_alloc | apply Kd.S_drewN | apply Kd.S_drew)); exact HO415.out) hb)
      have n2_ := Aside0.mk (Kd.R_below (ra_ HO418) hb)
      have n3_ := Aside0.mk (Kd.S_below (by (with_reducible repeat (first | apply Kd.S_alloc | apply Kd.S_drewN | apply Kd.S_drew)); exact HO423.out) hb)
      have n4_ := Aside0.mk (blk_below (bk_ BK404) hb)
      have n5_ := Aside0.mk (blk_below (bk_ BK405) hb)
      have n6_ := Aside0.mk (below_step bl_ hb)
      clear HO410
      clear HO415
      clear HO418
      clear HO423
      clear BK404
      clear BK405
      clear HB
      have HO410 := n0_
      have HO415 := n1_
      have HO418 := n2_
      have HO423 := n3_
      have BK404 := n4_
      have BK405 := n5_
      have HB := n6_
      clear n0_ n1_ n2_ n3_ n4_ n5_ n6_
      (try clear hb)
      (try clear hb2)
      (try clear hk)
      (try clear hi)
      refine hK.out _ _ ⟨cy_ BK404 0, cy_ BK404 1, cy_ BK404 2, cy_ BK404 3, cy_ BK405 0, cy_ BK405 1, cy_ BK405 2, cy_ BK405 3⟩ (fun hHeld => ?_)
      clear hK K
      refine norm_ (a' := ?_) ?_ ?_
      rotate_left
      ·show Act.put _ (some 24) _ = _
       simp only [Act.put, q_]
       rfl
      refine pure_ (i := 5) (N := some 6) (v := ?_) (a' := ?_) #[true, true, true, true, true, true] rfl rfl (by kernel_rfl) (fun _ _ _ h => h) (Or.inl ⟨by rfl, ?_⟩) ?_ ?_
      rotate_left
      ·intro w'
       go_simp
       with_reducible rfl
      rotate_left
      ·simp only [Act.put, q_]
       rfl
      refine done_ (by kernel_rfl) ?_
      have hcz47_0 := cz_ BK404 0 (.slice A0_0 l0_0.length c0_0)
      have hcz47_1 := cz_ BK404 1 (.int .i64 a0_1)
      have hcz47_2 := cz_ BK404 2 (.int .i64 a0_2)
      have hcz47_3 := cz_ BK404 3 (.slice A0_3 l0_3.length c0_3)
      have hfz47_0 := fz_ BK404 0
      have hfz47_1 := fz_ BK404 1
      have hfz47_2 := fz_ BK404 2
      have hfz47_3 := fz_ BK404 3
      try go_wp2_with (first | ((with_reducible refine gate_callee (f := 33) rfl ?_); refine goesL_ (some 26) rfl rfl Try.func33 (by kernel_rfl) rfl #[.agg #[.slice A0_0 l0_0.length c0_0, .int .i64 a0_1, .int .i64 a0_2, .slice A0_3 l0_3.length c0_3]] rfl gl_ ?_; (with_reducible refine (laws_toWorld.calls k _ _ l0_0 a0_1 a0_2 _ _ l0_3 t425 t428 t429 t430 _ ?side1 ?side2 ?side3 ?side4 A22.out).mono ?_); (case side1 => exact ca_ (Kd.C_below HR0_0.out HB.out)); (case side2 => exact HC0_0.out); (case side3 => exact ca_ (Kd.C_below HR0_3.out HB.out)); (case side4 => exact HC0_3.out); rintro e w48 ⟨v426, v431, rfl, ho0, ho1, hb⟩; refine ⟨_, rfl, ?_⟩; have HO427 := Aside0.mk (Kd.R_lower (Kd.R_new' (Kd.R_new' ho0 (Kd.R_lt (ra_ HO410))) (Kd.R_lt (ra_ HO418))) (below_size bl_)); replace HO410 := Aside0.mk (Kd.R_elder' (ra_ HO410) (Kd.R_base ho0) hb); replace HO418 := Aside0.mk (Kd.R_elder' (ra_ HO418) (Kd.R_base ho0) hb); have HO432 := Aside0.mk (Kd.S_lower (Kd.S_new' (Kd.S_new' ho1 (Kd.S_lt (by (with_reducible repeat (first | apply Kd.S_alloc | apply Kd.S_drewN | apply Kd.S_drew)); exact HO415.out))) (Kd.S_lt (by (with_reducible repeat (first | apply Kd.S_alloc | apply Kd.S_drewN | apply Kd.S_drew)); exact HO423.out))) (below_size bl_)); replace HO415 := Aside0.mk (Kd.S_elder' (by (with_reducible repeat (first | apply Kd.S_alloc | apply Kd.S_drewN | apply Kd.S_drew)); exact HO415.out) (Kd.S_base ho1) hb); replace HO423 := Aside0.mk (Kd.S_elder' (by (with_reducible repeat (first | apply Kd.S_alloc | apply Kd.S_drewN | apply Kd.S_drew)); exact HO423.out) (Kd.S_base ho1) hb); replace BK404 := Aside0.mk (blk_below (bk_ BK404) hb); replace BK405 := Aside0.mk (blk_below (bk_ BK405) hb); replace HB := Aside0.mk (below_step bl_ hb); (try clear hb); (try clear hb2); (try clear hk); (try clear hi); (try clear ho0); (try clear ho1)) | ((with_reducible refine gate_dst (N := 7) rfl ?_); refine be_ (N := 7) (cs := #[.slice none 0 0, .int .i64 0, .int .i64 0, .slice none 0 0]) (t := 56) ?_; intro gb433 hg w49 hbox hb; replace HO410 := Aside0.mk (Kd.R_below (ra_ HO410) hb); replace HO415 := Aside0.mk (Kd.S_below (by (with_reducible repeat (first | apply Kd.S_alloc | apply Kd.S_drewN | apply Kd.S_drew)); exact HO415.out) hb); replace HO418 := Aside0.mk (Kd.R_below (ra_ HO418) hb); replace HO423 := Aside0.mk (Kd.S_below (by (with_reducible repeat (first | apply Kd.S_alloc | apply Kd.S_drewN | apply Kd.S_drew)); exact HO423.out) hb); replace HO427 := Aside0.mk (Kd.R_below (ra_ HO427) hb); replace HO432 := Aside0.mk (Kd.S_below (by (with_reducible repeat (first | apply Kd.S_alloc | apply Kd.S_drewN | apply Kd.S_drew)); exact HO432.out) hb); have BK433 := Aside0.mk (hbox); have GW433 := gw_ (w := w) hg; have GE433 := gw_ (w := w) hg; replace HB := Aside0.mk (below_step bl_ hb); have NB404_433 := Aside0.mk ((by rw [hg]; exact Nat.ne_of_lt (blk_lt (bk_ BK404)) : gb404 ≠ gb433)); have NB433_404 := Aside0.mk ((by rw [hg]; exact Nat.ne_of_gt (blk_lt (bk_ BK404)) : gb433 ≠ gb404)); replace BK404 := Aside0.mk (blk_below (bk_ BK404) hb); have NB405_433 := Aside0.mk ((by rw [hg]; exact Nat.ne_of_lt (blk_lt (bk_ BK405)) : gb405 ≠ gb433)); have NB433_405 := Aside0.mk ((by rw [hg]; exact Nat.ne_of_gt (blk_lt (bk_ BK405)) : gb433 ≠ gb405)); replace BK405 := Aside0.mk (blk_below (bk_ BK405) hb); clear hb hbox hg; obtain ⟨Ao50, co50, eo50⟩ := Kd.R_slice HO427.out; subst eo50; have hnb51 := NB433_404.out; have hnc51 := NB404_433.out; have hnb52 := NB433_405.out; have hnc52 := NB405_433.out; obtain ⟨hcz53_0, hcz53_1, hcz53_2, hcz53_3, hfz53_0, hfz53_1, hfz53_2, hfz53_3⟩ := bx4_ BK433; obtain ⟨Ao54, co54, eo54⟩ := Kd.S_slice HO432.out; subst eo54; obtain ⟨hcz55_0, hcz55_1, hcz55_2, hcz55_3, hfz55_0, hfz55_1, hfz55_2, hfz55_3⟩ := bx4_ BK405) | ((with_reducible refine gate_callee (f := 33) rfl ?_); refine goesL_ (some 28) rfl rfl Try.func33 (by kernel_rfl) rfl #[.agg #[.slice A1_0 l1_0.length c1_0, .int .i64 a1_1, .int .i64 a1_2, .slice A1_3 l1_3.length c1_3]] rfl gl_ ?_; (with_reducible refine (laws_toWorld.calls k _ _ l1_0 a1_1 a1_2 _ _ l1_3 t434 t437 t438 t439 _ ?side1 ?side2 ?side3 ?side4 A23.out).mono ?_); (case side1 => exact Kd.C_below HR1_0.out bl_); (case side2 => exact HC1_0.out); (case side3 => exact Kd.C_below HR1_3.out bl_); (case side4 => exact HC1_3.out); rintro e w56 ⟨v435, v440, rfl, ho0, ho1, hb⟩; refine ⟨_, rfl, ?_⟩; have HO436 := Aside0.mk (Kd.R_lower (Kd.R_new' (Kd.R_new' (Kd.R_new' ho0 (Kd.R_lt (by (with_reducible repeat (first | apply Kd.R_alloc | apply Kd.R_drewN | apply Kd.R_drew)); exact (Kd.R_mono (Kd.R_far (p := ⟨gb433, 3, none⟩) (Kd.R_far (p := ⟨gb433, 2, none⟩) (Kd.R_far (p := ⟨gb433, 1, none⟩) (Kd.R_far (p := ⟨gb433, 0, none⟩) (Kd.R_types HO410.out BK433.out (by decide)) (fun _ hk => hk.2) (.slice Ao50 t425.length co50)) (fun _ hk => hk.2) (.int .i64 t428)) (fun _ hk => hk.2) (.int .i64 t429)) (fun _ hk => hk.2) (.slice Ao54 t430.length co54)) (fun _ h_ => h_.1))))) (Kd.R_lt (by (with_reducible repeat (first | apply Kd.R_alloc | apply Kd.R_drewN | apply Kd.R_drew)); exact (Kd.R_mono (Kd.R_far (p := ⟨gb433, 3, none⟩) (Kd.R_far (p := ⟨gb433, 2, none⟩) (Kd.R_far (p := ⟨gb433, 1, none⟩) (Kd.R_far (p := ⟨gb433, 0, none⟩) (Kd.R_types HO418.out BK433.out (by decide)) (fun _ hk => hk.2) (.slice Ao50 t425.length co50)) (fun _ hk => hk.2) (.int .i64 t428)) (fun _ hk => hk.2) (.int .i64 t429)) (fun _ hk => hk.2) (.slice Ao54 t430.length co54)) (fun _ h_ => h_.1))))) (Kd.R_lt (by (with_reducible repeat (first | apply Kd.R_alloc | apply Kd.R_drewN | apply Kd.R_drew)); exact (Kd.R_mono (Kd.R_far (p := ⟨gb433, 3, none⟩) (Kd.R_far (p := ⟨gb433, 2, none⟩) (Kd.R_far (p := ⟨gb433, 1, none⟩) (Kd.R_far (p := ⟨gb433, 0, none⟩) (Kd.R_types HO427.out BK433.out (by decide)) (fun _ hk => hk.2) (.slice Ao50 t425.length co50)) (fun _ hk => hk.2) (.int .i64 t428)) (fun _ hk => hk.2) (.int .i64 t429)) (fun _ hk => hk.2) (.slice Ao54 t430.length co54)) (fun _ h_ => h_.1))))) (below_size bl_)); replace HO410 := Aside0.mk (Kd.R_elder' (by (with_reducible repeat (first | apply Kd.R_alloc | apply Kd.R_drewN | apply Kd.R_drew)); exact (Kd.R_mono (Kd.R_far (p := ⟨gb433, 3, none⟩) (Kd.R_far (p := ⟨gb433, 2, none⟩) (Kd.R_far (p := ⟨gb433, 1, none⟩) (Kd.R_far (p := ⟨gb433, 0, none⟩) (Kd.R_types HO410.out BK433.out (by decide)) (fun _ hk => hk.2) (.slice Ao50 t425.length co50)) (fun _ hk => hk.2) (.int .i64 t428)) (fun _ hk => hk.2) (.int .i64 t429)) (fun _ hk => hk.2) (.slice Ao54 t430.length co54)) (fun _ h_ => h_.1))) (Kd.R_base ho0) hb); replace HO418 := Aside0.mk (Kd.R_elder' (by (with_reducible repeat (first | apply Kd.R_alloc | apply Kd.R_drewN | apply Kd.R_drew)); exact (Kd.R_mono (Kd.R_far (p := ⟨gb433, 3, none⟩) (Kd.R_far (p := ⟨gb433, 2, none⟩) (Kd.R_far (p := ⟨gb433, 1, none⟩) (Kd.R_far (p := ⟨gb433, 0, none⟩) (Kd.R_types HO418.out BK433.out (by decide)) (fun _ hk => hk.2) (.slice Ao50 t425.length co50)) (fun _ hk => hk.2) (.int .i64 t428)) (fun _ hk => hk.2) (.int .i64 t429)) (fun _ hk => hk.2) (.slice Ao54 t430.length co54)) (fun _ h_ => h_.1))) (Kd.R_base ho0) hb); replace HO427 := Aside0.mk (Kd.R_elder' (by (with_reducible repeat (first | apply Kd.R_alloc | apply Kd.R_drewN | apply Kd.R_drew)); exact (Kd.R_mono (Kd.R_far (p := ⟨gb433, 3, none⟩) (Kd.R_far (p := ⟨gb433, 2, none⟩) (Kd.R_far (p := ⟨gb433, 1, none⟩) (Kd.R_far (p := ⟨gb433, 0, none⟩) (Kd.R_types HO427.out BK433.out (by decide)) (fun _ hk => hk.2) (.slice Ao50 t425.length co50)) (fun _ hk => hk.2) (.int .i64 t428)) (fun _ hk => hk.2) (.int .i64 t429)) (fun _ hk => hk.2) (.slice Ao54 t430.length co54)) (fun _ h_ => h_.1))) (Kd.R_base ho0) hb); have HO441 := Aside0.mk (Kd.S_lower (Kd.S_new' (Kd.S_new' (Kd.S_new' ho1 (Kd.S_lt (by (with_reducible repeat (first | apply Kd.S_alloc | apply Kd.S_drewN | apply Kd.S_drew)); exact (Kd.S_mono (Kd.S_far (p := ⟨gb433, 3, none⟩) (Kd.S_far (p := ⟨gb433, 2, none⟩) (Kd.S_far (p := ⟨gb433, 1, none⟩) (Kd.S_far (p := ⟨gb433, 0, none⟩) (Kd.S_types HO415.out BK433.out (by decide)) (fun _ hk => hk.2) (.slice Ao50 t425.length co50)) (fun _ hk => hk.2) (.int .i64 t428)) (fun _ hk => hk.2) (.int .i64 t429)) (fun _ hk => hk.2) (.slice Ao54 t430.length co54)) (fun _ h_ => h_.1))))) (Kd.S_lt (by (with_reducible repeat (first | apply Kd.S_alloc | apply Kd.S_drewN | apply Kd.S_drew)); exact (Kd.S_mono (Kd.S_far (p := ⟨gb433, 3, none⟩) (Kd.S_far (p := ⟨gb433, 2, none⟩) (Kd.S_far (p := ⟨gb433, 1, none⟩) (Kd.S_far (p := ⟨gb433, 0, none⟩) (Kd.S_types HO423.out BK433.out (by decide)) (fun _ hk => hk.2) (.slice Ao50 t425.length co50)) (fun _ hk => hk.2) (.int .i64 t428)) (fun _ hk => hk.2) (.int .i64 t429)) (fun _ hk => hk.2) (.slice Ao54 t430.length co54)) (fun _ h_ => h_.1))))) (Kd.S_lt (by (with_reducible repeat (first | apply Kd.S_alloc | apply Kd.S_drewN | apply Kd.S_drew)); exact (Kd.S_mono (Kd.S_far (p := ⟨gb433, 3, none⟩) (Kd.S_far (p := ⟨gb433, 2, none⟩) (Kd.S_far (p := ⟨gb433, 1, none⟩) (Kd.S_far (p := ⟨gb433, 0, none⟩) (Kd.S_types HO432.out BK433.out (by decide)) (fun _ hk => hk.2) (.slice Ao50 t425.length co50)) (fun _ hk => hk.2) (.int .i64 t428)) (fun _ hk => hk.2) (.int .i64 t429)) (fun _ hk => hk.2) (.slice Ao54 t430.length co54)) (fun _ h_ => h_.1))))) (below_size bl_)); replace HO415 := Aside0.mk (Kd.S_elder' (by (with_reducible repeat (first | apply Kd.S_alloc | apply Kd.S_drewN | apply Kd.S_drew)); exact (Kd.S_mono (Kd.S_far (p := ⟨gb433, 3, none⟩) (Kd.S_far (p := ⟨gb433, 2, none⟩) (Kd.S_far (p := ⟨gb433, 1, none⟩) (Kd.S_far (p := ⟨gb433, 0, none⟩) (Kd.S_types HO415.out BK433.out (by decide)) (fun _ hk => hk.2) (.slice Ao50 t425.length co50)) (fun _ hk => hk.2) (.int .i64 t428)) (fun _ hk => hk.2) (.int .i64 t429)) (fun _ hk => hk.2) (.slice Ao54 t430.length co54)) (fun _ h_ => h_.1))) (Kd.S_base ho1) hb); replace HO423 := Aside0.mk (Kd.S_elder' (by (with_reducible repeat (first | apply Kd.S_alloc | apply Kd.S_drewN | apply Kd.S_drew)); exact (Kd.S_mono (Kd.S_far (p := ⟨gb433, 3, none⟩) (Kd.S_far (p := ⟨gb433, 2, none⟩) (Kd.S_far (p := ⟨gb433, 1, none⟩) (Kd.S_far (p := ⟨gb433, 0, none⟩) (Kd.S_types HO423.out BK433.out (by decide)) (fun _ hk => hk.2) (.slice Ao50 t425.length co50)) (fun _ hk => hk.2) (.int .i64 t428)) (fun _ hk => hk.2) (.int .i64 t429)) (fun _ hk => hk.2) (.slice Ao54 t430.length co54)) (fun _ h_ => h_.1))) (Kd.S_base ho1) hb); replace HO432 := Aside0.mk (Kd.S_elder' (by (with_reducible repeat (first | apply Kd.S_alloc | apply Kd.S_drewN | apply Kd.S_drew)); exact (Kd.S_mono (Kd.S_far (p := ⟨gb433, 3, none⟩) (Kd.S_far (p := ⟨gb433, 2, none⟩) (Kd.S_far (p := ⟨gb433, 1, none⟩) (Kd.S_far (p := ⟨gb433, 0, none⟩) (Kd.S_types HO432.out BK433.out (by decide)) (fun _ hk => hk.2) (.slice Ao50 t425.length co50)) (fun _ hk => hk.2) (.int .i64 t428)) (fun _ hk => hk.2) (.int .i64 t429)) (fun _ hk => hk.2) (.slice Ao54 t430.length co54)) (fun _ h_ => h_.1))) (Kd.S_base ho1) hb); replace BK404 := Aside0.mk (blk_below (g := gb404) (o := .cells #[.slice A0_0 l0_0.length c0_0, .int .i64 a0_1, .int .i64 a0_2, .slice A0_3 l0_3.length c0_3] 50 (0, 0)) (by (with_reducible repeat (first | refine blk_drewN ?_ _ | refine blk_drew ?_ | refine blk_alloc ?_ _)); refine blk_far ?_ NB404_433.out _; (with_reducible repeat (first | refine blk_drewN ?_ _ | refine blk_drew ?_ | refine blk_alloc ?_ _)); refine blk_far ?_ NB404_433.out _; (with_reducible repeat (first | refine blk_drewN ?_ _ | refine blk_drew ?_ | refine blk_alloc ?_ _)); refine blk_far ?_ NB404_433.out _; (with_reducible repeat (first | refine blk_drewN ?_ _ | refine blk_drew ?_ | refine blk_alloc ?_ _)); refine blk_far ?_ NB404_433.out _; (with_reducible repeat (first | refine blk_drewN ?_ _ | refine blk_drew ?_ | refine blk_alloc ?_ _)); exact BK404.out) hb); replace BK405 := Aside0.mk (blk_below (g := gb405) (o := .cells #[.slice A1_0 l1_0.length c1_0, .int .i64 a1_1, .int .i64 a1_2, .slice A1_3 l1_3.length c1_3] 50 (0, 0)) (by (with_reducible repeat (first | refine blk_drewN ?_ _ | refine blk_drew ?_ | refine blk_alloc ?_ _)); refine blk_far ?_ NB405_433.out _; (with_reducible repeat (first | refine blk_drewN ?_ _ | refine blk_drew ?_ | refine blk_alloc ?_ _)); refine blk_far ?_ NB405_433.out _; (with_reducible repeat (first | refine blk_drewN ?_ _ | refine blk_drew ?_ | refine blk_alloc ?_ _)); refine blk_far ?_ NB405_433.out _; (with_reducible repeat (first | refine blk_drewN ?_ _ | refine blk_drew ?_ | refine blk_alloc ?_ _)); refine blk_far ?_ NB405_433.out _; (with_reducible repeat (first | refine blk_drewN ?_ _ | refine blk_drew ?_ | refine blk_alloc ?_ _)); exact BK405.out) hb); replace BK433 := Aside0.mk (blk_below (g := gb433) (o := .cells #[.slice Ao50 t425.length co50, .int .i64 t428, .int .i64 t429, .slice Ao54 t430.length co54] 56 (0, 0)) (by (with_reducible repeat (first | refine blk_drewN ?_ _ | refine blk_drew ?_ | refine blk_alloc ?_ _)); apply bq4_3_2_1_0_; (with_reducible repeat (first | refine blk_drewN ?_ _ | refine blk_drew ?_ | refine blk_alloc ?_ _)); exact BK433.out) hb); replace HB := Aside0.mk (below_step bl_ hb); (try clear hb); (try clear hb2); (try clear hk); (try clear hi); (try clear ho0); (try clear ho1)) | ((with_reducible refine gate_dst (N := 8) rfl ?_); refine be_ (N := 8) (cs := #[.slice none 0 0, .int .i64 0, .int .i64 0, .slice none 0 0]) (t := 56) ?_; intro gb442 hg w57 hbox hb; replace HO410 := Aside0.mk (Kd.R_below (ra_ HO410) hb); replace HO415 := Aside0.mk (Kd.S_below (by (with_reducible repeat (first | apply Kd.S_alloc | apply Kd.S_drewN | apply Kd.S_drew)); exact HO415.out) hb); replace HO418 := Aside0.mk (Kd.R_below (ra_ HO418) hb); replace HO423 := Aside0.mk (Kd.S_below (by (with_reducible repeat (first | apply Kd.S_alloc | apply Kd.S_drewN | apply Kd.S_drew)); exact HO423.out) hb); replace HO427 := Aside0.mk (Kd.R_below (ra_ HO427) hb); replace HO432 := Aside0.mk (Kd.S_below (by (with_reducible repeat (first | apply Kd.S_alloc | apply Kd.S_drewN | apply Kd.S_drew)); exact HO432.out) hb); replace HO436 := Aside0.mk (Kd.R_below (ra_ HO436) hb); replace HO441 := Aside0.mk (Kd.S_below (by (with_reducible repeat (first | apply Kd.S_alloc | apply Kd.S_drewN | apply Kd.S_drew)); exact HO441.out) hb); have BK442 := Aside0.mk (hbox); have GW442 := gw_ (w := w) hg; have GE442 := gw_ (w := w) hg; replace HB := Aside0.mk (below_step bl_ hb); have NB404_442 := Aside0.mk ((by rw [hg]; exact Nat.ne_of_lt (blk_lt (bk_ BK404)) : gb404 ≠ gb442)); have NB442_404 := Aside0.mk ((by rw [hg]; exact Nat.ne_of_gt (blk_lt (bk_ BK404)) : gb442 ≠ gb404)); replace BK404 := Aside0.mk (blk_below (bk_ BK404) hb); have NB405_442 := Aside0.mk ((by rw [hg]; exact Nat.ne_of_lt (blk_lt (bk_ BK405)) : gb405 ≠ gb442)); have NB442_405 := Aside0.mk ((by rw [hg]; exact Nat.ne_of_gt (blk_lt (bk_ BK405)) : gb442 ≠ gb405)); replace BK405 := Aside0.mk (blk_below (bk_ BK405) hb); have NB433_442 := Aside0.mk ((by rw [hg]; exact Nat.ne_of_lt (blk_lt (bk_ BK433)) : gb433 ≠ gb442)); have NB442_433 := Aside0.mk ((by rw [hg]; exact Nat.ne_of_gt (blk_lt (bk_ BK433)) : gb442 ≠ gb433)); replace BK433 := Aside0.mk (blk_below (bk_ BK433) hb); clear hb hbox hg; obtain ⟨Ao58, co58, eo58⟩ := Kd.R_slice HO436.out; subst eo58; have hnb59 := NB442_404.out; have hnc59 := NB404_442.out; have hnb60 := NB442_405.out; have hnc60 := NB405_442.out; have hnb61 := NB442_433.out; have hnc61 := NB433_442.out; obtain ⟨hcz62_0, hcz62_1, hcz62_2, hcz62_3, hfz62_0, hfz62_1, hfz62_2, hfz62_3⟩ := bx4_ BK442; obtain ⟨Ao63, co63, eo63⟩ := Kd.S_slice HO441.out; subst eo63; obtain ⟨hcz64_0, hcz64_1, hcz64_2, hcz64_3, hfz64_0, hfz64_1, hfz64_2, hfz64_3⟩ := bx4_ BK433) | ((with_reducible refine gate_callee (f := 34) rfl ?_); refine goesL_ (some 31) rfl rfl Try.func34 (by kernel_rfl) rfl #[.agg #[.slice Ao50 t425.length co50, .int .i64 t428, .int .i64 t429, .slice Ao54 t430.length co54], .agg #[.slice Ao58 t434.length co58, .int .i64 t437, .int .i64 t438, .slice Ao63 t439.length co63]] rfl gl_ ?_; (with_reducible refine (impl_WorldSame.calls k _ _ t425 t428 t429 _ _ t430 _ _ t434 t437 t438 _ _ t439 t443 _ ?side1 ?side2 ?side3 ?side4 ?side5 ?side6 ?side7 ?side8 A24.out).mono ?_); (case side1 => refine (Kd.R_reads' (e := 121) (base := w.heap.size) (ok := fun k_ => (((True ∧ some k_ ≠ (.slice Ao42 t408.length co42 : Value).ownBlock) ∧ some k_ ≠ (.slice Ao44 t416.length co44 : Value).ownBlock) ∧ some k_ ≠ (.slice Ao58 t434.length co58 : Value).ownBlock)) (n := t425.length) (c := co50) ?_).2.2; exact (by (with_reducible repeat (first | apply Kd.R_alloc | apply Kd.R_drewN | apply Kd.R_drew)); exact (Kd.R_mono (Kd.R_far (p := ⟨gb442, 3, none⟩) (Kd.R_far (p := ⟨gb442, 2, none⟩) (Kd.R_far (p := ⟨gb442, 1, none⟩) (Kd.R_far (p := ⟨gb442, 0, none⟩) (Kd.R_types HO427.out BK442.out (by decide)) (fun _ hk => hk.2) (.slice Ao58 t434.length co58)) (fun _ hk => hk.2) (.int .i64 t437)) (fun _ hk => hk.2) (.int .i64 t438)) (fun _ hk => hk.2) (.slice Ao63 t439.length co63)) (fun _ h_ => h_.1)))); (case side2 => exact (Kd.R_reads' HO427.out).2.1); (case side3 => refine (Kd.S_reads' (e := 126) (base := w.heap.size) (ok := fun k_ => (((True ∧ some k_ ≠ (.slice Ao43 t413.length co43 : Value).ownBlock) ∧ some k_ ≠ (.slice Ao45 t421.length co45 : Value).ownBlock) ∧ some k_ ≠ (.slice Ao63 t439.length co63 : Value).ownBlock)) (n := t430.length) (c := co54) ?_).2.2; exact (by (with_reducible repeat (first | apply Kd.S_alloc | apply Kd.S_drewN | apply Kd.S_drew)); exact (Kd.S_mono (Kd.S_far (p := ⟨gb442, 3, none⟩) (Kd.S_far (p := ⟨gb442, 2, none⟩) (Kd.S_far (p := ⟨gb442, 1, none⟩) (Kd.S_far (p := ⟨gb442, 0, none⟩) (Kd.S_types HO432.out BK442.out (by decide)) (fun _ hk => hk.2) (.slice Ao58 t434.length co58)) (fun _ hk => hk.2) (.int .i64 t437)) (fun _ hk => hk.2) (.int .i64 t438)) (fun _ hk => hk.2) (.slice Ao63 t439.length co63)) (fun _ h_ => h_.1)))); (case side4 => exact (Kd.S_reads' HO432.out).2.1); (case side5 => refine (Kd.R_reads' (e := 121) (base := w.heap.size) (ok := fun k_ => (((True ∧ some k_ ≠ (.slice Ao42 t408.length co42 : Value).ownBlock) ∧ some k_ ≠ (.slice Ao44 t416.length co44 : Value).ownBlock) ∧ some k_ ≠ (.slice Ao50 t425.length co50 : Value).ownBlock)) (n := t434.length) (c := co58) ?_).2.2; exact (by (with_reducible repeat (first | apply Kd.R_alloc | apply Kd.R_drewN | apply Kd.R_drew)); exact (Kd.R_mono (Kd.R_far (p := ⟨gb442, 3, none⟩) (Kd.R_far (p := ⟨gb442, 2, none⟩) (Kd.R_far (p := ⟨gb442, 1, none⟩) (Kd.R_far (p := ⟨gb442, 0, none⟩) (Kd.R_types HO436.out BK442.out (by decide)) (fun _ hk => hk.2) (.slice Ao58 t434.length co58)) (fun _ hk => hk.2) (.int .i64 t437)) (fun _ hk => hk.2) (.int .i64 t438)) (fun _ hk => hk.2) (.slice Ao63 t439.length co63)) (fun _ h_ => h_.1)))); (case side6 => exact (Kd.R_reads' HO436.out).2.1); (case side7 => refine (Kd.S_reads' (e := 126) (base := w.heap.size) (ok := fun k_ => (((True ∧ some k_ ≠ (.slice Ao43 t413.length co43 : Value).ownBlock) ∧ some k_ ≠ (.slice Ao45 t421.length co45 : Value).ownBlock) ∧ some k_ ≠ (.slice Ao54 t430.length co54 : Value).ownBlock)) (n := t439.length) (c := co63) ?_).2.2; exact (by (with_reducible repeat (first | apply Kd.S_alloc | apply Kd.S_drewN | apply Kd.S_drew)); exact (Kd.S_mono (Kd.S_far (p := ⟨gb442, 3, none⟩) (Kd.S_far (p := ⟨gb442, 2, none⟩) (Kd.S_far (p := ⟨gb442, 1, none⟩) (Kd.S_far (p := ⟨gb442, 0, none⟩) (Kd.S_types HO441.out BK442.out (by decide)) (fun _ hk => hk.2) (.slice Ao58 t434.length co58)) (fun _ hk => hk.2) (.int .i64 t437)) (fun _ hk => hk.2) (.int .i64 t438)) (fun _ hk => hk.2) (.slice Ao63 t439.length co63)) (fun _ h_ => h_.1)))); (case side8 => exact (Kd.S_reads' HO441.out).2.1); rintro e w65 ⟨rfl, hb⟩; refine ⟨_, rfl, ?_⟩; replace HO410 := Aside0.mk (Kd.R_below (by (with_reducible repeat (first | apply Kd.R_alloc | apply Kd.R_drewN | apply Kd.R_drew)); exact (Kd.R_mono (Kd.R_far (p := ⟨gb442, 3, none⟩) (Kd.R_far (p := ⟨gb442, 2, none⟩) (Kd.R_far (p := ⟨gb442, 1, none⟩) (Kd.R_far (p := ⟨gb442, 0, none⟩) (Kd.R_types HO410.out BK442.out (by decide)) (fun _ hk => hk.2) (.slice Ao58 t434.length co58)) (fun _ hk => hk.2) (.int .i64 t437)) (fun _ hk => hk.2) (.int .i64 t438)) (fun _ hk => hk.2) (.slice Ao63 t439.length co63)) (fun _ h_ => h_.1))) hb); replace HO415 := Aside0.mk (Kd.S_below (by (with_reducible repeat (first | apply Kd.S_alloc | apply Kd.S_drewN | apply Kd.S_drew)); exact (Kd.S_mono (Kd.S_far (p := ⟨gb442, 3, none⟩) (Kd.S_far (p := ⟨gb442, 2, none⟩) (Kd.S_far (p := ⟨gb442, 1, none⟩) (Kd.S_far (p := ⟨gb442, 0, none⟩) (Kd.S_types HO415.out BK442.out (by decide)) (fun _ hk => hk.2) (.slice Ao58 t434.length co58)) (fun _ hk => hk.2) (.int .i64 t437)) (fun _ hk => hk.2) (.int .i64 t438)) (fun _ hk => hk.2) (.slice Ao63 t439.length co63)) (fun _ h_ => h_.1))) hb); replace HO418 := Aside0.mk (Kd.R_below (by (with_reducible repeat (first | apply Kd.R_alloc | apply Kd.R_drewN | apply Kd.R_drew)); exact (Kd.R_mono (Kd.R_far (p := ⟨gb442, 3, none⟩) (Kd.R_far (p := ⟨gb442, 2, none⟩) (Kd.R_far (p := ⟨gb442, 1, none⟩) (Kd.R_far (p := ⟨gb442, 0, none⟩) (Kd.R_types HO418.out BK442.out (by decide)) (fun _ hk => hk.2) (.slice Ao58 t434.length co58)) (fun _ hk => hk.2) (.int .i64 t437)) (fun _ hk => hk.2) (.int .i64 t438)) (fun _ hk => hk.2) (.slice Ao63 t439.length co63)) (fun _ h_ => h_.1))) hb); replace HO423 := Aside0.mk (Kd.S_below (by (with_reducible repeat (first | apply Kd.S_alloc | apply Kd.S_drewN | apply Kd.S_drew)); exact (Kd.S_mono (Kd.S_far (p := ⟨gb442, 3, none⟩) (Kd.S_far (p := ⟨gb442, 2, none⟩) (Kd.S_far (p := ⟨gb442, 1, none⟩) (Kd.S_far (p := ⟨gb442, 0, none⟩) (Kd.S_types HO423.out BK442.out (by decide)) (fun _ hk => hk.2) (.slice Ao58 t434.length co58)) (fun _ hk => hk.2) (.int .i64 t437)) (fun _ hk => hk.2) (.int .i64 t438)) (fun _ hk => hk.2) (.slice Ao63 t439.length co63)) (fun _ h_ => h_.1))) hb); replace HO427 := Aside0.mk (Kd.R_below (by (with_reducible repeat (first | apply Kd.R_alloc | apply Kd.R_drewN | apply Kd.R_drew)); exact (Kd.R_mono (Kd.R_far (p := ⟨gb442, 3, none⟩) (Kd.R_far (p := ⟨gb442, 2, none⟩) (Kd.R_far (p := ⟨gb442, 1, none⟩) (Kd.R_far (p := ⟨gb442, 0, none⟩) (Kd.R_types HO427.out BK442.out (by decide)) (fun _ hk => hk.2) (.slice Ao58 t434.length co58)) (fun _ hk => hk.2) (.int .i64 t437)) (fun _ hk => hk.2) (.int .i64 t438)) (fun _ hk => hk.2) (.slice Ao63 t439.length co63)) (fun _ h_ => h_.1))) hb); replace HO432 := Aside0.mk (Kd.S_below (by (with_reducible repeat (first | apply Kd.S_alloc | apply Kd.S_drewN | apply Kd.S_drew)); exact (Kd.S_mono (Kd.S_far (p := ⟨gb442, 3, none⟩) (Kd.S_far (p := ⟨gb442, 2, none⟩) (Kd.S_far (p := ⟨gb442, 1, none⟩) (Kd.S_far (p := ⟨gb442, 0, none⟩) (Kd.S_types HO432.out BK442.out (by decide)) (fun _ hk => hk.2) (.slice Ao58 t434.length co58)) (fun _ hk => hk.2) (.int .i64 t437)) (fun _ hk => hk.2) (.int .i64 t438)) (fun _ hk => hk.2) (.slice Ao63 t439.length co63)) (fun _ h_ => h_.1))) hb); replace HO436 := Aside0.mk (Kd.R_below (by (with_reducible repeat (first | apply Kd.R_alloc | apply Kd.R_drewN | apply Kd.R_drew)); exact (Kd.R_mono (Kd.R_far (p := ⟨gb442, 3, none⟩) (Kd.R_far (p := ⟨gb442, 2, none⟩) (Kd.R_far (p := ⟨gb442, 1, none⟩) (Kd.R_far (p := ⟨gb442, 0, none⟩) (Kd.R_types HO436.out BK442.out (by decide)) (fun _ hk => hk.2) (.slice Ao58 t434.length co58)) (fun _ hk => hk.2) (.int .i64 t437)) (fun _ hk => hk.2) (.int .i64 t438)) (fun _ hk => hk.2) (.slice Ao63 t439.length co63)) (fun _ h_ => h_.1))) hb); replace HO441 := Aside0.mk (Kd.S_below (by (with_reducible repeat (first | apply Kd.S_alloc | apply Kd.S_drewN | apply Kd.S_drew)); exact (Kd.S_mono (Kd.S_far (p := ⟨gb442, 3, none⟩) (Kd.S_far (p := ⟨gb442, 2, none⟩) (Kd.S_far (p := ⟨gb442, 1, none⟩) (Kd.S_far (p := ⟨gb442, 0, none⟩) (Kd.S_types HO441.out BK442.out (by decide)) (fun _ hk => hk.2) (.slice Ao58 t434.length co58)) (fun _ hk => hk.2) (.int .i64 t437)) (fun _ hk => hk.2) (.int .i64 t438)) (fun _ hk => hk.2) (.slice Ao63 t439.length co63)) (fun _ h_ => h_.1))) hb); replace BK404 := Aside0.mk (blk_below (g := gb404) (o := .cells #[.slice A0_0 l0_0.length c0_0, .int .i64 a0_1, .int .i64 a0_2, .slice A0_3 l0_3.length c0_3] 50 (0, 0)) (by (with_reducible repeat (first | refine blk_drewN ?_ _ | refine blk_drew ?_ | refine blk_alloc ?_ _)); refine blk_far ?_ NB404_442.out _; (with_reducible repeat (first | refine blk_drewN ?_ _ | refine blk_drew ?_ | refine blk_alloc ?_ _)); refine blk_far ?_ NB404_442.out _; (with_reducible repeat (first | refine blk_drewN ?_ _ | refine blk_drew ?_ | refine blk_alloc ?_ _)); refine blk_far ?_ NB404_442.out _; (with_reducible repeat (first | refine blk_drewN ?_ _ | refine blk_drew ?_ | refine blk_alloc ?_ _)); refine blk_far ?_ NB404_442.out _; (with_reducible repeat (first | refine blk_drewN ?_ _ | refine blk_drew ?_ | refine blk_alloc ?_ _)); exact BK404.out) hb); replace BK405 := Aside0.mk (blk_below (g := gb405) (o := .cells #[.slice A1_0 l1_0.length c1_0, .int .i64 a1_1, .int .i64 a1_2, .slice A1_3 l1_3.length c1_3] 50 (0, 0)) (by (with_reducible repeat (first | refine blk_drewN ?_ _ | refine blk_drew ?_ | refine blk_alloc ?_ _)); refine blk_far ?_ NB405_442.out _; (with_reducible repeat (first | refine blk_drewN ?_ _ | refine blk_drew ?_ | refine blk_alloc ?_ _)); refine blk_far ?_ NB405_442.out _; (with_reducible repeat (first | refine blk_drewN ?_ _ | refine blk_drew ?_ | refine blk_alloc ?_ _)); refine blk_far ?_ NB405_442.out _; (with_reducible repeat (first | refine blk_drewN ?_ _ | refine blk_drew ?_ | refine blk_alloc ?_ _)); refine blk_far ?_ NB405_442.out _; (with_reducible repeat (first | refine blk_drewN ?_ _ | refine blk_drew ?_ | refine blk_alloc ?_ _)); exact BK405.out) hb); replace BK433 := Aside0.mk (blk_below (g := gb433) (o := .cells #[.slice Ao50 t425.length co50, .int .i64 t428, .int .i64 t429, .slice Ao54 t430.length co54] 56 (0, 0)) (by (with_reducible repeat (first | refine blk_drewN ?_ _ | refine blk_drew ?_ | refine blk_alloc ?_ _)); refine blk_far ?_ NB433_442.out _; (with_reducible repeat (first | refine blk_drewN ?_ _ | refine blk_drew ?_ | refine blk_alloc ?_ _)); refine blk_far ?_ NB433_442.out _; (with_reducible repeat (first | refine blk_drewN ?_ _ | refine blk_drew ?_ | refine blk_alloc ?_ _)); refine blk_far ?_ NB433_442.out _; (with_reducible repeat (first | refine blk_drewN ?_ _ | refine blk_drew ?_ | refine blk_alloc ?_ _)); refine blk_far ?_ NB433_442.out _; (with_reducible repeat (first | refine blk_drewN ?_ _ | refine blk_drew ?_ | refine blk_alloc ?_ _)); exact BK433.out) hb); replace BK442 := Aside0.mk (blk_below (g := gb442) (o := .cells #[.slice Ao58 t434.length co58, .int .i64 t437, .int .i64 t438, .slice Ao63 t439.length co63] 56 (0, 0)) (by (with_reducible repeat (first | refine blk_drewN ?_ _ | refine blk_drew ?_ | refine blk_alloc ?_ _)); apply bq4_3_2_1_0_; (with_reducible repeat (first | refine blk_drewN ?_ _ | refine blk_drew ?_ | refine blk_alloc ?_ _)); exact BK442.out) hb); replace HB := Aside0.mk (below_step bl_ hb); (try clear hb); (try clear hb2); (try clear hk); (try clear hi)))
      have n0_ := Aside0.mk (Kd.R_drew HO410.out)
      have n1_ := Aside0.mk (Kd.S_drew HO415.out)
      have n2_ := Aside0.mk (Kd.R_drew HO418.out)
      have n3_ := Aside0.mk (Kd.S_drew HO423.out)
      have n4_ := Aside0.mk (Kd.R_drew HO427.out)
      have n5_ := Aside0.mk (Kd.S_drew HO432.out)
      have n6_ := Aside0.mk (Kd.R_drew HO436.out)
      have n7_ := Aside0.mk (Kd.S_drew HO441.out)
      have n8_ := Aside0.mk (blk_drew BK404.out)
      have n9_ := Aside0.mk (blk_drew BK405.out)
      have n10_ := Aside0.mk (blk_drew BK433.out)
      have n11_ := Aside0.mk (blk_drew BK442.out)
      have n12_ := Aside0.mk (below_drew1 HB.out)
      clear HO410
      clear HO415
      clear HO418
      clear HO423
      clear HO427
      clear HO432
      clear HO436
      clear HO441
      clear BK404
      clear BK405
      clear BK433
      clear BK442
      clear HB
      have HO410 := n0_
      have HO415 := n1_
      have HO418 := n2_
      have HO423 := n3_
      have HO427 := n4_
      have HO432 := n5_
      have HO436 := n6_
      have HO441 := n7_
      have BK404 := n8_
      have BK405 := n9_
      have BK433 := n10_
      have BK442 := n11_
      have HB := n12_
      clear n0_ n1_ n2_ n3_ n4_ n5_ n6_ n7_ n8_ n9_ n10_ n11_ n12_
      refine start_ (n := 5) (S := fun w' => w'.cell? ⟨gb433, 0, none⟩ = some (.slice Ao50 t425.length co50) ∧ w'.cell? ⟨gb433, 1, none⟩ = some (.int .i64 t428) ∧ w'.cell? ⟨gb433, 2, none⟩ = some (.int .i64 t429) ∧ w'.cell? ⟨gb433, 3, none⟩ = some (.slice Ao54 t430.length co54) ∧ w'.cell? ⟨gb404, 0, none⟩ = some (.slice A0_0 l0_0.length c0_0) ∧ w'.cell? ⟨gb404, 1, none⟩ = some (.int .i64 a0_1) ∧ w'.cell? ⟨gb404, 2, none⟩ = some (.int .i64 a0_2) ∧ w'.cell? ⟨gb404, 3, none⟩ = some (.slice A0_3 l0_3.length c0_3)) (ds := []) #[false, false, false, false, false] (by kernel_rfl) rfl rfl ⟨cy_ BK433 0, cy_ BK433 1, cy_ BK433 2, cy_ BK433 3, cy_ BK404 0, cy_ BK404 1, cy_ BK404 2, cy_ BK404 3⟩ (fun hHeld => ?_)
      generalize w65.drew = w66 at HO410 HO415 HO418 HO423 HO427 HO432 HO436 HO441 BK404 BK405 BK433 BK442 HB hHeld ⊢
      refine take_ (i := 0) (N := some 35) (v := ?_) (a' := ?_) #[true, false, false, false, false] rfl rfl (by kernel_rfl) (fun _ _ _ h => h) (Or.inl ⟨by rfl, ?_⟩) hHeld ?_ ?_
      rotate_left
      ·rintro w' ⟨s0, s1, s2, s3, s4, s5, s6, s7⟩
       go_simp
       with_reducible rfl
      rotate_left
      ·simp only [Act.put, q_]
       rfl
      refine take_ (i := 1) (N := some 36) (v := ?_) (a' := ?_) #[true, true, false, false, false] rfl rfl (by kernel_rfl) (fun _ _ _ h => h) (Or.inl ⟨by rfl, ?_⟩) hHeld ?_ ?_
      rotate_left
      ·rintro w' ⟨s0, s1, s2, s3, s4, s5, s6, s7⟩
       go_simp
       with_reducible rfl
      rotate_left
      ·simp only [Act.put, q_]
       rfl
      refine one_ (i := 2) (N := some 37) #[true, true, true, false, false] rfl rfl (by kernel_rfl) (by decide) (fun K hK => ?_)
      refine goes_ Try.func33 (by kernel_rfl) rfl #[.agg #[.slice A0_0 l0_0.length c0_0, .int .i64 a0_1, .int .i64 a0_2, .slice A0_3 l0_3.length c0_3]] (by rfl) rfl rfl gl_ ?_
      with_reducible refine (laws_toWorld.calls k _ _ l0_0 a0_1 a0_2 _ _ l0_3 t444 t447 t448 t449 _ ?side1 ?side2 ?side3 ?side4 A26.out).mono ?_
      (case side1 => exact ca_ (Kd.C_below HR0_0.out HB.out))
      (case side2 => exact HC0_0.out)
      (case side3 => exact ca_ (Kd.C_below HR0_3.out HB.out))
      (case side4 => exact HC0_3.out)
      rintro e w67 ⟨v445, v450, rfl, ho0, ho1, hb⟩
      refine ⟨_, rfl, ?_⟩
      have n0_ := Aside0.mk (Kd.R_elder' (ra_ HO410) (Kd.R_base ho0) hb)
      have n1_ := Aside0.mk (Kd.S_elder' (by (with_reducible repeat (first | apply Kd.S_alloc | apply Kd.S_drewN | apply Kd.S_drew)); exact HO415.out) (Kd.S_base ho1) hb)
      have n2_ := Aside0.mk (Kd.R_elder' (ra_ HO418) (Kd.R_base ho0) hb)
      have n3_ := Aside0.mk (Kd.S_elder' (by (with_reducible repeat (first | apply Kd.S_alloc | apply Kd.S_drewN | apply Kd.S_drew)); exact HO423.out) (Kd.S_base ho1) hb)
      have n4_ := Aside0.mk (Kd.R_elder' (ra_ HO427) (Kd.R_base ho0) hb)
      have n5_ := Aside0.mk (Kd.S_elder' (by (with_reducible repeat (first | apply Kd.S_alloc | apply Kd.S_drewN | apply Kd.S_drew)); exact HO432.out) (Kd.S_base ho1) hb)
      have n6_ := Aside0.mk (Kd.R_elder' (ra_ HO436) (Kd.R_base ho0) hb)
      have n7_ := Aside0.mk (Kd.S_elder' (by (with_reducible repeat (first | apply Kd.S_alloc | apply Kd.S_drewN | apply Kd.S_drew)); exact HO441.out) (Kd.S_base ho1) hb)
      have n8_ := Aside0.mk (Kd.R_lower (Kd.R_new' (Kd.R_new' (Kd.R_new' (Kd.R_new' ho0 (Kd.R_lt (ra_ HO410))) (Kd.R_lt (ra_ HO418))) (Kd.R_lt (ra_ HO427))) (Kd.R_lt (ra_ HO436))) (below_size bl_))
      have n9_ := Aside0.mk (Kd.S_lower (Kd.S_new' (Kd.S_new' (Kd.S_new' (Kd.S_new' ho1 (Kd.S_lt (by (with_reducible repeat (first | apply Kd.S_alloc | apply Kd.S_drewN | apply Kd.S_drew)); exact HO415.out))) (Kd.S_lt (by (with_reducible repeat (first | apply Kd.S_alloc | apply Kd.S_drewN | apply Kd.S_drew)); exact HO423.out))) (Kd.S_lt (by (with_reducible repeat (first | apply Kd.S_alloc | apply Kd.S_drewN | apply Kd.S_drew)); exact HO432.out))) (Kd.S_lt (by (with_reducible repeat (first | apply Kd.S_alloc | apply Kd.S_drewN | apply Kd.S_drew)); exact HO441.out))) (below_size bl_))
      have n10_ := Aside0.mk (blk_below (bk_ BK404) hb)
      have n11_ := Aside0.mk (blk_below (bk_ BK405) hb)
      have n12_ := Aside0.mk (blk_below (bk_ BK433) hb)
      have n13_ := Aside0.mk (blk_below (bk_ BK442) hb)
      have n14_ := Aside0.mk (below_step bl_ hb)
      clear HO410
      clear HO415
      clear HO418
      clear HO423
      clear HO427
      clear HO432
      clear HO436
      clear HO441
      clear BK404
      clear BK405
      clear BK433
      clear BK442
      clear HB
      have HO410 := n0_
      have HO415 := n1_
      have HO418 := n2_
      have HO423 := n3_
      have HO427 := n4_
      have HO432 := n5_
      have HO436 := n6_
      have HO441 := n7_
      have HO446 := n8_
      have HO451 := n9_
      have BK404 := n10_
      have BK405 := n11_
      have BK433 := n12_
      have BK442 := n13_
      have HB := n14_
      clear n0_ n1_ n2_ n3_ n4_ n5_ n6_ n7_ n8_ n9_ n10_ n11_ n12_ n13_ n14_
      (try clear hb)
      (try clear hb2)
      (try clear hk)
      (try clear hi)
      (try clear ho0)
      (try clear ho1)
      obtain ⟨Ao68, co68, eo68⟩ := Kd.R_slice HO446.out
      (first | subst eo68 | (injection eo68 with f1_ f2_ f3_; have f4_ := f1_.symm; have f5_ := f3_.symm; clear f1_ f2_ f3_; subst f4_; subst f5_))
      obtain ⟨Ao69, co69, eo69⟩ := Kd.S_slice HO451.out
      (first | subst eo69 | (injection eo69 with f1_ f2_ f3_; have f4_ := f1_.symm; have f5_ := f3_.symm; clear f1_ f2_ f3_; subst f4_; subst f5_))
      refine hK.out _ _ ⟨cy_ BK433 0, cy_ BK433 1, cy_ BK433 2, cy_ BK433 3, cy_ BK404 0, cy_ BK404 1, cy_ BK404 2, cy_ BK404 3⟩ (fun hHeld => ?_)
      clear hK K
      refine norm_ (a' := ?_) ?_ ?_
      rotate_left
      ·show Act.put _ (some 37) _ = _
       simp only [Act.put, q_]
       rfl
      refine one_ (i := 3) (N := some 38) #[true, true, true, true, false] rfl rfl (by kernel_rfl) (by decide) (fun K hK => ?_)
      refine goes_ Try.func35 (by kernel_rfl) rfl #[.agg #[.slice Ao50 t425.length co50, .int .i64 t428, .int .i64 t429, .slice Ao54 t430.length co54], .agg #[.slice Ao68 t444.length co68, .int .i64 t447, .int .i64 t448, .slice Ao69 t449.length co69]] (by rfl) rfl rfl gl_ ?_
      with_reducible refine (laws_eqWorld.calls k _ _ t425 t428 t429 _ _ t430 _ _ t444 t447 t448 _ _ t449 true _ ?side1 ?side2 ?side3 ?side4 ?side5 ?side6 ?side7 ?side8 A27.out).mono ?_
      (case side1 => exact ca_ ((Kd.R_reads' HO427.out).2.2))
      (case side2 => exact (Kd.R_reads' HO427.out).2.1)
      (case side3 => exact ca_ ((Kd.S_reads' HO432.out).2.2))
      (case side4 => exact (Kd.S_reads' HO432.out).2.1)
      (case side5 => exact ca_ ((Kd.R_reads' HO446.out).2.2))
      (case side6 => exact (Kd.R_reads' HO446.out).2.1)
      (case side7 => exact ca_ ((Kd.S_reads' HO451.out).2.2))
      (case side8 => exact (Kd.S_reads' HO451.out).2.1)
      rintro e w70 ⟨rfl, hb⟩
      refine ⟨_, rfl, ?_⟩
      have n0_ := Aside0.mk (Kd.R_below (ra_ HO410) hb)
      have n1_ := Aside0.mk (Kd.S_below (by (with_reducible repeat (first | apply Kd.S_alloc | apply Kd.S_drewN | apply Kd.S_drew)); exact HO415.out) hb)
      have n2_ := Aside0.mk (Kd.R_below (ra_ HO418) hb)
      have n3_ := Aside0.mk (Kd.S_below (by (with_reducible repeat (first | apply Kd.S_alloc | apply Kd.S_drewN | apply Kd.S_drew)); exact HO423.out) hb)
      have n4_ := Aside0.mk (Kd.R_below (ra_ HO427) hb)
      have n5_ := Aside0.mk (Kd.S_below (by (with_reducible repeat (first | apply Kd.S_alloc | apply Kd.S_drewN | apply Kd.S_drew)); exact HO432.out) hb)
      have n6_ := Aside0.mk (Kd.R_below (ra_ HO436) hb)
      have n7_ := Aside0.mk (Kd.S_below (by (with_reducible repeat (first | apply Kd.S_alloc | apply Kd.S_drewN | apply Kd.S_drew)); exact HO441.out) hb)
      have n8_ := Aside0.mk (Kd.R_below (ra_ HO446) hb)
      have n9_ := Aside0.mk (Kd.S_below (by (with_reducible repeat (first | apply Kd.S_alloc | apply Kd.S_drewN | apply Kd.S_drew)); exact HO451.out) hb)
      have n10_ := Aside0.mk (blk_below (bk_ BK404) hb)
      have n11_ := Aside0.mk (blk_below (bk_ BK405) hb)
      have n12_ := Aside0.mk (blk_below (bk_ BK433) hb)
      have n13_ := Aside0.mk (blk_below (bk_ BK442) hb)
      have n14_ := Aside0.mk (below_step bl_ hb)
      clear HO410
      clear HO415
      clear HO418
      clear HO423
      clear HO427
      clear HO432
      clear HO436
      clear HO441
      clear HO446
      clear HO451
      clear BK404
      clear BK405
      clear BK433
      clear BK442
      clear HB
      have HO410 := n0_
      have HO415 := n1_
      have HO418 := n2_
      have HO423 := n3_
      have HO427 := n4_
      have HO432 := n5_
      have HO436 := n6_
      have HO441 := n7_
      have HO446 := n8_
      have HO451 := n9_
      have BK404 := n10_
      have BK405 := n11_
      have BK433 := n12_
      have BK442 := n13_
      have HB := n14_
      clear n0_ n1_ n2_ n3_ n4_ n5_ n6_ n7_ n8_ n9_ n10_ n11_ n12_ n13_ n14_
      (try clear hb)
      (try clear hb2)
      (try clear hk)
      (try clear hi)
      refine hK.out _ _ ⟨cy_ BK433 0, cy_ BK433 1, cy_ BK433 2, cy_ BK433 3, cy_ BK404 0, cy_ BK404 1, cy_ BK404 2, cy_ BK404 3⟩ (fun hHeld => ?_)
      clear hK K
      refine norm_ (a' := ?_) ?_ ?_
      rotate_left
      ·show Act.put _ (some 38) _ = _
       simp only [Act.put, q_]
       rfl
      refine pure_ (i := 4) (N := some 39) (v := ?_) (a' := ?_) #[true, true, true, true, true] rfl rfl (by kernel_rfl) (fun _ _ _ h => h) (Or.inl ⟨by rfl, ?_⟩) ?_ ?_
      rotate_left
      ·intro w'
       go_simp
       with_reducible rfl
      rotate_left
      ·simp only [Act.put, q_]
       rfl
      refine done_ (by kernel_rfl) ?_
      try go_wp2
      have n0_ := Aside0.mk (Kd.R_drew HO410.out)
      have n1_ := Aside0.mk (Kd.S_drew HO415.out)
      have n2_ := Aside0.mk (Kd.R_drew HO418.out)
      have n3_ := Aside0.mk (Kd.S_drew HO423.out)
      have n4_ := Aside0.mk (Kd.R_drew HO427.out)
      have n5_ := Aside0.mk (Kd.S_drew HO432.out)
      have n6_ := Aside0.mk (Kd.R_drew HO436.out)
      have n7_ := Aside0.mk (Kd.S_drew HO441.out)
      have n8_ := Aside0.mk (Kd.R_drew HO446.out)
      have n9_ := Aside0.mk (Kd.S_drew HO451.out)
      have n10_ := Aside0.mk (blk_drew BK404.out)
      have n11_ := Aside0.mk (blk_drew BK405.out)
      have n12_ := Aside0.mk (blk_drew BK433.out)
      have n13_ := Aside0.mk (blk_drew BK442.out)
      have n14_ := Aside0.mk (below_drew1 HB.out)
      clear HO410
      clear HO415
      clear HO418
      clear HO423
      clear HO427
      clear HO432
      clear HO436
      clear HO441
      clear HO446
      clear HO451
      clear BK404
      clear BK405
      clear BK433
      clear BK442
      clear HB
      have HO410 := n0_
      have HO415 := n1_
      have HO418 := n2_
      have HO423 := n3_
      have HO427 := n4_
      have HO432 := n5_
      have HO436 := n6_
      have HO441 := n7_
      have HO446 := n8_
      have HO451 := n9_
      have BK404 := n10_
      have BK405 := n11_
      have BK433 := n12_
      have BK442 := n13_
      have HB := n14_
      clear n0_ n1_ n2_ n3_ n4_ n5_ n6_ n7_ n8_ n9_ n10_ n11_ n12_ n13_ n14_
      refine start_ (n := 5) (S := fun w' => w'.cell? ⟨gb442, 0, none⟩ = some (.slice Ao58 t434.length co58) ∧ w'.cell? ⟨gb442, 1, none⟩ = some (.int .i64 t437) ∧ w'.cell? ⟨gb442, 2, none⟩ = some (.int .i64 t438) ∧ w'.cell? ⟨gb442, 3, none⟩ = some (.slice Ao63 t439.length co63) ∧ w'.cell? ⟨gb405, 0, none⟩ = some (.slice A1_0 l1_0.length c1_0) ∧ w'.cell? ⟨gb405, 1, none⟩ = some (.int .i64 a1_1) ∧ w'.cell? ⟨gb405, 2, none⟩ = some (.int .i64 a1_2) ∧ w'.cell? ⟨gb405, 3, none⟩ = some (.slice A1_3 l1_3.length c1_3)) (ds := []) #[false, false, false, false, false] (by kernel_rfl) rfl rfl ⟨cy_ BK442 0, cy_ BK442 1, cy_ BK442 2, cy_ BK442 3, cy_ BK405 0, cy_ BK405 1, cy_ BK405 2, cy_ BK405 3⟩ (fun hHeld => ?_)
      generalize w70.drew = w71 at HO410 HO415 HO418 HO423 HO427 HO432 HO436 HO441 HO446 HO451 BK404 BK405 BK433 BK442 HB hHeld ⊢
      refine take_ (i := 0) (N := some 40) (v := ?_) (a' := ?_) #[true, false, false, false, false] rfl rfl (by kernel_rfl) (fun _ _ _ h => h) (Or.inl ⟨by rfl, ?_⟩) hHeld ?_ ?_
      rotate_left
      ·rintro w' ⟨s0, s1, s2, s3, s4, s5, s6, s7⟩
       go_simp
       with_reducible rfl
      rotate_left
      ·simp only [Act.put, q_]
       rfl
      refine take_ (i := 1) (N := some 41) (v := ?_) (a' := ?_) #[true, true, false, false, false] rfl rfl (by kernel_rfl) (fun _ _ _ h => h) (Or.inl ⟨by rfl, ?_⟩) hHeld ?_ ?_
      rotate_left
      ·rintro w' ⟨s0, s1, s2, s3, s4, s5, s6, s7⟩
       go_simp
       with_reducible rfl
      rotate_left
      ·simp only [Act.put, q_]
       rfl
      refine one_ (i := 2) (N := some 42) #[true, true, true, false, false] rfl rfl (by kernel_rfl) (by decide) (fun K hK => ?_)
      refine goes_ Try.func33 (by kernel_rfl) rfl #[.agg #[.slice A1_0 l1_0.length c1_0, .int .i64 a1_1, .int .i64 a1_2, .slice A1_3 l1_3.length c1_3]] (by rfl) rfl rfl gl_ ?_
      with_reducible refine (laws_toWorld.calls k _ _ l1_0 a1_1 a1_2 _ _ l1_3 t453 t456 t457 t458 _ ?side1 ?side2 ?side3 ?side4 A29.out).mono ?_
      (case side1 => exact ca_ (Kd.C_below HR1_0.out HB.out))
      (case side2 => exact HC1_0.out)
      (case side3 => exact ca_ (Kd.C_below HR1_3.out HB.out))
      (case side4 => exact HC1_3.out)
      rintro e w72 ⟨v454, v459, rfl, ho0, ho1, hb⟩
      refine ⟨_, rfl, ?_⟩
      have n0_ := Aside0.mk (Kd.R_elder' (ra_ HO410) (Kd.R_base ho0) hb)
      have n1_ := Aside0.mk (Kd.S_elder' (by (with_reducible repeat (first | apply Kd.S_alloc | apply Kd.S_drewN | apply Kd.S_drew)); exact HO415.out) (Kd.S_base ho1) hb)
      have n2_ := Aside0.mk (Kd.R_elder' (ra_ HO418) (Kd.R_base ho0) hb)
      have n3_ := Aside0.mk (Kd.S_elder' (by (with_reducible repeat (first | apply Kd.S_alloc | apply Kd.S_drewN | apply Kd.S_drew)); exact HO423.out) (Kd.S_base ho1) hb)
      have n4_ := Aside0.mk (Kd.R_elder' (ra_ HO427) (Kd.R_base ho0) hb)
      have n5_ := Aside0.mk (Kd.S_elder' (by (with_reducible repeat (first | apply Kd.S_alloc | apply Kd.S_drewN | apply Kd.S_drew)); exact HO432.out) (Kd.S_base ho1) hb)
      have n6_ := Aside0.mk (Kd.R_elder' (ra_ HO436) (Kd.R_base ho0) hb)
      have n7_ := Aside0.mk (Kd.S_elder' (by (with_reducible repeat (first | apply Kd.S_alloc | apply Kd.S_drewN | apply Kd.S_drew)); exact HO441.out) (Kd.S_base ho1) hb)
      have n8_ := Aside0.mk (Kd.R_elder' (ra_ HO446) (Kd.R_base ho0) hb)
      have n9_ := Aside0.mk (Kd.S_elder' (by (with_reducible repeat (first | apply Kd.S_alloc | apply Kd.S_drewN | apply Kd.S_drew)); exact HO451.out) (Kd.S_base ho1) hb)
      have n10_ := Aside0.mk (Kd.R_lower (Kd.R_new' (Kd.R_new' (Kd.R_new' (Kd.R_new' (Kd.R_new' ho0 (Kd.R_lt (ra_ HO410))) (Kd.R_lt (ra_ HO418))) (Kd.R_lt (ra_ HO427))) (Kd.R_lt (ra_ HO436))) (Kd.R_lt (ra_ HO446))) (below_size bl_))
      have n11_ := Aside0.mk (Kd.S_lower (Kd.S_new' (Kd.S_new' (Kd.S_new' (Kd.S_new' (Kd.S_new' ho1 (Kd.S_lt (by (with_reducible repeat (first | apply Kd.S_alloc | apply Kd.S_drewN | apply Kd.S_drew)); exact HO415.out))) (Kd.S_lt (by (with_reducible repeat (first | apply Kd.S_alloc | apply Kd.S_drewN | apply Kd.S_drew)); exact HO423.out))) (Kd.S_lt (by (with_reducible repeat (first | apply Kd.S_alloc | apply Kd.S_drewN | apply Kd.S_drew)); exact HO432.out))) (Kd.S_lt (by (with_reducible repeat (first | apply Kd.S_alloc | apply Kd.S_drewN | apply Kd.S_drew)); exact HO441.out))) (Kd.S_lt (by (with_reducible repeat (first | apply Kd.S_alloc | apply Kd.S_drewN | apply Kd.S_drew)); exact HO451.out))) (below_size bl_))
      have n12_ := Aside0.mk (blk_below (bk_ BK404) hb)
      have n13_ := Aside0.mk (blk_below (bk_ BK405) hb)
      have n14_ := Aside0.mk (blk_below (bk_ BK433) hb)
      have n15_ := Aside0.mk (blk_below (bk_ BK442) hb)
      have n16_ := Aside0.mk (below_step bl_ hb)
      clear HO410
      clear HO415
      clear HO418
      clear HO423
      clear HO427
      clear HO432
      clear HO436
      clear HO441
      clear HO446
      clear HO451
      clear BK404
      clear BK405
      clear BK433
      clear BK442
      clear HB
      have HO410 := n0_
      have HO415 := n1_
      have HO418 := n2_
      have HO423 := n3_
      have HO427 := n4_
      have HO432 := n5_
      have HO436 := n6_
      have HO441 := n7_
      have HO446 := n8_
      have HO451 := n9_
      have HO455 := n10_
      have HO460 := n11_
      have BK404 := n12_
      have BK405 := n13_
      have BK433 := n14_
      have BK442 := n15_
      have HB := n16_
      clear n0_ n1_ n2_ n3_ n4_ n5_ n6_ n7_ n8_ n9_ n10_ n11_ n12_ n13_ n14_ n15_ n16_
      (try clear hb)
      (try clear hb2)
      (try clear hk)
      (try clear hi)
      (try clear ho0)
      (try clear ho1)
      obtain ⟨Ao73, co73, eo73⟩ := Kd.R_slice HO455.out
      (first | subst eo73 | (injection eo73 with f1_ f2_ f3_; have f4_ := f1_.symm; have f5_ := f3_.symm; clear f1_ f2_ f3_; subst f4_; subst f5_))
      obtain ⟨Ao74, co74, eo74⟩ := Kd.S_slice HO460.out
      (first | subst eo74 | (injection eo74 with f1_ f2_ f3_; have f4_ := f1_.symm; have f5_ := f3_.symm; clear f1_ f2_ f3_; subst f4_; subst f5_))
      refine hK.out _ _ ⟨cy_ BK442 0, cy_ BK442 1, cy_ BK442 2, cy_ BK442 3, cy_ BK405 0, cy_ BK405 1, cy_ BK405 2, cy_ BK405 3⟩ (fun hHeld => ?_)
      clear hK K
      refine norm_ (a' := ?_) ?_ ?_
      rotate_left
      ·show Act.put _ (some 42) _ = _
       simp only [Act.put, q_]
       rfl
      refine one_ (i := 3) (N := some 43) #[true, true, true, true, false] rfl rfl (by kernel_rfl) (by decide) (fun K hK => ?_)
      refine goes_ Try.func35 (by kernel_rfl) rfl #[.agg #[.slice Ao58 t434.length co58, .int .i64 t437, .int .i64 t438, .slice Ao63 t439.length co63], .agg #[.slice Ao73 t453.length co73, .int .i64 t456, .int .i64 t457, .slice Ao74 t458.length co74]] (by rfl) rfl rfl gl_ ?_
      with_reducible refine (laws_eqWorld.calls k _ _ t434 t437 t438 _ _ t439 _ _ t453 t456 t457 _ _ t458 true _ ?side1 ?side2 ?side3 ?side4 ?side5 ?side6 ?side7 ?side8 A30.out).mono ?_
      (case side1 => exact ca_ ((Kd.R_reads' HO436.out).2.2))
      (case side2 => exact (Kd.R_reads' HO436.out).2.1)
      (case side3 => exact ca_ ((Kd.S_reads' HO441.out).2.2))
      (case side4 => exact (Kd.S_reads' HO441.out).2.1)
      (case side5 => exact ca_ ((Kd.R_reads' HO455.out).2.2))
      (case side6 => exact (Kd.R_reads' HO455.out).2.1)
      (case side7 => exact ca_ ((Kd.S_reads' HO460.out).2.2))
      (case side8 => exact (Kd.S_reads' HO460.out).2.1)
      rintro e w75 ⟨rfl, hb⟩
      refine ⟨_, rfl, ?_⟩
      have n0_ := Aside0.mk (Kd.R_below (ra_ HO410) hb)
      have n1_ := Aside0.mk (Kd.S_below (by (with_reducible repeat (first | apply Kd.S_alloc | apply Kd.S_drewN | apply Kd.S_drew)); exact HO415.out) hb)
      have n2_ := Aside0.mk (Kd.R_below (ra_ HO418) hb)
      have n3_ := Aside0.mk (Kd.S_below (by (with_reducible repeat (first | apply Kd.S_alloc | apply Kd.S_drewN | apply Kd.S_drew)); exact HO423.out) hb)
      have n4_ := Aside0.mk (Kd.R_below (ra_ HO427) hb)
      have n5_ := Aside0.mk (Kd.S_below (by (with_reducible repeat (first | apply Kd.S_alloc | apply Kd.S_drewN | apply Kd.S_drew)); exact HO432.out) hb)
      have n6_ := Aside0.mk (Kd.R_below (ra_ HO436) hb)
      have n7_ := Aside0.mk (Kd.S_below (by (with_reducible repeat (first | apply Kd.S_alloc | apply Kd.S_drewN | apply Kd.S_drew)); exact HO441.out) hb)
      have n8_ := Aside0.mk (Kd.R_below (ra_ HO446) hb)
      have n9_ := Aside0.mk (Kd.S_below (by (with_reducible repeat (first | apply Kd.S_alloc | apply Kd.S_drewN | apply Kd.S_drew)); exact HO451.out) hb)
      have n10_ := Aside0.mk (Kd.R_below (ra_ HO455) hb)
      have n11_ := Aside0.mk (Kd.S_below (by (with_reducible repeat (first | apply Kd.S_alloc | apply Kd.S_drewN | apply Kd.S_drew)); exact HO460.out) hb)
      have n12_ := Aside0.mk (blk_below (bk_ BK404) hb)
      have n13_ := Aside0.mk (blk_below (bk_ BK405) hb)
      have n14_ := Aside0.mk (blk_below (bk_ BK433) hb)
      have n15_ := Aside0.mk (blk_below (bk_ BK442) hb)
      have n16_ := Aside0.mk (below_step bl_ hb)
      clear HO410
      clear HO415
      clear HO418
      clear HO423
      clear HO427
      clear HO432
      clear HO436
      clear HO441
      clear HO446
      clear HO451
      clear HO455
      clear HO460
      clear BK404
      clear BK405
      clear BK433
      clear BK442
      clear HB
      have HO410 := n0_
      have HO415 := n1_
      have HO418 := n2_
      have HO423 := n3_
      have HO427 := n4_
      have HO432 := n5_
      have HO436 := n6_
      have HO441 := n7_
      have HO446 := n8_
      have HO451 := n9_
      have HO455 := n10_
      have HO460 := n11_
      have BK404 := n12_
      have BK405 := n13_
      have BK433 := n14_
      have BK442 := n15_
      have HB := n16_
      clear n0_ n1_ n2_ n3_ n4_ n5_ n6_ n7_ n8_ n9_ n10_ n11_ n12_ n13_ n14_ n15_ n16_
      (try clear hb)
      (try clear hb2)
      (try clear hk)
      (try clear hi)
      refine hK.out _ _ ⟨cy_ BK442 0, cy_ BK442 1, cy_ BK442 2, cy_ BK442 3, cy_ BK405 0, cy_ BK405 1, cy_ BK405 2, cy_ BK405 3⟩ (fun hHeld => ?_)
      clear hK K
      refine norm_ (a' := ?_) ?_ ?_
      rotate_left
      ·show Act.put _ (some 43) _ = _
       simp only [Act.put, q_]
       rfl
      refine pure_ (i := 4) (N := some 44) (v := ?_) (a' := ?_) #[true, true, true, true, true] rfl rfl (by kernel_rfl) (fun _ _ _ h => h) (Or.inl ⟨by rfl, ?_⟩) ?_ ?_
      rotate_left
      ·intro w'
       go_simp
       with_reducible rfl
      rotate_left
      ·simp only [Act.put, q_]
       rfl
      refine done_ (by kernel_rfl) ?_
      try go_wp2
      go_ret
      exact ⟨sq_, bl_⟩
     ·replace c31 := Bool.eq_false_iff.mpr c31
      subst c31
      replace H := in_ H
      exact absurd H (by simp)
    ·replace c28 := Bool.eq_false_iff.mpr c28
     subst c28
     replace H := in_ H
     exact absurd H (by simp)
def ok89 (x : S89) : Prop := (x.f0.size ≤ maxLen) ∧ ((Lit.int .i64 x.f1).wf = true) ∧ ((Lit.int .i64 x.f2).wf = true)
def ok34 (x : S34) : Prop := ((Lit.int .i64 x.f0).wf = true) ∧ ((Lit.int .i64 x.f1).wf = true) ∧ (x.f2.length ≤ maxLen ∧ ∀ y0 ∈ x.f2, (Lit.int .i64 y0).wf = true) ∧ (x.f3.length ≤ maxLen ∧ ∀ y0 ∈ x.f3, (Lit.int .i64 y0).wf = true)
def ok70 (x : S70) : Prop := (x.f0.size ≤ maxLen) ∧ (x.f1.size ≤ maxLen) ∧ (x.f2.length ≤ maxLen ∧ ∀ y0 ∈ x.f2, (Lit.int .u8 y0).wf = true)
def ok37 (x : S37) : Prop := (x.f0.size ≤ maxLen) ∧ ((Lit.int .i64 x.f1).wf = true) ∧ ((Lit.int .i64 x.f2).wf = true) ∧ ((Lit.int .i64 x.f3).wf = true) ∧ ((Lit.int .i64 x.f4).wf = true) ∧ (x.f5.length ≤ maxLen ∧ ∀ y0 ∈ x.f5, ok89 y0) ∧ (ok34 x.f6) ∧ (x.f7.length ≤ maxLen ∧ ∀ y0 ∈ x.f7, ok70 y0)
def ok162 (x : S162) : Prop := ((Lit.int .i64 x.f0).wf = true) ∧ (x.f1.length ≤ maxLen ∧ ∀ y0 ∈ x.f1, ok37 y0)
def ok164 (x : S164) : Prop := (x.f0.length ≤ maxLen ∧ ∀ y0 ∈ x.f0, (Lit.int .u8 y0).wf = true) ∧ ((Lit.int .i64 x.f1).wf = true) ∧ (x.f2.length ≤ maxLen ∧ ∀ y0 ∈ x.f2, (Lit.int .i64 y0).wf = true) ∧ ((Lit.int .i64 x.f3).wf = true) ∧ ((Lit.int .i64 x.f4).wf = true) ∧ ((Lit.int .i64 x.f5).wf = true) ∧ ((Lit.int .i64 x.f6).wf = true) ∧ ((Lit.int .i64 x.f7).wf = true) ∧ (x.f8.length ≤ maxLen ∧ ∀ y0 ∈ x.f8, (Lit.int .u8 y0).wf = true)
def ok50 (x : S50) : Prop := (x.f0.length ≤ maxLen ∧ ∀ y0 ∈ x.f0, ok162 y0) ∧ ((Lit.int .i64 x.f1).wf = true) ∧ ((Lit.int .i64 x.f2).wf = true) ∧ (x.f3.length ≤ maxLen ∧ ∀ y0 ∈ x.f3, ok164 y0)
/-- THE ONE PURE STATEMENT of laws_FnExactWorldSame. -/
def laws_FnExactWorldSame.Pure : Prop := ∀ (s0 : S50) (s1 : S50), (ok50 s0) → (ok50 s1) → ∃ k, laws_FnExactWorldSame.f k s0.f0 s0.f1 s0.f2 s0.f3 s1.f0 s1.f1 s1.f2 s1.f3 = some true
end Go.Proofs.Ytepjnalkpfnmcaa.QFnExactWorldSame
