-- by my own printer (myprint.py, over the kit's print.py)
import Derived.Test.YtepjnalkpfnmcaaQFnExactWorldSamex0
import Derived.Test.YtepjnalkpfnmcaaQFnExactWorldSamex1
import Derived.Test.YtepjnalkpfnmcaaQFnExactWorldSamex4
import Derived.Test.YtepjnalkpfnmcaaQFnExactWorldSamex5
namespace Go.Proofs.Ytepjnalkpfnmcaa.QFnExactWorldSame
open Go.RowKit Go.Proofs.YtepjnalkpfnmcaaW.PrintWords Go.Proofs.YtepjnalkpfnmcaaW.PrintLast Go.Proofs.YtepjnalkpfnmcaaW.PrintMore
attribute [local go_sem] max2_int min2_int max_two min_two max_three min_three max_four min_four   -- for this text's walks alone
set_option linter.unusedVariables false
set_option linter.unusedSimpArgs false
attribute [local go_sem] my_geq my_leq my_gtr
attribute [local go_sem high] eqA93
/-! ### spec_AcctSame: function 150 -/
mutual
def spec_AcctSame.j0 : Nat → Bool → ByteArray → Int → Int → Int → Int → List (S93) → Int → Int → List Int → List Int → List (S74) → ByteArray → Int → Int → Int → Int → List (S93) → Int → Int → List Int → List Int → List (S74) → Option (Bool)
 | 0, _, _, _, _, _, _, _, _, _, _, _, _, _, _, _, _, _, _, _, _, _, _, _ => none
 | k + 1, x48, x142000, x142001, x142002, x142003, x142004, x142005, x142006, x142007, x142008, x142009, x142010, x143000, x143001, x143002, x143003, x143004, x143005, x143006, x143007, x143008, x143009, x143010 => if x48 = true then (some false) else (spec_AcctSame.l0 k x142005 (x142005.length : Int) 0 x142000 x142001 x142002 x142003 x142004 x142005 x142006 x142007 x142008 x142009 x142010 x143000 x143001 x143002 x143003 x143004 x143005 x143006 x143007 x143008 x143009 x143010)
def spec_AcctSame.l0 : Nat → List (S93) → Int → Int → ByteArray → Int → Int → Int → Int → List (S93) → Int → Int → List Int → List Int → List (S74) → ByteArray → Int → Int → Int → Int → List (S93) → Int → Int → List Int → List Int → List (S74) → Option (Bool)
 | 0, _, _, _, _, _, _, _, _, _, _, _, _, _, _, _, _, _, _, _, _, _, _, _, _, _ => none
 | k + 1, x50, x51, x52, x142000, x142001, x142002, x142003, x142004, x142005, x142006, x142007, x142008, x142009, x142010, x143000, x143001, x143002, x143003, x143004, x143005, x143006, x143007, x143008, x143009, x143010 => if x52 < x51 then (if 0 ≤ x52 then (if x52 < (x50.length : Int) then (if x52 < (x143005.length : Int) then (if (!((((rd_T93 x50 x52).f0).toList) == (((rd_T93 x143005 x52).f0).toList)) || (!(((rd_T93 x50 x52).f1) == ((rd_T93 x143005 x52).f1)) || (!(((rd_T93 x50 x52).f2) == ((rd_T93 x143005 x52).f2))))) = true then (some false) else (spec_AcctSame.l0 k x50 x51 (wrap64 (x52 + 1)) x142000 x142001 x142002 x142003 x142004 x142005 x142006 x142007 x142008 x142009 x142010 x143000 x143001 x143002 x143003 x143004 x143005 x143006 x143007 x143008 x143009 x143010)) else (none)) else (none)) else (none)) else ((spec_l06Same.f k x142006 x142007 x142008 x142009 x143006 x143007 x143008 x143009).bind fun t146 => (if t146 = true then ((spec_SlotsSame.f k x142010 x143010).bind fun t147 => (some t147)) else (some false)))
end
def spec_AcctSame.f (k : Nat) (a0_0 : ByteArray) (a0_1 : Int) (a0_2 : Int) (a0_3 : Int) (a0_4 : Int) (l0_5 : List (S93)) (a0_6 : Int) (a0_7 : Int) (l0_8 : List Int) (l0_9 : List Int) (l0_10 : List (S74)) (a1_0 : ByteArray) (a1_1 : Int) (a1_2 : Int) (a1_3 : Int) (a1_4 : Int) (l1_5 : List (S93)) (a1_6 : Int) (a1_7 : Int) (l1_8 : List Int) (l1_9 : List Int) (l1_10 : List (S74)) : Option (Bool) := if a0_0.toList = a1_0.toList then (if a0_1 = a1_1 then (if a0_2 = a1_2 then (if a0_3 = a1_3 then (if a0_4 = a1_4 then (spec_AcctSame.j0 k ((l0_5.length : Int) != (l1_5.length : Int)) a0_0 a0_1 a0_2 a0_3 a0_4 l0_5 a0_6 a0_7 l0_8 l0_9 l0_10 a1_0 a1_1 a1_2 a1_3 a1_4 l1_5 a1_6 a1_7 l1_8 l1_9 l1_10) else (spec_AcctSame.j0 k true a0_0 a0_1 a0_2 a0_3 a0_4 l0_5 a0_6 a0_7 l0_8 l0_9 l0_10 a1_0 a1_1 a1_2 a1_3 a1_4 l1_5 a1_6 a1_7 l1_8 l1_9 l1_10)) else (spec_AcctSame.j0 k true a0_0 a0_1 a0_2 a0_3 a0_4 l0_5 a0_6 a0_7 l0_8 l0_9 l0_10 a1_0 a1_1 a1_2 a1_3 a1_4 l1_5 a1_6 a1_7 l1_8 l1_9 l1_10)) else (spec_AcctSame.j0 k true a0_0 a0_1 a0_2 a0_3 a0_4 l0_5 a0_6 a0_7 l0_8 l0_9 l0_10 a1_0 a1_1 a1_2 a1_3 a1_4 l1_5 a1_6 a1_7 l1_8 l1_9 l1_10)) else (spec_AcctSame.j0 k true a0_0 a0_1 a0_2 a0_3 a0_4 l0_5 a0_6 a0_7 l0_8 l0_9 l0_10 a1_0 a1_1 a1_2 a1_3 a1_4 l1_5 a1_6 a1_7 l1_8 l1_9 l1_10)) else (spec_AcctSame.j0 k true a0_0 a0_1 a0_2 a0_3 a0_4 l0_5 a0_6 a0_7 l0_8 l0_9 l0_10 a1_0 a1_1 a1_2 a1_3 a1_4 l1_5 a1_6 a1_7 l1_8 l1_9 l1_10)
set_option maxHeartbeats 8000000 in
set_option maxRecDepth 100000 in
theorem spec_AcctSame.calls (k : Nat) (a0_0 : ByteArray) (a0_1 : Int) (a0_2 : Int) (a0_3 : Int) (a0_4 : Int) (A0_5 : Option Addr) (c0_5 : Nat) (l0_5 : List (S93)) (a0_6 : Int) (a0_7 : Int) (A0_8 : Option Addr) (c0_8 : Nat) (l0_8 : List Int) (A0_9 : Option Addr) (c0_9 : Nat) (l0_9 : List Int) (A0_10 : Option Addr) (c0_10 : Nat) (l0_10 : List (S74)) (a1_0 : ByteArray) (a1_1 : Int) (a1_2 : Int) (a1_3 : Int) (a1_4 : Int) (A1_5 : Option Addr) (c1_5 : Nat) (l1_5 : List (S93)) (a1_6 : Int) (a1_7 : Int) (A1_8 : Option Addr) (c1_8 : Nat) (l1_8 : List Int) (A1_9 : Option Addr) (c1_9 : Nat) (l1_9 : List Int) (A1_10 : Option Addr) (c1_10 : Nat) (l1_10 : List (S74)) (r : Bool) (w : World) (hr0_5 : Kd.C k93 w A0_5 l0_5.length l0_5) (hc0_5 : l0_5.length ≤ c0_5) (hr0_8 : Kd.C (Kd.int .i64) w A0_8 l0_8.length l0_8) (hc0_8 : l0_8.length ≤ c0_8) (hr0_9 : Kd.C (Kd.int .i64) w A0_9 l0_9.length l0_9) (hc0_9 : l0_9.length ≤ c0_9) (hr0_10 : Kd.C k74 w A0_10 l0_10.length l0_10) (hc0_10 : l0_10.length ≤ c0_10) (hr1_5 : Kd.C k93 w A1_5 l1_5.length l1_5) (hc1_5 : l1_5.length ≤ c1_5) (hr1_8 : Kd.C (Kd.int .i64) w A1_8 l1_8.length l1_8) (hc1_8 : l1_8.length ≤ c1_8) (hr1_9 : Kd.C (Kd.int .i64) w A1_9 l1_9.length l1_9) (hc1_9 : l1_9.length ≤ c1_9) (hr1_10 : Kd.C k74 w A1_10 l1_10.length l1_10) (hc1_10 : l1_10.length ≤ c1_10) (h : spec_AcctSame.f k a0_0 a0_1 a0_2 a0_3 a0_4 l0_5 a0_6 a0_7 l0_8 l0_9 l0_10 a1_0 a1_1 a1_2 a1_3 a1_4 l1_5 a1_6 a1_7 l1_8 l1_9 l1_10 = some r) :
  Calls Try.prog 150 #[.agg #[.string a0_0, .int .i64 a0_1, .int .i64 a0_2, .int .i64 a0_3, .int .i64 a0_4, .slice A0_5 l0_5.length c0_5, .int .i64 a0_6, .int .i64 a0_7, .slice A0_8 l0_8.length c0_8, .slice A0_9 l0_9.length c0_9, .slice A0_10 l0_10.length c0_10], .agg #[.string a1_0, .int .i64 a1_1, .int .i64 a1_2, .int .i64 a1_3, .int .i64 a1_4, .slice A1_5 l1_5.length c1_5, .int .i64 a1_6, .int .i64 a1_7, .slice A1_8 l1_8.length c1_8, .slice A1_9 l1_9.length c1_9, .slice A1_10 l1_10.length c1_10]] w fun e w' => e = .returned (.bool r) ∧ Below w.heap.size w w' := by
 have hu43 := Try.underlying43
 have hu93 := Try.underlying93
 have hu40 := Try.underlying40
 have HR0_5 := Aside0.mk hr0_5
 have HC0_5 := Aside0.mk hc0_5
 clear hr0_5 hc0_5
 have HR0_8 := Aside0.mk hr0_8
 have HC0_8 := Aside0.mk hc0_8
 clear hr0_8 hc0_8
 have HR0_9 := Aside0.mk hr0_9
 have HC0_9 := Aside0.mk hc0_9
 clear hr0_9 hc0_9
 have HR0_10 := Aside0.mk hr0_10
 have HC0_10 := Aside0.mk hc0_10
 clear hr0_10 hc0_10
 have HR1_5 := Aside0.mk hr1_5
 have HC1_5 := Aside0.mk hc1_5
 clear hr1_5 hc1_5
 have HR1_8 := Aside0.mk hr1_8
 have HC1_8 := Aside0.mk hc1_8
 clear hr1_8 hc1_8
 have HR1_9 := Aside0.mk hr1_9
 have HC1_9 := Aside0.mk hc1_9
 clear hr1_9 hc1_9
 have HR1_10 := Aside0.mk hr1_10
 have HC1_10 := Aside0.mk hc1_10
 clear hr1_10 hc1_10
 have HB := Aside0.mk (Below.refl w.heap.size w)
 have H : (if a0_0.toList = a1_0.toList then (if a0_1 = a1_1 then (if a0_2 = a1_2 then (if a0_3 = a1_3 then (if a0_4 = a1_4 then (spec_AcctSame.j0 k ((l0_5.length : Int) != (l1_5.length : Int)) a0_0 a0_1 a0_2 a0_3 a0_4 l0_5 a0_6 a0_7 l0_8 l0_9 l0_10 a1_0 a1_1 a1_2 a1_3 a1_4 l1_5 a1_6 a1_7 l1_8 l1_9 l1_10) else (spec_AcctSame.j0 k true a0_0 a0_1 a0_2 a0_3 a0_4 l0_5 a0_6 a0_7 l0_8 l0_9 l0_10 a1_0 a1_1 a1_2 a1_3 a1_4 l1_5 a1_6 a1_7 l1_8 l1_9 l1_10)) else (spec_AcctSame.j0 k true a0_0 a0_1 a0_2 a0_3 a0_4 l0_5 a0_6 a0_7 l0_8 l0_9 l0_10 a1_0 a1_1 a1_2 a1_3 a1_4 l1_5 a1_6 a1_7 l1_8 l1_9 l1_10)) else (spec_AcctSame.j0 k true a0_0 a0_1 a0_2 a0_3 a0_4 l0_5 a0_6 a0_7 l0_8 l0_9 l0_10 a1_0 a1_1 a1_2 a1_3 a1_4 l1_5 a1_6 a1_7 l1_8 l1_9 l1_10)) else (spec_AcctSame.j0 k true a0_0 a0_1 a0_2 a0_3 a0_4 l0_5 a0_6 a0_7 l0_8 l0_9 l0_10 a1_0 a1_1 a1_2 a1_3 a1_4 l1_5 a1_6 a1_7 l1_8 l1_9 l1_10)) else (spec_AcctSame.j0 k true a0_0 a0_1 a0_2 a0_3 a0_4 l0_5 a0_6 a0_7 l0_8 l0_9 l0_10 a1_0 a1_1 a1_2 a1_3 a1_4 l1_5 a1_6 a1_7 l1_8 l1_9 l1_10)) = some r := h
 clear h
 have HC3 := Aside0.mk H
 clear H
 go_enter Try.func150, Try.ntmps150
 go_upto_region 1 with (first | ((with_reducible refine gate_dst (N := 2) rfl ?_); (try (refine gate_guard (by rfl) ?_; dsimp only)); refine be_ (N := 2) (cs := #[.string a0_0, .int .i64 a0_1, .int .i64 a0_2, .int .i64 a0_3, .int .i64 a0_4, .slice A0_5 l0_5.length c0_5, .int .i64 a0_6, .int .i64 a0_7, .slice A0_8 l0_8.length c0_8, .slice A0_9 l0_9.length c0_9, .slice A0_10 l0_10.length c0_10]) (t := 43) ?_; intro gb141 hg w4 hbox hb; have BK141 := Aside0.mk (hbox); have GW141 := gw_ (w := w) hg; have GE141 := gw_ (w := w) hg; replace HB := Aside0.mk (below_step bl_ hb); clear hb hbox hg) | ((with_reducible refine gate_dst (N := 3) rfl ?_); (try (refine gate_guard (by rfl) ?_; dsimp only)); refine be_ (N := 3) (cs := #[.string a1_0, .int .i64 a1_1, .int .i64 a1_2, .int .i64 a1_3, .int .i64 a1_4, .slice A1_5 l1_5.length c1_5, .int .i64 a1_6, .int .i64 a1_7, .slice A1_8 l1_8.length c1_8, .slice A1_9 l1_9.length c1_9, .slice A1_10 l1_10.length c1_10]) (t := 43) ?_; intro gb142 hg w5 hbox hb; have BK142 := Aside0.mk (hbox); have GW142 := gw_ (w := w) hg; have GE142 := gw_ (w := w) hg; replace HB := Aside0.mk (below_step bl_ hb); have NB141_142 := Aside0.mk ((by rw [hg]; exact Nat.ne_of_lt (blk_lt (bk_ BK141)) : gb141 ≠ gb142)); have NB142_141 := Aside0.mk ((by rw [hg]; exact Nat.ne_of_gt (blk_lt (bk_ BK141)) : gb142 ≠ gb141)); replace BK141 := Aside0.mk (blk_below (bk_ BK141) hb); clear hb hbox hg))
 repeat (go_quiet (first | ((with_reducible refine gate_dst (N := 2) rfl ?_); (try (refine gate_guard (by rfl) ?_; dsimp only)); refine be_ (N := 2) (cs := #[.string a0_0, .int .i64 a0_1, .int .i64 a0_2, .int .i64 a0_3, .int .i64 a0_4, .slice A0_5 l0_5.length c0_5, .int .i64 a0_6, .int .i64 a0_7, .slice A0_8 l0_8.length c0_8, .slice A0_9 l0_9.length c0_9, .slice A0_10 l0_10.length c0_10]) (t := 43) ?_; intro gb141 hg w4 hbox hb; have BK141 := Aside0.mk (hbox); have GW141 := gw_ (w := w) hg; have GE141 := gw_ (w := w) hg; replace HB := Aside0.mk (below_step bl_ hb); clear hb hbox hg) | ((with_reducible refine gate_dst (N := 3) rfl ?_); (try (refine gate_guard (by rfl) ?_; dsimp only)); refine be_ (N := 3) (cs := #[.string a1_0, .int .i64 a1_1, .int .i64 a1_2, .int .i64 a1_3, .int .i64 a1_4, .slice A1_5 l1_5.length c1_5, .int .i64 a1_6, .int .i64 a1_7, .slice A1_8 l1_8.length c1_8, .slice A1_9 l1_9.length c1_9, .slice A1_10 l1_10.length c1_10]) (t := 43) ?_; intro gb142 hg w5 hbox hb; have BK142 := Aside0.mk (hbox); have GW142 := gw_ (w := w) hg; have GE142 := gw_ (w := w) hg; replace HB := Aside0.mk (below_step bl_ hb); have NB141_142 := Aside0.mk ((by rw [hg]; exact Nat.ne_of_lt (blk_lt (bk_ BK141)) : gb141 ≠ gb142)); have NB142_141 := Aside0.mk ((by rw [hg]; exact Nat.ne_of_gt (blk_lt (bk_ BK141)) : gb142 ≠ gb141)); replace BK141 := Aside0.mk (blk_below (bk_ BK141) hb); clear hb hbox hg)); go_upto_region 1 with (first | ((with_reducible refine gate_dst (N := 2) rfl ?_); (try (refine gate_guard (by rfl) ?_; dsimp only)); refine be_ (N := 2) (cs := #[.string a0_0, .int .i64 a0_1, .int .i64 a0_2, .int .i64 a0_3, .int .i64 a0_4, .slice A0_5 l0_5.length c0_5, .int .i64 a0_6, .int .i64 a0_7, .slice A0_8 l0_8.length c0_8, .slice A0_9 l0_9.length c0_9, .slice A0_10 l0_10.length c0_10]) (t := 43) ?_; intro gb141 hg w4 hbox hb; have BK141 := Aside0.mk (hbox); have GW141 := gw_ (w := w) hg; have GE141 := gw_ (w := w) hg; replace HB := Aside0.mk (below_step bl_ hb); clear hb hbox hg) | ((with_reducible refine gate_dst (N := 3) rfl ?_); (try (refine gate_guard (by rfl) ?_; dsimp only)); refine be_ (N := 3) (cs := #[.string a1_0, .int .i64 a1_1, .int .i64 a1_2, .int .i64 a1_3, .int .i64 a1_4, .slice A1_5 l1_5.length c1_5, .int .i64 a1_6, .int .i64 a1_7, .slice A1_8 l1_8.length c1_8, .slice A1_9 l1_9.length c1_9, .slice A1_10 l1_10.length c1_10]) (t := 43) ?_; intro gb142 hg w5 hbox hb; have BK142 := Aside0.mk (hbox); have GW142 := gw_ (w := w) hg; have GE142 := gw_ (w := w) hg; replace HB := Aside0.mk (below_step bl_ hb); have NB141_142 := Aside0.mk ((by rw [hg]; exact Nat.ne_of_lt (blk_lt (bk_ BK141)) : gb141 ≠ gb142)); have NB142_141 := Aside0.mk ((by rw [hg]; exact Nat.ne_of_gt (blk_lt (bk_ BK141)) : gb142 ≠ gb141)); replace BK141 := Aside0.mk (blk_below (bk_ BK141) hb); clear hb hbox hg)))
 (try simp only [Act.put, List.setIfInBounds_toArray, List.set_cons_zero, List.set_cons_succ])
 go_cut [48] (fun v48 wc => ∃ (kq : Nat) (x48_2 : Bool), v48 = .bool x48_2 ∧ Aside0 (spec_AcctSame.j0 kq x48_2 a0_0 a0_1 a0_2 a0_3 a0_4 l0_5 a0_6 a0_7 l0_8 l0_9 l0_10 a1_0 a1_1 a1_2 a1_3 a1_4 l1_5 a1_6 a1_7 l1_8 l1_9 l1_10 = some r) ∧ Aside0 (kq ≤ k) ∧ Aside0 (wc.heap[gb141]? = some (.cells #[.string a0_0, .int .i64 a0_1, .int .i64 a0_2, .int .i64 a0_3, .int .i64 a0_4, (.slice A0_5 l0_5.length c0_5), .int .i64 a0_6, .int .i64 a0_7, (.slice A0_8 l0_8.length c0_8), (.slice A0_9 l0_9.length c0_9), (.slice A0_10 l0_10.length c0_10)] 43 (0, 0))) ∧ Aside0 (wc.heap[gb142]? = some (.cells #[.string a1_0, .int .i64 a1_1, .int .i64 a1_2, .int .i64 a1_3, .int .i64 a1_4, (.slice A1_5 l1_5.length c1_5), .int .i64 a1_6, .int .i64 a1_7, (.slice A1_8 l1_8.length c1_8), (.slice A1_9 l1_9.length c1_9), (.slice A1_10 l1_10.length c1_10)] 43 (0, 0))) ∧ Aside0 (Below w.heap.size w wc))
 case first =>
  have H := HC3.out
  clear HC3
  by_cases c6 : a0_0.toList = a1_0.toList
  ·rw [if_pos c6] at H
   have c6b0 : (a0_0.toList == a1_0.toList) = true := beq_iff_eq.mpr c6
   have c6b1 : (a0_0.toList != a1_0.toList) = false := bne_eq_false_iff_eq.mpr c6
   clear c6
   (first | rw [c6b0] | (simp only [i64_w, i32_w]; rw [c6b0]) | skip)
   by_cases c7 : a0_1 = a1_1
   ·rw [if_pos c7] at H
    have c7b0 : (a0_1 == a1_1) = true := beq_iff_eq.mpr c7
    have c7b1 : (a0_1 != a1_1) = false := bne_eq_false_iff_eq.mpr c7
    clear c7
    by_cases c8 : a0_2 = a1_2
    ·rw [if_pos c8] at H
     have c8b0 : (a0_2 == a1_2) = true := beq_iff_eq.mpr c8
     have c8b1 : (a0_2 != a1_2) = false := bne_eq_false_iff_eq.mpr c8
     clear c8
     by_cases c9 : a0_3 = a1_3
     ·rw [if_pos c9] at H
      have c9b0 : (a0_3 == a1_3) = true := beq_iff_eq.mpr c9
      have c9b1 : (a0_3 != a1_3) = false := bne_eq_false_iff_eq.mpr c9
      clear c9
      by_cases c10 : a0_4 = a1_4
      ·rw [if_pos c10] at H
       have c10b0 : (a0_4 == a1_4) = true := beq_iff_eq.mpr c10
       have c10b1 : (a0_4 != a1_4) = false := bne_eq_false_iff_eq.mpr c10
       clear c10
       have H' := Aside0.mk H
       clear H
       have hnb11 := NB141_142.out
       have hnc11 := NB142_141.out
       have hcz12_0 := cz_ BK141 0 (.string a0_0)
       have hcz12_1 := cz_ BK141 1 (.int .i64 a0_1)
       have hcz12_2 := cz_ BK141 2 (.int .i64 a0_2)
       have hcz12_3 := cz_ BK141 3 (.int .i64 a0_3)
       have hcz12_4 := cz_ BK141 4 (.int .i64 a0_4)
       have hcz12_5 := cz_ BK141 5 (.slice A0_5 l0_5.length c0_5)
       have hcz12_6 := cz_ BK141 6 (.int .i64 a0_6)
       have hcz12_7 := cz_ BK141 7 (.int .i64 a0_7)
       have hcz12_8 := cz_ BK141 8 (.slice A0_8 l0_8.length c0_8)
       have hcz12_9 := cz_ BK141 9 (.slice A0_9 l0_9.length c0_9)
       have hcz12_10 := cz_ BK141 10 (.slice A0_10 l0_10.length c0_10)
       have hfz12_0 := fz_ BK141 0
       have hfz12_1 := fz_ BK141 1
       have hfz12_2 := fz_ BK141 2
       have hfz12_3 := fz_ BK141 3
       have hfz12_4 := fz_ BK141 4
       have hfz12_5 := fz_ BK141 5
       have hfz12_6 := fz_ BK141 6
       have hfz12_7 := fz_ BK141 7
       have hfz12_8 := fz_ BK141 8
       have hfz12_9 := fz_ BK141 9
       have hfz12_10 := fz_ BK141 10
       have hcz13_0 := cz_ BK142 0 (.string a1_0)
       have hcz13_1 := cz_ BK142 1 (.int .i64 a1_1)
       have hcz13_2 := cz_ BK142 2 (.int .i64 a1_2)
       have hcz13_3 := cz_ BK142 3 (.int .i64 a1_3)
       have hcz13_4 := cz_ BK142 4 (.int .i64 a1_4)
       have hcz13_5 := cz_ BK142 5 (.slice A1_5 l1_5.length c1_5)
       have hcz13_6 := cz_ BK142 6 (.int .i64 a1_6)
       have hcz13_7 := cz_ BK142 7 (.int .i64 a1_7)
       have hcz13_8 := cz_ BK142 8 (.slice A1_8 l1_8.length c1_8)
       have hcz13_9 := cz_ BK142 9 (.slice A1_9 l1_9.length c1_9)
       have hcz13_10 := cz_ BK142 10 (.slice A1_10 l1_10.length c1_10)
       have hfz13_0 := fz_ BK142 0
       have hfz13_1 := fz_ BK142 1
       have hfz13_2 := fz_ BK142 2
       have hfz13_3 := fz_ BK142 3
       have hfz13_4 := fz_ BK142 4
       have hfz13_5 := fz_ BK142 5
       have hfz13_6 := fz_ BK142 6
       have hfz13_7 := fz_ BK142 7
       have hfz13_8 := fz_ BK142 8
       have hfz13_9 := fz_ BK142 9
       have hfz13_10 := fz_ BK142 10
       go_wp2
       repeat (go_quiet (fail); try go_wp2)
       go_meet
       case rel => exact ⟨_, (((l0_5.length : Int) != (l1_5.length : Int))), sp_, H', ⟨by first | omega | exact Nat.le_refl _⟩, ⟨by (with_reducible repeat (first | refine blk_drewN ?_ _ | refine blk_drew ?_ | refine blk_alloc ?_ _)); exact BK141.out⟩, ⟨by (with_reducible repeat (first | refine blk_drewN ?_ _ | refine blk_drew ?_ | refine blk_alloc ?_ _)); exact BK142.out⟩, ⟨bl_⟩⟩
      ·rw [if_neg c10] at H
       have c10b0 : (a0_4 == a1_4) = false := beq_eq_false_iff_ne.mpr c10
       have c10b1 : (a0_4 != a1_4) = true := bne_iff_ne.mpr c10
       have H' := Aside0.mk H
       clear H
       have hnb14 := NB141_142.out
       have hnc14 := NB142_141.out
       have hcz15_0 := cz_ BK141 0 (.string a0_0)
       have hcz15_1 := cz_ BK141 1 (.int .i64 a0_1)
       have hcz15_2 := cz_ BK141 2 (.int .i64 a0_2)
       have hcz15_3 := cz_ BK141 3 (.int .i64 a0_3)
       have hcz15_4 := cz_ BK141 4 (.int .i64 a0_4)
       have hcz15_5 := cz_ BK141 5 (.slice A0_5 l0_5.length c0_5)
       have hcz15_6 := cz_ BK141 6 (.int .i64 a0_6)
       have hcz15_7 := cz_ BK141 7 (.int .i64 a0_7)
       have hcz15_8 := cz_ BK141 8 (.slice A0_8 l0_8.length c0_8)
       have hcz15_9 := cz_ BK141 9 (.slice A0_9 l0_9.length c0_9)
       have hcz15_10 := cz_ BK141 10 (.slice A0_10 l0_10.length c0_10)
       have hfz15_0 := fz_ BK141 0
       have hfz15_1 := fz_ BK141 1
       have hfz15_2 := fz_ BK141 2
       have hfz15_3 := fz_ BK141 3
       have hfz15_4 := fz_ BK141 4
       have hfz15_5 := fz_ BK141 5
       have hfz15_6 := fz_ BK141 6
       have hfz15_7 := fz_ BK141 7
       have hfz15_8 := fz_ BK141 8
       have hfz15_9 := fz_ BK141 9
       have hfz15_10 := fz_ BK141 10
       have hcz16_0 := cz_ BK142 0 (.string a1_0)
       have hcz16_1 := cz_ BK142 1 (.int .i64 a1_1)
       have hcz16_2 := cz_ BK142 2 (.int .i64 a1_2)
       have hcz16_3 := cz_ BK142 3 (.int .i64 a1_3)
       have hcz16_4 := cz_ BK142 4 (.int .i64 a1_4)
       have hcz16_5 := cz_ BK142 5 (.slice A1_5 l1_5.length c1_5)
       have hcz16_6 := cz_ BK142 6 (.int .i64 a1_6)
       have hcz16_7 := cz_ BK142 7 (.int .i64 a1_7)
       have hcz16_8 := cz_ BK142 8 (.slice A1_8 l1_8.length c1_8)
       have hcz16_9 := cz_ BK142 9 (.slice A1_9 l1_9.length c1_9)
       have hcz16_10 := cz_ BK142 10 (.slice A1_10 l1_10.length c1_10)
       have hfz16_0 := fz_ BK142 0
       have hfz16_1 := fz_ BK142 1
       have hfz16_2 := fz_ BK142 2
       have hfz16_3 := fz_ BK142 3
       have hfz16_4 := fz_ BK142 4
       have hfz16_5 := fz_ BK142 5
       have hfz16_6 := fz_ BK142 6
       have hfz16_7 := fz_ BK142 7
       have hfz16_8 := fz_ BK142 8
       have hfz16_9 := fz_ BK142 9
       have hfz16_10 := fz_ BK142 10
       go_wp2
       repeat (go_quiet (fail); try go_wp2)
       go_meet
       case rel => exact ⟨_, (true), sp_, H', ⟨by first | omega | exact Nat.le_refl _⟩, ⟨by (with_reducible repeat (first | refine blk_drewN ?_ _ | refine blk_drew ?_ | refine blk_alloc ?_ _)); exact BK141.out⟩, ⟨by (with_reducible repeat (first | refine blk_drewN ?_ _ | refine blk_drew ?_ | refine blk_alloc ?_ _)); exact BK142.out⟩, ⟨bl_⟩⟩
     ·rw [if_neg c9] at H
      have c9b0 : (a0_3 == a1_3) = false := beq_eq_false_iff_ne.mpr c9
      have c9b1 : (a0_3 != a1_3) = true := bne_iff_ne.mpr c9
      have H' := Aside0.mk H
      clear H
      have hnb17 := NB141_142.out
      have hnc17 := NB142_141.out
      have hcz18_0 := cz_ BK141 0 (.string a0_0)
      have hcz18_1 := cz_ BK141 1 (.int .i64 a0_1)
      have hcz18_2 := cz_ BK141 2 (.int .i64 a0_2)
      have hcz18_3 := cz_ BK141 3 (.int .i64 a0_3)
      have hcz18_4 := cz_ BK141 4 (.int .i64 a0_4)
      have hcz18_5 := cz_ BK141 5 (.slice A0_5 l0_5.length c0_5)
      have hcz18_6 := cz_ BK141 6 (.int .i64 a0_6)
      have hcz18_7 := cz_ BK141 7 (.int .i64 a0_7)
      have hcz18_8 := cz_ BK141 8 (.slice A0_8 l0_8.length c0_8)
      have hcz18_9 := cz_ BK141 9 (.slice A0_9 l0_9.length c0_9)
      have hcz18_10 := cz_ BK141 10 (.slice A0_10 l0_10.length c0_10)
      have hfz18_0 := fz_ BK141 0
      have hfz18_1 := fz_ BK141 1
      have hfz18_2 := fz_ BK141 2
      have hfz18_3 := fz_ BK141 3
      have hfz18_4 := fz_ BK141 4
      have hfz18_5 := fz_ BK141 5
      have hfz18_6 := fz_ BK141 6
      have hfz18_7 := fz_ BK141 7
      have hfz18_8 := fz_ BK141 8
      have hfz18_9 := fz_ BK141 9
      have hfz18_10 := fz_ BK141 10
      have hcz19_0 := cz_ BK142 0 (.string a1_0)
      have hcz19_1 := cz_ BK142 1 (.int .i64 a1_1)
      have hcz19_2 := cz_ BK142 2 (.int .i64 a1_2)
      have hcz19_3 := cz_ BK142 3 (.int .i64 a1_3)
      have hcz19_4 := cz_ BK142 4 (.int .i64 a1_4)
      have hcz19_5 := cz_ BK142 5 (.slice A1_5 l1_5.length c1_5)
      have hcz19_6 := cz_ BK142 6 (.int .i64 a1_6)
      have hcz19_7 := cz_ BK142 7 (.int .i64 a1_7)
      have hcz19_8 := cz_ BK142 8 (.slice A1_8 l1_8.length c1_8)
      have hcz19_9 := cz_ BK142 9 (.slice A1_9 l1_9.length c1_9)
      have hcz19_10 := cz_ BK142 10 (.slice A1_10 l1_10.length c1_10)
      have hfz19_0 := fz_ BK142 0
      have hfz19_1 := fz_ BK142 1
      have hfz19_2 := fz_ BK142 2
      have hfz19_3 := fz_ BK142 3
      have hfz19_4 := fz_ BK142 4
      have hfz19_5 := fz_ BK142 5
      have hfz19_6 := fz_ BK142 6
      have hfz19_7 := fz_ BK142 7
      have hfz19_8 := fz_ BK142 8
      have hfz19_9 := fz_ BK142 9
      have hfz19_10 := fz_ BK142 10
      go_wp2
      repeat (go_quiet (fail); try go_wp2)
      go_meet
      case rel => exact ⟨_, (true), sp_, H', ⟨by first | omega | exact Nat.le_refl _⟩, ⟨by (with_reducible repeat (first | refine blk_drewN ?_ _ | refine blk_drew ?_ | refine blk_alloc ?_ _)); exact BK141.out⟩, ⟨by (with_reducible repeat (first | refine blk_drewN ?_ _ | refine blk_drew ?_ | refine blk_alloc ?_ _)); exact BK142.out⟩, ⟨bl_⟩⟩
    ·rw [if_neg c8] at H
     have c8b0 : (a0_2 == a1_2) = false := beq_eq_false_iff_ne.mpr c8
     have c8b1 : (a0_2 != a1_2) = true := bne_iff_ne.mpr c8
     have H' := Aside0.mk H
     clear H
     have hnb20 := NB141_142.out
     have hnc20 := NB142_141.out
     have hcz21_0 := cz_ BK141 0 (.string a0_0)
     have hcz21_1 := cz_ BK141 1 (.int .i64 a0_1)
     have hcz21_2 := cz_ BK141 2 (.int .i64 a0_2)
     have hcz21_3 := cz_ BK141 3 (.int .i64 a0_3)
     have hcz21_4 := cz_ BK141 4 (.int .i64 a0_4)
     have hcz21_5 := cz_ BK141 5 (.slice A0_5 l0_5.length c0_5)
     have hcz21_6 := cz_ BK141 6 (.int .i64 a0_6)
     have hcz21_7 := cz_ BK141 7 (.int .i64 a0_7)
     have hcz21_8 := cz_ BK141 8 (.slice A0_8 l0_8.length c0_8)
     have hcz21_9 := cz_ BK141 9 (.slice A0_9 l0_9.length c0_9)
     have hcz21_10 := cz_ BK141 10 (.slice A0_10 l0_10.length c0_10)
     have hfz21_0 := fz_ BK141 0
     have hfz21_1 := fz_ BK141 1
     have hfz21_2 := fz_ BK141 2
     have hfz21_3 := fz_ BK141 3
     have hfz21_4 := fz_ BK141 4
     have hfz21_5 := fz_ BK141 5
     have hfz21_6 := fz_ BK141 6
     have hfz21_7 := fz_ BK141 7
     have hfz21_8 := fz_ BK141 8
     have hfz21_9 := fz_ BK141 9
     have hfz21_10 := fz_ BK141 10
     have hcz22_0 := cz_ BK142 0 (.string a1_0)
     have hcz22_1 := cz_ BK142 1 (.int .i64 a1_1)
     have hcz22_2 := cz_ BK142 2 (.int .i64 a1_2)
     have hcz22_3 := cz_ BK142 3 (.int .i64 a1_3)
     have hcz22_4 := cz_ BK142 4 (.int .i64 a1_4)
     have hcz22_5 := cz_ BK142 5 (.slice A1_5 l1_5.length c1_5)
     have hcz22_6 := cz_ BK142 6 (.int .i64 a1_6)
     have hcz22_7 := cz_ BK142 7 (.int .i64 a1_7)
     have hcz22_8 := cz_ BK142 8 (.slice A1_8 l1_8.length c1_8)
     have hcz22_9 := cz_ BK142 9 (.slice A1_9 l1_9.length c1_9)
     have hcz22_10 := cz_ BK142 10 (.slice A1_10 l1_10.length c1_10)
     have hfz22_0 := fz_ BK142 0
     have hfz22_1 := fz_ BK142 1
     have hfz22_2 := fz_ BK142 2
     have hfz22_3 := fz_ BK142 3
     have hfz22_4 := fz_ BK142 4
     have hfz22_5 := fz_ BK142 5
     have hfz22_6 := fz_ BK142 6
     have hfz22_7 := fz_ BK142 7
     have hfz22_8 := fz_ BK142 8
     have hfz22_9 := fz_ BK142 9
     have hfz22_10 := fz_ BK142 10
     go_wp2
     repeat (go_quiet (fail); try go_wp2)
     go_meet
     case rel => exact ⟨_, (true), sp_, H', ⟨by first | omega | exact Nat.le_refl _⟩, ⟨by (with_reducible repeat (first | refine blk_drewN ?_ _ | refine blk_drew ?_ | refine blk_alloc ?_ _)); exact BK141.out⟩, ⟨by (with_reducible repeat (first | refine blk_drewN ?_ _ | refine blk_drew ?_ | refine blk_alloc ?_ _)); exact BK142.out⟩, ⟨bl_⟩⟩
   ·rw [if_neg c7] at H
    have c7b0 : (a0_1 == a1_1) = false := beq_eq_false_iff_ne.mpr c7
    have c7b1 : (a0_1 != a1_1) = true := bne_iff_ne.mpr c7
    have H' := Aside0.mk H
    clear H
    have hnb23 := NB141_142.out
    have hnc23 := NB142_141.out
    have hcz24_0 := cz_ BK141 0 (.string a0_0)
    have hcz24_1 := cz_ BK141 1 (.int .i64 a0_1)
    have hcz24_2 := cz_ BK141 2 (.int .i64 a0_2)
    have hcz24_3 := cz_ BK141 3 (.int .i64 a0_3)
    have hcz24_4 := cz_ BK141 4 (.int .i64 a0_4)
    have hcz24_5 := cz_ BK141 5 (.slice A0_5 l0_5.length c0_5)
    have hcz24_6 := cz_ BK141 6 (.int .i64 a0_6)
    have hcz24_7 := cz_ BK141 7 (.int .i64 a0_7)
    have hcz24_8 := cz_ BK141 8 (.slice A0_8 l0_8.length c0_8)
    have hcz24_9 := cz_ BK141 9 (.slice A0_9 l0_9.length c0_9)
    have hcz24_10 := cz_ BK141 10 (.slice A0_10 l0_10.length c0_10)
    have hfz24_0 := fz_ BK141 0
    have hfz24_1 := fz_ BK141 1
    have hfz24_2 := fz_ BK141 2
    have hfz24_3 := fz_ BK141 3
    have hfz24_4 := fz_ BK141 4
    have hfz24_5 := fz_ BK141 5
    have hfz24_6 := fz_ BK141 6
    have hfz24_7 := fz_ BK141 7
    have hfz24_8 := fz_ BK141 8
    have hfz24_9 := fz_ BK141 9
    have hfz24_10 := fz_ BK141 10
    have hcz25_0 := cz_ BK142 0 (.string a1_0)
    have hcz25_1 := cz_ BK142 1 (.int .i64 a1_1)
    have hcz25_2 := cz_ BK142 2 (.int .i64 a1_2)
    have hcz25_3 := cz_ BK142 3 (.int .i64 a1_3)
    have hcz25_4 := cz_ BK142 4 (.int .i64 a1_4)
    have hcz25_5 := cz_ BK142 5 (.slice A1_5 l1_5.length c1_5)
    have hcz25_6 := cz_ BK142 6 (.int .i64 a1_6)
    have hcz25_7 := cz_ BK142 7 (.int .i64 a1_7)
    have hcz25_8 := cz_ BK142 8 (.slice A1_8 l1_8.length c1_8)
    have hcz25_9 := cz_ BK142 9 (.slice A1_9 l1_9.length c1_9)
    have hcz25_10 := cz_ BK142 10 (.slice A1_10 l1_10.length c1_10)
    have hfz25_0 := fz_ BK142 0
    have hfz25_1 := fz_ BK142 1
    have hfz25_2 := fz_ BK142 2
    have hfz25_3 := fz_ BK142 3
    have hfz25_4 := fz_ BK142 4
    have hfz25_5 := fz_ BK142 5
    have hfz25_6 := fz_ BK142 6
    have hfz25_7 := fz_ BK142 7
    have hfz25_8 := fz_ BK142 8
    have hfz25_9 := fz_ BK142 9
    have hfz25_10 := fz_ BK142 10
    go_wp2
    repeat (go_quiet (fail); try go_wp2)
    go_meet
    case rel => exact ⟨_, (true), sp_, H', ⟨by first | omega | exact Nat.le_refl _⟩, ⟨by (with_reducible repeat (first | refine blk_drewN ?_ _ | refine blk_drew ?_ | refine blk_alloc ?_ _)); exact BK141.out⟩, ⟨by (with_reducible repeat (first | refine blk_drewN ?_ _ | refine blk_drew ?_ | refine blk_alloc ?_ _)); exact BK142.out⟩, ⟨bl_⟩⟩
  ·rw [if_neg c6] at H
   have c6b0 : (a0_0.toList == a1_0.toList) = false := beq_eq_false_iff_ne.mpr c6
   have c6b1 : (a0_0.toList != a1_0.toList) = true := bne_iff_ne.mpr c6
   (first | rw [c6b0] | (simp only [i64_w, i32_w]; rw [c6b0]) | skip)
   have H' := Aside0.mk H
   clear H
   have hnb26 := NB141_142.out
   have hnc26 := NB142_141.out
   have hcz27_0 := cz_ BK141 0 (.string a0_0)
   have hcz27_1 := cz_ BK141 1 (.int .i64 a0_1)
   have hcz27_2 := cz_ BK141 2 (.int .i64 a0_2)
   have hcz27_3 := cz_ BK141 3 (.int .i64 a0_3)
   have hcz27_4 := cz_ BK141 4 (.int .i64 a0_4)
   have hcz27_5 := cz_ BK141 5 (.slice A0_5 l0_5.length c0_5)
   have hcz27_6 := cz_ BK141 6 (.int .i64 a0_6)
   have hcz27_7 := cz_ BK141 7 (.int .i64 a0_7)
   have hcz27_8 := cz_ BK141 8 (.slice A0_8 l0_8.length c0_8)
   have hcz27_9 := cz_ BK141 9 (.slice A0_9 l0_9.length c0_9)
   have hcz27_10 := cz_ BK141 10 (.slice A0_10 l0_10.length c0_10)
   have hfz27_0 := fz_ BK141 0
   have hfz27_1 := fz_ BK141 1
   have hfz27_2 := fz_ BK141 2
   have hfz27_3 := fz_ BK141 3
   have hfz27_4 := fz_ BK141 4
   have hfz27_5 := fz_ BK141 5
   have hfz27_6 := fz_ BK141 6
   have hfz27_7 := fz_ BK141 7
   have hfz27_8 := fz_ BK141 8
   have hfz27_9 := fz_ BK141 9
   have hfz27_10 := fz_ BK141 10
   have hcz28_0 := cz_ BK142 0 (.string a1_0)
   have hcz28_1 := cz_ BK142 1 (.int .i64 a1_1)
   have hcz28_2 := cz_ BK142 2 (.int .i64 a1_2)
   have hcz28_3 := cz_ BK142 3 (.int .i64 a1_3)
   have hcz28_4 := cz_ BK142 4 (.int .i64 a1_4)
   have hcz28_5 := cz_ BK142 5 (.slice A1_5 l1_5.length c1_5)
   have hcz28_6 := cz_ BK142 6 (.int .i64 a1_6)
   have hcz28_7 := cz_ BK142 7 (.int .i64 a1_7)
   have hcz28_8 := cz_ BK142 8 (.slice A1_8 l1_8.length c1_8)
   have hcz28_9 := cz_ BK142 9 (.slice A1_9 l1_9.length c1_9)
   have hcz28_10 := cz_ BK142 10 (.slice A1_10 l1_10.length c1_10)
   have hfz28_0 := fz_ BK142 0
   have hfz28_1 := fz_ BK142 1
   have hfz28_2 := fz_ BK142 2
   have hfz28_3 := fz_ BK142 3
   have hfz28_4 := fz_ BK142 4
   have hfz28_5 := fz_ BK142 5
   have hfz28_6 := fz_ BK142 6
   have hfz28_7 := fz_ BK142 7
   have hfz28_8 := fz_ BK142 8
   have hfz28_9 := fz_ BK142 9
   have hfz28_10 := fz_ BK142 10
   go_wp2
   repeat (go_quiet (fail); try go_wp2)
   go_meet
   case rel => exact ⟨_, (true), sp_, H', ⟨by first | omega | exact Nat.le_refl _⟩, ⟨by (with_reducible repeat (first | refine blk_drewN ?_ _ | refine blk_drew ?_ | refine blk_alloc ?_ _)); exact BK141.out⟩, ⟨by (with_reducible repeat (first | refine blk_drewN ?_ _ | refine blk_drew ?_ | refine blk_alloc ?_ _)); exact BK142.out⟩, ⟨bl_⟩⟩
 case rest =>
  clear HC3
  try clear c1
  try clear c2
  try clear p2
  try clear c6
  try clear c6b0
  try clear c6b1
  try clear c7
  try clear c7b0
  try clear c7b1
  try clear c8
  try clear c8b0
  try clear c8b1
  try clear c9
  try clear c9b0
  try clear c9b1
  try clear c10
  try clear c10b0
  try clear c10b1
  try clear c11
  try clear c14
  try clear c15
  try clear c17
  try clear c20
  try clear c23
  try clear c26
  try clear hcz12_0
  try clear hcz12_1
  try clear hcz12_10
  try clear hcz12_2
  try clear hcz12_3
  try clear hcz12_4
  try clear hcz12_5
  try clear hcz12_6
  try clear hcz12_7
  try clear hcz12_8
  try clear hcz12_9
  try clear hcz13_0
  try clear hcz13_1
  try clear hcz13_10
  try clear hcz13_2
  try clear hcz13_3
  try clear hcz13_4
  try clear hcz13_5
  try clear hcz13_6
  try clear hcz13_7
  try clear hcz13_8
  try clear hcz13_9
  try clear hcz15_0
  try clear hcz15_1
  try clear hcz15_10
  try clear hcz15_2
  try clear hcz15_3
  try clear hcz15_4
  try clear hcz15_5
  try clear hcz15_6
  try clear hcz15_7
  try clear hcz15_8
  try clear hcz15_9
  try clear hcz16_0
  try clear hcz16_1
  try clear hcz16_10
  try clear hcz16_2
  try clear hcz16_3
  try clear hcz16_4
  try clear hcz16_5
  try clear hcz16_6
  try clear hcz16_7
  try clear hcz16_8
  try clear hcz16_9
  try clear hcz18_0
  try clear hcz18_1
  try clear hcz18_10
  try clear hcz18_2
  try clear hcz18_3
  try clear hcz18_4
  try clear hcz18_5
  try clear hcz18_6
  try clear hcz18_7
  try clear hcz18_8
  try clear hcz18_9
  try clear hcz19_0
  try clear hcz19_1
  try clear hcz19_10
  try clear hcz19_2
  try clear hcz19_3
  try clear hcz19_4
  try clear hcz19_5
  try clear hcz19_6
  try clear hcz19_7
  try clear hcz19_8
  try clear hcz19_9
  try clear hcz21_0
  try clear hcz21_1
  try clear hcz21_10
  try clear hcz21_2
  try clear hcz21_3
  try clear hcz21_4
  try clear hcz21_5
  try clear hcz21_6
  try clear hcz21_7
  try clear hcz21_8
  try clear hcz21_9
  try clear hcz22_0
  try clear hcz22_1
  try clear hcz22_10
  try clear hcz22_2
  try clear hcz22_3
  try clear hcz22_4
  try clear hcz22_5
  try clear hcz22_6
  try clear hcz22_7
  try clear hcz22_8
  try clear hcz22_9
  try clear hcz24_0
  try clear hcz24_1
  try clear hcz24_10
  try clear hcz24_2
  try clear hcz24_3
  try clear hcz24_4
  try clear hcz24_5
  try clear hcz24_6
  try clear hcz24_7
  try clear hcz24_8
  try clear hcz24_9
  try clear hcz25_0
  try clear hcz25_1
  try clear hcz25_10
  try clear hcz25_2
  try clear hcz25_3
  try clear hcz25_4
  try clear hcz25_5
  try clear hcz25_6
  try clear hcz25_7
  try clear hcz25_8
  try clear hcz25_9
  try clear hcz27_0
  try clear hcz27_1
  try clear hcz27_10
  try clear hcz27_2
  try clear hcz27_3
  try clear hcz27_4
  try clear hcz27_5
  try clear hcz27_6
  try clear hcz27_7
  try clear hcz27_8
  try clear hcz27_9
  try clear hcz28_0
  try clear hcz28_1
  try clear hcz28_10
  try clear hcz28_2
  try clear hcz28_3
  try clear hcz28_4
  try clear hcz28_5
  try clear hcz28_6
  try clear hcz28_7
  try clear hcz28_8
  try clear hcz28_9
  try clear hfz12_0
  try clear hfz12_1
  try clear hfz12_10
  try clear hfz12_2
  try clear hfz12_3
  try clear hfz12_4
  try clear hfz12_5
  try clear hfz12_6
  try clear hfz12_7
  try clear hfz12_8
  try clear hfz12_9
  try clear hfz13_0
  try clear hfz13_1
  try clear hfz13_10
  try clear hfz13_2
  try clear hfz13_3
  try clear hfz13_4
  try clear hfz13_5
  try clear hfz13_6
  try clear hfz13_7
  try clear hfz13_8
  try clear hfz13_9
  try clear hfz15_0
  try clear hfz15_1
  try clear hfz15_10
  try clear hfz15_2
  try clear hfz15_3
  try clear hfz15_4
  try clear hfz15_5
  try clear hfz15_6
  try clear hfz15_7
  try clear hfz15_8
  try clear hfz15_9
  try clear hfz16_0
  try clear hfz16_1
  try clear hfz16_10
  try clear hfz16_2
  try clear hfz16_3
  try clear hfz16_4
  try clear hfz16_5
  try clear hfz16_6
  try clear hfz16_7
  try clear hfz16_8
  try clear hfz16_9
  try clear hfz18_0
  try clear hfz18_1
  try clear hfz18_10
  try clear hfz18_2
  try clear hfz18_3
  try clear hfz18_4
  try clear hfz18_5
  try clear hfz18_6
  try clear hfz18_7
  try clear hfz18_8
  try clear hfz18_9
  try clear hfz19_0
  try clear hfz19_1
  try clear hfz19_10
  try clear hfz19_2
  try clear hfz19_3
  try clear hfz19_4
  try clear hfz19_5
  try clear hfz19_6
  try clear hfz19_7
  try clear hfz19_8
  try clear hfz19_9
  try clear hfz21_0
  try clear hfz21_1
  try clear hfz21_10
  try clear hfz21_2
  try clear hfz21_3
  try clear hfz21_4
  try clear hfz21_5
  try clear hfz21_6
  try clear hfz21_7
  try clear hfz21_8
  try clear hfz21_9
  try clear hfz22_0
  try clear hfz22_1
  try clear hfz22_10
  try clear hfz22_2
  try clear hfz22_3
  try clear hfz22_4
  try clear hfz22_5
  try clear hfz22_6
  try clear hfz22_7
  try clear hfz22_8
  try clear hfz22_9
  try clear hfz24_0
  try clear hfz24_1
  try clear hfz24_10
  try clear hfz24_2
  try clear hfz24_3
  try clear hfz24_4
  try clear hfz24_5
  try clear hfz24_6
  try clear hfz24_7
  try clear hfz24_8
  try clear hfz24_9
  try clear hfz25_0
  try clear hfz25_1
  try clear hfz25_10
  try clear hfz25_2
  try clear hfz25_3
  try clear hfz25_4
  try clear hfz25_5
  try clear hfz25_6
  try clear hfz25_7
  try clear hfz25_8
  try clear hfz25_9
  try clear hfz27_0
  try clear hfz27_1
  try clear hfz27_10
  try clear hfz27_2
  try clear hfz27_3
  try clear hfz27_4
  try clear hfz27_5
  try clear hfz27_6
  try clear hfz27_7
  try clear hfz27_8
  try clear hfz27_9
  try clear hfz28_0
  try clear hfz28_1
  try clear hfz28_10
  try clear hfz28_2
  try clear hfz28_3
  try clear hfz28_4
  try clear hfz28_5
  try clear hfz28_6
  try clear hfz28_7
  try clear hfz28_8
  try clear hfz28_9
  obtain ⟨kq, x48_2, rfl, HA, HJ2, BK141, BK142, HB⟩ := hcut
  cases kq with
  | zero => exact absurd HA.out (by simp [spec_AcctSame.j0])
  | succ kj2 =>
   have H := HA.out
   clear HA
   simp only [spec_AcctSame.j0] at H
   by_cases c29 : x48_2 = true
   ·subst c29
    replace H := ip_ H
    obtain rfl := Option.some.inj H
    go_wp2
    repeat (go_quiet (fail); try go_wp2)
    go_ret
    exact ⟨sq_, bl_⟩
   ·replace c29 := Bool.eq_false_iff.mpr c29
    subst c29
    replace H := in_ H
    have H' := Aside0.mk H
    clear H
    have hnb30 := NB141_142.out
    have hnc30 := NB142_141.out
    have hcz31_0 := cz_ BK141 0 (.string a0_0)
    have hcz31_1 := cz_ BK141 1 (.int .i64 a0_1)
    have hcz31_2 := cz_ BK141 2 (.int .i64 a0_2)
    have hcz31_3 := cz_ BK141 3 (.int .i64 a0_3)
    have hcz31_4 := cz_ BK141 4 (.int .i64 a0_4)
    have hcz31_5 := cz_ BK141 5 (.slice A0_5 l0_5.length c0_5)
    have hcz31_6 := cz_ BK141 6 (.int .i64 a0_6)
    have hcz31_7 := cz_ BK141 7 (.int .i64 a0_7)
    have hcz31_8 := cz_ BK141 8 (.slice A0_8 l0_8.length c0_8)
    have hcz31_9 := cz_ BK141 9 (.slice A0_9 l0_9.length c0_9)
    have hcz31_10 := cz_ BK141 10 (.slice A0_10 l0_10.length c0_10)
    have hfz31_0 := fz_ BK141 0
    have hfz31_1 := fz_ BK141 1
    have hfz31_2 := fz_ BK141 2
    have hfz31_3 := fz_ BK141 3
    have hfz31_4 := fz_ BK141 4
    have hfz31_5 := fz_ BK141 5
    have hfz31_6 := fz_ BK141 6
    have hfz31_7 := fz_ BK141 7
    have hfz31_8 := fz_ BK141 8
    have hfz31_9 := fz_ BK141 9
    have hfz31_10 := fz_ BK141 10
    go_wp2
    repeat (go_quiet (fail); try go_wp2)
    go_loopg [52] kj2 (fun kq v52 w' => ∃ (x52_2 : Int), v52 = .int .i64 x52_2 ∧ Aside0 (spec_AcctSame.l0 kq l0_5 (l0_5.length : Int) x52_2 a0_0 a0_1 a0_2 a0_3 a0_4 l0_5 a0_6 a0_7 l0_8 l0_9 l0_10 a1_0 a1_1 a1_2 a1_3 a1_4 l1_5 a1_6 a1_7 l1_8 l1_9 l1_10 = some r) ∧ Aside0 (kq ≤ kj2) ∧ Aside0 (w'.heap[gb141]? = some (.cells #[.string a0_0, .int .i64 a0_1, .int .i64 a0_2, .int .i64 a0_3, .int .i64 a0_4, (.slice A0_5 l0_5.length c0_5), .int .i64 a0_6, .int .i64 a0_7, (.slice A0_8 l0_8.length c0_8), (.slice A0_9 l0_9.length c0_9), (.slice A0_10 l0_10.length c0_10)] 43 (0, 0))) ∧ Aside0 (w'.heap[gb142]? = some (.cells #[.string a1_0, .int .i64 a1_1, .int .i64 a1_2, .int .i64 a1_3, .int .i64 a1_4, (.slice A1_5 l1_5.length c1_5), .int .i64 a1_6, .int .i64 a1_7, (.slice A1_8 l1_8.length c1_8), (.slice A1_9 l1_9.length c1_9), (.slice A1_10 l1_10.length c1_10)] 43 (0, 0))) ∧ Aside0 (Below w.heap.size w w'))
    case atStart => exact ⟨(0), sp_, H', ⟨Nat.le_refl _⟩, ⟨by (with_reducible repeat (first | refine blk_drewN ?_ _ | refine blk_drew ?_ | refine blk_alloc ?_ _)); exact BK141.out⟩, ⟨by (with_reducible repeat (first | refine blk_drewN ?_ _ | refine blk_drew ?_ | refine blk_alloc ?_ _)); exact BK142.out⟩, ⟨bl_⟩⟩
    case round =>
     clear H'
     try clear c1
     try clear c2
     try clear p2
     try clear c3
     try clear c6
     try clear c6b0
     try clear c6b1
     try clear c7
     try clear c7b0
     try clear c7b1
     try clear c8
     try clear c8b0
     try clear c8b1
     try clear c9
     try clear c9b0
     try clear c9b1
     try clear c10
     try clear c10b0
     try clear c10b1
     try clear c11
     try clear c14
     try clear c15
     try clear c17
     try clear c20
     try clear c23
     try clear c26
     try clear c29
     try clear c30
     try clear hcz12_0
     try clear hcz12_1
     try clear hcz12_10
     try clear hcz12_2
     try clear hcz12_3
     try clear hcz12_4
     try clear hcz12_5
     try clear hcz12_6
     try clear hcz12_7
     try clear hcz12_8
     try clear hcz12_9
     try clear hcz13_0
     try clear hcz13_1
     try clear hcz13_10
     try clear hcz13_2
     try clear hcz13_3
     try clear hcz13_4
     try clear hcz13_5
     try clear hcz13_6
     try clear hcz13_7
     try clear hcz13_8
     try clear hcz13_9
     try clear hcz15_0
     try clear hcz15_1
     try clear hcz15_10
     try clear hcz15_2
     try clear hcz15_3
     try clear hcz15_4
     try clear hcz15_5
     try clear hcz15_6
     try clear hcz15_7
     try clear hcz15_8
     try clear hcz15_9
     try clear hcz16_0
     try clear hcz16_1
     try clear hcz16_10
     try clear hcz16_2
     try clear hcz16_3
     try clear hcz16_4
     try clear hcz16_5
     try clear hcz16_6
     try clear hcz16_7
     try clear hcz16_8
     try clear hcz16_9
     try clear hcz18_0
     try clear hcz18_1
     try clear hcz18_10
     try clear hcz18_2
     try clear hcz18_3
     try clear hcz18_4
     try clear hcz18_5
     try clear hcz18_6
     try clear hcz18_7
     try clear hcz18_8
     try clear hcz18_9
     try clear hcz19_0
     try clear hcz19_1
     try clear hcz19_10
     try clear hcz19_2
     try clear hcz19_3
     try clear hcz19_4
     try clear hcz19_5
     try clear hcz19_6
     try clear hcz19_7
     try clear hcz19_8
     try clear hcz19_9
     try clear hcz21_0
     try clear hcz21_1
     try clear hcz21_10
     try clear hcz21_2
     try clear hcz21_3
     try clear hcz21_4
     try clear hcz21_5
     try clear hcz21_6
     try clear hcz21_7
     try clear hcz21_8
     try clear hcz21_9
     try clear hcz22_0
     try clear hcz22_1
     try clear hcz22_10
     try clear hcz22_2
     try clear hcz22_3
     try clear hcz22_4
     try clear hcz22_5
     try clear hcz22_6
     try clear hcz22_7
     try clear hcz22_8
     try clear hcz22_9
     try clear hcz24_0
     try clear hcz24_1
     try clear hcz24_10
     try clear hcz24_2
     try clear hcz24_3
     try clear hcz24_4
     try clear hcz24_5
     try clear hcz24_6
     try clear hcz24_7
     try clear hcz24_8
     try clear hcz24_9
     try clear hcz25_0
     try clear hcz25_1
     try clear hcz25_10
     try clear hcz25_2
     try clear hcz25_3
     try clear hcz25_4
     try clear hcz25_5
     try clear hcz25_6
     try clear hcz25_7
     try clear hcz25_8
     try clear hcz25_9
     try clear hcz27_0
     try clear hcz27_1
     try clear hcz27_10
     try clear hcz27_2
     try clear hcz27_3
     try clear hcz27_4
     try clear hcz27_5
     try clear hcz27_6
     try clear hcz27_7
     try clear hcz27_8
     try clear hcz27_9
     try clear hcz28_0
     try clear hcz28_1
     try clear hcz28_10
     try clear hcz28_2
     try clear hcz28_3
     try clear hcz28_4
     try clear hcz28_5
     try clear hcz28_6
     try clear hcz28_7
     try clear hcz28_8
     try clear hcz28_9
     try clear hcz31_0
     try clear hcz31_1
     try clear hcz31_10
     try clear hcz31_2
     try clear hcz31_3
     try clear hcz31_4
     try clear hcz31_5
     try clear hcz31_6
     try clear hcz31_7
     try clear hcz31_8
     try clear hcz31_9
     try clear hfz12_0
     try clear hfz12_1
     try clear hfz12_10
     try clear hfz12_2
     try clear hfz12_3
     try clear hfz12_4
     try clear hfz12_5
     try clear hfz12_6
     try clear hfz12_7
     try clear hfz12_8
     try clear hfz12_9
     try clear hfz13_0
     try clear hfz13_1
     try clear hfz13_10
     try clear hfz13_2
     try clear hfz13_3
     try clear hfz13_4
     try clear hfz13_5
     try clear hfz13_6
     try clear hfz13_7
     try clear hfz13_8
     try clear hfz13_9
     try clear hfz15_0
     try clear hfz15_1
     try clear hfz15_10
     try clear hfz15_2
     try clear hfz15_3
     try clear hfz15_4
     try clear hfz15_5
     try clear hfz15_6
     try clear hfz15_7
     try clear hfz15_8
     try clear hfz15_9
     try clear hfz16_0
     try clear hfz16_1
     try clear hfz16_10
     try clear hfz16_2
     try clear hfz16_3
     try clear hfz16_4
     try clear hfz16_5
     try clear hfz16_6
     try clear hfz16_7
     try clear hfz16_8
     try clear hfz16_9
     try clear hfz18_0
     try clear hfz18_1
     try clear hfz18_10
     try clear hfz18_2
     try clear hfz18_3
     try clear hfz18_4
     try clear hfz18_5
     try clear hfz18_6
     try clear hfz18_7
     try clear hfz18_8
     try clear hfz18_9
     try clear hfz19_0
     try clear hfz19_1
     try clear hfz19_10
     try clear hfz19_2
     try clear hfz19_3
     try clear hfz19_4
     try clear hfz19_5
     try clear hfz19_6
     try clear hfz19_7
     try clear hfz19_8
     try clear hfz19_9
     try clear hfz21_0
     try clear hfz21_1
     try clear hfz21_10
     try clear hfz21_2
     try clear hfz21_3
     try clear hfz21_4
     try clear hfz21_5
     try clear hfz21_6
     try clear hfz21_7
     try clear hfz21_8
     try clear hfz21_9
     try clear hfz22_0
     try clear hfz22_1
     try clear hfz22_10
     try clear hfz22_2
     try clear hfz22_3
     try clear hfz22_4
     try clear hfz22_5
     try clear hfz22_6
     try clear hfz22_7
     try clear hfz22_8
     try clear hfz22_9
     try clear hfz24_0
     try clear hfz24_1
     try clear hfz24_10
     try clear hfz24_2
     try clear hfz24_3
     try clear hfz24_4
     try clear hfz24_5
     try clear hfz24_6
     try clear hfz24_7
     try clear hfz24_8
     try clear hfz24_9
     try clear hfz25_0
     try clear hfz25_1
     try clear hfz25_10
     try clear hfz25_2
     try clear hfz25_3
     try clear hfz25_4
     try clear hfz25_5
     try clear hfz25_6
     try clear hfz25_7
     try clear hfz25_8
     try clear hfz25_9
     try clear hfz27_0
     try clear hfz27_1
     try clear hfz27_10
     try clear hfz27_2
     try clear hfz27_3
     try clear hfz27_4
     try clear hfz27_5
     try clear hfz27_6
     try clear hfz27_7
     try clear hfz27_8
     try clear hfz27_9
     try clear hfz28_0
     try clear hfz28_1
     try clear hfz28_10
     try clear hfz28_2
     try clear hfz28_3
     try clear hfz28_4
     try clear hfz28_5
     try clear hfz28_6
     try clear hfz28_7
     try clear hfz28_8
     try clear hfz28_9
     try clear hfz31_0
     try clear hfz31_1
     try clear hfz31_10
     try clear hfz31_2
     try clear hfz31_3
     try clear hfz31_4
     try clear hfz31_5
     try clear hfz31_6
     try clear hfz31_7
     try clear hfz31_8
     try clear hfz31_9
     try clear p2
     obtain ⟨x52_2, rfl, HA, HK2, BK141, BK142, HB⟩ := hrel
     cases gk with
     | zero => exact absurd HA.out (by simp [spec_AcctSame.l0])
     | succ k2 =>
      have H := HA.out
      clear HA
      simp only [spec_AcctSame.l0] at H
      by_cases c32 : x52_2 < (l0_5.length : Int)
      ·rw [if_pos c32] at H
       have c32b0 : decide (x52_2 < (l0_5.length : Int)) = true := decide_eq_true c32
       clear c32
       by_cases c33 : 0 ≤ x52_2
       ·rw [if_pos c33] at H
        have c33b0 : decide (0 ≤ x52_2) = true := decide_eq_true c33
        clear c33
        by_cases c34 : x52_2 < (l0_5.length : Int)
        ·rw [if_pos c34] at H
         have c34b0 : decide (x52_2 < (l0_5.length : Int)) = true := decide_eq_true c34
         clear c34
         by_cases c35 : x52_2 < (l1_5.length : Int)
         ·rw [if_pos c35] at H
          have c35b0 : decide (x52_2 < (l1_5.length : Int)) = true := decide_eq_true c35
          clear c35
          by_cases c36 : (!((((rd_T93 l0_5 x52_2).f0).toList) == (((rd_T93 l1_5 x52_2).f0).toList)) || (!(((rd_T93 l0_5 x52_2).f1) == ((rd_T93 l1_5 x52_2).f1)) || (!(((rd_T93 l0_5 x52_2).f2) == ((rd_T93 l1_5 x52_2).f2))))) = true
          ·rw [if_pos c36] at H
           have c36b0 : (!((((rd_T93 l0_5 x52_2).f0).toList) == (((rd_T93 l1_5 x52_2).f0).toList)) || (!(((rd_T93 l0_5 x52_2).f1) == ((rd_T93 l1_5 x52_2).f1)) || (!(((rd_T93 l0_5 x52_2).f2) == ((rd_T93 l1_5 x52_2).f2))))) = true := c36
           clear c36
           obtain rfl := Option.some.inj H
           have p143 : 0 ≤ (x52_2 : Int) := od_
           have q143 : x52_2 < (l0_5.length : Int) := od_
           obtain ⟨ad143, e143, hx143_0, hx143_1, hx143_2⟩ := at_T93 HR0_5.out x52_2 p143 q143
           cases e143
           replace hx143_0 := kc_ HB hx143_0
           replace hx143_1 := kc_ HB hx143_1
           replace hx143_2 := kc_ HB hx143_2
           replace p143 := eq_true p143
           replace q143 := eq_true q143
           go_wp2_with (first | ((with_reducible refine gate_dst (N := 6) rfl ?_); (try (refine gate_guard (by rfl) ?_; dsimp only)); refine be_ (N := 6) (cs := #[.string (⟨#[]⟩ : ByteArray), .int .i64 0, .int .i64 0]) (t := 93) ?_; intro gb144 hg w37 hbox hb; have BK144 := Aside0.mk (hbox); have GW144 := gw_ (w := w) hg; have GE144 := gw_ (w := w) hg; replace HB := Aside0.mk (below_step bl_ hb); have NB141_144 := Aside0.mk ((by rw [hg]; exact Nat.ne_of_lt (blk_lt (bk_ BK141)) : gb141 ≠ gb144)); have NB144_141 := Aside0.mk ((by rw [hg]; exact Nat.ne_of_gt (blk_lt (bk_ BK141)) : gb144 ≠ gb141)); replace BK141 := Aside0.mk (blk_below (bk_ BK141) hb); have NB142_144 := Aside0.mk ((by rw [hg]; exact Nat.ne_of_lt (blk_lt (bk_ BK142)) : gb142 ≠ gb144)); have NB144_142 := Aside0.mk ((by rw [hg]; exact Nat.ne_of_gt (blk_lt (bk_ BK142)) : gb144 ≠ gb142)); replace BK142 := Aside0.mk (blk_below (bk_ BK142) hb); clear hb hbox hg; have hnb38 := NB144_141.out; have hnc38 := NB141_144.out; have hnb39 := NB144_142.out; have hnc39 := NB142_144.out; obtain ⟨hcz40_0, hcz40_1, hcz40_2, hfz40_0, hfz40_1, hfz40_2⟩ := bx3_ BK144; have hnb41 := NB142_141.out; have hnc41 := NB141_142.out; obtain ⟨hcz42_0, hcz42_1, hcz42_2, hcz42_3, hcz42_4, hcz42_5, hcz42_6, hcz42_7, hcz42_8, hcz42_9, hcz42_10, hfz42_0, hfz42_1, hfz42_2, hfz42_3, hfz42_4, hfz42_5, hfz42_6, hfz42_7, hfz42_8, hfz42_9, hfz42_10⟩ := bx11_ BK142; have p145 : 0 ≤ (x52_2 : Int) := od_; have q145 : x52_2 < (l1_5.length : Int) := od_; obtain ⟨ad145, e145, hx145_0, hx145_1, hx145_2⟩ := at_T93 HR1_5.out x52_2 p145 q145; cases e145; have hn145_0 : ad145.block ≠ gb144 := nl_ hx145_0 GW144; have hn145_1 : ad145.block ≠ gb144 := nl_ hx145_0 GW144; have hn145_2 : ad145.block ≠ gb144 := nl_ hx145_0 GW144; replace hx145_0 := kc_ HB hx145_0; replace hx145_1 := kc_ HB hx145_1; replace hx145_2 := kc_ HB hx145_2; replace hx145_0 := cf0_1_2_ (fr_ hn145_0) hx145_0; replace hx145_1 := cf0_1_2_ (fr_ hn145_0) hx145_1; replace hx145_2 := cf0_1_2_ (fr_ hn145_0) hx145_2; (try have hy145_0 := gcf0_1_2_ (fr_ hn145_0) hx145_0); (try have hy145_1 := gcf0_1_2_ (fr_ hn145_0) hx145_1); (try have hy145_2 := gcf0_1_2_ (fr_ hn145_0) hx145_2); clear hn145_0; clear hn145_1; clear hn145_2; replace p145 := eq_true p145; replace q145 := eq_true q145))
           repeat (go_quiet (first | ((with_reducible refine gate_dst (N := 6) rfl ?_); (try (refine gate_guard (by rfl) ?_; dsimp only)); refine be_ (N := 6) (cs := #[.string (⟨#[]⟩ : ByteArray), .int .i64 0, .int .i64 0]) (t := 93) ?_; intro gb144 hg w37 hbox hb; have BK144 := Aside0.mk (hbox); have GW144 := gw_ (w := w) hg; have GE144 := gw_ (w := w) hg; replace HB := Aside0.mk (below_step bl_ hb); have NB141_144 := Aside0.mk ((by rw [hg]; exact Nat.ne_of_lt (blk_lt (bk_ BK141)) : gb141 ≠ gb144)); have NB144_141 := Aside0.mk ((by rw [hg]; exact Nat.ne_of_gt (blk_lt (bk_ BK141)) : gb144 ≠ gb141)); replace BK141 := Aside0.mk (blk_below (bk_ BK141) hb); have NB142_144 := Aside0.mk ((by rw [hg]; exact Nat.ne_of_lt (blk_lt (bk_ BK142)) : gb142 ≠ gb144)); have NB144_142 := Aside0.mk ((by rw [hg]; exact Nat.ne_of_gt (blk_lt (bk_ BK142)) : gb144 ≠ gb142)); replace BK142 := Aside0.mk (blk_below (bk_ BK142) hb); clear hb hbox hg; have hnb38 := NB144_141.out; have hnc38 := NB141_144.out; have hnb39 := NB144_142.out; have hnc39 := NB142_144.out; obtain ⟨hcz40_0, hcz40_1, hcz40_2, hfz40_0, hfz40_1, hfz40_2⟩ := bx3_ BK144; have hnb41 := NB142_141.out; have hnc41 := NB141_142.out; obtain ⟨hcz42_0, hcz42_1, hcz42_2, hcz42_3, hcz42_4, hcz42_5, hcz42_6, hcz42_7, hcz42_8, hcz42_9, hcz42_10, hfz42_0, hfz42_1, hfz42_2, hfz42_3, hfz42_4, hfz42_5, hfz42_6, hfz42_7, hfz42_8, hfz42_9, hfz42_10⟩ := bx11_ BK142; have p145 : 0 ≤ (x52_2 : Int) := od_; have q145 : x52_2 < (l1_5.length : Int) := od_; obtain ⟨ad145, e145, hx145_0, hx145_1, hx145_2⟩ := at_T93 HR1_5.out x52_2 p145 q145; cases e145; have hn145_0 : ad145.block ≠ gb144 := nl_ hx145_0 GW144; have hn145_1 : ad145.block ≠ gb144 := nl_ hx145_0 GW144; have hn145_2 : ad145.block ≠ gb144 := nl_ hx145_0 GW144; replace hx145_0 := kc_ HB hx145_0; replace hx145_1 := kc_ HB hx145_1; replace hx145_2 := kc_ HB hx145_2; replace hx145_0 := cf0_1_2_ (fr_ hn145_0) hx145_0; replace hx145_1 := cf0_1_2_ (fr_ hn145_0) hx145_1; replace hx145_2 := cf0_1_2_ (fr_ hn145_0) hx145_2; (try have hy145_0 := gcf0_1_2_ (fr_ hn145_0) hx145_0); (try have hy145_1 := gcf0_1_2_ (fr_ hn145_0) hx145_1); (try have hy145_2 := gcf0_1_2_ (fr_ hn145_0) hx145_2); clear hn145_0; clear hn145_1; clear hn145_2; replace p145 := eq_true p145; replace q145 := eq_true q145)); try go_wp2_with (first | ((with_reducible refine gate_dst (N := 6) rfl ?_); (try (refine gate_guard (by rfl) ?_; dsimp only)); refine be_ (N := 6) (cs := #[.string (⟨#[]⟩ : ByteArray), .int .i64 0, .int .i64 0]) (t := 93) ?_; intro gb144 hg w37 hbox hb; have BK144 := Aside0.mk (hbox); have GW144 := gw_ (w := w) hg; have GE144 := gw_ (w := w) hg; replace HB := Aside0.mk (below_step bl_ hb); have NB141_144 := Aside0.mk ((by rw [hg]; exact Nat.ne_of_lt (blk_lt (bk_ BK141)) : gb141 ≠ gb144)); have NB144_141 := Aside0.mk ((by rw [hg]; exact Nat.ne_of_gt (blk_lt (bk_ BK141)) : gb144 ≠ gb141)); replace BK141 := Aside0.mk (blk_below (bk_ BK141) hb); have NB142_144 := Aside0.mk ((by rw [hg]; exact Nat.ne_of_lt (blk_lt (bk_ BK142)) : gb142 ≠ gb144)); have NB144_142 := Aside0.mk ((by rw [hg]; exact Nat.ne_of_gt (blk_lt (bk_ BK142)) : gb144 ≠ gb142)); replace BK142 := Aside0.mk (blk_below (bk_ BK142) hb); clear hb hbox hg; have hnb38 := NB144_141.out; have hnc38 := NB141_144.out; have hnb39 := NB144_142.out; have hnc39 := NB142_144.out; obtain ⟨hcz40_0, hcz40_1, hcz40_2, hfz40_0, hfz40_1, hfz40_2⟩ := bx3_ BK144; have hnb41 := NB142_141.out; have hnc41 := NB141_142.out; obtain ⟨hcz42_0, hcz42_1, hcz42_2, hcz42_3, hcz42_4, hcz42_5, hcz42_6, hcz42_7, hcz42_8, hcz42_9, hcz42_10, hfz42_0, hfz42_1, hfz42_2, hfz42_3, hfz42_4, hfz42_5, hfz42_6, hfz42_7, hfz42_8, hfz42_9, hfz42_10⟩ := bx11_ BK142; have p145 : 0 ≤ (x52_2 : Int) := od_; have q145 : x52_2 < (l1_5.length : Int) := od_; obtain ⟨ad145, e145, hx145_0, hx145_1, hx145_2⟩ := at_T93 HR1_5.out x52_2 p145 q145; cases e145; have hn145_0 : ad145.block ≠ gb144 := nl_ hx145_0 GW144; have hn145_1 : ad145.block ≠ gb144 := nl_ hx145_0 GW144; have hn145_2 : ad145.block ≠ gb144 := nl_ hx145_0 GW144; replace hx145_0 := kc_ HB hx145_0; replace hx145_1 := kc_ HB hx145_1; replace hx145_2 := kc_ HB hx145_2; replace hx145_0 := cf0_1_2_ (fr_ hn145_0) hx145_0; replace hx145_1 := cf0_1_2_ (fr_ hn145_0) hx145_1; replace hx145_2 := cf0_1_2_ (fr_ hn145_0) hx145_2; (try have hy145_0 := gcf0_1_2_ (fr_ hn145_0) hx145_0); (try have hy145_1 := gcf0_1_2_ (fr_ hn145_0) hx145_1); (try have hy145_2 := gcf0_1_2_ (fr_ hn145_0) hx145_2); clear hn145_0; clear hn145_1; clear hn145_2; replace p145 := eq_true p145; replace q145 := eq_true q145)))
           go_ret
           exact ⟨sq_, bl_⟩
          ·rw [if_neg c36] at H
           have c36b0 : (!((((rd_T93 l0_5 x52_2).f0).toList) == (((rd_T93 l1_5 x52_2).f0).toList)) || (!(((rd_T93 l0_5 x52_2).f1) == ((rd_T93 l1_5 x52_2).f1)) || (!(((rd_T93 l0_5 x52_2).f2) == ((rd_T93 l1_5 x52_2).f2))))) = false := by simpa using c36
           clear c36
           have H' := Aside0.mk H
           clear H
           have p143 : 0 ≤ (x52_2 : Int) := od_
           have q143 : x52_2 < (l0_5.length : Int) := od_
           obtain ⟨ad143, e143, hx143_0, hx143_1, hx143_2⟩ := at_T93 HR0_5.out x52_2 p143 q143
           cases e143
           replace hx143_0 := kc_ HB hx143_0
           replace hx143_1 := kc_ HB hx143_1
           replace hx143_2 := kc_ HB hx143_2
           replace p143 := eq_true p143
           replace q143 := eq_true q143
           go_wp2_with (first | ((with_reducible refine gate_dst (N := 6) rfl ?_); (try (refine gate_guard (by rfl) ?_; dsimp only)); refine be_ (N := 6) (cs := #[.string (⟨#[]⟩ : ByteArray), .int .i64 0, .int .i64 0]) (t := 93) ?_; intro gb144 hg w43 hbox hb; have BK144 := Aside0.mk (hbox); have GW144 := gw_ (w := w) hg; have GE144 := gw_ (w := w) hg; replace HB := Aside0.mk (below_step bl_ hb); have NB141_144 := Aside0.mk ((by rw [hg]; exact Nat.ne_of_lt (blk_lt (bk_ BK141)) : gb141 ≠ gb144)); have NB144_141 := Aside0.mk ((by rw [hg]; exact Nat.ne_of_gt (blk_lt (bk_ BK141)) : gb144 ≠ gb141)); replace BK141 := Aside0.mk (blk_below (bk_ BK141) hb); have NB142_144 := Aside0.mk ((by rw [hg]; exact Nat.ne_of_lt (blk_lt (bk_ BK142)) : gb142 ≠ gb144)); have NB144_142 := Aside0.mk ((by rw [hg]; exact Nat.ne_of_gt (blk_lt (bk_ BK142)) : gb144 ≠ gb142)); replace BK142 := Aside0.mk (blk_below (bk_ BK142) hb); clear hb hbox hg; have hnb44 := NB144_141.out; have hnc44 := NB141_144.out; have hnb45 := NB144_142.out; have hnc45 := NB142_144.out; obtain ⟨hcz46_0, hcz46_1, hcz46_2, hfz46_0, hfz46_1, hfz46_2⟩ := bx3_ BK144; have hnb47 := NB142_141.out; have hnc47 := NB141_142.out; obtain ⟨hcz48_0, hcz48_1, hcz48_2, hcz48_3, hcz48_4, hcz48_5, hcz48_6, hcz48_7, hcz48_8, hcz48_9, hcz48_10, hfz48_0, hfz48_1, hfz48_2, hfz48_3, hfz48_4, hfz48_5, hfz48_6, hfz48_7, hfz48_8, hfz48_9, hfz48_10⟩ := bx11_ BK142; have p145 : 0 ≤ (x52_2 : Int) := od_; have q145 : x52_2 < (l1_5.length : Int) := od_; obtain ⟨ad145, e145, hx145_0, hx145_1, hx145_2⟩ := at_T93 HR1_5.out x52_2 p145 q145; cases e145; have hn145_0 : ad145.block ≠ gb144 := nl_ hx145_0 GW144; have hn145_1 : ad145.block ≠ gb144 := nl_ hx145_0 GW144; have hn145_2 : ad145.block ≠ gb144 := nl_ hx145_0 GW144; replace hx145_0 := kc_ HB hx145_0; replace hx145_1 := kc_ HB hx145_1; replace hx145_2 := kc_ HB hx145_2; replace hx145_0 := cf0_1_2_ (fr_ hn145_0) hx145_0; replace hx145_1 := cf0_1_2_ (fr_ hn145_0) hx145_1; replace hx145_2 := cf0_1_2_ (fr_ hn145_0) hx145_2; (try have hy145_0 := gcf0_1_2_ (fr_ hn145_0) hx145_0); (try have hy145_1 := gcf0_1_2_ (fr_ hn145_0) hx145_1); (try have hy145_2 := gcf0_1_2_ (fr_ hn145_0) hx145_2); clear hn145_0; clear hn145_1; clear hn145_2; replace p145 := eq_true p145; replace q145 := eq_true q145))
           repeat (go_quiet (first | ((with_reducible refine gate_dst (N := 6) rfl ?_); (try (refine gate_guard (by rfl) ?_; dsimp only)); refine be_ (N := 6) (cs := #[.string (⟨#[]⟩ : ByteArray), .int .i64 0, .int .i64 0]) (t := 93) ?_; intro gb144 hg w43 hbox hb; have BK144 := Aside0.mk (hbox); have GW144 := gw_ (w := w) hg; have GE144 := gw_ (w := w) hg; replace HB := Aside0.mk (below_step bl_ hb); have NB141_144 := Aside0.mk ((by rw [hg]; exact Nat.ne_of_lt (blk_lt (bk_ BK141)) : gb141 ≠ gb144)); have NB144_141 := Aside0.mk ((by rw [hg]; exact Nat.ne_of_gt (blk_lt (bk_ BK141)) : gb144 ≠ gb141)); replace BK141 := Aside0.mk (blk_below (bk_ BK141) hb); have NB142_144 := Aside0.mk ((by rw [hg]; exact Nat.ne_of_lt (blk_lt (bk_ BK142)) : gb142 ≠ gb144)); have NB144_142 := Aside0.mk ((by rw [hg]; exact Nat.ne_of_gt (blk_lt (bk_ BK142)) : gb144 ≠ gb142)); replace BK142 := Aside0.mk (blk_below (bk_ BK142) hb); clear hb hbox hg; have hnb44 := NB144_141.out; have hnc44 := NB141_144.out; have hnb45 := NB144_142.out; have hnc45 := NB142_144.out; obtain ⟨hcz46_0, hcz46_1, hcz46_2, hfz46_0, hfz46_1, hfz46_2⟩ := bx3_ BK144; have hnb47 := NB142_141.out; have hnc47 := NB141_142.out; obtain ⟨hcz48_0, hcz48_1, hcz48_2, hcz48_3, hcz48_4, hcz48_5, hcz48_6, hcz48_7, hcz48_8, hcz48_9, hcz48_10, hfz48_0, hfz48_1, hfz48_2, hfz48_3, hfz48_4, hfz48_5, hfz48_6, hfz48_7, hfz48_8, hfz48_9, hfz48_10⟩ := bx11_ BK142; have p145 : 0 ≤ (x52_2 : Int) := od_; have q145 : x52_2 < (l1_5.length : Int) := od_; obtain ⟨ad145, e145, hx145_0, hx145_1, hx145_2⟩ := at_T93 HR1_5.out x52_2 p145 q145; cases e145; have hn145_0 : ad145.block ≠ gb144 := nl_ hx145_0 GW144; have hn145_1 : ad145.block ≠ gb144 := nl_ hx145_0 GW144; have hn145_2 : ad145.block ≠ gb144 := nl_ hx145_0 GW144; replace hx145_0 := kc_ HB hx145_0; replace hx145_1 := kc_ HB hx145_1; replace hx145_2 := kc_ HB hx145_2; replace hx145_0 := cf0_1_2_ (fr_ hn145_0) hx145_0; replace hx145_1 := cf0_1_2_ (fr_ hn145_0) hx145_1; replace hx145_2 := cf0_1_2_ (fr_ hn145_0) hx145_2; (try have hy145_0 := gcf0_1_2_ (fr_ hn145_0) hx145_0); (try have hy145_1 := gcf0_1_2_ (fr_ hn145_0) hx145_1); (try have hy145_2 := gcf0_1_2_ (fr_ hn145_0) hx145_2); clear hn145_0; clear hn145_1; clear hn145_2; replace p145 := eq_true p145; replace q145 := eq_true q145)); try go_wp2_with (first | ((with_reducible refine gate_dst (N := 6) rfl ?_); (try (refine gate_guard (by rfl) ?_; dsimp only)); refine be_ (N := 6) (cs := #[.string (⟨#[]⟩ : ByteArray), .int .i64 0, .int .i64 0]) (t := 93) ?_; intro gb144 hg w43 hbox hb; have BK144 := Aside0.mk (hbox); have GW144 := gw_ (w := w) hg; have GE144 := gw_ (w := w) hg; replace HB := Aside0.mk (below_step bl_ hb); have NB141_144 := Aside0.mk ((by rw [hg]; exact Nat.ne_of_lt (blk_lt (bk_ BK141)) : gb141 ≠ gb144)); have NB144_141 := Aside0.mk ((by rw [hg]; exact Nat.ne_of_gt (blk_lt (bk_ BK141)) : gb144 ≠ gb141)); replace BK141 := Aside0.mk (blk_below (bk_ BK141) hb); have NB142_144 := Aside0.mk ((by rw [hg]; exact Nat.ne_of_lt (blk_lt (bk_ BK142)) : gb142 ≠ gb144)); have NB144_142 := Aside0.mk ((by rw [hg]; exact Nat.ne_of_gt (blk_lt (bk_ BK142)) : gb144 ≠ gb142)); replace BK142 := Aside0.mk (blk_below (bk_ BK142) hb); clear hb hbox hg; have hnb44 := NB144_141.out; have hnc44 := NB141_144.out; have hnb45 := NB144_142.out; have hnc45 := NB142_144.out; obtain ⟨hcz46_0, hcz46_1, hcz46_2, hfz46_0, hfz46_1, hfz46_2⟩ := bx3_ BK144; have hnb47 := NB142_141.out; have hnc47 := NB141_142.out; obtain ⟨hcz48_0, hcz48_1, hcz48_2, hcz48_3, hcz48_4, hcz48_5, hcz48_6, hcz48_7, hcz48_8, hcz48_9, hcz48_10, hfz48_0, hfz48_1, hfz48_2, hfz48_3, hfz48_4, hfz48_5, hfz48_6, hfz48_7, hfz48_8, hfz48_9, hfz48_10⟩ := bx11_ BK142; have p145 : 0 ≤ (x52_2 : Int) := od_; have q145 : x52_2 < (l1_5.length : Int) := od_; obtain ⟨ad145, e145, hx145_0, hx145_1, hx145_2⟩ := at_T93 HR1_5.out x52_2 p145 q145; cases e145; have hn145_0 : ad145.block ≠ gb144 := nl_ hx145_0 GW144; have hn145_1 : ad145.block ≠ gb144 := nl_ hx145_0 GW144; have hn145_2 : ad145.block ≠ gb144 := nl_ hx145_0 GW144; replace hx145_0 := kc_ HB hx145_0; replace hx145_1 := kc_ HB hx145_1; replace hx145_2 := kc_ HB hx145_2; replace hx145_0 := cf0_1_2_ (fr_ hn145_0) hx145_0; replace hx145_1 := cf0_1_2_ (fr_ hn145_0) hx145_1; replace hx145_2 := cf0_1_2_ (fr_ hn145_0) hx145_2; (try have hy145_0 := gcf0_1_2_ (fr_ hn145_0) hx145_0); (try have hy145_1 := gcf0_1_2_ (fr_ hn145_0) hx145_1); (try have hy145_2 := gcf0_1_2_ (fr_ hn145_0) hx145_2); clear hn145_0; clear hn145_1; clear hn145_2; replace p145 := eq_true p145; replace q145 := eq_true q145)))
           go_roundg k2
           case measure => have := HJ2.out; have := HK2.out; omega
           case rel => exact ⟨(wrap64 (x52_2 + 1)), sp_, H', ⟨by have := HJ2.out; have := HK2.out; omega⟩, ⟨by (with_reducible repeat (first | refine blk_drewN ?_ _ | refine blk_drew ?_ | refine blk_alloc ?_ _)); refine blk_far ?_ NB141_144.out _; (with_reducible repeat (first | refine blk_drewN ?_ _ | refine blk_drew ?_ | refine blk_alloc ?_ _)); refine blk_far ?_ NB141_144.out _; (with_reducible repeat (first | refine blk_drewN ?_ _ | refine blk_drew ?_ | refine blk_alloc ?_ _)); refine blk_far ?_ NB141_144.out _; (with_reducible repeat (first | refine blk_drewN ?_ _ | refine blk_drew ?_ | refine blk_alloc ?_ _)); exact BK141.out⟩, ⟨by (with_reducible repeat (first | refine blk_drewN ?_ _ | refine blk_drew ?_ | refine blk_alloc ?_ _)); refine blk_far ?_ NB142_144.out _; (with_reducible repeat (first | refine blk_drewN ?_ _ | refine blk_drew ?_ | refine blk_alloc ?_ _)); refine blk_far ?_ NB142_144.out _; (with_reducible repeat (first | refine blk_drewN ?_ _ | refine blk_drew ?_ | refine blk_alloc ?_ _)); refine blk_far ?_ NB142_144.out _; (with_reducible repeat (first | refine blk_drewN ?_ _ | refine blk_drew ?_ | refine blk_alloc ?_ _)); exact BK142.out⟩, ⟨bl_⟩⟩
         ·rw [if_neg c35] at H
          exact absurd H (by simp)
        ·rw [if_neg c34] at H
         exact absurd H (by simp)
       ·rw [if_neg c33] at H
        exact absurd H (by simp)
      ·rw [if_neg c32] at H
       have c32b0 : decide (x52_2 < (l0_5.length : Int)) = false := decide_eq_false c32
       clear c32
       obtain ⟨t146, A49, H⟩ := ob_ H
       by_cases c50 : t146 = true
       ·subst c50
        replace H := ip_ H
        obtain ⟨t147, A51, H⟩ := ob_ H
        obtain rfl := Option.some.inj H
        have hnb52 := NB141_142.out
        have hnc52 := NB142_141.out
        have hcz53_0 := cz_ BK141 0 (.string a0_0)
        have hcz53_1 := cz_ BK141 1 (.int .i64 a0_1)
        have hcz53_2 := cz_ BK141 2 (.int .i64 a0_2)
        have hcz53_3 := cz_ BK141 3 (.int .i64 a0_3)
        have hcz53_4 := cz_ BK141 4 (.int .i64 a0_4)
        have hcz53_5 := cz_ BK141 5 (.slice A0_5 l0_5.length c0_5)
        have hcz53_6 := cz_ BK141 6 (.int .i64 a0_6)
        have hcz53_7 := cz_ BK141 7 (.int .i64 a0_7)
        have hcz53_8 := cz_ BK141 8 (.slice A0_8 l0_8.length c0_8)
        have hcz53_9 := cz_ BK141 9 (.slice A0_9 l0_9.length c0_9)
        have hcz53_10 := cz_ BK141 10 (.slice A0_10 l0_10.length c0_10)
        have hfz53_0 := fz_ BK141 0
        have hfz53_1 := fz_ BK141 1
        have hfz53_2 := fz_ BK141 2
        have hfz53_3 := fz_ BK141 3
        have hfz53_4 := fz_ BK141 4
        have hfz53_5 := fz_ BK141 5
        have hfz53_6 := fz_ BK141 6
        have hfz53_7 := fz_ BK141 7
        have hfz53_8 := fz_ BK141 8
        have hfz53_9 := fz_ BK141 9
        have hfz53_10 := fz_ BK141 10
        have hcz54_0 := cz_ BK142 0 (.string a1_0)
        have hcz54_1 := cz_ BK142 1 (.int .i64 a1_1)
        have hcz54_2 := cz_ BK142 2 (.int .i64 a1_2)
        have hcz54_3 := cz_ BK142 3 (.int .i64 a1_3)
        have hcz54_4 := cz_ BK142 4 (.int .i64 a1_4)
        have hcz54_5 := cz_ BK142 5 (.slice A1_5 l1_5.length c1_5)
        have hcz54_6 := cz_ BK142 6 (.int .i64 a1_6)
        have hcz54_7 := cz_ BK142 7 (.int .i64 a1_7)
        have hcz54_8 := cz_ BK142 8 (.slice A1_8 l1_8.length c1_8)
        have hcz54_9 := cz_ BK142 9 (.slice A1_9 l1_9.length c1_9)
        have hcz54_10 := cz_ BK142 10 (.slice A1_10 l1_10.length c1_10)
        have hfz54_0 := fz_ BK142 0
        have hfz54_1 := fz_ BK142 1
        have hfz54_2 := fz_ BK142 2
        have hfz54_3 := fz_ BK142 3
        have hfz54_4 := fz_ BK142 4
        have hfz54_5 := fz_ BK142 5
        have hfz54_6 := fz_ BK142 6
        have hfz54_7 := fz_ BK142 7
        have hfz54_8 := fz_ BK142 8
        have hfz54_9 := fz_ BK142 9
        have hfz54_10 := fz_ BK142 10
        go_wp2_with (first | (go_at_call 182; (with_reducible refine (spec_l06Same.calls k2 a0_6 a0_7 _ _ l0_8 _ _ l0_9 a1_6 a1_7 _ _ l1_8 _ _ l1_9 true _ ?side1 ?side2 ?side3 ?side4 ?side5 ?side6 ?side7 ?side8 A49.out).mono ?_); (case side1 => exact ca_ (Kd.C_below HR0_8.out HB.out)); (case side2 => exact HC0_8.out); (case side3 => exact ca_ (Kd.C_below HR0_9.out HB.out)); (case side4 => exact HC0_9.out); (case side5 => exact ca_ (Kd.C_below HR1_8.out HB.out)); (case side6 => exact HC1_8.out); (case side7 => exact ca_ (Kd.C_below HR1_9.out HB.out)); (case side8 => exact HC1_9.out); rintro e w55 ⟨rfl, hb⟩; replace BK141 := Aside0.mk (blk_below (bk_ BK141) hb); replace BK142 := Aside0.mk (blk_below (bk_ BK142) hb); replace HB := Aside0.mk (below_step bl_ hb); (try clear hb); (try clear hb2); (try clear hk); (try clear hi); obtain ⟨hcz56_0, hcz56_1, hcz56_2, hcz56_3, hcz56_4, hcz56_5, hcz56_6, hcz56_7, hcz56_8, hcz56_9, hcz56_10, hfz56_0, hfz56_1, hfz56_2, hfz56_3, hfz56_4, hfz56_5, hfz56_6, hfz56_7, hfz56_8, hfz56_9, hfz56_10⟩ := bx11_ BK141; obtain ⟨hcz57_0, hcz57_1, hcz57_2, hcz57_3, hcz57_4, hcz57_5, hcz57_6, hcz57_7, hcz57_8, hcz57_9, hcz57_10, hfz57_0, hfz57_1, hfz57_2, hfz57_3, hfz57_4, hfz57_5, hfz57_6, hfz57_7, hfz57_8, hfz57_9, hfz57_10⟩ := bx11_ BK142) | (go_at_call 183; (with_reducible refine (spec_SlotsSame.calls k2 _ _ l0_10 _ _ l1_10 t147 _ ?side1 ?side2 ?side3 ?side4 A51.out).mono ?_); (case side1 => exact ca_ (Kd.C_below HR0_10.out HB.out)); (case side2 => exact HC0_10.out); (case side3 => exact ca_ (Kd.C_below HR1_10.out HB.out)); (case side4 => exact HC1_10.out); rintro e w58 ⟨rfl, hb⟩; replace BK141 := Aside0.mk (blk_below (bk_ BK141) hb); replace BK142 := Aside0.mk (blk_below (bk_ BK142) hb); replace HB := Aside0.mk (below_step bl_ hb); (try clear hb); (try clear hb2); (try clear hk); (try clear hi)))
        repeat (go_quiet (first | (go_at_call 182; (with_reducible refine (spec_l06Same.calls k2 a0_6 a0_7 _ _ l0_8 _ _ l0_9 a1_6 a1_7 _ _ l1_8 _ _ l1_9 true _ ?side1 ?side2 ?side3 ?side4 ?side5 ?side6 ?side7 ?side8 A49.out).mono ?_); (case side1 => exact ca_ (Kd.C_below HR0_8.out HB.out)); (case side2 => exact HC0_8.out); (case side3 => exact ca_ (Kd.C_below HR0_9.out HB.out)); (case side4 => exact HC0_9.out); (case side5 => exact ca_ (Kd.C_below HR1_8.out HB.out)); (case side6 => exact HC1_8.out); (case side7 => exact ca_ (Kd.C_below HR1_9.out HB.out)); (case side8 => exact HC1_9.out); rintro e w55 ⟨rfl, hb⟩; replace BK141 := Aside0.mk (blk_below (bk_ BK141) hb); replace BK142 := Aside0.mk (blk_below (bk_ BK142) hb); replace HB := Aside0.mk (below_step bl_ hb); (try clear hb); (try clear hb2); (try clear hk); (try clear hi); obtain ⟨hcz56_0, hcz56_1, hcz56_2, hcz56_3, hcz56_4, hcz56_5, hcz56_6, hcz56_7, hcz56_8, hcz56_9, hcz56_10, hfz56_0, hfz56_1, hfz56_2, hfz56_3, hfz56_4, hfz56_5, hfz56_6, hfz56_7, hfz56_8, hfz56_9, hfz56_10⟩ := bx11_ BK141; obtain ⟨hcz57_0, hcz57_1, hcz57_2, hcz57_3, hcz57_4, hcz57_5, hcz57_6, hcz57_7, hcz57_8, hcz57_9, hcz57_10, hfz57_0, hfz57_1, hfz57_2, hfz57_3, hfz57_4, hfz57_5, hfz57_6, hfz57_7, hfz57_8, hfz57_9, hfz57_10⟩ := bx11_ BK142) | (go_at_call 183; (with_reducible refine (spec_SlotsSame.calls k2 _ _ l0_10 _ _ l1_10 t147 _ ?side1 ?side2 ?side3 ?side4 A51.out).mono ?_); (case side1 => exact ca_ (Kd.C_below HR0_10.out HB.out)); (case side2 => exact HC0_10.out); (case side3 => exact ca_ (Kd.C_below HR1_10.out HB.out)); (case side4 => exact HC1_10.out); rintro e w58 ⟨rfl, hb⟩; replace BK141 := Aside0.mk (blk_below (bk_ BK141) hb); replace BK142 := Aside0.mk (blk_below (bk_ BK142) hb); replace HB := Aside0.mk (below_step bl_ hb); (try clear hb); (try clear hb2); (try clear hk); (try clear hi))); try go_wp2_with (first | (go_at_call 182; (with_reducible refine (spec_l06Same.calls k2 a0_6 a0_7 _ _ l0_8 _ _ l0_9 a1_6 a1_7 _ _ l1_8 _ _ l1_9 true _ ?side1 ?side2 ?side3 ?side4 ?side5 ?side6 ?side7 ?side8 A49.out).mono ?_); (case side1 => exact ca_ (Kd.C_below HR0_8.out HB.out)); (case side2 => exact HC0_8.out); (case side3 => exact ca_ (Kd.C_below HR0_9.out HB.out)); (case side4 => exact HC0_9.out); (case side5 => exact ca_ (Kd.C_below HR1_8.out HB.out)); (case side6 => exact HC1_8.out); (case side7 => exact ca_ (Kd.C_below HR1_9.out HB.out)); (case side8 => exact HC1_9.out); rintro e w55 ⟨rfl, hb⟩; replace BK141 := Aside0.mk (blk_below (bk_ BK141) hb); replace BK142 := Aside0.mk (blk_below (bk_ BK142) hb); replace HB := Aside0.mk (below_step bl_ hb); (try clear hb); (try clear hb2); (try clear hk); (try clear hi); obtain ⟨hcz56_0, hcz56_1, hcz56_2, hcz56_3, hcz56_4, hcz56_5, hcz56_6, hcz56_7, hcz56_8, hcz56_9, hcz56_10, hfz56_0, hfz56_1, hfz56_2, hfz56_3, hfz56_4, hfz56_5, hfz56_6, hfz56_7, hfz56_8, hfz56_9, hfz56_10⟩ := bx11_ BK141; obtain ⟨hcz57_0, hcz57_1, hcz57_2, hcz57_3, hcz57_4, hcz57_5, hcz57_6, hcz57_7, hcz57_8, hcz57_9, hcz57_10, hfz57_0, hfz57_1, hfz57_2, hfz57_3, hfz57_4, hfz57_5, hfz57_6, hfz57_7, hfz57_8, hfz57_9, hfz57_10⟩ := bx11_ BK142) | (go_at_call 183; (with_reducible refine (spec_SlotsSame.calls k2 _ _ l0_10 _ _ l1_10 t147 _ ?side1 ?side2 ?side3 ?side4 A51.out).mono ?_); (case side1 => exact ca_ (Kd.C_below HR0_10.out HB.out)); (case side2 => exact HC0_10.out); (case side3 => exact ca_ (Kd.C_below HR1_10.out HB.out)); (case side4 => exact HC1_10.out); rintro e w58 ⟨rfl, hb⟩; replace BK141 := Aside0.mk (blk_below (bk_ BK141) hb); replace BK142 := Aside0.mk (blk_below (bk_ BK142) hb); replace HB := Aside0.mk (below_step bl_ hb); (try clear hb); (try clear hb2); (try clear hk); (try clear hi))))
        go_ret
        exact ⟨sq_, bl_⟩
       ·replace c50 := Bool.eq_false_iff.mpr c50
        subst c50
        replace H := in_ H
        obtain rfl := Option.some.inj H
        have hnb59 := NB141_142.out
        have hnc59 := NB142_141.out
        have hcz60_0 := cz_ BK141 0 (.string a0_0)
        have hcz60_1 := cz_ BK141 1 (.int .i64 a0_1)
        have hcz60_2 := cz_ BK141 2 (.int .i64 a0_2)
        have hcz60_3 := cz_ BK141 3 (.int .i64 a0_3)
        have hcz60_4 := cz_ BK141 4 (.int .i64 a0_4)
        have hcz60_5 := cz_ BK141 5 (.slice A0_5 l0_5.length c0_5)
        have hcz60_6 := cz_ BK141 6 (.int .i64 a0_6)
        have hcz60_7 := cz_ BK141 7 (.int .i64 a0_7)
        have hcz60_8 := cz_ BK141 8 (.slice A0_8 l0_8.length c0_8)
        have hcz60_9 := cz_ BK141 9 (.slice A0_9 l0_9.length c0_9)
        have hcz60_10 := cz_ BK141 10 (.slice A0_10 l0_10.length c0_10)
        have hfz60_0 := fz_ BK141 0
        have hfz60_1 := fz_ BK141 1
        have hfz60_2 := fz_ BK141 2
        have hfz60_3 := fz_ BK141 3
        have hfz60_4 := fz_ BK141 4
        have hfz60_5 := fz_ BK141 5
        have hfz60_6 := fz_ BK141 6
        have hfz60_7 := fz_ BK141 7
        have hfz60_8 := fz_ BK141 8
        have hfz60_9 := fz_ BK141 9
        have hfz60_10 := fz_ BK141 10
        have hcz61_0 := cz_ BK142 0 (.string a1_0)
        have hcz61_1 := cz_ BK142 1 (.int .i64 a1_1)
        have hcz61_2 := cz_ BK142 2 (.int .i64 a1_2)
        have hcz61_3 := cz_ BK142 3 (.int .i64 a1_3)
        have hcz61_4 := cz_ BK142 4 (.int .i64 a1_4)
        have hcz61_5 := cz_ BK142 5 (.slice A1_5 l1_5.length c1_5)
        have hcz61_6 := cz_ BK142 6 (.int .i64 a1_6)
        have hcz61_7 := cz_ BK142 7 (.int .i64 a1_7)
        have hcz61_8 := cz_ BK142 8 (.slice A1_8 l1_8.length c1_8)
        have hcz61_9 := cz_ BK142 9 (.slice A1_9 l1_9.length c1_9)
        have hcz61_10 := cz_ BK142 10 (.slice A1_10 l1_10.length c1_10)
        have hfz61_0 := fz_ BK142 0
        have hfz61_1 := fz_ BK142 1
        have hfz61_2 := fz_ BK142 2
        have hfz61_3 := fz_ BK142 3
        have hfz61_4 := fz_ BK142 4
        have hfz61_5 := fz_ BK142 5
        have hfz61_6 := fz_ BK142 6
        have hfz61_7 := fz_ BK142 7
        have hfz61_8 := fz_ BK142 8
        have hfz61_9 := fz_ BK142 9
        have hfz61_10 := fz_ BK142 10
        go_wp2_with (first | (go_at_call 182; (with_reducible refine (spec_l06Same.calls k2 a0_6 a0_7 _ _ l0_8 _ _ l0_9 a1_6 a1_7 _ _ l1_8 _ _ l1_9 false _ ?side1 ?side2 ?side3 ?side4 ?side5 ?side6 ?side7 ?side8 A49.out).mono ?_); (case side1 => exact ca_ (Kd.C_below HR0_8.out HB.out)); (case side2 => exact HC0_8.out); (case side3 => exact ca_ (Kd.C_below HR0_9.out HB.out)); (case side4 => exact HC0_9.out); (case side5 => exact ca_ (Kd.C_below HR1_8.out HB.out)); (case side6 => exact HC1_8.out); (case side7 => exact ca_ (Kd.C_below HR1_9.out HB.out)); (case side8 => exact HC1_9.out); rintro e w62 ⟨rfl, hb⟩; replace BK141 := Aside0.mk (blk_below (bk_ BK141) hb); replace BK142 := Aside0.mk (blk_below (bk_ BK142) hb); replace HB := Aside0.mk (below_step bl_ hb); (try clear hb); (try clear hb2); (try clear hk); (try clear hi)))
        repeat (go_quiet (first | (go_at_call 182; (with_reducible refine (spec_l06Same.calls k2 a0_6 a0_7 _ _ l0_8 _ _ l0_9 a1_6 a1_7 _ _ l1_8 _ _ l1_9 false _ ?side1 ?side2 ?side3 ?side4 ?side5 ?side6 ?side7 ?side8 A49.out).mono ?_); (case side1 => exact ca_ (Kd.C_below HR0_8.out HB.out)); (case side2 => exact HC0_8.out); (case side3 => exact ca_ (Kd.C_below HR0_9.out HB.out)); (case side4 => exact HC0_9.out); (case side5 => exact ca_ (Kd.C_below HR1_8.out HB.out)); (case side6 => exact HC1_8.out); (case side7 => exact ca_ (Kd.C_below HR1_9.out HB.out)); (case side8 => exact HC1_9.out); rintro e w62 ⟨rfl, hb⟩; replace BK141 := Aside0.mk (blk_below (bk_ BK141) hb); replace BK142 := Aside0.mk (blk_below (bk_ BK142) hb); replace HB := Aside0.mk (below_step bl_ hb); (try clear hb); (try clear hb2); (try clear hk); (try clear hi))); try go_wp2_with (first | (go_at_call 182; (with_reducible refine (spec_l06Same.calls k2 a0_6 a0_7 _ _ l0_8 _ _ l0_9 a1_6 a1_7 _ _ l1_8 _ _ l1_9 false _ ?side1 ?side2 ?side3 ?side4 ?side5 ?side6 ?side7 ?side8 A49.out).mono ?_); (case side1 => exact ca_ (Kd.C_below HR0_8.out HB.out)); (case side2 => exact HC0_8.out); (case side3 => exact ca_ (Kd.C_below HR0_9.out HB.out)); (case side4 => exact HC0_9.out); (case side5 => exact ca_ (Kd.C_below HR1_8.out HB.out)); (case side6 => exact HC1_8.out); (case side7 => exact ca_ (Kd.C_below HR1_9.out HB.out)); (case side8 => exact HC1_9.out); rintro e w62 ⟨rfl, hb⟩; replace BK141 := Aside0.mk (blk_below (bk_ BK141) hb); replace BK142 := Aside0.mk (blk_below (bk_ BK142) hb); replace HB := Aside0.mk (below_step bl_ hb); (try clear hb); (try clear hb2); (try clear hk); (try clear hi))))
        go_ret
        exact ⟨sq_, bl_⟩
end Go.Proofs.Ytepjnalkpfnmcaa.QFnExactWorldSame
