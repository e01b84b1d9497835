-- by my own printer (myprint.py, over the kit's print.py)
import Derived.Test.YtepjnalkpfnmcaaQFnExactAcctNewx0
import Derived.Test.YtepjnalkpfnmcaaQFnExactAcctNewx2
import Derived.Test.YtepjnalkpfnmcaaQFnExactAcctNewx7
import Derived.Test.YtepjnalkpfnmcaaQFnExactAcctNewx12
import Derived.Test.YtepjnalkpfnmcaaQFnExactAcctNewx13
import Derived.Test.YtepjnalkpfnmcaaQFnExactAcctNewx15
namespace Go.Proofs.Ytepjnalkpfnmcaa.QFnExactAcctNew
open Go.RowKit Go.Proofs.YtepjnalkpfnmcaaW.PrintWords Go.Proofs.YtepjnalkpfnmcaaW.PrintLast Go.Proofs.YtepjnalkpfnmcaaW.PrintMore
attribute [local go_sem] max2_int min2_int max_two min_two max_three min_three max_four min_four   -- for this text's walks alone
set_option linter.unusedVariables false
set_option linter.unusedSimpArgs false
attribute [local go_sem] my_geq my_leq my_gtr
/-! ### laws_heldIntS: function 74 -/
def laws_heldIntS.l0 : Nat → List Int → Int → Int → Option (Int)
 | 0, _, _, _ => none
 | k + 1, x0, x1, x5 => if x5 < (x0.length : Int) then (if 0 ≤ x5 then (if (rd x0 x5) = x1 then (laws_heldIntS.l0 k x0 (wrap64 (x1 + 1)) (wrap64 (x5 + 1))) else (some (-1))) else (none)) else (some x1)
def laws_heldIntS.f (k : Nat) (l0 : List Int) (a1 : Int) : Option (Int) := laws_heldIntS.l0 k l0 a1 0
set_option maxHeartbeats 8000000 in
set_option maxRecDepth 100000 in
theorem laws_heldIntS.calls (k : Nat) (A0 : Option Addr) (c0 : Nat) (l0 : List Int) (a1 : Int) (r : Int) (w : World) (hr0 : Kd.C (Kd.int .i64) w A0 l0.length l0) (hc0 : l0.length ≤ c0) (h : laws_heldIntS.f k l0 a1 = some r) :
  Calls Try.prog 74 #[.slice A0 l0.length c0, .int .i64 a1] w fun e w' => e = .returned (.int .i64 r) ∧ Drawn0 w w' := by
 have HR0 := Aside0.mk hr0
 have HC0 := Aside0.mk hc0
 clear hr0 hc0
 have H : (laws_heldIntS.l0 k l0 a1 0) = some r := h
 clear h
 have H' := Aside0.mk H
 clear H
 go_enter Try.func74, Try.ntmps74
 go_wp2
 go_loopg [1, 5] k (fun kq v1 v5 w' => ∃ (x1_1 : Int) (x5_1 : Int), v1 = .int .i64 x1_1 ∧ v5 = .int .i64 x5_1 ∧ Aside0 (laws_heldIntS.l0 kq l0 x1_1 x5_1 = some r) ∧ Aside0 (kq ≤ k) ∧ Drawn0 w w')
 case atStart => exact ⟨(a1), (0), sp_, sp_, H', ⟨Nat.le_refl _⟩, by repeat (first | exact Drawn0.refl _ | apply Drawn0.step)⟩
 case round =>
  clear H'
  try clear p2
  obtain ⟨x1_1, x5_1, rfl, rfl, HA, HK1, ⟨m1, rfl⟩⟩ := hrel
  cases gk with
  | zero => exact absurd HA.out (by simp [laws_heldIntS.l0])
  | succ k1 =>
   have H := HA.out
   clear HA
   simp only [laws_heldIntS.l0] at H
   by_cases c3 : x5_1 < (l0.length : Int)
   ·rw [if_pos c3] at H
    have c3b0 : decide (x5_1 < (l0.length : Int)) = true := decide_eq_true c3
    clear c3
    by_cases c4 : 0 ≤ x5_1
    ·rw [if_pos c4] at H
     have c4b0 : decide (0 ≤ x5_1) = true := decide_eq_true c4
     clear c4
     by_cases c5 : (rd l0 x5_1) = x1_1
     ·rw [if_pos c5] at H
      have c5b0 : ((rd l0 x5_1) == x1_1) = true := beq_iff_eq.mpr c5
      have c5b1 : ((rd l0 x5_1) != x1_1) = false := bne_eq_false_iff_eq.mpr c5
      clear c5
      have H' := Aside0.mk H
      clear H
      have p314 : 0 ≤ (x5_1 : Int) := od_
      have q314 : x5_1 < (l0.length : Int) := od_
      obtain ⟨ad314, e314, hx314_0⟩ := Kd.at_int HR0.out x5_1 p314 q314
      cases e314
      replace p314 := eq_true p314
      replace q314 := eq_true q314
      go_wp2
      go_roundg k1
      case measure => have := HK1.out; omega
      case rel => exact ⟨(wrap64 (x1_1 + 1)), (wrap64 (x5_1 + 1)), sp_, sp_, H', ⟨by have := HK1.out; omega⟩, by repeat (first | exact Drawn0.refl _ | apply Drawn0.step)⟩
     ·rw [if_neg c5] at H
      have c5b0 : ((rd l0 x5_1) == x1_1) = false := beq_eq_false_iff_ne.mpr c5
      have c5b1 : ((rd l0 x5_1) != x1_1) = true := bne_iff_ne.mpr c5
      obtain rfl := Option.some.inj H
      have p314 : 0 ≤ (x5_1 : Int) := od_
      have q314 : x5_1 < (l0.length : Int) := od_
      obtain ⟨ad314, e314, hx314_0⟩ := Kd.at_int HR0.out x5_1 p314 q314
      cases e314
      replace p314 := eq_true p314
      replace q314 := eq_true q314
      go_wp2
      go_ret
      exact ⟨sp_, by repeat (first | exact Drawn0.refl _ | apply Drawn0.step)⟩
    ·rw [if_neg c4] at H
     exact absurd H (by simp)
   ·rw [if_neg c3] at H
    have c3b0 : decide (x5_1 < (l0.length : Int)) = false := decide_eq_false c3
    clear c3
    obtain rfl := Option.some.inj H
    go_wp2
    go_ret
    exact ⟨sp_, by repeat (first | exact Drawn0.refl _ | apply Drawn0.step)⟩
/-! ### laws_heldRing: function 120 -/
def laws_heldRing.f (k : Nat) (a0_0 : Int) (a0_1 : Int) (l0_2 : List Int) (l0_3 : List Int) (a1 : Int) : Option (Int) := (laws_heldIntS.f k l0_2 a1).bind fun t316 => (if t316 < 0 then (some (-1)) else ((laws_heldIntS.f k l0_3 t316).bind fun t317 => (if t317 < 0 then (some (-1)) else (some t317))))
set_option maxHeartbeats 8000000 in
set_option maxRecDepth 100000 in
theorem laws_heldRing.calls (k : Nat) (a0_0 : Int) (a0_1 : Int) (A0_2 : Option Addr) (c0_2 : Nat) (l0_2 : List Int) (A0_3 : Option Addr) (c0_3 : Nat) (l0_3 : List Int) (a1 : Int) (r : Int) (w : World) (hr0_2 : Kd.C (Kd.int .i64) w A0_2 l0_2.length l0_2) (hc0_2 : l0_2.length ≤ c0_2) (hr0_3 : Kd.C (Kd.int .i64) w A0_3 l0_3.length l0_3) (hc0_3 : l0_3.length ≤ c0_3) (h : laws_heldRing.f k a0_0 a0_1 l0_2 l0_3 a1 = some r) :
  Calls Try.prog 120 #[.agg #[.int .i64 a0_0, .int .i64 a0_1, .slice A0_2 l0_2.length c0_2, .slice A0_3 l0_3.length c0_3], .int .i64 a1] w fun e w' => e = .returned (.int .i64 r) ∧ Below w.heap.size w w' := by
 have hu40 := Try.underlying40
 have HR0_2 := Aside0.mk hr0_2
 have HC0_2 := Aside0.mk hc0_2
 clear hr0_2 hc0_2
 have HR0_3 := Aside0.mk hr0_3
 have HC0_3 := Aside0.mk hc0_3
 clear hr0_3 hc0_3
 have HB := Aside0.mk (Below.refl w.heap.size w)
 have H : ((laws_heldIntS.f k l0_2 a1).bind fun t316 => (if t316 < 0 then (some (-1)) else ((laws_heldIntS.f k l0_3 t316).bind fun t317 => (if t317 < 0 then (some (-1)) else (some t317))))) = some r := h
 clear h
 obtain ⟨t316, A3, H⟩ := ob_ H
 by_cases c4 : t316 < 0
 ·rw [if_pos c4] at H
  have c4b0 : decide (t316 < 0) = true := decide_eq_true c4
  clear c4
  obtain rfl := Option.some.inj H
  go_enter Try.func120, Try.ntmps120
  go_wp2_with (first | ((with_reducible refine gate_dst (N := 2) rfl ?_); refine be_ (N := 2) (cs := #[.int .i64 a0_0, .int .i64 a0_1, .slice A0_2 l0_2.length c0_2, .slice A0_3 l0_3.length c0_3]) (t := 40) ?_; intro gb315 hg w5 hbox hb; have BK315 := Aside0.mk (hbox); have GW315 := gw_ (w := w) hg; have GE315 := gw_ (w := w) hg; replace HB := Aside0.mk (below_step bl_ hb); clear hb hbox hg; obtain ⟨hcz6_0, hcz6_1, hcz6_2, hcz6_3, hfz6_0, hfz6_1, hfz6_2, hfz6_3⟩ := bx4_ BK315) | ((with_reducible refine gate_callee (f := 74) rfl ?_); refine goesL_ (some 8) rfl rfl Try.func74 (by kernel_rfl) rfl #[.slice A0_2 l0_2.length c0_2, .int .i64 a1] rfl gl_ ?_; (with_reducible refine (laws_heldIntS.calls k _ _ l0_2 a1 t316 _ ?side1 ?side2 A3.out).mono ?_); (case side1 => exact ca_ (Kd.C_below HR0_2.out HB.out)); (case side2 => exact HC0_2.out); rintro e w' ⟨rfl, ⟨nd, rfl⟩⟩; refine ⟨_, rfl, ?_⟩))
  go_ret
  exact ⟨sq_, bl_⟩
 ·rw [if_neg c4] at H
  have c4b0 : decide (t316 < 0) = false := decide_eq_false c4
  clear c4
  obtain ⟨t317, A7, H⟩ := ob_ H
  by_cases c8 : t317 < 0
  ·rw [if_pos c8] at H
   have c8b0 : decide (t317 < 0) = true := decide_eq_true c8
   clear c8
   obtain rfl := Option.some.inj H
   go_enter Try.func120, Try.ntmps120
   go_wp2_with (first | ((with_reducible refine gate_dst (N := 2) rfl ?_); refine be_ (N := 2) (cs := #[.int .i64 a0_0, .int .i64 a0_1, .slice A0_2 l0_2.length c0_2, .slice A0_3 l0_3.length c0_3]) (t := 40) ?_; intro gb315 hg w9 hbox hb; have BK315 := Aside0.mk (hbox); have GW315 := gw_ (w := w) hg; have GE315 := gw_ (w := w) hg; replace HB := Aside0.mk (below_step bl_ hb); clear hb hbox hg; obtain ⟨hcz10_0, hcz10_1, hcz10_2, hcz10_3, hfz10_0, hfz10_1, hfz10_2, hfz10_3⟩ := bx4_ BK315) | ((with_reducible refine gate_callee (f := 74) rfl ?_); refine goesL_ (some 8) rfl rfl Try.func74 (by kernel_rfl) rfl #[.slice A0_2 l0_2.length c0_2, .int .i64 a1] rfl gl_ ?_; (with_reducible refine (laws_heldIntS.calls k _ _ l0_2 a1 t316 _ ?side1 ?side2 A3.out).mono ?_); (case side1 => exact ca_ (Kd.C_below HR0_2.out HB.out)); (case side2 => exact HC0_2.out); rintro e w' ⟨rfl, ⟨nd, rfl⟩⟩; refine ⟨_, rfl, ?_⟩) | ((with_reducible refine gate_callee (f := 74) rfl ?_); refine goesL_ (some 14) rfl rfl Try.func74 (by kernel_rfl) rfl #[.slice A0_3 l0_3.length c0_3, .int .i64 t316] rfl gl_ ?_; (with_reducible refine (laws_heldIntS.calls k _ _ l0_3 t316 t317 _ ?side1 ?side2 A7.out).mono ?_); (case side1 => exact ca_ (Kd.C_below HR0_3.out bl_)); (case side2 => exact HC0_3.out); rintro e w' ⟨rfl, ⟨nd, rfl⟩⟩; refine ⟨_, rfl, ?_⟩))
   go_ret
   exact ⟨sq_, bl_⟩
  ·rw [if_neg c8] at H
   have c8b0 : decide (t317 < 0) = false := decide_eq_false c8
   clear c8
   obtain rfl := Option.some.inj H
   go_enter Try.func120, Try.ntmps120
   go_wp2_with (first | ((with_reducible refine gate_dst (N := 2) rfl ?_); refine be_ (N := 2) (cs := #[.int .i64 a0_0, .int .i64 a0_1, .slice A0_2 l0_2.length c0_2, .slice A0_3 l0_3.length c0_3]) (t := 40) ?_; intro gb315 hg w11 hbox hb; have BK315 := Aside0.mk (hbox); have GW315 := gw_ (w := w) hg; have GE315 := gw_ (w := w) hg; replace HB := Aside0.mk (below_step bl_ hb); clear hb hbox hg; obtain ⟨hcz12_0, hcz12_1, hcz12_2, hcz12_3, hfz12_0, hfz12_1, hfz12_2, hfz12_3⟩ := bx4_ BK315) | ((with_reducible refine gate_callee (f := 74) rfl ?_); refine goesL_ (some 8) rfl rfl Try.func74 (by kernel_rfl) rfl #[.slice A0_2 l0_2.length c0_2, .int .i64 a1] rfl gl_ ?_; (with_reducible refine (laws_heldIntS.calls k _ _ l0_2 a1 t316 _ ?side1 ?side2 A3.out).mono ?_); (case side1 => exact ca_ (Kd.C_below HR0_2.out HB.out)); (case side2 => exact HC0_2.out); rintro e w' ⟨rfl, ⟨nd, rfl⟩⟩; refine ⟨_, rfl, ?_⟩) | ((with_reducible refine gate_callee (f := 74) rfl ?_); refine goesL_ (some 14) rfl rfl Try.func74 (by kernel_rfl) rfl #[.slice A0_3 l0_3.length c0_3, .int .i64 t316] rfl gl_ ?_; (with_reducible refine (laws_heldIntS.calls k _ _ l0_3 t316 t317 _ ?side1 ?side2 A7.out).mono ?_); (case side1 => exact ca_ (Kd.C_below HR0_3.out bl_)); (case side2 => exact HC0_3.out); rintro e w' ⟨rfl, ⟨nd, rfl⟩⟩; refine ⟨_, rfl, ?_⟩))
   go_ret
   exact ⟨sq_, bl_⟩
/-! ### laws_heldAcct: function 55 -/
def laws_heldAcct.f (k : Nat) (a0_0 : ByteArray) (a0_1 : Int) (a0_2 : Int) (a0_3 : Int) (a0_4 : Int) (l0_5 : List (S93)) (a0_6 : Int) (a0_7 : Int) (l0_8 : List Int) (l0_9 : List Int) (l0_10 : List (S74)) (a1 : Int) : Option (Int) := (laws_heldHoldS.f k l0_5 a1).bind fun t319 => (if t319 < 0 then (some (-1)) else ((laws_heldRing.f k a0_6 a0_7 l0_8 l0_9 t319).bind fun t320 => (if t320 < 0 then (some (-1)) else ((laws_heldSlotS.f k l0_10 t320).bind fun t321 => (if t321 < 0 then (some (-1)) else (some t321))))))
set_option maxHeartbeats 8000000 in
set_option maxRecDepth 100000 in
theorem laws_heldAcct.calls (k : Nat) (a0_0 : ByteArray) (a0_1 : Int) (a0_2 : Int) (a0_3 : Int) (a0_4 : Int) (A0_5 : Option Addr) (c0_5 : Nat) (l0_5 : List (S93)) (a0_6 : Int) (a0_7 : Int) (A0_8 : Option Addr) (c0_8 : Nat) (l0_8 : List Int) (A0_9 : Option Addr) (c0_9 : Nat) (l0_9 : List Int) (A0_10 : Option Addr) (c0_10 : Nat) (l0_10 : List (S74)) (a1 : Int) (r : Int) (w : World) (hr0_5 : Kd.C k93 w A0_5 l0_5.length l0_5) (hc0_5 : l0_5.length ≤ c0_5) (hr0_8 : Kd.C (Kd.int .i64) w A0_8 l0_8.length l0_8) (hc0_8 : l0_8.length ≤ c0_8) (hr0_9 : Kd.C (Kd.int .i64) w A0_9 l0_9.length l0_9) (hc0_9 : l0_9.length ≤ c0_9) (hr0_10 : Kd.C k74 w A0_10 l0_10.length l0_10) (hc0_10 : l0_10.length ≤ c0_10) (h : laws_heldAcct.f k a0_0 a0_1 a0_2 a0_3 a0_4 l0_5 a0_6 a0_7 l0_8 l0_9 l0_10 a1 = some r) :
  Calls Try.prog 55 #[.agg #[.string a0_0, .int .i64 a0_1, .int .i64 a0_2, .int .i64 a0_3, .int .i64 a0_4, .slice A0_5 l0_5.length c0_5, .int .i64 a0_6, .int .i64 a0_7, .slice A0_8 l0_8.length c0_8, .slice A0_9 l0_9.length c0_9, .slice A0_10 l0_10.length c0_10], .int .i64 a1] w fun e w' => e = .returned (.int .i64 r) ∧ Below w.heap.size w w' := by
 have hu43 := Try.underlying43
 have hu40 := Try.underlying40
 have HR0_5 := Aside0.mk hr0_5
 have HC0_5 := Aside0.mk hc0_5
 clear hr0_5 hc0_5
 have HR0_8 := Aside0.mk hr0_8
 have HC0_8 := Aside0.mk hc0_8
 clear hr0_8 hc0_8
 have HR0_9 := Aside0.mk hr0_9
 have HC0_9 := Aside0.mk hc0_9
 clear hr0_9 hc0_9
 have HR0_10 := Aside0.mk hr0_10
 have HC0_10 := Aside0.mk hc0_10
 clear hr0_10 hc0_10
 have HB := Aside0.mk (Below.refl w.heap.size w)
 have H : ((laws_heldHoldS.f k l0_5 a1).bind fun t319 => (if t319 < 0 then (some (-1)) else ((laws_heldRing.f k a0_6 a0_7 l0_8 l0_9 t319).bind fun t320 => (if t320 < 0 then (some (-1)) else ((laws_heldSlotS.f k l0_10 t320).bind fun t321 => (if t321 < 0 then (some (-1)) else (some t321))))))) = some r := h
 clear h
 obtain ⟨t319, A3, H⟩ := ob_ H
 by_cases c4 : t319 < 0
 ·rw [if_pos c4] at H
  have c4b0 : decide (t319 < 0) = true := decide_eq_true c4
  clear c4
  obtain rfl := Option.some.inj H
  go_enter Try.func55, Try.ntmps55
  go_wp2_with (first | ((with_reducible refine gate_dst (N := 2) rfl ?_); refine be_ (N := 2) (cs := #[.string a0_0, .int .i64 a0_1, .int .i64 a0_2, .int .i64 a0_3, .int .i64 a0_4, .slice A0_5 l0_5.length c0_5, .int .i64 a0_6, .int .i64 a0_7, .slice A0_8 l0_8.length c0_8, .slice A0_9 l0_9.length c0_9, .slice A0_10 l0_10.length c0_10]) (t := 43) ?_; intro gb318 hg w5 hbox hb; have BK318 := Aside0.mk (hbox); have GW318 := gw_ (w := w) hg; have GE318 := gw_ (w := w) hg; replace HB := Aside0.mk (below_step bl_ hb); clear hb hbox hg; obtain ⟨hcz6_0, hcz6_1, hcz6_2, hcz6_3, hcz6_4, hcz6_5, hcz6_6, hcz6_7, hcz6_8, hcz6_9, hcz6_10, hfz6_0, hfz6_1, hfz6_2, hfz6_3, hfz6_4, hfz6_5, hfz6_6, hfz6_7, hfz6_8, hfz6_9, hfz6_10⟩ := bx11_ BK318) | ((with_reducible refine gate_callee (f := 21) rfl ?_); refine goesL_ (some 8) rfl rfl Try.func21 (by kernel_rfl) rfl #[.slice A0_5 l0_5.length c0_5, .int .i64 a1] rfl gl_ ?_; (with_reducible refine (laws_heldHoldS.calls k _ _ l0_5 a1 t319 _ ?side1 ?side2 A3.out).mono ?_); (case side1 => exact ca_ (Kd.C_below HR0_5.out HB.out)); (case side2 => exact HC0_5.out); rintro e w7 ⟨rfl, hb⟩; refine ⟨_, rfl, ?_⟩; replace BK318 := Aside0.mk (blk_below (bk_ BK318) hb); replace HB := Aside0.mk (below_step bl_ hb); (try clear hb); (try clear hb2); (try clear hk); (try clear hi)))
  go_ret
  exact ⟨sq_, bl_⟩
 ·rw [if_neg c4] at H
  have c4b0 : decide (t319 < 0) = false := decide_eq_false c4
  clear c4
  obtain ⟨t320, A8, H⟩ := ob_ H
  by_cases c9 : t320 < 0
  ·rw [if_pos c9] at H
   have c9b0 : decide (t320 < 0) = true := decide_eq_true c9
   clear c9
   obtain rfl := Option.some.inj H
   go_enter Try.func55, Try.ntmps55
   go_wp2_with (first | ((with_reducible refine gate_dst (N := 2) rfl ?_); refine be_ (N := 2) (cs := #[.string a0_0, .int .i64 a0_1, .int .i64 a0_2, .int .i64 a0_3, .int .i64 a0_4, .slice A0_5 l0_5.length c0_5, .int .i64 a0_6, .int .i64 a0_7, .slice A0_8 l0_8.length c0_8, .slice A0_9 l0_9.length c0_9, .slice A0_10 l0_10.length c0_10]) (t := 43) ?_; intro gb318 hg w10 hbox hb; have BK318 := Aside0.mk (hbox); have GW318 := gw_ (w := w) hg; have GE318 := gw_ (w := w) hg; replace HB := Aside0.mk (below_step bl_ hb); clear hb hbox hg; obtain ⟨hcz11_0, hcz11_1, hcz11_2, hcz11_3, hcz11_4, hcz11_5, hcz11_6, hcz11_7, hcz11_8, hcz11_9, hcz11_10, hfz11_0, hfz11_1, hfz11_2, hfz11_3, hfz11_4, hfz11_5, hfz11_6, hfz11_7, hfz11_8, hfz11_9, hfz11_10⟩ := bx11_ BK318) | ((with_reducible refine gate_callee (f := 21) rfl ?_); refine goesL_ (some 8) rfl rfl Try.func21 (by kernel_rfl) rfl #[.slice A0_5 l0_5.length c0_5, .int .i64 a1] rfl gl_ ?_; (with_reducible refine (laws_heldHoldS.calls k _ _ l0_5 a1 t319 _ ?side1 ?side2 A3.out).mono ?_); (case side1 => exact ca_ (Kd.C_below HR0_5.out HB.out)); (case side2 => exact HC0_5.out); rintro e w12 ⟨rfl, hb⟩; refine ⟨_, rfl, ?_⟩; replace BK318 := Aside0.mk (blk_below (bk_ BK318) hb); replace HB := Aside0.mk (below_step bl_ hb); (try clear hb); (try clear hb2); (try clear hk); (try clear hi); obtain ⟨hcz13_0, hcz13_1, hcz13_2, hcz13_3, hcz13_4, hcz13_5, hcz13_6, hcz13_7, hcz13_8, hcz13_9, hcz13_10, hfz13_0, hfz13_1, hfz13_2, hfz13_3, hfz13_4, hfz13_5, hfz13_6, hfz13_7, hfz13_8, hfz13_9, hfz13_10⟩ := bx11_ BK318) | ((with_reducible refine gate_callee (f := 120) rfl ?_); refine goesL_ (some 14) rfl rfl Try.func120 (by kernel_rfl) rfl #[.agg #[.int .i64 a0_6, .int .i64 a0_7, .slice A0_8 l0_8.length c0_8, .slice A0_9 l0_9.length c0_9], .int .i64 t319] rfl gl_ ?_; (with_reducible refine (laws_heldRing.calls k a0_6 a0_7 _ _ l0_8 _ _ l0_9 t319 t320 _ ?side1 ?side2 ?side3 ?side4 A8.out).mono ?_); (case side1 => exact ca_ (Kd.C_below HR0_8.out HB.out)); (case side2 => exact HC0_8.out); (case side3 => exact ca_ (Kd.C_below HR0_9.out HB.out)); (case side4 => exact HC0_9.out); rintro e w14 ⟨rfl, hb⟩; refine ⟨_, rfl, ?_⟩; replace BK318 := Aside0.mk (blk_below (bk_ BK318) hb); replace HB := Aside0.mk (below_step bl_ hb); (try clear hb); (try clear hb2); (try clear hk); (try clear hi)))
   go_ret
   exact ⟨sq_, bl_⟩
  ·rw [if_neg c9] at H
   have c9b0 : decide (t320 < 0) = false := decide_eq_false c9
   clear c9
   obtain ⟨t321, A15, H⟩ := ob_ H
   by_cases c16 : t321 < 0
   ·rw [if_pos c16] at H
    have c16b0 : decide (t321 < 0) = true := decide_eq_true c16
    clear c16
    obtain rfl := Option.some.inj H
    go_enter Try.func55, Try.ntmps55
    go_wp2_with (first | ((with_reducible refine gate_dst (N := 2) rfl ?_); refine be_ (N := 2) (cs := #[.string a0_0, .int .i64 a0_1, .int .i64 a0_2, .int .i64 a0_3, .int .i64 a0_4, .slice A0_5 l0_5.length c0_5, .int .i64 a0_6, .int .i64 a0_7, .slice A0_8 l0_8.length c0_8, .slice A0_9 l0_9.length c0_9, .slice A0_10 l0_10.length c0_10]) (t := 43) ?_; intro gb318 hg w17 hbox hb; have BK318 := Aside0.mk (hbox); have GW318 := gw_ (w := w) hg; have GE318 := gw_ (w := w) hg; replace HB := Aside0.mk (below_step bl_ hb); clear hb hbox hg; obtain ⟨hcz18_0, hcz18_1, hcz18_2, hcz18_3, hcz18_4, hcz18_5, hcz18_6, hcz18_7, hcz18_8, hcz18_9, hcz18_10, hfz18_0, hfz18_1, hfz18_2, hfz18_3, hfz18_4, hfz18_5, hfz18_6, hfz18_7, hfz18_8, hfz18_9, hfz18_10⟩ := bx11_ BK318) | ((with_reducible refine gate_callee (f := 21) rfl ?_); refine goesL_ (some 8) rfl rfl Try.func21 (by kernel_rfl) rfl #[.slice A0_5 l0_5.length c0_5, .int .i64 a1] rfl gl_ ?_; (with_reducible refine (laws_heldHoldS.calls k _ _ l0_5 a1 t319 _ ?side1 ?side2 A3.out).mono ?_); (case side1 => exact ca_ (Kd.C_below HR0_5.out HB.out)); (case side2 => exact HC0_5.out); rintro e w19 ⟨rfl, hb⟩; refine ⟨_, rfl, ?_⟩; replace BK318 := Aside0.mk (blk_below (bk_ BK318) hb); replace HB := Aside0.mk (below_step bl_ hb); (try clear hb); (try clear hb2); (try clear hk); (try clear hi); obtain ⟨hcz20_0, hcz20_1, hcz20_2, hcz20_3, hcz20_4, hcz20_5, hcz20_6, hcz20_7, hcz20_8, hcz20_9, hcz20_10, hfz20_0, hfz20_1, hfz20_2, hfz20_3, hfz20_4, hfz20_5, hfz20_6, hfz20_7, hfz20_8, hfz20_9, hfz20_10⟩ := bx11_ BK318) | ((with_reducible refine gate_callee (f := 120) rfl ?_); refine goesL_ (some 14) rfl rfl Try.func120 (by kernel_rfl) rfl #[.agg #[.int .i64 a0_6, .int .i64 a0_7, .slice A0_8 l0_8.length c0_8, .slice A0_9 l0_9.length c0_9], .int .i64 t319] rfl gl_ ?_; (with_reducible refine (laws_heldRing.calls k a0_6 a0_7 _ _ l0_8 _ _ l0_9 t319 t320 _ ?side1 ?side2 ?side3 ?side4 A8.out).mono ?_); (case side1 => exact ca_ (Kd.C_below HR0_8.out HB.out)); (case side2 => exact HC0_8.out); (case side3 => exact ca_ (Kd.C_below HR0_9.out HB.out)); (case side4 => exact HC0_9.out); rintro e w21 ⟨rfl, hb⟩; refine ⟨_, rfl, ?_⟩; replace BK318 := Aside0.mk (blk_below (bk_ BK318) hb); replace HB := Aside0.mk (below_step bl_ hb); (try clear hb); (try clear hb2); (try clear hk); (try clear hi); obtain ⟨hcz22_0, hcz22_1, hcz22_2, hcz22_3, hcz22_4, hcz22_5, hcz22_6, hcz22_7, hcz22_8, hcz22_9, hcz22_10, hfz22_0, hfz22_1, hfz22_2, hfz22_3, hfz22_4, hfz22_5, hfz22_6, hfz22_7, hfz22_8, hfz22_9, hfz22_10⟩ := bx11_ BK318) | ((with_reducible refine gate_callee (f := 51) rfl ?_); refine goesL_ (some 20) rfl rfl Try.func51 (by kernel_rfl) rfl #[.slice A0_10 l0_10.length c0_10, .int .i64 t320] rfl gl_ ?_; (with_reducible refine (laws_heldSlotS.calls k _ _ l0_10 t320 t321 _ ?side1 ?side2 A15.out).mono ?_); (case side1 => exact ca_ (Kd.C_below HR0_10.out HB.out)); (case side2 => exact HC0_10.out); rintro e w23 ⟨rfl, hb⟩; refine ⟨_, rfl, ?_⟩; replace BK318 := Aside0.mk (blk_below (bk_ BK318) hb); replace HB := Aside0.mk (below_step bl_ hb); (try clear hb); (try clear hb2); (try clear hk); (try clear hi)))
    go_ret
    exact ⟨sq_, bl_⟩
   ·rw [if_neg c16] at H
    have c16b0 : decide (t321 < 0) = false := decide_eq_false c16
    clear c16
    obtain rfl := Option.some.inj H
    go_enter Try.func55, Try.ntmps55
    go_wp2_with (first | ((with_reducible refine gate_dst (N := 2) rfl ?_); refine be_ (N := 2) (cs := #[.string a0_0, .int .i64 a0_1, .int .i64 a0_2, .int .i64 a0_3, .int .i64 a0_4, .slice A0_5 l0_5.length c0_5, .int .i64 a0_6, .int .i64 a0_7, .slice A0_8 l0_8.length c0_8, .slice A0_9 l0_9.length c0_9, .slice A0_10 l0_10.length c0_10]) (t := 43) ?_; intro gb318 hg w24 hbox hb; have BK318 := Aside0.mk (hbox); have GW318 := gw_ (w := w) hg; have GE318 := gw_ (w := w) hg; replace HB := Aside0.mk (below_step bl_ hb); clear hb hbox hg; obtain ⟨hcz25_0, hcz25_1, hcz25_2, hcz25_3, hcz25_4, hcz25_5, hcz25_6, hcz25_7, hcz25_8, hcz25_9, hcz25_10, hfz25_0, hfz25_1, hfz25_2, hfz25_3, hfz25_4, hfz25_5, hfz25_6, hfz25_7, hfz25_8, hfz25_9, hfz25_10⟩ := bx11_ BK318) | ((with_reducible refine gate_callee (f := 21) rfl ?_); refine goesL_ (some 8) rfl rfl Try.func21 (by kernel_rfl) rfl #[.slice A0_5 l0_5.length c0_5, .int .i64 a1] rfl gl_ ?_; (with_reducible refine (laws_heldHoldS.calls k _ _ l0_5 a1 t319 _ ?side1 ?side2 A3.out).mono ?_); (case side1 => exact ca_ (Kd.C_below HR0_5.out HB.out)); (case side2 => exact HC0_5.out); rintro e w26 ⟨rfl, hb⟩; refine ⟨_, rfl, ?_⟩; replace BK318 := Aside0.mk (blk_below (bk_ BK318) hb); replace HB := Aside0.mk (below_step bl_ hb); (try clear hb); (try clear hb2); (try clear hk); (try clear hi); obtain ⟨hcz27_0, hcz27_1, hcz27_2, hcz27_3, hcz27_4, hcz27_5, hcz27_6, hcz27_7, hcz27_8, hcz27_9, hcz27_10, hfz27_0, hfz27_1, hfz27_2, hfz27_3, hfz27_4, hfz27_5, hfz27_6, hfz27_7, hfz27_8, hfz27_9, hfz27_10⟩ := bx11_ BK318) | ((with_reducible refine gate_callee (f := 120) rfl ?_); refine goesL_ (some 14) rfl rfl Try.func120 (by kernel_rfl) rfl #[.agg #[.int .i64 a0_6, .int .i64 a0_7, .slice A0_8 l0_8.length c0_8, .slice A0_9 l0_9.length c0_9], .int .i64 t319] rfl gl_ ?_; (with_reducible refine (laws_heldRing.calls k a0_6 a0_7 _ _ l0_8 _ _ l0_9 t319 t320 _ ?side1 ?side2 ?side3 ?side4 A8.out).mono ?_); (case side1 => exact ca_ (Kd.C_below HR0_8.out HB.out)); (case side2 => exact HC0_8.out); (case side3 => exact ca_ (Kd.C_below HR0_9.out HB.out)); (case side4 => exact HC0_9.out); rintro e w28 ⟨rfl, hb⟩; refine ⟨_, rfl, ?_⟩; replace BK318 := Aside0.mk (blk_below (bk_ BK318) hb); replace HB := Aside0.mk (below_step bl_ hb); (try clear hb); (try clear hb2); (try clear hk); (try clear hi); obtain ⟨hcz29_0, hcz29_1, hcz29_2, hcz29_3, hcz29_4, hcz29_5, hcz29_6, hcz29_7, hcz29_8, hcz29_9, hcz29_10, hfz29_0, hfz29_1, hfz29_2, hfz29_3, hfz29_4, hfz29_5, hfz29_6, hfz29_7, hfz29_8, hfz29_9, hfz29_10⟩ := bx11_ BK318) | ((with_reducible refine gate_callee (f := 51) rfl ?_); refine goesL_ (some 20) rfl rfl Try.func51 (by kernel_rfl) rfl #[.slice A0_10 l0_10.length c0_10, .int .i64 t320] rfl gl_ ?_; (with_reducible refine (laws_heldSlotS.calls k _ _ l0_10 t320 t321 _ ?side1 ?side2 A15.out).mono ?_); (case side1 => exact ca_ (Kd.C_below HR0_10.out HB.out)); (case side2 => exact HC0_10.out); rintro e w30 ⟨rfl, hb⟩; refine ⟨_, rfl, ?_⟩; replace BK318 := Aside0.mk (blk_below (bk_ BK318) hb); replace HB := Aside0.mk (below_step bl_ hb); (try clear hb); (try clear hb2); (try clear hk); (try clear hi)))
    go_ret
    exact ⟨sq_, bl_⟩
/-! ### laws_FnExactAcctNew: function 10 -/
section
variable {W : World} {base : Nat} {ok : Nat → Prop} {A5 A8 A9 A10 : Option Addr} {n5 n8 n9 n10 c5 c8 c9 c10 : Nat} {l5 : List S93} {l8 l9 : List Int} {l10 : List S74}
theorem ac_len (h : AcR W base ok (.slice A5 n5 c5) l5 (.slice A8 n8 c8) l8 (.slice A9 n9 c9) l9 (.slice A10 n10 c10) l10) : n5 = l5.length ∧ n8 = l8.length ∧ n9 = l9.length ∧ n10 = l10.length :=
 ⟨(Kd.R_reads' h.1).1, (Kd.R_reads' h.2.1).1, (Kd.R_reads' h.2.2.1).1, (Kd.S_reads' h.2.2.2.1).1⟩
end
theorem blk11 {W : World} {b e : Nat} {v0 v1 v2 v3 v4 v5 v6 v7 v8 v9 v10 : Value} (h : W.heap[b]? = some (.cells #[v0, v1, v2, v3, v4, v5, v6, v7, v8, v9, v10] e (0, 0))) :
  W.cell? ⟨b, 0, none⟩ = some v0 ∧ W.cell? ⟨b, 1, none⟩ = some v1 ∧ W.cell? ⟨b, 2, none⟩ = some v2 ∧ W.cell? ⟨b, 3, none⟩ = some v3 ∧ W.cell? ⟨b, 4, none⟩ = some v4 ∧ W.cell? ⟨b, 5, none⟩ = some v5 ∧ W.cell? ⟨b, 6, none⟩ = some v6 ∧ W.cell? ⟨b, 7, none⟩ = some v7 ∧ W.cell? ⟨b, 8, none⟩ = some v8 ∧ W.cell? ⟨b, 9, none⟩ = some v9 ∧ W.cell? ⟨b, 10, none⟩ = some v10 :=
 ⟨blk_cell h 0, blk_cell h 1, blk_cell h 2, blk_cell h 3, blk_cell h 4, blk_cell h 5, blk_cell h 6, blk_cell h 7, blk_cell h 8, blk_cell h 9, blk_cell h 10⟩
def laws_FnExactAcctNew.f (k : Nat) (a0 : ByteArray) (a1 a2 a3 a4 a5 : Int) : Option Bool := if (a0.size : Int) > 1048576 then some true else ((spec_AcctNew.f k a0 a1 a2 a3 a4 a5).bind fun s => ((impl_AcctNew.f k a0 a1 a2 a3 a4 a5).bind fun g => ((laws_eqAcct.f k g.1 g.2.1 g.2.2.1 g.2.2.2.1 g.2.2.2.2.1 g.2.2.2.2.2.1 g.2.2.2.2.2.2.1 g.2.2.2.2.2.2.2.1 g.2.2.2.2.2.2.2.2.1 g.2.2.2.2.2.2.2.2.2.1 g.2.2.2.2.2.2.2.2.2.2.1 s.1 s.2.1 s.2.2.1 s.2.2.2.1 s.2.2.2.2.1 s.2.2.2.2.2.1 s.2.2.2.2.2.2.1 s.2.2.2.2.2.2.2.1 s.2.2.2.2.2.2.2.2.1 s.2.2.2.2.2.2.2.2.2.1 s.2.2.2.2.2.2.2.2.2.2.1).bind fun b1 => (if b1 = true then (if g.2.2.2.2.2.2.2.2.2.2.2 = s.2.2.2.2.2.2.2.2.2.2.2 then ((laws_markAcct.f k g.1 g.2.1 g.2.2.1 g.2.2.2.1 g.2.2.2.2.1 g.2.2.2.2.2.1 g.2.2.2.2.2.2.1 g.2.2.2.2.2.2.2.1 g.2.2.2.2.2.2.2.2.1 g.2.2.2.2.2.2.2.2.2.1 g.2.2.2.2.2.2.2.2.2.2.1 1).bind fun m => ((laws_heldAcct.f k g.1 g.2.1 g.2.2.1 g.2.2.2.1 g.2.2.2.2.1 m.2.1 g.2.2.2.2.2.2.1 g.2.2.2.2.2.2.2.1 m.2.2.1 m.2.2.2.1 m.2.2.2.2 1).bind fun q1 => (if q1 < 0 then some false else (if q1 = m.1 then ((impl_AcctNew.f k a0 a1 a2 a3 a4 a5).bind fun h => ((laws_eqAcct.f k h.1 h.2.1 h.2.2.1 h.2.2.2.1 h.2.2.2.2.1 h.2.2.2.2.2.1 h.2.2.2.2.2.2.1 h.2.2.2.2.2.2.2.1 h.2.2.2.2.2.2.2.2.1 h.2.2.2.2.2.2.2.2.2.1 h.2.2.2.2.2.2.2.2.2.2.1 s.1 s.2.1 s.2.2.1 s.2.2.2.1 s.2.2.2.2.1 s.2.2.2.2.2.1 s.2.2.2.2.2.2.1 s.2.2.2.2.2.2.2.1 s.2.2.2.2.2.2.2.2.1 s.2.2.2.2.2.2.2.2.2.1 s.2.2.2.2.2.2.2.2.2.2.1).bind fun b2 => (if b2 = true then (if h.2.2.2.2.2.2.2.2.2.2.2 = s.2.2.2.2.2.2.2.2.2.2.2 then ((laws_heldAcct.f k g.1 g.2.1 g.2.2.1 g.2.2.2.1 g.2.2.2.2.1 m.2.1 g.2.2.2.2.2.2.1 g.2.2.2.2.2.2.2.1 m.2.2.1 m.2.2.2.1 m.2.2.2.2 1).bind fun q2 => (if q2 < 0 then some false else (if q2 = m.1 then some true else some false))) else some false) else some false))) else some false)))) else some false) else some false))))
set_option maxHeartbeats 8000000 in
set_option maxRecDepth 100000 in
theorem laws_FnExactAcctNew.calls (k : Nat) (a0 : ByteArray) (a1 : Int) (a2 : Int) (a3 : Int) (a4 : Int) (a5 : Int) (r : Bool) (w : World) (h : laws_FnExactAcctNew.f k a0 a1 a2 a3 a4 a5 = some true) :
  Calls Try.prog 10 #[.string a0, .int .i64 a1, .int .i64 a2, .int .i64 a3, .int .i64 a4, .int .i64 a5] w fun e w' => e = .returned (.bool true) ∧ Below w.heap.size w w' := by
 have hu43 := Try.underlying43
 unfold laws_FnExactAcctNew.f at h
 have HB := Aside0.mk (Below.refl w.heap.size w)
 have m_ : Aside0 True := ⟨trivial⟩
 have M1 := m_
 by_cases e0 : (a0.size : Int) > 1048576
 ·clear h
  have e0b : decide (1048576 < (a0.size : Int)) = true := decide_eq_true e0
  have e0c : decide (1048576 < a0.size) = true := decide_eq_true (by omega)
  clear e0
  go_enter Try.func10, Try.ntmps10
  go_wp2
  go_ret
  exact ⟨rfl, HB.out⟩
 rw [if_neg e0] at h
 have e0b : decide (1048576 < (a0.size : Int)) = false := decide_eq_false e0
 have e0c : decide (1048576 < a0.size) = false := decide_eq_false (by omega)
 clear e0
 replace h := Option.bind_eq_some_iff.1 h
 obtain ⟨⟨s1, s2, s3, s4, s5, s6, s7, s8, s9, s10, s11, s12⟩, E_, h⟩ := h
 have E1 := Aside0.mk E_
 clear E_
 simp only [] at h
 replace h := Option.bind_eq_some_iff.1 h
 obtain ⟨⟨g1, g2, g3, g4, g5, g6, g7, g8, g9, g10, g11, g12⟩, E_, h⟩ := h
 have E2 := Aside0.mk E_
 clear E_
 simp only [] at h
 replace h := Option.bind_eq_some_iff.1 h
 obtain ⟨b1, E_, h⟩ := h
 have E3 := Aside0.mk E_
 clear E_
 by_cases b_ : b1 = true
 rotate_left
 ·rw [if_neg b_] at h; cases h
 rw [if_pos b_] at h
 subst b_
 by_cases e_ : g12 = s12
 rotate_left
 ·rw [if_neg e_] at h; cases h
 rw [if_pos e_] at h
 subst e_
 replace h := Option.bind_eq_some_iff.1 h
 obtain ⟨⟨m1, p5, p8, p9, p10⟩, E_, h⟩ := h
 have E4 := Aside0.mk E_
 clear E_
 simp only [] at h
 replace h := Option.bind_eq_some_iff.1 h
 obtain ⟨q1, E_, h⟩ := h
 have E5 := Aside0.mk E_
 clear E_
 by_cases e_ : q1 < 0
 ·rw [if_pos e_] at h; cases h
 rw [if_neg e_] at h
 have nq1 : decide (q1 < 0) = false := decide_eq_false e_
 clear e_
 by_cases e_ : q1 = m1
 rotate_left
 ·rw [if_neg e_] at h; cases h
 rw [if_pos e_] at h
 subst e_
 replace h := Option.bind_eq_some_iff.1 h
 obtain ⟨⟨h1, h2, h3, h4, h5, h6, h7, h8, h9, h10, h11, h12⟩, E_, h⟩ := h
 have E6 := Aside0.mk E_
 clear E_
 simp only [] at h
 replace h := Option.bind_eq_some_iff.1 h
 obtain ⟨b2, E_, h⟩ := h
 have E7 := Aside0.mk E_
 clear E_
 by_cases b_ : b2 = true
 rotate_left
 ·rw [if_neg b_] at h; cases h
 rw [if_pos b_] at h
 subst b_
 by_cases e_ : h12 = g12
 rotate_left
 ·rw [if_neg e_] at h; cases h
 rw [if_pos e_] at h
 subst e_
 replace h := Option.bind_eq_some_iff.1 h
 obtain ⟨q2, E_, h⟩ := h
 have E8 := Aside0.mk E_
 clear E_
 by_cases e_ : q2 < 0
 ·rw [if_pos e_] at h; cases h
 rw [if_neg e_] at h
 have nq2 : decide (q2 < 0) = false := decide_eq_false e_
 clear e_
 by_cases e_ : q2 = q1
 rotate_left
 ·rw [if_neg e_] at h; cases h
 rw [if_pos e_] at h
 subst e_
 clear h
 go_enter Try.func10, Try.ntmps10
 go_wp2_with (first | (go_at_call 52; clear M1; (with_reducible refine (spec_AcctNew.calls k a0 a1 a2 a3 a4 a5 s1 s2 s3 s4 s5 s6 s7 s8 s9 s10 s11 h12 _ E1.out).mono ?_); rintro e w1 ⟨v5, v8, v9, v10, rfl, o5, o8, o9, o10, hb_⟩; have M2 := m_; have hs_ := ac_made (base := w.heap.size) o5 o8 o9 o10 (Nat.le_refl _); clear o5 o8 o9 o10; obtain ⟨A1_5, c1_5, A1_8, c1_8, A1_9, c1_9, A1_10, c1_10, rfl, rfl, rfl, rfl⟩ := ac_slices hs_; have HS := Aside0.mk hs_; have HB := Aside0.mk (below_then HB.out HB.out.size hb_); clear hs_ hb_) | (go_at_call 53; clear M2; (with_reducible refine (impl_AcctNew.calls k a0 a1 a2 a3 a4 a5 g1 g2 g3 g4 g5 g6 g7 g8 g9 g10 g11 h12 _ E2.out).mono ?_); rintro e w2 ⟨v5, v8, v9, v10, rfl, o5, o8, o9, o10, hb_⟩; have M3 := m_; have hs_ := ac_made (base := w.heap.size) o5 o8 o9 o10 (by have := HB.out.size; simp; omega); clear o5 o8 o9 o10; obtain ⟨A2_5, c2_5, A2_8, c2_8, A2_9, c2_9, A2_10, c2_10, rfl, rfl, rfl, rfl⟩ := ac_slices hs_; have HG := Aside0.mk (ac_mono hs_ (fun k_ h_ => (⟨by simpa using h_.1, h_.2⟩ : w1.heap.size + 1 ≤ k_ ∧ k_ < w2.heap.size))); have X1 := Aside0.mk ((hb_.block _ (by simp)).trans (heap_alloc_new w1 _)); have HS := Aside0.mk (ac_below (ac_alloc HS.out _) hb_); have HB := Aside0.mk (below_then (below_alloc HB.out _) (below_alloc HB.out _).size hb_); obtain ⟨x2_0, x2_1, x2_2, x2_3, x2_4, x2_5, x2_6, x2_7, x2_8, x2_9, x2_10⟩ := blk11 X1.out; have x2_lt := blk_lt X1.out; clear hs_ hb_) | (go_at_call 30; clear M3; (with_reducible refine (laws_eqAcct.calls k g1 g2 g3 g4 g5 _ _ g6 g7 g8 _ _ g9 _ _ g10 _ _ g11 s1 s2 s3 s4 s5 _ _ s6 s7 s8 _ _ s9 _ _ s10 _ _ s11 true _ (Kd.R_reads' (ac_5 (ac_alloc HG.out _))).2.2 (Kd.R_reads' (ac_5 HG.out)).2.1 (Kd.R_reads' (ac_8 (ac_alloc HG.out _))).2.2 (Kd.R_reads' (ac_8 HG.out)).2.1 (Kd.R_reads' (ac_9 (ac_alloc HG.out _))).2.2 (Kd.R_reads' (ac_9 HG.out)).2.1 (Kd.S_reads' (ac_10 (ac_alloc HG.out _))).2.2 (Kd.S_reads' (ac_10 HG.out)).2.1 (Kd.R_reads' (ac_5 (ac_alloc HS.out _))).2.2 (Kd.R_reads' (ac_5 HS.out)).2.1 (Kd.R_reads' (ac_8 (ac_alloc HS.out _))).2.2 (Kd.R_reads' (ac_8 HS.out)).2.1 (Kd.R_reads' (ac_9 (ac_alloc HS.out _))).2.2 (Kd.R_reads' (ac_9 HS.out)).2.1 (Kd.S_reads' (ac_10 (ac_alloc HS.out _))).2.2 (Kd.S_reads' (ac_10 HS.out)).2.1 E3.out).mono ?_); rintro e w3 ⟨rfl, hb_⟩; have M4 := m_; have X1 := Aside0.mk ((hb_.block _ (blk_lt (blk_alloc X1.out _))).trans (blk_alloc X1.out _)); have X2 := Aside0.mk ((hb_.block _ (by simp)).trans (heap_alloc_new w2 _)); have HS := Aside0.mk (ac_below (ac_alloc HS.out _) hb_); have HG := Aside0.mk (ac_below (ac_alloc HG.out _) hb_); have HB := Aside0.mk (below_then (below_alloc HB.out _) (below_alloc HB.out _).size hb_); obtain ⟨y3_0, y3_1, y3_2, y3_3, y3_4, y3_5, y3_6, y3_7, y3_8, y3_9, y3_10⟩ := blk11 X2.out; have y3_lt := blk_lt X2.out; clear hb_) | (go_at_call 54; clear M4; (with_reducible refine (laws_markAcct.calls k (fun k_ => w1.heap.size + 1 ≤ k_ ∧ k_ < w2.heap.size) g1 g2 g3 g4 g5 _ _ g6 g7 g8 _ _ g9 _ _ g10 _ _ g11 1 q2 p5 p8 p9 p10 w _ HB.out HG.out E4.out).mono ?_); rintro e w4 ⟨rfl, ho_, hb_, hk_⟩; have M5 := m_; obtain ⟨e5, e8, e9, e10⟩ := ac_len ho_; have x1_ := (hk_.2 _ (blk_lt X1.out) (fun g_ => by have := g_.1; omega)).trans X1.out; have x2_ := (hk_.2 _ (blk_lt X2.out) (fun g_ => by have := g_.2; omega)).trans X2.out; have hs_ := ac_step HS.out (fun k_ h_ l_ => hk_.2 k_ l_ (fun g_ => by have h1 := h_.2; have g1 := g_.1; omega)); rw [e5, e8, e9, e10] at ho_ x2_; have HG := Aside0.mk ho_; have X1 := Aside0.mk x1_; have X2 := Aside0.mk x2_; have HS := Aside0.mk hs_; have HB := Aside0.mk hb_; clear e5 e8 e9 e10 x1_ x2_ hs_ ho_ hb_ hk_; obtain ⟨y4_0, y4_1, y4_2, y4_3, y4_4, y4_5, y4_6, y4_7, y4_8, y4_9, y4_10⟩ := blk11 X2.out; have y4_lt := blk_lt X2.out) | (go_at_call 55; clear M5; (with_reducible refine (laws_heldAcct.calls k g1 g2 g3 g4 g5 _ _ p5 g7 g8 _ _ p8 _ _ p9 _ _ p10 1 q2 _ (Kd.R_reads' (ac_5 HG.out)).2.2 (Kd.R_reads' (ac_5 HG.out)).2.1 (Kd.R_reads' (ac_8 HG.out)).2.2 (Kd.R_reads' (ac_8 HG.out)).2.1 (Kd.R_reads' (ac_9 HG.out)).2.2 (Kd.R_reads' (ac_9 HG.out)).2.1 (Kd.S_reads' (ac_10 HG.out)).2.2 (Kd.S_reads' (ac_10 HG.out)).2.1 E5.out).mono ?_); rintro e w5 ⟨rfl, hb_⟩; have M6 := m_; have X1 := Aside0.mk ((hb_.block _ (blk_lt X1.out)).trans X1.out); have X2 := Aside0.mk ((hb_.block _ (blk_lt X2.out)).trans X2.out); have HS := Aside0.mk (ac_below HS.out hb_); have HG := Aside0.mk (ac_below HG.out hb_); have HB := Aside0.mk (below_then HB.out HB.out.size hb_); clear hb_) | (go_at_call 53; clear M6; (with_reducible refine (impl_AcctNew.calls k a0 a1 a2 a3 a4 a5 h1 h2 h3 h4 h5 h6 h7 h8 h9 h10 h11 h12 _ E6.out).mono ?_); rintro e w6 ⟨v5, v8, v9, v10, rfl, o5, o8, o9, o10, hb_⟩; have M7 := m_; have hs_ := ac_made (base := w.heap.size) o5 o8 o9 o10 HB.out.size; clear o5 o8 o9 o10; obtain ⟨A6_5, c6_5, A6_8, c6_8, A6_9, c6_9, A6_10, c6_10, rfl, rfl, rfl, rfl⟩ := ac_slices hs_; have HH := Aside0.mk hs_; have X1 := Aside0.mk ((hb_.block _ (blk_lt X1.out)).trans X1.out); have X2 := Aside0.mk ((hb_.block _ (blk_lt X2.out)).trans X2.out); have HS := Aside0.mk (ac_below HS.out hb_); have HG := Aside0.mk (ac_below HG.out hb_); have HB := Aside0.mk (below_then HB.out HB.out.size hb_); obtain ⟨x6_0, x6_1, x6_2, x6_3, x6_4, x6_5, x6_6, x6_7, x6_8, x6_9, x6_10⟩ := blk11 X1.out; have x6_lt := blk_lt X1.out; clear hs_ hb_) | (go_at_call 30; clear M7; (with_reducible refine (laws_eqAcct.calls k h1 h2 h3 h4 h5 _ _ h6 h7 h8 _ _ h9 _ _ h10 _ _ h11 s1 s2 s3 s4 s5 _ _ s6 s7 s8 _ _ s9 _ _ s10 _ _ s11 true _ (Kd.R_reads' (ac_5 (ac_alloc HH.out _))).2.2 (Kd.R_reads' (ac_5 HH.out)).2.1 (Kd.R_reads' (ac_8 (ac_alloc HH.out _))).2.2 (Kd.R_reads' (ac_8 HH.out)).2.1 (Kd.R_reads' (ac_9 (ac_alloc HH.out _))).2.2 (Kd.R_reads' (ac_9 HH.out)).2.1 (Kd.S_reads' (ac_10 (ac_alloc HH.out _))).2.2 (Kd.S_reads' (ac_10 HH.out)).2.1 (Kd.R_reads' (ac_5 (ac_alloc HS.out _))).2.2 (Kd.R_reads' (ac_5 HS.out)).2.1 (Kd.R_reads' (ac_8 (ac_alloc HS.out _))).2.2 (Kd.R_reads' (ac_8 HS.out)).2.1 (Kd.R_reads' (ac_9 (ac_alloc HS.out _))).2.2 (Kd.R_reads' (ac_9 HS.out)).2.1 (Kd.S_reads' (ac_10 (ac_alloc HS.out _))).2.2 (Kd.S_reads' (ac_10 HS.out)).2.1 E7.out).mono ?_); rintro e w7 ⟨rfl, hb_⟩; have M8 := m_; have X1 := Aside0.mk ((hb_.block _ (blk_lt (blk_alloc X1.out _))).trans (blk_alloc X1.out _)); have X2 := Aside0.mk ((hb_.block _ (blk_lt (blk_alloc X2.out _))).trans (blk_alloc X2.out _)); have HS := Aside0.mk (ac_below (ac_alloc HS.out _) hb_); have HG := Aside0.mk (ac_below (ac_alloc HG.out _) hb_); have HB := Aside0.mk (below_then (below_alloc HB.out _) (below_alloc HB.out _).size hb_); obtain ⟨y7_0, y7_1, y7_2, y7_3, y7_4, y7_5, y7_6, y7_7, y7_8, y7_9, y7_10⟩ := blk11 X2.out; have y7_lt := blk_lt X2.out; clear hb_) | (go_at_call 55; clear M8; (with_reducible refine (laws_heldAcct.calls k g1 g2 g3 g4 g5 _ _ p5 g7 g8 _ _ p8 _ _ p9 _ _ p10 1 q2 _ (Kd.R_reads' (ac_5 HG.out)).2.2 (Kd.R_reads' (ac_5 HG.out)).2.1 (Kd.R_reads' (ac_8 HG.out)).2.2 (Kd.R_reads' (ac_8 HG.out)).2.1 (Kd.R_reads' (ac_9 HG.out)).2.2 (Kd.R_reads' (ac_9 HG.out)).2.1 (Kd.S_reads' (ac_10 HG.out)).2.2 (Kd.S_reads' (ac_10 HG.out)).2.1 E8.out).mono ?_); rintro e w8 ⟨rfl, hb_⟩; have M9 := m_; have X1 := Aside0.mk ((hb_.block _ (blk_lt X1.out)).trans X1.out); have X2 := Aside0.mk ((hb_.block _ (blk_lt X2.out)).trans X2.out); have HS := Aside0.mk (ac_below HS.out hb_); have HG := Aside0.mk (ac_below HG.out hb_); have HB := Aside0.mk (below_then HB.out HB.out.size hb_); clear hb_))
 go_ret
 exact ⟨rfl, HB.out⟩
/-- THE ONE PURE STATEMENT of laws_FnExactAcctNew. -/
def laws_FnExactAcctNew.Pure : Prop := ∀ (a0 : ByteArray) (a1 : Int) (a2 : Int) (a3 : Int) (a4 : Int) (a5 : Int), (a0.size ≤ maxLen) → ((Lit.int .i64 a1).wf = true) → ((Lit.int .i64 a2).wf = true) → ((Lit.int .i64 a3).wf = true) → ((Lit.int .i64 a4).wf = true) → ((Lit.int .i64 a5).wf = true) → ∃ k, laws_FnExactAcctNew.f k a0 a1 a2 a3 a4 a5 = some true
end Go.Proofs.Ytepjnalkpfnmcaa.QFnExactAcctNew
