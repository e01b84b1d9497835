-- by my own printer (myprint.py, over the kit's print.py)
import Derived.Test.YtepjnalkpfnmcaaQFnExactAcctNewx0
import Derived.Test.YtepjnalkpfnmcaaQFnExactAcctNewx2
namespace Go.Proofs.Ytepjnalkpfnmcaa.QFnExactAcctNew
open Go.RowKit Go.Proofs.YtepjnalkpfnmcaaW.PrintWords Go.Proofs.YtepjnalkpfnmcaaW.PrintLast Go.Proofs.YtepjnalkpfnmcaaW.PrintMore
attribute [local go_sem] max2_int min2_int max_two min_two max_three min_three max_four min_four   -- for this text's walks alone
set_option linter.unusedVariables false
set_option linter.unusedSimpArgs false
attribute [local go_sem] my_geq my_leq my_gtr
/-! ### spec_SlotOk: function 163 -/
def spec_SlotOk.f (k : Nat) (a0_0 : ByteArray) (a0_1 : ByteArray) (l0_2 : List Int) : Option (Bool) := (spec_Digits.f k a0_0).bind fun t135 => (if t135 = true then (if (a0_0.size : Int) = 6 then ((spec_Digits.f k a0_1).bind fun t136 => (if t136 = true then (if (a0_1.size : Int) = 4 then ((spec_l01In.f (l0_2.length : Int) 1 200).bind fun t137 => (some t137)) else (some false)) else (some false))) else (some false)) else (some false))
set_option maxHeartbeats 8000000 in
set_option maxRecDepth 100000 in
theorem spec_SlotOk.calls (k : Nat) (a0_0 : ByteArray) (a0_1 : ByteArray) (A0_2 : Option Addr) (c0_2 : Nat) (l0_2 : List Int) (r : Bool) (w : World) (hr0_2 : Kd.C (Kd.int .u8) w A0_2 l0_2.length l0_2) (hc0_2 : l0_2.length ≤ c0_2) (h : spec_SlotOk.f k a0_0 a0_1 l0_2 = some r) :
  Calls Try.prog 163 #[.agg #[.string a0_0, .string a0_1, .slice A0_2 l0_2.length c0_2]] w fun e w' => e = .returned (.bool r) ∧ Below w.heap.size w w' := by
 have hu74 := Try.underlying74
 have HR0_2 := Aside0.mk hr0_2
 have HC0_2 := Aside0.mk hc0_2
 clear hr0_2 hc0_2
 have HB := Aside0.mk (Below.refl w.heap.size w)
 have H : ((spec_Digits.f k a0_0).bind fun t135 => (if t135 = true then (if (a0_0.size : Int) = 6 then ((spec_Digits.f k a0_1).bind fun t136 => (if t136 = true then (if (a0_1.size : Int) = 4 then ((spec_l01In.f (l0_2.length : Int) 1 200).bind fun t137 => (some t137)) else (some false)) else (some false))) else (some false)) else (some false))) = some r := h
 clear h
 obtain ⟨t135, A2, H⟩ := ob_ H
 by_cases c3 : t135 = true
 ·subst c3
  replace H := ip_ H
  by_cases c4 : (a0_0.size : Int) = 6
  ·rw [if_pos c4] at H
   have c4b0 : ((a0_0.size : Int) == 6) = true := beq_iff_eq.mpr c4
   have c4b1 : ((a0_0.size : Int) != 6) = false := bne_eq_false_iff_eq.mpr c4
   clear c4
   obtain ⟨t136, A5, H⟩ := ob_ H
   by_cases c6 : t136 = true
   ·subst c6
    replace H := ip_ H
    by_cases c7 : (a0_1.size : Int) = 4
    ·rw [if_pos c7] at H
     have c7b0 : ((a0_1.size : Int) == 4) = true := beq_iff_eq.mpr c7
     have c7b1 : ((a0_1.size : Int) != 4) = false := bne_eq_false_iff_eq.mpr c7
     clear c7
     obtain ⟨t137, A8, H⟩ := ob_ H
     obtain rfl := Option.some.inj H
     go_enter Try.func163, Try.ntmps163
     go_wp2_with (first | ((with_reducible refine gate_dst (N := 1) rfl ?_); (try (refine gate_guard (by rfl) ?_; dsimp only)); refine be_ (N := 1) (cs := #[.string a0_0, .string a0_1, .slice A0_2 l0_2.length c0_2]) (t := 74) ?_; intro gb134 hg w9 hbox hb; have BK134 := Aside0.mk (hbox); have GW134 := gw_ (w := w) hg; have GE134 := gw_ (w := w) hg; replace HB := Aside0.mk (below_step bl_ hb); clear hb hbox hg; obtain ⟨hcz10_0, hcz10_1, hcz10_2, hfz10_0, hfz10_1, hfz10_2⟩ := bx3_ BK134) | ((with_reducible refine gate_callee (f := 188) rfl ?_); refine goesL_ (some 5) rfl rfl Try.func188 (by kernel_rfl) rfl #[.string a0_0] rfl gl_ ?_; (with_reducible refine (spec_Digits.calls k a0_0 true _ A2.out).mono ?_); rintro e w' ⟨rfl, ⟨nd, rfl⟩⟩; refine ⟨_, rfl, ?_⟩) | (go_at_call 188; (with_reducible refine (spec_Digits.calls k a0_1 true _ A5.out).mono ?_); rintro e w' ⟨rfl, ⟨nd, rfl⟩⟩) | (go_at_call 140; (with_reducible refine (spec_l01In.calls (l0_2.length : Int) 1 200 t137 _ A8.out).mono ?_); rintro e w' ⟨rfl, ⟨nd, rfl⟩⟩))
     go_ret
     exact ⟨sq_, bl_⟩
    ·rw [if_neg c7] at H
     have c7b0 : ((a0_1.size : Int) == 4) = false := beq_eq_false_iff_ne.mpr c7
     have c7b1 : ((a0_1.size : Int) != 4) = true := bne_iff_ne.mpr c7
     obtain rfl := Option.some.inj H
     go_enter Try.func163, Try.ntmps163
     go_wp2_with (first | ((with_reducible refine gate_dst (N := 1) rfl ?_); (try (refine gate_guard (by rfl) ?_; dsimp only)); refine be_ (N := 1) (cs := #[.string a0_0, .string a0_1, .slice A0_2 l0_2.length c0_2]) (t := 74) ?_; intro gb134 hg w11 hbox hb; have BK134 := Aside0.mk (hbox); have GW134 := gw_ (w := w) hg; have GE134 := gw_ (w := w) hg; replace HB := Aside0.mk (below_step bl_ hb); clear hb hbox hg; obtain ⟨hcz12_0, hcz12_1, hcz12_2, hfz12_0, hfz12_1, hfz12_2⟩ := bx3_ BK134) | ((with_reducible refine gate_callee (f := 188) rfl ?_); refine goesL_ (some 5) rfl rfl Try.func188 (by kernel_rfl) rfl #[.string a0_0] rfl gl_ ?_; (with_reducible refine (spec_Digits.calls k a0_0 true _ A2.out).mono ?_); rintro e w' ⟨rfl, ⟨nd, rfl⟩⟩; refine ⟨_, rfl, ?_⟩) | (go_at_call 188; (with_reducible refine (spec_Digits.calls k a0_1 true _ A5.out).mono ?_); rintro e w' ⟨rfl, ⟨nd, rfl⟩⟩))
     go_ret
     exact ⟨sq_, bl_⟩
   ·replace c6 := Bool.eq_false_iff.mpr c6
    subst c6
    replace H := in_ H
    obtain rfl := Option.some.inj H
    go_enter Try.func163, Try.ntmps163
    go_wp2_with (first | ((with_reducible refine gate_dst (N := 1) rfl ?_); (try (refine gate_guard (by rfl) ?_; dsimp only)); refine be_ (N := 1) (cs := #[.string a0_0, .string a0_1, .slice A0_2 l0_2.length c0_2]) (t := 74) ?_; intro gb134 hg w13 hbox hb; have BK134 := Aside0.mk (hbox); have GW134 := gw_ (w := w) hg; have GE134 := gw_ (w := w) hg; replace HB := Aside0.mk (below_step bl_ hb); clear hb hbox hg; obtain ⟨hcz14_0, hcz14_1, hcz14_2, hfz14_0, hfz14_1, hfz14_2⟩ := bx3_ BK134) | ((with_reducible refine gate_callee (f := 188) rfl ?_); refine goesL_ (some 5) rfl rfl Try.func188 (by kernel_rfl) rfl #[.string a0_0] rfl gl_ ?_; (with_reducible refine (spec_Digits.calls k a0_0 true _ A2.out).mono ?_); rintro e w' ⟨rfl, ⟨nd, rfl⟩⟩; refine ⟨_, rfl, ?_⟩) | (go_at_call 188; (with_reducible refine (spec_Digits.calls k a0_1 false _ A5.out).mono ?_); rintro e w' ⟨rfl, ⟨nd, rfl⟩⟩))
    go_ret
    exact ⟨sq_, bl_⟩
  ·rw [if_neg c4] at H
   have c4b0 : ((a0_0.size : Int) == 6) = false := beq_eq_false_iff_ne.mpr c4
   have c4b1 : ((a0_0.size : Int) != 6) = true := bne_iff_ne.mpr c4
   obtain rfl := Option.some.inj H
   go_enter Try.func163, Try.ntmps163
   go_wp2_with (first | ((with_reducible refine gate_dst (N := 1) rfl ?_); (try (refine gate_guard (by rfl) ?_; dsimp only)); refine be_ (N := 1) (cs := #[.string a0_0, .string a0_1, .slice A0_2 l0_2.length c0_2]) (t := 74) ?_; intro gb134 hg w15 hbox hb; have BK134 := Aside0.mk (hbox); have GW134 := gw_ (w := w) hg; have GE134 := gw_ (w := w) hg; replace HB := Aside0.mk (below_step bl_ hb); clear hb hbox hg; obtain ⟨hcz16_0, hcz16_1, hcz16_2, hfz16_0, hfz16_1, hfz16_2⟩ := bx3_ BK134) | ((with_reducible refine gate_callee (f := 188) rfl ?_); refine goesL_ (some 5) rfl rfl Try.func188 (by kernel_rfl) rfl #[.string a0_0] rfl gl_ ?_; (with_reducible refine (spec_Digits.calls k a0_0 true _ A2.out).mono ?_); rintro e w' ⟨rfl, ⟨nd, rfl⟩⟩; refine ⟨_, rfl, ?_⟩))
   go_ret
   exact ⟨sq_, bl_⟩
 ·replace c3 := Bool.eq_false_iff.mpr c3
  subst c3
  replace H := in_ H
  obtain rfl := Option.some.inj H
  go_enter Try.func163, Try.ntmps163
  go_wp2_with (first | ((with_reducible refine gate_dst (N := 1) rfl ?_); (try (refine gate_guard (by rfl) ?_; dsimp only)); refine be_ (N := 1) (cs := #[.string a0_0, .string a0_1, .slice A0_2 l0_2.length c0_2]) (t := 74) ?_; intro gb134 hg w17 hbox hb; have BK134 := Aside0.mk (hbox); have GW134 := gw_ (w := w) hg; have GE134 := gw_ (w := w) hg; replace HB := Aside0.mk (below_step bl_ hb); clear hb hbox hg; obtain ⟨hcz18_0, hcz18_1, hcz18_2, hfz18_0, hfz18_1, hfz18_2⟩ := bx3_ BK134) | ((with_reducible refine gate_callee (f := 188) rfl ?_); refine goesL_ (some 5) rfl rfl Try.func188 (by kernel_rfl) rfl #[.string a0_0] rfl gl_ ?_; (with_reducible refine (spec_Digits.calls k a0_0 false _ A2.out).mono ?_); rintro e w' ⟨rfl, ⟨nd, rfl⟩⟩; refine ⟨_, rfl, ?_⟩))
  go_ret
  exact ⟨sq_, bl_⟩
/-! ### spec_SlotsOk: function 112 -/
mutual
def spec_SlotsOk.l0 : Nat → List (S74) → List (S74) → Int → Int → Option (Bool)
 | 0, _, _, _, _ => none
 | k + 1, x0, x7, x8, x9 => if x9 < x8 then (if 0 ≤ x9 then (if x9 < (x7.length : Int) then ((spec_SlotOk.f k ((rd_T74 x7 x9).f0) ((rd_T74 x7 x9).f1) ((rd_T74 x7 x9).f2)).bind fun t140 => (if t140 = true then (if x9 ≤ (x0.length : Int) then ((some (x0.take (x9 : Int).toNat : List (S74))).bind fun y141 => (spec_SlotsOk.l1 k x0 x7 x8 x9 y141 (y141.length : Int) 0 ((rd_T74 x7 x9).f0) ((rd_T74 x7 x9).f1) ((rd_T74 x7 x9).f2))) else (none)) else (some false))) else (none)) else (none)) else (some (decide ((x0.length : Int) ≤ 6)))
def spec_SlotsOk.l1 : Nat → List (S74) → List (S74) → Int → Int → List (S74) → Int → Int → ByteArray → ByteArray → List Int → Option (Bool)
 | 0, _, _, _, _, _, _, _, _, _, _ => none
 | k + 1, x0, x7, x8, x9, x19, x20, x21, x140000, x140001, x140002 => if x21 < x20 then (if 0 ≤ x21 then (if x21 < (x19.length : Int) then (if ((rd_T74 x19 x21).f0).toList = x140000.toList then (if ((rd_T74 x19 x21).f1).toList = x140001.toList then (some false) else (spec_SlotsOk.l1 k x0 x7 x8 x9 x19 x20 (wrap64 (x21 + 1)) x140000 x140001 x140002)) else (spec_SlotsOk.l1 k x0 x7 x8 x9 x19 x20 (wrap64 (x21 + 1)) x140000 x140001 x140002)) else (none)) else (none)) else (spec_SlotsOk.l0 k x0 x7 x8 (wrap64 (x9 + 1)))
end
def spec_SlotsOk.f (k : Nat) (l0 : List (S74)) : Option (Bool) := spec_SlotsOk.l0 k l0 l0 (l0.length : Int) 0
set_option maxHeartbeats 8000000 in
set_option maxRecDepth 100000 in
theorem spec_SlotsOk.calls (k : Nat) (A0 : Option Addr) (c0 : Nat) (l0 : List (S74)) (r : Bool) (w : World) (hr0 : Kd.C k74 w A0 l0.length l0) (hc0 : l0.length ≤ c0) (h : spec_SlotsOk.f k l0 = some r) :
  Calls Try.prog 112 #[.slice A0 l0.length c0] w fun e w' => e = .returned (.bool r) ∧ Below w.heap.size w w' := by
 have hu74 := Try.underlying74
 have HR0 := Aside0.mk hr0
 have HC0 := Aside0.mk hc0
 clear hr0 hc0
 have HB := Aside0.mk (Below.refl w.heap.size w)
 have H : (spec_SlotsOk.l0 k l0 l0 (l0.length : Int) 0) = some r := h
 clear h
 have H' := Aside0.mk H
 clear H
 go_enter Try.func112, Try.ntmps112
 go_wp2
 go_loopg [9] k (fun kq v9 w' => ∃ (x9_1 : Int), v9 = .int .i64 x9_1 ∧ Aside0 (spec_SlotsOk.l0 kq l0 l0 (l0.length : Int) x9_1 = some r) ∧ Aside0 (kq ≤ k) ∧ Aside0 (Below w.heap.size w w'))
 case atStart => exact ⟨(0), sp_, H', ⟨Nat.le_refl _⟩, ⟨bl_⟩⟩
 case round =>
  clear H'
  try clear c1
  obtain ⟨x9_1, rfl, HA, HK1, HB⟩ := hrel
  cases gk with
  | zero => exact absurd HA.out (by simp [spec_SlotsOk.l0])
  | succ k1 =>
   have H := HA.out
   clear HA
   simp only [spec_SlotsOk.l0] at H
   by_cases c2 : x9_1 < (l0.length : Int)
   ·rw [if_pos c2] at H
    have c2b0 : decide (x9_1 < (l0.length : Int)) = true := decide_eq_true c2
    clear c2
    by_cases c3 : 0 ≤ x9_1
    ·rw [if_pos c3] at H
     have c3b0 : decide (0 ≤ x9_1) = true := decide_eq_true c3
     clear c3
     by_cases c4 : x9_1 < (l0.length : Int)
     ·rw [if_pos c4] at H
      have c4b0 : decide (x9_1 < (l0.length : Int)) = true := decide_eq_true c4
      clear c4
      obtain ⟨t140, A5, H⟩ := ob_ H
      by_cases c6 : t140 = true
      ·subst c6
       replace H := ip_ H
       have c7b0 := eq_true (od_ : 0 ≤ x9_1)
       by_cases c8 : x9_1 ≤ (l0.length : Int)
       ·rw [if_pos c8] at H
        have c8b0 := eq_true c8
        have c8b1 : decide (x9_1 ≤ (l0.length : Int)) = true := decide_eq_true c8
        clear c8
        obtain ⟨y141, hy141⟩ : ∃ y_ : List (S74), y_ = (l0.take (x9_1 : Int).toNat) := ⟨_, rfl⟩
        replace H : (spec_SlotsOk.l1 k1 l0 l0 (l0.length : Int) x9_1 y141 (y141.length : Int) 0 ((rd_T74 l0 x9_1).f0) ((rd_T74 l0 x9_1).f1) ((rd_T74 l0 x9_1).f2)) = some r := by first | (rw [hy141]; with_reducible exact H) | (have H2_ := (Option.bind_some _ _).symm.trans H; rw [hy141]; with_reducible exact H2_) | (have H2_ := (Option.bind_some _ _).symm.trans H; with_reducible exact H2_) | with_reducible exact H | (rw [hy141]; exact H) | exact H
        have Ny141 := Aside0.mk hy141
        clear hy141
        have H' := Aside0.mk H
        clear H
        have p138 : 0 ≤ (x9_1 : Int) := od_
        have q138 : x9_1 < (l0.length : Int) := od_
        obtain ⟨ad138, A138_2, c138_2, e138, hx138_0, hx138_1, hx138_2, hl138_2, hi138_2⟩ := at_T74 HR0.out x9_1 p138 q138
        cases e138
        replace hx138_0 := kc_ HB hx138_0
        replace hx138_1 := kc_ HB hx138_1
        replace hx138_2 := kc_ HB hx138_2
        have HR138_2 := Aside0.mk hi138_2
        have HC138_2 := Aside0.mk hl138_2
        clear hi138_2 hl138_2
        replace p138 := eq_true p138
        replace q138 := eq_true q138
        go_wp2_with (first | ((with_reducible refine gate_dst (N := 4) rfl ?_); refine be_ (N := 4) (cs := #[.string (⟨#[]⟩ : ByteArray), .string (⟨#[]⟩ : ByteArray), .slice none 0 0]) (t := 74) ?_; intro gb139 hg w9 hbox hb; have BK139 := Aside0.mk (hbox); have GW139 := gw_ (w := w) hg; have GE139 := gw_ (w := w) hg; replace HB := Aside0.mk (below_step bl_ hb); clear hb hbox hg; obtain ⟨hcz10_0, hcz10_1, hcz10_2, hfz10_0, hfz10_1, hfz10_2⟩ := bx3_ BK139) | ((with_reducible refine gate_callee (f := 163) rfl ?_); refine goesL_ (some 15) rfl rfl Try.func163 (by kernel_rfl) rfl #[.agg #[.string ((rd_T74 l0 x9_1).f0), .string ((rd_T74 l0 x9_1).f1), .slice A138_2 ((rd_T74 l0 x9_1).f2).length c138_2]] rfl gl_ ?_; (with_reducible refine (spec_SlotOk.calls k1 ((rd_T74 l0 x9_1).f0) ((rd_T74 l0 x9_1).f1) _ _ ((rd_T74 l0 x9_1).f2) true _ ?side1 ?side2 A5.out).mono ?_); (case side1 => exact Kd.C_below HR138_2.out bl_); (case side2 => exact HC138_2.out); rintro e w11 ⟨rfl, hb⟩; refine ⟨_, rfl, ?_⟩; replace BK139 := Aside0.mk (blk_below (g := gb139) (o := .cells #[.string ((rd_T74 l0 x9_1).f0), .string ((rd_T74 l0 x9_1).f1), .slice A138_2 ((rd_T74 l0 x9_1).f2).length c138_2] 74 (0, 0)) (by (with_reducible repeat (first | refine blk_drewN ?_ _ | refine blk_drew ?_ | refine blk_alloc ?_ _)); apply bq3_2_1_0_; (with_reducible repeat (first | refine blk_drewN ?_ _ | refine blk_drew ?_ | refine blk_alloc ?_ _)); exact BK139.out) hb); replace HB := Aside0.mk (below_step bl_ hb); (try clear hb); (try clear hb2); (try clear hk); (try clear hi); have q12 : (x9_1 : Int) ≤ ((l0.length : Int) : Int) := od_; obtain ⟨i012, hi012, _, hsz12, _⟩ := info_parts info74; have hroom12 : l0.length ≤ c0 := HC0.out; have hC12 : Kd.C k74 _ (some ad138) l0.length l0 := HR0.out; have hcut12 := cut_to (P := Try.prog) 41 74 .i64 Try.underlying41 hi012 (some ad138) l0.length c0 x9_1 od_ q12 hroom12; have hr12 := Kd.C_take (m := (x9_1 : Int).toNat) hC12 (by omega); have hy12 : y141.length = (x9_1 : Int).toNat := (by rw [Ny141.out, List.length_take]; omega); rw [← Ny141.out] at hr12; rw [← hy12] at hcut12; have HR144 := Aside0.mk hr12; have HC144 := Aside0.mk (show y141.length ≤ c0 from by omega); clear hr12 hC12 hroom12 hi012 hsz12; have KY12 := Aside0.mk hy12; clear hy12; replace q12 := eq_true q12))
        go_loopg [21] k1 (fun kq v21 w' => ∃ (x21_2 : Int), v21 = .int .i64 x21_2 ∧ Aside0 (spec_SlotsOk.l1 kq l0 l0 (l0.length : Int) x9_1 y141 (y141.length : Int) x21_2 ((rd_T74 l0 x9_1).f0) ((rd_T74 l0 x9_1).f1) ((rd_T74 l0 x9_1).f2) = some r) ∧ Aside0 (kq ≤ k1) ∧ Aside0 (w'.heap[gb139]? = some (.cells #[.string ((rd_T74 l0 x9_1).f0), .string ((rd_T74 l0 x9_1).f1), (.slice A138_2 ((rd_T74 l0 x9_1).f2).length c138_2)] 74 (0, 0))) ∧ Aside0 (Below w.heap.size w w'))
        case atStart => exact ⟨(0), sp_, H', ⟨Nat.le_refl _⟩, ⟨by (with_reducible repeat (first | refine blk_drewN ?_ _ | refine blk_drew ?_ | refine blk_alloc ?_ _)); exact BK139.out⟩, ⟨bl_⟩⟩
        case round =>
         clear H'
         try clear c1
         try clear p1
         try clear q1
         try clear hx1
         try clear c2
         try clear c2b0
         try clear p2
         try clear c3
         try clear c3b0
         try clear c4
         try clear c4b0
         try clear c6
         try clear c7
         try clear c7b0
         try clear c8
         try clear c8b0
         try clear c8b1
         try clear c11
         try clear q12
         try clear hcz10_0
         try clear hcz10_1
         try clear hcz10_2
         try clear hfz10_0
         try clear hfz10_1
         try clear hfz10_2
         try clear hx138_0
         try clear hx138_1
         try clear hx138_2
         try clear p138
         try clear q12
         try clear q138
         obtain ⟨x21_2, rfl, HA, HK2, BK139, HB⟩ := hrel
         cases gk with
         | zero => exact absurd HA.out (by simp [spec_SlotsOk.l1])
         | succ k2 =>
          have H := HA.out
          clear HA
          simp only [spec_SlotsOk.l1] at H
          by_cases c13 : x21_2 < (y141.length : Int)
          ·rw [if_pos c13] at H
           have c13b0 : decide (x21_2 < (y141.length : Int)) = true := decide_eq_true c13
           clear c13
           by_cases c14 : 0 ≤ x21_2
           ·rw [if_pos c14] at H
            have c14b0 : decide (0 ≤ x21_2) = true := decide_eq_true c14
            clear c14
            by_cases c15 : x21_2 < (y141.length : Int)
            ·rw [if_pos c15] at H
             have c15b0 : decide (x21_2 < (y141.length : Int)) = true := decide_eq_true c15
             clear c15
             by_cases c16 : ((rd_T74 y141 x21_2).f0).toList = ((rd_T74 l0 x9_1).f0).toList
             ·rw [if_pos c16] at H
              have c16b0 : (((rd_T74 y141 x21_2).f0).toList == ((rd_T74 l0 x9_1).f0).toList) = true := beq_iff_eq.mpr c16
              have c16b1 : (((rd_T74 y141 x21_2).f0).toList != ((rd_T74 l0 x9_1).f0).toList) = false := bne_eq_false_iff_eq.mpr c16
              clear c16
              by_cases c17 : ((rd_T74 y141 x21_2).f1).toList = ((rd_T74 l0 x9_1).f1).toList
              ·rw [if_pos c17] at H
               have c17b0 : (((rd_T74 y141 x21_2).f1).toList == ((rd_T74 l0 x9_1).f1).toList) = true := beq_iff_eq.mpr c17
               have c17b1 : (((rd_T74 y141 x21_2).f1).toList != ((rd_T74 l0 x9_1).f1).toList) = false := bne_eq_false_iff_eq.mpr c17
               clear c17
               obtain rfl := Option.some.inj H
               have p145 : 0 ≤ (x21_2 : Int) := od_
               have q145 : x21_2 < (y141.length : Int) := od_
               obtain ⟨ad145, A145_2, c145_2, e145, hx145_0, hx145_1, hx145_2, hl145_2, hi145_2⟩ := at_T74 HR144.out x21_2 p145 q145
               obtain rfl : ad138 = ad145 := (by injection e145)
               replace hx145_0 := kc_ HB hx145_0
               replace hx145_1 := kc_ HB hx145_1
               replace hx145_2 := kc_ HB hx145_2
               have HR145_2 := Aside0.mk hi145_2
               have HC145_2 := Aside0.mk hl145_2
               clear hi145_2 hl145_2
               replace p145 := eq_true p145
               replace q145 := eq_true q145
               go_wp2_with (first | ((with_reducible refine gate_dst (N := 6) rfl ?_); refine be_ (N := 6) (cs := #[.string (⟨#[]⟩ : ByteArray), .string (⟨#[]⟩ : ByteArray), .slice none 0 0]) (t := 74) ?_; intro gb146 hg w18 hbox hb; have BK146 := Aside0.mk (hbox); have GW146 := gw_ (w := w) hg; have GE146 := gw_ (w := w) hg; replace HB := Aside0.mk (below_step bl_ hb); have NB139_146 := Aside0.mk ((by rw [hg]; exact Nat.ne_of_lt (blk_lt (bk_ BK139)) : gb139 ≠ gb146)); have NB146_139 := Aside0.mk ((by rw [hg]; exact Nat.ne_of_gt (blk_lt (bk_ BK139)) : gb146 ≠ gb139)); replace BK139 := Aside0.mk (blk_below (bk_ BK139) hb); clear hb hbox hg; have hnb19 := NB146_139.out; have hnc19 := NB139_146.out; obtain ⟨hcz20_0, hcz20_1, hcz20_2, hfz20_0, hfz20_1, hfz20_2⟩ := bx3_ BK146; obtain ⟨hcz21_0, hcz21_1, hcz21_2, hfz21_0, hfz21_1, hfz21_2⟩ := bx3_ BK139))
               go_ret
               exact ⟨sq_, bl_⟩
              ·rw [if_neg c17] at H
               have c17b0 : (((rd_T74 y141 x21_2).f1).toList == ((rd_T74 l0 x9_1).f1).toList) = false := beq_eq_false_iff_ne.mpr c17
               have c17b1 : (((rd_T74 y141 x21_2).f1).toList != ((rd_T74 l0 x9_1).f1).toList) = true := bne_iff_ne.mpr c17
               have H' := Aside0.mk H
               clear H
               have p145 : 0 ≤ (x21_2 : Int) := od_
               have q145 : x21_2 < (y141.length : Int) := od_
               obtain ⟨ad145, A145_2, c145_2, e145, hx145_0, hx145_1, hx145_2, hl145_2, hi145_2⟩ := at_T74 HR144.out x21_2 p145 q145
               obtain rfl : ad138 = ad145 := (by injection e145)
               replace hx145_0 := kc_ HB hx145_0
               replace hx145_1 := kc_ HB hx145_1
               replace hx145_2 := kc_ HB hx145_2
               have HR145_2 := Aside0.mk hi145_2
               have HC145_2 := Aside0.mk hl145_2
               clear hi145_2 hl145_2
               replace p145 := eq_true p145
               replace q145 := eq_true q145
               go_wp2_with (first | ((with_reducible refine gate_dst (N := 6) rfl ?_); refine be_ (N := 6) (cs := #[.string (⟨#[]⟩ : ByteArray), .string (⟨#[]⟩ : ByteArray), .slice none 0 0]) (t := 74) ?_; intro gb146 hg w22 hbox hb; have BK146 := Aside0.mk (hbox); have GW146 := gw_ (w := w) hg; have GE146 := gw_ (w := w) hg; replace HB := Aside0.mk (below_step bl_ hb); have NB139_146 := Aside0.mk ((by rw [hg]; exact Nat.ne_of_lt (blk_lt (bk_ BK139)) : gb139 ≠ gb146)); have NB146_139 := Aside0.mk ((by rw [hg]; exact Nat.ne_of_gt (blk_lt (bk_ BK139)) : gb146 ≠ gb139)); replace BK139 := Aside0.mk (blk_below (bk_ BK139) hb); clear hb hbox hg; have hnb23 := NB146_139.out; have hnc23 := NB139_146.out; obtain ⟨hcz24_0, hcz24_1, hcz24_2, hfz24_0, hfz24_1, hfz24_2⟩ := bx3_ BK146; obtain ⟨hcz25_0, hcz25_1, hcz25_2, hfz25_0, hfz25_1, hfz25_2⟩ := bx3_ BK139))
               go_roundg k2
               case measure => have := HK1.out; have := HK2.out; omega
               case rel => exact ⟨(wrap64 (x21_2 + 1)), sp_, H', ⟨by have := HK1.out; have := HK2.out; omega⟩, ⟨by (with_reducible repeat (first | refine blk_drewN ?_ _ | refine blk_drew ?_ | refine blk_alloc ?_ _)); refine blk_far ?_ NB139_146.out _; (with_reducible repeat (first | refine blk_drewN ?_ _ | refine blk_drew ?_ | refine blk_alloc ?_ _)); refine blk_far ?_ NB139_146.out _; (with_reducible repeat (first | refine blk_drewN ?_ _ | refine blk_drew ?_ | refine blk_alloc ?_ _)); refine blk_far ?_ NB139_146.out _; (with_reducible repeat (first | refine blk_drewN ?_ _ | refine blk_drew ?_ | refine blk_alloc ?_ _)); exact BK139.out⟩, ⟨bl_⟩⟩
             ·rw [if_neg c16] at H
              have c16b0 : (((rd_T74 y141 x21_2).f0).toList == ((rd_T74 l0 x9_1).f0).toList) = false := beq_eq_false_iff_ne.mpr c16
              have c16b1 : (((rd_T74 y141 x21_2).f0).toList != ((rd_T74 l0 x9_1).f0).toList) = true := bne_iff_ne.mpr c16
              have H' := Aside0.mk H
              clear H
              have p145 : 0 ≤ (x21_2 : Int) := od_
              have q145 : x21_2 < (y141.length : Int) := od_
              obtain ⟨ad145, A145_2, c145_2, e145, hx145_0, hx145_1, hx145_2, hl145_2, hi145_2⟩ := at_T74 HR144.out x21_2 p145 q145
              obtain rfl : ad138 = ad145 := (by injection e145)
              replace hx145_0 := kc_ HB hx145_0
              replace hx145_1 := kc_ HB hx145_1
              replace hx145_2 := kc_ HB hx145_2
              have HR145_2 := Aside0.mk hi145_2
              have HC145_2 := Aside0.mk hl145_2
              clear hi145_2 hl145_2
              replace p145 := eq_true p145
              replace q145 := eq_true q145
              go_wp2_with (first | ((with_reducible refine gate_dst (N := 6) rfl ?_); refine be_ (N := 6) (cs := #[.string (⟨#[]⟩ : ByteArray), .string (⟨#[]⟩ : ByteArray), .slice none 0 0]) (t := 74) ?_; intro gb146 hg w26 hbox hb; have BK146 := Aside0.mk (hbox); have GW146 := gw_ (w := w) hg; have GE146 := gw_ (w := w) hg; replace HB := Aside0.mk (below_step bl_ hb); have NB139_146 := Aside0.mk ((by rw [hg]; exact Nat.ne_of_lt (blk_lt (bk_ BK139)) : gb139 ≠ gb146)); have NB146_139 := Aside0.mk ((by rw [hg]; exact Nat.ne_of_gt (blk_lt (bk_ BK139)) : gb146 ≠ gb139)); replace BK139 := Aside0.mk (blk_below (bk_ BK139) hb); clear hb hbox hg; have hnb27 := NB146_139.out; have hnc27 := NB139_146.out; obtain ⟨hcz28_0, hcz28_1, hcz28_2, hfz28_0, hfz28_1, hfz28_2⟩ := bx3_ BK146; obtain ⟨hcz29_0, hcz29_1, hcz29_2, hfz29_0, hfz29_1, hfz29_2⟩ := bx3_ BK139))
              go_roundg k2
              case measure => have := HK1.out; have := HK2.out; omega
              case rel => exact ⟨(wrap64 (x21_2 + 1)), sp_, H', ⟨by have := HK1.out; have := HK2.out; omega⟩, ⟨by (with_reducible repeat (first | refine blk_drewN ?_ _ | refine blk_drew ?_ | refine blk_alloc ?_ _)); refine blk_far ?_ NB139_146.out _; (with_reducible repeat (first | refine blk_drewN ?_ _ | refine blk_drew ?_ | refine blk_alloc ?_ _)); refine blk_far ?_ NB139_146.out _; (with_reducible repeat (first | refine blk_drewN ?_ _ | refine blk_drew ?_ | refine blk_alloc ?_ _)); refine blk_far ?_ NB139_146.out _; (with_reducible repeat (first | refine blk_drewN ?_ _ | refine blk_drew ?_ | refine blk_alloc ?_ _)); exact BK139.out⟩, ⟨bl_⟩⟩
            ·rw [if_neg c15] at H
             exact absurd H (by simp)
           ·rw [if_neg c14] at H
            exact absurd H (by simp)
          ·rw [if_neg c13] at H
           have c13b0 : decide (x21_2 < (y141.length : Int)) = false := decide_eq_false c13
           clear c13
           have H' := Aside0.mk H
           clear H
           go_wp2
           go_roundg k2
           case measure => have := HK1.out; have := HK2.out; omega
           case rel => exact ⟨(wrap64 (x9_1 + 1)), sp_, H', ⟨by have := HK1.out; have := HK2.out; omega⟩, ⟨bl_⟩⟩
       ·rw [if_neg c8] at H
        exact absurd H (by simp)
      ·replace c6 := Bool.eq_false_iff.mpr c6
       subst c6
       replace H := in_ H
       obtain rfl := Option.some.inj H
       have p138 : 0 ≤ (x9_1 : Int) := od_
       have q138 : x9_1 < (l0.length : Int) := od_
       obtain ⟨ad138, A138_2, c138_2, e138, hx138_0, hx138_1, hx138_2, hl138_2, hi138_2⟩ := at_T74 HR0.out x9_1 p138 q138
       cases e138
       replace hx138_0 := kc_ HB hx138_0
       replace hx138_1 := kc_ HB hx138_1
       replace hx138_2 := kc_ HB hx138_2
       have HR138_2 := Aside0.mk hi138_2
       have HC138_2 := Aside0.mk hl138_2
       clear hi138_2 hl138_2
       replace p138 := eq_true p138
       replace q138 := eq_true q138
       go_wp2_with (first | ((with_reducible refine gate_dst (N := 4) rfl ?_); refine be_ (N := 4) (cs := #[.string (⟨#[]⟩ : ByteArray), .string (⟨#[]⟩ : ByteArray), .slice none 0 0]) (t := 74) ?_; intro gb139 hg w30 hbox hb; have BK139 := Aside0.mk (hbox); have GW139 := gw_ (w := w) hg; have GE139 := gw_ (w := w) hg; replace HB := Aside0.mk (below_step bl_ hb); clear hb hbox hg; obtain ⟨hcz31_0, hcz31_1, hcz31_2, hfz31_0, hfz31_1, hfz31_2⟩ := bx3_ BK139) | ((with_reducible refine gate_callee (f := 163) rfl ?_); refine goesL_ (some 15) rfl rfl Try.func163 (by kernel_rfl) rfl #[.agg #[.string ((rd_T74 l0 x9_1).f0), .string ((rd_T74 l0 x9_1).f1), .slice A138_2 ((rd_T74 l0 x9_1).f2).length c138_2]] rfl gl_ ?_; (with_reducible refine (spec_SlotOk.calls k1 ((rd_T74 l0 x9_1).f0) ((rd_T74 l0 x9_1).f1) _ _ ((rd_T74 l0 x9_1).f2) false _ ?side1 ?side2 A5.out).mono ?_); (case side1 => exact Kd.C_below HR138_2.out bl_); (case side2 => exact HC138_2.out); rintro e w32 ⟨rfl, hb⟩; refine ⟨_, rfl, ?_⟩; replace BK139 := Aside0.mk (blk_below (g := gb139) (o := .cells #[.string ((rd_T74 l0 x9_1).f0), .string ((rd_T74 l0 x9_1).f1), .slice A138_2 ((rd_T74 l0 x9_1).f2).length c138_2] 74 (0, 0)) (by (with_reducible repeat (first | refine blk_drewN ?_ _ | refine blk_drew ?_ | refine blk_alloc ?_ _)); apply bq3_2_1_0_; (with_reducible repeat (first | refine blk_drewN ?_ _ | refine blk_drew ?_ | refine blk_alloc ?_ _)); exact BK139.out) hb); replace HB := Aside0.mk (below_step bl_ hb); (try clear hb); (try clear hb2); (try clear hk); (try clear hi)))
       go_ret
       exact ⟨sq_, bl_⟩
     ·rw [if_neg c4] at H
      exact absurd H (by simp)
    ·rw [if_neg c3] at H
     exact absurd H (by simp)
   ·rw [if_neg c2] at H
    have c2b0 : decide (x9_1 < (l0.length : Int)) = false := decide_eq_false c2
    clear c2
    obtain rfl := Option.some.inj H
    go_wp2
    go_ret
    exact ⟨sq_, bl_⟩
/-! ### spec_l06Time: function 89 -/
def spec_l06Time.f (a0 : Int) : Option (Bool) := (spec_l01In.f a0 0 1000000000).bind fun t147 => (some t147)
set_option maxHeartbeats 8000000 in
set_option maxRecDepth 100000 in
theorem spec_l06Time.calls (a0 : Int) (r : Bool) (w : World) (h : spec_l06Time.f a0 = some r) :
  Calls Try.prog 89 #[.int .i64 a0] w fun e w' => e = .returned (.bool r) ∧ Drawn0 w w' := by
 have H : ((spec_l01In.f a0 0 1000000000).bind fun t147 => (some t147)) = some r := h
 clear h
 obtain ⟨t147, A2, H⟩ := ob_ H
 obtain rfl := Option.some.inj H
 go_enter Try.func89, Try.ntmps89
 go_wp2_with (first | ((with_reducible refine gate_callee (f := 140) rfl ?_); refine goesL_ (some 4) rfl rfl Try.func140 (by kernel_rfl) rfl #[.int .i64 a0, .int .i64 0, .int .i64 1000000000] rfl gl_ ?_; (with_reducible refine (spec_l01In.calls a0 0 1000000000 t147 _ A2.out).mono ?_); rintro e w' ⟨rfl, ⟨nd, rfl⟩⟩; refine ⟨_, rfl, ?_⟩))
 go_ret
 exact ⟨sp_, by repeat (first | exact Drawn0.refl _ | apply Drawn0.step)⟩
/-! ### spec_HoldIdOk: function 190 -/
def spec_HoldIdOk.l0 : Nat → ByteArray → Int → Option (Bool)
 | 0, _, _ => none
 | k + 1, x0, x3 => if x3 < (x0.size : Int) then (if 0 ≤ x3 then (if (bt x0 x3) < 48 then (if (bt x0 x3) < 97 then (some false) else (if (bt x0 x3) > 122 then (some false) else (spec_HoldIdOk.l0 k x0 (wrap64 (x3 + 1))))) else (if (bt x0 x3) > 57 then (if (bt x0 x3) < 97 then (some false) else (if (bt x0 x3) > 122 then (some false) else (spec_HoldIdOk.l0 k x0 (wrap64 (x3 + 1))))) else (spec_HoldIdOk.l0 k x0 (wrap64 (x3 + 1))))) else (none)) else ((spec_l01In.f (x0.size : Int) 1 6).bind fun t148 => (some t148))
def spec_HoldIdOk.f (k : Nat) (a0 : ByteArray) : Option (Bool) := spec_HoldIdOk.l0 k a0 0
set_option maxHeartbeats 8000000 in
set_option maxRecDepth 100000 in
theorem spec_HoldIdOk.calls (k : Nat) (a0 : ByteArray) (r : Bool) (w : World) (h : spec_HoldIdOk.f k a0 = some r) :
  Calls Try.prog 190 #[.string a0] w fun e w' => e = .returned (.bool r) ∧ Drawn0 w w' := by
 have H : (spec_HoldIdOk.l0 k a0 0) = some r := h
 clear h
 have H' := Aside0.mk H
 clear H
 go_enter Try.func190, Try.ntmps190
 go_wp2
 go_loopg [3] k (fun kq v3 w' => ∃ (x3_1 : Int), v3 = .int .i64 x3_1 ∧ Aside0 (spec_HoldIdOk.l0 kq a0 x3_1 = some r) ∧ Aside0 (kq ≤ k) ∧ Drawn0 w w')
 case atStart => exact ⟨(0), sp_, H', ⟨Nat.le_refl _⟩, by repeat (first | exact Drawn0.refl _ | apply Drawn0.step)⟩
 case round =>
  clear H'
  try clear c1
  obtain ⟨x3_1, rfl, HA, HK1, ⟨m1, rfl⟩⟩ := hrel
  cases gk with
  | zero => exact absurd HA.out (by simp [spec_HoldIdOk.l0])
  | succ k1 =>
   have H := HA.out
   clear HA
   simp only [spec_HoldIdOk.l0] at H
   by_cases c2 : x3_1 < (a0.size : Int)
   ·rw [if_pos c2] at H
    have c2b0 : decide (x3_1 < (a0.size : Int)) = true := decide_eq_true c2
    clear c2
    by_cases c3 : 0 ≤ x3_1
    ·rw [if_pos c3] at H
     have c3b0 : decide (0 ≤ x3_1) = true := decide_eq_true c3
     clear c3
     by_cases c5 : (bt a0 x3_1) < 48
     ·rw [if_pos c5] at H
      have c5b0 : decide ((bt a0 x3_1) < 48) = true := decide_eq_true c5
      clear c5
      by_cases c7 : (bt a0 x3_1) < 97
      ·rw [if_pos c7] at H
       have c7b0 : decide ((bt a0 x3_1) < 97) = true := decide_eq_true c7
       clear c7
       obtain rfl := Option.some.inj H
       have p4 : 0 ≤ (x3_1 : Int) := od_
       have q4 : x3_1 < (a0.size : Int) := od_
       have hx4 := bt_at a0 x3_1
       replace p4 := eq_true p4
       replace q4 := eq_true q4
       have p6 : 0 ≤ (x3_1 : Int) := od_
       have q6 : x3_1 < (a0.size : Int) := od_
       have hx6 := bt_at a0 x3_1
       replace p6 := eq_true p6
       replace q6 := eq_true q6
       go_wp2
       go_ret
       exact ⟨sp_, by repeat (first | exact Drawn0.refl _ | apply Drawn0.step)⟩
      ·rw [if_neg c7] at H
       have c7b0 : decide ((bt a0 x3_1) < 97) = false := decide_eq_false c7
       clear c7
       by_cases c9 : (bt a0 x3_1) > 122
       ·rw [if_pos c9] at H
        have c9b0 : decide (122 < (bt a0 x3_1)) = true := decide_eq_true c9
        clear c9
        obtain rfl := Option.some.inj H
        have p4 : 0 ≤ (x3_1 : Int) := od_
        have q4 : x3_1 < (a0.size : Int) := od_
        have hx4 := bt_at a0 x3_1
        replace p4 := eq_true p4
        replace q4 := eq_true q4
        have p6 : 0 ≤ (x3_1 : Int) := od_
        have q6 : x3_1 < (a0.size : Int) := od_
        have hx6 := bt_at a0 x3_1
        replace p6 := eq_true p6
        replace q6 := eq_true q6
        have p8 : 0 ≤ (x3_1 : Int) := od_
        have q8 : x3_1 < (a0.size : Int) := od_
        have hx8 := bt_at a0 x3_1
        replace p8 := eq_true p8
        replace q8 := eq_true q8
        go_wp2
        go_ret
        exact ⟨sp_, by repeat (first | exact Drawn0.refl _ | apply Drawn0.step)⟩
       ·rw [if_neg c9] at H
        have c9b0 : decide (122 < (bt a0 x3_1)) = false := decide_eq_false c9
        clear c9
        have H' := Aside0.mk H
        clear H
        have p4 : 0 ≤ (x3_1 : Int) := od_
        have q4 : x3_1 < (a0.size : Int) := od_
        have hx4 := bt_at a0 x3_1
        replace p4 := eq_true p4
        replace q4 := eq_true q4
        have p6 : 0 ≤ (x3_1 : Int) := od_
        have q6 : x3_1 < (a0.size : Int) := od_
        have hx6 := bt_at a0 x3_1
        replace p6 := eq_true p6
        replace q6 := eq_true q6
        have p8 : 0 ≤ (x3_1 : Int) := od_
        have q8 : x3_1 < (a0.size : Int) := od_
        have hx8 := bt_at a0 x3_1
        replace p8 := eq_true p8
        replace q8 := eq_true q8
        go_wp2
        go_roundg k1
        case measure => have := HK1.out; omega
        case rel => exact ⟨(wrap64 (x3_1 + 1)), sp_, H', ⟨by have := HK1.out; omega⟩, by repeat (first | exact Drawn0.refl _ | apply Drawn0.step)⟩
     ·rw [if_neg c5] at H
      have c5b0 : decide ((bt a0 x3_1) < 48) = false := decide_eq_false c5
      clear c5
      by_cases c11 : (bt a0 x3_1) > 57
      ·rw [if_pos c11] at H
       have c11b0 : decide (57 < (bt a0 x3_1)) = true := decide_eq_true c11
       clear c11
       by_cases c13 : (bt a0 x3_1) < 97
       ·rw [if_pos c13] at H
        have c13b0 : decide ((bt a0 x3_1) < 97) = true := decide_eq_true c13
        clear c13
        obtain rfl := Option.some.inj H
        have p4 : 0 ≤ (x3_1 : Int) := od_
        have q4 : x3_1 < (a0.size : Int) := od_
        have hx4 := bt_at a0 x3_1
        replace p4 := eq_true p4
        replace q4 := eq_true q4
        have p10 : 0 ≤ (x3_1 : Int) := od_
        have q10 : x3_1 < (a0.size : Int) := od_
        have hx10 := bt_at a0 x3_1
        replace p10 := eq_true p10
        replace q10 := eq_true q10
        have p12 : 0 ≤ (x3_1 : Int) := od_
        have q12 : x3_1 < (a0.size : Int) := od_
        have hx12 := bt_at a0 x3_1
        replace p12 := eq_true p12
        replace q12 := eq_true q12
        go_wp2
        go_ret
        exact ⟨sp_, by repeat (first | exact Drawn0.refl _ | apply Drawn0.step)⟩
       ·rw [if_neg c13] at H
        have c13b0 : decide ((bt a0 x3_1) < 97) = false := decide_eq_false c13
        clear c13
        by_cases c15 : (bt a0 x3_1) > 122
        ·rw [if_pos c15] at H
         have c15b0 : decide (122 < (bt a0 x3_1)) = true := decide_eq_true c15
         clear c15
         obtain rfl := Option.some.inj H
         have p4 : 0 ≤ (x3_1 : Int) := od_
         have q4 : x3_1 < (a0.size : Int) := od_
         have hx4 := bt_at a0 x3_1
         replace p4 := eq_true p4
         replace q4 := eq_true q4
         have p10 : 0 ≤ (x3_1 : Int) := od_
         have q10 : x3_1 < (a0.size : Int) := od_
         have hx10 := bt_at a0 x3_1
         replace p10 := eq_true p10
         replace q10 := eq_true q10
         have p12 : 0 ≤ (x3_1 : Int) := od_
         have q12 : x3_1 < (a0.size : Int) := od_
         have hx12 := bt_at a0 x3_1
         replace p12 := eq_true p12
         replace q12 := eq_true q12
         have p14 : 0 ≤ (x3_1 : Int) := od_
         have q14 : x3_1 < (a0.size : Int) := od_
         have hx14 := bt_at a0 x3_1
         replace p14 := eq_true p14
         replace q14 := eq_true q14
         go_wp2
         go_ret
         exact ⟨sp_, by repeat (first | exact Drawn0.refl _ | apply Drawn0.step)⟩
        ·rw [if_neg c15] at H
         have c15b0 : decide (122 < (bt a0 x3_1)) = false := decide_eq_false c15
         clear c15
         have H' := Aside0.mk H
         clear H
         have p4 : 0 ≤ (x3_1 : Int) := od_
         have q4 : x3_1 < (a0.size : Int) := od_
         have hx4 := bt_at a0 x3_1
         replace p4 := eq_true p4
         replace q4 := eq_true q4
         have p10 : 0 ≤ (x3_1 : Int) := od_
         have q10 : x3_1 < (a0.size : Int) := od_
         have hx10 := bt_at a0 x3_1
         replace p10 := eq_true p10
         replace q10 := eq_true q10
         have p12 : 0 ≤ (x3_1 : Int) := od_
         have q12 : x3_1 < (a0.size : Int) := od_
         have hx12 := bt_at a0 x3_1
         replace p12 := eq_true p12
         replace q12 := eq_true q12
         have p14 : 0 ≤ (x3_1 : Int) := od_
         have q14 : x3_1 < (a0.size : Int) := od_
         have hx14 := bt_at a0 x3_1
         replace p14 := eq_true p14
         replace q14 := eq_true q14
         go_wp2
         go_roundg k1
         case measure => have := HK1.out; omega
         case rel => exact ⟨(wrap64 (x3_1 + 1)), sp_, H', ⟨by have := HK1.out; omega⟩, by repeat (first | exact Drawn0.refl _ | apply Drawn0.step)⟩
      ·rw [if_neg c11] at H
       have c11b0 : decide (57 < (bt a0 x3_1)) = false := decide_eq_false c11
       clear c11
       have H' := Aside0.mk H
       clear H
       have p4 : 0 ≤ (x3_1 : Int) := od_
       have q4 : x3_1 < (a0.size : Int) := od_
       have hx4 := bt_at a0 x3_1
       replace p4 := eq_true p4
       replace q4 := eq_true q4
       have p10 : 0 ≤ (x3_1 : Int) := od_
       have q10 : x3_1 < (a0.size : Int) := od_
       have hx10 := bt_at a0 x3_1
       replace p10 := eq_true p10
       replace q10 := eq_true q10
       go_wp2
       go_roundg k1
       case measure => have := HK1.out; omega
       case rel => exact ⟨(wrap64 (x3_1 + 1)), sp_, H', ⟨by have := HK1.out; omega⟩, by repeat (first | exact Drawn0.refl _ | apply Drawn0.step)⟩
    ·rw [if_neg c3] at H
     exact absurd H (by simp)
   ·rw [if_neg c2] at H
    have c2b0 : decide (x3_1 < (a0.size : Int)) = false := decide_eq_false c2
    clear c2
    obtain ⟨t148, A16, H⟩ := ob_ H
    obtain rfl := Option.some.inj H
    go_wp2_with (first | ((with_reducible refine gate_callee (f := 140) rfl ?_); refine goesL_ (some 34) rfl rfl Try.func140 (by kernel_rfl) rfl #[.int .i64 (a0.size : Int), .int .i64 1, .int .i64 6] rfl gl_ ?_; (with_reducible refine (spec_l01In.calls (a0.size : Int) 1 6 t148 _ A16.out).mono ?_); rintro e w' ⟨rfl, ⟨nd, rfl⟩⟩; refine ⟨_, rfl, ?_⟩))
    go_ret
    exact ⟨sp_, by repeat (first | exact Drawn0.refl _ | apply Drawn0.step)⟩
/-! ### spec_HoldOk: function 166 -/
def spec_HoldOk.f (k : Nat) (a0_0 : ByteArray) (a0_1 : Int) (a0_2 : Int) : Option (Bool) := (spec_HoldIdOk.f k a0_0).bind fun t150 => (if t150 = true then ((spec_l01In.f a0_1 1 9007199254740992).bind fun t151 => (if t151 = true then ((spec_l06Time.f a0_2).bind fun t152 => (some t152)) else (some false))) else (some false))
set_option maxHeartbeats 8000000 in
set_option maxRecDepth 100000 in
theorem spec_HoldOk.calls (k : Nat) (a0_0 : ByteArray) (a0_1 : Int) (a0_2 : Int) (r : Bool) (w : World) (h : spec_HoldOk.f k a0_0 a0_1 a0_2 = some r) :
  Calls Try.prog 166 #[.agg #[.string a0_0, .int .i64 a0_1, .int .i64 a0_2]] w fun e w' => e = .returned (.bool r) ∧ Below w.heap.size w w' := by
 have hu93 := Try.underlying93
 have HB := Aside0.mk (Below.refl w.heap.size w)
 have H : ((spec_HoldIdOk.f k a0_0).bind fun t150 => (if t150 = true then ((spec_l01In.f a0_1 1 9007199254740992).bind fun t151 => (if t151 = true then ((spec_l06Time.f a0_2).bind fun t152 => (some t152)) else (some false))) else (some false))) = some r := h
 clear h
 obtain ⟨t150, A2, H⟩ := ob_ H
 by_cases c3 : t150 = true
 ·subst c3
  replace H := ip_ H
  obtain ⟨t151, A4, H⟩ := ob_ H
  by_cases c5 : t151 = true
  ·subst c5
   replace H := ip_ H
   obtain ⟨t152, A6, H⟩ := ob_ H
   obtain rfl := Option.some.inj H
   go_enter Try.func166, Try.ntmps166
   go_wp2_with (first | ((with_reducible refine gate_dst (N := 1) rfl ?_); refine be_ (N := 1) (cs := #[.string a0_0, .int .i64 a0_1, .int .i64 a0_2]) (t := 93) ?_; intro gb149 hg w7 hbox hb; have BK149 := Aside0.mk (hbox); have GW149 := gw_ (w := w) hg; have GE149 := gw_ (w := w) hg; replace HB := Aside0.mk (below_step bl_ hb); clear hb hbox hg; obtain ⟨hcz8_0, hcz8_1, hcz8_2, hfz8_0, hfz8_1, hfz8_2⟩ := bx3_ BK149) | ((with_reducible refine gate_callee (f := 190) rfl ?_); refine goesL_ (some 5) rfl rfl Try.func190 (by kernel_rfl) rfl #[.string a0_0] rfl gl_ ?_; (with_reducible refine (spec_HoldIdOk.calls k a0_0 true _ A2.out).mono ?_); rintro e w' ⟨rfl, ⟨nd, rfl⟩⟩; refine ⟨_, rfl, ?_⟩) | (go_at_call 140; (with_reducible refine (spec_l01In.calls a0_1 1 9007199254740992 true _ A4.out).mono ?_); rintro e w' ⟨rfl, ⟨nd, rfl⟩⟩) | (go_at_call 89; (with_reducible refine (spec_l06Time.calls a0_2 t152 _ A6.out).mono ?_); rintro e w' ⟨rfl, ⟨nd, rfl⟩⟩))
   go_ret
   exact ⟨sq_, bl_⟩
  ·replace c5 := Bool.eq_false_iff.mpr c5
   subst c5
   replace H := in_ H
   obtain rfl := Option.some.inj H
   go_enter Try.func166, Try.ntmps166
   go_wp2_with (first | ((with_reducible refine gate_dst (N := 1) rfl ?_); refine be_ (N := 1) (cs := #[.string a0_0, .int .i64 a0_1, .int .i64 a0_2]) (t := 93) ?_; intro gb149 hg w9 hbox hb; have BK149 := Aside0.mk (hbox); have GW149 := gw_ (w := w) hg; have GE149 := gw_ (w := w) hg; replace HB := Aside0.mk (below_step bl_ hb); clear hb hbox hg; obtain ⟨hcz10_0, hcz10_1, hcz10_2, hfz10_0, hfz10_1, hfz10_2⟩ := bx3_ BK149) | ((with_reducible refine gate_callee (f := 190) rfl ?_); refine goesL_ (some 5) rfl rfl Try.func190 (by kernel_rfl) rfl #[.string a0_0] rfl gl_ ?_; (with_reducible refine (spec_HoldIdOk.calls k a0_0 true _ A2.out).mono ?_); rintro e w' ⟨rfl, ⟨nd, rfl⟩⟩; refine ⟨_, rfl, ?_⟩) | (go_at_call 140; (with_reducible refine (spec_l01In.calls a0_1 1 9007199254740992 false _ A4.out).mono ?_); rintro e w' ⟨rfl, ⟨nd, rfl⟩⟩))
   go_ret
   exact ⟨sq_, bl_⟩
 ·replace c3 := Bool.eq_false_iff.mpr c3
  subst c3
  replace H := in_ H
  obtain rfl := Option.some.inj H
  go_enter Try.func166, Try.ntmps166
  go_wp2_with (first | ((with_reducible refine gate_dst (N := 1) rfl ?_); refine be_ (N := 1) (cs := #[.string a0_0, .int .i64 a0_1, .int .i64 a0_2]) (t := 93) ?_; intro gb149 hg w11 hbox hb; have BK149 := Aside0.mk (hbox); have GW149 := gw_ (w := w) hg; have GE149 := gw_ (w := w) hg; replace HB := Aside0.mk (below_step bl_ hb); clear hb hbox hg; obtain ⟨hcz12_0, hcz12_1, hcz12_2, hfz12_0, hfz12_1, hfz12_2⟩ := bx3_ BK149) | ((with_reducible refine gate_callee (f := 190) rfl ?_); refine goesL_ (some 5) rfl rfl Try.func190 (by kernel_rfl) rfl #[.string a0_0] rfl gl_ ?_; (with_reducible refine (spec_HoldIdOk.calls k a0_0 false _ A2.out).mono ?_); rintro e w' ⟨rfl, ⟨nd, rfl⟩⟩; refine ⟨_, rfl, ?_⟩))
  go_ret
  exact ⟨sq_, bl_⟩
end Go.Proofs.Ytepjnalkpfnmcaa.QFnExactAcctNew
