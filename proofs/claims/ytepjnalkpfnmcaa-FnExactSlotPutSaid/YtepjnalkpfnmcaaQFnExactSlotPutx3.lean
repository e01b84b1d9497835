-- by my own printer (myprint.py, over the kit's print.py)
import Derived.Test.YtepjnalkpfnmcaaQFnExactSlotPutx0
import Derived.Test.YtepjnalkpfnmcaaQFnExactSlotPutx2
namespace Go.Proofs.Ytepjnalkpfnmcaa.QFnExactSlotPut
open Go.RowKit Go.Proofs.YtepjnalkpfnmcaaW.PrintWords Go.Proofs.YtepjnalkpfnmcaaW.PrintLast Go.Proofs.YtepjnalkpfnmcaaW.PrintMore
attribute [local go_sem] max2_int min2_int max_two min_two max_three min_three max_four min_four   -- for this text's walks alone
set_option linter.unusedVariables false
set_option linter.unusedSimpArgs false
attribute [local go_sem] my_geq my_leq my_gtr
/-! ### spec_SlotOk: function 163 -/
def spec_SlotOk.f (k : Nat) (a0_0 : ByteArray) (a0_1 : ByteArray) (l0_2 : List Int) : Option (Bool) := (spec_Digits.f k a0_0).bind fun t153 => (if t153 = true then (if (a0_0.size : Int) = 6 then ((spec_Digits.f k a0_1).bind fun t154 => (if t154 = true then (if (a0_1.size : Int) = 4 then ((spec_l01In.f (l0_2.length : Int) 1 200).bind fun t155 => (some t155)) else (some false)) else (some false))) else (some false)) else (some false))
set_option maxHeartbeats 8000000 in
set_option maxRecDepth 100000 in
theorem spec_SlotOk.calls (k : Nat) (a0_0 : ByteArray) (a0_1 : ByteArray) (A0_2 : Option Addr) (c0_2 : Nat) (l0_2 : List Int) (r : Bool) (w : World) (hr0_2 : Kd.C (Kd.int .u8) w A0_2 l0_2.length l0_2) (hc0_2 : l0_2.length ≤ c0_2) (h : spec_SlotOk.f k a0_0 a0_1 l0_2 = some r) :
  Calls Try.prog 163 #[.agg #[.string a0_0, .string a0_1, .slice A0_2 l0_2.length c0_2]] w fun e w' => e = .returned (.bool r) ∧ Below w.heap.size w w' := by
 have hu74 := Try.underlying74
 have HR0_2 := Aside0.mk hr0_2
 have HC0_2 := Aside0.mk hc0_2
 clear hr0_2 hc0_2
 have HB := Aside0.mk (Below.refl w.heap.size w)
 have H : ((spec_Digits.f k a0_0).bind fun t153 => (if t153 = true then (if (a0_0.size : Int) = 6 then ((spec_Digits.f k a0_1).bind fun t154 => (if t154 = true then (if (a0_1.size : Int) = 4 then ((spec_l01In.f (l0_2.length : Int) 1 200).bind fun t155 => (some t155)) else (some false)) else (some false))) else (some false)) else (some false))) = some r := h
 clear h
 obtain ⟨t153, A2, H⟩ := ob_ H
 by_cases c3 : t153 = true
 ·subst c3
  replace H := ip_ H
  by_cases c4 : (a0_0.size : Int) = 6
  ·rw [if_pos c4] at H
   have c4b0 : ((a0_0.size : Int) == 6) = true := beq_iff_eq.mpr c4
   have c4b1 : ((a0_0.size : Int) != 6) = false := bne_eq_false_iff_eq.mpr c4
   clear c4
   obtain ⟨t154, A5, H⟩ := ob_ H
   by_cases c6 : t154 = true
   ·subst c6
    replace H := ip_ H
    by_cases c7 : (a0_1.size : Int) = 4
    ·rw [if_pos c7] at H
     have c7b0 : ((a0_1.size : Int) == 4) = true := beq_iff_eq.mpr c7
     have c7b1 : ((a0_1.size : Int) != 4) = false := bne_eq_false_iff_eq.mpr c7
     clear c7
     obtain ⟨t155, A8, H⟩ := ob_ H
     obtain rfl := Option.some.inj H
     go_enter Try.func163, Try.ntmps163
     go_wp2_with (first | ((with_reducible refine gate_dst (N := 1) rfl ?_); (try (refine gate_guard (by rfl) ?_; dsimp only)); refine be_ (N := 1) (cs := #[.string a0_0, .string a0_1, .slice A0_2 l0_2.length c0_2]) (t := 74) ?_; intro gb152 hg w9 hbox hb; have BK152 := Aside0.mk (hbox); have GW152 := gw_ (w := w) hg; have GE152 := gw_ (w := w) hg; replace HB := Aside0.mk (below_step bl_ hb); clear hb hbox hg; obtain ⟨hcz10_0, hcz10_1, hcz10_2, hfz10_0, hfz10_1, hfz10_2⟩ := bx3_ BK152) | ((with_reducible refine gate_callee (f := 188) rfl ?_); refine goesL_ (some 5) rfl rfl Try.func188 (by kernel_rfl) rfl #[.string a0_0] rfl gl_ ?_; (with_reducible refine (spec_Digits.calls k a0_0 true _ A2.out).mono ?_); rintro e w' ⟨rfl, ⟨nd, rfl⟩⟩; refine ⟨_, rfl, ?_⟩) | (go_at_call 188; (with_reducible refine (spec_Digits.calls k a0_1 true _ A5.out).mono ?_); rintro e w' ⟨rfl, ⟨nd, rfl⟩⟩) | (go_at_call 140; (with_reducible refine (spec_l01In.calls (l0_2.length : Int) 1 200 t155 _ A8.out).mono ?_); rintro e w' ⟨rfl, ⟨nd, rfl⟩⟩))
     go_ret
     exact ⟨sq_, bl_⟩
    ·rw [if_neg c7] at H
     have c7b0 : ((a0_1.size : Int) == 4) = false := beq_eq_false_iff_ne.mpr c7
     have c7b1 : ((a0_1.size : Int) != 4) = true := bne_iff_ne.mpr c7
     obtain rfl := Option.some.inj H
     go_enter Try.func163, Try.ntmps163
     go_wp2_with (first | ((with_reducible refine gate_dst (N := 1) rfl ?_); (try (refine gate_guard (by rfl) ?_; dsimp only)); refine be_ (N := 1) (cs := #[.string a0_0, .string a0_1, .slice A0_2 l0_2.length c0_2]) (t := 74) ?_; intro gb152 hg w11 hbox hb; have BK152 := Aside0.mk (hbox); have GW152 := gw_ (w := w) hg; have GE152 := gw_ (w := w) hg; replace HB := Aside0.mk (below_step bl_ hb); clear hb hbox hg; obtain ⟨hcz12_0, hcz12_1, hcz12_2, hfz12_0, hfz12_1, hfz12_2⟩ := bx3_ BK152) | ((with_reducible refine gate_callee (f := 188) rfl ?_); refine goesL_ (some 5) rfl rfl Try.func188 (by kernel_rfl) rfl #[.string a0_0] rfl gl_ ?_; (with_reducible refine (spec_Digits.calls k a0_0 true _ A2.out).mono ?_); rintro e w' ⟨rfl, ⟨nd, rfl⟩⟩; refine ⟨_, rfl, ?_⟩) | (go_at_call 188; (with_reducible refine (spec_Digits.calls k a0_1 true _ A5.out).mono ?_); rintro e w' ⟨rfl, ⟨nd, rfl⟩⟩))
     go_ret
     exact ⟨sq_, bl_⟩
   ·replace c6 := Bool.eq_false_iff.mpr c6
    subst c6
    replace H := in_ H
    obtain rfl := Option.some.inj H
    go_enter Try.func163, Try.ntmps163
    go_wp2_with (first | ((with_reducible refine gate_dst (N := 1) rfl ?_); (try (refine gate_guard (by rfl) ?_; dsimp only)); refine be_ (N := 1) (cs := #[.string a0_0, .string a0_1, .slice A0_2 l0_2.length c0_2]) (t := 74) ?_; intro gb152 hg w13 hbox hb; have BK152 := Aside0.mk (hbox); have GW152 := gw_ (w := w) hg; have GE152 := gw_ (w := w) hg; replace HB := Aside0.mk (below_step bl_ hb); clear hb hbox hg; obtain ⟨hcz14_0, hcz14_1, hcz14_2, hfz14_0, hfz14_1, hfz14_2⟩ := bx3_ BK152) | ((with_reducible refine gate_callee (f := 188) rfl ?_); refine goesL_ (some 5) rfl rfl Try.func188 (by kernel_rfl) rfl #[.string a0_0] rfl gl_ ?_; (with_reducible refine (spec_Digits.calls k a0_0 true _ A2.out).mono ?_); rintro e w' ⟨rfl, ⟨nd, rfl⟩⟩; refine ⟨_, rfl, ?_⟩) | (go_at_call 188; (with_reducible refine (spec_Digits.calls k a0_1 false _ A5.out).mono ?_); rintro e w' ⟨rfl, ⟨nd, rfl⟩⟩))
    go_ret
    exact ⟨sq_, bl_⟩
  ·rw [if_neg c4] at H
   have c4b0 : ((a0_0.size : Int) == 6) = false := beq_eq_false_iff_ne.mpr c4
   have c4b1 : ((a0_0.size : Int) != 6) = true := bne_iff_ne.mpr c4
   obtain rfl := Option.some.inj H
   go_enter Try.func163, Try.ntmps163
   go_wp2_with (first | ((with_reducible refine gate_dst (N := 1) rfl ?_); (try (refine gate_guard (by rfl) ?_; dsimp only)); refine be_ (N := 1) (cs := #[.string a0_0, .string a0_1, .slice A0_2 l0_2.length c0_2]) (t := 74) ?_; intro gb152 hg w15 hbox hb; have BK152 := Aside0.mk (hbox); have GW152 := gw_ (w := w) hg; have GE152 := gw_ (w := w) hg; replace HB := Aside0.mk (below_step bl_ hb); clear hb hbox hg; obtain ⟨hcz16_0, hcz16_1, hcz16_2, hfz16_0, hfz16_1, hfz16_2⟩ := bx3_ BK152) | ((with_reducible refine gate_callee (f := 188) rfl ?_); refine goesL_ (some 5) rfl rfl Try.func188 (by kernel_rfl) rfl #[.string a0_0] rfl gl_ ?_; (with_reducible refine (spec_Digits.calls k a0_0 true _ A2.out).mono ?_); rintro e w' ⟨rfl, ⟨nd, rfl⟩⟩; refine ⟨_, rfl, ?_⟩))
   go_ret
   exact ⟨sq_, bl_⟩
 ·replace c3 := Bool.eq_false_iff.mpr c3
  subst c3
  replace H := in_ H
  obtain rfl := Option.some.inj H
  go_enter Try.func163, Try.ntmps163
  go_wp2_with (first | ((with_reducible refine gate_dst (N := 1) rfl ?_); (try (refine gate_guard (by rfl) ?_; dsimp only)); refine be_ (N := 1) (cs := #[.string a0_0, .string a0_1, .slice A0_2 l0_2.length c0_2]) (t := 74) ?_; intro gb152 hg w17 hbox hb; have BK152 := Aside0.mk (hbox); have GW152 := gw_ (w := w) hg; have GE152 := gw_ (w := w) hg; replace HB := Aside0.mk (below_step bl_ hb); clear hb hbox hg; obtain ⟨hcz18_0, hcz18_1, hcz18_2, hfz18_0, hfz18_1, hfz18_2⟩ := bx3_ BK152) | ((with_reducible refine gate_callee (f := 188) rfl ?_); refine goesL_ (some 5) rfl rfl Try.func188 (by kernel_rfl) rfl #[.string a0_0] rfl gl_ ?_; (with_reducible refine (spec_Digits.calls k a0_0 false _ A2.out).mono ?_); rintro e w' ⟨rfl, ⟨nd, rfl⟩⟩; refine ⟨_, rfl, ?_⟩))
  go_ret
  exact ⟨sq_, bl_⟩
/-! ### spec_SlotsOk: function 112 -/
mutual
def spec_SlotsOk.l0 : Nat → List (S74) → List (S74) → Int → Int → Option (Bool)
 | 0, _, _, _, _ => none
 | k + 1, x0, x7, x8, x9 => if x9 < x8 then (if 0 ≤ x9 then (if x9 < (x7.length : Int) then ((spec_SlotOk.f k ((rd_T74 x7 x9).f0) ((rd_T74 x7 x9).f1) ((rd_T74 x7 x9).f2)).bind fun t158 => (if t158 = true then (if x9 ≤ (x0.length : Int) then ((some (x0.take (x9 : Int).toNat : List (S74))).bind fun y159 => (spec_SlotsOk.l1 k x0 x7 x8 x9 y159 (y159.length : Int) 0 ((rd_T74 x7 x9).f0) ((rd_T74 x7 x9).f1) ((rd_T74 x7 x9).f2))) else (none)) else (some false))) else (none)) else (none)) else (some (decide ((x0.length : Int) ≤ 6)))
def spec_SlotsOk.l1 : Nat → List (S74) → List (S74) → Int → Int → List (S74) → Int → Int → ByteArray → ByteArray → List Int → Option (Bool)
 | 0, _, _, _, _, _, _, _, _, _, _ => none
 | k + 1, x0, x7, x8, x9, x19, x20, x21, x158000, x158001, x158002 => if x21 < x20 then (if 0 ≤ x21 then (if x21 < (x19.length : Int) then (if ((rd_T74 x19 x21).f0).toList = x158000.toList then (if ((rd_T74 x19 x21).f1).toList = x158001.toList then (some false) else (spec_SlotsOk.l1 k x0 x7 x8 x9 x19 x20 (wrap64 (x21 + 1)) x158000 x158001 x158002)) else (spec_SlotsOk.l1 k x0 x7 x8 x9 x19 x20 (wrap64 (x21 + 1)) x158000 x158001 x158002)) else (none)) else (none)) else (spec_SlotsOk.l0 k x0 x7 x8 (wrap64 (x9 + 1)))
end
def spec_SlotsOk.f (k : Nat) (l0 : List (S74)) : Option (Bool) := spec_SlotsOk.l0 k l0 l0 (l0.length : Int) 0
set_option maxHeartbeats 8000000 in
set_option maxRecDepth 100000 in
theorem spec_SlotsOk.calls (k : Nat) (A0 : Option Addr) (c0 : Nat) (l0 : List (S74)) (r : Bool) (w : World) (hr0 : Kd.C k74 w A0 l0.length l0) (hc0 : l0.length ≤ c0) (h : spec_SlotsOk.f k l0 = some r) :
  Calls Try.prog 112 #[.slice A0 l0.length c0] w fun e w' => e = .returned (.bool r) ∧ Below w.heap.size w w' := by
 have hu74 := Try.underlying74
 have HR0 := Aside0.mk hr0
 have HC0 := Aside0.mk hc0
 clear hr0 hc0
 have HB := Aside0.mk (Below.refl w.heap.size w)
 have H : (spec_SlotsOk.l0 k l0 l0 (l0.length : Int) 0) = some r := h
 clear h
 have H' := Aside0.mk H
 clear H
 go_enter Try.func112, Try.ntmps112
 go_wp2
 go_loopg [9] k (fun kq v9 w' => ∃ (x9_1 : Int), v9 = .int .i64 x9_1 ∧ Aside0 (spec_SlotsOk.l0 kq l0 l0 (l0.length : Int) x9_1 = some r) ∧ Aside0 (kq ≤ k) ∧ Aside0 (Below w.heap.size w w'))
 case atStart => exact ⟨(0), sp_, H', ⟨Nat.le_refl _⟩, ⟨bl_⟩⟩
 case round =>
  clear H'
  try clear c1
  obtain ⟨x9_1, rfl, HA, HK1, HB⟩ := hrel
  cases gk with
  | zero => exact absurd HA.out (by simp [spec_SlotsOk.l0])
  | succ k1 =>
   have H := HA.out
   clear HA
   simp only [spec_SlotsOk.l0] at H
   by_cases c2 : x9_1 < (l0.length : Int)
   ·rw [if_pos c2] at H
    have c2b0 : decide (x9_1 < (l0.length : Int)) = true := decide_eq_true c2
    clear c2
    by_cases c3 : 0 ≤ x9_1
    ·rw [if_pos c3] at H
     have c3b0 : decide (0 ≤ x9_1) = true := decide_eq_true c3
     clear c3
     by_cases c4 : x9_1 < (l0.length : Int)
     ·rw [if_pos c4] at H
      have c4b0 : decide (x9_1 < (l0.length : Int)) = true := decide_eq_true c4
      clear c4
      obtain ⟨t158, A5, H⟩ := ob_ H
      by_cases c6 : t158 = true
      ·subst c6
       replace H := ip_ H
       have c7b0 := eq_true (od_ : 0 ≤ x9_1)
       by_cases c8 : x9_1 ≤ (l0.length : Int)
       ·rw [if_pos c8] at H
        have c8b0 := eq_true c8
        have c8b1 : decide (x9_1 ≤ (l0.length : Int)) = true := decide_eq_true c8
        clear c8
        obtain ⟨y159, hy159⟩ : ∃ y_ : List (S74), y_ = (l0.take (x9_1 : Int).toNat) := ⟨_, rfl⟩
        replace H : (spec_SlotsOk.l1 k1 l0 l0 (l0.length : Int) x9_1 y159 (y159.length : Int) 0 ((rd_T74 l0 x9_1).f0) ((rd_T74 l0 x9_1).f1) ((rd_T74 l0 x9_1).f2)) = some r := by first | (rw [hy159]; with_reducible exact H) | (have H2_ := (Option.bind_some _ _).symm.trans H; rw [hy159]; with_reducible exact H2_) | (have H2_ := (Option.bind_some _ _).symm.trans H; with_reducible exact H2_) | with_reducible exact H | (rw [hy159]; exact H) | exact H
        have Ny159 := Aside0.mk hy159
        clear hy159
        have H' := Aside0.mk H
        clear H
        have p156 : 0 ≤ (x9_1 : Int) := od_
        have q156 : x9_1 < (l0.length : Int) := od_
        obtain ⟨ad156, A156_2, c156_2, e156, hx156_0, hx156_1, hx156_2, hl156_2, hi156_2⟩ := at_T74 HR0.out x9_1 p156 q156
        cases e156
        replace hx156_0 := kc_ HB hx156_0
        replace hx156_1 := kc_ HB hx156_1
        replace hx156_2 := kc_ HB hx156_2
        have HR156_2 := Aside0.mk hi156_2
        have HC156_2 := Aside0.mk hl156_2
        clear hi156_2 hl156_2
        replace p156 := eq_true p156
        replace q156 := eq_true q156
        go_wp2_with (first | ((with_reducible refine gate_dst (N := 4) rfl ?_); refine be_ (N := 4) (cs := #[.string (⟨#[]⟩ : ByteArray), .string (⟨#[]⟩ : ByteArray), .slice none 0 0]) (t := 74) ?_; intro gb157 hg w9 hbox hb; have BK157 := Aside0.mk (hbox); have GW157 := gw_ (w := w) hg; have GE157 := gw_ (w := w) hg; replace HB := Aside0.mk (below_step bl_ hb); clear hb hbox hg; obtain ⟨hcz10_0, hcz10_1, hcz10_2, hfz10_0, hfz10_1, hfz10_2⟩ := bx3_ BK157) | ((with_reducible refine gate_callee (f := 163) rfl ?_); refine goesL_ (some 15) rfl rfl Try.func163 (by kernel_rfl) rfl #[.agg #[.string ((rd_T74 l0 x9_1).f0), .string ((rd_T74 l0 x9_1).f1), .slice A156_2 ((rd_T74 l0 x9_1).f2).length c156_2]] rfl gl_ ?_; (with_reducible refine (spec_SlotOk.calls k1 ((rd_T74 l0 x9_1).f0) ((rd_T74 l0 x9_1).f1) _ _ ((rd_T74 l0 x9_1).f2) true _ ?side1 ?side2 A5.out).mono ?_); (case side1 => exact Kd.C_below HR156_2.out bl_); (case side2 => exact HC156_2.out); rintro e w11 ⟨rfl, hb⟩; refine ⟨_, rfl, ?_⟩; replace BK157 := Aside0.mk (blk_below (g := gb157) (o := .cells #[.string ((rd_T74 l0 x9_1).f0), .string ((rd_T74 l0 x9_1).f1), .slice A156_2 ((rd_T74 l0 x9_1).f2).length c156_2] 74 (0, 0)) (by (with_reducible repeat (first | refine blk_drewN ?_ _ | refine blk_drew ?_ | refine blk_alloc ?_ _)); apply bq3_2_1_0_; (with_reducible repeat (first | refine blk_drewN ?_ _ | refine blk_drew ?_ | refine blk_alloc ?_ _)); exact BK157.out) hb); replace HB := Aside0.mk (below_step bl_ hb); (try clear hb); (try clear hb2); (try clear hk); (try clear hi); have q12 : (x9_1 : Int) ≤ ((l0.length : Int) : Int) := od_; obtain ⟨i012, hi012, _, hsz12, _⟩ := info_parts info74; have hroom12 : l0.length ≤ c0 := HC0.out; have hC12 : Kd.C k74 _ (some ad156) l0.length l0 := HR0.out; have hcut12 := cut_to (P := Try.prog) 41 74 .i64 Try.underlying41 hi012 (some ad156) l0.length c0 x9_1 od_ q12 hroom12; have hr12 := Kd.C_take (m := (x9_1 : Int).toNat) hC12 (by omega); have hy12 : y159.length = (x9_1 : Int).toNat := (by rw [Ny159.out, List.length_take]; omega); rw [← Ny159.out] at hr12; rw [← hy12] at hcut12; have HR162 := Aside0.mk hr12; have HC162 := Aside0.mk (show y159.length ≤ c0 from by omega); clear hr12 hC12 hroom12 hi012 hsz12; have KY12 := Aside0.mk hy12; clear hy12; replace q12 := eq_true q12))
        go_loopg [21] k1 (fun kq v21 w' => ∃ (x21_2 : Int), v21 = .int .i64 x21_2 ∧ Aside0 (spec_SlotsOk.l1 kq l0 l0 (l0.length : Int) x9_1 y159 (y159.length : Int) x21_2 ((rd_T74 l0 x9_1).f0) ((rd_T74 l0 x9_1).f1) ((rd_T74 l0 x9_1).f2) = some r) ∧ Aside0 (kq ≤ k1) ∧ Aside0 (w'.heap[gb157]? = some (.cells #[.string ((rd_T74 l0 x9_1).f0), .string ((rd_T74 l0 x9_1).f1), (.slice A156_2 ((rd_T74 l0 x9_1).f2).length c156_2)] 74 (0, 0))) ∧ Aside0 (Below w.heap.size w w'))
        case atStart => exact ⟨(0), sp_, H', ⟨Nat.le_refl _⟩, ⟨by (with_reducible repeat (first | refine blk_drewN ?_ _ | refine blk_drew ?_ | refine blk_alloc ?_ _)); exact BK157.out⟩, ⟨bl_⟩⟩
        case round =>
         clear H'
         try clear c1
         try clear p1
         try clear q1
         try clear hx1
         try clear c2
         try clear c2b0
         try clear p2
         try clear c3
         try clear c3b0
         try clear c4
         try clear c4b0
         try clear c6
         try clear c7
         try clear c7b0
         try clear c8
         try clear c8b0
         try clear c8b1
         try clear c11
         try clear q12
         try clear hcz10_0
         try clear hcz10_1
         try clear hcz10_2
         try clear hfz10_0
         try clear hfz10_1
         try clear hfz10_2
         try clear hx156_0
         try clear hx156_1
         try clear hx156_2
         try clear p156
         try clear q12
         try clear q156
         obtain ⟨x21_2, rfl, HA, HK2, BK157, HB⟩ := hrel
         cases gk with
         | zero => exact absurd HA.out (by simp [spec_SlotsOk.l1])
         | succ k2 =>
          have H := HA.out
          clear HA
          simp only [spec_SlotsOk.l1] at H
          by_cases c13 : x21_2 < (y159.length : Int)
          ·rw [if_pos c13] at H
           have c13b0 : decide (x21_2 < (y159.length : Int)) = true := decide_eq_true c13
           clear c13
           by_cases c14 : 0 ≤ x21_2
           ·rw [if_pos c14] at H
            have c14b0 : decide (0 ≤ x21_2) = true := decide_eq_true c14
            clear c14
            by_cases c15 : x21_2 < (y159.length : Int)
            ·rw [if_pos c15] at H
             have c15b0 : decide (x21_2 < (y159.length : Int)) = true := decide_eq_true c15
             clear c15
             by_cases c16 : ((rd_T74 y159 x21_2).f0).toList = ((rd_T74 l0 x9_1).f0).toList
             ·rw [if_pos c16] at H
              have c16b0 : (((rd_T74 y159 x21_2).f0).toList == ((rd_T74 l0 x9_1).f0).toList) = true := beq_iff_eq.mpr c16
              have c16b1 : (((rd_T74 y159 x21_2).f0).toList != ((rd_T74 l0 x9_1).f0).toList) = false := bne_eq_false_iff_eq.mpr c16
              clear c16
              by_cases c17 : ((rd_T74 y159 x21_2).f1).toList = ((rd_T74 l0 x9_1).f1).toList
              ·rw [if_pos c17] at H
               have c17b0 : (((rd_T74 y159 x21_2).f1).toList == ((rd_T74 l0 x9_1).f1).toList) = true := beq_iff_eq.mpr c17
               have c17b1 : (((rd_T74 y159 x21_2).f1).toList != ((rd_T74 l0 x9_1).f1).toList) = false := bne_eq_false_iff_eq.mpr c17
               clear c17
               obtain rfl := Option.some.inj H
               have p163 : 0 ≤ (x21_2 : Int) := od_
               have q163 : x21_2 < (y159.length : Int) := od_
               obtain ⟨ad163, A163_2, c163_2, e163, hx163_0, hx163_1, hx163_2, hl163_2, hi163_2⟩ := at_T74 HR162.out x21_2 p163 q163
               obtain rfl : ad156 = ad163 := (by injection e163)
               replace hx163_0 := kc_ HB hx163_0
               replace hx163_1 := kc_ HB hx163_1
               replace hx163_2 := kc_ HB hx163_2
               have HR163_2 := Aside0.mk hi163_2
               have HC163_2 := Aside0.mk hl163_2
               clear hi163_2 hl163_2
               replace p163 := eq_true p163
               replace q163 := eq_true q163
               go_wp2_with (first | ((with_reducible refine gate_dst (N := 6) rfl ?_); refine be_ (N := 6) (cs := #[.string (⟨#[]⟩ : ByteArray), .string (⟨#[]⟩ : ByteArray), .slice none 0 0]) (t := 74) ?_; intro gb164 hg w18 hbox hb; have BK164 := Aside0.mk (hbox); have GW164 := gw_ (w := w) hg; have GE164 := gw_ (w := w) hg; replace HB := Aside0.mk (below_step bl_ hb); have NB157_164 := Aside0.mk ((by rw [hg]; exact Nat.ne_of_lt (blk_lt (bk_ BK157)) : gb157 ≠ gb164)); have NB164_157 := Aside0.mk ((by rw [hg]; exact Nat.ne_of_gt (blk_lt (bk_ BK157)) : gb164 ≠ gb157)); replace BK157 := Aside0.mk (blk_below (bk_ BK157) hb); clear hb hbox hg; have hnb19 := NB164_157.out; have hnc19 := NB157_164.out; obtain ⟨hcz20_0, hcz20_1, hcz20_2, hfz20_0, hfz20_1, hfz20_2⟩ := bx3_ BK164; obtain ⟨hcz21_0, hcz21_1, hcz21_2, hfz21_0, hfz21_1, hfz21_2⟩ := bx3_ BK157))
               go_ret
               exact ⟨sq_, bl_⟩
              ·rw [if_neg c17] at H
               have c17b0 : (((rd_T74 y159 x21_2).f1).toList == ((rd_T74 l0 x9_1).f1).toList) = false := beq_eq_false_iff_ne.mpr c17
               have c17b1 : (((rd_T74 y159 x21_2).f1).toList != ((rd_T74 l0 x9_1).f1).toList) = true := bne_iff_ne.mpr c17
               have H' := Aside0.mk H
               clear H
               have p163 : 0 ≤ (x21_2 : Int) := od_
               have q163 : x21_2 < (y159.length : Int) := od_
               obtain ⟨ad163, A163_2, c163_2, e163, hx163_0, hx163_1, hx163_2, hl163_2, hi163_2⟩ := at_T74 HR162.out x21_2 p163 q163
               obtain rfl : ad156 = ad163 := (by injection e163)
               replace hx163_0 := kc_ HB hx163_0
               replace hx163_1 := kc_ HB hx163_1
               replace hx163_2 := kc_ HB hx163_2
               have HR163_2 := Aside0.mk hi163_2
               have HC163_2 := Aside0.mk hl163_2
               clear hi163_2 hl163_2
               replace p163 := eq_true p163
               replace q163 := eq_true q163
               go_wp2_with (first | ((with_reducible refine gate_dst (N := 6) rfl ?_); refine be_ (N := 6) (cs := #[.string (⟨#[]⟩ : ByteArray), .string (⟨#[]⟩ : ByteArray), .slice none 0 0]) (t := 74) ?_; intro gb164 hg w22 hbox hb; have BK164 := Aside0.mk (hbox); have GW164 := gw_ (w := w) hg; have GE164 := gw_ (w := w) hg; replace HB := Aside0.mk (below_step bl_ hb); have NB157_164 := Aside0.mk ((by rw [hg]; exact Nat.ne_of_lt (blk_lt (bk_ BK157)) : gb157 ≠ gb164)); have NB164_157 := Aside0.mk ((by rw [hg]; exact Nat.ne_of_gt (blk_lt (bk_ BK157)) : gb164 ≠ gb157)); replace BK157 := Aside0.mk (blk_below (bk_ BK157) hb); clear hb hbox hg; have hnb23 := NB164_157.out; have hnc23 := NB157_164.out; obtain ⟨hcz24_0, hcz24_1, hcz24_2, hfz24_0, hfz24_1, hfz24_2⟩ := bx3_ BK164; obtain ⟨hcz25_0, hcz25_1, hcz25_2, hfz25_0, hfz25_1, hfz25_2⟩ := bx3_ BK157))
               go_roundg k2
               case measure => have := HK1.out; have := HK2.out; omega
               case rel => exact ⟨(wrap64 (x21_2 + 1)), sp_, H', ⟨by have := HK1.out; have := HK2.out; omega⟩, ⟨by (with_reducible repeat (first | refine blk_drewN ?_ _ | refine blk_drew ?_ | refine blk_alloc ?_ _)); refine blk_far ?_ NB157_164.out _; (with_reducible repeat (first | refine blk_drewN ?_ _ | refine blk_drew ?_ | refine blk_alloc ?_ _)); refine blk_far ?_ NB157_164.out _; (with_reducible repeat (first | refine blk_drewN ?_ _ | refine blk_drew ?_ | refine blk_alloc ?_ _)); refine blk_far ?_ NB157_164.out _; (with_reducible repeat (first | refine blk_drewN ?_ _ | refine blk_drew ?_ | refine blk_alloc ?_ _)); exact BK157.out⟩, ⟨bl_⟩⟩
             ·rw [if_neg c16] at H
              have c16b0 : (((rd_T74 y159 x21_2).f0).toList == ((rd_T74 l0 x9_1).f0).toList) = false := beq_eq_false_iff_ne.mpr c16
              have c16b1 : (((rd_T74 y159 x21_2).f0).toList != ((rd_T74 l0 x9_1).f0).toList) = true := bne_iff_ne.mpr c16
              have H' := Aside0.mk H
              clear H
              have p163 : 0 ≤ (x21_2 : Int) := od_
              have q163 : x21_2 < (y159.length : Int) := od_
              obtain ⟨ad163, A163_2, c163_2, e163, hx163_0, hx163_1, hx163_2, hl163_2, hi163_2⟩ := at_T74 HR162.out x21_2 p163 q163
              obtain rfl : ad156 = ad163 := (by injection e163)
              replace hx163_0 := kc_ HB hx163_0
              replace hx163_1 := kc_ HB hx163_1
              replace hx163_2 := kc_ HB hx163_2
              have HR163_2 := Aside0.mk hi163_2
              have HC163_2 := Aside0.mk hl163_2
              clear hi163_2 hl163_2
              replace p163 := eq_true p163
              replace q163 := eq_true q163
              go_wp2_with (first | ((with_reducible refine gate_dst (N := 6) rfl ?_); refine be_ (N := 6) (cs := #[.string (⟨#[]⟩ : ByteArray), .string (⟨#[]⟩ : ByteArray), .slice none 0 0]) (t := 74) ?_; intro gb164 hg w26 hbox hb; have BK164 := Aside0.mk (hbox); have GW164 := gw_ (w := w) hg; have GE164 := gw_ (w := w) hg; replace HB := Aside0.mk (below_step bl_ hb); have NB157_164 := Aside0.mk ((by rw [hg]; exact Nat.ne_of_lt (blk_lt (bk_ BK157)) : gb157 ≠ gb164)); have NB164_157 := Aside0.mk ((by rw [hg]; exact Nat.ne_of_gt (blk_lt (bk_ BK157)) : gb164 ≠ gb157)); replace BK157 := Aside0.mk (blk_below (bk_ BK157) hb); clear hb hbox hg; have hnb27 := NB164_157.out; have hnc27 := NB157_164.out; obtain ⟨hcz28_0, hcz28_1, hcz28_2, hfz28_0, hfz28_1, hfz28_2⟩ := bx3_ BK164; obtain ⟨hcz29_0, hcz29_1, hcz29_2, hfz29_0, hfz29_1, hfz29_2⟩ := bx3_ BK157))
              go_roundg k2
              case measure => have := HK1.out; have := HK2.out; omega
              case rel => exact ⟨(wrap64 (x21_2 + 1)), sp_, H', ⟨by have := HK1.out; have := HK2.out; omega⟩, ⟨by (with_reducible repeat (first | refine blk_drewN ?_ _ | refine blk_drew ?_ | refine blk_alloc ?_ _)); refine blk_far ?_ NB157_164.out _; (with_reducible repeat (first | refine blk_drewN ?_ _ | refine blk_drew ?_ | refine blk_alloc ?_ _)); refine blk_far ?_ NB157_164.out _; (with_reducible repeat (first | refine blk_drewN ?_ _ | refine blk_drew ?_ | refine blk_alloc ?_ _)); refine blk_far ?_ NB157_164.out _; (with_reducible repeat (first | refine blk_drewN ?_ _ | refine blk_drew ?_ | refine blk_alloc ?_ _)); exact BK157.out⟩, ⟨bl_⟩⟩
            ·rw [if_neg c15] at H
             exact absurd H (by simp)
           ·rw [if_neg c14] at H
            exact absurd H (by simp)
          ·rw [if_neg c13] at H
           have c13b0 : decide (x21_2 < (y159.length : Int)) = false := decide_eq_false c13
           clear c13
           have H' := Aside0.mk H
           clear H
           go_wp2
           go_roundg k2
           case measure => have := HK1.out; have := HK2.out; omega
           case rel => exact ⟨(wrap64 (x9_1 + 1)), sp_, H', ⟨by have := HK1.out; have := HK2.out; omega⟩, ⟨bl_⟩⟩
       ·rw [if_neg c8] at H
        exact absurd H (by simp)
      ·replace c6 := Bool.eq_false_iff.mpr c6
       subst c6
       replace H := in_ H
       obtain rfl := Option.some.inj H
       have p156 : 0 ≤ (x9_1 : Int) := od_
       have q156 : x9_1 < (l0.length : Int) := od_
       obtain ⟨ad156, A156_2, c156_2, e156, hx156_0, hx156_1, hx156_2, hl156_2, hi156_2⟩ := at_T74 HR0.out x9_1 p156 q156
       cases e156
       replace hx156_0 := kc_ HB hx156_0
       replace hx156_1 := kc_ HB hx156_1
       replace hx156_2 := kc_ HB hx156_2
       have HR156_2 := Aside0.mk hi156_2
       have HC156_2 := Aside0.mk hl156_2
       clear hi156_2 hl156_2
       replace p156 := eq_true p156
       replace q156 := eq_true q156
       go_wp2_with (first | ((with_reducible refine gate_dst (N := 4) rfl ?_); refine be_ (N := 4) (cs := #[.string (⟨#[]⟩ : ByteArray), .string (⟨#[]⟩ : ByteArray), .slice none 0 0]) (t := 74) ?_; intro gb157 hg w30 hbox hb; have BK157 := Aside0.mk (hbox); have GW157 := gw_ (w := w) hg; have GE157 := gw_ (w := w) hg; replace HB := Aside0.mk (below_step bl_ hb); clear hb hbox hg; obtain ⟨hcz31_0, hcz31_1, hcz31_2, hfz31_0, hfz31_1, hfz31_2⟩ := bx3_ BK157) | ((with_reducible refine gate_callee (f := 163) rfl ?_); refine goesL_ (some 15) rfl rfl Try.func163 (by kernel_rfl) rfl #[.agg #[.string ((rd_T74 l0 x9_1).f0), .string ((rd_T74 l0 x9_1).f1), .slice A156_2 ((rd_T74 l0 x9_1).f2).length c156_2]] rfl gl_ ?_; (with_reducible refine (spec_SlotOk.calls k1 ((rd_T74 l0 x9_1).f0) ((rd_T74 l0 x9_1).f1) _ _ ((rd_T74 l0 x9_1).f2) false _ ?side1 ?side2 A5.out).mono ?_); (case side1 => exact Kd.C_below HR156_2.out bl_); (case side2 => exact HC156_2.out); rintro e w32 ⟨rfl, hb⟩; refine ⟨_, rfl, ?_⟩; replace BK157 := Aside0.mk (blk_below (g := gb157) (o := .cells #[.string ((rd_T74 l0 x9_1).f0), .string ((rd_T74 l0 x9_1).f1), .slice A156_2 ((rd_T74 l0 x9_1).f2).length c156_2] 74 (0, 0)) (by (with_reducible repeat (first | refine blk_drewN ?_ _ | refine blk_drew ?_ | refine blk_alloc ?_ _)); apply bq3_2_1_0_; (with_reducible repeat (first | refine blk_drewN ?_ _ | refine blk_drew ?_ | refine blk_alloc ?_ _)); exact BK157.out) hb); replace HB := Aside0.mk (below_step bl_ hb); (try clear hb); (try clear hb2); (try clear hk); (try clear hi)))
       go_ret
       exact ⟨sq_, bl_⟩
     ·rw [if_neg c4] at H
      exact absurd H (by simp)
    ·rw [if_neg c3] at H
     exact absurd H (by simp)
   ·rw [if_neg c2] at H
    have c2b0 : decide (x9_1 < (l0.length : Int)) = false := decide_eq_false c2
    clear c2
    obtain rfl := Option.some.inj H
    go_wp2
    go_ret
    exact ⟨sq_, bl_⟩
end Go.Proofs.Ytepjnalkpfnmcaa.QFnExactSlotPut
