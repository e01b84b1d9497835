-- by my own printer (myprint.py, over the kit's print.py)
import Derived.Test.YtbjpfknmkpnhjaaDoorQFnMoneyx0
import Derived.Test.YtbjpfknmkpnhjaaDoorQFnMoneyx1
import Derived.Test.YtbjpfknmkpnhjaaDoorQFnMoneyx2
namespace Go.Proofs.YtbjpfknmkpnhjaaDoor.QFnMoney
open Go.RowKit Go.Proofs.YtbjpfknmkpnhjaaDoorW.PrintWords Go.Proofs.YtbjpfknmkpnhjaaDoorW.PrintLast Go.Proofs.YtbjpfknmkpnhjaaDoorW.PrintMore
attribute [local go_sem] max2_int min2_int max_two min_two max_three min_three max_four min_four   -- for this text's walks alone
set_option linter.unusedVariables false
set_option linter.unusedSimpArgs false
attribute [local go_sem] my_geq my_leq my_gtr
/-! ### spec_RingOk: function 135 -/
mutual
def spec_RingOk.j0 : Nat → Bool → Int → Int → List Int → List Int → Option (Bool)
 | 0, _, _, _, _, _ => none
 | k + 1, x29, x137000, x137001, x137002, x137003 => if x29 = true then (some false) else (spec_RingOk.l0 k (x137002.length : Int) 0 x137000 x137001 x137002 x137003)
def spec_RingOk.l0 : Nat → Int → Int → Int → Int → List Int → List Int → Option (Bool)
 | 0, _, _, _, _, _, _ => none
 | k + 1, x32, x33, x137000, x137001, x137002, x137003 => if x33 < x32 then (if 0 ≤ x33 then (if x33 < (x137002.length : Int) then ((spec_l01Money.f (rd x137002 x33)).bind fun t141 => (if t141 = true then (if x33 < (x137003.length : Int) then ((spec_l01Money.f (rd x137003 x33)).bind fun t143 => (if t143 = true then (spec_RingOk.l0 k x32 (wrap64 (x33 + 1)) x137000 x137001 x137002 x137003) else (some false))) else (none)) else (some false))) else (none)) else (none)) else (some true)
end
def spec_RingOk.f (k : Nat) (a0_0 : Int) (a0_1 : Int) (l0_2 : List Int) (l0_3 : List Int) : Option (Bool) := (spec_l01In.f a0_0 1 1000).bind fun t137 => (if t137 = true then ((spec_l01In.f (l0_2.length : Int) 1 8).bind fun t138 => (if t138 = true then (if (l0_3.length : Int) = (l0_2.length : Int) then ((spec_l06Time.f a0_1).bind fun t139 => (spec_RingOk.j0 k (!t139) a0_0 a0_1 l0_2 l0_3)) else (spec_RingOk.j0 k true a0_0 a0_1 l0_2 l0_3)) else (spec_RingOk.j0 k true a0_0 a0_1 l0_2 l0_3))) else (spec_RingOk.j0 k true a0_0 a0_1 l0_2 l0_3))
set_option maxHeartbeats 8000000 in
set_option maxRecDepth 100000 in
theorem spec_RingOk.calls (k : Nat) (a0_0 : Int) (a0_1 : Int) (A0_2 : Option Addr) (c0_2 : Nat) (l0_2 : List Int) (A0_3 : Option Addr) (c0_3 : Nat) (l0_3 : List Int) (r : Bool) (w : World) (hr0_2 : Kd.C (Kd.int .i64) w A0_2 l0_2.length l0_2) (hc0_2 : l0_2.length ≤ c0_2) (hr0_3 : Kd.C (Kd.int .i64) w A0_3 l0_3.length l0_3) (hc0_3 : l0_3.length ≤ c0_3) (h : spec_RingOk.f k a0_0 a0_1 l0_2 l0_3 = some r) :
  Calls Tryd.prog 135 #[.agg #[.int .i64 a0_0, .int .i64 a0_1, .slice A0_2 l0_2.length c0_2, .slice A0_3 l0_3.length c0_3]] w fun e w' => e = .returned (.bool r) ∧ Below w.heap.size w w' := by
 have hu26 := Tryd.underlying26
 have HR0_2 := Aside0.mk hr0_2
 have HC0_2 := Aside0.mk hc0_2
 clear hr0_2 hc0_2
 have HR0_3 := Aside0.mk hr0_3
 have HC0_3 := Aside0.mk hc0_3
 clear hr0_3 hc0_3
 have HB := Aside0.mk (Below.refl w.heap.size w)
 have H : ((spec_l01In.f a0_0 1 1000).bind fun t137 => (if t137 = true then ((spec_l01In.f (l0_2.length : Int) 1 8).bind fun t138 => (if t138 = true then (if (l0_3.length : Int) = (l0_2.length : Int) then ((spec_l06Time.f a0_1).bind fun t139 => (spec_RingOk.j0 k (!t139) a0_0 a0_1 l0_2 l0_3)) else (spec_RingOk.j0 k true a0_0 a0_1 l0_2 l0_3)) else (spec_RingOk.j0 k true a0_0 a0_1 l0_2 l0_3))) else (spec_RingOk.j0 k true a0_0 a0_1 l0_2 l0_3))) = some r := h
 clear h
 have HC2 := Aside0.mk H
 clear H
 go_enter Tryd.func135, Tryd.ntmps135
 go_upto_region 1 with (first | ((with_reducible refine gate_dst (N := 1) rfl ?_); (try (refine gate_guard (by rfl) ?_; dsimp only)); refine be_ (N := 1) (cs := #[.int .i64 a0_0, .int .i64 a0_1, .slice A0_2 l0_2.length c0_2, .slice A0_3 l0_3.length c0_3]) (t := 26) ?_; intro gb136 hg w3 hbox hb; have BK136 := Aside0.mk (hbox); have GW136 := gw_ (w := w) hg; have GE136 := gw_ (w := w) hg; replace HB := Aside0.mk (below_step bl_ hb); clear hb hbox hg))
 (try simp only [Act.put, List.setIfInBounds_toArray, List.set_cons_zero, List.set_cons_succ])
 go_cut [29] (fun v29 wc => ∃ (kq : Nat) (x29_1 : Bool), v29 = .bool x29_1 ∧ Aside0 (spec_RingOk.j0 kq x29_1 a0_0 a0_1 l0_2 l0_3 = some r) ∧ Aside0 (kq ≤ k) ∧ Aside0 (wc.heap[gb136]? = some (.cells #[.int .i64 a0_0, .int .i64 a0_1, (.slice A0_2 l0_2.length c0_2), (.slice A0_3 l0_3.length c0_3)] 26 (0, 0))) ∧ Aside0 (Below w.heap.size w wc))
 case first =>
  have H := HC2.out
  clear HC2
  obtain ⟨t137, A4, H⟩ := ob_ H
  by_cases c5 : t137 = true
  ·subst c5
   replace H := ip_ H
   obtain ⟨t138, A6, H⟩ := ob_ H
   by_cases c7 : t138 = true
   ·subst c7
    replace H := ip_ H
    by_cases c8 : (l0_3.length : Int) = (l0_2.length : Int)
    ·rw [if_pos c8] at H
     have c8b0 : ((l0_3.length : Int) == (l0_2.length : Int)) = true := beq_iff_eq.mpr c8
     have c8b1 : ((l0_3.length : Int) != (l0_2.length : Int)) = false := bne_eq_false_iff_eq.mpr c8
     have c8b2 : (l0_3.length == l0_2.length) = true := by first | simpa using c8 | (simp at c8 ⊢; omega)
     clear c8
     (first | rw [c8b0] | (simp only [i64_w, i32_w]; rw [c8b0]) | skip)
     obtain ⟨t139, A9, H⟩ := ob_ H
     have H' := Aside0.mk H
     clear H
     have hcz10_0 := cz_ BK136 0 (.int .i64 a0_0)
     have hcz10_1 := cz_ BK136 1 (.int .i64 a0_1)
     have hcz10_2 := cz_ BK136 2 (.slice A0_2 l0_2.length c0_2)
     have hcz10_3 := cz_ BK136 3 (.slice A0_3 l0_3.length c0_3)
     have hfz10_0 := fz_ BK136 0
     have hfz10_1 := fz_ BK136 1
     have hfz10_2 := fz_ BK136 2
     have hfz10_3 := fz_ BK136 3
     go_wp2_with (first | ((with_reducible refine gate_callee (f := 69) rfl ?_); refine goesL_ (some 6) rfl rfl Tryd.func69 (by kernel_rfl) rfl #[.int .i64 a0_0, .int .i64 1, .int .i64 1000] rfl gl_ ?_; (with_reducible refine (spec_l01In.calls a0_0 1 1000 true _ A4.out).mono ?_); rintro e w' ⟨rfl, ⟨nd, rfl⟩⟩; refine ⟨_, rfl, ?_⟩) | (go_at_call 69; (with_reducible refine (spec_l01In.calls (l0_2.length : Int) 1 8 true _ A6.out).mono ?_); rintro e w' ⟨rfl, ⟨nd, rfl⟩⟩) | (go_at_call 137; (with_reducible refine (spec_l06Time.calls a0_1 t139 _ A9.out).mono ?_); rintro e w' ⟨rfl, ⟨nd, rfl⟩⟩))
     go_meet
     case rel => exact ⟨_, (!t139), sp_, H', ⟨by first | omega | exact Nat.le_refl _⟩, ⟨by (with_reducible repeat (first | refine blk_drewN ?_ _ | refine blk_drew ?_ | refine blk_alloc ?_ _)); exact BK136.out⟩, ⟨bl_⟩⟩
    ·rw [if_neg c8] at H
     have c8b0 : ((l0_3.length : Int) == (l0_2.length : Int)) = false := beq_eq_false_iff_ne.mpr c8
     have c8b1 : ((l0_3.length : Int) != (l0_2.length : Int)) = true := bne_iff_ne.mpr c8
     have c8b2 : (l0_3.length == l0_2.length) = false := by first | simpa using c8 | (simp at c8 ⊢; omega)
     (first | rw [c8b0] | (simp only [i64_w, i32_w]; rw [c8b0]) | skip)
     have H' := Aside0.mk H
     clear H
     have hcz11_0 := cz_ BK136 0 (.int .i64 a0_0)
     have hcz11_1 := cz_ BK136 1 (.int .i64 a0_1)
     have hcz11_2 := cz_ BK136 2 (.slice A0_2 l0_2.length c0_2)
     have hcz11_3 := cz_ BK136 3 (.slice A0_3 l0_3.length c0_3)
     have hfz11_0 := fz_ BK136 0
     have hfz11_1 := fz_ BK136 1
     have hfz11_2 := fz_ BK136 2
     have hfz11_3 := fz_ BK136 3
     go_wp2_with (first | ((with_reducible refine gate_callee (f := 69) rfl ?_); refine goesL_ (some 6) rfl rfl Tryd.func69 (by kernel_rfl) rfl #[.int .i64 a0_0, .int .i64 1, .int .i64 1000] rfl gl_ ?_; (with_reducible refine (spec_l01In.calls a0_0 1 1000 true _ A4.out).mono ?_); rintro e w' ⟨rfl, ⟨nd, rfl⟩⟩; refine ⟨_, rfl, ?_⟩) | (go_at_call 69; (with_reducible refine (spec_l01In.calls (l0_2.length : Int) 1 8 true _ A6.out).mono ?_); rintro e w' ⟨rfl, ⟨nd, rfl⟩⟩))
     go_meet
     case rel => exact ⟨_, (true), sp_, H', ⟨by first | omega | exact Nat.le_refl _⟩, ⟨by (with_reducible repeat (first | refine blk_drewN ?_ _ | refine blk_drew ?_ | refine blk_alloc ?_ _)); exact BK136.out⟩, ⟨bl_⟩⟩
   ·replace c7 := Bool.eq_false_iff.mpr c7
    subst c7
    replace H := in_ H
    have H' := Aside0.mk H
    clear H
    have hcz12_0 := cz_ BK136 0 (.int .i64 a0_0)
    have hcz12_1 := cz_ BK136 1 (.int .i64 a0_1)
    have hcz12_2 := cz_ BK136 2 (.slice A0_2 l0_2.length c0_2)
    have hcz12_3 := cz_ BK136 3 (.slice A0_3 l0_3.length c0_3)
    have hfz12_0 := fz_ BK136 0
    have hfz12_1 := fz_ BK136 1
    have hfz12_2 := fz_ BK136 2
    have hfz12_3 := fz_ BK136 3
    go_wp2_with (first | ((with_reducible refine gate_callee (f := 69) rfl ?_); refine goesL_ (some 6) rfl rfl Tryd.func69 (by kernel_rfl) rfl #[.int .i64 a0_0, .int .i64 1, .int .i64 1000] rfl gl_ ?_; (with_reducible refine (spec_l01In.calls a0_0 1 1000 true _ A4.out).mono ?_); rintro e w' ⟨rfl, ⟨nd, rfl⟩⟩; refine ⟨_, rfl, ?_⟩) | (go_at_call 69; (with_reducible refine (spec_l01In.calls (l0_2.length : Int) 1 8 false _ A6.out).mono ?_); rintro e w' ⟨rfl, ⟨nd, rfl⟩⟩))
    go_meet
    case rel => exact ⟨_, (true), sp_, H', ⟨by first | omega | exact Nat.le_refl _⟩, ⟨by (with_reducible repeat (first | refine blk_drewN ?_ _ | refine blk_drew ?_ | refine blk_alloc ?_ _)); exact BK136.out⟩, ⟨bl_⟩⟩
  ·replace c5 := Bool.eq_false_iff.mpr c5
   subst c5
   replace H := in_ H
   have H' := Aside0.mk H
   clear H
   have hcz13_0 := cz_ BK136 0 (.int .i64 a0_0)
   have hcz13_1 := cz_ BK136 1 (.int .i64 a0_1)
   have hcz13_2 := cz_ BK136 2 (.slice A0_2 l0_2.length c0_2)
   have hcz13_3 := cz_ BK136 3 (.slice A0_3 l0_3.length c0_3)
   have hfz13_0 := fz_ BK136 0
   have hfz13_1 := fz_ BK136 1
   have hfz13_2 := fz_ BK136 2
   have hfz13_3 := fz_ BK136 3
   go_wp2_with (first | ((with_reducible refine gate_callee (f := 69) rfl ?_); refine goesL_ (some 6) rfl rfl Tryd.func69 (by kernel_rfl) rfl #[.int .i64 a0_0, .int .i64 1, .int .i64 1000] rfl gl_ ?_; (with_reducible refine (spec_l01In.calls a0_0 1 1000 false _ A4.out).mono ?_); rintro e w' ⟨rfl, ⟨nd, rfl⟩⟩; refine ⟨_, rfl, ?_⟩))
   go_meet
   case rel => exact ⟨_, (true), sp_, H', ⟨by first | omega | exact Nat.le_refl _⟩, ⟨by (with_reducible repeat (first | refine blk_drewN ?_ _ | refine blk_drew ?_ | refine blk_alloc ?_ _)); exact BK136.out⟩, ⟨bl_⟩⟩
 case rest =>
  clear HC2
  try clear c1
  try clear p2
  try clear c5
  try clear c6
  try clear c7
  try clear c8
  try clear c8b0
  try clear c8b1
  try clear c8b2
  try clear c13
  try clear hcz10_0
  try clear hcz10_1
  try clear hcz10_2
  try clear hcz10_3
  try clear hcz11_0
  try clear hcz11_1
  try clear hcz11_2
  try clear hcz11_3
  try clear hcz12_0
  try clear hcz12_1
  try clear hcz12_2
  try clear hcz12_3
  try clear hcz13_0
  try clear hcz13_1
  try clear hcz13_2
  try clear hcz13_3
  try clear hfz10_0
  try clear hfz10_1
  try clear hfz10_2
  try clear hfz10_3
  try clear hfz11_0
  try clear hfz11_1
  try clear hfz11_2
  try clear hfz11_3
  try clear hfz12_0
  try clear hfz12_1
  try clear hfz12_2
  try clear hfz12_3
  try clear hfz13_0
  try clear hfz13_1
  try clear hfz13_2
  try clear hfz13_3
  obtain ⟨kq, x29_1, rfl, HA, HJ1, BK136, HB⟩ := hcut
  cases kq with
  | zero => exact absurd HA.out (by simp [spec_RingOk.j0])
  | succ kj1 =>
   have H := HA.out
   clear HA
   simp only [spec_RingOk.j0] at H
   by_cases c14 : x29_1 = true
   ·subst c14
    replace H := ip_ H
    obtain rfl := Option.some.inj H
    go_wp2
    go_ret
    exact ⟨sq_, bl_⟩
   ·replace c14 := Bool.eq_false_iff.mpr c14
    subst c14
    replace H := in_ H
    have H' := Aside0.mk H
    clear H
    have hcz15_0 := cz_ BK136 0 (.int .i64 a0_0)
    have hcz15_1 := cz_ BK136 1 (.int .i64 a0_1)
    have hcz15_2 := cz_ BK136 2 (.slice A0_2 l0_2.length c0_2)
    have hcz15_3 := cz_ BK136 3 (.slice A0_3 l0_3.length c0_3)
    have hfz15_0 := fz_ BK136 0
    have hfz15_1 := fz_ BK136 1
    have hfz15_2 := fz_ BK136 2
    have hfz15_3 := fz_ BK136 3
    go_wp2
    go_loopg [33] kj1 (fun kq v33 w' => ∃ (x33_2 : Int), v33 = .int .i64 x33_2 ∧ Aside0 (spec_RingOk.l0 kq (l0_2.length : Int) x33_2 a0_0 a0_1 l0_2 l0_3 = some r) ∧ Aside0 (kq ≤ kj1) ∧ Aside0 (w'.heap[gb136]? = some (.cells #[.int .i64 a0_0, .int .i64 a0_1, (.slice A0_2 l0_2.length c0_2), (.slice A0_3 l0_3.length c0_3)] 26 (0, 0))) ∧ Aside0 (Below w.heap.size w w'))
    case atStart => exact ⟨(0), sp_, H', ⟨Nat.le_refl _⟩, ⟨by (with_reducible repeat (first | refine blk_drewN ?_ _ | refine blk_drew ?_ | refine blk_alloc ?_ _)); exact BK136.out⟩, ⟨bl_⟩⟩
    case round =>
     clear H'
     try clear c1
     try clear p2
     try clear c5
     try clear c6
     try clear c7
     try clear c8
     try clear c8b0
     try clear c8b1
     try clear c8b2
     try clear c13
     try clear c14
     try clear hcz10_0
     try clear hcz10_1
     try clear hcz10_2
     try clear hcz10_3
     try clear hcz11_0
     try clear hcz11_1
     try clear hcz11_2
     try clear hcz11_3
     try clear hcz12_0
     try clear hcz12_1
     try clear hcz12_2
     try clear hcz12_3
     try clear hcz13_0
     try clear hcz13_1
     try clear hcz13_2
     try clear hcz13_3
     try clear hcz15_0
     try clear hcz15_1
     try clear hcz15_2
     try clear hcz15_3
     try clear hfz10_0
     try clear hfz10_1
     try clear hfz10_2
     try clear hfz10_3
     try clear hfz11_0
     try clear hfz11_1
     try clear hfz11_2
     try clear hfz11_3
     try clear hfz12_0
     try clear hfz12_1
     try clear hfz12_2
     try clear hfz12_3
     try clear hfz13_0
     try clear hfz13_1
     try clear hfz13_2
     try clear hfz13_3
     try clear hfz15_0
     try clear hfz15_1
     try clear hfz15_2
     try clear hfz15_3
     try clear p2
     obtain ⟨x33_2, rfl, HA, HK2, BK136, HB⟩ := hrel
     cases gk with
     | zero => exact absurd HA.out (by simp [spec_RingOk.l0])
     | succ k2 =>
      have H := HA.out
      clear HA
      simp only [spec_RingOk.l0] at H
      by_cases c16 : x33_2 < (l0_2.length : Int)
      ·rw [if_pos c16] at H
       have c16b0 : decide (x33_2 < (l0_2.length : Int)) = true := decide_eq_true c16
       clear c16
       by_cases c17 : 0 ≤ x33_2
       ·rw [if_pos c17] at H
        have c17b0 : decide (0 ≤ x33_2) = true := decide_eq_true c17
        clear c17
        by_cases c18 : x33_2 < (l0_2.length : Int)
        ·rw [if_pos c18] at H
         have c18b0 : decide (x33_2 < (l0_2.length : Int)) = true := decide_eq_true c18
         clear c18
         obtain ⟨t141, A19, H⟩ := ob_ H
         by_cases c20 : t141 = true
         ·subst c20
          replace H := ip_ H
          by_cases c21 : x33_2 < (l0_3.length : Int)
          ·rw [if_pos c21] at H
           have c21b0 : decide (x33_2 < (l0_3.length : Int)) = true := decide_eq_true c21
           clear c21
           obtain ⟨t143, A22, H⟩ := ob_ H
           by_cases c23 : t143 = true
           ·subst c23
            replace H := ip_ H
            have H' := Aside0.mk H
            clear H
            have hcz24_0 := cz_ BK136 0 (.int .i64 a0_0)
            have hcz24_1 := cz_ BK136 1 (.int .i64 a0_1)
            have hcz24_2 := cz_ BK136 2 (.slice A0_2 l0_2.length c0_2)
            have hcz24_3 := cz_ BK136 3 (.slice A0_3 l0_3.length c0_3)
            have hfz24_0 := fz_ BK136 0
            have hfz24_1 := fz_ BK136 1
            have hfz24_2 := fz_ BK136 2
            have hfz24_3 := fz_ BK136 3
            have p140 : 0 ≤ (x33_2 : Int) := od_
            have q140 : x33_2 < (l0_2.length : Int) := od_
            obtain ⟨ad140, e140, hx140_0⟩ := Kd.at_int HR0_2.out x33_2 p140 q140
            cases e140
            replace hx140_0 := kc_ HB hx140_0
            replace p140 := eq_true p140
            replace q140 := eq_true q140
            go_wp2_with (first | ((with_reducible refine gate_callee (f := 115) rfl ?_); refine goesL_ (some 41) rfl rfl Tryd.func115 (by kernel_rfl) rfl #[.int .i64 (rd l0_2 x33_2)] rfl gl_ ?_; (with_reducible refine (spec_l01Money.calls (rd l0_2 x33_2) true _ A19.out).mono ?_); rintro e w' ⟨rfl, ⟨nd, rfl⟩⟩; refine ⟨_, rfl, ?_⟩; have p142 : 0 ≤ (x33_2 : Int) := od_; have q142 : x33_2 < (l0_3.length : Int) := od_; obtain ⟨ad142, e142, hx142_0⟩ := Kd.at_int HR0_3.out x33_2 p142 q142; cases e142; replace hx142_0 := kc_ HB hx142_0; replace p142 := eq_true p142; replace q142 := eq_true q142) | (go_at_call 115; (with_reducible refine (spec_l01Money.calls (rd l0_3 x33_2) true _ A22.out).mono ?_); rintro e w' ⟨rfl, ⟨nd, rfl⟩⟩))
            go_roundg k2
            case measure => have := HJ1.out; have := HK2.out; omega
            case rel => exact ⟨(wrap64 (x33_2 + 1)), sp_, H', ⟨by have := HJ1.out; have := HK2.out; omega⟩, ⟨by (with_reducible repeat (first | refine blk_drewN ?_ _ | refine blk_drew ?_ | refine blk_alloc ?_ _)); exact BK136.out⟩, ⟨bl_⟩⟩
           ·replace c23 := Bool.eq_false_iff.mpr c23
            subst c23
            replace H := in_ H
            obtain rfl := Option.some.inj H
            have hcz25_0 := cz_ BK136 0 (.int .i64 a0_0)
            have hcz25_1 := cz_ BK136 1 (.int .i64 a0_1)
            have hcz25_2 := cz_ BK136 2 (.slice A0_2 l0_2.length c0_2)
            have hcz25_3 := cz_ BK136 3 (.slice A0_3 l0_3.length c0_3)
            have hfz25_0 := fz_ BK136 0
            have hfz25_1 := fz_ BK136 1
            have hfz25_2 := fz_ BK136 2
            have hfz25_3 := fz_ BK136 3
            have p140 : 0 ≤ (x33_2 : Int) := od_
            have q140 : x33_2 < (l0_2.length : Int) := od_
            obtain ⟨ad140, e140, hx140_0⟩ := Kd.at_int HR0_2.out x33_2 p140 q140
            cases e140
            replace hx140_0 := kc_ HB hx140_0
            replace p140 := eq_true p140
            replace q140 := eq_true q140
            go_wp2_with (first | ((with_reducible refine gate_callee (f := 115) rfl ?_); refine goesL_ (some 41) rfl rfl Tryd.func115 (by kernel_rfl) rfl #[.int .i64 (rd l0_2 x33_2)] rfl gl_ ?_; (with_reducible refine (spec_l01Money.calls (rd l0_2 x33_2) true _ A19.out).mono ?_); rintro e w' ⟨rfl, ⟨nd, rfl⟩⟩; refine ⟨_, rfl, ?_⟩; have p142 : 0 ≤ (x33_2 : Int) := od_; have q142 : x33_2 < (l0_3.length : Int) := od_; obtain ⟨ad142, e142, hx142_0⟩ := Kd.at_int HR0_3.out x33_2 p142 q142; cases e142; replace hx142_0 := kc_ HB hx142_0; replace p142 := eq_true p142; replace q142 := eq_true q142) | (go_at_call 115; (with_reducible refine (spec_l01Money.calls (rd l0_3 x33_2) false _ A22.out).mono ?_); rintro e w' ⟨rfl, ⟨nd, rfl⟩⟩))
            go_ret
            exact ⟨sq_, bl_⟩
          ·rw [if_neg c21] at H
           exact absurd H (by simp)
         ·replace c20 := Bool.eq_false_iff.mpr c20
          subst c20
          replace H := in_ H
          obtain rfl := Option.some.inj H
          have hcz26_0 := cz_ BK136 0 (.int .i64 a0_0)
          have hcz26_1 := cz_ BK136 1 (.int .i64 a0_1)
          have hcz26_2 := cz_ BK136 2 (.slice A0_2 l0_2.length c0_2)
          have hcz26_3 := cz_ BK136 3 (.slice A0_3 l0_3.length c0_3)
          have hfz26_0 := fz_ BK136 0
          have hfz26_1 := fz_ BK136 1
          have hfz26_2 := fz_ BK136 2
          have hfz26_3 := fz_ BK136 3
          have p140 : 0 ≤ (x33_2 : Int) := od_
          have q140 : x33_2 < (l0_2.length : Int) := od_
          obtain ⟨ad140, e140, hx140_0⟩ := Kd.at_int HR0_2.out x33_2 p140 q140
          cases e140
          replace hx140_0 := kc_ HB hx140_0
          replace p140 := eq_true p140
          replace q140 := eq_true q140
          go_wp2_with (first | ((with_reducible refine gate_callee (f := 115) rfl ?_); refine goesL_ (some 41) rfl rfl Tryd.func115 (by kernel_rfl) rfl #[.int .i64 (rd l0_2 x33_2)] rfl gl_ ?_; (with_reducible refine (spec_l01Money.calls (rd l0_2 x33_2) false _ A19.out).mono ?_); rintro e w' ⟨rfl, ⟨nd, rfl⟩⟩; refine ⟨_, rfl, ?_⟩))
          go_ret
          exact ⟨sq_, bl_⟩
        ·rw [if_neg c18] at H
         exact absurd H (by simp)
       ·rw [if_neg c17] at H
        exact absurd H (by simp)
      ·rw [if_neg c16] at H
       have c16b0 : decide (x33_2 < (l0_2.length : Int)) = false := decide_eq_false c16
       clear c16
       obtain rfl := Option.some.inj H
       go_wp2
       go_ret
       exact ⟨sq_, bl_⟩
/-! ### spec_SlotOk: function 161 -/
def spec_SlotOk.f (k : Nat) (a0_0 : ByteArray) (a0_1 : ByteArray) (l0_2 : List Int) : Option (Bool) := (spec_Digits.f k a0_0).bind fun t145 => (if t145 = true then (if (a0_0.size : Int) = 6 then ((spec_Digits.f k a0_1).bind fun t146 => (if t146 = true then (if (a0_1.size : Int) = 4 then ((spec_l01In.f (l0_2.length : Int) 1 200).bind fun t147 => (some t147)) else (some false)) else (some false))) else (some false)) else (some false))
set_option maxHeartbeats 8000000 in
set_option maxRecDepth 100000 in
theorem spec_SlotOk.calls (k : Nat) (a0_0 : ByteArray) (a0_1 : ByteArray) (A0_2 : Option Addr) (c0_2 : Nat) (l0_2 : List Int) (r : Bool) (w : World) (hr0_2 : Kd.C (Kd.int .u8) w A0_2 l0_2.length l0_2) (hc0_2 : l0_2.length ≤ c0_2) (h : spec_SlotOk.f k a0_0 a0_1 l0_2 = some r) :
  Calls Tryd.prog 161 #[.agg #[.string a0_0, .string a0_1, .slice A0_2 l0_2.length c0_2]] w fun e w' => e = .returned (.bool r) ∧ Below w.heap.size w w' := by
 have hu122 := Tryd.underlying122
 have HR0_2 := Aside0.mk hr0_2
 have HC0_2 := Aside0.mk hc0_2
 clear hr0_2 hc0_2
 have HB := Aside0.mk (Below.refl w.heap.size w)
 have H : ((spec_Digits.f k a0_0).bind fun t145 => (if t145 = true then (if (a0_0.size : Int) = 6 then ((spec_Digits.f k a0_1).bind fun t146 => (if t146 = true then (if (a0_1.size : Int) = 4 then ((spec_l01In.f (l0_2.length : Int) 1 200).bind fun t147 => (some t147)) else (some false)) else (some false))) else (some false)) else (some false))) = some r := h
 clear h
 obtain ⟨t145, A2, H⟩ := ob_ H
 by_cases c3 : t145 = true
 ·subst c3
  replace H := ip_ H
  by_cases c4 : (a0_0.size : Int) = 6
  ·rw [if_pos c4] at H
   have c4b0 : ((a0_0.size : Int) == 6) = true := beq_iff_eq.mpr c4
   have c4b1 : ((a0_0.size : Int) != 6) = false := bne_eq_false_iff_eq.mpr c4
   clear c4
   obtain ⟨t146, A5, H⟩ := ob_ H
   by_cases c6 : t146 = true
   ·subst c6
    replace H := ip_ H
    by_cases c7 : (a0_1.size : Int) = 4
    ·rw [if_pos c7] at H
     have c7b0 : ((a0_1.size : Int) == 4) = true := beq_iff_eq.mpr c7
     have c7b1 : ((a0_1.size : Int) != 4) = false := bne_eq_false_iff_eq.mpr c7
     clear c7
     obtain ⟨t147, A8, H⟩ := ob_ H
     obtain rfl := Option.some.inj H
     go_enter Tryd.func161, Tryd.ntmps161
     go_wp2_with (first | ((with_reducible refine gate_dst (N := 1) rfl ?_); (try (refine gate_guard (by rfl) ?_; dsimp only)); refine be_ (N := 1) (cs := #[.string a0_0, .string a0_1, .slice A0_2 l0_2.length c0_2]) (t := 122) ?_; intro gb144 hg w9 hbox hb; have BK144 := Aside0.mk (hbox); have GW144 := gw_ (w := w) hg; have GE144 := gw_ (w := w) hg; replace HB := Aside0.mk (below_step bl_ hb); clear hb hbox hg; obtain ⟨hcz10_0, hcz10_1, hcz10_2, hfz10_0, hfz10_1, hfz10_2⟩ := bx3_ BK144) | ((with_reducible refine gate_callee (f := 67) rfl ?_); refine goesL_ (some 5) rfl rfl Tryd.func67 (by kernel_rfl) rfl #[.string a0_0] rfl gl_ ?_; (with_reducible refine (spec_Digits.calls k a0_0 true _ A2.out).mono ?_); rintro e w' ⟨rfl, ⟨nd, rfl⟩⟩; refine ⟨_, rfl, ?_⟩) | (go_at_call 67; (with_reducible refine (spec_Digits.calls k a0_1 true _ A5.out).mono ?_); rintro e w' ⟨rfl, ⟨nd, rfl⟩⟩) | (go_at_call 69; (with_reducible refine (spec_l01In.calls (l0_2.length : Int) 1 200 t147 _ A8.out).mono ?_); rintro e w' ⟨rfl, ⟨nd, rfl⟩⟩))
     go_ret
     exact ⟨sq_, bl_⟩
    ·rw [if_neg c7] at H
     have c7b0 : ((a0_1.size : Int) == 4) = false := beq_eq_false_iff_ne.mpr c7
     have c7b1 : ((a0_1.size : Int) != 4) = true := bne_iff_ne.mpr c7
     obtain rfl := Option.some.inj H
     go_enter Tryd.func161, Tryd.ntmps161
     go_wp2_with (first | ((with_reducible refine gate_dst (N := 1) rfl ?_); (try (refine gate_guard (by rfl) ?_; dsimp only)); refine be_ (N := 1) (cs := #[.string a0_0, .string a0_1, .slice A0_2 l0_2.length c0_2]) (t := 122) ?_; intro gb144 hg w11 hbox hb; have BK144 := Aside0.mk (hbox); have GW144 := gw_ (w := w) hg; have GE144 := gw_ (w := w) hg; replace HB := Aside0.mk (below_step bl_ hb); clear hb hbox hg; obtain ⟨hcz12_0, hcz12_1, hcz12_2, hfz12_0, hfz12_1, hfz12_2⟩ := bx3_ BK144) | ((with_reducible refine gate_callee (f := 67) rfl ?_); refine goesL_ (some 5) rfl rfl Tryd.func67 (by kernel_rfl) rfl #[.string a0_0] rfl gl_ ?_; (with_reducible refine (spec_Digits.calls k a0_0 true _ A2.out).mono ?_); rintro e w' ⟨rfl, ⟨nd, rfl⟩⟩; refine ⟨_, rfl, ?_⟩) | (go_at_call 67; (with_reducible refine (spec_Digits.calls k a0_1 true _ A5.out).mono ?_); rintro e w' ⟨rfl, ⟨nd, rfl⟩⟩))
     go_ret
     exact ⟨sq_, bl_⟩
   ·replace c6 := Bool.eq_false_iff.mpr c6
    subst c6
    replace H := in_ H
    obtain rfl := Option.some.inj H
    go_enter Tryd.func161, Tryd.ntmps161
    go_wp2_with (first | ((with_reducible refine gate_dst (N := 1) rfl ?_); (try (refine gate_guard (by rfl) ?_; dsimp only)); refine be_ (N := 1) (cs := #[.string a0_0, .string a0_1, .slice A0_2 l0_2.length c0_2]) (t := 122) ?_; intro gb144 hg w13 hbox hb; have BK144 := Aside0.mk (hbox); have GW144 := gw_ (w := w) hg; have GE144 := gw_ (w := w) hg; replace HB := Aside0.mk (below_step bl_ hb); clear hb hbox hg; obtain ⟨hcz14_0, hcz14_1, hcz14_2, hfz14_0, hfz14_1, hfz14_2⟩ := bx3_ BK144) | ((with_reducible refine gate_callee (f := 67) rfl ?_); refine goesL_ (some 5) rfl rfl Tryd.func67 (by kernel_rfl) rfl #[.string a0_0] rfl gl_ ?_; (with_reducible refine (spec_Digits.calls k a0_0 true _ A2.out).mono ?_); rintro e w' ⟨rfl, ⟨nd, rfl⟩⟩; refine ⟨_, rfl, ?_⟩) | (go_at_call 67; (with_reducible refine (spec_Digits.calls k a0_1 false _ A5.out).mono ?_); rintro e w' ⟨rfl, ⟨nd, rfl⟩⟩))
    go_ret
    exact ⟨sq_, bl_⟩
  ·rw [if_neg c4] at H
   have c4b0 : ((a0_0.size : Int) == 6) = false := beq_eq_false_iff_ne.mpr c4
   have c4b1 : ((a0_0.size : Int) != 6) = true := bne_iff_ne.mpr c4
   obtain rfl := Option.some.inj H
   go_enter Tryd.func161, Tryd.ntmps161
   go_wp2_with (first | ((with_reducible refine gate_dst (N := 1) rfl ?_); (try (refine gate_guard (by rfl) ?_; dsimp only)); refine be_ (N := 1) (cs := #[.string a0_0, .string a0_1, .slice A0_2 l0_2.length c0_2]) (t := 122) ?_; intro gb144 hg w15 hbox hb; have BK144 := Aside0.mk (hbox); have GW144 := gw_ (w := w) hg; have GE144 := gw_ (w := w) hg; replace HB := Aside0.mk (below_step bl_ hb); clear hb hbox hg; obtain ⟨hcz16_0, hcz16_1, hcz16_2, hfz16_0, hfz16_1, hfz16_2⟩ := bx3_ BK144) | ((with_reducible refine gate_callee (f := 67) rfl ?_); refine goesL_ (some 5) rfl rfl Tryd.func67 (by kernel_rfl) rfl #[.string a0_0] rfl gl_ ?_; (with_reducible refine (spec_Digits.calls k a0_0 true _ A2.out).mono ?_); rintro e w' ⟨rfl, ⟨nd, rfl⟩⟩; refine ⟨_, rfl, ?_⟩))
   go_ret
   exact ⟨sq_, bl_⟩
 ·replace c3 := Bool.eq_false_iff.mpr c3
  subst c3
  replace H := in_ H
  obtain rfl := Option.some.inj H
  go_enter Tryd.func161, Tryd.ntmps161
  go_wp2_with (first | ((with_reducible refine gate_dst (N := 1) rfl ?_); (try (refine gate_guard (by rfl) ?_; dsimp only)); refine be_ (N := 1) (cs := #[.string a0_0, .string a0_1, .slice A0_2 l0_2.length c0_2]) (t := 122) ?_; intro gb144 hg w17 hbox hb; have BK144 := Aside0.mk (hbox); have GW144 := gw_ (w := w) hg; have GE144 := gw_ (w := w) hg; replace HB := Aside0.mk (below_step bl_ hb); clear hb hbox hg; obtain ⟨hcz18_0, hcz18_1, hcz18_2, hfz18_0, hfz18_1, hfz18_2⟩ := bx3_ BK144) | ((with_reducible refine gate_callee (f := 67) rfl ?_); refine goesL_ (some 5) rfl rfl Tryd.func67 (by kernel_rfl) rfl #[.string a0_0] rfl gl_ ?_; (with_reducible refine (spec_Digits.calls k a0_0 false _ A2.out).mono ?_); rintro e w' ⟨rfl, ⟨nd, rfl⟩⟩; refine ⟨_, rfl, ?_⟩))
  go_ret
  exact ⟨sq_, bl_⟩
/-! ### spec_SlotsOk: function 136 -/
mutual
def spec_SlotsOk.l0 : Nat → List (S122) → List (S122) → Int → Int → Option (Bool)
 | 0, _, _, _, _ => none
 | k + 1, x0, x7, x8, x9 => if x9 < x8 then (if 0 ≤ x9 then (if x9 < (x7.length : Int) then ((spec_SlotOk.f k ((rd_T122 x7 x9).f0) ((rd_T122 x7 x9).f1) ((rd_T122 x7 x9).f2)).bind fun t150 => (if t150 = true then (if x9 ≤ (x0.length : Int) then ((some (x0.take (x9 : Int).toNat : List (S122))).bind fun y151 => (spec_SlotsOk.l1 k x0 x7 x8 x9 y151 (y151.length : Int) 0 ((rd_T122 x7 x9).f0) ((rd_T122 x7 x9).f1) ((rd_T122 x7 x9).f2))) else (none)) else (some false))) else (none)) else (none)) else (some (decide ((x0.length : Int) ≤ 6)))
def spec_SlotsOk.l1 : Nat → List (S122) → List (S122) → Int → Int → List (S122) → Int → Int → ByteArray → ByteArray → List Int → Option (Bool)
 | 0, _, _, _, _, _, _, _, _, _, _ => none
 | k + 1, x0, x7, x8, x9, x19, x20, x21, x150000, x150001, x150002 => if x21 < x20 then (if 0 ≤ x21 then (if x21 < (x19.length : Int) then (if ((rd_T122 x19 x21).f0).toList = x150000.toList then (if ((rd_T122 x19 x21).f1).toList = x150001.toList then (some false) else (spec_SlotsOk.l1 k x0 x7 x8 x9 x19 x20 (wrap64 (x21 + 1)) x150000 x150001 x150002)) else (spec_SlotsOk.l1 k x0 x7 x8 x9 x19 x20 (wrap64 (x21 + 1)) x150000 x150001 x150002)) else (none)) else (none)) else (spec_SlotsOk.l0 k x0 x7 x8 (wrap64 (x9 + 1)))
end
def spec_SlotsOk.f (k : Nat) (l0 : List (S122)) : Option (Bool) := spec_SlotsOk.l0 k l0 l0 (l0.length : Int) 0
set_option maxHeartbeats 8000000 in
set_option maxRecDepth 100000 in
theorem spec_SlotsOk.calls (k : Nat) (A0 : Option Addr) (c0 : Nat) (l0 : List (S122)) (r : Bool) (w : World) (hr0 : Kd.C k122 w A0 l0.length l0) (hc0 : l0.length ≤ c0) (h : spec_SlotsOk.f k l0 = some r) :
  Calls Tryd.prog 136 #[.slice A0 l0.length c0] w fun e w' => e = .returned (.bool r) ∧ Below w.heap.size w w' := by
 have hu122 := Tryd.underlying122
 have HR0 := Aside0.mk hr0
 have HC0 := Aside0.mk hc0
 clear hr0 hc0
 have HB := Aside0.mk (Below.refl w.heap.size w)
 have H : (spec_SlotsOk.l0 k l0 l0 (l0.length : Int) 0) = some r := h
 clear h
 have H' := Aside0.mk H
 clear H
 go_enter Tryd.func136, Tryd.ntmps136
 go_wp2
 go_loopg [9] k (fun kq v9 w' => ∃ (x9_1 : Int), v9 = .int .i64 x9_1 ∧ Aside0 (spec_SlotsOk.l0 kq l0 l0 (l0.length : Int) x9_1 = some r) ∧ Aside0 (kq ≤ k) ∧ Aside0 (Below w.heap.size w w'))
 case atStart => exact ⟨(0), sp_, H', ⟨Nat.le_refl _⟩, ⟨bl_⟩⟩
 case round =>
  clear H'
  try clear c1
  obtain ⟨x9_1, rfl, HA, HK1, HB⟩ := hrel
  cases gk with
  | zero => exact absurd HA.out (by simp [spec_SlotsOk.l0])
  | succ k1 =>
   have H := HA.out
   clear HA
   simp only [spec_SlotsOk.l0] at H
   by_cases c2 : x9_1 < (l0.length : Int)
   ·rw [if_pos c2] at H
    have c2b0 : decide (x9_1 < (l0.length : Int)) = true := decide_eq_true c2
    clear c2
    by_cases c3 : 0 ≤ x9_1
    ·rw [if_pos c3] at H
     have c3b0 : decide (0 ≤ x9_1) = true := decide_eq_true c3
     clear c3
     by_cases c4 : x9_1 < (l0.length : Int)
     ·rw [if_pos c4] at H
      have c4b0 : decide (x9_1 < (l0.length : Int)) = true := decide_eq_true c4
      clear c4
      obtain ⟨t150, A5, H⟩ := ob_ H
      by_cases c6 : t150 = true
      ·subst c6
       replace H := ip_ H
       have c7b0 := eq_true (od_ : 0 ≤ x9_1)
       by_cases c8 : x9_1 ≤ (l0.length : Int)
       ·rw [if_pos c8] at H
        have c8b0 := eq_true c8
        have c8b1 : decide (x9_1 ≤ (l0.length : Int)) = true := decide_eq_true c8
        clear c8
        obtain ⟨y151, hy151⟩ : ∃ y_ : List (S122), y_ = (l0.take (x9_1 : Int).toNat) := ⟨_, rfl⟩
        replace H : (spec_SlotsOk.l1 k1 l0 l0 (l0.length : Int) x9_1 y151 (y151.length : Int) 0 ((rd_T122 l0 x9_1).f0) ((rd_T122 l0 x9_1).f1) ((rd_T122 l0 x9_1).f2)) = some r := by first | (rw [hy151]; with_reducible exact H) | (have H2_ := (Option.bind_some _ _).symm.trans H; rw [hy151]; with_reducible exact H2_) | (have H2_ := (Option.bind_some _ _).symm.trans H; with_reducible exact H2_) | with_reducible exact H | (rw [hy151]; exact H) | exact H
        have Ny151 := Aside0.mk hy151
        clear hy151
        have H' := Aside0.mk H
        clear H
        have p148 : 0 ≤ (x9_1 : Int) := od_
        have q148 : x9_1 < (l0.length : Int) := od_
        obtain ⟨ad148, A148_2, c148_2, e148, hx148_0, hx148_1, hx148_2, hl148_2, hi148_2⟩ := at_T122 HR0.out x9_1 p148 q148
        cases e148
        replace hx148_0 := kc_ HB hx148_0
        replace hx148_1 := kc_ HB hx148_1
        replace hx148_2 := kc_ HB hx148_2
        have HR148_2 := Aside0.mk hi148_2
        have HC148_2 := Aside0.mk hl148_2
        clear hi148_2 hl148_2
        replace p148 := eq_true p148
        replace q148 := eq_true q148
        go_wp2_with (first | ((with_reducible refine gate_dst (N := 4) rfl ?_); refine be_ (N := 4) (cs := #[.string (⟨#[]⟩ : ByteArray), .string (⟨#[]⟩ : ByteArray), .slice none 0 0]) (t := 122) ?_; intro gb149 hg w9 hbox hb; have BK149 := Aside0.mk (hbox); have GW149 := gw_ (w := w) hg; have GE149 := gw_ (w := w) hg; replace HB := Aside0.mk (below_step bl_ hb); clear hb hbox hg; obtain ⟨hcz10_0, hcz10_1, hcz10_2, hfz10_0, hfz10_1, hfz10_2⟩ := bx3_ BK149) | ((with_reducible refine gate_callee (f := 161) rfl ?_); refine goesL_ (some 15) rfl rfl Tryd.func161 (by kernel_rfl) rfl #[.agg #[.string ((rd_T122 l0 x9_1).f0), .string ((rd_T122 l0 x9_1).f1), .slice A148_2 ((rd_T122 l0 x9_1).f2).length c148_2]] rfl gl_ ?_; (with_reducible refine (spec_SlotOk.calls k1 ((rd_T122 l0 x9_1).f0) ((rd_T122 l0 x9_1).f1) _ _ ((rd_T122 l0 x9_1).f2) true _ ?side1 ?side2 A5.out).mono ?_); (case side1 => exact Kd.C_below HR148_2.out bl_); (case side2 => exact HC148_2.out); rintro e w11 ⟨rfl, hb⟩; refine ⟨_, rfl, ?_⟩; replace BK149 := Aside0.mk (blk_below (g := gb149) (o := .cells #[.string ((rd_T122 l0 x9_1).f0), .string ((rd_T122 l0 x9_1).f1), .slice A148_2 ((rd_T122 l0 x9_1).f2).length c148_2] 122 (0, 0)) (by (with_reducible repeat (first | refine blk_drewN ?_ _ | refine blk_drew ?_ | refine blk_alloc ?_ _)); apply bq3_2_1_0_; (with_reducible repeat (first | refine blk_drewN ?_ _ | refine blk_drew ?_ | refine blk_alloc ?_ _)); exact BK149.out) hb); replace HB := Aside0.mk (below_step bl_ hb); (try clear hb); (try clear hb2); (try clear hk); (try clear hi); have q12 : (x9_1 : Int) ≤ ((l0.length : Int) : Int) := od_; obtain ⟨i012, hi012, _, hsz12, _⟩ := info_parts info122; have hroom12 : l0.length ≤ c0 := HC0.out; have hC12 : Kd.C k122 _ (some ad148) l0.length l0 := HR0.out; have hcut12 := cut_to (P := Tryd.prog) 27 122 .i64 Tryd.underlying27 hi012 (some ad148) l0.length c0 x9_1 od_ q12 hroom12; have hr12 := Kd.C_take (m := (x9_1 : Int).toNat) hC12 (by omega); have hy12 : y151.length = (x9_1 : Int).toNat := (by rw [Ny151.out, List.length_take]; omega); rw [← Ny151.out] at hr12; rw [← hy12] at hcut12; have HR154 := Aside0.mk hr12; have HC154 := Aside0.mk (show y151.length ≤ c0 from by omega); clear hr12 hC12 hroom12 hi012 hsz12; have KY12 := Aside0.mk hy12; clear hy12; replace q12 := eq_true q12))
        go_loopg [21] k1 (fun kq v21 w' => ∃ (x21_2 : Int), v21 = .int .i64 x21_2 ∧ Aside0 (spec_SlotsOk.l1 kq l0 l0 (l0.length : Int) x9_1 y151 (y151.length : Int) x21_2 ((rd_T122 l0 x9_1).f0) ((rd_T122 l0 x9_1).f1) ((rd_T122 l0 x9_1).f2) = some r) ∧ Aside0 (kq ≤ k1) ∧ Aside0 (w'.heap[gb149]? = some (.cells #[.string ((rd_T122 l0 x9_1).f0), .string ((rd_T122 l0 x9_1).f1), (.slice A148_2 ((rd_T122 l0 x9_1).f2).length c148_2)] 122 (0, 0))) ∧ Aside0 (Below w.heap.size w w'))
        case atStart => exact ⟨(0), sp_, H', ⟨Nat.le_refl _⟩, ⟨by (with_reducible repeat (first | refine blk_drewN ?_ _ | refine blk_drew ?_ | refine blk_alloc ?_ _)); exact BK149.out⟩, ⟨bl_⟩⟩
        case round =>
         clear H'
         try clear c1
         try clear p1
         try clear q1
         try clear hx1
         try clear c2
         try clear c2b0
         try clear p2
         try clear c3
         try clear c3b0
         try clear c4
         try clear c4b0
         try clear c6
         try clear c7
         try clear c7b0
         try clear c8
         try clear c8b0
         try clear c8b1
         try clear q12
         try clear hcz10_0
         try clear hcz10_1
         try clear hcz10_2
         try clear hfz10_0
         try clear hfz10_1
         try clear hfz10_2
         try clear hx148_0
         try clear hx148_1
         try clear hx148_2
         try clear p148
         try clear q12
         try clear q148
         obtain ⟨x21_2, rfl, HA, HK2, BK149, HB⟩ := hrel
         cases gk with
         | zero => exact absurd HA.out (by simp [spec_SlotsOk.l1])
         | succ k2 =>
          have H := HA.out
          clear HA
          simp only [spec_SlotsOk.l1] at H
          by_cases c13 : x21_2 < (y151.length : Int)
          ·rw [if_pos c13] at H
           have c13b0 : decide (x21_2 < (y151.length : Int)) = true := decide_eq_true c13
           clear c13
           by_cases c14 : 0 ≤ x21_2
           ·rw [if_pos c14] at H
            have c14b0 : decide (0 ≤ x21_2) = true := decide_eq_true c14
            clear c14
            by_cases c15 : x21_2 < (y151.length : Int)
            ·rw [if_pos c15] at H
             have c15b0 : decide (x21_2 < (y151.length : Int)) = true := decide_eq_true c15
             clear c15
             by_cases c16 : ((rd_T122 y151 x21_2).f0).toList = ((rd_T122 l0 x9_1).f0).toList
             ·rw [if_pos c16] at H
              have c16b0 : (((rd_T122 y151 x21_2).f0).toList == ((rd_T122 l0 x9_1).f0).toList) = true := beq_iff_eq.mpr c16
              have c16b1 : (((rd_T122 y151 x21_2).f0).toList != ((rd_T122 l0 x9_1).f0).toList) = false := bne_eq_false_iff_eq.mpr c16
              clear c16
              by_cases c17 : ((rd_T122 y151 x21_2).f1).toList = ((rd_T122 l0 x9_1).f1).toList
              ·rw [if_pos c17] at H
               have c17b0 : (((rd_T122 y151 x21_2).f1).toList == ((rd_T122 l0 x9_1).f1).toList) = true := beq_iff_eq.mpr c17
               have c17b1 : (((rd_T122 y151 x21_2).f1).toList != ((rd_T122 l0 x9_1).f1).toList) = false := bne_eq_false_iff_eq.mpr c17
               clear c17
               obtain rfl := Option.some.inj H
               have p155 : 0 ≤ (x21_2 : Int) := od_
               have q155 : x21_2 < (y151.length : Int) := od_
               obtain ⟨ad155, A155_2, c155_2, e155, hx155_0, hx155_1, hx155_2, hl155_2, hi155_2⟩ := at_T122 HR154.out x21_2 p155 q155
               obtain rfl : ad148 = ad155 := (by injection e155)
               replace hx155_0 := kc_ HB hx155_0
               replace hx155_1 := kc_ HB hx155_1
               replace hx155_2 := kc_ HB hx155_2
               have HR155_2 := Aside0.mk hi155_2
               have HC155_2 := Aside0.mk hl155_2
               clear hi155_2 hl155_2
               replace p155 := eq_true p155
               replace q155 := eq_true q155
               go_wp2_with (first | ((with_reducible refine gate_dst (N := 6) rfl ?_); refine be_ (N := 6) (cs := #[.string (⟨#[]⟩ : ByteArray), .string (⟨#[]⟩ : ByteArray), .slice none 0 0]) (t := 122) ?_; intro gb156 hg w18 hbox hb; have BK156 := Aside0.mk (hbox); have GW156 := gw_ (w := w) hg; have GE156 := gw_ (w := w) hg; replace HB := Aside0.mk (below_step bl_ hb); have NB149_156 := Aside0.mk ((by rw [hg]; exact Nat.ne_of_lt (blk_lt (bk_ BK149)) : gb149 ≠ gb156)); have NB156_149 := Aside0.mk ((by rw [hg]; exact Nat.ne_of_gt (blk_lt (bk_ BK149)) : gb156 ≠ gb149)); replace BK149 := Aside0.mk (blk_below (bk_ BK149) hb); clear hb hbox hg; have hnb19 := NB156_149.out; have hnc19 := NB149_156.out; obtain ⟨hcz20_0, hcz20_1, hcz20_2, hfz20_0, hfz20_1, hfz20_2⟩ := bx3_ BK156; obtain ⟨hcz21_0, hcz21_1, hcz21_2, hfz21_0, hfz21_1, hfz21_2⟩ := bx3_ BK149))
               go_ret
               exact ⟨sq_, bl_⟩
              ·rw [if_neg c17] at H
               have c17b0 : (((rd_T122 y151 x21_2).f1).toList == ((rd_T122 l0 x9_1).f1).toList) = false := beq_eq_false_iff_ne.mpr c17
               have c17b1 : (((rd_T122 y151 x21_2).f1).toList != ((rd_T122 l0 x9_1).f1).toList) = true := bne_iff_ne.mpr c17
               have H' := Aside0.mk H
               clear H
               have p155 : 0 ≤ (x21_2 : Int) := od_
               have q155 : x21_2 < (y151.length : Int) := od_
               obtain ⟨ad155, A155_2, c155_2, e155, hx155_0, hx155_1, hx155_2, hl155_2, hi155_2⟩ := at_T122 HR154.out x21_2 p155 q155
               obtain rfl : ad148 = ad155 := (by injection e155)
               replace hx155_0 := kc_ HB hx155_0
               replace hx155_1 := kc_ HB hx155_1
               replace hx155_2 := kc_ HB hx155_2
               have HR155_2 := Aside0.mk hi155_2
               have HC155_2 := Aside0.mk hl155_2
               clear hi155_2 hl155_2
               replace p155 := eq_true p155
               replace q155 := eq_true q155
               go_wp2_with (first | ((with_reducible refine gate_dst (N := 6) rfl ?_); refine be_ (N := 6) (cs := #[.string (⟨#[]⟩ : ByteArray), .string (⟨#[]⟩ : ByteArray), .slice none 0 0]) (t := 122) ?_; intro gb156 hg w22 hbox hb; have BK156 := Aside0.mk (hbox); have GW156 := gw_ (w := w) hg; have GE156 := gw_ (w := w) hg; replace HB := Aside0.mk (below_step bl_ hb); have NB149_156 := Aside0.mk ((by rw [hg]; exact Nat.ne_of_lt (blk_lt (bk_ BK149)) : gb149 ≠ gb156)); have NB156_149 := Aside0.mk ((by rw [hg]; exact Nat.ne_of_gt (blk_lt (bk_ BK149)) : gb156 ≠ gb149)); replace BK149 := Aside0.mk (blk_below (bk_ BK149) hb); clear hb hbox hg; have hnb23 := NB156_149.out; have hnc23 := NB149_156.out; obtain ⟨hcz24_0, hcz24_1, hcz24_2, hfz24_0, hfz24_1, hfz24_2⟩ := bx3_ BK156; obtain ⟨hcz25_0, hcz25_1, hcz25_2, hfz25_0, hfz25_1, hfz25_2⟩ := bx3_ BK149))
               go_roundg k2
               case measure => have := HK1.out; have := HK2.out; omega
               case rel => exact ⟨(wrap64 (x21_2 + 1)), sp_, H', ⟨by have := HK1.out; have := HK2.out; omega⟩, ⟨by (with_reducible repeat (first | refine blk_drewN ?_ _ | refine blk_drew ?_ | refine blk_alloc ?_ _)); refine blk_far ?_ NB149_156.out _; (with_reducible repeat (first | refine blk_drewN ?_ _ | refine blk_drew ?_ | refine blk_alloc ?_ _)); refine blk_far ?_ NB149_156.out _; (with_reducible repeat (first | refine blk_drewN ?_ _ | refine blk_drew ?_ | refine blk_alloc ?_ _)); refine blk_far ?_ NB149_156.out _; (with_reducible repeat (first | refine blk_drewN ?_ _ | refine blk_drew ?_ | refine blk_alloc ?_ _)); exact BK149.out⟩, ⟨bl_⟩⟩
             ·rw [if_neg c16] at H
              have c16b0 : (((rd_T122 y151 x21_2).f0).toList == ((rd_T122 l0 x9_1).f0).toList) = false := beq_eq_false_iff_ne.mpr c16
              have c16b1 : (((rd_T122 y151 x21_2).f0).toList != ((rd_T122 l0 x9_1).f0).toList) = true := bne_iff_ne.mpr c16
              have H' := Aside0.mk H
              clear H
              have p155 : 0 ≤ (x21_2 : Int) := od_
              have q155 : x21_2 < (y151.length : Int) := od_
              obtain ⟨ad155, A155_2, c155_2, e155, hx155_0, hx155_1, hx155_2, hl155_2, hi155_2⟩ := at_T122 HR154.out x21_2 p155 q155
              obtain rfl : ad148 = ad155 := (by injection e155)
              replace hx155_0 := kc_ HB hx155_0
              replace hx155_1 := kc_ HB hx155_1
              replace hx155_2 := kc_ HB hx155_2
              have HR155_2 := Aside0.mk hi155_2
              have HC155_2 := Aside0.mk hl155_2
              clear hi155_2 hl155_2
              replace p155 := eq_true p155
              replace q155 := eq_true q155
              go_wp2_with (first | ((with_reducible refine gate_dst (N := 6) rfl ?_); refine be_ (N := 6) (cs := #[.string (⟨#[]⟩ : ByteArray), .string (⟨#[]⟩ : ByteArray), .slice none 0 0]) (t := 122) ?_; intro gb156 hg w26 hbox hb; have BK156 := Aside0.mk (hbox); have GW156 := gw_ (w := w) hg; have GE156 := gw_ (w := w) hg; replace HB := Aside0.mk (below_step bl_ hb); have NB149_156 := Aside0.mk ((by rw [hg]; exact Nat.ne_of_lt (blk_lt (bk_ BK149)) : gb149 ≠ gb156)); have NB156_149 := Aside0.mk ((by rw [hg]; exact Nat.ne_of_gt (blk_lt (bk_ BK149)) : gb156 ≠ gb149)); replace BK149 := Aside0.mk (blk_below (bk_ BK149) hb); clear hb hbox hg; have hnb27 := NB156_149.out; have hnc27 := NB149_156.out; obtain ⟨hcz28_0, hcz28_1, hcz28_2, hfz28_0, hfz28_1, hfz28_2⟩ := bx3_ BK156; obtain ⟨hcz29_0, hcz29_1, hcz29_2, hfz29_0, hfz29_1, hfz29_2⟩ := bx3_ BK149))
              go_roundg k2
              case measure => have := HK1.out; have := HK2.out; omega
              case rel => exact ⟨(wrap64 (x21_2 + 1)), sp_, H', ⟨by have := HK1.out; have := HK2.out; omega⟩, ⟨by (with_reducible repeat (first | refine blk_drewN ?_ _ | refine blk_drew ?_ | refine blk_alloc ?_ _)); refine blk_far ?_ NB149_156.out _; (with_reducible repeat (first | refine blk_drewN ?_ _ | refine blk_drew ?_ | refine blk_alloc ?_ _)); refine blk_far ?_ NB149_156.out _; (with_reducible repeat (first | refine blk_drewN ?_ _ | refine blk_drew ?_ | refine blk_alloc ?_ _)); refine blk_far ?_ NB149_156.out _; (with_reducible repeat (first | refine blk_drewN ?_ _ | refine blk_drew ?_ | refine blk_alloc ?_ _)); exact BK149.out⟩, ⟨bl_⟩⟩
            ·rw [if_neg c15] at H
             exact absurd H (by simp)
           ·rw [if_neg c14] at H
            exact absurd H (by simp)
          ·rw [if_neg c13] at H
           have c13b0 : decide (x21_2 < (y151.length : Int)) = false := decide_eq_false c13
           clear c13
           have H' := Aside0.mk H
           clear H
           go_wp2
           go_roundg k2
           case measure => have := HK1.out; have := HK2.out; omega
           case rel => exact ⟨(wrap64 (x9_1 + 1)), sp_, H', ⟨by have := HK1.out; have := HK2.out; omega⟩, ⟨bl_⟩⟩
       ·rw [if_neg c8] at H
        exact absurd H (by simp)
      ·replace c6 := Bool.eq_false_iff.mpr c6
       subst c6
       replace H := in_ H
       obtain rfl := Option.some.inj H
       have p148 : 0 ≤ (x9_1 : Int) := od_
       have q148 : x9_1 < (l0.length : Int) := od_
       obtain ⟨ad148, A148_2, c148_2, e148, hx148_0, hx148_1, hx148_2, hl148_2, hi148_2⟩ := at_T122 HR0.out x9_1 p148 q148
       cases e148
       replace hx148_0 := kc_ HB hx148_0
       replace hx148_1 := kc_ HB hx148_1
       replace hx148_2 := kc_ HB hx148_2
       have HR148_2 := Aside0.mk hi148_2
       have HC148_2 := Aside0.mk hl148_2
       clear hi148_2 hl148_2
       replace p148 := eq_true p148
       replace q148 := eq_true q148
       go_wp2_with (first | ((with_reducible refine gate_dst (N := 4) rfl ?_); refine be_ (N := 4) (cs := #[.string (⟨#[]⟩ : ByteArray), .string (⟨#[]⟩ : ByteArray), .slice none 0 0]) (t := 122) ?_; intro gb149 hg w30 hbox hb; have BK149 := Aside0.mk (hbox); have GW149 := gw_ (w := w) hg; have GE149 := gw_ (w := w) hg; replace HB := Aside0.mk (below_step bl_ hb); clear hb hbox hg; obtain ⟨hcz31_0, hcz31_1, hcz31_2, hfz31_0, hfz31_1, hfz31_2⟩ := bx3_ BK149) | ((with_reducible refine gate_callee (f := 161) rfl ?_); refine goesL_ (some 15) rfl rfl Tryd.func161 (by kernel_rfl) rfl #[.agg #[.string ((rd_T122 l0 x9_1).f0), .string ((rd_T122 l0 x9_1).f1), .slice A148_2 ((rd_T122 l0 x9_1).f2).length c148_2]] rfl gl_ ?_; (with_reducible refine (spec_SlotOk.calls k1 ((rd_T122 l0 x9_1).f0) ((rd_T122 l0 x9_1).f1) _ _ ((rd_T122 l0 x9_1).f2) false _ ?side1 ?side2 A5.out).mono ?_); (case side1 => exact Kd.C_below HR148_2.out bl_); (case side2 => exact HC148_2.out); rintro e w32 ⟨rfl, hb⟩; refine ⟨_, rfl, ?_⟩; replace BK149 := Aside0.mk (blk_below (g := gb149) (o := .cells #[.string ((rd_T122 l0 x9_1).f0), .string ((rd_T122 l0 x9_1).f1), .slice A148_2 ((rd_T122 l0 x9_1).f2).length c148_2] 122 (0, 0)) (by (with_reducible repeat (first | refine blk_drewN ?_ _ | refine blk_drew ?_ | refine blk_alloc ?_ _)); apply bq3_2_1_0_; (with_reducible repeat (first | refine blk_drewN ?_ _ | refine blk_drew ?_ | refine blk_alloc ?_ _)); exact BK149.out) hb); replace HB := Aside0.mk (below_step bl_ hb); (try clear hb); (try clear hb2); (try clear hk); (try clear hi)))
       go_ret
       exact ⟨sq_, bl_⟩
     ·rw [if_neg c4] at H
      exact absurd H (by simp)
    ·rw [if_neg c3] at H
     exact absurd H (by simp)
   ·rw [if_neg c2] at H
    have c2b0 : decide (x9_1 < (l0.length : Int)) = false := decide_eq_false c2
    clear c2
    obtain rfl := Option.some.inj H
    go_wp2
    go_ret
    exact ⟨sq_, bl_⟩
end Go.Proofs.YtbjpfknmkpnhjaaDoor.QFnMoney
