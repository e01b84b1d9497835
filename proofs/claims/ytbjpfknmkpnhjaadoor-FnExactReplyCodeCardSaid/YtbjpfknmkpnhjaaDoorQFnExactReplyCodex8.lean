-- by my own printer (myprint.py, over the kit's print.py)
import Derived.Test.YtbjpfknmkpnhjaaDoorQFnExactReplyCodex0
import Derived.Test.YtbjpfknmkpnhjaaDoorQFnExactReplyCodex6
import Derived.Test.YtbjpfknmkpnhjaaDoorQFnExactReplyCodex7
namespace Go.Proofs.YtbjpfknmkpnhjaaDoor.QFnExactReplyCode
open Go.RowKit Go.Proofs.YtbjpfknmkpnhjaaDoorW.PrintWords Go.Proofs.YtbjpfknmkpnhjaaDoorW.PrintLast Go.Proofs.YtbjpfknmkpnhjaaDoorW.PrintMore
attribute [local go_sem] max2_int min2_int max_two min_two max_three min_three max_four min_four   -- for this text's walks alone
set_option linter.unusedVariables false
set_option linter.unusedSimpArgs false
attribute [local go_sem] my_geq my_leq my_gtr
/-! ### impl_FieldOk: function 83 -/
def impl_FieldOk.j0 : Nat → ByteArray → Bool → Int → Int → Int → Option (Bool)
 | 0, _, _, _, _, _ => none
 | k + 1, x1, x43, x261000, x261001, x261002 => if x43 = true then ((impl_Printable.f k x1).bind fun t265 => (if t265 = true then ((impl_within.f (x1.size : Int) 1 x261002).bind fun t266 => (some t266)) else (some false))) else (some false)
def impl_FieldOk.f (k : Nat) (a0 : Int) (a1 : ByteArray) : Option (Bool) := (impl_rowOf.f k a0).bind fun bt257 => (if bt257.2.1 = 1 then ((impl_Digits.f k a1).bind fun t261 => (if t261 = true then (some ((a1.size : Int) == bt257.2.2)) else (some false))) else (if bt257.2.1 = 2 then ((impl_Printable.f k a1).bind fun t262 => (if t262 = true then (some ((a1.size : Int) == bt257.2.2)) else (some false))) else (if bt257.2.1 = 3 then ((impl_Digits.f k a1).bind fun t263 => (if t263 = true then ((impl_within.f (a1.size : Int) 1 bt257.2.2).bind fun t264 => (some t264)) else (some false))) else (if bt257.2.1 = 4 then (impl_FieldOk.j0 k a1 (bt257.2.1 == 4) bt257.1 bt257.2.1 bt257.2.2) else (impl_FieldOk.j0 k a1 (bt257.2.1 == 5) bt257.1 bt257.2.1 bt257.2.2)))))
set_option maxHeartbeats 8000000 in
set_option maxRecDepth 100000 in
theorem impl_FieldOk.calls (k : Nat) (a0 : Int) (a1 : ByteArray) (r : Bool) (w : World) (h : impl_FieldOk.f k a0 a1 = some r) :
  Calls Tryd.prog 83 #[.int .i64 a0, .string a1] w fun e w' => e = .returned (.bool r) ∧ Below w.heap.size w w' := by
 have hu144 := Tryd.underlying144
 have HB := Aside0.mk (Below.refl w.heap.size w)
 have H : ((impl_rowOf.f k a0).bind fun bt257 => (if bt257.2.1 = 1 then ((impl_Digits.f k a1).bind fun t261 => (if t261 = true then (some ((a1.size : Int) == bt257.2.2)) else (some false))) else (if bt257.2.1 = 2 then ((impl_Printable.f k a1).bind fun t262 => (if t262 = true then (some ((a1.size : Int) == bt257.2.2)) else (some false))) else (if bt257.2.1 = 3 then ((impl_Digits.f k a1).bind fun t263 => (if t263 = true then ((impl_within.f (a1.size : Int) 1 bt257.2.2).bind fun t264 => (some t264)) else (some false))) else (if bt257.2.1 = 4 then (impl_FieldOk.j0 k a1 (bt257.2.1 == 4) bt257.1 bt257.2.1 bt257.2.2) else (impl_FieldOk.j0 k a1 (bt257.2.1 == 5) bt257.1 bt257.2.1 bt257.2.2)))))) = some r := h
 clear h
 obtain ⟨⟨t257, t258, t259⟩, A3, H⟩ := ob_ H
 (try dsimp only at H)
 by_cases c4 : t258 = 1
 ·rw [if_pos c4] at H
  have c4b0 : (t258 == 1) = true := beq_iff_eq.mpr c4
  have c4b1 : (t258 != 1) = false := bne_eq_false_iff_eq.mpr c4
  clear c4
  obtain ⟨t261, A5, H⟩ := ob_ H
  by_cases c6 : t261 = true
  ·subst c6
   replace H := ip_ H
   obtain rfl := Option.some.inj H
   go_enter Tryd.func83, Tryd.ntmps83
   go_wp2_with (first | ((with_reducible refine gate_callee (f := 125) rfl ?_); refine goesL_ (some 7) rfl rfl Tryd.func125 (by kernel_rfl) rfl #[.int .i64 a0] rfl gl_ ?_; (with_reducible refine (impl_rowOf.calls k a0 t257 t258 t259 _ A3.out).mono ?_); rintro e w7 ⟨rfl, hb⟩; refine ⟨_, rfl, ?_⟩; replace HB := Aside0.mk (below_step bl_ hb); (try clear hb); (try clear hb2); (try clear hk); (try clear hi)) | ((with_reducible refine gate_dst (N := 5) rfl ?_); (try (refine gate_guard (by rfl) ?_; dsimp only)); refine be_ (N := 5) (cs := #[.int .i64 0, .int .i64 0, .int .i64 0]) (t := 144) ?_; intro gb260 hg w8 hbox hb; have BK260 := Aside0.mk (hbox); have GW260 := gw_ (w := w) hg; have GE260 := gw_ (w := w) hg; replace HB := Aside0.mk (below_step bl_ hb); clear hb hbox hg; obtain ⟨hcz9_0, hcz9_1, hcz9_2, hfz9_0, hfz9_1, hfz9_2⟩ := bx3_ BK260) | ((with_reducible refine gate_callee (f := 118) rfl ?_); refine goesL_ (some 13) rfl rfl Tryd.func118 (by kernel_rfl) rfl #[.string a1] rfl gl_ ?_; (with_reducible refine (impl_Digits.calls k a1 true _ A5.out).mono ?_); rintro e w' ⟨rfl, ⟨nd, rfl⟩⟩; refine ⟨_, rfl, ?_⟩))
   go_ret
   exact ⟨sq_, bl_⟩
  ·replace c6 := Bool.eq_false_iff.mpr c6
   subst c6
   replace H := in_ H
   obtain rfl := Option.some.inj H
   go_enter Tryd.func83, Tryd.ntmps83
   go_wp2_with (first | ((with_reducible refine gate_callee (f := 125) rfl ?_); refine goesL_ (some 7) rfl rfl Tryd.func125 (by kernel_rfl) rfl #[.int .i64 a0] rfl gl_ ?_; (with_reducible refine (impl_rowOf.calls k a0 t257 t258 t259 _ A3.out).mono ?_); rintro e w10 ⟨rfl, hb⟩; refine ⟨_, rfl, ?_⟩; replace HB := Aside0.mk (below_step bl_ hb); (try clear hb); (try clear hb2); (try clear hk); (try clear hi)) | ((with_reducible refine gate_dst (N := 5) rfl ?_); (try (refine gate_guard (by rfl) ?_; dsimp only)); refine be_ (N := 5) (cs := #[.int .i64 0, .int .i64 0, .int .i64 0]) (t := 144) ?_; intro gb260 hg w11 hbox hb; have BK260 := Aside0.mk (hbox); have GW260 := gw_ (w := w) hg; have GE260 := gw_ (w := w) hg; replace HB := Aside0.mk (below_step bl_ hb); clear hb hbox hg; obtain ⟨hcz12_0, hcz12_1, hcz12_2, hfz12_0, hfz12_1, hfz12_2⟩ := bx3_ BK260) | ((with_reducible refine gate_callee (f := 118) rfl ?_); refine goesL_ (some 13) rfl rfl Tryd.func118 (by kernel_rfl) rfl #[.string a1] rfl gl_ ?_; (with_reducible refine (impl_Digits.calls k a1 false _ A5.out).mono ?_); rintro e w' ⟨rfl, ⟨nd, rfl⟩⟩; refine ⟨_, rfl, ?_⟩))
   go_ret
   exact ⟨sq_, bl_⟩
 ·rw [if_neg c4] at H
  have c4b0 : (t258 == 1) = false := beq_eq_false_iff_ne.mpr c4
  have c4b1 : (t258 != 1) = true := bne_iff_ne.mpr c4
  by_cases c13 : t258 = 2
  ·rw [if_pos c13] at H
   have c13b0 : (t258 == 2) = true := beq_iff_eq.mpr c13
   have c13b1 : (t258 != 2) = false := bne_eq_false_iff_eq.mpr c13
   clear c13
   obtain ⟨t262, A14, H⟩ := ob_ H
   by_cases c15 : t262 = true
   ·subst c15
    replace H := ip_ H
    obtain rfl := Option.some.inj H
    go_enter Tryd.func83, Tryd.ntmps83
    go_wp2_with (first | ((with_reducible refine gate_callee (f := 125) rfl ?_); refine goesL_ (some 7) rfl rfl Tryd.func125 (by kernel_rfl) rfl #[.int .i64 a0] rfl gl_ ?_; (with_reducible refine (impl_rowOf.calls k a0 t257 t258 t259 _ A3.out).mono ?_); rintro e w16 ⟨rfl, hb⟩; refine ⟨_, rfl, ?_⟩; replace HB := Aside0.mk (below_step bl_ hb); (try clear hb); (try clear hb2); (try clear hk); (try clear hi)) | ((with_reducible refine gate_dst (N := 5) rfl ?_); (try (refine gate_guard (by rfl) ?_; dsimp only)); refine be_ (N := 5) (cs := #[.int .i64 0, .int .i64 0, .int .i64 0]) (t := 144) ?_; intro gb260 hg w17 hbox hb; have BK260 := Aside0.mk (hbox); have GW260 := gw_ (w := w) hg; have GE260 := gw_ (w := w) hg; replace HB := Aside0.mk (below_step bl_ hb); clear hb hbox hg; obtain ⟨hcz18_0, hcz18_1, hcz18_2, hfz18_0, hfz18_1, hfz18_2⟩ := bx3_ BK260) | ((with_reducible refine gate_callee (f := 126) rfl ?_); refine goesL_ (some 24) rfl rfl Tryd.func126 (by kernel_rfl) rfl #[.string a1] rfl gl_ ?_; (with_reducible refine (impl_Printable.calls k a1 true _ A14.out).mono ?_); rintro e w' ⟨rfl, ⟨nd, rfl⟩⟩; refine ⟨_, rfl, ?_⟩))
    go_ret
    exact ⟨sq_, bl_⟩
   ·replace c15 := Bool.eq_false_iff.mpr c15
    subst c15
    replace H := in_ H
    obtain rfl := Option.some.inj H
    go_enter Tryd.func83, Tryd.ntmps83
    go_wp2_with (first | ((with_reducible refine gate_callee (f := 125) rfl ?_); refine goesL_ (some 7) rfl rfl Tryd.func125 (by kernel_rfl) rfl #[.int .i64 a0] rfl gl_ ?_; (with_reducible refine (impl_rowOf.calls k a0 t257 t258 t259 _ A3.out).mono ?_); rintro e w19 ⟨rfl, hb⟩; refine ⟨_, rfl, ?_⟩; replace HB := Aside0.mk (below_step bl_ hb); (try clear hb); (try clear hb2); (try clear hk); (try clear hi)) | ((with_reducible refine gate_dst (N := 5) rfl ?_); (try (refine gate_guard (by rfl) ?_; dsimp only)); refine be_ (N := 5) (cs := #[.int .i64 0, .int .i64 0, .int .i64 0]) (t := 144) ?_; intro gb260 hg w20 hbox hb; have BK260 := Aside0.mk (hbox); have GW260 := gw_ (w := w) hg; have GE260 := gw_ (w := w) hg; replace HB := Aside0.mk (below_step bl_ hb); clear hb hbox hg; obtain ⟨hcz21_0, hcz21_1, hcz21_2, hfz21_0, hfz21_1, hfz21_2⟩ := bx3_ BK260) | ((with_reducible refine gate_callee (f := 126) rfl ?_); refine goesL_ (some 24) rfl rfl Tryd.func126 (by kernel_rfl) rfl #[.string a1] rfl gl_ ?_; (with_reducible refine (impl_Printable.calls k a1 false _ A14.out).mono ?_); rintro e w' ⟨rfl, ⟨nd, rfl⟩⟩; refine ⟨_, rfl, ?_⟩))
    go_ret
    exact ⟨sq_, bl_⟩
  ·rw [if_neg c13] at H
   have c13b0 : (t258 == 2) = false := beq_eq_false_iff_ne.mpr c13
   have c13b1 : (t258 != 2) = true := bne_iff_ne.mpr c13
   by_cases c22 : t258 = 3
   ·rw [if_pos c22] at H
    have c22b0 : (t258 == 3) = true := beq_iff_eq.mpr c22
    have c22b1 : (t258 != 3) = false := bne_eq_false_iff_eq.mpr c22
    clear c22
    obtain ⟨t263, A23, H⟩ := ob_ H
    by_cases c24 : t263 = true
    ·subst c24
     replace H := ip_ H
     obtain ⟨t264, A25, H⟩ := ob_ H
     obtain rfl := Option.some.inj H
     go_enter Tryd.func83, Tryd.ntmps83
     go_wp2_with (first | ((with_reducible refine gate_callee (f := 125) rfl ?_); refine goesL_ (some 7) rfl rfl Tryd.func125 (by kernel_rfl) rfl #[.int .i64 a0] rfl gl_ ?_; (with_reducible refine (impl_rowOf.calls k a0 t257 t258 t259 _ A3.out).mono ?_); rintro e w26 ⟨rfl, hb⟩; refine ⟨_, rfl, ?_⟩; replace HB := Aside0.mk (below_step bl_ hb); (try clear hb); (try clear hb2); (try clear hk); (try clear hi)) | ((with_reducible refine gate_dst (N := 5) rfl ?_); (try (refine gate_guard (by rfl) ?_; dsimp only)); refine be_ (N := 5) (cs := #[.int .i64 0, .int .i64 0, .int .i64 0]) (t := 144) ?_; intro gb260 hg w27 hbox hb; have BK260 := Aside0.mk (hbox); have GW260 := gw_ (w := w) hg; have GE260 := gw_ (w := w) hg; replace HB := Aside0.mk (below_step bl_ hb); clear hb hbox hg; obtain ⟨hcz28_0, hcz28_1, hcz28_2, hfz28_0, hfz28_1, hfz28_2⟩ := bx3_ BK260) | ((with_reducible refine gate_callee (f := 118) rfl ?_); refine goesL_ (some 35) rfl rfl Tryd.func118 (by kernel_rfl) rfl #[.string a1] rfl gl_ ?_; (with_reducible refine (impl_Digits.calls k a1 true _ A23.out).mono ?_); rintro e w' ⟨rfl, ⟨nd, rfl⟩⟩; refine ⟨_, rfl, ?_⟩) | (go_at_call 60; (with_reducible refine (impl_within.calls (a1.size : Int) 1 t259 t264 _ A25.out).mono ?_); rintro e w' ⟨rfl, ⟨nd, rfl⟩⟩))
     go_ret
     exact ⟨sq_, bl_⟩
    ·replace c24 := Bool.eq_false_iff.mpr c24
     subst c24
     replace H := in_ H
     obtain rfl := Option.some.inj H
     go_enter Tryd.func83, Tryd.ntmps83
     go_wp2_with (first | ((with_reducible refine gate_callee (f := 125) rfl ?_); refine goesL_ (some 7) rfl rfl Tryd.func125 (by kernel_rfl) rfl #[.int .i64 a0] rfl gl_ ?_; (with_reducible refine (impl_rowOf.calls k a0 t257 t258 t259 _ A3.out).mono ?_); rintro e w29 ⟨rfl, hb⟩; refine ⟨_, rfl, ?_⟩; replace HB := Aside0.mk (below_step bl_ hb); (try clear hb); (try clear hb2); (try clear hk); (try clear hi)) | ((with_reducible refine gate_dst (N := 5) rfl ?_); (try (refine gate_guard (by rfl) ?_; dsimp only)); refine be_ (N := 5) (cs := #[.int .i64 0, .int .i64 0, .int .i64 0]) (t := 144) ?_; intro gb260 hg w30 hbox hb; have BK260 := Aside0.mk (hbox); have GW260 := gw_ (w := w) hg; have GE260 := gw_ (w := w) hg; replace HB := Aside0.mk (below_step bl_ hb); clear hb hbox hg; obtain ⟨hcz31_0, hcz31_1, hcz31_2, hfz31_0, hfz31_1, hfz31_2⟩ := bx3_ BK260) | ((with_reducible refine gate_callee (f := 118) rfl ?_); refine goesL_ (some 35) rfl rfl Tryd.func118 (by kernel_rfl) rfl #[.string a1] rfl gl_ ?_; (with_reducible refine (impl_Digits.calls k a1 false _ A23.out).mono ?_); rintro e w' ⟨rfl, ⟨nd, rfl⟩⟩; refine ⟨_, rfl, ?_⟩))
     go_ret
     exact ⟨sq_, bl_⟩
   ·rw [if_neg c22] at H
    have c22b0 : (t258 == 3) = false := beq_eq_false_iff_ne.mpr c22
    have c22b1 : (t258 != 3) = true := bne_iff_ne.mpr c22
    have HC32 := Aside0.mk H
    clear H
    go_enter Tryd.func83, Tryd.ntmps83
    go_upto_if 43 with (first | ((with_reducible refine gate_callee (f := 125) rfl ?_); refine goesL_ (some 7) rfl rfl Tryd.func125 (by kernel_rfl) rfl #[.int .i64 a0] rfl gl_ ?_; (with_reducible refine (impl_rowOf.calls k a0 t257 t258 t259 _ A3.out).mono ?_); rintro e w33 ⟨rfl, hb⟩; refine ⟨_, rfl, ?_⟩; replace HB := Aside0.mk (below_step bl_ hb); (try clear hb); (try clear hb2); (try clear hk); (try clear hi)) | ((with_reducible refine gate_dst (N := 5) rfl ?_); (try (refine gate_guard (by rfl) ?_; dsimp only)); refine be_ (N := 5) (cs := #[.int .i64 0, .int .i64 0, .int .i64 0]) (t := 144) ?_; intro gb260 hg w34 hbox hb; have BK260 := Aside0.mk (hbox); have GW260 := gw_ (w := w) hg; have GE260 := gw_ (w := w) hg; replace HB := Aside0.mk (below_step bl_ hb); clear hb hbox hg; obtain ⟨hcz35_0, hcz35_1, hcz35_2, hfz35_0, hfz35_1, hfz35_2⟩ := bx3_ BK260))
    (try simp only [Act.put, List.setIfInBounds_toArray, List.set_cons_zero, List.set_cons_succ])
    go_cut [43] (fun v43 wc => ∃ (kq : Nat) (x43_31 : Bool), v43 = .bool x43_31 ∧ Aside0 (impl_FieldOk.j0 kq a1 x43_31 t257 t258 t259 = some r) ∧ Aside0 (kq ≤ k) ∧ Aside0 (wc.heap[gb260]? = some (.cells #[.int .i64 t257, .int .i64 t258, .int .i64 t259] 144 (0, 0))) ∧ Aside0 (Below w.heap.size w wc))
    case first =>
     have H := HC32.out
     clear HC32
     by_cases c36 : t258 = 4
     ·rw [if_pos c36] at H
      have c36b0 : (t258 == 4) = true := beq_iff_eq.mpr c36
      have c36b1 : (t258 != 4) = false := bne_eq_false_iff_eq.mpr c36
      clear c36
      (first | rw [c36b0] | (simp only [i64_w, i32_w]; rw [c36b0]) | skip)
      have H' := Aside0.mk H
      clear H
      go_wp2
      go_meet
      case rel => exact ⟨_, ((t258 == 4)), sp_, H', ⟨by first | omega | exact Nat.le_refl _⟩, ⟨by (with_reducible repeat (first | refine blk_drewN ?_ _ | refine blk_drew ?_ | refine blk_alloc ?_ _)); apply bq3_2_1_0_; (with_reducible repeat (first | refine blk_drewN ?_ _ | refine blk_drew ?_ | refine blk_alloc ?_ _)); exact BK260.out⟩, ⟨bl_⟩⟩
     ·rw [if_neg c36] at H
      have c36b0 : (t258 == 4) = false := beq_eq_false_iff_ne.mpr c36
      have c36b1 : (t258 != 4) = true := bne_iff_ne.mpr c36
      (first | rw [c36b0] | (simp only [i64_w, i32_w]; rw [c36b0]) | skip)
      have H' := Aside0.mk H
      clear H
      go_wp2
      go_meet
      case rel => exact ⟨_, ((t258 == 5)), sp_, H', ⟨by first | omega | exact Nat.le_refl _⟩, ⟨by (with_reducible repeat (first | refine blk_drewN ?_ _ | refine blk_drew ?_ | refine blk_alloc ?_ _)); apply bq3_2_1_0_; (with_reducible repeat (first | refine blk_drewN ?_ _ | refine blk_drew ?_ | refine blk_alloc ?_ _)); exact BK260.out⟩, ⟨bl_⟩⟩
    case rest =>
     clear HC32
     try clear c1
     try clear c2
     try clear p2
     try clear c3
     try clear c4
     try clear c4b0
     try clear c4b1
     try clear c6
     try clear c8
     try clear c11
     try clear c12
     try clear c13
     try clear c13b0
     try clear c13b1
     try clear c15
     try clear c22
     try clear c22b0
     try clear c22b1
     try clear c24
     try clear c36
     try clear c36b0
     try clear c36b1
     try clear hcz12_0
     try clear hcz12_1
     try clear hcz12_2
     try clear hcz18_0
     try clear hcz18_1
     try clear hcz18_2
     try clear hcz21_0
     try clear hcz21_1
     try clear hcz21_2
     try clear hcz28_0
     try clear hcz28_1
     try clear hcz28_2
     try clear hcz31_0
     try clear hcz31_1
     try clear hcz31_2
     try clear hcz35_0
     try clear hcz35_1
     try clear hcz35_2
     try clear hcz9_0
     try clear hcz9_1
     try clear hcz9_2
     try clear hfz12_0
     try clear hfz12_1
     try clear hfz12_2
     try clear hfz18_0
     try clear hfz18_1
     try clear hfz18_2
     try clear hfz21_0
     try clear hfz21_1
     try clear hfz21_2
     try clear hfz28_0
     try clear hfz28_1
     try clear hfz28_2
     try clear hfz31_0
     try clear hfz31_1
     try clear hfz31_2
     try clear hfz35_0
     try clear hfz35_1
     try clear hfz35_2
     try clear hfz9_0
     try clear hfz9_1
     try clear hfz9_2
     obtain ⟨kq, x43_31, rfl, HA, HJ31, BK260, HB⟩ := hcut
     cases kq with
     | zero => exact absurd HA.out (by simp [impl_FieldOk.j0])
     | succ kj31 =>
      have H := HA.out
      clear HA
      simp only [impl_FieldOk.j0] at H
      by_cases c37 : x43_31 = true
      ·subst c37
       replace H := ip_ H
       obtain ⟨t265, A38, H⟩ := ob_ H
       by_cases c39 : t265 = true
       ·subst c39
        replace H := ip_ H
        obtain ⟨t266, A40, H⟩ := ob_ H
        obtain rfl := Option.some.inj H
        go_wp2_with (first | ((with_reducible refine gate_callee (f := 126) rfl ?_); refine goesL_ (some 47) rfl rfl Tryd.func126 (by kernel_rfl) rfl #[.string a1] rfl gl_ ?_; (with_reducible refine (impl_Printable.calls kj31 a1 true _ A38.out).mono ?_); rintro e w' ⟨rfl, ⟨nd, rfl⟩⟩; refine ⟨_, rfl, ?_⟩; obtain ⟨hcz41_0, hcz41_1, hcz41_2, hfz41_0, hfz41_1, hfz41_2⟩ := bx3_ BK260) | (go_at_call 60; (with_reducible refine (impl_within.calls (a1.size : Int) 1 t259 t266 _ A40.out).mono ?_); rintro e w' ⟨rfl, ⟨nd, rfl⟩⟩))
        go_ret
        exact ⟨sq_, bl_⟩
       ·replace c39 := Bool.eq_false_iff.mpr c39
        subst c39
        replace H := in_ H
        obtain rfl := Option.some.inj H
        go_wp2_with (first | ((with_reducible refine gate_callee (f := 126) rfl ?_); refine goesL_ (some 47) rfl rfl Tryd.func126 (by kernel_rfl) rfl #[.string a1] rfl gl_ ?_; (with_reducible refine (impl_Printable.calls kj31 a1 false _ A38.out).mono ?_); rintro e w' ⟨rfl, ⟨nd, rfl⟩⟩; refine ⟨_, rfl, ?_⟩))
        go_ret
        exact ⟨sq_, bl_⟩
      ·replace c37 := Bool.eq_false_iff.mpr c37
       subst c37
       replace H := in_ H
       obtain rfl := Option.some.inj H
       go_wp2
       go_ret
       exact ⟨sq_, bl_⟩
-- NOT PRINTED: function 162 (strconv_lower)
-- NOT PRINTED: function 163 (strconv_underscoreOK)
-- NOT PRINTED: function 143 (strconv_ParseUint)
-- NOT PRINTED: function 106 (strconv_ParseInt)
-- NOT PRINTED: function 61 (strconv_Atoi_61)
-- NOT PRINTED: function 144 (stringslite_Clone)
-- NOT PRINTED: function 107 (strconv_syntaxError)
-- NOT PRINTED: function 108 (strconv_rangeError)
-- NOT PRINTED: function 146 (strconv_small)
-- NOT PRINTED: function 164 (strconv_log10Pow2)
-- NOT PRINTED: function 165 (bits_Len64)
-- NOT PRINTED: function 166 (strconv_bool2_int)
-- NOT PRINTED: function 147 (strconv_numDigits)
-- NOT PRINTED: function 148 (strconv_formatBase10)
-- NOT PRINTED: function 167 (strconv_isPowerOfTwo)
-- NOT PRINTED: function 171 (bits_TrailingZeros32)
-- NOT PRINTED: function 172 (bits_TrailingZeros64)
-- NOT PRINTED: function 168 (bits_TrailingZeros)
-- NOT PRINTED: function 149 (strconv_formatBits)
-- NOT PRINTED: function 111 (strconv_FormatInt)
-- NOT PRINTED: function 63 (strconv_Itoa_63)
/-! ### strconv_Itoa_28: function 28 -/
/-- The library's table of powers of ten lies as the program's text lays it. -/
def Tb (w : World) : Prop := Lib.TabIs Tryd.prog w "internal/strconv.uint64pow10" .u64 Lib.pow10Tab
def strconv_Itoa_28.f (a0 : Int) : Option (ByteArray) := if -9223372036854775808 ≤ a0 ∧ a0 ≤ 9223372036854775807 then some ⟨(Lib.itoa a0).toArray⟩ else none
-- NOT PRINTED: function 145 (errors_New)
-- NOT PRINTED: function 109 (strconv_baseError)
-- NOT PRINTED: function 110 (strconv_bitSizeError)
-- NOT PRINTED: function 62 (strconv_toError)
/-! ### strconv_Atoi_27: function 27 -/
def strconv_Atoi_27.f (a0 : ByteArray) : Option (Int × Option Int) := if a0.size ≤ 18 then (Lib.atoi a0.data.toList).bind fun n => some (n, none) else none
theorem strconv_Atoi_27.calls (a0 : ByteArray) (r1 : Int) (r2 : Option Int) (w : World) (h : strconv_Atoi_27.f a0 = some (r1, r2)) :
  Calls Tryd.prog 27 #[.string a0] w fun e w' => e = .returned (.tuple #[.int .i64 r1, errW r2]) ∧ Below w.heap.size w w' := by
 unfold strconv_Atoi_27.f at h
 split at h
 case isFalse => cases h
 case isTrue hc =>
 cases hn : Lib.atoi a0.data.toList with
 | none => rw [hn] at h; cases h
 | some n =>
  rw [hn] at h
  cases h
  refine Calls.mono (Go.Proofs.YtbjpfknmkpnhjaaDoor.Shelf.strconv_Atoi a0 _ hc hn w) ?_
  rintro e w' ⟨rfl, t, rfl⟩
  exact ⟨rfl, bytes_below (Below.refl _ _) (Nat.le_refl _) _ _⟩
/-! ### impl_Narrow: function 159 -/
def impl_Narrow.f (k : Nat) (a0 : ByteArray) : Option (Int × Bool) := (impl_Digits.f k a0).bind fun t267 => (if t267 = true then (if (a0.size : Int) > 18 then (some (0, false)) else ((strconv_Atoi_27.f a0).bind fun bt268 => (some (bt268.1, true)))) else (some (0, false)))
set_option maxHeartbeats 8000000 in
set_option maxRecDepth 100000 in
theorem impl_Narrow.calls (k : Nat) (a0 : ByteArray) (r1 : Int) (r2 : Bool) (w : World) (h : impl_Narrow.f k a0 = some (r1, r2)) :
  Calls Tryd.prog 159 #[.string a0] w fun e w' => e = .returned (.tuple #[.int .i64 r1, .bool r2]) ∧ Below w.heap.size w w' := by
 have HB := Aside0.mk (Below.refl w.heap.size w)
 have H : ((impl_Digits.f k a0).bind fun t267 => (if t267 = true then (if (a0.size : Int) > 18 then (some (0, false)) else ((strconv_Atoi_27.f a0).bind fun bt268 => (some (bt268.1, true)))) else (some (0, false)))) = some (r1, r2) := h
 clear h
 obtain ⟨t267, A2, H⟩ := ob_ H
 by_cases c3 : t267 = true
 ·subst c3
  replace H := ip_ H
  by_cases c4 : (a0.size : Int) > 18
  ·rw [if_pos c4] at H
   have c4b0 : decide (18 < (a0.size : Int)) = true := decide_eq_true c4
   have c4b1 : decide (18 < a0.size) = true := decide_eq_true (by omega)
   clear c4
   simp only [Option.some.injEq, Prod.mk.injEq] at H
   obtain ⟨rfl, rfl⟩ := H
   go_enter Tryd.func159, Tryd.ntmps159
   go_wp2_with (first | ((with_reducible refine gate_callee (f := 118) rfl ?_); refine goesL_ (some 7) rfl rfl Tryd.func118 (by kernel_rfl) rfl #[.string a0] rfl gl_ ?_; (with_reducible refine (impl_Digits.calls k a0 true _ A2.out).mono ?_); rintro e w' ⟨rfl, ⟨nd, rfl⟩⟩; refine ⟨_, rfl, ?_⟩))
   go_ret2
   exact ⟨sq_, bl_⟩
  ·rw [if_neg c4] at H
   have c4b0 : decide (18 < (a0.size : Int)) = false := decide_eq_false c4
   have c4b1 : decide (18 < a0.size) = false := decide_eq_false (by omega)
   clear c4
   obtain ⟨⟨t268, t269⟩, A5, H⟩ := ob_ H
   (try dsimp only at H)
   simp only [Option.some.injEq, Prod.mk.injEq] at H
   obtain ⟨rfl, rfl⟩ := H
   go_enter Tryd.func159, Tryd.ntmps159
   go_wp2_with (first | ((with_reducible refine gate_callee (f := 118) rfl ?_); refine goesL_ (some 7) rfl rfl Tryd.func118 (by kernel_rfl) rfl #[.string a0] rfl gl_ ?_; (with_reducible refine (impl_Digits.calls k a0 true _ A2.out).mono ?_); rintro e w' ⟨rfl, ⟨nd, rfl⟩⟩; refine ⟨_, rfl, ?_⟩) | ((with_reducible refine gate_callee (f := 27) rfl ?_); refine goesL_ (some 16) rfl rfl Tryd.func27 (by kernel_rfl) rfl #[.string a0] rfl gl_ ?_; (with_reducible refine (strconv_Atoi_27.calls a0 t268 t269 _ A5.out).mono ?_); rintro e w6 ⟨rfl, hb⟩; refine ⟨_, rfl, ?_⟩; replace HB := Aside0.mk (below_step bl_ hb); (try clear hb); (try clear hb2); (try clear hk); (try clear hi); (try simp only [errW_none, errW_some])))
   go_ret2
   exact ⟨sq_, bl_⟩
 ·replace c3 := Bool.eq_false_iff.mpr c3
  subst c3
  replace H := in_ H
  simp only [Option.some.injEq, Prod.mk.injEq] at H
  obtain ⟨rfl, rfl⟩ := H
  go_enter Tryd.func159, Tryd.ntmps159
  go_wp2_with (first | ((with_reducible refine gate_callee (f := 118) rfl ?_); refine goesL_ (some 7) rfl rfl Tryd.func118 (by kernel_rfl) rfl #[.string a0] rfl gl_ ?_; (with_reducible refine (impl_Digits.calls k a0 false _ A2.out).mono ?_); rintro e w' ⟨rfl, ⟨nd, rfl⟩⟩; refine ⟨_, rfl, ?_⟩))
  go_ret2
  exact ⟨sq_, bl_⟩
/-! ### impl_GetLen: function 132 -/
def impl_GetLen.f (k : Nat) (l0 : List Int) (a1 : Int) (a2 : Int) : Option (Int × Int × Bool) := (impl_within.f a2 2 3).bind fun t270 => (if t270 = true then ((impl_GetBcd.f k l0 a1 a2).bind fun bt271 => (if bt271.2.2 = true then ((impl_Narrow.f k bt271.1).bind fun bt274 => (some (bt274.1, bt271.2.1, true))) else (some (0, 0, false)))) else (some (0, 0, false)))
set_option maxHeartbeats 8000000 in
set_option maxRecDepth 100000 in
theorem impl_GetLen.calls (k : Nat) (A0 : Option Addr) (c0 : Nat) (l0 : List Int) (a1 : Int) (a2 : Int) (r1 : Int) (r2 : Int) (r3 : Bool) (w : World) (hr0 : Kd.C (Kd.int .u8) w A0 l0.length l0) (hc0 : l0.length ≤ c0) (h : impl_GetLen.f k l0 a1 a2 = some (r1, r2, r3)) :
  Calls Tryd.prog 132 #[.slice A0 l0.length c0, .int .i64 a1, .int .i64 a2] w fun e w' => e = .returned (.tuple #[.int .i64 r1, .int .i64 r2, .bool r3]) ∧ Below w.heap.size w w' := by
 have HR0 := Aside0.mk hr0
 have HC0 := Aside0.mk hc0
 clear hr0 hc0
 have HB := Aside0.mk (Below.refl w.heap.size w)
 have H : ((impl_within.f a2 2 3).bind fun t270 => (if t270 = true then ((impl_GetBcd.f k l0 a1 a2).bind fun bt271 => (if bt271.2.2 = true then ((impl_Narrow.f k bt271.1).bind fun bt274 => (some (bt274.1, bt271.2.1, true))) else (some (0, 0, false)))) else (some (0, 0, false)))) = some (r1, r2, r3) := h
 clear h
 obtain ⟨t270, A4, H⟩ := ob_ H
 by_cases c5 : t270 = true
 ·subst c5
  replace H := ip_ H
  obtain ⟨⟨t271, t272, t273⟩, A6, H⟩ := ob_ H
  (try dsimp only at H)
  by_cases c7 : t273 = true
  ·subst c7
   replace H := ip_ H
   obtain ⟨⟨t274, t275⟩, A8, H⟩ := ob_ H
   (try dsimp only at H)
   simp only [Option.some.injEq, Prod.mk.injEq] at H
   obtain ⟨rfl, rfl, rfl⟩ := H
   go_enter Tryd.func132, Tryd.ntmps132
   go_wp2_with (first | ((with_reducible refine gate_callee (f := 60) rfl ?_); refine goesL_ (some 15) rfl rfl Tryd.func60 (by kernel_rfl) rfl #[.int .i64 a2, .int .i64 2, .int .i64 3] rfl gl_ ?_; (with_reducible refine (impl_within.calls a2 2 3 true _ A4.out).mono ?_); rintro e w' ⟨rfl, ⟨nd, rfl⟩⟩; refine ⟨_, rfl, ?_⟩) | ((with_reducible refine gate_callee (f := 91) rfl ?_); refine goesL_ (some 21) rfl rfl Tryd.func91 (by kernel_rfl) rfl #[.slice A0 l0.length c0, .int .i64 a1, .int .i64 a2] rfl gl_ ?_; (with_reducible refine (impl_GetBcd.calls k _ _ l0 a1 a2 t271 t272 true _ ?side1 ?side2 A6.out).mono ?_); (case side1 => exact ca_ (HR0.out)); (case side2 => exact HC0.out); rintro e w9 ⟨rfl, hb⟩; refine ⟨_, rfl, ?_⟩; replace HB := Aside0.mk (below_step bl_ hb); (try clear hb); (try clear hb2); (try clear hk); (try clear hi)) | ((with_reducible refine gate_callee (f := 159) rfl ?_); refine goesL_ (some 29) rfl rfl Tryd.func159 (by kernel_rfl) rfl #[.string t271] rfl gl_ ?_; (with_reducible refine (impl_Narrow.calls k t271 t274 t275 _ A8.out).mono ?_); rintro e w10 ⟨rfl, hb⟩; refine ⟨_, rfl, ?_⟩; replace HB := Aside0.mk (below_step bl_ hb); (try clear hb); (try clear hb2); (try clear hk); (try clear hi)))
   go_ret3
   exact ⟨sq_, bl_⟩
  ·replace c7 := Bool.eq_false_iff.mpr c7
   subst c7
   replace H := in_ H
   simp only [Option.some.injEq, Prod.mk.injEq] at H
   obtain ⟨rfl, rfl, rfl⟩ := H
   go_enter Tryd.func132, Tryd.ntmps132
   go_wp2_with (first | ((with_reducible refine gate_callee (f := 60) rfl ?_); refine goesL_ (some 15) rfl rfl Tryd.func60 (by kernel_rfl) rfl #[.int .i64 a2, .int .i64 2, .int .i64 3] rfl gl_ ?_; (with_reducible refine (impl_within.calls a2 2 3 true _ A4.out).mono ?_); rintro e w' ⟨rfl, ⟨nd, rfl⟩⟩; refine ⟨_, rfl, ?_⟩) | ((with_reducible refine gate_callee (f := 91) rfl ?_); refine goesL_ (some 21) rfl rfl Tryd.func91 (by kernel_rfl) rfl #[.slice A0 l0.length c0, .int .i64 a1, .int .i64 a2] rfl gl_ ?_; (with_reducible refine (impl_GetBcd.calls k _ _ l0 a1 a2 t271 t272 false _ ?side1 ?side2 A6.out).mono ?_); (case side1 => exact ca_ (HR0.out)); (case side2 => exact HC0.out); rintro e w11 ⟨rfl, hb⟩; refine ⟨_, rfl, ?_⟩; replace HB := Aside0.mk (below_step bl_ hb); (try clear hb); (try clear hb2); (try clear hk); (try clear hi)))
   go_ret3
   exact ⟨sq_, bl_⟩
 ·replace c5 := Bool.eq_false_iff.mpr c5
  subst c5
  replace H := in_ H
  simp only [Option.some.injEq, Prod.mk.injEq] at H
  obtain ⟨rfl, rfl, rfl⟩ := H
  go_enter Tryd.func132, Tryd.ntmps132
  go_wp2_with (first | ((with_reducible refine gate_callee (f := 60) rfl ?_); refine goesL_ (some 15) rfl rfl Tryd.func60 (by kernel_rfl) rfl #[.int .i64 a2, .int .i64 2, .int .i64 3] rfl gl_ ?_; (with_reducible refine (impl_within.calls a2 2 3 false _ A4.out).mono ?_); rintro e w' ⟨rfl, ⟨nd, rfl⟩⟩; refine ⟨_, rfl, ?_⟩))
  go_ret3
  exact ⟨sq_, bl_⟩
/-! ### impl_lenDigits: function 133 -/
def impl_lenDigits.f (k : Nat) (a0 : Int) : Option (Int) := (impl_FieldKind.f k a0).bind fun t276 => (if t276 = 5 then (some 3) else (some 2))
set_option maxHeartbeats 8000000 in
set_option maxRecDepth 100000 in
theorem impl_lenDigits.calls (k : Nat) (a0 : Int) (r : Int) (w : World) (h : impl_lenDigits.f k a0 = some r) :
  Calls Tryd.prog 133 #[.int .i64 a0] w fun e w' => e = .returned (.int .i64 r) ∧ Below w.heap.size w w' := by
 have HB := Aside0.mk (Below.refl w.heap.size w)
 have H : ((impl_FieldKind.f k a0).bind fun t276 => (if t276 = 5 then (some 3) else (some 2))) = some r := h
 clear h
 obtain ⟨t276, A2, H⟩ := ob_ H
 by_cases c3 : t276 = 5
 ·rw [if_pos c3] at H
  have c3b0 : (t276 == 5) = true := beq_iff_eq.mpr c3
  have c3b1 : (t276 != 5) = false := bne_eq_false_iff_eq.mpr c3
  clear c3
  obtain rfl := Option.some.inj H
  go_enter Tryd.func133, Tryd.ntmps133
  go_wp2_with (first | ((with_reducible refine gate_callee (f := 82) rfl ?_); refine goesL_ (some 4) rfl rfl Tryd.func82 (by kernel_rfl) rfl #[.int .i64 a0] rfl gl_ ?_; (with_reducible refine (impl_FieldKind.calls k a0 t276 _ A2.out).mono ?_); rintro e w4 ⟨rfl, hb⟩; refine ⟨_, rfl, ?_⟩; replace HB := Aside0.mk (below_step bl_ hb); (try clear hb); (try clear hb2); (try clear hk); (try clear hi)))
  go_ret
  exact ⟨sq_, bl_⟩
 ·rw [if_neg c3] at H
  have c3b0 : (t276 == 5) = false := beq_eq_false_iff_ne.mpr c3
  have c3b1 : (t276 != 5) = true := bne_iff_ne.mpr c3
  obtain rfl := Option.some.inj H
  go_enter Tryd.func133, Tryd.ntmps133
  go_wp2_with (first | ((with_reducible refine gate_callee (f := 82) rfl ?_); refine goesL_ (some 4) rfl rfl Tryd.func82 (by kernel_rfl) rfl #[.int .i64 a0] rfl gl_ ?_; (with_reducible refine (impl_FieldKind.calls k a0 t276 _ A2.out).mono ?_); rintro e w5 ⟨rfl, hb⟩; refine ⟨_, rfl, ?_⟩; replace HB := Aside0.mk (below_step bl_ hb); (try clear hb); (try clear hb2); (try clear hk); (try clear hi)))
  go_ret
  exact ⟨sq_, bl_⟩
end Go.Proofs.YtbjpfknmkpnhjaaDoor.QFnExactReplyCode
