-- by my own printer (myprint.py, over the kit's print.py)
import Derived.Test.YtcojjdfbdgpajaaQFnExactAcctSamex0
import Derived.Test.YtcojjdfbdgpajaaQFnExactAcctSamex6
namespace Go.Proofs.Ytcojjdfbdgpajaa.QFnExactAcctSame
open Go.RowKit Go.Proofs.YtcojjdfbdgpajaaW.PrintWords Go.Proofs.YtcojjdfbdgpajaaW.PrintLast Go.Proofs.YtcojjdfbdgpajaaW.PrintMore
attribute [local go_sem] max2_int min2_int max_two min_two max_three min_three max_four min_four   -- for this text's walks alone
set_option linter.unusedVariables false
set_option linter.unusedSimpArgs false

attribute [local go_sem] my_geq my_leq my_gtr
/-! ### slices_Equal_int_int: function 154 -/
def slices_Equal_int_int.l0 : Nat → List Int → List Int → Int → Int → Option (Bool)
  | 0, _, _, _, _ => none
  | k + 1, x0, x1, x12, x13 => if x13 < x12 then (if 0 ≤ x13 then (if x13 < (x0.length : Int) then (if x13 < (x1.length : Int) then (if (rd x0 x13) = (rd x1 x13) then (slices_Equal_int_int.l0 k x0 x1 x12 (wrap64 (x13 + 1))) else (some false)) else (none)) else (none)) else (none)) else (some true)
def slices_Equal_int_int.f (k : Nat) (l0 : List Int) (l1 : List Int) : Option (Bool) := if (l0.length : Int) = (l1.length : Int) then (slices_Equal_int_int.l0 k l0 l1 (l0.length : Int) 0) else (some false)
theorem slices_Equal_int_int.mono_l : ∀ k, (∀ y0 y1 y2 y3, LeO (slices_Equal_int_int.l0 k y0 y1 y2 y3) (slices_Equal_int_int.l0 (k + 1) y0 y1 y2 y3))
  | 0 => fun _ _ _ _ r h => by simp [slices_Equal_int_int.l0] at h
  | k + 1 => by
    have ih0 := slices_Equal_int_int.mono_l k
    · intro y0 y1 y2 y3
      unfold slices_Equal_int_int.l0
      repeat' first
      | (with_reducible exact ih0 _ _ _ _)
      | (with_reducible exact LeO.refl _)
      | (with_reducible exact LeO.none _)
      | (with_reducible refine LeO.ite ?_ ?_)
      | (with_reducible refine LeO.bind ?_ (fun _ => ?_))
      | exact ih0 _ _ _ _
      | exact LeO.none _
      | refine LeO.ite ?_ ?_
      | refine LeO.bind ?_ (fun _ => ?_)
theorem slices_Equal_int_int.mono : ∀ a0 a1 k, LeO (slices_Equal_int_int.f k a0 a1) (slices_Equal_int_int.f (k + 1) a0 a1) := by
  intro a0 a1 k
  have ih0 := slices_Equal_int_int.mono_l k
  unfold slices_Equal_int_int.f
  repeat' first
      | (with_reducible exact ih0 _ _ _ _)
      | (with_reducible exact LeO.refl _)
      | (with_reducible exact LeO.none _)
      | (with_reducible refine LeO.ite ?_ ?_)
      | (with_reducible refine LeO.bind ?_ (fun _ => ?_))
      | exact ih0 _ _ _ _
      | exact LeO.none _
      | refine LeO.ite ?_ ?_
      | refine LeO.bind ?_ (fun _ => ?_)
set_option maxHeartbeats 8000000 in
set_option maxRecDepth 100000 in
theorem slices_Equal_int_int.calls (k : Nat) (A0 : Option Addr) (c0 : Nat) (l0 : List Int) (A1 : Option Addr) (c1 : Nat) (l1 : List Int) (r : Bool) (w : World) (hr0 : Kd.C (Kd.int .i64) w A0 l0.length l0) (hc0 : l0.length ≤ c0) (hr1 : Kd.C (Kd.int .i64) w A1 l1.length l1) (hc1 : l1.length ≤ c1) (h : slices_Equal_int_int.f k l0 l1 = some r) :
    Calls Try.prog 154 #[.slice A0 l0.length c0, .slice A1 l1.length c1] w fun e w' => e = .returned (.bool r) ∧ Drawn0 w w' := by
  have HR0 := Aside0.mk hr0
  have HC0 := Aside0.mk hc0
  clear hr0 hc0
  have HR1 := Aside0.mk hr1
  have HC1 := Aside0.mk hc1
  clear hr1 hc1
  have H : (if (l0.length : Int) = (l1.length : Int) then (slices_Equal_int_int.l0 k l0 l1 (l0.length : Int) 0) else (some false)) = some r := h
  clear h
  by_cases c3 : (l0.length : Int) = (l1.length : Int)
  · rw [if_pos c3] at H
    have c3b0 : ((l0.length : Int) == (l1.length : Int)) = true := beq_iff_eq.mpr c3
    have c3b1 : ((l0.length : Int) != (l1.length : Int)) = false := bne_eq_false_iff_eq.mpr c3
    have c3b2 : (l0.length == l1.length) = true := by first | simpa using c3 | (simp at c3 ⊢; omega)
    clear c3
    have H' := Aside0.mk H
    clear H
    go_enter Try.func154, Try.ntmps154
    go_wp2
    repeat (go_quiet (fail); try go_wp2)
    go_loopg [13] k (fun kq v13 w' => ∃ (x13_1 : Int), v13 = .int .i64 x13_1 ∧ Aside0 (slices_Equal_int_int.l0 kq l0 l1 (l0.length : Int) x13_1 = some r) ∧ Aside0 (kq ≤ k) ∧ Drawn0 w w')
    case atStart => exact ⟨(0), sp_, H', ⟨Nat.le_refl _⟩, by repeat (first | exact Drawn0.refl _ | apply Drawn0.step)⟩
    case round =>
      clear H'
      try clear c1
      try clear p2
      try clear c3
      try clear c3b0
      try clear c3b1
      try clear c3b2
      obtain ⟨x13_1, rfl, HA, HK1, ⟨m1, rfl⟩⟩ := hrel
      cases gk with
      | zero => exact absurd HA.out (by simp [slices_Equal_int_int.l0])
      | succ k1 =>
        have H := HA.out
        clear HA
        simp only [slices_Equal_int_int.l0] at H
        by_cases c4 : x13_1 < (l0.length : Int)
        · rw [if_pos c4] at H
          have c4b0 : decide (x13_1 < (l0.length : Int)) = true := decide_eq_true c4
          clear c4
          by_cases c5 : 0 ≤ x13_1
          · rw [if_pos c5] at H
            have c5b0 : decide (0 ≤ x13_1) = true := decide_eq_true c5
            clear c5
            by_cases c6 : x13_1 < (l0.length : Int)
            · rw [if_pos c6] at H
              have c6b0 : decide (x13_1 < (l0.length : Int)) = true := decide_eq_true c6
              clear c6
              by_cases c7 : x13_1 < (l1.length : Int)
              · rw [if_pos c7] at H
                have c7b0 : decide (x13_1 < (l1.length : Int)) = true := decide_eq_true c7
                clear c7
                by_cases c8 : (rd l0 x13_1) = (rd l1 x13_1)
                · rw [if_pos c8] at H
                  have c8b0 : ((rd l0 x13_1) == (rd l1 x13_1)) = true := beq_iff_eq.mpr c8
                  have c8b1 : ((rd l0 x13_1) != (rd l1 x13_1)) = false := bne_eq_false_iff_eq.mpr c8
                  clear c8
                  have H' := Aside0.mk H
                  clear H
                  have p198 : 0 ≤ (x13_1 : Int) := od_
                  have q198 : x13_1 < (l0.length : Int) := od_
                  obtain ⟨ad198, e198, hx198_0⟩ := Kd.at_int HR0.out x13_1 p198 q198
                  cases e198
                  replace p198 := eq_true p198
                  replace q198 := eq_true q198
                  have p199 : 0 ≤ (x13_1 : Int) := od_
                  have q199 : x13_1 < (l1.length : Int) := od_
                  obtain ⟨ad199, e199, hx199_0⟩ := Kd.at_int HR1.out x13_1 p199 q199
                  cases e199
                  replace p199 := eq_true p199
                  replace q199 := eq_true q199
                  go_wp2
                  repeat (go_quiet (fail); try go_wp2)
                  go_roundg k1
                  case measure => have := HK1.out; omega
                  case rel => exact ⟨(wrap64 (x13_1 + 1)), sp_, H', ⟨by have := HK1.out; omega⟩, by repeat (first | exact Drawn0.refl _ | apply Drawn0.step)⟩
                · rw [if_neg c8] at H
                  have c8b0 : ((rd l0 x13_1) == (rd l1 x13_1)) = false := beq_eq_false_iff_ne.mpr c8
                  have c8b1 : ((rd l0 x13_1) != (rd l1 x13_1)) = true := bne_iff_ne.mpr c8
                  obtain rfl := Option.some.inj H
                  have p198 : 0 ≤ (x13_1 : Int) := od_
                  have q198 : x13_1 < (l0.length : Int) := od_
                  obtain ⟨ad198, e198, hx198_0⟩ := Kd.at_int HR0.out x13_1 p198 q198
                  cases e198
                  replace p198 := eq_true p198
                  replace q198 := eq_true q198
                  have p199 : 0 ≤ (x13_1 : Int) := od_
                  have q199 : x13_1 < (l1.length : Int) := od_
                  obtain ⟨ad199, e199, hx199_0⟩ := Kd.at_int HR1.out x13_1 p199 q199
                  cases e199
                  replace p199 := eq_true p199
                  replace q199 := eq_true q199
                  go_wp2
                  repeat (go_quiet (fail); try go_wp2)
                  go_ret
                  exact ⟨by first | rfl | (simp; done) | (simp [*]; done) | (simp [my_isEmpty, my_w256, Go.Proofs.YtcojjdfbdgpajaaW.PrintLast.i64_w, Go.Proofs.YtcojjdfbdgpajaaW.PrintLast.i32_w, Go.IntKind.wrap_u8, Go.IntKind.wrap_u32]; done), by repeat (first | exact Drawn0.refl _ | apply Drawn0.step)⟩
              · rw [if_neg c7] at H
                exact absurd H (by simp)
            · rw [if_neg c6] at H
              exact absurd H (by simp)
          · rw [if_neg c5] at H
            exact absurd H (by simp)
        · rw [if_neg c4] at H
          have c4b0 : decide (x13_1 < (l0.length : Int)) = false := decide_eq_false c4
          clear c4
          obtain rfl := Option.some.inj H
          go_wp2
          repeat (go_quiet (fail); try go_wp2)
          go_ret
          exact ⟨by first | rfl | (simp; done) | (simp [*]; done) | (simp [my_isEmpty, my_w256, Go.Proofs.YtcojjdfbdgpajaaW.PrintLast.i64_w, Go.Proofs.YtcojjdfbdgpajaaW.PrintLast.i32_w, Go.IntKind.wrap_u8, Go.IntKind.wrap_u32]; done), by repeat (first | exact Drawn0.refl _ | apply Drawn0.step)⟩
  · rw [if_neg c3] at H
    have c3b0 : ((l0.length : Int) == (l1.length : Int)) = false := beq_eq_false_iff_ne.mpr c3
    have c3b1 : ((l0.length : Int) != (l1.length : Int)) = true := bne_iff_ne.mpr c3
    have c3b2 : (l0.length == l1.length) = false := by first | simpa using c3 | (simp at c3 ⊢; omega)
    obtain rfl := Option.some.inj H
    go_enter Try.func154, Try.ntmps154
    go_wp2
    repeat (go_quiet (fail); try go_wp2)
    go_ret
    exact ⟨by first | rfl | (simp; done) | (simp [*]; done) | (simp [my_isEmpty, my_w256, Go.Proofs.YtcojjdfbdgpajaaW.PrintLast.i64_w, Go.Proofs.YtcojjdfbdgpajaaW.PrintLast.i32_w, Go.IntKind.wrap_u8, Go.IntKind.wrap_u32]; done), by repeat (first | exact Drawn0.refl _ | apply Drawn0.step)⟩

/-! ### impl_ringSame: function 115 -/
def impl_ringSame.f (k : Nat) (a0_0 : Int) (a0_1 : Int) (l0_2 : List Int) (l0_3 : List Int) (a1_0 : Int) (a1_1 : Int) (l1_2 : List Int) (l1_3 : List Int) : Option (Bool) := if a0_0 = a1_0 then (if a0_1 = a1_1 then ((slices_Equal_int_int.f k l0_2 l1_2).bind fun t202 => (if t202 = true then ((slices_Equal_int_int.f k l0_3 l1_3).bind fun t203 => (some t203)) else (some false))) else (some false)) else (some false)
theorem impl_ringSame.mono : ∀ a0 a1 a2 a3 a4 a5 a6 a7 k, LeO (impl_ringSame.f k a0 a1 a2 a3 a4 a5 a6 a7) (impl_ringSame.f (k + 1) a0 a1 a2 a3 a4 a5 a6 a7) := by
  intro a0 a1 a2 a3 a4 a5 a6 a7 k
  unfold impl_ringSame.f
  repeat' first
      | (with_reducible exact slices_Equal_int_int.mono _ _ _)
      | (with_reducible exact LeO.refl _)
      | (with_reducible exact LeO.none _)
      | (with_reducible refine LeO.ite ?_ ?_)
      | (with_reducible refine LeO.bind ?_ (fun _ => ?_))
      | exact slices_Equal_int_int.mono _ _ _
      | exact LeO.none _
      | refine LeO.ite ?_ ?_
      | refine LeO.bind ?_ (fun _ => ?_)
set_option maxHeartbeats 8000000 in
set_option maxRecDepth 100000 in
theorem impl_ringSame.calls (k : Nat) (a0_0 : Int) (a0_1 : Int) (A0_2 : Option Addr) (c0_2 : Nat) (l0_2 : List Int) (A0_3 : Option Addr) (c0_3 : Nat) (l0_3 : List Int) (a1_0 : Int) (a1_1 : Int) (A1_2 : Option Addr) (c1_2 : Nat) (l1_2 : List Int) (A1_3 : Option Addr) (c1_3 : Nat) (l1_3 : List Int) (r : Bool) (w : World) (hr0_2 : Kd.C (Kd.int .i64) w A0_2 l0_2.length l0_2) (hc0_2 : l0_2.length ≤ c0_2) (hr0_3 : Kd.C (Kd.int .i64) w A0_3 l0_3.length l0_3) (hc0_3 : l0_3.length ≤ c0_3) (hr1_2 : Kd.C (Kd.int .i64) w A1_2 l1_2.length l1_2) (hc1_2 : l1_2.length ≤ c1_2) (hr1_3 : Kd.C (Kd.int .i64) w A1_3 l1_3.length l1_3) (hc1_3 : l1_3.length ≤ c1_3) (h : impl_ringSame.f k a0_0 a0_1 l0_2 l0_3 a1_0 a1_1 l1_2 l1_3 = some r) :
    Calls Try.prog 115 #[.agg #[.int .i64 a0_0, .int .i64 a0_1, .slice A0_2 l0_2.length c0_2, .slice A0_3 l0_3.length c0_3], .agg #[.int .i64 a1_0, .int .i64 a1_1, .slice A1_2 l1_2.length c1_2, .slice A1_3 l1_3.length c1_3]] w fun e w' => e = .returned (.bool r) ∧ Below w.heap.size w w' := by
  have hu83 := Try.underlying83
  have HR0_2 := Aside0.mk hr0_2
  have HC0_2 := Aside0.mk hc0_2
  clear hr0_2 hc0_2
  have HR0_3 := Aside0.mk hr0_3
  have HC0_3 := Aside0.mk hc0_3
  clear hr0_3 hc0_3
  have HR1_2 := Aside0.mk hr1_2
  have HC1_2 := Aside0.mk hc1_2
  clear hr1_2 hc1_2
  have HR1_3 := Aside0.mk hr1_3
  have HC1_3 := Aside0.mk hc1_3
  clear hr1_3 hc1_3
  have HB := Aside0.mk (Below.refl w.heap.size w)
  have H : (if a0_0 = a1_0 then (if a0_1 = a1_1 then ((slices_Equal_int_int.f k l0_2 l1_2).bind fun t202 => (if t202 = true then ((slices_Equal_int_int.f k l0_3 l1_3).bind fun t203 => (some t203)) else (some false))) else (some false)) else (some false)) = some r := h
  clear h
  by_cases c3 : a0_0 = a1_0
  · rw [if_pos c3] at H
    have c3b0 : (a0_0 == a1_0) = true := beq_iff_eq.mpr c3
    have c3b1 : (a0_0 != a1_0) = false := bne_eq_false_iff_eq.mpr c3
    clear c3
    by_cases c4 : a0_1 = a1_1
    · rw [if_pos c4] at H
      have c4b0 : (a0_1 == a1_1) = true := beq_iff_eq.mpr c4
      have c4b1 : (a0_1 != a1_1) = false := bne_eq_false_iff_eq.mpr c4
      clear c4
      replace H := Option.bind_eq_some_iff.mp H
      obtain ⟨t202, A50, H⟩ := H
      replace H : (if t202 = true then ((slices_Equal_int_int.f k l0_3 l1_3).bind fun t203 => (some t203)) else (some false)) = some r := H
      have A5 := Aside0.mk A50
      clear A50
      by_cases c6 : t202 = true
      · subst c6
        have H1 : ((slices_Equal_int_int.f k l0_3 l1_3).bind fun t203 => (some t203)) = some r := by rw [if_pos rfl] at H; exact H
        clear H
        have H := H1
        clear H1
        replace H := Option.bind_eq_some_iff.mp H
        obtain ⟨t203, A70, H⟩ := H
        replace H : (some t203) = some r := H
        have A7 := Aside0.mk A70
        clear A70
        obtain rfl := Option.some.inj H
        go_enter Try.func115, Try.ntmps115
        go_wp2_with (first | ((with_reducible refine gate_dst (N := 2) rfl ?_); refine box_event ?hg (N := 2) ?hd (cs := #[.int .i64 a0_0, .int .i64 a0_1, .slice A0_2 l0_2.length c0_2, .slice A0_3 l0_3.length c0_3]) (t := 83) ?hr ?_; (case hd => rfl); (case hg => rfl); (case hr => first | (go_simp; done) | (go_simp; rfl)); intro gb200 hg w8 hbox hb; have n0_ := Aside0.mk (below_step bl_ hb); have n1_ := Aside0.mk (hbox); have n2_ := Aside0.mk ((by rw [hg]; exact (below_size bl_) : w.heap.size ≤ gb200)); have n3_ := Aside0.mk ((by rw [hg]; exact (below_size bl_) : w.heap.size ≤ gb200)); clear HB; have HB := n0_; have BK200 := n1_; have GW200 := n2_; have GE200 := n3_; clear n0_ n1_ n2_ n3_; clear hb hbox hg) | ((with_reducible refine gate_dst (N := 3) rfl ?_); refine box_event ?hg (N := 3) ?hd (cs := #[.int .i64 a1_0, .int .i64 a1_1, .slice A1_2 l1_2.length c1_2, .slice A1_3 l1_3.length c1_3]) (t := 83) ?hr ?_; (case hd => rfl); (case hg => rfl); (case hr => first | (go_simp; done) | (go_simp; rfl)); intro gb201 hg w9 hbox hb; have n0_ := Aside0.mk (blk_below (bk_ BK200) hb); have n1_ := Aside0.mk (below_step bl_ hb); have n2_ := Aside0.mk (hbox); have n3_ := Aside0.mk ((by rw [hg]; exact (below_size bl_) : w.heap.size ≤ gb201)); have n4_ := Aside0.mk ((by rw [hg]; exact (below_size bl_) : w.heap.size ≤ gb201)); have n5_ := Aside0.mk ((by rw [hg]; exact Nat.ne_of_lt (blk_lt (bk_ BK200)) : gb200 ≠ gb201)); have n6_ := Aside0.mk ((by rw [hg]; exact Nat.ne_of_gt (blk_lt (bk_ BK200)) : gb201 ≠ gb200)); clear BK200; clear HB; have BK200 := n0_; have HB := n1_; have BK201 := n2_; have GW201 := n3_; have GE201 := n4_; have NB200_201 := n5_; have NB201_200 := n6_; clear n0_ n1_ n2_ n3_ n4_ n5_ n6_; clear hb hbox hg; have hnb10 := NB200_201.out; have hnc10 := NB201_200.out; have hcz11_0 := cz_ BK200 0 (.int .i64 a0_0); have hcz11_1 := cz_ BK200 1 (.int .i64 a0_1); have hcz11_2 := cz_ BK200 2 (.slice A0_2 l0_2.length c0_2); have hcz11_3 := cz_ BK200 3 (.slice A0_3 l0_3.length c0_3); have hfz11_0 := fz_ BK200 0; have hfz11_1 := fz_ BK200 1; have hfz11_2 := fz_ BK200 2; have hfz11_3 := fz_ BK200 3; have hcz12_0 := cz_ BK201 0 (.int .i64 a1_0); have hcz12_1 := cz_ BK201 1 (.int .i64 a1_1); have hcz12_2 := cz_ BK201 2 (.slice A1_2 l1_2.length c1_2); have hcz12_3 := cz_ BK201 3 (.slice A1_3 l1_3.length c1_3); have hfz12_0 := fz_ BK201 0; have hfz12_1 := fz_ BK201 1; have hfz12_2 := fz_ BK201 2; have hfz12_3 := fz_ BK201 3) | (go_at_call 154; (with_reducible refine (slices_Equal_int_int.calls k _ _ l0_2 _ _ l1_2 true _ ?side1 ?side2 ?side3 ?side4 A5.out).mono ?_); (case side1 => exact ca_ (Kd.C_below HR0_2.out HB.out)); (case side2 => exact HC0_2.out); (case side3 => exact ca_ (Kd.C_below HR1_2.out HB.out)); (case side4 => exact HC1_2.out); rintro e w' ⟨rfl, ⟨nd, rfl⟩⟩) | (go_at_call 154; (with_reducible refine (slices_Equal_int_int.calls k _ _ l0_3 _ _ l1_3 t203 _ ?side1 ?side2 ?side3 ?side4 A7.out).mono ?_); (case side1 => exact ca_ (Kd.C_below HR0_3.out bl_)); (case side2 => exact HC0_3.out); (case side3 => exact ca_ (Kd.C_below HR1_3.out bl_)); (case side4 => exact HC1_3.out); rintro e w' ⟨rfl, ⟨nd, rfl⟩⟩))
        go_ret
        exact ⟨by first | rfl | (simp [errW_none, errW_some] <;> rfl) | (simp [*, errW_none, errW_some] <;> rfl), bl_⟩
      · replace c6 := Bool.eq_false_iff.mpr c6
        subst c6
        have H1 : (some false) = some r := by rw [if_neg (show ¬ (false = true) by decide)] at H; exact H
        clear H
        have H := H1
        clear H1
        obtain rfl := Option.some.inj H
        go_enter Try.func115, Try.ntmps115
        go_wp2_with (first | ((with_reducible refine gate_dst (N := 2) rfl ?_); refine box_event ?hg (N := 2) ?hd (cs := #[.int .i64 a0_0, .int .i64 a0_1, .slice A0_2 l0_2.length c0_2, .slice A0_3 l0_3.length c0_3]) (t := 83) ?hr ?_; (case hd => rfl); (case hg => rfl); (case hr => first | (go_simp; done) | (go_simp; rfl)); intro gb200 hg w13 hbox hb; have n0_ := Aside0.mk (below_step bl_ hb); have n1_ := Aside0.mk (hbox); have n2_ := Aside0.mk ((by rw [hg]; exact (below_size bl_) : w.heap.size ≤ gb200)); have n3_ := Aside0.mk ((by rw [hg]; exact (below_size bl_) : w.heap.size ≤ gb200)); clear HB; have HB := n0_; have BK200 := n1_; have GW200 := n2_; have GE200 := n3_; clear n0_ n1_ n2_ n3_; clear hb hbox hg) | ((with_reducible refine gate_dst (N := 3) rfl ?_); refine box_event ?hg (N := 3) ?hd (cs := #[.int .i64 a1_0, .int .i64 a1_1, .slice A1_2 l1_2.length c1_2, .slice A1_3 l1_3.length c1_3]) (t := 83) ?hr ?_; (case hd => rfl); (case hg => rfl); (case hr => first | (go_simp; done) | (go_simp; rfl)); intro gb201 hg w14 hbox hb; have n0_ := Aside0.mk (blk_below (bk_ BK200) hb); have n1_ := Aside0.mk (below_step bl_ hb); have n2_ := Aside0.mk (hbox); have n3_ := Aside0.mk ((by rw [hg]; exact (below_size bl_) : w.heap.size ≤ gb201)); have n4_ := Aside0.mk ((by rw [hg]; exact (below_size bl_) : w.heap.size ≤ gb201)); have n5_ := Aside0.mk ((by rw [hg]; exact Nat.ne_of_lt (blk_lt (bk_ BK200)) : gb200 ≠ gb201)); have n6_ := Aside0.mk ((by rw [hg]; exact Nat.ne_of_gt (blk_lt (bk_ BK200)) : gb201 ≠ gb200)); clear BK200; clear HB; have BK200 := n0_; have HB := n1_; have BK201 := n2_; have GW201 := n3_; have GE201 := n4_; have NB200_201 := n5_; have NB201_200 := n6_; clear n0_ n1_ n2_ n3_ n4_ n5_ n6_; clear hb hbox hg; have hnb15 := NB200_201.out; have hnc15 := NB201_200.out; have hcz16_0 := cz_ BK200 0 (.int .i64 a0_0); have hcz16_1 := cz_ BK200 1 (.int .i64 a0_1); have hcz16_2 := cz_ BK200 2 (.slice A0_2 l0_2.length c0_2); have hcz16_3 := cz_ BK200 3 (.slice A0_3 l0_3.length c0_3); have hfz16_0 := fz_ BK200 0; have hfz16_1 := fz_ BK200 1; have hfz16_2 := fz_ BK200 2; have hfz16_3 := fz_ BK200 3; have hcz17_0 := cz_ BK201 0 (.int .i64 a1_0); have hcz17_1 := cz_ BK201 1 (.int .i64 a1_1); have hcz17_2 := cz_ BK201 2 (.slice A1_2 l1_2.length c1_2); have hcz17_3 := cz_ BK201 3 (.slice A1_3 l1_3.length c1_3); have hfz17_0 := fz_ BK201 0; have hfz17_1 := fz_ BK201 1; have hfz17_2 := fz_ BK201 2; have hfz17_3 := fz_ BK201 3) | (go_at_call 154; (with_reducible refine (slices_Equal_int_int.calls k _ _ l0_2 _ _ l1_2 false _ ?side1 ?side2 ?side3 ?side4 A5.out).mono ?_); (case side1 => exact ca_ (Kd.C_below HR0_2.out HB.out)); (case side2 => exact HC0_2.out); (case side3 => exact ca_ (Kd.C_below HR1_2.out HB.out)); (case side4 => exact HC1_2.out); rintro e w' ⟨rfl, ⟨nd, rfl⟩⟩))
        go_ret
        exact ⟨by first | rfl | (simp [errW_none, errW_some] <;> rfl) | (simp [*, errW_none, errW_some] <;> rfl), bl_⟩
    · rw [if_neg c4] at H
      have c4b0 : (a0_1 == a1_1) = false := beq_eq_false_iff_ne.mpr c4
      have c4b1 : (a0_1 != a1_1) = true := bne_iff_ne.mpr c4
      obtain rfl := Option.some.inj H
      go_enter Try.func115, Try.ntmps115
      go_wp2_with (first | ((with_reducible refine gate_dst (N := 2) rfl ?_); refine box_event ?hg (N := 2) ?hd (cs := #[.int .i64 a0_0, .int .i64 a0_1, .slice A0_2 l0_2.length c0_2, .slice A0_3 l0_3.length c0_3]) (t := 83) ?hr ?_; (case hd => rfl); (case hg => rfl); (case hr => first | (go_simp; done) | (go_simp; rfl)); intro gb200 hg w18 hbox hb; have n0_ := Aside0.mk (below_step bl_ hb); have n1_ := Aside0.mk (hbox); have n2_ := Aside0.mk ((by rw [hg]; exact (below_size bl_) : w.heap.size ≤ gb200)); have n3_ := Aside0.mk ((by rw [hg]; exact (below_size bl_) : w.heap.size ≤ gb200)); clear HB; have HB := n0_; have BK200 := n1_; have GW200 := n2_; have GE200 := n3_; clear n0_ n1_ n2_ n3_; clear hb hbox hg) | ((with_reducible refine gate_dst (N := 3) rfl ?_); refine box_event ?hg (N := 3) ?hd (cs := #[.int .i64 a1_0, .int .i64 a1_1, .slice A1_2 l1_2.length c1_2, .slice A1_3 l1_3.length c1_3]) (t := 83) ?hr ?_; (case hd => rfl); (case hg => rfl); (case hr => first | (go_simp; done) | (go_simp; rfl)); intro gb201 hg w19 hbox hb; have n0_ := Aside0.mk (blk_below (bk_ BK200) hb); have n1_ := Aside0.mk (below_step bl_ hb); have n2_ := Aside0.mk (hbox); have n3_ := Aside0.mk ((by rw [hg]; exact (below_size bl_) : w.heap.size ≤ gb201)); have n4_ := Aside0.mk ((by rw [hg]; exact (below_size bl_) : w.heap.size ≤ gb201)); have n5_ := Aside0.mk ((by rw [hg]; exact Nat.ne_of_lt (blk_lt (bk_ BK200)) : gb200 ≠ gb201)); have n6_ := Aside0.mk ((by rw [hg]; exact Nat.ne_of_gt (blk_lt (bk_ BK200)) : gb201 ≠ gb200)); clear BK200; clear HB; have BK200 := n0_; have HB := n1_; have BK201 := n2_; have GW201 := n3_; have GE201 := n4_; have NB200_201 := n5_; have NB201_200 := n6_; clear n0_ n1_ n2_ n3_ n4_ n5_ n6_; clear hb hbox hg; have hnb20 := NB200_201.out; have hnc20 := NB201_200.out; have hcz21_0 := cz_ BK200 0 (.int .i64 a0_0); have hcz21_1 := cz_ BK200 1 (.int .i64 a0_1); have hcz21_2 := cz_ BK200 2 (.slice A0_2 l0_2.length c0_2); have hcz21_3 := cz_ BK200 3 (.slice A0_3 l0_3.length c0_3); have hfz21_0 := fz_ BK200 0; have hfz21_1 := fz_ BK200 1; have hfz21_2 := fz_ BK200 2; have hfz21_3 := fz_ BK200 3; have hcz22_0 := cz_ BK201 0 (.int .i64 a1_0); have hcz22_1 := cz_ BK201 1 (.int .i64 a1_1); have hcz22_2 := cz_ BK201 2 (.slice A1_2 l1_2.length c1_2); have hcz22_3 := cz_ BK201 3 (.slice A1_3 l1_3.length c1_3); have hfz22_0 := fz_ BK201 0; have hfz22_1 := fz_ BK201 1; have hfz22_2 := fz_ BK201 2; have hfz22_3 := fz_ BK201 3))
      go_ret
      exact ⟨by first | rfl | (simp [errW_none, errW_some] <;> rfl) | (simp [*, errW_none, errW_some] <;> rfl), bl_⟩
  · rw [if_neg c3] at H
    have c3b0 : (a0_0 == a1_0) = false := beq_eq_false_iff_ne.mpr c3
    have c3b1 : (a0_0 != a1_0) = true := bne_iff_ne.mpr c3
    obtain rfl := Option.some.inj H
    go_enter Try.func115, Try.ntmps115
    go_wp2_with (first | ((with_reducible refine gate_dst (N := 2) rfl ?_); refine box_event ?hg (N := 2) ?hd (cs := #[.int .i64 a0_0, .int .i64 a0_1, .slice A0_2 l0_2.length c0_2, .slice A0_3 l0_3.length c0_3]) (t := 83) ?hr ?_; (case hd => rfl); (case hg => rfl); (case hr => first | (go_simp; done) | (go_simp; rfl)); intro gb200 hg w23 hbox hb; have n0_ := Aside0.mk (below_step bl_ hb); have n1_ := Aside0.mk (hbox); have n2_ := Aside0.mk ((by rw [hg]; exact (below_size bl_) : w.heap.size ≤ gb200)); have n3_ := Aside0.mk ((by rw [hg]; exact (below_size bl_) : w.heap.size ≤ gb200)); clear HB; have HB := n0_; have BK200 := n1_; have GW200 := n2_; have GE200 := n3_; clear n0_ n1_ n2_ n3_; clear hb hbox hg) | ((with_reducible refine gate_dst (N := 3) rfl ?_); refine box_event ?hg (N := 3) ?hd (cs := #[.int .i64 a1_0, .int .i64 a1_1, .slice A1_2 l1_2.length c1_2, .slice A1_3 l1_3.length c1_3]) (t := 83) ?hr ?_; (case hd => rfl); (case hg => rfl); (case hr => first | (go_simp; done) | (go_simp; rfl)); intro gb201 hg w24 hbox hb; have n0_ := Aside0.mk (blk_below (bk_ BK200) hb); have n1_ := Aside0.mk (below_step bl_ hb); have n2_ := Aside0.mk (hbox); have n3_ := Aside0.mk ((by rw [hg]; exact (below_size bl_) : w.heap.size ≤ gb201)); have n4_ := Aside0.mk ((by rw [hg]; exact (below_size bl_) : w.heap.size ≤ gb201)); have n5_ := Aside0.mk ((by rw [hg]; exact Nat.ne_of_lt (blk_lt (bk_ BK200)) : gb200 ≠ gb201)); have n6_ := Aside0.mk ((by rw [hg]; exact Nat.ne_of_gt (blk_lt (bk_ BK200)) : gb201 ≠ gb200)); clear BK200; clear HB; have BK200 := n0_; have HB := n1_; have BK201 := n2_; have GW201 := n3_; have GE201 := n4_; have NB200_201 := n5_; have NB201_200 := n6_; clear n0_ n1_ n2_ n3_ n4_ n5_ n6_; clear hb hbox hg; have hnb25 := NB200_201.out; have hnc25 := NB201_200.out; have hcz26_0 := cz_ BK200 0 (.int .i64 a0_0); have hcz26_1 := cz_ BK200 1 (.int .i64 a0_1); have hcz26_2 := cz_ BK200 2 (.slice A0_2 l0_2.length c0_2); have hcz26_3 := cz_ BK200 3 (.slice A0_3 l0_3.length c0_3); have hfz26_0 := fz_ BK200 0; have hfz26_1 := fz_ BK200 1; have hfz26_2 := fz_ BK200 2; have hfz26_3 := fz_ BK200 3; have hcz27_0 := cz_ BK201 0 (.int .i64 a1_0); have hcz27_1 := cz_ BK201 1 (.int .i64 a1_1); have hcz27_2 := cz_ BK201 2 (.slice A1_2 l1_2.length c1_2); have hcz27_3 := cz_ BK201 3 (.slice A1_3 l1_3.length c1_3); have hfz27_0 := fz_ BK201 0; have hfz27_1 := fz_ BK201 1; have hfz27_2 := fz_ BK201 2; have hfz27_3 := fz_ BK201 3))
    go_ret
    exact ⟨by first | rfl | (simp [errW_none, errW_some] <;> rfl) | (simp [*, errW_none, errW_some] <;> rfl), bl_⟩

/-! ### slices_Equal_byte_byte: function 157 -/
def slices_Equal_byte_byte.l0 : Nat → List Int → List Int → Int → Int → Option (Bool)
  | 0, _, _, _, _ => none
  | k + 1, x0, x1, x12, x13 => if x13 < x12 then (if 0 ≤ x13 then (if x13 < (x0.length : Int) then (if x13 < (x1.length : Int) then (if (rd x0 x13) = (rd x1 x13) then (slices_Equal_byte_byte.l0 k x0 x1 x12 (wrap64 (x13 + 1))) else (some false)) else (none)) else (none)) else (none)) else (some true)
def slices_Equal_byte_byte.f (k : Nat) (l0 : List Int) (l1 : List Int) : Option (Bool) := if (l0.length : Int) = (l1.length : Int) then (slices_Equal_byte_byte.l0 k l0 l1 (l0.length : Int) 0) else (some false)
theorem slices_Equal_byte_byte.mono_l : ∀ k, (∀ y0 y1 y2 y3, LeO (slices_Equal_byte_byte.l0 k y0 y1 y2 y3) (slices_Equal_byte_byte.l0 (k + 1) y0 y1 y2 y3))
  | 0 => fun _ _ _ _ r h => by simp [slices_Equal_byte_byte.l0] at h
  | k + 1 => by
    have ih0 := slices_Equal_byte_byte.mono_l k
    · intro y0 y1 y2 y3
      unfold slices_Equal_byte_byte.l0
      repeat' first
      | (with_reducible exact ih0 _ _ _ _)
      | (with_reducible exact LeO.refl _)
      | (with_reducible exact LeO.none _)
      | (with_reducible refine LeO.ite ?_ ?_)
      | (with_reducible refine LeO.bind ?_ (fun _ => ?_))
      | exact ih0 _ _ _ _
      | exact LeO.none _
      | refine LeO.ite ?_ ?_
      | refine LeO.bind ?_ (fun _ => ?_)
theorem slices_Equal_byte_byte.mono : ∀ a0 a1 k, LeO (slices_Equal_byte_byte.f k a0 a1) (slices_Equal_byte_byte.f (k + 1) a0 a1) := by
  intro a0 a1 k
  have ih0 := slices_Equal_byte_byte.mono_l k
  unfold slices_Equal_byte_byte.f
  repeat' first
      | (with_reducible exact ih0 _ _ _ _)
      | (with_reducible exact LeO.refl _)
      | (with_reducible exact LeO.none _)
      | (with_reducible refine LeO.ite ?_ ?_)
      | (with_reducible refine LeO.bind ?_ (fun _ => ?_))
      | exact ih0 _ _ _ _
      | exact LeO.none _
      | refine LeO.ite ?_ ?_
      | refine LeO.bind ?_ (fun _ => ?_)
set_option maxHeartbeats 8000000 in
set_option maxRecDepth 100000 in
theorem slices_Equal_byte_byte.calls (k : Nat) (A0 : Option Addr) (c0 : Nat) (l0 : List Int) (A1 : Option Addr) (c1 : Nat) (l1 : List Int) (r : Bool) (w : World) (hr0 : Kd.C (Kd.int .u8) w A0 l0.length l0) (hc0 : l0.length ≤ c0) (hr1 : Kd.C (Kd.int .u8) w A1 l1.length l1) (hc1 : l1.length ≤ c1) (h : slices_Equal_byte_byte.f k l0 l1 = some r) :
    Calls Try.prog 157 #[.slice A0 l0.length c0, .slice A1 l1.length c1] w fun e w' => e = .returned (.bool r) ∧ Drawn0 w w' := by
  have HR0 := Aside0.mk hr0
  have HC0 := Aside0.mk hc0
  clear hr0 hc0
  have HR1 := Aside0.mk hr1
  have HC1 := Aside0.mk hc1
  clear hr1 hc1
  have H : (if (l0.length : Int) = (l1.length : Int) then (slices_Equal_byte_byte.l0 k l0 l1 (l0.length : Int) 0) else (some false)) = some r := h
  clear h
  by_cases c3 : (l0.length : Int) = (l1.length : Int)
  · rw [if_pos c3] at H
    have c3b0 : ((l0.length : Int) == (l1.length : Int)) = true := beq_iff_eq.mpr c3
    have c3b1 : ((l0.length : Int) != (l1.length : Int)) = false := bne_eq_false_iff_eq.mpr c3
    have c3b2 : (l0.length == l1.length) = true := by first | simpa using c3 | (simp at c3 ⊢; omega)
    clear c3
    have H' := Aside0.mk H
    clear H
    go_enter Try.func157, Try.ntmps157
    go_wp2
    repeat (go_quiet (fail); try go_wp2)
    go_loopg [13] k (fun kq v13 w' => ∃ (x13_1 : Int), v13 = .int .i64 x13_1 ∧ Aside0 (slices_Equal_byte_byte.l0 kq l0 l1 (l0.length : Int) x13_1 = some r) ∧ Aside0 (kq ≤ k) ∧ Drawn0 w w')
    case atStart => exact ⟨(0), sp_, H', ⟨Nat.le_refl _⟩, by repeat (first | exact Drawn0.refl _ | apply Drawn0.step)⟩
    case round =>
      clear H'
      try clear c1
      try clear p2
      try clear c3
      try clear c3b0
      try clear c3b1
      try clear c3b2
      obtain ⟨x13_1, rfl, HA, HK1, ⟨m1, rfl⟩⟩ := hrel
      cases gk with
      | zero => exact absurd HA.out (by simp [slices_Equal_byte_byte.l0])
      | succ k1 =>
        have H := HA.out
        clear HA
        simp only [slices_Equal_byte_byte.l0] at H
        by_cases c4 : x13_1 < (l0.length : Int)
        · rw [if_pos c4] at H
          have c4b0 : decide (x13_1 < (l0.length : Int)) = true := decide_eq_true c4
          clear c4
          by_cases c5 : 0 ≤ x13_1
          · rw [if_pos c5] at H
            have c5b0 : decide (0 ≤ x13_1) = true := decide_eq_true c5
            clear c5
            by_cases c6 : x13_1 < (l0.length : Int)
            · rw [if_pos c6] at H
              have c6b0 : decide (x13_1 < (l0.length : Int)) = true := decide_eq_true c6
              clear c6
              by_cases c7 : x13_1 < (l1.length : Int)
              · rw [if_pos c7] at H
                have c7b0 : decide (x13_1 < (l1.length : Int)) = true := decide_eq_true c7
                clear c7
                by_cases c8 : (rd l0 x13_1) = (rd l1 x13_1)
                · rw [if_pos c8] at H
                  have c8b0 : ((rd l0 x13_1) == (rd l1 x13_1)) = true := beq_iff_eq.mpr c8
                  have c8b1 : ((rd l0 x13_1) != (rd l1 x13_1)) = false := bne_eq_false_iff_eq.mpr c8
                  clear c8
                  have H' := Aside0.mk H
                  clear H
                  have p204 : 0 ≤ (x13_1 : Int) := od_
                  have q204 : x13_1 < (l0.length : Int) := od_
                  obtain ⟨ad204, e204, hx204_0⟩ := Kd.at_int HR0.out x13_1 p204 q204
                  cases e204
                  replace p204 := eq_true p204
                  replace q204 := eq_true q204
                  have p205 : 0 ≤ (x13_1 : Int) := od_
                  have q205 : x13_1 < (l1.length : Int) := od_
                  obtain ⟨ad205, e205, hx205_0⟩ := Kd.at_int HR1.out x13_1 p205 q205
                  cases e205
                  replace p205 := eq_true p205
                  replace q205 := eq_true q205
                  go_wp2
                  repeat (go_quiet (fail); try go_wp2)
                  go_roundg k1
                  case measure => have := HK1.out; omega
                  case rel => exact ⟨(wrap64 (x13_1 + 1)), sp_, H', ⟨by have := HK1.out; omega⟩, by repeat (first | exact Drawn0.refl _ | apply Drawn0.step)⟩
                · rw [if_neg c8] at H
                  have c8b0 : ((rd l0 x13_1) == (rd l1 x13_1)) = false := beq_eq_false_iff_ne.mpr c8
                  have c8b1 : ((rd l0 x13_1) != (rd l1 x13_1)) = true := bne_iff_ne.mpr c8
                  obtain rfl := Option.some.inj H
                  have p204 : 0 ≤ (x13_1 : Int) := od_
                  have q204 : x13_1 < (l0.length : Int) := od_
                  obtain ⟨ad204, e204, hx204_0⟩ := Kd.at_int HR0.out x13_1 p204 q204
                  cases e204
                  replace p204 := eq_true p204
                  replace q204 := eq_true q204
                  have p205 : 0 ≤ (x13_1 : Int) := od_
                  have q205 : x13_1 < (l1.length : Int) := od_
                  obtain ⟨ad205, e205, hx205_0⟩ := Kd.at_int HR1.out x13_1 p205 q205
                  cases e205
                  replace p205 := eq_true p205
                  replace q205 := eq_true q205
                  go_wp2
                  repeat (go_quiet (fail); try go_wp2)
                  go_ret
                  exact ⟨by first | rfl | (simp; done) | (simp [*]; done) | (simp [my_isEmpty, my_w256, Go.Proofs.YtcojjdfbdgpajaaW.PrintLast.i64_w, Go.Proofs.YtcojjdfbdgpajaaW.PrintLast.i32_w, Go.IntKind.wrap_u8, Go.IntKind.wrap_u32]; done), by repeat (first | exact Drawn0.refl _ | apply Drawn0.step)⟩
              · rw [if_neg c7] at H
                exact absurd H (by simp)
            · rw [if_neg c6] at H
              exact absurd H (by simp)
          · rw [if_neg c5] at H
            exact absurd H (by simp)
        · rw [if_neg c4] at H
          have c4b0 : decide (x13_1 < (l0.length : Int)) = false := decide_eq_false c4
          clear c4
          obtain rfl := Option.some.inj H
          go_wp2
          repeat (go_quiet (fail); try go_wp2)
          go_ret
          exact ⟨by first | rfl | (simp; done) | (simp [*]; done) | (simp [my_isEmpty, my_w256, Go.Proofs.YtcojjdfbdgpajaaW.PrintLast.i64_w, Go.Proofs.YtcojjdfbdgpajaaW.PrintLast.i32_w, Go.IntKind.wrap_u8, Go.IntKind.wrap_u32]; done), by repeat (first | exact Drawn0.refl _ | apply Drawn0.step)⟩
  · rw [if_neg c3] at H
    have c3b0 : ((l0.length : Int) == (l1.length : Int)) = false := beq_eq_false_iff_ne.mpr c3
    have c3b1 : ((l0.length : Int) != (l1.length : Int)) = true := bne_iff_ne.mpr c3
    have c3b2 : (l0.length == l1.length) = false := by first | simpa using c3 | (simp at c3 ⊢; omega)
    obtain rfl := Option.some.inj H
    go_enter Try.func157, Try.ntmps157
    go_wp2
    repeat (go_quiet (fail); try go_wp2)
    go_ret
    exact ⟨by first | rfl | (simp; done) | (simp [*]; done) | (simp [my_isEmpty, my_w256, Go.Proofs.YtcojjdfbdgpajaaW.PrintLast.i64_w, Go.Proofs.YtcojjdfbdgpajaaW.PrintLast.i32_w, Go.IntKind.wrap_u8, Go.IntKind.wrap_u32]; done), by repeat (first | exact Drawn0.refl _ | apply Drawn0.step)⟩

/-! ### impl_SlotsSame_1: function 156 -/
def impl_SlotsSame_1.f (k : Nat) (a0_0 : ByteArray) (a0_1 : ByteArray) (l0_2 : List Int) (a1_0 : ByteArray) (a1_1 : ByteArray) (l1_2 : List Int) : Option (Bool) := if a0_0.toList = a1_0.toList then (if a0_1.toList = a1_1.toList then ((slices_Equal_byte_byte.f k l0_2 l1_2).bind fun t208 => (some t208)) else (some false)) else (some false)
theorem impl_SlotsSame_1.mono : ∀ a0 a1 a2 a3 a4 a5 k, LeO (impl_SlotsSame_1.f k a0 a1 a2 a3 a4 a5) (impl_SlotsSame_1.f (k + 1) a0 a1 a2 a3 a4 a5) := by
  intro a0 a1 a2 a3 a4 a5 k
  unfold impl_SlotsSame_1.f
  repeat' first
      | (with_reducible exact slices_Equal_byte_byte.mono _ _ _)
      | (with_reducible exact LeO.refl _)
      | (with_reducible exact LeO.none _)
      | (with_reducible refine LeO.ite ?_ ?_)
      | (with_reducible refine LeO.bind ?_ (fun _ => ?_))
      | exact slices_Equal_byte_byte.mono _ _ _
      | exact LeO.none _
      | refine LeO.ite ?_ ?_
      | refine LeO.bind ?_ (fun _ => ?_)
set_option maxHeartbeats 8000000 in
set_option maxRecDepth 100000 in
theorem impl_SlotsSame_1.calls (k : Nat) (a0_0 : ByteArray) (a0_1 : ByteArray) (A0_2 : Option Addr) (c0_2 : Nat) (l0_2 : List Int) (a1_0 : ByteArray) (a1_1 : ByteArray) (A1_2 : Option Addr) (c1_2 : Nat) (l1_2 : List Int) (r : Bool) (w : World) (hr0_2 : Kd.C (Kd.int .u8) w A0_2 l0_2.length l0_2) (hc0_2 : l0_2.length ≤ c0_2) (hr1_2 : Kd.C (Kd.int .u8) w A1_2 l1_2.length l1_2) (hc1_2 : l1_2.length ≤ c1_2) (h : impl_SlotsSame_1.f k a0_0 a0_1 l0_2 a1_0 a1_1 l1_2 = some r) :
    Calls Try.prog 156 #[.agg #[.string a0_0, .string a0_1, .slice A0_2 l0_2.length c0_2], .agg #[.string a1_0, .string a1_1, .slice A1_2 l1_2.length c1_2]] w fun e w' => e = .returned (.bool r) ∧ Below w.heap.size w w' := by
  have hu46 := Try.underlying46
  have HR0_2 := Aside0.mk hr0_2
  have HC0_2 := Aside0.mk hc0_2
  clear hr0_2 hc0_2
  have HR1_2 := Aside0.mk hr1_2
  have HC1_2 := Aside0.mk hc1_2
  clear hr1_2 hc1_2
  have HB := Aside0.mk (Below.refl w.heap.size w)
  have H : (if a0_0.toList = a1_0.toList then (if a0_1.toList = a1_1.toList then ((slices_Equal_byte_byte.f k l0_2 l1_2).bind fun t208 => (some t208)) else (some false)) else (some false)) = some r := h
  clear h
  by_cases c3 : a0_0.toList = a1_0.toList
  · rw [if_pos c3] at H
    have c3b0 : (a0_0.toList == a1_0.toList) = true := beq_iff_eq.mpr c3
    have c3b1 : (a0_0.toList != a1_0.toList) = false := bne_eq_false_iff_eq.mpr c3
    clear c3
    by_cases c4 : a0_1.toList = a1_1.toList
    · rw [if_pos c4] at H
      have c4b0 : (a0_1.toList == a1_1.toList) = true := beq_iff_eq.mpr c4
      have c4b1 : (a0_1.toList != a1_1.toList) = false := bne_eq_false_iff_eq.mpr c4
      clear c4
      replace H := Option.bind_eq_some_iff.mp H
      obtain ⟨t208, A50, H⟩ := H
      replace H : (some t208) = some r := H
      have A5 := Aside0.mk A50
      clear A50
      obtain rfl := Option.some.inj H
      go_enter Try.func156, Try.ntmps156
      go_wp2_with (first | ((with_reducible refine gate_dst (N := 2) rfl ?_); refine box_event ?hg (N := 2) ?hd (cs := #[.string a0_0, .string a0_1, .slice A0_2 l0_2.length c0_2]) (t := 46) ?hr ?_; (case hd => rfl); (case hg => rfl); (case hr => first | (go_simp; done) | (go_simp; rfl)); intro gb206 hg w6 hbox hb; have n0_ := Aside0.mk (below_step bl_ hb); have n1_ := Aside0.mk (hbox); have n2_ := Aside0.mk ((by rw [hg]; exact (below_size bl_) : w.heap.size ≤ gb206)); have n3_ := Aside0.mk ((by rw [hg]; exact (below_size bl_) : w.heap.size ≤ gb206)); clear HB; have HB := n0_; have BK206 := n1_; have GW206 := n2_; have GE206 := n3_; clear n0_ n1_ n2_ n3_; clear hb hbox hg) | ((with_reducible refine gate_dst (N := 3) rfl ?_); refine box_event ?hg (N := 3) ?hd (cs := #[.string a1_0, .string a1_1, .slice A1_2 l1_2.length c1_2]) (t := 46) ?hr ?_; (case hd => rfl); (case hg => rfl); (case hr => first | (go_simp; done) | (go_simp; rfl)); intro gb207 hg w7 hbox hb; have n0_ := Aside0.mk (blk_below (bk_ BK206) hb); have n1_ := Aside0.mk (below_step bl_ hb); have n2_ := Aside0.mk (hbox); have n3_ := Aside0.mk ((by rw [hg]; exact (below_size bl_) : w.heap.size ≤ gb207)); have n4_ := Aside0.mk ((by rw [hg]; exact (below_size bl_) : w.heap.size ≤ gb207)); have n5_ := Aside0.mk ((by rw [hg]; exact Nat.ne_of_lt (blk_lt (bk_ BK206)) : gb206 ≠ gb207)); have n6_ := Aside0.mk ((by rw [hg]; exact Nat.ne_of_gt (blk_lt (bk_ BK206)) : gb207 ≠ gb206)); clear BK206; clear HB; have BK206 := n0_; have HB := n1_; have BK207 := n2_; have GW207 := n3_; have GE207 := n4_; have NB206_207 := n5_; have NB207_206 := n6_; clear n0_ n1_ n2_ n3_ n4_ n5_ n6_; clear hb hbox hg; have hnb8 := NB206_207.out; have hnc8 := NB207_206.out; have hcz9_0 := cz_ BK206 0 (.string a0_0); have hcz9_1 := cz_ BK206 1 (.string a0_1); have hcz9_2 := cz_ BK206 2 (.slice A0_2 l0_2.length c0_2); have hfz9_0 := fz_ BK206 0; have hfz9_1 := fz_ BK206 1; have hfz9_2 := fz_ BK206 2; have hcz10_0 := cz_ BK207 0 (.string a1_0); have hcz10_1 := cz_ BK207 1 (.string a1_1); have hcz10_2 := cz_ BK207 2 (.slice A1_2 l1_2.length c1_2); have hfz10_0 := fz_ BK207 0; have hfz10_1 := fz_ BK207 1; have hfz10_2 := fz_ BK207 2) | (go_at_call 157; (with_reducible refine (slices_Equal_byte_byte.calls k _ _ l0_2 _ _ l1_2 t208 _ ?side1 ?side2 ?side3 ?side4 A5.out).mono ?_); (case side1 => exact ca_ (Kd.C_below HR0_2.out HB.out)); (case side2 => exact HC0_2.out); (case side3 => exact ca_ (Kd.C_below HR1_2.out HB.out)); (case side4 => exact HC1_2.out); rintro e w' ⟨rfl, ⟨nd, rfl⟩⟩))
      go_ret
      exact ⟨by first | rfl | (simp [errW_none, errW_some] <;> rfl) | (simp [*, errW_none, errW_some] <;> rfl), bl_⟩
    · rw [if_neg c4] at H
      have c4b0 : (a0_1.toList == a1_1.toList) = false := beq_eq_false_iff_ne.mpr c4
      have c4b1 : (a0_1.toList != a1_1.toList) = true := bne_iff_ne.mpr c4
      obtain rfl := Option.some.inj H
      go_enter Try.func156, Try.ntmps156
      go_wp2_with (first | ((with_reducible refine gate_dst (N := 2) rfl ?_); refine box_event ?hg (N := 2) ?hd (cs := #[.string a0_0, .string a0_1, .slice A0_2 l0_2.length c0_2]) (t := 46) ?hr ?_; (case hd => rfl); (case hg => rfl); (case hr => first | (go_simp; done) | (go_simp; rfl)); intro gb206 hg w11 hbox hb; have n0_ := Aside0.mk (below_step bl_ hb); have n1_ := Aside0.mk (hbox); have n2_ := Aside0.mk ((by rw [hg]; exact (below_size bl_) : w.heap.size ≤ gb206)); have n3_ := Aside0.mk ((by rw [hg]; exact (below_size bl_) : w.heap.size ≤ gb206)); clear HB; have HB := n0_; have BK206 := n1_; have GW206 := n2_; have GE206 := n3_; clear n0_ n1_ n2_ n3_; clear hb hbox hg) | ((with_reducible refine gate_dst (N := 3) rfl ?_); refine box_event ?hg (N := 3) ?hd (cs := #[.string a1_0, .string a1_1, .slice A1_2 l1_2.length c1_2]) (t := 46) ?hr ?_; (case hd => rfl); (case hg => rfl); (case hr => first | (go_simp; done) | (go_simp; rfl)); intro gb207 hg w12 hbox hb; have n0_ := Aside0.mk (blk_below (bk_ BK206) hb); have n1_ := Aside0.mk (below_step bl_ hb); have n2_ := Aside0.mk (hbox); have n3_ := Aside0.mk ((by rw [hg]; exact (below_size bl_) : w.heap.size ≤ gb207)); have n4_ := Aside0.mk ((by rw [hg]; exact (below_size bl_) : w.heap.size ≤ gb207)); have n5_ := Aside0.mk ((by rw [hg]; exact Nat.ne_of_lt (blk_lt (bk_ BK206)) : gb206 ≠ gb207)); have n6_ := Aside0.mk ((by rw [hg]; exact Nat.ne_of_gt (blk_lt (bk_ BK206)) : gb207 ≠ gb206)); clear BK206; clear HB; have BK206 := n0_; have HB := n1_; have BK207 := n2_; have GW207 := n3_; have GE207 := n4_; have NB206_207 := n5_; have NB207_206 := n6_; clear n0_ n1_ n2_ n3_ n4_ n5_ n6_; clear hb hbox hg; have hnb13 := NB206_207.out; have hnc13 := NB207_206.out; have hcz14_0 := cz_ BK206 0 (.string a0_0); have hcz14_1 := cz_ BK206 1 (.string a0_1); have hcz14_2 := cz_ BK206 2 (.slice A0_2 l0_2.length c0_2); have hfz14_0 := fz_ BK206 0; have hfz14_1 := fz_ BK206 1; have hfz14_2 := fz_ BK206 2; have hcz15_0 := cz_ BK207 0 (.string a1_0); have hcz15_1 := cz_ BK207 1 (.string a1_1); have hcz15_2 := cz_ BK207 2 (.slice A1_2 l1_2.length c1_2); have hfz15_0 := fz_ BK207 0; have hfz15_1 := fz_ BK207 1; have hfz15_2 := fz_ BK207 2))
      go_ret
      exact ⟨by first | rfl | (simp [errW_none, errW_some] <;> rfl) | (simp [*, errW_none, errW_some] <;> rfl), bl_⟩
  · rw [if_neg c3] at H
    have c3b0 : (a0_0.toList == a1_0.toList) = false := beq_eq_false_iff_ne.mpr c3
    have c3b1 : (a0_0.toList != a1_0.toList) = true := bne_iff_ne.mpr c3
    obtain rfl := Option.some.inj H
    go_enter Try.func156, Try.ntmps156
    go_wp2_with (first | ((with_reducible refine gate_dst (N := 2) rfl ?_); refine box_event ?hg (N := 2) ?hd (cs := #[.string a0_0, .string a0_1, .slice A0_2 l0_2.length c0_2]) (t := 46) ?hr ?_; (case hd => rfl); (case hg => rfl); (case hr => first | (go_simp; done) | (go_simp; rfl)); intro gb206 hg w16 hbox hb; have n0_ := Aside0.mk (below_step bl_ hb); have n1_ := Aside0.mk (hbox); have n2_ := Aside0.mk ((by rw [hg]; exact (below_size bl_) : w.heap.size ≤ gb206)); have n3_ := Aside0.mk ((by rw [hg]; exact (below_size bl_) : w.heap.size ≤ gb206)); clear HB; have HB := n0_; have BK206 := n1_; have GW206 := n2_; have GE206 := n3_; clear n0_ n1_ n2_ n3_; clear hb hbox hg) | ((with_reducible refine gate_dst (N := 3) rfl ?_); refine box_event ?hg (N := 3) ?hd (cs := #[.string a1_0, .string a1_1, .slice A1_2 l1_2.length c1_2]) (t := 46) ?hr ?_; (case hd => rfl); (case hg => rfl); (case hr => first | (go_simp; done) | (go_simp; rfl)); intro gb207 hg w17 hbox hb; have n0_ := Aside0.mk (blk_below (bk_ BK206) hb); have n1_ := Aside0.mk (below_step bl_ hb); have n2_ := Aside0.mk (hbox); have n3_ := Aside0.mk ((by rw [hg]; exact (below_size bl_) : w.heap.size ≤ gb207)); have n4_ := Aside0.mk ((by rw [hg]; exact (below_size bl_) : w.heap.size ≤ gb207)); have n5_ := Aside0.mk ((by rw [hg]; exact Nat.ne_of_lt (blk_lt (bk_ BK206)) : gb206 ≠ gb207)); have n6_ := Aside0.mk ((by rw [hg]; exact Nat.ne_of_gt (blk_lt (bk_ BK206)) : gb207 ≠ gb206)); clear BK206; clear HB; have BK206 := n0_; have HB := n1_; have BK207 := n2_; have GW207 := n3_; have GE207 := n4_; have NB206_207 := n5_; have NB207_206 := n6_; clear n0_ n1_ n2_ n3_ n4_ n5_ n6_; clear hb hbox hg; have hnb18 := NB206_207.out; have hnc18 := NB207_206.out; have hcz19_0 := cz_ BK206 0 (.string a0_0); have hcz19_1 := cz_ BK206 1 (.string a0_1); have hcz19_2 := cz_ BK206 2 (.slice A0_2 l0_2.length c0_2); have hfz19_0 := fz_ BK206 0; have hfz19_1 := fz_ BK206 1; have hfz19_2 := fz_ BK206 2; have hcz20_0 := cz_ BK207 0 (.string a1_0); have hcz20_1 := cz_ BK207 1 (.string a1_1); have hcz20_2 := cz_ BK207 2 (.slice A1_2 l1_2.length c1_2); have hfz20_0 := fz_ BK207 0; have hfz20_1 := fz_ BK207 1; have hfz20_2 := fz_ BK207 2))
    go_ret
    exact ⟨by first | rfl | (simp [errW_none, errW_some] <;> rfl) | (simp [*, errW_none, errW_some] <;> rfl), bl_⟩

/-! ### fn_155_156: function 155 -/
def fn_155_156.l0 : Nat → List (S46) → List (S46) → Int → Int → Option (Bool)
  | 0, _, _, _, _ => none
  | k + 1, x1, x15, x16, x17 => if x17 < x16 then (if 0 ≤ x17 then (if x17 < (x15.length : Int) then (if x17 < (x1.length : Int) then ((impl_SlotsSame_1.f k ((rd_T46 x15 x17).f0) ((rd_T46 x15 x17).f1) ((rd_T46 x15 x17).f2) ((rd_T46 x1 x17).f0) ((rd_T46 x1 x17).f1) ((rd_T46 x1 x17).f2)).bind fun t213 => (if t213 = true then (fn_155_156.l0 k x1 x15 x16 (wrap64 (x17 + 1))) else (some false))) else (none)) else (none)) else (none)) else (some true)
def fn_155_156.f (k : Nat) (l0 : List (S46)) (l1 : List (S46))  : Option (Bool) := if (l0.length : Int) = (l1.length : Int) then (fn_155_156.l0 k l1 l0 (l0.length : Int) 0) else (some false)
theorem fn_155_156.mono_l : ∀ k, (∀ y0 y1 y2 y3, LeO (fn_155_156.l0 k y0 y1 y2 y3) (fn_155_156.l0 (k + 1) y0 y1 y2 y3))
  | 0 => fun _ _ _ _ r h => by simp [fn_155_156.l0] at h
  | k + 1 => by
    have ih0 := fn_155_156.mono_l k
    · intro y0 y1 y2 y3
      unfold fn_155_156.l0
      repeat' first
      | (with_reducible exact ih0 _ _ _ _)
      | (with_reducible exact impl_SlotsSame_1.mono _ _ _ _ _ _ _)
      | (with_reducible exact LeO.refl _)
      | (with_reducible exact LeO.none _)
      | (with_reducible refine LeO.ite ?_ ?_)
      | (with_reducible refine LeO.bind ?_ (fun _ => ?_))
      | exact ih0 _ _ _ _
      | exact impl_SlotsSame_1.mono _ _ _ _ _ _ _
      | exact LeO.none _
      | refine LeO.ite ?_ ?_
      | refine LeO.bind ?_ (fun _ => ?_)
theorem fn_155_156.mono : ∀ a0 a1 k, LeO (fn_155_156.f k a0 a1) (fn_155_156.f (k + 1) a0 a1) := by
  intro a0 a1 k
  have ih0 := fn_155_156.mono_l k
  unfold fn_155_156.f
  repeat' first
      | (with_reducible exact ih0 _ _ _ _)
      | (with_reducible exact impl_SlotsSame_1.mono _ _ _ _ _ _ _)
      | (with_reducible exact LeO.refl _)
      | (with_reducible exact LeO.none _)
      | (with_reducible refine LeO.ite ?_ ?_)
      | (with_reducible refine LeO.bind ?_ (fun _ => ?_))
      | exact ih0 _ _ _ _
      | exact impl_SlotsSame_1.mono _ _ _ _ _ _ _
      | exact LeO.none _
      | refine LeO.ite ?_ ?_
      | refine LeO.bind ?_ (fun _ => ?_)
set_option maxHeartbeats 8000000 in
set_option maxRecDepth 100000 in
theorem fn_155_156.calls (k : Nat) (A0 : Option Addr) (c0 : Nat) (l0 : List (S46)) (A1 : Option Addr) (c1 : Nat) (l1 : List (S46))  (r : Bool) (w : World) (hr0 : Kd.C k46 w A0 l0.length l0) (hc0 : l0.length ≤ c0) (hr1 : Kd.C k46 w A1 l1.length l1) (hc1 : l1.length ≤ c1) (h : fn_155_156.f k l0 l1 = some r) :
    Calls Try.prog 155 #[.slice A0 l0.length c0, .slice A1 l1.length c1, .func (.func 156) #[] #[]] w fun e w' => e = .returned (.bool r) ∧ Below w.heap.size w w' := by
  have hu46 := Try.underlying46
  have HR0 := Aside0.mk hr0
  have HC0 := Aside0.mk hc0
  clear hr0 hc0
  have HR1 := Aside0.mk hr1
  have HC1 := Aside0.mk hc1
  clear hr1 hc1
  have HB := Aside0.mk (Below.refl w.heap.size w)
  have H : (if (l0.length : Int) = (l1.length : Int) then (fn_155_156.l0 k l1 l0 (l0.length : Int) 0) else (some false)) = some r := h
  clear h
  by_cases c4 : (l0.length : Int) = (l1.length : Int)
  · rw [if_pos c4] at H
    have c4b0 : ((l0.length : Int) == (l1.length : Int)) = true := beq_iff_eq.mpr c4
    have c4b1 : ((l0.length : Int) != (l1.length : Int)) = false := bne_eq_false_iff_eq.mpr c4
    have c4b2 : (l0.length == l1.length) = true := by first | simpa using c4 | (simp at c4 ⊢; omega)
    clear c4
    have H' := Aside0.mk H
    clear H
    go_enter Try.func155, Try.ntmps155
    go_wp2
    go_loopg [17] k (fun kq v17 w' => ∃ (x17_1 : Int), v17 = .int .i64 x17_1 ∧ Aside0 (fn_155_156.l0 kq l1 l0 (l0.length : Int) x17_1 = some r) ∧ Aside0 (kq ≤ k) ∧ Aside0 (Below w.heap.size w w'))
    case atStart => exact ⟨(0), sp_, H', ⟨Nat.le_refl _⟩, ⟨bl_⟩⟩
    case round =>
      clear H'
      try clear c1
      try clear p2
      try clear c4
      try clear c4b0
      try clear c4b1
      try clear c4b2
      obtain ⟨x17_1, rfl, HA, HK1, HB⟩ := hrel
      cases gk with
      | zero => exact absurd HA.out (by simp [fn_155_156.l0])
      | succ k1 =>
        have H := HA.out
        clear HA
        simp only [fn_155_156.l0] at H
        by_cases c5 : x17_1 < (l0.length : Int)
        · rw [if_pos c5] at H
          have c5b0 : decide (x17_1 < (l0.length : Int)) = true := decide_eq_true c5
          clear c5
          by_cases c6 : 0 ≤ x17_1
          · rw [if_pos c6] at H
            have c6b0 : decide (0 ≤ x17_1) = true := decide_eq_true c6
            clear c6
            by_cases c7 : x17_1 < (l0.length : Int)
            · rw [if_pos c7] at H
              have c7b0 : decide (x17_1 < (l0.length : Int)) = true := decide_eq_true c7
              clear c7
              by_cases c8 : x17_1 < (l1.length : Int)
              · rw [if_pos c8] at H
                have c8b0 : decide (x17_1 < (l1.length : Int)) = true := decide_eq_true c8
                clear c8
                replace H := Option.bind_eq_some_iff.mp H
                obtain ⟨t213, A90, H⟩ := H
                replace H : (if t213 = true then (fn_155_156.l0 k1 l1 l0 (l0.length : Int) (wrap64 (x17_1 + 1))) else (some false)) = some r := H
                have A9 := Aside0.mk A90
                clear A90
                by_cases c10 : t213 = true
                · subst c10
                  have H1 : (fn_155_156.l0 k1 l1 l0 (l0.length : Int) (wrap64 (x17_1 + 1))) = some r := by rw [if_pos rfl] at H; exact H
                  clear H
                  have H := H1
                  clear H1
                  have H' := Aside0.mk H
                  clear H
                  have p209 : 0 ≤ (x17_1 : Int) := od_
                  have q209 : x17_1 < (l0.length : Int) := od_
                  obtain ⟨ad209, A209_2, c209_2, e209, hx209_0, hx209_1, hx209_2, hl209_2, hi209_2⟩ := at_T46 HR0.out x17_1 p209 q209
                  cases e209
                  replace hx209_0 := kc_ HB hx209_0
                  replace hx209_1 := kc_ HB hx209_1
                  replace hx209_2 := kc_ HB hx209_2
                  have HR209_2 := Aside0.mk hi209_2
                  have HC209_2 := Aside0.mk hl209_2
                  clear hi209_2 hl209_2
                  replace p209 := eq_true p209
                  replace q209 := eq_true q209
                  go_wp2_with (first | ((with_reducible refine gate_dst (N := 8) rfl ?_); refine box_event ?hg (N := 8) ?hd (cs := #[.string (⟨#[]⟩ : ByteArray), .string (⟨#[]⟩ : ByteArray), .slice none 0 0]) (t := 46) ?hr ?_; (case hd => rfl); (case hg => rfl); (case hr => first | (go_simp; done) | (go_simp; rfl)); intro gb210 hg w11 hbox hb; have n0_ := Aside0.mk (below_step bl_ hb); have n1_ := Aside0.mk (hbox); have n2_ := Aside0.mk ((by rw [hg]; exact (below_size bl_) : w.heap.size ≤ gb210)); have n3_ := Aside0.mk ((by rw [hg]; exact (below_size bl_) : w.heap.size ≤ gb210)); clear HB; have HB := n0_; have BK210 := n1_; have GW210 := n2_; have GE210 := n3_; clear n0_ n1_ n2_ n3_; clear hb hbox hg; have hcz12_0 := cz_ BK210 0 (.string (⟨#[]⟩ : ByteArray)); have hcz12_1 := cz_ BK210 1 (.string (⟨#[]⟩ : ByteArray)); have hcz12_2 := cz_ BK210 2 (.slice none 0 0); have hfz12_0 := fz_ BK210 0; have hfz12_1 := fz_ BK210 1; have hfz12_2 := fz_ BK210 2; have p211 : 0 ≤ (x17_1 : Int) := od_; have q211 : x17_1 < (l1.length : Int) := od_; obtain ⟨ad211, A211_2, c211_2, e211, hx211_0, hx211_1, hx211_2, hl211_2, hi211_2⟩ := at_T46 HR1.out x17_1 p211 q211; cases e211; have hn211_0 : ad211.block ≠ gb210 := nl_ hx211_0 GW210; have hn211_1 : ad211.block ≠ gb210 := nl_ hx211_0 GW210; have hn211_2 : ad211.block ≠ gb210 := nl_ hx211_0 GW210; replace hx211_0 := kc_ HB hx211_0; replace hx211_1 := kc_ HB hx211_1; replace hx211_2 := kc_ HB hx211_2; have HR211_2 := Aside0.mk hi211_2; have HC211_2 := Aside0.mk hl211_2; clear hi211_2 hl211_2; replace hx211_0 := (cell_far (p := ⟨gb210, 0, none⟩) (fr_ hn211_0) (.string ((rd_T46 l0 x17_1).f0))).trans hx211_0; replace hx211_1 := (cell_far (p := ⟨gb210, 0, none⟩) (fr_ hn211_0) (.string ((rd_T46 l0 x17_1).f0))).trans hx211_1; replace hx211_2 := (cell_far (p := ⟨gb210, 0, none⟩) (fr_ hn211_0) (.string ((rd_T46 l0 x17_1).f0))).trans hx211_2; replace hx211_0 := (cell_far (p := ⟨gb210, 1, none⟩) (fr_ hn211_1) (.string ((rd_T46 l0 x17_1).f1))).trans hx211_0; replace hx211_1 := (cell_far (p := ⟨gb210, 1, none⟩) (fr_ hn211_1) (.string ((rd_T46 l0 x17_1).f1))).trans hx211_1; replace hx211_2 := (cell_far (p := ⟨gb210, 1, none⟩) (fr_ hn211_1) (.string ((rd_T46 l0 x17_1).f1))).trans hx211_2; replace hx211_0 := (cell_far (p := ⟨gb210, 2, none⟩) (fr_ hn211_2) (.slice A209_2 ((rd_T46 l0 x17_1).f2).length c209_2)).trans hx211_0; replace hx211_1 := (cell_far (p := ⟨gb210, 2, none⟩) (fr_ hn211_2) (.slice A209_2 ((rd_T46 l0 x17_1).f2).length c209_2)).trans hx211_1; replace hx211_2 := (cell_far (p := ⟨gb210, 2, none⟩) (fr_ hn211_2) (.slice A209_2 ((rd_T46 l0 x17_1).f2).length c209_2)).trans hx211_2; clear hn211_0; clear hn211_1; clear hn211_2; replace p211 := eq_true p211; replace q211 := eq_true q211) | ((with_reducible refine gate_dst (N := 9) rfl ?_); refine box_event ?hg (N := 9) ?hd (cs := #[.string (⟨#[]⟩ : ByteArray), .string (⟨#[]⟩ : ByteArray), .slice none 0 0]) (t := 46) ?hr ?_; (case hd => rfl); (case hg => rfl); (case hr => first | (go_simp; done) | (go_simp; rfl)); intro gb212 hg w13 hbox hb; have n0_ := Aside0.mk (blk_below (g := gb210) (o := .cells #[.string ((rd_T46 l0 x17_1).f0), .string ((rd_T46 l0 x17_1).f1), .slice A209_2 ((rd_T46 l0 x17_1).f2).length c209_2] 46 (0, 0)) (by (with_reducible repeat (first | refine blk_drewN ?_ _ | refine blk_drew ?_ | refine blk_alloc ?_ _)); refine blk_put (cs := #[.string ((rd_T46 l0 x17_1).f0), .string ((rd_T46 l0 x17_1).f1), .slice none 0 0]) ?_ 2 _ rfl; (with_reducible repeat (first | refine blk_drewN ?_ _ | refine blk_drew ?_ | refine blk_alloc ?_ _)); refine blk_put (cs := #[.string ((rd_T46 l0 x17_1).f0), .string (⟨#[]⟩ : ByteArray), .slice none 0 0]) ?_ 1 _ rfl; (with_reducible repeat (first | refine blk_drewN ?_ _ | refine blk_drew ?_ | refine blk_alloc ?_ _)); refine blk_put (cs := #[.string (⟨#[]⟩ : ByteArray), .string (⟨#[]⟩ : ByteArray), .slice none 0 0]) ?_ 0 _ rfl; (with_reducible repeat (first | refine blk_drewN ?_ _ | refine blk_drew ?_ | refine blk_alloc ?_ _)); exact BK210.out) hb); have n1_ := Aside0.mk (below_step bl_ hb); have n2_ := Aside0.mk (hbox); have n3_ := Aside0.mk ((by rw [hg]; exact (below_size bl_) : w.heap.size ≤ gb212)); have n4_ := Aside0.mk ((by rw [hg]; exact (below_size bl_) : w.heap.size ≤ gb212)); have n5_ := Aside0.mk ((by rw [hg]; exact Nat.ne_of_lt (blk_lt (g := gb210) (o := .cells #[.string ((rd_T46 l0 x17_1).f0), .string ((rd_T46 l0 x17_1).f1), .slice A209_2 ((rd_T46 l0 x17_1).f2).length c209_2] 46 (0, 0)) (by (with_reducible repeat (first | refine blk_drewN ?_ _ | refine blk_drew ?_ | refine blk_alloc ?_ _)); refine blk_put (cs := #[.string ((rd_T46 l0 x17_1).f0), .string ((rd_T46 l0 x17_1).f1), .slice none 0 0]) ?_ 2 _ rfl; (with_reducible repeat (first | refine blk_drewN ?_ _ | refine blk_drew ?_ | refine blk_alloc ?_ _)); refine blk_put (cs := #[.string ((rd_T46 l0 x17_1).f0), .string (⟨#[]⟩ : ByteArray), .slice none 0 0]) ?_ 1 _ rfl; (with_reducible repeat (first | refine blk_drewN ?_ _ | refine blk_drew ?_ | refine blk_alloc ?_ _)); refine blk_put (cs := #[.string (⟨#[]⟩ : ByteArray), .string (⟨#[]⟩ : ByteArray), .slice none 0 0]) ?_ 0 _ rfl; (with_reducible repeat (first | refine blk_drewN ?_ _ | refine blk_drew ?_ | refine blk_alloc ?_ _)); exact BK210.out)) : gb210 ≠ gb212)); have n6_ := Aside0.mk ((by rw [hg]; exact Nat.ne_of_gt (blk_lt (g := gb210) (o := .cells #[.string ((rd_T46 l0 x17_1).f0), .string ((rd_T46 l0 x17_1).f1), .slice A209_2 ((rd_T46 l0 x17_1).f2).length c209_2] 46 (0, 0)) (by (with_reducible repeat (first | refine blk_drewN ?_ _ | refine blk_drew ?_ | refine blk_alloc ?_ _)); refine blk_put (cs := #[.string ((rd_T46 l0 x17_1).f0), .string ((rd_T46 l0 x17_1).f1), .slice none 0 0]) ?_ 2 _ rfl; (with_reducible repeat (first | refine blk_drewN ?_ _ | refine blk_drew ?_ | refine blk_alloc ?_ _)); refine blk_put (cs := #[.string ((rd_T46 l0 x17_1).f0), .string (⟨#[]⟩ : ByteArray), .slice none 0 0]) ?_ 1 _ rfl; (with_reducible repeat (first | refine blk_drewN ?_ _ | refine blk_drew ?_ | refine blk_alloc ?_ _)); refine blk_put (cs := #[.string (⟨#[]⟩ : ByteArray), .string (⟨#[]⟩ : ByteArray), .slice none 0 0]) ?_ 0 _ rfl; (with_reducible repeat (first | refine blk_drewN ?_ _ | refine blk_drew ?_ | refine blk_alloc ?_ _)); exact BK210.out)) : gb212 ≠ gb210)); clear BK210; clear HB; have BK210 := n0_; have HB := n1_; have BK212 := n2_; have GW212 := n3_; have GE212 := n4_; have NB210_212 := n5_; have NB212_210 := n6_; clear n0_ n1_ n2_ n3_ n4_ n5_ n6_; clear hb hbox hg; have hnb14 := NB212_210.out; have hnc14 := NB210_212.out; have hcz15_0 := cz_ BK212 0 (.string (⟨#[]⟩ : ByteArray)); have hcz15_1 := cz_ BK212 1 (.string (⟨#[]⟩ : ByteArray)); have hcz15_2 := cz_ BK212 2 (.slice none 0 0); have hfz15_0 := fz_ BK212 0; have hfz15_1 := fz_ BK212 1; have hfz15_2 := fz_ BK212 2; have hcz16_0 := cz_ BK210 0 (.string ((rd_T46 l0 x17_1).f0)); have hcz16_1 := cz_ BK210 1 (.string ((rd_T46 l0 x17_1).f1)); have hcz16_2 := cz_ BK210 2 (.slice A209_2 ((rd_T46 l0 x17_1).f2).length c209_2); have hfz16_0 := fz_ BK210 0; have hfz16_1 := fz_ BK210 1; have hfz16_2 := fz_ BK210 2) | (go_at_call 156; (with_reducible refine (impl_SlotsSame_1.calls k1 ((rd_T46 l0 x17_1).f0) ((rd_T46 l0 x17_1).f1) _ _ ((rd_T46 l0 x17_1).f2) ((rd_T46 l1 x17_1).f0) ((rd_T46 l1 x17_1).f1) _ _ ((rd_T46 l1 x17_1).f2) true _ ?side1 ?side2 ?side3 ?side4 A9.out).mono ?_); (case side1 => exact Kd.C_below HR209_2.out bl_); (case side2 => exact HC209_2.out); (case side3 => exact Kd.C_below HR211_2.out bl_); (case side4 => exact HC211_2.out); rintro e w17 ⟨rfl, hb⟩; have n0_ := Aside0.mk (blk_below (g := gb210) (o := .cells #[.string ((rd_T46 l0 x17_1).f0), .string ((rd_T46 l0 x17_1).f1), .slice A209_2 ((rd_T46 l0 x17_1).f2).length c209_2] 46 (0, 0)) (by (with_reducible repeat (first | refine blk_drewN ?_ _ | refine blk_drew ?_ | refine blk_alloc ?_ _)); refine blk_far ?_ NB210_212.out _; (with_reducible repeat (first | refine blk_drewN ?_ _ | refine blk_drew ?_ | refine blk_alloc ?_ _)); refine blk_far ?_ NB210_212.out _; (with_reducible repeat (first | refine blk_drewN ?_ _ | refine blk_drew ?_ | refine blk_alloc ?_ _)); refine blk_far ?_ NB210_212.out _; (with_reducible repeat (first | refine blk_drewN ?_ _ | refine blk_drew ?_ | refine blk_alloc ?_ _)); exact BK210.out) hb); have n1_ := Aside0.mk (blk_below (g := gb212) (o := .cells #[.string ((rd_T46 l1 x17_1).f0), .string ((rd_T46 l1 x17_1).f1), .slice A211_2 ((rd_T46 l1 x17_1).f2).length c211_2] 46 (0, 0)) (by (with_reducible repeat (first | refine blk_drewN ?_ _ | refine blk_drew ?_ | refine blk_alloc ?_ _)); refine blk_put (cs := #[.string ((rd_T46 l1 x17_1).f0), .string ((rd_T46 l1 x17_1).f1), .slice none 0 0]) ?_ 2 _ rfl; (with_reducible repeat (first | refine blk_drewN ?_ _ | refine blk_drew ?_ | refine blk_alloc ?_ _)); refine blk_put (cs := #[.string ((rd_T46 l1 x17_1).f0), .string (⟨#[]⟩ : ByteArray), .slice none 0 0]) ?_ 1 _ rfl; (with_reducible repeat (first | refine blk_drewN ?_ _ | refine blk_drew ?_ | refine blk_alloc ?_ _)); refine blk_put (cs := #[.string (⟨#[]⟩ : ByteArray), .string (⟨#[]⟩ : ByteArray), .slice none 0 0]) ?_ 0 _ rfl; (with_reducible repeat (first | refine blk_drewN ?_ _ | refine blk_drew ?_ | refine blk_alloc ?_ _)); exact BK212.out) hb); have n2_ := Aside0.mk (below_step bl_ hb); clear BK210; clear BK212; clear HB; have BK210 := n0_; have BK212 := n1_; have HB := n2_; clear n0_ n1_ n2_; (try clear hb); (try clear hb2); (try clear hk); (try clear hi)))
                  go_roundg k1
                  case measure => have := HK1.out; omega
                  case rel => exact ⟨(wrap64 (x17_1 + 1)), sp_, H', ⟨by have := HK1.out; omega⟩, ⟨bl_⟩⟩
                · replace c10 := Bool.eq_false_iff.mpr c10
                  subst c10
                  have H1 : (some false) = some r := by rw [if_neg (show ¬ (false = true) by decide)] at H; exact H
                  clear H
                  have H := H1
                  clear H1
                  obtain rfl := Option.some.inj H
                  have p209 : 0 ≤ (x17_1 : Int) := od_
                  have q209 : x17_1 < (l0.length : Int) := od_
                  obtain ⟨ad209, A209_2, c209_2, e209, hx209_0, hx209_1, hx209_2, hl209_2, hi209_2⟩ := at_T46 HR0.out x17_1 p209 q209
                  cases e209
                  replace hx209_0 := kc_ HB hx209_0
                  replace hx209_1 := kc_ HB hx209_1
                  replace hx209_2 := kc_ HB hx209_2
                  have HR209_2 := Aside0.mk hi209_2
                  have HC209_2 := Aside0.mk hl209_2
                  clear hi209_2 hl209_2
                  replace p209 := eq_true p209
                  replace q209 := eq_true q209
                  go_wp2_with (first | ((with_reducible refine gate_dst (N := 8) rfl ?_); refine box_event ?hg (N := 8) ?hd (cs := #[.string (⟨#[]⟩ : ByteArray), .string (⟨#[]⟩ : ByteArray), .slice none 0 0]) (t := 46) ?hr ?_; (case hd => rfl); (case hg => rfl); (case hr => first | (go_simp; done) | (go_simp; rfl)); intro gb210 hg w18 hbox hb; have n0_ := Aside0.mk (below_step bl_ hb); have n1_ := Aside0.mk (hbox); have n2_ := Aside0.mk ((by rw [hg]; exact (below_size bl_) : w.heap.size ≤ gb210)); have n3_ := Aside0.mk ((by rw [hg]; exact (below_size bl_) : w.heap.size ≤ gb210)); clear HB; have HB := n0_; have BK210 := n1_; have GW210 := n2_; have GE210 := n3_; clear n0_ n1_ n2_ n3_; clear hb hbox hg; have hcz19_0 := cz_ BK210 0 (.string (⟨#[]⟩ : ByteArray)); have hcz19_1 := cz_ BK210 1 (.string (⟨#[]⟩ : ByteArray)); have hcz19_2 := cz_ BK210 2 (.slice none 0 0); have hfz19_0 := fz_ BK210 0; have hfz19_1 := fz_ BK210 1; have hfz19_2 := fz_ BK210 2; have p211 : 0 ≤ (x17_1 : Int) := od_; have q211 : x17_1 < (l1.length : Int) := od_; obtain ⟨ad211, A211_2, c211_2, e211, hx211_0, hx211_1, hx211_2, hl211_2, hi211_2⟩ := at_T46 HR1.out x17_1 p211 q211; cases e211; have hn211_0 : ad211.block ≠ gb210 := nl_ hx211_0 GW210; have hn211_1 : ad211.block ≠ gb210 := nl_ hx211_0 GW210; have hn211_2 : ad211.block ≠ gb210 := nl_ hx211_0 GW210; replace hx211_0 := kc_ HB hx211_0; replace hx211_1 := kc_ HB hx211_1; replace hx211_2 := kc_ HB hx211_2; have HR211_2 := Aside0.mk hi211_2; have HC211_2 := Aside0.mk hl211_2; clear hi211_2 hl211_2; replace hx211_0 := (cell_far (p := ⟨gb210, 0, none⟩) (fr_ hn211_0) (.string ((rd_T46 l0 x17_1).f0))).trans hx211_0; replace hx211_1 := (cell_far (p := ⟨gb210, 0, none⟩) (fr_ hn211_0) (.string ((rd_T46 l0 x17_1).f0))).trans hx211_1; replace hx211_2 := (cell_far (p := ⟨gb210, 0, none⟩) (fr_ hn211_0) (.string ((rd_T46 l0 x17_1).f0))).trans hx211_2; replace hx211_0 := (cell_far (p := ⟨gb210, 1, none⟩) (fr_ hn211_1) (.string ((rd_T46 l0 x17_1).f1))).trans hx211_0; replace hx211_1 := (cell_far (p := ⟨gb210, 1, none⟩) (fr_ hn211_1) (.string ((rd_T46 l0 x17_1).f1))).trans hx211_1; replace hx211_2 := (cell_far (p := ⟨gb210, 1, none⟩) (fr_ hn211_1) (.string ((rd_T46 l0 x17_1).f1))).trans hx211_2; replace hx211_0 := (cell_far (p := ⟨gb210, 2, none⟩) (fr_ hn211_2) (.slice A209_2 ((rd_T46 l0 x17_1).f2).length c209_2)).trans hx211_0; replace hx211_1 := (cell_far (p := ⟨gb210, 2, none⟩) (fr_ hn211_2) (.slice A209_2 ((rd_T46 l0 x17_1).f2).length c209_2)).trans hx211_1; replace hx211_2 := (cell_far (p := ⟨gb210, 2, none⟩) (fr_ hn211_2) (.slice A209_2 ((rd_T46 l0 x17_1).f2).length c209_2)).trans hx211_2; clear hn211_0; clear hn211_1; clear hn211_2; replace p211 := eq_true p211; replace q211 := eq_true q211) | ((with_reducible refine gate_dst (N := 9) rfl ?_); refine box_event ?hg (N := 9) ?hd (cs := #[.string (⟨#[]⟩ : ByteArray), .string (⟨#[]⟩ : ByteArray), .slice none 0 0]) (t := 46) ?hr ?_; (case hd => rfl); (case hg => rfl); (case hr => first | (go_simp; done) | (go_simp; rfl)); intro gb212 hg w20 hbox hb; have n0_ := Aside0.mk (blk_below (g := gb210) (o := .cells #[.string ((rd_T46 l0 x17_1).f0), .string ((rd_T46 l0 x17_1).f1), .slice A209_2 ((rd_T46 l0 x17_1).f2).length c209_2] 46 (0, 0)) (by (with_reducible repeat (first | refine blk_drewN ?_ _ | refine blk_drew ?_ | refine blk_alloc ?_ _)); refine blk_put (cs := #[.string ((rd_T46 l0 x17_1).f0), .string ((rd_T46 l0 x17_1).f1), .slice none 0 0]) ?_ 2 _ rfl; (with_reducible repeat (first | refine blk_drewN ?_ _ | refine blk_drew ?_ | refine blk_alloc ?_ _)); refine blk_put (cs := #[.string ((rd_T46 l0 x17_1).f0), .string (⟨#[]⟩ : ByteArray), .slice none 0 0]) ?_ 1 _ rfl; (with_reducible repeat (first | refine blk_drewN ?_ _ | refine blk_drew ?_ | refine blk_alloc ?_ _)); refine blk_put (cs := #[.string (⟨#[]⟩ : ByteArray), .string (⟨#[]⟩ : ByteArray), .slice none 0 0]) ?_ 0 _ rfl; (with_reducible repeat (first | refine blk_drewN ?_ _ | refine blk_drew ?_ | refine blk_alloc ?_ _)); exact BK210.out) hb); have n1_ := Aside0.mk (below_step bl_ hb); have n2_ := Aside0.mk (hbox); have n3_ := Aside0.mk ((by rw [hg]; exact (below_size bl_) : w.heap.size ≤ gb212)); have n4_ := Aside0.mk ((by rw [hg]; exact (below_size bl_) : w.heap.size ≤ gb212)); have n5_ := Aside0.mk ((by rw [hg]; exact Nat.ne_of_lt (blk_lt (g := gb210) (o := .cells #[.string ((rd_T46 l0 x17_1).f0), .string ((rd_T46 l0 x17_1).f1), .slice A209_2 ((rd_T46 l0 x17_1).f2).length c209_2] 46 (0, 0)) (by (with_reducible repeat (first | refine blk_drewN ?_ _ | refine blk_drew ?_ | refine blk_alloc ?_ _)); refine blk_put (cs := #[.string ((rd_T46 l0 x17_1).f0), .string ((rd_T46 l0 x17_1).f1), .slice none 0 0]) ?_ 2 _ rfl; (with_reducible repeat (first | refine blk_drewN ?_ _ | refine blk_drew ?_ | refine blk_alloc ?_ _)); refine blk_put (cs := #[.string ((rd_T46 l0 x17_1).f0), .string (⟨#[]⟩ : ByteArray), .slice none 0 0]) ?_ 1 _ rfl; (with_reducible repeat (first | refine blk_drewN ?_ _ | refine blk_drew ?_ | refine blk_alloc ?_ _)); refine blk_put (cs := #[.string (⟨#[]⟩ : ByteArray), .string (⟨#[]⟩ : ByteArray), .slice none 0 0]) ?_ 0 _ rfl; (with_reducible repeat (first | refine blk_drewN ?_ _ | refine blk_drew ?_ | refine blk_alloc ?_ _)); exact BK210.out)) : gb210 ≠ gb212)); have n6_ := Aside0.mk ((by rw [hg]; exact Nat.ne_of_gt (blk_lt (g := gb210) (o := .cells #[.string ((rd_T46 l0 x17_1).f0), .string ((rd_T46 l0 x17_1).f1), .slice A209_2 ((rd_T46 l0 x17_1).f2).length c209_2] 46 (0, 0)) (by (with_reducible repeat (first | refine blk_drewN ?_ _ | refine blk_drew ?_ | refine blk_alloc ?_ _)); refine blk_put (cs := #[.string ((rd_T46 l0 x17_1).f0), .string ((rd_T46 l0 x17_1).f1), .slice none 0 0]) ?_ 2 _ rfl; (with_reducible repeat (first | refine blk_drewN ?_ _ | refine blk_drew ?_ | refine blk_alloc ?_ _)); refine blk_put (cs := #[.string ((rd_T46 l0 x17_1).f0), .string (⟨#[]⟩ : ByteArray), .slice none 0 0]) ?_ 1 _ rfl; (with_reducible repeat (first | refine blk_drewN ?_ _ | refine blk_drew ?_ | refine blk_alloc ?_ _)); refine blk_put (cs := #[.string (⟨#[]⟩ : ByteArray), .string (⟨#[]⟩ : ByteArray), .slice none 0 0]) ?_ 0 _ rfl; (with_reducible repeat (first | refine blk_drewN ?_ _ | refine blk_drew ?_ | refine blk_alloc ?_ _)); exact BK210.out)) : gb212 ≠ gb210)); clear BK210; clear HB; have BK210 := n0_; have HB := n1_; have BK212 := n2_; have GW212 := n3_; have GE212 := n4_; have NB210_212 := n5_; have NB212_210 := n6_; clear n0_ n1_ n2_ n3_ n4_ n5_ n6_; clear hb hbox hg; have hnb21 := NB212_210.out; have hnc21 := NB210_212.out; have hcz22_0 := cz_ BK212 0 (.string (⟨#[]⟩ : ByteArray)); have hcz22_1 := cz_ BK212 1 (.string (⟨#[]⟩ : ByteArray)); have hcz22_2 := cz_ BK212 2 (.slice none 0 0); have hfz22_0 := fz_ BK212 0; have hfz22_1 := fz_ BK212 1; have hfz22_2 := fz_ BK212 2; have hcz23_0 := cz_ BK210 0 (.string ((rd_T46 l0 x17_1).f0)); have hcz23_1 := cz_ BK210 1 (.string ((rd_T46 l0 x17_1).f1)); have hcz23_2 := cz_ BK210 2 (.slice A209_2 ((rd_T46 l0 x17_1).f2).length c209_2); have hfz23_0 := fz_ BK210 0; have hfz23_1 := fz_ BK210 1; have hfz23_2 := fz_ BK210 2) | (go_at_call 156; (with_reducible refine (impl_SlotsSame_1.calls k1 ((rd_T46 l0 x17_1).f0) ((rd_T46 l0 x17_1).f1) _ _ ((rd_T46 l0 x17_1).f2) ((rd_T46 l1 x17_1).f0) ((rd_T46 l1 x17_1).f1) _ _ ((rd_T46 l1 x17_1).f2) false _ ?side1 ?side2 ?side3 ?side4 A9.out).mono ?_); (case side1 => exact Kd.C_below HR209_2.out bl_); (case side2 => exact HC209_2.out); (case side3 => exact Kd.C_below HR211_2.out bl_); (case side4 => exact HC211_2.out); rintro e w24 ⟨rfl, hb⟩; have n0_ := Aside0.mk (blk_below (g := gb210) (o := .cells #[.string ((rd_T46 l0 x17_1).f0), .string ((rd_T46 l0 x17_1).f1), .slice A209_2 ((rd_T46 l0 x17_1).f2).length c209_2] 46 (0, 0)) (by (with_reducible repeat (first | refine blk_drewN ?_ _ | refine blk_drew ?_ | refine blk_alloc ?_ _)); refine blk_far ?_ NB210_212.out _; (with_reducible repeat (first | refine blk_drewN ?_ _ | refine blk_drew ?_ | refine blk_alloc ?_ _)); refine blk_far ?_ NB210_212.out _; (with_reducible repeat (first | refine blk_drewN ?_ _ | refine blk_drew ?_ | refine blk_alloc ?_ _)); refine blk_far ?_ NB210_212.out _; (with_reducible repeat (first | refine blk_drewN ?_ _ | refine blk_drew ?_ | refine blk_alloc ?_ _)); exact BK210.out) hb); have n1_ := Aside0.mk (blk_below (g := gb212) (o := .cells #[.string ((rd_T46 l1 x17_1).f0), .string ((rd_T46 l1 x17_1).f1), .slice A211_2 ((rd_T46 l1 x17_1).f2).length c211_2] 46 (0, 0)) (by (with_reducible repeat (first | refine blk_drewN ?_ _ | refine blk_drew ?_ | refine blk_alloc ?_ _)); refine blk_put (cs := #[.string ((rd_T46 l1 x17_1).f0), .string ((rd_T46 l1 x17_1).f1), .slice none 0 0]) ?_ 2 _ rfl; (with_reducible repeat (first | refine blk_drewN ?_ _ | refine blk_drew ?_ | refine blk_alloc ?_ _)); refine blk_put (cs := #[.string ((rd_T46 l1 x17_1).f0), .string (⟨#[]⟩ : ByteArray), .slice none 0 0]) ?_ 1 _ rfl; (with_reducible repeat (first | refine blk_drewN ?_ _ | refine blk_drew ?_ | refine blk_alloc ?_ _)); refine blk_put (cs := #[.string (⟨#[]⟩ : ByteArray), .string (⟨#[]⟩ : ByteArray), .slice none 0 0]) ?_ 0 _ rfl; (with_reducible repeat (first | refine blk_drewN ?_ _ | refine blk_drew ?_ | refine blk_alloc ?_ _)); exact BK212.out) hb); have n2_ := Aside0.mk (below_step bl_ hb); clear BK210; clear BK212; clear HB; have BK210 := n0_; have BK212 := n1_; have HB := n2_; clear n0_ n1_ n2_; (try clear hb); (try clear hb2); (try clear hk); (try clear hi)))
                  go_ret
                  exact ⟨by first | rfl | (simp [errW_none, errW_some] <;> rfl) | (simp [*, errW_none, errW_some] <;> rfl), bl_⟩
              · rw [if_neg c8] at H
                exact absurd H (by simp)
            · rw [if_neg c7] at H
              exact absurd H (by simp)
          · rw [if_neg c6] at H
            exact absurd H (by simp)
        · rw [if_neg c5] at H
          have c5b0 : decide (x17_1 < (l0.length : Int)) = false := decide_eq_false c5
          clear c5
          obtain rfl := Option.some.inj H
          go_wp2
          go_ret
          exact ⟨by first | rfl | (simp [errW_none, errW_some] <;> rfl) | (simp [*, errW_none, errW_some] <;> rfl), bl_⟩
  · rw [if_neg c4] at H
    have c4b0 : ((l0.length : Int) == (l1.length : Int)) = false := beq_eq_false_iff_ne.mpr c4
    have c4b1 : ((l0.length : Int) != (l1.length : Int)) = true := bne_iff_ne.mpr c4
    have c4b2 : (l0.length == l1.length) = false := by first | simpa using c4 | (simp at c4 ⊢; omega)
    obtain rfl := Option.some.inj H
    go_enter Try.func155, Try.ntmps155
    go_wp2
    go_ret
    exact ⟨by first | rfl | (simp [errW_none, errW_some] <;> rfl) | (simp [*, errW_none, errW_some] <;> rfl), bl_⟩

/-! ### impl_SlotsSame: function 116 -/
def impl_SlotsSame.f (k : Nat) (l0 : List (S46)) (l1 : List (S46)) : Option (Bool) := (fn_155_156.f k l0 l1).bind fun t214 => (some t214)
theorem impl_SlotsSame.mono : ∀ a0 a1 k, LeO (impl_SlotsSame.f k a0 a1) (impl_SlotsSame.f (k + 1) a0 a1) := by
  intro a0 a1 k
  unfold impl_SlotsSame.f
  repeat' first
      | (with_reducible exact fn_155_156.mono _ _ _)
      | (with_reducible exact LeO.refl _)
      | (with_reducible exact LeO.none _)
      | (with_reducible refine LeO.ite ?_ ?_)
      | (with_reducible refine LeO.bind ?_ (fun _ => ?_))
      | exact fn_155_156.mono _ _ _
      | exact LeO.none _
      | refine LeO.ite ?_ ?_
      | refine LeO.bind ?_ (fun _ => ?_)
set_option maxHeartbeats 8000000 in
set_option maxRecDepth 100000 in
theorem impl_SlotsSame.calls (k : Nat) (A0 : Option Addr) (c0 : Nat) (l0 : List (S46)) (A1 : Option Addr) (c1 : Nat) (l1 : List (S46)) (r : Bool) (w : World) (hr0 : Kd.C k46 w A0 l0.length l0) (hc0 : l0.length ≤ c0) (hr1 : Kd.C k46 w A1 l1.length l1) (hc1 : l1.length ≤ c1) (h : impl_SlotsSame.f k l0 l1 = some r) :
    Calls Try.prog 116 #[.slice A0 l0.length c0, .slice A1 l1.length c1] w fun e w' => e = .returned (.bool r) ∧ Below w.heap.size w w' := by
  have HR0 := Aside0.mk hr0
  have HC0 := Aside0.mk hc0
  clear hr0 hc0
  have HR1 := Aside0.mk hr1
  have HC1 := Aside0.mk hc1
  clear hr1 hc1
  have HB := Aside0.mk (Below.refl w.heap.size w)
  have H : ((fn_155_156.f k l0 l1).bind fun t214 => (some t214)) = some r := h
  clear h
  replace H := Option.bind_eq_some_iff.mp H
  obtain ⟨t214, A30, H⟩ := H
  replace H : (some t214) = some r := H
  have A3 := Aside0.mk A30
  clear A30
  obtain rfl := Option.some.inj H
  go_enter Try.func116, Try.ntmps116
  go_wp2_with (first | ((with_reducible refine gate_callee (f := 155) rfl ?_); refine goesL_ (some 7) rfl rfl Try.func155 (by kernel_rfl) rfl #[.slice A0 l0.length c0, .slice A1 l1.length c1, .func (.func 156) #[] #[]] rfl gl_ ?_; (with_reducible refine (fn_155_156.calls k _ _ l0 _ _ l1  t214 _ ?side1 ?side2 ?side3 ?side4 A3.out).mono ?_); (case side1 => exact ca_ (HR0.out)); (case side2 => exact HC0.out); (case side3 => exact ca_ (HR1.out)); (case side4 => exact HC1.out); rintro e w4 ⟨rfl, hb⟩; refine ⟨_, rfl, ?_⟩; have n0_ := Aside0.mk (below_step bl_ hb); clear HB; have HB := n0_; clear n0_; (try clear hb); (try clear hb2); (try clear hk); (try clear hi)))
  go_ret
  exact ⟨by first | rfl | (simp [errW_none, errW_some] <;> rfl) | (simp [*, errW_none, errW_some] <;> rfl), bl_⟩

/-! ### impl_AcctSame: function 52 -/
def impl_AcctSame.f (k : Nat) (a0_0 : ByteArray) (a0_1 : Int) (a0_2 : Int) (a0_3 : Int) (a0_4 : Int) (l0_5 : List (S60)) (a0_6 : Int) (a0_7 : Int) (l0_8 : List Int) (l0_9 : List Int) (l0_10 : List (S46)) (a1_0 : ByteArray) (a1_1 : Int) (a1_2 : Int) (a1_3 : Int) (a1_4 : Int) (l1_5 : List (S60)) (a1_6 : Int) (a1_7 : Int) (l1_8 : List Int) (l1_9 : List Int) (l1_10 : List (S46)) : Option (Bool) := if a0_0.toList = a1_0.toList then (if a0_1 = a1_1 then (if a0_2 = a1_2 then (if a0_3 = a1_3 then (if a0_4 = a1_4 then ((impl_Hold.f k l0_5 l1_5).bind fun t217 => (if t217 = true then ((impl_ringSame.f k a0_6 a0_7 l0_8 l0_9 a1_6 a1_7 l1_8 l1_9).bind fun t218 => (if t218 = true then ((impl_SlotsSame.f k l0_10 l1_10).bind fun t219 => (some t219)) else (some false))) else (some false))) else (some false)) else (some false)) else (some false)) else (some false)) else (some false)
theorem impl_AcctSame.mono : ∀ a0 a1 a2 a3 a4 a5 a6 a7 a8 a9 a10 a11 a12 a13 a14 a15 a16 a17 a18 a19 a20 a21 k, LeO (impl_AcctSame.f k a0 a1 a2 a3 a4 a5 a6 a7 a8 a9 a10 a11 a12 a13 a14 a15 a16 a17 a18 a19 a20 a21) (impl_AcctSame.f (k + 1) a0 a1 a2 a3 a4 a5 a6 a7 a8 a9 a10 a11 a12 a13 a14 a15 a16 a17 a18 a19 a20 a21) := by
  intro a0 a1 a2 a3 a4 a5 a6 a7 a8 a9 a10 a11 a12 a13 a14 a15 a16 a17 a18 a19 a20 a21 k
  unfold impl_AcctSame.f
  repeat' first
      | (with_reducible exact impl_Hold.mono _ _ _)
      | (with_reducible exact impl_SlotsSame.mono _ _ _)
      | (with_reducible exact impl_ringSame.mono _ _ _ _ _ _ _ _ _)
      | (with_reducible exact LeO.refl _)
      | (with_reducible exact LeO.none _)
      | (with_reducible refine LeO.ite ?_ ?_)
      | (with_reducible refine LeO.bind ?_ (fun _ => ?_))
      | exact impl_Hold.mono _ _ _
      | exact impl_SlotsSame.mono _ _ _
      | exact impl_ringSame.mono _ _ _ _ _ _ _ _ _
      | exact LeO.none _
      | refine LeO.ite ?_ ?_
      | refine LeO.bind ?_ (fun _ => ?_)
set_option maxHeartbeats 8000000 in
set_option maxRecDepth 100000 in
theorem impl_AcctSame.calls (k : Nat) (a0_0 : ByteArray) (a0_1 : Int) (a0_2 : Int) (a0_3 : Int) (a0_4 : Int) (A0_5 : Option Addr) (c0_5 : Nat) (l0_5 : List (S60)) (a0_6 : Int) (a0_7 : Int) (A0_8 : Option Addr) (c0_8 : Nat) (l0_8 : List Int) (A0_9 : Option Addr) (c0_9 : Nat) (l0_9 : List Int) (A0_10 : Option Addr) (c0_10 : Nat) (l0_10 : List (S46)) (a1_0 : ByteArray) (a1_1 : Int) (a1_2 : Int) (a1_3 : Int) (a1_4 : Int) (A1_5 : Option Addr) (c1_5 : Nat) (l1_5 : List (S60)) (a1_6 : Int) (a1_7 : Int) (A1_8 : Option Addr) (c1_8 : Nat) (l1_8 : List Int) (A1_9 : Option Addr) (c1_9 : Nat) (l1_9 : List Int) (A1_10 : Option Addr) (c1_10 : Nat) (l1_10 : List (S46)) (r : Bool) (w : World) (hr0_5 : Kd.C k60 w A0_5 l0_5.length l0_5) (hc0_5 : l0_5.length ≤ c0_5) (hr0_8 : Kd.C (Kd.int .i64) w A0_8 l0_8.length l0_8) (hc0_8 : l0_8.length ≤ c0_8) (hr0_9 : Kd.C (Kd.int .i64) w A0_9 l0_9.length l0_9) (hc0_9 : l0_9.length ≤ c0_9) (hr0_10 : Kd.C k46 w A0_10 l0_10.length l0_10) (hc0_10 : l0_10.length ≤ c0_10) (hr1_5 : Kd.C k60 w A1_5 l1_5.length l1_5) (hc1_5 : l1_5.length ≤ c1_5) (hr1_8 : Kd.C (Kd.int .i64) w A1_8 l1_8.length l1_8) (hc1_8 : l1_8.length ≤ c1_8) (hr1_9 : Kd.C (Kd.int .i64) w A1_9 l1_9.length l1_9) (hc1_9 : l1_9.length ≤ c1_9) (hr1_10 : Kd.C k46 w A1_10 l1_10.length l1_10) (hc1_10 : l1_10.length ≤ c1_10) (h : impl_AcctSame.f k a0_0 a0_1 a0_2 a0_3 a0_4 l0_5 a0_6 a0_7 l0_8 l0_9 l0_10 a1_0 a1_1 a1_2 a1_3 a1_4 l1_5 a1_6 a1_7 l1_8 l1_9 l1_10 = some r) :
    Calls Try.prog 52 #[.agg #[.string a0_0, .int .i64 a0_1, .int .i64 a0_2, .int .i64 a0_3, .int .i64 a0_4, .slice A0_5 l0_5.length c0_5, .int .i64 a0_6, .int .i64 a0_7, .slice A0_8 l0_8.length c0_8, .slice A0_9 l0_9.length c0_9, .slice A0_10 l0_10.length c0_10], .agg #[.string a1_0, .int .i64 a1_1, .int .i64 a1_2, .int .i64 a1_3, .int .i64 a1_4, .slice A1_5 l1_5.length c1_5, .int .i64 a1_6, .int .i64 a1_7, .slice A1_8 l1_8.length c1_8, .slice A1_9 l1_9.length c1_9, .slice A1_10 l1_10.length c1_10]] w fun e w' => e = .returned (.bool r) ∧ Below w.heap.size w w' := by
  have hu85 := Try.underlying85
  have hu83 := Try.underlying83
  have HR0_5 := Aside0.mk hr0_5
  have HC0_5 := Aside0.mk hc0_5
  clear hr0_5 hc0_5
  have HR0_8 := Aside0.mk hr0_8
  have HC0_8 := Aside0.mk hc0_8
  clear hr0_8 hc0_8
  have HR0_9 := Aside0.mk hr0_9
  have HC0_9 := Aside0.mk hc0_9
  clear hr0_9 hc0_9
  have HR0_10 := Aside0.mk hr0_10
  have HC0_10 := Aside0.mk hc0_10
  clear hr0_10 hc0_10
  have HR1_5 := Aside0.mk hr1_5
  have HC1_5 := Aside0.mk hc1_5
  clear hr1_5 hc1_5
  have HR1_8 := Aside0.mk hr1_8
  have HC1_8 := Aside0.mk hc1_8
  clear hr1_8 hc1_8
  have HR1_9 := Aside0.mk hr1_9
  have HC1_9 := Aside0.mk hc1_9
  clear hr1_9 hc1_9
  have HR1_10 := Aside0.mk hr1_10
  have HC1_10 := Aside0.mk hc1_10
  clear hr1_10 hc1_10
  have HB := Aside0.mk (Below.refl w.heap.size w)
  have H : (if a0_0.toList = a1_0.toList then (if a0_1 = a1_1 then (if a0_2 = a1_2 then (if a0_3 = a1_3 then (if a0_4 = a1_4 then ((impl_Hold.f k l0_5 l1_5).bind fun t217 => (if t217 = true then ((impl_ringSame.f k a0_6 a0_7 l0_8 l0_9 a1_6 a1_7 l1_8 l1_9).bind fun t218 => (if t218 = true then ((impl_SlotsSame.f k l0_10 l1_10).bind fun t219 => (some t219)) else (some false))) else (some false))) else (some false)) else (some false)) else (some false)) else (some false)) else (some false)) = some r := h
  clear h
  by_cases c3 : a0_0.toList = a1_0.toList
  · rw [if_pos c3] at H
    have c3b0 : (a0_0.toList == a1_0.toList) = true := beq_iff_eq.mpr c3
    have c3b1 : (a0_0.toList != a1_0.toList) = false := bne_eq_false_iff_eq.mpr c3
    clear c3
    by_cases c4 : a0_1 = a1_1
    · rw [if_pos c4] at H
      have c4b0 : (a0_1 == a1_1) = true := beq_iff_eq.mpr c4
      have c4b1 : (a0_1 != a1_1) = false := bne_eq_false_iff_eq.mpr c4
      clear c4
      by_cases c5 : a0_2 = a1_2
      · rw [if_pos c5] at H
        have c5b0 : (a0_2 == a1_2) = true := beq_iff_eq.mpr c5
        have c5b1 : (a0_2 != a1_2) = false := bne_eq_false_iff_eq.mpr c5
        clear c5
        by_cases c6 : a0_3 = a1_3
        · rw [if_pos c6] at H
          have c6b0 : (a0_3 == a1_3) = true := beq_iff_eq.mpr c6
          have c6b1 : (a0_3 != a1_3) = false := bne_eq_false_iff_eq.mpr c6
          clear c6
          by_cases c7 : a0_4 = a1_4
          · rw [if_pos c7] at H
            have c7b0 : (a0_4 == a1_4) = true := beq_iff_eq.mpr c7
            have c7b1 : (a0_4 != a1_4) = false := bne_eq_false_iff_eq.mpr c7
            clear c7
            replace H := Option.bind_eq_some_iff.mp H
            obtain ⟨t217, A80, H⟩ := H
            replace H : (if t217 = true then ((impl_ringSame.f k a0_6 a0_7 l0_8 l0_9 a1_6 a1_7 l1_8 l1_9).bind fun t218 => (if t218 = true then ((impl_SlotsSame.f k l0_10 l1_10).bind fun t219 => (some t219)) else (some false))) else (some false)) = some r := H
            have A8 := Aside0.mk A80
            clear A80
            by_cases c9 : t217 = true
            · subst c9
              have H1 : ((impl_ringSame.f k a0_6 a0_7 l0_8 l0_9 a1_6 a1_7 l1_8 l1_9).bind fun t218 => (if t218 = true then ((impl_SlotsSame.f k l0_10 l1_10).bind fun t219 => (some t219)) else (some false))) = some r := by rw [if_pos rfl] at H; exact H
              clear H
              have H := H1
              clear H1
              replace H := Option.bind_eq_some_iff.mp H
              obtain ⟨t218, A100, H⟩ := H
              replace H : (if t218 = true then ((impl_SlotsSame.f k l0_10 l1_10).bind fun t219 => (some t219)) else (some false)) = some r := H
              have A10 := Aside0.mk A100
              clear A100
              by_cases c11 : t218 = true
              · subst c11
                have H1 : ((impl_SlotsSame.f k l0_10 l1_10).bind fun t219 => (some t219)) = some r := by rw [if_pos rfl] at H; exact H
                clear H
                have H := H1
                clear H1
                replace H := Option.bind_eq_some_iff.mp H
                obtain ⟨t219, A120, H⟩ := H
                replace H : (some t219) = some r := H
                have A12 := Aside0.mk A120
                clear A120
                obtain rfl := Option.some.inj H
                go_enter Try.func52, Try.ntmps52
                go_wp2_with (first | ((with_reducible refine gate_dst (N := 2) rfl ?_); refine box_event ?hg (N := 2) ?hd (cs := #[.string a0_0, .int .i64 a0_1, .int .i64 a0_2, .int .i64 a0_3, .int .i64 a0_4, .slice A0_5 l0_5.length c0_5, .int .i64 a0_6, .int .i64 a0_7, .slice A0_8 l0_8.length c0_8, .slice A0_9 l0_9.length c0_9, .slice A0_10 l0_10.length c0_10]) (t := 85) ?hr ?_; (case hd => rfl); (case hg => rfl); (case hr => first | (go_simp; done) | (go_simp; rfl)); intro gb215 hg w13 hbox hb; have n0_ := Aside0.mk (below_step bl_ hb); have n1_ := Aside0.mk (hbox); have n2_ := Aside0.mk ((by rw [hg]; exact (below_size bl_) : w.heap.size ≤ gb215)); have n3_ := Aside0.mk ((by rw [hg]; exact (below_size bl_) : w.heap.size ≤ gb215)); clear HB; have HB := n0_; have BK215 := n1_; have GW215 := n2_; have GE215 := n3_; clear n0_ n1_ n2_ n3_; clear hb hbox hg) | ((with_reducible refine gate_dst (N := 3) rfl ?_); refine box_event ?hg (N := 3) ?hd (cs := #[.string a1_0, .int .i64 a1_1, .int .i64 a1_2, .int .i64 a1_3, .int .i64 a1_4, .slice A1_5 l1_5.length c1_5, .int .i64 a1_6, .int .i64 a1_7, .slice A1_8 l1_8.length c1_8, .slice A1_9 l1_9.length c1_9, .slice A1_10 l1_10.length c1_10]) (t := 85) ?hr ?_; (case hd => rfl); (case hg => rfl); (case hr => first | (go_simp; done) | (go_simp; rfl)); intro gb216 hg w14 hbox hb; have n0_ := Aside0.mk (blk_below (bk_ BK215) hb); have n1_ := Aside0.mk (below_step bl_ hb); have n2_ := Aside0.mk (hbox); have n3_ := Aside0.mk ((by rw [hg]; exact (below_size bl_) : w.heap.size ≤ gb216)); have n4_ := Aside0.mk ((by rw [hg]; exact (below_size bl_) : w.heap.size ≤ gb216)); have n5_ := Aside0.mk ((by rw [hg]; exact Nat.ne_of_lt (blk_lt (bk_ BK215)) : gb215 ≠ gb216)); have n6_ := Aside0.mk ((by rw [hg]; exact Nat.ne_of_gt (blk_lt (bk_ BK215)) : gb216 ≠ gb215)); clear BK215; clear HB; have BK215 := n0_; have HB := n1_; have BK216 := n2_; have GW216 := n3_; have GE216 := n4_; have NB215_216 := n5_; have NB216_215 := n6_; clear n0_ n1_ n2_ n3_ n4_ n5_ n6_; clear hb hbox hg; have hnb15 := NB215_216.out; have hnc15 := NB216_215.out; have hcz16_0 := cz_ BK215 0 (.string a0_0); have hcz16_1 := cz_ BK215 1 (.int .i64 a0_1); have hcz16_2 := cz_ BK215 2 (.int .i64 a0_2); have hcz16_3 := cz_ BK215 3 (.int .i64 a0_3); have hcz16_4 := cz_ BK215 4 (.int .i64 a0_4); have hcz16_5 := cz_ BK215 5 (.slice A0_5 l0_5.length c0_5); have hcz16_6 := cz_ BK215 6 (.int .i64 a0_6); have hcz16_7 := cz_ BK215 7 (.int .i64 a0_7); have hcz16_8 := cz_ BK215 8 (.slice A0_8 l0_8.length c0_8); have hcz16_9 := cz_ BK215 9 (.slice A0_9 l0_9.length c0_9); have hcz16_10 := cz_ BK215 10 (.slice A0_10 l0_10.length c0_10); have hfz16_0 := fz_ BK215 0; have hfz16_1 := fz_ BK215 1; have hfz16_2 := fz_ BK215 2; have hfz16_3 := fz_ BK215 3; have hfz16_4 := fz_ BK215 4; have hfz16_5 := fz_ BK215 5; have hfz16_6 := fz_ BK215 6; have hfz16_7 := fz_ BK215 7; have hfz16_8 := fz_ BK215 8; have hfz16_9 := fz_ BK215 9; have hfz16_10 := fz_ BK215 10; have hcz17_0 := cz_ BK216 0 (.string a1_0); have hcz17_1 := cz_ BK216 1 (.int .i64 a1_1); have hcz17_2 := cz_ BK216 2 (.int .i64 a1_2); have hcz17_3 := cz_ BK216 3 (.int .i64 a1_3); have hcz17_4 := cz_ BK216 4 (.int .i64 a1_4); have hcz17_5 := cz_ BK216 5 (.slice A1_5 l1_5.length c1_5); have hcz17_6 := cz_ BK216 6 (.int .i64 a1_6); have hcz17_7 := cz_ BK216 7 (.int .i64 a1_7); have hcz17_8 := cz_ BK216 8 (.slice A1_8 l1_8.length c1_8); have hcz17_9 := cz_ BK216 9 (.slice A1_9 l1_9.length c1_9); have hcz17_10 := cz_ BK216 10 (.slice A1_10 l1_10.length c1_10); have hfz17_0 := fz_ BK216 0; have hfz17_1 := fz_ BK216 1; have hfz17_2 := fz_ BK216 2; have hfz17_3 := fz_ BK216 3; have hfz17_4 := fz_ BK216 4; have hfz17_5 := fz_ BK216 5; have hfz17_6 := fz_ BK216 6; have hfz17_7 := fz_ BK216 7; have hfz17_8 := fz_ BK216 8; have hfz17_9 := fz_ BK216 9; have hfz17_10 := fz_ BK216 10) | (go_at_call 114; (with_reducible refine (impl_Hold.calls k _ _ l0_5 _ _ l1_5 true _ ?side1 ?side2 ?side3 ?side4 A8.out).mono ?_); (case side1 => exact ca_ (Kd.C_below HR0_5.out HB.out)); (case side2 => exact HC0_5.out); (case side3 => exact ca_ (Kd.C_below HR1_5.out HB.out)); (case side4 => exact HC1_5.out); rintro e w' ⟨rfl, ⟨nd, rfl⟩⟩) | (go_at_call 115; (with_reducible refine (impl_ringSame.calls k a0_6 a0_7 _ _ l0_8 _ _ l0_9 a1_6 a1_7 _ _ l1_8 _ _ l1_9 true _ ?side1 ?side2 ?side3 ?side4 ?side5 ?side6 ?side7 ?side8 A10.out).mono ?_); (case side1 => exact ca_ (Kd.C_below HR0_8.out bl_)); (case side2 => exact HC0_8.out); (case side3 => exact ca_ (Kd.C_below HR0_9.out bl_)); (case side4 => exact HC0_9.out); (case side5 => exact ca_ (Kd.C_below HR1_8.out bl_)); (case side6 => exact HC1_8.out); (case side7 => exact ca_ (Kd.C_below HR1_9.out bl_)); (case side8 => exact HC1_9.out); rintro e w18 ⟨rfl, hb⟩; have n0_ := Aside0.mk (blk_below (bk_ BK215) hb); have n1_ := Aside0.mk (blk_below (bk_ BK216) hb); have n2_ := Aside0.mk (below_step bl_ hb); clear BK215; clear BK216; clear HB; have BK215 := n0_; have BK216 := n1_; have HB := n2_; clear n0_ n1_ n2_; (try clear hb); (try clear hb2); (try clear hk); (try clear hi); have hcz19_0 := cz_ BK215 0 (.string a0_0); have hcz19_1 := cz_ BK215 1 (.int .i64 a0_1); have hcz19_2 := cz_ BK215 2 (.int .i64 a0_2); have hcz19_3 := cz_ BK215 3 (.int .i64 a0_3); have hcz19_4 := cz_ BK215 4 (.int .i64 a0_4); have hcz19_5 := cz_ BK215 5 (.slice A0_5 l0_5.length c0_5); have hcz19_6 := cz_ BK215 6 (.int .i64 a0_6); have hcz19_7 := cz_ BK215 7 (.int .i64 a0_7); have hcz19_8 := cz_ BK215 8 (.slice A0_8 l0_8.length c0_8); have hcz19_9 := cz_ BK215 9 (.slice A0_9 l0_9.length c0_9); have hcz19_10 := cz_ BK215 10 (.slice A0_10 l0_10.length c0_10); have hfz19_0 := fz_ BK215 0; have hfz19_1 := fz_ BK215 1; have hfz19_2 := fz_ BK215 2; have hfz19_3 := fz_ BK215 3; have hfz19_4 := fz_ BK215 4; have hfz19_5 := fz_ BK215 5; have hfz19_6 := fz_ BK215 6; have hfz19_7 := fz_ BK215 7; have hfz19_8 := fz_ BK215 8; have hfz19_9 := fz_ BK215 9; have hfz19_10 := fz_ BK215 10; have hcz20_0 := cz_ BK216 0 (.string a1_0); have hcz20_1 := cz_ BK216 1 (.int .i64 a1_1); have hcz20_2 := cz_ BK216 2 (.int .i64 a1_2); have hcz20_3 := cz_ BK216 3 (.int .i64 a1_3); have hcz20_4 := cz_ BK216 4 (.int .i64 a1_4); have hcz20_5 := cz_ BK216 5 (.slice A1_5 l1_5.length c1_5); have hcz20_6 := cz_ BK216 6 (.int .i64 a1_6); have hcz20_7 := cz_ BK216 7 (.int .i64 a1_7); have hcz20_8 := cz_ BK216 8 (.slice A1_8 l1_8.length c1_8); have hcz20_9 := cz_ BK216 9 (.slice A1_9 l1_9.length c1_9); have hcz20_10 := cz_ BK216 10 (.slice A1_10 l1_10.length c1_10); have hfz20_0 := fz_ BK216 0; have hfz20_1 := fz_ BK216 1; have hfz20_2 := fz_ BK216 2; have hfz20_3 := fz_ BK216 3; have hfz20_4 := fz_ BK216 4; have hfz20_5 := fz_ BK216 5; have hfz20_6 := fz_ BK216 6; have hfz20_7 := fz_ BK216 7; have hfz20_8 := fz_ BK216 8; have hfz20_9 := fz_ BK216 9; have hfz20_10 := fz_ BK216 10) | (go_at_call 116; (with_reducible refine (impl_SlotsSame.calls k _ _ l0_10 _ _ l1_10 t219 _ ?side1 ?side2 ?side3 ?side4 A12.out).mono ?_); (case side1 => exact ca_ (Kd.C_below HR0_10.out HB.out)); (case side2 => exact HC0_10.out); (case side3 => exact ca_ (Kd.C_below HR1_10.out HB.out)); (case side4 => exact HC1_10.out); rintro e w21 ⟨rfl, hb⟩; have n0_ := Aside0.mk (blk_below (bk_ BK215) hb); have n1_ := Aside0.mk (blk_below (bk_ BK216) hb); have n2_ := Aside0.mk (below_step bl_ hb); clear BK215; clear BK216; clear HB; have BK215 := n0_; have BK216 := n1_; have HB := n2_; clear n0_ n1_ n2_; (try clear hb); (try clear hb2); (try clear hk); (try clear hi)))
                go_ret
                exact ⟨by first | rfl | (simp [errW_none, errW_some] <;> rfl) | (simp [*, errW_none, errW_some] <;> rfl), bl_⟩
              · replace c11 := Bool.eq_false_iff.mpr c11
                subst c11
                have H1 : (some false) = some r := by rw [if_neg (show ¬ (false = true) by decide)] at H; exact H
                clear H
                have H := H1
                clear H1
                obtain rfl := Option.some.inj H
                go_enter Try.func52, Try.ntmps52
                go_wp2_with (first | ((with_reducible refine gate_dst (N := 2) rfl ?_); refine box_event ?hg (N := 2) ?hd (cs := #[.string a0_0, .int .i64 a0_1, .int .i64 a0_2, .int .i64 a0_3, .int .i64 a0_4, .slice A0_5 l0_5.length c0_5, .int .i64 a0_6, .int .i64 a0_7, .slice A0_8 l0_8.length c0_8, .slice A0_9 l0_9.length c0_9, .slice A0_10 l0_10.length c0_10]) (t := 85) ?hr ?_; (case hd => rfl); (case hg => rfl); (case hr => first | (go_simp; done) | (go_simp; rfl)); intro gb215 hg w22 hbox hb; have n0_ := Aside0.mk (below_step bl_ hb); have n1_ := Aside0.mk (hbox); have n2_ := Aside0.mk ((by rw [hg]; exact (below_size bl_) : w.heap.size ≤ gb215)); have n3_ := Aside0.mk ((by rw [hg]; exact (below_size bl_) : w.heap.size ≤ gb215)); clear HB; have HB := n0_; have BK215 := n1_; have GW215 := n2_; have GE215 := n3_; clear n0_ n1_ n2_ n3_; clear hb hbox hg) | ((with_reducible refine gate_dst (N := 3) rfl ?_); refine box_event ?hg (N := 3) ?hd (cs := #[.string a1_0, .int .i64 a1_1, .int .i64 a1_2, .int .i64 a1_3, .int .i64 a1_4, .slice A1_5 l1_5.length c1_5, .int .i64 a1_6, .int .i64 a1_7, .slice A1_8 l1_8.length c1_8, .slice A1_9 l1_9.length c1_9, .slice A1_10 l1_10.length c1_10]) (t := 85) ?hr ?_; (case hd => rfl); (case hg => rfl); (case hr => first | (go_simp; done) | (go_simp; rfl)); intro gb216 hg w23 hbox hb; have n0_ := Aside0.mk (blk_below (bk_ BK215) hb); have n1_ := Aside0.mk (below_step bl_ hb); have n2_ := Aside0.mk (hbox); have n3_ := Aside0.mk ((by rw [hg]; exact (below_size bl_) : w.heap.size ≤ gb216)); have n4_ := Aside0.mk ((by rw [hg]; exact (below_size bl_) : w.heap.size ≤ gb216)); have n5_ := Aside0.mk ((by rw [hg]; exact Nat.ne_of_lt (blk_lt (bk_ BK215)) : gb215 ≠ gb216)); have n6_ := Aside0.mk ((by rw [hg]; exact Nat.ne_of_gt (blk_lt (bk_ BK215)) : gb216 ≠ gb215)); clear BK215; clear HB; have BK215 := n0_; have HB := n1_; have BK216 := n2_; have GW216 := n3_; have GE216 := n4_; have NB215_216 := n5_; have NB216_215 := n6_; clear n0_ n1_ n2_ n3_ n4_ n5_ n6_; clear hb hbox hg; have hnb24 := NB215_216.out; have hnc24 := NB216_215.out; have hcz25_0 := cz_ BK215 0 (.string a0_0); have hcz25_1 := cz_ BK215 1 (.int .i64 a0_1); have hcz25_2 := cz_ BK215 2 (.int .i64 a0_2); have hcz25_3 := cz_ BK215 3 (.int .i64 a0_3); have hcz25_4 := cz_ BK215 4 (.int .i64 a0_4); have hcz25_5 := cz_ BK215 5 (.slice A0_5 l0_5.length c0_5); have hcz25_6 := cz_ BK215 6 (.int .i64 a0_6); have hcz25_7 := cz_ BK215 7 (.int .i64 a0_7); have hcz25_8 := cz_ BK215 8 (.slice A0_8 l0_8.length c0_8); have hcz25_9 := cz_ BK215 9 (.slice A0_9 l0_9.length c0_9); have hcz25_10 := cz_ BK215 10 (.slice A0_10 l0_10.length c0_10); have hfz25_0 := fz_ BK215 0; have hfz25_1 := fz_ BK215 1; have hfz25_2 := fz_ BK215 2; have hfz25_3 := fz_ BK215 3; have hfz25_4 := fz_ BK215 4; have hfz25_5 := fz_ BK215 5; have hfz25_6 := fz_ BK215 6; have hfz25_7 := fz_ BK215 7; have hfz25_8 := fz_ BK215 8; have hfz25_9 := fz_ BK215 9; have hfz25_10 := fz_ BK215 10; have hcz26_0 := cz_ BK216 0 (.string a1_0); have hcz26_1 := cz_ BK216 1 (.int .i64 a1_1); have hcz26_2 := cz_ BK216 2 (.int .i64 a1_2); have hcz26_3 := cz_ BK216 3 (.int .i64 a1_3); have hcz26_4 := cz_ BK216 4 (.int .i64 a1_4); have hcz26_5 := cz_ BK216 5 (.slice A1_5 l1_5.length c1_5); have hcz26_6 := cz_ BK216 6 (.int .i64 a1_6); have hcz26_7 := cz_ BK216 7 (.int .i64 a1_7); have hcz26_8 := cz_ BK216 8 (.slice A1_8 l1_8.length c1_8); have hcz26_9 := cz_ BK216 9 (.slice A1_9 l1_9.length c1_9); have hcz26_10 := cz_ BK216 10 (.slice A1_10 l1_10.length c1_10); have hfz26_0 := fz_ BK216 0; have hfz26_1 := fz_ BK216 1; have hfz26_2 := fz_ BK216 2; have hfz26_3 := fz_ BK216 3; have hfz26_4 := fz_ BK216 4; have hfz26_5 := fz_ BK216 5; have hfz26_6 := fz_ BK216 6; have hfz26_7 := fz_ BK216 7; have hfz26_8 := fz_ BK216 8; have hfz26_9 := fz_ BK216 9; have hfz26_10 := fz_ BK216 10) | (go_at_call 114; (with_reducible refine (impl_Hold.calls k _ _ l0_5 _ _ l1_5 true _ ?side1 ?side2 ?side3 ?side4 A8.out).mono ?_); (case side1 => exact ca_ (Kd.C_below HR0_5.out HB.out)); (case side2 => exact HC0_5.out); (case side3 => exact ca_ (Kd.C_below HR1_5.out HB.out)); (case side4 => exact HC1_5.out); rintro e w' ⟨rfl, ⟨nd, rfl⟩⟩) | (go_at_call 115; (with_reducible refine (impl_ringSame.calls k a0_6 a0_7 _ _ l0_8 _ _ l0_9 a1_6 a1_7 _ _ l1_8 _ _ l1_9 false _ ?side1 ?side2 ?side3 ?side4 ?side5 ?side6 ?side7 ?side8 A10.out).mono ?_); (case side1 => exact ca_ (Kd.C_below HR0_8.out bl_)); (case side2 => exact HC0_8.out); (case side3 => exact ca_ (Kd.C_below HR0_9.out bl_)); (case side4 => exact HC0_9.out); (case side5 => exact ca_ (Kd.C_below HR1_8.out bl_)); (case side6 => exact HC1_8.out); (case side7 => exact ca_ (Kd.C_below HR1_9.out bl_)); (case side8 => exact HC1_9.out); rintro e w27 ⟨rfl, hb⟩; have n0_ := Aside0.mk (blk_below (bk_ BK215) hb); have n1_ := Aside0.mk (blk_below (bk_ BK216) hb); have n2_ := Aside0.mk (below_step bl_ hb); clear BK215; clear BK216; clear HB; have BK215 := n0_; have BK216 := n1_; have HB := n2_; clear n0_ n1_ n2_; (try clear hb); (try clear hb2); (try clear hk); (try clear hi)))
                go_ret
                exact ⟨by first | rfl | (simp [errW_none, errW_some] <;> rfl) | (simp [*, errW_none, errW_some] <;> rfl), bl_⟩
            · replace c9 := Bool.eq_false_iff.mpr c9
              subst c9
              have H1 : (some false) = some r := by rw [if_neg (show ¬ (false = true) by decide)] at H; exact H
              clear H
              have H := H1
              clear H1
              obtain rfl := Option.some.inj H
              go_enter Try.func52, Try.ntmps52
              go_wp2_with (first | ((with_reducible refine gate_dst (N := 2) rfl ?_); refine box_event ?hg (N := 2) ?hd (cs := #[.string a0_0, .int .i64 a0_1, .int .i64 a0_2, .int .i64 a0_3, .int .i64 a0_4, .slice A0_5 l0_5.length c0_5, .int .i64 a0_6, .int .i64 a0_7, .slice A0_8 l0_8.length c0_8, .slice A0_9 l0_9.length c0_9, .slice A0_10 l0_10.length c0_10]) (t := 85) ?hr ?_; (case hd => rfl); (case hg => rfl); (case hr => first | (go_simp; done) | (go_simp; rfl)); intro gb215 hg w28 hbox hb; have n0_ := Aside0.mk (below_step bl_ hb); have n1_ := Aside0.mk (hbox); have n2_ := Aside0.mk ((by rw [hg]; exact (below_size bl_) : w.heap.size ≤ gb215)); have n3_ := Aside0.mk ((by rw [hg]; exact (below_size bl_) : w.heap.size ≤ gb215)); clear HB; have HB := n0_; have BK215 := n1_; have GW215 := n2_; have GE215 := n3_; clear n0_ n1_ n2_ n3_; clear hb hbox hg) | ((with_reducible refine gate_dst (N := 3) rfl ?_); refine box_event ?hg (N := 3) ?hd (cs := #[.string a1_0, .int .i64 a1_1, .int .i64 a1_2, .int .i64 a1_3, .int .i64 a1_4, .slice A1_5 l1_5.length c1_5, .int .i64 a1_6, .int .i64 a1_7, .slice A1_8 l1_8.length c1_8, .slice A1_9 l1_9.length c1_9, .slice A1_10 l1_10.length c1_10]) (t := 85) ?hr ?_; (case hd => rfl); (case hg => rfl); (case hr => first | (go_simp; done) | (go_simp; rfl)); intro gb216 hg w29 hbox hb; have n0_ := Aside0.mk (blk_below (bk_ BK215) hb); have n1_ := Aside0.mk (below_step bl_ hb); have n2_ := Aside0.mk (hbox); have n3_ := Aside0.mk ((by rw [hg]; exact (below_size bl_) : w.heap.size ≤ gb216)); have n4_ := Aside0.mk ((by rw [hg]; exact (below_size bl_) : w.heap.size ≤ gb216)); have n5_ := Aside0.mk ((by rw [hg]; exact Nat.ne_of_lt (blk_lt (bk_ BK215)) : gb215 ≠ gb216)); have n6_ := Aside0.mk ((by rw [hg]; exact Nat.ne_of_gt (blk_lt (bk_ BK215)) : gb216 ≠ gb215)); clear BK215; clear HB; have BK215 := n0_; have HB := n1_; have BK216 := n2_; have GW216 := n3_; have GE216 := n4_; have NB215_216 := n5_; have NB216_215 := n6_; clear n0_ n1_ n2_ n3_ n4_ n5_ n6_; clear hb hbox hg; have hnb30 := NB215_216.out; have hnc30 := NB216_215.out; have hcz31_0 := cz_ BK215 0 (.string a0_0); have hcz31_1 := cz_ BK215 1 (.int .i64 a0_1); have hcz31_2 := cz_ BK215 2 (.int .i64 a0_2); have hcz31_3 := cz_ BK215 3 (.int .i64 a0_3); have hcz31_4 := cz_ BK215 4 (.int .i64 a0_4); have hcz31_5 := cz_ BK215 5 (.slice A0_5 l0_5.length c0_5); have hcz31_6 := cz_ BK215 6 (.int .i64 a0_6); have hcz31_7 := cz_ BK215 7 (.int .i64 a0_7); have hcz31_8 := cz_ BK215 8 (.slice A0_8 l0_8.length c0_8); have hcz31_9 := cz_ BK215 9 (.slice A0_9 l0_9.length c0_9); have hcz31_10 := cz_ BK215 10 (.slice A0_10 l0_10.length c0_10); have hfz31_0 := fz_ BK215 0; have hfz31_1 := fz_ BK215 1; have hfz31_2 := fz_ BK215 2; have hfz31_3 := fz_ BK215 3; have hfz31_4 := fz_ BK215 4; have hfz31_5 := fz_ BK215 5; have hfz31_6 := fz_ BK215 6; have hfz31_7 := fz_ BK215 7; have hfz31_8 := fz_ BK215 8; have hfz31_9 := fz_ BK215 9; have hfz31_10 := fz_ BK215 10; have hcz32_0 := cz_ BK216 0 (.string a1_0); have hcz32_1 := cz_ BK216 1 (.int .i64 a1_1); have hcz32_2 := cz_ BK216 2 (.int .i64 a1_2); have hcz32_3 := cz_ BK216 3 (.int .i64 a1_3); have hcz32_4 := cz_ BK216 4 (.int .i64 a1_4); have hcz32_5 := cz_ BK216 5 (.slice A1_5 l1_5.length c1_5); have hcz32_6 := cz_ BK216 6 (.int .i64 a1_6); have hcz32_7 := cz_ BK216 7 (.int .i64 a1_7); have hcz32_8 := cz_ BK216 8 (.slice A1_8 l1_8.length c1_8); have hcz32_9 := cz_ BK216 9 (.slice A1_9 l1_9.length c1_9); have hcz32_10 := cz_ BK216 10 (.slice A1_10 l1_10.length c1_10); have hfz32_0 := fz_ BK216 0; have hfz32_1 := fz_ BK216 1; have hfz32_2 := fz_ BK216 2; have hfz32_3 := fz_ BK216 3; have hfz32_4 := fz_ BK216 4; have hfz32_5 := fz_ BK216 5; have hfz32_6 := fz_ BK216 6; have hfz32_7 := fz_ BK216 7; have hfz32_8 := fz_ BK216 8; have hfz32_9 := fz_ BK216 9; have hfz32_10 := fz_ BK216 10) | (go_at_call 114; (with_reducible refine (impl_Hold.calls k _ _ l0_5 _ _ l1_5 false _ ?side1 ?side2 ?side3 ?side4 A8.out).mono ?_); (case side1 => exact ca_ (Kd.C_below HR0_5.out HB.out)); (case side2 => exact HC0_5.out); (case side3 => exact ca_ (Kd.C_below HR1_5.out HB.out)); (case side4 => exact HC1_5.out); rintro e w' ⟨rfl, ⟨nd, rfl⟩⟩))
              go_ret
              exact ⟨by first | rfl | (simp [errW_none, errW_some] <;> rfl) | (simp [*, errW_none, errW_some] <;> rfl), bl_⟩
          · rw [if_neg c7] at H
            have c7b0 : (a0_4 == a1_4) = false := beq_eq_false_iff_ne.mpr c7
            have c7b1 : (a0_4 != a1_4) = true := bne_iff_ne.mpr c7
            obtain rfl := Option.some.inj H
            go_enter Try.func52, Try.ntmps52
            go_wp2_with (first | ((with_reducible refine gate_dst (N := 2) rfl ?_); refine box_event ?hg (N := 2) ?hd (cs := #[.string a0_0, .int .i64 a0_1, .int .i64 a0_2, .int .i64 a0_3, .int .i64 a0_4, .slice A0_5 l0_5.length c0_5, .int .i64 a0_6, .int .i64 a0_7, .slice A0_8 l0_8.length c0_8, .slice A0_9 l0_9.length c0_9, .slice A0_10 l0_10.length c0_10]) (t := 85) ?hr ?_; (case hd => rfl); (case hg => rfl); (case hr => first | (go_simp; done) | (go_simp; rfl)); intro gb215 hg w33 hbox hb; have n0_ := Aside0.mk (below_step bl_ hb); have n1_ := Aside0.mk (hbox); have n2_ := Aside0.mk ((by rw [hg]; exact (below_size bl_) : w.heap.size ≤ gb215)); have n3_ := Aside0.mk ((by rw [hg]; exact (below_size bl_) : w.heap.size ≤ gb215)); clear HB; have HB := n0_; have BK215 := n1_; have GW215 := n2_; have GE215 := n3_; clear n0_ n1_ n2_ n3_; clear hb hbox hg) | ((with_reducible refine gate_dst (N := 3) rfl ?_); refine box_event ?hg (N := 3) ?hd (cs := #[.string a1_0, .int .i64 a1_1, .int .i64 a1_2, .int .i64 a1_3, .int .i64 a1_4, .slice A1_5 l1_5.length c1_5, .int .i64 a1_6, .int .i64 a1_7, .slice A1_8 l1_8.length c1_8, .slice A1_9 l1_9.length c1_9, .slice A1_10 l1_10.length c1_10]) (t := 85) ?hr ?_; (case hd => rfl); (case hg => rfl); (case hr => first | (go_simp; done) | (go_simp; rfl)); intro gb216 hg w34 hbox hb; have n0_ := Aside0.mk (blk_below (bk_ BK215) hb); have n1_ := Aside0.mk (below_step bl_ hb); have n2_ := Aside0.mk (hbox); have n3_ := Aside0.mk ((by rw [hg]; exact (below_size bl_) : w.heap.size ≤ gb216)); have n4_ := Aside0.mk ((by rw [hg]; exact (below_size bl_) : w.heap.size ≤ gb216)); have n5_ := Aside0.mk ((by rw [hg]; exact Nat.ne_of_lt (blk_lt (bk_ BK215)) : gb215 ≠ gb216)); have n6_ := Aside0.mk ((by rw [hg]; exact Nat.ne_of_gt (blk_lt (bk_ BK215)) : gb216 ≠ gb215)); clear BK215; clear HB; have BK215 := n0_; have HB := n1_; have BK216 := n2_; have GW216 := n3_; have GE216 := n4_; have NB215_216 := n5_; have NB216_215 := n6_; clear n0_ n1_ n2_ n3_ n4_ n5_ n6_; clear hb hbox hg; have hnb35 := NB215_216.out; have hnc35 := NB216_215.out; have hcz36_0 := cz_ BK215 0 (.string a0_0); have hcz36_1 := cz_ BK215 1 (.int .i64 a0_1); have hcz36_2 := cz_ BK215 2 (.int .i64 a0_2); have hcz36_3 := cz_ BK215 3 (.int .i64 a0_3); have hcz36_4 := cz_ BK215 4 (.int .i64 a0_4); have hcz36_5 := cz_ BK215 5 (.slice A0_5 l0_5.length c0_5); have hcz36_6 := cz_ BK215 6 (.int .i64 a0_6); have hcz36_7 := cz_ BK215 7 (.int .i64 a0_7); have hcz36_8 := cz_ BK215 8 (.slice A0_8 l0_8.length c0_8); have hcz36_9 := cz_ BK215 9 (.slice A0_9 l0_9.length c0_9); have hcz36_10 := cz_ BK215 10 (.slice A0_10 l0_10.length c0_10); have hfz36_0 := fz_ BK215 0; have hfz36_1 := fz_ BK215 1; have hfz36_2 := fz_ BK215 2; have hfz36_3 := fz_ BK215 3; have hfz36_4 := fz_ BK215 4; have hfz36_5 := fz_ BK215 5; have hfz36_6 := fz_ BK215 6; have hfz36_7 := fz_ BK215 7; have hfz36_8 := fz_ BK215 8; have hfz36_9 := fz_ BK215 9; have hfz36_10 := fz_ BK215 10; have hcz37_0 := cz_ BK216 0 (.string a1_0); have hcz37_1 := cz_ BK216 1 (.int .i64 a1_1); have hcz37_2 := cz_ BK216 2 (.int .i64 a1_2); have hcz37_3 := cz_ BK216 3 (.int .i64 a1_3); have hcz37_4 := cz_ BK216 4 (.int .i64 a1_4); have hcz37_5 := cz_ BK216 5 (.slice A1_5 l1_5.length c1_5); have hcz37_6 := cz_ BK216 6 (.int .i64 a1_6); have hcz37_7 := cz_ BK216 7 (.int .i64 a1_7); have hcz37_8 := cz_ BK216 8 (.slice A1_8 l1_8.length c1_8); have hcz37_9 := cz_ BK216 9 (.slice A1_9 l1_9.length c1_9); have hcz37_10 := cz_ BK216 10 (.slice A1_10 l1_10.length c1_10); have hfz37_0 := fz_ BK216 0; have hfz37_1 := fz_ BK216 1; have hfz37_2 := fz_ BK216 2; have hfz37_3 := fz_ BK216 3; have hfz37_4 := fz_ BK216 4; have hfz37_5 := fz_ BK216 5; have hfz37_6 := fz_ BK216 6; have hfz37_7 := fz_ BK216 7; have hfz37_8 := fz_ BK216 8; have hfz37_9 := fz_ BK216 9; have hfz37_10 := fz_ BK216 10))
            go_ret
            exact ⟨by first | rfl | (simp [errW_none, errW_some] <;> rfl) | (simp [*, errW_none, errW_some] <;> rfl), bl_⟩
        · rw [if_neg c6] at H
          have c6b0 : (a0_3 == a1_3) = false := beq_eq_false_iff_ne.mpr c6
          have c6b1 : (a0_3 != a1_3) = true := bne_iff_ne.mpr c6
          obtain rfl := Option.some.inj H
          go_enter Try.func52, Try.ntmps52
          go_wp2_with (first | ((with_reducible refine gate_dst (N := 2) rfl ?_); refine box_event ?hg (N := 2) ?hd (cs := #[.string a0_0, .int .i64 a0_1, .int .i64 a0_2, .int .i64 a0_3, .int .i64 a0_4, .slice A0_5 l0_5.length c0_5, .int .i64 a0_6, .int .i64 a0_7, .slice A0_8 l0_8.length c0_8, .slice A0_9 l0_9.length c0_9, .slice A0_10 l0_10.length c0_10]) (t := 85) ?hr ?_; (case hd => rfl); (case hg => rfl); (case hr => first | (go_simp; done) | (go_simp; rfl)); intro gb215 hg w38 hbox hb; have n0_ := Aside0.mk (below_step bl_ hb); have n1_ := Aside0.mk (hbox); have n2_ := Aside0.mk ((by rw [hg]; exact (below_size bl_) : w.heap.size ≤ gb215)); have n3_ := Aside0.mk ((by rw [hg]; exact (below_size bl_) : w.heap.size ≤ gb215)); clear HB; have HB := n0_; have BK215 := n1_; have GW215 := n2_; have GE215 := n3_; clear n0_ n1_ n2_ n3_; clear hb hbox hg) | ((with_reducible refine gate_dst (N := 3) rfl ?_); refine box_event ?hg (N := 3) ?hd (cs := #[.string a1_0, .int .i64 a1_1, .int .i64 a1_2, .int .i64 a1_3, .int .i64 a1_4, .slice A1_5 l1_5.length c1_5, .int .i64 a1_6, .int .i64 a1_7, .slice A1_8 l1_8.length c1_8, .slice A1_9 l1_9.length c1_9, .slice A1_10 l1_10.length c1_10]) (t := 85) ?hr ?_; (case hd => rfl); (case hg => rfl); (case hr => first | (go_simp; done) | (go_simp; rfl)); intro gb216 hg w39 hbox hb; have n0_ := Aside0.mk (blk_below (bk_ BK215) hb); have n1_ := Aside0.mk (below_step bl_ hb); have n2_ := Aside0.mk (hbox); have n3_ := Aside0.mk ((by rw [hg]; exact (below_size bl_) : w.heap.size ≤ gb216)); have n4_ := Aside0.mk ((by rw [hg]; exact (below_size bl_) : w.heap.size ≤ gb216)); have n5_ := Aside0.mk ((by rw [hg]; exact Nat.ne_of_lt (blk_lt (bk_ BK215)) : gb215 ≠ gb216)); have n6_ := Aside0.mk ((by rw [hg]; exact Nat.ne_of_gt (blk_lt (bk_ BK215)) : gb216 ≠ gb215)); clear BK215; clear HB; have BK215 := n0_; have HB := n1_; have BK216 := n2_; have GW216 := n3_; have GE216 := n4_; have NB215_216 := n5_; have NB216_215 := n6_; clear n0_ n1_ n2_ n3_ n4_ n5_ n6_; clear hb hbox hg; have hnb40 := NB215_216.out; have hnc40 := NB216_215.out; have hcz41_0 := cz_ BK215 0 (.string a0_0); have hcz41_1 := cz_ BK215 1 (.int .i64 a0_1); have hcz41_2 := cz_ BK215 2 (.int .i64 a0_2); have hcz41_3 := cz_ BK215 3 (.int .i64 a0_3); have hcz41_4 := cz_ BK215 4 (.int .i64 a0_4); have hcz41_5 := cz_ BK215 5 (.slice A0_5 l0_5.length c0_5); have hcz41_6 := cz_ BK215 6 (.int .i64 a0_6); have hcz41_7 := cz_ BK215 7 (.int .i64 a0_7); have hcz41_8 := cz_ BK215 8 (.slice A0_8 l0_8.length c0_8); have hcz41_9 := cz_ BK215 9 (.slice A0_9 l0_9.length c0_9); have hcz41_10 := cz_ BK215 10 (.slice A0_10 l0_10.length c0_10); have hfz41_0 := fz_ BK215 0; have hfz41_1 := fz_ BK215 1; have hfz41_2 := fz_ BK215 2; have hfz41_3 := fz_ BK215 3; have hfz41_4 := fz_ BK215 4; have hfz41_5 := fz_ BK215 5; have hfz41_6 := fz_ BK215 6; have hfz41_7 := fz_ BK215 7; have hfz41_8 := fz_ BK215 8; have hfz41_9 := fz_ BK215 9; have hfz41_10 := fz_ BK215 10; have hcz42_0 := cz_ BK216 0 (.string a1_0); have hcz42_1 := cz_ BK216 1 (.int .i64 a1_1); have hcz42_2 := cz_ BK216 2 (.int .i64 a1_2); have hcz42_3 := cz_ BK216 3 (.int .i64 a1_3); have hcz42_4 := cz_ BK216 4 (.int .i64 a1_4); have hcz42_5 := cz_ BK216 5 (.slice A1_5 l1_5.length c1_5); have hcz42_6 := cz_ BK216 6 (.int .i64 a1_6); have hcz42_7 := cz_ BK216 7 (.int .i64 a1_7); have hcz42_8 := cz_ BK216 8 (.slice A1_8 l1_8.length c1_8); have hcz42_9 := cz_ BK216 9 (.slice A1_9 l1_9.length c1_9); have hcz42_10 := cz_ BK216 10 (.slice A1_10 l1_10.length c1_10); have hfz42_0 := fz_ BK216 0; have hfz42_1 := fz_ BK216 1; have hfz42_2 := fz_ BK216 2; have hfz42_3 := fz_ BK216 3; have hfz42_4 := fz_ BK216 4; have hfz42_5 := fz_ BK216 5; have hfz42_6 := fz_ BK216 6; have hfz42_7 := fz_ BK216 7; have hfz42_8 := fz_ BK216 8; have hfz42_9 := fz_ BK216 9; have hfz42_10 := fz_ BK216 10))
          go_ret
          exact ⟨by first | rfl | (simp [errW_none, errW_some] <;> rfl) | (simp [*, errW_none, errW_some] <;> rfl), bl_⟩
      · rw [if_neg c5] at H
        have c5b0 : (a0_2 == a1_2) = false := beq_eq_false_iff_ne.mpr c5
        have c5b1 : (a0_2 != a1_2) = true := bne_iff_ne.mpr c5
        obtain rfl := Option.some.inj H
        go_enter Try.func52, Try.ntmps52
        go_wp2_with (first | ((with_reducible refine gate_dst (N := 2) rfl ?_); refine box_event ?hg (N := 2) ?hd (cs := #[.string a0_0, .int .i64 a0_1, .int .i64 a0_2, .int .i64 a0_3, .int .i64 a0_4, .slice A0_5 l0_5.length c0_5, .int .i64 a0_6, .int .i64 a0_7, .slice A0_8 l0_8.length c0_8, .slice A0_9 l0_9.length c0_9, .slice A0_10 l0_10.length c0_10]) (t := 85) ?hr ?_; (case hd => rfl); (case hg => rfl); (case hr => first | (go_simp; done) | (go_simp; rfl)); intro gb215 hg w43 hbox hb; have n0_ := Aside0.mk (below_step bl_ hb); have n1_ := Aside0.mk (hbox); have n2_ := Aside0.mk ((by rw [hg]; exact (below_size bl_) : w.heap.size ≤ gb215)); have n3_ := Aside0.mk ((by rw [hg]; exact (below_size bl_) : w.heap.size ≤ gb215)); clear HB; have HB := n0_; have BK215 := n1_; have GW215 := n2_; have GE215 := n3_; clear n0_ n1_ n2_ n3_; clear hb hbox hg) | ((with_reducible refine gate_dst (N := 3) rfl ?_); refine box_event ?hg (N := 3) ?hd (cs := #[.string a1_0, .int .i64 a1_1, .int .i64 a1_2, .int .i64 a1_3, .int .i64 a1_4, .slice A1_5 l1_5.length c1_5, .int .i64 a1_6, .int .i64 a1_7, .slice A1_8 l1_8.length c1_8, .slice A1_9 l1_9.length c1_9, .slice A1_10 l1_10.length c1_10]) (t := 85) ?hr ?_; (case hd => rfl); (case hg => rfl); (case hr => first | (go_simp; done) | (go_simp; rfl)); intro gb216 hg w44 hbox hb; have n0_ := Aside0.mk (blk_below (bk_ BK215) hb); have n1_ := Aside0.mk (below_step bl_ hb); have n2_ := Aside0.mk (hbox); have n3_ := Aside0.mk ((by rw [hg]; exact (below_size bl_) : w.heap.size ≤ gb216)); have n4_ := Aside0.mk ((by rw [hg]; exact (below_size bl_) : w.heap.size ≤ gb216)); have n5_ := Aside0.mk ((by rw [hg]; exact Nat.ne_of_lt (blk_lt (bk_ BK215)) : gb215 ≠ gb216)); have n6_ := Aside0.mk ((by rw [hg]; exact Nat.ne_of_gt (blk_lt (bk_ BK215)) : gb216 ≠ gb215)); clear BK215; clear HB; have BK215 := n0_; have HB := n1_; have BK216 := n2_; have GW216 := n3_; have GE216 := n4_; have NB215_216 := n5_; have NB216_215 := n6_; clear n0_ n1_ n2_ n3_ n4_ n5_ n6_; clear hb hbox hg; have hnb45 := NB215_216.out; have hnc45 := NB216_215.out; have hcz46_0 := cz_ BK215 0 (.string a0_0); have hcz46_1 := cz_ BK215 1 (.int .i64 a0_1); have hcz46_2 := cz_ BK215 2 (.int .i64 a0_2); have hcz46_3 := cz_ BK215 3 (.int .i64 a0_3); have hcz46_4 := cz_ BK215 4 (.int .i64 a0_4); have hcz46_5 := cz_ BK215 5 (.slice A0_5 l0_5.length c0_5); have hcz46_6 := cz_ BK215 6 (.int .i64 a0_6); have hcz46_7 := cz_ BK215 7 (.int .i64 a0_7); have hcz46_8 := cz_ BK215 8 (.slice A0_8 l0_8.length c0_8); have hcz46_9 := cz_ BK215 9 (.slice A0_9 l0_9.length c0_9); have hcz46_10 := cz_ BK215 10 (.slice A0_10 l0_10.length c0_10); have hfz46_0 := fz_ BK215 0; have hfz46_1 := fz_ BK215 1; have hfz46_2 := fz_ BK215 2; have hfz46_3 := fz_ BK215 3; have hfz46_4 := fz_ BK215 4; have hfz46_5 := fz_ BK215 5; have hfz46_6 := fz_ BK215 6; have hfz46_7 := fz_ BK215 7; have hfz46_8 := fz_ BK215 8; have hfz46_9 := fz_ BK215 9; have hfz46_10 := fz_ BK215 10; have hcz47_0 := cz_ BK216 0 (.string a1_0); have hcz47_1 := cz_ BK216 1 (.int .i64 a1_1); have hcz47_2 := cz_ BK216 2 (.int .i64 a1_2); have hcz47_3 := cz_ BK216 3 (.int .i64 a1_3); have hcz47_4 := cz_ BK216 4 (.int .i64 a1_4); have hcz47_5 := cz_ BK216 5 (.slice A1_5 l1_5.length c1_5); have hcz47_6 := cz_ BK216 6 (.int .i64 a1_6); have hcz47_7 := cz_ BK216 7 (.int .i64 a1_7); have hcz47_8 := cz_ BK216 8 (.slice A1_8 l1_8.length c1_8); have hcz47_9 := cz_ BK216 9 (.slice A1_9 l1_9.length c1_9); have hcz47_10 := cz_ BK216 10 (.slice A1_10 l1_10.length c1_10); have hfz47_0 := fz_ BK216 0; have hfz47_1 := fz_ BK216 1; have hfz47_2 := fz_ BK216 2; have hfz47_3 := fz_ BK216 3; have hfz47_4 := fz_ BK216 4; have hfz47_5 := fz_ BK216 5; have hfz47_6 := fz_ BK216 6; have hfz47_7 := fz_ BK216 7; have hfz47_8 := fz_ BK216 8; have hfz47_9 := fz_ BK216 9; have hfz47_10 := fz_ BK216 10))
        go_ret
        exact ⟨by first | rfl | (simp [errW_none, errW_some] <;> rfl) | (simp [*, errW_none, errW_some] <;> rfl), bl_⟩
    · rw [if_neg c4] at H
      have c4b0 : (a0_1 == a1_1) = false := beq_eq_false_iff_ne.mpr c4
      have c4b1 : (a0_1 != a1_1) = true := bne_iff_ne.mpr c4
      obtain rfl := Option.some.inj H
      go_enter Try.func52, Try.ntmps52
      go_wp2_with (first | ((with_reducible refine gate_dst (N := 2) rfl ?_); refine box_event ?hg (N := 2) ?hd (cs := #[.string a0_0, .int .i64 a0_1, .int .i64 a0_2, .int .i64 a0_3, .int .i64 a0_4, .slice A0_5 l0_5.length c0_5, .int .i64 a0_6, .int .i64 a0_7, .slice A0_8 l0_8.length c0_8, .slice A0_9 l0_9.length c0_9, .slice A0_10 l0_10.length c0_10]) (t := 85) ?hr ?_; (case hd => rfl); (case hg => rfl); (case hr => first | (go_simp; done) | (go_simp; rfl)); intro gb215 hg w48 hbox hb; have n0_ := Aside0.mk (below_step bl_ hb); have n1_ := Aside0.mk (hbox); have n2_ := Aside0.mk ((by rw [hg]; exact (below_size bl_) : w.heap.size ≤ gb215)); have n3_ := Aside0.mk ((by rw [hg]; exact (below_size bl_) : w.heap.size ≤ gb215)); clear HB; have HB := n0_; have BK215 := n1_; have GW215 := n2_; have GE215 := n3_; clear n0_ n1_ n2_ n3_; clear hb hbox hg) | ((with_reducible refine gate_dst (N := 3) rfl ?_); refine box_event ?hg (N := 3) ?hd (cs := #[.string a1_0, .int .i64 a1_1, .int .i64 a1_2, .int .i64 a1_3, .int .i64 a1_4, .slice A1_5 l1_5.length c1_5, .int .i64 a1_6, .int .i64 a1_7, .slice A1_8 l1_8.length c1_8, .slice A1_9 l1_9.length c1_9, .slice A1_10 l1_10.length c1_10]) (t := 85) ?hr ?_; (case hd => rfl); (case hg => rfl); (case hr => first | (go_simp; done) | (go_simp; rfl)); intro gb216 hg w49 hbox hb; have n0_ := Aside0.mk (blk_below (bk_ BK215) hb); have n1_ := Aside0.mk (below_step bl_ hb); have n2_ := Aside0.mk (hbox); have n3_ := Aside0.mk ((by rw [hg]; exact (below_size bl_) : w.heap.size ≤ gb216)); have n4_ := Aside0.mk ((by rw [hg]; exact (below_size bl_) : w.heap.size ≤ gb216)); have n5_ := Aside0.mk ((by rw [hg]; exact Nat.ne_of_lt (blk_lt (bk_ BK215)) : gb215 ≠ gb216)); have n6_ := Aside0.mk ((by rw [hg]; exact Nat.ne_of_gt (blk_lt (bk_ BK215)) : gb216 ≠ gb215)); clear BK215; clear HB; have BK215 := n0_; have HB := n1_; have BK216 := n2_; have GW216 := n3_; have GE216 := n4_; have NB215_216 := n5_; have NB216_215 := n6_; clear n0_ n1_ n2_ n3_ n4_ n5_ n6_; clear hb hbox hg; have hnb50 := NB215_216.out; have hnc50 := NB216_215.out; have hcz51_0 := cz_ BK215 0 (.string a0_0); have hcz51_1 := cz_ BK215 1 (.int .i64 a0_1); have hcz51_2 := cz_ BK215 2 (.int .i64 a0_2); have hcz51_3 := cz_ BK215 3 (.int .i64 a0_3); have hcz51_4 := cz_ BK215 4 (.int .i64 a0_4); have hcz51_5 := cz_ BK215 5 (.slice A0_5 l0_5.length c0_5); have hcz51_6 := cz_ BK215 6 (.int .i64 a0_6); have hcz51_7 := cz_ BK215 7 (.int .i64 a0_7); have hcz51_8 := cz_ BK215 8 (.slice A0_8 l0_8.length c0_8); have hcz51_9 := cz_ BK215 9 (.slice A0_9 l0_9.length c0_9); have hcz51_10 := cz_ BK215 10 (.slice A0_10 l0_10.length c0_10); have hfz51_0 := fz_ BK215 0; have hfz51_1 := fz_ BK215 1; have hfz51_2 := fz_ BK215 2; have hfz51_3 := fz_ BK215 3; have hfz51_4 := fz_ BK215 4; have hfz51_5 := fz_ BK215 5; have hfz51_6 := fz_ BK215 6; have hfz51_7 := fz_ BK215 7; have hfz51_8 := fz_ BK215 8; have hfz51_9 := fz_ BK215 9; have hfz51_10 := fz_ BK215 10; have hcz52_0 := cz_ BK216 0 (.string a1_0); have hcz52_1 := cz_ BK216 1 (.int .i64 a1_1); have hcz52_2 := cz_ BK216 2 (.int .i64 a1_2); have hcz52_3 := cz_ BK216 3 (.int .i64 a1_3); have hcz52_4 := cz_ BK216 4 (.int .i64 a1_4); have hcz52_5 := cz_ BK216 5 (.slice A1_5 l1_5.length c1_5); have hcz52_6 := cz_ BK216 6 (.int .i64 a1_6); have hcz52_7 := cz_ BK216 7 (.int .i64 a1_7); have hcz52_8 := cz_ BK216 8 (.slice A1_8 l1_8.length c1_8); have hcz52_9 := cz_ BK216 9 (.slice A1_9 l1_9.length c1_9); have hcz52_10 := cz_ BK216 10 (.slice A1_10 l1_10.length c1_10); have hfz52_0 := fz_ BK216 0; have hfz52_1 := fz_ BK216 1; have hfz52_2 := fz_ BK216 2; have hfz52_3 := fz_ BK216 3; have hfz52_4 := fz_ BK216 4; have hfz52_5 := fz_ BK216 5; have hfz52_6 := fz_ BK216 6; have hfz52_7 := fz_ BK216 7; have hfz52_8 := fz_ BK216 8; have hfz52_9 := fz_ BK216 9; have hfz52_10 := fz_ BK216 10))
      go_ret
      exact ⟨by first | rfl | (simp [errW_none, errW_some] <;> rfl) | (simp [*, errW_none, errW_some] <;> rfl), bl_⟩
  · rw [if_neg c3] at H
    have c3b0 : (a0_0.toList == a1_0.toList) = false := beq_eq_false_iff_ne.mpr c3
    have c3b1 : (a0_0.toList != a1_0.toList) = true := bne_iff_ne.mpr c3
    obtain rfl := Option.some.inj H
    go_enter Try.func52, Try.ntmps52
    go_wp2_with (first | ((with_reducible refine gate_dst (N := 2) rfl ?_); refine box_event ?hg (N := 2) ?hd (cs := #[.string a0_0, .int .i64 a0_1, .int .i64 a0_2, .int .i64 a0_3, .int .i64 a0_4, .slice A0_5 l0_5.length c0_5, .int .i64 a0_6, .int .i64 a0_7, .slice A0_8 l0_8.length c0_8, .slice A0_9 l0_9.length c0_9, .slice A0_10 l0_10.length c0_10]) (t := 85) ?hr ?_; (case hd => rfl); (case hg => rfl); (case hr => first | (go_simp; done) | (go_simp; rfl)); intro gb215 hg w53 hbox hb; have n0_ := Aside0.mk (below_step bl_ hb); have n1_ := Aside0.mk (hbox); have n2_ := Aside0.mk ((by rw [hg]; exact (below_size bl_) : w.heap.size ≤ gb215)); have n3_ := Aside0.mk ((by rw [hg]; exact (below_size bl_) : w.heap.size ≤ gb215)); clear HB; have HB := n0_; have BK215 := n1_; have GW215 := n2_; have GE215 := n3_; clear n0_ n1_ n2_ n3_; clear hb hbox hg) | ((with_reducible refine gate_dst (N := 3) rfl ?_); refine box_event ?hg (N := 3) ?hd (cs := #[.string a1_0, .int .i64 a1_1, .int .i64 a1_2, .int .i64 a1_3, .int .i64 a1_4, .slice A1_5 l1_5.length c1_5, .int .i64 a1_6, .int .i64 a1_7, .slice A1_8 l1_8.length c1_8, .slice A1_9 l1_9.length c1_9, .slice A1_10 l1_10.length c1_10]) (t := 85) ?hr ?_; (case hd => rfl); (case hg => rfl); (case hr => first | (go_simp; done) | (go_simp; rfl)); intro gb216 hg w54 hbox hb; have n0_ := Aside0.mk (blk_below (bk_ BK215) hb); have n1_ := Aside0.mk (below_step bl_ hb); have n2_ := Aside0.mk (hbox); have n3_ := Aside0.mk ((by rw [hg]; exact (below_size bl_) : w.heap.size ≤ gb216)); have n4_ := Aside0.mk ((by rw [hg]; exact (below_size bl_) : w.heap.size ≤ gb216)); have n5_ := Aside0.mk ((by rw [hg]; exact Nat.ne_of_lt (blk_lt (bk_ BK215)) : gb215 ≠ gb216)); have n6_ := Aside0.mk ((by rw [hg]; exact Nat.ne_of_gt (blk_lt (bk_ BK215)) : gb216 ≠ gb215)); clear BK215; clear HB; have BK215 := n0_; have HB := n1_; have BK216 := n2_; have GW216 := n3_; have GE216 := n4_; have NB215_216 := n5_; have NB216_215 := n6_; clear n0_ n1_ n2_ n3_ n4_ n5_ n6_; clear hb hbox hg; have hnb55 := NB215_216.out; have hnc55 := NB216_215.out; have hcz56_0 := cz_ BK215 0 (.string a0_0); have hcz56_1 := cz_ BK215 1 (.int .i64 a0_1); have hcz56_2 := cz_ BK215 2 (.int .i64 a0_2); have hcz56_3 := cz_ BK215 3 (.int .i64 a0_3); have hcz56_4 := cz_ BK215 4 (.int .i64 a0_4); have hcz56_5 := cz_ BK215 5 (.slice A0_5 l0_5.length c0_5); have hcz56_6 := cz_ BK215 6 (.int .i64 a0_6); have hcz56_7 := cz_ BK215 7 (.int .i64 a0_7); have hcz56_8 := cz_ BK215 8 (.slice A0_8 l0_8.length c0_8); have hcz56_9 := cz_ BK215 9 (.slice A0_9 l0_9.length c0_9); have hcz56_10 := cz_ BK215 10 (.slice A0_10 l0_10.length c0_10); have hfz56_0 := fz_ BK215 0; have hfz56_1 := fz_ BK215 1; have hfz56_2 := fz_ BK215 2; have hfz56_3 := fz_ BK215 3; have hfz56_4 := fz_ BK215 4; have hfz56_5 := fz_ BK215 5; have hfz56_6 := fz_ BK215 6; have hfz56_7 := fz_ BK215 7; have hfz56_8 := fz_ BK215 8; have hfz56_9 := fz_ BK215 9; have hfz56_10 := fz_ BK215 10; have hcz57_0 := cz_ BK216 0 (.string a1_0); have hcz57_1 := cz_ BK216 1 (.int .i64 a1_1); have hcz57_2 := cz_ BK216 2 (.int .i64 a1_2); have hcz57_3 := cz_ BK216 3 (.int .i64 a1_3); have hcz57_4 := cz_ BK216 4 (.int .i64 a1_4); have hcz57_5 := cz_ BK216 5 (.slice A1_5 l1_5.length c1_5); have hcz57_6 := cz_ BK216 6 (.int .i64 a1_6); have hcz57_7 := cz_ BK216 7 (.int .i64 a1_7); have hcz57_8 := cz_ BK216 8 (.slice A1_8 l1_8.length c1_8); have hcz57_9 := cz_ BK216 9 (.slice A1_9 l1_9.length c1_9); have hcz57_10 := cz_ BK216 10 (.slice A1_10 l1_10.length c1_10); have hfz57_0 := fz_ BK216 0; have hfz57_1 := fz_ BK216 1; have hfz57_2 := fz_ BK216 2; have hfz57_3 := fz_ BK216 3; have hfz57_4 := fz_ BK216 4; have hfz57_5 := fz_ BK216 5; have hfz57_6 := fz_ BK216 6; have hfz57_7 := fz_ BK216 7; have hfz57_8 := fz_ BK216 8; have hfz57_9 := fz_ BK216 9; have hfz57_10 := fz_ BK216 10))
    go_ret
    exact ⟨by first | rfl | (simp [errW_none, errW_some] <;> rfl) | (simp [*, errW_none, errW_some] <;> rfl), bl_⟩

end Go.Proofs.Ytcojjdfbdgpajaa.QFnExactAcctSame
