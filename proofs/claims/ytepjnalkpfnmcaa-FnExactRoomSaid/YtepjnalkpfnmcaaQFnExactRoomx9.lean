-- by my own printer (myprint.py, over the kit's print.py)
import Derived.Test.YtepjnalkpfnmcaaQFnExactRoomx0
import Derived.Test.YtepjnalkpfnmcaaQFnExactRoomx8
namespace Go.Proofs.Ytepjnalkpfnmcaa.QFnExactRoom
open Go.RowKit Go.Proofs.YtepjnalkpfnmcaaW.PrintWords Go.Proofs.YtepjnalkpfnmcaaW.PrintLast Go.Proofs.YtepjnalkpfnmcaaW.PrintMore
attribute [local go_sem] max2_int min2_int max_two min_two max_three min_three max_four min_four   -- for this text's walks alone
set_option linter.unusedVariables false
set_option linter.unusedSimpArgs false

attribute [local go_sem] my_geq my_leq my_gtr
/-! ### impl_Digits: function 206 -/
def impl_Digits.l0 : Nat → ByteArray → Int → Int → Option (Bool)
 | 0, _, _, _ => none
 | k + 1, x0, x5, x6 => if x6 < x5 then (if 0 ≤ x6 then (if x6 < (x0.size : Int) then (if (bt x0 x6) < 48 then (some false) else (if (bt x0 x6) > 57 then (some false) else (impl_Digits.l0 k x0 x5 (wrap64 (x6 + 1))))) else (none)) else (none)) else (some (x0.toList != ([] : List UInt8)))
def impl_Digits.f (k : Nat) (a0 : ByteArray) : Option (Bool) := impl_Digits.l0 k a0 (a0.size : Int) 0
theorem impl_Digits.mono_l : ∀ k, (∀ y0 y1 y2, LeO (impl_Digits.l0 k y0 y1 y2) (impl_Digits.l0 (k + 1) y0 y1 y2))
 | 0 => fun _ _ _ r h => by simp [impl_Digits.l0] at h
 | k + 1 => by
  have ih0 := impl_Digits.mono_l k
  ·intro y0 y1 y2
   unfold impl_Digits.l0
   repeat' first
   | (with_reducible exact ih0 _ _ _)
   | (with_reducible exact LeO.refl _)
   | (with_reducible exact LeO.none _)
   | (with_reducible refine LeO.ite ?_ ?_)
   | (with_reducible refine LeO.bind ?_ (fun _ => ?_))
   | exact ih0 _ _ _
   | exact LeO.none _
   | refine LeO.ite ?_ ?_
   | refine LeO.bind ?_ (fun _ => ?_)
theorem impl_Digits.mono : ∀ a0 k, LeO (impl_Digits.f k a0) (impl_Digits.f (k + 1) a0) := by
 intro a0 k
 have ih0 := impl_Digits.mono_l k
 unfold impl_Digits.f
 repeat' first
   | (with_reducible exact ih0 _ _ _)
   | (with_reducible exact LeO.refl _)
   | (with_reducible exact LeO.none _)
   | (with_reducible refine LeO.ite ?_ ?_)
   | (with_reducible refine LeO.bind ?_ (fun _ => ?_))
   | exact ih0 _ _ _
   | exact LeO.none _
   | refine LeO.ite ?_ ?_
   | refine LeO.bind ?_ (fun _ => ?_)
set_option maxHeartbeats 8000000 in
set_option maxRecDepth 100000 in
theorem impl_Digits.calls (k : Nat) (a0 : ByteArray) (r : Bool) (w : World) (h : impl_Digits.f k a0 = some r) :
  Calls Try.prog 206 #[.string a0] w fun e w' => e = .returned (.bool r) ∧ Drawn0 w w' := by
 have H : (impl_Digits.l0 k a0 (a0.size : Int) 0) = some r := h
 clear h
 have H' := Aside0.mk H
 clear H
 go_enter Try.func206, Try.ntmps206
 go_wp2
 go_loopg [6] k (fun kq v6 w' => ∃ (x6_1 : Int), v6 = .int .i64 x6_1 ∧ Aside0 (impl_Digits.l0 kq a0 (a0.size : Int) x6_1 = some r) ∧ Aside0 (kq ≤ k) ∧ Drawn0 w w')
 case atStart => exact ⟨(0), sp_, H', ⟨Nat.le_refl _⟩, by repeat (first | exact Drawn0.refl _ | apply Drawn0.step)⟩
 case round =>
  clear H'
  obtain ⟨x6_1, rfl, HA, HK1, ⟨m1, rfl⟩⟩ := hrel
  cases gk with
  | zero => exact absurd HA.out (by simp [impl_Digits.l0])
  | succ k1 =>
   have H := HA.out
   clear HA
   simp only [impl_Digits.l0] at H
   by_cases c2 : x6_1 < (a0.size : Int)
   ·rw [if_pos c2] at H
    have c2b0 : decide (x6_1 < (a0.size : Int)) = true := decide_eq_true c2
    clear c2
    by_cases c3 : 0 ≤ x6_1
    ·rw [if_pos c3] at H
     have c3b0 : decide (0 ≤ x6_1) = true := decide_eq_true c3
     clear c3
     by_cases c4 : x6_1 < (a0.size : Int)
     ·rw [if_pos c4] at H
      have c4b0 : decide (x6_1 < (a0.size : Int)) = true := decide_eq_true c4
      clear c4
      by_cases c6 : (bt a0 x6_1) < 48
      ·rw [if_pos c6] at H
       have c6b0 : decide ((bt a0 x6_1) < 48) = true := decide_eq_true c6
       clear c6
       obtain rfl := Option.some.inj H
       have p5 : 0 ≤ (x6_1 : Int) := od_
       have q5 : x6_1 < (a0.size : Int) := od_
       have hx5 := bt_at a0 x6_1
       replace p5 := eq_true p5
       replace q5 := eq_true q5
       go_wp2
       go_ret
       exact ⟨sp_, by repeat (first | exact Drawn0.refl _ | apply Drawn0.step)⟩
      ·rw [if_neg c6] at H
       have c6b0 : decide ((bt a0 x6_1) < 48) = false := decide_eq_false c6
       clear c6
       by_cases c8 : (bt a0 x6_1) > 57
       ·rw [if_pos c8] at H
        have c8b0 : decide (57 < (bt a0 x6_1)) = true := decide_eq_true c8
        clear c8
        obtain rfl := Option.some.inj H
        have p5 : 0 ≤ (x6_1 : Int) := od_
        have q5 : x6_1 < (a0.size : Int) := od_
        have hx5 := bt_at a0 x6_1
        replace p5 := eq_true p5
        replace q5 := eq_true q5
        have p7 : 0 ≤ (x6_1 : Int) := od_
        have q7 : x6_1 < (a0.size : Int) := od_
        have hx7 := bt_at a0 x6_1
        replace p7 := eq_true p7
        replace q7 := eq_true q7
        go_wp2
        go_ret
        exact ⟨sp_, by repeat (first | exact Drawn0.refl _ | apply Drawn0.step)⟩
       ·rw [if_neg c8] at H
        have c8b0 : decide (57 < (bt a0 x6_1)) = false := decide_eq_false c8
        clear c8
        have H' := Aside0.mk H
        clear H
        have p5 : 0 ≤ (x6_1 : Int) := od_
        have q5 : x6_1 < (a0.size : Int) := od_
        have hx5 := bt_at a0 x6_1
        replace p5 := eq_true p5
        replace q5 := eq_true q5
        have p7 : 0 ≤ (x6_1 : Int) := od_
        have q7 : x6_1 < (a0.size : Int) := od_
        have hx7 := bt_at a0 x6_1
        replace p7 := eq_true p7
        replace q7 := eq_true q7
        go_wp2
        go_roundg k1
        case measure => have := HK1.out; omega
        case rel => exact ⟨(wrap64 (x6_1 + 1)), sp_, H', ⟨by have := HK1.out; omega⟩, by repeat (first | exact Drawn0.refl _ | apply Drawn0.step)⟩
     ·rw [if_neg c4] at H
      exact absurd H (by simp)
    ·rw [if_neg c3] at H
     exact absurd H (by simp)
   ·rw [if_neg c2] at H
    have c2b0 : decide (x6_1 < (a0.size : Int)) = false := decide_eq_false c2
    clear c2
    obtain rfl := Option.some.inj H
    go_wp2
    go_ret
    exact ⟨sp_, by repeat (first | exact Drawn0.refl _ | apply Drawn0.step)⟩

/-! ### impl_isWide: function 189 -/
def impl_isWide.f (k : Nat) (a0 : ByteArray) (a1 : Int) : Option (Bool) := (impl_Digits.f k a0).bind fun t267 => (if t267 = true then (some ((a0.size : Int) == a1)) else (some false))
theorem impl_isWide.mono : ∀ a0 a1 k, LeO (impl_isWide.f k a0 a1) (impl_isWide.f (k + 1) a0 a1) := by
 intro a0 a1 k
 unfold impl_isWide.f
 repeat' first
   | (with_reducible exact impl_Digits.mono _ _)
   | (with_reducible exact LeO.refl _)
   | (with_reducible exact LeO.none _)
   | (with_reducible refine LeO.ite ?_ ?_)
   | (with_reducible refine LeO.bind ?_ (fun _ => ?_))
   | exact impl_Digits.mono _ _
   | exact LeO.none _
   | refine LeO.ite ?_ ?_
   | refine LeO.bind ?_ (fun _ => ?_)
set_option maxHeartbeats 8000000 in
set_option maxRecDepth 100000 in
theorem impl_isWide.calls (k : Nat) (a0 : ByteArray) (a1 : Int) (r : Bool) (w : World) (h : impl_isWide.f k a0 a1 = some r) :
  Calls Try.prog 189 #[.string a0, .int .i64 a1] w fun e w' => e = .returned (.bool r) ∧ Drawn0 w w' := by
 have H : ((impl_Digits.f k a0).bind fun t267 => (if t267 = true then (some ((a0.size : Int) == a1)) else (some false))) = some r := h
 clear h
 replace H := Option.bind_eq_some_iff.mp H
 obtain ⟨t267, A30, H⟩ := H
 replace H : (if t267 = true then (some ((a0.size : Int) == a1)) else (some false)) = some r := H
 have A3 := Aside0.mk A30
 clear A30
 by_cases c4 : t267 = true
 ·subst c4
  have H1 : (some ((a0.size : Int) == a1)) = some r := by rw [if_pos rfl] at H; exact H
  clear H
  have H := H1
  clear H1
  obtain rfl := Option.some.inj H
  go_enter Try.func189, Try.ntmps189
  go_wp2_with (first | ((with_reducible refine gate_callee (f := 206) rfl ?_); refine goesL_ (some 6) rfl rfl Try.func206 (by kernel_rfl) rfl #[.string a0] rfl gl_ ?_; (with_reducible refine (impl_Digits.calls k a0 true _ A3.out).mono ?_); rintro e w' ⟨rfl, ⟨nd, rfl⟩⟩; refine ⟨_, rfl, ?_⟩))
  go_ret
  exact ⟨sp_, by repeat (first | exact Drawn0.refl _ | apply Drawn0.step)⟩
 ·replace c4 := Bool.eq_false_iff.mpr c4
  subst c4
  have H1 : (some false) = some r := by rw [if_neg (show ¬ (false = true) by decide)] at H; exact H
  clear H
  have H := H1
  clear H1
  obtain rfl := Option.some.inj H
  go_enter Try.func189, Try.ntmps189
  go_wp2_with (first | ((with_reducible refine gate_callee (f := 206) rfl ?_); refine goesL_ (some 6) rfl rfl Try.func206 (by kernel_rfl) rfl #[.string a0] rfl gl_ ?_; (with_reducible refine (impl_Digits.calls k a0 false _ A3.out).mono ?_); rintro e w' ⟨rfl, ⟨nd, rfl⟩⟩; refine ⟨_, rfl, ?_⟩))
  go_ret
  exact ⟨sp_, by repeat (first | exact Drawn0.refl _ | apply Drawn0.step)⟩

/-! ### impl_SlotOk: function 164 -/
def impl_SlotOk.f (k : Nat) (a0_0 : ByteArray) (a0_1 : ByteArray) (l0_2 : List Int) : Option (Bool) := (impl_isWide.f k a0_0 6).bind fun t269 => (if t269 = true then ((impl_isWide.f k a0_1 4).bind fun t270 => (if t270 = true then ((impl_within.f (l0_2.length : Int) 1 200).bind fun t271 => (some t271)) else (some false))) else (some false))
theorem impl_SlotOk.mono : ∀ a0 a1 a2 k, LeO (impl_SlotOk.f k a0 a1 a2) (impl_SlotOk.f (k + 1) a0 a1 a2) := by
 intro a0 a1 a2 k
 unfold impl_SlotOk.f
 repeat' first
   | (with_reducible exact impl_isWide.mono _ _ _)
   | (with_reducible exact LeO.refl _)
   | (with_reducible exact LeO.none _)
   | (with_reducible refine LeO.ite ?_ ?_)
   | (with_reducible refine LeO.bind ?_ (fun _ => ?_))
   | exact impl_isWide.mono _ _ _
   | exact LeO.none _
   | refine LeO.ite ?_ ?_
   | refine LeO.bind ?_ (fun _ => ?_)
set_option maxHeartbeats 8000000 in
set_option maxRecDepth 100000 in
theorem impl_SlotOk.calls (k : Nat) (a0_0 : ByteArray) (a0_1 : ByteArray) (A0_2 : Option Addr) (c0_2 : Nat) (l0_2 : List Int) (r : Bool) (w : World) (hr0_2 : Kd.C (Kd.int .u8) w A0_2 l0_2.length l0_2) (hc0_2 : l0_2.length ≤ c0_2) (h : impl_SlotOk.f k a0_0 a0_1 l0_2 = some r) :
  Calls Try.prog 164 #[.agg #[.string a0_0, .string a0_1, .slice A0_2 l0_2.length c0_2]] w fun e w' => e = .returned (.bool r) ∧ Below w.heap.size w w' := by
 have hu74 := Try.underlying74
 have HR0_2 := Aside0.mk hr0_2
 have HC0_2 := Aside0.mk hc0_2
 clear hr0_2 hc0_2
 have HB := Aside0.mk (Below.refl w.heap.size w)
 have H : ((impl_isWide.f k a0_0 6).bind fun t269 => (if t269 = true then ((impl_isWide.f k a0_1 4).bind fun t270 => (if t270 = true then ((impl_within.f (l0_2.length : Int) 1 200).bind fun t271 => (some t271)) else (some false))) else (some false))) = some r := h
 clear h
 replace H := Option.bind_eq_some_iff.mp H
 obtain ⟨t269, A20, H⟩ := H
 replace H : (if t269 = true then ((impl_isWide.f k a0_1 4).bind fun t270 => (if t270 = true then ((impl_within.f (l0_2.length : Int) 1 200).bind fun t271 => (some t271)) else (some false))) else (some false)) = some r := H
 have A2 := Aside0.mk A20
 clear A20
 by_cases c3 : t269 = true
 ·subst c3
  have H1 : ((impl_isWide.f k a0_1 4).bind fun t270 => (if t270 = true then ((impl_within.f (l0_2.length : Int) 1 200).bind fun t271 => (some t271)) else (some false))) = some r := by rw [if_pos rfl] at H; exact H
  clear H
  have H := H1
  clear H1
  replace H := Option.bind_eq_some_iff.mp H
  obtain ⟨t270, A40, H⟩ := H
  replace H : (if t270 = true then ((impl_within.f (l0_2.length : Int) 1 200).bind fun t271 => (some t271)) else (some false)) = some r := H
  have A4 := Aside0.mk A40
  clear A40
  by_cases c5 : t270 = true
  ·subst c5
   have H1 : ((impl_within.f (l0_2.length : Int) 1 200).bind fun t271 => (some t271)) = some r := by rw [if_pos rfl] at H; exact H
   clear H
   have H := H1
   clear H1
   replace H := Option.bind_eq_some_iff.mp H
   obtain ⟨t271, A60, H⟩ := H
   replace H : (some t271) = some r := H
   have A6 := Aside0.mk A60
   clear A60
   obtain rfl := Option.some.inj H
   go_enter Try.func164, Try.ntmps164
   go_wp2_with (first | ((with_reducible refine gate_dst (N := 1) rfl ?_); (try (refine gate_guard (by rfl) ?_; dsimp only)); refine box_event ?hg (N := 1) ?hd (cs := #[.string a0_0, .string a0_1, .slice A0_2 l0_2.length c0_2]) (t := 74) ?hr ?_; (case hd => rfl); (case hg => rfl); (case hr => first | (go_simp; done) | (go_simp; rfl)); intro gb268 hg w7 hbox hb; have n0_ := Aside0.mk (below_step bl_ hb); have n1_ := Aside0.mk (hbox); have n2_ := gw_ (w := w) hg; have n3_ := gw_ (w := w) hg; clear HB; have HB := n0_; have BK268 := n1_; have GW268 := n2_; have GE268 := n3_; clear n0_ n1_ n2_ n3_; clear hb hbox hg; have hcz8_0 := cz_ BK268 0 (.string a0_0); have hcz8_1 := cz_ BK268 1 (.string a0_1); have hcz8_2 := cz_ BK268 2 (.slice A0_2 l0_2.length c0_2); have hfz8_0 := fz_ BK268 0; have hfz8_1 := fz_ BK268 1; have hfz8_2 := fz_ BK268 2) | ((with_reducible refine gate_callee (f := 189) rfl ?_); refine goesL_ (some 5) rfl rfl Try.func189 (by kernel_rfl) rfl #[.string a0_0, .int .i64 6] rfl gl_ ?_; (with_reducible refine (impl_isWide.calls k a0_0 6 true _ A2.out).mono ?_); rintro e w' ⟨rfl, ⟨nd, rfl⟩⟩; refine ⟨_, rfl, ?_⟩) | (go_at_call 189; (with_reducible refine (impl_isWide.calls k a0_1 4 true _ A4.out).mono ?_); rintro e w' ⟨rfl, ⟨nd, rfl⟩⟩) | (go_at_call 145; (with_reducible refine (impl_within.calls (l0_2.length : Int) 1 200 t271 _ A6.out).mono ?_); rintro e w' ⟨rfl, ⟨nd, rfl⟩⟩))
   go_ret
   exact ⟨sq_, bl_⟩
  ·replace c5 := Bool.eq_false_iff.mpr c5
   subst c5
   have H1 : (some false) = some r := by rw [if_neg (show ¬ (false = true) by decide)] at H; exact H
   clear H
   have H := H1
   clear H1
   obtain rfl := Option.some.inj H
   go_enter Try.func164, Try.ntmps164
   go_wp2_with (first | ((with_reducible refine gate_dst (N := 1) rfl ?_); (try (refine gate_guard (by rfl) ?_; dsimp only)); refine box_event ?hg (N := 1) ?hd (cs := #[.string a0_0, .string a0_1, .slice A0_2 l0_2.length c0_2]) (t := 74) ?hr ?_; (case hd => rfl); (case hg => rfl); (case hr => first | (go_simp; done) | (go_simp; rfl)); intro gb268 hg w9 hbox hb; have n0_ := Aside0.mk (below_step bl_ hb); have n1_ := Aside0.mk (hbox); have n2_ := gw_ (w := w) hg; have n3_ := gw_ (w := w) hg; clear HB; have HB := n0_; have BK268 := n1_; have GW268 := n2_; have GE268 := n3_; clear n0_ n1_ n2_ n3_; clear hb hbox hg; have hcz10_0 := cz_ BK268 0 (.string a0_0); have hcz10_1 := cz_ BK268 1 (.string a0_1); have hcz10_2 := cz_ BK268 2 (.slice A0_2 l0_2.length c0_2); have hfz10_0 := fz_ BK268 0; have hfz10_1 := fz_ BK268 1; have hfz10_2 := fz_ BK268 2) | ((with_reducible refine gate_callee (f := 189) rfl ?_); refine goesL_ (some 5) rfl rfl Try.func189 (by kernel_rfl) rfl #[.string a0_0, .int .i64 6] rfl gl_ ?_; (with_reducible refine (impl_isWide.calls k a0_0 6 true _ A2.out).mono ?_); rintro e w' ⟨rfl, ⟨nd, rfl⟩⟩; refine ⟨_, rfl, ?_⟩) | (go_at_call 189; (with_reducible refine (impl_isWide.calls k a0_1 4 false _ A4.out).mono ?_); rintro e w' ⟨rfl, ⟨nd, rfl⟩⟩))
   go_ret
   exact ⟨sq_, bl_⟩
 ·replace c3 := Bool.eq_false_iff.mpr c3
  subst c3
  have H1 : (some false) = some r := by rw [if_neg (show ¬ (false = true) by decide)] at H; exact H
  clear H
  have H := H1
  clear H1
  obtain rfl := Option.some.inj H
  go_enter Try.func164, Try.ntmps164
  go_wp2_with (first | ((with_reducible refine gate_dst (N := 1) rfl ?_); (try (refine gate_guard (by rfl) ?_; dsimp only)); refine box_event ?hg (N := 1) ?hd (cs := #[.string a0_0, .string a0_1, .slice A0_2 l0_2.length c0_2]) (t := 74) ?hr ?_; (case hd => rfl); (case hg => rfl); (case hr => first | (go_simp; done) | (go_simp; rfl)); intro gb268 hg w11 hbox hb; have n0_ := Aside0.mk (below_step bl_ hb); have n1_ := Aside0.mk (hbox); have n2_ := gw_ (w := w) hg; have n3_ := gw_ (w := w) hg; clear HB; have HB := n0_; have BK268 := n1_; have GW268 := n2_; have GE268 := n3_; clear n0_ n1_ n2_ n3_; clear hb hbox hg; have hcz12_0 := cz_ BK268 0 (.string a0_0); have hcz12_1 := cz_ BK268 1 (.string a0_1); have hcz12_2 := cz_ BK268 2 (.slice A0_2 l0_2.length c0_2); have hfz12_0 := fz_ BK268 0; have hfz12_1 := fz_ BK268 1; have hfz12_2 := fz_ BK268 2) | ((with_reducible refine gate_callee (f := 189) rfl ?_); refine goesL_ (some 5) rfl rfl Try.func189 (by kernel_rfl) rfl #[.string a0_0, .int .i64 6] rfl gl_ ?_; (with_reducible refine (impl_isWide.calls k a0_0 6 false _ A2.out).mono ?_); rintro e w' ⟨rfl, ⟨nd, rfl⟩⟩; refine ⟨_, rfl, ?_⟩))
  go_ret
  exact ⟨sq_, bl_⟩

/-! ### impl_SlotsOk: function 116 -/
def impl_SlotsOk.l0 : Nat → List (S74) → List (S74) → Int → Int → Option (Bool)
 | 0, _, _, _, _ => none
 | k + 1, x0, x5, x6, x7 => if x7 < x6 then (if 0 ≤ x7 then (if x7 < (x5.length : Int) then ((impl_SlotOk.f k ((rd_T74 x5 x7).f0) ((rd_T74 x5 x7).f1) ((rd_T74 x5 x7).f2)).bind fun t274 => (if t274 = true then ((impl_slotAt.f x0 ((rd_T74 x5 x7).f0) ((rd_T74 x5 x7).f1)).bind fun t275 => (if t275 = x7 then (impl_SlotsOk.l0 k x0 x5 x6 (wrap64 (x7 + 1))) else (some false))) else (some false))) else (none)) else (none)) else (some (decide ((x0.length : Int) ≤ 6)))
def impl_SlotsOk.f (k : Nat) (l0 : List (S74)) : Option (Bool) := impl_SlotsOk.l0 k l0 l0 (l0.length : Int) 0
theorem impl_SlotsOk.mono_l : ∀ k, (∀ y0 y1 y2 y3, LeO (impl_SlotsOk.l0 k y0 y1 y2 y3) (impl_SlotsOk.l0 (k + 1) y0 y1 y2 y3))
 | 0 => fun _ _ _ _ r h => by simp [impl_SlotsOk.l0] at h
 | k + 1 => by
  have ih0 := impl_SlotsOk.mono_l k
  ·intro y0 y1 y2 y3
   unfold impl_SlotsOk.l0
   repeat' first
   | (with_reducible exact ih0 _ _ _ _)
   | (with_reducible exact impl_SlotOk.mono _ _ _ _)
   | (with_reducible exact LeO.refl _)
   | (with_reducible exact LeO.none _)
   | (with_reducible refine LeO.ite ?_ ?_)
   | (with_reducible refine LeO.bind ?_ (fun _ => ?_))
   | exact ih0 _ _ _ _
   | exact impl_SlotOk.mono _ _ _ _
   | exact LeO.none _
   | refine LeO.ite ?_ ?_
   | refine LeO.bind ?_ (fun _ => ?_)
theorem impl_SlotsOk.mono : ∀ a0 k, LeO (impl_SlotsOk.f k a0) (impl_SlotsOk.f (k + 1) a0) := by
 intro a0 k
 have ih0 := impl_SlotsOk.mono_l k
 unfold impl_SlotsOk.f
 repeat' first
   | (with_reducible exact ih0 _ _ _ _)
   | (with_reducible exact impl_SlotOk.mono _ _ _ _)
   | (with_reducible exact LeO.refl _)
   | (with_reducible exact LeO.none _)
   | (with_reducible refine LeO.ite ?_ ?_)
   | (with_reducible refine LeO.bind ?_ (fun _ => ?_))
   | exact ih0 _ _ _ _
   | exact impl_SlotOk.mono _ _ _ _
   | exact LeO.none _
   | refine LeO.ite ?_ ?_
   | refine LeO.bind ?_ (fun _ => ?_)
set_option maxHeartbeats 8000000 in
set_option maxRecDepth 100000 in
theorem impl_SlotsOk.calls (k : Nat) (A0 : Option Addr) (c0 : Nat) (l0 : List (S74)) (r : Bool) (w : World) (hr0 : Kd.C k74 w A0 l0.length l0) (hc0 : l0.length ≤ c0) (h : impl_SlotsOk.f k l0 = some r) :
  Calls Try.prog 116 #[.slice A0 l0.length c0] w fun e w' => e = .returned (.bool r) ∧ Below w.heap.size w w' := by
 have hu74 := Try.underlying74
 have HR0 := Aside0.mk hr0
 have HC0 := Aside0.mk hc0
 clear hr0 hc0
 have HB := Aside0.mk (Below.refl w.heap.size w)
 have H : (impl_SlotsOk.l0 k l0 l0 (l0.length : Int) 0) = some r := h
 clear h
 have H' := Aside0.mk H
 clear H
 go_enter Try.func116, Try.ntmps116
 go_wp2
 go_loopg [7] k (fun kq v7 w' => ∃ (x7_1 : Int), v7 = .int .i64 x7_1 ∧ Aside0 (impl_SlotsOk.l0 kq l0 l0 (l0.length : Int) x7_1 = some r) ∧ Aside0 (kq ≤ k) ∧ Aside0 (Below w.heap.size w w'))
 case atStart => exact ⟨(0), sp_, H', ⟨Nat.le_refl _⟩, ⟨bl_⟩⟩
 case round =>
  clear H'
  try clear c1
  obtain ⟨x7_1, rfl, HA, HK1, HB⟩ := hrel
  cases gk with
  | zero => exact absurd HA.out (by simp [impl_SlotsOk.l0])
  | succ k1 =>
   have H := HA.out
   clear HA
   simp only [impl_SlotsOk.l0] at H
   by_cases c2 : x7_1 < (l0.length : Int)
   ·rw [if_pos c2] at H
    have c2b0 : decide (x7_1 < (l0.length : Int)) = true := decide_eq_true c2
    clear c2
    by_cases c3 : 0 ≤ x7_1
    ·rw [if_pos c3] at H
     have c3b0 : decide (0 ≤ x7_1) = true := decide_eq_true c3
     clear c3
     by_cases c4 : x7_1 < (l0.length : Int)
     ·rw [if_pos c4] at H
      have c4b0 : decide (x7_1 < (l0.length : Int)) = true := decide_eq_true c4
      clear c4
      replace H := Option.bind_eq_some_iff.mp H
      obtain ⟨t274, A50, H⟩ := H
      replace H : (if t274 = true then ((impl_slotAt.f l0 ((rd_T74 l0 x7_1).f0) ((rd_T74 l0 x7_1).f1)).bind fun t275 => (if t275 = x7_1 then (impl_SlotsOk.l0 k1 l0 l0 (l0.length : Int) (wrap64 (x7_1 + 1))) else (some false))) else (some false)) = some r := H
      have A5 := Aside0.mk A50
      clear A50
      by_cases c6 : t274 = true
      ·subst c6
       have H1 : ((impl_slotAt.f l0 ((rd_T74 l0 x7_1).f0) ((rd_T74 l0 x7_1).f1)).bind fun t275 => (if t275 = x7_1 then (impl_SlotsOk.l0 k1 l0 l0 (l0.length : Int) (wrap64 (x7_1 + 1))) else (some false))) = some r := by rw [if_pos rfl] at H; exact H
       clear H
       have H := H1
       clear H1
       replace H := Option.bind_eq_some_iff.mp H
       obtain ⟨t275, A70, H⟩ := H
       replace H : (if t275 = x7_1 then (impl_SlotsOk.l0 k1 l0 l0 (l0.length : Int) (wrap64 (x7_1 + 1))) else (some false)) = some r := H
       have A7 := Aside0.mk A70
       clear A70
       by_cases c8 : t275 = x7_1
       ·rw [if_pos c8] at H
        have c8b0 : (t275 == x7_1) = true := beq_iff_eq.mpr c8
        have c8b1 : (t275 != x7_1) = false := bne_eq_false_iff_eq.mpr c8
        clear c8
        have H' := Aside0.mk H
        clear H
        have p272 : 0 ≤ (x7_1 : Int) := od_
        have q272 : x7_1 < (l0.length : Int) := od_
        obtain ⟨ad272, A272_2, c272_2, e272, hx272_0, hx272_1, hx272_2, hl272_2, hi272_2⟩ := at_T74 HR0.out x7_1 p272 q272
        cases e272
        replace hx272_0 := kc_ HB hx272_0
        replace hx272_1 := kc_ HB hx272_1
        replace hx272_2 := kc_ HB hx272_2
        have HR272_2 := Aside0.mk hi272_2
        have HC272_2 := Aside0.mk hl272_2
        clear hi272_2 hl272_2
        replace p272 := eq_true p272
        replace q272 := eq_true q272
        go_wp2_with (first | ((with_reducible refine gate_dst (N := 4) rfl ?_); refine box_event ?hg (N := 4) ?hd (cs := #[.string (⟨#[]⟩ : ByteArray), .string (⟨#[]⟩ : ByteArray), .slice none 0 0]) (t := 74) ?hr ?_; (case hd => rfl); (case hg => rfl); (case hr => first | (go_simp; done) | (go_simp; rfl)); intro gb273 hg w9 hbox hb; have n0_ := Aside0.mk (below_step bl_ hb); have n1_ := Aside0.mk (hbox); have n2_ := gw_ (w := w) hg; have n3_ := gw_ (w := w) hg; clear HB; have HB := n0_; have BK273 := n1_; have GW273 := n2_; have GE273 := n3_; clear n0_ n1_ n2_ n3_; clear hb hbox hg; have hcz10_0 := cz_ BK273 0 (.string (⟨#[]⟩ : ByteArray)); have hcz10_1 := cz_ BK273 1 (.string (⟨#[]⟩ : ByteArray)); have hcz10_2 := cz_ BK273 2 (.slice none 0 0); have hfz10_0 := fz_ BK273 0; have hfz10_1 := fz_ BK273 1; have hfz10_2 := fz_ BK273 2) | ((with_reducible refine gate_callee (f := 164) rfl ?_); refine goesL_ (some 13) rfl rfl Try.func164 (by kernel_rfl) rfl #[.agg #[.string ((rd_T74 l0 x7_1).f0), .string ((rd_T74 l0 x7_1).f1), .slice A272_2 ((rd_T74 l0 x7_1).f2).length c272_2]] rfl gl_ ?_; (with_reducible refine (impl_SlotOk.calls k1 ((rd_T74 l0 x7_1).f0) ((rd_T74 l0 x7_1).f1) _ _ ((rd_T74 l0 x7_1).f2) true _ ?side1 ?side2 A5.out).mono ?_); (case side1 => exact Kd.C_below HR272_2.out bl_); (case side2 => exact HC272_2.out); rintro e w11 ⟨rfl, hb⟩; refine ⟨_, rfl, ?_⟩; have n0_ := Aside0.mk (blk_below (g := gb273) (o := .cells #[.string ((rd_T74 l0 x7_1).f0), .string ((rd_T74 l0 x7_1).f1), .slice A272_2 ((rd_T74 l0 x7_1).f2).length c272_2] 74 (0, 0)) (by (with_reducible repeat (first | refine blk_drewN ?_ _ | refine blk_drew ?_ | refine blk_alloc ?_ _)); refine blk_put (cs := #[.string ((rd_T74 l0 x7_1).f0), .string ((rd_T74 l0 x7_1).f1), .slice none 0 0]) ?_ 2 _ rfl; refine blk_put (cs := #[.string ((rd_T74 l0 x7_1).f0), .string (⟨#[]⟩ : ByteArray), .slice none 0 0]) ?_ 1 _ rfl; refine blk_put (cs := #[.string (⟨#[]⟩ : ByteArray), .string (⟨#[]⟩ : ByteArray), .slice none 0 0]) ?_ 0 _ rfl; (with_reducible repeat (first | refine blk_drewN ?_ _ | refine blk_drew ?_ | refine blk_alloc ?_ _)); exact BK273.out) hb); have n1_ := Aside0.mk (below_step bl_ hb); clear BK273; clear HB; have BK273 := n0_; have HB := n1_; clear n0_ n1_; (try clear hb); (try clear hb2); (try clear hk); (try clear hi); have hcz12_0 := cz_ BK273 0 (.string ((rd_T74 l0 x7_1).f0)); have hcz12_1 := cz_ BK273 1 (.string ((rd_T74 l0 x7_1).f1)); have hcz12_2 := cz_ BK273 2 (.slice A272_2 ((rd_T74 l0 x7_1).f2).length c272_2); have hfz12_0 := fz_ BK273 0; have hfz12_1 := fz_ BK273 1; have hfz12_2 := fz_ BK273 2) | (go_at_call 108; (with_reducible refine (impl_slotAt.calls _ _ l0 ((rd_T74 l0 x7_1).f0) ((rd_T74 l0 x7_1).f1) t275 _ ?side1 ?side2 A7.out).mono ?_); (case side1 => exact ca_ (Kd.C_below HR0.out HB.out)); (case side2 => exact HC0.out); rintro e w13 ⟨rfl, hb⟩; have n0_ := Aside0.mk (blk_below (bk_ BK273) hb); have n1_ := Aside0.mk (below_step bl_ hb); clear BK273; clear HB; have BK273 := n0_; have HB := n1_; clear n0_ n1_; (try clear hb); (try clear hb2); (try clear hk); (try clear hi)))
        go_roundg k1
        case measure => have := HK1.out; omega
        case rel => exact ⟨(wrap64 (x7_1 + 1)), sp_, H', ⟨by have := HK1.out; omega⟩, ⟨bl_⟩⟩
       ·rw [if_neg c8] at H
        have c8b0 : (t275 == x7_1) = false := beq_eq_false_iff_ne.mpr c8
        have c8b1 : (t275 != x7_1) = true := bne_iff_ne.mpr c8
        obtain rfl := Option.some.inj H
        have p272 : 0 ≤ (x7_1 : Int) := od_
        have q272 : x7_1 < (l0.length : Int) := od_
        obtain ⟨ad272, A272_2, c272_2, e272, hx272_0, hx272_1, hx272_2, hl272_2, hi272_2⟩ := at_T74 HR0.out x7_1 p272 q272
        cases e272
        replace hx272_0 := kc_ HB hx272_0
        replace hx272_1 := kc_ HB hx272_1
        replace hx272_2 := kc_ HB hx272_2
        have HR272_2 := Aside0.mk hi272_2
        have HC272_2 := Aside0.mk hl272_2
        clear hi272_2 hl272_2
        replace p272 := eq_true p272
        replace q272 := eq_true q272
        go_wp2_with (first | ((with_reducible refine gate_dst (N := 4) rfl ?_); refine box_event ?hg (N := 4) ?hd (cs := #[.string (⟨#[]⟩ : ByteArray), .string (⟨#[]⟩ : ByteArray), .slice none 0 0]) (t := 74) ?hr ?_; (case hd => rfl); (case hg => rfl); (case hr => first | (go_simp; done) | (go_simp; rfl)); intro gb273 hg w14 hbox hb; have n0_ := Aside0.mk (below_step bl_ hb); have n1_ := Aside0.mk (hbox); have n2_ := gw_ (w := w) hg; have n3_ := gw_ (w := w) hg; clear HB; have HB := n0_; have BK273 := n1_; have GW273 := n2_; have GE273 := n3_; clear n0_ n1_ n2_ n3_; clear hb hbox hg; have hcz15_0 := cz_ BK273 0 (.string (⟨#[]⟩ : ByteArray)); have hcz15_1 := cz_ BK273 1 (.string (⟨#[]⟩ : ByteArray)); have hcz15_2 := cz_ BK273 2 (.slice none 0 0); have hfz15_0 := fz_ BK273 0; have hfz15_1 := fz_ BK273 1; have hfz15_2 := fz_ BK273 2) | ((with_reducible refine gate_callee (f := 164) rfl ?_); refine goesL_ (some 13) rfl rfl Try.func164 (by kernel_rfl) rfl #[.agg #[.string ((rd_T74 l0 x7_1).f0), .string ((rd_T74 l0 x7_1).f1), .slice A272_2 ((rd_T74 l0 x7_1).f2).length c272_2]] rfl gl_ ?_; (with_reducible refine (impl_SlotOk.calls k1 ((rd_T74 l0 x7_1).f0) ((rd_T74 l0 x7_1).f1) _ _ ((rd_T74 l0 x7_1).f2) true _ ?side1 ?side2 A5.out).mono ?_); (case side1 => exact Kd.C_below HR272_2.out bl_); (case side2 => exact HC272_2.out); rintro e w16 ⟨rfl, hb⟩; refine ⟨_, rfl, ?_⟩; have n0_ := Aside0.mk (blk_below (g := gb273) (o := .cells #[.string ((rd_T74 l0 x7_1).f0), .string ((rd_T74 l0 x7_1).f1), .slice A272_2 ((rd_T74 l0 x7_1).f2).length c272_2] 74 (0, 0)) (by (with_reducible repeat (first | refine blk_drewN ?_ _ | refine blk_drew ?_ | refine blk_alloc ?_ _)); refine blk_put (cs := #[.string ((rd_T74 l0 x7_1).f0), .string ((rd_T74 l0 x7_1).f1), .slice none 0 0]) ?_ 2 _ rfl; refine blk_put (cs := #[.string ((rd_T74 l0 x7_1).f0), .string (⟨#[]⟩ : ByteArray), .slice none 0 0]) ?_ 1 _ rfl; refine blk_put (cs := #[.string (⟨#[]⟩ : ByteArray), .string (⟨#[]⟩ : ByteArray), .slice none 0 0]) ?_ 0 _ rfl; (with_reducible repeat (first | refine blk_drewN ?_ _ | refine blk_drew ?_ | refine blk_alloc ?_ _)); exact BK273.out) hb); have n1_ := Aside0.mk (below_step bl_ hb); clear BK273; clear HB; have BK273 := n0_; have HB := n1_; clear n0_ n1_; (try clear hb); (try clear hb2); (try clear hk); (try clear hi); have hcz17_0 := cz_ BK273 0 (.string ((rd_T74 l0 x7_1).f0)); have hcz17_1 := cz_ BK273 1 (.string ((rd_T74 l0 x7_1).f1)); have hcz17_2 := cz_ BK273 2 (.slice A272_2 ((rd_T74 l0 x7_1).f2).length c272_2); have hfz17_0 := fz_ BK273 0; have hfz17_1 := fz_ BK273 1; have hfz17_2 := fz_ BK273 2) | (go_at_call 108; (with_reducible refine (impl_slotAt.calls _ _ l0 ((rd_T74 l0 x7_1).f0) ((rd_T74 l0 x7_1).f1) t275 _ ?side1 ?side2 A7.out).mono ?_); (case side1 => exact ca_ (Kd.C_below HR0.out HB.out)); (case side2 => exact HC0.out); rintro e w18 ⟨rfl, hb⟩; have n0_ := Aside0.mk (blk_below (bk_ BK273) hb); have n1_ := Aside0.mk (below_step bl_ hb); clear BK273; clear HB; have BK273 := n0_; have HB := n1_; clear n0_ n1_; (try clear hb); (try clear hb2); (try clear hk); (try clear hi)))
        go_ret
        exact ⟨sq_, bl_⟩
      ·replace c6 := Bool.eq_false_iff.mpr c6
       subst c6
       have H1 : (some false) = some r := by rw [if_neg (show ¬ (false = true) by decide)] at H; exact H
       clear H
       have H := H1
       clear H1
       obtain rfl := Option.some.inj H
       have p272 : 0 ≤ (x7_1 : Int) := od_
       have q272 : x7_1 < (l0.length : Int) := od_
       obtain ⟨ad272, A272_2, c272_2, e272, hx272_0, hx272_1, hx272_2, hl272_2, hi272_2⟩ := at_T74 HR0.out x7_1 p272 q272
       cases e272
       replace hx272_0 := kc_ HB hx272_0
       replace hx272_1 := kc_ HB hx272_1
       replace hx272_2 := kc_ HB hx272_2
       have HR272_2 := Aside0.mk hi272_2
       have HC272_2 := Aside0.mk hl272_2
       clear hi272_2 hl272_2
       replace p272 := eq_true p272
       replace q272 := eq_true q272
       go_wp2_with (first | ((with_reducible refine gate_dst (N := 4) rfl ?_); refine box_event ?hg (N := 4) ?hd (cs := #[.string (⟨#[]⟩ : ByteArray), .string (⟨#[]⟩ : ByteArray), .slice none 0 0]) (t := 74) ?hr ?_; (case hd => rfl); (case hg => rfl); (case hr => first | (go_simp; done) | (go_simp; rfl)); intro gb273 hg w19 hbox hb; have n0_ := Aside0.mk (below_step bl_ hb); have n1_ := Aside0.mk (hbox); have n2_ := gw_ (w := w) hg; have n3_ := gw_ (w := w) hg; clear HB; have HB := n0_; have BK273 := n1_; have GW273 := n2_; have GE273 := n3_; clear n0_ n1_ n2_ n3_; clear hb hbox hg; have hcz20_0 := cz_ BK273 0 (.string (⟨#[]⟩ : ByteArray)); have hcz20_1 := cz_ BK273 1 (.string (⟨#[]⟩ : ByteArray)); have hcz20_2 := cz_ BK273 2 (.slice none 0 0); have hfz20_0 := fz_ BK273 0; have hfz20_1 := fz_ BK273 1; have hfz20_2 := fz_ BK273 2) | ((with_reducible refine gate_callee (f := 164) rfl ?_); refine goesL_ (some 13) rfl rfl Try.func164 (by kernel_rfl) rfl #[.agg #[.string ((rd_T74 l0 x7_1).f0), .string ((rd_T74 l0 x7_1).f1), .slice A272_2 ((rd_T74 l0 x7_1).f2).length c272_2]] rfl gl_ ?_; (with_reducible refine (impl_SlotOk.calls k1 ((rd_T74 l0 x7_1).f0) ((rd_T74 l0 x7_1).f1) _ _ ((rd_T74 l0 x7_1).f2) false _ ?side1 ?side2 A5.out).mono ?_); (case side1 => exact Kd.C_below HR272_2.out bl_); (case side2 => exact HC272_2.out); rintro e w21 ⟨rfl, hb⟩; refine ⟨_, rfl, ?_⟩; have n0_ := Aside0.mk (blk_below (g := gb273) (o := .cells #[.string ((rd_T74 l0 x7_1).f0), .string ((rd_T74 l0 x7_1).f1), .slice A272_2 ((rd_T74 l0 x7_1).f2).length c272_2] 74 (0, 0)) (by (with_reducible repeat (first | refine blk_drewN ?_ _ | refine blk_drew ?_ | refine blk_alloc ?_ _)); refine blk_put (cs := #[.string ((rd_T74 l0 x7_1).f0), .string ((rd_T74 l0 x7_1).f1), .slice none 0 0]) ?_ 2 _ rfl; refine blk_put (cs := #[.string ((rd_T74 l0 x7_1).f0), .string (⟨#[]⟩ : ByteArray), .slice none 0 0]) ?_ 1 _ rfl; refine blk_put (cs := #[.string (⟨#[]⟩ : ByteArray), .string (⟨#[]⟩ : ByteArray), .slice none 0 0]) ?_ 0 _ rfl; (with_reducible repeat (first | refine blk_drewN ?_ _ | refine blk_drew ?_ | refine blk_alloc ?_ _)); exact BK273.out) hb); have n1_ := Aside0.mk (below_step bl_ hb); clear BK273; clear HB; have BK273 := n0_; have HB := n1_; clear n0_ n1_; (try clear hb); (try clear hb2); (try clear hk); (try clear hi)))
       go_ret
       exact ⟨sq_, bl_⟩
     ·rw [if_neg c4] at H
      exact absurd H (by simp)
    ·rw [if_neg c3] at H
     exact absurd H (by simp)
   ·rw [if_neg c2] at H
    have c2b0 : decide (x7_1 < (l0.length : Int)) = false := decide_eq_false c2
    clear c2
    obtain rfl := Option.some.inj H
    go_wp2
    go_ret
    exact ⟨sq_, bl_⟩

/-! ### impl_isTime: function 92 -/
def impl_isTime.f (a0 : Int) : Option (Bool) := (impl_within.f a0 0 1000000000).bind fun t276 => (some t276)
set_option maxHeartbeats 8000000 in
set_option maxRecDepth 100000 in
theorem impl_isTime.calls (a0 : Int) (r : Bool) (w : World) (h : impl_isTime.f a0 = some r) :
  Calls Try.prog 92 #[.int .i64 a0] w fun e w' => e = .returned (.bool r) ∧ Drawn0 w w' := by
 have H : ((impl_within.f a0 0 1000000000).bind fun t276 => (some t276)) = some r := h
 clear h
 replace H := Option.bind_eq_some_iff.mp H
 obtain ⟨t276, A20, H⟩ := H
 replace H : (some t276) = some r := H
 have A2 := Aside0.mk A20
 clear A20
 obtain rfl := Option.some.inj H
 go_enter Try.func92, Try.ntmps92
 go_wp2_with (first | ((with_reducible refine gate_callee (f := 145) rfl ?_); refine goesL_ (some 4) rfl rfl Try.func145 (by kernel_rfl) rfl #[.int .i64 a0, .int .i64 0, .int .i64 1000000000] rfl gl_ ?_; (with_reducible refine (impl_within.calls a0 0 1000000000 t276 _ A2.out).mono ?_); rintro e w' ⟨rfl, ⟨nd, rfl⟩⟩; refine ⟨_, rfl, ?_⟩))
 go_ret
 exact ⟨sp_, by repeat (first | exact Drawn0.refl _ | apply Drawn0.step)⟩

/-! ### impl_HoldIdOk: function 191 -/
def impl_HoldIdOk.l0 : Nat → ByteArray → Int → Int → Option (Bool)
 | 0, _, _, _ => none
 | k + 1, x0, x5, x6 => if x6 < x5 then (if 0 ≤ x6 then (if x6 < (x0.size : Int) then (if (bt x0 x6) < 48 then (if (bt x0 x6) < 97 then (some false) else (if (bt x0 x6) > 122 then (some false) else (impl_HoldIdOk.l0 k x0 x5 (wrap64 (x6 + 1))))) else (if (bt x0 x6) > 57 then (if (bt x0 x6) < 97 then (some false) else (if (bt x0 x6) > 122 then (some false) else (impl_HoldIdOk.l0 k x0 x5 (wrap64 (x6 + 1))))) else (impl_HoldIdOk.l0 k x0 x5 (wrap64 (x6 + 1))))) else (none)) else (none)) else ((impl_within.f (x0.size : Int) 1 6).bind fun t277 => (some t277))
def impl_HoldIdOk.f (k : Nat) (a0 : ByteArray) : Option (Bool) := impl_HoldIdOk.l0 k a0 (a0.size : Int) 0
theorem impl_HoldIdOk.mono_l : ∀ k, (∀ y0 y1 y2, LeO (impl_HoldIdOk.l0 k y0 y1 y2) (impl_HoldIdOk.l0 (k + 1) y0 y1 y2))
 | 0 => fun _ _ _ r h => by simp [impl_HoldIdOk.l0] at h
 | k + 1 => by
  have ih0 := impl_HoldIdOk.mono_l k
  ·intro y0 y1 y2
   unfold impl_HoldIdOk.l0
   repeat' first
   | (with_reducible exact ih0 _ _ _)
   | (with_reducible exact LeO.refl _)
   | (with_reducible exact LeO.none _)
   | (with_reducible refine LeO.ite ?_ ?_)
   | (with_reducible refine LeO.bind ?_ (fun _ => ?_))
   | exact ih0 _ _ _
   | exact LeO.none _
   | refine LeO.ite ?_ ?_
   | refine LeO.bind ?_ (fun _ => ?_)
theorem impl_HoldIdOk.mono : ∀ a0 k, LeO (impl_HoldIdOk.f k a0) (impl_HoldIdOk.f (k + 1) a0) := by
 intro a0 k
 have ih0 := impl_HoldIdOk.mono_l k
 unfold impl_HoldIdOk.f
 repeat' first
   | (with_reducible exact ih0 _ _ _)
   | (with_reducible exact LeO.refl _)
   | (with_reducible exact LeO.none _)
   | (with_reducible refine LeO.ite ?_ ?_)
   | (with_reducible refine LeO.bind ?_ (fun _ => ?_))
   | exact ih0 _ _ _
   | exact LeO.none _
   | refine LeO.ite ?_ ?_
   | refine LeO.bind ?_ (fun _ => ?_)
set_option maxHeartbeats 8000000 in
set_option maxRecDepth 100000 in
theorem impl_HoldIdOk.calls (k : Nat) (a0 : ByteArray) (r : Bool) (w : World) (h : impl_HoldIdOk.f k a0 = some r) :
  Calls Try.prog 191 #[.string a0] w fun e w' => e = .returned (.bool r) ∧ Drawn0 w w' := by
 have H : (impl_HoldIdOk.l0 k a0 (a0.size : Int) 0) = some r := h
 clear h
 have H' := Aside0.mk H
 clear H
 go_enter Try.func191, Try.ntmps191
 go_wp2
 go_loopg [6] k (fun kq v6 w' => ∃ (x6_1 : Int), v6 = .int .i64 x6_1 ∧ Aside0 (impl_HoldIdOk.l0 kq a0 (a0.size : Int) x6_1 = some r) ∧ Aside0 (kq ≤ k) ∧ Drawn0 w w')
 case atStart => exact ⟨(0), sp_, H', ⟨Nat.le_refl _⟩, by repeat (first | exact Drawn0.refl _ | apply Drawn0.step)⟩
 case round =>
  clear H'
  try clear c1
  obtain ⟨x6_1, rfl, HA, HK1, ⟨m1, rfl⟩⟩ := hrel
  cases gk with
  | zero => exact absurd HA.out (by simp [impl_HoldIdOk.l0])
  | succ k1 =>
   have H := HA.out
   clear HA
   simp only [impl_HoldIdOk.l0] at H
   by_cases c2 : x6_1 < (a0.size : Int)
   ·rw [if_pos c2] at H
    have c2b0 : decide (x6_1 < (a0.size : Int)) = true := decide_eq_true c2
    clear c2
    by_cases c3 : 0 ≤ x6_1
    ·rw [if_pos c3] at H
     have c3b0 : decide (0 ≤ x6_1) = true := decide_eq_true c3
     clear c3
     by_cases c4 : x6_1 < (a0.size : Int)
     ·rw [if_pos c4] at H
      have c4b0 : decide (x6_1 < (a0.size : Int)) = true := decide_eq_true c4
      clear c4
      by_cases c6 : (bt a0 x6_1) < 48
      ·rw [if_pos c6] at H
       have c6b0 : decide ((bt a0 x6_1) < 48) = true := decide_eq_true c6
       clear c6
       by_cases c8 : (bt a0 x6_1) < 97
       ·rw [if_pos c8] at H
        have c8b0 : decide ((bt a0 x6_1) < 97) = true := decide_eq_true c8
        clear c8
        obtain rfl := Option.some.inj H
        have p5 : 0 ≤ (x6_1 : Int) := od_
        have q5 : x6_1 < (a0.size : Int) := od_
        have hx5 := bt_at a0 x6_1
        replace p5 := eq_true p5
        replace q5 := eq_true q5
        have p7 : 0 ≤ (x6_1 : Int) := od_
        have q7 : x6_1 < (a0.size : Int) := od_
        have hx7 := bt_at a0 x6_1
        replace p7 := eq_true p7
        replace q7 := eq_true q7
        go_wp2
        go_ret
        exact ⟨sp_, by repeat (first | exact Drawn0.refl _ | apply Drawn0.step)⟩
       ·rw [if_neg c8] at H
        have c8b0 : decide ((bt a0 x6_1) < 97) = false := decide_eq_false c8
        clear c8
        by_cases c10 : (bt a0 x6_1) > 122
        ·rw [if_pos c10] at H
         have c10b0 : decide (122 < (bt a0 x6_1)) = true := decide_eq_true c10
         clear c10
         obtain rfl := Option.some.inj H
         have p5 : 0 ≤ (x6_1 : Int) := od_
         have q5 : x6_1 < (a0.size : Int) := od_
         have hx5 := bt_at a0 x6_1
         replace p5 := eq_true p5
         replace q5 := eq_true q5
         have p7 : 0 ≤ (x6_1 : Int) := od_
         have q7 : x6_1 < (a0.size : Int) := od_
         have hx7 := bt_at a0 x6_1
         replace p7 := eq_true p7
         replace q7 := eq_true q7
         have p9 : 0 ≤ (x6_1 : Int) := od_
         have q9 : x6_1 < (a0.size : Int) := od_
         have hx9 := bt_at a0 x6_1
         replace p9 := eq_true p9
         replace q9 := eq_true q9
         go_wp2
         go_ret
         exact ⟨sp_, by repeat (first | exact Drawn0.refl _ | apply Drawn0.step)⟩
        ·rw [if_neg c10] at H
         have c10b0 : decide (122 < (bt a0 x6_1)) = false := decide_eq_false c10
         clear c10
         have H' := Aside0.mk H
         clear H
         have p5 : 0 ≤ (x6_1 : Int) := od_
         have q5 : x6_1 < (a0.size : Int) := od_
         have hx5 := bt_at a0 x6_1
         replace p5 := eq_true p5
         replace q5 := eq_true q5
         have p7 : 0 ≤ (x6_1 : Int) := od_
         have q7 : x6_1 < (a0.size : Int) := od_
         have hx7 := bt_at a0 x6_1
         replace p7 := eq_true p7
         replace q7 := eq_true q7
         have p9 : 0 ≤ (x6_1 : Int) := od_
         have q9 : x6_1 < (a0.size : Int) := od_
         have hx9 := bt_at a0 x6_1
         replace p9 := eq_true p9
         replace q9 := eq_true q9
         go_wp2
         go_roundg k1
         case measure => have := HK1.out; omega
         case rel => exact ⟨(wrap64 (x6_1 + 1)), sp_, H', ⟨by have := HK1.out; omega⟩, by repeat (first | exact Drawn0.refl _ | apply Drawn0.step)⟩
      ·rw [if_neg c6] at H
       have c6b0 : decide ((bt a0 x6_1) < 48) = false := decide_eq_false c6
       clear c6
       by_cases c12 : (bt a0 x6_1) > 57
       ·rw [if_pos c12] at H
        have c12b0 : decide (57 < (bt a0 x6_1)) = true := decide_eq_true c12
        clear c12
        by_cases c14 : (bt a0 x6_1) < 97
        ·rw [if_pos c14] at H
         have c14b0 : decide ((bt a0 x6_1) < 97) = true := decide_eq_true c14
         clear c14
         obtain rfl := Option.some.inj H
         have p5 : 0 ≤ (x6_1 : Int) := od_
         have q5 : x6_1 < (a0.size : Int) := od_
         have hx5 := bt_at a0 x6_1
         replace p5 := eq_true p5
         replace q5 := eq_true q5
         have p11 : 0 ≤ (x6_1 : Int) := od_
         have q11 : x6_1 < (a0.size : Int) := od_
         have hx11 := bt_at a0 x6_1
         replace p11 := eq_true p11
         replace q11 := eq_true q11
         have p13 : 0 ≤ (x6_1 : Int) := od_
         have q13 : x6_1 < (a0.size : Int) := od_
         have hx13 := bt_at a0 x6_1
         replace p13 := eq_true p13
         replace q13 := eq_true q13
         go_wp2
         go_ret
         exact ⟨sp_, by repeat (first | exact Drawn0.refl _ | apply Drawn0.step)⟩
        ·rw [if_neg c14] at H
         have c14b0 : decide ((bt a0 x6_1) < 97) = false := decide_eq_false c14
         clear c14
         by_cases c16 : (bt a0 x6_1) > 122
         ·rw [if_pos c16] at H
          have c16b0 : decide (122 < (bt a0 x6_1)) = true := decide_eq_true c16
          clear c16
          obtain rfl := Option.some.inj H
          have p5 : 0 ≤ (x6_1 : Int) := od_
          have q5 : x6_1 < (a0.size : Int) := od_
          have hx5 := bt_at a0 x6_1
          replace p5 := eq_true p5
          replace q5 := eq_true q5
          have p11 : 0 ≤ (x6_1 : Int) := od_
          have q11 : x6_1 < (a0.size : Int) := od_
          have hx11 := bt_at a0 x6_1
          replace p11 := eq_true p11
          replace q11 := eq_true q11
          have p13 : 0 ≤ (x6_1 : Int) := od_
          have q13 : x6_1 < (a0.size : Int) := od_
          have hx13 := bt_at a0 x6_1
          replace p13 := eq_true p13
          replace q13 := eq_true q13
          have p15 : 0 ≤ (x6_1 : Int) := od_
          have q15 : x6_1 < (a0.size : Int) := od_
          have hx15 := bt_at a0 x6_1
          replace p15 := eq_true p15
          replace q15 := eq_true q15
          go_wp2
          go_ret
          exact ⟨sp_, by repeat (first | exact Drawn0.refl _ | apply Drawn0.step)⟩
         ·rw [if_neg c16] at H
          have c16b0 : decide (122 < (bt a0 x6_1)) = false := decide_eq_false c16
          clear c16
          have H' := Aside0.mk H
          clear H
          have p5 : 0 ≤ (x6_1 : Int) := od_
          have q5 : x6_1 < (a0.size : Int) := od_
          have hx5 := bt_at a0 x6_1
          replace p5 := eq_true p5
          replace q5 := eq_true q5
          have p11 : 0 ≤ (x6_1 : Int) := od_
          have q11 : x6_1 < (a0.size : Int) := od_
          have hx11 := bt_at a0 x6_1
          replace p11 := eq_true p11
          replace q11 := eq_true q11
          have p13 : 0 ≤ (x6_1 : Int) := od_
          have q13 : x6_1 < (a0.size : Int) := od_
          have hx13 := bt_at a0 x6_1
          replace p13 := eq_true p13
          replace q13 := eq_true q13
          have p15 : 0 ≤ (x6_1 : Int) := od_
          have q15 : x6_1 < (a0.size : Int) := od_
          have hx15 := bt_at a0 x6_1
          replace p15 := eq_true p15
          replace q15 := eq_true q15
          go_wp2
          go_roundg k1
          case measure => have := HK1.out; omega
          case rel => exact ⟨(wrap64 (x6_1 + 1)), sp_, H', ⟨by have := HK1.out; omega⟩, by repeat (first | exact Drawn0.refl _ | apply Drawn0.step)⟩
       ·rw [if_neg c12] at H
        have c12b0 : decide (57 < (bt a0 x6_1)) = false := decide_eq_false c12
        clear c12
        have H' := Aside0.mk H
        clear H
        have p5 : 0 ≤ (x6_1 : Int) := od_
        have q5 : x6_1 < (a0.size : Int) := od_
        have hx5 := bt_at a0 x6_1
        replace p5 := eq_true p5
        replace q5 := eq_true q5
        have p11 : 0 ≤ (x6_1 : Int) := od_
        have q11 : x6_1 < (a0.size : Int) := od_
        have hx11 := bt_at a0 x6_1
        replace p11 := eq_true p11
        replace q11 := eq_true q11
        go_wp2
        go_roundg k1
        case measure => have := HK1.out; omega
        case rel => exact ⟨(wrap64 (x6_1 + 1)), sp_, H', ⟨by have := HK1.out; omega⟩, by repeat (first | exact Drawn0.refl _ | apply Drawn0.step)⟩
     ·rw [if_neg c4] at H
      exact absurd H (by simp)
    ·rw [if_neg c3] at H
     exact absurd H (by simp)
   ·rw [if_neg c2] at H
    have c2b0 : decide (x6_1 < (a0.size : Int)) = false := decide_eq_false c2
    clear c2
    replace H := Option.bind_eq_some_iff.mp H
    obtain ⟨t277, A170, H⟩ := H
    replace H : (some t277) = some r := H
    have A17 := Aside0.mk A170
    clear A170
    obtain rfl := Option.some.inj H
    go_wp2_with (first | ((with_reducible refine gate_callee (f := 145) rfl ?_); refine goesL_ (some 34) rfl rfl Try.func145 (by kernel_rfl) rfl #[.int .i64 (a0.size : Int), .int .i64 1, .int .i64 6] rfl gl_ ?_; (with_reducible refine (impl_within.calls (a0.size : Int) 1 6 t277 _ A17.out).mono ?_); rintro e w' ⟨rfl, ⟨nd, rfl⟩⟩; refine ⟨_, rfl, ?_⟩))
    go_ret
    exact ⟨sp_, by repeat (first | exact Drawn0.refl _ | apply Drawn0.step)⟩

/-! ### impl_HoldOk: function 167 -/
def impl_HoldOk.f (k : Nat) (a0_0 : ByteArray) (a0_1 : Int) (a0_2 : Int) : Option (Bool) := (impl_HoldIdOk.f k a0_0).bind fun t279 => (if t279 = true then ((impl_within.f a0_1 1 9007199254740992).bind fun t280 => (if t280 = true then ((impl_isTime.f a0_2).bind fun t281 => (some t281)) else (some false))) else (some false))
theorem impl_HoldOk.mono : ∀ a0 a1 a2 k, LeO (impl_HoldOk.f k a0 a1 a2) (impl_HoldOk.f (k + 1) a0 a1 a2) := by
 intro a0 a1 a2 k
 unfold impl_HoldOk.f
 repeat' first
   | (with_reducible exact impl_HoldIdOk.mono _ _)
   | (with_reducible exact LeO.refl _)
   | (with_reducible exact LeO.none _)
   | (with_reducible refine LeO.ite ?_ ?_)
   | (with_reducible refine LeO.bind ?_ (fun _ => ?_))
   | exact impl_HoldIdOk.mono _ _
   | exact LeO.none _
   | refine LeO.ite ?_ ?_
   | refine LeO.bind ?_ (fun _ => ?_)
set_option maxHeartbeats 8000000 in
set_option maxRecDepth 100000 in
theorem impl_HoldOk.calls (k : Nat) (a0_0 : ByteArray) (a0_1 : Int) (a0_2 : Int) (r : Bool) (w : World) (h : impl_HoldOk.f k a0_0 a0_1 a0_2 = some r) :
  Calls Try.prog 167 #[.agg #[.string a0_0, .int .i64 a0_1, .int .i64 a0_2]] w fun e w' => e = .returned (.bool r) ∧ Below w.heap.size w w' := by
 have hu93 := Try.underlying93
 have HB := Aside0.mk (Below.refl w.heap.size w)
 have H : ((impl_HoldIdOk.f k a0_0).bind fun t279 => (if t279 = true then ((impl_within.f a0_1 1 9007199254740992).bind fun t280 => (if t280 = true then ((impl_isTime.f a0_2).bind fun t281 => (some t281)) else (some false))) else (some false))) = some r := h
 clear h
 replace H := Option.bind_eq_some_iff.mp H
 obtain ⟨t279, A20, H⟩ := H
 replace H : (if t279 = true then ((impl_within.f a0_1 1 9007199254740992).bind fun t280 => (if t280 = true then ((impl_isTime.f a0_2).bind fun t281 => (some t281)) else (some false))) else (some false)) = some r := H
 have A2 := Aside0.mk A20
 clear A20
 by_cases c3 : t279 = true
 ·subst c3
  have H1 : ((impl_within.f a0_1 1 9007199254740992).bind fun t280 => (if t280 = true then ((impl_isTime.f a0_2).bind fun t281 => (some t281)) else (some false))) = some r := by rw [if_pos rfl] at H; exact H
  clear H
  have H := H1
  clear H1
  replace H := Option.bind_eq_some_iff.mp H
  obtain ⟨t280, A40, H⟩ := H
  replace H : (if t280 = true then ((impl_isTime.f a0_2).bind fun t281 => (some t281)) else (some false)) = some r := H
  have A4 := Aside0.mk A40
  clear A40
  by_cases c5 : t280 = true
  ·subst c5
   have H1 : ((impl_isTime.f a0_2).bind fun t281 => (some t281)) = some r := by rw [if_pos rfl] at H; exact H
   clear H
   have H := H1
   clear H1
   replace H := Option.bind_eq_some_iff.mp H
   obtain ⟨t281, A60, H⟩ := H
   replace H : (some t281) = some r := H
   have A6 := Aside0.mk A60
   clear A60
   obtain rfl := Option.some.inj H
   go_enter Try.func167, Try.ntmps167
   go_wp2_with (first | ((with_reducible refine gate_dst (N := 1) rfl ?_); refine box_event ?hg (N := 1) ?hd (cs := #[.string a0_0, .int .i64 a0_1, .int .i64 a0_2]) (t := 93) ?hr ?_; (case hd => rfl); (case hg => rfl); (case hr => first | (go_simp; done) | (go_simp; rfl)); intro gb278 hg w7 hbox hb; have n0_ := Aside0.mk (below_step bl_ hb); have n1_ := Aside0.mk (hbox); have n2_ := gw_ (w := w) hg; have n3_ := gw_ (w := w) hg; clear HB; have HB := n0_; have BK278 := n1_; have GW278 := n2_; have GE278 := n3_; clear n0_ n1_ n2_ n3_; clear hb hbox hg; have hcz8_0 := cz_ BK278 0 (.string a0_0); have hcz8_1 := cz_ BK278 1 (.int .i64 a0_1); have hcz8_2 := cz_ BK278 2 (.int .i64 a0_2); have hfz8_0 := fz_ BK278 0; have hfz8_1 := fz_ BK278 1; have hfz8_2 := fz_ BK278 2) | ((with_reducible refine gate_callee (f := 191) rfl ?_); refine goesL_ (some 5) rfl rfl Try.func191 (by kernel_rfl) rfl #[.string a0_0] rfl gl_ ?_; (with_reducible refine (impl_HoldIdOk.calls k a0_0 true _ A2.out).mono ?_); rintro e w' ⟨rfl, ⟨nd, rfl⟩⟩; refine ⟨_, rfl, ?_⟩) | (go_at_call 145; (with_reducible refine (impl_within.calls a0_1 1 9007199254740992 true _ A4.out).mono ?_); rintro e w' ⟨rfl, ⟨nd, rfl⟩⟩) | (go_at_call 92; (with_reducible refine (impl_isTime.calls a0_2 t281 _ A6.out).mono ?_); rintro e w' ⟨rfl, ⟨nd, rfl⟩⟩))
   go_ret
   exact ⟨sq_, bl_⟩
  ·replace c5 := Bool.eq_false_iff.mpr c5
   subst c5
   have H1 : (some false) = some r := by rw [if_neg (show ¬ (false = true) by decide)] at H; exact H
   clear H
   have H := H1
   clear H1
   obtain rfl := Option.some.inj H
   go_enter Try.func167, Try.ntmps167
   go_wp2_with (first | ((with_reducible refine gate_dst (N := 1) rfl ?_); refine box_event ?hg (N := 1) ?hd (cs := #[.string a0_0, .int .i64 a0_1, .int .i64 a0_2]) (t := 93) ?hr ?_; (case hd => rfl); (case hg => rfl); (case hr => first | (go_simp; done) | (go_simp; rfl)); intro gb278 hg w9 hbox hb; have n0_ := Aside0.mk (below_step bl_ hb); have n1_ := Aside0.mk (hbox); have n2_ := gw_ (w := w) hg; have n3_ := gw_ (w := w) hg; clear HB; have HB := n0_; have BK278 := n1_; have GW278 := n2_; have GE278 := n3_; clear n0_ n1_ n2_ n3_; clear hb hbox hg; have hcz10_0 := cz_ BK278 0 (.string a0_0); have hcz10_1 := cz_ BK278 1 (.int .i64 a0_1); have hcz10_2 := cz_ BK278 2 (.int .i64 a0_2); have hfz10_0 := fz_ BK278 0; have hfz10_1 := fz_ BK278 1; have hfz10_2 := fz_ BK278 2) | ((with_reducible refine gate_callee (f := 191) rfl ?_); refine goesL_ (some 5) rfl rfl Try.func191 (by kernel_rfl) rfl #[.string a0_0] rfl gl_ ?_; (with_reducible refine (impl_HoldIdOk.calls k a0_0 true _ A2.out).mono ?_); rintro e w' ⟨rfl, ⟨nd, rfl⟩⟩; refine ⟨_, rfl, ?_⟩) | (go_at_call 145; (with_reducible refine (impl_within.calls a0_1 1 9007199254740992 false _ A4.out).mono ?_); rintro e w' ⟨rfl, ⟨nd, rfl⟩⟩))
   go_ret
   exact ⟨sq_, bl_⟩
 ·replace c3 := Bool.eq_false_iff.mpr c3
  subst c3
  have H1 : (some false) = some r := by rw [if_neg (show ¬ (false = true) by decide)] at H; exact H
  clear H
  have H := H1
  clear H1
  obtain rfl := Option.some.inj H
  go_enter Try.func167, Try.ntmps167
  go_wp2_with (first | ((with_reducible refine gate_dst (N := 1) rfl ?_); refine box_event ?hg (N := 1) ?hd (cs := #[.string a0_0, .int .i64 a0_1, .int .i64 a0_2]) (t := 93) ?hr ?_; (case hd => rfl); (case hg => rfl); (case hr => first | (go_simp; done) | (go_simp; rfl)); intro gb278 hg w11 hbox hb; have n0_ := Aside0.mk (below_step bl_ hb); have n1_ := Aside0.mk (hbox); have n2_ := gw_ (w := w) hg; have n3_ := gw_ (w := w) hg; clear HB; have HB := n0_; have BK278 := n1_; have GW278 := n2_; have GE278 := n3_; clear n0_ n1_ n2_ n3_; clear hb hbox hg; have hcz12_0 := cz_ BK278 0 (.string a0_0); have hcz12_1 := cz_ BK278 1 (.int .i64 a0_1); have hcz12_2 := cz_ BK278 2 (.int .i64 a0_2); have hfz12_0 := fz_ BK278 0; have hfz12_1 := fz_ BK278 1; have hfz12_2 := fz_ BK278 2) | ((with_reducible refine gate_callee (f := 191) rfl ?_); refine goesL_ (some 5) rfl rfl Try.func191 (by kernel_rfl) rfl #[.string a0_0] rfl gl_ ?_; (with_reducible refine (impl_HoldIdOk.calls k a0_0 false _ A2.out).mono ?_); rintro e w' ⟨rfl, ⟨nd, rfl⟩⟩; refine ⟨_, rfl, ?_⟩))
  go_ret
  exact ⟨sq_, bl_⟩

end Go.Proofs.Ytepjnalkpfnmcaa.QFnExactRoom
