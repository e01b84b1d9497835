-- by my own printer (myprint.py, over the kit's print.py)
import Derived.Test.YtepjnalkpfnmcaaQFnExactRoomx0
import Derived.Test.YtepjnalkpfnmcaaQFnExactRoomx1
namespace Go.Proofs.Ytepjnalkpfnmcaa.QFnExactRoom
open Go.RowKit Go.Proofs.YtepjnalkpfnmcaaW.PrintWords Go.Proofs.YtepjnalkpfnmcaaW.PrintLast Go.Proofs.YtepjnalkpfnmcaaW.PrintMore
attribute [local go_sem] max2_int min2_int max_two min_two max_three min_three max_four min_four   -- for this text's walks alone
set_option linter.unusedVariables false
set_option linter.unusedSimpArgs false

attribute [local go_sem] my_geq my_leq my_gtr
/-! ### spec_AddSat: function 136 -/
def spec_AddSat.f (a0 : Int) (a1 : Int) : Option (Int) := (spec_l01Clamp.f a0 0 4611686018427387904).bind fun t127 => ((spec_l01Clamp.f a1 0 4611686018427387904).bind fun t128 => ((spec_AddMoney.f t127 t128).bind fun bt129 => (if bt129.2 = true then (some bt129.1) else (some 4611686018427387904))))
set_option maxHeartbeats 8000000 in
set_option maxRecDepth 100000 in
theorem spec_AddSat.calls (a0 : Int) (a1 : Int) (r : Int) (w : World) (h : spec_AddSat.f a0 a1 = some r) :
  Calls Try.prog 136 #[.int .i64 a0, .int .i64 a1] w fun e w' => e = .returned (.int .i64 r) ∧ Drawn0 w w' := by
 have H : ((spec_l01Clamp.f a0 0 4611686018427387904).bind fun t127 => ((spec_l01Clamp.f a1 0 4611686018427387904).bind fun t128 => ((spec_AddMoney.f t127 t128).bind fun bt129 => (if bt129.2 = true then (some bt129.1) else (some 4611686018427387904))))) = some r := h
 clear h
 replace H := Option.bind_eq_some_iff.mp H
 obtain ⟨t127, A30, H⟩ := H
 replace H : ((spec_l01Clamp.f a1 0 4611686018427387904).bind fun t128 => ((spec_AddMoney.f t127 t128).bind fun bt129 => (if bt129.2 = true then (some bt129.1) else (some 4611686018427387904)))) = some r := H
 have A3 := Aside0.mk A30
 clear A30
 replace H := Option.bind_eq_some_iff.mp H
 obtain ⟨t128, A40, H⟩ := H
 replace H : ((spec_AddMoney.f t127 t128).bind fun bt129 => (if bt129.2 = true then (some bt129.1) else (some 4611686018427387904))) = some r := H
 have A4 := Aside0.mk A40
 clear A40
 replace H := Option.bind_eq_some_iff.mp H
 obtain ⟨⟨t129, t130⟩, A50, H⟩ := H
 replace H : (if t130 = true then (some t129) else (some 4611686018427387904)) = some r := H
 have A5 := Aside0.mk A50
 clear A50
 by_cases c6 : t130 = true
 ·subst c6
  have H1 : (some t129) = some r := by rw [if_pos rfl] at H; exact H
  clear H
  have H := H1
  clear H1
  obtain rfl := Option.some.inj H
  go_enter Try.func136, Try.ntmps136
  go_wp2_with (first | ((with_reducible refine gate_callee (f := 177) rfl ?_); refine goesL_ (some 9) rfl rfl Try.func177 (by kernel_rfl) rfl #[.int .i64 a0, .int .i64 0, .int .i64 4611686018427387904] rfl gl_ ?_; (with_reducible refine (spec_l01Clamp.calls a0 0 4611686018427387904 t127 _ A3.out).mono ?_); rintro e w' ⟨rfl, ⟨nd, rfl⟩⟩; refine ⟨_, rfl, ?_⟩) | ((with_reducible refine gate_callee (f := 177) rfl ?_); refine goesL_ (some 11) rfl rfl Try.func177 (by kernel_rfl) rfl #[.int .i64 a1, .int .i64 0, .int .i64 4611686018427387904] rfl gl_ ?_; (with_reducible refine (spec_l01Clamp.calls a1 0 4611686018427387904 t128 _ A4.out).mono ?_); rintro e w' ⟨rfl, ⟨nd, rfl⟩⟩; refine ⟨_, rfl, ?_⟩) | ((with_reducible refine gate_callee (f := 176) rfl ?_); refine goesL_ (some 12) rfl rfl Try.func176 (by kernel_rfl) rfl #[.int .i64 t127, .int .i64 t128] rfl gl_ ?_; (with_reducible refine (spec_AddMoney.calls t127 t128 t129 true _ A5.out).mono ?_); rintro e w' ⟨rfl, ⟨nd, rfl⟩⟩; refine ⟨_, rfl, ?_⟩))
  go_ret
  exact ⟨sp_, by repeat (first | exact Drawn0.refl _ | apply Drawn0.step)⟩
 ·replace c6 := Bool.eq_false_iff.mpr c6
  subst c6
  have H1 : (some 4611686018427387904) = some r := by rw [if_neg (show ¬ (false = true) by decide)] at H; exact H
  clear H
  have H := H1
  clear H1
  obtain rfl := Option.some.inj H
  go_enter Try.func136, Try.ntmps136
  go_wp2_with (first | ((with_reducible refine gate_callee (f := 177) rfl ?_); refine goesL_ (some 9) rfl rfl Try.func177 (by kernel_rfl) rfl #[.int .i64 a0, .int .i64 0, .int .i64 4611686018427387904] rfl gl_ ?_; (with_reducible refine (spec_l01Clamp.calls a0 0 4611686018427387904 t127 _ A3.out).mono ?_); rintro e w' ⟨rfl, ⟨nd, rfl⟩⟩; refine ⟨_, rfl, ?_⟩) | ((with_reducible refine gate_callee (f := 177) rfl ?_); refine goesL_ (some 11) rfl rfl Try.func177 (by kernel_rfl) rfl #[.int .i64 a1, .int .i64 0, .int .i64 4611686018427387904] rfl gl_ ?_; (with_reducible refine (spec_l01Clamp.calls a1 0 4611686018427387904 t128 _ A4.out).mono ?_); rintro e w' ⟨rfl, ⟨nd, rfl⟩⟩; refine ⟨_, rfl, ?_⟩) | ((with_reducible refine gate_callee (f := 176) rfl ?_); refine goesL_ (some 12) rfl rfl Try.func176 (by kernel_rfl) rfl #[.int .i64 t127, .int .i64 t128] rfl gl_ ?_; (with_reducible refine (spec_AddMoney.calls t127 t128 t129 false _ A5.out).mono ?_); rintro e w' ⟨rfl, ⟨nd, rfl⟩⟩; refine ⟨_, rfl, ?_⟩))
  go_ret
  exact ⟨sp_, by repeat (first | exact Drawn0.refl _ | apply Drawn0.step)⟩

/-! ### spec_Stored: function 85 -/
def spec_Stored.l0 : Nat → Int → List (S93) → Int → Int → Option (Int)
 | 0, _, _, _, _ => none
 | k + 1, x3, x6, x7, x8 => if x8 < x7 then (if 0 ≤ x8 then (if x8 < (x6.length : Int) then ((spec_AddSat.f x3 ((rd_T93 x6 x8).f1)).bind fun t133 => (spec_Stored.l0 k t133 x6 x7 (wrap64 (x8 + 1)))) else (none)) else (none)) else (some x3)
def spec_Stored.f (k : Nat) (l0 : List (S93)) : Option (Int) := spec_Stored.l0 k 0 l0 (l0.length : Int) 0
theorem spec_Stored.mono_l : ∀ k, (∀ y0 y1 y2 y3, LeO (spec_Stored.l0 k y0 y1 y2 y3) (spec_Stored.l0 (k + 1) y0 y1 y2 y3))
 | 0 => fun _ _ _ _ r h => by simp [spec_Stored.l0] at h
 | k + 1 => by
  have ih0 := spec_Stored.mono_l k
  ·intro y0 y1 y2 y3
   unfold spec_Stored.l0
   repeat' first
   | (with_reducible exact ih0 _ _ _ _)
   | (with_reducible exact LeO.refl _)
   | (with_reducible exact LeO.none _)
   | (with_reducible refine LeO.ite ?_ ?_)
   | (with_reducible refine LeO.bind ?_ (fun _ => ?_))
   | exact ih0 _ _ _ _
   | exact LeO.none _
   | refine LeO.ite ?_ ?_
   | refine LeO.bind ?_ (fun _ => ?_)
theorem spec_Stored.mono : ∀ a0 k, LeO (spec_Stored.f k a0) (spec_Stored.f (k + 1) a0) := by
 intro a0 k
 have ih0 := spec_Stored.mono_l k
 unfold spec_Stored.f
 repeat' first
   | (with_reducible exact ih0 _ _ _ _)
   | (with_reducible exact LeO.refl _)
   | (with_reducible exact LeO.none _)
   | (with_reducible refine LeO.ite ?_ ?_)
   | (with_reducible refine LeO.bind ?_ (fun _ => ?_))
   | exact ih0 _ _ _ _
   | exact LeO.none _
   | refine LeO.ite ?_ ?_
   | refine LeO.bind ?_ (fun _ => ?_)
set_option maxHeartbeats 8000000 in
set_option maxRecDepth 100000 in
theorem spec_Stored.calls (k : Nat) (A0 : Option Addr) (c0 : Nat) (l0 : List (S93)) (r : Int) (w : World) (hr0 : Kd.C k93 w A0 l0.length l0) (hc0 : l0.length ≤ c0) (h : spec_Stored.f k l0 = some r) :
  Calls Try.prog 85 #[.slice A0 l0.length c0] w fun e w' => e = .returned (.int .i64 r) ∧ Below w.heap.size w w' := by
 have hu93 := Try.underlying93
 have HR0 := Aside0.mk hr0
 have HC0 := Aside0.mk hc0
 clear hr0 hc0
 have HB := Aside0.mk (Below.refl w.heap.size w)
 have H : (spec_Stored.l0 k 0 l0 (l0.length : Int) 0) = some r := h
 clear h
 have H' := Aside0.mk H
 clear H
 go_enter Try.func85, Try.ntmps85
 go_wp2
 go_loopg [3, 8] k (fun kq v3 v8 w' => ∃ (x3_1 : Int) (x8_1 : Int), v3 = .int .i64 x3_1 ∧ v8 = .int .i64 x8_1 ∧ Aside0 (spec_Stored.l0 kq x3_1 l0 (l0.length : Int) x8_1 = some r) ∧ Aside0 (kq ≤ k) ∧ Aside0 (Below w.heap.size w w'))
 case atStart => exact ⟨(0), (0), sp_, sp_, H', ⟨Nat.le_refl _⟩, ⟨bl_⟩⟩
 case round =>
  clear H'
  obtain ⟨x3_1, x8_1, rfl, rfl, HA, HK1, HB⟩ := hrel
  cases gk with
  | zero => exact absurd HA.out (by simp [spec_Stored.l0])
  | succ k1 =>
   have H := HA.out
   clear HA
   simp only [spec_Stored.l0] at H
   by_cases c2 : x8_1 < (l0.length : Int)
   ·rw [if_pos c2] at H
    have c2b0 : decide (x8_1 < (l0.length : Int)) = true := decide_eq_true c2
    clear c2
    by_cases c3 : 0 ≤ x8_1
    ·rw [if_pos c3] at H
     have c3b0 : decide (0 ≤ x8_1) = true := decide_eq_true c3
     clear c3
     by_cases c4 : x8_1 < (l0.length : Int)
     ·rw [if_pos c4] at H
      have c4b0 : decide (x8_1 < (l0.length : Int)) = true := decide_eq_true c4
      clear c4
      replace H := Option.bind_eq_some_iff.mp H
      obtain ⟨t133, A50, H⟩ := H
      replace H : (spec_Stored.l0 k1 t133 l0 (l0.length : Int) (wrap64 (x8_1 + 1))) = some r := H
      have A5 := Aside0.mk A50
      clear A50
      have H' := Aside0.mk H
      clear H
      have p131 : 0 ≤ (x8_1 : Int) := od_
      have q131 : x8_1 < (l0.length : Int) := od_
      obtain ⟨ad131, e131, hx131_0, hx131_1, hx131_2⟩ := at_T93 HR0.out x8_1 p131 q131
      cases e131
      replace hx131_0 := kc_ HB hx131_0
      replace hx131_1 := kc_ HB hx131_1
      replace hx131_2 := kc_ HB hx131_2
      replace p131 := eq_true p131
      replace q131 := eq_true q131
      go_wp2_with (first | ((with_reducible refine gate_dst (N := 5) rfl ?_); refine box_event ?hg (N := 5) ?hd (cs := #[.string (⟨#[]⟩ : ByteArray), .int .i64 0, .int .i64 0]) (t := 93) ?hr ?_; (case hd => rfl); (case hg => rfl); (case hr => first | (go_simp; done) | (go_simp; rfl)); intro gb132 hg w6 hbox hb; have n0_ := Aside0.mk (below_step bl_ hb); have n1_ := Aside0.mk (hbox); have n2_ := gw_ (w := w) hg; have n3_ := gw_ (w := w) hg; clear HB; have HB := n0_; have BK132 := n1_; have GW132 := n2_; have GE132 := n3_; clear n0_ n1_ n2_ n3_; clear hb hbox hg; have hcz7_0 := cz_ BK132 0 (.string (⟨#[]⟩ : ByteArray)); have hcz7_1 := cz_ BK132 1 (.int .i64 0); have hcz7_2 := cz_ BK132 2 (.int .i64 0); have hfz7_0 := fz_ BK132 0; have hfz7_1 := fz_ BK132 1; have hfz7_2 := fz_ BK132 2) | ((with_reducible refine gate_callee (f := 136) rfl ?_); refine goesL_ (some 15) rfl rfl Try.func136 (by kernel_rfl) rfl #[.int .i64 x3_1, .int .i64 ((rd_T93 l0 x8_1).f1)] rfl gl_ ?_; (with_reducible refine (spec_AddSat.calls x3_1 ((rd_T93 l0 x8_1).f1) t133 _ A5.out).mono ?_); rintro e w' ⟨rfl, ⟨nd, rfl⟩⟩; refine ⟨_, rfl, ?_⟩))
      go_roundg k1
      case measure => have := HK1.out; omega
      case rel => exact ⟨(t133), (wrap64 (x8_1 + 1)), sp_, sp_, H', ⟨by have := HK1.out; omega⟩, ⟨bl_⟩⟩
     ·rw [if_neg c4] at H
      exact absurd H (by simp)
    ·rw [if_neg c3] at H
     exact absurd H (by simp)
   ·rw [if_neg c2] at H
    have c2b0 : decide (x8_1 < (l0.length : Int)) = false := decide_eq_false c2
    clear c2
    obtain rfl := Option.some.inj H
    go_wp2
    go_ret
    exact ⟨sq_, bl_⟩

/-! ### spec_LiveSum: function 24 -/
def spec_LiveSum.f (k : Nat) (l0 : List (S93)) (a1 : Int) : Option (Int) := (spec_LiveOnes.f k l0 a1).bind fun t134 => ((spec_Stored.f k t134).bind fun t137 => (some t137))
theorem spec_LiveSum.mono : ∀ a0 a1 k, LeO (spec_LiveSum.f k a0 a1) (spec_LiveSum.f (k + 1) a0 a1) := by
 intro a0 a1 k
 unfold spec_LiveSum.f
 repeat' first
   | (with_reducible exact spec_LiveOnes.mono _ _ _)
   | (with_reducible exact spec_Stored.mono _ _)
   | (with_reducible exact LeO.refl _)
   | (with_reducible exact LeO.none _)
   | (with_reducible refine LeO.ite ?_ ?_)
   | (with_reducible refine LeO.bind ?_ (fun _ => ?_))
   | exact spec_LiveOnes.mono _ _ _
   | exact spec_Stored.mono _ _
   | exact LeO.none _
   | refine LeO.ite ?_ ?_
   | refine LeO.bind ?_ (fun _ => ?_)
set_option maxHeartbeats 8000000 in
set_option maxRecDepth 100000 in
theorem spec_LiveSum.calls (k : Nat) (A0 : Option Addr) (c0 : Nat) (l0 : List (S93)) (a1 : Int) (r : Int) (w : World) (hr0 : Kd.C k93 w A0 l0.length l0) (hc0 : l0.length ≤ c0) (h : spec_LiveSum.f k l0 a1 = some r) :
  Calls Try.prog 24 #[.slice A0 l0.length c0, .int .i64 a1] w fun e w' => e = .returned (.int .i64 r) ∧ Below w.heap.size w w' := by
 have HR0 := Aside0.mk hr0
 have HC0 := Aside0.mk hc0
 clear hr0 hc0
 have HB := Aside0.mk (Below.refl w.heap.size w)
 have H : ((spec_LiveOnes.f k l0 a1).bind fun t134 => ((spec_Stored.f k t134).bind fun t137 => (some t137))) = some r := h
 clear h
 replace H := Option.bind_eq_some_iff.mp H
 obtain ⟨t134, A30, H⟩ := H
 replace H : ((spec_Stored.f k t134).bind fun t137 => (some t137)) = some r := H
 have A3 := Aside0.mk A30
 clear A30
 replace H := Option.bind_eq_some_iff.mp H
 obtain ⟨t137, A40, H⟩ := H
 replace H : (some t137) = some r := H
 have A4 := Aside0.mk A40
 clear A40
 obtain rfl := Option.some.inj H
 go_enter Try.func24, Try.ntmps24
 go_wp2_with (first | ((with_reducible refine gate_callee (f := 22) rfl ?_); refine goesL_ (some 7) rfl rfl Try.func22 (by kernel_rfl) rfl #[.slice A0 l0.length c0, .int .i64 a1] rfl gl_ ?_; (with_reducible refine (spec_LiveOnes.calls k _ _ l0 a1 t134 _ ?side1 ?side2 A3.out).mono ?_); (case side1 => exact ca_ (HR0.out)); (case side2 => exact HC0.out); rintro e w5 ⟨v135, rfl, ho0, hb⟩; refine ⟨_, rfl, ?_⟩; have n0_ := Aside0.mk (Kd.R_lower ho0 (below_size bl_)); have n1_ := Aside0.mk (below_step bl_ hb); clear HB; have HO136 := n0_; have HB := n1_; clear n0_ n1_; (try clear hb); (try clear hb2); (try clear hk); (try clear hi); (try clear ho0); obtain ⟨Ao6, co6, eo6⟩ := Kd.R_slice HO136.out; subst eo6) | ((with_reducible refine gate_callee (f := 85) rfl ?_); refine goesL_ (some 8) rfl rfl Try.func85 (by kernel_rfl) rfl #[.slice Ao6 t134.length co6] rfl gl_ ?_; (with_reducible refine (spec_Stored.calls k _ _ t134 t137 _ ?side1 ?side2 A4.out).mono ?_); (case side1 => exact ca_ ((Kd.R_reads' HO136.out).2.2)); (case side2 => exact (Kd.R_reads' HO136.out).2.1); rintro e w7 ⟨rfl, hb⟩; refine ⟨_, rfl, ?_⟩; have n0_ := Aside0.mk (Kd.R_below (ra_ HO136) hb); have n1_ := Aside0.mk (below_step bl_ hb); clear HO136; clear HB; have HO136 := n0_; have HB := n1_; clear n0_ n1_; (try clear hb); (try clear hb2); (try clear hk); (try clear hi)))
 go_ret
 exact ⟨sq_, bl_⟩

/-! ### spec_l01In: function 140 -/
def spec_l01In.f (a0 : Int) (a1 : Int) (a2 : Int) : Option (Bool) := if a0 ≥ a1 then (some (decide (a0 ≤ a2))) else (some false)
set_option maxHeartbeats 8000000 in
set_option maxRecDepth 100000 in
theorem spec_l01In.calls (a0 : Int) (a1 : Int) (a2 : Int) (r : Bool) (w : World) (h : spec_l01In.f a0 a1 a2 = some r) :
  Calls Try.prog 140 #[.int .i64 a0, .int .i64 a1, .int .i64 a2] w fun e w' => e = .returned (.bool r) ∧ Drawn0 w w' := by
 have H : (if a0 ≥ a1 then (some (decide (a0 ≤ a2))) else (some false)) = some r := h
 clear h
 by_cases c4 : a0 ≥ a1
 ·rw [if_pos c4] at H
  have c4b0 : decide (a1 ≤ a0) = true := decide_eq_true c4
  clear c4
  obtain rfl := Option.some.inj H
  go_enter Try.func140, Try.ntmps140
  go_wp2
  go_ret
  exact ⟨sp_, by repeat (first | exact Drawn0.refl _ | apply Drawn0.step)⟩
 ·rw [if_neg c4] at H
  have c4b0 : decide (a1 ≤ a0) = false := decide_eq_false c4
  clear c4
  obtain rfl := Option.some.inj H
  go_enter Try.func140, Try.ntmps140
  go_wp2
  go_ret
  exact ⟨sp_, by repeat (first | exact Drawn0.refl _ | apply Drawn0.step)⟩

/-! ### spec_Digits: function 188 -/
def spec_Digits.l0 : Nat → ByteArray → Int → Option (Bool)
 | 0, _, _ => none
 | k + 1, x0, x3 => if x3 < (x0.size : Int) then (if 0 ≤ x3 then (if (bt x0 x3) < 48 then (some false) else (if (bt x0 x3) > 57 then (some false) else (spec_Digits.l0 k x0 (wrap64 (x3 + 1))))) else (none)) else (some (decide ((x0.size : Int) > 0)))
def spec_Digits.f (k : Nat) (a0 : ByteArray) : Option (Bool) := spec_Digits.l0 k a0 0
theorem spec_Digits.mono_l : ∀ k, (∀ y0 y1, LeO (spec_Digits.l0 k y0 y1) (spec_Digits.l0 (k + 1) y0 y1))
 | 0 => fun _ _ r h => by simp [spec_Digits.l0] at h
 | k + 1 => by
  have ih0 := spec_Digits.mono_l k
  ·intro y0 y1
   unfold spec_Digits.l0
   repeat' first
   | (with_reducible exact ih0 _ _)
   | (with_reducible exact LeO.refl _)
   | (with_reducible exact LeO.none _)
   | (with_reducible refine LeO.ite ?_ ?_)
   | (with_reducible refine LeO.bind ?_ (fun _ => ?_))
   | exact ih0 _ _
   | exact LeO.none _
   | refine LeO.ite ?_ ?_
   | refine LeO.bind ?_ (fun _ => ?_)
theorem spec_Digits.mono : ∀ a0 k, LeO (spec_Digits.f k a0) (spec_Digits.f (k + 1) a0) := by
 intro a0 k
 have ih0 := spec_Digits.mono_l k
 unfold spec_Digits.f
 repeat' first
   | (with_reducible exact ih0 _ _)
   | (with_reducible exact LeO.refl _)
   | (with_reducible exact LeO.none _)
   | (with_reducible refine LeO.ite ?_ ?_)
   | (with_reducible refine LeO.bind ?_ (fun _ => ?_))
   | exact ih0 _ _
   | exact LeO.none _
   | refine LeO.ite ?_ ?_
   | refine LeO.bind ?_ (fun _ => ?_)
set_option maxHeartbeats 8000000 in
set_option maxRecDepth 100000 in
theorem spec_Digits.calls (k : Nat) (a0 : ByteArray) (r : Bool) (w : World) (h : spec_Digits.f k a0 = some r) :
  Calls Try.prog 188 #[.string a0] w fun e w' => e = .returned (.bool r) ∧ Drawn0 w w' := by
 have H : (spec_Digits.l0 k a0 0) = some r := h
 clear h
 have H' := Aside0.mk H
 clear H
 go_enter Try.func188, Try.ntmps188
 go_wp2
 go_loopg [3] k (fun kq v3 w' => ∃ (x3_1 : Int), v3 = .int .i64 x3_1 ∧ Aside0 (spec_Digits.l0 kq a0 x3_1 = some r) ∧ Aside0 (kq ≤ k) ∧ Drawn0 w w')
 case atStart => exact ⟨(0), sp_, H', ⟨Nat.le_refl _⟩, by repeat (first | exact Drawn0.refl _ | apply Drawn0.step)⟩
 case round =>
  clear H'
  try clear c1
  obtain ⟨x3_1, rfl, HA, HK1, ⟨m1, rfl⟩⟩ := hrel
  cases gk with
  | zero => exact absurd HA.out (by simp [spec_Digits.l0])
  | succ k1 =>
   have H := HA.out
   clear HA
   simp only [spec_Digits.l0] at H
   by_cases c2 : x3_1 < (a0.size : Int)
   ·rw [if_pos c2] at H
    have c2b0 : decide (x3_1 < (a0.size : Int)) = true := decide_eq_true c2
    clear c2
    by_cases c3 : 0 ≤ x3_1
    ·rw [if_pos c3] at H
     have c3b0 : decide (0 ≤ x3_1) = true := decide_eq_true c3
     clear c3
     by_cases c5 : (bt a0 x3_1) < 48
     ·rw [if_pos c5] at H
      have c5b0 : decide ((bt a0 x3_1) < 48) = true := decide_eq_true c5
      clear c5
      obtain rfl := Option.some.inj H
      have p4 : 0 ≤ (x3_1 : Int) := od_
      have q4 : x3_1 < (a0.size : Int) := od_
      have hx4 := bt_at a0 x3_1
      replace p4 := eq_true p4
      replace q4 := eq_true q4
      go_wp2
      go_ret
      exact ⟨sp_, by repeat (first | exact Drawn0.refl _ | apply Drawn0.step)⟩
     ·rw [if_neg c5] at H
      have c5b0 : decide ((bt a0 x3_1) < 48) = false := decide_eq_false c5
      clear c5
      by_cases c7 : (bt a0 x3_1) > 57
      ·rw [if_pos c7] at H
       have c7b0 : decide (57 < (bt a0 x3_1)) = true := decide_eq_true c7
       clear c7
       obtain rfl := Option.some.inj H
       have p4 : 0 ≤ (x3_1 : Int) := od_
       have q4 : x3_1 < (a0.size : Int) := od_
       have hx4 := bt_at a0 x3_1
       replace p4 := eq_true p4
       replace q4 := eq_true q4
       have p6 : 0 ≤ (x3_1 : Int) := od_
       have q6 : x3_1 < (a0.size : Int) := od_
       have hx6 := bt_at a0 x3_1
       replace p6 := eq_true p6
       replace q6 := eq_true q6
       go_wp2
       go_ret
       exact ⟨sp_, by repeat (first | exact Drawn0.refl _ | apply Drawn0.step)⟩
      ·rw [if_neg c7] at H
       have c7b0 : decide (57 < (bt a0 x3_1)) = false := decide_eq_false c7
       clear c7
       have H' := Aside0.mk H
       clear H
       have p4 : 0 ≤ (x3_1 : Int) := od_
       have q4 : x3_1 < (a0.size : Int) := od_
       have hx4 := bt_at a0 x3_1
       replace p4 := eq_true p4
       replace q4 := eq_true q4
       have p6 : 0 ≤ (x3_1 : Int) := od_
       have q6 : x3_1 < (a0.size : Int) := od_
       have hx6 := bt_at a0 x3_1
       replace p6 := eq_true p6
       replace q6 := eq_true q6
       go_wp2
       go_roundg k1
       case measure => have := HK1.out; omega
       case rel => exact ⟨(wrap64 (x3_1 + 1)), sp_, H', ⟨by have := HK1.out; omega⟩, by repeat (first | exact Drawn0.refl _ | apply Drawn0.step)⟩
    ·rw [if_neg c3] at H
     exact absurd H (by simp)
   ·rw [if_neg c2] at H
    have c2b0 : decide (x3_1 < (a0.size : Int)) = false := decide_eq_false c2
    clear c2
    obtain rfl := Option.some.inj H
    go_wp2
    go_ret
    exact ⟨sp_, by repeat (first | exact Drawn0.refl _ | apply Drawn0.step)⟩

/-! ### spec_SlotOk: function 163 -/
def spec_SlotOk.f (k : Nat) (a0_0 : ByteArray) (a0_1 : ByteArray) (l0_2 : List Int) : Option (Bool) := (spec_Digits.f k a0_0).bind fun t139 => (if t139 = true then (if (a0_0.size : Int) = 6 then ((spec_Digits.f k a0_1).bind fun t140 => (if t140 = true then (if (a0_1.size : Int) = 4 then ((spec_l01In.f (l0_2.length : Int) 1 200).bind fun t141 => (some t141)) else (some false)) else (some false))) else (some false)) else (some false))
theorem spec_SlotOk.mono : ∀ a0 a1 a2 k, LeO (spec_SlotOk.f k a0 a1 a2) (spec_SlotOk.f (k + 1) a0 a1 a2) := by
 intro a0 a1 a2 k
 unfold spec_SlotOk.f
 repeat' first
   | (with_reducible exact spec_Digits.mono _ _)
   | (with_reducible exact LeO.refl _)
   | (with_reducible exact LeO.none _)
   | (with_reducible refine LeO.ite ?_ ?_)
   | (with_reducible refine LeO.bind ?_ (fun _ => ?_))
   | exact spec_Digits.mono _ _
   | exact LeO.none _
   | refine LeO.ite ?_ ?_
   | refine LeO.bind ?_ (fun _ => ?_)
set_option maxHeartbeats 8000000 in
set_option maxRecDepth 100000 in
theorem spec_SlotOk.calls (k : Nat) (a0_0 : ByteArray) (a0_1 : ByteArray) (A0_2 : Option Addr) (c0_2 : Nat) (l0_2 : List Int) (r : Bool) (w : World) (hr0_2 : Kd.C (Kd.int .u8) w A0_2 l0_2.length l0_2) (hc0_2 : l0_2.length ≤ c0_2) (h : spec_SlotOk.f k a0_0 a0_1 l0_2 = some r) :
  Calls Try.prog 163 #[.agg #[.string a0_0, .string a0_1, .slice A0_2 l0_2.length c0_2]] w fun e w' => e = .returned (.bool r) ∧ Below w.heap.size w w' := by
 have hu74 := Try.underlying74
 have HR0_2 := Aside0.mk hr0_2
 have HC0_2 := Aside0.mk hc0_2
 clear hr0_2 hc0_2
 have HB := Aside0.mk (Below.refl w.heap.size w)
 have H : ((spec_Digits.f k a0_0).bind fun t139 => (if t139 = true then (if (a0_0.size : Int) = 6 then ((spec_Digits.f k a0_1).bind fun t140 => (if t140 = true then (if (a0_1.size : Int) = 4 then ((spec_l01In.f (l0_2.length : Int) 1 200).bind fun t141 => (some t141)) else (some false)) else (some false))) else (some false)) else (some false))) = some r := h
 clear h
 replace H := Option.bind_eq_some_iff.mp H
 obtain ⟨t139, A20, H⟩ := H
 replace H : (if t139 = true then (if (a0_0.size : Int) = 6 then ((spec_Digits.f k a0_1).bind fun t140 => (if t140 = true then (if (a0_1.size : Int) = 4 then ((spec_l01In.f (l0_2.length : Int) 1 200).bind fun t141 => (some t141)) else (some false)) else (some false))) else (some false)) else (some false)) = some r := H
 have A2 := Aside0.mk A20
 clear A20
 by_cases c3 : t139 = true
 ·subst c3
  have H1 : (if (a0_0.size : Int) = 6 then ((spec_Digits.f k a0_1).bind fun t140 => (if t140 = true then (if (a0_1.size : Int) = 4 then ((spec_l01In.f (l0_2.length : Int) 1 200).bind fun t141 => (some t141)) else (some false)) else (some false))) else (some false)) = some r := by rw [if_pos rfl] at H; exact H
  clear H
  have H := H1
  clear H1
  by_cases c4 : (a0_0.size : Int) = 6
  ·rw [if_pos c4] at H
   have c4b0 : ((a0_0.size : Int) == 6) = true := beq_iff_eq.mpr c4
   have c4b1 : ((a0_0.size : Int) != 6) = false := bne_eq_false_iff_eq.mpr c4
   clear c4
   replace H := Option.bind_eq_some_iff.mp H
   obtain ⟨t140, A50, H⟩ := H
   replace H : (if t140 = true then (if (a0_1.size : Int) = 4 then ((spec_l01In.f (l0_2.length : Int) 1 200).bind fun t141 => (some t141)) else (some false)) else (some false)) = some r := H
   have A5 := Aside0.mk A50
   clear A50
   by_cases c6 : t140 = true
   ·subst c6
    have H1 : (if (a0_1.size : Int) = 4 then ((spec_l01In.f (l0_2.length : Int) 1 200).bind fun t141 => (some t141)) else (some false)) = some r := by rw [if_pos rfl] at H; exact H
    clear H
    have H := H1
    clear H1
    by_cases c7 : (a0_1.size : Int) = 4
    ·rw [if_pos c7] at H
     have c7b0 : ((a0_1.size : Int) == 4) = true := beq_iff_eq.mpr c7
     have c7b1 : ((a0_1.size : Int) != 4) = false := bne_eq_false_iff_eq.mpr c7
     clear c7
     replace H := Option.bind_eq_some_iff.mp H
     obtain ⟨t141, A80, H⟩ := H
     replace H : (some t141) = some r := H
     have A8 := Aside0.mk A80
     clear A80
     obtain rfl := Option.some.inj H
     go_enter Try.func163, Try.ntmps163
     go_wp2_with (first | ((with_reducible refine gate_dst (N := 1) rfl ?_); (try (refine gate_guard (by rfl) ?_; dsimp only)); refine box_event ?hg (N := 1) ?hd (cs := #[.string a0_0, .string a0_1, .slice A0_2 l0_2.length c0_2]) (t := 74) ?hr ?_; (case hd => rfl); (case hg => rfl); (case hr => first | (go_simp; done) | (go_simp; rfl)); intro gb138 hg w9 hbox hb; have n0_ := Aside0.mk (below_step bl_ hb); have n1_ := Aside0.mk (hbox); have n2_ := gw_ (w := w) hg; have n3_ := gw_ (w := w) hg; clear HB; have HB := n0_; have BK138 := n1_; have GW138 := n2_; have GE138 := n3_; clear n0_ n1_ n2_ n3_; clear hb hbox hg; have hcz10_0 := cz_ BK138 0 (.string a0_0); have hcz10_1 := cz_ BK138 1 (.string a0_1); have hcz10_2 := cz_ BK138 2 (.slice A0_2 l0_2.length c0_2); have hfz10_0 := fz_ BK138 0; have hfz10_1 := fz_ BK138 1; have hfz10_2 := fz_ BK138 2) | ((with_reducible refine gate_callee (f := 188) rfl ?_); refine goesL_ (some 5) rfl rfl Try.func188 (by kernel_rfl) rfl #[.string a0_0] rfl gl_ ?_; (with_reducible refine (spec_Digits.calls k a0_0 true _ A2.out).mono ?_); rintro e w' ⟨rfl, ⟨nd, rfl⟩⟩; refine ⟨_, rfl, ?_⟩) | (go_at_call 188; (with_reducible refine (spec_Digits.calls k a0_1 true _ A5.out).mono ?_); rintro e w' ⟨rfl, ⟨nd, rfl⟩⟩) | (go_at_call 140; (with_reducible refine (spec_l01In.calls (l0_2.length : Int) 1 200 t141 _ A8.out).mono ?_); rintro e w' ⟨rfl, ⟨nd, rfl⟩⟩))
     go_ret
     exact ⟨sq_, bl_⟩
    ·rw [if_neg c7] at H
     have c7b0 : ((a0_1.size : Int) == 4) = false := beq_eq_false_iff_ne.mpr c7
     have c7b1 : ((a0_1.size : Int) != 4) = true := bne_iff_ne.mpr c7
     obtain rfl := Option.some.inj H
     go_enter Try.func163, Try.ntmps163
     go_wp2_with (first | ((with_reducible refine gate_dst (N := 1) rfl ?_); (try (refine gate_guard (by rfl) ?_; dsimp only)); refine box_event ?hg (N := 1) ?hd (cs := #[.string a0_0, .string a0_1, .slice A0_2 l0_2.length c0_2]) (t := 74) ?hr ?_; (case hd => rfl); (case hg => rfl); (case hr => first | (go_simp; done) | (go_simp; rfl)); intro gb138 hg w11 hbox hb; have n0_ := Aside0.mk (below_step bl_ hb); have n1_ := Aside0.mk (hbox); have n2_ := gw_ (w := w) hg; have n3_ := gw_ (w := w) hg; clear HB; have HB := n0_; have BK138 := n1_; have GW138 := n2_; have GE138 := n3_; clear n0_ n1_ n2_ n3_; clear hb hbox hg; have hcz12_0 := cz_ BK138 0 (.string a0_0); have hcz12_1 := cz_ BK138 1 (.string a0_1); have hcz12_2 := cz_ BK138 2 (.slice A0_2 l0_2.length c0_2); have hfz12_0 := fz_ BK138 0; have hfz12_1 := fz_ BK138 1; have hfz12_2 := fz_ BK138 2) | ((with_reducible refine gate_callee (f := 188) rfl ?_); refine goesL_ (some 5) rfl rfl Try.func188 (by kernel_rfl) rfl #[.string a0_0] rfl gl_ ?_; (with_reducible refine (spec_Digits.calls k a0_0 true _ A2.out).mono ?_); rintro e w' ⟨rfl, ⟨nd, rfl⟩⟩; refine ⟨_, rfl, ?_⟩) | (go_at_call 188; (with_reducible refine (spec_Digits.calls k a0_1 true _ A5.out).mono ?_); rintro e w' ⟨rfl, ⟨nd, rfl⟩⟩))
     go_ret
     exact ⟨sq_, bl_⟩
   ·replace c6 := Bool.eq_false_iff.mpr c6
    subst c6
    have H1 : (some false) = some r := by rw [if_neg (show ¬ (false = true) by decide)] at H; exact H
    clear H
    have H := H1
    clear H1
    obtain rfl := Option.some.inj H
    go_enter Try.func163, Try.ntmps163
    go_wp2_with (first | ((with_reducible refine gate_dst (N := 1) rfl ?_); (try (refine gate_guard (by rfl) ?_; dsimp only)); refine box_event ?hg (N := 1) ?hd (cs := #[.string a0_0, .string a0_1, .slice A0_2 l0_2.length c0_2]) (t := 74) ?hr ?_; (case hd => rfl); (case hg => rfl); (case hr => first | (go_simp; done) | (go_simp; rfl)); intro gb138 hg w13 hbox hb; have n0_ := Aside0.mk (below_step bl_ hb); have n1_ := Aside0.mk (hbox); have n2_ := gw_ (w := w) hg; have n3_ := gw_ (w := w) hg; clear HB; have HB := n0_; have BK138 := n1_; have GW138 := n2_; have GE138 := n3_; clear n0_ n1_ n2_ n3_; clear hb hbox hg; have hcz14_0 := cz_ BK138 0 (.string a0_0); have hcz14_1 := cz_ BK138 1 (.string a0_1); have hcz14_2 := cz_ BK138 2 (.slice A0_2 l0_2.length c0_2); have hfz14_0 := fz_ BK138 0; have hfz14_1 := fz_ BK138 1; have hfz14_2 := fz_ BK138 2) | ((with_reducible refine gate_callee (f := 188) rfl ?_); refine goesL_ (some 5) rfl rfl Try.func188 (by kernel_rfl) rfl #[.string a0_0] rfl gl_ ?_; (with_reducible refine (spec_Digits.calls k a0_0 true _ A2.out).mono ?_); rintro e w' ⟨rfl, ⟨nd, rfl⟩⟩; refine ⟨_, rfl, ?_⟩) | (go_at_call 188; (with_reducible refine (spec_Digits.calls k a0_1 false _ A5.out).mono ?_); rintro e w' ⟨rfl, ⟨nd, rfl⟩⟩))
    go_ret
    exact ⟨sq_, bl_⟩
  ·rw [if_neg c4] at H
   have c4b0 : ((a0_0.size : Int) == 6) = false := beq_eq_false_iff_ne.mpr c4
   have c4b1 : ((a0_0.size : Int) != 6) = true := bne_iff_ne.mpr c4
   obtain rfl := Option.some.inj H
   go_enter Try.func163, Try.ntmps163
   go_wp2_with (first | ((with_reducible refine gate_dst (N := 1) rfl ?_); (try (refine gate_guard (by rfl) ?_; dsimp only)); refine box_event ?hg (N := 1) ?hd (cs := #[.string a0_0, .string a0_1, .slice A0_2 l0_2.length c0_2]) (t := 74) ?hr ?_; (case hd => rfl); (case hg => rfl); (case hr => first | (go_simp; done) | (go_simp; rfl)); intro gb138 hg w15 hbox hb; have n0_ := Aside0.mk (below_step bl_ hb); have n1_ := Aside0.mk (hbox); have n2_ := gw_ (w := w) hg; have n3_ := gw_ (w := w) hg; clear HB; have HB := n0_; have BK138 := n1_; have GW138 := n2_; have GE138 := n3_; clear n0_ n1_ n2_ n3_; clear hb hbox hg; have hcz16_0 := cz_ BK138 0 (.string a0_0); have hcz16_1 := cz_ BK138 1 (.string a0_1); have hcz16_2 := cz_ BK138 2 (.slice A0_2 l0_2.length c0_2); have hfz16_0 := fz_ BK138 0; have hfz16_1 := fz_ BK138 1; have hfz16_2 := fz_ BK138 2) | ((with_reducible refine gate_callee (f := 188) rfl ?_); refine goesL_ (some 5) rfl rfl Try.func188 (by kernel_rfl) rfl #[.string a0_0] rfl gl_ ?_; (with_reducible refine (spec_Digits.calls k a0_0 true _ A2.out).mono ?_); rintro e w' ⟨rfl, ⟨nd, rfl⟩⟩; refine ⟨_, rfl, ?_⟩))
   go_ret
   exact ⟨sq_, bl_⟩
 ·replace c3 := Bool.eq_false_iff.mpr c3
  subst c3
  have H1 : (some false) = some r := by rw [if_neg (show ¬ (false = true) by decide)] at H; exact H
  clear H
  have H := H1
  clear H1
  obtain rfl := Option.some.inj H
  go_enter Try.func163, Try.ntmps163
  go_wp2_with (first | ((with_reducible refine gate_dst (N := 1) rfl ?_); (try (refine gate_guard (by rfl) ?_; dsimp only)); refine box_event ?hg (N := 1) ?hd (cs := #[.string a0_0, .string a0_1, .slice A0_2 l0_2.length c0_2]) (t := 74) ?hr ?_; (case hd => rfl); (case hg => rfl); (case hr => first | (go_simp; done) | (go_simp; rfl)); intro gb138 hg w17 hbox hb; have n0_ := Aside0.mk (below_step bl_ hb); have n1_ := Aside0.mk (hbox); have n2_ := gw_ (w := w) hg; have n3_ := gw_ (w := w) hg; clear HB; have HB := n0_; have BK138 := n1_; have GW138 := n2_; have GE138 := n3_; clear n0_ n1_ n2_ n3_; clear hb hbox hg; have hcz18_0 := cz_ BK138 0 (.string a0_0); have hcz18_1 := cz_ BK138 1 (.string a0_1); have hcz18_2 := cz_ BK138 2 (.slice A0_2 l0_2.length c0_2); have hfz18_0 := fz_ BK138 0; have hfz18_1 := fz_ BK138 1; have hfz18_2 := fz_ BK138 2) | ((with_reducible refine gate_callee (f := 188) rfl ?_); refine goesL_ (some 5) rfl rfl Try.func188 (by kernel_rfl) rfl #[.string a0_0] rfl gl_ ?_; (with_reducible refine (spec_Digits.calls k a0_0 false _ A2.out).mono ?_); rintro e w' ⟨rfl, ⟨nd, rfl⟩⟩; refine ⟨_, rfl, ?_⟩))
  go_ret
  exact ⟨sq_, bl_⟩

/-! ### spec_SlotsOk: function 112 -/
mutual
def spec_SlotsOk.l0 : Nat → List (S74) → List (S74) → Int → Int → Option (Bool)
 | 0, _, _, _, _ => none
 | k + 1, x0, x7, x8, x9 => if x9 < x8 then (if 0 ≤ x9 then (if x9 < (x7.length : Int) then ((spec_SlotOk.f k ((rd_T74 x7 x9).f0) ((rd_T74 x7 x9).f1) ((rd_T74 x7 x9).f2)).bind fun t144 => (if t144 = true then (if x9 ≤ (x0.length : Int) then ((some (x0.take (x9 : Int).toNat : List (S74))).bind fun y145 => (spec_SlotsOk.l1 k x0 x7 x8 x9 y145 (y145.length : Int) 0 ((rd_T74 x7 x9).f0) ((rd_T74 x7 x9).f1) ((rd_T74 x7 x9).f2))) else (none)) else (some false))) else (none)) else (none)) else (some (decide ((x0.length : Int) ≤ 6)))
def spec_SlotsOk.l1 : Nat → List (S74) → List (S74) → Int → Int → List (S74) → Int → Int → ByteArray → ByteArray → List Int → Option (Bool)
 | 0, _, _, _, _, _, _, _, _, _, _ => none
 | k + 1, x0, x7, x8, x9, x19, x20, x21, x144000, x144001, x144002 => if x21 < x20 then (if 0 ≤ x21 then (if x21 < (x19.length : Int) then (if ((rd_T74 x19 x21).f0).toList = x144000.toList then (if ((rd_T74 x19 x21).f1).toList = x144001.toList then (some false) else (spec_SlotsOk.l1 k x0 x7 x8 x9 x19 x20 (wrap64 (x21 + 1)) x144000 x144001 x144002)) else (spec_SlotsOk.l1 k x0 x7 x8 x9 x19 x20 (wrap64 (x21 + 1)) x144000 x144001 x144002)) else (none)) else (none)) else (spec_SlotsOk.l0 k x0 x7 x8 (wrap64 (x9 + 1)))
end
def spec_SlotsOk.f (k : Nat) (l0 : List (S74)) : Option (Bool) := spec_SlotsOk.l0 k l0 l0 (l0.length : Int) 0
theorem spec_SlotsOk.mono_l : ∀ k, (∀ y0 y1 y2 y3, LeO (spec_SlotsOk.l0 k y0 y1 y2 y3) (spec_SlotsOk.l0 (k + 1) y0 y1 y2 y3)) ∧ (∀ y0 y1 y2 y3 y4 y5 y6 y7 y8 y9, LeO (spec_SlotsOk.l1 k y0 y1 y2 y3 y4 y5 y6 y7 y8 y9) (spec_SlotsOk.l1 (k + 1) y0 y1 y2 y3 y4 y5 y6 y7 y8 y9))
 | 0 => ⟨fun _ _ _ _ r h => by simp [spec_SlotsOk.l0] at h, fun _ _ _ _ _ _ _ _ _ _ r h => by simp [spec_SlotsOk.l1] at h⟩
 | k + 1 => by
  obtain ⟨ih0, ih1⟩ := spec_SlotsOk.mono_l k
  refine ⟨?_, ?_⟩
  ·intro y0 y1 y2 y3
   unfold spec_SlotsOk.l0
   repeat' first
   | (with_reducible exact ih0 _ _ _ _)
   | (with_reducible exact ih1 _ _ _ _ _ _ _ _ _ _)
   | (with_reducible exact spec_SlotOk.mono _ _ _ _)
   | (with_reducible exact LeO.refl _)
   | (with_reducible exact LeO.none _)
   | (with_reducible refine LeO.ite ?_ ?_)
   | (with_reducible refine LeO.bind ?_ (fun _ => ?_))
   | exact ih0 _ _ _ _
   | exact ih1 _ _ _ _ _ _ _ _ _ _
   | exact spec_SlotOk.mono _ _ _ _
   | exact LeO.none _
   | refine LeO.ite ?_ ?_
   | refine LeO.bind ?_ (fun _ => ?_)
  ·intro y0 y1 y2 y3 y4 y5 y6 y7 y8 y9
   unfold spec_SlotsOk.l1
   repeat' first
   | (with_reducible exact ih0 _ _ _ _)
   | (with_reducible exact ih1 _ _ _ _ _ _ _ _ _ _)
   | (with_reducible exact spec_SlotOk.mono _ _ _ _)
   | (with_reducible exact LeO.refl _)
   | (with_reducible exact LeO.none _)
   | (with_reducible refine LeO.ite ?_ ?_)
   | (with_reducible refine LeO.bind ?_ (fun _ => ?_))
   | exact ih0 _ _ _ _
   | exact ih1 _ _ _ _ _ _ _ _ _ _
   | exact spec_SlotOk.mono _ _ _ _
   | exact LeO.none _
   | refine LeO.ite ?_ ?_
   | refine LeO.bind ?_ (fun _ => ?_)
theorem spec_SlotsOk.mono : ∀ a0 k, LeO (spec_SlotsOk.f k a0) (spec_SlotsOk.f (k + 1) a0) := by
 intro a0 k
 obtain ⟨ih0, ih1⟩ := spec_SlotsOk.mono_l k
 unfold spec_SlotsOk.f
 repeat' first
   | (with_reducible exact ih0 _ _ _ _)
   | (with_reducible exact ih1 _ _ _ _ _ _ _ _ _ _)
   | (with_reducible exact spec_SlotOk.mono _ _ _ _)
   | (with_reducible exact LeO.refl _)
   | (with_reducible exact LeO.none _)
   | (with_reducible refine LeO.ite ?_ ?_)
   | (with_reducible refine LeO.bind ?_ (fun _ => ?_))
   | exact ih0 _ _ _ _
   | exact ih1 _ _ _ _ _ _ _ _ _ _
   | exact spec_SlotOk.mono _ _ _ _
   | exact LeO.none _
   | refine LeO.ite ?_ ?_
   | refine LeO.bind ?_ (fun _ => ?_)
set_option maxHeartbeats 8000000 in
set_option maxRecDepth 100000 in
theorem spec_SlotsOk.calls (k : Nat) (A0 : Option Addr) (c0 : Nat) (l0 : List (S74)) (r : Bool) (w : World) (hr0 : Kd.C k74 w A0 l0.length l0) (hc0 : l0.length ≤ c0) (h : spec_SlotsOk.f k l0 = some r) :
  Calls Try.prog 112 #[.slice A0 l0.length c0] w fun e w' => e = .returned (.bool r) ∧ Below w.heap.size w w' := by
 have hu74 := Try.underlying74
 have HR0 := Aside0.mk hr0
 have HC0 := Aside0.mk hc0
 clear hr0 hc0
 have HB := Aside0.mk (Below.refl w.heap.size w)
 have H : (spec_SlotsOk.l0 k l0 l0 (l0.length : Int) 0) = some r := h
 clear h
 have H' := Aside0.mk H
 clear H
 go_enter Try.func112, Try.ntmps112
 go_wp2
 go_loopg [9] k (fun kq v9 w' => ∃ (x9_1 : Int), v9 = .int .i64 x9_1 ∧ Aside0 (spec_SlotsOk.l0 kq l0 l0 (l0.length : Int) x9_1 = some r) ∧ Aside0 (kq ≤ k) ∧ Aside0 (Below w.heap.size w w'))
 case atStart => exact ⟨(0), sp_, H', ⟨Nat.le_refl _⟩, ⟨bl_⟩⟩
 case round =>
  clear H'
  try clear c1
  obtain ⟨x9_1, rfl, HA, HK1, HB⟩ := hrel
  cases gk with
  | zero => exact absurd HA.out (by simp [spec_SlotsOk.l0])
  | succ k1 =>
   have H := HA.out
   clear HA
   simp only [spec_SlotsOk.l0] at H
   by_cases c2 : x9_1 < (l0.length : Int)
   ·rw [if_pos c2] at H
    have c2b0 : decide (x9_1 < (l0.length : Int)) = true := decide_eq_true c2
    clear c2
    by_cases c3 : 0 ≤ x9_1
    ·rw [if_pos c3] at H
     have c3b0 : decide (0 ≤ x9_1) = true := decide_eq_true c3
     clear c3
     by_cases c4 : x9_1 < (l0.length : Int)
     ·rw [if_pos c4] at H
      have c4b0 : decide (x9_1 < (l0.length : Int)) = true := decide_eq_true c4
      clear c4
      replace H := Option.bind_eq_some_iff.mp H
      obtain ⟨t144, A50, H⟩ := H
      replace H : (if t144 = true then (if x9_1 ≤ (l0.length : Int) then ((some (l0.take (x9_1 : Int).toNat : List (S74))).bind fun y145 => (spec_SlotsOk.l1 k1 l0 l0 (l0.length : Int) x9_1 y145 (y145.length : Int) 0 ((rd_T74 l0 x9_1).f0) ((rd_T74 l0 x9_1).f1) ((rd_T74 l0 x9_1).f2))) else (none)) else (some false)) = some r := H
      have A5 := Aside0.mk A50
      clear A50
      by_cases c6 : t144 = true
      ·subst c6
       have H1 : (if x9_1 ≤ (l0.length : Int) then ((some (l0.take (x9_1 : Int).toNat : List (S74))).bind fun y145 => (spec_SlotsOk.l1 k1 l0 l0 (l0.length : Int) x9_1 y145 (y145.length : Int) 0 ((rd_T74 l0 x9_1).f0) ((rd_T74 l0 x9_1).f1) ((rd_T74 l0 x9_1).f2))) else (none)) = some r := by rw [if_pos rfl] at H; exact H
       clear H
       have H := H1
       clear H1
       have c7b0 := eq_true (od_ : 0 ≤ x9_1)
       by_cases c8 : x9_1 ≤ (l0.length : Int)
       ·rw [if_pos c8] at H
        have c8b0 := eq_true c8
        have c8b1 : decide (x9_1 ≤ (l0.length : Int)) = true := decide_eq_true c8
        clear c8
        obtain ⟨y145, hy145⟩ : ∃ y_ : List (S74), y_ = (l0.take (x9_1 : Int).toNat) := ⟨_, rfl⟩
        replace H : (spec_SlotsOk.l1 k1 l0 l0 (l0.length : Int) x9_1 y145 (y145.length : Int) 0 ((rd_T74 l0 x9_1).f0) ((rd_T74 l0 x9_1).f1) ((rd_T74 l0 x9_1).f2)) = some r := by first | (rw [hy145]; with_reducible exact H) | (have H2_ := (Option.bind_some _ _).symm.trans H; rw [hy145]; with_reducible exact H2_) | (have H2_ := (Option.bind_some _ _).symm.trans H; with_reducible exact H2_) | with_reducible exact H | (rw [hy145]; exact H) | exact H
        have Ny145 := Aside0.mk hy145
        clear hy145
        have H' := Aside0.mk H
        clear H
        have p142 : 0 ≤ (x9_1 : Int) := od_
        have q142 : x9_1 < (l0.length : Int) := od_
        obtain ⟨ad142, A142_2, c142_2, e142, hx142_0, hx142_1, hx142_2, hl142_2, hi142_2⟩ := at_T74 HR0.out x9_1 p142 q142
        cases e142
        replace hx142_0 := kc_ HB hx142_0
        replace hx142_1 := kc_ HB hx142_1
        replace hx142_2 := kc_ HB hx142_2
        have HR142_2 := Aside0.mk hi142_2
        have HC142_2 := Aside0.mk hl142_2
        clear hi142_2 hl142_2
        replace p142 := eq_true p142
        replace q142 := eq_true q142
        go_wp2_with (first | ((with_reducible refine gate_dst (N := 4) rfl ?_); refine box_event ?hg (N := 4) ?hd (cs := #[.string (⟨#[]⟩ : ByteArray), .string (⟨#[]⟩ : ByteArray), .slice none 0 0]) (t := 74) ?hr ?_; (case hd => rfl); (case hg => rfl); (case hr => first | (go_simp; done) | (go_simp; rfl)); intro gb143 hg w9 hbox hb; have n0_ := Aside0.mk (below_step bl_ hb); have n1_ := Aside0.mk (hbox); have n2_ := gw_ (w := w) hg; have n3_ := gw_ (w := w) hg; clear HB; have HB := n0_; have BK143 := n1_; have GW143 := n2_; have GE143 := n3_; clear n0_ n1_ n2_ n3_; clear hb hbox hg; have hcz10_0 := cz_ BK143 0 (.string (⟨#[]⟩ : ByteArray)); have hcz10_1 := cz_ BK143 1 (.string (⟨#[]⟩ : ByteArray)); have hcz10_2 := cz_ BK143 2 (.slice none 0 0); have hfz10_0 := fz_ BK143 0; have hfz10_1 := fz_ BK143 1; have hfz10_2 := fz_ BK143 2) | ((with_reducible refine gate_callee (f := 163) rfl ?_); refine goesL_ (some 15) rfl rfl Try.func163 (by kernel_rfl) rfl #[.agg #[.string ((rd_T74 l0 x9_1).f0), .string ((rd_T74 l0 x9_1).f1), .slice A142_2 ((rd_T74 l0 x9_1).f2).length c142_2]] rfl gl_ ?_; (with_reducible refine (spec_SlotOk.calls k1 ((rd_T74 l0 x9_1).f0) ((rd_T74 l0 x9_1).f1) _ _ ((rd_T74 l0 x9_1).f2) true _ ?side1 ?side2 A5.out).mono ?_); (case side1 => exact Kd.C_below HR142_2.out bl_); (case side2 => exact HC142_2.out); rintro e w11 ⟨rfl, hb⟩; refine ⟨_, rfl, ?_⟩; have n0_ := Aside0.mk (blk_below (g := gb143) (o := .cells #[.string ((rd_T74 l0 x9_1).f0), .string ((rd_T74 l0 x9_1).f1), .slice A142_2 ((rd_T74 l0 x9_1).f2).length c142_2] 74 (0, 0)) (by (with_reducible repeat (first | refine blk_drewN ?_ _ | refine blk_drew ?_ | refine blk_alloc ?_ _)); refine blk_put (cs := #[.string ((rd_T74 l0 x9_1).f0), .string ((rd_T74 l0 x9_1).f1), .slice none 0 0]) ?_ 2 _ rfl; refine blk_put (cs := #[.string ((rd_T74 l0 x9_1).f0), .string (⟨#[]⟩ : ByteArray), .slice none 0 0]) ?_ 1 _ rfl; refine blk_put (cs := #[.string (⟨#[]⟩ : ByteArray), .string (⟨#[]⟩ : ByteArray), .slice none 0 0]) ?_ 0 _ rfl; (with_reducible repeat (first | refine blk_drewN ?_ _ | refine blk_drew ?_ | refine blk_alloc ?_ _)); exact BK143.out) hb); have n1_ := Aside0.mk (below_step bl_ hb); clear BK143; clear HB; have BK143 := n0_; have HB := n1_; clear n0_ n1_; (try clear hb); (try clear hb2); (try clear hk); (try clear hi); have q12 : (x9_1 : Int) ≤ ((l0.length : Int) : Int) := od_; obtain ⟨i012, hi012, _, hsz12, _⟩ := info_parts info74; have hroom12 : l0.length ≤ c0 := HC0.out; have hC12 : Kd.C k74 _ (some ad142) l0.length l0 := HR0.out; have hcut12 := cut_to (P := Try.prog) 41 74 .i64 Try.underlying41 hi012 (some ad142) l0.length c0 x9_1 od_ q12 hroom12; have hr12 := Kd.C_take (m := (x9_1 : Int).toNat) hC12 (by omega); have hy12 : y145.length = (x9_1 : Int).toNat := (by rw [Ny145.out, List.length_take]; omega); rw [← Ny145.out] at hr12; rw [← hy12] at hcut12; have HR148 := Aside0.mk hr12; have HC148 := Aside0.mk (show y145.length ≤ c0 from by omega); clear hr12 hC12 hroom12 hi012 hsz12; have KY12 := Aside0.mk hy12; clear hy12; replace q12 := eq_true q12))
        go_loopg [21] k1 (fun kq v21 w' => ∃ (x21_2 : Int), v21 = .int .i64 x21_2 ∧ Aside0 (spec_SlotsOk.l1 kq l0 l0 (l0.length : Int) x9_1 y145 (y145.length : Int) x21_2 ((rd_T74 l0 x9_1).f0) ((rd_T74 l0 x9_1).f1) ((rd_T74 l0 x9_1).f2) = some r) ∧ Aside0 (kq ≤ k1) ∧ Aside0 (w'.heap[gb143]? = some (.cells #[.string ((rd_T74 l0 x9_1).f0), .string ((rd_T74 l0 x9_1).f1), (.slice A142_2 ((rd_T74 l0 x9_1).f2).length c142_2)] 74 (0, 0))) ∧ Aside0 (Below w.heap.size w w'))
        case atStart => exact ⟨(0), sp_, H', ⟨Nat.le_refl _⟩, ⟨by (with_reducible repeat (first | refine blk_drewN ?_ _ | refine blk_drew ?_ | refine blk_alloc ?_ _)); exact BK143.out⟩, ⟨bl_⟩⟩
        case round =>
         clear H'
         try clear c1
         try clear p1
         try clear q1
         try clear hx1
         try clear c2
         try clear c2b0
         try clear p2
         try clear c3
         try clear c3b0
         try clear c4
         try clear c4b0
         try clear c6
         try clear c7
         try clear c7b0
         try clear c8
         try clear c8b0
         try clear c8b1
         try clear c11
         try clear q12
         try clear hcz10_0
         try clear hcz10_1
         try clear hcz10_2
         try clear hfz10_0
         try clear hfz10_1
         try clear hfz10_2
         try clear hx142_0
         try clear hx142_1
         try clear hx142_2
         try clear p142
         try clear q12
         try clear q142
         obtain ⟨x21_2, rfl, HA, HK2, BK143, HB⟩ := hrel
         cases gk with
         | zero => exact absurd HA.out (by simp [spec_SlotsOk.l1])
         | succ k2 =>
          have H := HA.out
          clear HA
          simp only [spec_SlotsOk.l1] at H
          by_cases c13 : x21_2 < (y145.length : Int)
          ·rw [if_pos c13] at H
           have c13b0 : decide (x21_2 < (y145.length : Int)) = true := decide_eq_true c13
           clear c13
           by_cases c14 : 0 ≤ x21_2
           ·rw [if_pos c14] at H
            have c14b0 : decide (0 ≤ x21_2) = true := decide_eq_true c14
            clear c14
            by_cases c15 : x21_2 < (y145.length : Int)
            ·rw [if_pos c15] at H
             have c15b0 : decide (x21_2 < (y145.length : Int)) = true := decide_eq_true c15
             clear c15
             by_cases c16 : ((rd_T74 y145 x21_2).f0).toList = ((rd_T74 l0 x9_1).f0).toList
             ·rw [if_pos c16] at H
              have c16b0 : (((rd_T74 y145 x21_2).f0).toList == ((rd_T74 l0 x9_1).f0).toList) = true := beq_iff_eq.mpr c16
              have c16b1 : (((rd_T74 y145 x21_2).f0).toList != ((rd_T74 l0 x9_1).f0).toList) = false := bne_eq_false_iff_eq.mpr c16
              clear c16
              by_cases c17 : ((rd_T74 y145 x21_2).f1).toList = ((rd_T74 l0 x9_1).f1).toList
              ·rw [if_pos c17] at H
               have c17b0 : (((rd_T74 y145 x21_2).f1).toList == ((rd_T74 l0 x9_1).f1).toList) = true := beq_iff_eq.mpr c17
               have c17b1 : (((rd_T74 y145 x21_2).f1).toList != ((rd_T74 l0 x9_1).f1).toList) = false := bne_eq_false_iff_eq.mpr c17
               clear c17
               obtain rfl := Option.some.inj H
               have p149 : 0 ≤ (x21_2 : Int) := od_
               have q149 : x21_2 < (y145.length : Int) := od_
               obtain ⟨ad149, A149_2, c149_2, e149, hx149_0, hx149_1, hx149_2, hl149_2, hi149_2⟩ := at_T74 HR148.out x21_2 p149 q149
               obtain rfl : ad142 = ad149 := (by injection e149)
               replace hx149_0 := kc_ HB hx149_0
               replace hx149_1 := kc_ HB hx149_1
               replace hx149_2 := kc_ HB hx149_2
               have HR149_2 := Aside0.mk hi149_2
               have HC149_2 := Aside0.mk hl149_2
               clear hi149_2 hl149_2
               replace p149 := eq_true p149
               replace q149 := eq_true q149
               go_wp2_with (first | ((with_reducible refine gate_dst (N := 6) rfl ?_); refine box_event ?hg (N := 6) ?hd (cs := #[.string (⟨#[]⟩ : ByteArray), .string (⟨#[]⟩ : ByteArray), .slice none 0 0]) (t := 74) ?hr ?_; (case hd => rfl); (case hg => rfl); (case hr => first | (go_simp; done) | (go_simp; rfl)); intro gb150 hg w18 hbox hb; have n0_ := Aside0.mk (blk_below (bk_ BK143) hb); have n1_ := Aside0.mk (below_step bl_ hb); have n2_ := Aside0.mk (hbox); have n3_ := gw_ (w := w) hg; have n4_ := gw_ (w := w) hg; have n5_ := Aside0.mk ((by rw [hg]; exact Nat.ne_of_lt (blk_lt (bk_ BK143)) : gb143 ≠ gb150)); have n6_ := Aside0.mk ((by rw [hg]; exact Nat.ne_of_gt (blk_lt (bk_ BK143)) : gb150 ≠ gb143)); clear BK143; clear HB; have BK143 := n0_; have HB := n1_; have BK150 := n2_; have GW150 := n3_; have GE150 := n4_; have NB143_150 := n5_; have NB150_143 := n6_; clear n0_ n1_ n2_ n3_ n4_ n5_ n6_; clear hb hbox hg; have hnb19 := NB150_143.out; have hnc19 := NB143_150.out; have hcz20_0 := cz_ BK150 0 (.string (⟨#[]⟩ : ByteArray)); have hcz20_1 := cz_ BK150 1 (.string (⟨#[]⟩ : ByteArray)); have hcz20_2 := cz_ BK150 2 (.slice none 0 0); have hfz20_0 := fz_ BK150 0; have hfz20_1 := fz_ BK150 1; have hfz20_2 := fz_ BK150 2; have hcz21_0 := cz_ BK143 0 (.string ((rd_T74 l0 x9_1).f0)); have hcz21_1 := cz_ BK143 1 (.string ((rd_T74 l0 x9_1).f1)); have hcz21_2 := cz_ BK143 2 (.slice A142_2 ((rd_T74 l0 x9_1).f2).length c142_2); have hfz21_0 := fz_ BK143 0; have hfz21_1 := fz_ BK143 1; have hfz21_2 := fz_ BK143 2))
               go_ret
               exact ⟨sq_, bl_⟩
              ·rw [if_neg c17] at H
               have c17b0 : (((rd_T74 y145 x21_2).f1).toList == ((rd_T74 l0 x9_1).f1).toList) = false := beq_eq_false_iff_ne.mpr c17
               have c17b1 : (((rd_T74 y145 x21_2).f1).toList != ((rd_T74 l0 x9_1).f1).toList) = true := bne_iff_ne.mpr c17
               have H' := Aside0.mk H
               clear H
               have p149 : 0 ≤ (x21_2 : Int) := od_
               have q149 : x21_2 < (y145.length : Int) := od_
               obtain ⟨ad149, A149_2, c149_2, e149, hx149_0, hx149_1, hx149_2, hl149_2, hi149_2⟩ := at_T74 HR148.out x21_2 p149 q149
               obtain rfl : ad142 = ad149 := (by injection e149)
               replace hx149_0 := kc_ HB hx149_0
               replace hx149_1 := kc_ HB hx149_1
               replace hx149_2 := kc_ HB hx149_2
               have HR149_2 := Aside0.mk hi149_2
               have HC149_2 := Aside0.mk hl149_2
               clear hi149_2 hl149_2
               replace p149 := eq_true p149
               replace q149 := eq_true q149
               go_wp2_with (first | ((with_reducible refine gate_dst (N := 6) rfl ?_); refine box_event ?hg (N := 6) ?hd (cs := #[.string (⟨#[]⟩ : ByteArray), .string (⟨#[]⟩ : ByteArray), .slice none 0 0]) (t := 74) ?hr ?_; (case hd => rfl); (case hg => rfl); (case hr => first | (go_simp; done) | (go_simp; rfl)); intro gb150 hg w22 hbox hb; have n0_ := Aside0.mk (blk_below (bk_ BK143) hb); have n1_ := Aside0.mk (below_step bl_ hb); have n2_ := Aside0.mk (hbox); have n3_ := gw_ (w := w) hg; have n4_ := gw_ (w := w) hg; have n5_ := Aside0.mk ((by rw [hg]; exact Nat.ne_of_lt (blk_lt (bk_ BK143)) : gb143 ≠ gb150)); have n6_ := Aside0.mk ((by rw [hg]; exact Nat.ne_of_gt (blk_lt (bk_ BK143)) : gb150 ≠ gb143)); clear BK143; clear HB; have BK143 := n0_; have HB := n1_; have BK150 := n2_; have GW150 := n3_; have GE150 := n4_; have NB143_150 := n5_; have NB150_143 := n6_; clear n0_ n1_ n2_ n3_ n4_ n5_ n6_; clear hb hbox hg; have hnb23 := NB150_143.out; have hnc23 := NB143_150.out; have hcz24_0 := cz_ BK150 0 (.string (⟨#[]⟩ : ByteArray)); have hcz24_1 := cz_ BK150 1 (.string (⟨#[]⟩ : ByteArray)); have hcz24_2 := cz_ BK150 2 (.slice none 0 0); have hfz24_0 := fz_ BK150 0; have hfz24_1 := fz_ BK150 1; have hfz24_2 := fz_ BK150 2; have hcz25_0 := cz_ BK143 0 (.string ((rd_T74 l0 x9_1).f0)); have hcz25_1 := cz_ BK143 1 (.string ((rd_T74 l0 x9_1).f1)); have hcz25_2 := cz_ BK143 2 (.slice A142_2 ((rd_T74 l0 x9_1).f2).length c142_2); have hfz25_0 := fz_ BK143 0; have hfz25_1 := fz_ BK143 1; have hfz25_2 := fz_ BK143 2))
               go_roundg k2
               case measure => have := HK1.out; have := HK2.out; omega
               case rel => exact ⟨(wrap64 (x21_2 + 1)), sp_, H', ⟨by have := HK1.out; have := HK2.out; omega⟩, ⟨by (with_reducible repeat (first | refine blk_drewN ?_ _ | refine blk_drew ?_ | refine blk_alloc ?_ _)); refine blk_far ?_ NB143_150.out _; (with_reducible repeat (first | refine blk_drewN ?_ _ | refine blk_drew ?_ | refine blk_alloc ?_ _)); refine blk_far ?_ NB143_150.out _; (with_reducible repeat (first | refine blk_drewN ?_ _ | refine blk_drew ?_ | refine blk_alloc ?_ _)); refine blk_far ?_ NB143_150.out _; (with_reducible repeat (first | refine blk_drewN ?_ _ | refine blk_drew ?_ | refine blk_alloc ?_ _)); exact BK143.out⟩, ⟨bl_⟩⟩
             ·rw [if_neg c16] at H
              have c16b0 : (((rd_T74 y145 x21_2).f0).toList == ((rd_T74 l0 x9_1).f0).toList) = false := beq_eq_false_iff_ne.mpr c16
              have c16b1 : (((rd_T74 y145 x21_2).f0).toList != ((rd_T74 l0 x9_1).f0).toList) = true := bne_iff_ne.mpr c16
              have H' := Aside0.mk H
              clear H
              have p149 : 0 ≤ (x21_2 : Int) := od_
              have q149 : x21_2 < (y145.length : Int) := od_
              obtain ⟨ad149, A149_2, c149_2, e149, hx149_0, hx149_1, hx149_2, hl149_2, hi149_2⟩ := at_T74 HR148.out x21_2 p149 q149
              obtain rfl : ad142 = ad149 := (by injection e149)
              replace hx149_0 := kc_ HB hx149_0
              replace hx149_1 := kc_ HB hx149_1
              replace hx149_2 := kc_ HB hx149_2
              have HR149_2 := Aside0.mk hi149_2
              have HC149_2 := Aside0.mk hl149_2
              clear hi149_2 hl149_2
              replace p149 := eq_true p149
              replace q149 := eq_true q149
              go_wp2_with (first | ((with_reducible refine gate_dst (N := 6) rfl ?_); refine box_event ?hg (N := 6) ?hd (cs := #[.string (⟨#[]⟩ : ByteArray), .string (⟨#[]⟩ : ByteArray), .slice none 0 0]) (t := 74) ?hr ?_; (case hd => rfl); (case hg => rfl); (case hr => first | (go_simp; done) | (go_simp; rfl)); intro gb150 hg w26 hbox hb; have n0_ := Aside0.mk (blk_below (bk_ BK143) hb); have n1_ := Aside0.mk (below_step bl_ hb); have n2_ := Aside0.mk (hbox); have n3_ := gw_ (w := w) hg; have n4_ := gw_ (w := w) hg; have n5_ := Aside0.mk ((by rw [hg]; exact Nat.ne_of_lt (blk_lt (bk_ BK143)) : gb143 ≠ gb150)); have n6_ := Aside0.mk ((by rw [hg]; exact Nat.ne_of_gt (blk_lt (bk_ BK143)) : gb150 ≠ gb143)); clear BK143; clear HB; have BK143 := n0_; have HB := n1_; have BK150 := n2_; have GW150 := n3_; have GE150 := n4_; have NB143_150 := n5_; have NB150_143 := n6_; clear n0_ n1_ n2_ n3_ n4_ n5_ n6_; clear hb hbox hg; have hnb27 := NB150_143.out; have hnc27 := NB143_150.out; have hcz28_0 := cz_ BK150 0 (.string (⟨#[]⟩ : ByteArray)); have hcz28_1 := cz_ BK150 1 (.string (⟨#[]⟩ : ByteArray)); have hcz28_2 := cz_ BK150 2 (.slice none 0 0); have hfz28_0 := fz_ BK150 0; have hfz28_1 := fz_ BK150 1; have hfz28_2 := fz_ BK150 2; have hcz29_0 := cz_ BK143 0 (.string ((rd_T74 l0 x9_1).f0)); have hcz29_1 := cz_ BK143 1 (.string ((rd_T74 l0 x9_1).f1)); have hcz29_2 := cz_ BK143 2 (.slice A142_2 ((rd_T74 l0 x9_1).f2).length c142_2); have hfz29_0 := fz_ BK143 0; have hfz29_1 := fz_ BK143 1; have hfz29_2 := fz_ BK143 2))
              go_roundg k2
              case measure => have := HK1.out; have := HK2.out; omega
              case rel => exact ⟨(wrap64 (x21_2 + 1)), sp_, H', ⟨by have := HK1.out; have := HK2.out; omega⟩, ⟨by (with_reducible repeat (first | refine blk_drewN ?_ _ | refine blk_drew ?_ | refine blk_alloc ?_ _)); refine blk_far ?_ NB143_150.out _; (with_reducible repeat (first | refine blk_drewN ?_ _ | refine blk_drew ?_ | refine blk_alloc ?_ _)); refine blk_far ?_ NB143_150.out _; (with_reducible repeat (first | refine blk_drewN ?_ _ | refine blk_drew ?_ | refine blk_alloc ?_ _)); refine blk_far ?_ NB143_150.out _; (with_reducible repeat (first | refine blk_drewN ?_ _ | refine blk_drew ?_ | refine blk_alloc ?_ _)); exact BK143.out⟩, ⟨bl_⟩⟩
            ·rw [if_neg c15] at H
             exact absurd H (by simp)
           ·rw [if_neg c14] at H
            exact absurd H (by simp)
          ·rw [if_neg c13] at H
           have c13b0 : decide (x21_2 < (y145.length : Int)) = false := decide_eq_false c13
           clear c13
           have H' := Aside0.mk H
           clear H
           go_wp2
           go_roundg k2
           case measure => have := HK1.out; have := HK2.out; omega
           case rel => exact ⟨(wrap64 (x9_1 + 1)), sp_, H', ⟨by have := HK1.out; have := HK2.out; omega⟩, ⟨bl_⟩⟩
       ·rw [if_neg c8] at H
        exact absurd H (by simp)
      ·replace c6 := Bool.eq_false_iff.mpr c6
       subst c6
       have H1 : (some false) = some r := by rw [if_neg (show ¬ (false = true) by decide)] at H; exact H
       clear H
       have H := H1
       clear H1
       obtain rfl := Option.some.inj H
       have p142 : 0 ≤ (x9_1 : Int) := od_
       have q142 : x9_1 < (l0.length : Int) := od_
       obtain ⟨ad142, A142_2, c142_2, e142, hx142_0, hx142_1, hx142_2, hl142_2, hi142_2⟩ := at_T74 HR0.out x9_1 p142 q142
       cases e142
       replace hx142_0 := kc_ HB hx142_0
       replace hx142_1 := kc_ HB hx142_1
       replace hx142_2 := kc_ HB hx142_2
       have HR142_2 := Aside0.mk hi142_2
       have HC142_2 := Aside0.mk hl142_2
       clear hi142_2 hl142_2
       replace p142 := eq_true p142
       replace q142 := eq_true q142
       go_wp2_with (first | ((with_reducible refine gate_dst (N := 4) rfl ?_); refine box_event ?hg (N := 4) ?hd (cs := #[.string (⟨#[]⟩ : ByteArray), .string (⟨#[]⟩ : ByteArray), .slice none 0 0]) (t := 74) ?hr ?_; (case hd => rfl); (case hg => rfl); (case hr => first | (go_simp; done) | (go_simp; rfl)); intro gb143 hg w30 hbox hb; have n0_ := Aside0.mk (below_step bl_ hb); have n1_ := Aside0.mk (hbox); have n2_ := gw_ (w := w) hg; have n3_ := gw_ (w := w) hg; clear HB; have HB := n0_; have BK143 := n1_; have GW143 := n2_; have GE143 := n3_; clear n0_ n1_ n2_ n3_; clear hb hbox hg; have hcz31_0 := cz_ BK143 0 (.string (⟨#[]⟩ : ByteArray)); have hcz31_1 := cz_ BK143 1 (.string (⟨#[]⟩ : ByteArray)); have hcz31_2 := cz_ BK143 2 (.slice none 0 0); have hfz31_0 := fz_ BK143 0; have hfz31_1 := fz_ BK143 1; have hfz31_2 := fz_ BK143 2) | ((with_reducible refine gate_callee (f := 163) rfl ?_); refine goesL_ (some 15) rfl rfl Try.func163 (by kernel_rfl) rfl #[.agg #[.string ((rd_T74 l0 x9_1).f0), .string ((rd_T74 l0 x9_1).f1), .slice A142_2 ((rd_T74 l0 x9_1).f2).length c142_2]] rfl gl_ ?_; (with_reducible refine (spec_SlotOk.calls k1 ((rd_T74 l0 x9_1).f0) ((rd_T74 l0 x9_1).f1) _ _ ((rd_T74 l0 x9_1).f2) false _ ?side1 ?side2 A5.out).mono ?_); (case side1 => exact Kd.C_below HR142_2.out bl_); (case side2 => exact HC142_2.out); rintro e w32 ⟨rfl, hb⟩; refine ⟨_, rfl, ?_⟩; have n0_ := Aside0.mk (blk_below (g := gb143) (o := .cells #[.string ((rd_T74 l0 x9_1).f0), .string ((rd_T74 l0 x9_1).f1), .slice A142_2 ((rd_T74 l0 x9_1).f2).length c142_2] 74 (0, 0)) (by (with_reducible repeat (first | refine blk_drewN ?_ _ | refine blk_drew ?_ | refine blk_alloc ?_ _)); refine blk_put (cs := #[.string ((rd_T74 l0 x9_1).f0), .string ((rd_T74 l0 x9_1).f1), .slice none 0 0]) ?_ 2 _ rfl; refine blk_put (cs := #[.string ((rd_T74 l0 x9_1).f0), .string (⟨#[]⟩ : ByteArray), .slice none 0 0]) ?_ 1 _ rfl; refine blk_put (cs := #[.string (⟨#[]⟩ : ByteArray), .string (⟨#[]⟩ : ByteArray), .slice none 0 0]) ?_ 0 _ rfl; (with_reducible repeat (first | refine blk_drewN ?_ _ | refine blk_drew ?_ | refine blk_alloc ?_ _)); exact BK143.out) hb); have n1_ := Aside0.mk (below_step bl_ hb); clear BK143; clear HB; have BK143 := n0_; have HB := n1_; clear n0_ n1_; (try clear hb); (try clear hb2); (try clear hk); (try clear hi)))
       go_ret
       exact ⟨sq_, bl_⟩
     ·rw [if_neg c4] at H
      exact absurd H (by simp)
    ·rw [if_neg c3] at H
     exact absurd H (by simp)
   ·rw [if_neg c2] at H
    have c2b0 : decide (x9_1 < (l0.length : Int)) = false := decide_eq_false c2
    clear c2
    obtain rfl := Option.some.inj H
    go_wp2
    go_ret
    exact ⟨sq_, bl_⟩

/-! ### spec_l06Time: function 89 -/
def spec_l06Time.f (a0 : Int) : Option (Bool) := (spec_l01In.f a0 0 1000000000).bind fun t151 => (some t151)
set_option maxHeartbeats 8000000 in
set_option maxRecDepth 100000 in
theorem spec_l06Time.calls (a0 : Int) (r : Bool) (w : World) (h : spec_l06Time.f a0 = some r) :
  Calls Try.prog 89 #[.int .i64 a0] w fun e w' => e = .returned (.bool r) ∧ Drawn0 w w' := by
 have H : ((spec_l01In.f a0 0 1000000000).bind fun t151 => (some t151)) = some r := h
 clear h
 replace H := Option.bind_eq_some_iff.mp H
 obtain ⟨t151, A20, H⟩ := H
 replace H : (some t151) = some r := H
 have A2 := Aside0.mk A20
 clear A20
 obtain rfl := Option.some.inj H
 go_enter Try.func89, Try.ntmps89
 go_wp2_with (first | ((with_reducible refine gate_callee (f := 140) rfl ?_); refine goesL_ (some 4) rfl rfl Try.func140 (by kernel_rfl) rfl #[.int .i64 a0, .int .i64 0, .int .i64 1000000000] rfl gl_ ?_; (with_reducible refine (spec_l01In.calls a0 0 1000000000 t151 _ A2.out).mono ?_); rintro e w' ⟨rfl, ⟨nd, rfl⟩⟩; refine ⟨_, rfl, ?_⟩))
 go_ret
 exact ⟨sp_, by repeat (first | exact Drawn0.refl _ | apply Drawn0.step)⟩

end Go.Proofs.Ytepjnalkpfnmcaa.QFnExactRoom
