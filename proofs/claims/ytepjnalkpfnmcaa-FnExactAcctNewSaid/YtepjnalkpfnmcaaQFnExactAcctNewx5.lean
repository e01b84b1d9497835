-- by my own printer (myprint.py, over the kit's print.py)
import Derived.Test.YtepjnalkpfnmcaaQFnExactAcctNewx0
import Derived.Test.YtepjnalkpfnmcaaQFnExactAcctNewx2
import Derived.Test.YtepjnalkpfnmcaaQFnExactAcctNewx3
namespace Go.Proofs.Ytepjnalkpfnmcaa.QFnExactAcctNew
open Go.RowKit Go.Proofs.YtepjnalkpfnmcaaW.PrintWords Go.Proofs.YtepjnalkpfnmcaaW.PrintLast Go.Proofs.YtepjnalkpfnmcaaW.PrintMore
attribute [local go_sem] max2_int min2_int max_two min_two max_three min_three max_four min_four   -- for this text's walks alone
set_option linter.unusedVariables false
set_option linter.unusedSimpArgs false
attribute [local go_sem] my_geq my_leq my_gtr
/-! ### spec_Luhn: function 205 -/
def spec_Luhn.l0 : Nat → ByteArray → Int → Bool → Int → Option (Int)
 | 0, _, _, _, _ => none
 | k + 1, x0, x3, x4, x5 => if x5 ≥ 0 then (if 0 ≤ x5 then (if x5 < (x0.size : Int) then (if x4 = true then (if (wrap64 (2 * (wrap64 ((wrap64 (bt x0 x5)) - 48)))) > 9 then (spec_Luhn.l0 k x0 (Int.tmod (wrap64 (x3 + (wrap64 ((wrap64 (2 * (wrap64 ((wrap64 (bt x0 x5)) - 48)))) - 9)))) 10) (!x4) (wrap64 (x5 - 1))) else (spec_Luhn.l0 k x0 (Int.tmod (wrap64 (x3 + (wrap64 (2 * (wrap64 ((wrap64 (bt x0 x5)) - 48)))))) 10) (!x4) (wrap64 (x5 - 1)))) else (spec_Luhn.l0 k x0 (Int.tmod (wrap64 (x3 + (wrap64 ((wrap64 (bt x0 x5)) - 48)))) 10) (!x4) (wrap64 (x5 - 1)))) else (none)) else (none)) else (some (Int.tmod (wrap64 (10 - x3)) 10))
def spec_Luhn.f (k : Nat) (a0 : ByteArray) : Option (Int) := (spec_Digits.f k a0).bind fun t157 => (if t157 = true then (spec_Luhn.l0 k a0 0 true (wrap64 ((a0.size : Int) - 1))) else (some (-1)))
set_option maxHeartbeats 8000000 in
set_option maxRecDepth 100000 in
theorem spec_Luhn.calls (k : Nat) (a0 : ByteArray) (r : Int) (w : World) (h : spec_Luhn.f k a0 = some r) :
  Calls Try.prog 205 #[.string a0] w fun e w' => e = .returned (.int .i64 r) ∧ Drawn0 w w' := by
 have H : ((spec_Digits.f k a0).bind fun t157 => (if t157 = true then (spec_Luhn.l0 k a0 0 true (wrap64 ((a0.size : Int) - 1))) else (some (-1)))) = some r := h
 clear h
 obtain ⟨t157, A2, H⟩ := ob_ H
 by_cases c3 : t157 = true
 ·subst c3
  replace H := ip_ H
  have H' := Aside0.mk H
  clear H
  go_enter Try.func205, Try.ntmps205
  go_wp2_with (first | ((with_reducible refine gate_callee (f := 188) rfl ?_); refine goesL_ (some 8) rfl rfl Try.func188 (by kernel_rfl) rfl #[.string a0] rfl gl_ ?_; (with_reducible refine (spec_Digits.calls k a0 true _ A2.out).mono ?_); rintro e w' ⟨rfl, ⟨nd, rfl⟩⟩; refine ⟨_, rfl, ?_⟩))
  go_loopg [3, 4, 5] k (fun kq v3 v4 v5 w' => ∃ (x3_1 : Int) (x4_1 : Bool) (x5_1 : Int), v3 = .int .i64 x3_1 ∧ v4 = .bool x4_1 ∧ v5 = .int .i64 x5_1 ∧ Aside0 (spec_Luhn.l0 kq a0 x3_1 x4_1 x5_1 = some r) ∧ Aside0 (kq ≤ k) ∧ Drawn0 w w')
  case atStart => exact ⟨(0), (true), (wrap64 ((a0.size : Int) - 1)), sp_, sp_, sp_, H', ⟨Nat.le_refl _⟩, by repeat (first | exact Drawn0.refl _ | apply Drawn0.step)⟩
  case round =>
   clear H'
   try clear c1
   try clear c2
   try clear p2
   try clear c3
   obtain ⟨x3_1, x4_1, x5_1, rfl, rfl, rfl, HA, HK1, ⟨m1, rfl⟩⟩ := hrel
   cases gk with
   | zero => exact absurd HA.out (by simp [spec_Luhn.l0])
   | succ k1 =>
    have H := HA.out
    clear HA
    simp only [spec_Luhn.l0] at H
    by_cases c4 : x5_1 ≥ 0
    ·rw [if_pos c4] at H
     have c4b0 : decide (0 ≤ x5_1) = true := decide_eq_true c4
     clear c4
     by_cases c5 : 0 ≤ x5_1
     ·rw [if_pos c5] at H
      have c5b0 : decide (0 ≤ x5_1) = true := decide_eq_true c5
      clear c5
      by_cases c6 : x5_1 < (a0.size : Int)
      ·rw [if_pos c6] at H
       have c6b0 : decide (x5_1 < (a0.size : Int)) = true := decide_eq_true c6
       clear c6
       by_cases c8 : x4_1 = true
       ·subst c8
        replace H := ip_ H
        by_cases c9 : (wrap64 (2 * (wrap64 ((wrap64 (bt a0 x5_1)) - 48)))) > 9
        ·rw [if_pos c9] at H
         have c9b0 : decide (9 < (wrap64 (2 * (wrap64 ((wrap64 (bt a0 x5_1)) - 48))))) = true := decide_eq_true c9
         clear c9
         have H' := Aside0.mk H
         clear H
         have p7 : 0 ≤ (x5_1 : Int) := od_
         have q7 : x5_1 < (a0.size : Int) := od_
         have hx7 := bt_at a0 x5_1
         replace p7 := eq_true p7
         replace q7 := eq_true q7
         go_wp2
         go_roundg k1
         case measure => have := HK1.out; omega
         case rel => exact ⟨(Int.tmod (wrap64 (x3_1 + (wrap64 ((wrap64 (2 * (wrap64 ((wrap64 (bt a0 x5_1)) - 48)))) - 9)))) 10), (!true), (wrap64 (x5_1 - 1)), sp_, sp_, sp_, H', ⟨by have := HK1.out; omega⟩, by repeat (first | exact Drawn0.refl _ | apply Drawn0.step)⟩
        ·rw [if_neg c9] at H
         have c9b0 : decide (9 < (wrap64 (2 * (wrap64 ((wrap64 (bt a0 x5_1)) - 48))))) = false := decide_eq_false c9
         clear c9
         have H' := Aside0.mk H
         clear H
         have p7 : 0 ≤ (x5_1 : Int) := od_
         have q7 : x5_1 < (a0.size : Int) := od_
         have hx7 := bt_at a0 x5_1
         replace p7 := eq_true p7
         replace q7 := eq_true q7
         go_wp2
         go_roundg k1
         case measure => have := HK1.out; omega
         case rel => exact ⟨(Int.tmod (wrap64 (x3_1 + (wrap64 (2 * (wrap64 ((wrap64 (bt a0 x5_1)) - 48)))))) 10), (!true), (wrap64 (x5_1 - 1)), sp_, sp_, sp_, H', ⟨by have := HK1.out; omega⟩, by repeat (first | exact Drawn0.refl _ | apply Drawn0.step)⟩
       ·replace c8 := Bool.eq_false_iff.mpr c8
        subst c8
        replace H := in_ H
        have H' := Aside0.mk H
        clear H
        have p7 : 0 ≤ (x5_1 : Int) := od_
        have q7 : x5_1 < (a0.size : Int) := od_
        have hx7 := bt_at a0 x5_1
        replace p7 := eq_true p7
        replace q7 := eq_true q7
        go_wp2
        go_roundg k1
        case measure => have := HK1.out; omega
        case rel => exact ⟨(Int.tmod (wrap64 (x3_1 + (wrap64 ((wrap64 (bt a0 x5_1)) - 48)))) 10), (!false), (wrap64 (x5_1 - 1)), sp_, sp_, sp_, H', ⟨by have := HK1.out; omega⟩, by repeat (first | exact Drawn0.refl _ | apply Drawn0.step)⟩
      ·rw [if_neg c6] at H
       exact absurd H (by simp)
     ·rw [if_neg c5] at H
      exact absurd H (by simp)
    ·rw [if_neg c4] at H
     have c4b0 : decide (0 ≤ x5_1) = false := decide_eq_false c4
     clear c4
     obtain rfl := Option.some.inj H
     go_wp2
     go_ret
     exact ⟨sp_, by repeat (first | exact Drawn0.refl _ | apply Drawn0.step)⟩
 ·replace c3 := Bool.eq_false_iff.mpr c3
  subst c3
  replace H := in_ H
  obtain rfl := Option.some.inj H
  go_enter Try.func205, Try.ntmps205
  go_wp2_with (first | ((with_reducible refine gate_callee (f := 188) rfl ?_); refine goesL_ (some 8) rfl rfl Try.func188 (by kernel_rfl) rfl #[.string a0] rfl gl_ ?_; (with_reducible refine (spec_Digits.calls k a0 false _ A2.out).mono ?_); rintro e w' ⟨rfl, ⟨nd, rfl⟩⟩; refine ⟨_, rfl, ?_⟩))
  go_ret
  exact ⟨sp_, by repeat (first | exact Drawn0.refl _ | apply Drawn0.step)⟩
/-! ### spec_LuhnOk: function 178 -/
def spec_LuhnOk.f (k : Nat) (a0 : ByteArray) : Option (Bool) := (spec_Digits.f k a0).bind fun t158 => (if t158 = true then (if (a0.size : Int) < 2 then (some false) else (if 0 ≤ (wrap64 ((a0.size : Int) - 1)) then (if (wrap64 ((a0.size : Int) - 1)) ≤ (a0.size : Int) then ((spec_Luhn.f k (a0.extract 0 ((wrap64 ((a0.size : Int) - 1)) : Int).toNat)).bind fun t159 => (if (wrap64 ((a0.size : Int) - 1)) < (a0.size : Int) then (some (t159 == (wrap64 ((wrap64 (bt a0 (wrap64 ((a0.size : Int) - 1)))) - 48)))) else (none))) else (none)) else (none))) else (some false))
set_option maxHeartbeats 8000000 in
set_option maxRecDepth 100000 in
theorem spec_LuhnOk.calls (k : Nat) (a0 : ByteArray) (r : Bool) (w : World) (h : spec_LuhnOk.f k a0 = some r) :
  Calls Try.prog 178 #[.string a0] w fun e w' => e = .returned (.bool r) ∧ Drawn0 w w' := by
 have H : ((spec_Digits.f k a0).bind fun t158 => (if t158 = true then (if (a0.size : Int) < 2 then (some false) else (if 0 ≤ (wrap64 ((a0.size : Int) - 1)) then (if (wrap64 ((a0.size : Int) - 1)) ≤ (a0.size : Int) then ((spec_Luhn.f k (a0.extract 0 ((wrap64 ((a0.size : Int) - 1)) : Int).toNat)).bind fun t159 => (if (wrap64 ((a0.size : Int) - 1)) < (a0.size : Int) then (some (t159 == (wrap64 ((wrap64 (bt a0 (wrap64 ((a0.size : Int) - 1)))) - 48)))) else (none))) else (none)) else (none))) else (some false))) = some r := h
 clear h
 obtain ⟨t158, A2, H⟩ := ob_ H
 by_cases c3 : t158 = true
 ·subst c3
  replace H := ip_ H
  by_cases c4 : (a0.size : Int) < 2
  ·rw [if_pos c4] at H
   have c4b0 : decide ((a0.size : Int) < 2) = true := decide_eq_true c4
   have c4b1 : decide (a0.size < 2) = true := decide_eq_true (by omega)
   clear c4
   obtain rfl := Option.some.inj H
   go_enter Try.func178, Try.ntmps178
   go_wp2_with (first | (go_at_call 188; (with_reducible refine (spec_Digits.calls k a0 true _ A2.out).mono ?_); rintro e w' ⟨rfl, ⟨nd, rfl⟩⟩; (try first | exact ⟨rfl, _, World.drewN_drewN _ _ _⟩ | exact ⟨rfl, _, Eq.trans (World.drewN_drewN _ _ _) (congrArg (World.drewN _) (Nat.add_assoc _ _ _))⟩)))
   repeat (go_quiet (first | (go_at_call 188; (with_reducible refine (spec_Digits.calls k a0 true _ A2.out).mono ?_); rintro e w' ⟨rfl, ⟨nd, rfl⟩⟩; (try first | exact ⟨rfl, _, World.drewN_drewN _ _ _⟩ | exact ⟨rfl, _, Eq.trans (World.drewN_drewN _ _ _) (congrArg (World.drewN _) (Nat.add_assoc _ _ _))⟩))); try go_wp2_with (first | (go_at_call 188; (with_reducible refine (spec_Digits.calls k a0 true _ A2.out).mono ?_); rintro e w' ⟨rfl, ⟨nd, rfl⟩⟩; (try first | exact ⟨rfl, _, World.drewN_drewN _ _ _⟩ | exact ⟨rfl, _, Eq.trans (World.drewN_drewN _ _ _) (congrArg (World.drewN _) (Nat.add_assoc _ _ _))⟩))))
   go_ret
   exact ⟨sp_, by repeat (first | exact Drawn0.refl _ | apply Drawn0.step)⟩
  ·rw [if_neg c4] at H
   have c4b0 : decide ((a0.size : Int) < 2) = false := decide_eq_false c4
   have c4b1 : decide (a0.size < 2) = false := decide_eq_false (by omega)
   clear c4
   obtain ⟨ji5, hji5⟩ : ∃ j_ : Int, (wrap64 ((a0.size : Int) - 1)) = j_ := ⟨_, rfl⟩
   replace H : (if 0 ≤ (ji5) then (if (ji5) ≤ (a0.size : Int) then ((spec_Luhn.f k (a0.extract 0 ((ji5) : Int).toNat)).bind fun t159 => (if (ji5) < (a0.size : Int) then (some (t159 == (wrap64 ((wrap64 (bt a0 (ji5))) - 48)))) else (none))) else (none)) else (none)) = some r := by first | (rw [hji5] at H; exact H) | (simp only [hji5] at H ⊢; exact H)
   (try rw [hji5] at A2)
   have hji5w : (IntKind.i64.wrap ((a0.size : Int) - 1)) = ji5 := (i64_w _).trans hji5
   by_cases c6 : 0 ≤ (ji5)
   ·rw [if_pos c6] at H
    have c6b0 := eq_true c6
    have c6b1 : decide (0 ≤ (ji5)) = true := decide_eq_true c6
    clear c6
    by_cases c7 : (ji5) ≤ (a0.size : Int)
    ·rw [if_pos c7] at H
     have c7b0 := eq_true c7
     have c7b1 : decide ((ji5) ≤ (a0.size : Int)) = true := decide_eq_true c7
     clear c7
     obtain ⟨t159, A8, H⟩ := ob_ H
     by_cases c9 : (ji5) < (a0.size : Int)
     ·rw [if_pos c9] at H
      have c9b0 : decide ((ji5) < (a0.size : Int)) = true := decide_eq_true c9
      clear c9
      obtain rfl := Option.some.inj H
      go_enter Try.func178, Try.ntmps178
      go_wp2_with (first | (go_at_call 188; (with_reducible refine (spec_Digits.calls k a0 true _ A2.out).mono ?_); rintro e w' ⟨rfl, ⟨nd, rfl⟩⟩; (try first | exact ⟨rfl, _, World.drewN_drewN _ _ _⟩ | exact ⟨rfl, _, Eq.trans (World.drewN_drewN _ _ _) (congrArg (World.drewN _) (Nat.add_assoc _ _ _))⟩)) | (go_at_call 205; (with_reducible refine (spec_Luhn.calls k (a0.extract 0 ((ji5) : Int).toNat) t159 _ A8.out).mono ?_); rintro e w' ⟨rfl, ⟨nd, rfl⟩⟩; (try first | exact ⟨rfl, _, World.drewN_drewN _ _ _⟩ | exact ⟨rfl, _, Eq.trans (World.drewN_drewN _ _ _) (congrArg (World.drewN _) (Nat.add_assoc _ _ _))⟩); have p10 : 0 ≤ ((ji5) : Int) := od_; have q10 : (ji5) < (a0.size : Int) := od_; have hx10 := bt_at a0 (ji5); replace p10 := eq_true p10; replace q10 := eq_true q10))
      repeat (go_quiet (first | (go_at_call 188; (with_reducible refine (spec_Digits.calls k a0 true _ A2.out).mono ?_); rintro e w' ⟨rfl, ⟨nd, rfl⟩⟩; (try first | exact ⟨rfl, _, World.drewN_drewN _ _ _⟩ | exact ⟨rfl, _, Eq.trans (World.drewN_drewN _ _ _) (congrArg (World.drewN _) (Nat.add_assoc _ _ _))⟩)) | (go_at_call 205; (with_reducible refine (spec_Luhn.calls k (a0.extract 0 ((ji5) : Int).toNat) t159 _ A8.out).mono ?_); rintro e w' ⟨rfl, ⟨nd, rfl⟩⟩; (try first | exact ⟨rfl, _, World.drewN_drewN _ _ _⟩ | exact ⟨rfl, _, Eq.trans (World.drewN_drewN _ _ _) (congrArg (World.drewN _) (Nat.add_assoc _ _ _))⟩); have p10 : 0 ≤ ((ji5) : Int) := od_; have q10 : (ji5) < (a0.size : Int) := od_; have hx10 := bt_at a0 (ji5); replace p10 := eq_true p10; replace q10 := eq_true q10)); try go_wp2_with (first | (go_at_call 188; (with_reducible refine (spec_Digits.calls k a0 true _ A2.out).mono ?_); rintro e w' ⟨rfl, ⟨nd, rfl⟩⟩; (try first | exact ⟨rfl, _, World.drewN_drewN _ _ _⟩ | exact ⟨rfl, _, Eq.trans (World.drewN_drewN _ _ _) (congrArg (World.drewN _) (Nat.add_assoc _ _ _))⟩)) | (go_at_call 205; (with_reducible refine (spec_Luhn.calls k (a0.extract 0 ((ji5) : Int).toNat) t159 _ A8.out).mono ?_); rintro e w' ⟨rfl, ⟨nd, rfl⟩⟩; (try first | exact ⟨rfl, _, World.drewN_drewN _ _ _⟩ | exact ⟨rfl, _, Eq.trans (World.drewN_drewN _ _ _) (congrArg (World.drewN _) (Nat.add_assoc _ _ _))⟩); have p10 : 0 ≤ ((ji5) : Int) := od_; have q10 : (ji5) < (a0.size : Int) := od_; have hx10 := bt_at a0 (ji5); replace p10 := eq_true p10; replace q10 := eq_true q10)))
      go_ret
      exact ⟨by first | rfl | (simp; done) | (simp only [← hji5] <;> (first | rfl | (simp; done) | (simp [my_isEmpty, my_w256, Go.Proofs.YtepjnalkpfnmcaaW.PrintLast.i64_w, Go.Proofs.YtepjnalkpfnmcaaW.PrintLast.i32_w, Go.IntKind.wrap_u8, Go.IntKind.wrap_u32]; done))) | (simp [*]; done) | (simp [my_isEmpty, my_w256, Go.Proofs.YtepjnalkpfnmcaaW.PrintLast.i64_w, Go.Proofs.YtepjnalkpfnmcaaW.PrintLast.i32_w, Go.IntKind.wrap_u8, Go.IntKind.wrap_u32]; done), by repeat (first | exact Drawn0.refl _ | apply Drawn0.step)⟩
     ·rw [if_neg c9] at H
      exact absurd H (by simp)
    ·rw [if_neg c7] at H
     exact absurd H (by simp)
   ·rw [if_neg c6] at H
    exact absurd H (by simp)
 ·replace c3 := Bool.eq_false_iff.mpr c3
  subst c3
  replace H := in_ H
  obtain rfl := Option.some.inj H
  go_enter Try.func178, Try.ntmps178
  go_wp2_with (first | (go_at_call 188; (with_reducible refine (spec_Digits.calls k a0 false _ A2.out).mono ?_); rintro e w' ⟨rfl, ⟨nd, rfl⟩⟩; (try first | exact ⟨rfl, _, World.drewN_drewN _ _ _⟩ | exact ⟨rfl, _, Eq.trans (World.drewN_drewN _ _ _) (congrArg (World.drewN _) (Nat.add_assoc _ _ _))⟩)))
  repeat (go_quiet (first | (go_at_call 188; (with_reducible refine (spec_Digits.calls k a0 false _ A2.out).mono ?_); rintro e w' ⟨rfl, ⟨nd, rfl⟩⟩; (try first | exact ⟨rfl, _, World.drewN_drewN _ _ _⟩ | exact ⟨rfl, _, Eq.trans (World.drewN_drewN _ _ _) (congrArg (World.drewN _) (Nat.add_assoc _ _ _))⟩))); try go_wp2_with (first | (go_at_call 188; (with_reducible refine (spec_Digits.calls k a0 false _ A2.out).mono ?_); rintro e w' ⟨rfl, ⟨nd, rfl⟩⟩; (try first | exact ⟨rfl, _, World.drewN_drewN _ _ _⟩ | exact ⟨rfl, _, Eq.trans (World.drewN_drewN _ _ _) (congrArg (World.drewN _) (Nat.add_assoc _ _ _))⟩))))
  go_ret
  exact ⟨sp_, by repeat (first | exact Drawn0.refl _ | apply Drawn0.step)⟩
/-! ### spec_AcctIdOk: function 139 -/
def spec_AcctIdOk.f (k : Nat) (a0 : ByteArray) : Option (Bool) := if (a0.size : Int) ≤ 19 then ((spec_LuhnOk.f k a0).bind fun t160 => (some t160)) else (some false)
set_option maxHeartbeats 8000000 in
set_option maxRecDepth 100000 in
theorem spec_AcctIdOk.calls (k : Nat) (a0 : ByteArray) (r : Bool) (w : World) (h : spec_AcctIdOk.f k a0 = some r) :
  Calls Try.prog 139 #[.string a0] w fun e w' => e = .returned (.bool r) ∧ Drawn0 w w' := by
 have H : (if (a0.size : Int) ≤ 19 then ((spec_LuhnOk.f k a0).bind fun t160 => (some t160)) else (some false)) = some r := h
 clear h
 by_cases c2 : (a0.size : Int) ≤ 19
 ·rw [if_pos c2] at H
  have c2b0 : decide ((a0.size : Int) ≤ 19) = true := decide_eq_true c2
  have c2b1 : decide (a0.size ≤ 19) = true := decide_eq_true (by omega)
  clear c2
  obtain ⟨t160, A3, H⟩ := ob_ H
  obtain rfl := Option.some.inj H
  go_enter Try.func139, Try.ntmps139
  go_wp2_with (first | (go_at_call 178; (with_reducible refine (spec_LuhnOk.calls k a0 t160 _ A3.out).mono ?_); rintro e w' ⟨rfl, ⟨nd, rfl⟩⟩))
  go_ret
  exact ⟨sp_, by repeat (first | exact Drawn0.refl _ | apply Drawn0.step)⟩
 ·rw [if_neg c2] at H
  have c2b0 : decide ((a0.size : Int) ≤ 19) = false := decide_eq_false c2
  have c2b1 : decide (a0.size ≤ 19) = false := decide_eq_false (by omega)
  clear c2
  obtain rfl := Option.some.inj H
  go_enter Try.func139, Try.ntmps139
  go_wp2
  go_ret
  exact ⟨sp_, by repeat (first | exact Drawn0.refl _ | apply Drawn0.step)⟩
/-! ### spec_RingOk: function 142 -/
mutual
def spec_RingOk.j0 : Nat → Bool → Int → Int → List Int → List Int → Option (Bool)
 | 0, _, _, _, _, _ => none
 | k + 1, x29, x162000, x162001, x162002, x162003 => if x29 = true then (some false) else (spec_RingOk.l0 k (x162002.length : Int) 0 x162000 x162001 x162002 x162003)
def spec_RingOk.l0 : Nat → Int → Int → Int → Int → List Int → List Int → Option (Bool)
 | 0, _, _, _, _, _, _ => none
 | k + 1, x32, x33, x162000, x162001, x162002, x162003 => if x33 < x32 then (if 0 ≤ x33 then (if x33 < (x162002.length : Int) then ((spec_l01Money.f (rd x162002 x33)).bind fun t166 => (if t166 = true then (if x33 < (x162003.length : Int) then ((spec_l01Money.f (rd x162003 x33)).bind fun t168 => (if t168 = true then (spec_RingOk.l0 k x32 (wrap64 (x33 + 1)) x162000 x162001 x162002 x162003) else (some false))) else (none)) else (some false))) else (none)) else (none)) else (some true)
end
def spec_RingOk.f (k : Nat) (a0_0 : Int) (a0_1 : Int) (l0_2 : List Int) (l0_3 : List Int) : Option (Bool) := (spec_l01In.f a0_0 1 1000).bind fun t162 => (if t162 = true then ((spec_l01In.f (l0_2.length : Int) 1 8).bind fun t163 => (if t163 = true then (if (l0_3.length : Int) = (l0_2.length : Int) then ((spec_l06Time.f a0_1).bind fun t164 => (spec_RingOk.j0 k (!t164) a0_0 a0_1 l0_2 l0_3)) else (spec_RingOk.j0 k true a0_0 a0_1 l0_2 l0_3)) else (spec_RingOk.j0 k true a0_0 a0_1 l0_2 l0_3))) else (spec_RingOk.j0 k true a0_0 a0_1 l0_2 l0_3))
set_option maxHeartbeats 8000000 in
set_option maxRecDepth 100000 in
theorem spec_RingOk.calls (k : Nat) (a0_0 : Int) (a0_1 : Int) (A0_2 : Option Addr) (c0_2 : Nat) (l0_2 : List Int) (A0_3 : Option Addr) (c0_3 : Nat) (l0_3 : List Int) (r : Bool) (w : World) (hr0_2 : Kd.C (Kd.int .i64) w A0_2 l0_2.length l0_2) (hc0_2 : l0_2.length ≤ c0_2) (hr0_3 : Kd.C (Kd.int .i64) w A0_3 l0_3.length l0_3) (hc0_3 : l0_3.length ≤ c0_3) (h : spec_RingOk.f k a0_0 a0_1 l0_2 l0_3 = some r) :
  Calls Try.prog 142 #[.agg #[.int .i64 a0_0, .int .i64 a0_1, .slice A0_2 l0_2.length c0_2, .slice A0_3 l0_3.length c0_3]] w fun e w' => e = .returned (.bool r) ∧ Below w.heap.size w w' := by
 have hu40 := Try.underlying40
 have HR0_2 := Aside0.mk hr0_2
 have HC0_2 := Aside0.mk hc0_2
 clear hr0_2 hc0_2
 have HR0_3 := Aside0.mk hr0_3
 have HC0_3 := Aside0.mk hc0_3
 clear hr0_3 hc0_3
 have HB := Aside0.mk (Below.refl w.heap.size w)
 have H : ((spec_l01In.f a0_0 1 1000).bind fun t162 => (if t162 = true then ((spec_l01In.f (l0_2.length : Int) 1 8).bind fun t163 => (if t163 = true then (if (l0_3.length : Int) = (l0_2.length : Int) then ((spec_l06Time.f a0_1).bind fun t164 => (spec_RingOk.j0 k (!t164) a0_0 a0_1 l0_2 l0_3)) else (spec_RingOk.j0 k true a0_0 a0_1 l0_2 l0_3)) else (spec_RingOk.j0 k true a0_0 a0_1 l0_2 l0_3))) else (spec_RingOk.j0 k true a0_0 a0_1 l0_2 l0_3))) = some r := h
 clear h
 have HC2 := Aside0.mk H
 clear H
 go_enter Try.func142, Try.ntmps142
 go_upto_region 1 with (first | ((with_reducible refine gate_dst (N := 1) rfl ?_); (try (refine gate_guard (by rfl) ?_; dsimp only)); refine be_ (N := 1) (cs := #[.int .i64 a0_0, .int .i64 a0_1, .slice A0_2 l0_2.length c0_2, .slice A0_3 l0_3.length c0_3]) (t := 40) ?_; intro gb161 hg w3 hbox hb; have BK161 := Aside0.mk (hbox); have GW161 := gw_ (w := w) hg; have GE161 := gw_ (w := w) hg; replace HB := Aside0.mk (below_step bl_ hb); clear hb hbox hg))
 (try simp only [Act.put, List.setIfInBounds_toArray, List.set_cons_zero, List.set_cons_succ])
 go_cut [29] (fun v29 wc => ∃ (kq : Nat) (x29_1 : Bool), v29 = .bool x29_1 ∧ Aside0 (spec_RingOk.j0 kq x29_1 a0_0 a0_1 l0_2 l0_3 = some r) ∧ Aside0 (kq ≤ k) ∧ Aside0 (wc.heap[gb161]? = some (.cells #[.int .i64 a0_0, .int .i64 a0_1, (.slice A0_2 l0_2.length c0_2), (.slice A0_3 l0_3.length c0_3)] 40 (0, 0))) ∧ Aside0 (Below w.heap.size w wc))
 case first =>
  have H := HC2.out
  clear HC2
  obtain ⟨t162, A4, H⟩ := ob_ H
  by_cases c5 : t162 = true
  ·subst c5
   replace H := ip_ H
   obtain ⟨t163, A6, H⟩ := ob_ H
   by_cases c7 : t163 = true
   ·subst c7
    replace H := ip_ H
    by_cases c8 : (l0_3.length : Int) = (l0_2.length : Int)
    ·rw [if_pos c8] at H
     have c8b0 : ((l0_3.length : Int) == (l0_2.length : Int)) = true := beq_iff_eq.mpr c8
     have c8b1 : ((l0_3.length : Int) != (l0_2.length : Int)) = false := bne_eq_false_iff_eq.mpr c8
     have c8b2 : (l0_3.length == l0_2.length) = true := by first | simpa using c8 | (simp at c8 ⊢; omega)
     clear c8
     (first | rw [c8b0] | (simp only [i64_w, i32_w]; rw [c8b0]) | skip)
     obtain ⟨t164, A9, H⟩ := ob_ H
     have H' := Aside0.mk H
     clear H
     have hcz10_0 := cz_ BK161 0 (.int .i64 a0_0)
     have hcz10_1 := cz_ BK161 1 (.int .i64 a0_1)
     have hcz10_2 := cz_ BK161 2 (.slice A0_2 l0_2.length c0_2)
     have hcz10_3 := cz_ BK161 3 (.slice A0_3 l0_3.length c0_3)
     have hfz10_0 := fz_ BK161 0
     have hfz10_1 := fz_ BK161 1
     have hfz10_2 := fz_ BK161 2
     have hfz10_3 := fz_ BK161 3
     go_wp2_with (first | ((with_reducible refine gate_callee (f := 140) rfl ?_); refine goesL_ (some 6) rfl rfl Try.func140 (by kernel_rfl) rfl #[.int .i64 a0_0, .int .i64 1, .int .i64 1000] rfl gl_ ?_; (with_reducible refine (spec_l01In.calls a0_0 1 1000 true _ A4.out).mono ?_); rintro e w' ⟨rfl, ⟨nd, rfl⟩⟩; refine ⟨_, rfl, ?_⟩) | (go_at_call 140; (with_reducible refine (spec_l01In.calls (l0_2.length : Int) 1 8 true _ A6.out).mono ?_); rintro e w' ⟨rfl, ⟨nd, rfl⟩⟩) | (go_at_call 89; (with_reducible refine (spec_l06Time.calls a0_1 t164 _ A9.out).mono ?_); rintro e w' ⟨rfl, ⟨nd, rfl⟩⟩))
     go_meet
     case rel => exact ⟨_, (!t164), sp_, H', ⟨by first | omega | exact Nat.le_refl _⟩, ⟨by (with_reducible repeat (first | refine blk_drewN ?_ _ | refine blk_drew ?_ | refine blk_alloc ?_ _)); exact BK161.out⟩, ⟨bl_⟩⟩
    ·rw [if_neg c8] at H
     have c8b0 : ((l0_3.length : Int) == (l0_2.length : Int)) = false := beq_eq_false_iff_ne.mpr c8
     have c8b1 : ((l0_3.length : Int) != (l0_2.length : Int)) = true := bne_iff_ne.mpr c8
     have c8b2 : (l0_3.length == l0_2.length) = false := by first | simpa using c8 | (simp at c8 ⊢; omega)
     (first | rw [c8b0] | (simp only [i64_w, i32_w]; rw [c8b0]) | skip)
     have H' := Aside0.mk H
     clear H
     have hcz11_0 := cz_ BK161 0 (.int .i64 a0_0)
     have hcz11_1 := cz_ BK161 1 (.int .i64 a0_1)
     have hcz11_2 := cz_ BK161 2 (.slice A0_2 l0_2.length c0_2)
     have hcz11_3 := cz_ BK161 3 (.slice A0_3 l0_3.length c0_3)
     have hfz11_0 := fz_ BK161 0
     have hfz11_1 := fz_ BK161 1
     have hfz11_2 := fz_ BK161 2
     have hfz11_3 := fz_ BK161 3
     go_wp2_with (first | ((with_reducible refine gate_callee (f := 140) rfl ?_); refine goesL_ (some 6) rfl rfl Try.func140 (by kernel_rfl) rfl #[.int .i64 a0_0, .int .i64 1, .int .i64 1000] rfl gl_ ?_; (with_reducible refine (spec_l01In.calls a0_0 1 1000 true _ A4.out).mono ?_); rintro e w' ⟨rfl, ⟨nd, rfl⟩⟩; refine ⟨_, rfl, ?_⟩) | (go_at_call 140; (with_reducible refine (spec_l01In.calls (l0_2.length : Int) 1 8 true _ A6.out).mono ?_); rintro e w' ⟨rfl, ⟨nd, rfl⟩⟩))
     go_meet
     case rel => exact ⟨_, (true), sp_, H', ⟨by first | omega | exact Nat.le_refl _⟩, ⟨by (with_reducible repeat (first | refine blk_drewN ?_ _ | refine blk_drew ?_ | refine blk_alloc ?_ _)); exact BK161.out⟩, ⟨bl_⟩⟩
   ·replace c7 := Bool.eq_false_iff.mpr c7
    subst c7
    replace H := in_ H
    have H' := Aside0.mk H
    clear H
    have hcz12_0 := cz_ BK161 0 (.int .i64 a0_0)
    have hcz12_1 := cz_ BK161 1 (.int .i64 a0_1)
    have hcz12_2 := cz_ BK161 2 (.slice A0_2 l0_2.length c0_2)
    have hcz12_3 := cz_ BK161 3 (.slice A0_3 l0_3.length c0_3)
    have hfz12_0 := fz_ BK161 0
    have hfz12_1 := fz_ BK161 1
    have hfz12_2 := fz_ BK161 2
    have hfz12_3 := fz_ BK161 3
    go_wp2_with (first | ((with_reducible refine gate_callee (f := 140) rfl ?_); refine goesL_ (some 6) rfl rfl Try.func140 (by kernel_rfl) rfl #[.int .i64 a0_0, .int .i64 1, .int .i64 1000] rfl gl_ ?_; (with_reducible refine (spec_l01In.calls a0_0 1 1000 true _ A4.out).mono ?_); rintro e w' ⟨rfl, ⟨nd, rfl⟩⟩; refine ⟨_, rfl, ?_⟩) | (go_at_call 140; (with_reducible refine (spec_l01In.calls (l0_2.length : Int) 1 8 false _ A6.out).mono ?_); rintro e w' ⟨rfl, ⟨nd, rfl⟩⟩))
    go_meet
    case rel => exact ⟨_, (true), sp_, H', ⟨by first | omega | exact Nat.le_refl _⟩, ⟨by (with_reducible repeat (first | refine blk_drewN ?_ _ | refine blk_drew ?_ | refine blk_alloc ?_ _)); exact BK161.out⟩, ⟨bl_⟩⟩
  ·replace c5 := Bool.eq_false_iff.mpr c5
   subst c5
   replace H := in_ H
   have H' := Aside0.mk H
   clear H
   have hcz13_0 := cz_ BK161 0 (.int .i64 a0_0)
   have hcz13_1 := cz_ BK161 1 (.int .i64 a0_1)
   have hcz13_2 := cz_ BK161 2 (.slice A0_2 l0_2.length c0_2)
   have hcz13_3 := cz_ BK161 3 (.slice A0_3 l0_3.length c0_3)
   have hfz13_0 := fz_ BK161 0
   have hfz13_1 := fz_ BK161 1
   have hfz13_2 := fz_ BK161 2
   have hfz13_3 := fz_ BK161 3
   go_wp2_with (first | ((with_reducible refine gate_callee (f := 140) rfl ?_); refine goesL_ (some 6) rfl rfl Try.func140 (by kernel_rfl) rfl #[.int .i64 a0_0, .int .i64 1, .int .i64 1000] rfl gl_ ?_; (with_reducible refine (spec_l01In.calls a0_0 1 1000 false _ A4.out).mono ?_); rintro e w' ⟨rfl, ⟨nd, rfl⟩⟩; refine ⟨_, rfl, ?_⟩))
   go_meet
   case rel => exact ⟨_, (true), sp_, H', ⟨by first | omega | exact Nat.le_refl _⟩, ⟨by (with_reducible repeat (first | refine blk_drewN ?_ _ | refine blk_drew ?_ | refine blk_alloc ?_ _)); exact BK161.out⟩, ⟨bl_⟩⟩
 case rest =>
  clear HC2
  try clear c1
  try clear p2
  try clear c5
  try clear c7
  try clear c8
  try clear c8b0
  try clear c8b1
  try clear c8b2
  try clear hcz10_0
  try clear hcz10_1
  try clear hcz10_2
  try clear hcz10_3
  try clear hcz11_0
  try clear hcz11_1
  try clear hcz11_2
  try clear hcz11_3
  try clear hcz12_0
  try clear hcz12_1
  try clear hcz12_2
  try clear hcz12_3
  try clear hcz13_0
  try clear hcz13_1
  try clear hcz13_2
  try clear hcz13_3
  try clear hfz10_0
  try clear hfz10_1
  try clear hfz10_2
  try clear hfz10_3
  try clear hfz11_0
  try clear hfz11_1
  try clear hfz11_2
  try clear hfz11_3
  try clear hfz12_0
  try clear hfz12_1
  try clear hfz12_2
  try clear hfz12_3
  try clear hfz13_0
  try clear hfz13_1
  try clear hfz13_2
  try clear hfz13_3
  obtain ⟨kq, x29_1, rfl, HA, HJ1, BK161, HB⟩ := hcut
  cases kq with
  | zero => exact absurd HA.out (by simp [spec_RingOk.j0])
  | succ kj1 =>
   have H := HA.out
   clear HA
   simp only [spec_RingOk.j0] at H
   by_cases c14 : x29_1 = true
   ·subst c14
    replace H := ip_ H
    obtain rfl := Option.some.inj H
    go_wp2
    go_ret
    exact ⟨sq_, bl_⟩
   ·replace c14 := Bool.eq_false_iff.mpr c14
    subst c14
    replace H := in_ H
    have H' := Aside0.mk H
    clear H
    have hcz15_0 := cz_ BK161 0 (.int .i64 a0_0)
    have hcz15_1 := cz_ BK161 1 (.int .i64 a0_1)
    have hcz15_2 := cz_ BK161 2 (.slice A0_2 l0_2.length c0_2)
    have hcz15_3 := cz_ BK161 3 (.slice A0_3 l0_3.length c0_3)
    have hfz15_0 := fz_ BK161 0
    have hfz15_1 := fz_ BK161 1
    have hfz15_2 := fz_ BK161 2
    have hfz15_3 := fz_ BK161 3
    go_wp2
    go_loopg [33] kj1 (fun kq v33 w' => ∃ (x33_2 : Int), v33 = .int .i64 x33_2 ∧ Aside0 (spec_RingOk.l0 kq (l0_2.length : Int) x33_2 a0_0 a0_1 l0_2 l0_3 = some r) ∧ Aside0 (kq ≤ kj1) ∧ Aside0 (w'.heap[gb161]? = some (.cells #[.int .i64 a0_0, .int .i64 a0_1, (.slice A0_2 l0_2.length c0_2), (.slice A0_3 l0_3.length c0_3)] 40 (0, 0))) ∧ Aside0 (Below w.heap.size w w'))
    case atStart => exact ⟨(0), sp_, H', ⟨Nat.le_refl _⟩, ⟨by (with_reducible repeat (first | refine blk_drewN ?_ _ | refine blk_drew ?_ | refine blk_alloc ?_ _)); exact BK161.out⟩, ⟨bl_⟩⟩
    case round =>
     clear H'
     try clear c1
     try clear p2
     try clear c5
     try clear c7
     try clear c8
     try clear c8b0
     try clear c8b1
     try clear c8b2
     try clear c14
     try clear hcz10_0
     try clear hcz10_1
     try clear hcz10_2
     try clear hcz10_3
     try clear hcz11_0
     try clear hcz11_1
     try clear hcz11_2
     try clear hcz11_3
     try clear hcz12_0
     try clear hcz12_1
     try clear hcz12_2
     try clear hcz12_3
     try clear hcz13_0
     try clear hcz13_1
     try clear hcz13_2
     try clear hcz13_3
     try clear hcz15_0
     try clear hcz15_1
     try clear hcz15_2
     try clear hcz15_3
     try clear hfz10_0
     try clear hfz10_1
     try clear hfz10_2
     try clear hfz10_3
     try clear hfz11_0
     try clear hfz11_1
     try clear hfz11_2
     try clear hfz11_3
     try clear hfz12_0
     try clear hfz12_1
     try clear hfz12_2
     try clear hfz12_3
     try clear hfz13_0
     try clear hfz13_1
     try clear hfz13_2
     try clear hfz13_3
     try clear hfz15_0
     try clear hfz15_1
     try clear hfz15_2
     try clear hfz15_3
     try clear p2
     obtain ⟨x33_2, rfl, HA, HK2, BK161, HB⟩ := hrel
     cases gk with
     | zero => exact absurd HA.out (by simp [spec_RingOk.l0])
     | succ k2 =>
      have H := HA.out
      clear HA
      simp only [spec_RingOk.l0] at H
      by_cases c16 : x33_2 < (l0_2.length : Int)
      ·rw [if_pos c16] at H
       have c16b0 : decide (x33_2 < (l0_2.length : Int)) = true := decide_eq_true c16
       clear c16
       by_cases c17 : 0 ≤ x33_2
       ·rw [if_pos c17] at H
        have c17b0 : decide (0 ≤ x33_2) = true := decide_eq_true c17
        clear c17
        by_cases c18 : x33_2 < (l0_2.length : Int)
        ·rw [if_pos c18] at H
         have c18b0 : decide (x33_2 < (l0_2.length : Int)) = true := decide_eq_true c18
         clear c18
         obtain ⟨t166, A19, H⟩ := ob_ H
         by_cases c20 : t166 = true
         ·subst c20
          replace H := ip_ H
          by_cases c21 : x33_2 < (l0_3.length : Int)
          ·rw [if_pos c21] at H
           have c21b0 : decide (x33_2 < (l0_3.length : Int)) = true := decide_eq_true c21
           clear c21
           obtain ⟨t168, A22, H⟩ := ob_ H
           by_cases c23 : t168 = true
           ·subst c23
            replace H := ip_ H
            have H' := Aside0.mk H
            clear H
            have hcz24_0 := cz_ BK161 0 (.int .i64 a0_0)
            have hcz24_1 := cz_ BK161 1 (.int .i64 a0_1)
            have hcz24_2 := cz_ BK161 2 (.slice A0_2 l0_2.length c0_2)
            have hcz24_3 := cz_ BK161 3 (.slice A0_3 l0_3.length c0_3)
            have hfz24_0 := fz_ BK161 0
            have hfz24_1 := fz_ BK161 1
            have hfz24_2 := fz_ BK161 2
            have hfz24_3 := fz_ BK161 3
            have p165 : 0 ≤ (x33_2 : Int) := od_
            have q165 : x33_2 < (l0_2.length : Int) := od_
            obtain ⟨ad165, e165, hx165_0⟩ := Kd.at_int HR0_2.out x33_2 p165 q165
            cases e165
            replace hx165_0 := kc_ HB hx165_0
            replace p165 := eq_true p165
            replace q165 := eq_true q165
            go_wp2_with (first | ((with_reducible refine gate_callee (f := 141) rfl ?_); refine goesL_ (some 41) rfl rfl Try.func141 (by kernel_rfl) rfl #[.int .i64 (rd l0_2 x33_2)] rfl gl_ ?_; (with_reducible refine (spec_l01Money.calls (rd l0_2 x33_2) true _ A19.out).mono ?_); rintro e w' ⟨rfl, ⟨nd, rfl⟩⟩; refine ⟨_, rfl, ?_⟩; have p167 : 0 ≤ (x33_2 : Int) := od_; have q167 : x33_2 < (l0_3.length : Int) := od_; obtain ⟨ad167, e167, hx167_0⟩ := Kd.at_int HR0_3.out x33_2 p167 q167; cases e167; replace hx167_0 := kc_ HB hx167_0; replace p167 := eq_true p167; replace q167 := eq_true q167) | (go_at_call 141; (with_reducible refine (spec_l01Money.calls (rd l0_3 x33_2) true _ A22.out).mono ?_); rintro e w' ⟨rfl, ⟨nd, rfl⟩⟩))
            go_roundg k2
            case measure => have := HJ1.out; have := HK2.out; omega
            case rel => exact ⟨(wrap64 (x33_2 + 1)), sp_, H', ⟨by have := HJ1.out; have := HK2.out; omega⟩, ⟨by (with_reducible repeat (first | refine blk_drewN ?_ _ | refine blk_drew ?_ | refine blk_alloc ?_ _)); exact BK161.out⟩, ⟨bl_⟩⟩
           ·replace c23 := Bool.eq_false_iff.mpr c23
            subst c23
            replace H := in_ H
            obtain rfl := Option.some.inj H
            have hcz25_0 := cz_ BK161 0 (.int .i64 a0_0)
            have hcz25_1 := cz_ BK161 1 (.int .i64 a0_1)
            have hcz25_2 := cz_ BK161 2 (.slice A0_2 l0_2.length c0_2)
            have hcz25_3 := cz_ BK161 3 (.slice A0_3 l0_3.length c0_3)
            have hfz25_0 := fz_ BK161 0
            have hfz25_1 := fz_ BK161 1
            have hfz25_2 := fz_ BK161 2
            have hfz25_3 := fz_ BK161 3
            have p165 : 0 ≤ (x33_2 : Int) := od_
            have q165 : x33_2 < (l0_2.length : Int) := od_
            obtain ⟨ad165, e165, hx165_0⟩ := Kd.at_int HR0_2.out x33_2 p165 q165
            cases e165
            replace hx165_0 := kc_ HB hx165_0
            replace p165 := eq_true p165
            replace q165 := eq_true q165
            go_wp2_with (first | ((with_reducible refine gate_callee (f := 141) rfl ?_); refine goesL_ (some 41) rfl rfl Try.func141 (by kernel_rfl) rfl #[.int .i64 (rd l0_2 x33_2)] rfl gl_ ?_; (with_reducible refine (spec_l01Money.calls (rd l0_2 x33_2) true _ A19.out).mono ?_); rintro e w' ⟨rfl, ⟨nd, rfl⟩⟩; refine ⟨_, rfl, ?_⟩; have p167 : 0 ≤ (x33_2 : Int) := od_; have q167 : x33_2 < (l0_3.length : Int) := od_; obtain ⟨ad167, e167, hx167_0⟩ := Kd.at_int HR0_3.out x33_2 p167 q167; cases e167; replace hx167_0 := kc_ HB hx167_0; replace p167 := eq_true p167; replace q167 := eq_true q167) | (go_at_call 141; (with_reducible refine (spec_l01Money.calls (rd l0_3 x33_2) false _ A22.out).mono ?_); rintro e w' ⟨rfl, ⟨nd, rfl⟩⟩))
            go_ret
            exact ⟨sq_, bl_⟩
          ·rw [if_neg c21] at H
           exact absurd H (by simp)
         ·replace c20 := Bool.eq_false_iff.mpr c20
          subst c20
          replace H := in_ H
          obtain rfl := Option.some.inj H
          have hcz26_0 := cz_ BK161 0 (.int .i64 a0_0)
          have hcz26_1 := cz_ BK161 1 (.int .i64 a0_1)
          have hcz26_2 := cz_ BK161 2 (.slice A0_2 l0_2.length c0_2)
          have hcz26_3 := cz_ BK161 3 (.slice A0_3 l0_3.length c0_3)
          have hfz26_0 := fz_ BK161 0
          have hfz26_1 := fz_ BK161 1
          have hfz26_2 := fz_ BK161 2
          have hfz26_3 := fz_ BK161 3
          have p165 : 0 ≤ (x33_2 : Int) := od_
          have q165 : x33_2 < (l0_2.length : Int) := od_
          obtain ⟨ad165, e165, hx165_0⟩ := Kd.at_int HR0_2.out x33_2 p165 q165
          cases e165
          replace hx165_0 := kc_ HB hx165_0
          replace p165 := eq_true p165
          replace q165 := eq_true q165
          go_wp2_with (first | ((with_reducible refine gate_callee (f := 141) rfl ?_); refine goesL_ (some 41) rfl rfl Try.func141 (by kernel_rfl) rfl #[.int .i64 (rd l0_2 x33_2)] rfl gl_ ?_; (with_reducible refine (spec_l01Money.calls (rd l0_2 x33_2) false _ A19.out).mono ?_); rintro e w' ⟨rfl, ⟨nd, rfl⟩⟩; refine ⟨_, rfl, ?_⟩))
          go_ret
          exact ⟨sq_, bl_⟩
        ·rw [if_neg c18] at H
         exact absurd H (by simp)
       ·rw [if_neg c17] at H
        exact absurd H (by simp)
      ·rw [if_neg c16] at H
       have c16b0 : decide (x33_2 < (l0_2.length : Int)) = false := decide_eq_false c16
       clear c16
       obtain rfl := Option.some.inj H
       go_wp2
       go_ret
       exact ⟨sq_, bl_⟩
end Go.Proofs.Ytepjnalkpfnmcaa.QFnExactAcctNew
