-- by my own printer (myprint.py, over the kit's print.py)
import Derived.Test.YtohfefkjcnbejaaGreatDoorQFnExactReqOfx0
import Derived.Test.YtohfefkjcnbejaaGreatDoorQFnExactReqOfx1
namespace Go.Proofs.YtohfefkjcnbejaaGreatDoor.QFnExactReqOf
open Go.RowKit Go.Proofs.YtohfefkjcnbejaaGreatDoorW.PrintWords Go.Proofs.YtohfefkjcnbejaaGreatDoorW.PrintLast Go.Proofs.YtohfefkjcnbejaaGreatDoorW.PrintMore
attribute [local go_sem] max2_int min2_int max_two min_two max_three min_three max_four min_four   -- for this text's walks alone
set_option linter.unusedVariables false
set_option linter.unusedSimpArgs false
attribute [local go_sem] my_geq my_leq my_gtr
/-! ### spec_FieldKind: function 107 -/
mutual
def spec_FieldKind.j0 : Nat → Int → Bool → Option (Int)
 | 0, _, _ => none
 | k + 1, x3, x4 => if x4 = true then (some 1) else (if x3 = 37 then (spec_FieldKind.j1 k x3 (x3 == 37)) else (if x3 = 38 then (spec_FieldKind.j1 k x3 (x3 == 38)) else (if x3 = 39 then (spec_FieldKind.j1 k x3 (x3 == 39)) else (if x3 = 41 then (spec_FieldKind.j1 k x3 (x3 == 41)) else (spec_FieldKind.j1 k x3 (x3 == 95))))))
def spec_FieldKind.j1 : Nat → Int → Bool → Option (Int)
 | 0, _, _ => none
 | k + 1, x3, x11 => if x11 = true then (some 2) else (if x3 = 2 then (some 3) else (if x3 = 102 then (spec_FieldKind.j2 k x3 (x3 == 102)) else (spec_FieldKind.j2 k x3 (x3 == 103))))
def spec_FieldKind.j2 : Nat → Int → Bool → Option (Int)
 | 0, _, _ => none
 | k + 1, x3, x19 => if x19 = true then (some 4) else (if x3 = 48 then (some 5) else (if x3 = 54 then (some 5) else (some 0)))
end
def spec_FieldKind.f (k : Nat) (a0 : Int) : Option (Int) := if a0 = 3 then (spec_FieldKind.j0 k a0 (a0 == 3)) else (if a0 = 4 then (spec_FieldKind.j0 k a0 (a0 == 4)) else (if a0 = 7 then (spec_FieldKind.j0 k a0 (a0 == 7)) else (if a0 = 11 then (spec_FieldKind.j0 k a0 (a0 == 11)) else (if a0 = 14 then (spec_FieldKind.j0 k a0 (a0 == 14)) else (spec_FieldKind.j0 k a0 (a0 == 49))))))
set_option maxHeartbeats 8000000 in
set_option maxRecDepth 100000 in
theorem spec_FieldKind.calls (k : Nat) (a0 : Int) (r : Int) (w : World) (h : spec_FieldKind.f k a0 = some r) :
  Calls Tryz.prog 107 #[.int .i64 a0] w fun e w' => e = .returned (.int .i64 r) ∧ Drawn0 w w' := by
 have H : (if a0 = 3 then (spec_FieldKind.j0 k a0 (a0 == 3)) else (if a0 = 4 then (spec_FieldKind.j0 k a0 (a0 == 4)) else (if a0 = 7 then (spec_FieldKind.j0 k a0 (a0 == 7)) else (if a0 = 11 then (spec_FieldKind.j0 k a0 (a0 == 11)) else (if a0 = 14 then (spec_FieldKind.j0 k a0 (a0 == 14)) else (spec_FieldKind.j0 k a0 (a0 == 49))))))) = some r := h
 clear h
 have HC2 := Aside0.mk H
 clear H
 go_enter Tryz.func107, Tryz.ntmps107
 go_upto_if 4 with (fail)
 go_cut [4] (fun v4 wc => ∃ (kq : Nat) (x4_1 : Bool), v4 = .bool x4_1 ∧ Aside0 (spec_FieldKind.j0 kq a0 x4_1 = some r) ∧ Aside0 (kq ≤ k) ∧ Drawn0 w wc)
 case first =>
  have H := HC2.out
  clear HC2
  by_cases c3 : a0 = 3
  ·rw [if_pos c3] at H
   have c3b0 : (a0 == 3) = true := beq_iff_eq.mpr c3
   have c3b1 : (a0 != 3) = false := bne_eq_false_iff_eq.mpr c3
   clear c3
   (first | rw [c3b0] | (simp only [i64_w, i32_w]; rw [c3b0]) | skip)
   have H' := Aside0.mk H
   clear H
   go_wp2
   go_meet
   case rel => exact ⟨_, ((a0 == 3)), sp_, H', ⟨by first | omega | exact Nat.le_refl _⟩, by repeat (first | exact Drawn0.refl _ | apply Drawn0.step)⟩
  ·rw [if_neg c3] at H
   have c3b0 : (a0 == 3) = false := beq_eq_false_iff_ne.mpr c3
   have c3b1 : (a0 != 3) = true := bne_iff_ne.mpr c3
   (first | rw [c3b0] | (simp only [i64_w, i32_w]; rw [c3b0]) | skip)
   by_cases c4 : a0 = 4
   ·rw [if_pos c4] at H
    have c4b0 : (a0 == 4) = true := beq_iff_eq.mpr c4
    have c4b1 : (a0 != 4) = false := bne_eq_false_iff_eq.mpr c4
    clear c4
    have H' := Aside0.mk H
    clear H
    go_wp2
    go_meet
    case rel => exact ⟨_, ((a0 == 4)), sp_, H', ⟨by first | omega | exact Nat.le_refl _⟩, by repeat (first | exact Drawn0.refl _ | apply Drawn0.step)⟩
   ·rw [if_neg c4] at H
    have c4b0 : (a0 == 4) = false := beq_eq_false_iff_ne.mpr c4
    have c4b1 : (a0 != 4) = true := bne_iff_ne.mpr c4
    by_cases c5 : a0 = 7
    ·rw [if_pos c5] at H
     have c5b0 : (a0 == 7) = true := beq_iff_eq.mpr c5
     have c5b1 : (a0 != 7) = false := bne_eq_false_iff_eq.mpr c5
     clear c5
     have H' := Aside0.mk H
     clear H
     go_wp2
     go_meet
     case rel => exact ⟨_, ((a0 == 7)), sp_, H', ⟨by first | omega | exact Nat.le_refl _⟩, by repeat (first | exact Drawn0.refl _ | apply Drawn0.step)⟩
    ·rw [if_neg c5] at H
     have c5b0 : (a0 == 7) = false := beq_eq_false_iff_ne.mpr c5
     have c5b1 : (a0 != 7) = true := bne_iff_ne.mpr c5
     by_cases c6 : a0 = 11
     ·rw [if_pos c6] at H
      have c6b0 : (a0 == 11) = true := beq_iff_eq.mpr c6
      have c6b1 : (a0 != 11) = false := bne_eq_false_iff_eq.mpr c6
      clear c6
      have H' := Aside0.mk H
      clear H
      go_wp2
      go_meet
      case rel => exact ⟨_, ((a0 == 11)), sp_, H', ⟨by first | omega | exact Nat.le_refl _⟩, by repeat (first | exact Drawn0.refl _ | apply Drawn0.step)⟩
     ·rw [if_neg c6] at H
      have c6b0 : (a0 == 11) = false := beq_eq_false_iff_ne.mpr c6
      have c6b1 : (a0 != 11) = true := bne_iff_ne.mpr c6
      by_cases c7 : a0 = 14
      ·rw [if_pos c7] at H
       have c7b0 : (a0 == 14) = true := beq_iff_eq.mpr c7
       have c7b1 : (a0 != 14) = false := bne_eq_false_iff_eq.mpr c7
       clear c7
       have H' := Aside0.mk H
       clear H
       go_wp2
       go_meet
       case rel => exact ⟨_, ((a0 == 14)), sp_, H', ⟨by first | omega | exact Nat.le_refl _⟩, by repeat (first | exact Drawn0.refl _ | apply Drawn0.step)⟩
      ·rw [if_neg c7] at H
       have c7b0 : (a0 == 14) = false := beq_eq_false_iff_ne.mpr c7
       have c7b1 : (a0 != 14) = true := bne_iff_ne.mpr c7
       have H' := Aside0.mk H
       clear H
       go_wp2
       go_meet
       case rel => exact ⟨_, ((a0 == 49)), sp_, H', ⟨by first | omega | exact Nat.le_refl _⟩, by repeat (first | exact Drawn0.refl _ | apply Drawn0.step)⟩
 case rest =>
  clear HC2
  try clear c1
  try clear p2
  try clear c3
  try clear c3b0
  try clear c3b1
  try clear c4
  try clear c4b0
  try clear c4b1
  try clear c5
  try clear c5b0
  try clear c5b1
  try clear c6
  try clear c6b0
  try clear c6b1
  try clear c7
  try clear c7b0
  try clear c7b1
  obtain ⟨kq, x4_1, rfl, HA, HJ1, ⟨mc1, rfl⟩⟩ := hcut
  cases kq with
  | zero => exact absurd HA.out (by simp [spec_FieldKind.j0])
  | succ kj1 =>
   have H := HA.out
   clear HA
   simp only [spec_FieldKind.j0] at H
   by_cases c8 : x4_1 = true
   ·subst c8
    replace H := ip_ H
    obtain rfl := Option.some.inj H
    go_wp2
    go_ret
    exact ⟨sp_, by repeat (first | exact Drawn0.refl _ | apply Drawn0.step)⟩
   ·replace c8 := Bool.eq_false_iff.mpr c8
    subst c8
    replace H := in_ H
    have HC9 := Aside0.mk H
    clear H
    go_upto_if 11 with (fail)
    go_cut [11] (fun v11 wc => ∃ (kq : Nat) (x11_8 : Bool), v11 = .bool x11_8 ∧ Aside0 (spec_FieldKind.j1 kq a0 x11_8 = some r) ∧ Aside0 (kq ≤ kj1) ∧ Drawn0 w wc)
    case first =>
     have H := HC9.out
     clear HC9
     by_cases c10 : a0 = 37
     ·rw [if_pos c10] at H
      have c10b0 : (a0 == 37) = true := beq_iff_eq.mpr c10
      have c10b1 : (a0 != 37) = false := bne_eq_false_iff_eq.mpr c10
      clear c10
      (first | rw [c10b0] | (simp only [i64_w, i32_w]; rw [c10b0]) | skip)
      have H' := Aside0.mk H
      clear H
      go_wp2
      go_meet
      case rel => exact ⟨_, ((a0 == 37)), sp_, H', ⟨by have := HJ1.out; first | omega | exact Nat.le_refl _⟩, by repeat (first | exact Drawn0.refl _ | apply Drawn0.step)⟩
     ·rw [if_neg c10] at H
      have c10b0 : (a0 == 37) = false := beq_eq_false_iff_ne.mpr c10
      have c10b1 : (a0 != 37) = true := bne_iff_ne.mpr c10
      (first | rw [c10b0] | (simp only [i64_w, i32_w]; rw [c10b0]) | skip)
      by_cases c11 : a0 = 38
      ·rw [if_pos c11] at H
       have c11b0 : (a0 == 38) = true := beq_iff_eq.mpr c11
       have c11b1 : (a0 != 38) = false := bne_eq_false_iff_eq.mpr c11
       clear c11
       have H' := Aside0.mk H
       clear H
       go_wp2
       go_meet
       case rel => exact ⟨_, ((a0 == 38)), sp_, H', ⟨by have := HJ1.out; first | omega | exact Nat.le_refl _⟩, by repeat (first | exact Drawn0.refl _ | apply Drawn0.step)⟩
      ·rw [if_neg c11] at H
       have c11b0 : (a0 == 38) = false := beq_eq_false_iff_ne.mpr c11
       have c11b1 : (a0 != 38) = true := bne_iff_ne.mpr c11
       by_cases c12 : a0 = 39
       ·rw [if_pos c12] at H
        have c12b0 : (a0 == 39) = true := beq_iff_eq.mpr c12
        have c12b1 : (a0 != 39) = false := bne_eq_false_iff_eq.mpr c12
        clear c12
        have H' := Aside0.mk H
        clear H
        go_wp2
        go_meet
        case rel => exact ⟨_, ((a0 == 39)), sp_, H', ⟨by have := HJ1.out; first | omega | exact Nat.le_refl _⟩, by repeat (first | exact Drawn0.refl _ | apply Drawn0.step)⟩
       ·rw [if_neg c12] at H
        have c12b0 : (a0 == 39) = false := beq_eq_false_iff_ne.mpr c12
        have c12b1 : (a0 != 39) = true := bne_iff_ne.mpr c12
        by_cases c13 : a0 = 41
        ·rw [if_pos c13] at H
         have c13b0 : (a0 == 41) = true := beq_iff_eq.mpr c13
         have c13b1 : (a0 != 41) = false := bne_eq_false_iff_eq.mpr c13
         clear c13
         have H' := Aside0.mk H
         clear H
         go_wp2
         go_meet
         case rel => exact ⟨_, ((a0 == 41)), sp_, H', ⟨by have := HJ1.out; first | omega | exact Nat.le_refl _⟩, by repeat (first | exact Drawn0.refl _ | apply Drawn0.step)⟩
        ·rw [if_neg c13] at H
         have c13b0 : (a0 == 41) = false := beq_eq_false_iff_ne.mpr c13
         have c13b1 : (a0 != 41) = true := bne_iff_ne.mpr c13
         have H' := Aside0.mk H
         clear H
         go_wp2
         go_meet
         case rel => exact ⟨_, ((a0 == 95)), sp_, H', ⟨by have := HJ1.out; first | omega | exact Nat.le_refl _⟩, by repeat (first | exact Drawn0.refl _ | apply Drawn0.step)⟩
    case rest =>
     clear HC9
     try clear c1
     try clear p2
     try clear c3
     try clear c3b0
     try clear c3b1
     try clear c4
     try clear c4b0
     try clear c4b1
     try clear c5
     try clear c5b0
     try clear c5b1
     try clear c6
     try clear c6b0
     try clear c6b1
     try clear c7
     try clear c7b0
     try clear c7b1
     try clear c8
     try clear c10
     try clear c10b0
     try clear c10b1
     try clear c11
     try clear c11b0
     try clear c11b1
     try clear c12
     try clear c12b0
     try clear c12b1
     try clear c13
     try clear c13b0
     try clear c13b1
     try clear p2
     obtain ⟨kq, x11_8, rfl, HA, HJ8, ⟨mc8, rfl⟩⟩ := hcut
     cases kq with
     | zero => exact absurd HA.out (by simp [spec_FieldKind.j1])
     | succ kj8 =>
      have H := HA.out
      clear HA
      simp only [spec_FieldKind.j1] at H
      by_cases c14 : x11_8 = true
      ·subst c14
       replace H := ip_ H
       obtain rfl := Option.some.inj H
       go_wp2
       go_ret
       exact ⟨sp_, by repeat (first | exact Drawn0.refl _ | apply Drawn0.step)⟩
      ·replace c14 := Bool.eq_false_iff.mpr c14
       subst c14
       replace H := in_ H
       by_cases c15 : a0 = 2
       ·rw [if_pos c15] at H
        have c15b0 : (a0 == 2) = true := beq_iff_eq.mpr c15
        have c15b1 : (a0 != 2) = false := bne_eq_false_iff_eq.mpr c15
        clear c15
        obtain rfl := Option.some.inj H
        go_wp2
        go_ret
        exact ⟨sp_, by repeat (first | exact Drawn0.refl _ | apply Drawn0.step)⟩
       ·rw [if_neg c15] at H
        have c15b0 : (a0 == 2) = false := beq_eq_false_iff_ne.mpr c15
        have c15b1 : (a0 != 2) = true := bne_iff_ne.mpr c15
        have HC16 := Aside0.mk H
        clear H
        go_upto_if 19 with (fail)
        go_cut [19] (fun v19 wc => ∃ (kq : Nat) (x19_15 : Bool), v19 = .bool x19_15 ∧ Aside0 (spec_FieldKind.j2 kq a0 x19_15 = some r) ∧ Aside0 (kq ≤ kj8) ∧ Drawn0 w wc)
        case first =>
         have H := HC16.out
         clear HC16
         by_cases c17 : a0 = 102
         ·rw [if_pos c17] at H
          have c17b0 : (a0 == 102) = true := beq_iff_eq.mpr c17
          have c17b1 : (a0 != 102) = false := bne_eq_false_iff_eq.mpr c17
          clear c17
          (first | rw [c17b0] | (simp only [i64_w, i32_w]; rw [c17b0]) | skip)
          have H' := Aside0.mk H
          clear H
          go_wp2
          go_meet
          case rel => exact ⟨_, ((a0 == 102)), sp_, H', ⟨by have := HJ1.out; have := HJ8.out; first | omega | exact Nat.le_refl _⟩, by repeat (first | exact Drawn0.refl _ | apply Drawn0.step)⟩
         ·rw [if_neg c17] at H
          have c17b0 : (a0 == 102) = false := beq_eq_false_iff_ne.mpr c17
          have c17b1 : (a0 != 102) = true := bne_iff_ne.mpr c17
          (first | rw [c17b0] | (simp only [i64_w, i32_w]; rw [c17b0]) | skip)
          have H' := Aside0.mk H
          clear H
          go_wp2
          go_meet
          case rel => exact ⟨_, ((a0 == 103)), sp_, H', ⟨by have := HJ1.out; have := HJ8.out; first | omega | exact Nat.le_refl _⟩, by repeat (first | exact Drawn0.refl _ | apply Drawn0.step)⟩
        case rest =>
         clear HC16
         try clear c1
         try clear p2
         try clear c3
         try clear c3b0
         try clear c3b1
         try clear c4
         try clear c4b0
         try clear c4b1
         try clear c5
         try clear c5b0
         try clear c5b1
         try clear c6
         try clear c6b0
         try clear c6b1
         try clear c7
         try clear c7b0
         try clear c7b1
         try clear c8
         try clear c10
         try clear c10b0
         try clear c10b1
         try clear c11
         try clear c11b0
         try clear c11b1
         try clear c12
         try clear c12b0
         try clear c12b1
         try clear c13
         try clear c13b0
         try clear c13b1
         try clear c14
         try clear c15
         try clear c15b0
         try clear c15b1
         try clear c17
         try clear c17b0
         try clear c17b1
         try clear p2
         obtain ⟨kq, x19_15, rfl, HA, HJ15, ⟨mc15, rfl⟩⟩ := hcut
         cases kq with
         | zero => exact absurd HA.out (by simp [spec_FieldKind.j2])
         | succ kj15 =>
          have H := HA.out
          clear HA
          simp only [spec_FieldKind.j2] at H
          by_cases c18 : x19_15 = true
          ·subst c18
           replace H := ip_ H
           obtain rfl := Option.some.inj H
           go_wp2
           go_ret
           exact ⟨sp_, by repeat (first | exact Drawn0.refl _ | apply Drawn0.step)⟩
          ·replace c18 := Bool.eq_false_iff.mpr c18
           subst c18
           replace H := in_ H
           by_cases c19 : a0 = 48
           ·rw [if_pos c19] at H
            have c19b0 : (a0 == 48) = true := beq_iff_eq.mpr c19
            have c19b1 : (a0 != 48) = false := bne_eq_false_iff_eq.mpr c19
            clear c19
            obtain rfl := Option.some.inj H
            go_wp2
            go_ret
            exact ⟨sp_, by repeat (first | exact Drawn0.refl _ | apply Drawn0.step)⟩
           ·rw [if_neg c19] at H
            have c19b0 : (a0 == 48) = false := beq_eq_false_iff_ne.mpr c19
            have c19b1 : (a0 != 48) = true := bne_iff_ne.mpr c19
            by_cases c20 : a0 = 54
            ·rw [if_pos c20] at H
             have c20b0 : (a0 == 54) = true := beq_iff_eq.mpr c20
             have c20b1 : (a0 != 54) = false := bne_eq_false_iff_eq.mpr c20
             clear c20
             obtain rfl := Option.some.inj H
             go_wp2
             go_ret
             exact ⟨sp_, by repeat (first | exact Drawn0.refl _ | apply Drawn0.step)⟩
            ·rw [if_neg c20] at H
             have c20b0 : (a0 == 54) = false := beq_eq_false_iff_ne.mpr c20
             have c20b1 : (a0 != 54) = true := bne_iff_ne.mpr c20
             obtain rfl := Option.some.inj H
             go_wp2
             go_ret
             exact ⟨sp_, by repeat (first | exact Drawn0.refl _ | apply Drawn0.step)⟩
/-! ### spec_Printable: function 108 -/
def spec_Printable.l0 : Nat → ByteArray → Int → Option (Bool)
 | 0, _, _ => none
 | k + 1, x0, x3 => if x3 < (x0.size : Int) then (if 0 ≤ x3 then (if (bt x0 x3) < 32 then (some false) else (if (bt x0 x3) > 126 then (some false) else (spec_Printable.l0 k x0 (wrap64 (x3 + 1))))) else (none)) else (some true)
def spec_Printable.f (k : Nat) (a0 : ByteArray) : Option (Bool) := spec_Printable.l0 k a0 0
set_option maxHeartbeats 8000000 in
set_option maxRecDepth 100000 in
theorem spec_Printable.calls (k : Nat) (a0 : ByteArray) (r : Bool) (w : World) (h : spec_Printable.f k a0 = some r) :
  Calls Tryz.prog 108 #[.string a0] w fun e w' => e = .returned (.bool r) ∧ Drawn0 w w' := by
 have H : (spec_Printable.l0 k a0 0) = some r := h
 clear h
 have H' := Aside0.mk H
 clear H
 go_enter Tryz.func108, Tryz.ntmps108
 go_wp2
 go_loopg [3] k (fun kq v3 w' => ∃ (x3_1 : Int), v3 = .int .i64 x3_1 ∧ Aside0 (spec_Printable.l0 kq a0 x3_1 = some r) ∧ Aside0 (kq ≤ k) ∧ Drawn0 w w')
 case atStart => exact ⟨(0), sp_, H', ⟨Nat.le_refl _⟩, by repeat (first | exact Drawn0.refl _ | apply Drawn0.step)⟩
 case round =>
  clear H'
  try clear c1
  obtain ⟨x3_1, rfl, HA, HK1, ⟨m1, rfl⟩⟩ := hrel
  cases gk with
  | zero => exact absurd HA.out (by simp [spec_Printable.l0])
  | succ k1 =>
   have H := HA.out
   clear HA
   simp only [spec_Printable.l0] at H
   by_cases c2 : x3_1 < (a0.size : Int)
   ·rw [if_pos c2] at H
    have c2b0 : decide (x3_1 < (a0.size : Int)) = true := decide_eq_true c2
    clear c2
    by_cases c3 : 0 ≤ x3_1
    ·rw [if_pos c3] at H
     have c3b0 : decide (0 ≤ x3_1) = true := decide_eq_true c3
     clear c3
     by_cases c5 : (bt a0 x3_1) < 32
     ·rw [if_pos c5] at H
      have c5b0 : decide ((bt a0 x3_1) < 32) = true := decide_eq_true c5
      clear c5
      obtain rfl := Option.some.inj H
      have p4 : 0 ≤ (x3_1 : Int) := od_
      have q4 : x3_1 < (a0.size : Int) := od_
      have hx4 := bt_at a0 x3_1
      replace p4 := eq_true p4
      replace q4 := eq_true q4
      go_wp2
      go_ret
      exact ⟨sp_, by repeat (first | exact Drawn0.refl _ | apply Drawn0.step)⟩
     ·rw [if_neg c5] at H
      have c5b0 : decide ((bt a0 x3_1) < 32) = false := decide_eq_false c5
      clear c5
      by_cases c7 : (bt a0 x3_1) > 126
      ·rw [if_pos c7] at H
       have c7b0 : decide (126 < (bt a0 x3_1)) = true := decide_eq_true c7
       clear c7
       obtain rfl := Option.some.inj H
       have p4 : 0 ≤ (x3_1 : Int) := od_
       have q4 : x3_1 < (a0.size : Int) := od_
       have hx4 := bt_at a0 x3_1
       replace p4 := eq_true p4
       replace q4 := eq_true q4
       have p6 : 0 ≤ (x3_1 : Int) := od_
       have q6 : x3_1 < (a0.size : Int) := od_
       have hx6 := bt_at a0 x3_1
       replace p6 := eq_true p6
       replace q6 := eq_true q6
       go_wp2
       go_ret
       exact ⟨sp_, by repeat (first | exact Drawn0.refl _ | apply Drawn0.step)⟩
      ·rw [if_neg c7] at H
       have c7b0 : decide (126 < (bt a0 x3_1)) = false := decide_eq_false c7
       clear c7
       have H' := Aside0.mk H
       clear H
       have p4 : 0 ≤ (x3_1 : Int) := od_
       have q4 : x3_1 < (a0.size : Int) := od_
       have hx4 := bt_at a0 x3_1
       replace p4 := eq_true p4
       replace q4 := eq_true q4
       have p6 : 0 ≤ (x3_1 : Int) := od_
       have q6 : x3_1 < (a0.size : Int) := od_
       have hx6 := bt_at a0 x3_1
       replace p6 := eq_true p6
       replace q6 := eq_true q6
       go_wp2
       go_roundg k1
       case measure => have := HK1.out; omega
       case rel => exact ⟨(wrap64 (x3_1 + 1)), sp_, H', ⟨by have := HK1.out; omega⟩, by repeat (first | exact Drawn0.refl _ | apply Drawn0.step)⟩
    ·rw [if_neg c3] at H
     exact absurd H (by simp)
   ·rw [if_neg c2] at H
    have c2b0 : decide (x3_1 < (a0.size : Int)) = false := decide_eq_false c2
    clear c2
    obtain rfl := Option.some.inj H
    go_wp2
    go_ret
    exact ⟨sp_, by repeat (first | exact Drawn0.refl _ | apply Drawn0.step)⟩
/-! ### spec_FieldOk: function 77 -/
def spec_FieldOk.j0 : Nat → ByteArray → Int → Bool → Option (Bool)
 | 0, _, _, _ => none
 | k + 1, x1, x5, x40 => if x40 = true then ((spec_Printable.f k x1).bind fun t111 => (if t111 = true then ((spec_l01In.f (x1.size : Int) 1 x5).bind fun t112 => (some t112)) else (some false))) else (some false)
def spec_FieldOk.f (k : Nat) (a0 : Int) (a1 : ByteArray) : Option (Bool) := (spec_FieldSize.f k a0).bind fun t106 => ((spec_FieldKind.f k a0).bind fun t107 => (if t107 = 1 then ((spec_Digits.f k a1).bind fun t108 => (if t108 = true then (some ((a1.size : Int) == t106)) else (some false))) else (if t107 = 2 then ((spec_Printable.f k a1).bind fun t109 => (if t109 = true then (some ((a1.size : Int) == t106)) else (some false))) else (if t107 = 3 then ((spec_Digits.f k a1).bind fun t110 => (if t110 = true then (some (decide ((a1.size : Int) ≤ t106))) else (some false))) else (if t107 = 4 then (spec_FieldOk.j0 k a1 t106 (t107 == 4)) else (spec_FieldOk.j0 k a1 t106 (t107 == 5)))))))
set_option maxHeartbeats 8000000 in
set_option maxRecDepth 100000 in
theorem spec_FieldOk.calls (k : Nat) (a0 : Int) (a1 : ByteArray) (r : Bool) (w : World) (h : spec_FieldOk.f k a0 a1 = some r) :
  Calls Tryz.prog 77 #[.int .i64 a0, .string a1] w fun e w' => e = .returned (.bool r) ∧ Drawn0 w w' := by
 have H : ((spec_FieldSize.f k a0).bind fun t106 => ((spec_FieldKind.f k a0).bind fun t107 => (if t107 = 1 then ((spec_Digits.f k a1).bind fun t108 => (if t108 = true then (some ((a1.size : Int) == t106)) else (some false))) else (if t107 = 2 then ((spec_Printable.f k a1).bind fun t109 => (if t109 = true then (some ((a1.size : Int) == t106)) else (some false))) else (if t107 = 3 then ((spec_Digits.f k a1).bind fun t110 => (if t110 = true then (some (decide ((a1.size : Int) ≤ t106))) else (some false))) else (if t107 = 4 then (spec_FieldOk.j0 k a1 t106 (t107 == 4)) else (spec_FieldOk.j0 k a1 t106 (t107 == 5)))))))) = some r := h
 clear h
 obtain ⟨t106, A3, H⟩ := ob_ H
 obtain ⟨t107, A4, H⟩ := ob_ H
 by_cases c5 : t107 = 1
 ·rw [if_pos c5] at H
  have c5b0 : (t107 == 1) = true := beq_iff_eq.mpr c5
  have c5b1 : (t107 != 1) = false := bne_eq_false_iff_eq.mpr c5
  clear c5
  obtain ⟨t108, A6, H⟩ := ob_ H
  by_cases c7 : t108 = true
  ·subst c7
   replace H := ip_ H
   obtain rfl := Option.some.inj H
   go_enter Tryz.func77, Tryz.ntmps77
   go_wp2_with (first | ((with_reducible refine gate_callee (f := 106) rfl ?_); refine goesL_ (some 7) rfl rfl Tryz.func106 (by kernel_rfl) rfl #[.int .i64 a0] rfl gl_ ?_; (with_reducible refine (spec_FieldSize.calls k a0 t106 _ A3.out).mono ?_); rintro e w' ⟨rfl, ⟨nd, rfl⟩⟩; refine ⟨_, rfl, ?_⟩) | ((with_reducible refine gate_callee (f := 107) rfl ?_); refine goesL_ (some 9) rfl rfl Tryz.func107 (by kernel_rfl) rfl #[.int .i64 a0] rfl gl_ ?_; (with_reducible refine (spec_FieldKind.calls k a0 t107 _ A4.out).mono ?_); rintro e w' ⟨rfl, ⟨nd, rfl⟩⟩; refine ⟨_, rfl, ?_⟩) | ((with_reducible refine gate_callee (f := 76) rfl ?_); refine goesL_ (some 13) rfl rfl Tryz.func76 (by kernel_rfl) rfl #[.string a1] rfl gl_ ?_; (with_reducible refine (spec_Digits.calls k a1 true _ A6.out).mono ?_); rintro e w' ⟨rfl, ⟨nd, rfl⟩⟩; refine ⟨_, rfl, ?_⟩))
   go_ret
   exact ⟨sp_, by repeat (first | exact Drawn0.refl _ | apply Drawn0.step)⟩
  ·replace c7 := Bool.eq_false_iff.mpr c7
   subst c7
   replace H := in_ H
   obtain rfl := Option.some.inj H
   go_enter Tryz.func77, Tryz.ntmps77
   go_wp2_with (first | ((with_reducible refine gate_callee (f := 106) rfl ?_); refine goesL_ (some 7) rfl rfl Tryz.func106 (by kernel_rfl) rfl #[.int .i64 a0] rfl gl_ ?_; (with_reducible refine (spec_FieldSize.calls k a0 t106 _ A3.out).mono ?_); rintro e w' ⟨rfl, ⟨nd, rfl⟩⟩; refine ⟨_, rfl, ?_⟩) | ((with_reducible refine gate_callee (f := 107) rfl ?_); refine goesL_ (some 9) rfl rfl Tryz.func107 (by kernel_rfl) rfl #[.int .i64 a0] rfl gl_ ?_; (with_reducible refine (spec_FieldKind.calls k a0 t107 _ A4.out).mono ?_); rintro e w' ⟨rfl, ⟨nd, rfl⟩⟩; refine ⟨_, rfl, ?_⟩) | ((with_reducible refine gate_callee (f := 76) rfl ?_); refine goesL_ (some 13) rfl rfl Tryz.func76 (by kernel_rfl) rfl #[.string a1] rfl gl_ ?_; (with_reducible refine (spec_Digits.calls k a1 false _ A6.out).mono ?_); rintro e w' ⟨rfl, ⟨nd, rfl⟩⟩; refine ⟨_, rfl, ?_⟩))
   go_ret
   exact ⟨sp_, by repeat (first | exact Drawn0.refl _ | apply Drawn0.step)⟩
 ·rw [if_neg c5] at H
  have c5b0 : (t107 == 1) = false := beq_eq_false_iff_ne.mpr c5
  have c5b1 : (t107 != 1) = true := bne_iff_ne.mpr c5
  by_cases c8 : t107 = 2
  ·rw [if_pos c8] at H
   have c8b0 : (t107 == 2) = true := beq_iff_eq.mpr c8
   have c8b1 : (t107 != 2) = false := bne_eq_false_iff_eq.mpr c8
   clear c8
   obtain ⟨t109, A9, H⟩ := ob_ H
   by_cases c10 : t109 = true
   ·subst c10
    replace H := ip_ H
    obtain rfl := Option.some.inj H
    go_enter Tryz.func77, Tryz.ntmps77
    go_wp2_with (first | ((with_reducible refine gate_callee (f := 106) rfl ?_); refine goesL_ (some 7) rfl rfl Tryz.func106 (by kernel_rfl) rfl #[.int .i64 a0] rfl gl_ ?_; (with_reducible refine (spec_FieldSize.calls k a0 t106 _ A3.out).mono ?_); rintro e w' ⟨rfl, ⟨nd, rfl⟩⟩; refine ⟨_, rfl, ?_⟩) | ((with_reducible refine gate_callee (f := 107) rfl ?_); refine goesL_ (some 9) rfl rfl Tryz.func107 (by kernel_rfl) rfl #[.int .i64 a0] rfl gl_ ?_; (with_reducible refine (spec_FieldKind.calls k a0 t107 _ A4.out).mono ?_); rintro e w' ⟨rfl, ⟨nd, rfl⟩⟩; refine ⟨_, rfl, ?_⟩) | ((with_reducible refine gate_callee (f := 108) rfl ?_); refine goesL_ (some 23) rfl rfl Tryz.func108 (by kernel_rfl) rfl #[.string a1] rfl gl_ ?_; (with_reducible refine (spec_Printable.calls k a1 true _ A9.out).mono ?_); rintro e w' ⟨rfl, ⟨nd, rfl⟩⟩; refine ⟨_, rfl, ?_⟩))
    go_ret
    exact ⟨sp_, by repeat (first | exact Drawn0.refl _ | apply Drawn0.step)⟩
   ·replace c10 := Bool.eq_false_iff.mpr c10
    subst c10
    replace H := in_ H
    obtain rfl := Option.some.inj H
    go_enter Tryz.func77, Tryz.ntmps77
    go_wp2_with (first | ((with_reducible refine gate_callee (f := 106) rfl ?_); refine goesL_ (some 7) rfl rfl Tryz.func106 (by kernel_rfl) rfl #[.int .i64 a0] rfl gl_ ?_; (with_reducible refine (spec_FieldSize.calls k a0 t106 _ A3.out).mono ?_); rintro e w' ⟨rfl, ⟨nd, rfl⟩⟩; refine ⟨_, rfl, ?_⟩) | ((with_reducible refine gate_callee (f := 107) rfl ?_); refine goesL_ (some 9) rfl rfl Tryz.func107 (by kernel_rfl) rfl #[.int .i64 a0] rfl gl_ ?_; (with_reducible refine (spec_FieldKind.calls k a0 t107 _ A4.out).mono ?_); rintro e w' ⟨rfl, ⟨nd, rfl⟩⟩; refine ⟨_, rfl, ?_⟩) | ((with_reducible refine gate_callee (f := 108) rfl ?_); refine goesL_ (some 23) rfl rfl Tryz.func108 (by kernel_rfl) rfl #[.string a1] rfl gl_ ?_; (with_reducible refine (spec_Printable.calls k a1 false _ A9.out).mono ?_); rintro e w' ⟨rfl, ⟨nd, rfl⟩⟩; refine ⟨_, rfl, ?_⟩))
    go_ret
    exact ⟨sp_, by repeat (first | exact Drawn0.refl _ | apply Drawn0.step)⟩
  ·rw [if_neg c8] at H
   have c8b0 : (t107 == 2) = false := beq_eq_false_iff_ne.mpr c8
   have c8b1 : (t107 != 2) = true := bne_iff_ne.mpr c8
   by_cases c11 : t107 = 3
   ·rw [if_pos c11] at H
    have c11b0 : (t107 == 3) = true := beq_iff_eq.mpr c11
    have c11b1 : (t107 != 3) = false := bne_eq_false_iff_eq.mpr c11
    clear c11
    obtain ⟨t110, A12, H⟩ := ob_ H
    by_cases c13 : t110 = true
    ·subst c13
     replace H := ip_ H
     obtain rfl := Option.some.inj H
     go_enter Tryz.func77, Tryz.ntmps77
     go_wp2_with (first | ((with_reducible refine gate_callee (f := 106) rfl ?_); refine goesL_ (some 7) rfl rfl Tryz.func106 (by kernel_rfl) rfl #[.int .i64 a0] rfl gl_ ?_; (with_reducible refine (spec_FieldSize.calls k a0 t106 _ A3.out).mono ?_); rintro e w' ⟨rfl, ⟨nd, rfl⟩⟩; refine ⟨_, rfl, ?_⟩) | ((with_reducible refine gate_callee (f := 107) rfl ?_); refine goesL_ (some 9) rfl rfl Tryz.func107 (by kernel_rfl) rfl #[.int .i64 a0] rfl gl_ ?_; (with_reducible refine (spec_FieldKind.calls k a0 t107 _ A4.out).mono ?_); rintro e w' ⟨rfl, ⟨nd, rfl⟩⟩; refine ⟨_, rfl, ?_⟩) | ((with_reducible refine gate_callee (f := 76) rfl ?_); refine goesL_ (some 33) rfl rfl Tryz.func76 (by kernel_rfl) rfl #[.string a1] rfl gl_ ?_; (with_reducible refine (spec_Digits.calls k a1 true _ A12.out).mono ?_); rintro e w' ⟨rfl, ⟨nd, rfl⟩⟩; refine ⟨_, rfl, ?_⟩))
     go_ret
     exact ⟨sp_, by repeat (first | exact Drawn0.refl _ | apply Drawn0.step)⟩
    ·replace c13 := Bool.eq_false_iff.mpr c13
     subst c13
     replace H := in_ H
     obtain rfl := Option.some.inj H
     go_enter Tryz.func77, Tryz.ntmps77
     go_wp2_with (first | ((with_reducible refine gate_callee (f := 106) rfl ?_); refine goesL_ (some 7) rfl rfl Tryz.func106 (by kernel_rfl) rfl #[.int .i64 a0] rfl gl_ ?_; (with_reducible refine (spec_FieldSize.calls k a0 t106 _ A3.out).mono ?_); rintro e w' ⟨rfl, ⟨nd, rfl⟩⟩; refine ⟨_, rfl, ?_⟩) | ((with_reducible refine gate_callee (f := 107) rfl ?_); refine goesL_ (some 9) rfl rfl Tryz.func107 (by kernel_rfl) rfl #[.int .i64 a0] rfl gl_ ?_; (with_reducible refine (spec_FieldKind.calls k a0 t107 _ A4.out).mono ?_); rintro e w' ⟨rfl, ⟨nd, rfl⟩⟩; refine ⟨_, rfl, ?_⟩) | ((with_reducible refine gate_callee (f := 76) rfl ?_); refine goesL_ (some 33) rfl rfl Tryz.func76 (by kernel_rfl) rfl #[.string a1] rfl gl_ ?_; (with_reducible refine (spec_Digits.calls k a1 false _ A12.out).mono ?_); rintro e w' ⟨rfl, ⟨nd, rfl⟩⟩; refine ⟨_, rfl, ?_⟩))
     go_ret
     exact ⟨sp_, by repeat (first | exact Drawn0.refl _ | apply Drawn0.step)⟩
   ·rw [if_neg c11] at H
    have c11b0 : (t107 == 3) = false := beq_eq_false_iff_ne.mpr c11
    have c11b1 : (t107 != 3) = true := bne_iff_ne.mpr c11
    have HC14 := Aside0.mk H
    clear H
    go_enter Tryz.func77, Tryz.ntmps77
    go_upto_if 40 with (first | ((with_reducible refine gate_callee (f := 106) rfl ?_); refine goesL_ (some 7) rfl rfl Tryz.func106 (by kernel_rfl) rfl #[.int .i64 a0] rfl gl_ ?_; (with_reducible refine (spec_FieldSize.calls k a0 t106 _ A3.out).mono ?_); rintro e w' ⟨rfl, ⟨nd, rfl⟩⟩; refine ⟨_, rfl, ?_⟩) | ((with_reducible refine gate_callee (f := 107) rfl ?_); refine goesL_ (some 9) rfl rfl Tryz.func107 (by kernel_rfl) rfl #[.int .i64 a0] rfl gl_ ?_; (with_reducible refine (spec_FieldKind.calls k a0 t107 _ A4.out).mono ?_); rintro e w' ⟨rfl, ⟨nd, rfl⟩⟩; refine ⟨_, rfl, ?_⟩))
    (try simp only [Act.put, List.setIfInBounds_toArray, List.set_cons_zero, List.set_cons_succ])
    go_cut [40] (fun v40 wc => ∃ (kq : Nat) (x40_13 : Bool), v40 = .bool x40_13 ∧ Aside0 (spec_FieldOk.j0 kq a1 t106 x40_13 = some r) ∧ Aside0 (kq ≤ k) ∧ Drawn0 w wc)
    case first =>
     have H := HC14.out
     clear HC14
     by_cases c15 : t107 = 4
     ·rw [if_pos c15] at H
      have c15b0 : (t107 == 4) = true := beq_iff_eq.mpr c15
      have c15b1 : (t107 != 4) = false := bne_eq_false_iff_eq.mpr c15
      clear c15
      (first | rw [c15b0] | (simp only [i64_w, i32_w]; rw [c15b0]) | skip)
      have H' := Aside0.mk H
      clear H
      go_wp2
      go_meet
      case rel => exact ⟨_, ((t107 == 4)), sp_, H', ⟨by first | omega | exact Nat.le_refl _⟩, by repeat (first | exact Drawn0.refl _ | apply Drawn0.step)⟩
     ·rw [if_neg c15] at H
      have c15b0 : (t107 == 4) = false := beq_eq_false_iff_ne.mpr c15
      have c15b1 : (t107 != 4) = true := bne_iff_ne.mpr c15
      (first | rw [c15b0] | (simp only [i64_w, i32_w]; rw [c15b0]) | skip)
      have H' := Aside0.mk H
      clear H
      go_wp2
      go_meet
      case rel => exact ⟨_, ((t107 == 5)), sp_, H', ⟨by first | omega | exact Nat.le_refl _⟩, by repeat (first | exact Drawn0.refl _ | apply Drawn0.step)⟩
    case rest =>
     clear HC14
     try clear c1
     try clear p2
     try clear c5
     try clear c5b0
     try clear c5b1
     try clear c7
     try clear c8
     try clear c8b0
     try clear c8b1
     try clear c10
     try clear c11
     try clear c11b0
     try clear c11b1
     try clear c13
     try clear c15
     try clear c15b0
     try clear c15b1
     obtain ⟨kq, x40_13, rfl, HA, HJ13, ⟨mc13, rfl⟩⟩ := hcut
     cases kq with
     | zero => exact absurd HA.out (by simp [spec_FieldOk.j0])
     | succ kj13 =>
      have H := HA.out
      clear HA
      simp only [spec_FieldOk.j0] at H
      by_cases c16 : x40_13 = true
      ·subst c16
       replace H := ip_ H
       obtain ⟨t111, A17, H⟩ := ob_ H
       by_cases c18 : t111 = true
       ·subst c18
        replace H := ip_ H
        obtain ⟨t112, A19, H⟩ := ob_ H
        obtain rfl := Option.some.inj H
        go_wp2_with (first | ((with_reducible refine gate_callee (f := 108) rfl ?_); refine goesL_ (some 44) rfl rfl Tryz.func108 (by kernel_rfl) rfl #[.string a1] rfl gl_ ?_; (with_reducible refine (spec_Printable.calls kj13 a1 true _ A17.out).mono ?_); rintro e w' ⟨rfl, ⟨nd, rfl⟩⟩; refine ⟨_, rfl, ?_⟩) | (go_at_call 67; (with_reducible refine (spec_l01In.calls (a1.size : Int) 1 t106 t112 _ A19.out).mono ?_); rintro e w' ⟨rfl, ⟨nd, rfl⟩⟩))
        go_ret
        exact ⟨sp_, by repeat (first | exact Drawn0.refl _ | apply Drawn0.step)⟩
       ·replace c18 := Bool.eq_false_iff.mpr c18
        subst c18
        replace H := in_ H
        obtain rfl := Option.some.inj H
        go_wp2_with (first | ((with_reducible refine gate_callee (f := 108) rfl ?_); refine goesL_ (some 44) rfl rfl Tryz.func108 (by kernel_rfl) rfl #[.string a1] rfl gl_ ?_; (with_reducible refine (spec_Printable.calls kj13 a1 false _ A17.out).mono ?_); rintro e w' ⟨rfl, ⟨nd, rfl⟩⟩; refine ⟨_, rfl, ?_⟩))
        go_ret
        exact ⟨sp_, by repeat (first | exact Drawn0.refl _ | apply Drawn0.step)⟩
      ·replace c16 := Bool.eq_false_iff.mpr c16
       subst c16
       replace H := in_ H
       obtain rfl := Option.some.inj H
       go_wp2
       go_ret
       exact ⟨sp_, by repeat (first | exact Drawn0.refl _ | apply Drawn0.step)⟩
end Go.Proofs.YtohfefkjcnbejaaGreatDoor.QFnExactReqOf
