-- by my own printer (myprint.py, over the kit's print.py)
import Derived.Test.YtohfefkjcnbejaaGreatDoorQFnExactStepsLeftx0
namespace Go.Proofs.YtohfefkjcnbejaaGreatDoor.QFnExactStepsLeft
open Go.RowKit Go.Proofs.YtohfefkjcnbejaaGreatDoorW.PrintWords Go.Proofs.YtohfefkjcnbejaaGreatDoorW.PrintLast Go.Proofs.YtohfefkjcnbejaaGreatDoorW.PrintMore Tryz
attribute [local go_sem] max2_int min2_int max_two min_two max_three min_three max_four min_four
set_option linter.unusedVariables false
set_option linter.unusedSimpArgs false
set_option maxHeartbeats 8000000
set_option maxRecDepth 100000
attribute [local go_sem] my_geq my_leq my_gtr
/-! ### spec_Digits: function 76 -/
def spec_Digits.l0 : Nat → ByteArray → Int → Option (Bool)
 | 0, _, _ => none
 | k + 1, x0, x3 => if x3 < (x0.size : Int) then (if 0 ≤ x3 then (if (bt x0 x3) < 48 then (some false) else (if (bt x0 x3) > 57 then (some false) else (spec_Digits.l0 k x0 (wrap64 (x3 + 1))))) else (none)) else (some (decide ((x0.size : Int) > 0)))
def spec_Digits.f (k : Nat) (a0 : ByteArray) : Option (Bool) := spec_Digits.l0 k a0 0
theorem spec_Digits.calls (k : Nat) (a0 : ByteArray) (r : Bool) (w : World) (h : spec_Digits.f k a0 = some r) :
  Calls Tryz.prog 76 #[.string a0] w fun e w' => e = .returned (.bool r) ∧ Drawn0 w w' := by
 have H := h
 unfold spec_Digits.f at H
 clear h
 have H' := Aside0.mk H
 clear H
 go_enter func76, ntmps76
 go_wp2
 go_loopg [3] k (fun kq v3 w' => ∃ (x3_1 : Int), v3 = .int .i64 x3_1 ∧ Aside0 (spec_Digits.l0 kq a0 x3_1 = some r) ∧ Aside0 (kq ≤ k) ∧ Drawn0 w w')
 case atStart => exact ⟨(0), sp_, H', ⟨Nat.le_refl _⟩, dr_⟩
 case round =>
  clear H'
  obtain ⟨x3_1, rfl, HA, HK1, ⟨m1, rfl⟩⟩ := hrel
  cases gk with
  | zero => exact absurd HA.out (by simp [spec_Digits.l0])
  | succ k1 =>
   have H := HA.out
   clear HA
   simp only [spec_Digits.l0] at H
   by_cases c2 : x3_1 < (a0.size : Int)
   rotate_left
   ·rw [if_neg c2] at H
    replace c2 := df_ c2
    obtain rfl := si_ H
    go_wp2
    go_ret
    exact ⟨sp_, dr_⟩
   rw [if_pos c2] at H
   replace c2 := dt_ c2
   obtain ⟨c3, H⟩ := og_ H
   replace c3 := dt_ c3
   by_cases c5 : (bt a0 x3_1) < 48
   ·rw [if_pos c5] at H
    replace c5 := dt_ c5
    obtain rfl := si_ H
    have p4 : 0 ≤ (x3_1 : Int) := od_
    have q4 : x3_1 < (a0.size : Int) := od_
    have hx4 := bt_at a0 x3_1
    replace p4 := eq_true p4
    replace q4 := eq_true q4
    go_wp2
    go_ret
    exact ⟨sp_, dr_⟩
   rw [if_neg c5] at H
   replace c5 := df_ c5
   by_cases c7 : (bt a0 x3_1) > 57
   ·rw [if_pos c7] at H
    replace c7 := dt_ c7
    obtain rfl := si_ H
    have p4 : 0 ≤ (x3_1 : Int) := od_
    have q4 : x3_1 < (a0.size : Int) := od_
    have hx4 := bt_at a0 x3_1
    replace p4 := eq_true p4
    replace q4 := eq_true q4
    have p6 : 0 ≤ (x3_1 : Int) := od_
    have q6 : x3_1 < (a0.size : Int) := od_
    have hx6 := bt_at a0 x3_1
    replace p6 := eq_true p6
    replace q6 := eq_true q6
    go_wp2
    go_ret
    exact ⟨sp_, dr_⟩
   rw [if_neg c7] at H
   replace c7 := df_ c7
   have H' := Aside0.mk H
   clear H
   have p4 : 0 ≤ (x3_1 : Int) := od_
   have q4 : x3_1 < (a0.size : Int) := od_
   have hx4 := bt_at a0 x3_1
   replace p4 := eq_true p4
   replace q4 := eq_true q4
   have p6 : 0 ≤ (x3_1 : Int) := od_
   have q6 : x3_1 < (a0.size : Int) := od_
   have hx6 := bt_at a0 x3_1
   replace p6 := eq_true p6
   replace q6 := eq_true q6
   go_wp2
   go_roundg k1
   case measure => have := HK1.out; omega
   case rel => exact ⟨(wrap64 (x3_1 + 1)), sp_, H', ⟨by have := HK1.out; omega⟩, dr_⟩
/-! ### spec_l01In: function 67 -/
def spec_l01In.f (a0 : Int) (a1 : Int) (a2 : Int) : Option (Bool) := if a0 ≥ a1 then (some (decide (a0 ≤ a2))) else (some false)
theorem spec_l01In.calls (a0 : Int) (a1 : Int) (a2 : Int) (r : Bool) (w : World) (h : spec_l01In.f a0 a1 a2 = some r) :
  Calls Tryz.prog 67 #[.int .i64 a0, .int .i64 a1, .int .i64 a2] w fun e w' => e = .returned (.bool r) ∧ Drawn0 w w' := by
 have H := h
 unfold spec_l01In.f at H
 clear h
 by_cases c4 : a0 ≥ a1
 ·rw [if_pos c4] at H
  replace c4 := dt_ c4
  obtain rfl := si_ H
  go_enter func67, ntmps67
  go_wp2
  go_ret
  exact ⟨sp_, dr_⟩
 rw [if_neg c4] at H
 replace c4 := df_ c4
 obtain rfl := si_ H
 go_enter func67, ntmps67
 go_wp2
 go_ret
 exact ⟨sp_, dr_⟩
/-! ### spec_FieldSize: function 106 -/
mutual
def spec_FieldSize.j0 : Nat → Int → Bool → Option (Int)
 | 0, _, _ => none
 | k + 1, x3, x6 => if x6 = true then (some 6) else (if x3 = 4 then (spec_FieldSize.j1 k x3 (x3 == 4)) else (if x3 = 37 then (spec_FieldSize.j1 k x3 (x3 == 37)) else (spec_FieldSize.j1 k x3 (x3 == 95))))
def spec_FieldSize.j1 : Nat → Int → Bool → Option (Int)
 | 0, _, _ => none
 | k + 1, x3, x10 => if x10 = true then (some 12) else (if x3 = 7 then (some 10) else (if x3 = 14 then (some 4) else (if x3 = 39 then (some 2) else (if x3 = 41 then (some 8) else (if x3 = 49 then (some 3) else (if x3 = 102 then (spec_FieldSize.j2 k x3 (x3 == 102)) else (spec_FieldSize.j2 k x3 (x3 == 103))))))))
def spec_FieldSize.j2 : Nat → Int → Bool → Option (Int)
 | 0, _, _ => none
 | k + 1, x3, x24 => if x24 = true then (some 20) else (if x3 = 48 then (some 60) else (if x3 = 54 then (some 60) else (some 0)))
end
def spec_FieldSize.f (k : Nat) (a0 : Int) : Option (Int) := if a0 = 2 then (some 19) else (if a0 = 3 then (spec_FieldSize.j0 k a0 (a0 == 3)) else (if a0 = 11 then (spec_FieldSize.j0 k a0 (a0 == 11)) else (spec_FieldSize.j0 k a0 (a0 == 38))))
theorem spec_FieldSize.calls (k : Nat) (a0 : Int) (r : Int) (w : World) (h : spec_FieldSize.f k a0 = some r) :
  Calls Tryz.prog 106 #[.int .i64 a0] w fun e w' => e = .returned (.int .i64 r) ∧ Drawn0 w w' := by
 have H := h
 unfold spec_FieldSize.f at H
 clear h
 by_cases c2 : a0 = 2
 ·rw [if_pos c2] at H
  have := et_ c2
  replace c2 := nf_ c2
  obtain rfl := si_ H
  go_enter func106, ntmps106
  go_wp2
  go_ret
  exact ⟨sp_, dr_⟩
 rw [if_neg c2] at H
 have c2b0 := ef_ c2
 have c2b1 := nt_ c2
 have HC3 := Aside0.mk H
 clear H
 go_enter func106, ntmps106
 go_upto_if 6 with (fail)
 go_cut [6] (fun v6 wc => ∃ (kq : Nat) (x6_2 : Bool), v6 = .bool x6_2 ∧ Aside0 (spec_FieldSize.j0 kq a0 x6_2 = some r) ∧ Aside0 (kq ≤ k) ∧ Drawn0 w wc)
 case first =>
  have H := HC3.out
  clear HC3
  by_cases c4 : a0 = 3
  ·rw [if_pos c4] at H
   have c4b0 := et_ c4
   have c4b1 := nf_ c4
   clear c4
   (first | rw [c4b0] | (simp only [i64_w, i32_w]; rw [c4b0]) | skip)
   have H' := Aside0.mk H
   clear H
   go_wp2
   go_meet
   case rel => exact ⟨_, ((a0 == 3)), sp_, H', ⟨by first | omega | exact Nat.le_refl _⟩, dr_⟩
  rw [if_neg c4] at H
  have c4b0 := ef_ c4
  have c4b1 := nt_ c4
  (first | rw [c4b0] | (simp only [i64_w, i32_w]; rw [c4b0]) | skip)
  by_cases c5 : a0 = 11
  ·rw [if_pos c5] at H
   have := et_ c5
   replace c5 := nf_ c5
   have H' := Aside0.mk H
   clear H
   go_wp2
   go_meet
   case rel => exact ⟨_, ((a0 == 11)), sp_, H', ⟨by first | omega | exact Nat.le_refl _⟩, dr_⟩
  ·rw [if_neg c5] at H
   have c5b0 := ef_ c5
   have c5b1 := nt_ c5
   have H' := Aside0.mk H
   clear H
   go_wp2
   go_meet
   case rel => exact ⟨_, ((a0 == 38)), sp_, H', ⟨by first | omega | exact Nat.le_refl _⟩, dr_⟩
 case rest =>
  clear HC3
  obtain ⟨kq, x6_2, rfl, HA, HJ2, ⟨mc2, rfl⟩⟩ := hcut
  cases kq with
  | zero => exact absurd HA.out (by simp [spec_FieldSize.j0])
  | succ kj2 =>
   have H := HA.out
   clear HA
   simp only [spec_FieldSize.j0] at H
   by_cases c6 : x6_2 = true
   ·subst c6
    replace H := ip_ H
    obtain rfl := si_ H
    go_wp2
    go_ret
    exact ⟨sp_, dr_⟩
   replace c6 := gf_ c6
   subst c6
   replace H := in_ H
   have HC7 := Aside0.mk H
   clear H
   go_upto_if 10 with (fail)
   go_cut [10] (fun v10 wc => ∃ (kq : Nat) (x10_6 : Bool), v10 = .bool x10_6 ∧ Aside0 (spec_FieldSize.j1 kq a0 x10_6 = some r) ∧ Aside0 (kq ≤ kj2) ∧ Drawn0 w wc)
   case first =>
    have H := HC7.out
    clear HC7
    by_cases c8 : a0 = 4
    ·rw [if_pos c8] at H
     have c8b0 := et_ c8
     have c8b1 := nf_ c8
     clear c8
     (first | rw [c8b0] | (simp only [i64_w, i32_w]; rw [c8b0]) | skip)
     have H' := Aside0.mk H
     clear H
     go_wp2
     go_meet
     case rel => exact ⟨_, ((a0 == 4)), sp_, H', ⟨by have := HJ2.out; first | omega | exact Nat.le_refl _⟩, dr_⟩
    rw [if_neg c8] at H
    have c8b0 := ef_ c8
    have c8b1 := nt_ c8
    (first | rw [c8b0] | (simp only [i64_w, i32_w]; rw [c8b0]) | skip)
    by_cases c9 : a0 = 37
    ·rw [if_pos c9] at H
     have := et_ c9
     replace c9 := nf_ c9
     have H' := Aside0.mk H
     clear H
     go_wp2
     go_meet
     case rel => exact ⟨_, ((a0 == 37)), sp_, H', ⟨by have := HJ2.out; first | omega | exact Nat.le_refl _⟩, dr_⟩
    ·rw [if_neg c9] at H
     have c9b0 := ef_ c9
     have c9b1 := nt_ c9
     have H' := Aside0.mk H
     clear H
     go_wp2
     go_meet
     case rel => exact ⟨_, ((a0 == 95)), sp_, H', ⟨by have := HJ2.out; first | omega | exact Nat.le_refl _⟩, dr_⟩
   case rest =>
    clear HC7
    obtain ⟨kq, x10_6, rfl, HA, HJ6, ⟨mc6, rfl⟩⟩ := hcut
    cases kq with
    | zero => exact absurd HA.out (by simp [spec_FieldSize.j1])
    | succ kj6 =>
     have H := HA.out
     clear HA
     simp only [spec_FieldSize.j1] at H
     by_cases c10 : x10_6 = true
     ·subst c10
      replace H := ip_ H
      obtain rfl := si_ H
      go_wp2
      go_ret
      exact ⟨sp_, dr_⟩
     replace c10 := gf_ c10
     subst c10
     replace H := in_ H
     by_cases c11 : a0 = 7
     ·rw [if_pos c11] at H
      have := et_ c11
      replace c11 := nf_ c11
      obtain rfl := si_ H
      go_wp2
      go_ret
      exact ⟨sp_, dr_⟩
     rw [if_neg c11] at H
     have c11b0 := ef_ c11
     have c11b1 := nt_ c11
     by_cases c12 : a0 = 14
     ·rw [if_pos c12] at H
      have := et_ c12
      replace c12 := nf_ c12
      obtain rfl := si_ H
      go_wp2
      go_ret
      exact ⟨sp_, dr_⟩
     rw [if_neg c12] at H
     have c12b0 := ef_ c12
     have c12b1 := nt_ c12
     by_cases c13 : a0 = 39
     ·rw [if_pos c13] at H
      have := et_ c13
      replace c13 := nf_ c13
      obtain rfl := si_ H
      go_wp2
      go_ret
      exact ⟨sp_, dr_⟩
     rw [if_neg c13] at H
     have c13b0 := ef_ c13
     have c13b1 := nt_ c13
     by_cases c14 : a0 = 41
     ·rw [if_pos c14] at H
      have := et_ c14
      replace c14 := nf_ c14
      obtain rfl := si_ H
      go_wp2
      go_ret
      exact ⟨sp_, dr_⟩
     rw [if_neg c14] at H
     have c14b0 := ef_ c14
     have c14b1 := nt_ c14
     by_cases c15 : a0 = 49
     ·rw [if_pos c15] at H
      have := et_ c15
      replace c15 := nf_ c15
      obtain rfl := si_ H
      go_wp2
      go_ret
      exact ⟨sp_, dr_⟩
     rw [if_neg c15] at H
     have c15b0 := ef_ c15
     have c15b1 := nt_ c15
     have HC16 := Aside0.mk H
     clear H
     go_upto_if 24 with (fail)
     go_cut [24] (fun v24 wc => ∃ (kq : Nat) (x24_15 : Bool), v24 = .bool x24_15 ∧ Aside0 (spec_FieldSize.j2 kq a0 x24_15 = some r) ∧ Aside0 (kq ≤ kj6) ∧ Drawn0 w wc)
     case first =>
      have H := HC16.out
      clear HC16
      by_cases c17 : a0 = 102
      ·rw [if_pos c17] at H
       have c17b0 := et_ c17
       have c17b1 := nf_ c17
       clear c17
       (first | rw [c17b0] | (simp only [i64_w, i32_w]; rw [c17b0]) | skip)
       have H' := Aside0.mk H
       clear H
       go_wp2
       go_meet
       case rel => exact ⟨_, ((a0 == 102)), sp_, H', ⟨by have := HJ2.out; have := HJ6.out; first | omega | exact Nat.le_refl _⟩, dr_⟩
      ·rw [if_neg c17] at H
       have c17b0 := ef_ c17
       have c17b1 := nt_ c17
       (first | rw [c17b0] | (simp only [i64_w, i32_w]; rw [c17b0]) | skip)
       have H' := Aside0.mk H
       clear H
       go_wp2
       go_meet
       case rel => exact ⟨_, ((a0 == 103)), sp_, H', ⟨by have := HJ2.out; have := HJ6.out; first | omega | exact Nat.le_refl _⟩, dr_⟩
     case rest =>
      clear HC16
      obtain ⟨kq, x24_15, rfl, HA, HJ15, ⟨mc15, rfl⟩⟩ := hcut
      cases kq with
      | zero => exact absurd HA.out (by simp [spec_FieldSize.j2])
      | succ kj15 =>
       have H := HA.out
       clear HA
       simp only [spec_FieldSize.j2] at H
       by_cases c18 : x24_15 = true
       ·subst c18
        replace H := ip_ H
        obtain rfl := si_ H
        go_wp2
        go_ret
        exact ⟨sp_, dr_⟩
       replace c18 := gf_ c18
       subst c18
       replace H := in_ H
       by_cases c19 : a0 = 48
       ·rw [if_pos c19] at H
        have := et_ c19
        replace c19 := nf_ c19
        obtain rfl := si_ H
        go_wp2
        go_ret
        exact ⟨sp_, dr_⟩
       rw [if_neg c19] at H
       have c19b0 := ef_ c19
       have c19b1 := nt_ c19
       by_cases c20 : a0 = 54
       ·rw [if_pos c20] at H
        have := et_ c20
        replace c20 := nf_ c20
        obtain rfl := si_ H
        go_wp2
        go_ret
        exact ⟨sp_, dr_⟩
       rw [if_neg c20] at H
       have c20b0 := ef_ c20
       have c20b1 := nt_ c20
       obtain rfl := si_ H
       go_wp2
       go_ret
       exact ⟨sp_, dr_⟩
/-! ### spec_FieldKind: function 107 -/
mutual
def spec_FieldKind.j0 : Nat → Int → Bool → Option (Int)
 | 0, _, _ => none
 | k + 1, x3, x4 => if x4 = true then (some 1) else (if x3 = 37 then (spec_FieldKind.j1 k x3 (x3 == 37)) else (if x3 = 38 then (spec_FieldKind.j1 k x3 (x3 == 38)) else (if x3 = 39 then (spec_FieldKind.j1 k x3 (x3 == 39)) else (if x3 = 41 then (spec_FieldKind.j1 k x3 (x3 == 41)) else (spec_FieldKind.j1 k x3 (x3 == 95))))))
def spec_FieldKind.j1 : Nat → Int → Bool → Option (Int)
 | 0, _, _ => none
 | k + 1, x3, x11 => if x11 = true then (some 2) else (if x3 = 2 then (some 3) else (if x3 = 102 then (spec_FieldKind.j2 k x3 (x3 == 102)) else (spec_FieldKind.j2 k x3 (x3 == 103))))
def spec_FieldKind.j2 : Nat → Int → Bool → Option (Int)
 | 0, _, _ => none
 | k + 1, x3, x19 => if x19 = true then (some 4) else (if x3 = 48 then (some 5) else (if x3 = 54 then (some 5) else (some 0)))
end
def spec_FieldKind.f (k : Nat) (a0 : Int) : Option (Int) := if a0 = 3 then (spec_FieldKind.j0 k a0 (a0 == 3)) else (if a0 = 4 then (spec_FieldKind.j0 k a0 (a0 == 4)) else (if a0 = 7 then (spec_FieldKind.j0 k a0 (a0 == 7)) else (if a0 = 11 then (spec_FieldKind.j0 k a0 (a0 == 11)) else (if a0 = 14 then (spec_FieldKind.j0 k a0 (a0 == 14)) else (spec_FieldKind.j0 k a0 (a0 == 49))))))
theorem spec_FieldKind.calls (k : Nat) (a0 : Int) (r : Int) (w : World) (h : spec_FieldKind.f k a0 = some r) :
  Calls Tryz.prog 107 #[.int .i64 a0] w fun e w' => e = .returned (.int .i64 r) ∧ Drawn0 w w' := by
 have H := h
 unfold spec_FieldKind.f at H
 clear h
 have HC2 := Aside0.mk H
 clear H
 go_enter func107, ntmps107
 go_upto_if 4 with (fail)
 go_cut [4] (fun v4 wc => ∃ (kq : Nat) (x4_1 : Bool), v4 = .bool x4_1 ∧ Aside0 (spec_FieldKind.j0 kq a0 x4_1 = some r) ∧ Aside0 (kq ≤ k) ∧ Drawn0 w wc)
 case first =>
  have H := HC2.out
  clear HC2
  by_cases c3 : a0 = 3
  ·rw [if_pos c3] at H
   have c3b0 := et_ c3
   have c3b1 := nf_ c3
   clear c3
   (first | rw [c3b0] | (simp only [i64_w, i32_w]; rw [c3b0]) | skip)
   have H' := Aside0.mk H
   clear H
   go_wp2
   go_meet
   case rel => exact ⟨_, ((a0 == 3)), sp_, H', ⟨by first | omega | exact Nat.le_refl _⟩, dr_⟩
  rw [if_neg c3] at H
  have c3b0 := ef_ c3
  have c3b1 := nt_ c3
  (first | rw [c3b0] | (simp only [i64_w, i32_w]; rw [c3b0]) | skip)
  by_cases c4 : a0 = 4
  ·rw [if_pos c4] at H
   have := et_ c4
   replace c4 := nf_ c4
   have H' := Aside0.mk H
   clear H
   go_wp2
   go_meet
   case rel => exact ⟨_, ((a0 == 4)), sp_, H', ⟨by first | omega | exact Nat.le_refl _⟩, dr_⟩
  rw [if_neg c4] at H
  have c4b0 := ef_ c4
  have c4b1 := nt_ c4
  by_cases c5 : a0 = 7
  ·rw [if_pos c5] at H
   have := et_ c5
   replace c5 := nf_ c5
   have H' := Aside0.mk H
   clear H
   go_wp2
   go_meet
   case rel => exact ⟨_, ((a0 == 7)), sp_, H', ⟨by first | omega | exact Nat.le_refl _⟩, dr_⟩
  rw [if_neg c5] at H
  have c5b0 := ef_ c5
  have c5b1 := nt_ c5
  by_cases c6 : a0 = 11
  ·rw [if_pos c6] at H
   have := et_ c6
   replace c6 := nf_ c6
   have H' := Aside0.mk H
   clear H
   go_wp2
   go_meet
   case rel => exact ⟨_, ((a0 == 11)), sp_, H', ⟨by first | omega | exact Nat.le_refl _⟩, dr_⟩
  rw [if_neg c6] at H
  have c6b0 := ef_ c6
  have c6b1 := nt_ c6
  by_cases c7 : a0 = 14
  ·rw [if_pos c7] at H
   have := et_ c7
   replace c7 := nf_ c7
   have H' := Aside0.mk H
   clear H
   go_wp2
   go_meet
   case rel => exact ⟨_, ((a0 == 14)), sp_, H', ⟨by first | omega | exact Nat.le_refl _⟩, dr_⟩
  ·rw [if_neg c7] at H
   have c7b0 := ef_ c7
   have c7b1 := nt_ c7
   have H' := Aside0.mk H
   clear H
   go_wp2
   go_meet
   case rel => exact ⟨_, ((a0 == 49)), sp_, H', ⟨by first | omega | exact Nat.le_refl _⟩, dr_⟩
 case rest =>
  clear HC2
  obtain ⟨kq, x4_1, rfl, HA, HJ1, ⟨mc1, rfl⟩⟩ := hcut
  cases kq with
  | zero => exact absurd HA.out (by simp [spec_FieldKind.j0])
  | succ kj1 =>
   have H := HA.out
   clear HA
   simp only [spec_FieldKind.j0] at H
   by_cases c8 : x4_1 = true
   ·subst c8
    replace H := ip_ H
    obtain rfl := si_ H
    go_wp2
    go_ret
    exact ⟨sp_, dr_⟩
   replace c8 := gf_ c8
   subst c8
   replace H := in_ H
   have HC9 := Aside0.mk H
   clear H
   go_upto_if 11 with (fail)
   go_cut [11] (fun v11 wc => ∃ (kq : Nat) (x11_8 : Bool), v11 = .bool x11_8 ∧ Aside0 (spec_FieldKind.j1 kq a0 x11_8 = some r) ∧ Aside0 (kq ≤ kj1) ∧ Drawn0 w wc)
   case first =>
    have H := HC9.out
    clear HC9
    by_cases c10 : a0 = 37
    ·rw [if_pos c10] at H
     have c10b0 := et_ c10
     have c10b1 := nf_ c10
     clear c10
     (first | rw [c10b0] | (simp only [i64_w, i32_w]; rw [c10b0]) | skip)
     have H' := Aside0.mk H
     clear H
     go_wp2
     go_meet
     case rel => exact ⟨_, ((a0 == 37)), sp_, H', ⟨by have := HJ1.out; first | omega | exact Nat.le_refl _⟩, dr_⟩
    rw [if_neg c10] at H
    have c10b0 := ef_ c10
    have c10b1 := nt_ c10
    (first | rw [c10b0] | (simp only [i64_w, i32_w]; rw [c10b0]) | skip)
    by_cases c11 : a0 = 38
    ·rw [if_pos c11] at H
     have := et_ c11
     replace c11 := nf_ c11
     have H' := Aside0.mk H
     clear H
     go_wp2
     go_meet
     case rel => exact ⟨_, ((a0 == 38)), sp_, H', ⟨by have := HJ1.out; first | omega | exact Nat.le_refl _⟩, dr_⟩
    rw [if_neg c11] at H
    have c11b0 := ef_ c11
    have c11b1 := nt_ c11
    by_cases c12 : a0 = 39
    ·rw [if_pos c12] at H
     have := et_ c12
     replace c12 := nf_ c12
     have H' := Aside0.mk H
     clear H
     go_wp2
     go_meet
     case rel => exact ⟨_, ((a0 == 39)), sp_, H', ⟨by have := HJ1.out; first | omega | exact Nat.le_refl _⟩, dr_⟩
    rw [if_neg c12] at H
    have c12b0 := ef_ c12
    have c12b1 := nt_ c12
    by_cases c13 : a0 = 41
    ·rw [if_pos c13] at H
     have := et_ c13
     replace c13 := nf_ c13
     have H' := Aside0.mk H
     clear H
     go_wp2
     go_meet
     case rel => exact ⟨_, ((a0 == 41)), sp_, H', ⟨by have := HJ1.out; first | omega | exact Nat.le_refl _⟩, dr_⟩
    ·rw [if_neg c13] at H
     have c13b0 := ef_ c13
     have c13b1 := nt_ c13
     have H' := Aside0.mk H
     clear H
     go_wp2
     go_meet
     case rel => exact ⟨_, ((a0 == 95)), sp_, H', ⟨by have := HJ1.out; first | omega | exact Nat.le_refl _⟩, dr_⟩
   case rest =>
    clear HC9
    obtain ⟨kq, x11_8, rfl, HA, HJ8, ⟨mc8, rfl⟩⟩ := hcut
    cases kq with
    | zero => exact absurd HA.out (by simp [spec_FieldKind.j1])
    | succ kj8 =>
     have H := HA.out
     clear HA
     simp only [spec_FieldKind.j1] at H
     by_cases c14 : x11_8 = true
     ·subst c14
      replace H := ip_ H
      obtain rfl := si_ H
      go_wp2
      go_ret
      exact ⟨sp_, dr_⟩
     replace c14 := gf_ c14
     subst c14
     replace H := in_ H
     by_cases c15 : a0 = 2
     ·rw [if_pos c15] at H
      have := et_ c15
      replace c15 := nf_ c15
      obtain rfl := si_ H
      go_wp2
      go_ret
      exact ⟨sp_, dr_⟩
     rw [if_neg c15] at H
     have c15b0 := ef_ c15
     have c15b1 := nt_ c15
     have HC16 := Aside0.mk H
     clear H
     go_upto_if 19 with (fail)
     go_cut [19] (fun v19 wc => ∃ (kq : Nat) (x19_15 : Bool), v19 = .bool x19_15 ∧ Aside0 (spec_FieldKind.j2 kq a0 x19_15 = some r) ∧ Aside0 (kq ≤ kj8) ∧ Drawn0 w wc)
     case first =>
      have H := HC16.out
      clear HC16
      by_cases c17 : a0 = 102
      ·rw [if_pos c17] at H
       have c17b0 := et_ c17
       have c17b1 := nf_ c17
       clear c17
       (first | rw [c17b0] | (simp only [i64_w, i32_w]; rw [c17b0]) | skip)
       have H' := Aside0.mk H
       clear H
       go_wp2
       go_meet
       case rel => exact ⟨_, ((a0 == 102)), sp_, H', ⟨by have := HJ1.out; have := HJ8.out; first | omega | exact Nat.le_refl _⟩, dr_⟩
      ·rw [if_neg c17] at H
       have c17b0 := ef_ c17
       have c17b1 := nt_ c17
       (first | rw [c17b0] | (simp only [i64_w, i32_w]; rw [c17b0]) | skip)
       have H' := Aside0.mk H
       clear H
       go_wp2
       go_meet
       case rel => exact ⟨_, ((a0 == 103)), sp_, H', ⟨by have := HJ1.out; have := HJ8.out; first | omega | exact Nat.le_refl _⟩, dr_⟩
     case rest =>
      clear HC16
      obtain ⟨kq, x19_15, rfl, HA, HJ15, ⟨mc15, rfl⟩⟩ := hcut
      cases kq with
      | zero => exact absurd HA.out (by simp [spec_FieldKind.j2])
      | succ kj15 =>
       have H := HA.out
       clear HA
       simp only [spec_FieldKind.j2] at H
       by_cases c18 : x19_15 = true
       ·subst c18
        replace H := ip_ H
        obtain rfl := si_ H
        go_wp2
        go_ret
        exact ⟨sp_, dr_⟩
       replace c18 := gf_ c18
       subst c18
       replace H := in_ H
       by_cases c19 : a0 = 48
       ·rw [if_pos c19] at H
        have := et_ c19
        replace c19 := nf_ c19
        obtain rfl := si_ H
        go_wp2
        go_ret
        exact ⟨sp_, dr_⟩
       rw [if_neg c19] at H
       have c19b0 := ef_ c19
       have c19b1 := nt_ c19
       by_cases c20 : a0 = 54
       ·rw [if_pos c20] at H
        have := et_ c20
        replace c20 := nf_ c20
        obtain rfl := si_ H
        go_wp2
        go_ret
        exact ⟨sp_, dr_⟩
       rw [if_neg c20] at H
       have c20b0 := ef_ c20
       have c20b1 := nt_ c20
       obtain rfl := si_ H
       go_wp2
       go_ret
       exact ⟨sp_, dr_⟩
/-! ### spec_Printable: function 108 -/
def spec_Printable.l0 : Nat → ByteArray → Int → Option (Bool)
 | 0, _, _ => none
 | k + 1, x0, x3 => if x3 < (x0.size : Int) then (if 0 ≤ x3 then (if (bt x0 x3) < 32 then (some false) else (if (bt x0 x3) > 126 then (some false) else (spec_Printable.l0 k x0 (wrap64 (x3 + 1))))) else (none)) else (some true)
def spec_Printable.f (k : Nat) (a0 : ByteArray) : Option (Bool) := spec_Printable.l0 k a0 0
theorem spec_Printable.calls (k : Nat) (a0 : ByteArray) (r : Bool) (w : World) (h : spec_Printable.f k a0 = some r) :
  Calls Tryz.prog 108 #[.string a0] w fun e w' => e = .returned (.bool r) ∧ Drawn0 w w' := by
 have H := h
 unfold spec_Printable.f at H
 clear h
 have H' := Aside0.mk H
 clear H
 go_enter func108, ntmps108
 go_wp2
 go_loopg [3] k (fun kq v3 w' => ∃ (x3_1 : Int), v3 = .int .i64 x3_1 ∧ Aside0 (spec_Printable.l0 kq a0 x3_1 = some r) ∧ Aside0 (kq ≤ k) ∧ Drawn0 w w')
 case atStart => exact ⟨(0), sp_, H', ⟨Nat.le_refl _⟩, dr_⟩
 case round =>
  clear H'
  obtain ⟨x3_1, rfl, HA, HK1, ⟨m1, rfl⟩⟩ := hrel
  cases gk with
  | zero => exact absurd HA.out (by simp [spec_Printable.l0])
  | succ k1 =>
   have H := HA.out
   clear HA
   simp only [spec_Printable.l0] at H
   by_cases c2 : x3_1 < (a0.size : Int)
   rotate_left
   ·rw [if_neg c2] at H
    replace c2 := df_ c2
    obtain rfl := si_ H
    go_wp2
    go_ret
    exact ⟨sp_, dr_⟩
   rw [if_pos c2] at H
   replace c2 := dt_ c2
   obtain ⟨c3, H⟩ := og_ H
   replace c3 := dt_ c3
   by_cases c5 : (bt a0 x3_1) < 32
   ·rw [if_pos c5] at H
    replace c5 := dt_ c5
    obtain rfl := si_ H
    have p4 : 0 ≤ (x3_1 : Int) := od_
    have q4 : x3_1 < (a0.size : Int) := od_
    have hx4 := bt_at a0 x3_1
    replace p4 := eq_true p4
    replace q4 := eq_true q4
    go_wp2
    go_ret
    exact ⟨sp_, dr_⟩
   rw [if_neg c5] at H
   replace c5 := df_ c5
   by_cases c7 : (bt a0 x3_1) > 126
   ·rw [if_pos c7] at H
    replace c7 := dt_ c7
    obtain rfl := si_ H
    have p4 : 0 ≤ (x3_1 : Int) := od_
    have q4 : x3_1 < (a0.size : Int) := od_
    have hx4 := bt_at a0 x3_1
    replace p4 := eq_true p4
    replace q4 := eq_true q4
    have p6 : 0 ≤ (x3_1 : Int) := od_
    have q6 : x3_1 < (a0.size : Int) := od_
    have hx6 := bt_at a0 x3_1
    replace p6 := eq_true p6
    replace q6 := eq_true q6
    go_wp2
    go_ret
    exact ⟨sp_, dr_⟩
   rw [if_neg c7] at H
   replace c7 := df_ c7
   have H' := Aside0.mk H
   clear H
   have p4 : 0 ≤ (x3_1 : Int) := od_
   have q4 : x3_1 < (a0.size : Int) := od_
   have hx4 := bt_at a0 x3_1
   replace p4 := eq_true p4
   replace q4 := eq_true q4
   have p6 : 0 ≤ (x3_1 : Int) := od_
   have q6 : x3_1 < (a0.size : Int) := od_
   have hx6 := bt_at a0 x3_1
   replace p6 := eq_true p6
   replace q6 := eq_true q6
   go_wp2
   go_roundg k1
   case measure => have := HK1.out; omega
   case rel => exact ⟨(wrap64 (x3_1 + 1)), sp_, H', ⟨by have := HK1.out; omega⟩, dr_⟩
/-! ### spec_FieldOk: function 77 -/
def spec_FieldOk.j0 : Nat → ByteArray → Int → Bool → Option (Bool)
 | 0, _, _, _ => none
 | k + 1, x1, x5, x40 => if x40 = true then ((spec_Printable.f k x1).bind fun t21 => (if t21 = true then ((spec_l01In.f (x1.size : Int) 1 x5).bind fun t22 => (some t22)) else (some false))) else (some false)
def spec_FieldOk.f (k : Nat) (a0 : Int) (a1 : ByteArray) : Option (Bool) := (spec_FieldSize.f k a0).bind fun t20 => ((spec_FieldKind.f k a0).bind fun t2 => (if t2 = 1 then ((spec_Digits.f k a1).bind fun t23 => (if t23 = true then (some ((a1.size : Int) == t20)) else (some false))) else (if t2 = 2 then ((spec_Printable.f k a1).bind fun t24 => (if t24 = true then (some ((a1.size : Int) == t20)) else (some false))) else (if t2 = 3 then ((spec_Digits.f k a1).bind fun t25 => (if t25 = true then (some (decide ((a1.size : Int) ≤ t20))) else (some false))) else (if t2 = 4 then (spec_FieldOk.j0 k a1 t20 (t2 == 4)) else (spec_FieldOk.j0 k a1 t20 (t2 == 5)))))))
theorem spec_FieldOk.calls (k : Nat) (a0 : Int) (a1 : ByteArray) (r : Bool) (w : World) (h : spec_FieldOk.f k a0 a1 = some r) :
  Calls Tryz.prog 77 #[.int .i64 a0, .string a1] w fun e w' => e = .returned (.bool r) ∧ Drawn0 w w' := by
 have H := h
 unfold spec_FieldOk.f at H
 clear h
 obtain ⟨t20, A3, H⟩ := ob_ H
 obtain ⟨t2, A4, H⟩ := ob_ H
 by_cases c5 : t2 = 1
 ·rw [if_pos c5] at H
  have := et_ c5
  replace c5 := nf_ c5
  obtain ⟨t23, A6, H⟩ := ob_ H
  by_cases c7 : t23 = true
  ·subst c7
   replace H := ip_ H
   obtain rfl := si_ H
   go_enter func77, ntmps77
   go_wp2_with (first | ((with_reducible refine gd_ 106 7 func106 #[.int .i64 a0] (spec_FieldSize.calls k a0 t20 _ A3.out) fun nd => ?_)) | ((with_reducible refine gd_ 107 9 func107 #[.int .i64 a0] (spec_FieldKind.calls k a0 t2 _ A4.out) fun nd => ?_)) | ((with_reducible refine gd_ 76 13 func76 #[.string a1] (spec_Digits.calls k a1 true _ A6.out) fun nd => ?_)))
   go_ret
   exact ⟨sp_, dr_⟩
  replace c7 := gf_ c7
  subst c7
  replace H := in_ H
  obtain rfl := si_ H
  go_enter func77, ntmps77
  go_wp2_with (first | ((with_reducible refine gd_ 106 7 func106 #[.int .i64 a0] (spec_FieldSize.calls k a0 t20 _ A3.out) fun nd => ?_)) | ((with_reducible refine gd_ 107 9 func107 #[.int .i64 a0] (spec_FieldKind.calls k a0 t2 _ A4.out) fun nd => ?_)) | ((with_reducible refine gd_ 76 13 func76 #[.string a1] (spec_Digits.calls k a1 false _ A6.out) fun nd => ?_)))
  go_ret
  exact ⟨sp_, dr_⟩
 rw [if_neg c5] at H
 have c5b0 := ef_ c5
 have c5b1 := nt_ c5
 by_cases c8 : t2 = 2
 ·rw [if_pos c8] at H
  have := et_ c8
  replace c8 := nf_ c8
  obtain ⟨t24, A9, H⟩ := ob_ H
  by_cases c10 : t24 = true
  ·subst c10
   replace H := ip_ H
   obtain rfl := si_ H
   go_enter func77, ntmps77
   go_wp2_with (first | ((with_reducible refine gd_ 106 7 func106 #[.int .i64 a0] (spec_FieldSize.calls k a0 t20 _ A3.out) fun nd => ?_)) | ((with_reducible refine gd_ 107 9 func107 #[.int .i64 a0] (spec_FieldKind.calls k a0 t2 _ A4.out) fun nd => ?_)) | ((with_reducible refine gd_ 108 23 func108 #[.string a1] (spec_Printable.calls k a1 true _ A9.out) fun nd => ?_)))
   go_ret
   exact ⟨sp_, dr_⟩
  replace c10 := gf_ c10
  subst c10
  replace H := in_ H
  obtain rfl := si_ H
  go_enter func77, ntmps77
  go_wp2_with (first | ((with_reducible refine gd_ 106 7 func106 #[.int .i64 a0] (spec_FieldSize.calls k a0 t20 _ A3.out) fun nd => ?_)) | ((with_reducible refine gd_ 107 9 func107 #[.int .i64 a0] (spec_FieldKind.calls k a0 t2 _ A4.out) fun nd => ?_)) | ((with_reducible refine gd_ 108 23 func108 #[.string a1] (spec_Printable.calls k a1 false _ A9.out) fun nd => ?_)))
  go_ret
  exact ⟨sp_, dr_⟩
 rw [if_neg c8] at H
 have c8b0 := ef_ c8
 have c8b1 := nt_ c8
 by_cases c11 : t2 = 3
 ·rw [if_pos c11] at H
  have := et_ c11
  replace c11 := nf_ c11
  obtain ⟨t25, A12, H⟩ := ob_ H
  by_cases c13 : t25 = true
  ·subst c13
   replace H := ip_ H
   obtain rfl := si_ H
   go_enter func77, ntmps77
   go_wp2_with (first | ((with_reducible refine gd_ 106 7 func106 #[.int .i64 a0] (spec_FieldSize.calls k a0 t20 _ A3.out) fun nd => ?_)) | ((with_reducible refine gd_ 107 9 func107 #[.int .i64 a0] (spec_FieldKind.calls k a0 t2 _ A4.out) fun nd => ?_)) | ((with_reducible refine gd_ 76 33 func76 #[.string a1] (spec_Digits.calls k a1 true _ A12.out) fun nd => ?_)))
   go_ret
   exact ⟨sp_, dr_⟩
  replace c13 := gf_ c13
  subst c13
  replace H := in_ H
  obtain rfl := si_ H
  go_enter func77, ntmps77
  go_wp2_with (first | ((with_reducible refine gd_ 106 7 func106 #[.int .i64 a0] (spec_FieldSize.calls k a0 t20 _ A3.out) fun nd => ?_)) | ((with_reducible refine gd_ 107 9 func107 #[.int .i64 a0] (spec_FieldKind.calls k a0 t2 _ A4.out) fun nd => ?_)) | ((with_reducible refine gd_ 76 33 func76 #[.string a1] (spec_Digits.calls k a1 false _ A12.out) fun nd => ?_)))
  go_ret
  exact ⟨sp_, dr_⟩
 rw [if_neg c11] at H
 have c11b0 := ef_ c11
 have c11b1 := nt_ c11
 have HC14 := Aside0.mk H
 clear H
 go_enter func77, ntmps77
 go_upto_if 40 with (first | ((with_reducible refine gd_ 106 7 func106 #[.int .i64 a0] (spec_FieldSize.calls k a0 t20 _ A3.out) fun nd => ?_)) | ((with_reducible refine gd_ 107 9 func107 #[.int .i64 a0] (spec_FieldKind.calls k a0 t2 _ A4.out) fun nd => ?_)))
 (try simp only [Act.put, List.setIfInBounds_toArray, List.set_cons_zero, List.set_cons_succ])
 go_cut [40] (fun v40 wc => ∃ (kq : Nat) (x40_13 : Bool), v40 = .bool x40_13 ∧ Aside0 (spec_FieldOk.j0 kq a1 t20 x40_13 = some r) ∧ Aside0 (kq ≤ k) ∧ Drawn0 w wc)
 case first =>
  have H := HC14.out
  clear HC14
  by_cases c15 : t2 = 4
  ·rw [if_pos c15] at H
   have c15b0 := et_ c15
   have c15b1 := nf_ c15
   clear c15
   (first | rw [c15b0] | (simp only [i64_w, i32_w]; rw [c15b0]) | skip)
   have H' := Aside0.mk H
   clear H
   go_wp2
   go_meet
   case rel => exact ⟨_, ((t2 == 4)), sp_, H', ⟨by first | omega | exact Nat.le_refl _⟩, dr_⟩
  ·rw [if_neg c15] at H
   have c15b0 := ef_ c15
   have c15b1 := nt_ c15
   (first | rw [c15b0] | (simp only [i64_w, i32_w]; rw [c15b0]) | skip)
   have H' := Aside0.mk H
   clear H
   go_wp2
   go_meet
   case rel => exact ⟨_, ((t2 == 5)), sp_, H', ⟨by first | omega | exact Nat.le_refl _⟩, dr_⟩
 case rest =>
  clear HC14
  obtain ⟨kq, x40_13, rfl, HA, HJ13, ⟨mc13, rfl⟩⟩ := hcut
  cases kq with
  | zero => exact absurd HA.out (by simp [spec_FieldOk.j0])
  | succ kj13 =>
   have H := HA.out
   clear HA
   simp only [spec_FieldOk.j0] at H
   by_cases c16 : x40_13 = true
   ·subst c16
    replace H := ip_ H
    obtain ⟨t21, A17, H⟩ := ob_ H
    by_cases c18 : t21 = true
    ·subst c18
     replace H := ip_ H
     obtain ⟨t22, A19, H⟩ := ob_ H
     obtain rfl := si_ H
     go_wp2_with (first | ((with_reducible refine gd_ 108 44 func108 #[.string a1] (spec_Printable.calls kj13 a1 true _ A17.out) fun nd => ?_)) | (go_at_call 67; (with_reducible refine (spec_l01In.calls (a1.size : Int) 1 t20 t22 _ A19.out).mono ?_); rintro e w' ⟨rfl, nd, rfl⟩))
     go_ret
     exact ⟨sp_, dr_⟩
    replace c18 := gf_ c18
    subst c18
    replace H := in_ H
    obtain rfl := si_ H
    go_wp2_with (first | ((with_reducible refine gd_ 108 44 func108 #[.string a1] (spec_Printable.calls kj13 a1 false _ A17.out) fun nd => ?_)))
    go_ret
    exact ⟨sp_, dr_⟩
   ·replace c16 := gf_ c16
    subst c16
    replace H := in_ H
    obtain rfl := si_ H
    go_wp2
    go_ret
    exact ⟨sp_, dr_⟩
/-! ### spec_MsgOk: function 36 -/
mutual
def spec_MsgOk.j0 : Nat → Bool → ByteArray → List (S91) → Option (Bool)
 | 0, _, _, _ => none
 | k + 1, x14, x23, x22 => if x14 = true then (some false) else (spec_MsgOk.l0 k x22 (x22.length : Int) 0 x23 x22)
def spec_MsgOk.l0 : Nat → List (S91) → Int → Int → ByteArray → List (S91) → Option (Bool)
 | 0, _, _, _, _, _ => none
 | k + 1, x16, x17, x18, x23, x22 => if x18 < x17 then (if 0 ≤ x18 then (if x18 < (x16.length : Int) then ((spec_FieldOk.f k ((rd_T91 x16 x18).f0) ((rd_T91 x16 x18).f1)).bind fun t25 => (if t25 = true then (if x18 > 0 then (if 0 ≤ (wrap64 (x18 - 1)) then (if (wrap64 (x18 - 1)) < (x22.length : Int) then (if ((rd_T91 x22 (wrap64 (x18 - 1))).f0) ≥ ((rd_T91 x16 x18).f0) then (some false) else (spec_MsgOk.l0 k x16 x17 (wrap64 (x18 + 1)) x23 x22)) else (none)) else (none)) else (spec_MsgOk.l0 k x16 x17 (wrap64 (x18 + 1)) x23 x22)) else (some false))) else (none)) else (none)) else (some true)
end
def spec_MsgOk.f (k : Nat) (a0_0 : ByteArray) (l0_1 : List (S91)) : Option (Bool) := (spec_Digits.f k a0_0).bind fun t26 => (if t26 = true then (spec_MsgOk.j0 k ((a0_0.size : Int) != 4) a0_0 l0_1) else (spec_MsgOk.j0 k true a0_0 l0_1))
theorem spec_MsgOk.calls (k : Nat) (a0_0 : ByteArray) (A0_1 : Option Addr) (c0_1 : Nat) (l0_1 : List (S91)) (r : Bool) (w : World) (hr0_1 : Kd.C k91 w A0_1 l0_1.length l0_1) (hc0_1 : l0_1.length ≤ c0_1) (h : spec_MsgOk.f k a0_0 l0_1 = some r) :
  Calls Tryz.prog 36 #[.agg #[.string a0_0, .slice A0_1 l0_1.length c0_1]] w fun e w' => e = .returned (.bool r) ∧ Below w.heap.size w w' := by
 have hu32 := underlying32
 have hu91 := underlying91
 have HR0_1 := Aside0.mk hr0_1
 have HC0_1 := Aside0.mk hc0_1
 clear hr0_1 hc0_1
 have HB := Aside0.mk (Below.refl w.heap.size w)
 have H := h
 unfold spec_MsgOk.f at H
 clear h
 have HC2 := Aside0.mk H
 clear H
 go_enter func36, ntmps36
 go_upto_region 1 with (first | ((with_reducible refine gt_ 1 ?_); (try (refine gate_guard (by rfl) ?_; dsimp only)); refine bo_ 1 #[.string a0_0, .slice A0_1 l0_1.length c0_1] 32 ?_; intro gb9 hg w3 BK9 hb; have GW9 := gw_ (w := w) hg; replace HB := hs_ hb; clear hb hg))
 repeat (go_quiet (first | ((with_reducible refine gt_ 1 ?_); (try (refine gate_guard (by rfl) ?_; dsimp only)); refine bo_ 1 #[.string a0_0, .slice A0_1 l0_1.length c0_1] 32 ?_; intro gb9 hg w3 BK9 hb; have GW9 := gw_ (w := w) hg; replace HB := hs_ hb; clear hb hg)); go_upto_region 1 with (first | ((with_reducible refine gt_ 1 ?_); (try (refine gate_guard (by rfl) ?_; dsimp only)); refine bo_ 1 #[.string a0_0, .slice A0_1 l0_1.length c0_1] 32 ?_; intro gb9 hg w3 BK9 hb; have GW9 := gw_ (w := w) hg; replace HB := hs_ hb; clear hb hg)))
 (try simp only [Act.put, List.setIfInBounds_toArray, List.set_cons_zero, List.set_cons_succ])
 go_cut [14] (fun v14 wc => ∃ (kq : Nat) (x14_1 : Bool), v14 = .bool x14_1 ∧ Aside0 (spec_MsgOk.j0 kq x14_1 a0_0 l0_1 = some r) ∧ Aside0 (kq ≤ k) ∧ Aside0 (wc.heap[gb9]? = some (.cells #[.string a0_0, (.slice A0_1 l0_1.length c0_1)] 32 (0, 0))) ∧ Aside0 (Below w.heap.size w wc))
 case first =>
  have H := HC2.out
  clear HC2
  obtain ⟨t26, A4, H⟩ := ob_ H
  by_cases c5 : t26 = true
  ·subst c5
   replace H := ip_ H
   have H' := Aside0.mk H
   clear H
   refine by2_ BK9 ?_; intros
   go_wp2_with (first | (go_at_call 76; (with_reducible refine (spec_Digits.calls k a0_0 true _ A4.out).mono ?_); rintro e w' ⟨rfl, nd, rfl⟩; (try exact dq_)))
   repeat (go_quiet (first | (go_at_call 76; (with_reducible refine (spec_Digits.calls k a0_0 true _ A4.out).mono ?_); rintro e w' ⟨rfl, nd, rfl⟩; (try exact dq_))); try go_wp2_with (first | (go_at_call 76; (with_reducible refine (spec_Digits.calls k a0_0 true _ A4.out).mono ?_); rintro e w' ⟨rfl, nd, rfl⟩; (try exact dq_))))
   go_meet
   case rel => exact ⟨_, (((a0_0.size : Int) != 4)), sp_, H', ⟨by first | omega | exact Nat.le_refl _⟩, ⟨ch_ BK9.out⟩, ⟨bl_⟩⟩
  replace c5 := gf_ c5
  subst c5
  replace H := in_ H
  have H' := Aside0.mk H
  clear H
  refine by2_ BK9 ?_; intros
  go_wp2_with (first | (go_at_call 76; (with_reducible refine (spec_Digits.calls k a0_0 false _ A4.out).mono ?_); rintro e w' ⟨rfl, nd, rfl⟩; (try exact dq_)))
  repeat (go_quiet (first | (go_at_call 76; (with_reducible refine (spec_Digits.calls k a0_0 false _ A4.out).mono ?_); rintro e w' ⟨rfl, nd, rfl⟩; (try exact dq_))); try go_wp2_with (first | (go_at_call 76; (with_reducible refine (spec_Digits.calls k a0_0 false _ A4.out).mono ?_); rintro e w' ⟨rfl, nd, rfl⟩; (try exact dq_))))
  go_meet
  case rel => exact ⟨_, (true), sp_, H', ⟨by first | omega | exact Nat.le_refl _⟩, ⟨ch_ BK9.out⟩, ⟨bl_⟩⟩
 case rest =>
  clear HC2
  obtain ⟨kq, x14_1, rfl, HA, HJ1, BK9, HB⟩ := hcut
  cases kq with
  | zero => exact absurd HA.out (by simp [spec_MsgOk.j0])
  | succ kj1 =>
   have H := HA.out
   clear HA
   simp only [spec_MsgOk.j0] at H
   by_cases c8 : x14_1 = true
   ·subst c8
    replace H := ip_ H
    obtain rfl := si_ H
    go_wp2
    repeat (go_quiet (fail); try go_wp2)
    go_ret
    exact ⟨sq_, bl_⟩
   replace c8 := gf_ c8
   subst c8
   replace H := in_ H
   have H' := Aside0.mk H
   clear H
   refine by2_ BK9 ?_; intros
   go_wp2
   repeat (go_quiet (fail); try go_wp2)
   go_loopg [18] kj1 (fun kq v18 w' => ∃ (x18_2 : Int), v18 = .int .i64 x18_2 ∧ Aside0 (spec_MsgOk.l0 kq l0_1 (l0_1.length : Int) x18_2 a0_0 l0_1 = some r) ∧ Aside0 (kq ≤ kj1) ∧ Aside0 (w'.heap[gb9]? = some (.cells #[.string a0_0, (.slice A0_1 l0_1.length c0_1)] 32 (0, 0))) ∧ Aside0 (Below w.heap.size w w'))
   case atStart => exact ⟨(0), sp_, H', ⟨Nat.le_refl _⟩, ⟨ch_ BK9.out⟩, ⟨bl_⟩⟩
   case round =>
    clear H'
    obtain ⟨x18_2, rfl, HA, HK2, BK9, HB⟩ := hrel
    cases gk with
    | zero => exact absurd HA.out (by simp [spec_MsgOk.l0])
    | succ k2 =>
     have H := HA.out
     clear HA
     simp only [spec_MsgOk.l0] at H
     by_cases c10 : x18_2 < (l0_1.length : Int)
     rotate_left
     ·rw [if_neg c10] at H
      replace c10 := df_ c10
      obtain rfl := si_ H
      go_wp2
      repeat (go_quiet (fail); try go_wp2)
      go_ret
      exact ⟨sq_, bl_⟩
     rw [if_pos c10] at H
     replace c10 := dt_ c10
     obtain ⟨c11, H⟩ := og_ H
     replace c11 := dt_ c11
     obtain ⟨c12, H⟩ := og_ H
     replace c12 := dt_ c12
     obtain ⟨t25, A13, H⟩ := ob_ H
     by_cases c14 : t25 = true
     rotate_left
     ·replace c14 := gf_ c14
      subst c14
      replace H := in_ H
      obtain rfl := si_ H
      have p21 : 0 ≤ (x18_2 : Int) := od_
      have q21 : x18_2 < (l0_1.length : Int) := od_
      obtain ⟨ad21, e21, hx21_0, hx21_1⟩ := at_T91 HR0_1.out x18_2 p21 q21
      cases e21
      replace hx21_0 := kc_ HB hx21_0
      replace hx21_1 := kc_ HB hx21_1
      replace p21 := eq_true p21
      replace q21 := eq_true q21
      go_wp2_with (first | ((with_reducible refine gt_ 4 ?_); (try (refine gate_guard (by rfl) ?_; dsimp only)); refine bo_ 4 #[.int .i64 0, .string ⟨#[]⟩] 91 ?_; intro gb7 hg w31 BK7 hb; have GW7 := gw_ (w := w) hg; replace HB := hs_ hb; have ⟨NB9_7, NB7_9⟩ := nb_ hg BK9; replace BK9 := kb_ BK9 hb; clear hb hg; have := NB7_9.out; have := NB9_7.out; refine by2_ BK7 ?_; intros) | (go_at_call 77; (with_reducible refine (spec_FieldOk.calls k2 ((rd_T91 l0_1 x18_2).f0) ((rd_T91 l0_1 x18_2).f1) false _ A13.out).mono ?_); rintro e w' ⟨rfl, nd, rfl⟩; (try exact dq_)))
      repeat (go_quiet (first | ((with_reducible refine gt_ 4 ?_); (try (refine gate_guard (by rfl) ?_; dsimp only)); refine bo_ 4 #[.int .i64 0, .string ⟨#[]⟩] 91 ?_; intro gb7 hg w31 BK7 hb; have GW7 := gw_ (w := w) hg; replace HB := hs_ hb; have ⟨NB9_7, NB7_9⟩ := nb_ hg BK9; replace BK9 := kb_ BK9 hb; clear hb hg; have := NB7_9.out; have := NB9_7.out; refine by2_ BK7 ?_; intros) | (go_at_call 77; (with_reducible refine (spec_FieldOk.calls k2 ((rd_T91 l0_1 x18_2).f0) ((rd_T91 l0_1 x18_2).f1) false _ A13.out).mono ?_); rintro e w' ⟨rfl, nd, rfl⟩; (try exact dq_))); try go_wp2_with (first | ((with_reducible refine gt_ 4 ?_); (try (refine gate_guard (by rfl) ?_; dsimp only)); refine bo_ 4 #[.int .i64 0, .string ⟨#[]⟩] 91 ?_; intro gb7 hg w31 BK7 hb; have GW7 := gw_ (w := w) hg; replace HB := hs_ hb; have ⟨NB9_7, NB7_9⟩ := nb_ hg BK9; replace BK9 := kb_ BK9 hb; clear hb hg; have := NB7_9.out; have := NB9_7.out; refine by2_ BK7 ?_; intros) | (go_at_call 77; (with_reducible refine (spec_FieldOk.calls k2 ((rd_T91 l0_1 x18_2).f0) ((rd_T91 l0_1 x18_2).f1) false _ A13.out).mono ?_); rintro e w' ⟨rfl, nd, rfl⟩; (try exact dq_))))
      go_ret
      exact ⟨sq_, bl_⟩
     subst c14
     replace H := ip_ H
     by_cases c15 : x18_2 > 0
     rotate_left
     ·rw [if_neg c15] at H
      replace c15 := df_ c15
      have H' := Aside0.mk H
      clear H
      have p21 : 0 ≤ (x18_2 : Int) := od_
      have q21 : x18_2 < (l0_1.length : Int) := od_
      obtain ⟨ad21, e21, hx21_0, hx21_1⟩ := at_T91 HR0_1.out x18_2 p21 q21
      cases e21
      replace hx21_0 := kc_ HB hx21_0
      replace hx21_1 := kc_ HB hx21_1
      replace p21 := eq_true p21
      replace q21 := eq_true q21
      go_wp2_with (first | ((with_reducible refine gt_ 4 ?_); (try (refine gate_guard (by rfl) ?_; dsimp only)); refine bo_ 4 #[.int .i64 0, .string ⟨#[]⟩] 91 ?_; intro gb7 hg w28 BK7 hb; have GW7 := gw_ (w := w) hg; replace HB := hs_ hb; have ⟨NB9_7, NB7_9⟩ := nb_ hg BK9; replace BK9 := kb_ BK9 hb; clear hb hg; have := NB7_9.out; have := NB9_7.out; refine by2_ BK7 ?_; intros) | (go_at_call 77; (with_reducible refine (spec_FieldOk.calls k2 ((rd_T91 l0_1 x18_2).f0) ((rd_T91 l0_1 x18_2).f1) true _ A13.out).mono ?_); rintro e w' ⟨rfl, nd, rfl⟩; (try exact dq_)))
      repeat (go_quiet (first | ((with_reducible refine gt_ 4 ?_); (try (refine gate_guard (by rfl) ?_; dsimp only)); refine bo_ 4 #[.int .i64 0, .string ⟨#[]⟩] 91 ?_; intro gb7 hg w28 BK7 hb; have GW7 := gw_ (w := w) hg; replace HB := hs_ hb; have ⟨NB9_7, NB7_9⟩ := nb_ hg BK9; replace BK9 := kb_ BK9 hb; clear hb hg; have := NB7_9.out; have := NB9_7.out; refine by2_ BK7 ?_; intros) | (go_at_call 77; (with_reducible refine (spec_FieldOk.calls k2 ((rd_T91 l0_1 x18_2).f0) ((rd_T91 l0_1 x18_2).f1) true _ A13.out).mono ?_); rintro e w' ⟨rfl, nd, rfl⟩; (try exact dq_))); try go_wp2_with (first | ((with_reducible refine gt_ 4 ?_); (try (refine gate_guard (by rfl) ?_; dsimp only)); refine bo_ 4 #[.int .i64 0, .string ⟨#[]⟩] 91 ?_; intro gb7 hg w28 BK7 hb; have GW7 := gw_ (w := w) hg; replace HB := hs_ hb; have ⟨NB9_7, NB7_9⟩ := nb_ hg BK9; replace BK9 := kb_ BK9 hb; clear hb hg; have := NB7_9.out; have := NB9_7.out; refine by2_ BK7 ?_; intros) | (go_at_call 77; (with_reducible refine (spec_FieldOk.calls k2 ((rd_T91 l0_1 x18_2).f0) ((rd_T91 l0_1 x18_2).f1) true _ A13.out).mono ?_); rintro e w' ⟨rfl, nd, rfl⟩; (try exact dq_))))
      go_roundg k2
      case measure => have := HJ1.out; have := HK2.out; omega
      case rel => exact ⟨(wrap64 (x18_2 + 1)), sp_, H', ⟨by have := HJ1.out; have := HK2.out; omega⟩, ⟨by refine ch_ ?_; refine bf_ NB9_7 ?_; exact bf_ NB9_7 BK9.out⟩, ⟨bl_⟩⟩
     rw [if_pos c15] at H
     replace c15 := dt_ c15
     obtain ⟨ji16, hji16⟩ : ∃ j_ : Int, (wrap64 (x18_2 - 1)) = j_ := ⟨_, rfl⟩
     replace H : (if 0 ≤ (ji16) then (if (ji16) < (l0_1.length : Int) then (if ((rd_T91 l0_1 (ji16)).f0) ≥ ((rd_T91 l0_1 x18_2).f0) then (some false) else (spec_MsgOk.l0 k2 l0_1 (l0_1.length : Int) (wrap64 (x18_2 + 1)) a0_0 l0_1)) else (none)) else (none)) = some r := by first | (rw [hji16] at H; exact H) | (simp only [hji16] at H ⊢; exact H)
     (try rw [hji16] at A13)
     have hji16w : (IntKind.i64.wrap (x18_2 - 1)) = ji16 := (i64_w _).trans hji16
     obtain ⟨c17, H⟩ := og_ H
     replace c17 := dt_ c17
     obtain ⟨c18, H⟩ := og_ H
     replace c18 := dt_ c18
     by_cases c19 : ((rd_T91 l0_1 (ji16)).f0) ≥ ((rd_T91 l0_1 x18_2).f0)
     ·rw [if_pos c19] at H
      replace c19 := dt_ c19
      obtain rfl := si_ H
      have p21 : 0 ≤ (x18_2 : Int) := od_
      have q21 : x18_2 < (l0_1.length : Int) := od_
      obtain ⟨ad21, e21, hx21_0, hx21_1⟩ := at_T91 HR0_1.out x18_2 p21 q21
      cases e21
      replace hx21_0 := kc_ HB hx21_0
      replace hx21_1 := kc_ HB hx21_1
      replace p21 := eq_true p21
      replace q21 := eq_true q21
      go_wp2_with (first | ((with_reducible refine gt_ 4 ?_); (try (refine gate_guard (by rfl) ?_; dsimp only)); refine bo_ 4 #[.int .i64 0, .string ⟨#[]⟩] 91 ?_; intro gb7 hg w20 BK7 hb; have GW7 := gw_ (w := w) hg; replace HB := hs_ hb; have ⟨NB9_7, NB7_9⟩ := nb_ hg BK9; replace BK9 := kb_ BK9 hb; clear hb hg; have := NB7_9.out; have := NB9_7.out; refine by2_ BK7 ?_; intros) | (go_at_call 77; (with_reducible refine (spec_FieldOk.calls k2 ((rd_T91 l0_1 x18_2).f0) ((rd_T91 l0_1 x18_2).f1) true _ A13.out).mono ?_); rintro e w' ⟨rfl, nd, rfl⟩; (try exact dq_); refine by2_ BK9 ?_; intros; have p6 : 0 ≤ ((ji16) : Int) := od_; have q6 : (ji16) < (l0_1.length : Int) := od_; obtain ⟨ad6, e6, hx6_0, hx6_1⟩ := at_T91 HR0_1.out (ji16) p6 q6; obtain rfl : ad21 = ad6 := (by injection e6); have hn6_0 : ad21.block ≠ gb7 := nl_ hx6_0 GW7; have hn6_1 : ad21.block ≠ gb7 := nl_ hx6_0 GW7; replace hx6_0 := kc_ HB hx6_0; replace hx6_1 := kc_ HB hx6_1; replace hx6_0 := cf0_1_ (fr_ hn6_0) hx6_0; replace hx6_1 := cf0_1_ (fr_ hn6_0) hx6_1; (try have hy6_0 := gcf0_1_ (fr_ hn6_0) hx6_0); (try have hy6_1 := gcf0_1_ (fr_ hn6_0) hx6_1); clear hn6_0; clear hn6_1; replace p6 := eq_true p6; replace q6 := eq_true q6))
      repeat (go_quiet (first | ((with_reducible refine gt_ 4 ?_); (try (refine gate_guard (by rfl) ?_; dsimp only)); refine bo_ 4 #[.int .i64 0, .string ⟨#[]⟩] 91 ?_; intro gb7 hg w20 BK7 hb; have GW7 := gw_ (w := w) hg; replace HB := hs_ hb; have ⟨NB9_7, NB7_9⟩ := nb_ hg BK9; replace BK9 := kb_ BK9 hb; clear hb hg; have := NB7_9.out; have := NB9_7.out; refine by2_ BK7 ?_; intros) | (go_at_call 77; (with_reducible refine (spec_FieldOk.calls k2 ((rd_T91 l0_1 x18_2).f0) ((rd_T91 l0_1 x18_2).f1) true _ A13.out).mono ?_); rintro e w' ⟨rfl, nd, rfl⟩; (try exact dq_); refine by2_ BK9 ?_; intros; have p6 : 0 ≤ ((ji16) : Int) := od_; have q6 : (ji16) < (l0_1.length : Int) := od_; obtain ⟨ad6, e6, hx6_0, hx6_1⟩ := at_T91 HR0_1.out (ji16) p6 q6; obtain rfl : ad21 = ad6 := (by injection e6); have hn6_0 : ad21.block ≠ gb7 := nl_ hx6_0 GW7; have hn6_1 : ad21.block ≠ gb7 := nl_ hx6_0 GW7; replace hx6_0 := kc_ HB hx6_0; replace hx6_1 := kc_ HB hx6_1; replace hx6_0 := cf0_1_ (fr_ hn6_0) hx6_0; replace hx6_1 := cf0_1_ (fr_ hn6_0) hx6_1; (try have hy6_0 := gcf0_1_ (fr_ hn6_0) hx6_0); (try have hy6_1 := gcf0_1_ (fr_ hn6_0) hx6_1); clear hn6_0; clear hn6_1; replace p6 := eq_true p6; replace q6 := eq_true q6)); try go_wp2_with (first | ((with_reducible refine gt_ 4 ?_); (try (refine gate_guard (by rfl) ?_; dsimp only)); refine bo_ 4 #[.int .i64 0, .string ⟨#[]⟩] 91 ?_; intro gb7 hg w20 BK7 hb; have GW7 := gw_ (w := w) hg; replace HB := hs_ hb; have ⟨NB9_7, NB7_9⟩ := nb_ hg BK9; replace BK9 := kb_ BK9 hb; clear hb hg; have := NB7_9.out; have := NB9_7.out; refine by2_ BK7 ?_; intros) | (go_at_call 77; (with_reducible refine (spec_FieldOk.calls k2 ((rd_T91 l0_1 x18_2).f0) ((rd_T91 l0_1 x18_2).f1) true _ A13.out).mono ?_); rintro e w' ⟨rfl, nd, rfl⟩; (try exact dq_); refine by2_ BK9 ?_; intros; have p6 : 0 ≤ ((ji16) : Int) := od_; have q6 : (ji16) < (l0_1.length : Int) := od_; obtain ⟨ad6, e6, hx6_0, hx6_1⟩ := at_T91 HR0_1.out (ji16) p6 q6; obtain rfl : ad21 = ad6 := (by injection e6); have hn6_0 : ad21.block ≠ gb7 := nl_ hx6_0 GW7; have hn6_1 : ad21.block ≠ gb7 := nl_ hx6_0 GW7; replace hx6_0 := kc_ HB hx6_0; replace hx6_1 := kc_ HB hx6_1; replace hx6_0 := cf0_1_ (fr_ hn6_0) hx6_0; replace hx6_1 := cf0_1_ (fr_ hn6_0) hx6_1; (try have hy6_0 := gcf0_1_ (fr_ hn6_0) hx6_0); (try have hy6_1 := gcf0_1_ (fr_ hn6_0) hx6_1); clear hn6_0; clear hn6_1; replace p6 := eq_true p6; replace q6 := eq_true q6)))
      go_ret
      exact ⟨by first | rfl | (simp [errW_none, errW_some] <;> rfl) | (simp only [← hji16]; first | rfl | (simp [errW_none, errW_some] <;> rfl)) | (simp [*, errW_none, errW_some] <;> rfl), bl_⟩
     rw [if_neg c19] at H
     replace c19 := df_ c19
     have H' := Aside0.mk H
     clear H
     have p21 : 0 ≤ (x18_2 : Int) := od_
     have q21 : x18_2 < (l0_1.length : Int) := od_
     obtain ⟨ad21, e21, hx21_0, hx21_1⟩ := at_T91 HR0_1.out x18_2 p21 q21
     cases e21
     replace hx21_0 := kc_ HB hx21_0
     replace hx21_1 := kc_ HB hx21_1
     replace p21 := eq_true p21
     replace q21 := eq_true q21
     go_wp2_with (first | ((with_reducible refine gt_ 4 ?_); (try (refine gate_guard (by rfl) ?_; dsimp only)); refine bo_ 4 #[.int .i64 0, .string ⟨#[]⟩] 91 ?_; intro gb7 hg w24 BK7 hb; have GW7 := gw_ (w := w) hg; replace HB := hs_ hb; have ⟨NB9_7, NB7_9⟩ := nb_ hg BK9; replace BK9 := kb_ BK9 hb; clear hb hg; have := NB7_9.out; have := NB9_7.out; refine by2_ BK7 ?_; intros) | (go_at_call 77; (with_reducible refine (spec_FieldOk.calls k2 ((rd_T91 l0_1 x18_2).f0) ((rd_T91 l0_1 x18_2).f1) true _ A13.out).mono ?_); rintro e w' ⟨rfl, nd, rfl⟩; (try exact dq_); refine by2_ BK9 ?_; intros; have p6 : 0 ≤ ((ji16) : Int) := od_; have q6 : (ji16) < (l0_1.length : Int) := od_; obtain ⟨ad6, e6, hx6_0, hx6_1⟩ := at_T91 HR0_1.out (ji16) p6 q6; obtain rfl : ad21 = ad6 := (by injection e6); have hn6_0 : ad21.block ≠ gb7 := nl_ hx6_0 GW7; have hn6_1 : ad21.block ≠ gb7 := nl_ hx6_0 GW7; replace hx6_0 := kc_ HB hx6_0; replace hx6_1 := kc_ HB hx6_1; replace hx6_0 := cf0_1_ (fr_ hn6_0) hx6_0; replace hx6_1 := cf0_1_ (fr_ hn6_0) hx6_1; (try have hy6_0 := gcf0_1_ (fr_ hn6_0) hx6_0); (try have hy6_1 := gcf0_1_ (fr_ hn6_0) hx6_1); clear hn6_0; clear hn6_1; replace p6 := eq_true p6; replace q6 := eq_true q6))
     repeat (go_quiet (first | ((with_reducible refine gt_ 4 ?_); (try (refine gate_guard (by rfl) ?_; dsimp only)); refine bo_ 4 #[.int .i64 0, .string ⟨#[]⟩] 91 ?_; intro gb7 hg w24 BK7 hb; have GW7 := gw_ (w := w) hg; replace HB := hs_ hb; have ⟨NB9_7, NB7_9⟩ := nb_ hg BK9; replace BK9 := kb_ BK9 hb; clear hb hg; have := NB7_9.out; have := NB9_7.out; refine by2_ BK7 ?_; intros) | (go_at_call 77; (with_reducible refine (spec_FieldOk.calls k2 ((rd_T91 l0_1 x18_2).f0) ((rd_T91 l0_1 x18_2).f1) true _ A13.out).mono ?_); rintro e w' ⟨rfl, nd, rfl⟩; (try exact dq_); refine by2_ BK9 ?_; intros; have p6 : 0 ≤ ((ji16) : Int) := od_; have q6 : (ji16) < (l0_1.length : Int) := od_; obtain ⟨ad6, e6, hx6_0, hx6_1⟩ := at_T91 HR0_1.out (ji16) p6 q6; obtain rfl : ad21 = ad6 := (by injection e6); have hn6_0 : ad21.block ≠ gb7 := nl_ hx6_0 GW7; have hn6_1 : ad21.block ≠ gb7 := nl_ hx6_0 GW7; replace hx6_0 := kc_ HB hx6_0; replace hx6_1 := kc_ HB hx6_1; replace hx6_0 := cf0_1_ (fr_ hn6_0) hx6_0; replace hx6_1 := cf0_1_ (fr_ hn6_0) hx6_1; (try have hy6_0 := gcf0_1_ (fr_ hn6_0) hx6_0); (try have hy6_1 := gcf0_1_ (fr_ hn6_0) hx6_1); clear hn6_0; clear hn6_1; replace p6 := eq_true p6; replace q6 := eq_true q6)); try go_wp2_with (first | ((with_reducible refine gt_ 4 ?_); (try (refine gate_guard (by rfl) ?_; dsimp only)); refine bo_ 4 #[.int .i64 0, .string ⟨#[]⟩] 91 ?_; intro gb7 hg w24 BK7 hb; have GW7 := gw_ (w := w) hg; replace HB := hs_ hb; have ⟨NB9_7, NB7_9⟩ := nb_ hg BK9; replace BK9 := kb_ BK9 hb; clear hb hg; have := NB7_9.out; have := NB9_7.out; refine by2_ BK7 ?_; intros) | (go_at_call 77; (with_reducible refine (spec_FieldOk.calls k2 ((rd_T91 l0_1 x18_2).f0) ((rd_T91 l0_1 x18_2).f1) true _ A13.out).mono ?_); rintro e w' ⟨rfl, nd, rfl⟩; (try exact dq_); refine by2_ BK9 ?_; intros; have p6 : 0 ≤ ((ji16) : Int) := od_; have q6 : (ji16) < (l0_1.length : Int) := od_; obtain ⟨ad6, e6, hx6_0, hx6_1⟩ := at_T91 HR0_1.out (ji16) p6 q6; obtain rfl : ad21 = ad6 := (by injection e6); have hn6_0 : ad21.block ≠ gb7 := nl_ hx6_0 GW7; have hn6_1 : ad21.block ≠ gb7 := nl_ hx6_0 GW7; replace hx6_0 := kc_ HB hx6_0; replace hx6_1 := kc_ HB hx6_1; replace hx6_0 := cf0_1_ (fr_ hn6_0) hx6_0; replace hx6_1 := cf0_1_ (fr_ hn6_0) hx6_1; (try have hy6_0 := gcf0_1_ (fr_ hn6_0) hx6_0); (try have hy6_1 := gcf0_1_ (fr_ hn6_0) hx6_1); clear hn6_0; clear hn6_1; replace p6 := eq_true p6; replace q6 := eq_true q6)))
     go_roundg k2
     case measure => have := HJ1.out; have := HK2.out; omega
     case rel => exact ⟨(wrap64 (x18_2 + 1)), sp_, H', ⟨by have := HJ1.out; have := HK2.out; omega⟩, ⟨by refine ch_ ?_; refine bf_ NB9_7 ?_; exact bf_ NB9_7 BK9.out⟩, ⟨bl_⟩⟩
/-! ### spec_MtiKnown: function 37 -/
def spec_MtiKnown.f (a0 : ByteArray) : Option (Bool) := if a0.toList = ([48, 49, 48, 48] : List UInt8) then (some true) else (if a0.toList = ([48, 50, 48, 48] : List UInt8) then (some true) else (some (a0.toList == ([48, 50, 50, 48] : List UInt8))))
theorem spec_MtiKnown.calls (a0 : ByteArray) (r : Bool) (w : World) (h : spec_MtiKnown.f a0 = some r) :
  Calls Tryz.prog 37 #[.string a0] w fun e w' => e = .returned (.bool r) ∧ Drawn0 w w' := by
 have H := h
 unfold spec_MtiKnown.f at H
 clear h
 by_cases c2 : a0.toList = ([48, 49, 48, 48] : List UInt8)
 ·rw [if_pos c2] at H
  have := et_ c2
  replace c2 := nf_ c2
  obtain rfl := si_ H
  go_enter func37, ntmps37
  go_wp2
  go_ret
  exact ⟨sp_, dr_⟩
 rw [if_neg c2] at H
 have c2b0 := ef_ c2
 have c2b1 := nt_ c2
 by_cases c3 : a0.toList = ([48, 50, 48, 48] : List UInt8)
 ·rw [if_pos c3] at H
  have := et_ c3
  replace c3 := nf_ c3
  obtain rfl := si_ H
  go_enter func37, ntmps37
  go_wp2
  go_ret
  exact ⟨sp_, dr_⟩
 rw [if_neg c3] at H
 have c3b0 := ef_ c3
 have c3b1 := nt_ c3
 obtain rfl := si_ H
 go_enter func37, ntmps37
 go_wp2
 go_ret
 exact ⟨sp_, dr_⟩
/-! ### spec_FieldOf: function 38 -/
def spec_FieldOf.l0 : Nat → Int → List (S91) → Int → Int → Option (ByteArray × Bool)
 | 0, _, _, _, _ => none
 | k + 1, x1, x9, x10, x11 => if x11 < x10 then (if 0 ≤ x11 then (if x11 < (x9.length : Int) then (if ((rd_T91 x9 x11).f0) = x1 then (some ((rd_T91 x9 x11).f1, true)) else (spec_FieldOf.l0 k x1 x9 x10 (wrap64 (x11 + 1)))) else (none)) else (none)) else (some ((⟨#[]⟩ : ByteArray), false))
def spec_FieldOf.f (k : Nat) (a0_0 : ByteArray) (l0_1 : List (S91)) (a1 : Int) : Option (ByteArray × Bool) := spec_FieldOf.l0 k a1 l0_1 (l0_1.length : Int) 0
theorem spec_FieldOf.calls (k : Nat) (a0_0 : ByteArray) (A0_1 : Option Addr) (c0_1 : Nat) (l0_1 : List (S91)) (a1 : Int) (r1 : ByteArray) (r2 : Bool) (w : World) (hr0_1 : Kd.C k91 w A0_1 l0_1.length l0_1) (hc0_1 : l0_1.length ≤ c0_1) (h : spec_FieldOf.f k a0_0 l0_1 a1 = some (r1, r2)) :
  Calls Tryz.prog 38 #[.agg #[.string a0_0, .slice A0_1 l0_1.length c0_1], .int .i64 a1] w fun e w' => e = .returned (.tuple #[.string r1, .bool r2]) ∧ Below w.heap.size w w' := by
 have hu32 := underlying32
 have hu91 := underlying91
 have HR0_1 := Aside0.mk hr0_1
 have HC0_1 := Aside0.mk hc0_1
 clear hr0_1 hc0_1
 have HB := Aside0.mk (Below.refl w.heap.size w)
 have H := h
 unfold spec_FieldOf.f at H
 clear h
 have H' := Aside0.mk H
 clear H
 go_enter func38, ntmps38
 go_wp2_with (first | ((with_reducible refine gt_ 2 ?_); refine bo_ 2 #[.string a0_0, .slice A0_1 l0_1.length c0_1] 32 ?_; intro gb4 hg w3 BK4 hb; have GW4 := gw_ (w := w) hg; replace HB := hs_ hb; clear hb hg; refine by2_ BK4 ?_; intros))
 go_loopg [11] k (fun kq v11 w' => ∃ (x11_1 : Int), v11 = .int .i64 x11_1 ∧ Aside0 (spec_FieldOf.l0 kq a1 l0_1 (l0_1.length : Int) x11_1 = some (r1, r2)) ∧ Aside0 (kq ≤ k) ∧ Aside0 (w'.heap[gb4]? = some (.cells #[.string a0_0, (.slice A0_1 l0_1.length c0_1)] 32 (0, 0))) ∧ Aside0 (Below w.heap.size w w'))
 case atStart => exact ⟨(0), sp_, H', ⟨Nat.le_refl _⟩, ⟨ch_ BK4.out⟩, ⟨bl_⟩⟩
 case round =>
  clear H'
  obtain ⟨x11_1, rfl, HA, HK1, BK4, HB⟩ := hrel
  cases gk with
  | zero => exact absurd HA.out (by simp [spec_FieldOf.l0])
  | succ k1 =>
   have H := HA.out
   clear HA
   simp only [spec_FieldOf.l0] at H
   by_cases c5 : x11_1 < (l0_1.length : Int)
   rotate_left
   ·rw [if_neg c5] at H
    replace c5 := df_ c5
    simp only [Option.some.injEq, Prod.mk.injEq] at H
    obtain ⟨rfl, rfl⟩ := H
    go_wp2
    go_ret2
    exact ⟨sq_, bl_⟩
   rw [if_pos c5] at H
   replace c5 := dt_ c5
   obtain ⟨c6, H⟩ := og_ H
   replace c6 := dt_ c6
   obtain ⟨c7, H⟩ := og_ H
   replace c7 := dt_ c7
   by_cases c8 : ((rd_T91 l0_1 x11_1).f0) = a1
   ·rw [if_pos c8] at H
    have := et_ c8
    replace c8 := nf_ c8
    simp only [Option.some.injEq, Prod.mk.injEq] at H
    obtain ⟨rfl, rfl⟩ := H
    have p2 : 0 ≤ (x11_1 : Int) := od_
    have q2 : x11_1 < (l0_1.length : Int) := od_
    obtain ⟨ad2, e2, hx2_0, hx2_1⟩ := at_T91 HR0_1.out x11_1 p2 q2
    cases e2
    replace hx2_0 := kc_ HB hx2_0
    replace hx2_1 := kc_ HB hx2_1
    replace p2 := eq_true p2
    replace q2 := eq_true q2
    go_wp2_with (first | ((with_reducible refine gt_ 7 ?_); refine bo_ 7 #[.int .i64 0, .string ⟨#[]⟩] 91 ?_; intro gb13 hg w9 BK13 hb; have GW13 := gw_ (w := w) hg; replace HB := hs_ hb; have ⟨NB4_13, NB13_4⟩ := nb_ hg BK4; replace BK4 := kb_ BK4 hb; clear hb hg; have := NB13_4.out; have := NB4_13.out; refine by2_ BK13 ?_; intros))
    go_ret2
    exact ⟨sq_, bl_⟩
   rw [if_neg c8] at H
   have c8b0 := ef_ c8
   have c8b1 := nt_ c8
   have H' := Aside0.mk H
   clear H
   have p2 : 0 ≤ (x11_1 : Int) := od_
   have q2 : x11_1 < (l0_1.length : Int) := od_
   obtain ⟨ad2, e2, hx2_0, hx2_1⟩ := at_T91 HR0_1.out x11_1 p2 q2
   cases e2
   replace hx2_0 := kc_ HB hx2_0
   replace hx2_1 := kc_ HB hx2_1
   replace p2 := eq_true p2
   replace q2 := eq_true q2
   go_wp2_with (first | ((with_reducible refine gt_ 7 ?_); refine bo_ 7 #[.int .i64 0, .string ⟨#[]⟩] 91 ?_; intro gb13 hg w12 BK13 hb; have GW13 := gw_ (w := w) hg; replace HB := hs_ hb; have ⟨NB4_13, NB13_4⟩ := nb_ hg BK4; replace BK4 := kb_ BK4 hb; clear hb hg; have := NB13_4.out; have := NB4_13.out; refine by2_ BK13 ?_; intros))
   go_roundg k1
   case measure => have := HK1.out; omega
   case rel => exact ⟨(wrap64 (x11_1 + 1)), sp_, H', ⟨by have := HK1.out; omega⟩, ⟨by refine ch_ ?_; refine bf_ NB4_13 ?_; exact bf_ NB4_13 BK4.out⟩, ⟨bl_⟩⟩
/-! ### spec_l11Op: function 80 -/
def spec_l11Op.f (a0 : Int) : Option (Bool) := (spec_l01In.f a0 1 8).bind fun t1 => (some t1)
theorem spec_l11Op.calls (a0 : Int) (r : Bool) (w : World) (h : spec_l11Op.f a0 = some r) :
  Calls Tryz.prog 80 #[.int .i64 a0] w fun e w' => e = .returned (.bool r) ∧ Drawn0 w w' := by
 have H := h
 unfold spec_l11Op.f at H
 clear h
 obtain ⟨t1, A2, H⟩ := ob_ H
 obtain rfl := si_ H
 go_enter func80, ntmps80
 go_wp2_with (first | ((with_reducible refine gd_ 67 4 func67 #[.int .i64 a0, .int .i64 1, .int .i64 8] (spec_l01In.calls a0 1 8 t1 _ A2.out) fun nd => ?_)))
 go_ret
 exact ⟨sp_, dr_⟩
/-! ### spec_l11Mtis: function 109 -/
def spec_l11Mtis.f  : Option (List ByteArray) := some (([(⟨#[]⟩ : ByteArray), (⟨#[48, 49, 48, 48]⟩ : ByteArray), (⟨#[48, 49, 48, 48]⟩ : ByteArray), (⟨#[48, 50, 50, 48]⟩ : ByteArray), (⟨#[48, 50, 50, 48]⟩ : ByteArray), (⟨#[48, 50, 50, 48]⟩ : ByteArray), (⟨#[48, 50, 48, 48]⟩ : ByteArray), (⟨#[48, 49, 48, 48]⟩ : ByteArray), (⟨#[48, 50, 48, 48]⟩ : ByteArray)] : List ByteArray))
theorem spec_l11Mtis.calls  (r : List ByteArray) (w : World) (h : spec_l11Mtis.f  = some r) :
  Calls Tryz.prog 109 #[] w fun e w' => ∃ v0_ : Value, e = .returned (v0_) ∧ Kd.R Kd.string 9 w' w.heap.size (fun _ => True) v0_ r ∧ Below w.heap.size w w' := by
 have HB := Aside0.mk (Below.refl w.heap.size w)
 have H := h
 unfold spec_l11Mtis.f at H
 clear h
 obtain ⟨y3, hy3⟩ : ∃ y_ : List ByteArray, y_ = (([(⟨#[]⟩ : ByteArray), (⟨#[48, 49, 48, 48]⟩ : ByteArray), (⟨#[48, 49, 48, 48]⟩ : ByteArray), (⟨#[48, 50, 50, 48]⟩ : ByteArray), (⟨#[48, 50, 50, 48]⟩ : ByteArray), (⟨#[48, 50, 50, 48]⟩ : ByteArray), (⟨#[48, 50, 48, 48]⟩ : ByteArray), (⟨#[48, 49, 48, 48]⟩ : ByteArray), (⟨#[48, 50, 48, 48]⟩ : ByteArray)] : List ByteArray)) := ⟨_, rfl⟩
 replace H : (some y3) = some r := hh_ hy3 H
 have Ny3 := Aside0.mk hy3
 clear hy3
 obtain rfl := si_ H
 go_enter func109, ntmps109
 go_wp2_with (first | ((with_reducible refine gate_dst (N := 1) rfl ?_); refine Kd.R_lit Kd.string _ 9 ?hg (N := 1) ?hd (xs := ([(⟨#[]⟩ : ByteArray), (⟨#[48, 49, 48, 48]⟩ : ByteArray), (⟨#[48, 49, 48, 48]⟩ : ByteArray), (⟨#[48, 50, 50, 48]⟩ : ByteArray), (⟨#[48, 50, 50, 48]⟩ : ByteArray), (⟨#[48, 50, 50, 48]⟩ : ByteArray), (⟨#[48, 50, 48, 48]⟩ : ByteArray), (⟨#[48, 49, 48, 48]⟩ : ByteArray), (⟨#[48, 50, 48, 48]⟩ : ByteArray)] : List ByteArray)) (inner := [.string ⟨#[]⟩, .string (⟨#[48, 49, 48, 48]⟩ : ByteArray), .string (⟨#[48, 49, 48, 48]⟩ : ByteArray), .string (⟨#[48, 50, 50, 48]⟩ : ByteArray), .string (⟨#[48, 50, 50, 48]⟩ : ByteArray), .string (⟨#[48, 50, 50, 48]⟩ : ByteArray), .string (⟨#[48, 50, 48, 48]⟩ : ByteArray), .string (⟨#[48, 49, 48, 48]⟩ : ByteArray), .string (⟨#[48, 50, 48, 48]⟩ : ByteArray)]) (ok := fun _ => True) (okp := fun _ => True) ?hr ?hp (fun _ hk => hk) trivial (Below.refl _ _) (Nat.le_refl _) (by simp) ?_; (case hd => rfl); (case hg => rfl); (case hr => first | (go_simp; done) | (go_simp; rfl)); (case hp => exact (Reps.one (show Kd.M Kd.string _ _ _ (⟨#[]⟩ : ByteArray) [.string ⟨#[]⟩] from rfl) (Reps.one (show Kd.M Kd.string _ _ _ (⟨#[48, 49, 48, 48]⟩ : ByteArray) [.string (⟨#[48, 49, 48, 48]⟩ : ByteArray)] from rfl) (Reps.one (show Kd.M Kd.string _ _ _ (⟨#[48, 49, 48, 48]⟩ : ByteArray) [.string (⟨#[48, 49, 48, 48]⟩ : ByteArray)] from rfl) (Reps.one (show Kd.M Kd.string _ _ _ (⟨#[48, 50, 50, 48]⟩ : ByteArray) [.string (⟨#[48, 50, 50, 48]⟩ : ByteArray)] from rfl) (Reps.one (show Kd.M Kd.string _ _ _ (⟨#[48, 50, 50, 48]⟩ : ByteArray) [.string (⟨#[48, 50, 50, 48]⟩ : ByteArray)] from rfl) (Reps.one (show Kd.M Kd.string _ _ _ (⟨#[48, 50, 50, 48]⟩ : ByteArray) [.string (⟨#[48, 50, 50, 48]⟩ : ByteArray)] from rfl) (Reps.one (show Kd.M Kd.string _ _ _ (⟨#[48, 50, 48, 48]⟩ : ByteArray) [.string (⟨#[48, 50, 48, 48]⟩ : ByteArray)] from rfl) (Reps.one (show Kd.M Kd.string _ _ _ (⟨#[48, 49, 48, 48]⟩ : ByteArray) [.string (⟨#[48, 49, 48, 48]⟩ : ByteArray)] from rfl) (Reps.one (show Kd.M Kd.string _ _ _ (⟨#[48, 50, 48, 48]⟩ : ByteArray) [.string (⟨#[48, 50, 48, 48]⟩ : ByteArray)] from rfl) (Reps.none _ _))))))))))); intro v5 w1 ho2 hb hg_ hnew_; clear hg_ hnew_; (first | rw [← Ny3.out] at ho2 | (simp only [Int.reduceToNat] at ho2; rw [← Ny3.out] at ho2)); have HO4 := Aside0.mk (Kd.R_lower ho2 (below_size bl_)); replace HB := hs_ hb; clear hb ho2))
 go_ret
 exact ⟨_, sq_, ra_ HO4, bl_⟩
/-! ### spec_OpMti: function 78 -/
def spec_OpMti.f (a0 : Int) : Option (ByteArray) := (spec_l11Op.f a0).bind fun t10 => (if t10 = true then ((spec_l11Mtis.f).bind fun t9 => (if 0 ≤ a0 then (if a0 < (t9.length : Int) then (some (rdOf ByteArray.empty t9 a0)) else (none)) else (none))) else (some (⟨#[]⟩ : ByteArray)))
theorem spec_OpMti.calls (a0 : Int) (r : ByteArray) (w : World) (h : spec_OpMti.f a0 = some r) :
  Calls Tryz.prog 78 #[.int .i64 a0] w fun e w' => e = .returned (.string r) ∧ Below w.heap.size w w' := by
 have HB := Aside0.mk (Below.refl w.heap.size w)
 have H := h
 unfold spec_OpMti.f at H
 clear h
 obtain ⟨t10, A2, H⟩ := ob_ H
 by_cases c3 : t10 = true
 ·subst c3
  replace H := ip_ H
  obtain ⟨t9, A4, H⟩ := ob_ H
  by_cases c5 : 0 ≤ a0
  ·rw [if_pos c5] at H
   replace c5 := dt_ c5
   by_cases c6 : a0 < (t9.length : Int)
   ·rw [if_pos c6] at H
    replace c6 := dt_ c6
    obtain rfl := si_ H
    go_enter func78, ntmps78
    go_wp2_with (first | ((with_reducible refine gd_ 80 4 func80 #[.int .i64 a0] (spec_l11Op.calls a0 true _ A2.out) fun nd => ?_)) | ((with_reducible refine gc_ 109 6 func109 #[] ?_); (with_reducible refine (spec_l11Mtis.calls  t9 _ A4.out).mono ?_); rintro e w7 ⟨v12, rfl, ho0, hb⟩; refine ⟨_, rfl, ?_⟩; have HO11 := Aside0.mk (Kd.R_lower ho0 (below_size bl_)); replace HB := hs_ hb; clear hb; (try clear ho0); obtain ⟨Ao8, co8, eo8⟩ := Kd.R_slice HO11.out; subst eo8; have p1 : 0 ≤ (a0 : Int) := od_; have q1 : a0 < (t9.length : Int) := od_; obtain ⟨ad1, e1, hx1_0⟩ := Kd.at_string (Kd.R_reads' HO11.out).2.2 a0 p1 q1; cases e1; replace p1 := eq_true p1; replace q1 := eq_true q1))
    go_ret
    exact ⟨sq_, bl_⟩
   ·rw [if_neg c6] at H
    exact absurd H (by simp)
  ·rw [if_neg c5] at H
   exact absurd H (by simp)
 ·replace c3 := gf_ c3
  subst c3
  replace H := in_ H
  obtain rfl := si_ H
  go_enter func78, ntmps78
  go_wp2_with (first | ((with_reducible refine gd_ 80 4 func80 #[.int .i64 a0] (spec_l11Op.calls a0 false _ A2.out) fun nd => ?_)))
  go_ret
  exact ⟨sq_, bl_⟩
/-! ### spec_l11Codes: function 110 -/
def spec_l11Codes.f  : Option (List ByteArray) := some (([(⟨#[]⟩ : ByteArray), (⟨#[48, 48]⟩ : ByteArray), (⟨#[48, 50]⟩ : ByteArray), (⟨#[48, 49]⟩ : ByteArray), (⟨#[48, 48]⟩ : ByteArray), (⟨#[50, 48]⟩ : ByteArray), (⟨#[52, 48]⟩ : ByteArray), (⟨#[51, 49]⟩ : ByteArray), (⟨#[57, 48]⟩ : ByteArray)] : List ByteArray))
theorem spec_l11Codes.calls  (r : List ByteArray) (w : World) (h : spec_l11Codes.f  = some r) :
  Calls Tryz.prog 110 #[] w fun e w' => ∃ v0_ : Value, e = .returned (v0_) ∧ Kd.R Kd.string 9 w' w.heap.size (fun _ => True) v0_ r ∧ Below w.heap.size w w' := by
 have HB := Aside0.mk (Below.refl w.heap.size w)
 have H := h
 unfold spec_l11Codes.f at H
 clear h
 obtain ⟨y3, hy3⟩ : ∃ y_ : List ByteArray, y_ = (([(⟨#[]⟩ : ByteArray), (⟨#[48, 48]⟩ : ByteArray), (⟨#[48, 50]⟩ : ByteArray), (⟨#[48, 49]⟩ : ByteArray), (⟨#[48, 48]⟩ : ByteArray), (⟨#[50, 48]⟩ : ByteArray), (⟨#[52, 48]⟩ : ByteArray), (⟨#[51, 49]⟩ : ByteArray), (⟨#[57, 48]⟩ : ByteArray)] : List ByteArray)) := ⟨_, rfl⟩
 replace H : (some y3) = some r := hh_ hy3 H
 have Ny3 := Aside0.mk hy3
 clear hy3
 obtain rfl := si_ H
 go_enter func110, ntmps110
 go_wp2_with (first | ((with_reducible refine gate_dst (N := 1) rfl ?_); refine Kd.R_lit Kd.string _ 9 ?hg (N := 1) ?hd (xs := ([(⟨#[]⟩ : ByteArray), (⟨#[48, 48]⟩ : ByteArray), (⟨#[48, 50]⟩ : ByteArray), (⟨#[48, 49]⟩ : ByteArray), (⟨#[48, 48]⟩ : ByteArray), (⟨#[50, 48]⟩ : ByteArray), (⟨#[52, 48]⟩ : ByteArray), (⟨#[51, 49]⟩ : ByteArray), (⟨#[57, 48]⟩ : ByteArray)] : List ByteArray)) (inner := [.string ⟨#[]⟩, .string (⟨#[48, 48]⟩ : ByteArray), .string (⟨#[48, 50]⟩ : ByteArray), .string (⟨#[48, 49]⟩ : ByteArray), .string (⟨#[48, 48]⟩ : ByteArray), .string (⟨#[50, 48]⟩ : ByteArray), .string (⟨#[52, 48]⟩ : ByteArray), .string (⟨#[51, 49]⟩ : ByteArray), .string (⟨#[57, 48]⟩ : ByteArray)]) (ok := fun _ => True) (okp := fun _ => True) ?hr ?hp (fun _ hk => hk) trivial (Below.refl _ _) (Nat.le_refl _) (by simp) ?_; (case hd => rfl); (case hg => rfl); (case hr => first | (go_simp; done) | (go_simp; rfl)); (case hp => exact (Reps.one (show Kd.M Kd.string _ _ _ (⟨#[]⟩ : ByteArray) [.string ⟨#[]⟩] from rfl) (Reps.one (show Kd.M Kd.string _ _ _ (⟨#[48, 48]⟩ : ByteArray) [.string (⟨#[48, 48]⟩ : ByteArray)] from rfl) (Reps.one (show Kd.M Kd.string _ _ _ (⟨#[48, 50]⟩ : ByteArray) [.string (⟨#[48, 50]⟩ : ByteArray)] from rfl) (Reps.one (show Kd.M Kd.string _ _ _ (⟨#[48, 49]⟩ : ByteArray) [.string (⟨#[48, 49]⟩ : ByteArray)] from rfl) (Reps.one (show Kd.M Kd.string _ _ _ (⟨#[48, 48]⟩ : ByteArray) [.string (⟨#[48, 48]⟩ : ByteArray)] from rfl) (Reps.one (show Kd.M Kd.string _ _ _ (⟨#[50, 48]⟩ : ByteArray) [.string (⟨#[50, 48]⟩ : ByteArray)] from rfl) (Reps.one (show Kd.M Kd.string _ _ _ (⟨#[52, 48]⟩ : ByteArray) [.string (⟨#[52, 48]⟩ : ByteArray)] from rfl) (Reps.one (show Kd.M Kd.string _ _ _ (⟨#[51, 49]⟩ : ByteArray) [.string (⟨#[51, 49]⟩ : ByteArray)] from rfl) (Reps.one (show Kd.M Kd.string _ _ _ (⟨#[57, 48]⟩ : ByteArray) [.string (⟨#[57, 48]⟩ : ByteArray)] from rfl) (Reps.none _ _))))))))))); intro v5 w1 ho2 hb hg_ hnew_; clear hg_ hnew_; (first | rw [← Ny3.out] at ho2 | (simp only [Int.reduceToNat] at ho2; rw [← Ny3.out] at ho2)); have HO4 := Aside0.mk (Kd.R_lower ho2 (below_size bl_)); replace HB := hs_ hb; clear hb ho2))
 go_ret
 exact ⟨_, sq_, ra_ HO4, bl_⟩
/-! ### spec_OpCode: function 79 -/
def spec_OpCode.f (a0 : Int) : Option (ByteArray) := (spec_l11Op.f a0).bind fun t10 => (if t10 = true then ((spec_l11Codes.f).bind fun t9 => (if 0 ≤ a0 then (if a0 < (t9.length : Int) then (some (rdOf ByteArray.empty t9 a0)) else (none)) else (none))) else (some (⟨#[]⟩ : ByteArray)))
theorem spec_OpCode.calls (a0 : Int) (r : ByteArray) (w : World) (h : spec_OpCode.f a0 = some r) :
  Calls Tryz.prog 79 #[.int .i64 a0] w fun e w' => e = .returned (.string r) ∧ Below w.heap.size w w' := by
 have HB := Aside0.mk (Below.refl w.heap.size w)
 have H := h
 unfold spec_OpCode.f at H
 clear h
 obtain ⟨t10, A2, H⟩ := ob_ H
 by_cases c3 : t10 = true
 ·subst c3
  replace H := ip_ H
  obtain ⟨t9, A4, H⟩ := ob_ H
  by_cases c5 : 0 ≤ a0
  ·rw [if_pos c5] at H
   replace c5 := dt_ c5
   by_cases c6 : a0 < (t9.length : Int)
   ·rw [if_pos c6] at H
    replace c6 := dt_ c6
    obtain rfl := si_ H
    go_enter func79, ntmps79
    go_wp2_with (first | ((with_reducible refine gd_ 80 4 func80 #[.int .i64 a0] (spec_l11Op.calls a0 true _ A2.out) fun nd => ?_)) | ((with_reducible refine gc_ 110 6 func110 #[] ?_); (with_reducible refine (spec_l11Codes.calls  t9 _ A4.out).mono ?_); rintro e w7 ⟨v12, rfl, ho0, hb⟩; refine ⟨_, rfl, ?_⟩; have HO11 := Aside0.mk (Kd.R_lower ho0 (below_size bl_)); replace HB := hs_ hb; clear hb; (try clear ho0); obtain ⟨Ao8, co8, eo8⟩ := Kd.R_slice HO11.out; subst eo8; have p1 : 0 ≤ (a0 : Int) := od_; have q1 : a0 < (t9.length : Int) := od_; obtain ⟨ad1, e1, hx1_0⟩ := Kd.at_string (Kd.R_reads' HO11.out).2.2 a0 p1 q1; cases e1; replace p1 := eq_true p1; replace q1 := eq_true q1))
    go_ret
    exact ⟨sq_, bl_⟩
   ·rw [if_neg c6] at H
    exact absurd H (by simp)
  ·rw [if_neg c5] at H
   exact absurd H (by simp)
 ·replace c3 := gf_ c3
  subst c3
  replace H := in_ H
  obtain rfl := si_ H
  go_enter func79, ntmps79
  go_wp2_with (first | ((with_reducible refine gd_ 80 4 func80 #[.int .i64 a0] (spec_l11Op.calls a0 false _ A2.out) fun nd => ?_)))
  go_ret
  exact ⟨sq_, bl_⟩
/-! ### spec_l11Which: function 39 -/
def spec_l11Which.l0 : Nat → ByteArray → ByteArray → Int → Option (Int)
 | 0, _, _, _ => none
 | k + 1, x0, x1, x5 => if x5 ≤ 8 then ((spec_OpMti.f x5).bind fun t2 => (if t2.toList = x0.toList then ((spec_OpCode.f x5).bind fun t18 => (if 0 ≤ 2 then (if 2 ≤ (x1.size : Int) then (if t18.toList = (x1.extract 0 2).toList then (some x5) else (spec_l11Which.l0 k x0 x1 (wrap64 (x5 + 1)))) else (none)) else (none))) else (spec_l11Which.l0 k x0 x1 (wrap64 (x5 + 1))))) else (some 0)
def spec_l11Which.f (k : Nat) (a0 : ByteArray) (a1 : ByteArray) : Option (Int) := spec_l11Which.l0 k a0 a1 1
def spec_l11Which.T4 : Bool × List (List Nat × List Nat) := (true, [([], []), ([0], [0]), ([], []), ([1, 2], [1, 2]), ([3, 1], [3]), ([4], [4]), ([5, 4, 4], [4, 5]), ([4], [4]), ([7, 4], [4, 7]), ([6, 8, 4], [4, 6, 8]), ([4, 9], [4, 9])])
def spec_l11Which.B4 : List Nat := [0, 1, 0, 7, 15, 31, 63, 31, 159, 511, 1023]
theorem spec_l11Which.tab4 : rtab .any (opsOf Tryz.f39 4) = spec_l11Which.T4 := by kernel_rfl
theorem spec_l11Which.bits4 : waitsOk spec_l11Which.T4.2 spec_l11Which.B4 = true := by kernel_rfl
theorem spec_l11Which.calls (k : Nat) (a0 : ByteArray) (a1 : ByteArray) (r : Int) (w : World) (h : spec_l11Which.f k a0 a1 = some r) :
  Calls Tryz.prog 39 #[.string a0, .string a1] w fun e w' => e = .returned (.int .i64 r) ∧ Below w.heap.size w w' := by
 have HB := Aside0.mk (Below.refl w.heap.size w)
 have H := h
 unfold spec_l11Which.f at H
 clear h
 have H' := Aside0.mk H
 clear H
 go_enter func39, ntmps39
 go_wp2
 go_loopg [5] k (fun kq v5 w' => ∃ (x5_1 : Int), v5 = .int .i64 x5_1 ∧ Aside0 (spec_l11Which.l0 kq a0 a1 x5_1 = some r) ∧ Aside0 (kq ≤ k) ∧ Aside0 (Below w.heap.size w w'))
 case atStart => exact ⟨(1), sp_, H', ⟨Nat.le_refl _⟩, ⟨bl_⟩⟩
 case round =>
  clear H'
  obtain ⟨x5_1, rfl, HA, HK1, HB⟩ := hrel
  cases gk with
  | zero => exact absurd HA.out (by simp [spec_l11Which.l0])
  | succ k1 =>
   have H := HA.out
   clear HA
   simp only [spec_l11Which.l0] at H
   by_cases c3 : x5_1 ≤ 8
   rotate_left
   ·rw [if_neg c3] at H
    replace c3 := df_ c3
    obtain rfl := si_ H
    go_wp2
    go_ret
    exact ⟨sq_, bl_⟩
   rw [if_pos c3] at H
   replace c3 := dt_ c3
   obtain ⟨t2, A4, H⟩ := ob_ H
   by_cases c5 : t2.toList = a0.toList
   rotate_left
   ·rw [if_neg c5] at H
    have c5b0 := ef_ c5
    have c5b1 := nt_ c5
    have H' := Aside0.mk H
    clear H
    try go_wp2
    have n0_ := Aside0.mk (below_drew1 HB.out)
    clear HB
    have HB := n0_
    clear n0_
    refine start_ (n := 11) (S := fun w' => True) (ds := []) tb11_0 (by kernel_rfl) rfl rfl trivial (fun hHeld => ?_); refine with_tabW spec_l11Which.tab4 spec_l11Which.bits4 (fun HT_ HW_ => ?_)
    generalize wr.drew = w16 at HB hHeld ⊢
    refine pl_ HT_ 0 10 tb11_1 ?_
    refine pl_ HT_ 2 12 tb11_5 ?_
    refine one_ (i := 1) (N := some 11) tb11_7 rfl rfl (one_of HT_.out (by kernel_rfl)) (by decide) (fun K hK => ?_)
    refine goes_ func78 (by kernel_rfl) rfl #[.int .i64 x5_1] (by rfl) rfl rfl gl_ ?_
    with_reducible refine (spec_OpMti.calls x5_1 t2 _ A4.out).mono ?_
    rintro e w17 ⟨rfl, hb⟩
    refine ⟨_, rfl, ?_⟩
    have n0_ := Aside0.mk (below_step bl_ hb)
    clear HB
    have HB := n0_
    clear n0_
    (try clear hb)
    (try clear hb2)
    (try clear hk)
    (try clear hi)
    refine hK.out _ _ trivial (fun hHeld => ?_)
    clear hK K
    refine norm_ (a' := ?_) ?_ ?_
    rotate_left
    ·show Act.put _ (some 11) _ = _
     simp only [Act.put, q_]
     rfl
    refine pl_ HT_ 3 13 tb11_f ?_
    refine pl_ HT_ 4 14 tb11_1f ?_
    refine pr_ HT_ 5 15 tb11_3f ?_
    refine pr_ HT_ 6 16 tb11_7f ?_
    refine pr_ HT_ 7 17 tb11_ff ?_
    refine pr_ HT_ 8 18 tb11_1ff ?_
    refine pr_ HT_ 9 19 tb11_3ff ?_
    refine pl_ HT_ 10 20 tb11_7ff ?_
    refine done_ (done_of HT_.out (by kernel_rfl)) ?_
    try go_wp2
    go_roundg k1
    case measure => have := HK1.out; omega
    case rel => exact ⟨(wrap64 (x5_1 + 1)), sp_, H', ⟨by have := HK1.out; omega⟩, ⟨bl_⟩⟩
   rw [if_pos c5] at H
   have := et_ c5
   replace c5 := nf_ c5
   obtain ⟨t18, A6, H⟩ := ob_ H
   obtain ⟨c7, H⟩ := og_ H
   have := eq_true c7
   replace c7 := dt_ c7
   obtain ⟨c8, H⟩ := og_ H
   have := eq_true c8
   replace c8 := dt_ c8
   by_cases c9 : t18.toList = (a1.extract 0 2).toList
   ·rw [if_pos c9] at H
    have := et_ c9
    replace c9 := nf_ c9
    obtain rfl := si_ H
    try go_wp2
    have n0_ := Aside0.mk (below_drew1 HB.out)
    clear HB
    have HB := n0_
    clear n0_
    refine start_ (n := 11) (S := fun w' => True) (ds := []) tb11_0 (by kernel_rfl) rfl rfl trivial (fun hHeld => ?_); refine with_tabW spec_l11Which.tab4 spec_l11Which.bits4 (fun HT_ HW_ => ?_)
    generalize wr.drew = w10 at HB hHeld ⊢
    refine pl_ HT_ 0 10 tb11_1 ?_
    refine pl_ HT_ 2 12 tb11_5 ?_
    refine one_ (i := 1) (N := some 11) tb11_7 rfl rfl (one_of HT_.out (by kernel_rfl)) (by decide) (fun K hK => ?_)
    refine goes_ func78 (by kernel_rfl) rfl #[.int .i64 x5_1] (by rfl) rfl rfl gl_ ?_
    with_reducible refine (spec_OpMti.calls x5_1 t2 _ A4.out).mono ?_
    rintro e w11 ⟨rfl, hb⟩
    refine ⟨_, rfl, ?_⟩
    have n0_ := Aside0.mk (below_step bl_ hb)
    clear HB
    have HB := n0_
    clear n0_
    (try clear hb)
    (try clear hb2)
    (try clear hk)
    (try clear hi)
    refine hK.out _ _ trivial (fun hHeld => ?_)
    clear hK K
    refine norm_ (a' := ?_) ?_ ?_
    rotate_left
    ·show Act.put _ (some 11) _ = _
     simp only [Act.put, q_]
     rfl
    refine pl_ HT_ 3 13 tb11_f ?_
    refine pl_ HT_ 4 14 tb11_1f ?_
    refine pl_ HT_ 5 15 tb11_3f ?_
    refine pl_ HT_ 7 17 tb11_bf ?_
    refine pl_ HT_ 8 18 tb11_1bf ?_
    refine one_ (i := 6) (N := some 16) tb11_1ff rfl rfl (one_of HT_.out (by kernel_rfl)) (by decide) (fun K hK => ?_)
    refine goes_ func79 (by kernel_rfl) rfl #[.int .i64 x5_1] (by rfl) rfl rfl gl_ ?_
    with_reducible refine (spec_OpCode.calls x5_1 t18 _ A6.out).mono ?_
    rintro e w12 ⟨rfl, hb⟩
    refine ⟨_, rfl, ?_⟩
    have n0_ := Aside0.mk (below_step bl_ hb)
    clear HB
    have HB := n0_
    clear n0_
    (try clear hb)
    (try clear hb2)
    (try clear hk)
    (try clear hi)
    refine hK.out _ _ trivial (fun hHeld => ?_)
    clear hK K
    refine norm_ (a' := ?_) ?_ ?_
    rotate_left
    ·show Act.put _ (some 16) _ = _
     simp only [Act.put, q_]
     rfl
    refine pl_ HT_ 9 19 tb11_3ff ?_
    refine pl_ HT_ 10 20 tb11_7ff ?_
    refine done_ (done_of HT_.out (by kernel_rfl)) ?_
    try go_wp2
    go_ret
    exact ⟨sq_, bl_⟩
   rw [if_neg c9] at H
   have c9b0 := ef_ c9
   have c9b1 := nt_ c9
   have H' := Aside0.mk H
   clear H
   try go_wp2
   have n0_ := Aside0.mk (below_drew1 HB.out)
   clear HB
   have HB := n0_
   clear n0_
   refine start_ (n := 11) (S := fun w' => True) (ds := []) tb11_0 (by kernel_rfl) rfl rfl trivial (fun hHeld => ?_); refine with_tabW spec_l11Which.tab4 spec_l11Which.bits4 (fun HT_ HW_ => ?_)
   generalize wr.drew = w13 at HB hHeld ⊢
   refine pl_ HT_ 0 10 tb11_1 ?_
   refine pl_ HT_ 2 12 tb11_5 ?_
   refine one_ (i := 1) (N := some 11) tb11_7 rfl rfl (one_of HT_.out (by kernel_rfl)) (by decide) (fun K hK => ?_)
   refine goes_ func78 (by kernel_rfl) rfl #[.int .i64 x5_1] (by rfl) rfl rfl gl_ ?_
   with_reducible refine (spec_OpMti.calls x5_1 t2 _ A4.out).mono ?_
   rintro e w14 ⟨rfl, hb⟩
   refine ⟨_, rfl, ?_⟩
   have n0_ := Aside0.mk (below_step bl_ hb)
   clear HB
   have HB := n0_
   clear n0_
   (try clear hb)
   (try clear hb2)
   (try clear hk)
   (try clear hi)
   refine hK.out _ _ trivial (fun hHeld => ?_)
   clear hK K
   refine norm_ (a' := ?_) ?_ ?_
   rotate_left
   ·show Act.put _ (some 11) _ = _
    simp only [Act.put, q_]
    rfl
   refine pl_ HT_ 3 13 tb11_f ?_
   refine pl_ HT_ 4 14 tb11_1f ?_
   refine pl_ HT_ 5 15 tb11_3f ?_
   refine pl_ HT_ 7 17 tb11_bf ?_
   refine pl_ HT_ 8 18 tb11_1bf ?_
   refine one_ (i := 6) (N := some 16) tb11_1ff rfl rfl (one_of HT_.out (by kernel_rfl)) (by decide) (fun K hK => ?_)
   refine goes_ func79 (by kernel_rfl) rfl #[.int .i64 x5_1] (by rfl) rfl rfl gl_ ?_
   with_reducible refine (spec_OpCode.calls x5_1 t18 _ A6.out).mono ?_
   rintro e w15 ⟨rfl, hb⟩
   refine ⟨_, rfl, ?_⟩
   have n0_ := Aside0.mk (below_step bl_ hb)
   clear HB
   have HB := n0_
   clear n0_
   (try clear hb)
   (try clear hb2)
   (try clear hk)
   (try clear hi)
   refine hK.out _ _ trivial (fun hHeld => ?_)
   clear hK K
   refine norm_ (a' := ?_) ?_ ?_
   rotate_left
   ·show Act.put _ (some 16) _ = _
    simp only [Act.put, q_]
    rfl
   refine pl_ HT_ 9 19 tb11_3ff ?_
   refine pl_ HT_ 10 20 tb11_7ff ?_
   refine done_ (done_of HT_.out (by kernel_rfl)) ?_
   try go_wp2
   go_roundg k1
   case measure => have := HK1.out; omega
   case rel => exact ⟨(wrap64 (x5_1 + 1)), sp_, H', ⟨by have := HK1.out; omega⟩, ⟨bl_⟩⟩
/-! ### spec_l11Hold: function 40 -/
def spec_l11Hold.f (a0 : Int) : Option (Bool) := (spec_l11Op.f a0).bind fun t1 => (if t1 = true then (some (decide (a0 < 7))) else (some false))
theorem spec_l11Hold.calls (a0 : Int) (r : Bool) (w : World) (h : spec_l11Hold.f a0 = some r) :
  Calls Tryz.prog 40 #[.int .i64 a0] w fun e w' => e = .returned (.bool r) ∧ Drawn0 w w' := by
 have H := h
 unfold spec_l11Hold.f at H
 clear h
 obtain ⟨t1, A2, H⟩ := ob_ H
 by_cases c3 : t1 = true
 ·subst c3
  replace H := ip_ H
  obtain rfl := si_ H
  go_enter func40, ntmps40
  go_wp2_with (first | ((with_reducible refine gd_ 80 4 func80 #[.int .i64 a0] (spec_l11Op.calls a0 true _ A2.out) fun nd => ?_)))
  go_ret
  exact ⟨sp_, dr_⟩
 replace c3 := gf_ c3
 subst c3
 replace H := in_ H
 obtain rfl := si_ H
 go_enter func40, ntmps40
 go_wp2_with (first | ((with_reducible refine gd_ 80 4 func80 #[.int .i64 a0] (spec_l11Op.calls a0 false _ A2.out) fun nd => ?_)))
 go_ret
 exact ⟨sp_, dr_⟩
/-! ### spec_FieldBare: function 41 -/
def spec_FieldBare.l0 : Nat → ByteArray → Int → Option (ByteArray)
 | 0, _, _ => none
 | k + 1, x0, x3 => if x3 > 0 then (if 0 ≤ (wrap64 (x3 - 1)) then (if (wrap64 (x3 - 1)) < (x0.size : Int) then (if (bt x0 (wrap64 (x3 - 1))) = 32 then (spec_FieldBare.l0 k x0 (wrap64 (x3 - 1))) else (if 0 ≤ x3 then (if x3 ≤ (x0.size : Int) then (some (x0.extract 0 (x3 : Int).toNat)) else (none)) else (none))) else (none)) else (none)) else (if 0 ≤ x3 then (if x3 ≤ (x0.size : Int) then (some (x0.extract 0 (x3 : Int).toNat)) else (none)) else (none))
def spec_FieldBare.f (k : Nat) (a0 : ByteArray) : Option (ByteArray) := spec_FieldBare.l0 k a0 (a0.size : Int)
theorem spec_FieldBare.calls (k : Nat) (a0 : ByteArray) (r : ByteArray) (w : World) (h : spec_FieldBare.f k a0 = some r) :
  Calls Tryz.prog 41 #[.string a0] w fun e w' => e = .returned (.string r) ∧ Drawn0 w w' := by
 have H := h
 unfold spec_FieldBare.f at H
 clear h
 have H' := Aside0.mk H
 clear H
 go_enter func41, ntmps41
 go_wp2
 go_loopg [3] k (fun kq v3 w' => ∃ (x3_1 : Int), v3 = .int .i64 x3_1 ∧ Aside0 (spec_FieldBare.l0 kq a0 x3_1 = some r) ∧ Aside0 (kq ≤ k) ∧ Drawn0 w w')
 case atStart => exact ⟨((a0.size : Int)), sp_, H', ⟨Nat.le_refl _⟩, dr_⟩
 case round =>
  clear H'
  obtain ⟨x3_1, rfl, HA, HK1, ⟨m1, rfl⟩⟩ := hrel
  cases gk with
  | zero => exact absurd HA.out (by simp [spec_FieldBare.l0])
  | succ k1 =>
   have H := HA.out
   clear HA
   simp only [spec_FieldBare.l0] at H
   by_cases c2 : x3_1 > 0
   rotate_left
   ·rw [if_neg c2] at H
    replace c2 := df_ c2
    by_cases c10 : 0 ≤ x3_1
    ·rw [if_pos c10] at H
     have := eq_true c10
     replace c10 := dt_ c10
     by_cases c11 : x3_1 ≤ (a0.size : Int)
     ·rw [if_pos c11] at H
      have := eq_true c11
      replace c11 := dt_ c11
      obtain rfl := si_ H
      go_wp2
      go_ret
      exact ⟨sp_, dr_⟩
     ·rw [if_neg c11] at H
      exact absurd H (by simp)
    ·rw [if_neg c10] at H
     exact absurd H (by simp)
   rw [if_pos c2] at H
   replace c2 := dt_ c2
   obtain ⟨ji3, hji3⟩ : ∃ j_ : Int, (wrap64 (x3_1 - 1)) = j_ := ⟨_, rfl⟩
   replace H : (if 0 ≤ (ji3) then (if (ji3) < (a0.size : Int) then (if (bt a0 (ji3)) = 32 then (spec_FieldBare.l0 k1 a0 ji3) else (if 0 ≤ x3_1 then (if x3_1 ≤ (a0.size : Int) then (some (a0.extract 0 (x3_1 : Int).toNat)) else (none)) else (none))) else (none)) else (none)) = some r := by first | (rw [hji3] at H; exact H) | (simp only [hji3] at H ⊢; exact H)
   have hji3w : (IntKind.i64.wrap (x3_1 - 1)) = ji3 := (i64_w _).trans hji3
   obtain ⟨c4, H⟩ := og_ H
   replace c4 := dt_ c4
   obtain ⟨c5, H⟩ := og_ H
   replace c5 := dt_ c5
   by_cases c7 : (bt a0 (ji3)) = 32
   ·rw [if_pos c7] at H
    have := et_ c7
    replace c7 := nf_ c7
    have H' := Aside0.mk H
    clear H
    have p6 : 0 ≤ ((ji3) : Int) := od_
    have q6 : (ji3) < (a0.size : Int) := od_
    have hx6 := bt_at a0 (ji3)
    replace p6 := eq_true p6
    replace q6 := eq_true q6
    go_wp2
    go_roundg k1
    case measure => have := HK1.out; omega
    case rel => exact ⟨(ji3), (by first | rfl | (simp; done) | (simp only [← hji3] <;> (first | rfl | (simp; done) | (simp [my_isEmpty, my_w256, Go.Proofs.YtohfefkjcnbejaaGreatDoorW.PrintLast.i64_w, Go.Proofs.YtohfefkjcnbejaaGreatDoorW.PrintLast.i32_w, Go.IntKind.wrap_u8, Go.IntKind.wrap_u32]; done))) | (simp [*]; done) | (simp [my_isEmpty, my_w256, Go.Proofs.YtohfefkjcnbejaaGreatDoorW.PrintLast.i64_w, Go.Proofs.YtohfefkjcnbejaaGreatDoorW.PrintLast.i32_w, Go.IntKind.wrap_u8, Go.IntKind.wrap_u32]; done)), H', ⟨by have := HK1.out; omega⟩, dr_⟩
   rw [if_neg c7] at H
   have c7b0 := ef_ c7
   have c7b1 := nt_ c7
   by_cases c8 : 0 ≤ x3_1
   ·rw [if_pos c8] at H
    have := eq_true c8
    replace c8 := dt_ c8
    by_cases c9 : x3_1 ≤ (a0.size : Int)
    ·rw [if_pos c9] at H
     have := eq_true c9
     replace c9 := dt_ c9
     obtain rfl := si_ H
     have p6 : 0 ≤ ((ji3) : Int) := od_
     have q6 : (ji3) < (a0.size : Int) := od_
     have hx6 := bt_at a0 (ji3)
     replace p6 := eq_true p6
     replace q6 := eq_true q6
     go_wp2
     go_ret
     exact ⟨by first | rfl | (simp; done) | (simp only [← hji3] <;> (first | rfl | (simp; done) | (simp [my_isEmpty, my_w256, Go.Proofs.YtohfefkjcnbejaaGreatDoorW.PrintLast.i64_w, Go.Proofs.YtohfefkjcnbejaaGreatDoorW.PrintLast.i32_w, Go.IntKind.wrap_u8, Go.IntKind.wrap_u32]; done))) | (simp [*]; done) | (simp [my_isEmpty, my_w256, Go.Proofs.YtohfefkjcnbejaaGreatDoorW.PrintLast.i64_w, Go.Proofs.YtohfefkjcnbejaaGreatDoorW.PrintLast.i32_w, Go.IntKind.wrap_u8, Go.IntKind.wrap_u32]; done), dr_⟩
    ·rw [if_neg c9] at H
     exact absurd H (by simp)
   ·rw [if_neg c8] at H
    exact absurd H (by simp)
/-! ### spec_l11Amount: function 42 -/
def spec_l11Amount.f (a0 : Int) : Option (Bool) := (spec_l01In.f a0 1 4).bind fun t1 => (some t1)
theorem spec_l11Amount.calls (a0 : Int) (r : Bool) (w : World) (h : spec_l11Amount.f a0 = some r) :
  Calls Tryz.prog 42 #[.int .i64 a0] w fun e w' => e = .returned (.bool r) ∧ Drawn0 w w' := by
 have H := h
 unfold spec_l11Amount.f at H
 clear h
 obtain ⟨t1, A2, H⟩ := ob_ H
 obtain rfl := si_ H
 go_enter func42, ntmps42
 go_wp2_with (first | ((with_reducible refine gd_ 67 4 func67 #[.int .i64 a0, .int .i64 1, .int .i64 4] (spec_l01In.calls a0 1 4 t1 _ A2.out) fun nd => ?_)))
 go_ret
 exact ⟨sp_, dr_⟩
/-! ### spec_Narrow: function 43 -/
mutual
def spec_Narrow.j0 : Nat → ByteArray → Bool → Option (Int × Bool)
 | 0, _, _ => none
 | k + 1, x0, x13 => if x13 = true then (some (0, false)) else (spec_Narrow.l0 k x0 0 0)
def spec_Narrow.l0 : Nat → ByteArray → Int → Int → Option (Int × Bool)
 | 0, _, _, _ => none
 | k + 1, x0, x4, x5 => if x5 < (x0.size : Int) then (if 0 ≤ x5 then (spec_Narrow.l0 k x0 (wrap64 ((wrap64 ((wrap64 (x4 * 10)) + (wrap64 (bt x0 x5)))) - 48)) (wrap64 (x5 + 1))) else (none)) else (some (x4, true))
end
def spec_Narrow.f (k : Nat) (a0 : ByteArray) : Option (Int × Bool) := (spec_Digits.f k a0).bind fun t9 => (if t9 = true then (spec_Narrow.j0 k a0 (decide ((a0.size : Int) > 18))) else (spec_Narrow.j0 k a0 true))
theorem spec_Narrow.calls (k : Nat) (a0 : ByteArray) (r1 : Int) (r2 : Bool) (w : World) (h : spec_Narrow.f k a0 = some (r1, r2)) :
  Calls Tryz.prog 43 #[.string a0] w fun e w' => e = .returned (.tuple #[.int .i64 r1, .bool r2]) ∧ Drawn0 w w' := by
 have H := h
 unfold spec_Narrow.f at H
 clear h
 have HC2 := Aside0.mk H
 clear H
 go_enter func43, ntmps43
 go_upto_region 1 with (fail)
 go_cut [13] (fun v13 wc => ∃ (kq : Nat) (x13_1 : Bool), v13 = .bool x13_1 ∧ Aside0 (spec_Narrow.j0 kq a0 x13_1 = some (r1, r2)) ∧ Aside0 (kq ≤ k) ∧ Drawn0 w wc)
 case first =>
  have H := HC2.out
  clear HC2
  obtain ⟨t9, A3, H⟩ := ob_ H
  by_cases c4 : t9 = true
  ·subst c4
   replace H := ip_ H
   have H' := Aside0.mk H
   clear H
   go_wp2_with (first | ((with_reducible refine gd_ 76 7 func76 #[.string a0] (spec_Digits.calls k a0 true _ A3.out) fun nd => ?_)))
   go_meet
   case rel => exact ⟨_, (decide ((a0.size : Int) > 18)), sp_, H', ⟨by first | omega | exact Nat.le_refl _⟩, dr_⟩
  replace c4 := gf_ c4
  subst c4
  replace H := in_ H
  have H' := Aside0.mk H
  clear H
  go_wp2_with (first | ((with_reducible refine gd_ 76 7 func76 #[.string a0] (spec_Digits.calls k a0 false _ A3.out) fun nd => ?_)))
  go_meet
  case rel => exact ⟨_, (true), sp_, H', ⟨by first | omega | exact Nat.le_refl _⟩, dr_⟩
 case rest =>
  clear HC2
  obtain ⟨kq, x13_1, rfl, HA, HJ1, ⟨mc1, rfl⟩⟩ := hcut
  cases kq with
  | zero => exact absurd HA.out (by simp [spec_Narrow.j0])
  | succ kj1 =>
   have H := HA.out
   clear HA
   simp only [spec_Narrow.j0] at H
   by_cases c5 : x13_1 = true
   ·subst c5
    replace H := ip_ H
    simp only [Option.some.injEq, Prod.mk.injEq] at H
    obtain ⟨rfl, rfl⟩ := H
    go_wp2
    go_ret2
    exact ⟨sp_, dr_⟩
   replace c5 := gf_ c5
   subst c5
   replace H := in_ H
   have H' := Aside0.mk H
   clear H
   go_wp2
   go_loopg [4, 5] kj1 (fun kq v4 v5 w' => ∃ (x4_2 : Int) (x5_2 : Int), v4 = .int .i64 x4_2 ∧ v5 = .int .i64 x5_2 ∧ Aside0 (spec_Narrow.l0 kq a0 x4_2 x5_2 = some (r1, r2)) ∧ Aside0 (kq ≤ kj1) ∧ Drawn0 w w')
   case atStart => exact ⟨(0), (0), sp_, sp_, H', ⟨Nat.le_refl _⟩, dr_⟩
   case round =>
    clear H'
    obtain ⟨x4_2, x5_2, rfl, rfl, HA, HK2, ⟨m2, rfl⟩⟩ := hrel
    cases gk with
    | zero => exact absurd HA.out (by simp [spec_Narrow.l0])
    | succ k2 =>
     have H := HA.out
     clear HA
     simp only [spec_Narrow.l0] at H
     by_cases c6 : x5_2 < (a0.size : Int)
     ·rw [if_pos c6] at H
      replace c6 := dt_ c6
      by_cases c7 : 0 ≤ x5_2
      ·rw [if_pos c7] at H
       replace c7 := dt_ c7
       have H' := Aside0.mk H
       clear H
       have p8 : 0 ≤ (x5_2 : Int) := od_
       have q8 : x5_2 < (a0.size : Int) := od_
       have hx8 := bt_at a0 x5_2
       replace p8 := eq_true p8
       replace q8 := eq_true q8
       go_wp2
       go_roundg k2
       case measure => have := HJ1.out; have := HK2.out; omega
       case rel => exact ⟨(wrap64 ((wrap64 ((wrap64 (x4_2 * 10)) + (wrap64 (bt a0 x5_2)))) - 48)), (wrap64 (x5_2 + 1)), sp_, sp_, H', ⟨by have := HJ1.out; have := HK2.out; omega⟩, dr_⟩
      ·rw [if_neg c7] at H
       exact absurd H (by simp)
     ·rw [if_neg c6] at H
      replace c6 := df_ c6
      simp only [Option.some.injEq, Prod.mk.injEq] at H
      obtain ⟨rfl, rfl⟩ := H
      go_wp2
      go_ret2
      exact ⟨sp_, dr_⟩
/-! ### spec_Luhn: function 143 -/
def spec_Luhn.l0 : Nat → ByteArray → Int → Bool → Int → Option (Int)
 | 0, _, _, _, _ => none
 | k + 1, x0, x3, x4, x5 => if x5 ≥ 0 then (if 0 ≤ x5 then (if x5 < (x0.size : Int) then (if x4 = true then (if (wrap64 (2 * (wrap64 ((wrap64 (bt x0 x5)) - 48)))) > 9 then (spec_Luhn.l0 k x0 (Int.tmod (wrap64 (x3 + (wrap64 ((wrap64 (2 * (wrap64 ((wrap64 (bt x0 x5)) - 48)))) - 9)))) 10) (!x4) (wrap64 (x5 - 1))) else (spec_Luhn.l0 k x0 (Int.tmod (wrap64 (x3 + (wrap64 (2 * (wrap64 ((wrap64 (bt x0 x5)) - 48)))))) 10) (!x4) (wrap64 (x5 - 1)))) else (spec_Luhn.l0 k x0 (Int.tmod (wrap64 (x3 + (wrap64 ((wrap64 (bt x0 x5)) - 48)))) 10) (!x4) (wrap64 (x5 - 1)))) else (none)) else (none)) else (some (Int.tmod (wrap64 (10 - x3)) 10))
def spec_Luhn.f (k : Nat) (a0 : ByteArray) : Option (Int) := (spec_Digits.f k a0).bind fun t10 => (if t10 = true then (spec_Luhn.l0 k a0 0 true (wrap64 ((a0.size : Int) - 1))) else (some (-1)))
theorem spec_Luhn.calls (k : Nat) (a0 : ByteArray) (r : Int) (w : World) (h : spec_Luhn.f k a0 = some r) :
  Calls Tryz.prog 143 #[.string a0] w fun e w' => e = .returned (.int .i64 r) ∧ Drawn0 w w' := by
 have H := h
 unfold spec_Luhn.f at H
 clear h
 obtain ⟨t10, A2, H⟩ := ob_ H
 by_cases c3 : t10 = true
 rotate_left
 ·replace c3 := gf_ c3
  subst c3
  replace H := in_ H
  obtain rfl := si_ H
  go_enter func143, ntmps143
  go_wp2_with (first | ((with_reducible refine gd_ 76 8 func76 #[.string a0] (spec_Digits.calls k a0 false _ A2.out) fun nd => ?_)))
  go_ret
  exact ⟨sp_, dr_⟩
 subst c3
 replace H := ip_ H
 have H' := Aside0.mk H
 clear H
 go_enter func143, ntmps143
 go_wp2_with (first | ((with_reducible refine gd_ 76 8 func76 #[.string a0] (spec_Digits.calls k a0 true _ A2.out) fun nd => ?_)))
 go_loopg [3, 4, 5] k (fun kq v3 v4 v5 w' => ∃ (x3_1 : Int) (x4_1 : Bool) (x5_1 : Int), v3 = .int .i64 x3_1 ∧ v4 = .bool x4_1 ∧ v5 = .int .i64 x5_1 ∧ Aside0 (spec_Luhn.l0 kq a0 x3_1 x4_1 x5_1 = some r) ∧ Aside0 (kq ≤ k) ∧ Drawn0 w w')
 case atStart => exact ⟨(0), (true), (wrap64 ((a0.size : Int) - 1)), sp_, sp_, sp_, H', ⟨Nat.le_refl _⟩, dr_⟩
 case round =>
  clear H'
  obtain ⟨x3_1, x4_1, x5_1, rfl, rfl, rfl, HA, HK1, ⟨m1, rfl⟩⟩ := hrel
  cases gk with
  | zero => exact absurd HA.out (by simp [spec_Luhn.l0])
  | succ k1 =>
   have H := HA.out
   clear HA
   simp only [spec_Luhn.l0] at H
   by_cases c4 : x5_1 ≥ 0
   rotate_left
   ·rw [if_neg c4] at H
    replace c4 := df_ c4
    obtain rfl := si_ H
    go_wp2
    go_ret
    exact ⟨sp_, dr_⟩
   rw [if_pos c4] at H
   replace c4 := dt_ c4
   obtain ⟨c5, H⟩ := og_ H
   replace c5 := dt_ c5
   obtain ⟨c6, H⟩ := og_ H
   replace c6 := dt_ c6
   by_cases c8 : x4_1 = true
   ·subst c8
    replace H := ip_ H
    by_cases c9 : (wrap64 (2 * (wrap64 ((wrap64 (bt a0 x5_1)) - 48)))) > 9
    ·rw [if_pos c9] at H
     replace c9 := dt_ c9
     have H' := Aside0.mk H
     clear H
     have p7 : 0 ≤ (x5_1 : Int) := od_
     have q7 : x5_1 < (a0.size : Int) := od_
     have hx7 := bt_at a0 x5_1
     replace p7 := eq_true p7
     replace q7 := eq_true q7
     go_wp2
     go_roundg k1
     case measure => have := HK1.out; omega
     case rel => exact ⟨(Int.tmod (wrap64 (x3_1 + (wrap64 ((wrap64 (2 * (wrap64 ((wrap64 (bt a0 x5_1)) - 48)))) - 9)))) 10), (!true), (wrap64 (x5_1 - 1)), sp_, sp_, sp_, H', ⟨by have := HK1.out; omega⟩, dr_⟩
    rw [if_neg c9] at H
    replace c9 := df_ c9
    have H' := Aside0.mk H
    clear H
    have p7 : 0 ≤ (x5_1 : Int) := od_
    have q7 : x5_1 < (a0.size : Int) := od_
    have hx7 := bt_at a0 x5_1
    replace p7 := eq_true p7
    replace q7 := eq_true q7
    go_wp2
    go_roundg k1
    case measure => have := HK1.out; omega
    case rel => exact ⟨(Int.tmod (wrap64 (x3_1 + (wrap64 (2 * (wrap64 ((wrap64 (bt a0 x5_1)) - 48)))))) 10), (!true), (wrap64 (x5_1 - 1)), sp_, sp_, sp_, H', ⟨by have := HK1.out; omega⟩, dr_⟩
   ·replace c8 := gf_ c8
    subst c8
    replace H := in_ H
    have H' := Aside0.mk H
    clear H
    have p7 : 0 ≤ (x5_1 : Int) := od_
    have q7 : x5_1 < (a0.size : Int) := od_
    have hx7 := bt_at a0 x5_1
    replace p7 := eq_true p7
    replace q7 := eq_true q7
    go_wp2
    go_roundg k1
    case measure => have := HK1.out; omega
    case rel => exact ⟨(Int.tmod (wrap64 (x3_1 + (wrap64 ((wrap64 (bt a0 x5_1)) - 48)))) 10), (!false), (wrap64 (x5_1 - 1)), sp_, sp_, sp_, H', ⟨by have := HK1.out; omega⟩, dr_⟩
/-! ### spec_LuhnOk: function 111 -/
def spec_LuhnOk.f (k : Nat) (a0 : ByteArray) : Option (Bool) := (spec_Digits.f k a0).bind fun t11 => (if t11 = true then (if (a0.size : Int) < 2 then (some false) else (if 0 ≤ (wrap64 ((a0.size : Int) - 1)) then (if (wrap64 ((a0.size : Int) - 1)) ≤ (a0.size : Int) then ((spec_Luhn.f k (a0.extract 0 ((wrap64 ((a0.size : Int) - 1)) : Int).toNat)).bind fun t1 => (if (wrap64 ((a0.size : Int) - 1)) < (a0.size : Int) then (some (t1 == (wrap64 ((wrap64 (bt a0 (wrap64 ((a0.size : Int) - 1)))) - 48)))) else (none))) else (none)) else (none))) else (some false))
theorem spec_LuhnOk.calls (k : Nat) (a0 : ByteArray) (r : Bool) (w : World) (h : spec_LuhnOk.f k a0 = some r) :
  Calls Tryz.prog 111 #[.string a0] w fun e w' => e = .returned (.bool r) ∧ Drawn0 w w' := by
 have H := h
 unfold spec_LuhnOk.f at H
 clear h
 obtain ⟨t11, A2, H⟩ := ob_ H
 by_cases c3 : t11 = true
 rotate_left
 ·replace c3 := gf_ c3
  subst c3
  replace H := in_ H
  obtain rfl := si_ H
  go_enter func111, ntmps111
  go_wp2_with (first | (go_at_call 76; (with_reducible refine (spec_Digits.calls k a0 false _ A2.out).mono ?_); rintro e w' ⟨rfl, nd, rfl⟩; (try exact dq_)))
  repeat (go_quiet (first | (go_at_call 76; (with_reducible refine (spec_Digits.calls k a0 false _ A2.out).mono ?_); rintro e w' ⟨rfl, nd, rfl⟩; (try exact dq_))); try go_wp2_with (first | (go_at_call 76; (with_reducible refine (spec_Digits.calls k a0 false _ A2.out).mono ?_); rintro e w' ⟨rfl, nd, rfl⟩; (try exact dq_))))
  go_ret
  exact ⟨sp_, dr_⟩
 subst c3
 replace H := ip_ H
 by_cases c4 : (a0.size : Int) < 2
 ·rw [if_pos c4] at H
  have c4b0 := dt_ c4
  have c4b1 : decide (a0.size < 2) = true := decide_eq_true (by omega)
  clear c4
  obtain rfl := si_ H
  go_enter func111, ntmps111
  go_wp2_with (first | (go_at_call 76; (with_reducible refine (spec_Digits.calls k a0 true _ A2.out).mono ?_); rintro e w' ⟨rfl, nd, rfl⟩; (try exact dq_)))
  repeat (go_quiet (first | (go_at_call 76; (with_reducible refine (spec_Digits.calls k a0 true _ A2.out).mono ?_); rintro e w' ⟨rfl, nd, rfl⟩; (try exact dq_))); try go_wp2_with (first | (go_at_call 76; (with_reducible refine (spec_Digits.calls k a0 true _ A2.out).mono ?_); rintro e w' ⟨rfl, nd, rfl⟩; (try exact dq_))))
  go_ret
  exact ⟨sp_, dr_⟩
 rw [if_neg c4] at H
 have c4b0 := df_ c4
 have c4b1 : decide (a0.size < 2) = false := decide_eq_false (by omega)
 clear c4
 obtain ⟨ji5, hji5⟩ : ∃ j_ : Int, (wrap64 ((a0.size : Int) - 1)) = j_ := ⟨_, rfl⟩
 replace H : (if 0 ≤ (ji5) then (if (ji5) ≤ (a0.size : Int) then ((spec_Luhn.f k (a0.extract 0 ((ji5) : Int).toNat)).bind fun t1 => (if (ji5) < (a0.size : Int) then (some (t1 == (wrap64 ((wrap64 (bt a0 (ji5))) - 48)))) else (none))) else (none)) else (none)) = some r := by first | (rw [hji5] at H; exact H) | (simp only [hji5] at H ⊢; exact H)
 (try rw [hji5] at A2)
 have hji5w : (IntKind.i64.wrap ((a0.size : Int) - 1)) = ji5 := (i64_w _).trans hji5
 obtain ⟨c6, H⟩ := og_ H
 have := eq_true c6
 replace c6 := dt_ c6
 by_cases c7 : (ji5) ≤ (a0.size : Int)
 ·rw [if_pos c7] at H
  have := eq_true c7
  replace c7 := dt_ c7
  obtain ⟨t1, A8, H⟩ := ob_ H
  by_cases c9 : (ji5) < (a0.size : Int)
  ·rw [if_pos c9] at H
   replace c9 := dt_ c9
   obtain rfl := si_ H
   go_enter func111, ntmps111
   go_wp2_with (first | (go_at_call 76; (with_reducible refine (spec_Digits.calls k a0 true _ A2.out).mono ?_); rintro e w' ⟨rfl, nd, rfl⟩; (try exact dq_)) | (go_at_call 143; (with_reducible refine (spec_Luhn.calls k (a0.extract 0 ((ji5) : Int).toNat) t1 _ A8.out).mono ?_); rintro e w' ⟨rfl, nd, rfl⟩; (try exact dq_); have p10 : 0 ≤ ((ji5) : Int) := od_; have q10 : (ji5) < (a0.size : Int) := od_; have hx10 := bt_at a0 (ji5); replace p10 := eq_true p10; replace q10 := eq_true q10))
   repeat (go_quiet (first | (go_at_call 76; (with_reducible refine (spec_Digits.calls k a0 true _ A2.out).mono ?_); rintro e w' ⟨rfl, nd, rfl⟩; (try exact dq_)) | (go_at_call 143; (with_reducible refine (spec_Luhn.calls k (a0.extract 0 ((ji5) : Int).toNat) t1 _ A8.out).mono ?_); rintro e w' ⟨rfl, nd, rfl⟩; (try exact dq_); have p10 : 0 ≤ ((ji5) : Int) := od_; have q10 : (ji5) < (a0.size : Int) := od_; have hx10 := bt_at a0 (ji5); replace p10 := eq_true p10; replace q10 := eq_true q10)); try go_wp2_with (first | (go_at_call 76; (with_reducible refine (spec_Digits.calls k a0 true _ A2.out).mono ?_); rintro e w' ⟨rfl, nd, rfl⟩; (try exact dq_)) | (go_at_call 143; (with_reducible refine (spec_Luhn.calls k (a0.extract 0 ((ji5) : Int).toNat) t1 _ A8.out).mono ?_); rintro e w' ⟨rfl, nd, rfl⟩; (try exact dq_); have p10 : 0 ≤ ((ji5) : Int) := od_; have q10 : (ji5) < (a0.size : Int) := od_; have hx10 := bt_at a0 (ji5); replace p10 := eq_true p10; replace q10 := eq_true q10)))
   go_ret
   exact ⟨by first | rfl | (simp; done) | (simp only [← hji5] <;> (first | rfl | (simp; done) | (simp [my_isEmpty, my_w256, Go.Proofs.YtohfefkjcnbejaaGreatDoorW.PrintLast.i64_w, Go.Proofs.YtohfefkjcnbejaaGreatDoorW.PrintLast.i32_w, Go.IntKind.wrap_u8, Go.IntKind.wrap_u32]; done))) | (simp [*]; done) | (simp [my_isEmpty, my_w256, Go.Proofs.YtohfefkjcnbejaaGreatDoorW.PrintLast.i64_w, Go.Proofs.YtohfefkjcnbejaaGreatDoorW.PrintLast.i32_w, Go.IntKind.wrap_u8, Go.IntKind.wrap_u32]; done), dr_⟩
  ·rw [if_neg c9] at H
   exact absurd H (by simp)
 ·rw [if_neg c7] at H
  exact absurd H (by simp)
/-! ### spec_AcctIdOk: function 81 -/
def spec_AcctIdOk.f (k : Nat) (a0 : ByteArray) : Option (Bool) := if (a0.size : Int) ≤ 19 then ((spec_LuhnOk.f k a0).bind fun t1 => (some t1)) else (some false)
theorem spec_AcctIdOk.calls (k : Nat) (a0 : ByteArray) (r : Bool) (w : World) (h : spec_AcctIdOk.f k a0 = some r) :
  Calls Tryz.prog 81 #[.string a0] w fun e w' => e = .returned (.bool r) ∧ Drawn0 w w' := by
 have H := h
 unfold spec_AcctIdOk.f at H
 clear h
 by_cases c2 : (a0.size : Int) ≤ 19
 ·rw [if_pos c2] at H
  have c2b0 := dt_ c2
  have c2b1 : decide (a0.size ≤ 19) = true := decide_eq_true (by omega)
  clear c2
  obtain ⟨t1, A3, H⟩ := ob_ H
  obtain rfl := si_ H
  go_enter func81, ntmps81
  go_wp2_with (first | (go_at_call 111; (with_reducible refine (spec_LuhnOk.calls k a0 t1 _ A3.out).mono ?_); rintro e w' ⟨rfl, nd, rfl⟩))
  go_ret
  exact ⟨sp_, dr_⟩
 rw [if_neg c2] at H
 have c2b0 := df_ c2
 have c2b1 : decide (a0.size ≤ 19) = false := decide_eq_false (by omega)
 clear c2
 obtain rfl := si_ H
 go_enter func81, ntmps81
 go_wp2
 go_ret
 exact ⟨sp_, dr_⟩
/-! ### spec_HoldIdOk: function 82 -/
def spec_HoldIdOk.l0 : Nat → ByteArray → Int → Option (Bool)
 | 0, _, _ => none
 | k + 1, x0, x3 => if x3 < (x0.size : Int) then (if 0 ≤ x3 then (if (bt x0 x3) < 48 then (if (bt x0 x3) < 97 then (some false) else (if (bt x0 x3) > 122 then (some false) else (spec_HoldIdOk.l0 k x0 (wrap64 (x3 + 1))))) else (if (bt x0 x3) > 57 then (if (bt x0 x3) < 97 then (some false) else (if (bt x0 x3) > 122 then (some false) else (spec_HoldIdOk.l0 k x0 (wrap64 (x3 + 1))))) else (spec_HoldIdOk.l0 k x0 (wrap64 (x3 + 1))))) else (none)) else ((spec_l01In.f (x0.size : Int) 1 6).bind fun t17 => (some t17))
def spec_HoldIdOk.f (k : Nat) (a0 : ByteArray) : Option (Bool) := spec_HoldIdOk.l0 k a0 0
theorem spec_HoldIdOk.calls (k : Nat) (a0 : ByteArray) (r : Bool) (w : World) (h : spec_HoldIdOk.f k a0 = some r) :
  Calls Tryz.prog 82 #[.string a0] w fun e w' => e = .returned (.bool r) ∧ Drawn0 w w' := by
 have H := h
 unfold spec_HoldIdOk.f at H
 clear h
 have H' := Aside0.mk H
 clear H
 go_enter func82, ntmps82
 go_wp2
 go_loopg [3] k (fun kq v3 w' => ∃ (x3_1 : Int), v3 = .int .i64 x3_1 ∧ Aside0 (spec_HoldIdOk.l0 kq a0 x3_1 = some r) ∧ Aside0 (kq ≤ k) ∧ Drawn0 w w')
 case atStart => exact ⟨(0), sp_, H', ⟨Nat.le_refl _⟩, dr_⟩
 case round =>
  clear H'
  obtain ⟨x3_1, rfl, HA, HK1, ⟨m1, rfl⟩⟩ := hrel
  cases gk with
  | zero => exact absurd HA.out (by simp [spec_HoldIdOk.l0])
  | succ k1 =>
   have H := HA.out
   clear HA
   simp only [spec_HoldIdOk.l0] at H
   by_cases c2 : x3_1 < (a0.size : Int)
   rotate_left
   ·rw [if_neg c2] at H
    replace c2 := df_ c2
    obtain ⟨t17, A16, H⟩ := ob_ H
    obtain rfl := si_ H
    go_wp2_with (first | ((with_reducible refine gd_ 67 34 func67 #[.int .i64 (a0.size : Int), .int .i64 1, .int .i64 6] (spec_l01In.calls (a0.size : Int) 1 6 t17 _ A16.out) fun nd => ?_)))
    go_ret
    exact ⟨sp_, dr_⟩
   rw [if_pos c2] at H
   replace c2 := dt_ c2
   obtain ⟨c3, H⟩ := og_ H
   replace c3 := dt_ c3
   by_cases c5 : (bt a0 x3_1) < 48
   ·rw [if_pos c5] at H
    replace c5 := dt_ c5
    by_cases c7 : (bt a0 x3_1) < 97
    ·rw [if_pos c7] at H
     replace c7 := dt_ c7
     obtain rfl := si_ H
     have p4 : 0 ≤ (x3_1 : Int) := od_
     have q4 : x3_1 < (a0.size : Int) := od_
     have hx4 := bt_at a0 x3_1
     replace p4 := eq_true p4
     replace q4 := eq_true q4
     have p6 : 0 ≤ (x3_1 : Int) := od_
     have q6 : x3_1 < (a0.size : Int) := od_
     have hx6 := bt_at a0 x3_1
     replace p6 := eq_true p6
     replace q6 := eq_true q6
     go_wp2
     go_ret
     exact ⟨sp_, dr_⟩
    rw [if_neg c7] at H
    replace c7 := df_ c7
    by_cases c9 : (bt a0 x3_1) > 122
    ·rw [if_pos c9] at H
     replace c9 := dt_ c9
     obtain rfl := si_ H
     have p4 : 0 ≤ (x3_1 : Int) := od_
     have q4 : x3_1 < (a0.size : Int) := od_
     have hx4 := bt_at a0 x3_1
     replace p4 := eq_true p4
     replace q4 := eq_true q4
     have p6 : 0 ≤ (x3_1 : Int) := od_
     have q6 : x3_1 < (a0.size : Int) := od_
     have hx6 := bt_at a0 x3_1
     replace p6 := eq_true p6
     replace q6 := eq_true q6
     have p8 : 0 ≤ (x3_1 : Int) := od_
     have q8 : x3_1 < (a0.size : Int) := od_
     have hx8 := bt_at a0 x3_1
     replace p8 := eq_true p8
     replace q8 := eq_true q8
     go_wp2
     go_ret
     exact ⟨sp_, dr_⟩
    rw [if_neg c9] at H
    replace c9 := df_ c9
    have H' := Aside0.mk H
    clear H
    have p4 : 0 ≤ (x3_1 : Int) := od_
    have q4 : x3_1 < (a0.size : Int) := od_
    have hx4 := bt_at a0 x3_1
    replace p4 := eq_true p4
    replace q4 := eq_true q4
    have p6 : 0 ≤ (x3_1 : Int) := od_
    have q6 : x3_1 < (a0.size : Int) := od_
    have hx6 := bt_at a0 x3_1
    replace p6 := eq_true p6
    replace q6 := eq_true q6
    have p8 : 0 ≤ (x3_1 : Int) := od_
    have q8 : x3_1 < (a0.size : Int) := od_
    have hx8 := bt_at a0 x3_1
    replace p8 := eq_true p8
    replace q8 := eq_true q8
    go_wp2
    go_roundg k1
    case measure => have := HK1.out; omega
    case rel => exact ⟨(wrap64 (x3_1 + 1)), sp_, H', ⟨by have := HK1.out; omega⟩, dr_⟩
   rw [if_neg c5] at H
   replace c5 := df_ c5
   by_cases c11 : (bt a0 x3_1) > 57
   rotate_left
   ·rw [if_neg c11] at H
    replace c11 := df_ c11
    have H' := Aside0.mk H
    clear H
    have p4 : 0 ≤ (x3_1 : Int) := od_
    have q4 : x3_1 < (a0.size : Int) := od_
    have hx4 := bt_at a0 x3_1
    replace p4 := eq_true p4
    replace q4 := eq_true q4
    have p10 : 0 ≤ (x3_1 : Int) := od_
    have q10 : x3_1 < (a0.size : Int) := od_
    have hx10 := bt_at a0 x3_1
    replace p10 := eq_true p10
    replace q10 := eq_true q10
    go_wp2
    go_roundg k1
    case measure => have := HK1.out; omega
    case rel => exact ⟨(wrap64 (x3_1 + 1)), sp_, H', ⟨by have := HK1.out; omega⟩, dr_⟩
   rw [if_pos c11] at H
   replace c11 := dt_ c11
   by_cases c13 : (bt a0 x3_1) < 97
   ·rw [if_pos c13] at H
    replace c13 := dt_ c13
    obtain rfl := si_ H
    have p4 : 0 ≤ (x3_1 : Int) := od_
    have q4 : x3_1 < (a0.size : Int) := od_
    have hx4 := bt_at a0 x3_1
    replace p4 := eq_true p4
    replace q4 := eq_true q4
    have p10 : 0 ≤ (x3_1 : Int) := od_
    have q10 : x3_1 < (a0.size : Int) := od_
    have hx10 := bt_at a0 x3_1
    replace p10 := eq_true p10
    replace q10 := eq_true q10
    have p12 : 0 ≤ (x3_1 : Int) := od_
    have q12 : x3_1 < (a0.size : Int) := od_
    have hx12 := bt_at a0 x3_1
    replace p12 := eq_true p12
    replace q12 := eq_true q12
    go_wp2
    go_ret
    exact ⟨sp_, dr_⟩
   rw [if_neg c13] at H
   replace c13 := df_ c13
   by_cases c15 : (bt a0 x3_1) > 122
   ·rw [if_pos c15] at H
    replace c15 := dt_ c15
    obtain rfl := si_ H
    have p4 : 0 ≤ (x3_1 : Int) := od_
    have q4 : x3_1 < (a0.size : Int) := od_
    have hx4 := bt_at a0 x3_1
    replace p4 := eq_true p4
    replace q4 := eq_true q4
    have p10 : 0 ≤ (x3_1 : Int) := od_
    have q10 : x3_1 < (a0.size : Int) := od_
    have hx10 := bt_at a0 x3_1
    replace p10 := eq_true p10
    replace q10 := eq_true q10
    have p12 : 0 ≤ (x3_1 : Int) := od_
    have q12 : x3_1 < (a0.size : Int) := od_
    have hx12 := bt_at a0 x3_1
    replace p12 := eq_true p12
    replace q12 := eq_true q12
    have p14 : 0 ≤ (x3_1 : Int) := od_
    have q14 : x3_1 < (a0.size : Int) := od_
    have hx14 := bt_at a0 x3_1
    replace p14 := eq_true p14
    replace q14 := eq_true q14
    go_wp2
    go_ret
    exact ⟨sp_, dr_⟩
   rw [if_neg c15] at H
   replace c15 := df_ c15
   have H' := Aside0.mk H
   clear H
   have p4 : 0 ≤ (x3_1 : Int) := od_
   have q4 : x3_1 < (a0.size : Int) := od_
   have hx4 := bt_at a0 x3_1
   replace p4 := eq_true p4
   replace q4 := eq_true q4
   have p10 : 0 ≤ (x3_1 : Int) := od_
   have q10 : x3_1 < (a0.size : Int) := od_
   have hx10 := bt_at a0 x3_1
   replace p10 := eq_true p10
   replace q10 := eq_true q10
   have p12 : 0 ≤ (x3_1 : Int) := od_
   have q12 : x3_1 < (a0.size : Int) := od_
   have hx12 := bt_at a0 x3_1
   replace p12 := eq_true p12
   replace q12 := eq_true q12
   have p14 : 0 ≤ (x3_1 : Int) := od_
   have q14 : x3_1 < (a0.size : Int) := od_
   have hx14 := bt_at a0 x3_1
   replace p14 := eq_true p14
   replace q14 := eq_true q14
   go_wp2
   go_roundg k1
   case measure => have := HK1.out; omega
   case rel => exact ⟨(wrap64 (x3_1 + 1)), sp_, H', ⟨by have := HK1.out; omega⟩, dr_⟩
/-! ### spec_ReqOk: function 44 -/
mutual
def spec_ReqOk.j0 : Nat → Bool → Int → ByteArray → ByteArray → ByteArray → ByteArray → ByteArray → Int → Int → Option (Bool)
 | 0, _, _, _, _, _, _, _, _, _ => none
 | k + 1, x32, x30, x45, x31, x34, x46, x49, x35, x44 => if x32 = true then (some false) else ((spec_l11Hold.f x30).bind fun t58 => (if t58 = true then ((spec_HoldIdOk.f k x34).bind fun t59 => (if t59 = true then ((spec_l11Hold.f x30).bind fun t60 => (if t60 = true then (spec_ReqOk.j1 k false x30 x45 x31 x34 x46 x49 x35 x44) else (spec_ReqOk.j1 k (x34.toList != ([] : List UInt8)) x30 x45 x31 x34 x46 x49 x35 x44))) else (spec_ReqOk.j1 k true x30 x45 x31 x34 x46 x49 x35 x44))) else ((spec_l11Hold.f x30).bind fun t61 => (if t61 = true then (spec_ReqOk.j1 k false x30 x45 x31 x34 x46 x49 x35 x44) else (spec_ReqOk.j1 k (x34.toList != ([] : List UInt8)) x30 x45 x31 x34 x46 x49 x35 x44)))))
def spec_ReqOk.j1 : Nat → Bool → Int → ByteArray → ByteArray → ByteArray → ByteArray → ByteArray → Int → Int → Option (Bool)
 | 0, _, _, _, _, _, _, _, _, _ => none
 | k + 1, x52, x30, x45, x31, x34, x46, x49, x35, x44 => if x52 = true then (some false) else ((spec_l11Amount.f x30).bind fun t66 => (if t66 = true then ((spec_l01In.f x35 0 999999999999).bind fun t67 => (if t67 = true then ((spec_l11Amount.f x30).bind fun t68 => (if t68 = true then (spec_ReqOk.j2 k false x30 x45 x31 x34 x46 x49 x35 x44) else (spec_ReqOk.j2 k (x35 != 0) x30 x45 x31 x34 x46 x49 x35 x44))) else (spec_ReqOk.j2 k true x30 x45 x31 x34 x46 x49 x35 x44))) else ((spec_l11Amount.f x30).bind fun t69 => (if t69 = true then (spec_ReqOk.j2 k false x30 x45 x31 x34 x46 x49 x35 x44) else (spec_ReqOk.j2 k (x35 != 0) x30 x45 x31 x34 x46 x49 x35 x44)))))
def spec_ReqOk.j2 : Nat → Bool → Int → ByteArray → ByteArray → ByteArray → ByteArray → ByteArray → Int → Int → Option (Bool)
 | 0, _, _, _, _, _, _, _, _, _ => none
 | k + 1, x72, x30, x45, x31, x34, x46, x49, x35, x44 => if x72 = true then (some false) else (if x30 = 1 then ((spec_l01In.f x44 0 9999).bind fun t70 => (if t70 = true then (if x30 = 6 then ((spec_AcctIdOk.f k x31).bind fun t71 => (if t71 = true then (some true) else (some false))) else (some (x31.toList == ([] : List UInt8)))) else (some false))) else (if x44 = 0 then (if x30 = 6 then ((spec_AcctIdOk.f k x31).bind fun t73 => (if t73 = true then (some true) else (some false))) else (some (x31.toList == ([] : List UInt8)))) else (some false)))
end
def spec_ReqOk.f (k : Nat) (a0_0 : Int) (a0_1 : ByteArray) (a0_2 : ByteArray) (a0_3 : ByteArray) (a0_4 : ByteArray) (a0_5 : ByteArray) (a0_6 : Int) (a0_7 : Int) : Option (Bool) := (spec_l11Op.f a0_0).bind fun t74 => (if t74 = true then ((spec_OpMti.f a0_0).bind fun t50 => (if a0_5.toList = t50.toList then ((spec_AcctIdOk.f k a0_1).bind fun t75 => (if t75 = true then ((spec_Digits.f k a0_4).bind fun t76 => (if t76 = true then (spec_ReqOk.j0 k ((a0_4.size : Int) != 6) a0_0 a0_1 a0_2 a0_3 a0_4 a0_5 a0_6 a0_7) else (spec_ReqOk.j0 k true a0_0 a0_1 a0_2 a0_3 a0_4 a0_5 a0_6 a0_7))) else (spec_ReqOk.j0 k true a0_0 a0_1 a0_2 a0_3 a0_4 a0_5 a0_6 a0_7))) else (spec_ReqOk.j0 k true a0_0 a0_1 a0_2 a0_3 a0_4 a0_5 a0_6 a0_7))) else (spec_ReqOk.j0 k true a0_0 a0_1 a0_2 a0_3 a0_4 a0_5 a0_6 a0_7))
def spec_ReqOk.T1 : Bool × List (List Nat × List Nat) := (true, [([], []), ([0], [0]), ([1], [1]), ([2], [2]), ([3, 2], [3]), ([4], [4]), ([5, 4], [4, 5]), ([4], [4]), ([7, 4], [4, 7]), ([8, 4, 4], [4, 8]), ([6, 9, 4], [4, 6, 9]), ([4, 10], [4, 10]), ([11, 9], [11]), ([12], [12]), ([13, 12], [12, 13]), ([14, 12, 12], [12, 14]), ([15, 12], [12, 15]), ([12, 16], [12, 16]), ([17, 15], [17]), ([18], [18]), ([19, 18], [18, 19]), ([20, 18, 18], [18, 20]), ([21, 18], [18, 21]), ([18, 22], [18, 22]), ([23, 21], [23]), ([24], [24]), ([25, 24], [24, 25]), ([26, 24], [24, 26]), ([27, 24], [24, 27]), ([24, 28], [24, 28])])
def spec_ReqOk.B1 : List Nat := [0, 1, 3, 7, 15, 31, 63, 31, 159, 415, 1023, 2047, 4095, 8191, 16383, 32767, 65535, 131071, 262143, 524287, 1048575, 2097151, 4194303, 8388607, 16777215, 33554431, 67108863, 134217727, 268435455, 536870911]
theorem spec_ReqOk.tab1 : rtab .any (opsOf Tryz.f44 1) = spec_ReqOk.T1 := by kernel_rfl
theorem spec_ReqOk.bits1 : waitsOk spec_ReqOk.T1.2 spec_ReqOk.B1 = true := by kernel_rfl
theorem spec_ReqOk.calls (k : Nat) (a0_0 : Int) (a0_1 : ByteArray) (a0_2 : ByteArray) (a0_3 : ByteArray) (a0_4 : ByteArray) (a0_5 : ByteArray) (a0_6 : Int) (a0_7 : Int) (r : Bool) (w : World) (h : spec_ReqOk.f k a0_0 a0_1 a0_2 a0_3 a0_4 a0_5 a0_6 a0_7 = some r) :
  Calls Tryz.prog 44 #[.agg #[.int .i64 a0_0, .string a0_1, .string a0_2, .string a0_3, .string a0_4, .string a0_5, .int .i64 a0_6, .int .i64 a0_7]] w fun e w' => e = .returned (.bool r) ∧ Below w.heap.size w w' := by
 have hu27 := underlying27
 have HB := Aside0.mk (Below.refl w.heap.size w)
 have H := h
 unfold spec_ReqOk.f at H
 clear h
 have HC2 := Aside0.mk H
 clear H
 go_enter func44, ntmps44
 go_upto_region 1 with (first | ((with_reducible refine gt_ 1 ?_); (try (refine gate_guard (by rfl) ?_; dsimp only)); refine bo_ 1 #[.int .i64 a0_0, .string a0_1, .string a0_2, .string a0_3, .string a0_4, .string a0_5, .int .i64 a0_6, .int .i64 a0_7] 27 ?_; intro gb29 hg w3 BK29 hb; have GW29 := gw_ (w := w) hg; replace HB := hs_ hb; clear hb hg))
 (try simp only [Act.put, List.setIfInBounds_toArray, List.set_cons_zero, List.set_cons_succ])
 go_cut [32] (fun v32 wc => ∃ (kq : Nat) (x32_1 : Bool), v32 = .bool x32_1 ∧ Aside0 (spec_ReqOk.j0 kq x32_1 a0_0 a0_1 a0_2 a0_3 a0_4 a0_5 a0_6 a0_7 = some r) ∧ Aside0 (kq ≤ k) ∧ Aside0 (wc.heap[gb29]? = some (.cells #[.int .i64 a0_0, .string a0_1, .string a0_2, .string a0_3, .string a0_4, .string a0_5, .int .i64 a0_6, .int .i64 a0_7] 27 (0, 0))) ∧ Aside0 (Below w.heap.size w wc))
 case first =>
  have H := HC2.out
  clear HC2
  obtain ⟨t74, A4, H⟩ := ob_ H
  by_cases c5 : t74 = true
  rotate_left
  ·replace c5 := gf_ c5
   subst c5
   replace H := in_ H
   have H' := Aside0.mk H
   clear H
   try go_wp2
   have n0_ := Aside0.mk (blk_drew BK29.out)
   have n1_ := Aside0.mk (below_drew1 HB.out)
   clear BK29
   clear HB
   have BK29 := n0_
   have HB := n1_
   clear n0_ n1_
   refine start_ (n := 30) (S := fun w' => w'.cell? ⟨gb29, 0, none⟩ = some (.int .i64 a0_0) ∧ w'.cell? ⟨gb29, 1, none⟩ = some (.string a0_1) ∧ w'.cell? ⟨gb29, 2, none⟩ = some (.string a0_2) ∧ w'.cell? ⟨gb29, 3, none⟩ = some (.string a0_3) ∧ w'.cell? ⟨gb29, 4, none⟩ = some (.string a0_4) ∧ w'.cell? ⟨gb29, 5, none⟩ = some (.string a0_5) ∧ w'.cell? ⟨gb29, 6, none⟩ = some (.int .i64 a0_6) ∧ w'.cell? ⟨gb29, 7, none⟩ = some (.int .i64 a0_7)) (ds := []) tb30_0 (by kernel_rfl) rfl rfl ⟨cy_ BK29 0, cy_ BK29 1, cy_ BK29 2, cy_ BK29 3, cy_ BK29 4, cy_ BK29 5, cy_ BK29 6, cy_ BK29 7⟩ (fun hHeld => ?_); refine with_tabW spec_ReqOk.tab1 spec_ReqOk.bits1 (fun HT_ HW_ => ?_)
   generalize w3.drew = w20 at BK29 HB hHeld ⊢
   refine pl_ HT_ 0 3 tb30_1 ?_
   refine take_ (i := 1) (N := some 4) (v := ?_) (a' := ?_) tb30_3 rfl rfl (take_ofW HT_.out HW_.out (by kernel_rfl)) (fun _ _ _ h => h) (Or.inl ⟨by rfl, ?_⟩) hHeld ?_ ?_
   rotate_left
   ·rintro w' ⟨s0, s1, s2, s3, s4, s5, s6, s7⟩
    go_simp
    with_reducible rfl
   rotate_left
   ·simp only [Act.put, q_]
    rfl
   refine one_ (i := 2) (N := some 5) tb30_7 rfl rfl (one_of HT_.out (by kernel_rfl)) (by decide) (fun K hK => ?_)
   refine goes_ func80 (by kernel_rfl) rfl #[.int .i64 a0_0] (by rfl) rfl rfl gl_ ?_
   with_reducible refine (spec_l11Op.calls a0_0 false _ A4.out).mono ?_
   rintro e w' ⟨rfl, nd, rfl⟩
   refine ⟨_, rfl, ?_⟩
   refine hK.out _ _ ⟨cy_ BK29 0, cy_ BK29 1, cy_ BK29 2, cy_ BK29 3, cy_ BK29 4, cy_ BK29 5, cy_ BK29 6, cy_ BK29 7⟩ (fun hHeld => ?_)
   clear hK K
   refine norm_ (a' := ?_) ?_ ?_
   rotate_left
   ·show Act.put _ (some 5) _ = _
    simp only [Act.put, q_]
    rfl
   refine pl_ HT_ 3 6 tb30_f ?_
   refine pl_ HT_ 4 7 tb30_1f ?_
   refine pr_ HT_ 5 8 tb30_3f ?_
   refine pr_ HT_ 6 9 tb30_7f ?_
   refine pr_ HT_ 7 10 tb30_ff ?_
   refine pr_ HT_ 8 11 tb30_1ff ?_
   refine pr_ HT_ 9 12 tb30_3ff ?_
   refine pr_ HT_ 10 13 tb30_7ff ?_
   refine pl_ HT_ 11 14 tb30_fff ?_
   refine pl_ HT_ 12 15 tb30_1fff ?_
   refine pr_ HT_ 13 16 tb30_3fff ?_
   refine pr_ HT_ 14 17 tb30_7fff ?_
   refine pr_ HT_ 15 18 tb30_ffff ?_
   refine pr_ HT_ 16 19 tb30_1ffff ?_
   refine pl_ HT_ 17 20 tb30_3ffff ?_
   refine pl_ HT_ 18 21 tb30_7ffff ?_
   refine pr_ HT_ 19 22 tb30_fffff ?_
   refine pr_ HT_ 20 23 tb30_1fffff ?_
   refine pr_ HT_ 21 24 tb30_3fffff ?_
   refine pr_ HT_ 22 25 tb30_7fffff ?_
   refine pl_ HT_ 23 26 tb30_ffffff ?_
   refine pl_ HT_ 24 27 tb30_1ffffff ?_
   refine pr_ HT_ 25 28 tb30_3ffffff ?_
   refine pr_ HT_ 26 29 tb30_7ffffff ?_
   refine pr_ HT_ 27 30 tb30_fffffff ?_
   refine pr_ HT_ 28 31 tb30_1fffffff ?_
   refine pl_ HT_ 29 32 tb30_3fffffff ?_
   refine done_ (done_of HT_.out (by kernel_rfl)) ?_
   try go_wp2
   go_meet
   case rel => exact ⟨_, (true), sp_, H', ⟨by first | omega | exact Nat.le_refl _⟩, ⟨ch_ BK29.out⟩, ⟨bl_⟩⟩
  subst c5
  replace H := ip_ H
  obtain ⟨t50, A6, H⟩ := ob_ H
  by_cases c7 : a0_5.toList = t50.toList
  rotate_left
  ·rw [if_neg c7] at H
   have c7b0 := ef_ c7
   have c7b1 := nt_ c7
   (first | rw [c7b0] | (simp only [i64_w, i32_w]; rw [c7b0]) | skip)
   have H' := Aside0.mk H
   clear H
   try go_wp2
   have n0_ := Aside0.mk (blk_drew BK29.out)
   have n1_ := Aside0.mk (below_drew1 HB.out)
   clear BK29
   clear HB
   have BK29 := n0_
   have HB := n1_
   clear n0_ n1_
   refine start_ (n := 30) (S := fun w' => w'.cell? ⟨gb29, 0, none⟩ = some (.int .i64 a0_0) ∧ w'.cell? ⟨gb29, 1, none⟩ = some (.string a0_1) ∧ w'.cell? ⟨gb29, 2, none⟩ = some (.string a0_2) ∧ w'.cell? ⟨gb29, 3, none⟩ = some (.string a0_3) ∧ w'.cell? ⟨gb29, 4, none⟩ = some (.string a0_4) ∧ w'.cell? ⟨gb29, 5, none⟩ = some (.string a0_5) ∧ w'.cell? ⟨gb29, 6, none⟩ = some (.int .i64 a0_6) ∧ w'.cell? ⟨gb29, 7, none⟩ = some (.int .i64 a0_7)) (ds := []) tb30_0 (by kernel_rfl) rfl rfl ⟨cy_ BK29 0, cy_ BK29 1, cy_ BK29 2, cy_ BK29 3, cy_ BK29 4, cy_ BK29 5, cy_ BK29 6, cy_ BK29 7⟩ (fun hHeld => ?_); refine with_tabW spec_ReqOk.tab1 spec_ReqOk.bits1 (fun HT_ HW_ => ?_)
   generalize w3.drew = w18 at BK29 HB hHeld ⊢
   refine pl_ HT_ 0 3 tb30_1 ?_
   refine take_ (i := 1) (N := some 4) (v := ?_) (a' := ?_) tb30_3 rfl rfl (take_ofW HT_.out HW_.out (by kernel_rfl)) (fun _ _ _ h => h) (Or.inl ⟨by rfl, ?_⟩) hHeld ?_ ?_
   rotate_left
   ·rintro w' ⟨s0, s1, s2, s3, s4, s5, s6, s7⟩
    go_simp
    with_reducible rfl
   rotate_left
   ·simp only [Act.put, q_]
    rfl
   refine one_ (i := 2) (N := some 5) tb30_7 rfl rfl (one_of HT_.out (by kernel_rfl)) (by decide) (fun K hK => ?_)
   refine goes_ func80 (by kernel_rfl) rfl #[.int .i64 a0_0] (by rfl) rfl rfl gl_ ?_
   with_reducible refine (spec_l11Op.calls a0_0 true _ A4.out).mono ?_
   rintro e w' ⟨rfl, nd, rfl⟩
   refine ⟨_, rfl, ?_⟩
   refine hK.out _ _ ⟨cy_ BK29 0, cy_ BK29 1, cy_ BK29 2, cy_ BK29 3, cy_ BK29 4, cy_ BK29 5, cy_ BK29 6, cy_ BK29 7⟩ (fun hHeld => ?_)
   clear hK K
   refine norm_ (a' := ?_) ?_ ?_
   rotate_left
   ·show Act.put _ (some 5) _ = _
    simp only [Act.put, q_]
    rfl
   refine pl_ HT_ 3 6 tb30_f ?_
   refine pl_ HT_ 4 7 tb30_1f ?_
   refine pl_ HT_ 5 8 tb30_3f ?_
   refine pl_ HT_ 7 10 tb30_bf ?_
   refine take_ (i := 6) (N := some 9) (v := ?_) (a' := ?_) tb30_ff rfl rfl (take_ofW HT_.out HW_.out (by kernel_rfl)) (fun _ _ _ h => h) (Or.inl ⟨by rfl, ?_⟩) hHeld ?_ ?_
   rotate_left
   ·rintro w' ⟨s0, s1, s2, s3, s4, s5, s6, s7⟩
    go_simp
    with_reducible rfl
   rotate_left
   ·simp only [Act.put, q_]
    rfl
   refine take_ (i := 8) (N := some 11) (v := ?_) (a' := ?_) tb30_1ff rfl rfl (take_ofW HT_.out HW_.out (by kernel_rfl)) (fun _ _ _ h => h) (Or.inl ⟨by rfl, ?_⟩) hHeld ?_ ?_
   rotate_left
   ·rintro w' ⟨s0, s1, s2, s3, s4, s5, s6, s7⟩
    go_simp
    with_reducible rfl
   rotate_left
   ·simp only [Act.put, q_]
    rfl
   refine one_ (i := 9) (N := some 12) tb30_3ff rfl rfl (one_of HT_.out (by kernel_rfl)) (by decide) (fun K hK => ?_)
   refine goes_ func78 (by kernel_rfl) rfl #[.int .i64 a0_0] (by rfl) rfl rfl gl_ ?_
   with_reducible refine (spec_OpMti.calls a0_0 t50 _ A6.out).mono ?_
   rintro e w19 ⟨rfl, hb⟩
   refine ⟨_, rfl, ?_⟩
   have n0_ := Aside0.mk (blk_below (bk_ BK29) hb)
   have n1_ := Aside0.mk (below_step bl_ hb)
   clear BK29
   clear HB
   have BK29 := n0_
   have HB := n1_
   clear n0_ n1_
   (try clear hb)
   (try clear hb2)
   (try clear hk)
   (try clear hi)
   refine hK.out _ _ ⟨cy_ BK29 0, cy_ BK29 1, cy_ BK29 2, cy_ BK29 3, cy_ BK29 4, cy_ BK29 5, cy_ BK29 6, cy_ BK29 7⟩ (fun hHeld => ?_)
   clear hK K
   refine norm_ (a' := ?_) ?_ ?_
   rotate_left
   ·show Act.put _ (some 12) _ = _
    simp only [Act.put, q_]
    rfl
   refine pl_ HT_ 10 13 tb30_7ff ?_
   refine pl_ HT_ 11 14 tb30_fff ?_
   refine pl_ HT_ 12 15 tb30_1fff ?_
   refine pr_ HT_ 13 16 tb30_3fff ?_
   refine pr_ HT_ 14 17 tb30_7fff ?_
   refine pr_ HT_ 15 18 tb30_ffff ?_
   refine pr_ HT_ 16 19 tb30_1ffff ?_
   refine pl_ HT_ 17 20 tb30_3ffff ?_
   refine pl_ HT_ 18 21 tb30_7ffff ?_
   refine pr_ HT_ 19 22 tb30_fffff ?_
   refine pr_ HT_ 20 23 tb30_1fffff ?_
   refine pr_ HT_ 21 24 tb30_3fffff ?_
   refine pr_ HT_ 22 25 tb30_7fffff ?_
   refine pl_ HT_ 23 26 tb30_ffffff ?_
   refine pl_ HT_ 24 27 tb30_1ffffff ?_
   refine pr_ HT_ 25 28 tb30_3ffffff ?_
   refine pr_ HT_ 26 29 tb30_7ffffff ?_
   refine pr_ HT_ 27 30 tb30_fffffff ?_
   refine pr_ HT_ 28 31 tb30_1fffffff ?_
   refine pl_ HT_ 29 32 tb30_3fffffff ?_
   refine done_ (done_of HT_.out (by kernel_rfl)) ?_
   try go_wp2
   go_meet
   case rel => exact ⟨_, (true), sp_, H', ⟨by first | omega | exact Nat.le_refl _⟩, ⟨ch_ BK29.out⟩, ⟨bl_⟩⟩
  rw [if_pos c7] at H
  have c7b0 := et_ c7
  have c7b1 := nf_ c7
  clear c7
  (first | rw [c7b0] | (simp only [i64_w, i32_w]; rw [c7b0]) | skip)
  obtain ⟨t75, A8, H⟩ := ob_ H
  by_cases c9 : t75 = true
  rotate_left
  ·replace c9 := gf_ c9
   subst c9
   replace H := in_ H
   have H' := Aside0.mk H
   clear H
   try go_wp2
   have n0_ := Aside0.mk (blk_drew BK29.out)
   have n1_ := Aside0.mk (below_drew1 HB.out)
   clear BK29
   clear HB
   have BK29 := n0_
   have HB := n1_
   clear n0_ n1_
   refine start_ (n := 30) (S := fun w' => w'.cell? ⟨gb29, 0, none⟩ = some (.int .i64 a0_0) ∧ w'.cell? ⟨gb29, 1, none⟩ = some (.string a0_1) ∧ w'.cell? ⟨gb29, 2, none⟩ = some (.string a0_2) ∧ w'.cell? ⟨gb29, 3, none⟩ = some (.string a0_3) ∧ w'.cell? ⟨gb29, 4, none⟩ = some (.string a0_4) ∧ w'.cell? ⟨gb29, 5, none⟩ = some (.string a0_5) ∧ w'.cell? ⟨gb29, 6, none⟩ = some (.int .i64 a0_6) ∧ w'.cell? ⟨gb29, 7, none⟩ = some (.int .i64 a0_7)) (ds := []) tb30_0 (by kernel_rfl) rfl rfl ⟨cy_ BK29 0, cy_ BK29 1, cy_ BK29 2, cy_ BK29 3, cy_ BK29 4, cy_ BK29 5, cy_ BK29 6, cy_ BK29 7⟩ (fun hHeld => ?_); refine with_tabW spec_ReqOk.tab1 spec_ReqOk.bits1 (fun HT_ HW_ => ?_)
   generalize w3.drew = w16 at BK29 HB hHeld ⊢
   refine pl_ HT_ 0 3 tb30_1 ?_
   refine take_ (i := 1) (N := some 4) (v := ?_) (a' := ?_) tb30_3 rfl rfl (take_ofW HT_.out HW_.out (by kernel_rfl)) (fun _ _ _ h => h) (Or.inl ⟨by rfl, ?_⟩) hHeld ?_ ?_
   rotate_left
   ·rintro w' ⟨s0, s1, s2, s3, s4, s5, s6, s7⟩
    go_simp
    with_reducible rfl
   rotate_left
   ·simp only [Act.put, q_]
    rfl
   refine one_ (i := 2) (N := some 5) tb30_7 rfl rfl (one_of HT_.out (by kernel_rfl)) (by decide) (fun K hK => ?_)
   refine goes_ func80 (by kernel_rfl) rfl #[.int .i64 a0_0] (by rfl) rfl rfl gl_ ?_
   with_reducible refine (spec_l11Op.calls a0_0 true _ A4.out).mono ?_
   rintro e w' ⟨rfl, nd, rfl⟩
   refine ⟨_, rfl, ?_⟩
   refine hK.out _ _ ⟨cy_ BK29 0, cy_ BK29 1, cy_ BK29 2, cy_ BK29 3, cy_ BK29 4, cy_ BK29 5, cy_ BK29 6, cy_ BK29 7⟩ (fun hHeld => ?_)
   clear hK K
   refine norm_ (a' := ?_) ?_ ?_
   rotate_left
   ·show Act.put _ (some 5) _ = _
    simp only [Act.put, q_]
    rfl
   refine pl_ HT_ 3 6 tb30_f ?_
   refine pl_ HT_ 4 7 tb30_1f ?_
   refine pl_ HT_ 5 8 tb30_3f ?_
   refine pl_ HT_ 7 10 tb30_bf ?_
   refine take_ (i := 6) (N := some 9) (v := ?_) (a' := ?_) tb30_ff rfl rfl (take_ofW HT_.out HW_.out (by kernel_rfl)) (fun _ _ _ h => h) (Or.inl ⟨by rfl, ?_⟩) hHeld ?_ ?_
   rotate_left
   ·rintro w' ⟨s0, s1, s2, s3, s4, s5, s6, s7⟩
    go_simp
    with_reducible rfl
   rotate_left
   ·simp only [Act.put, q_]
    rfl
   refine take_ (i := 8) (N := some 11) (v := ?_) (a' := ?_) tb30_1ff rfl rfl (take_ofW HT_.out HW_.out (by kernel_rfl)) (fun _ _ _ h => h) (Or.inl ⟨by rfl, ?_⟩) hHeld ?_ ?_
   rotate_left
   ·rintro w' ⟨s0, s1, s2, s3, s4, s5, s6, s7⟩
    go_simp
    with_reducible rfl
   rotate_left
   ·simp only [Act.put, q_]
    rfl
   refine one_ (i := 9) (N := some 12) tb30_3ff rfl rfl (one_of HT_.out (by kernel_rfl)) (by decide) (fun K hK => ?_)
   refine goes_ func78 (by kernel_rfl) rfl #[.int .i64 a0_0] (by rfl) rfl rfl gl_ ?_
   with_reducible refine (spec_OpMti.calls a0_0 t50 _ A6.out).mono ?_
   rintro e w17 ⟨rfl, hb⟩
   refine ⟨_, rfl, ?_⟩
   have n0_ := Aside0.mk (blk_below (bk_ BK29) hb)
   have n1_ := Aside0.mk (below_step bl_ hb)
   clear BK29
   clear HB
   have BK29 := n0_
   have HB := n1_
   clear n0_ n1_
   (try clear hb)
   (try clear hb2)
   (try clear hk)
   (try clear hi)
   refine hK.out _ _ ⟨cy_ BK29 0, cy_ BK29 1, cy_ BK29 2, cy_ BK29 3, cy_ BK29 4, cy_ BK29 5, cy_ BK29 6, cy_ BK29 7⟩ (fun hHeld => ?_)
   clear hK K
   refine norm_ (a' := ?_) ?_ ?_
   rotate_left
   ·show Act.put _ (some 12) _ = _
    simp only [Act.put, q_]
    rfl
   refine pl_ HT_ 10 13 tb30_7ff ?_
   refine pl_ HT_ 11 14 tb30_fff ?_
   refine pl_ HT_ 12 15 tb30_1fff ?_
   refine pl_ HT_ 13 16 tb30_3fff ?_
   refine take_ (i := 14) (N := some 17) (v := ?_) (a' := ?_) tb30_7fff rfl rfl (take_ofW HT_.out HW_.out (by kernel_rfl)) (fun _ _ _ h => h) (Or.inl ⟨by rfl, ?_⟩) hHeld ?_ ?_
   rotate_left
   ·rintro w' ⟨s0, s1, s2, s3, s4, s5, s6, s7⟩
    go_simp
    with_reducible rfl
   rotate_left
   ·simp only [Act.put, q_]
    rfl
   refine one_ (i := 15) (N := some 18) tb30_ffff rfl rfl (one_of HT_.out (by kernel_rfl)) (by decide) (fun K hK => ?_)
   refine goes_ func81 (by kernel_rfl) rfl #[.string a0_1] (by rfl) rfl rfl gl_ ?_
   with_reducible refine (spec_AcctIdOk.calls k a0_1 false _ A8.out).mono ?_
   rintro e w' ⟨rfl, nd, rfl⟩
   refine ⟨_, rfl, ?_⟩
   refine hK.out _ _ ⟨cy_ BK29 0, cy_ BK29 1, cy_ BK29 2, cy_ BK29 3, cy_ BK29 4, cy_ BK29 5, cy_ BK29 6, cy_ BK29 7⟩ (fun hHeld => ?_)
   clear hK K
   refine norm_ (a' := ?_) ?_ ?_
   rotate_left
   ·show Act.put _ (some 18) _ = _
    simp only [Act.put, q_]
    rfl
   refine pl_ HT_ 16 19 tb30_1ffff ?_
   refine pl_ HT_ 17 20 tb30_3ffff ?_
   refine pl_ HT_ 18 21 tb30_7ffff ?_
   refine pr_ HT_ 19 22 tb30_fffff ?_
   refine pr_ HT_ 20 23 tb30_1fffff ?_
   refine pr_ HT_ 21 24 tb30_3fffff ?_
   refine pr_ HT_ 22 25 tb30_7fffff ?_
   refine pl_ HT_ 23 26 tb30_ffffff ?_
   refine pl_ HT_ 24 27 tb30_1ffffff ?_
   refine pr_ HT_ 25 28 tb30_3ffffff ?_
   refine pr_ HT_ 26 29 tb30_7ffffff ?_
   refine pr_ HT_ 27 30 tb30_fffffff ?_
   refine pr_ HT_ 28 31 tb30_1fffffff ?_
   refine pl_ HT_ 29 32 tb30_3fffffff ?_
   refine done_ (done_of HT_.out (by kernel_rfl)) ?_
   try go_wp2
   go_meet
   case rel => exact ⟨_, (true), sp_, H', ⟨by first | omega | exact Nat.le_refl _⟩, ⟨ch_ BK29.out⟩, ⟨bl_⟩⟩
  subst c9
  replace H := ip_ H
  obtain ⟨t76, A10, H⟩ := ob_ H
  by_cases c11 : t76 = true
  ·subst c11
   replace H := ip_ H
   have H' := Aside0.mk H
   clear H
   try go_wp2
   have n0_ := Aside0.mk (blk_drew BK29.out)
   have n1_ := Aside0.mk (below_drew1 HB.out)
   clear BK29
   clear HB
   have BK29 := n0_
   have HB := n1_
   clear n0_ n1_
   refine start_ (n := 30) (S := fun w' => w'.cell? ⟨gb29, 0, none⟩ = some (.int .i64 a0_0) ∧ w'.cell? ⟨gb29, 1, none⟩ = some (.string a0_1) ∧ w'.cell? ⟨gb29, 2, none⟩ = some (.string a0_2) ∧ w'.cell? ⟨gb29, 3, none⟩ = some (.string a0_3) ∧ w'.cell? ⟨gb29, 4, none⟩ = some (.string a0_4) ∧ w'.cell? ⟨gb29, 5, none⟩ = some (.string a0_5) ∧ w'.cell? ⟨gb29, 6, none⟩ = some (.int .i64 a0_6) ∧ w'.cell? ⟨gb29, 7, none⟩ = some (.int .i64 a0_7)) (ds := []) tb30_0 (by kernel_rfl) rfl rfl ⟨cy_ BK29 0, cy_ BK29 1, cy_ BK29 2, cy_ BK29 3, cy_ BK29 4, cy_ BK29 5, cy_ BK29 6, cy_ BK29 7⟩ (fun hHeld => ?_); refine with_tabW spec_ReqOk.tab1 spec_ReqOk.bits1 (fun HT_ HW_ => ?_)
   generalize w3.drew = w12 at BK29 HB hHeld ⊢
   refine pl_ HT_ 0 3 tb30_1 ?_
   refine take_ (i := 1) (N := some 4) (v := ?_) (a' := ?_) tb30_3 rfl rfl (take_ofW HT_.out HW_.out (by kernel_rfl)) (fun _ _ _ h => h) (Or.inl ⟨by rfl, ?_⟩) hHeld ?_ ?_
   rotate_left
   ·rintro w' ⟨s0, s1, s2, s3, s4, s5, s6, s7⟩
    go_simp
    with_reducible rfl
   rotate_left
   ·simp only [Act.put, q_]
    rfl
   refine one_ (i := 2) (N := some 5) tb30_7 rfl rfl (one_of HT_.out (by kernel_rfl)) (by decide) (fun K hK => ?_)
   refine goes_ func80 (by kernel_rfl) rfl #[.int .i64 a0_0] (by rfl) rfl rfl gl_ ?_
   with_reducible refine (spec_l11Op.calls a0_0 true _ A4.out).mono ?_
   rintro e w' ⟨rfl, nd, rfl⟩
   refine ⟨_, rfl, ?_⟩
   refine hK.out _ _ ⟨cy_ BK29 0, cy_ BK29 1, cy_ BK29 2, cy_ BK29 3, cy_ BK29 4, cy_ BK29 5, cy_ BK29 6, cy_ BK29 7⟩ (fun hHeld => ?_)
   clear hK K
   refine norm_ (a' := ?_) ?_ ?_
   rotate_left
   ·show Act.put _ (some 5) _ = _
    simp only [Act.put, q_]
    rfl
   refine pl_ HT_ 3 6 tb30_f ?_
   refine pl_ HT_ 4 7 tb30_1f ?_
   refine pl_ HT_ 5 8 tb30_3f ?_
   refine pl_ HT_ 7 10 tb30_bf ?_
   refine take_ (i := 6) (N := some 9) (v := ?_) (a' := ?_) tb30_ff rfl rfl (take_ofW HT_.out HW_.out (by kernel_rfl)) (fun _ _ _ h => h) (Or.inl ⟨by rfl, ?_⟩) hHeld ?_ ?_
   rotate_left
   ·rintro w' ⟨s0, s1, s2, s3, s4, s5, s6, s7⟩
    go_simp
    with_reducible rfl
   rotate_left
   ·simp only [Act.put, q_]
    rfl
   refine take_ (i := 8) (N := some 11) (v := ?_) (a' := ?_) tb30_1ff rfl rfl (take_ofW HT_.out HW_.out (by kernel_rfl)) (fun _ _ _ h => h) (Or.inl ⟨by rfl, ?_⟩) hHeld ?_ ?_
   rotate_left
   ·rintro w' ⟨s0, s1, s2, s3, s4, s5, s6, s7⟩
    go_simp
    with_reducible rfl
   rotate_left
   ·simp only [Act.put, q_]
    rfl
   refine one_ (i := 9) (N := some 12) tb30_3ff rfl rfl (one_of HT_.out (by kernel_rfl)) (by decide) (fun K hK => ?_)
   refine goes_ func78 (by kernel_rfl) rfl #[.int .i64 a0_0] (by rfl) rfl rfl gl_ ?_
   with_reducible refine (spec_OpMti.calls a0_0 t50 _ A6.out).mono ?_
   rintro e w13 ⟨rfl, hb⟩
   refine ⟨_, rfl, ?_⟩
   have n0_ := Aside0.mk (blk_below (bk_ BK29) hb)
   have n1_ := Aside0.mk (below_step bl_ hb)
   clear BK29
   clear HB
   have BK29 := n0_
   have HB := n1_
   clear n0_ n1_
   (try clear hb)
   (try clear hb2)
   (try clear hk)
   (try clear hi)
   refine hK.out _ _ ⟨cy_ BK29 0, cy_ BK29 1, cy_ BK29 2, cy_ BK29 3, cy_ BK29 4, cy_ BK29 5, cy_ BK29 6, cy_ BK29 7⟩ (fun hHeld => ?_)
   clear hK K
   refine norm_ (a' := ?_) ?_ ?_
   rotate_left
   ·show Act.put _ (some 12) _ = _
    simp only [Act.put, q_]
    rfl
   refine pl_ HT_ 10 13 tb30_7ff ?_
   refine pl_ HT_ 11 14 tb30_fff ?_
   refine pl_ HT_ 12 15 tb30_1fff ?_
   refine pl_ HT_ 13 16 tb30_3fff ?_
   refine take_ (i := 14) (N := some 17) (v := ?_) (a' := ?_) tb30_7fff rfl rfl (take_ofW HT_.out HW_.out (by kernel_rfl)) (fun _ _ _ h => h) (Or.inl ⟨by rfl, ?_⟩) hHeld ?_ ?_
   rotate_left
   ·rintro w' ⟨s0, s1, s2, s3, s4, s5, s6, s7⟩
    go_simp
    with_reducible rfl
   rotate_left
   ·simp only [Act.put, q_]
    rfl
   refine one_ (i := 15) (N := some 18) tb30_ffff rfl rfl (one_of HT_.out (by kernel_rfl)) (by decide) (fun K hK => ?_)
   refine goes_ func81 (by kernel_rfl) rfl #[.string a0_1] (by rfl) rfl rfl gl_ ?_
   with_reducible refine (spec_AcctIdOk.calls k a0_1 true _ A8.out).mono ?_
   rintro e w' ⟨rfl, nd, rfl⟩
   refine ⟨_, rfl, ?_⟩
   refine hK.out _ _ ⟨cy_ BK29 0, cy_ BK29 1, cy_ BK29 2, cy_ BK29 3, cy_ BK29 4, cy_ BK29 5, cy_ BK29 6, cy_ BK29 7⟩ (fun hHeld => ?_)
   clear hK K
   refine norm_ (a' := ?_) ?_ ?_
   rotate_left
   ·show Act.put _ (some 18) _ = _
    simp only [Act.put, q_]
    rfl
   refine pl_ HT_ 16 19 tb30_1ffff ?_
   refine pl_ HT_ 17 20 tb30_3ffff ?_
   refine pl_ HT_ 18 21 tb30_7ffff ?_
   refine pl_ HT_ 19 22 tb30_fffff ?_
   refine take_ (i := 20) (N := some 23) (v := ?_) (a' := ?_) tb30_1fffff rfl rfl (take_ofW HT_.out HW_.out (by kernel_rfl)) (fun _ _ _ h => h) (Or.inl ⟨by rfl, ?_⟩) hHeld ?_ ?_
   rotate_left
   ·rintro w' ⟨s0, s1, s2, s3, s4, s5, s6, s7⟩
    go_simp
    with_reducible rfl
   rotate_left
   ·simp only [Act.put, q_]
    rfl
   refine one_ (i := 21) (N := some 24) tb30_3fffff rfl rfl (one_of HT_.out (by kernel_rfl)) (by decide) (fun K hK => ?_)
   refine goes_ func76 (by kernel_rfl) rfl #[.string a0_4] (by rfl) rfl rfl gl_ ?_
   with_reducible refine (spec_Digits.calls k a0_4 true _ A10.out).mono ?_
   rintro e w' ⟨rfl, nd, rfl⟩
   refine ⟨_, rfl, ?_⟩
   refine hK.out _ _ ⟨cy_ BK29 0, cy_ BK29 1, cy_ BK29 2, cy_ BK29 3, cy_ BK29 4, cy_ BK29 5, cy_ BK29 6, cy_ BK29 7⟩ (fun hHeld => ?_)
   clear hK K
   refine norm_ (a' := ?_) ?_ ?_
   rotate_left
   ·show Act.put _ (some 24) _ = _
    simp only [Act.put, q_]
    rfl
   refine pl_ HT_ 22 25 tb30_7fffff ?_
   refine pl_ HT_ 23 26 tb30_ffffff ?_
   refine pl_ HT_ 24 27 tb30_1ffffff ?_
   refine pl_ HT_ 25 28 tb30_3ffffff ?_
   refine take_ (i := 26) (N := some 29) (v := ?_) (a' := ?_) tb30_7ffffff rfl rfl (take_ofW HT_.out HW_.out (by kernel_rfl)) (fun _ _ _ h => h) (Or.inl ⟨by rfl, ?_⟩) hHeld ?_ ?_
   rotate_left
   ·rintro w' ⟨s0, s1, s2, s3, s4, s5, s6, s7⟩
    go_simp
    with_reducible rfl
   rotate_left
   ·simp only [Act.put, q_]
    rfl
   refine pl_ HT_ 27 30 tb30_fffffff ?_
   refine pl_ HT_ 28 31 tb30_1fffffff ?_
   refine pl_ HT_ 29 32 tb30_3fffffff ?_
   refine done_ (done_of HT_.out (by kernel_rfl)) ?_
   try go_wp2
   go_meet
   case rel => exact ⟨_, (((a0_4.size : Int) != 6)), sp_, H', ⟨by first | omega | exact Nat.le_refl _⟩, ⟨ch_ BK29.out⟩, ⟨bl_⟩⟩
  ·replace c11 := gf_ c11
   subst c11
   replace H := in_ H
   have H' := Aside0.mk H
   clear H
   try go_wp2
   have n0_ := Aside0.mk (blk_drew BK29.out)
   have n1_ := Aside0.mk (below_drew1 HB.out)
   clear BK29
   clear HB
   have BK29 := n0_
   have HB := n1_
   clear n0_ n1_
   refine start_ (n := 30) (S := fun w' => w'.cell? ⟨gb29, 0, none⟩ = some (.int .i64 a0_0) ∧ w'.cell? ⟨gb29, 1, none⟩ = some (.string a0_1) ∧ w'.cell? ⟨gb29, 2, none⟩ = some (.string a0_2) ∧ w'.cell? ⟨gb29, 3, none⟩ = some (.string a0_3) ∧ w'.cell? ⟨gb29, 4, none⟩ = some (.string a0_4) ∧ w'.cell? ⟨gb29, 5, none⟩ = some (.string a0_5) ∧ w'.cell? ⟨gb29, 6, none⟩ = some (.int .i64 a0_6) ∧ w'.cell? ⟨gb29, 7, none⟩ = some (.int .i64 a0_7)) (ds := []) tb30_0 (by kernel_rfl) rfl rfl ⟨cy_ BK29 0, cy_ BK29 1, cy_ BK29 2, cy_ BK29 3, cy_ BK29 4, cy_ BK29 5, cy_ BK29 6, cy_ BK29 7⟩ (fun hHeld => ?_); refine with_tabW spec_ReqOk.tab1 spec_ReqOk.bits1 (fun HT_ HW_ => ?_)
   generalize w3.drew = w14 at BK29 HB hHeld ⊢
   refine pl_ HT_ 0 3 tb30_1 ?_
   refine take_ (i := 1) (N := some 4) (v := ?_) (a' := ?_) tb30_3 rfl rfl (take_ofW HT_.out HW_.out (by kernel_rfl)) (fun _ _ _ h => h) (Or.inl ⟨by rfl, ?_⟩) hHeld ?_ ?_
   rotate_left
   ·rintro w' ⟨s0, s1, s2, s3, s4, s5, s6, s7⟩
    go_simp
    with_reducible rfl
   rotate_left
   ·simp only [Act.put, q_]
    rfl
   refine one_ (i := 2) (N := some 5) tb30_7 rfl rfl (one_of HT_.out (by kernel_rfl)) (by decide) (fun K hK => ?_)
   refine goes_ func80 (by kernel_rfl) rfl #[.int .i64 a0_0] (by rfl) rfl rfl gl_ ?_
   with_reducible refine (spec_l11Op.calls a0_0 true _ A4.out).mono ?_
   rintro e w' ⟨rfl, nd, rfl⟩
   refine ⟨_, rfl, ?_⟩
   refine hK.out _ _ ⟨cy_ BK29 0, cy_ BK29 1, cy_ BK29 2, cy_ BK29 3, cy_ BK29 4, cy_ BK29 5, cy_ BK29 6, cy_ BK29 7⟩ (fun hHeld => ?_)
   clear hK K
   refine norm_ (a' := ?_) ?_ ?_
   rotate_left
   ·show Act.put _ (some 5) _ = _
    simp only [Act.put, q_]
    rfl
   refine pl_ HT_ 3 6 tb30_f ?_
   refine pl_ HT_ 4 7 tb30_1f ?_
   refine pl_ HT_ 5 8 tb30_3f ?_
   refine pl_ HT_ 7 10 tb30_bf ?_
   refine take_ (i := 6) (N := some 9) (v := ?_) (a' := ?_) tb30_ff rfl rfl (take_ofW HT_.out HW_.out (by kernel_rfl)) (fun _ _ _ h => h) (Or.inl ⟨by rfl, ?_⟩) hHeld ?_ ?_
   rotate_left
   ·rintro w' ⟨s0, s1, s2, s3, s4, s5, s6, s7⟩
    go_simp
    with_reducible rfl
   rotate_left
   ·simp only [Act.put, q_]
    rfl
   refine take_ (i := 8) (N := some 11) (v := ?_) (a' := ?_) tb30_1ff rfl rfl (take_ofW HT_.out HW_.out (by kernel_rfl)) (fun _ _ _ h => h) (Or.inl ⟨by rfl, ?_⟩) hHeld ?_ ?_
   rotate_left
   ·rintro w' ⟨s0, s1, s2, s3, s4, s5, s6, s7⟩
    go_simp
    with_reducible rfl
   rotate_left
   ·simp only [Act.put, q_]
    rfl
   refine one_ (i := 9) (N := some 12) tb30_3ff rfl rfl (one_of HT_.out (by kernel_rfl)) (by decide) (fun K hK => ?_)
   refine goes_ func78 (by kernel_rfl) rfl #[.int .i64 a0_0] (by rfl) rfl rfl gl_ ?_
   with_reducible refine (spec_OpMti.calls a0_0 t50 _ A6.out).mono ?_
   rintro e w15 ⟨rfl, hb⟩
   refine ⟨_, rfl, ?_⟩
   have n0_ := Aside0.mk (blk_below (bk_ BK29) hb)
   have n1_ := Aside0.mk (below_step bl_ hb)
   clear BK29
   clear HB
   have BK29 := n0_
   have HB := n1_
   clear n0_ n1_
   (try clear hb)
   (try clear hb2)
   (try clear hk)
   (try clear hi)
   refine hK.out _ _ ⟨cy_ BK29 0, cy_ BK29 1, cy_ BK29 2, cy_ BK29 3, cy_ BK29 4, cy_ BK29 5, cy_ BK29 6, cy_ BK29 7⟩ (fun hHeld => ?_)
   clear hK K
   refine norm_ (a' := ?_) ?_ ?_
   rotate_left
   ·show Act.put _ (some 12) _ = _
    simp only [Act.put, q_]
    rfl
   refine pl_ HT_ 10 13 tb30_7ff ?_
   refine pl_ HT_ 11 14 tb30_fff ?_
   refine pl_ HT_ 12 15 tb30_1fff ?_
   refine pl_ HT_ 13 16 tb30_3fff ?_
   refine take_ (i := 14) (N := some 17) (v := ?_) (a' := ?_) tb30_7fff rfl rfl (take_ofW HT_.out HW_.out (by kernel_rfl)) (fun _ _ _ h => h) (Or.inl ⟨by rfl, ?_⟩) hHeld ?_ ?_
   rotate_left
   ·rintro w' ⟨s0, s1, s2, s3, s4, s5, s6, s7⟩
    go_simp
    with_reducible rfl
   rotate_left
   ·simp only [Act.put, q_]
    rfl
   refine one_ (i := 15) (N := some 18) tb30_ffff rfl rfl (one_of HT_.out (by kernel_rfl)) (by decide) (fun K hK => ?_)
   refine goes_ func81 (by kernel_rfl) rfl #[.string a0_1] (by rfl) rfl rfl gl_ ?_
   with_reducible refine (spec_AcctIdOk.calls k a0_1 true _ A8.out).mono ?_
   rintro e w' ⟨rfl, nd, rfl⟩
   refine ⟨_, rfl, ?_⟩
   refine hK.out _ _ ⟨cy_ BK29 0, cy_ BK29 1, cy_ BK29 2, cy_ BK29 3, cy_ BK29 4, cy_ BK29 5, cy_ BK29 6, cy_ BK29 7⟩ (fun hHeld => ?_)
   clear hK K
   refine norm_ (a' := ?_) ?_ ?_
   rotate_left
   ·show Act.put _ (some 18) _ = _
    simp only [Act.put, q_]
    rfl
   refine pl_ HT_ 16 19 tb30_1ffff ?_
   refine pl_ HT_ 17 20 tb30_3ffff ?_
   refine pl_ HT_ 18 21 tb30_7ffff ?_
   refine pl_ HT_ 19 22 tb30_fffff ?_
   refine take_ (i := 20) (N := some 23) (v := ?_) (a' := ?_) tb30_1fffff rfl rfl (take_ofW HT_.out HW_.out (by kernel_rfl)) (fun _ _ _ h => h) (Or.inl ⟨by rfl, ?_⟩) hHeld ?_ ?_
   rotate_left
   ·rintro w' ⟨s0, s1, s2, s3, s4, s5, s6, s7⟩
    go_simp
    with_reducible rfl
   rotate_left
   ·simp only [Act.put, q_]
    rfl
   refine one_ (i := 21) (N := some 24) tb30_3fffff rfl rfl (one_of HT_.out (by kernel_rfl)) (by decide) (fun K hK => ?_)
   refine goes_ func76 (by kernel_rfl) rfl #[.string a0_4] (by rfl) rfl rfl gl_ ?_
   with_reducible refine (spec_Digits.calls k a0_4 false _ A10.out).mono ?_
   rintro e w' ⟨rfl, nd, rfl⟩
   refine ⟨_, rfl, ?_⟩
   refine hK.out _ _ ⟨cy_ BK29 0, cy_ BK29 1, cy_ BK29 2, cy_ BK29 3, cy_ BK29 4, cy_ BK29 5, cy_ BK29 6, cy_ BK29 7⟩ (fun hHeld => ?_)
   clear hK K
   refine norm_ (a' := ?_) ?_ ?_
   rotate_left
   ·show Act.put _ (some 24) _ = _
    simp only [Act.put, q_]
    rfl
   refine pl_ HT_ 22 25 tb30_7fffff ?_
   refine pl_ HT_ 23 26 tb30_ffffff ?_
   refine pl_ HT_ 24 27 tb30_1ffffff ?_
   refine pr_ HT_ 25 28 tb30_3ffffff ?_
   refine pr_ HT_ 26 29 tb30_7ffffff ?_
   refine pr_ HT_ 27 30 tb30_fffffff ?_
   refine pr_ HT_ 28 31 tb30_1fffffff ?_
   refine pl_ HT_ 29 32 tb30_3fffffff ?_
   refine done_ (done_of HT_.out (by kernel_rfl)) ?_
   try go_wp2
   go_meet
   case rel => exact ⟨_, (true), sp_, H', ⟨by first | omega | exact Nat.le_refl _⟩, ⟨ch_ BK29.out⟩, ⟨bl_⟩⟩
 case rest =>
  clear HC2
  obtain ⟨kq, x32_1, rfl, HA, HJ1, BK29, HB⟩ := hcut
  cases kq with
  | zero => exact absurd HA.out (by simp [spec_ReqOk.j0])
  | succ kj1 =>
   have H := HA.out
   clear HA
   simp only [spec_ReqOk.j0] at H
   by_cases c21 : x32_1 = true
   ·subst c21
    replace H := ip_ H
    obtain rfl := si_ H
    go_wp2
    go_ret
    exact ⟨sq_, bl_⟩
   replace c21 := gf_ c21
   subst c21
   replace H := in_ H
   have HC22 := Aside0.mk H
   clear H
   go_upto_region 3 with (fail)
   go_cut [52] (fun v52 wc => ∃ (kq : Nat) (x52_21 : Bool), v52 = .bool x52_21 ∧ Aside0 (spec_ReqOk.j1 kq x52_21 a0_0 a0_1 a0_2 a0_3 a0_4 a0_5 a0_6 a0_7 = some r) ∧ Aside0 (kq ≤ kj1) ∧ Aside0 (wc.heap[gb29]? = some (.cells #[.int .i64 a0_0, .string a0_1, .string a0_2, .string a0_3, .string a0_4, .string a0_5, .int .i64 a0_6, .int .i64 a0_7] 27 (0, 0))) ∧ Aside0 (Below w.heap.size w wc))
   case first =>
    have H := HC22.out
    clear HC22
    obtain ⟨t58, A23, H⟩ := ob_ H
    by_cases c24 : t58 = true
    ·subst c24
     replace H := ip_ H
     obtain ⟨t59, A25, H⟩ := ob_ H
     by_cases c26 : t59 = true
     ·subst c26
      replace H := ip_ H
      obtain ⟨t60, A27, H⟩ := ob_ H
      by_cases c28 : t60 = true
      ·subst c28
       replace H := ip_ H
       have H' := Aside0.mk H
       clear H
       refine by8_ BK29 ?_; intros
       go_wp2_with (first | ((with_reducible refine gd_ 40 35 func40 #[.int .i64 a0_0] (spec_l11Hold.calls a0_0 true _ A23.out) fun nd => ?_)) | (go_at_call 82; (with_reducible refine (spec_HoldIdOk.calls kj1 a0_3 true _ A25.out).mono ?_); rintro e w' ⟨rfl, nd, rfl⟩) | (go_at_call 40; (with_reducible refine (spec_l11Hold.calls a0_0 true _ A27.out).mono ?_); rintro e w' ⟨rfl, nd, rfl⟩))
       go_meet
       case rel => exact ⟨_, (false), sp_, H', ⟨by have := HJ1.out; first | omega | exact Nat.le_refl _⟩, ⟨ch_ BK29.out⟩, ⟨bl_⟩⟩
      replace c28 := gf_ c28
      subst c28
      replace H := in_ H
      have H' := Aside0.mk H
      clear H
      refine by8_ BK29 ?_; intros
      go_wp2_with (first | ((with_reducible refine gd_ 40 35 func40 #[.int .i64 a0_0] (spec_l11Hold.calls a0_0 true _ A23.out) fun nd => ?_)) | (go_at_call 82; (with_reducible refine (spec_HoldIdOk.calls kj1 a0_3 true _ A25.out).mono ?_); rintro e w' ⟨rfl, nd, rfl⟩) | (go_at_call 40; (with_reducible refine (spec_l11Hold.calls a0_0 false _ A27.out).mono ?_); rintro e w' ⟨rfl, nd, rfl⟩))
      go_meet
      case rel => exact ⟨_, ((a0_3.toList != ([] : List UInt8))), sp_, H', ⟨by have := HJ1.out; first | omega | exact Nat.le_refl _⟩, ⟨ch_ BK29.out⟩, ⟨bl_⟩⟩
     ·replace c26 := gf_ c26
      subst c26
      replace H := in_ H
      have H' := Aside0.mk H
      clear H
      refine by8_ BK29 ?_; intros
      go_wp2_with (first | ((with_reducible refine gd_ 40 35 func40 #[.int .i64 a0_0] (spec_l11Hold.calls a0_0 true _ A23.out) fun nd => ?_)) | (go_at_call 82; (with_reducible refine (spec_HoldIdOk.calls kj1 a0_3 false _ A25.out).mono ?_); rintro e w' ⟨rfl, nd, rfl⟩))
      go_meet
      case rel => exact ⟨_, (true), sp_, H', ⟨by have := HJ1.out; first | omega | exact Nat.le_refl _⟩, ⟨ch_ BK29.out⟩, ⟨bl_⟩⟩
    ·replace c24 := gf_ c24
     subst c24
     replace H := in_ H
     obtain ⟨t61, A32, H⟩ := ob_ H
     by_cases c33 : t61 = true
     ·subst c33
      replace H := ip_ H
      have H' := Aside0.mk H
      clear H
      refine by8_ BK29 ?_; intros
      go_wp2_with (first | ((with_reducible refine gd_ 40 35 func40 #[.int .i64 a0_0] (spec_l11Hold.calls a0_0 false _ A23.out) fun nd => ?_)) | (go_at_call 40; (with_reducible refine (spec_l11Hold.calls a0_0 true _ A32.out).mono ?_); rintro e w' ⟨rfl, nd, rfl⟩))
      go_meet
      case rel => exact ⟨_, (false), sp_, H', ⟨by have := HJ1.out; first | omega | exact Nat.le_refl _⟩, ⟨ch_ BK29.out⟩, ⟨bl_⟩⟩
     replace c33 := gf_ c33
     subst c33
     replace H := in_ H
     have H' := Aside0.mk H
     clear H
     refine by8_ BK29 ?_; intros
     go_wp2_with (first | ((with_reducible refine gd_ 40 35 func40 #[.int .i64 a0_0] (spec_l11Hold.calls a0_0 false _ A23.out) fun nd => ?_)) | (go_at_call 40; (with_reducible refine (spec_l11Hold.calls a0_0 false _ A32.out).mono ?_); rintro e w' ⟨rfl, nd, rfl⟩))
     go_meet
     case rel => exact ⟨_, ((a0_3.toList != ([] : List UInt8))), sp_, H', ⟨by have := HJ1.out; first | omega | exact Nat.le_refl _⟩, ⟨ch_ BK29.out⟩, ⟨bl_⟩⟩
   case rest =>
    clear HC22
    obtain ⟨kq, x52_21, rfl, HA, HJ21, BK29, HB⟩ := hcut
    cases kq with
    | zero => exact absurd HA.out (by simp [spec_ReqOk.j1])
    | succ kj21 =>
     have H := HA.out
     clear HA
     simp only [spec_ReqOk.j1] at H
     by_cases c36 : x52_21 = true
     ·subst c36
      replace H := ip_ H
      obtain rfl := si_ H
      go_wp2
      go_ret
      exact ⟨sq_, bl_⟩
     replace c36 := gf_ c36
     subst c36
     replace H := in_ H
     have HC37 := Aside0.mk H
     clear H
     go_upto_region 5 with (fail)
     go_cut [72] (fun v72 wc => ∃ (kq : Nat) (x72_36 : Bool), v72 = .bool x72_36 ∧ Aside0 (spec_ReqOk.j2 kq x72_36 a0_0 a0_1 a0_2 a0_3 a0_4 a0_5 a0_6 a0_7 = some r) ∧ Aside0 (kq ≤ kj21) ∧ Aside0 (wc.heap[gb29]? = some (.cells #[.int .i64 a0_0, .string a0_1, .string a0_2, .string a0_3, .string a0_4, .string a0_5, .int .i64 a0_6, .int .i64 a0_7] 27 (0, 0))) ∧ Aside0 (Below w.heap.size w wc))
     case first =>
      have H := HC37.out
      clear HC37
      obtain ⟨t66, A38, H⟩ := ob_ H
      by_cases c39 : t66 = true
      ·subst c39
       replace H := ip_ H
       obtain ⟨t67, A40, H⟩ := ob_ H
       by_cases c41 : t67 = true
       ·subst c41
        replace H := ip_ H
        obtain ⟨t68, A42, H⟩ := ob_ H
        by_cases c43 : t68 = true
        ·subst c43
         replace H := ip_ H
         have H' := Aside0.mk H
         clear H
         refine by8_ BK29 ?_; intros
         go_wp2_with (first | ((with_reducible refine gd_ 42 55 func42 #[.int .i64 a0_0] (spec_l11Amount.calls a0_0 true _ A38.out) fun nd => ?_)) | (go_at_call 67; (with_reducible refine (spec_l01In.calls a0_6 0 999999999999 true _ A40.out).mono ?_); rintro e w' ⟨rfl, nd, rfl⟩) | (go_at_call 42; (with_reducible refine (spec_l11Amount.calls a0_0 true _ A42.out).mono ?_); rintro e w' ⟨rfl, nd, rfl⟩))
         go_meet
         case rel => exact ⟨_, (false), sp_, H', ⟨by have := HJ1.out; have := HJ21.out; first | omega | exact Nat.le_refl _⟩, ⟨ch_ BK29.out⟩, ⟨bl_⟩⟩
        replace c43 := gf_ c43
        subst c43
        replace H := in_ H
        have H' := Aside0.mk H
        clear H
        refine by8_ BK29 ?_; intros
        go_wp2_with (first | ((with_reducible refine gd_ 42 55 func42 #[.int .i64 a0_0] (spec_l11Amount.calls a0_0 true _ A38.out) fun nd => ?_)) | (go_at_call 67; (with_reducible refine (spec_l01In.calls a0_6 0 999999999999 true _ A40.out).mono ?_); rintro e w' ⟨rfl, nd, rfl⟩) | (go_at_call 42; (with_reducible refine (spec_l11Amount.calls a0_0 false _ A42.out).mono ?_); rintro e w' ⟨rfl, nd, rfl⟩))
        go_meet
        case rel => exact ⟨_, ((a0_6 != 0)), sp_, H', ⟨by have := HJ1.out; have := HJ21.out; first | omega | exact Nat.le_refl _⟩, ⟨ch_ BK29.out⟩, ⟨bl_⟩⟩
       ·replace c41 := gf_ c41
        subst c41
        replace H := in_ H
        have H' := Aside0.mk H
        clear H
        refine by8_ BK29 ?_; intros
        go_wp2_with (first | ((with_reducible refine gd_ 42 55 func42 #[.int .i64 a0_0] (spec_l11Amount.calls a0_0 true _ A38.out) fun nd => ?_)) | (go_at_call 67; (with_reducible refine (spec_l01In.calls a0_6 0 999999999999 false _ A40.out).mono ?_); rintro e w' ⟨rfl, nd, rfl⟩))
        go_meet
        case rel => exact ⟨_, (true), sp_, H', ⟨by have := HJ1.out; have := HJ21.out; first | omega | exact Nat.le_refl _⟩, ⟨ch_ BK29.out⟩, ⟨bl_⟩⟩
      ·replace c39 := gf_ c39
       subst c39
       replace H := in_ H
       obtain ⟨t69, A47, H⟩ := ob_ H
       by_cases c48 : t69 = true
       ·subst c48
        replace H := ip_ H
        have H' := Aside0.mk H
        clear H
        refine by8_ BK29 ?_; intros
        go_wp2_with (first | ((with_reducible refine gd_ 42 55 func42 #[.int .i64 a0_0] (spec_l11Amount.calls a0_0 false _ A38.out) fun nd => ?_)) | (go_at_call 42; (with_reducible refine (spec_l11Amount.calls a0_0 true _ A47.out).mono ?_); rintro e w' ⟨rfl, nd, rfl⟩))
        go_meet
        case rel => exact ⟨_, (false), sp_, H', ⟨by have := HJ1.out; have := HJ21.out; first | omega | exact Nat.le_refl _⟩, ⟨ch_ BK29.out⟩, ⟨bl_⟩⟩
       replace c48 := gf_ c48
       subst c48
       replace H := in_ H
       have H' := Aside0.mk H
       clear H
       refine by8_ BK29 ?_; intros
       go_wp2_with (first | ((with_reducible refine gd_ 42 55 func42 #[.int .i64 a0_0] (spec_l11Amount.calls a0_0 false _ A38.out) fun nd => ?_)) | (go_at_call 42; (with_reducible refine (spec_l11Amount.calls a0_0 false _ A47.out).mono ?_); rintro e w' ⟨rfl, nd, rfl⟩))
       go_meet
       case rel => exact ⟨_, ((a0_6 != 0)), sp_, H', ⟨by have := HJ1.out; have := HJ21.out; first | omega | exact Nat.le_refl _⟩, ⟨ch_ BK29.out⟩, ⟨bl_⟩⟩
     case rest =>
      clear HC37
      obtain ⟨kq, x72_36, rfl, HA, HJ36, BK29, HB⟩ := hcut
      cases kq with
      | zero => exact absurd HA.out (by simp [spec_ReqOk.j2])
      | succ kj36 =>
       have H := HA.out
       clear HA
       simp only [spec_ReqOk.j2] at H
       by_cases c51 : x72_36 = true
       ·subst c51
        replace H := ip_ H
        obtain rfl := si_ H
        go_wp2
        go_ret
        exact ⟨sq_, bl_⟩
       replace c51 := gf_ c51
       subst c51
       replace H := in_ H
       by_cases c52 : a0_0 = 1
       ·rw [if_pos c52] at H
        have := et_ c52
        replace c52 := nf_ c52
        obtain ⟨t70, A53, H⟩ := ob_ H
        by_cases c54 : t70 = true
        ·subst c54
         replace H := ip_ H
         by_cases c55 : a0_0 = 6
         ·rw [if_pos c55] at H
          have := et_ c55
          replace c55 := nf_ c55
          obtain ⟨t71, A56, H⟩ := ob_ H
          by_cases c57 : t71 = true
          ·subst c57
           replace H := ip_ H
           obtain rfl := si_ H
           refine by8_ BK29 ?_; intros
           go_wp2_with (first | (go_at_call 67; (with_reducible refine (spec_l01In.calls a0_7 0 9999 true _ A53.out).mono ?_); rintro e w' ⟨rfl, nd, rfl⟩) | (go_at_call 81; (with_reducible refine (spec_AcctIdOk.calls kj36 a0_2 true _ A56.out).mono ?_); rintro e w' ⟨rfl, nd, rfl⟩))
           go_ret
           exact ⟨sq_, bl_⟩
          replace c57 := gf_ c57
          subst c57
          replace H := in_ H
          obtain rfl := si_ H
          refine by8_ BK29 ?_; intros
          go_wp2_with (first | (go_at_call 67; (with_reducible refine (spec_l01In.calls a0_7 0 9999 true _ A53.out).mono ?_); rintro e w' ⟨rfl, nd, rfl⟩) | (go_at_call 81; (with_reducible refine (spec_AcctIdOk.calls kj36 a0_2 false _ A56.out).mono ?_); rintro e w' ⟨rfl, nd, rfl⟩))
          go_ret
          exact ⟨sq_, bl_⟩
         ·rw [if_neg c55] at H
          have c55b0 := ef_ c55
          have c55b1 := nt_ c55
          obtain rfl := si_ H
          refine by8_ BK29 ?_; intros
          go_wp2_with (first | (go_at_call 67; (with_reducible refine (spec_l01In.calls a0_7 0 9999 true _ A53.out).mono ?_); rintro e w' ⟨rfl, nd, rfl⟩))
          go_ret
          exact ⟨sq_, bl_⟩
        ·replace c54 := gf_ c54
         subst c54
         replace H := in_ H
         obtain rfl := si_ H
         refine by8_ BK29 ?_; intros
         go_wp2_with (first | (go_at_call 67; (with_reducible refine (spec_l01In.calls a0_7 0 9999 false _ A53.out).mono ?_); rintro e w' ⟨rfl, nd, rfl⟩))
         go_ret
         exact ⟨sq_, bl_⟩
       rw [if_neg c52] at H
       have c52b0 := ef_ c52
       have c52b1 := nt_ c52
       by_cases c62 : a0_7 = 0
       ·rw [if_pos c62] at H
        have := et_ c62
        replace c62 := nf_ c62
        by_cases c63 : a0_0 = 6
        ·rw [if_pos c63] at H
         have := et_ c63
         replace c63 := nf_ c63
         obtain ⟨t73, A64, H⟩ := ob_ H
         by_cases c65 : t73 = true
         ·subst c65
          replace H := ip_ H
          obtain rfl := si_ H
          refine by8_ BK29 ?_; intros
          go_wp2_with (first | (go_at_call 81; (with_reducible refine (spec_AcctIdOk.calls kj36 a0_2 true _ A64.out).mono ?_); rintro e w' ⟨rfl, nd, rfl⟩))
          go_ret
          exact ⟨sq_, bl_⟩
         replace c65 := gf_ c65
         subst c65
         replace H := in_ H
         obtain rfl := si_ H
         refine by8_ BK29 ?_; intros
         go_wp2_with (first | (go_at_call 81; (with_reducible refine (spec_AcctIdOk.calls kj36 a0_2 false _ A64.out).mono ?_); rintro e w' ⟨rfl, nd, rfl⟩))
         go_ret
         exact ⟨sq_, bl_⟩
        ·rw [if_neg c63] at H
         have c63b0 := ef_ c63
         have c63b1 := nt_ c63
         obtain rfl := si_ H
         refine by8_ BK29 ?_; intros
         go_wp2
         go_ret
         exact ⟨sq_, bl_⟩
       ·rw [if_neg c62] at H
        have c62b0 := ef_ c62
        have c62b1 := nt_ c62
        obtain rfl := si_ H
        refine by8_ BK29 ?_; intros
        go_wp2
        go_ret
        exact ⟨sq_, bl_⟩
/-! ### spec_ReqOf: function 9 -/
mutual
def spec_ReqOf.j0 : Nat → Bool → ByteArray → List (S91) → Int → ByteArray → ByteArray → ByteArray → ByteArray → ByteArray → Int → Int → Option (Int × ByteArray × ByteArray × ByteArray × ByteArray × ByteArray × Int × Int × Int)
 | 0, _, _, _, _, _, _, _, _, _, _, _ => none
 | k + 1, x5, x37, x38, x31, x33, x45, x25, x34, x36, x26, x30 => (spec_l11Amount.f x31).bind fun t60 => (if t60 = true then ((spec_FieldOf.f k x37 x38 4).bind fun bt49 => ((spec_Narrow.f k bt49.1).bind fun bt52 => (if x5 = true then (spec_ReqOf.j1 k bt49.2 x37 x38 x31 x33 x45 x25 x34 x36 bt52.1 x30) else (spec_ReqOf.j1 k false x37 x38 x31 x33 x45 x25 x34 x36 bt52.1 x30)))) else (spec_ReqOf.j1 k x5 x37 x38 x31 x33 x45 x25 x34 x36 x26 x30))
def spec_ReqOf.j1 : Nat → Bool → ByteArray → List (S91) → Int → ByteArray → ByteArray → ByteArray → ByteArray → ByteArray → Int → Int → Option (Int × ByteArray × ByteArray × ByteArray × ByteArray × ByteArray × Int × Int × Int)
 | 0, _, _, _, _, _, _, _, _, _, _, _ => none
 | k + 1, x5, x37, x38, x31, x33, x45, x25, x34, x36, x26, x30 => if x31 = 1 then ((spec_FieldOf.f k x37 x38 14).bind fun bt46 => ((spec_Narrow.f k bt46.1).bind fun bt48 => (if x5 = true then (spec_ReqOf.j2 k bt46.2 x37 x38 x31 x33 x45 x25 x34 x36 x26 bt48.1) else (spec_ReqOf.j2 k false x37 x38 x31 x33 x45 x25 x34 x36 x26 bt48.1)))) else (spec_ReqOf.j2 k x5 x37 x38 x31 x33 x45 x25 x34 x36 x26 x30)
def spec_ReqOf.j2 : Nat → Bool → ByteArray → List (S91) → Int → ByteArray → ByteArray → ByteArray → ByteArray → ByteArray → Int → Int → Option (Int × ByteArray × ByteArray × ByteArray × ByteArray × ByteArray × Int × Int × Int)
 | 0, _, _, _, _, _, _, _, _, _, _, _ => none
 | k + 1, x5, x37, x38, x31, x33, x45, x25, x34, x36, x26, x30 => if x31 = 6 then ((spec_FieldOf.f k x37 x38 103).bind fun bt40 => (if x5 = true then ((spec_ReqOk.f k x31 x33 bt40.1 x25 x34 x36 x26 x30).bind fun t66 => (if t66 = true then (some (x31, x33, bt40.1, x25, x34, x36, x26, x30, 0)) else (some (0, (⟨#[]⟩ : ByteArray), (⟨#[]⟩ : ByteArray), (⟨#[]⟩ : ByteArray), (⟨#[]⟩ : ByteArray), (⟨#[]⟩ : ByteArray), 0, 0, 1)))) else (some (0, (⟨#[]⟩ : ByteArray), (⟨#[]⟩ : ByteArray), (⟨#[]⟩ : ByteArray), (⟨#[]⟩ : ByteArray), (⟨#[]⟩ : ByteArray), 0, 0, 1)))) else (if x5 = true then ((spec_ReqOk.f k x31 x33 x45 x25 x34 x36 x26 x30).bind fun t67 => (if t67 = true then (some (x31, x33, x45, x25, x34, x36, x26, x30, 0)) else (some (0, (⟨#[]⟩ : ByteArray), (⟨#[]⟩ : ByteArray), (⟨#[]⟩ : ByteArray), (⟨#[]⟩ : ByteArray), (⟨#[]⟩ : ByteArray), 0, 0, 1)))) else (some (0, (⟨#[]⟩ : ByteArray), (⟨#[]⟩ : ByteArray), (⟨#[]⟩ : ByteArray), (⟨#[]⟩ : ByteArray), (⟨#[]⟩ : ByteArray), 0, 0, 1)))
end
def spec_ReqOf.f (k : Nat) (a0_0 : ByteArray) (l0_1 : List (S91)) : Option (Int × ByteArray × ByteArray × ByteArray × ByteArray × ByteArray × Int × Int × Int) := (spec_MsgOk.f k a0_0 l0_1).bind fun t68 => (if t68 = true then ((spec_MtiKnown.f a0_0).bind fun t69 => (if t69 = true then ((spec_FieldOf.f k a0_0 l0_1 3).bind fun bt44 => (if bt44.2 = true then ((spec_l11Which.f k a0_0 bt44.1).bind fun t19 => ((spec_FieldOf.f k a0_0 l0_1 2).bind fun bt28 => ((spec_FieldOf.f k a0_0 l0_1 11).bind fun bt29 => ((spec_l11Hold.f t19).bind fun t61 => (if t61 = true then ((spec_FieldOf.f k a0_0 l0_1 38).bind fun bt59 => ((spec_FieldBare.f k bt59.1).bind fun t63 => (spec_ReqOf.j0 k bt44.2 a0_0 l0_1 t19 bt28.1 (⟨#[]⟩ : ByteArray) t63 bt29.1 a0_0 0 0))) else (spec_ReqOf.j0 k bt44.2 a0_0 l0_1 t19 bt28.1 (⟨#[]⟩ : ByteArray) (⟨#[]⟩ : ByteArray) bt29.1 a0_0 0 0)))))) else (some (0, (⟨#[]⟩ : ByteArray), (⟨#[]⟩ : ByteArray), (⟨#[]⟩ : ByteArray), (⟨#[]⟩ : ByteArray), (⟨#[]⟩ : ByteArray), 0, 0, 1)))) else (some (0, (⟨#[]⟩ : ByteArray), (⟨#[]⟩ : ByteArray), (⟨#[]⟩ : ByteArray), (⟨#[]⟩ : ByteArray), (⟨#[]⟩ : ByteArray), 0, 0, 2)))) else (some (0, (⟨#[]⟩ : ByteArray), (⟨#[]⟩ : ByteArray), (⟨#[]⟩ : ByteArray), (⟨#[]⟩ : ByteArray), (⟨#[]⟩ : ByteArray), 0, 0, 1)))
def spec_ReqOf.T8 : Bool × List (List Nat × List Nat) := (true, [([], []), ([0], [0]), ([], []), ([1, 2], [1, 2]), ([], []), ([4], [4]), ([3, 5], [3, 5]), ([], []), ([7, 6, 3, 0, 1, 2, 3, 4, 5, 6, 7], [6, 7])])
def spec_ReqOf.B8 : List Nat := [0, 1, 0, 7, 0, 16, 63, 0, 255]
theorem spec_ReqOf.tab8 : rtab .any (opsOf Tryz.f9 8) = spec_ReqOf.T8 := by kernel_rfl
theorem spec_ReqOf.bits8 : waitsOk spec_ReqOf.T8.2 spec_ReqOf.B8 = true := by kernel_rfl
theorem spec_ReqOf.calls (k : Nat) (a0_0 : ByteArray) (A0_1 : Option Addr) (c0_1 : Nat) (l0_1 : List (S91)) (r1 : Int) (r2 : ByteArray) (r3 : ByteArray) (r4 : ByteArray) (r5 : ByteArray) (r6 : ByteArray) (r7 : Int) (r8 : Int) (r9 : Int) (w : World) (hr0_1 : Kd.C k91 w A0_1 l0_1.length l0_1) (hc0_1 : l0_1.length ≤ c0_1) (h : spec_ReqOf.f k a0_0 l0_1 = some (r1, r2, r3, r4, r5, r6, r7, r8, r9)) :
  Calls Tryz.prog 9 #[.agg #[.string a0_0, .slice A0_1 l0_1.length c0_1]] w fun e w' => e = .returned (.tuple #[.agg #[.int .i64 r1, .string r2, .string r3, .string r4, .string r5, .string r6, .int .i64 r7, .int .i64 r8], .int .i64 r9]) ∧ Below w.heap.size w w' := by
 have hu32 := underlying32
 have hu27 := underlying27
 have HR0_1 := Aside0.mk hr0_1
 have HC0_1 := Aside0.mk hc0_1
 clear hr0_1 hc0_1
 have HB := Aside0.mk (Below.refl w.heap.size w)
 have H := h
 unfold spec_ReqOf.f at H
 clear h
 obtain ⟨t68, A2, H⟩ := ob_ H
 by_cases c3 : t68 = true
 rotate_left
 ·replace c3 := gf_ c3
  subst c3
  replace H := in_ H
  simp only [Option.some.injEq, Prod.mk.injEq] at H
  obtain ⟨rfl, rfl, rfl, rfl, rfl, rfl, rfl, rfl, rfl⟩ := H
  go_enter func9, ntmps9
  go_wp2_with (first | ((with_reducible refine gt_ 1 ?_); refine bo_ 1 #[.string a0_0, .slice A0_1 l0_1.length c0_1] 32 ?_; intro gb16 hg w87 BK16 hb; have GW16 := gw_ (w := w) hg; replace HB := hs_ hb; clear hb hg) | ((with_reducible refine gt_ 2 ?_); refine bo_ 2 #[.int .i64 0, .string ⟨#[]⟩, .string ⟨#[]⟩, .string ⟨#[]⟩, .string ⟨#[]⟩, .string ⟨#[]⟩, .int .i64 0, .int .i64 0] 27 ?_; intro gb18 hg w89 BK18 hb; have GW18 := gw_ (w := w) hg; replace HB := hs_ hb; have ⟨NB16_18, NB18_16⟩ := nb_ hg BK16; replace BK16 := kb_ BK16 hb; clear hb hg; have := NB16_18.out; have := NB18_16.out; refine by2_ BK16 ?_; intros) | ((with_reducible refine gb_ 36 14 func36 #[.agg #[.string a0_0, .slice A0_1 l0_1.length c0_1]] (spec_MsgOk.calls k a0_0 _ _ l0_1 false _ (cb_ HR0_1 HB) HC0_1.out A2.out) fun w90 hb => ?_); replace BK16 := kb_ BK16 hb; replace BK18 := kb_ BK18 hb; replace HB := hs_ hb; clear hb; refine by8_ BK18 ?_; intros))
  refine bodyPost_ret (results_ct rfl _ _ gb18 27 #[.int .i64 0, .string ⟨#[]⟩, .string ⟨#[]⟩, .string ⟨#[]⟩, .string ⟨#[]⟩, .string ⟨#[]⟩, .int .i64 0, .int .i64 0] (0, 0) _ rfl (by refine ch_ ?_; apply bq8_7_6_5_4_3_2_1_0_; exact ch_ BK18.out) underlying27 rfl (by kernel_rfl)) rfl ?_
  exact ⟨sq_, bl_⟩
 subst c3
 replace H := ip_ H
 obtain ⟨t69, A4, H⟩ := ob_ H
 by_cases c5 : t69 = true
 rotate_left
 ·replace c5 := gf_ c5
  subst c5
  replace H := in_ H
  simp only [Option.some.injEq, Prod.mk.injEq] at H
  obtain ⟨rfl, rfl, rfl, rfl, rfl, rfl, rfl, rfl, rfl⟩ := H
  go_enter func9, ntmps9
  go_wp2_with (first | ((with_reducible refine gt_ 1 ?_); refine bo_ 1 #[.string a0_0, .slice A0_1 l0_1.length c0_1] 32 ?_; intro gb16 hg w96 BK16 hb; have GW16 := gw_ (w := w) hg; replace HB := hs_ hb; clear hb hg) | ((with_reducible refine gt_ 2 ?_); refine bo_ 2 #[.int .i64 0, .string ⟨#[]⟩, .string ⟨#[]⟩, .string ⟨#[]⟩, .string ⟨#[]⟩, .string ⟨#[]⟩, .int .i64 0, .int .i64 0] 27 ?_; intro gb18 hg w97 BK18 hb; have GW18 := gw_ (w := w) hg; replace HB := hs_ hb; have ⟨NB16_18, NB18_16⟩ := nb_ hg BK16; replace BK16 := kb_ BK16 hb; clear hb hg; have := NB16_18.out; have := NB18_16.out; refine by2_ BK16 ?_; intros) | ((with_reducible refine gb_ 36 14 func36 #[.agg #[.string a0_0, .slice A0_1 l0_1.length c0_1]] (spec_MsgOk.calls k a0_0 _ _ l0_1 true _ (cb_ HR0_1 HB) HC0_1.out A2.out) fun w53 hb => ?_); replace BK16 := kb_ BK16 hb; replace BK18 := kb_ BK18 hb; replace HB := hs_ hb; clear hb; refine by2_ BK16 ?_; intros) | ((with_reducible refine gd_ 37 19 func37 #[.string a0_0] (spec_MtiKnown.calls a0_0 false _ A4.out) fun nd => ?_); (try (rw [drewN_self w53]; generalize hq_ : World.drewN w53 _ = w53; have n0_ : Aside0 (w53.heap[gb16]? = some (.cells #[.string a0_0, .slice A0_1 l0_1.length c0_1] 32 (0, 0))) := ⟨by rw [← hq_]; exact (ch_ BK16.out)⟩; have n1_ : Aside0 (w53.heap[gb18]? = some (.cells #[.int .i64 0, .string ⟨#[]⟩, .string ⟨#[]⟩, .string ⟨#[]⟩, .string ⟨#[]⟩, .string ⟨#[]⟩, .int .i64 0, .int .i64 0] 27 (0, 0))) := ⟨by rw [← hq_]; exact (ch_ BK18.out)⟩; have n2_ : Aside0 (Below w.heap.size w w53) := ⟨by rw [← hq_]; exact bl_⟩; clear BK16 BK18 HB hq_; have BK16 := n0_; have BK18 := n1_; have HB := n2_; clear n0_ n1_ n2_)); refine by8_ BK18 ?_; intros))
  refine bodyPost_ret (results_ct rfl _ _ gb18 27 #[.int .i64 0, .string ⟨#[]⟩, .string ⟨#[]⟩, .string ⟨#[]⟩, .string ⟨#[]⟩, .string ⟨#[]⟩, .int .i64 0, .int .i64 0] (0, 0) _ rfl (by refine ch_ ?_; apply bq8_7_6_5_4_3_2_1_0_; exact ch_ BK18.out) underlying27 rfl (by kernel_rfl)) rfl ?_
  exact ⟨sq_, bl_⟩
 subst c5
 replace H := ip_ H
 obtain ⟨⟨t44, t81⟩, A6, H⟩ := ob_ H
 (try dsimp only at H)
 by_cases c7 : t81 = true
 rotate_left
 ·replace c7 := gf_ c7
  subst c7
  replace H := in_ H
  simp only [Option.some.injEq, Prod.mk.injEq] at H
  obtain ⟨rfl, rfl, rfl, rfl, rfl, rfl, rfl, rfl, rfl⟩ := H
  go_enter func9, ntmps9
  go_wp2_with (first | ((with_reducible refine gt_ 1 ?_); refine bo_ 1 #[.string a0_0, .slice A0_1 l0_1.length c0_1] 32 ?_; intro gb16 hg w98 BK16 hb; have GW16 := gw_ (w := w) hg; replace HB := hs_ hb; clear hb hg) | ((with_reducible refine gt_ 2 ?_); refine bo_ 2 #[.int .i64 0, .string ⟨#[]⟩, .string ⟨#[]⟩, .string ⟨#[]⟩, .string ⟨#[]⟩, .string ⟨#[]⟩, .int .i64 0, .int .i64 0] 27 ?_; intro gb18 hg w99 BK18 hb; have GW18 := gw_ (w := w) hg; replace HB := hs_ hb; have ⟨NB16_18, NB18_16⟩ := nb_ hg BK16; replace BK16 := kb_ BK16 hb; clear hb hg; have := NB16_18.out; have := NB18_16.out; refine by2_ BK16 ?_; intros) | ((with_reducible refine gb_ 36 14 func36 #[.agg #[.string a0_0, .slice A0_1 l0_1.length c0_1]] (spec_MsgOk.calls k a0_0 _ _ l0_1 true _ (cb_ HR0_1 HB) HC0_1.out A2.out) fun w54 hb => ?_); replace BK16 := kb_ BK16 hb; replace BK18 := kb_ BK18 hb; replace HB := hs_ hb; clear hb; refine by2_ BK16 ?_; intros) | ((with_reducible refine gd_ 37 19 func37 #[.string a0_0] (spec_MtiKnown.calls a0_0 true _ A4.out) fun nd => ?_); (try (rw [drewN_self w54]; generalize hq_ : World.drewN w54 _ = w54; have n0_ : Aside0 (w54.heap[gb16]? = some (.cells #[.string a0_0, .slice A0_1 l0_1.length c0_1] 32 (0, 0))) := ⟨by rw [← hq_]; exact (ch_ BK16.out)⟩; have n1_ : Aside0 (w54.heap[gb18]? = some (.cells #[.int .i64 0, .string ⟨#[]⟩, .string ⟨#[]⟩, .string ⟨#[]⟩, .string ⟨#[]⟩, .string ⟨#[]⟩, .int .i64 0, .int .i64 0] 27 (0, 0))) := ⟨by rw [← hq_]; exact (ch_ BK18.out)⟩; have n2_ : Aside0 (Below w.heap.size w w54) := ⟨by rw [← hq_]; exact bl_⟩; clear BK16 BK18 HB hq_; have BK16 := n0_; have BK18 := n1_; have HB := n2_; clear n0_ n1_ n2_)); refine by2_ BK16 ?_; intros) | ((with_reducible refine gb_ 38 24 func38 #[.agg #[.string a0_0, .slice A0_1 l0_1.length c0_1], .int .i64 3] (spec_FieldOf.calls k a0_0 _ _ l0_1 3 t44 false _ (cb_ HR0_1 HB) HC0_1.out A6.out) fun w151 hb => ?_); replace BK16 := kb_ BK16 hb; replace BK18 := kb_ BK18 hb; replace HB := hs_ hb; clear hb; refine by8_ BK18 ?_; intros))
  refine bodyPost_ret (results_ct rfl _ _ gb18 27 #[.int .i64 0, .string ⟨#[]⟩, .string ⟨#[]⟩, .string ⟨#[]⟩, .string ⟨#[]⟩, .string ⟨#[]⟩, .int .i64 0, .int .i64 0] (0, 0) _ rfl (by refine ch_ ?_; apply bq8_7_6_5_4_3_2_1_0_; exact ch_ BK18.out) underlying27 rfl (by kernel_rfl)) rfl ?_
  exact ⟨sq_, bl_⟩
 subst c7
 replace H := ip_ H
 obtain ⟨t19, A8, H⟩ := ob_ H
 obtain ⟨⟨t28, t83⟩, A9, H⟩ := ob_ H
 (try dsimp only at H)
 obtain ⟨⟨t29, t84⟩, A10, H⟩ := ob_ H
 (try dsimp only at H)
 obtain ⟨t61, A11, H⟩ := ob_ H
 have HC12 := Aside0.mk H
 clear H
 go_enter func9, ntmps9
 try go_wp2_with (first | ((with_reducible refine gt_ 1 ?_); refine bo_ 1 #[.string a0_0, .slice A0_1 l0_1.length c0_1] 32 ?_; intro gb16 hg w13 BK16 hb; have GW16 := gw_ (w := w) hg; replace HB := hs_ hb; clear hb hg) | ((with_reducible refine gt_ 2 ?_); refine bo_ 2 #[.int .i64 0, .string ⟨#[]⟩, .string ⟨#[]⟩, .string ⟨#[]⟩, .string ⟨#[]⟩, .string ⟨#[]⟩, .int .i64 0, .int .i64 0] 27 ?_; intro gb18 hg w14 BK18 hb; have GW18 := gw_ (w := w) hg; replace HB := hs_ hb; have ⟨NB16_18, NB18_16⟩ := nb_ hg BK16; replace BK16 := kb_ BK16 hb; clear hb hg; have := NB16_18.out; have := NB18_16.out; refine by2_ BK16 ?_; intros) | ((with_reducible refine gb_ 36 14 func36 #[.agg #[.string a0_0, .slice A0_1 l0_1.length c0_1]] (spec_MsgOk.calls k a0_0 _ _ l0_1 true _ (cb_ HR0_1 HB) HC0_1.out A2.out) fun w17 hb => ?_); replace BK16 := kb_ BK16 hb; replace BK18 := kb_ BK18 hb; replace HB := hs_ hb; clear hb; refine by2_ BK16 ?_; intros) | ((with_reducible refine gd_ 37 19 func37 #[.string a0_0] (spec_MtiKnown.calls a0_0 true _ A4.out) fun nd => ?_); (try (rw [drewN_self w17]; generalize hq_ : World.drewN w17 _ = w17; have n0_ : Aside0 (w17.heap[gb16]? = some (.cells #[.string a0_0, .slice A0_1 l0_1.length c0_1] 32 (0, 0))) := ⟨by rw [← hq_]; exact (ch_ BK16.out)⟩; have n1_ : Aside0 (w17.heap[gb18]? = some (.cells #[.int .i64 0, .string ⟨#[]⟩, .string ⟨#[]⟩, .string ⟨#[]⟩, .string ⟨#[]⟩, .string ⟨#[]⟩, .int .i64 0, .int .i64 0] 27 (0, 0))) := ⟨by rw [← hq_]; exact (ch_ BK18.out)⟩; have n2_ : Aside0 (Below w.heap.size w w17) := ⟨by rw [← hq_]; exact bl_⟩; clear BK16 BK18 HB hq_; have BK16 := n0_; have BK18 := n1_; have HB := n2_; clear n0_ n1_ n2_)); refine by2_ BK16 ?_; intros) | ((with_reducible refine gb_ 38 24 func38 #[.agg #[.string a0_0, .slice A0_1 l0_1.length c0_1], .int .i64 3] (spec_FieldOf.calls k a0_0 _ _ l0_1 3 t44 true _ (cb_ HR0_1 HB) HC0_1.out A6.out) fun w20 hb => ?_); replace BK16 := kb_ BK16 hb; replace BK18 := kb_ BK18 hb; replace HB := hs_ hb; clear hb))
 have n0_ := Aside0.mk (blk_drew BK16.out)
 have n1_ := Aside0.mk (blk_drew BK18.out)
 have n2_ := Aside0.mk (below_drew1 HB.out)
 clear BK16
 clear BK18
 clear HB
 have BK16 := n0_
 have BK18 := n1_
 have HB := n2_
 clear n0_ n1_ n2_
 refine start_ (n := 9) (S := fun w' => w'.cell? ⟨gb16, 0, none⟩ = some (.string a0_0) ∧ w'.cell? ⟨gb16, 1, none⟩ = some (.slice A0_1 l0_1.length c0_1)) (ds := []) tb9_0 (by kernel_rfl) rfl rfl ⟨cy_ BK16 0, cy_ BK16 1⟩ (fun hHeld => ?_); refine with_tabW spec_ReqOf.tab8 spec_ReqOf.bits8 (fun HT_ HW_ => ?_)
 generalize w20.drew = w21 at BK16 BK18 HB hHeld ⊢
 refine pl_ HT_ 0 30 tb9_1 ?_
 refine pl_ HT_ 2 32 tb9_5 ?_
 refine pl_ HT_ 4 34 tb9_15 ?_
 refine take_ (i := 1) (N := some 31) (v := ?_) (a' := ?_) tb9_17 rfl rfl (take_ofW HT_.out HW_.out (by kernel_rfl)) (fun _ _ _ h => h) (Or.inl ⟨by rfl, ?_⟩) hHeld ?_ ?_
 rotate_left
 ·rintro w' ⟨s0, s1⟩
  go_simp
  with_reducible rfl
 rotate_left
 ·simp only [Act.put, q_]
  rfl
 refine take_ (i := 5) (N := some 35) (v := ?_) (a' := ?_) tb9_37 rfl rfl (take_ofW HT_.out HW_.out (by kernel_rfl)) (fun _ _ _ h => h) (Or.inl ⟨by rfl, ?_⟩) hHeld ?_ ?_
 rotate_left
 ·rintro w' ⟨s0, s1⟩
  go_simp
  with_reducible rfl
 rotate_left
 ·simp only [Act.put, q_]
  rfl
 refine join_ (σ := Nat) 1 tb9_ff (fun s_ => [(33, .int .i64 t19), (6, .pointer (some ⟨s_, 0, none⟩)), (36, .agg #[.int .i64 t19, .string ⟨#[]⟩, .string ⟨#[]⟩, .string ⟨#[]⟩, .string ⟨#[]⟩, .string a0_0, .int .i64 0, .int .i64 0])]) (fun s_ w' => (w'.cell? ⟨gb16, 0, none⟩ = some (.string a0_0) ∧ w'.cell? ⟨gb16, 1, none⟩ = some (.slice A0_1 l0_1.length c0_1)) ∧ (w'.heap[gb16]? = some (.cells #[.string a0_0, .slice A0_1 l0_1.length c0_1] 32 (0, 0))) ∧ (w'.heap[gb18]? = some (.cells #[.int .i64 0, .string ⟨#[]⟩, .string ⟨#[]⟩, .string ⟨#[]⟩, .string ⟨#[]⟩, .string ⟨#[]⟩, .int .i64 0, .int .i64 0] 27 (0, 0))) ∧ (w'.heap[s_]? = some (.cells #[.int .i64 0, .string ⟨#[]⟩, .string ⟨#[]⟩, .string ⟨#[]⟩, .string ⟨#[]⟩, .string ⟨#[]⟩, .int .i64 0, .int .i64 0] 27 (0, 0))) ∧ (w.heap.size ≤ s_) ∧ (w.heap.size ≤ s_) ∧ (gb16 ≠ s_) ∧ (s_ ≠ gb16) ∧ (gb18 ≠ s_) ∧ (s_ ≠ gb18) ∧ (Below w.heap.size w w')) ?_ ?_
 rotate_left
 ·intro hCont
  refine two_ (i := 3) (j := 7) (Ni := some 33) (Nj := some 6) tb9_3f tb9_b7 rfl rfl rfl rfl (two_of HT_.out (by kernel_rfl)) (by decide) (by decide) (fun K hK => ?_) (fun K hK => ?_)
  ·skip
   refine goes_ func39 (by kernel_rfl) rfl #[.string a0_0, .string t44] (by rfl) rfl rfl gl_ ?_
   with_reducible refine (spec_l11Which.calls k a0_0 t44 t19 _ A8.out).mono ?_
   rintro e w22 ⟨rfl, hb⟩
   refine ⟨_, rfl, ?_⟩
   have n0_ := Aside0.mk (blk_below (bk_ BK16) hb)
   have n1_ := Aside0.mk (blk_below (bk_ BK18) hb)
   have n2_ := Aside0.mk (below_step bl_ hb)
   clear BK16
   clear BK18
   clear HB
   have BK16 := n0_
   have BK18 := n1_
   have HB := n2_
   clear n0_ n1_ n2_
   (try clear hb)
   (try clear hb2)
   (try clear hk)
   (try clear hi)
   refine hK.out _ _ ⟨cy_ BK16 0, cy_ BK16 1⟩ (fun hHeld => ?_)
   clear hK K
   refine norm_ (a' := ?_) ?_ ?_
   rotate_left
   ·show Act.put _ (some 33) _ = _
    simp only [Act.put, q_]
    rfl
   refine pl_ HT_ 6 36 tb9_7f ?_
   refine one_ (i := 7) (N := some 6) tb9_ff rfl rfl (one_of HT_.out (by kernel_rfl)) (by decide) (fun K hK => ?_)
   refine box_step ?hg (N := 6) ?hd (cs := #[.int .i64 0, .string ⟨#[]⟩, .string ⟨#[]⟩, .string ⟨#[]⟩, .string ⟨#[]⟩, .string ⟨#[]⟩, .int .i64 0, .int .i64 0]) (t := 27) ?hr ?_; (case hd => rfl); (case hg => rfl); (case hr => first | (go_simp; done) | (go_simp; rfl))
   intro gb15 hg w23 hbox hb
   have n0_ := Aside0.mk (blk_below (bk_ BK16) hb)
   have n1_ := Aside0.mk (blk_below (bk_ BK18) hb)
   have n2_ := Aside0.mk (below_step bl_ hb)
   have n3_ := Aside0.mk (hbox)
   have n4_ := gw_ (w := w) hg
   have n5_ := gw_ (w := w) hg
   have n6_ := Aside0.mk ((by rw [hg]; exact Nat.ne_of_lt (blk_lt (bk_ BK16)) : gb16 ≠ gb15))
   have n7_ := Aside0.mk ((by rw [hg]; exact Nat.ne_of_gt (blk_lt (bk_ BK16)) : gb15 ≠ gb16))
   have n8_ := Aside0.mk ((by rw [hg]; exact Nat.ne_of_lt (blk_lt (bk_ BK18)) : gb18 ≠ gb15))
   have n9_ := Aside0.mk ((by rw [hg]; exact Nat.ne_of_gt (blk_lt (bk_ BK18)) : gb15 ≠ gb18))
   clear BK16
   clear BK18
   clear HB
   have BK16 := n0_
   have BK18 := n1_
   have HB := n2_
   have BK15 := n3_
   have GW15 := n4_
   have GE15 := n5_
   have NB16_15 := n6_
   have NB15_16 := n7_
   have NB18_15 := n8_
   have NB15_18 := n9_
   clear n0_ n1_ n2_ n3_ n4_ n5_ n6_ n7_ n8_ n9_
   clear hb hbox hg
   refine hK.out _ _ ⟨cy_ BK16 0, cy_ BK16 1⟩ (fun hHeld => ?_)
   clear hK K
   refine norm_ (a' := ?_) ?_ ?_
   rotate_left
   ·show Act.put _ (some 6) _ = _
    simp only [Act.put, q_]
    rfl
   exact norm_ (by simp only [putAll, Act.put, List.setIfInBounds_toArray, List.set_cons_zero, List.set_cons_succ]) (hCont (gb15) _ ⟨hHeld, (ch_ BK16.out), (ch_ BK18.out), (ch_ BK15.out), GW15.out, GE15.out, NB16_15.out, NB15_16.out, NB18_15.out, NB15_18.out, bl_⟩)
  ·skip
   refine box_step ?hg (N := 6) ?hd (cs := #[.int .i64 0, .string ⟨#[]⟩, .string ⟨#[]⟩, .string ⟨#[]⟩, .string ⟨#[]⟩, .string ⟨#[]⟩, .int .i64 0, .int .i64 0]) (t := 27) ?hr ?_; (case hd => rfl); (case hg => rfl); (case hr => first | (go_simp; done) | (go_simp; rfl))
   intro gb15 hg w22 hbox hb
   have n0_ := Aside0.mk (blk_below (bk_ BK16) hb)
   have n1_ := Aside0.mk (blk_below (bk_ BK18) hb)
   have n2_ := Aside0.mk (below_step bl_ hb)
   have n3_ := Aside0.mk (hbox)
   have n4_ := gw_ (w := w) hg
   have n5_ := gw_ (w := w) hg
   have n6_ := Aside0.mk ((by rw [hg]; exact Nat.ne_of_lt (blk_lt (bk_ BK16)) : gb16 ≠ gb15))
   have n7_ := Aside0.mk ((by rw [hg]; exact Nat.ne_of_gt (blk_lt (bk_ BK16)) : gb15 ≠ gb16))
   have n8_ := Aside0.mk ((by rw [hg]; exact Nat.ne_of_lt (blk_lt (bk_ BK18)) : gb18 ≠ gb15))
   have n9_ := Aside0.mk ((by rw [hg]; exact Nat.ne_of_gt (blk_lt (bk_ BK18)) : gb15 ≠ gb18))
   clear BK16
   clear BK18
   clear HB
   have BK16 := n0_
   have BK18 := n1_
   have HB := n2_
   have BK15 := n3_
   have GW15 := n4_
   have GE15 := n5_
   have NB16_15 := n6_
   have NB15_16 := n7_
   have NB18_15 := n8_
   have NB15_18 := n9_
   clear n0_ n1_ n2_ n3_ n4_ n5_ n6_ n7_ n8_ n9_
   clear hb hbox hg
   refine hK.out _ _ ⟨cy_ BK16 0, cy_ BK16 1⟩ (fun hHeld => ?_)
   clear hK K
   refine norm_ (a' := ?_) ?_ ?_
   rotate_left
   ·show Act.put _ (some 6) _ = _
    simp only [Act.put, q_]
    rfl
   refine one_ (i := 3) (N := some 33) tb9_bf rfl rfl (one_of HT_.out (by kernel_rfl)) (by decide) (fun K hK => ?_)
   refine goes_ func39 (by kernel_rfl) rfl #[.string a0_0, .string t44] (by rfl) rfl rfl gl_ ?_
   with_reducible refine (spec_l11Which.calls k a0_0 t44 t19 _ A8.out).mono ?_
   rintro e w23 ⟨rfl, hb⟩
   refine ⟨_, rfl, ?_⟩
   have n0_ := Aside0.mk (blk_below (bk_ BK16) hb)
   have n1_ := Aside0.mk (blk_below (bk_ BK18) hb)
   have n2_ := Aside0.mk (blk_below (bk_ BK15) hb)
   have n3_ := Aside0.mk (below_step bl_ hb)
   clear BK16
   clear BK18
   clear BK15
   clear HB
   have BK16 := n0_
   have BK18 := n1_
   have BK15 := n2_
   have HB := n3_
   clear n0_ n1_ n2_ n3_
   (try clear hb)
   (try clear hb2)
   (try clear hk)
   (try clear hi)
   refine hK.out _ _ ⟨cy_ BK16 0, cy_ BK16 1⟩ (fun hHeld => ?_)
   clear hK K
   refine norm_ (a' := ?_) ?_ ?_
   rotate_left
   ·show Act.put _ (some 33) _ = _
    simp only [Act.put, q_]
    rfl
   refine pl_ HT_ 6 36 tb9_ff ?_
   exact norm_ (by simp only [putAll, Act.put, List.setIfInBounds_toArray, List.set_cons_zero, List.set_cons_succ]) (hCont (gb15) _ ⟨hHeld, (ch_ BK16.out), (ch_ BK18.out), (ch_ BK15.out), GW15.out, GE15.out, NB16_15.out, NB15_16.out, NB18_15.out, NB15_18.out, bl_⟩)
 rintro gb15 w24 ⟨hS_, h0_, h1_, h2_, h3_, h4_, h5_, h6_, h7_, h8_, h9_⟩
 have n0_ : Aside0 (w24.heap[gb16]? = some (.cells #[.string a0_0, .slice A0_1 l0_1.length c0_1] 32 (0, 0))) := ⟨h0_⟩
 have n1_ : Aside0 (w24.heap[gb18]? = some (.cells #[.int .i64 0, .string ⟨#[]⟩, .string ⟨#[]⟩, .string ⟨#[]⟩, .string ⟨#[]⟩, .string ⟨#[]⟩, .int .i64 0, .int .i64 0] 27 (0, 0))) := ⟨h1_⟩
 have n2_ : Aside0 (w24.heap[gb15]? = some (.cells #[.int .i64 0, .string ⟨#[]⟩, .string ⟨#[]⟩, .string ⟨#[]⟩, .string ⟨#[]⟩, .string ⟨#[]⟩, .int .i64 0, .int .i64 0] 27 (0, 0))) := ⟨h2_⟩
 have n3_ : Aside0 (w.heap.size ≤ gb15) := ⟨h3_⟩
 have n4_ : Aside0 (w.heap.size ≤ gb15) := ⟨h4_⟩
 have n5_ : Aside0 (gb16 ≠ gb15) := ⟨h5_⟩
 have n6_ : Aside0 (gb15 ≠ gb16) := ⟨h6_⟩
 have n7_ : Aside0 (gb18 ≠ gb15) := ⟨h7_⟩
 have n8_ : Aside0 (gb15 ≠ gb18) := ⟨h8_⟩
 have n9_ : Aside0 (Below w.heap.size w w24) := ⟨h9_⟩
 clear BK16
 clear BK18
 clear HB
 clear h0_ h1_ h2_ h3_ h4_ h5_ h6_ h7_ h8_ h9_
 have BK16 := n0_
 have BK18 := n1_
 have BK15 := n2_
 have GW15 := n3_
 have GE15 := n4_
 have NB16_15 := n5_
 have NB15_16 := n6_
 have NB18_15 := n7_
 have NB15_18 := n8_
 have HB := n9_
 clear n0_ n1_ n2_ n3_ n4_ n5_ n6_ n7_ n8_ n9_
 have hHeld : w24.cell? ⟨gb16, 0, none⟩ = some (.string a0_0) ∧ w24.cell? ⟨gb16, 1, none⟩ = some (.slice A0_1 l0_1.length c0_1) := hS_
 refine norm_ (a' := ?_) ?_ ?_
 rotate_left
 ·simp only [putAll, Act.put, List.setIfInBounds_toArray, List.set_cons_zero, List.set_cons_succ]
  rfl
 refine one_ (i := 8) (N := none) tb9_1ff rfl rfl (one_of HT_.out (by kernel_rfl)) (by decide) (fun K hK => ?_)
 have hs25 : w24.cell? ⟨gb15, 0, none⟩ = some (.int .i64 0) := cy_ BK15 0
 have hfs25 := fz_ BK15 0
 have hns25_0 := NB16_15.out
 have hns25_1 := NB18_15.out
 have hms25_0 := NB15_16.out
 have hms25_1 := NB15_18.out
 have hs26 : w24.cell? ⟨gb15, 1, none⟩ = some (.string ⟨#[]⟩) := cy_ BK15 1
 have hfs26 := fz_ BK15 1
 have hns26_0 := NB16_15.out
 have hns26_1 := NB18_15.out
 have hms26_0 := NB15_16.out
 have hms26_1 := NB15_18.out
 have hs27 : w24.cell? ⟨gb15, 2, none⟩ = some (.string ⟨#[]⟩) := cy_ BK15 2
 have hfs27 := fz_ BK15 2
 have hns27_0 := NB16_15.out
 have hns27_1 := NB18_15.out
 have hms27_0 := NB15_16.out
 have hms27_1 := NB15_18.out
 have hs28 : w24.cell? ⟨gb15, 3, none⟩ = some (.string ⟨#[]⟩) := cy_ BK15 3
 have hfs28 := fz_ BK15 3
 have hns28_0 := NB16_15.out
 have hns28_1 := NB18_15.out
 have hms28_0 := NB15_16.out
 have hms28_1 := NB15_18.out
 have hs29 : w24.cell? ⟨gb15, 4, none⟩ = some (.string ⟨#[]⟩) := cy_ BK15 4
 have hfs29 := fz_ BK15 4
 have hns29_0 := NB16_15.out
 have hns29_1 := NB18_15.out
 have hms29_0 := NB15_16.out
 have hms29_1 := NB15_18.out
 have hs30 : w24.cell? ⟨gb15, 5, none⟩ = some (.string ⟨#[]⟩) := cy_ BK15 5
 have hfs30 := fz_ BK15 5
 have hns30_0 := NB16_15.out
 have hns30_1 := NB18_15.out
 have hms30_0 := NB15_16.out
 have hms30_1 := NB15_18.out
 have hs31 : w24.cell? ⟨gb15, 6, none⟩ = some (.int .i64 0) := cy_ BK15 6
 have hfs31 := fz_ BK15 6
 have hns31_0 := NB16_15.out
 have hns31_1 := NB18_15.out
 have hms31_0 := NB15_16.out
 have hms31_1 := NB15_18.out
 have hs32 : w24.cell? ⟨gb15, 7, none⟩ = some (.int .i64 0) := cy_ BK15 7
 have hfs32 := fz_ BK15 7
 have hns32_0 := NB16_15.out
 have hns32_1 := NB18_15.out
 have hms32_0 := NB15_16.out
 have hms32_1 := NB15_18.out
 refine skip_ (w1 := ?_) (by rfl) rfl ?_ ?_
 rotate_left
 ·go_simp
  rfl
 refine hK.out _ _ ⟨((cell_far (p := ⟨gb15, _, none⟩) NB16_15.out _).trans (((cell_far (p := ⟨gb15, _, none⟩) NB16_15.out _).trans (((cell_far (p := ⟨gb15, _, none⟩) NB16_15.out _).trans (((cell_far (p := ⟨gb15, _, none⟩) NB16_15.out _).trans (((cell_far (p := ⟨gb15, _, none⟩) NB16_15.out _).trans (((cell_far (p := ⟨gb15, _, none⟩) NB16_15.out _).trans (((cell_far (p := ⟨gb15, _, none⟩) NB16_15.out _).trans (((cell_far (p := ⟨gb15, _, none⟩) NB16_15.out _).trans (hHeld.1)))))))))))))))), ((cell_far (p := ⟨gb15, _, none⟩) NB16_15.out _).trans (((cell_far (p := ⟨gb15, _, none⟩) NB16_15.out _).trans (((cell_far (p := ⟨gb15, _, none⟩) NB16_15.out _).trans (((cell_far (p := ⟨gb15, _, none⟩) NB16_15.out _).trans (((cell_far (p := ⟨gb15, _, none⟩) NB16_15.out _).trans (((cell_far (p := ⟨gb15, _, none⟩) NB16_15.out _).trans (((cell_far (p := ⟨gb15, _, none⟩) NB16_15.out _).trans (((cell_far (p := ⟨gb15, _, none⟩) NB16_15.out _).trans (hHeld.2))))))))))))))))⟩ (fun hHeld => ?_)
 clear hK K
 refine done_ (done_of HT_.out (by kernel_rfl)) ?_
 have := NB16_15.out
 have := NB15_16.out
 refine by2_ BK16 ?_; intros
 go_upto_if 51 with (first | ((with_reducible refine gb_ 38 39 func38 #[.agg #[.string a0_0, .slice A0_1 l0_1.length c0_1], .int .i64 2] (spec_FieldOf.calls k a0_0 _ _ l0_1 2 t28 t83 _ (Kd.C_below HR0_1.out bl_) HC0_1.out A9.out) fun w35 hb => ?_); replace BK16 := Aside0.mk (blk_below (g := gb16) (o := .cells #[.string a0_0, .slice A0_1 l0_1.length c0_1] 32 (0, 0)) (by refine ch_ ?_; refine bf_ NB16_15 ?_; refine bf_ NB16_15 ?_; refine bf_ NB16_15 ?_; refine bf_ NB16_15 ?_; refine bf_ NB16_15 ?_; refine bf_ NB16_15 ?_; refine bf_ NB16_15 ?_; exact bf_ NB16_15 BK16.out) hb); replace BK18 := Aside0.mk (blk_below (g := gb18) (o := .cells #[.int .i64 0, .string ⟨#[]⟩, .string ⟨#[]⟩, .string ⟨#[]⟩, .string ⟨#[]⟩, .string ⟨#[]⟩, .int .i64 0, .int .i64 0] 27 (0, 0)) (by refine ch_ ?_; refine bf_ NB18_15 ?_; refine bf_ NB18_15 ?_; refine bf_ NB18_15 ?_; refine bf_ NB18_15 ?_; refine bf_ NB18_15 ?_; refine bf_ NB18_15 ?_; refine bf_ NB18_15 ?_; exact bf_ NB18_15 BK18.out) hb); replace BK15 := Aside0.mk (blk_below (g := gb15) (o := .cells #[.int .i64 t19, .string ⟨#[]⟩, .string ⟨#[]⟩, .string ⟨#[]⟩, .string ⟨#[]⟩, .string a0_0, .int .i64 0, .int .i64 0] 27 (0, 0)) (by refine ch_ ?_; apply bq8_7_6_5_4_3_2_1_0_; exact ch_ BK15.out) hb); replace HB := hs_ hb; clear hb; have := NB15_18.out; have := NB18_15.out; refine by8_ BK15 ?_; intros; refine by2_ BK16 ?_; intros) | ((with_reducible refine gb_ 38 45 func38 #[.agg #[.string a0_0, .slice A0_1 l0_1.length c0_1], .int .i64 11] (spec_FieldOf.calls k a0_0 _ _ l0_1 11 t29 t84 _ (Kd.C_below HR0_1.out bl_) HC0_1.out A10.out) fun w39 hb => ?_); replace BK16 := Aside0.mk (blk_below (g := gb16) (o := .cells #[.string a0_0, .slice A0_1 l0_1.length c0_1] 32 (0, 0)) (by refine ch_ ?_; exact bf_ NB16_15 BK16.out) hb); replace BK18 := Aside0.mk (blk_below (g := gb18) (o := .cells #[.int .i64 0, .string ⟨#[]⟩, .string ⟨#[]⟩, .string ⟨#[]⟩, .string ⟨#[]⟩, .string ⟨#[]⟩, .int .i64 0, .int .i64 0] 27 (0, 0)) (by refine ch_ ?_; exact bf_ NB18_15 BK18.out) hb); replace BK15 := Aside0.mk (blk_below (g := gb15) (o := .cells #[.int .i64 t19, .string t28, .string ⟨#[]⟩, .string ⟨#[]⟩, .string ⟨#[]⟩, .string a0_0, .int .i64 0, .int .i64 0] 27 (0, 0)) (by refine ch_ ?_; apply bq8_1_; exact ch_ BK15.out) hb); replace HB := hs_ hb; clear hb; refine by8_ BK15 ?_; intros) | ((with_reducible refine gd_ 40 51 func40 #[.int .i64 t19] (spec_l11Hold.calls t19 t61 _ A11.out) fun nd => ?_)))
 (try simp only [Act.put, List.setIfInBounds_toArray, List.set_cons_zero, List.set_cons_succ])
 go_cut [] (fun wc => ∃ (kq : Nat) (x25_11 : ByteArray), Aside0 (spec_ReqOf.j0 kq true a0_0 l0_1 t19 t28 (⟨#[]⟩ : ByteArray) x25_11 t29 a0_0 0 0 = some (r1, r2, r3, r4, r5, r6, r7, r8, r9)) ∧ Aside0 (kq ≤ k) ∧ Aside0 (wc.heap[gb16]? = some (.cells #[.string a0_0, (.slice A0_1 l0_1.length c0_1)] 32 (0, 0))) ∧ Aside0 (wc.heap[gb18]? = some (.cells #[.int .i64 0, .string ⟨#[]⟩, .string ⟨#[]⟩, .string ⟨#[]⟩, .string ⟨#[]⟩, .string ⟨#[]⟩, .int .i64 0, .int .i64 0] 27 (0, 0))) ∧ Aside0 (wc.heap[gb15]? = some (.cells #[.int .i64 t19, .string t28, .string ⟨#[]⟩, .string x25_11, .string t29, .string a0_0, .int .i64 0, .int .i64 0] 27 (0, 0))) ∧ Aside0 (Below w.heap.size w wc))
 case first =>
  have H := HC12.out
  clear HC12
  by_cases c41 : t61 = true
  ·subst c41
   replace H := ip_ H
   obtain ⟨⟨t59, t85⟩, A42, H⟩ := ob_ H
   (try dsimp only at H)
   obtain ⟨t63, A43, H⟩ := ob_ H
   have H' := Aside0.mk H
   clear H
   have := NB16_18.out
   have := NB18_16.out
   have := NB16_15.out
   have := NB15_16.out
   refine by2_ BK16 ?_; intros
   go_wp2_with (first | ((with_reducible refine gb_ 38 54 func38 #[.agg #[.string a0_0, .slice A0_1 l0_1.length c0_1], .int .i64 38] (spec_FieldOf.calls k a0_0 _ _ l0_1 38 t59 t85 _ (Kd.C_below HR0_1.out bl_) HC0_1.out A42.out) fun w47 hb => ?_); replace BK16 := Aside0.mk (blk_below (g := gb16) (o := .cells #[.string a0_0, .slice A0_1 l0_1.length c0_1] 32 (0, 0)) (by refine ch_ ?_; exact bf_ NB16_15 BK16.out) hb); replace BK18 := Aside0.mk (blk_below (g := gb18) (o := .cells #[.int .i64 0, .string ⟨#[]⟩, .string ⟨#[]⟩, .string ⟨#[]⟩, .string ⟨#[]⟩, .string ⟨#[]⟩, .int .i64 0, .int .i64 0] 27 (0, 0)) (by refine ch_ ?_; exact bf_ NB18_15 BK18.out) hb); replace BK15 := Aside0.mk (blk_below (g := gb15) (o := .cells #[.int .i64 t19, .string t28, .string ⟨#[]⟩, .string ⟨#[]⟩, .string t29, .string a0_0, .int .i64 0, .int .i64 0] 27 (0, 0)) (by refine ch_ ?_; apply bq8_4_; exact ch_ BK15.out) hb); replace HB := hs_ hb; clear hb) | ((with_reducible refine gd_ 41 58 func41 #[.string t59] (spec_FieldBare.calls k t59 t63 _ A43.out) fun nd => ?_); (try (rw [drewN_self w47]; generalize hq_ : World.drewN w47 _ = w47; have n0_ : Aside0 (w47.heap[gb16]? = some (.cells #[.string a0_0, .slice A0_1 l0_1.length c0_1] 32 (0, 0))) := ⟨by rw [← hq_]; exact (ch_ BK16.out)⟩; have n1_ : Aside0 (w47.heap[gb18]? = some (.cells #[.int .i64 0, .string ⟨#[]⟩, .string ⟨#[]⟩, .string ⟨#[]⟩, .string ⟨#[]⟩, .string ⟨#[]⟩, .int .i64 0, .int .i64 0] 27 (0, 0))) := ⟨by rw [← hq_]; exact (ch_ BK18.out)⟩; have n2_ : Aside0 (w47.heap[gb15]? = some (.cells #[.int .i64 t19, .string t28, .string ⟨#[]⟩, .string ⟨#[]⟩, .string t29, .string a0_0, .int .i64 0, .int .i64 0] 27 (0, 0))) := ⟨by rw [← hq_]; exact (ch_ BK15.out)⟩; have n3_ : Aside0 (Below w.heap.size w w47) := ⟨by rw [← hq_]; exact bl_⟩; clear BK16 BK18 BK15 HB hq_; have BK16 := n0_; have BK18 := n1_; have BK15 := n2_; have HB := n3_; clear n0_ n1_ n2_ n3_)); have := NB15_18.out; have := NB18_15.out; refine by8_ BK15 ?_; intros))
   go_meet
   case rel => exact ⟨_, (t63), H', ⟨by first | omega | exact Nat.le_refl _⟩, bg_ NB16_15 BK16, bg_ NB18_15 BK18, ⟨by refine ch_ ?_; apply bq8_3_; exact ch_ BK15.out⟩, ⟨bl_⟩⟩
  ·replace c41 := gf_ c41
   subst c41
   replace H := in_ H
   have H' := Aside0.mk H
   clear H
   go_wp2
   go_meet
   case rel => exact ⟨_, ((⟨#[]⟩ : ByteArray)), H', ⟨by first | omega | exact Nat.le_refl _⟩, bg_ NB16_15 BK16, bg_ NB18_15 BK18, ⟨by refine ch_ ?_; apply bq8_4_; exact ch_ BK15.out⟩, ⟨bl_⟩⟩
 case rest =>
  clear HC12
  obtain ⟨kq, x25_11, HA, HJ11, BK16, BK18, BK15, HB⟩ := hcut
  cases kq with
  | zero => exact absurd HA.out (by simp [spec_ReqOf.j0])
  | succ kj11 =>
   have H := HA.out
   clear HA
   simp only [spec_ReqOf.j0] at H
   obtain ⟨t60, A50, H⟩ := ob_ H
   have HC51 := Aside0.mk H
   clear H
   have := NB15_16.out
   have := NB16_15.out
   have := NB15_18.out
   have := NB18_15.out
   refine by8_ BK15 ?_; intros
   go_upto_if 62 with (first | ((with_reducible refine gd_ 42 62 func42 #[.int .i64 t19] (spec_l11Amount.calls t19 t60 _ A50.out) fun nd => ?_)))
   (try simp only [Act.put, List.setIfInBounds_toArray, List.set_cons_zero, List.set_cons_succ])
   go_cut [5] (fun v5 wc => ∃ (kq : Nat) (x5_50 : Bool) (x26_50 : Int), v5 = .bool x5_50 ∧ Aside0 (spec_ReqOf.j1 kq x5_50 a0_0 l0_1 t19 t28 (⟨#[]⟩ : ByteArray) x25_11 t29 a0_0 x26_50 0 = some (r1, r2, r3, r4, r5, r6, r7, r8, r9)) ∧ Aside0 (kq ≤ kj11) ∧ Aside0 (wc.heap[gb16]? = some (.cells #[.string a0_0, (.slice A0_1 l0_1.length c0_1)] 32 (0, 0))) ∧ Aside0 (wc.heap[gb18]? = some (.cells #[.int .i64 0, .string ⟨#[]⟩, .string ⟨#[]⟩, .string ⟨#[]⟩, .string ⟨#[]⟩, .string ⟨#[]⟩, .int .i64 0, .int .i64 0] 27 (0, 0))) ∧ Aside0 (wc.heap[gb15]? = some (.cells #[.int .i64 t19, .string t28, .string ⟨#[]⟩, .string x25_11, .string t29, .string a0_0, .int .i64 x26_50, .int .i64 0] 27 (0, 0))) ∧ Aside0 (Below w.heap.size w wc))
   case first =>
    have H := HC51.out
    clear HC51
    by_cases c55 : t60 = true
    ·subst c55
     replace H := ip_ H
     obtain ⟨⟨t49, t72⟩, A56, H⟩ := ob_ H
     (try dsimp only at H)
     obtain ⟨⟨t52, t86⟩, A57, H⟩ := ob_ H
     (try dsimp only at H)
     by_cases c58 : true = true
     ·clear c58
      have H1 : (spec_ReqOf.j1 kj11 t72 a0_0 l0_1 t19 t28 (⟨#[]⟩ : ByteArray) x25_11 t29 a0_0 t52 0) = some (r1, r2, r3, r4, r5, r6, r7, r8, r9) := by first | (rw [if_pos rfl] at H; exact H) | exact H
      clear H
      have H := H1
      clear H1
      have H' := Aside0.mk H
      clear H
      have := NB16_18.out
      have := NB18_16.out
      have := NB16_15.out
      have := NB15_16.out
      refine by2_ BK16 ?_; intros
      go_wp2_with (first | ((with_reducible refine gb_ 38 65 func38 #[.agg #[.string a0_0, .slice A0_1 l0_1.length c0_1], .int .i64 4] (spec_FieldOf.calls kj11 a0_0 _ _ l0_1 4 t49 t72 _ (ca_ (Kd.C_below HR0_1.out bl_)) HC0_1.out A56.out) fun w62 hb => ?_); replace BK16 := kb_ BK16 hb; replace BK18 := kb_ BK18 hb; replace BK15 := kb_ BK15 hb; replace HB := hs_ hb; clear hb) | ((with_reducible refine gd_ 43 70 func43 #[.string t49] (spec_Narrow.calls kj11 t49 t52 t86 _ A57.out) fun nd => ?_); (try (rw [drewN_self w62]; generalize hq_ : World.drewN w62 _ = w62; have n0_ : Aside0 (w62.heap[gb16]? = some (.cells #[.string a0_0, .slice A0_1 l0_1.length c0_1] 32 (0, 0))) := ⟨by rw [← hq_]; exact (ch_ BK16.out)⟩; have n1_ : Aside0 (w62.heap[gb18]? = some (.cells #[.int .i64 0, .string ⟨#[]⟩, .string ⟨#[]⟩, .string ⟨#[]⟩, .string ⟨#[]⟩, .string ⟨#[]⟩, .int .i64 0, .int .i64 0] 27 (0, 0))) := ⟨by rw [← hq_]; exact (ch_ BK18.out)⟩; have n2_ : Aside0 (w62.heap[gb15]? = some (.cells #[.int .i64 t19, .string t28, .string ⟨#[]⟩, .string x25_11, .string t29, .string a0_0, .int .i64 0, .int .i64 0] 27 (0, 0))) := ⟨by rw [← hq_]; exact (ch_ BK15.out)⟩; have n3_ : Aside0 (Below w.heap.size w w62) := ⟨by rw [← hq_]; exact bl_⟩; clear BK16 BK18 BK15 HB hq_; have BK16 := n0_; have BK18 := n1_; have BK15 := n2_; have HB := n3_; clear n0_ n1_ n2_ n3_)); have := NB15_18.out; have := NB18_15.out; refine by8_ BK15 ?_; intros))
      go_meet
      case rel => exact ⟨_, (t72), (t52), sp_, H', ⟨by have := HJ11.out; first | omega | exact Nat.le_refl _⟩, bg_ NB16_15 BK16, bg_ NB18_15 BK18, ⟨by refine ch_ ?_; apply bq8_6_; exact ch_ BK15.out⟩, ⟨bl_⟩⟩
     ·exact absurd rfl c58
    ·replace c55 := gf_ c55
     subst c55
     replace H := in_ H
     have H' := Aside0.mk H
     clear H
     go_wp2
     go_meet
     case rel => exact ⟨_, (true), (0), sp_, H', ⟨by have := HJ11.out; first | omega | exact Nat.le_refl _⟩, ⟨ch_ BK16.out⟩, ⟨ch_ BK18.out⟩, ⟨ch_ BK15.out⟩, ⟨bl_⟩⟩
   case rest =>
    clear HC51
    obtain ⟨kq, x5_50, x26_50, rfl, HA, HJ50, BK16, BK18, BK15, HB⟩ := hcut
    cases kq with
    | zero => exact absurd HA.out (by simp [spec_ReqOf.j1])
    | succ kj50 =>
     have H := HA.out
     clear HA
     simp only [spec_ReqOf.j1] at H
     have HC71 := Aside0.mk H
     clear H
     have := NB15_16.out
     have := NB16_15.out
     have := NB15_18.out
     have := NB18_15.out
     refine by8_ BK15 ?_; intros
     go_upto_if 80 with (fail)
     go_cut [5] (fun v5 wc => ∃ (kq : Nat) (x5_70 : Bool) (x30_70 : Int), v5 = .bool x5_70 ∧ Aside0 (spec_ReqOf.j2 kq x5_70 a0_0 l0_1 t19 t28 (⟨#[]⟩ : ByteArray) x25_11 t29 a0_0 x26_50 x30_70 = some (r1, r2, r3, r4, r5, r6, r7, r8, r9)) ∧ Aside0 (kq ≤ kj50) ∧ Aside0 (wc.heap[gb16]? = some (.cells #[.string a0_0, (.slice A0_1 l0_1.length c0_1)] 32 (0, 0))) ∧ Aside0 (wc.heap[gb18]? = some (.cells #[.int .i64 0, .string ⟨#[]⟩, .string ⟨#[]⟩, .string ⟨#[]⟩, .string ⟨#[]⟩, .string ⟨#[]⟩, .int .i64 0, .int .i64 0] 27 (0, 0))) ∧ Aside0 (wc.heap[gb15]? = some (.cells #[.int .i64 t19, .string t28, .string ⟨#[]⟩, .string x25_11, .string t29, .string a0_0, .int .i64 x26_50, .int .i64 x30_70] 27 (0, 0))) ∧ Aside0 (Below w.heap.size w wc))
     case first =>
      have H := HC71.out
      clear HC71
      by_cases c75 : t19 = 1
      rotate_left
      ·rw [if_neg c75] at H
       have c75b0 := ef_ c75
       have c75b1 := nt_ c75
       (first | rw [c75b0] | (simp only [i64_w, i32_w]; rw [c75b0]) | skip)
       have H' := Aside0.mk H
       clear H
       go_wp2
       go_meet
       case rel => exact ⟨_, (x5_50), (0), sp_, H', ⟨by have := HJ11.out; have := HJ50.out; first | omega | exact Nat.le_refl _⟩, ⟨ch_ BK16.out⟩, ⟨ch_ BK18.out⟩, ⟨ch_ BK15.out⟩, ⟨bl_⟩⟩
      rw [if_pos c75] at H
      have c75b0 := et_ c75
      have c75b1 := nf_ c75
      clear c75
      (first | rw [c75b0] | (simp only [i64_w, i32_w]; rw [c75b0]) | skip)
      obtain ⟨⟨t46, t73⟩, A76, H⟩ := ob_ H
      (try dsimp only at H)
      obtain ⟨⟨t48, t79⟩, A77, H⟩ := ob_ H
      (try dsimp only at H)
      by_cases c78 : x5_50 = true
      ·subst c78
       replace H := ip_ H
       have H' := Aside0.mk H
       clear H
       have := NB16_18.out
       have := NB18_16.out
       have := NB16_15.out
       have := NB15_16.out
       refine by2_ BK16 ?_; intros
       go_wp2_with (first | ((with_reducible refine gb_ 38 83 func38 #[.agg #[.string a0_0, .slice A0_1 l0_1.length c0_1], .int .i64 14] (spec_FieldOf.calls kj50 a0_0 _ _ l0_1 14 t46 t73 _ (cb_ HR0_1 HB) HC0_1.out A76.out) fun w82 hb => ?_); replace BK16 := kb_ BK16 hb; replace BK18 := kb_ BK18 hb; replace BK15 := kb_ BK15 hb; replace HB := hs_ hb; clear hb) | ((with_reducible refine gd_ 43 88 func43 #[.string t46] (spec_Narrow.calls kj50 t46 t48 t79 _ A77.out) fun nd => ?_); (try (rw [drewN_self w82]; generalize hq_ : World.drewN w82 _ = w82; have n0_ : Aside0 (w82.heap[gb16]? = some (.cells #[.string a0_0, .slice A0_1 l0_1.length c0_1] 32 (0, 0))) := ⟨by rw [← hq_]; exact (ch_ BK16.out)⟩; have n1_ : Aside0 (w82.heap[gb18]? = some (.cells #[.int .i64 0, .string ⟨#[]⟩, .string ⟨#[]⟩, .string ⟨#[]⟩, .string ⟨#[]⟩, .string ⟨#[]⟩, .int .i64 0, .int .i64 0] 27 (0, 0))) := ⟨by rw [← hq_]; exact (ch_ BK18.out)⟩; have n2_ : Aside0 (w82.heap[gb15]? = some (.cells #[.int .i64 t19, .string t28, .string ⟨#[]⟩, .string x25_11, .string t29, .string a0_0, .int .i64 x26_50, .int .i64 0] 27 (0, 0))) := ⟨by rw [← hq_]; exact (ch_ BK15.out)⟩; have n3_ : Aside0 (Below w.heap.size w w82) := ⟨by rw [← hq_]; exact bl_⟩; clear BK16 BK18 BK15 HB hq_; have BK16 := n0_; have BK18 := n1_; have BK15 := n2_; have HB := n3_; clear n0_ n1_ n2_ n3_)); have := NB15_18.out; have := NB18_15.out; refine by8_ BK15 ?_; intros))
       go_meet
       case rel => exact ⟨_, (t73), (t48), sp_, H', ⟨by have := HJ11.out; have := HJ50.out; first | omega | exact Nat.le_refl _⟩, bg_ NB16_15 BK16, bg_ NB18_15 BK18, ⟨by refine ch_ ?_; apply bq8_7_; exact ch_ BK15.out⟩, ⟨bl_⟩⟩
      replace c78 := gf_ c78
      subst c78
      replace H := in_ H
      have H' := Aside0.mk H
      clear H
      have := NB16_18.out
      have := NB18_16.out
      have := NB16_15.out
      have := NB15_16.out
      refine by2_ BK16 ?_; intros
      go_wp2_with (first | ((with_reducible refine gb_ 38 83 func38 #[.agg #[.string a0_0, .slice A0_1 l0_1.length c0_1], .int .i64 14] (spec_FieldOf.calls kj50 a0_0 _ _ l0_1 14 t46 t73 _ (cb_ HR0_1 HB) HC0_1.out A76.out) fun w88 hb => ?_); replace BK16 := kb_ BK16 hb; replace BK18 := kb_ BK18 hb; replace BK15 := kb_ BK15 hb; replace HB := hs_ hb; clear hb) | ((with_reducible refine gd_ 43 88 func43 #[.string t46] (spec_Narrow.calls kj50 t46 t48 t79 _ A77.out) fun nd => ?_); (try (rw [drewN_self w88]; generalize hq_ : World.drewN w88 _ = w88; have n0_ : Aside0 (w88.heap[gb16]? = some (.cells #[.string a0_0, .slice A0_1 l0_1.length c0_1] 32 (0, 0))) := ⟨by rw [← hq_]; exact (ch_ BK16.out)⟩; have n1_ : Aside0 (w88.heap[gb18]? = some (.cells #[.int .i64 0, .string ⟨#[]⟩, .string ⟨#[]⟩, .string ⟨#[]⟩, .string ⟨#[]⟩, .string ⟨#[]⟩, .int .i64 0, .int .i64 0] 27 (0, 0))) := ⟨by rw [← hq_]; exact (ch_ BK18.out)⟩; have n2_ : Aside0 (w88.heap[gb15]? = some (.cells #[.int .i64 t19, .string t28, .string ⟨#[]⟩, .string x25_11, .string t29, .string a0_0, .int .i64 x26_50, .int .i64 0] 27 (0, 0))) := ⟨by rw [← hq_]; exact (ch_ BK15.out)⟩; have n3_ : Aside0 (Below w.heap.size w w88) := ⟨by rw [← hq_]; exact bl_⟩; clear BK16 BK18 BK15 HB hq_; have BK16 := n0_; have BK18 := n1_; have BK15 := n2_; have HB := n3_; clear n0_ n1_ n2_ n3_)); have := NB15_18.out; have := NB18_15.out; refine by8_ BK15 ?_; intros))
      go_meet
      case rel => exact ⟨_, (false), (t48), sp_, H', ⟨by have := HJ11.out; have := HJ50.out; first | omega | exact Nat.le_refl _⟩, bg_ NB16_15 BK16, bg_ NB18_15 BK18, ⟨by refine ch_ ?_; apply bq8_7_; exact ch_ BK15.out⟩, ⟨bl_⟩⟩
     case rest =>
      clear HC71
      obtain ⟨kq, x5_70, x30_70, rfl, HA, HJ70, BK16, BK18, BK15, HB⟩ := hcut
      cases kq with
      | zero => exact absurd HA.out (by simp [spec_ReqOf.j2])
      | succ kj70 =>
       have H := HA.out
       clear HA
       simp only [spec_ReqOf.j2] at H
       by_cases c91 : t19 = 6
       ·rw [if_pos c91] at H
        have := et_ c91
        replace c91 := nf_ c91
        obtain ⟨⟨t40, t74⟩, A92, H⟩ := ob_ H
        (try dsimp only at H)
        by_cases c93 : x5_70 = true
        ·subst c93
         replace H := ip_ H
         obtain ⟨t66, A94, H⟩ := ob_ H
         by_cases c95 : t66 = true
         ·subst c95
          replace H := ip_ H
          simp only [Option.some.injEq, Prod.mk.injEq] at H
          obtain ⟨rfl, rfl, rfl, rfl, rfl, rfl, rfl, rfl, rfl⟩ := H
          have := NB15_16.out
          have := NB16_15.out
          have := NB15_18.out
          have := NB18_15.out
          refine by8_ BK15 ?_; intros
          have := NB16_18.out
          have := NB18_16.out
          refine by2_ BK16 ?_; intros
          go_wp2_with (first | ((with_reducible refine gb_ 38 101 func38 #[.agg #[.string a0_0, .slice A0_1 l0_1.length c0_1], .int .i64 103] (spec_FieldOf.calls kj70 a0_0 _ _ l0_1 103 t40 t74 _ (cb_ HR0_1 HB) HC0_1.out A92.out) fun w101 hb => ?_); replace BK16 := kb_ BK16 hb; replace BK18 := kb_ BK18 hb; replace BK15 := kb_ BK15 hb; replace HB := hs_ hb; clear hb; refine by8_ BK15 ?_; intros) | (go_at_call 44; (with_reducible refine (spec_ReqOk.calls kj70 t19 t28 t40 x25_11 t29 a0_0 x26_50 x30_70 true _ A94.out).mono ?_); rintro e w103 ⟨rfl, hb⟩; replace BK16 := Aside0.mk (blk_below (g := gb16) (o := .cells #[.string a0_0, .slice A0_1 l0_1.length c0_1] 32 (0, 0)) (by refine ch_ ?_; exact bf_ NB16_15 BK16.out) hb); replace BK18 := Aside0.mk (blk_below (g := gb18) (o := .cells #[.int .i64 0, .string ⟨#[]⟩, .string ⟨#[]⟩, .string ⟨#[]⟩, .string ⟨#[]⟩, .string ⟨#[]⟩, .int .i64 0, .int .i64 0] 27 (0, 0)) (by refine ch_ ?_; exact bf_ NB18_15 BK18.out) hb); replace BK15 := Aside0.mk (blk_below (g := gb15) (o := .cells #[.int .i64 t19, .string t28, .string t40, .string x25_11, .string t29, .string a0_0, .int .i64 x26_50, .int .i64 x30_70] 27 (0, 0)) (by refine ch_ ?_; apply bq8_2_; exact ch_ BK15.out) hb); replace HB := hs_ hb; clear hb; refine by8_ BK15 ?_; intros; refine by8_ BK18 ?_; intros))
          refine bodyPost_ret (results_ct rfl _ _ gb18 27 #[.int .i64 t19, .string t28, .string t40, .string x25_11, .string t29, .string a0_0, .int .i64 x26_50, .int .i64 x30_70] (0, 0) _ rfl (by refine ch_ ?_; apply bq8_7_6_5_4_3_2_1_0_; exact ch_ BK18.out) underlying27 rfl (by kernel_rfl)) rfl ?_
          exact ⟨sq_, bl_⟩
         replace c95 := gf_ c95
         subst c95
         replace H := in_ H
         simp only [Option.some.injEq, Prod.mk.injEq] at H
         obtain ⟨rfl, rfl, rfl, rfl, rfl, rfl, rfl, rfl, rfl⟩ := H
         have := NB15_16.out
         have := NB16_15.out
         have := NB15_18.out
         have := NB18_15.out
         refine by8_ BK15 ?_; intros
         have := NB16_18.out
         have := NB18_16.out
         refine by2_ BK16 ?_; intros
         go_wp2_with (first | ((with_reducible refine gb_ 38 101 func38 #[.agg #[.string a0_0, .slice A0_1 l0_1.length c0_1], .int .i64 103] (spec_FieldOf.calls kj70 a0_0 _ _ l0_1 103 t40 t74 _ (cb_ HR0_1 HB) HC0_1.out A92.out) fun w111 hb => ?_); replace BK16 := kb_ BK16 hb; replace BK18 := kb_ BK18 hb; replace BK15 := kb_ BK15 hb; replace HB := hs_ hb; clear hb; refine by8_ BK15 ?_; intros) | (go_at_call 44; (with_reducible refine (spec_ReqOk.calls kj70 t19 t28 t40 x25_11 t29 a0_0 x26_50 x30_70 false _ A94.out).mono ?_); rintro e w113 ⟨rfl, hb⟩; replace BK16 := Aside0.mk (blk_below (g := gb16) (o := .cells #[.string a0_0, .slice A0_1 l0_1.length c0_1] 32 (0, 0)) (by refine ch_ ?_; exact bf_ NB16_15 BK16.out) hb); replace BK18 := Aside0.mk (blk_below (g := gb18) (o := .cells #[.int .i64 0, .string ⟨#[]⟩, .string ⟨#[]⟩, .string ⟨#[]⟩, .string ⟨#[]⟩, .string ⟨#[]⟩, .int .i64 0, .int .i64 0] 27 (0, 0)) (by refine ch_ ?_; exact bf_ NB18_15 BK18.out) hb); replace BK15 := Aside0.mk (blk_below (g := gb15) (o := .cells #[.int .i64 t19, .string t28, .string t40, .string x25_11, .string t29, .string a0_0, .int .i64 x26_50, .int .i64 x30_70] 27 (0, 0)) (by refine ch_ ?_; apply bq8_2_; exact ch_ BK15.out) hb); replace HB := hs_ hb; clear hb; refine by8_ BK18 ?_; intros))
         refine bodyPost_ret (results_ct rfl _ _ gb18 27 #[.int .i64 0, .string ⟨#[]⟩, .string ⟨#[]⟩, .string ⟨#[]⟩, .string ⟨#[]⟩, .string ⟨#[]⟩, .int .i64 0, .int .i64 0] (0, 0) _ rfl (by refine ch_ ?_; apply bq8_7_6_5_4_3_2_1_0_; exact ch_ BK18.out) underlying27 rfl (by kernel_rfl)) rfl ?_
         exact ⟨sq_, bl_⟩
        ·replace c93 := gf_ c93
         subst c93
         replace H := in_ H
         simp only [Option.some.injEq, Prod.mk.injEq] at H
         obtain ⟨rfl, rfl, rfl, rfl, rfl, rfl, rfl, rfl, rfl⟩ := H
         have := NB15_16.out
         have := NB16_15.out
         have := NB15_18.out
         have := NB18_15.out
         refine by8_ BK15 ?_; intros
         have := NB16_18.out
         have := NB18_16.out
         refine by2_ BK16 ?_; intros
         go_wp2_with (first | ((with_reducible refine gb_ 38 101 func38 #[.agg #[.string a0_0, .slice A0_1 l0_1.length c0_1], .int .i64 103] (spec_FieldOf.calls kj70 a0_0 _ _ l0_1 103 t40 t74 _ (cb_ HR0_1 HB) HC0_1.out A92.out) fun w120 hb => ?_); replace BK16 := kb_ BK16 hb; replace BK18 := kb_ BK18 hb; replace BK15 := kb_ BK15 hb; replace HB := hs_ hb; clear hb; refine by8_ BK15 ?_; intros; refine by8_ BK18 ?_; intros))
         refine bodyPost_ret (results_ct rfl _ _ gb18 27 #[.int .i64 0, .string ⟨#[]⟩, .string ⟨#[]⟩, .string ⟨#[]⟩, .string ⟨#[]⟩, .string ⟨#[]⟩, .int .i64 0, .int .i64 0] (0, 0) _ rfl (by refine ch_ ?_; apply bq8_7_6_5_4_3_2_1_0_; refine ch_ ?_; exact bf_ NB18_15 BK18.out) underlying27 rfl (by kernel_rfl)) rfl ?_
         exact ⟨sq_, bl_⟩
       ·rw [if_neg c91] at H
        have c91b0 := ef_ c91
        have c91b1 := nt_ c91
        by_cases c64 : x5_70 = true
        ·subst c64
         replace H := ip_ H
         obtain ⟨t67, A80, H⟩ := ob_ H
         by_cases c65 : t67 = true
         ·subst c65
          replace H := ip_ H
          simp only [Option.some.injEq, Prod.mk.injEq] at H
          obtain ⟨rfl, rfl, rfl, rfl, rfl, rfl, rfl, rfl, rfl⟩ := H
          have := NB15_16.out
          have := NB16_15.out
          have := NB15_18.out
          have := NB18_15.out
          refine by8_ BK15 ?_; intros
          go_wp2_with (first | (go_at_call 44; (with_reducible refine (spec_ReqOk.calls kj70 t19 t28 (⟨#[]⟩ : ByteArray) x25_11 t29 a0_0 x26_50 x30_70 true _ A80.out).mono ?_); rintro e w129 ⟨rfl, hb⟩; replace BK16 := kb_ BK16 hb; replace BK18 := kb_ BK18 hb; replace BK15 := kb_ BK15 hb; replace HB := hs_ hb; clear hb; refine by8_ BK15 ?_; intros; have := NB18_16.out; have := NB16_18.out; refine by8_ BK18 ?_; intros))
          refine bodyPost_ret (results_ct rfl _ _ gb18 27 #[.int .i64 t19, .string t28, .string ⟨#[]⟩, .string x25_11, .string t29, .string a0_0, .int .i64 x26_50, .int .i64 x30_70] (0, 0) _ rfl (by refine ch_ ?_; apply bq8_7_6_5_4_3_2_1_0_; exact ch_ BK18.out) underlying27 rfl (by kernel_rfl)) rfl ?_
          exact ⟨sq_, bl_⟩
         replace c65 := gf_ c65
         subst c65
         replace H := in_ H
         simp only [Option.some.injEq, Prod.mk.injEq] at H
         obtain ⟨rfl, rfl, rfl, rfl, rfl, rfl, rfl, rfl, rfl⟩ := H
         have := NB15_16.out
         have := NB16_15.out
         have := NB15_18.out
         have := NB18_15.out
         refine by8_ BK15 ?_; intros
         go_wp2_with (first | (go_at_call 44; (with_reducible refine (spec_ReqOk.calls kj70 t19 t28 (⟨#[]⟩ : ByteArray) x25_11 t29 a0_0 x26_50 x30_70 false _ A80.out).mono ?_); rintro e w136 ⟨rfl, hb⟩; replace BK16 := kb_ BK16 hb; replace BK18 := kb_ BK18 hb; replace BK15 := kb_ BK15 hb; replace HB := hs_ hb; clear hb; have := NB18_16.out; have := NB16_18.out; refine by8_ BK18 ?_; intros))
         refine bodyPost_ret (results_ct rfl _ _ gb18 27 #[.int .i64 0, .string ⟨#[]⟩, .string ⟨#[]⟩, .string ⟨#[]⟩, .string ⟨#[]⟩, .string ⟨#[]⟩, .int .i64 0, .int .i64 0] (0, 0) _ rfl (by refine ch_ ?_; apply bq8_7_6_5_4_3_2_1_0_; exact ch_ BK18.out) underlying27 rfl (by kernel_rfl)) rfl ?_
         exact ⟨sq_, bl_⟩
        ·replace c64 := gf_ c64
         subst c64
         replace H := in_ H
         simp only [Option.some.injEq, Prod.mk.injEq] at H
         obtain ⟨rfl, rfl, rfl, rfl, rfl, rfl, rfl, rfl, rfl⟩ := H
         have := NB15_16.out
         have := NB16_15.out
         have := NB15_18.out
         have := NB18_15.out
         refine by8_ BK15 ?_; intros
         have := NB18_16.out
         have := NB16_18.out
         refine by8_ BK18 ?_; intros
         go_wp2
         refine bodyPost_ret (results_ct rfl _ _ gb18 27 #[.int .i64 0, .string ⟨#[]⟩, .string ⟨#[]⟩, .string ⟨#[]⟩, .string ⟨#[]⟩, .string ⟨#[]⟩, .int .i64 0, .int .i64 0] (0, 0) _ rfl (by refine ch_ ?_; apply bq8_7_6_5_4_3_2_1_0_; exact ch_ BK18.out) underlying27 rfl (by kernel_rfl)) rfl ?_
         exact ⟨sq_, bl_⟩
/-! ### spec_GetBcd: function 93 -/
mutual
def spec_GetBcd.j0 : Nat → List Int → Int → Int → Bool → Option (ByteArray × Int × Bool)
 | 0, _, _, _, _ => none
 | k + 1, x0, x1, x2, x36 => if x36 = true then (some ((⟨#[]⟩ : ByteArray), 0, false)) else (spec_GetBcd.l0 k x0 x1 x2 (⟨#[]⟩ : ByteArray) x1)
def spec_GetBcd.l0 : Nat → List Int → Int → Int → ByteArray → Int → Option (ByteArray × Int × Bool)
 | 0, _, _, _, _, _ => none
 | k + 1, x0, x1, x2, x9, x10 => if x10 < (wrap64 (x1 + (wrap64 (Int.tdiv (wrap64 (x2 + 1)) 2)))) then (if 0 ≤ x10 then (if x10 < (x0.length : Int) then ((some (([(wrap64 (48 + (wrap64 (Int.tdiv (wrap64 (rd x0 x10)) 16)))) % 256, (wrap64 (48 + (Int.tmod (wrap64 (rd x0 x10)) 16))) % 256] : List Int) : List Int)).bind fun y28 => (if x9.size + (strOfNums y28).size ≤ 9223372036854775807 then (spec_GetBcd.l0 k x0 x1 x2 (x9 ++ (strOfNums y28)) (wrap64 (x10 + 1))) else (none))) else (none)) else (none)) else (if (Int.tmod x2 2) = 1 then (if 0 < (x9.size : Int) then (if (bt x9 0) = 48 then (if 1 ≤ (x9.size : Int) then ((spec_Digits.f k (x9.extract 1 x9.size)).bind fun t29 => (if t29 = true then (some (x9.extract 1 x9.size, wrap64 (x1 + (wrap64 (Int.tdiv (wrap64 (x2 + 1)) 2))), true)) else (some ((⟨#[]⟩ : ByteArray), 0, false)))) else (none)) else (some ((⟨#[]⟩ : ByteArray), 0, false))) else (none)) else ((spec_Digits.f k x9).bind fun t30 => (if t30 = true then (some (x9, wrap64 (x1 + (wrap64 (Int.tdiv (wrap64 (x2 + 1)) 2))), true)) else (some ((⟨#[]⟩ : ByteArray), 0, false)))))
end
def spec_GetBcd.f (k : Nat) (l0 : List Int) (a1 : Int) (a2 : Int) : Option (ByteArray × Int × Bool) := if a2 < 1 then (spec_GetBcd.j0 k l0 a1 a2 true) else (if a2 > 38 then (spec_GetBcd.j0 k l0 a1 a2 true) else (if a1 < 0 then (spec_GetBcd.j0 k l0 a1 a2 true) else (if a1 > (l0.length : Int) then (spec_GetBcd.j0 k l0 a1 a2 true) else (spec_GetBcd.j0 k l0 a1 a2 (decide ((wrap64 (Int.tdiv (wrap64 (a2 + 1)) 2)) > (wrap64 ((l0.length : Int) - a1))))))))
def spec_GetBcd.T7 : Bool × List (List Nat × List Nat) := (true, [([], []), ([], []), ([], []), ([1, 2], [1, 2]), ([3], [3]), ([4], [4]), ([5], [5]), ([6], [6]), ([7], [7]), ([], []), ([], []), ([9, 10], [9, 10]), ([11], [11]), ([12], [12]), ([13], [13]), ([14], [14]), ([15], [15]), ([8, 16], [8, 16]), ([17], [17]), ([0, 18], [0, 18]), ([19, 0, 1, 2, 3, 4, 5, 6, 7, 8, 9, 10, 11, 12, 13, 14, 15, 16, 17, 18, 19], [0, 19])])
def spec_GetBcd.B7 : List Nat := [0, 0, 0, 6, 14, 30, 62, 126, 254, 0, 0, 1536, 3584, 7680, 15872, 32256, 65024, 131070, 262142, 524287, 1048575]
theorem spec_GetBcd.tab7 : rtab .any (opsOf Tryz.f93 7) = spec_GetBcd.T7 := by kernel_rfl
theorem spec_GetBcd.bits7 : waitsOk spec_GetBcd.T7.2 spec_GetBcd.B7 = true := by kernel_rfl
theorem spec_GetBcd.calls (k : Nat) (A0 : Option Addr) (c0 : Nat) (l0 : List Int) (a1 : Int) (a2 : Int) (r1 : ByteArray) (r2 : Int) (r3 : Bool) (w : World) (hr0 : Kd.C (Kd.int .u8) w A0 l0.length l0) (hc0 : l0.length ≤ c0) (h : spec_GetBcd.f k l0 a1 a2 = some (r1, r2, r3)) :
  Calls Tryz.prog 93 #[.slice A0 l0.length c0, .int .i64 a1, .int .i64 a2] w fun e w' => e = .returned (.tuple #[.string r1, .int .i64 r2, .bool r3]) ∧ Below w.heap.size w w' := by
 have HR0 := Aside0.mk hr0
 have HC0 := Aside0.mk hc0
 clear hr0 hc0
 have HB := Aside0.mk (Below.refl w.heap.size w)
 have H := h
 unfold spec_GetBcd.f at H
 clear h
 have HC4 := Aside0.mk H
 clear H
 go_enter func93, ntmps93
 go_upto_region 1 with (fail)
 go_cut [36] (fun v36 wc => ∃ (kq : Nat) (x36_3 : Bool), v36 = .bool x36_3 ∧ Aside0 (spec_GetBcd.j0 kq l0 a1 a2 x36_3 = some (r1, r2, r3)) ∧ Aside0 (kq ≤ k) ∧ Aside0 (Below w.heap.size w wc))
 case first =>
  have H := HC4.out
  clear HC4
  by_cases c5 : a2 < 1
  ·rw [if_pos c5] at H
   have c5b0 := dt_ c5
   clear c5
   (first | rw [c5b0] | (simp only [i64_w, i32_w]; rw [c5b0]) | skip)
   have H' := Aside0.mk H
   clear H
   go_wp2
   go_meet
   case rel => exact ⟨_, (true), sp_, H', ⟨by first | omega | exact Nat.le_refl _⟩, ⟨bl_⟩⟩
  rw [if_neg c5] at H
  have c5b0 := df_ c5
  clear c5
  (first | rw [c5b0] | (simp only [i64_w, i32_w]; rw [c5b0]) | skip)
  by_cases c6 : a2 > 38
  ·rw [if_pos c6] at H
   replace c6 := dt_ c6
   have H' := Aside0.mk H
   clear H
   go_wp2
   go_meet
   case rel => exact ⟨_, (true), sp_, H', ⟨by first | omega | exact Nat.le_refl _⟩, ⟨bl_⟩⟩
  rw [if_neg c6] at H
  replace c6 := df_ c6
  by_cases c7 : a1 < 0
  ·rw [if_pos c7] at H
   replace c7 := dt_ c7
   have H' := Aside0.mk H
   clear H
   go_wp2
   go_meet
   case rel => exact ⟨_, (true), sp_, H', ⟨by first | omega | exact Nat.le_refl _⟩, ⟨bl_⟩⟩
  rw [if_neg c7] at H
  replace c7 := df_ c7
  by_cases c8 : a1 > (l0.length : Int)
  ·rw [if_pos c8] at H
   replace c8 := dt_ c8
   have H' := Aside0.mk H
   clear H
   go_wp2
   go_meet
   case rel => exact ⟨_, (true), sp_, H', ⟨by first | omega | exact Nat.le_refl _⟩, ⟨bl_⟩⟩
  rw [if_neg c8] at H
  replace c8 := df_ c8
  have H' := Aside0.mk H
  clear H
  go_wp2
  go_meet
  case rel => exact ⟨_, (decide ((wrap64 (Int.tdiv (wrap64 (a2 + 1)) 2)) > (wrap64 ((l0.length : Int) - a1)))), sp_, H', ⟨by first | omega | exact Nat.le_refl _⟩, ⟨bl_⟩⟩
 case rest =>
  clear HC4
  obtain ⟨kq, x36_3, rfl, HA, HJ3, HB⟩ := hcut
  cases kq with
  | zero => exact absurd HA.out (by simp [spec_GetBcd.j0])
  | succ kj3 =>
   have H := HA.out
   clear HA
   simp only [spec_GetBcd.j0] at H
   by_cases c9 : x36_3 = true
   ·subst c9
    replace H := ip_ H
    simp only [Option.some.injEq, Prod.mk.injEq] at H
    obtain ⟨rfl, rfl, rfl⟩ := H
    go_wp2
    go_ret3
    exact ⟨sq_, bl_⟩
   replace c9 := gf_ c9
   subst c9
   replace H := in_ H
   have H' := Aside0.mk H
   clear H
   go_wp2
   go_loopg [9, 10] kj3 (fun kq v9 v10 w' => ∃ (x9_2 : ByteArray) (x10_2 : Int), v9 = .string x9_2 ∧ v10 = .int .i64 x10_2 ∧ Aside0 (spec_GetBcd.l0 kq l0 a1 a2 x9_2 x10_2 = some (r1, r2, r3)) ∧ Aside0 (kq ≤ kj3) ∧ Aside0 (Below w.heap.size w w'))
   case atStart => exact ⟨((⟨#[]⟩ : ByteArray)), (a1), sp_, sp_, H', ⟨Nat.le_refl _⟩, ⟨bl_⟩⟩
   case round =>
    clear H'
    obtain ⟨x9_2, x10_2, rfl, rfl, HA, HK2, HB⟩ := hrel
    cases gk with
    | zero => exact absurd HA.out (by simp [spec_GetBcd.l0])
    | succ k2 =>
     have H := HA.out
     clear HA
     simp only [spec_GetBcd.l0] at H
     by_cases c10 : x10_2 < (wrap64 (a1 + (wrap64 (Int.tdiv (wrap64 (a2 + 1)) 2))))
     rotate_left
     ·rw [if_neg c10] at H
      replace c10 := df_ c10
      by_cases c18 : (Int.tmod a2 2) = 1
      rotate_left
      ·rw [if_neg c18] at H
       have c18b0 := ef_ c18
       have c18b1 := nt_ c18
       obtain ⟨t30, A25, H⟩ := ob_ H
       by_cases c26 : t30 = true
       ·subst c26
        replace H := ip_ H
        simp only [Option.some.injEq, Prod.mk.injEq] at H
        obtain ⟨rfl, rfl, rfl⟩ := H
        go_wp2_with (first | ((with_reducible refine gd_ 76 76 func76 #[.string x9_2] (spec_Digits.calls k2 x9_2 true _ A25.out) fun nd => ?_)))
        go_ret3
        exact ⟨sq_, bl_⟩
       replace c26 := gf_ c26
       subst c26
       replace H := in_ H
       simp only [Option.some.injEq, Prod.mk.injEq] at H
       obtain ⟨rfl, rfl, rfl⟩ := H
       go_wp2_with (first | ((with_reducible refine gd_ 76 76 func76 #[.string x9_2] (spec_Digits.calls k2 x9_2 false _ A25.out) fun nd => ?_)))
       go_ret3
       exact ⟨sq_, bl_⟩
      rw [if_pos c18] at H
      have := et_ c18
      replace c18 := nf_ c18
      obtain ⟨c19, H⟩ := og_ H
      have c19b0 := dt_ c19
      have c19b1 : decide (0 < x9_2.size) = true := decide_eq_true (by omega)
      clear c19
      by_cases c21 : (bt x9_2 0) = 48
      rotate_left
      ·rw [if_neg c21] at H
       have c21b0 := ef_ c21
       have c21b1 := nt_ c21
       simp only [Option.some.injEq, Prod.mk.injEq] at H
       obtain ⟨rfl, rfl, rfl⟩ := H
       have p20 : 0 ≤ (0 : Int) := (by omega)
       have q20 : 0 < x9_2.size := (by have : (0 : Int) < (x9_2.size : Int) := od_; omega)
       have hx20 : ∀ h : 0 < x9_2.size, ((x9_2[0]'h).toNat : Int) = bt x9_2 0 := bt_at x9_2 0
       clear p20
       have qi20 : (0 < (x9_2.size : Int)) = True := eq_true od_
       replace q20 := eq_true q20
       go_wp2
       go_ret3
       exact ⟨sq_, bl_⟩
      rw [if_pos c21] at H
      have := et_ c21
      replace c21 := nf_ c21
      obtain ⟨c22, H⟩ := og_ H
      have := eq_true c22
      replace c22 := dt_ c22
      obtain ⟨t29, A23, H⟩ := ob_ H
      by_cases c24 : t29 = true
      ·subst c24
       replace H := ip_ H
       simp only [Option.some.injEq, Prod.mk.injEq] at H
       obtain ⟨rfl, rfl, rfl⟩ := H
       have p20 : 0 ≤ (0 : Int) := (by omega)
       have q20 : 0 < x9_2.size := (by have : (0 : Int) < (x9_2.size : Int) := od_; omega)
       have hx20 : ∀ h : 0 < x9_2.size, ((x9_2[0]'h).toNat : Int) = bt x9_2 0 := bt_at x9_2 0
       clear p20
       have qi20 : (0 < (x9_2.size : Int)) = True := eq_true od_
       replace q20 := eq_true q20
       go_wp2_with (first | ((with_reducible refine gd_ 76 76 func76 #[.string (x9_2.extract 1 x9_2.size)] (spec_Digits.calls k2 (x9_2.extract 1 x9_2.size) true _ A23.out) fun nd => ?_)))
       go_ret3
       exact ⟨sq_, bl_⟩
      replace c24 := gf_ c24
      subst c24
      replace H := in_ H
      simp only [Option.some.injEq, Prod.mk.injEq] at H
      obtain ⟨rfl, rfl, rfl⟩ := H
      have p20 : 0 ≤ (0 : Int) := (by omega)
      have q20 : 0 < x9_2.size := (by have : (0 : Int) < (x9_2.size : Int) := od_; omega)
      have hx20 : ∀ h : 0 < x9_2.size, ((x9_2[0]'h).toNat : Int) = bt x9_2 0 := bt_at x9_2 0
      clear p20
      have qi20 : (0 < (x9_2.size : Int)) = True := eq_true od_
      replace q20 := eq_true q20
      go_wp2_with (first | ((with_reducible refine gd_ 76 76 func76 #[.string (x9_2.extract 1 x9_2.size)] (spec_Digits.calls k2 (x9_2.extract 1 x9_2.size) false _ A23.out) fun nd => ?_)))
      go_ret3
      exact ⟨sq_, bl_⟩
     rw [if_pos c10] at H
     replace c10 := dt_ c10
     obtain ⟨c11, H⟩ := og_ H
     replace c11 := dt_ c11
     obtain ⟨c12, H⟩ := og_ H
     replace c12 := dt_ c12
     obtain ⟨y28, hy28⟩ : ∃ y_ : List Int, y_ = (([(wrap64 (48 + (wrap64 (Int.tdiv (wrap64 (rd l0 x10_2)) 16)))) % 256, (wrap64 (48 + (Int.tmod (wrap64 (rd l0 x10_2)) 16))) % 256] : List Int)) := ⟨_, rfl⟩
     replace H : (if x9_2.size + (strOfNums y28).size ≤ 9223372036854775807 then (spec_GetBcd.l0 k2 l0 a1 a2 (x9_2 ++ (strOfNums y28)) (wrap64 (x10_2 + 1))) else (none)) = some (r1, r2, r3) := hh_ hy28 H
     have Ny28 := Aside0.mk hy28
     clear hy28
     obtain ⟨c13, H⟩ := og_ H
     have c13b0 := eq_true c13
     have c13b1 := dt_ c13
     try have c13b2 : (9223372036854775807 < x9_2.size + (strOfNums y28).size) = False := eq_false (Nat.not_lt.2 c13)
     have H' := Aside0.mk H
     clear H
     try go_wp2
     have n0_ := Aside0.mk (below_drew1 HB.out)
     clear HB
     have HB := n0_
     clear n0_
     have p17 : 0 ≤ (x10_2 : Int) := od_
     have q17 : x10_2 < (l0.length : Int) := od_
     obtain ⟨ad17, e17, hx17_0⟩ := Kd.at_int HR0.out x10_2 p17 q17
     have hw224_0 := hx17_0
     cases e17
     replace hx17_0 := kc_ HB hx17_0
     replace p17 := eq_true p17
     replace q17 := eq_true q17
     have p27 : 0 ≤ (x10_2 : Int) := od_
     have q27 : x10_2 < (l0.length : Int) := od_
     obtain ⟨ad27, e27, hx27_0⟩ := Kd.at_int HR0.out x10_2 p27 q27
     have hw225_0 := hx27_0
     obtain rfl : ad17 = ad27 := (by injection e27)
     replace hx27_0 := kc_ HB hx27_0
     replace p27 := eq_true p27
     replace q27 := eq_true q27
     refine start_ (n := 21) (S := fun w' => w'.cell? (ad17.add (x10_2).toNat) = some (.int .u8 (rd l0 x10_2)) ∧ w'.cell? (ad17.add (x10_2).toNat) = some (.int .u8 (rd l0 x10_2))) (ds := []) tb21_0 (by kernel_rfl) rfl rfl ⟨(kc_ HB hw224_0), (kc_ HB hw225_0)⟩ (fun hHeld => ?_); refine with_tabW spec_GetBcd.tab7 spec_GetBcd.bits7 (fun HT_ HW_ => ?_)
     generalize wr.drew = w14 at HB hx17_0 hx27_0 hHeld ⊢
     refine pl_ HT_ 0 47 tb21_1 ?_
     refine pl_ HT_ 1 48 tb21_3 ?_
     refine pl_ HT_ 2 49 tb21_7 ?_
     refine pl_ HT_ 3 50 tb21_f ?_
     refine pl_ HT_ 9 56 tb21_20f ?_
     refine pl_ HT_ 10 57 tb21_60f ?_
     refine pl_ HT_ 11 58 tb21_e0f ?_
     refine take_ (i := 4) (N := some 51) (v := ?_) (a' := ?_) tb21_e1f rfl rfl (take_ofW HT_.out HW_.out (by kernel_rfl)) (fun _ _ _ h => h) (Or.inl ⟨by rfl, ?_⟩) hHeld ?_ ?_
     rotate_left
     ·rintro w' ⟨s0, s1⟩
      go_simp
      with_reducible rfl
     rotate_left
     ·simp only [Act.put, q_]
      rfl
     refine pl_ HT_ 5 52 tb21_e3f ?_
     refine pl_ HT_ 6 53 tb21_e7f ?_
     refine pl_ HT_ 7 54 tb21_eff ?_
     refine pl_ HT_ 8 55 tb21_fff ?_
     refine take_ (i := 12) (N := some 59) (v := ?_) (a' := ?_) tb21_1fff rfl rfl (take_ofW HT_.out HW_.out (by kernel_rfl)) (fun _ _ _ h => h) (Or.inl ⟨by rfl, ?_⟩) hHeld ?_ ?_
     rotate_left
     ·rintro w' ⟨s0, s1⟩
      go_simp
      with_reducible rfl
     rotate_left
     ·simp only [Act.put, q_]
      rfl
     refine pl_ HT_ 13 60 tb21_3fff ?_
     refine pl_ HT_ 14 61 tb21_7fff ?_
     refine pl_ HT_ 15 62 tb21_ffff ?_
     refine pl_ HT_ 16 63 tb21_1ffff ?_
     refine one_ (i := 17) (N := some 64) tb21_3ffff rfl rfl (one_of HT_.out (by kernel_rfl)) (by decide) (fun K hK => ?_)
     refine Kd.R_lit_step (Kd.int .u8) _ 5 ?hg (N := 64) ?hd (xs := ([(wrap64 (48 + (wrap64 (Int.tdiv (wrap64 (rd l0 x10_2)) 16)))) % 256, (wrap64 (48 + (Int.tmod (wrap64 (rd l0 x10_2)) 16))) % 256] : List Int)) (inner := [.int .u8 ((wrap64 (48 + (wrap64 (Int.tdiv (wrap64 (rd l0 x10_2)) 16)))) % 256), .int .u8 ((wrap64 (48 + (Int.tmod (wrap64 (rd l0 x10_2)) 16))) % 256)]) (ok := fun _ => True) (okp := fun _ => True) ?hr ?hp (fun _ hk => hk) trivial (Below.refl _ _) (Nat.le_refl _) (by simp) ?_; (case hd => rfl); (case hg => rfl); (case hr => first | (go_simp; done) | (go_simp; rfl)); (case hp => exact (Reps.one (show Kd.M (Kd.int .u8) _ _ _ ((wrap64 (48 + (wrap64 (Int.tdiv (wrap64 (rd l0 x10_2)) 16)))) % 256) [.int .u8 ((wrap64 (48 + (wrap64 (Int.tdiv (wrap64 (rd l0 x10_2)) 16)))) % 256)] from rfl) (Reps.one (show Kd.M (Kd.int .u8) _ _ _ ((wrap64 (48 + (Int.tmod (wrap64 (rd l0 x10_2)) 16))) % 256) [.int .u8 ((wrap64 (48 + (Int.tmod (wrap64 (rd l0 x10_2)) 16))) % 256)] from rfl) (Reps.none _ _))))
     intro v32 w15 ho16 hb hg_ hnew_
     clear hg_ hnew_
     (first | rw [← Ny28.out] at ho16 | (simp only [Int.reduceToNat] at ho16; rw [← Ny28.out] at ho16))
     have n0_ := Aside0.mk (Kd.R_lower ho16 (below_size bl_))
     have n1_ := Aside0.mk (below_step bl_ hb)
     clear HB
     have HO31 := n0_
     have HB := n1_
     clear n0_ n1_
     clear hb ho16
     refine hK.out _ _ ⟨(kc_ HB hw224_0), (kc_ HB hw225_0)⟩ (fun hHeld => ?_)
     clear hK K
     refine norm_ (a' := ?_) ?_ ?_
     rotate_left
     ·show Act.put _ (some 64) _ = _
      simp only [Act.put, q_]
      rfl
     refine one_ (i := 18) (N := some 65) tb21_7ffff rfl rfl (one_of HT_.out (by kernel_rfl)) (by decide) (fun K hK => ?_)
     have hcv17 := own_string (P := Tryz.prog) underlying37 underlying5 underlying9 (Kd.own_of_R HO31.out)
     refine value_ (w1 := ?_) (v := ?_) (by rfl) rfl ?_ ?_
     rotate_left 2
     ·go_simp
      constructor
      ·rfl
      ·rfl
     clear hcv17
     refine hK.out _ _ ⟨(kc_ HB hw224_0), (kc_ HB hw225_0)⟩ (fun hHeld => ?_)
     clear hK K
     refine norm_ (a' := ?_) ?_ ?_
     rotate_left
     ·show Act.put _ (some 65) _ = _
      simp only [Act.put, q_]
      rfl
     refine pl_ HT_ 19 66 tb21_fffff ?_
     refine pl_ HT_ 20 9 tb21_1fffff ?_
     refine done_ (done_of HT_.out (by kernel_rfl)) ?_
     try go_wp2
     go_roundg k2
     case measure => have := HJ3.out; have := HK2.out; omega
     case rel => exact ⟨(x9_2 ++ (strOfNums y28)), (wrap64 (x10_2 + 1)), sp_, sp_, H', ⟨by have := HJ3.out; have := HK2.out; omega⟩, ⟨bl_⟩⟩
/-! ### spec_GetBits: function 122 -/
mutual
def spec_GetBits.j0 : Nat → List Int → Int → Bool → Option (List Int × Int × Bool)
 | 0, _, _, _ => none
 | k + 1, x0, x1, x17 => if x17 = true then (some (([] : List Int), 0, false)) else (spec_GetBits.l0 k x0 x1 (([] : List Int)) 1)
def spec_GetBits.l0 : Nat → List Int → Int → List Int → Int → Option (List Int × Int × Bool)
 | 0, _, _, _, _ => none
 | k + 1, x0, x1, x7, x8 => if x8 ≤ 64 then (if 0 ≤ (wrap64 (x1 + (wrap64 (Int.tdiv (wrap64 (x8 - 1)) 8)))) then (if (wrap64 (x1 + (wrap64 (Int.tdiv (wrap64 (x8 - 1)) 8)))) < (x0.length : Int) then (if 0 ≤ (wrap64 (7 - (Int.tmod (wrap64 (x8 - 1)) 8))) then (if (Int.tmod (shr .i64 (wrap64 (rd x0 (wrap64 (x1 + (wrap64 (Int.tdiv (wrap64 (x8 - 1)) 8)))))) (wrap64 (7 - (Int.tmod (wrap64 (x8 - 1)) 8)))) 2) = 1 then (if x7.length < 17592186044416 then (spec_GetBits.l0 k x0 x1 (x7 ++ [x8]) (wrap64 (x8 + 1))) else (none)) else (spec_GetBits.l0 k x0 x1 x7 (wrap64 (x8 + 1)))) else (none)) else (none)) else (none)) else (some (x7, wrap64 (x1 + 8), true))
end
def spec_GetBits.f (k : Nat) (l0 : List Int) (a1 : Int) : Option (List Int × Int × Bool) := if a1 < 0 then (spec_GetBits.j0 k l0 a1 true) else (spec_GetBits.j0 k l0 a1 (decide (a1 > (wrap64 ((l0.length : Int) - 8)))))
theorem spec_GetBits.calls (k : Nat) (A0 : Option Addr) (c0 : Nat) (l0 : List Int) (a1 : Int) (r1 : List Int) (r2 : Int) (r3 : Bool) (w : World) (hr0 : Kd.C (Kd.int .u8) w A0 l0.length l0) (hc0 : l0.length ≤ c0) (h : spec_GetBits.f k l0 a1 = some (r1, r2, r3)) :
  Calls Tryz.prog 122 #[.slice A0 l0.length c0, .int .i64 a1] w fun e w' => ∃ v0_ : Value, e = .returned (.tuple #[v0_, .int .i64 r2, .bool r3]) ∧ Kd.R (Kd.int .i64) 3 w' w.heap.size (fun _ => True) v0_ r1 ∧ Below w.heap.size w w' := by
 have HR0 := Aside0.mk hr0
 have HC0 := Aside0.mk hc0
 clear hr0 hc0
 have HB := Aside0.mk (Below.refl w.heap.size w)
 have H := h
 unfold spec_GetBits.f at H
 clear h
 have HC3 := Aside0.mk H
 clear H
 go_enter func122, ntmps122
 go_upto_region 1 with (fail)
 go_cut [17] (fun v17 wc => ∃ (kq : Nat) (x17_2 : Bool), v17 = .bool x17_2 ∧ Aside0 (spec_GetBits.j0 kq l0 a1 x17_2 = some (r1, r2, r3)) ∧ Aside0 (kq ≤ k) ∧ Aside0 (Below w.heap.size w wc))
 case first =>
  have H := HC3.out
  clear HC3
  by_cases c4 : a1 < 0
  ·rw [if_pos c4] at H
   have c4b0 := dt_ c4
   clear c4
   (first | rw [c4b0] | (simp only [i64_w, i32_w]; rw [c4b0]) | skip)
   have H' := Aside0.mk H
   clear H
   go_wp2
   go_meet
   case rel => exact ⟨_, (true), sp_, H', ⟨by first | omega | exact Nat.le_refl _⟩, ⟨bl_⟩⟩
  rw [if_neg c4] at H
  have c4b0 := df_ c4
  clear c4
  (first | rw [c4b0] | (simp only [i64_w, i32_w]; rw [c4b0]) | skip)
  have H' := Aside0.mk H
  clear H
  go_wp2
  go_meet
  case rel => exact ⟨_, (decide (a1 > (wrap64 ((l0.length : Int) - 8)))), sp_, H', ⟨by first | omega | exact Nat.le_refl _⟩, ⟨bl_⟩⟩
 case rest =>
  clear HC3
  obtain ⟨kq, x17_2, rfl, HA, HJ2, HB⟩ := hcut
  cases kq with
  | zero => exact absurd HA.out (by simp [spec_GetBits.j0])
  | succ kj2 =>
   have H := HA.out
   clear HA
   simp only [spec_GetBits.j0] at H
   by_cases c5 : x17_2 = true
   ·subst c5
    replace H := ip_ H
    simp only [Option.some.injEq, Prod.mk.injEq] at H
    obtain ⟨rfl, rfl, rfl⟩ := H
    go_wp2
    go_ret3
    exact ⟨_, sq_, by first | exact Kd.R_nil _ _ _ _ _ | exact Kd.N_nil _ _ _ _ _ | exact Kd.V_nil _ _ _ _ _ | exact Kd.Q_nil _ _ _ _ _ | exact Kd.S_nil _ _ _ _ _, bl_⟩
   replace c5 := gf_ c5
   subst c5
   replace H := in_ H
   obtain ⟨y19, hy19⟩ : ∃ y_ : List Int, y_ = (([] : List Int)) := ⟨_, rfl⟩
   replace H : (spec_GetBits.l0 kj2 l0 a1 y19 1) = some (r1, r2, r3) := hh_ hy19 H
   have Ny19 := Aside0.mk hy19
   clear hy19
   have H' := Aside0.mk H
   clear H
   go_wp2_with (first | ((with_reducible refine gate_dst (N := 18) rfl ?_); (try (refine gate_guard (by rfl) ?_; dsimp only)); refine Kd.R_lit (Kd.int .i64) _ 3 ?hg (N := 18) ?hd (xs := ([] : List Int)) (inner := []) (ok := fun _ => True) (okp := fun _ => True) ?hr ?hp (fun _ hk => hk) trivial (Below.refl _ _) (Nat.le_refl _) (by simp) ?_; (case hd => rfl); (case hg => rfl); (case hr => first | (go_simp; done) | (go_simp; rfl)); (case hp => exact (Reps.none _ _)); intro v23 w6 ho7 hb hg_ hnew_; clear hg_ hnew_; (first | rw [← Ny19.out] at ho7 | (simp only [Int.reduceToNat] at ho7; rw [← Ny19.out] at ho7)); have HO21 := Aside0.mk (Kd.R_lower ho7 (below_size bl_)); replace HB := hs_ hb; clear hb ho7))
   go_loopg [7, 8] kj2 (fun kq v7 v8 w' => ∃ (x7_2 : List Int) (x8_2 : Int), v8 = .int .i64 x8_2 ∧ Aside0 (spec_GetBits.l0 kq l0 a1 x7_2 x8_2 = some (r1, r2, r3)) ∧ Aside0 (kq ≤ kj2) ∧ Aside0 (Kd.R (Kd.int .i64) 3 w' w.heap.size (fun _ => True) v7 x7_2) ∧ Aside0 (Below w.heap.size w w'))
   case atStart => exact ⟨(y19), (1), sp_, H', ⟨Nat.le_refl _⟩, ⟨ra_ HO21⟩, ⟨bl_⟩⟩
   case round =>
    clear H'
    obtain ⟨x7_2, x8_2, rfl, HA, HK2, HO_7, HB⟩ := hrel
    cases gk with
    | zero => exact absurd HA.out (by simp [spec_GetBits.l0])
    | succ k2 =>
     have H := HA.out
     clear HA
     simp only [spec_GetBits.l0] at H
     by_cases c8 : x8_2 ≤ 64
     rotate_left
     ·rw [if_neg c8] at H
      replace c8 := df_ c8
      simp only [Option.some.injEq, Prod.mk.injEq] at H
      obtain ⟨rfl, rfl, rfl⟩ := H
      go_wp2
      go_ret3
      exact ⟨_, sq_, ra_ HO_7, bl_⟩
     rw [if_pos c8] at H
     replace c8 := dt_ c8
     obtain ⟨ji9, hji9⟩ : ∃ j_ : Int, (wrap64 (a1 + (wrap64 (Int.tdiv (wrap64 (x8_2 - 1)) 8)))) = j_ := ⟨_, rfl⟩
     replace H : (if 0 ≤ (ji9) then (if (ji9) < (l0.length : Int) then (if 0 ≤ (wrap64 (7 - (Int.tmod (wrap64 (x8_2 - 1)) 8))) then (if (Int.tmod (shr .i64 (wrap64 (rd l0 (ji9))) (wrap64 (7 - (Int.tmod (wrap64 (x8_2 - 1)) 8)))) 2) = 1 then (if x7_2.length < 17592186044416 then (spec_GetBits.l0 k2 l0 a1 (x7_2 ++ [x8_2]) (wrap64 (x8_2 + 1))) else (none)) else (spec_GetBits.l0 k2 l0 a1 x7_2 (wrap64 (x8_2 + 1)))) else (none)) else (none)) else (none)) = some (r1, r2, r3) := by first | (rw [hji9] at H; exact H) | (simp only [hji9] at H ⊢; exact H)
     have hji9w : (IntKind.i64.wrap (a1 + (wrap64 (Int.tdiv (wrap64 (x8_2 - 1)) 8)))) = ji9 := (i64_w _).trans hji9
     obtain ⟨c10, H⟩ := og_ H
     replace c10 := dt_ c10
     obtain ⟨c11, H⟩ := og_ H
     replace c11 := dt_ c11
     obtain ⟨ji12, hji12⟩ : ∃ j_ : Int, (wrap64 (7 - (Int.tmod (wrap64 (x8_2 - 1)) 8))) = j_ := ⟨_, rfl⟩
     replace H : (if 0 ≤ (ji12) then (if (Int.tmod (shr .i64 (wrap64 (rd l0 (ji9))) (ji12)) 2) = 1 then (if x7_2.length < 17592186044416 then (spec_GetBits.l0 k2 l0 a1 (x7_2 ++ [x8_2]) (wrap64 (x8_2 + 1))) else (none)) else (spec_GetBits.l0 k2 l0 a1 x7_2 (wrap64 (x8_2 + 1)))) else (none)) = some (r1, r2, r3) := by first | (rw [hji12] at H; exact H) | (simp only [hji12] at H ⊢; exact H)
     have hji12w : (IntKind.i64.wrap (7 - (Int.tmod (wrap64 (x8_2 - 1)) 8))) = ji12 := (i64_w _).trans hji12
     obtain ⟨c13, H⟩ := og_ H
     have := eq_true c13
     replace c13 := dt_ c13
     obtain ⟨ji14, hji14⟩ : ∃ j_ : Int, (shr .i64 (wrap64 (rd l0 (ji9))) (ji12)) = j_ := ⟨_, rfl⟩
     replace H : (if (Int.tmod (ji14) 2) = 1 then (if x7_2.length < 17592186044416 then (spec_GetBits.l0 k2 l0 a1 (x7_2 ++ [x8_2]) (wrap64 (x8_2 + 1))) else (none)) else (spec_GetBits.l0 k2 l0 a1 x7_2 (wrap64 (x8_2 + 1)))) = some (r1, r2, r3) := by first | (rw [hji14] at H; exact H) | (simp only [hji14] at H ⊢; exact H)
     have hji14_ : ((wrap64 (rd l0 (ji9))) / 2 ^ min (ji12).toNat 64) = ji14 := hji14
     have hji14z : (ji12) ≤ 64 → ((wrap64 (rd l0 (ji9))) / 2 ^ (ji12).toNat) = ji14 := shr_small hji14
     by_cases c15 : (Int.tmod (ji14) 2) = 1
     ·rw [if_pos c15] at H
      have := et_ c15
      replace c15 := nf_ c15
      by_cases c16 : x7_2.length < 17592186044416
      ·rw [if_pos c16] at H
       have LMc16 := Aside0.mk c16
       clear c16
       obtain ⟨y20, hy20⟩ : ∃ y_ : List Int, y_ = (x7_2 ++ [x8_2]) := ⟨_, rfl⟩
       replace H : (spec_GetBits.l0 k2 l0 a1 y20 (wrap64 (x8_2 + 1))) = some (r1, r2, r3) := hh_ hy20 H
       have Ny20 := Aside0.mk hy20
       clear hy20
       have H' := Aside0.mk H
       clear H
       have p18 : 0 ≤ ((ji9) : Int) := od_
       have q18 : (ji9) < (l0.length : Int) := od_
       obtain ⟨ad18, e18, hx18_0⟩ := Kd.at_int HR0.out (ji9) p18 q18
       cases e18
       replace hx18_0 := kc_ HB hx18_0
       replace p18 := eq_true p18
       replace q18 := eq_true q18
       go_wp2_with (first | ((with_reducible refine gate_builtin (b := .append) (xs := #[.tmp 39, .tmp 41]) rfl ?_); (try (refine gate_guard (by rfl) ?_; dsimp only)); at_builtin; refine Kd.R_append (Kd.int .i64) (w0 := w) w.heap.size rfl (.tmp 39) (.tmp 41) 46 3 (.int .i64 0) 8 rfl underlying46 info3 rfl (by decide) (by omega) u7 x7_2 x8_2 [.int .i64 x8_2] (fun _ => True) (fun _ => False) rfl rfl ?aP (fun _ hk => hk.elim) ?aF ?aO ?aB ?aS ?aL ?_; (case aP => exact rfl); (case aB => exact bl_); (case aF => exact (fun _ _ => trivial)); (case aO => exact (ra_ HO_7)); (case aS => exact (below_size bl_)); (case aL => have := LMc16.out; omega); intro v24 w17 ho hb hg hat; rw [← Ny20.out] at ho; have n0_ := Aside0.mk (hb); have n1_ := Aside0.mk (ho); clear HB; clear HO_7; have HB := n0_; have HO22 := n1_; clear n0_ n1_; clear ho hb hg hat))
       go_roundg k2
       case measure => have := HJ2.out; have := HK2.out; omega
       case rel => exact ⟨(y20), (wrap64 (x8_2 + 1)), sp_, H', ⟨by have := HJ2.out; have := HK2.out; omega⟩, ⟨ra_ HO22⟩, ⟨bl_⟩⟩
      ·rw [if_neg c16] at H
       exact absurd H (by simp)
     ·rw [if_neg c15] at H
      have c15b0 := ef_ c15
      have c15b1 := nt_ c15
      have H' := Aside0.mk H
      clear H
      have p18 : 0 ≤ ((ji9) : Int) := od_
      have q18 : (ji9) < (l0.length : Int) := od_
      obtain ⟨ad18, e18, hx18_0⟩ := Kd.at_int HR0.out (ji9) p18 q18
      cases e18
      replace hx18_0 := kc_ HB hx18_0
      replace p18 := eq_true p18
      replace q18 := eq_true q18
      go_wp2
      go_roundg k2
      case measure => have := HJ2.out; have := HK2.out; omega
      case rel => exact ⟨(x7_2), (wrap64 (x8_2 + 1)), sp_, H', ⟨by have := HJ2.out; have := HK2.out; omega⟩, ⟨ra_ HO_7⟩, ⟨bl_⟩⟩
/-! ### spec_l04Nos: function 94 -/
mutual
def spec_l04Nos.l0 : Nat → List Int → Int → List Int → Bool → List Int → Int → Int → Option (List Int × Int × Bool)
 | 0, _, _, _, _, _, _, _ => none
 | k + 1, x0, x6, x8, x9, x28, x29, x30 => if x30 < x29 then (if 0 ≤ x30 then (if x30 < (x28.length : Int) then (if (rd x28 x30) = 1 then (spec_l04Nos.l0 k x0 x6 x8 true x28 x29 (wrap64 (x30 + 1))) else (if x8.length < 17592186044416 then (spec_l04Nos.l0 k x0 x6 (x8 ++ [rd x28 x30]) x9 x28 x29 (wrap64 (x30 + 1))) else (none))) else (none)) else (none)) else (if x9 = true then ((spec_GetBits.f k x0 x6).bind fun bt35 => (if bt35.2.2 = true then (spec_l04Nos.j1 k x8 bt35.1 bt35.2.1 ((bt35.1.length : Int) == 0)) else (spec_l04Nos.j1 k x8 bt35.1 bt35.2.1 true))) else (spec_l04Nos.j3 k x6 x8))
def spec_l04Nos.j3 : Nat → Int → List Int → Option (List Int × Int × Bool)
 | 0, _, _ => none
 | k + 1, x6, x8 => spec_l04Nos.l2 k x6 x8 x8 (x8.length : Int) 0
def spec_l04Nos.l2 : Nat → Int → List Int → List Int → Int → Int → Option (List Int × Int × Bool)
 | 0, _, _, _, _, _ => none
 | k + 1, x6, x8, x69, x70, x71 => if x71 < x70 then (if 0 ≤ x71 then (if x71 < (x69.length : Int) then ((spec_FieldKind.f k (rd x69 x71)).bind fun t45 => (if t45 = 0 then (some (([] : List Int), 0, false)) else (spec_l04Nos.l2 k x6 x8 x69 x70 (wrap64 (x71 + 1))))) else (none)) else (none)) else (some (x8, x6, true))
def spec_l04Nos.j1 : Nat → List Int → List Int → Int → Bool → Option (List Int × Int × Bool)
 | 0, _, _, _, _ => none
 | k + 1, x8, x12, x13, x55 => if x55 = true then (some (([] : List Int), 0, false)) else (spec_l04Nos.l1 k x8 x13 x12 (x12.length : Int) 0)
def spec_l04Nos.l1 : Nat → List Int → Int → List Int → Int → Int → Option (List Int × Int × Bool)
 | 0, _, _, _, _, _ => none
 | k + 1, x8, x13, x56, x57, x58 => if x58 < x57 then (if 0 ≤ x58 then (if x58 < (x56.length : Int) then (if x8.length < 17592186044416 then (spec_l04Nos.l1 k (x8 ++ [wrap64 ((rd x56 x58) + 64)]) x13 x56 x57 (wrap64 (x58 + 1))) else (none)) else (none)) else (none)) else (spec_l04Nos.j3 k x13 x8)
end
def spec_l04Nos.f (k : Nat) (l0 : List Int) : Option (List Int × Int × Bool) := (spec_GetBits.f k l0 2).bind fun bt36 => (if bt36.2.2 = true then (spec_l04Nos.l0 k l0 bt36.2.1 (([] : List Int)) false bt36.1 (bt36.1.length : Int) 0) else (some (([] : List Int), 0, false)))
theorem spec_l04Nos.calls (k : Nat) (A0 : Option Addr) (c0 : Nat) (l0 : List Int) (r1 : List Int) (r2 : Int) (r3 : Bool) (w : World) (hr0 : Kd.C (Kd.int .u8) w A0 l0.length l0) (hc0 : l0.length ≤ c0) (h : spec_l04Nos.f k l0 = some (r1, r2, r3)) :
  Calls Tryz.prog 94 #[.slice A0 l0.length c0] w fun e w' => ∃ v0_ : Value, e = .returned (.tuple #[v0_, .int .i64 r2, .bool r3]) ∧ Kd.R (Kd.int .i64) 3 w' w.heap.size (fun _ => True) v0_ r1 ∧ Below w.heap.size w w' := by
 have HR0 := Aside0.mk hr0
 have HC0 := Aside0.mk hc0
 clear hr0 hc0
 have HB := Aside0.mk (Below.refl w.heap.size w)
 have H := h
 unfold spec_l04Nos.f at H
 clear h
 obtain ⟨⟨t36, t41, t50⟩, A2, H⟩ := ob_ H
 (try dsimp only at H)
 by_cases c3 : t50 = true
 rotate_left
 ·replace c3 := gf_ c3
  subst c3
  replace H := in_ H
  simp only [Option.some.injEq, Prod.mk.injEq] at H
  obtain ⟨rfl, rfl, rfl⟩ := H
  go_enter func94, ntmps94
  go_wp2_with (first | ((with_reducible refine gc_ 122 21 func122 #[.slice A0 l0.length c0, .int .i64 2] ?_); (with_reducible refine (spec_GetBits.calls k _ _ l0 2 t36 t41 false _ (ca_ (HR0.out)) HC0.out A2.out).mono ?_); rintro e w34 ⟨v51, rfl, ho0, hb⟩; refine ⟨_, rfl, ?_⟩; have HO44 := Aside0.mk (Kd.R_lower ho0 (below_size bl_)); replace HB := hs_ hb; clear hb; (try clear ho0)))
  go_ret3
  exact ⟨_, sq_, by first | exact Kd.R_nil _ _ _ _ _ | exact Kd.N_nil _ _ _ _ _ | exact Kd.V_nil _ _ _ _ _ | exact Kd.Q_nil _ _ _ _ _ | exact Kd.S_nil _ _ _ _ _, bl_⟩
 subst c3
 replace H := ip_ H
 obtain ⟨y40, hy40⟩ : ∃ y_ : List Int, y_ = (([] : List Int)) := ⟨_, rfl⟩
 replace H : (spec_l04Nos.l0 k l0 t41 y40 false t36 (t36.length : Int) 0) = some (r1, r2, r3) := hh_ hy40 H
 have Ny40 := Aside0.mk hy40
 clear hy40
 have H' := Aside0.mk H
 clear H
 go_enter func94, ntmps94
 go_wp2_with (first | ((with_reducible refine gc_ 122 21 func122 #[.slice A0 l0.length c0, .int .i64 2] ?_); (with_reducible refine (spec_GetBits.calls k _ _ l0 2 t36 t41 true _ (ca_ (HR0.out)) HC0.out A2.out).mono ?_); rintro e w4 ⟨v51, rfl, ho0, hb⟩; refine ⟨_, rfl, ?_⟩; have HO44 := Aside0.mk (Kd.R_lower ho0 (below_size bl_)); replace HB := hs_ hb; clear hb; (try clear ho0)) | ((with_reducible refine gate_dst (N := 27) rfl ?_); (try (refine gate_guard (by rfl) ?_; dsimp only)); refine Kd.R_lit (Kd.int .i64) _ 3 ?hg (N := 27) ?hd (xs := ([] : List Int)) (inner := []) (ok := fun _ => True) (okp := fun _ => True) ?hr ?hp (fun _ hk => hk) trivial (Below.refl _ _) (Nat.le_refl _) (by simp) ?_; (case hd => rfl); (case hg => rfl); (case hr => first | (go_simp; done) | (go_simp; rfl)); (case hp => exact (Reps.none _ _)); intro v59 w5 ho6 hb hg_ hnew_; clear hg_ hnew_; (first | rw [← Ny40.out] at ho6 | (simp only [Int.reduceToNat] at ho6; rw [← Ny40.out] at ho6)); have HO52 := Aside0.mk (Kd.R_lower (Kd.R_new' ho6 (Kd.R_lt (ra_ HO44))) (below_size bl_)); replace HO44 := Aside0.mk (Kd.R_elder' (ra_ HO44) (Kd.R_base ho6) hb); replace HB := hs_ hb; clear hb ho6; obtain ⟨Ao7, co7, eo7⟩ := Kd.R_slice HO44.out; subst eo7))
 go_loopg [8, 9, 30] k (fun kq v8 v9 v30 w' => ∃ (x8_1 : List Int) (x9_1 : Bool) (x30_1 : Int), v9 = .bool x9_1 ∧ v30 = .int .i64 x30_1 ∧ Aside0 (spec_l04Nos.l0 kq l0 t41 x8_1 x9_1 t36 (t36.length : Int) x30_1 = some (r1, r2, r3)) ∧ Aside0 (kq ≤ k) ∧ Aside0 (Kd.R (Kd.int .i64) 3 w' w.heap.size (fun k_ => some k_ ≠ ((.slice Ao7 t36.length co7) : Value).ownBlock) v8 x8_1) ∧ Aside0 (Kd.R (Kd.int .i64) 3 w' w.heap.size (fun k_ => some k_ ≠ (v8 : Value).ownBlock) (.slice Ao7 t36.length co7) t36) ∧ Aside0 (Below w.heap.size w w'))
 case atStart => exact ⟨(y40), (false), (0), sp_, sp_, H', ⟨Nat.le_refl _⟩, ⟨by refine cr_ ?_; exact Kd.R_mono HO52.out (fun _ hk => hk.2)⟩, ⟨by refine cr_ ?_; exact Kd.R_mono HO44.out (fun _ hk => hk.2)⟩, ⟨bl_⟩⟩
 case round =>
  clear H'
  obtain ⟨x8_1, x9_1, x30_1, rfl, rfl, HA, HK1, HO_8, HO_28, HB⟩ := hrel
  cases gk with
  | zero => exact absurd HA.out (by simp [spec_l04Nos.l0])
  | succ k1 =>
   have H := HA.out
   clear HA
   simp only [spec_l04Nos.l0] at H
   by_cases c8 : x30_1 < (t36.length : Int)
   ·rw [if_pos c8] at H
    replace c8 := dt_ c8
    obtain ⟨c9, H⟩ := og_ H
    replace c9 := dt_ c9
    obtain ⟨c10, H⟩ := og_ H
    replace c10 := dt_ c10
    by_cases c11 : (rd t36 x30_1) = 1
    ·rw [if_pos c11] at H
     have := et_ c11
     replace c11 := nf_ c11
     have H' := Aside0.mk H
     clear H
     have p37 : 0 ≤ (x30_1 : Int) := od_
     have q37 : x30_1 < (t36.length : Int) := od_
     obtain ⟨ad37, e37, hx37_0⟩ := Kd.at_int (Kd.R_reads' HO_28.out).2.2 x30_1 p37 q37
     cases e37
     replace p37 := eq_true p37
     replace q37 := eq_true q37
     go_wp2
     go_roundg k1
     case measure => have := HK1.out; omega
     case rel => exact ⟨(x8_1), (true), (wrap64 (x30_1 + 1)), sp_, sp_, H', ⟨by have := HK1.out; omega⟩, ⟨ra_ HO_8⟩, ⟨ra_ HO_28⟩, ⟨bl_⟩⟩
    rw [if_neg c11] at H
    have c11b0 := ef_ c11
    have c11b1 := nt_ c11
    by_cases c12 : x8_1.length < 17592186044416
    ·rw [if_pos c12] at H
     have LMc12 := Aside0.mk c12
     clear c12
     obtain ⟨y42, hy42⟩ : ∃ y_ : List Int, y_ = (x8_1 ++ [rd t36 x30_1]) := ⟨_, rfl⟩
     replace H : (spec_l04Nos.l0 k1 l0 t41 y42 x9_1 t36 (t36.length : Int) (wrap64 (x30_1 + 1))) = some (r1, r2, r3) := hh_ hy42 H
     have Ny42 := Aside0.mk hy42
     clear hy42
     have H' := Aside0.mk H
     clear H
     have p37 : 0 ≤ (x30_1 : Int) := od_
     have q37 : x30_1 < (t36.length : Int) := od_
     obtain ⟨ad37, e37, hx37_0⟩ := Kd.at_int (Kd.R_reads' HO_28.out).2.2 x30_1 p37 q37
     cases e37
     replace p37 := eq_true p37
     replace q37 := eq_true q37
     go_wp2_with (first | ((with_reducible refine gate_builtin (b := .append) (xs := #[.tmp 36, .tmp 38]) rfl ?_); (try (refine gate_guard (by rfl) ?_; dsimp only)); at_builtin; refine Kd.R_append (Kd.int .i64) (w0 := w) w.heap.size rfl (.tmp 36) (.tmp 38) 46 3 (.int .i64 0) 8 rfl underlying46 info3 rfl (by decide) (by omega) u8 x8_1 (rd t36 x30_1) [.int .i64 (rd t36 x30_1)] (fun k_ => some k_ ≠ (.slice (some ad37) t36.length co7 : Value).ownBlock) (fun _ => False) rfl rfl ?aP (fun _ hk => hk.elim) ?aF ?aO ?aB ?aS ?aL ?_; (case aP => exact rfl); (case aB => exact bl_); (case aF => exact (fun k_ hk => Kd.fresh' (Kd.R_lt (ra_ HO_28)) k_ hk)); (case aO => exact (ra_ HO_8)); (case aS => exact (below_size bl_)); (case aL => have := LMc12.out; omega); intro v60 w13 ho hb hg hat; rw [← Ny42.out] at ho; have n0_ := Aside0.mk (Kd.R_after (ok := (fun _ => True)) (by refine cr_ ?_; exact Kd.R_mono HO_28.out (fun _ hk => ⟨trivial, hk⟩)) hg hat); have n1_ := Aside0.mk (hb); have n2_ := Aside0.mk (ho); clear HO_28; clear HB; clear HO_8; have HO_28 := n0_; have HB := n1_; have HO53 := n2_; clear n0_ n1_ n2_; clear ho hb hg hat))
     go_roundg k1
     case measure => have := HK1.out; omega
     case rel => exact ⟨(y42), (x9_1), (wrap64 (x30_1 + 1)), sp_, sp_, H', ⟨by have := HK1.out; omega⟩, ⟨ra_ HO53⟩, ⟨by refine cr_ ?_; exact Kd.R_mono HO_28.out (fun _ hk => hk.2)⟩, ⟨bl_⟩⟩
    ·rw [if_neg c12] at H
     exact absurd H (by simp)
   rw [if_neg c8] at H
   replace c8 := df_ c8
   have HC14 := Aside0.mk H
   clear H
   go_upto_if 41 with (fail)
   go_cut [6, 8] (fun v6 v8 wc => ∃ (kq : Nat) (x6_13 : Int) (x8_13 : List Int), v6 = .int .i64 x6_13 ∧ Aside0 (spec_l04Nos.j3 kq x6_13 x8_13 = some (r1, r2, r3)) ∧ Aside0 (kq ≤ k1) ∧ Aside0 (Kd.R (Kd.int .i64) 3 wc w.heap.size (fun _ => True) v8 x8_13) ∧ Aside0 (Below w.heap.size w wc))
   case first =>
    have H := HC14.out
    clear HC14
    by_cases c15 : x9_1 = true
    rotate_left
    ·replace c15 := gf_ c15
     subst c15
     replace H := in_ H
     have H' := Aside0.mk H
     clear H
     go_wp2
     go_meet
     case rel => exact ⟨_, (t41), (x8_1), sp_, H', ⟨by have := HK1.out; first | omega | exact Nat.le_refl _⟩, ⟨by refine cr_ ?_; exact Kd.R_mono HO_8.out (fun _ hk => trivial)⟩, ⟨bl_⟩⟩
    subst c15
    replace H := ip_ H
    obtain ⟨⟨t35, t46, t48⟩, A16, H⟩ := ob_ H
    (try dsimp only at H)
    have HC17 := Aside0.mk H
    clear H
    go_upto_region 15 with (first | ((with_reducible refine gc_ 122 45 func122 #[.slice A0 l0.length c0, .int .i64 t41] ?_); (with_reducible refine (spec_GetBits.calls k1 _ _ l0 t41 t35 t46 t48 _ (cb_ HR0 HB) HC0.out A16.out).mono ?_); rintro e w18 ⟨v49, rfl, ho0, hb⟩; refine ⟨_, rfl, ?_⟩; have HO47 := Aside0.mk (Kd.R_lower (Kd.R_new' (Kd.R_new' ho0 (Kd.R_lt (ra_ HO_8))) (Kd.R_lt (ra_ HO_28))) (below_size bl_)); replace HO_8 := Aside0.mk (Kd.R_elder' (ra_ HO_8) (Kd.R_base ho0) hb); replace HO_28 := Aside0.mk (Kd.R_elder' (ra_ HO_28) (Kd.R_base ho0) hb); replace HB := hs_ hb; clear hb; (try clear ho0)))
    (try simp only [Act.put, List.setIfInBounds_toArray, List.set_cons_zero, List.set_cons_succ])
    go_cut [55] (fun v55 wc => ∃ (kq : Nat) (x55_16 : Bool), v55 = .bool x55_16 ∧ Aside0 (spec_l04Nos.j1 kq x8_1 t35 t46 x55_16 = some (r1, r2, r3)) ∧ Aside0 (kq ≤ k1) ∧ Aside0 (Kd.R (Kd.int .i64) 3 wc w.heap.size (fun k_ => some k_ ≠ (v49 : Value).ownBlock) u8 x8_1) ∧ Aside0 (Kd.R (Kd.int .i64) 3 wc w.heap.size (fun k_ => some k_ ≠ (u8 : Value).ownBlock) v49 t35) ∧ Aside0 (Below w.heap.size w wc))
    case first =>
     have H := HC17.out
     clear HC17
     by_cases c19 : t48 = true
     ·subst c19
      replace H := ip_ H
      have H' := Aside0.mk H
      clear H
      obtain ⟨Ao20, co20, eo20⟩ := Kd.R_slice HO47.out
      subst eo20
      go_wp2
      go_meet
      case rel => exact ⟨_, (((t35.length : Int) == 0)), sp_, H', ⟨by have := HK1.out; first | omega | exact Nat.le_refl _⟩, ⟨by refine cr_ ?_; exact Kd.R_mono HO_8.out (fun _ hk => hk.2)⟩, ⟨by refine cr_ ?_; exact Kd.R_mono HO47.out (fun _ hk => hk.1.2)⟩, ⟨bl_⟩⟩
     ·replace c19 := gf_ c19
      subst c19
      replace H := in_ H
      have H' := Aside0.mk H
      clear H
      go_wp2
      go_meet
      case rel => exact ⟨_, (true), sp_, H', ⟨by have := HK1.out; first | omega | exact Nat.le_refl _⟩, ⟨by refine cr_ ?_; exact Kd.R_mono HO_8.out (fun _ hk => hk.2)⟩, ⟨by refine cr_ ?_; exact Kd.R_mono HO47.out (fun _ hk => hk.1.2)⟩, ⟨bl_⟩⟩
    case rest =>
     clear HC17
     obtain ⟨kq, x55_16, rfl, HA, HJ16, HO_8, HO_12, HB⟩ := hcut
     cases kq with
     | zero => exact absurd HA.out (by simp [spec_l04Nos.j1])
     | succ kj16 =>
      have H := HA.out
      clear HA
      simp only [spec_l04Nos.j1] at H
      by_cases c21 : x55_16 = true
      ·subst c21
       replace H := ip_ H
       simp only [Option.some.injEq, Prod.mk.injEq] at H
       obtain ⟨rfl, rfl, rfl⟩ := H
       go_wp2
       go_ret3
       exact ⟨_, sq_, by first | exact Kd.R_nil _ _ _ _ _ | exact Kd.N_nil _ _ _ _ _ | exact Kd.V_nil _ _ _ _ _ | exact Kd.Q_nil _ _ _ _ _ | exact Kd.S_nil _ _ _ _ _, bl_⟩
      replace c21 := gf_ c21
      subst c21
      replace H := in_ H
      have H' := Aside0.mk H
      clear H
      obtain ⟨Ao22, co22, eo22⟩ := Kd.R_slice HO_12.out
      subst eo22
      go_wp2
      go_loopg [8, 58] kj16 (fun kq v8 v58 w' => ∃ (x8_3 : List Int) (x58_3 : Int), v58 = .int .i64 x58_3 ∧ Aside0 (spec_l04Nos.l1 kq x8_3 t46 t35 (t35.length : Int) x58_3 = some (r1, r2, r3)) ∧ Aside0 (kq ≤ kj16) ∧ Aside0 (Kd.R (Kd.int .i64) 3 w' w.heap.size (fun k_ => some k_ ≠ ((.slice Ao22 t35.length co22) : Value).ownBlock) v8 x8_3) ∧ Aside0 (Kd.R (Kd.int .i64) 3 w' w.heap.size (fun k_ => some k_ ≠ (v8 : Value).ownBlock) (.slice Ao22 t35.length co22) t35) ∧ Aside0 (Below w.heap.size w w'))
      case atStart => exact ⟨(x8_1), (0), sp_, H', ⟨Nat.le_refl _⟩, ⟨ra_ HO_8⟩, ⟨ra_ HO_12⟩, ⟨bl_⟩⟩
      case round =>
       clear H'
       obtain ⟨x8_3, x58_3, rfl, HA, HK3, HO_8, HO_56, HB⟩ := hrel
       cases gk with
       | zero => exact absurd HA.out (by simp [spec_l04Nos.l1])
       | succ k3 =>
        have H := HA.out
        clear HA
        simp only [spec_l04Nos.l1] at H
        by_cases c23 : x58_3 < (t35.length : Int)
        rotate_left
        ·rw [if_neg c23] at H
         replace c23 := df_ c23
         have H' := Aside0.mk H
         clear H
         go_wp2
         go_meet
         case rel => exact ⟨_, (t46), (x8_3), sp_, H', ⟨by have := HK1.out; have := HJ16.out; have := HK3.out; first | omega | exact Nat.le_refl _⟩, ⟨by refine cr_ ?_; exact Kd.R_mono HO_8.out (fun _ hk => trivial)⟩, ⟨bl_⟩⟩
        rw [if_pos c23] at H
        replace c23 := dt_ c23
        obtain ⟨c24, H⟩ := og_ H
        replace c24 := dt_ c24
        by_cases c25 : x58_3 < (t35.length : Int)
        ·rw [if_pos c25] at H
         replace c25 := dt_ c25
         by_cases c26 : x8_3.length < 17592186044416
         ·rw [if_pos c26] at H
          have LMc26 := Aside0.mk c26
          clear c26
          obtain ⟨y43, hy43⟩ : ∃ y_ : List Int, y_ = (x8_3 ++ [wrap64 ((rd t35 x58_3) + 64)]) := ⟨_, rfl⟩
          replace H : (spec_l04Nos.l1 k3 y43 t46 t35 (t35.length : Int) (wrap64 (x58_3 + 1))) = some (r1, r2, r3) := hh_ hy43 H
          have Ny43 := Aside0.mk hy43
          clear hy43
          have H' := Aside0.mk H
          clear H
          have p39 : 0 ≤ (x58_3 : Int) := od_
          have q39 : x58_3 < (t35.length : Int) := od_
          obtain ⟨ad39, e39, hx39_0⟩ := Kd.at_int (Kd.R_reads' HO_56.out).2.2 x58_3 p39 q39
          cases e39
          replace p39 := eq_true p39
          replace q39 := eq_true q39
          go_wp2_with (first | ((with_reducible refine gate_builtin (b := .append) (xs := #[.tmp 62, .tmp 65]) rfl ?_); (try (refine gate_guard (by rfl) ?_; dsimp only)); at_builtin; refine Kd.R_append (Kd.int .i64) (w0 := w) w.heap.size rfl (.tmp 62) (.tmp 65) 46 3 (.int .i64 0) 8 rfl underlying46 info3 rfl (by decide) (by omega) u8 x8_3 (wrap64 ((rd t35 x58_3) + 64)) [.int .i64 (wrap64 ((rd t35 x58_3) + 64))] (fun k_ => some k_ ≠ (.slice (some ad39) t35.length co22 : Value).ownBlock) (fun _ => False) rfl rfl ?aP (fun _ hk => hk.elim) ?aF ?aO ?aB ?aS ?aL ?_; (case aP => exact rfl); (case aB => exact bl_); (case aF => exact (fun k_ hk => Kd.fresh' (Kd.R_lt (ra_ HO_56)) k_ hk)); (case aO => exact (ra_ HO_8)); (case aS => exact (below_size bl_)); (case aL => have := LMc26.out; omega); intro v61 w27 ho hb hg hat; rw [← Ny43.out] at ho; have n0_ := Aside0.mk (Kd.R_after (ok := (fun _ => True)) (by refine cr_ ?_; exact Kd.R_mono HO_56.out (fun _ hk => ⟨trivial, hk⟩)) hg hat); have n1_ := Aside0.mk (hb); have n2_ := Aside0.mk (ho); clear HO_56; clear HB; clear HO_8; have HO_56 := n0_; have HB := n1_; have HO54 := n2_; clear n0_ n1_ n2_; clear ho hb hg hat))
          go_roundg k3
          case measure => have := HK1.out; have := HJ16.out; have := HK3.out; omega
          case rel => exact ⟨(y43), (wrap64 (x58_3 + 1)), sp_, H', ⟨by have := HK1.out; have := HJ16.out; have := HK3.out; omega⟩, ⟨ra_ HO54⟩, ⟨by refine cr_ ?_; exact Kd.R_mono HO_56.out (fun _ hk => hk.2)⟩, ⟨bl_⟩⟩
         ·rw [if_neg c26] at H
          exact absurd H (by simp)
        ·rw [if_neg c25] at H
         exact absurd H (by simp)
   case rest =>
    clear HC14
    obtain ⟨kq, x6_13, x8_13, rfl, HA, HJ13, HO_8, HB⟩ := hcut
    cases kq with
    | zero => exact absurd HA.out (by simp [spec_l04Nos.j3])
    | succ kj13 =>
     have H := HA.out
     clear HA
     simp only [spec_l04Nos.j3] at H
     have H' := Aside0.mk H
     clear H
     obtain ⟨Ao28, co28, eo28⟩ := Kd.R_slice HO_8.out
     subst eo28
     go_wp2
     go_loopg [71] kj13 (fun kq v71 w' => ∃ (x71_3 : Int), v71 = .int .i64 x71_3 ∧ Aside0 (spec_l04Nos.l2 kq x6_13 x8_13 x8_13 (x8_13.length : Int) x71_3 = some (r1, r2, r3)) ∧ Aside0 (kq ≤ kj13) ∧ Aside0 (Kd.R (Kd.int .i64) 3 w' w.heap.size (fun _ => True) (.slice Ao28 x8_13.length co28) x8_13) ∧ Aside0 (Kd.R (Kd.int .i64) 3 w' w.heap.size (fun _ => True) (.slice Ao28 x8_13.length co28) x8_13) ∧ Aside0 (Below w.heap.size w w'))
     case atStart => exact ⟨(0), sp_, H', ⟨Nat.le_refl _⟩, ⟨ra_ HO_8⟩, ⟨ra_ HO_8⟩, ⟨bl_⟩⟩
     case round =>
      clear H'
      obtain ⟨x71_3, rfl, HA, HK3, HO_8, HO_69, HB⟩ := hrel
      cases gk with
      | zero => exact absurd HA.out (by simp [spec_l04Nos.l2])
      | succ k3 =>
       have H := HA.out
       clear HA
       simp only [spec_l04Nos.l2] at H
       by_cases c29 : x71_3 < (x8_13.length : Int)
       rotate_left
       ·rw [if_neg c29] at H
        replace c29 := df_ c29
        simp only [Option.some.injEq, Prod.mk.injEq] at H
        obtain ⟨rfl, rfl, rfl⟩ := H
        go_wp2
        go_ret3
        exact ⟨_, sq_, ra_ HO_8, bl_⟩
       rw [if_pos c29] at H
       replace c29 := dt_ c29
       obtain ⟨c30, H⟩ := og_ H
       replace c30 := dt_ c30
       obtain ⟨c31, H⟩ := og_ H
       replace c31 := dt_ c31
       obtain ⟨t45, A32, H⟩ := ob_ H
       by_cases c33 : t45 = 0
       ·rw [if_pos c33] at H
        have := et_ c33
        replace c33 := nf_ c33
        simp only [Option.some.injEq, Prod.mk.injEq] at H
        obtain ⟨rfl, rfl, rfl⟩ := H
        have p38 : 0 ≤ (x71_3 : Int) := od_
        have q38 : x71_3 < (x8_13.length : Int) := od_
        obtain ⟨ad38, e38, hx38_0⟩ := Kd.at_int (Kd.R_reads' HO_69.out).2.2 x71_3 p38 q38
        cases e38
        replace p38 := eq_true p38
        replace q38 := eq_true q38
        go_wp2_with (first | ((with_reducible refine gd_ 107 76 func107 #[.int .i64 (rd x8_13 x71_3)] (spec_FieldKind.calls k3 (rd x8_13 x71_3) t45 _ A32.out) fun nd => ?_)))
        go_ret3
        exact ⟨_, sq_, by first | exact Kd.R_nil _ _ _ _ _ | exact Kd.N_nil _ _ _ _ _ | exact Kd.V_nil _ _ _ _ _ | exact Kd.Q_nil _ _ _ _ _ | exact Kd.S_nil _ _ _ _ _, bl_⟩
       rw [if_neg c33] at H
       have c33b0 := ef_ c33
       have c33b1 := nt_ c33
       have H' := Aside0.mk H
       clear H
       have p38 : 0 ≤ (x71_3 : Int) := od_
       have q38 : x71_3 < (x8_13.length : Int) := od_
       obtain ⟨ad38, e38, hx38_0⟩ := Kd.at_int (Kd.R_reads' HO_69.out).2.2 x71_3 p38 q38
       cases e38
       replace p38 := eq_true p38
       replace q38 := eq_true q38
       go_wp2_with (first | ((with_reducible refine gd_ 107 76 func107 #[.int .i64 (rd x8_13 x71_3)] (spec_FieldKind.calls k3 (rd x8_13 x71_3) t45 _ A32.out) fun nd => ?_)))
       go_roundg k3
       case measure => have := HK1.out; have := HJ13.out; have := HK3.out; omega
       case rel => exact ⟨(wrap64 (x71_3 + 1)), sp_, H', ⟨by have := HK1.out; have := HJ13.out; have := HK3.out; omega⟩, ⟨ra_ HO_8⟩, ⟨ra_ HO_69⟩, ⟨bl_⟩⟩
/-! ### spec_l03Width: function 123 -/
def spec_l03Width.j0 : Nat → Int → Bool → Option (Int)
 | 0, _, _ => none
 | k + 1, x3, x4 => if x4 = true then (some 2) else (if x3 = 5 then (some 3) else (some 0))
def spec_l03Width.f (k : Nat) (a0 : Int) : Option (Int) := if a0 = 3 then (spec_l03Width.j0 k a0 (a0 == 3)) else (spec_l03Width.j0 k a0 (a0 == 4))
theorem spec_l03Width.calls (k : Nat) (a0 : Int) (r : Int) (w : World) (h : spec_l03Width.f k a0 = some r) :
  Calls Tryz.prog 123 #[.int .i64 a0] w fun e w' => e = .returned (.int .i64 r) ∧ Drawn0 w w' := by
 have H := h
 unfold spec_l03Width.f at H
 clear h
 have HC2 := Aside0.mk H
 clear H
 go_enter func123, ntmps123
 go_upto_if 4 with (fail)
 go_cut [4] (fun v4 wc => ∃ (kq : Nat) (x4_1 : Bool), v4 = .bool x4_1 ∧ Aside0 (spec_l03Width.j0 kq a0 x4_1 = some r) ∧ Aside0 (kq ≤ k) ∧ Drawn0 w wc)
 case first =>
  have H := HC2.out
  clear HC2
  by_cases c3 : a0 = 3
  ·rw [if_pos c3] at H
   have c3b0 := et_ c3
   have c3b1 := nf_ c3
   clear c3
   (first | rw [c3b0] | (simp only [i64_w, i32_w]; rw [c3b0]) | skip)
   have H' := Aside0.mk H
   clear H
   go_wp2
   go_meet
   case rel => exact ⟨_, ((a0 == 3)), sp_, H', ⟨by first | omega | exact Nat.le_refl _⟩, dr_⟩
  ·rw [if_neg c3] at H
   have c3b0 := ef_ c3
   have c3b1 := nt_ c3
   (first | rw [c3b0] | (simp only [i64_w, i32_w]; rw [c3b0]) | skip)
   have H' := Aside0.mk H
   clear H
   go_wp2
   go_meet
   case rel => exact ⟨_, ((a0 == 4)), sp_, H', ⟨by first | omega | exact Nat.le_refl _⟩, dr_⟩
 case rest =>
  clear HC2
  obtain ⟨kq, x4_1, rfl, HA, HJ1, ⟨mc1, rfl⟩⟩ := hcut
  cases kq with
  | zero => exact absurd HA.out (by simp [spec_l03Width.j0])
  | succ kj1 =>
   have H := HA.out
   clear HA
   simp only [spec_l03Width.j0] at H
   by_cases c4 : x4_1 = true
   ·subst c4
    replace H := ip_ H
    obtain rfl := si_ H
    go_wp2
    go_ret
    exact ⟨sp_, dr_⟩
   replace c4 := gf_ c4
   subst c4
   replace H := in_ H
   by_cases c5 : a0 = 5
   ·rw [if_pos c5] at H
    have := et_ c5
    replace c5 := nf_ c5
    obtain rfl := si_ H
    go_wp2
    go_ret
    exact ⟨sp_, dr_⟩
   rw [if_neg c5] at H
   have c5b0 := ef_ c5
   have c5b1 := nt_ c5
   obtain rfl := si_ H
   go_wp2
   go_ret
   exact ⟨sp_, dr_⟩
/-! ### spec_GetLen: function 124 -/
def spec_GetLen.j0 : Nat → List Int → Int → Int → Bool → Option (Int × Int × Bool)
 | 0, _, _, _, _ => none
 | k + 1, x0, x1, x2, x19 => if x19 = true then (some (0, 0, false)) else ((spec_GetBcd.f k x0 x1 x2).bind fun bt10 => ((spec_Narrow.f k bt10.1).bind fun bt11 => (some (bt11.1, bt10.2.1, bt10.2.2))))
def spec_GetLen.f (k : Nat) (l0 : List Int) (a1 : Int) (a2 : Int) : Option (Int × Int × Bool) := if a2 = 2 then (spec_GetLen.j0 k l0 a1 a2 false) else (spec_GetLen.j0 k l0 a1 a2 (a2 != 3))
theorem spec_GetLen.calls (k : Nat) (A0 : Option Addr) (c0 : Nat) (l0 : List Int) (a1 : Int) (a2 : Int) (r1 : Int) (r2 : Int) (r3 : Bool) (w : World) (hr0 : Kd.C (Kd.int .u8) w A0 l0.length l0) (hc0 : l0.length ≤ c0) (h : spec_GetLen.f k l0 a1 a2 = some (r1, r2, r3)) :
  Calls Tryz.prog 124 #[.slice A0 l0.length c0, .int .i64 a1, .int .i64 a2] w fun e w' => e = .returned (.tuple #[.int .i64 r1, .int .i64 r2, .bool r3]) ∧ Below w.heap.size w w' := by
 have HR0 := Aside0.mk hr0
 have HC0 := Aside0.mk hc0
 clear hr0 hc0
 have HB := Aside0.mk (Below.refl w.heap.size w)
 have H := h
 unfold spec_GetLen.f at H
 clear h
 have HC4 := Aside0.mk H
 clear H
 go_enter func124, ntmps124
 go_upto_region 1 with (fail)
 go_cut [19] (fun v19 wc => ∃ (kq : Nat) (x19_3 : Bool), v19 = .bool x19_3 ∧ Aside0 (spec_GetLen.j0 kq l0 a1 a2 x19_3 = some (r1, r2, r3)) ∧ Aside0 (kq ≤ k) ∧ Aside0 (Below w.heap.size w wc))
 case first =>
  have H := HC4.out
  clear HC4
  by_cases c5 : a2 = 2
  ·rw [if_pos c5] at H
   have c5b0 := et_ c5
   have c5b1 := nf_ c5
   clear c5
   (first | rw [c5b0] | (simp only [i64_w, i32_w]; rw [c5b0]) | skip)
   have H' := Aside0.mk H
   clear H
   go_wp2
   go_meet
   case rel => exact ⟨_, (false), sp_, H', ⟨by first | omega | exact Nat.le_refl _⟩, ⟨bl_⟩⟩
  ·rw [if_neg c5] at H
   have c5b0 := ef_ c5
   have c5b1 := nt_ c5
   (first | rw [c5b0] | (simp only [i64_w, i32_w]; rw [c5b0]) | skip)
   have H' := Aside0.mk H
   clear H
   go_wp2
   go_meet
   case rel => exact ⟨_, ((a2 != 3)), sp_, H', ⟨by first | omega | exact Nat.le_refl _⟩, ⟨bl_⟩⟩
 case rest =>
  clear HC4
  obtain ⟨kq, x19_3, rfl, HA, HJ3, HB⟩ := hcut
  cases kq with
  | zero => exact absurd HA.out (by simp [spec_GetLen.j0])
  | succ kj3 =>
   have H := HA.out
   clear HA
   simp only [spec_GetLen.j0] at H
   by_cases c6 : x19_3 = true
   ·subst c6
    replace H := ip_ H
    simp only [Option.some.injEq, Prod.mk.injEq] at H
    obtain ⟨rfl, rfl, rfl⟩ := H
    go_wp2
    go_ret3
    exact ⟨sq_, bl_⟩
   replace c6 := gf_ c6
   subst c6
   replace H := in_ H
   obtain ⟨⟨t10, t12, t13⟩, A7, H⟩ := ob_ H
   (try dsimp only at H)
   obtain ⟨⟨t11, t14⟩, A8, H⟩ := ob_ H
   (try dsimp only at H)
   simp only [Option.some.injEq, Prod.mk.injEq] at H
   obtain ⟨rfl, rfl, rfl⟩ := H
   go_wp2_with (first | ((with_reducible refine gb_ 93 24 func93 #[.slice A0 l0.length c0, .int .i64 a1, .int .i64 a2] (spec_GetBcd.calls kj3 _ _ l0 a1 a2 t10 t12 t13 _ (cb_ HR0 HB) HC0.out A7.out) fun w9 hb => ?_); replace HB := hs_ hb; clear hb) | ((with_reducible refine gd_ 43 30 func43 #[.string t10] (spec_Narrow.calls kj3 t10 t11 t14 _ A8.out) fun nd => ?_)))
   go_ret3
   exact ⟨sq_, bl_⟩
/-! ### spec_GetField: function 95 -/
mutual
def spec_GetField.j0 : Nat → List Int → Int → Int → Int → Bool → Option (ByteArray × Int × Bool)
 | 0, _, _, _, _, _ => none
 | k + 1, x0, x1, x9, x10, x23 => if x23 = true then (some ((⟨#[]⟩ : ByteArray), 0, false)) else ((spec_l03Width.f k x9).bind fun t42 => (if t42 > 0 then ((spec_l03Width.f k x9).bind fun t3 => ((spec_GetLen.f k x0 x1 t3).bind fun bt36 => (if bt36.2.2 = true then ((spec_l01In.f bt36.1 1 x10).bind fun t44 => (if t44 = true then (spec_GetField.j1 k x0 bt36.2.1 x9 bt36.1) else (some ((⟨#[]⟩ : ByteArray), 0, false)))) else (some ((⟨#[]⟩ : ByteArray), 0, false))))) else (spec_GetField.j1 k x0 x1 x9 x10)))
def spec_GetField.j1 : Nat → List Int → Int → Int → Int → Option (ByteArray × Int × Bool)
 | 0, _, _, _, _ => none
 | k + 1, x0, x1, x9, x10 => if x9 = 1 then (spec_GetField.j2 k x0 x1 x10 true) else (spec_GetField.j2 k x0 x1 x10 (x9 == 3))
def spec_GetField.j2 : Nat → List Int → Int → Int → Bool → Option (ByteArray × Int × Bool)
 | 0, _, _, _, _ => none
 | k + 1, x0, x1, x10, x51 => if x51 = true then ((spec_GetBcd.f k x0 x1 x10).bind fun bt40 => (some (bt40.1, bt40.2.1, bt40.2.2))) else (if x1 > (x0.length : Int) then (some ((⟨#[]⟩ : ByteArray), 0, false)) else (if x10 > (wrap64 ((x0.length : Int) - x1)) then (some ((⟨#[]⟩ : ByteArray), 0, false)) else (if 0 ≤ x1 then (if x1 ≤ (wrap64 (x1 + x10)) then (if (wrap64 (x1 + x10)) ≤ (x0.length : Int) then ((spec_Printable.f k (strOfNums ((x0.take ((wrap64 (x1 + x10)) : Int).toNat).drop (x1 : Int).toNat))).bind fun t45 => (if t45 = true then (some (strOfNums ((x0.take ((wrap64 (x1 + x10)) : Int).toNat).drop (x1 : Int).toNat), wrap64 (x1 + x10), true)) else (some ((⟨#[]⟩ : ByteArray), 0, false)))) else (none)) else (none)) else (none))))
end
def spec_GetField.f (k : Nat) (l0 : List Int) (a1 : Int) (a2 : Int) : Option (ByteArray × Int × Bool) := (spec_FieldKind.f k a2).bind fun t2 => ((spec_FieldSize.f k a2).bind fun t37 => (if t2 = 0 then (spec_GetField.j0 k l0 a1 t2 t37 true) else (spec_GetField.j0 k l0 a1 t2 t37 (decide (a1 < 0)))))
theorem spec_GetField.calls (k : Nat) (A0 : Option Addr) (c0 : Nat) (l0 : List Int) (a1 : Int) (a2 : Int) (r1 : ByteArray) (r2 : Int) (r3 : Bool) (w : World) (hr0 : Kd.C (Kd.int .u8) w A0 l0.length l0) (hc0 : l0.length ≤ c0) (h : spec_GetField.f k l0 a1 a2 = some (r1, r2, r3)) :
  Calls Tryz.prog 95 #[.slice A0 l0.length c0, .int .i64 a1, .int .i64 a2] w fun e w' => e = .returned (.tuple #[.string r1, .int .i64 r2, .bool r3]) ∧ Below w.heap.size w w' := by
 have HR0 := Aside0.mk hr0
 have HC0 := Aside0.mk hc0
 clear hr0 hc0
 have HB := Aside0.mk (Below.refl w.heap.size w)
 have H := h
 unfold spec_GetField.f at H
 clear h
 obtain ⟨t2, A4, H⟩ := ob_ H
 obtain ⟨t37, A5, H⟩ := ob_ H
 have HC6 := Aside0.mk H
 clear H
 go_enter func95, ntmps95
 go_upto_region 3 with (first | ((with_reducible refine gd_ 107 15 func107 #[.int .i64 a2] (spec_FieldKind.calls k a2 t2 _ A4.out) fun nd => ?_)) | ((with_reducible refine gd_ 106 17 func106 #[.int .i64 a2] (spec_FieldSize.calls k a2 t37 _ A5.out) fun nd => ?_)))
 (try simp only [Act.put, List.setIfInBounds_toArray, List.set_cons_zero, List.set_cons_succ])
 go_cut [23] (fun v23 wc => ∃ (kq : Nat) (x23_5 : Bool), v23 = .bool x23_5 ∧ Aside0 (spec_GetField.j0 kq l0 a1 t2 t37 x23_5 = some (r1, r2, r3)) ∧ Aside0 (kq ≤ k) ∧ Aside0 (Below w.heap.size w wc))
 case first =>
  have H := HC6.out
  clear HC6
  by_cases c7 : t2 = 0
  ·rw [if_pos c7] at H
   have c7b0 := et_ c7
   have c7b1 := nf_ c7
   clear c7
   (first | rw [c7b0] | (simp only [i64_w, i32_w]; rw [c7b0]) | skip)
   have H' := Aside0.mk H
   clear H
   go_wp2
   go_meet
   case rel => exact ⟨_, (true), sp_, H', ⟨by first | omega | exact Nat.le_refl _⟩, ⟨bl_⟩⟩
  ·rw [if_neg c7] at H
   have c7b0 := ef_ c7
   have c7b1 := nt_ c7
   (first | rw [c7b0] | (simp only [i64_w, i32_w]; rw [c7b0]) | skip)
   have H' := Aside0.mk H
   clear H
   go_wp2
   go_meet
   case rel => exact ⟨_, (decide (a1 < 0)), sp_, H', ⟨by first | omega | exact Nat.le_refl _⟩, ⟨bl_⟩⟩
 case rest =>
  clear HC6
  obtain ⟨kq, x23_5, rfl, HA, HJ5, HB⟩ := hcut
  cases kq with
  | zero => exact absurd HA.out (by simp [spec_GetField.j0])
  | succ kj5 =>
   have H := HA.out
   clear HA
   simp only [spec_GetField.j0] at H
   by_cases c8 : x23_5 = true
   ·subst c8
    replace H := ip_ H
    simp only [Option.some.injEq, Prod.mk.injEq] at H
    obtain ⟨rfl, rfl, rfl⟩ := H
    go_wp2
    go_ret3
    exact ⟨sq_, bl_⟩
   replace c8 := gf_ c8
   subst c8
   replace H := in_ H
   obtain ⟨t42, A9, H⟩ := ob_ H
   have HC10 := Aside0.mk H
   clear H
   go_upto_if 26 with (first | ((with_reducible refine gd_ 123 25 func123 #[.int .i64 t2] (spec_l03Width.calls kj5 t2 t42 _ A9.out) fun nd => ?_)))
   (try simp only [Act.put, List.setIfInBounds_toArray, List.set_cons_zero, List.set_cons_succ])
   go_cut [1, 10] (fun v1 v10 wc => ∃ (kq : Nat) (x1_9 : Int) (x10_9 : Int), v1 = .int .i64 x1_9 ∧ v10 = .int .i64 x10_9 ∧ Aside0 (spec_GetField.j1 kq l0 x1_9 t2 x10_9 = some (r1, r2, r3)) ∧ Aside0 (kq ≤ kj5) ∧ Aside0 (Below w.heap.size w wc))
   case first =>
    have H := HC10.out
    clear HC10
    by_cases c11 : t42 > 0
    rotate_left
    ·rw [if_neg c11] at H
     have c11b0 := df_ c11
     clear c11
     (first | rw [c11b0] | (simp only [i64_w, i32_w]; rw [c11b0]) | skip)
     have H' := Aside0.mk H
     clear H
     go_wp2
     go_meet
     case rel => exact ⟨_, (a1), (t37), sp_, sp_, H', ⟨by have := HJ5.out; first | omega | exact Nat.le_refl _⟩, ⟨bl_⟩⟩
    rw [if_pos c11] at H
    have c11b0 := dt_ c11
    clear c11
    (first | rw [c11b0] | (simp only [i64_w, i32_w]; rw [c11b0]) | skip)
    obtain ⟨t3, A12, H⟩ := ob_ H
    obtain ⟨⟨t36, t43, t47⟩, A13, H⟩ := ob_ H
    (try dsimp only at H)
    by_cases c14 : t47 = true
    ·subst c14
     replace H := ip_ H
     obtain ⟨t44, A15, H⟩ := ob_ H
     by_cases c16 : t44 = true
     ·subst c16
      replace H := ip_ H
      have H' := Aside0.mk H
      clear H
      go_wp2_with (first | ((with_reducible refine gd_ 123 31 func123 #[.int .i64 t2] (spec_l03Width.calls kj5 t2 t3 _ A12.out) fun nd => ?_)) | ((with_reducible refine gb_ 124 32 func124 #[.slice A0 l0.length c0, .int .i64 a1, .int .i64 t3] (spec_GetLen.calls kj5 _ _ l0 a1 t3 t36 t43 true _ (ca_ (Kd.C_below HR0.out bl_)) HC0.out A13.out) fun w17 hb => ?_); replace HB := hs_ hb; clear hb) | (go_at_call 67; (with_reducible refine (spec_l01In.calls t36 1 t37 true _ A15.out).mono ?_); rintro e w' ⟨rfl, nd, rfl⟩))
      go_meet
      case rel => exact ⟨_, (t43), (t36), sp_, sp_, H', ⟨by have := HJ5.out; first | omega | exact Nat.le_refl _⟩, ⟨bl_⟩⟩
     replace c16 := gf_ c16
     subst c16
     replace H := in_ H
     simp only [Option.some.injEq, Prod.mk.injEq] at H
     obtain ⟨rfl, rfl, rfl⟩ := H
     go_wp2_with (first | ((with_reducible refine gd_ 123 31 func123 #[.int .i64 t2] (spec_l03Width.calls kj5 t2 t3 _ A12.out) fun nd => ?_)) | ((with_reducible refine gb_ 124 32 func124 #[.slice A0 l0.length c0, .int .i64 a1, .int .i64 t3] (spec_GetLen.calls kj5 _ _ l0 a1 t3 t36 t43 true _ (ca_ (Kd.C_below HR0.out bl_)) HC0.out A13.out) fun w18 hb => ?_); replace HB := hs_ hb; clear hb) | (go_at_call 67; (with_reducible refine (spec_l01In.calls t36 1 t37 false _ A15.out).mono ?_); rintro e w' ⟨rfl, nd, rfl⟩))
     go_ret3
     exact ⟨sq_, bl_⟩
    ·replace c14 := gf_ c14
     subst c14
     replace H := in_ H
     simp only [Option.some.injEq, Prod.mk.injEq] at H
     obtain ⟨rfl, rfl, rfl⟩ := H
     go_wp2_with (first | ((with_reducible refine gd_ 123 31 func123 #[.int .i64 t2] (spec_l03Width.calls kj5 t2 t3 _ A12.out) fun nd => ?_)) | ((with_reducible refine gb_ 124 32 func124 #[.slice A0 l0.length c0, .int .i64 a1, .int .i64 t3] (spec_GetLen.calls kj5 _ _ l0 a1 t3 t36 t43 false _ (ca_ (Kd.C_below HR0.out bl_)) HC0.out A13.out) fun w19 hb => ?_); replace HB := hs_ hb; clear hb))
     go_ret3
     exact ⟨sq_, bl_⟩
   case rest =>
    clear HC10
    obtain ⟨kq, x1_9, x10_9, rfl, rfl, HA, HJ9, HB⟩ := hcut
    cases kq with
    | zero => exact absurd HA.out (by simp [spec_GetField.j1])
    | succ kj9 =>
     have H := HA.out
     clear HA
     simp only [spec_GetField.j1] at H
     have HC20 := Aside0.mk H
     clear H
     go_upto_region 11 with (fail)
     go_cut [51] (fun v51 wc => ∃ (kq : Nat) (x51_19 : Bool), v51 = .bool x51_19 ∧ Aside0 (spec_GetField.j2 kq l0 x1_9 x10_9 x51_19 = some (r1, r2, r3)) ∧ Aside0 (kq ≤ kj9) ∧ Aside0 (Below w.heap.size w wc))
     case first =>
      have H := HC20.out
      clear HC20
      by_cases c21 : t2 = 1
      ·rw [if_pos c21] at H
       have c21b0 := et_ c21
       have c21b1 := nf_ c21
       clear c21
       (first | rw [c21b0] | (simp only [i64_w, i32_w]; rw [c21b0]) | skip)
       have H' := Aside0.mk H
       clear H
       go_wp2
       go_meet
       case rel => exact ⟨_, (true), sp_, H', ⟨by have := HJ5.out; have := HJ9.out; first | omega | exact Nat.le_refl _⟩, ⟨bl_⟩⟩
      ·rw [if_neg c21] at H
       have c21b0 := ef_ c21
       have c21b1 := nt_ c21
       (first | rw [c21b0] | (simp only [i64_w, i32_w]; rw [c21b0]) | skip)
       have H' := Aside0.mk H
       clear H
       go_wp2
       go_meet
       case rel => exact ⟨_, ((t2 == 3)), sp_, H', ⟨by have := HJ5.out; have := HJ9.out; first | omega | exact Nat.le_refl _⟩, ⟨bl_⟩⟩
     case rest =>
      clear HC20
      obtain ⟨kq, x51_19, rfl, HA, HJ19, HB⟩ := hcut
      cases kq with
      | zero => exact absurd HA.out (by simp [spec_GetField.j2])
      | succ kj19 =>
       have H := HA.out
       clear HA
       simp only [spec_GetField.j2] at H
       by_cases c22 : x51_19 = true
       ·subst c22
        replace H := ip_ H
        obtain ⟨⟨t40, t48, t49⟩, A23, H⟩ := ob_ H
        (try dsimp only at H)
        simp only [Option.some.injEq, Prod.mk.injEq] at H
        obtain ⟨rfl, rfl, rfl⟩ := H
        go_wp2_with (first | ((with_reducible refine gb_ 93 55 func93 #[.slice A0 l0.length c0, .int .i64 x1_9, .int .i64 x10_9] (spec_GetBcd.calls kj19 _ _ l0 x1_9 x10_9 t40 t48 t49 _ (cb_ HR0 HB) HC0.out A23.out) fun w24 hb => ?_); replace HB := hs_ hb; clear hb))
        go_ret3
        exact ⟨sq_, bl_⟩
       replace c22 := gf_ c22
       subst c22
       replace H := in_ H
       by_cases c25 : x1_9 > (l0.length : Int)
       ·rw [if_pos c25] at H
        replace c25 := dt_ c25
        simp only [Option.some.injEq, Prod.mk.injEq] at H
        obtain ⟨rfl, rfl, rfl⟩ := H
        go_wp2
        go_ret3
        exact ⟨sq_, bl_⟩
       rw [if_neg c25] at H
       replace c25 := df_ c25
       by_cases c26 : x10_9 > (wrap64 ((l0.length : Int) - x1_9))
       ·rw [if_pos c26] at H
        replace c26 := dt_ c26
        simp only [Option.some.injEq, Prod.mk.injEq] at H
        obtain ⟨rfl, rfl, rfl⟩ := H
        go_wp2
        go_ret3
        exact ⟨sq_, bl_⟩
       rw [if_neg c26] at H
       replace c26 := df_ c26
       by_cases c27 : 0 ≤ x1_9
       rotate_left
       ·rw [if_neg c27] at H
        exact absurd H (by simp)
       rw [if_pos c27] at H
       have := eq_true c27
       replace c27 := dt_ c27
       obtain ⟨c28, H⟩ := og_ H
       have c28b0 := eq_true c28
       have c28b1 := dt_ c28
       obtain ⟨c29, H⟩ := og_ H
       have c29b0 := eq_true c29
       have c29b1 := dt_ c29
       obtain ⟨t45, A30, H⟩ := ob_ H
       by_cases c31 : t45 = true
       ·subst c31
        replace H := ip_ H
        have c32b0 := eq_true (od_ : 0 ≤ x1_9)
        have c33b0 := eq_true (od_ : x1_9 ≤ (wrap64 (x1_9 + x10_9)))
        have c34b0 := eq_true (od_ : (wrap64 (x1_9 + x10_9)) ≤ (l0.length : Int))
        simp only [Option.some.injEq, Prod.mk.injEq] at H
        obtain ⟨rfl, rfl, rfl⟩ := H
        obtain ⟨i035, hi035, _, hsz35, _⟩ := info_parts info5
        obtain ⟨A35, hcut35, hA35, hC35⟩ := print_mid_of (P := Tryz.prog) (Value.int .u8) 0 37 5 .i64 .i64 underlying37 hi035 hsz35 A0 c0 l0 x1_9 (wrap64 (x1_9 + x10_9)) od_ (by first | omega | exact od_) od_ HC0.out
        have HR39 := Aside0.mk (Kd.C_of_reads (h1 := fun _ => rfl) (hA35 _ (Kd.reads_of_C HR0.out)))
        have HC39 := Aside0.mk hC35
        clear hA35 hC35 hi035 hsz35
        (try have hcu36 := fun (n_ : Nat) => Kd.C_string (P := Tryz.prog) (A := A35) (c := (c0 - x1_9.toNat)) underlying37 underlying5 underlying9 (Kd.C_below HR39.out (pw_below_drewN HB.out n_))); (try (have hclu36 := hcu36; simp only [show ((l0.take ((wrap64 (x1_9 + x10_9)) : Int).toNat).drop (x1_9 : Int).toNat).length = ((wrap64 (x1_9 + x10_9)) : Int).toNat - (x1_9 : Int).toNat from by have q_ : (wrap64 (x1_9 + x10_9)) ≤ (l0.length : Int) := od_; rw [List.length_drop, List.length_take]; omega] at hclu36))
        have hcv37 := Kd.C_string (P := Tryz.prog) (A := A35) (c := (c0 - x1_9.toNat)) underlying37 underlying5 underlying9 (Kd.C_below HR39.out HB.out); have hcl37 := hcv37; (try rw [show ((l0.take ((wrap64 (x1_9 + x10_9)) : Int).toNat).drop (x1_9 : Int).toNat).length = ((wrap64 (x1_9 + x10_9)) : Int).toNat - (x1_9 : Int).toNat from by have q_ : (wrap64 (x1_9 + x10_9)) ≤ (l0.length : Int) := od_; rw [List.length_drop, List.length_take]; omega] at hcl37)
        go_wp2_with (first | (go_at_call 108; (with_reducible refine (spec_Printable.calls kj19 (strOfNums ((l0.take ((wrap64 (x1_9 + x10_9)) : Int).toNat).drop (x1_9 : Int).toNat)) true _ A30.out).mono ?_); rintro e w' ⟨rfl, nd, rfl⟩; obtain ⟨i038, hi038, _, hsz38, _⟩ := info_parts info5; obtain ⟨A38, hcut38, hA38, hC38⟩ := print_mid_of (P := Tryz.prog) (Value.int .u8) 0 37 5 .i64 .i64 underlying37 hi038 hsz38 A0 c0 l0 x1_9 (wrap64 (x1_9 + x10_9)) od_ (by first | omega | exact od_) od_ HC0.out; have HR46 := Aside0.mk (Kd.C_of_reads (h1 := fun _ => rfl) (hA38 _ (Kd.reads_of_C HR0.out))); have HC46 := Aside0.mk hC38; clear hA38 hC38 hi038 hsz38; (try have hcu39 := fun (n_ : Nat) => Kd.C_string (P := Tryz.prog) (A := A38) (c := (c0 - x1_9.toNat)) underlying37 underlying5 underlying9 (Kd.C_below HR46.out (pw_below_drewN HB.out n_))); (try (have hclu39 := hcu39; simp only [show ((l0.take ((wrap64 (x1_9 + x10_9)) : Int).toNat).drop (x1_9 : Int).toNat).length = ((wrap64 (x1_9 + x10_9)) : Int).toNat - (x1_9 : Int).toNat from by have q_ : (wrap64 (x1_9 + x10_9)) ≤ (l0.length : Int) := od_; rw [List.length_drop, List.length_take]; omega] at hclu39)); have hcv40 := Kd.C_string (P := Tryz.prog) (A := A38) (c := (c0 - x1_9.toNat)) underlying37 underlying5 underlying9 (Kd.C_below HR46.out HB.out); have hcl40 := hcv40; (try rw [show ((l0.take ((wrap64 (x1_9 + x10_9)) : Int).toNat).drop (x1_9 : Int).toNat).length = ((wrap64 (x1_9 + x10_9)) : Int).toNat - (x1_9 : Int).toNat from by have q_ : (wrap64 (x1_9 + x10_9)) ≤ (l0.length : Int) := od_; rw [List.length_drop, List.length_take]; omega] at hcl40)))
        go_ret3
        exact ⟨sq_, bl_⟩
       ·replace c31 := gf_ c31
        subst c31
        replace H := in_ H
        simp only [Option.some.injEq, Prod.mk.injEq] at H
        obtain ⟨rfl, rfl, rfl⟩ := H
        obtain ⟨i041, hi041, _, hsz41, _⟩ := info_parts info5
        obtain ⟨A41, hcut41, hA41, hC41⟩ := print_mid_of (P := Tryz.prog) (Value.int .u8) 0 37 5 .i64 .i64 underlying37 hi041 hsz41 A0 c0 l0 x1_9 (wrap64 (x1_9 + x10_9)) od_ (by first | omega | exact od_) od_ HC0.out
        have HR39 := Aside0.mk (Kd.C_of_reads (h1 := fun _ => rfl) (hA41 _ (Kd.reads_of_C HR0.out)))
        have HC39 := Aside0.mk hC41
        clear hA41 hC41 hi041 hsz41
        (try have hcu42 := fun (n_ : Nat) => Kd.C_string (P := Tryz.prog) (A := A41) (c := (c0 - x1_9.toNat)) underlying37 underlying5 underlying9 (Kd.C_below HR39.out (pw_below_drewN HB.out n_))); (try (have hclu42 := hcu42; simp only [show ((l0.take ((wrap64 (x1_9 + x10_9)) : Int).toNat).drop (x1_9 : Int).toNat).length = ((wrap64 (x1_9 + x10_9)) : Int).toNat - (x1_9 : Int).toNat from by have q_ : (wrap64 (x1_9 + x10_9)) ≤ (l0.length : Int) := od_; rw [List.length_drop, List.length_take]; omega] at hclu42))
        have hcv43 := Kd.C_string (P := Tryz.prog) (A := A41) (c := (c0 - x1_9.toNat)) underlying37 underlying5 underlying9 (Kd.C_below HR39.out HB.out); have hcl43 := hcv43; (try rw [show ((l0.take ((wrap64 (x1_9 + x10_9)) : Int).toNat).drop (x1_9 : Int).toNat).length = ((wrap64 (x1_9 + x10_9)) : Int).toNat - (x1_9 : Int).toNat from by have q_ : (wrap64 (x1_9 + x10_9)) ≤ (l0.length : Int) := od_; rw [List.length_drop, List.length_take]; omega] at hcl43)
        go_wp2_with (first | (go_at_call 108; (with_reducible refine (spec_Printable.calls kj19 (strOfNums ((l0.take ((wrap64 (x1_9 + x10_9)) : Int).toNat).drop (x1_9 : Int).toNat)) false _ A30.out).mono ?_); rintro e w' ⟨rfl, nd, rfl⟩))
        go_ret3
        exact ⟨sq_, bl_⟩
end Go.Proofs.YtohfefkjcnbejaaGreatDoor.QFnExactStepsLeft
