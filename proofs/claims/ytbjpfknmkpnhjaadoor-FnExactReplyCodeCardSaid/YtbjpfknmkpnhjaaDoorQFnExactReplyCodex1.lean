-- by my own printer (myprint.py, over the kit's print.py)
import Derived.Test.YtbjpfknmkpnhjaaDoorQFnExactReplyCodex0
namespace Go.Proofs.YtbjpfknmkpnhjaaDoor.QFnExactReplyCode
open Go.RowKit Go.Proofs.YtbjpfknmkpnhjaaDoorW.PrintWords Go.Proofs.YtbjpfknmkpnhjaaDoorW.PrintLast Go.Proofs.YtbjpfknmkpnhjaaDoorW.PrintMore
attribute [local go_sem] max2_int min2_int max_two min_two max_three min_three max_four min_four   -- for this text's walks alone
set_option linter.unusedVariables false
set_option linter.unusedSimpArgs false
attribute [local go_sem] my_geq my_leq my_gtr
abbrev tb21_0_1 : Array Bool := #[b0, b0, b0, b0, b0, b0, b0, b0, b0, b0, b0, b0, b0, b0, b0, b0, b0, b0, b0, b0, b0]
abbrev tb21_1_1 : Array Bool := #[b1, b0, b0, b0, b0, b0, b0, b0, b0, b0, b0, b0, b0, b0, b0, b0, b0, b0, b0, b0, b0]
abbrev tb21_1fff_1 : Array Bool := #[b1, b1, b1, b1, b1, b1, b1, b1, b1, b1, b1, b1, b1, b0, b0, b0, b0, b0, b0, b0, b0]
abbrev tb21_1ffff_1 : Array Bool := #[b1, b1, b1, b1, b1, b1, b1, b1, b1, b1, b1, b1, b1, b1, b1, b1, b1, b0, b0, b0, b0]
abbrev tb21_1fffff_1 : Array Bool := #[b1, b1, b1, b1, b1, b1, b1, b1, b1, b1, b1, b1, b1, b1, b1, b1, b1, b1, b1, b1, b1]
abbrev tb21_20f_1 : Array Bool := #[b1, b1, b1, b1, b0, b0, b0, b0, b0, b1, b0, b0, b0, b0, b0, b0, b0, b0, b0, b0, b0]
abbrev tb21_3_1 : Array Bool := #[b1, b1, b0, b0, b0, b0, b0, b0, b0, b0, b0, b0, b0, b0, b0, b0, b0, b0, b0, b0, b0]
abbrev tb21_3fff_1 : Array Bool := #[b1, b1, b1, b1, b1, b1, b1, b1, b1, b1, b1, b1, b1, b1, b0, b0, b0, b0, b0, b0, b0]
abbrev tb21_3ffff_1 : Array Bool := #[b1, b1, b1, b1, b1, b1, b1, b1, b1, b1, b1, b1, b1, b1, b1, b1, b1, b1, b0, b0, b0]
abbrev tb21_60f_1 : Array Bool := #[b1, b1, b1, b1, b0, b0, b0, b0, b0, b1, b1, b0, b0, b0, b0, b0, b0, b0, b0, b0, b0]
abbrev tb21_7_1 : Array Bool := #[b1, b1, b1, b0, b0, b0, b0, b0, b0, b0, b0, b0, b0, b0, b0, b0, b0, b0, b0, b0, b0]
abbrev tb21_7fff_1 : Array Bool := #[b1, b1, b1, b1, b1, b1, b1, b1, b1, b1, b1, b1, b1, b1, b1, b0, b0, b0, b0, b0, b0]
abbrev tb21_7ffff_1 : Array Bool := #[b1, b1, b1, b1, b1, b1, b1, b1, b1, b1, b1, b1, b1, b1, b1, b1, b1, b1, b1, b0, b0]
abbrev tb21_e0f_1 : Array Bool := #[b1, b1, b1, b1, b0, b0, b0, b0, b0, b1, b1, b1, b0, b0, b0, b0, b0, b0, b0, b0, b0]
abbrev tb21_e1f_1 : Array Bool := #[b1, b1, b1, b1, b1, b0, b0, b0, b0, b1, b1, b1, b0, b0, b0, b0, b0, b0, b0, b0, b0]
abbrev tb21_e3f_1 : Array Bool := #[b1, b1, b1, b1, b1, b1, b0, b0, b0, b1, b1, b1, b0, b0, b0, b0, b0, b0, b0, b0, b0]
abbrev tb21_e7f_1 : Array Bool := #[b1, b1, b1, b1, b1, b1, b1, b0, b0, b1, b1, b1, b0, b0, b0, b0, b0, b0, b0, b0, b0]
abbrev tb21_eff_1 : Array Bool := #[b1, b1, b1, b1, b1, b1, b1, b1, b0, b1, b1, b1, b0, b0, b0, b0, b0, b0, b0, b0, b0]
abbrev tb21_f_1 : Array Bool := #[b1, b1, b1, b1, b0, b0, b0, b0, b0, b0, b0, b0, b0, b0, b0, b0, b0, b0, b0, b0, b0]
abbrev tb21_fff_1 : Array Bool := #[b1, b1, b1, b1, b1, b1, b1, b1, b1, b1, b1, b1, b0, b0, b0, b0, b0, b0, b0, b0, b0]
abbrev tb21_ffff_1 : Array Bool := #[b1, b1, b1, b1, b1, b1, b1, b1, b1, b1, b1, b1, b1, b1, b1, b1, b0, b0, b0, b0, b0]
abbrev tb21_fffff_1 : Array Bool := #[b1, b1, b1, b1, b1, b1, b1, b1, b1, b1, b1, b1, b1, b1, b1, b1, b1, b1, b1, b1, b0]
/-! ### spec_Digits: function 67 -/
def spec_Digits.l0 : Nat → ByteArray → Int → Option (Bool)
 | 0, _, _ => none
 | k + 1, x0, x3 => if x3 < (x0.size : Int) then (if 0 ≤ x3 then (if (bt x0 x3) < 48 then (some false) else (if (bt x0 x3) > 57 then (some false) else (spec_Digits.l0 k x0 (wrap64 (x3 + 1))))) else (none)) else (some (decide ((x0.size : Int) > 0)))
def spec_Digits.f (k : Nat) (a0 : ByteArray) : Option (Bool) := spec_Digits.l0 k a0 0
set_option maxHeartbeats 8000000 in
set_option maxRecDepth 100000 in
theorem spec_Digits.calls (k : Nat) (a0 : ByteArray) (r : Bool) (w : World) (h : spec_Digits.f k a0 = some r) :
  Calls Tryd.prog 67 #[.string a0] w fun e w' => e = .returned (.bool r) ∧ Drawn0 w w' := by
 have H : (spec_Digits.l0 k a0 0) = some r := h
 clear h
 have H' := Aside0.mk H
 clear H
 go_enter Tryd.func67, Tryd.ntmps67
 go_wp2
 go_loopg [3] k (fun kq v3 w' => ∃ (x3_1 : Int), v3 = .int .i64 x3_1 ∧ Aside0 (spec_Digits.l0 kq a0 x3_1 = some r) ∧ Aside0 (kq ≤ k) ∧ Drawn0 w w')
 case atStart => exact ⟨(0), sp_, H', ⟨Nat.le_refl _⟩, by repeat (first | exact Drawn0.refl _ | apply Drawn0.step)⟩
 case round =>
  clear H'
  obtain ⟨x3_1, rfl, HA, HK1, ⟨m1, rfl⟩⟩ := hrel
  cases gk with
  | zero => exact absurd HA.out (by simp [spec_Digits.l0])
  | succ k1 =>
   have H := HA.out
   clear HA
   simp only [spec_Digits.l0] at H
   by_cases c2 : x3_1 < (a0.size : Int)
   ·rw [if_pos c2] at H
    have c2b0 : decide (x3_1 < (a0.size : Int)) = true := decide_eq_true c2
    clear c2
    by_cases c3 : 0 ≤ x3_1
    ·rw [if_pos c3] at H
     have c3b0 : decide (0 ≤ x3_1) = true := decide_eq_true c3
     clear c3
     by_cases c5 : (bt a0 x3_1) < 48
     ·rw [if_pos c5] at H
      have c5b0 : decide ((bt a0 x3_1) < 48) = true := decide_eq_true c5
      clear c5
      obtain rfl := Option.some.inj H
      have p4 : 0 ≤ (x3_1 : Int) := od_
      have q4 : x3_1 < (a0.size : Int) := od_
      have hx4 := bt_at a0 x3_1
      replace p4 := eq_true p4
      replace q4 := eq_true q4
      go_wp2
      go_ret
      exact ⟨sp_, by repeat (first | exact Drawn0.refl _ | apply Drawn0.step)⟩
     ·rw [if_neg c5] at H
      have c5b0 : decide ((bt a0 x3_1) < 48) = false := decide_eq_false c5
      clear c5
      by_cases c7 : (bt a0 x3_1) > 57
      ·rw [if_pos c7] at H
       have c7b0 : decide (57 < (bt a0 x3_1)) = true := decide_eq_true c7
       clear c7
       obtain rfl := Option.some.inj H
       have p4 : 0 ≤ (x3_1 : Int) := od_
       have q4 : x3_1 < (a0.size : Int) := od_
       have hx4 := bt_at a0 x3_1
       replace p4 := eq_true p4
       replace q4 := eq_true q4
       have p6 : 0 ≤ (x3_1 : Int) := od_
       have q6 : x3_1 < (a0.size : Int) := od_
       have hx6 := bt_at a0 x3_1
       replace p6 := eq_true p6
       replace q6 := eq_true q6
       go_wp2
       go_ret
       exact ⟨sp_, by repeat (first | exact Drawn0.refl _ | apply Drawn0.step)⟩
      ·rw [if_neg c7] at H
       have c7b0 : decide (57 < (bt a0 x3_1)) = false := decide_eq_false c7
       clear c7
       have H' := Aside0.mk H
       clear H
       have p4 : 0 ≤ (x3_1 : Int) := od_
       have q4 : x3_1 < (a0.size : Int) := od_
       have hx4 := bt_at a0 x3_1
       replace p4 := eq_true p4
       replace q4 := eq_true q4
       have p6 : 0 ≤ (x3_1 : Int) := od_
       have q6 : x3_1 < (a0.size : Int) := od_
       have hx6 := bt_at a0 x3_1
       replace p6 := eq_true p6
       replace q6 := eq_true q6
       go_wp2
       go_roundg k1
       case measure => have := HK1.out; omega
       case rel => exact ⟨(wrap64 (x3_1 + 1)), sp_, H', ⟨by have := HK1.out; omega⟩, by repeat (first | exact Drawn0.refl _ | apply Drawn0.step)⟩
    ·rw [if_neg c3] at H
     exact absurd H (by simp)
   ·rw [if_neg c2] at H
    have c2b0 : decide (x3_1 < (a0.size : Int)) = false := decide_eq_false c2
    clear c2
    obtain rfl := Option.some.inj H
    go_wp2
    go_ret
    exact ⟨sp_, by repeat (first | exact Drawn0.refl _ | apply Drawn0.step)⟩
/-! ### spec_GetBcd: function 87 -/
mutual
def spec_GetBcd.j0 : Nat → List Int → Int → Int → Bool → Option (ByteArray × Int × Bool)
 | 0, _, _, _, _ => none
 | k + 1, x0, x1, x2, x36 => if x36 = true then (some ((⟨#[]⟩ : ByteArray), 0, false)) else (spec_GetBcd.l0 k x0 x1 x2 (⟨#[]⟩ : ByteArray) x1)
def spec_GetBcd.l0 : Nat → List Int → Int → Int → ByteArray → Int → Option (ByteArray × Int × Bool)
 | 0, _, _, _, _, _ => none
 | k + 1, x0, x1, x2, x9, x10 => if x10 < (wrap64 (x1 + (wrap64 (Int.tdiv (wrap64 (x2 + 1)) 2)))) then (if 0 ≤ x10 then (if x10 < (x0.length : Int) then ((some (([(wrap64 (48 + (wrap64 (Int.tdiv (wrap64 (rd x0 x10)) 16)))) % 256, (wrap64 (48 + (Int.tmod (wrap64 (rd x0 x10)) 16))) % 256] : List Int) : List Int)).bind fun y103 => (if x9.size + (strOfNums y103).size ≤ 9223372036854775807 then (spec_GetBcd.l0 k x0 x1 x2 (x9 ++ (strOfNums y103)) (wrap64 (x10 + 1))) else (none))) else (none)) else (none)) else (if (Int.tmod x2 2) = 1 then (if 0 < (x9.size : Int) then (if (bt x9 0) = 48 then (if 1 ≤ (x9.size : Int) then ((spec_Digits.f k (x9.extract 1 x9.size)).bind fun t106 => (if t106 = true then (some (x9.extract 1 x9.size, wrap64 (x1 + (wrap64 (Int.tdiv (wrap64 (x2 + 1)) 2))), true)) else (some ((⟨#[]⟩ : ByteArray), 0, false)))) else (none)) else (some ((⟨#[]⟩ : ByteArray), 0, false))) else (none)) else ((spec_Digits.f k x9).bind fun t107 => (if t107 = true then (some (x9, wrap64 (x1 + (wrap64 (Int.tdiv (wrap64 (x2 + 1)) 2))), true)) else (some ((⟨#[]⟩ : ByteArray), 0, false)))))
end
def spec_GetBcd.f (k : Nat) (l0 : List Int) (a1 : Int) (a2 : Int) : Option (ByteArray × Int × Bool) := if a2 < 1 then (spec_GetBcd.j0 k l0 a1 a2 true) else (if a2 > 38 then (spec_GetBcd.j0 k l0 a1 a2 true) else (if a1 < 0 then (spec_GetBcd.j0 k l0 a1 a2 true) else (if a1 > (l0.length : Int) then (spec_GetBcd.j0 k l0 a1 a2 true) else (spec_GetBcd.j0 k l0 a1 a2 (decide ((wrap64 (Int.tdiv (wrap64 (a2 + 1)) 2)) > (wrap64 ((l0.length : Int) - a1))))))))
def spec_GetBcd.T7 : Bool × List (List Nat × List Nat) := (true, [([], []), ([], []), ([], []), ([1, 2], [1, 2]), ([3], [3]), ([4], [4]), ([5], [5]), ([6], [6]), ([7], [7]), ([], []), ([], []), ([9, 10], [9, 10]), ([11], [11]), ([12], [12]), ([13], [13]), ([14], [14]), ([15], [15]), ([8, 16], [8, 16]), ([17], [17]), ([0, 18], [0, 18]), ([19, 0, 1, 2, 3, 4, 5, 6, 7, 8, 9, 10, 11, 12, 13, 14, 15, 16, 17, 18, 19], [0, 19])])
def spec_GetBcd.B7 : List Nat := [0, 0, 0, 6, 14, 30, 62, 126, 254, 0, 0, 1536, 3584, 7680, 15872, 32256, 65024, 131070, 262142, 524287, 1048575]
theorem spec_GetBcd.tab7 : rtab .any (opsOf Tryd.f87 7) = spec_GetBcd.T7 := by kernel_rfl
theorem spec_GetBcd.bits7 : waitsOk spec_GetBcd.T7.2 spec_GetBcd.B7 = true := by kernel_rfl
set_option maxHeartbeats 8000000 in
set_option maxRecDepth 100000 in
theorem spec_GetBcd.calls (k : Nat) (A0 : Option Addr) (c0 : Nat) (l0 : List Int) (a1 : Int) (a2 : Int) (r1 : ByteArray) (r2 : Int) (r3 : Bool) (w : World) (hr0 : Kd.C (Kd.int .u8) w A0 l0.length l0) (hc0 : l0.length ≤ c0) (h : spec_GetBcd.f k l0 a1 a2 = some (r1, r2, r3)) :
  Calls Tryd.prog 87 #[.slice A0 l0.length c0, .int .i64 a1, .int .i64 a2] w fun e w' => e = .returned (.tuple #[.string r1, .int .i64 r2, .bool r3]) ∧ Below w.heap.size w w' := by
 have HR0 := Aside0.mk hr0
 have HC0 := Aside0.mk hc0
 clear hr0 hc0
 have HB := Aside0.mk (Below.refl w.heap.size w)
 have H : (if a2 < 1 then (spec_GetBcd.j0 k l0 a1 a2 true) else (if a2 > 38 then (spec_GetBcd.j0 k l0 a1 a2 true) else (if a1 < 0 then (spec_GetBcd.j0 k l0 a1 a2 true) else (if a1 > (l0.length : Int) then (spec_GetBcd.j0 k l0 a1 a2 true) else (spec_GetBcd.j0 k l0 a1 a2 (decide ((wrap64 (Int.tdiv (wrap64 (a2 + 1)) 2)) > (wrap64 ((l0.length : Int) - a1))))))))) = some (r1, r2, r3) := h
 clear h
 have HC4 := Aside0.mk H
 clear H
 go_enter Tryd.func87, Tryd.ntmps87
 go_upto_region 1 with (fail)
 go_cut [36] (fun v36 wc => ∃ (kq : Nat) (x36_3 : Bool), v36 = .bool x36_3 ∧ Aside0 (spec_GetBcd.j0 kq l0 a1 a2 x36_3 = some (r1, r2, r3)) ∧ Aside0 (kq ≤ k) ∧ Aside0 (Below w.heap.size w wc))
 case first =>
  have H := HC4.out
  clear HC4
  by_cases c5 : a2 < 1
  ·rw [if_pos c5] at H
   have c5b0 : decide (a2 < 1) = true := decide_eq_true c5
   clear c5
   (first | rw [c5b0] | (simp only [i64_w, i32_w]; rw [c5b0]) | skip)
   have H' := Aside0.mk H
   clear H
   go_wp2
   go_meet
   case rel => exact ⟨_, (true), sp_, H', ⟨by first | omega | exact Nat.le_refl _⟩, ⟨bl_⟩⟩
  ·rw [if_neg c5] at H
   have c5b0 : decide (a2 < 1) = false := decide_eq_false c5
   clear c5
   (first | rw [c5b0] | (simp only [i64_w, i32_w]; rw [c5b0]) | skip)
   by_cases c6 : a2 > 38
   ·rw [if_pos c6] at H
    have c6b0 : decide (38 < a2) = true := decide_eq_true c6
    clear c6
    have H' := Aside0.mk H
    clear H
    go_wp2
    go_meet
    case rel => exact ⟨_, (true), sp_, H', ⟨by first | omega | exact Nat.le_refl _⟩, ⟨bl_⟩⟩
   ·rw [if_neg c6] at H
    have c6b0 : decide (38 < a2) = false := decide_eq_false c6
    clear c6
    by_cases c7 : a1 < 0
    ·rw [if_pos c7] at H
     have c7b0 : decide (a1 < 0) = true := decide_eq_true c7
     clear c7
     have H' := Aside0.mk H
     clear H
     go_wp2
     go_meet
     case rel => exact ⟨_, (true), sp_, H', ⟨by first | omega | exact Nat.le_refl _⟩, ⟨bl_⟩⟩
    ·rw [if_neg c7] at H
     have c7b0 : decide (a1 < 0) = false := decide_eq_false c7
     clear c7
     by_cases c8 : a1 > (l0.length : Int)
     ·rw [if_pos c8] at H
      have c8b0 : decide ((l0.length : Int) < a1) = true := decide_eq_true c8
      clear c8
      have H' := Aside0.mk H
      clear H
      go_wp2
      go_meet
      case rel => exact ⟨_, (true), sp_, H', ⟨by first | omega | exact Nat.le_refl _⟩, ⟨bl_⟩⟩
     ·rw [if_neg c8] at H
      have c8b0 : decide ((l0.length : Int) < a1) = false := decide_eq_false c8
      clear c8
      have H' := Aside0.mk H
      clear H
      go_wp2
      go_meet
      case rel => exact ⟨_, (decide ((wrap64 (Int.tdiv (wrap64 (a2 + 1)) 2)) > (wrap64 ((l0.length : Int) - a1)))), sp_, H', ⟨by first | omega | exact Nat.le_refl _⟩, ⟨bl_⟩⟩
 case rest =>
  clear HC4
  try clear p2
  try clear c5
  try clear c5b0
  try clear c6
  try clear c6b0
  try clear p6
  try clear c7
  try clear c7b0
  try clear c8
  try clear c8b0
  obtain ⟨kq, x36_3, rfl, HA, HJ3, HB⟩ := hcut
  cases kq with
  | zero => exact absurd HA.out (by simp [spec_GetBcd.j0])
  | succ kj3 =>
   have H := HA.out
   clear HA
   simp only [spec_GetBcd.j0] at H
   by_cases c9 : x36_3 = true
   ·subst c9
    replace H := ip_ H
    simp only [Option.some.injEq, Prod.mk.injEq] at H
    obtain ⟨rfl, rfl, rfl⟩ := H
    go_wp2
    go_ret3
    exact ⟨sq_, bl_⟩
   ·replace c9 := Bool.eq_false_iff.mpr c9
    subst c9
    replace H := in_ H
    have H' := Aside0.mk H
    clear H
    go_wp2
    go_loopg [9, 10] kj3 (fun kq v9 v10 w' => ∃ (x9_2 : ByteArray) (x10_2 : Int), v9 = .string x9_2 ∧ v10 = .int .i64 x10_2 ∧ Aside0 (spec_GetBcd.l0 kq l0 a1 a2 x9_2 x10_2 = some (r1, r2, r3)) ∧ Aside0 (kq ≤ kj3) ∧ Aside0 (Below w.heap.size w w'))
    case atStart => exact ⟨((⟨#[]⟩ : ByteArray)), (a1), sp_, sp_, H', ⟨Nat.le_refl _⟩, ⟨bl_⟩⟩
    case round =>
     clear H'
     try clear p2
     try clear c5
     try clear c5b0
     try clear c6
     try clear c6b0
     try clear p6
     try clear c7
     try clear c7b0
     try clear c8
     try clear c8b0
     try clear c9
     try clear p2
     try clear p6
     obtain ⟨x9_2, x10_2, rfl, rfl, HA, HK2, HB⟩ := hrel
     cases gk with
     | zero => exact absurd HA.out (by simp [spec_GetBcd.l0])
     | succ k2 =>
      have H := HA.out
      clear HA
      simp only [spec_GetBcd.l0] at H
      by_cases c10 : x10_2 < (wrap64 (a1 + (wrap64 (Int.tdiv (wrap64 (a2 + 1)) 2))))
      ·rw [if_pos c10] at H
       have c10b0 : decide (x10_2 < (wrap64 (a1 + (wrap64 (Int.tdiv (wrap64 (a2 + 1)) 2))))) = true := decide_eq_true c10
       clear c10
       by_cases c11 : 0 ≤ x10_2
       ·rw [if_pos c11] at H
        have c11b0 : decide (0 ≤ x10_2) = true := decide_eq_true c11
        clear c11
        by_cases c12 : x10_2 < (l0.length : Int)
        ·rw [if_pos c12] at H
         have c12b0 : decide (x10_2 < (l0.length : Int)) = true := decide_eq_true c12
         clear c12
         obtain ⟨y103, hy103⟩ : ∃ y_ : List Int, y_ = (([(wrap64 (48 + (wrap64 (Int.tdiv (wrap64 (rd l0 x10_2)) 16)))) % 256, (wrap64 (48 + (Int.tmod (wrap64 (rd l0 x10_2)) 16))) % 256] : List Int)) := ⟨_, rfl⟩
         replace H : (if x9_2.size + (strOfNums y103).size ≤ 9223372036854775807 then (spec_GetBcd.l0 k2 l0 a1 a2 (x9_2 ++ (strOfNums y103)) (wrap64 (x10_2 + 1))) else (none)) = some (r1, r2, r3) := by first | (rw [hy103]; with_reducible exact H) | (have H2_ := (Option.bind_some _ _).symm.trans H; rw [hy103]; with_reducible exact H2_) | (have H2_ := (Option.bind_some _ _).symm.trans H; with_reducible exact H2_) | with_reducible exact H | (rw [hy103]; exact H) | exact H
         have Ny103 := Aside0.mk hy103
         clear hy103
         by_cases c13 : x9_2.size + (strOfNums y103).size ≤ 9223372036854775807
         ·rw [if_pos c13] at H
          have c13b0 := eq_true c13
          have c13b1 : decide (x9_2.size + (strOfNums y103).size ≤ 9223372036854775807) = true := decide_eq_true c13
          try have c13b2 : (9223372036854775807 < x9_2.size + (strOfNums y103).size) = False := eq_false (Nat.not_lt.2 c13)
          have H' := Aside0.mk H
          clear H
          try go_wp2
          have n0_ := Aside0.mk (below_drew1 HB.out)
          clear HB
          have HB := n0_
          clear n0_
          have p101 : 0 ≤ (x10_2 : Int) := od_
          have q101 : x10_2 < (l0.length : Int) := od_
          obtain ⟨ad101, e101, hx101_0⟩ := Kd.at_int HR0.out x10_2 p101 q101
          have hw101_0 := hx101_0
          cases e101
          replace hx101_0 := kc_ HB hx101_0
          replace p101 := eq_true p101
          replace q101 := eq_true q101
          have p102 : 0 ≤ (x10_2 : Int) := od_
          have q102 : x10_2 < (l0.length : Int) := od_
          obtain ⟨ad102, e102, hx102_0⟩ := Kd.at_int HR0.out x10_2 p102 q102
          have hw102_0 := hx102_0
          obtain rfl : ad101 = ad102 := (by injection e102)
          replace hx102_0 := kc_ HB hx102_0
          replace p102 := eq_true p102
          replace q102 := eq_true q102
          refine start_ (n := 21) (S := fun w' => w'.cell? (ad101.add (x10_2).toNat) = some (.int .u8 (rd l0 x10_2)) ∧ w'.cell? (ad101.add (x10_2).toNat) = some (.int .u8 (rd l0 x10_2))) (ds := []) tb21_0_1 (by kernel_rfl) rfl rfl ⟨(kc_ HB hw101_0), (kc_ HB hw102_0)⟩ (fun hHeld => ?_); refine with_tabW spec_GetBcd.tab7 spec_GetBcd.bits7 (fun HT_ HW_ => ?_)
          generalize wr.drew = w14 at HB hx101_0 hx102_0 hHeld ⊢
          refine pl_ HT_ 0 47 tb21_1_1 ?_
          refine pl_ HT_ 1 48 tb21_3_1 ?_
          refine pl_ HT_ 2 49 tb21_7_1 ?_
          refine pl_ HT_ 3 50 tb21_f_1 ?_
          refine pl_ HT_ 9 56 tb21_20f_1 ?_
          refine pl_ HT_ 10 57 tb21_60f_1 ?_
          refine pl_ HT_ 11 58 tb21_e0f_1 ?_
          refine take_ (i := 4) (N := some 51) (v := ?_) (a' := ?_) tb21_e1f_1 rfl rfl (take_ofW HT_.out HW_.out (by kernel_rfl)) (fun _ _ _ h => h) (Or.inl ⟨by rfl, ?_⟩) hHeld ?_ ?_
          rotate_left
          ·rintro w' ⟨s0, s1⟩
           go_simp
           with_reducible rfl
          rotate_left
          ·simp only [Act.put, q_]
           rfl
          refine pl_ HT_ 5 52 tb21_e3f_1 ?_
          refine pl_ HT_ 6 53 tb21_e7f_1 ?_
          refine pl_ HT_ 7 54 tb21_eff_1 ?_
          refine pl_ HT_ 8 55 tb21_fff_1 ?_
          refine take_ (i := 12) (N := some 59) (v := ?_) (a' := ?_) tb21_1fff_1 rfl rfl (take_ofW HT_.out HW_.out (by kernel_rfl)) (fun _ _ _ h => h) (Or.inl ⟨by rfl, ?_⟩) hHeld ?_ ?_
          rotate_left
          ·rintro w' ⟨s0, s1⟩
           go_simp
           with_reducible rfl
          rotate_left
          ·simp only [Act.put, q_]
           rfl
          refine pl_ HT_ 13 60 tb21_3fff_1 ?_
          refine pl_ HT_ 14 61 tb21_7fff_1 ?_
          refine pl_ HT_ 15 62 tb21_ffff_1 ?_
          refine pl_ HT_ 16 63 tb21_1ffff_1 ?_
          refine one_ (i := 17) (N := some 64) tb21_3ffff_1 rfl rfl (one_of HT_.out (by kernel_rfl)) (by decide) (fun K hK => ?_)
          refine Kd.R_lit_step (Kd.int .u8) _ 5 ?hg (N := 64) ?hd (xs := ([(wrap64 (48 + (wrap64 (Int.tdiv (wrap64 (rd l0 x10_2)) 16)))) % 256, (wrap64 (48 + (Int.tmod (wrap64 (rd l0 x10_2)) 16))) % 256] : List Int)) (inner := [.int .u8 ((wrap64 (48 + (wrap64 (Int.tdiv (wrap64 (rd l0 x10_2)) 16)))) % 256), .int .u8 ((wrap64 (48 + (Int.tmod (wrap64 (rd l0 x10_2)) 16))) % 256)]) (ok := fun _ => True) (okp := fun _ => True) ?hr ?hp (fun _ hk => hk) trivial (Below.refl _ _) (Nat.le_refl _) (by simp) ?_; (case hd => rfl); (case hg => rfl); (case hr => first | (go_simp; done) | (go_simp; rfl)); (case hp => exact (Reps.one (show Kd.M (Kd.int .u8) _ _ _ ((wrap64 (48 + (wrap64 (Int.tdiv (wrap64 (rd l0 x10_2)) 16)))) % 256) [.int .u8 ((wrap64 (48 + (wrap64 (Int.tdiv (wrap64 (rd l0 x10_2)) 16)))) % 256)] from rfl) (Reps.one (show Kd.M (Kd.int .u8) _ _ _ ((wrap64 (48 + (Int.tmod (wrap64 (rd l0 x10_2)) 16))) % 256) [.int .u8 ((wrap64 (48 + (Int.tmod (wrap64 (rd l0 x10_2)) 16))) % 256)] from rfl) (Reps.none _ _))))
          intro v104 w15 ho16 hb hg_ hnew_
          clear hg_ hnew_
          (first | rw [← Ny103.out] at ho16 | (simp only [Int.reduceToNat] at ho16; rw [← Ny103.out] at ho16))
          have n0_ := Aside0.mk (Kd.R_lower ho16 (below_size bl_))
          have n1_ := Aside0.mk (below_step bl_ hb)
          clear HB
          have HO105 := n0_
          have HB := n1_
          clear n0_ n1_
          clear hb ho16
          refine hK.out _ _ ⟨(kc_ HB hw101_0), (kc_ HB hw102_0)⟩ (fun hHeld => ?_)
          clear hK K
          refine norm_ (a' := ?_) ?_ ?_
          rotate_left
          ·show Act.put _ (some 64) _ = _
           simp only [Act.put, q_]
           rfl
          refine one_ (i := 18) (N := some 65) tb21_7ffff_1 rfl rfl (one_of HT_.out (by kernel_rfl)) (by decide) (fun K hK => ?_)
          have hcv17 := own_string (P := Tryd.prog) Tryd.underlying22 Tryd.underlying5 Tryd.underlying9 (Kd.own_of_R HO105.out)
          refine value_ (w1 := ?_) (v := ?_) (by rfl) rfl ?_ ?_
          rotate_left 2
          ·go_simp
           constructor
           ·rfl
           ·rfl
          clear hcv17
          refine hK.out _ _ ⟨(kc_ HB hw101_0), (kc_ HB hw102_0)⟩ (fun hHeld => ?_)
          clear hK K
          refine norm_ (a' := ?_) ?_ ?_
          rotate_left
          ·show Act.put _ (some 65) _ = _
           simp only [Act.put, q_]
           rfl
          refine pl_ HT_ 19 66 tb21_fffff_1 ?_
          refine pl_ HT_ 20 9 tb21_1fffff_1 ?_
          refine done_ (done_of HT_.out (by kernel_rfl)) ?_
          try go_wp2
          go_roundg k2
          case measure => have := HJ3.out; have := HK2.out; omega
          case rel => exact ⟨(x9_2 ++ (strOfNums y103)), (wrap64 (x10_2 + 1)), sp_, sp_, H', ⟨by have := HJ3.out; have := HK2.out; omega⟩, ⟨bl_⟩⟩
         ·rw [if_neg c13] at H
          exact absurd H (by simp)
        ·rw [if_neg c12] at H
         exact absurd H (by simp)
       ·rw [if_neg c11] at H
        exact absurd H (by simp)
      ·rw [if_neg c10] at H
       have c10b0 : decide (x10_2 < (wrap64 (a1 + (wrap64 (Int.tdiv (wrap64 (a2 + 1)) 2))))) = false := decide_eq_false c10
       clear c10
       by_cases c18 : (Int.tmod a2 2) = 1
       ·rw [if_pos c18] at H
        have c18b0 : ((Int.tmod a2 2) == 1) = true := beq_iff_eq.mpr c18
        have c18b1 : ((Int.tmod a2 2) != 1) = false := bne_eq_false_iff_eq.mpr c18
        clear c18
        by_cases c19 : 0 < (x9_2.size : Int)
        ·rw [if_pos c19] at H
         have c19b0 : decide (0 < (x9_2.size : Int)) = true := decide_eq_true c19
         have c19b1 : decide (0 < x9_2.size) = true := decide_eq_true (by omega)
         clear c19
         by_cases c21 : (bt x9_2 0) = 48
         ·rw [if_pos c21] at H
          have c21b0 : ((bt x9_2 0) == 48) = true := beq_iff_eq.mpr c21
          have c21b1 : ((bt x9_2 0) != 48) = false := bne_eq_false_iff_eq.mpr c21
          clear c21
          by_cases c22 : 1 ≤ (x9_2.size : Int)
          ·rw [if_pos c22] at H
           have c22b0 := eq_true c22
           have c22b1 : decide (1 ≤ (x9_2.size : Int)) = true := decide_eq_true c22
           clear c22
           obtain ⟨t106, A23, H⟩ := ob_ H
           by_cases c24 : t106 = true
           ·subst c24
            replace H := ip_ H
            simp only [Option.some.injEq, Prod.mk.injEq] at H
            obtain ⟨rfl, rfl, rfl⟩ := H
            have p20 : 0 ≤ (0 : Int) := (by omega)
            have q20 : 0 < x9_2.size := (by have : (0 : Int) < (x9_2.size : Int) := od_; omega)
            have hx20 : ∀ h : 0 < x9_2.size, ((x9_2[0]'h).toNat : Int) = bt x9_2 0 := bt_at x9_2 0
            clear p20
            have qi20 : (0 < (x9_2.size : Int)) = True := eq_true od_
            replace q20 := eq_true q20
            go_wp2_with (first | ((with_reducible refine gate_callee (f := 67) rfl ?_); refine goesL_ (some 76) rfl rfl Tryd.func67 (by kernel_rfl) rfl #[.string (x9_2.extract 1 x9_2.size)] rfl gl_ ?_; (with_reducible refine (spec_Digits.calls k2 (x9_2.extract 1 x9_2.size) true _ A23.out).mono ?_); rintro e w' ⟨rfl, ⟨nd, rfl⟩⟩; refine ⟨_, rfl, ?_⟩))
            go_ret3
            exact ⟨sq_, bl_⟩
           ·replace c24 := Bool.eq_false_iff.mpr c24
            subst c24
            replace H := in_ H
            simp only [Option.some.injEq, Prod.mk.injEq] at H
            obtain ⟨rfl, rfl, rfl⟩ := H
            have p20 : 0 ≤ (0 : Int) := (by omega)
            have q20 : 0 < x9_2.size := (by have : (0 : Int) < (x9_2.size : Int) := od_; omega)
            have hx20 : ∀ h : 0 < x9_2.size, ((x9_2[0]'h).toNat : Int) = bt x9_2 0 := bt_at x9_2 0
            clear p20
            have qi20 : (0 < (x9_2.size : Int)) = True := eq_true od_
            replace q20 := eq_true q20
            go_wp2_with (first | ((with_reducible refine gate_callee (f := 67) rfl ?_); refine goesL_ (some 76) rfl rfl Tryd.func67 (by kernel_rfl) rfl #[.string (x9_2.extract 1 x9_2.size)] rfl gl_ ?_; (with_reducible refine (spec_Digits.calls k2 (x9_2.extract 1 x9_2.size) false _ A23.out).mono ?_); rintro e w' ⟨rfl, ⟨nd, rfl⟩⟩; refine ⟨_, rfl, ?_⟩))
            go_ret3
            exact ⟨sq_, bl_⟩
          ·rw [if_neg c22] at H
           exact absurd H (by simp)
         ·rw [if_neg c21] at H
          have c21b0 : ((bt x9_2 0) == 48) = false := beq_eq_false_iff_ne.mpr c21
          have c21b1 : ((bt x9_2 0) != 48) = true := bne_iff_ne.mpr c21
          simp only [Option.some.injEq, Prod.mk.injEq] at H
          obtain ⟨rfl, rfl, rfl⟩ := H
          have p20 : 0 ≤ (0 : Int) := (by omega)
          have q20 : 0 < x9_2.size := (by have : (0 : Int) < (x9_2.size : Int) := od_; omega)
          have hx20 : ∀ h : 0 < x9_2.size, ((x9_2[0]'h).toNat : Int) = bt x9_2 0 := bt_at x9_2 0
          clear p20
          have qi20 : (0 < (x9_2.size : Int)) = True := eq_true od_
          replace q20 := eq_true q20
          go_wp2
          go_ret3
          exact ⟨sq_, bl_⟩
        ·rw [if_neg c19] at H
         exact absurd H (by simp)
       ·rw [if_neg c18] at H
        have c18b0 : ((Int.tmod a2 2) == 1) = false := beq_eq_false_iff_ne.mpr c18
        have c18b1 : ((Int.tmod a2 2) != 1) = true := bne_iff_ne.mpr c18
        obtain ⟨t107, A25, H⟩ := ob_ H
        by_cases c26 : t107 = true
        ·subst c26
         replace H := ip_ H
         simp only [Option.some.injEq, Prod.mk.injEq] at H
         obtain ⟨rfl, rfl, rfl⟩ := H
         go_wp2_with (first | ((with_reducible refine gate_callee (f := 67) rfl ?_); refine goesL_ (some 76) rfl rfl Tryd.func67 (by kernel_rfl) rfl #[.string x9_2] rfl gl_ ?_; (with_reducible refine (spec_Digits.calls k2 x9_2 true _ A25.out).mono ?_); rintro e w' ⟨rfl, ⟨nd, rfl⟩⟩; refine ⟨_, rfl, ?_⟩))
         go_ret3
         exact ⟨sq_, bl_⟩
        ·replace c26 := Bool.eq_false_iff.mpr c26
         subst c26
         replace H := in_ H
         simp only [Option.some.injEq, Prod.mk.injEq] at H
         obtain ⟨rfl, rfl, rfl⟩ := H
         go_wp2_with (first | ((with_reducible refine gate_callee (f := 67) rfl ?_); refine goesL_ (some 76) rfl rfl Tryd.func67 (by kernel_rfl) rfl #[.string x9_2] rfl gl_ ?_; (with_reducible refine (spec_Digits.calls k2 x9_2 false _ A25.out).mono ?_); rintro e w' ⟨rfl, ⟨nd, rfl⟩⟩; refine ⟨_, rfl, ?_⟩))
         go_ret3
         exact ⟨sq_, bl_⟩
end Go.Proofs.YtbjpfknmkpnhjaaDoor.QFnExactReplyCode
