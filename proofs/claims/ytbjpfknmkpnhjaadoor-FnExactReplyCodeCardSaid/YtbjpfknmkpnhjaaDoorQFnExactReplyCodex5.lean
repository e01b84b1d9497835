-- by my own printer (myprint.py, over the kit's print.py)
import Derived.Test.YtbjpfknmkpnhjaaDoorQFnExactReplyCodex0
import Derived.Test.YtbjpfknmkpnhjaaDoorQFnExactReplyCodex1
import Derived.Test.YtbjpfknmkpnhjaaDoorQFnExactReplyCodex2
import Derived.Test.YtbjpfknmkpnhjaaDoorQFnExactReplyCodex3
import Derived.Test.YtbjpfknmkpnhjaaDoorQFnExactReplyCodex4
namespace Go.Proofs.YtbjpfknmkpnhjaaDoor.QFnExactReplyCode
open Go.RowKit Go.Proofs.YtbjpfknmkpnhjaaDoorW.PrintWords Go.Proofs.YtbjpfknmkpnhjaaDoorW.PrintLast Go.Proofs.YtbjpfknmkpnhjaaDoorW.PrintMore
attribute [local go_sem] max2_int min2_int max_two min_two max_three min_three max_four min_four   -- for this text's walks alone
set_option linter.unusedVariables false
set_option linter.unusedSimpArgs false
attribute [local go_sem] my_geq my_leq my_gtr
/-! ### spec_GetLen: function 130 -/
def spec_GetLen.j0 : Nat → List Int → Int → Int → Bool → Option (Int × Int × Bool)
 | 0, _, _, _, _ => none
 | k + 1, x0, x1, x2, x19 => if x19 = true then (some (0, 0, false)) else ((spec_GetBcd.f k x0 x1 x2).bind fun bt139 => ((spec_Narrow.f k bt139.1).bind fun bt142 => (some (bt142.1, bt139.2.1, bt139.2.2))))
def spec_GetLen.f (k : Nat) (l0 : List Int) (a1 : Int) (a2 : Int) : Option (Int × Int × Bool) := if a2 = 2 then (spec_GetLen.j0 k l0 a1 a2 false) else (spec_GetLen.j0 k l0 a1 a2 (a2 != 3))
set_option maxHeartbeats 8000000 in
set_option maxRecDepth 100000 in
theorem spec_GetLen.calls (k : Nat) (A0 : Option Addr) (c0 : Nat) (l0 : List Int) (a1 : Int) (a2 : Int) (r1 : Int) (r2 : Int) (r3 : Bool) (w : World) (hr0 : Kd.C (Kd.int .u8) w A0 l0.length l0) (hc0 : l0.length ≤ c0) (h : spec_GetLen.f k l0 a1 a2 = some (r1, r2, r3)) :
  Calls Tryd.prog 130 #[.slice A0 l0.length c0, .int .i64 a1, .int .i64 a2] w fun e w' => e = .returned (.tuple #[.int .i64 r1, .int .i64 r2, .bool r3]) ∧ Below w.heap.size w w' := by
 have HR0 := Aside0.mk hr0
 have HC0 := Aside0.mk hc0
 clear hr0 hc0
 have HB := Aside0.mk (Below.refl w.heap.size w)
 have H : (if a2 = 2 then (spec_GetLen.j0 k l0 a1 a2 false) else (spec_GetLen.j0 k l0 a1 a2 (a2 != 3))) = some (r1, r2, r3) := h
 clear h
 have HC4 := Aside0.mk H
 clear H
 go_enter Tryd.func130, Tryd.ntmps130
 go_upto_region 1 with (fail)
 go_cut [19] (fun v19 wc => ∃ (kq : Nat) (x19_3 : Bool), v19 = .bool x19_3 ∧ Aside0 (spec_GetLen.j0 kq l0 a1 a2 x19_3 = some (r1, r2, r3)) ∧ Aside0 (kq ≤ k) ∧ Aside0 (Below w.heap.size w wc))
 case first =>
  have H := HC4.out
  clear HC4
  by_cases c5 : a2 = 2
  ·rw [if_pos c5] at H
   have c5b0 : (a2 == 2) = true := beq_iff_eq.mpr c5
   have c5b1 : (a2 != 2) = false := bne_eq_false_iff_eq.mpr c5
   clear c5
   (first | rw [c5b0] | (simp only [i64_w, i32_w]; rw [c5b0]) | skip)
   have H' := Aside0.mk H
   clear H
   go_wp2
   go_meet
   case rel => exact ⟨_, (false), sp_, H', ⟨by first | omega | exact Nat.le_refl _⟩, ⟨bl_⟩⟩
  ·rw [if_neg c5] at H
   have c5b0 : (a2 == 2) = false := beq_eq_false_iff_ne.mpr c5
   have c5b1 : (a2 != 2) = true := bne_iff_ne.mpr c5
   (first | rw [c5b0] | (simp only [i64_w, i32_w]; rw [c5b0]) | skip)
   have H' := Aside0.mk H
   clear H
   go_wp2
   go_meet
   case rel => exact ⟨_, ((a2 != 3)), sp_, H', ⟨by first | omega | exact Nat.le_refl _⟩, ⟨bl_⟩⟩
 case rest =>
  clear HC4
  try clear c1
  try clear p2
  try clear c5
  try clear c5b0
  try clear c5b1
  obtain ⟨kq, x19_3, rfl, HA, HJ3, HB⟩ := hcut
  cases kq with
  | zero => exact absurd HA.out (by simp [spec_GetLen.j0])
  | succ kj3 =>
   have H := HA.out
   clear HA
   simp only [spec_GetLen.j0] at H
   by_cases c6 : x19_3 = true
   ·subst c6
    replace H := ip_ H
    simp only [Option.some.injEq, Prod.mk.injEq] at H
    obtain ⟨rfl, rfl, rfl⟩ := H
    go_wp2
    go_ret3
    exact ⟨sq_, bl_⟩
   ·replace c6 := Bool.eq_false_iff.mpr c6
    subst c6
    replace H := in_ H
    obtain ⟨⟨t139, t140, t141⟩, A7, H⟩ := ob_ H
    (try dsimp only at H)
    obtain ⟨⟨t142, t143⟩, A8, H⟩ := ob_ H
    (try dsimp only at H)
    simp only [Option.some.injEq, Prod.mk.injEq] at H
    obtain ⟨rfl, rfl, rfl⟩ := H
    go_wp2_with (first | ((with_reducible refine gate_callee (f := 87) rfl ?_); refine goesL_ (some 24) rfl rfl Tryd.func87 (by kernel_rfl) rfl #[.slice A0 l0.length c0, .int .i64 a1, .int .i64 a2] rfl gl_ ?_; (with_reducible refine (spec_GetBcd.calls kj3 _ _ l0 a1 a2 t139 t140 t141 _ ?side1 ?side2 A7.out).mono ?_); (case side1 => exact ca_ (Kd.C_below HR0.out HB.out)); (case side2 => exact HC0.out); rintro e w9 ⟨rfl, hb⟩; refine ⟨_, rfl, ?_⟩; replace HB := Aside0.mk (below_step bl_ hb); (try clear hb); (try clear hb2); (try clear hk); (try clear hi)) | ((with_reducible refine gate_callee (f := 158) rfl ?_); refine goesL_ (some 30) rfl rfl Tryd.func158 (by kernel_rfl) rfl #[.string t139] rfl gl_ ?_; (with_reducible refine (spec_Narrow.calls kj3 t139 t142 t143 _ A8.out).mono ?_); rintro e w' ⟨rfl, ⟨nd, rfl⟩⟩; refine ⟨_, rfl, ?_⟩))
    go_ret3
    exact ⟨sq_, bl_⟩
/-! ### spec_GetField: function 89 -/
mutual
def spec_GetField.j0 : Nat → List Int → Int → Int → Int → Bool → Option (ByteArray × Int × Bool)
 | 0, _, _, _, _, _ => none
 | k + 1, x0, x1, x9, x10, x23 => if x23 = true then (some ((⟨#[]⟩ : ByteArray), 0, false)) else ((spec_l03Width.f k x9).bind fun t146 => (if t146 > 0 then ((spec_l03Width.f k x9).bind fun t147 => ((spec_GetLen.f k x0 x1 t147).bind fun bt148 => (if bt148.2.2 = true then ((spec_l01In.f bt148.1 1 x10).bind fun t151 => (if t151 = true then (spec_GetField.j1 k x0 bt148.2.1 x9 bt148.1) else (some ((⟨#[]⟩ : ByteArray), 0, false)))) else (some ((⟨#[]⟩ : ByteArray), 0, false))))) else (spec_GetField.j1 k x0 x1 x9 x10)))
def spec_GetField.j1 : Nat → List Int → Int → Int → Int → Option (ByteArray × Int × Bool)
 | 0, _, _, _, _ => none
 | k + 1, x0, x1, x9, x10 => if x9 = 1 then (spec_GetField.j2 k x0 x1 x10 true) else (spec_GetField.j2 k x0 x1 x10 (x9 == 3))
def spec_GetField.j2 : Nat → List Int → Int → Int → Bool → Option (ByteArray × Int × Bool)
 | 0, _, _, _, _ => none
 | k + 1, x0, x1, x10, x51 => if x51 = true then ((spec_GetBcd.f k x0 x1 x10).bind fun bt152 => (some (bt152.1, bt152.2.1, bt152.2.2))) else (if x1 > (x0.length : Int) then (some ((⟨#[]⟩ : ByteArray), 0, false)) else (if x10 > (wrap64 ((x0.length : Int) - x1)) then (some ((⟨#[]⟩ : ByteArray), 0, false)) else (if 0 ≤ x1 then (if x1 ≤ (wrap64 (x1 + x10)) then (if (wrap64 (x1 + x10)) ≤ (x0.length : Int) then ((spec_Printable.f k (strOfNums ((x0.take ((wrap64 (x1 + x10)) : Int).toNat).drop (x1 : Int).toNat))).bind fun t156 => (if t156 = true then (some (strOfNums ((x0.take ((wrap64 (x1 + x10)) : Int).toNat).drop (x1 : Int).toNat), wrap64 (x1 + x10), true)) else (some ((⟨#[]⟩ : ByteArray), 0, false)))) else (none)) else (none)) else (none))))
end
def spec_GetField.f (k : Nat) (l0 : List Int) (a1 : Int) (a2 : Int) : Option (ByteArray × Int × Bool) := (spec_FieldKind.f k a2).bind fun t144 => ((spec_FieldSize.f k a2).bind fun t145 => (if t144 = 0 then (spec_GetField.j0 k l0 a1 t144 t145 true) else (spec_GetField.j0 k l0 a1 t144 t145 (decide (a1 < 0)))))
set_option maxHeartbeats 8000000 in
set_option maxRecDepth 100000 in
theorem spec_GetField.calls (k : Nat) (A0 : Option Addr) (c0 : Nat) (l0 : List Int) (a1 : Int) (a2 : Int) (r1 : ByteArray) (r2 : Int) (r3 : Bool) (w : World) (hr0 : Kd.C (Kd.int .u8) w A0 l0.length l0) (hc0 : l0.length ≤ c0) (h : spec_GetField.f k l0 a1 a2 = some (r1, r2, r3)) :
  Calls Tryd.prog 89 #[.slice A0 l0.length c0, .int .i64 a1, .int .i64 a2] w fun e w' => e = .returned (.tuple #[.string r1, .int .i64 r2, .bool r3]) ∧ Below w.heap.size w w' := by
 have HR0 := Aside0.mk hr0
 have HC0 := Aside0.mk hc0
 clear hr0 hc0
 have HB := Aside0.mk (Below.refl w.heap.size w)
 have H : ((spec_FieldKind.f k a2).bind fun t144 => ((spec_FieldSize.f k a2).bind fun t145 => (if t144 = 0 then (spec_GetField.j0 k l0 a1 t144 t145 true) else (spec_GetField.j0 k l0 a1 t144 t145 (decide (a1 < 0)))))) = some (r1, r2, r3) := h
 clear h
 obtain ⟨t144, A4, H⟩ := ob_ H
 obtain ⟨t145, A5, H⟩ := ob_ H
 have HC6 := Aside0.mk H
 clear H
 go_enter Tryd.func89, Tryd.ntmps89
 go_upto_region 3 with (first | ((with_reducible refine gate_callee (f := 74) rfl ?_); refine goesL_ (some 15) rfl rfl Tryd.func74 (by kernel_rfl) rfl #[.int .i64 a2] rfl gl_ ?_; (with_reducible refine (spec_FieldKind.calls k a2 t144 _ A4.out).mono ?_); rintro e w' ⟨rfl, ⟨nd, rfl⟩⟩; refine ⟨_, rfl, ?_⟩) | ((with_reducible refine gate_callee (f := 73) rfl ?_); refine goesL_ (some 17) rfl rfl Tryd.func73 (by kernel_rfl) rfl #[.int .i64 a2] rfl gl_ ?_; (with_reducible refine (spec_FieldSize.calls k a2 t145 _ A5.out).mono ?_); rintro e w' ⟨rfl, ⟨nd, rfl⟩⟩; refine ⟨_, rfl, ?_⟩))
 (try simp only [Act.put, List.setIfInBounds_toArray, List.set_cons_zero, List.set_cons_succ])
 go_cut [23] (fun v23 wc => ∃ (kq : Nat) (x23_5 : Bool), v23 = .bool x23_5 ∧ Aside0 (spec_GetField.j0 kq l0 a1 t144 t145 x23_5 = some (r1, r2, r3)) ∧ Aside0 (kq ≤ k) ∧ Aside0 (Below w.heap.size w wc))
 case first =>
  have H := HC6.out
  clear HC6
  by_cases c7 : t144 = 0
  ·rw [if_pos c7] at H
   have c7b0 : (t144 == 0) = true := beq_iff_eq.mpr c7
   have c7b1 : (t144 != 0) = false := bne_eq_false_iff_eq.mpr c7
   clear c7
   (first | rw [c7b0] | (simp only [i64_w, i32_w]; rw [c7b0]) | skip)
   have H' := Aside0.mk H
   clear H
   go_wp2
   go_meet
   case rel => exact ⟨_, (true), sp_, H', ⟨by first | omega | exact Nat.le_refl _⟩, ⟨bl_⟩⟩
  ·rw [if_neg c7] at H
   have c7b0 : (t144 == 0) = false := beq_eq_false_iff_ne.mpr c7
   have c7b1 : (t144 != 0) = true := bne_iff_ne.mpr c7
   (first | rw [c7b0] | (simp only [i64_w, i32_w]; rw [c7b0]) | skip)
   have H' := Aside0.mk H
   clear H
   go_wp2
   go_meet
   case rel => exact ⟨_, (decide (a1 < 0)), sp_, H', ⟨by first | omega | exact Nat.le_refl _⟩, ⟨bl_⟩⟩
 case rest =>
  clear HC6
  try clear p2
  try clear c7
  try clear c7b0
  try clear c7b1
  obtain ⟨kq, x23_5, rfl, HA, HJ5, HB⟩ := hcut
  cases kq with
  | zero => exact absurd HA.out (by simp [spec_GetField.j0])
  | succ kj5 =>
   have H := HA.out
   clear HA
   simp only [spec_GetField.j0] at H
   by_cases c8 : x23_5 = true
   ·subst c8
    replace H := ip_ H
    simp only [Option.some.injEq, Prod.mk.injEq] at H
    obtain ⟨rfl, rfl, rfl⟩ := H
    go_wp2
    go_ret3
    exact ⟨sq_, bl_⟩
   ·replace c8 := Bool.eq_false_iff.mpr c8
    subst c8
    replace H := in_ H
    obtain ⟨t146, A9, H⟩ := ob_ H
    have HC10 := Aside0.mk H
    clear H
    go_upto_if 26 with (first | ((with_reducible refine gate_callee (f := 129) rfl ?_); refine goesL_ (some 25) rfl rfl Tryd.func129 (by kernel_rfl) rfl #[.int .i64 t144] rfl gl_ ?_; (with_reducible refine (spec_l03Width.calls kj5 t144 t146 _ A9.out).mono ?_); rintro e w' ⟨rfl, ⟨nd, rfl⟩⟩; refine ⟨_, rfl, ?_⟩))
    (try simp only [Act.put, List.setIfInBounds_toArray, List.set_cons_zero, List.set_cons_succ])
    go_cut [1, 10] (fun v1 v10 wc => ∃ (kq : Nat) (x1_9 : Int) (x10_9 : Int), v1 = .int .i64 x1_9 ∧ v10 = .int .i64 x10_9 ∧ Aside0 (spec_GetField.j1 kq l0 x1_9 t144 x10_9 = some (r1, r2, r3)) ∧ Aside0 (kq ≤ kj5) ∧ Aside0 (Below w.heap.size w wc))
    case first =>
     have H := HC10.out
     clear HC10
     by_cases c11 : t146 > 0
     ·rw [if_pos c11] at H
      have c11b0 : decide (0 < t146) = true := decide_eq_true c11
      clear c11
      (first | rw [c11b0] | (simp only [i64_w, i32_w]; rw [c11b0]) | skip)
      obtain ⟨t147, A12, H⟩ := ob_ H
      obtain ⟨⟨t148, t149, t150⟩, A13, H⟩ := ob_ H
      (try dsimp only at H)
      by_cases c14 : t150 = true
      ·subst c14
       replace H := ip_ H
       obtain ⟨t151, A15, H⟩ := ob_ H
       by_cases c16 : t151 = true
       ·subst c16
        replace H := ip_ H
        have H' := Aside0.mk H
        clear H
        go_wp2_with (first | ((with_reducible refine gate_callee (f := 129) rfl ?_); refine goesL_ (some 31) rfl rfl Tryd.func129 (by kernel_rfl) rfl #[.int .i64 t144] rfl gl_ ?_; (with_reducible refine (spec_l03Width.calls kj5 t144 t147 _ A12.out).mono ?_); rintro e w' ⟨rfl, ⟨nd, rfl⟩⟩; refine ⟨_, rfl, ?_⟩) | ((with_reducible refine gate_callee (f := 130) rfl ?_); refine goesL_ (some 32) rfl rfl Tryd.func130 (by kernel_rfl) rfl #[.slice A0 l0.length c0, .int .i64 a1, .int .i64 t147] rfl gl_ ?_; (with_reducible refine (spec_GetLen.calls kj5 _ _ l0 a1 t147 t148 t149 true _ ?side1 ?side2 A13.out).mono ?_); (case side1 => exact ca_ (Kd.C_below HR0.out bl_)); (case side2 => exact HC0.out); rintro e w17 ⟨rfl, hb⟩; refine ⟨_, rfl, ?_⟩; replace HB := Aside0.mk (below_step bl_ hb); (try clear hb); (try clear hb2); (try clear hk); (try clear hi)) | (go_at_call 69; (with_reducible refine (spec_l01In.calls t148 1 t145 true _ A15.out).mono ?_); rintro e w' ⟨rfl, ⟨nd, rfl⟩⟩))
        go_meet
        case rel => exact ⟨_, (t149), (t148), sp_, sp_, H', ⟨by have := HJ5.out; first | omega | exact Nat.le_refl _⟩, ⟨bl_⟩⟩
       ·replace c16 := Bool.eq_false_iff.mpr c16
        subst c16
        replace H := in_ H
        simp only [Option.some.injEq, Prod.mk.injEq] at H
        obtain ⟨rfl, rfl, rfl⟩ := H
        go_wp2_with (first | ((with_reducible refine gate_callee (f := 129) rfl ?_); refine goesL_ (some 31) rfl rfl Tryd.func129 (by kernel_rfl) rfl #[.int .i64 t144] rfl gl_ ?_; (with_reducible refine (spec_l03Width.calls kj5 t144 t147 _ A12.out).mono ?_); rintro e w' ⟨rfl, ⟨nd, rfl⟩⟩; refine ⟨_, rfl, ?_⟩) | ((with_reducible refine gate_callee (f := 130) rfl ?_); refine goesL_ (some 32) rfl rfl Tryd.func130 (by kernel_rfl) rfl #[.slice A0 l0.length c0, .int .i64 a1, .int .i64 t147] rfl gl_ ?_; (with_reducible refine (spec_GetLen.calls kj5 _ _ l0 a1 t147 t148 t149 true _ ?side1 ?side2 A13.out).mono ?_); (case side1 => exact ca_ (Kd.C_below HR0.out bl_)); (case side2 => exact HC0.out); rintro e w18 ⟨rfl, hb⟩; refine ⟨_, rfl, ?_⟩; replace HB := Aside0.mk (below_step bl_ hb); (try clear hb); (try clear hb2); (try clear hk); (try clear hi)) | (go_at_call 69; (with_reducible refine (spec_l01In.calls t148 1 t145 false _ A15.out).mono ?_); rintro e w' ⟨rfl, ⟨nd, rfl⟩⟩))
        go_ret3
        exact ⟨sq_, bl_⟩
      ·replace c14 := Bool.eq_false_iff.mpr c14
       subst c14
       replace H := in_ H
       simp only [Option.some.injEq, Prod.mk.injEq] at H
       obtain ⟨rfl, rfl, rfl⟩ := H
       go_wp2_with (first | ((with_reducible refine gate_callee (f := 129) rfl ?_); refine goesL_ (some 31) rfl rfl Tryd.func129 (by kernel_rfl) rfl #[.int .i64 t144] rfl gl_ ?_; (with_reducible refine (spec_l03Width.calls kj5 t144 t147 _ A12.out).mono ?_); rintro e w' ⟨rfl, ⟨nd, rfl⟩⟩; refine ⟨_, rfl, ?_⟩) | ((with_reducible refine gate_callee (f := 130) rfl ?_); refine goesL_ (some 32) rfl rfl Tryd.func130 (by kernel_rfl) rfl #[.slice A0 l0.length c0, .int .i64 a1, .int .i64 t147] rfl gl_ ?_; (with_reducible refine (spec_GetLen.calls kj5 _ _ l0 a1 t147 t148 t149 false _ ?side1 ?side2 A13.out).mono ?_); (case side1 => exact ca_ (Kd.C_below HR0.out bl_)); (case side2 => exact HC0.out); rintro e w19 ⟨rfl, hb⟩; refine ⟨_, rfl, ?_⟩; replace HB := Aside0.mk (below_step bl_ hb); (try clear hb); (try clear hb2); (try clear hk); (try clear hi)))
       go_ret3
       exact ⟨sq_, bl_⟩
     ·rw [if_neg c11] at H
      have c11b0 : decide (0 < t146) = false := decide_eq_false c11
      clear c11
      (first | rw [c11b0] | (simp only [i64_w, i32_w]; rw [c11b0]) | skip)
      have H' := Aside0.mk H
      clear H
      go_wp2
      go_meet
      case rel => exact ⟨_, (a1), (t145), sp_, sp_, H', ⟨by have := HJ5.out; first | omega | exact Nat.le_refl _⟩, ⟨bl_⟩⟩
    case rest =>
     clear HC10
     try clear c1
     try clear p2
     try clear c7
     try clear c7b0
     try clear c7b1
     try clear c8
     try clear c11
     try clear c11b0
     try clear c12
     try clear c13
     try clear c14
     try clear c16
     try clear p2
     obtain ⟨kq, x1_9, x10_9, rfl, rfl, HA, HJ9, HB⟩ := hcut
     cases kq with
     | zero => exact absurd HA.out (by simp [spec_GetField.j1])
     | succ kj9 =>
      have H := HA.out
      clear HA
      simp only [spec_GetField.j1] at H
      have HC20 := Aside0.mk H
      clear H
      go_upto_region 11 with (fail)
      go_cut [51] (fun v51 wc => ∃ (kq : Nat) (x51_19 : Bool), v51 = .bool x51_19 ∧ Aside0 (spec_GetField.j2 kq l0 x1_9 x10_9 x51_19 = some (r1, r2, r3)) ∧ Aside0 (kq ≤ kj9) ∧ Aside0 (Below w.heap.size w wc))
      case first =>
       have H := HC20.out
       clear HC20
       by_cases c21 : t144 = 1
       ·rw [if_pos c21] at H
        have c21b0 : (t144 == 1) = true := beq_iff_eq.mpr c21
        have c21b1 : (t144 != 1) = false := bne_eq_false_iff_eq.mpr c21
        clear c21
        (first | rw [c21b0] | (simp only [i64_w, i32_w]; rw [c21b0]) | skip)
        have H' := Aside0.mk H
        clear H
        go_wp2
        go_meet
        case rel => exact ⟨_, (true), sp_, H', ⟨by have := HJ5.out; have := HJ9.out; first | omega | exact Nat.le_refl _⟩, ⟨bl_⟩⟩
       ·rw [if_neg c21] at H
        have c21b0 : (t144 == 1) = false := beq_eq_false_iff_ne.mpr c21
        have c21b1 : (t144 != 1) = true := bne_iff_ne.mpr c21
        (first | rw [c21b0] | (simp only [i64_w, i32_w]; rw [c21b0]) | skip)
        have H' := Aside0.mk H
        clear H
        go_wp2
        go_meet
        case rel => exact ⟨_, ((t144 == 3)), sp_, H', ⟨by have := HJ5.out; have := HJ9.out; first | omega | exact Nat.le_refl _⟩, ⟨bl_⟩⟩
      case rest =>
       clear HC20
       try clear c1
       try clear c2
       try clear p2
       try clear c7
       try clear c7b0
       try clear c7b1
       try clear c8
       try clear c11
       try clear c11b0
       try clear c12
       try clear c13
       try clear c14
       try clear c16
       try clear c21
       try clear c21b0
       try clear c21b1
       try clear p2
       obtain ⟨kq, x51_19, rfl, HA, HJ19, HB⟩ := hcut
       cases kq with
       | zero => exact absurd HA.out (by simp [spec_GetField.j2])
       | succ kj19 =>
        have H := HA.out
        clear HA
        simp only [spec_GetField.j2] at H
        by_cases c22 : x51_19 = true
        ·subst c22
         replace H := ip_ H
         obtain ⟨⟨t152, t153, t154⟩, A23, H⟩ := ob_ H
         (try dsimp only at H)
         simp only [Option.some.injEq, Prod.mk.injEq] at H
         obtain ⟨rfl, rfl, rfl⟩ := H
         go_wp2_with (first | ((with_reducible refine gate_callee (f := 87) rfl ?_); refine goesL_ (some 55) rfl rfl Tryd.func87 (by kernel_rfl) rfl #[.slice A0 l0.length c0, .int .i64 x1_9, .int .i64 x10_9] rfl gl_ ?_; (with_reducible refine (spec_GetBcd.calls kj19 _ _ l0 x1_9 x10_9 t152 t153 t154 _ ?side1 ?side2 A23.out).mono ?_); (case side1 => exact ca_ (Kd.C_below HR0.out HB.out)); (case side2 => exact HC0.out); rintro e w24 ⟨rfl, hb⟩; refine ⟨_, rfl, ?_⟩; replace HB := Aside0.mk (below_step bl_ hb); (try clear hb); (try clear hb2); (try clear hk); (try clear hi)))
         go_ret3
         exact ⟨sq_, bl_⟩
        ·replace c22 := Bool.eq_false_iff.mpr c22
         subst c22
         replace H := in_ H
         by_cases c25 : x1_9 > (l0.length : Int)
         ·rw [if_pos c25] at H
          have c25b0 : decide ((l0.length : Int) < x1_9) = true := decide_eq_true c25
          clear c25
          simp only [Option.some.injEq, Prod.mk.injEq] at H
          obtain ⟨rfl, rfl, rfl⟩ := H
          go_wp2
          go_ret3
          exact ⟨sq_, bl_⟩
         ·rw [if_neg c25] at H
          have c25b0 : decide ((l0.length : Int) < x1_9) = false := decide_eq_false c25
          clear c25
          by_cases c26 : x10_9 > (wrap64 ((l0.length : Int) - x1_9))
          ·rw [if_pos c26] at H
           have c26b0 : decide ((wrap64 ((l0.length : Int) - x1_9)) < x10_9) = true := decide_eq_true c26
           clear c26
           simp only [Option.some.injEq, Prod.mk.injEq] at H
           obtain ⟨rfl, rfl, rfl⟩ := H
           go_wp2
           go_ret3
           exact ⟨sq_, bl_⟩
          ·rw [if_neg c26] at H
           have c26b0 : decide ((wrap64 ((l0.length : Int) - x1_9)) < x10_9) = false := decide_eq_false c26
           clear c26
           by_cases c27 : 0 ≤ x1_9
           ·rw [if_pos c27] at H
            have c27b0 := eq_true c27
            have c27b1 : decide (0 ≤ x1_9) = true := decide_eq_true c27
            clear c27
            by_cases c28 : x1_9 ≤ (wrap64 (x1_9 + x10_9))
            ·rw [if_pos c28] at H
             have c28b0 := eq_true c28
             have c28b1 : decide (x1_9 ≤ (wrap64 (x1_9 + x10_9))) = true := decide_eq_true c28
             by_cases c29 : (wrap64 (x1_9 + x10_9)) ≤ (l0.length : Int)
             ·rw [if_pos c29] at H
              have c29b0 := eq_true c29
              have c29b1 : decide ((wrap64 (x1_9 + x10_9)) ≤ (l0.length : Int)) = true := decide_eq_true c29
              obtain ⟨t156, A30, H⟩ := ob_ H
              by_cases c31 : t156 = true
              ·subst c31
               replace H := ip_ H
               have c32b0 := eq_true (od_ : 0 ≤ x1_9)
               have c33b0 := eq_true (od_ : x1_9 ≤ (wrap64 (x1_9 + x10_9)))
               have c34b0 := eq_true (od_ : (wrap64 (x1_9 + x10_9)) ≤ (l0.length : Int))
               simp only [Option.some.injEq, Prod.mk.injEq] at H
               obtain ⟨rfl, rfl, rfl⟩ := H
               obtain ⟨i035, hi035, _, hsz35, _⟩ := info_parts info5
               obtain ⟨A35, hcut35, hA35, hC35⟩ := print_mid_of (P := Tryd.prog) (Value.int .u8) 0 22 5 .i64 .i64 Tryd.underlying22 hi035 hsz35 A0 c0 l0 x1_9 (wrap64 (x1_9 + x10_9)) od_ (by first | omega | exact od_) od_ HC0.out
               have HR155 := Aside0.mk (Kd.C_of_reads (h1 := fun _ => rfl) (hA35 _ (Kd.reads_of_C HR0.out)))
               have HC155 := Aside0.mk hC35
               clear hA35 hC35 hi035 hsz35
               (try have hcu36 := fun (n_ : Nat) => Kd.C_string (P := Tryd.prog) (A := A35) (c := (c0 - x1_9.toNat)) Tryd.underlying22 Tryd.underlying5 Tryd.underlying9 (Kd.C_below HR155.out (pw_below_drewN HB.out n_))); (try (have hclu36 := hcu36; simp only [show ((l0.take ((wrap64 (x1_9 + x10_9)) : Int).toNat).drop (x1_9 : Int).toNat).length = ((wrap64 (x1_9 + x10_9)) : Int).toNat - (x1_9 : Int).toNat from by have q_ : (wrap64 (x1_9 + x10_9)) ≤ (l0.length : Int) := od_; rw [List.length_drop, List.length_take]; omega] at hclu36))
               have hcv37 := Kd.C_string (P := Tryd.prog) (A := A35) (c := (c0 - x1_9.toNat)) Tryd.underlying22 Tryd.underlying5 Tryd.underlying9 (Kd.C_below HR155.out HB.out); have hcl37 := hcv37; (try rw [show ((l0.take ((wrap64 (x1_9 + x10_9)) : Int).toNat).drop (x1_9 : Int).toNat).length = ((wrap64 (x1_9 + x10_9)) : Int).toNat - (x1_9 : Int).toNat from by have q_ : (wrap64 (x1_9 + x10_9)) ≤ (l0.length : Int) := od_; rw [List.length_drop, List.length_take]; omega] at hcl37)
               go_wp2_with (first | (go_at_call 114; (with_reducible refine (spec_Printable.calls kj19 (strOfNums ((l0.take ((wrap64 (x1_9 + x10_9)) : Int).toNat).drop (x1_9 : Int).toNat)) true _ A30.out).mono ?_); rintro e w' ⟨rfl, ⟨nd, rfl⟩⟩; obtain ⟨i038, hi038, _, hsz38, _⟩ := info_parts info5; obtain ⟨A38, hcut38, hA38, hC38⟩ := print_mid_of (P := Tryd.prog) (Value.int .u8) 0 22 5 .i64 .i64 Tryd.underlying22 hi038 hsz38 A0 c0 l0 x1_9 (wrap64 (x1_9 + x10_9)) od_ (by first | omega | exact od_) od_ HC0.out; have HR157 := Aside0.mk (Kd.C_of_reads (h1 := fun _ => rfl) (hA38 _ (Kd.reads_of_C HR0.out))); have HC157 := Aside0.mk hC38; clear hA38 hC38 hi038 hsz38; (try have hcu39 := fun (n_ : Nat) => Kd.C_string (P := Tryd.prog) (A := A38) (c := (c0 - x1_9.toNat)) Tryd.underlying22 Tryd.underlying5 Tryd.underlying9 (Kd.C_below HR157.out (pw_below_drewN HB.out n_))); (try (have hclu39 := hcu39; simp only [show ((l0.take ((wrap64 (x1_9 + x10_9)) : Int).toNat).drop (x1_9 : Int).toNat).length = ((wrap64 (x1_9 + x10_9)) : Int).toNat - (x1_9 : Int).toNat from by have q_ : (wrap64 (x1_9 + x10_9)) ≤ (l0.length : Int) := od_; rw [List.length_drop, List.length_take]; omega] at hclu39)); have hcv40 := Kd.C_string (P := Tryd.prog) (A := A38) (c := (c0 - x1_9.toNat)) Tryd.underlying22 Tryd.underlying5 Tryd.underlying9 (Kd.C_below HR157.out HB.out); have hcl40 := hcv40; (try rw [show ((l0.take ((wrap64 (x1_9 + x10_9)) : Int).toNat).drop (x1_9 : Int).toNat).length = ((wrap64 (x1_9 + x10_9)) : Int).toNat - (x1_9 : Int).toNat from by have q_ : (wrap64 (x1_9 + x10_9)) ≤ (l0.length : Int) := od_; rw [List.length_drop, List.length_take]; omega] at hcl40)))
               go_ret3
               exact ⟨sq_, bl_⟩
              ·replace c31 := Bool.eq_false_iff.mpr c31
               subst c31
               replace H := in_ H
               simp only [Option.some.injEq, Prod.mk.injEq] at H
               obtain ⟨rfl, rfl, rfl⟩ := H
               obtain ⟨i041, hi041, _, hsz41, _⟩ := info_parts info5
               obtain ⟨A41, hcut41, hA41, hC41⟩ := print_mid_of (P := Tryd.prog) (Value.int .u8) 0 22 5 .i64 .i64 Tryd.underlying22 hi041 hsz41 A0 c0 l0 x1_9 (wrap64 (x1_9 + x10_9)) od_ (by first | omega | exact od_) od_ HC0.out
               have HR155 := Aside0.mk (Kd.C_of_reads (h1 := fun _ => rfl) (hA41 _ (Kd.reads_of_C HR0.out)))
               have HC155 := Aside0.mk hC41
               clear hA41 hC41 hi041 hsz41
               (try have hcu42 := fun (n_ : Nat) => Kd.C_string (P := Tryd.prog) (A := A41) (c := (c0 - x1_9.toNat)) Tryd.underlying22 Tryd.underlying5 Tryd.underlying9 (Kd.C_below HR155.out (pw_below_drewN HB.out n_))); (try (have hclu42 := hcu42; simp only [show ((l0.take ((wrap64 (x1_9 + x10_9)) : Int).toNat).drop (x1_9 : Int).toNat).length = ((wrap64 (x1_9 + x10_9)) : Int).toNat - (x1_9 : Int).toNat from by have q_ : (wrap64 (x1_9 + x10_9)) ≤ (l0.length : Int) := od_; rw [List.length_drop, List.length_take]; omega] at hclu42))
               have hcv43 := Kd.C_string (P := Tryd.prog) (A := A41) (c := (c0 - x1_9.toNat)) Tryd.underlying22 Tryd.underlying5 Tryd.underlying9 (Kd.C_below HR155.out HB.out); have hcl43 := hcv43; (try rw [show ((l0.take ((wrap64 (x1_9 + x10_9)) : Int).toNat).drop (x1_9 : Int).toNat).length = ((wrap64 (x1_9 + x10_9)) : Int).toNat - (x1_9 : Int).toNat from by have q_ : (wrap64 (x1_9 + x10_9)) ≤ (l0.length : Int) := od_; rw [List.length_drop, List.length_take]; omega] at hcl43)
               go_wp2_with (first | (go_at_call 114; (with_reducible refine (spec_Printable.calls kj19 (strOfNums ((l0.take ((wrap64 (x1_9 + x10_9)) : Int).toNat).drop (x1_9 : Int).toNat)) false _ A30.out).mono ?_); rintro e w' ⟨rfl, ⟨nd, rfl⟩⟩))
               go_ret3
               exact ⟨sq_, bl_⟩
             ·rw [if_neg c29] at H
              exact absurd H (by simp)
            ·rw [if_neg c28] at H
             exact absurd H (by simp)
           ·rw [if_neg c27] at H
            exact absurd H (by simp)
/-! ### spec_Parse: function 44 -/
def spec_Parse.l0 : Nat → List Int → Int → List Int → Int → Int → ByteArray → List (S67) → Option (ByteArray × (List (S67)) × Int)
 | 0, _, _, _, _, _, _, _ => none
 | k + 1, x0, x8, x35, x36, x37, x168000, x168001 => if x37 < x36 then (if 0 ≤ x37 then (if x37 < (x35.length : Int) then ((spec_GetField.f k x0 x8 (rd x35 x37)).bind fun bt169 => (if bt169.2.2 = true then (if x168001.length < 5864062014805 then (spec_Parse.l0 k x0 bt169.2.1 x35 x36 (wrap64 (x37 + 1)) x168000 (x168001 ++ [(⟨rd x35 x37, bt169.1⟩ : S67)])) else (none)) else (some ((⟨#[]⟩ : ByteArray), ([] : List (S67)), 3)))) else (none)) else (none)) else (if x8 = (x0.length : Int) then (some (x168000, x168001, 0)) else (some ((⟨#[]⟩ : ByteArray), ([] : List (S67)), 4)))
def spec_Parse.f (k : Nat) (l0 : List Int) : Option (ByteArray × (List (S67)) × Int) := (spec_GetBcd.f k l0 0 4).bind fun bt159 => (if bt159.2.2 = true then ((spec_l04Nos.f k l0).bind fun bt162 => (if bt162.2.2 = true then (spec_Parse.l0 k l0 bt162.2.1 bt162.1 (bt162.1.length : Int) 0 bt159.1 ([] : List (S67))) else (some ((⟨#[]⟩ : ByteArray), ([] : List (S67)), 2)))) else (some ((⟨#[]⟩ : ByteArray), ([] : List (S67)), 1)))
set_option maxHeartbeats 8000000 in
set_option maxRecDepth 100000 in
theorem spec_Parse.calls (k : Nat) (A0 : Option Addr) (c0 : Nat) (l0 : List Int) (r1 : ByteArray) (r2 : List (S67)) (r3 : Int) (w : World) (hr0 : Kd.C (Kd.int .u8) w A0 l0.length l0) (hc0 : l0.length ≤ c0) (h : spec_Parse.f k l0 = some (r1, r2, r3)) :
  Calls Tryd.prog 44 #[.slice A0 l0.length c0] w fun e w' => ∃ v1_ : Value, e = .returned (.tuple #[.agg #[.string r1, v1_], .int .i64 r3]) ∧ Kd.R k67 67 w' w.heap.size (fun _ => True) v1_ r2 ∧ Below w.heap.size w w' := by
 have hu42 := Tryd.underlying42
 have hu67 := Tryd.underlying67
 have HR0 := Aside0.mk hr0
 have HC0 := Aside0.mk hc0
 clear hr0 hc0
 have HB := Aside0.mk (Below.refl w.heap.size w)
 have H : ((spec_GetBcd.f k l0 0 4).bind fun bt159 => (if bt159.2.2 = true then ((spec_l04Nos.f k l0).bind fun bt162 => (if bt162.2.2 = true then (spec_Parse.l0 k l0 bt162.2.1 bt162.1 (bt162.1.length : Int) 0 bt159.1 ([] : List (S67))) else (some ((⟨#[]⟩ : ByteArray), ([] : List (S67)), 2)))) else (some ((⟨#[]⟩ : ByteArray), ([] : List (S67)), 1)))) = some (r1, r2, r3) := h
 clear h
 obtain ⟨⟨t159, t160, t161⟩, A2, H⟩ := ob_ H
 (try dsimp only at H)
 by_cases c3 : t161 = true
 ·subst c3
  replace H := ip_ H
  obtain ⟨⟨t162, t163, t164⟩, A4, H⟩ := ob_ H
  (try dsimp only at H)
  by_cases c5 : t164 = true
  ·subst c5
   replace H := ip_ H
   have H' := Aside0.mk H
   clear H
   go_enter Tryd.func44, Tryd.ntmps44
   go_wp2_with (first | ((with_reducible refine gate_dst (N := 2) rfl ?_); refine be_ (N := 2) (cs := #[.string (⟨#[]⟩ : ByteArray), .slice none 0 0]) (t := 42) ?_; intro gb158 hg w6 hbox hb; have BK158 := Aside0.mk (hbox); have GW158 := gw_ (w := w) hg; have GE158 := gw_ (w := w) hg; replace HB := Aside0.mk (below_step bl_ hb); clear hb hbox hg) | ((with_reducible refine gate_callee (f := 87) rfl ?_); refine goesL_ (some 17) rfl rfl Tryd.func87 (by kernel_rfl) rfl #[.slice A0 l0.length c0, .int .i64 0, .int .i64 4] rfl gl_ ?_; (with_reducible refine (spec_GetBcd.calls k _ _ l0 0 4 t159 t160 true _ ?side1 ?side2 A2.out).mono ?_); (case side1 => exact ca_ (Kd.C_below HR0.out HB.out)); (case side2 => exact HC0.out); rintro e w7 ⟨rfl, hb⟩; refine ⟨_, rfl, ?_⟩; replace BK158 := Aside0.mk (blk_below (bk_ BK158) hb); replace HB := Aside0.mk (below_step bl_ hb); (try clear hb); (try clear hb2); (try clear hk); (try clear hi)) | ((with_reducible refine gate_callee (f := 88) rfl ?_); refine goesL_ (some 26) rfl rfl Tryd.func88 (by kernel_rfl) rfl #[.slice A0 l0.length c0] rfl gl_ ?_; (with_reducible refine (spec_l04Nos.calls k _ _ l0 t162 t163 true _ ?side1 ?side2 A4.out).mono ?_); (case side1 => exact ca_ (Kd.C_below HR0.out HB.out)); (case side2 => exact HC0.out); rintro e w8 ⟨v165, rfl, ho0, hb⟩; refine ⟨_, rfl, ?_⟩; have HO166 := Aside0.mk (Kd.R_lower ho0 (below_size bl_)); replace BK158 := Aside0.mk (blk_below (bk_ BK158) hb); replace HB := Aside0.mk (below_step bl_ hb); (try clear hb); (try clear hb2); (try clear hk); (try clear hi); (try clear ho0)) | ((with_reducible refine gate_dst (N := 9) rfl ?_); refine be_ (N := 9) (cs := #[.string (⟨#[]⟩ : ByteArray), .slice none 0 0]) (t := 42) ?_; intro gb167 hg w9 hbox hb; replace HO166 := Aside0.mk (Kd.R_below (ra_ HO166) hb); have BK167 := Aside0.mk (hbox); have GW167 := gw_ (w := w) hg; have GE167 := gw_ (w := w) hg; replace HB := Aside0.mk (below_step bl_ hb); have NB158_167 := Aside0.mk ((by rw [hg]; exact Nat.ne_of_lt (blk_lt (bk_ BK158)) : gb158 ≠ gb167)); have NB167_158 := Aside0.mk ((by rw [hg]; exact Nat.ne_of_gt (blk_lt (bk_ BK158)) : gb167 ≠ gb158)); replace BK158 := Aside0.mk (blk_below (bk_ BK158) hb); clear hb hbox hg; have hnb10 := NB167_158.out; have hnc10 := NB158_167.out; obtain ⟨hcz11_0, hcz11_1, hfz11_0, hfz11_1⟩ := bx2_ BK167; obtain ⟨Ao12, co12, eo12⟩ := Kd.R_slice HO166.out; subst eo12))
   go_loopg [8, 37] k (fun kq v8 v37 w' => ∃ (x8_1 : Int) (x37_1 : Int) (x159000_1 : ByteArray) (x168001_1 : List (S67)) (u168001 : Value), v8 = .int .i64 x8_1 ∧ v37 = .int .i64 x37_1 ∧ Aside0 (spec_Parse.l0 kq l0 x8_1 t162 (t162.length : Int) x37_1 t159 x168001_1 = some (r1, r2, r3)) ∧ Aside0 (kq ≤ k) ∧ Aside0 (Kd.R (Kd.int .i64) 3 w' w.heap.size (fun _ => True) (.slice Ao12 t162.length co12) t162) ∧ Aside0 (Kd.R k67 67 w' w.heap.size (fun _ => True) u168001 x168001_1) ∧ Aside0 (w'.heap[gb158]? = some (.cells #[.string x159000_1, (.slice none 0 0)] 42 (0, 0))) ∧ Aside0 (w'.heap[gb167]? = some (.cells #[.string t159, u168001] 42 (0, 0))) ∧ Aside0 (Below w.heap.size w w'))
   case atStart => exact ⟨(t163), (0), ((⟨#[]⟩ : ByteArray)), (([] : List (S67))), (.slice none 0 0), sp_, sp_, H', ⟨Nat.le_refl _⟩, ⟨by (with_reducible repeat (first | apply Kd.R_alloc | apply Kd.R_drewN | apply Kd.R_drew)); exact Kd.R_mono (Kd.R_far (p := ⟨gb167, 1, none⟩) (Kd.R_far (p := ⟨gb167, 0, none⟩) (Kd.R_types HO166.out BK167.out (by decide)) (fun _ hk => hk.2) (.string t159)) (fun _ hk => hk.2) (.slice none 0 0)) (fun _ hk => trivial)⟩, ⟨by first | exact Kd.R_nil _ _ _ _ _ | exact Kd.N_nil _ _ _ _ _ | exact Kd.V_nil _ _ _ _ _ | exact Kd.Q_nil _ _ _ _ _ | exact Kd.S_nil _ _ _ _ _⟩, ⟨by (with_reducible repeat (first | refine blk_drewN ?_ _ | refine blk_drew ?_ | refine blk_alloc ?_ _)); refine blk_far ?_ NB158_167.out _; (with_reducible repeat (first | refine blk_drewN ?_ _ | refine blk_drew ?_ | refine blk_alloc ?_ _)); refine blk_far ?_ NB158_167.out _; (with_reducible repeat (first | refine blk_drewN ?_ _ | refine blk_drew ?_ | refine blk_alloc ?_ _)); exact BK158.out⟩, ⟨by (with_reducible repeat (first | refine blk_drewN ?_ _ | refine blk_drew ?_ | refine blk_alloc ?_ _)); apply bq2_1_0_; (with_reducible repeat (first | refine blk_drewN ?_ _ | refine blk_drew ?_ | refine blk_alloc ?_ _)); exact BK167.out⟩, ⟨bl_⟩⟩
   case round =>
    clear H'
    try clear c1
    try clear p2
    try clear c3
    try clear c4
    try clear c5
    try clear c8
    try clear c10
    try clear hcz11_0
    try clear hcz11_1
    try clear hfz11_0
    try clear hfz11_1
    obtain ⟨x8_1, x37_1, x159000_1, x168001_1, u168001, rfl, rfl, HA, HK1, HO_35, HO_168001, BK158, BK167, HB⟩ := hrel
    cases gk with
    | zero => exact absurd HA.out (by simp [spec_Parse.l0])
    | succ k1 =>
     have H := HA.out
     clear HA
     simp only [spec_Parse.l0] at H
     by_cases c13 : x37_1 < (t162.length : Int)
     ·rw [if_pos c13] at H
      have c13b0 : decide (x37_1 < (t162.length : Int)) = true := decide_eq_true c13
      clear c13
      by_cases c14 : 0 ≤ x37_1
      ·rw [if_pos c14] at H
       have c14b0 : decide (0 ≤ x37_1) = true := decide_eq_true c14
       clear c14
       by_cases c15 : x37_1 < (t162.length : Int)
       ·rw [if_pos c15] at H
        have c15b0 : decide (x37_1 < (t162.length : Int)) = true := decide_eq_true c15
        clear c15
        obtain ⟨⟨t169, t170, t171⟩, A16, H⟩ := ob_ H
        (try dsimp only at H)
        by_cases c17 : t171 = true
        ·subst c17
         replace H := ip_ H
         by_cases c18 : x168001_1.length < 5864062014805
         ·rw [if_pos c18] at H
          have LMc18 := Aside0.mk c18
          clear c18
          obtain ⟨y172, hy172⟩ : ∃ y_ : List (S67), y_ = (x168001_1 ++ [(⟨rd t162 x37_1, t169⟩ : S67)]) := ⟨_, rfl⟩
          replace H : (spec_Parse.l0 k1 l0 t170 t162 (t162.length : Int) (wrap64 (x37_1 + 1)) t159 y172) = some (r1, r2, r3) := by first | (rw [hy172]; with_reducible exact H) | (have H2_ := (Option.bind_some _ _).symm.trans H; rw [hy172]; with_reducible exact H2_) | (have H2_ := (Option.bind_some _ _).symm.trans H; with_reducible exact H2_) | with_reducible exact H | (rw [hy172]; exact H) | exact H
          have Ny172 := Aside0.mk hy172
          clear hy172
          have H' := Aside0.mk H
          clear H
          have p168 : 0 ≤ (x37_1 : Int) := od_
          have q168 : x37_1 < (t162.length : Int) := od_
          obtain ⟨ad168, e168, hx168_0⟩ := Kd.at_int (Kd.R_reads' HO_35.out).2.2 x37_1 p168 q168
          cases e168
          replace p168 := eq_true p168
          replace q168 := eq_true q168
          go_wp2_with (first | ((with_reducible refine gate_callee (f := 89) rfl ?_); refine goesL_ (some 45) rfl rfl Tryd.func89 (by kernel_rfl) rfl #[.slice A0 l0.length c0, .int .i64 x8_1, .int .i64 (rd t162 x37_1)] rfl gl_ ?_; (with_reducible refine (spec_GetField.calls k1 _ _ l0 x8_1 (rd t162 x37_1) t169 t170 true _ ?side1 ?side2 A16.out).mono ?_); (case side1 => exact ca_ (Kd.C_below HR0.out HB.out)); (case side2 => exact HC0.out); rintro e w19 ⟨rfl, hb⟩; refine ⟨_, rfl, ?_⟩; replace HO_35 := Aside0.mk (Kd.R_below (ra_ HO_35) hb); replace HO_168001 := Aside0.mk (Kd.R_below (ra_ HO_168001) hb); replace BK158 := Aside0.mk (blk_below (bk_ BK158) hb); replace BK167 := Aside0.mk (blk_below (bk_ BK167) hb); replace HB := Aside0.mk (below_step bl_ hb); (try clear hb); (try clear hb2); (try clear hk); (try clear hi); have hnb20 := NB167_158.out; have hnc20 := NB158_167.out; obtain ⟨hcz21_0, hcz21_1, hfz21_0, hfz21_1⟩ := bx2_ BK167) | ((with_reducible refine gate_builtin (b := .append) (xs := #[.tmp 53, .tmp 57]) rfl ?_); at_builtin; refine Kd.R_append k67 (w0 := w) w.heap.size rfl (.tmp 53) (.tmp 57) 40 67 (.agg #[(.int .i64 0), (.string ⟨#[]⟩)]) 24 rfl Tryd.underlying40 info67 rfl (by decide) (by omega) u168001 x168001_1 (⟨rd t162 x37_1, t169⟩ : S67) [.int .i64 (rd t162 x37_1), .string t169] (fun _ => True) (fun _ => False) rfl rfl ?aP (fun _ hk => hk.elim) ?aF ?aO ?aB ?aS ?aL ?_; (case aP => exact k67_mkM _ _ _ (⟨rd t162 x37_1, t169⟩ : S67)); (case aB => exact bl_); (case aF => exact (fun _ _ => trivial)); (case aO => exact (ra_ HO_168001)); (case aS => exact (below_size bl_)); (case aL => have := LMc18.out; omega); intro v173 w22 ho hb hg hat; rw [← Ny172.out] at ho; have n0_ := Aside0.mk (Kd.R_over' (ra_ HO_35) (Kd.R_typed (ra_ HO_168001)) (by decide) hg); have n1_ := Aside0.mk (blk_grown (bk_ BK158) hg (Kd.R_ne HO_168001.out BK158.out (by decide))); have n2_ := Aside0.mk (blk_grown (bk_ BK167) hg (Kd.R_ne HO_168001.out BK167.out (by decide))); have n3_ := Aside0.mk (hb); have n4_ := Aside0.mk (ho); clear HO_35; clear BK158; clear BK167; clear HB; clear HO_168001; have HO_35 := n0_; have BK158 := n1_; have BK167 := n2_; have HB := n3_; have HO174 := n4_; clear n0_ n1_ n2_ n3_ n4_; clear ho hb hg hat; obtain ⟨Ao23, co23, eo23⟩ := Kd.R_slice HO174.out; subst eo23; obtain ⟨hcz24_0, hcz24_1, hfz24_0, hfz24_1⟩ := bx2_ BK167))
          go_roundg k1
          case measure => have := HK1.out; omega
          case rel => exact ⟨(t170), (wrap64 (x37_1 + 1)), (x159000_1), (y172), (.slice Ao23 y172.length co23), sp_, sp_, H', ⟨by have := HK1.out; omega⟩, ⟨by (with_reducible repeat (first | apply Kd.R_alloc | apply Kd.R_drewN | apply Kd.R_drew)); exact Kd.R_mono (Kd.R_far (p := ⟨gb167, 1, none⟩) (Kd.R_types HO_35.out BK167.out (by decide)) (fun _ hk => hk.2) (.slice Ao23 y172.length co23)) (fun _ hk => trivial)⟩, ⟨by (with_reducible repeat (first | apply Kd.R_alloc | apply Kd.R_drewN | apply Kd.R_drew)); exact Kd.R_mono (Kd.R_far (p := ⟨gb167, 1, none⟩) (Kd.R_types HO174.out BK167.out (by decide)) (fun _ hk => hk.2) (.slice Ao23 y172.length co23)) (fun _ hk => trivial)⟩, ⟨by (with_reducible repeat (first | refine blk_drewN ?_ _ | refine blk_drew ?_ | refine blk_alloc ?_ _)); refine blk_far ?_ NB158_167.out _; (with_reducible repeat (first | refine blk_drewN ?_ _ | refine blk_drew ?_ | refine blk_alloc ?_ _)); exact BK158.out⟩, ⟨by (with_reducible repeat (first | refine blk_drewN ?_ _ | refine blk_drew ?_ | refine blk_alloc ?_ _)); apply bq2_1_; (with_reducible repeat (first | refine blk_drewN ?_ _ | refine blk_drew ?_ | refine blk_alloc ?_ _)); exact BK167.out⟩, ⟨bl_⟩⟩
         ·rw [if_neg c18] at H
          exact absurd H (by simp)
        ·replace c17 := Bool.eq_false_iff.mpr c17
         subst c17
         replace H := in_ H
         simp only [Option.some.injEq, Prod.mk.injEq] at H
         obtain ⟨rfl, rfl, rfl⟩ := H
         have p168 : 0 ≤ (x37_1 : Int) := od_
         have q168 : x37_1 < (t162.length : Int) := od_
         obtain ⟨ad168, e168, hx168_0⟩ := Kd.at_int (Kd.R_reads' HO_35.out).2.2 x37_1 p168 q168
         cases e168
         replace p168 := eq_true p168
         replace q168 := eq_true q168
         go_wp2_with (first | ((with_reducible refine gate_callee (f := 89) rfl ?_); refine goesL_ (some 45) rfl rfl Tryd.func89 (by kernel_rfl) rfl #[.slice A0 l0.length c0, .int .i64 x8_1, .int .i64 (rd t162 x37_1)] rfl gl_ ?_; (with_reducible refine (spec_GetField.calls k1 _ _ l0 x8_1 (rd t162 x37_1) t169 t170 false _ ?side1 ?side2 A16.out).mono ?_); (case side1 => exact ca_ (Kd.C_below HR0.out HB.out)); (case side2 => exact HC0.out); rintro e w25 ⟨rfl, hb⟩; refine ⟨_, rfl, ?_⟩; replace HO_35 := Aside0.mk (Kd.R_below (ra_ HO_35) hb); replace HO_168001 := Aside0.mk (Kd.R_below (ra_ HO_168001) hb); replace BK158 := Aside0.mk (blk_below (bk_ BK158) hb); replace BK167 := Aside0.mk (blk_below (bk_ BK167) hb); replace HB := Aside0.mk (below_step bl_ hb); (try clear hb); (try clear hb2); (try clear hk); (try clear hi); have hnb26 := NB158_167.out; have hnc26 := NB167_158.out; obtain ⟨hcz27_0, hcz27_1, hfz27_0, hfz27_1⟩ := bx2_ BK158))
         refine bodyPost_ret (results_ct rfl _ _ gb158 42 #[.string (⟨#[]⟩ : ByteArray), .slice none 0 0] (0, 0) _ rfl (by (with_reducible repeat (first | refine blk_drewN ?_ _ | refine blk_drew ?_ | refine blk_alloc ?_ _)); apply bq2_1_0_; (with_reducible repeat (first | refine blk_drewN ?_ _ | refine blk_drew ?_ | refine blk_alloc ?_ _)); exact BK158.out) Tryd.underlying42 rfl (by kernel_rfl)) rfl ?_
         exact ⟨_, by first | rfl | (simp [errW_none, errW_some] <;> rfl) | (simp [*, errW_none, errW_some] <;> rfl), by first | exact Kd.R_nil _ _ _ _ _ | exact Kd.N_nil _ _ _ _ _ | exact Kd.V_nil _ _ _ _ _ | exact Kd.Q_nil _ _ _ _ _ | exact Kd.S_nil _ _ _ _ _, bl_⟩
       ·rw [if_neg c15] at H
        exact absurd H (by simp)
      ·rw [if_neg c14] at H
       exact absurd H (by simp)
     ·rw [if_neg c13] at H
      have c13b0 : decide (x37_1 < (t162.length : Int)) = false := decide_eq_false c13
      clear c13
      by_cases c28 : x8_1 = (l0.length : Int)
      ·rw [if_pos c28] at H
       have c28b0 : (x8_1 == (l0.length : Int)) = true := beq_iff_eq.mpr c28
       have c28b1 : (x8_1 != (l0.length : Int)) = false := bne_eq_false_iff_eq.mpr c28
       clear c28
       simp only [Option.some.injEq, Prod.mk.injEq] at H
       obtain ⟨rfl, rfl, rfl⟩ := H
       have hnb29 := NB167_158.out
       have hnc29 := NB158_167.out
       have hcz30_0 := cz_ BK167 0 (.string t159)
       have hcz30_1 := cz_ BK167 1 (u168001)
       have hfz30_0 := fz_ BK167 0
       have hfz30_1 := fz_ BK167 1
       have hcz31_0 := cz_ BK158 0 (.string x159000_1)
       have hcz31_1 := cz_ BK158 1 (.slice none 0 0)
       have hfz31_0 := fz_ BK158 0
       have hfz31_1 := fz_ BK158 1
       obtain ⟨Ao32, co32, eo32⟩ := Kd.R_slice HO_168001.out
       subst eo32
       go_wp2
       refine bodyPost_ret (results_ct rfl _ _ gb158 42 #[.string t159, .slice Ao32 x168001_1.length co32] (0, 0) _ rfl (by (with_reducible repeat (first | refine blk_drewN ?_ _ | refine blk_drew ?_ | refine blk_alloc ?_ _)); apply bq2_1_0_; (with_reducible repeat (first | refine blk_drewN ?_ _ | refine blk_drew ?_ | refine blk_alloc ?_ _)); exact BK158.out) Tryd.underlying42 rfl (by kernel_rfl)) rfl ?_
       exact ⟨_, by first | rfl | (simp [errW_none, errW_some] <;> rfl) | (simp [*, errW_none, errW_some] <;> rfl), by (with_reducible repeat (first | apply Kd.R_alloc | apply Kd.R_drewN | apply Kd.R_drew)); exact Kd.R_mono (Kd.R_far (p := ⟨gb158, 1, none⟩) (Kd.R_far (p := ⟨gb158, 0, none⟩) (Kd.R_types HO_168001.out BK158.out (by decide)) (fun _ hk => hk.2) (.string t159)) (fun _ hk => hk.2) (.slice Ao32 x168001_1.length co32)) (fun _ hk => trivial), bl_⟩
      ·rw [if_neg c28] at H
       have c28b0 : (x8_1 == (l0.length : Int)) = false := beq_eq_false_iff_ne.mpr c28
       have c28b1 : (x8_1 != (l0.length : Int)) = true := bne_iff_ne.mpr c28
       simp only [Option.some.injEq, Prod.mk.injEq] at H
       obtain ⟨rfl, rfl, rfl⟩ := H
       have hnb33 := NB158_167.out
       have hnc33 := NB167_158.out
       have hcz34_0 := cz_ BK158 0 (.string x159000_1)
       have hcz34_1 := cz_ BK158 1 (.slice none 0 0)
       have hfz34_0 := fz_ BK158 0
       have hfz34_1 := fz_ BK158 1
       go_wp2
       refine bodyPost_ret (results_ct rfl _ _ gb158 42 #[.string (⟨#[]⟩ : ByteArray), .slice none 0 0] (0, 0) _ rfl (by (with_reducible repeat (first | refine blk_drewN ?_ _ | refine blk_drew ?_ | refine blk_alloc ?_ _)); apply bq2_1_0_; (with_reducible repeat (first | refine blk_drewN ?_ _ | refine blk_drew ?_ | refine blk_alloc ?_ _)); exact BK158.out) Tryd.underlying42 rfl (by kernel_rfl)) rfl ?_
       exact ⟨_, by first | rfl | (simp [errW_none, errW_some] <;> rfl) | (simp [*, errW_none, errW_some] <;> rfl), by first | exact Kd.R_nil _ _ _ _ _ | exact Kd.N_nil _ _ _ _ _ | exact Kd.V_nil _ _ _ _ _ | exact Kd.Q_nil _ _ _ _ _ | exact Kd.S_nil _ _ _ _ _, bl_⟩
  ·replace c5 := Bool.eq_false_iff.mpr c5
   subst c5
   replace H := in_ H
   simp only [Option.some.injEq, Prod.mk.injEq] at H
   obtain ⟨rfl, rfl, rfl⟩ := H
   go_enter Tryd.func44, Tryd.ntmps44
   go_wp2_with (first | ((with_reducible refine gate_dst (N := 2) rfl ?_); refine be_ (N := 2) (cs := #[.string (⟨#[]⟩ : ByteArray), .slice none 0 0]) (t := 42) ?_; intro gb158 hg w35 hbox hb; have BK158 := Aside0.mk (hbox); have GW158 := gw_ (w := w) hg; have GE158 := gw_ (w := w) hg; replace HB := Aside0.mk (below_step bl_ hb); clear hb hbox hg) | ((with_reducible refine gate_callee (f := 87) rfl ?_); refine goesL_ (some 17) rfl rfl Tryd.func87 (by kernel_rfl) rfl #[.slice A0 l0.length c0, .int .i64 0, .int .i64 4] rfl gl_ ?_; (with_reducible refine (spec_GetBcd.calls k _ _ l0 0 4 t159 t160 true _ ?side1 ?side2 A2.out).mono ?_); (case side1 => exact ca_ (Kd.C_below HR0.out HB.out)); (case side2 => exact HC0.out); rintro e w36 ⟨rfl, hb⟩; refine ⟨_, rfl, ?_⟩; replace BK158 := Aside0.mk (blk_below (bk_ BK158) hb); replace HB := Aside0.mk (below_step bl_ hb); (try clear hb); (try clear hb2); (try clear hk); (try clear hi)) | ((with_reducible refine gate_callee (f := 88) rfl ?_); refine goesL_ (some 26) rfl rfl Tryd.func88 (by kernel_rfl) rfl #[.slice A0 l0.length c0] rfl gl_ ?_; (with_reducible refine (spec_l04Nos.calls k _ _ l0 t162 t163 false _ ?side1 ?side2 A4.out).mono ?_); (case side1 => exact ca_ (Kd.C_below HR0.out HB.out)); (case side2 => exact HC0.out); rintro e w37 ⟨v165, rfl, ho0, hb⟩; refine ⟨_, rfl, ?_⟩; have HO166 := Aside0.mk (Kd.R_lower ho0 (below_size bl_)); replace BK158 := Aside0.mk (blk_below (bk_ BK158) hb); replace HB := Aside0.mk (below_step bl_ hb); (try clear hb); (try clear hb2); (try clear hk); (try clear hi); (try clear ho0); obtain ⟨hcz38_0, hcz38_1, hfz38_0, hfz38_1⟩ := bx2_ BK158))
   refine bodyPost_ret (results_ct rfl _ _ gb158 42 #[.string (⟨#[]⟩ : ByteArray), .slice none 0 0] (0, 0) _ rfl (by (with_reducible repeat (first | refine blk_drewN ?_ _ | refine blk_drew ?_ | refine blk_alloc ?_ _)); apply bq2_1_0_; (with_reducible repeat (first | refine blk_drewN ?_ _ | refine blk_drew ?_ | refine blk_alloc ?_ _)); exact BK158.out) Tryd.underlying42 rfl (by kernel_rfl)) rfl ?_
   exact ⟨_, by first | rfl | (simp [errW_none, errW_some] <;> rfl) | (simp [*, errW_none, errW_some] <;> rfl), by first | exact Kd.R_nil _ _ _ _ _ | exact Kd.N_nil _ _ _ _ _ | exact Kd.V_nil _ _ _ _ _ | exact Kd.Q_nil _ _ _ _ _ | exact Kd.S_nil _ _ _ _ _, bl_⟩
 ·replace c3 := Bool.eq_false_iff.mpr c3
  subst c3
  replace H := in_ H
  simp only [Option.some.injEq, Prod.mk.injEq] at H
  obtain ⟨rfl, rfl, rfl⟩ := H
  go_enter Tryd.func44, Tryd.ntmps44
  go_wp2_with (first | ((with_reducible refine gate_dst (N := 2) rfl ?_); refine be_ (N := 2) (cs := #[.string (⟨#[]⟩ : ByteArray), .slice none 0 0]) (t := 42) ?_; intro gb158 hg w39 hbox hb; have BK158 := Aside0.mk (hbox); have GW158 := gw_ (w := w) hg; have GE158 := gw_ (w := w) hg; replace HB := Aside0.mk (below_step bl_ hb); clear hb hbox hg) | ((with_reducible refine gate_callee (f := 87) rfl ?_); refine goesL_ (some 17) rfl rfl Tryd.func87 (by kernel_rfl) rfl #[.slice A0 l0.length c0, .int .i64 0, .int .i64 4] rfl gl_ ?_; (with_reducible refine (spec_GetBcd.calls k _ _ l0 0 4 t159 t160 false _ ?side1 ?side2 A2.out).mono ?_); (case side1 => exact ca_ (Kd.C_below HR0.out HB.out)); (case side2 => exact HC0.out); rintro e w40 ⟨rfl, hb⟩; refine ⟨_, rfl, ?_⟩; replace BK158 := Aside0.mk (blk_below (bk_ BK158) hb); replace HB := Aside0.mk (below_step bl_ hb); (try clear hb); (try clear hb2); (try clear hk); (try clear hi); obtain ⟨hcz41_0, hcz41_1, hfz41_0, hfz41_1⟩ := bx2_ BK158))
  refine bodyPost_ret (results_ct rfl _ _ gb158 42 #[.string (⟨#[]⟩ : ByteArray), .slice none 0 0] (0, 0) _ rfl (by (with_reducible repeat (first | refine blk_drewN ?_ _ | refine blk_drew ?_ | refine blk_alloc ?_ _)); apply bq2_1_0_; (with_reducible repeat (first | refine blk_drewN ?_ _ | refine blk_drew ?_ | refine blk_alloc ?_ _)); exact BK158.out) Tryd.underlying42 rfl (by kernel_rfl)) rfl ?_
  exact ⟨_, by first | rfl | (simp [errW_none, errW_some] <;> rfl) | (simp [*, errW_none, errW_some] <;> rfl), by first | exact Kd.R_nil _ _ _ _ _ | exact Kd.N_nil _ _ _ _ _ | exact Kd.V_nil _ _ _ _ _ | exact Kd.Q_nil _ _ _ _ _ | exact Kd.S_nil _ _ _ _ _, bl_⟩
end Go.Proofs.YtbjpfknmkpnhjaaDoor.QFnExactReplyCode
