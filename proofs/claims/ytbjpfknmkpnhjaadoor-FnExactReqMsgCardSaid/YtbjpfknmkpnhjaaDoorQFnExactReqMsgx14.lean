-- by my own printer (myprint.py, over the kit's print.py)
import Derived.Test.YtbjpfknmkpnhjaaDoorQFnExactReqMsgx0
import Derived.Test.YtbjpfknmkpnhjaaDoorQFnExactReqMsgx10
import Derived.Test.YtbjpfknmkpnhjaaDoorQFnExactReqMsgx12
import Derived.Test.YtbjpfknmkpnhjaaDoorQFnExactReqMsgx13
namespace Go.Proofs.YtbjpfknmkpnhjaaDoor.QFnExactReqMsg
open Go.RowKit Go.Proofs.YtbjpfknmkpnhjaaDoorW.PrintWords Go.Proofs.YtbjpfknmkpnhjaaDoorW.PrintLast Go.Proofs.YtbjpfknmkpnhjaaDoorW.PrintMore
attribute [local go_sem] max2_int min2_int max_two min_two max_three min_three max_four min_four   -- for this text's walks alone
set_option linter.unusedVariables false
set_option linter.unusedSimpArgs false
attribute [local go_sem] my_geq my_leq my_gtr
abbrev tb29_0_14 : Array Bool := #[b0, b0, b0, b0, b0, b0, b0, b0, b0, b0, b0, b0, b0, b0, b0, b0, b0, b0, b0, b0, b0, b0, b0, b0, b0, b0, b0, b0, b0]
abbrev tb29_1_14 : Array Bool := #[b1, b0, b0, b0, b0, b0, b0, b0, b0, b0, b0, b0, b0, b0, b0, b0, b0, b0, b0, b0, b0, b0, b0, b0, b0, b0, b0, b0, b0]
abbrev tb29_10889109_14 : Array Bool := #[b1, b0, b0, b1, b0, b0, b0, b0, b1, b0, b0, b0, b1, b0, b0, b1, b0, b0, b0, b1, b0, b0, b0, b1, b0, b0, b0, b0, b1]
abbrev tb29_1088910b_14 : Array Bool := #[b1, b1, b0, b1, b0, b0, b0, b0, b1, b0, b0, b0, b1, b0, b0, b1, b0, b0, b0, b1, b0, b0, b0, b1, b0, b0, b0, b0, b1]
abbrev tb29_1088910f_14 : Array Bool := #[b1, b1, b1, b1, b0, b0, b0, b0, b1, b0, b0, b0, b1, b0, b0, b1, b0, b0, b0, b1, b0, b0, b0, b1, b0, b0, b0, b0, b1]
abbrev tb29_1088911f_14 : Array Bool := #[b1, b1, b1, b1, b1, b0, b0, b0, b1, b0, b0, b0, b1, b0, b0, b1, b0, b0, b0, b1, b0, b0, b0, b1, b0, b0, b0, b0, b1]
abbrev tb29_1088931f_14 : Array Bool := #[b1, b1, b1, b1, b1, b0, b0, b0, b1, b1, b0, b0, b1, b0, b0, b1, b0, b0, b0, b1, b0, b0, b0, b1, b0, b0, b0, b0, b1]
abbrev tb29_1088b31f_14 : Array Bool := #[b1, b1, b1, b1, b1, b0, b0, b0, b1, b1, b0, b0, b1, b1, b0, b1, b0, b0, b0, b1, b0, b0, b0, b1, b0, b0, b0, b0, b1]
abbrev tb29_1088f31f_14 : Array Bool := #[b1, b1, b1, b1, b1, b0, b0, b0, b1, b1, b0, b0, b1, b1, b1, b1, b0, b0, b0, b1, b0, b0, b0, b1, b0, b0, b0, b0, b1]
abbrev tb29_1089f31f_14 : Array Bool := #[b1, b1, b1, b1, b1, b0, b0, b0, b1, b1, b0, b0, b1, b1, b1, b1, b1, b0, b0, b1, b0, b0, b0, b1, b0, b0, b0, b0, b1]
abbrev tb29_109_14 : Array Bool := #[b1, b0, b0, b1, b0, b0, b0, b0, b1, b0, b0, b0, b0, b0, b0, b0, b0, b0, b0, b0, b0, b0, b0, b0, b0, b0, b0, b0, b0]
abbrev tb29_1099f31f_14 : Array Bool := #[b1, b1, b1, b1, b1, b0, b0, b0, b1, b1, b0, b0, b1, b1, b1, b1, b1, b0, b0, b1, b1, b0, b0, b1, b0, b0, b0, b0, b1]
abbrev tb29_1109_14 : Array Bool := #[b1, b0, b0, b1, b0, b0, b0, b0, b1, b0, b0, b0, b1, b0, b0, b0, b0, b0, b0, b0, b0, b0, b0, b0, b0, b0, b0, b0, b0]
abbrev tb29_1199f31f_14 : Array Bool := #[b1, b1, b1, b1, b1, b0, b0, b0, b1, b1, b0, b0, b1, b1, b1, b1, b1, b0, b0, b1, b1, b0, b0, b1, b1, b0, b0, b0, b1]
abbrev tb29_1399f31f_14 : Array Bool := #[b1, b1, b1, b1, b1, b0, b0, b0, b1, b1, b0, b0, b1, b1, b1, b1, b1, b0, b0, b1, b1, b0, b0, b1, b1, b1, b0, b0, b1]
abbrev tb29_1399f33f_14 : Array Bool := #[b1, b1, b1, b1, b1, b1, b0, b0, b1, b1, b0, b0, b1, b1, b1, b1, b1, b0, b0, b1, b1, b0, b0, b1, b1, b1, b0, b0, b1]
abbrev tb29_1399f37f_14 : Array Bool := #[b1, b1, b1, b1, b1, b1, b1, b0, b1, b1, b0, b0, b1, b1, b1, b1, b1, b0, b0, b1, b1, b0, b0, b1, b1, b1, b0, b0, b1]
abbrev tb29_1399f3ff_14 : Array Bool := #[b1, b1, b1, b1, b1, b1, b1, b1, b1, b1, b0, b0, b1, b1, b1, b1, b1, b0, b0, b1, b1, b0, b0, b1, b1, b1, b0, b0, b1]
abbrev tb29_1399f7ff_14 : Array Bool := #[b1, b1, b1, b1, b1, b1, b1, b1, b1, b1, b1, b0, b1, b1, b1, b1, b1, b0, b0, b1, b1, b0, b0, b1, b1, b1, b0, b0, b1]
abbrev tb29_1399ffff_14 : Array Bool := #[b1, b1, b1, b1, b1, b1, b1, b1, b1, b1, b1, b1, b1, b1, b1, b1, b1, b0, b0, b1, b1, b0, b0, b1, b1, b1, b0, b0, b1]
abbrev tb29_139bffff_14 : Array Bool := #[b1, b1, b1, b1, b1, b1, b1, b1, b1, b1, b1, b1, b1, b1, b1, b1, b1, b1, b0, b1, b1, b0, b0, b1, b1, b1, b0, b0, b1]
abbrev tb29_139fffff_14 : Array Bool := #[b1, b1, b1, b1, b1, b1, b1, b1, b1, b1, b1, b1, b1, b1, b1, b1, b1, b1, b1, b1, b1, b0, b0, b1, b1, b1, b0, b0, b1]
abbrev tb29_13bfffff_14 : Array Bool := #[b1, b1, b1, b1, b1, b1, b1, b1, b1, b1, b1, b1, b1, b1, b1, b1, b1, b1, b1, b1, b1, b1, b0, b1, b1, b1, b0, b0, b1]
abbrev tb29_13ffffff_14 : Array Bool := #[b1, b1, b1, b1, b1, b1, b1, b1, b1, b1, b1, b1, b1, b1, b1, b1, b1, b1, b1, b1, b1, b1, b1, b1, b1, b1, b0, b0, b1]
abbrev tb29_17ffffff_14 : Array Bool := #[b1, b1, b1, b1, b1, b1, b1, b1, b1, b1, b1, b1, b1, b1, b1, b1, b1, b1, b1, b1, b1, b1, b1, b1, b1, b1, b1, b0, b1]
abbrev tb29_1fffffff_14 : Array Bool := #[b1, b1, b1, b1, b1, b1, b1, b1, b1, b1, b1, b1, b1, b1, b1, b1, b1, b1, b1, b1, b1, b1, b1, b1, b1, b1, b1, b1, b1]
abbrev tb29_889109_14 : Array Bool := #[b1, b0, b0, b1, b0, b0, b0, b0, b1, b0, b0, b0, b1, b0, b0, b1, b0, b0, b0, b1, b0, b0, b0, b1, b0, b0, b0, b0, b0]
abbrev tb29_89109_14 : Array Bool := #[b1, b0, b0, b1, b0, b0, b0, b0, b1, b0, b0, b0, b1, b0, b0, b1, b0, b0, b0, b1, b0, b0, b0, b0, b0, b0, b0, b0, b0]
abbrev tb29_9_14 : Array Bool := #[b1, b0, b0, b1, b0, b0, b0, b0, b0, b0, b0, b0, b0, b0, b0, b0, b0, b0, b0, b0, b0, b0, b0, b0, b0, b0, b0, b0, b0]
abbrev tb29_9109_14 : Array Bool := #[b1, b0, b0, b1, b0, b0, b0, b0, b1, b0, b0, b0, b1, b0, b0, b1, b0, b0, b0, b0, b0, b0, b0, b0, b0, b0, b0, b0, b0]
/-! ### impl_FieldFit: function 39 -/
def impl_FieldFit.f (k : Nat) (a0 : Int) (a1 : ByteArray) : Option (ByteArray) := (impl_FieldSize.f k a0).bind fun t335 => ((impl_FieldKind.f k a0).bind fun t336 => (if t336 = 1 then ((strings_Repeat.f (⟨#[48]⟩ : ByteArray) (mx (wrap64 (t335 - (a1.size : Int))) 0)).bind fun t337 => (if t337.size + a1.size ≤ 9223372036854775807 then ((impl_FieldOk.f k a0 (t337 ++ a1)).bind fun t338 => (if t338 = true then (some (t337 ++ a1)) else (some (⟨#[]⟩ : ByteArray)))) else (none))) else (if t336 = 2 then ((strings_Repeat.f (⟨#[32]⟩ : ByteArray) (mx (wrap64 (t335 - (a1.size : Int))) 0)).bind fun t339 => (if a1.size + t339.size ≤ 9223372036854775807 then ((impl_FieldOk.f k a0 (a1 ++ t339)).bind fun t340 => (if t340 = true then (some (a1 ++ t339)) else (some (⟨#[]⟩ : ByteArray)))) else (none))) else ((impl_FieldOk.f k a0 a1).bind fun t341 => (if t341 = true then (some a1) else (some (⟨#[]⟩ : ByteArray)))))))
set_option maxHeartbeats 8000000 in
set_option maxRecDepth 100000 in
theorem impl_FieldFit.calls (k : Nat) (a0 : Int) (a1 : ByteArray) (r : ByteArray) (w : World) (h : impl_FieldFit.f k a0 a1 = some r) :
  Calls Tryd.prog 39 #[.int .i64 a0, .string a1] w fun e w' => e = .returned (.string r) ∧ Below w.heap.size w w' := by
 have HB := Aside0.mk (Below.refl w.heap.size w)
 have H : ((impl_FieldSize.f k a0).bind fun t335 => ((impl_FieldKind.f k a0).bind fun t336 => (if t336 = 1 then ((strings_Repeat.f (⟨#[48]⟩ : ByteArray) (mx (wrap64 (t335 - (a1.size : Int))) 0)).bind fun t337 => (if t337.size + a1.size ≤ 9223372036854775807 then ((impl_FieldOk.f k a0 (t337 ++ a1)).bind fun t338 => (if t338 = true then (some (t337 ++ a1)) else (some (⟨#[]⟩ : ByteArray)))) else (none))) else (if t336 = 2 then ((strings_Repeat.f (⟨#[32]⟩ : ByteArray) (mx (wrap64 (t335 - (a1.size : Int))) 0)).bind fun t339 => (if a1.size + t339.size ≤ 9223372036854775807 then ((impl_FieldOk.f k a0 (a1 ++ t339)).bind fun t340 => (if t340 = true then (some (a1 ++ t339)) else (some (⟨#[]⟩ : ByteArray)))) else (none))) else ((impl_FieldOk.f k a0 a1).bind fun t341 => (if t341 = true then (some a1) else (some (⟨#[]⟩ : ByteArray)))))))) = some r := h
 clear h
 obtain ⟨t335, A3, H⟩ := ob_ H
 obtain ⟨ji4, hji4⟩ : ∃ j_ : Int, (mx (wrap64 (t335 - (a1.size : Int))) 0) = j_ := ⟨_, rfl⟩
 replace H : ((impl_FieldKind.f k a0).bind fun t336 => (if t336 = 1 then ((strings_Repeat.f (⟨#[48]⟩ : ByteArray) (ji4)).bind fun t337 => (if t337.size + a1.size ≤ 9223372036854775807 then ((impl_FieldOk.f k a0 (t337 ++ a1)).bind fun t338 => (if t338 = true then (some (t337 ++ a1)) else (some (⟨#[]⟩ : ByteArray)))) else (none))) else (if t336 = 2 then ((strings_Repeat.f (⟨#[32]⟩ : ByteArray) (ji4)).bind fun t339 => (if a1.size + t339.size ≤ 9223372036854775807 then ((impl_FieldOk.f k a0 (a1 ++ t339)).bind fun t340 => (if t340 = true then (some (a1 ++ t339)) else (some (⟨#[]⟩ : ByteArray)))) else (none))) else ((impl_FieldOk.f k a0 a1).bind fun t341 => (if t341 = true then (some a1) else (some (⟨#[]⟩ : ByteArray))))))) = some r := by first | (rw [hji4] at H; exact H) | (simp only [hji4] at H ⊢; exact H)
 (try rw [hji4] at A3)
 (try (have hji4l : 0 ≤ ji4 := by (rw [← hji4]; unfold mx; (repeat' split) <;> omega)))
 (try (have hji4m : 0 ≤ ji4 := by omega))
 have hji4_ : (if (wrap64 (t335 - (a1.size : Int))) < 0 then 0 else (wrap64 (t335 - (a1.size : Int)))) = ji4 := hji4
 obtain ⟨t336, A5, H⟩ := ob_ H
 by_cases c6 : t336 = 1
 ·rw [if_pos c6] at H
  have c6b0 : (t336 == 1) = true := beq_iff_eq.mpr c6
  have c6b1 : (t336 != 1) = false := bne_eq_false_iff_eq.mpr c6
  clear c6
  obtain ⟨t337, A7, H⟩ := ob_ H
  by_cases c8 : t337.size + a1.size ≤ 9223372036854775807
  ·rw [if_pos c8] at H
   have c8b0 := eq_true c8
   have c8b1 : decide (t337.size + a1.size ≤ 9223372036854775807) = true := decide_eq_true c8
   try have c8b2 : (9223372036854775807 < t337.size + a1.size) = False := eq_false (Nat.not_lt.2 c8)
   obtain ⟨t338, A9, H⟩ := ob_ H
   by_cases c10 : t338 = true
   ·subst c10
    replace H := ip_ H
    obtain rfl := Option.some.inj H
    go_enter Tryd.func39, Tryd.ntmps39
    go_wp2_with (first | ((with_reducible refine gate_callee (f := 81) rfl ?_); refine goesL_ (some 7) rfl rfl Tryd.func81 (by kernel_rfl) rfl #[.int .i64 a0] rfl gl_ ?_; (with_reducible refine (impl_FieldSize.calls k a0 t335 _ A3.out).mono ?_); rintro e w11 ⟨rfl, hb⟩; refine ⟨_, rfl, ?_⟩; replace HB := Aside0.mk (below_step bl_ hb); (try clear hb); (try clear hb2); (try clear hk); (try clear hi)) | ((with_reducible refine gate_callee (f := 82) rfl ?_); refine goesL_ (some 13) rfl rfl Tryd.func82 (by kernel_rfl) rfl #[.int .i64 a0] rfl gl_ ?_; (with_reducible refine (impl_FieldKind.calls k a0 t336 _ A5.out).mono ?_); rintro e w12 ⟨rfl, hb⟩; refine ⟨_, rfl, ?_⟩; replace HB := Aside0.mk (below_step bl_ hb); (try clear hb); (try clear hb2); (try clear hk); (try clear hi)) | ((with_reducible refine gate_callee (f := 80) rfl ?_); refine goesL_ (some 17) rfl rfl Tryd.func80 (by kernel_rfl) rfl #[.string (⟨#[48]⟩ : ByteArray), .int .i64 ji4] rfl (by (try simp only [List.map_toArray, List.map_cons, List.map_nil]); first | done | (simp only [hji4]; rfl) | rfl | (simp only [List.length_drop, List.length_take]; rfl)) ?_; (with_reducible refine (strings_Repeat.calls (⟨#[48]⟩ : ByteArray) ji4 t337 _ A7.out).mono ?_); rintro e w13 ⟨rfl, hb⟩; refine ⟨_, rfl, ?_⟩; replace HB := Aside0.mk (below_step bl_ hb); (try clear hb); (try clear hb2); (try clear hk); (try clear hi)) | ((with_reducible refine gate_callee (f := 83) rfl ?_); refine goesL_ (some 28) rfl rfl Tryd.func83 (by kernel_rfl) rfl #[.int .i64 a0, .string (t337 ++ a1)] rfl gl_ ?_; (with_reducible refine (impl_FieldOk.calls k a0 (t337 ++ a1) true _ A9.out).mono ?_); rintro e w14 ⟨rfl, hb⟩; refine ⟨_, rfl, ?_⟩; replace HB := Aside0.mk (below_step bl_ hb); (try clear hb); (try clear hb2); (try clear hk); (try clear hi)))
    go_ret
    exact ⟨by first | rfl | (simp [errW_none, errW_some] <;> rfl) | (simp only [← hji4]; first | rfl | (simp [errW_none, errW_some] <;> rfl)) | (simp [*, errW_none, errW_some] <;> rfl), bl_⟩
   ·replace c10 := Bool.eq_false_iff.mpr c10
    subst c10
    replace H := in_ H
    obtain rfl := Option.some.inj H
    go_enter Tryd.func39, Tryd.ntmps39
    go_wp2_with (first | ((with_reducible refine gate_callee (f := 81) rfl ?_); refine goesL_ (some 7) rfl rfl Tryd.func81 (by kernel_rfl) rfl #[.int .i64 a0] rfl gl_ ?_; (with_reducible refine (impl_FieldSize.calls k a0 t335 _ A3.out).mono ?_); rintro e w15 ⟨rfl, hb⟩; refine ⟨_, rfl, ?_⟩; replace HB := Aside0.mk (below_step bl_ hb); (try clear hb); (try clear hb2); (try clear hk); (try clear hi)) | ((with_reducible refine gate_callee (f := 82) rfl ?_); refine goesL_ (some 13) rfl rfl Tryd.func82 (by kernel_rfl) rfl #[.int .i64 a0] rfl gl_ ?_; (with_reducible refine (impl_FieldKind.calls k a0 t336 _ A5.out).mono ?_); rintro e w16 ⟨rfl, hb⟩; refine ⟨_, rfl, ?_⟩; replace HB := Aside0.mk (below_step bl_ hb); (try clear hb); (try clear hb2); (try clear hk); (try clear hi)) | ((with_reducible refine gate_callee (f := 80) rfl ?_); refine goesL_ (some 17) rfl rfl Tryd.func80 (by kernel_rfl) rfl #[.string (⟨#[48]⟩ : ByteArray), .int .i64 ji4] rfl (by (try simp only [List.map_toArray, List.map_cons, List.map_nil]); first | done | (simp only [hji4]; rfl) | rfl | (simp only [List.length_drop, List.length_take]; rfl)) ?_; (with_reducible refine (strings_Repeat.calls (⟨#[48]⟩ : ByteArray) ji4 t337 _ A7.out).mono ?_); rintro e w17 ⟨rfl, hb⟩; refine ⟨_, rfl, ?_⟩; replace HB := Aside0.mk (below_step bl_ hb); (try clear hb); (try clear hb2); (try clear hk); (try clear hi)) | ((with_reducible refine gate_callee (f := 83) rfl ?_); refine goesL_ (some 28) rfl rfl Tryd.func83 (by kernel_rfl) rfl #[.int .i64 a0, .string (t337 ++ a1)] rfl gl_ ?_; (with_reducible refine (impl_FieldOk.calls k a0 (t337 ++ a1) false _ A9.out).mono ?_); rintro e w18 ⟨rfl, hb⟩; refine ⟨_, rfl, ?_⟩; replace HB := Aside0.mk (below_step bl_ hb); (try clear hb); (try clear hb2); (try clear hk); (try clear hi)))
    go_ret
    exact ⟨by first | rfl | (simp [errW_none, errW_some] <;> rfl) | (simp only [← hji4]; first | rfl | (simp [errW_none, errW_some] <;> rfl)) | (simp [*, errW_none, errW_some] <;> rfl), bl_⟩
  ·rw [if_neg c8] at H
   exact absurd H (by simp)
 ·rw [if_neg c6] at H
  have c6b0 : (t336 == 1) = false := beq_eq_false_iff_ne.mpr c6
  have c6b1 : (t336 != 1) = true := bne_iff_ne.mpr c6
  by_cases c19 : t336 = 2
  ·rw [if_pos c19] at H
   have c19b0 : (t336 == 2) = true := beq_iff_eq.mpr c19
   have c19b1 : (t336 != 2) = false := bne_eq_false_iff_eq.mpr c19
   clear c19
   obtain ⟨t339, A20, H⟩ := ob_ H
   by_cases c21 : a1.size + t339.size ≤ 9223372036854775807
   ·rw [if_pos c21] at H
    have c21b0 := eq_true c21
    have c21b1 : decide (a1.size + t339.size ≤ 9223372036854775807) = true := decide_eq_true c21
    try have c21b2 : (9223372036854775807 < a1.size + t339.size) = False := eq_false (Nat.not_lt.2 c21)
    obtain ⟨t340, A22, H⟩ := ob_ H
    by_cases c23 : t340 = true
    ·subst c23
     replace H := ip_ H
     obtain rfl := Option.some.inj H
     go_enter Tryd.func39, Tryd.ntmps39
     go_wp2_with (first | ((with_reducible refine gate_callee (f := 81) rfl ?_); refine goesL_ (some 7) rfl rfl Tryd.func81 (by kernel_rfl) rfl #[.int .i64 a0] rfl gl_ ?_; (with_reducible refine (impl_FieldSize.calls k a0 t335 _ A3.out).mono ?_); rintro e w24 ⟨rfl, hb⟩; refine ⟨_, rfl, ?_⟩; replace HB := Aside0.mk (below_step bl_ hb); (try clear hb); (try clear hb2); (try clear hk); (try clear hi)) | ((with_reducible refine gate_callee (f := 82) rfl ?_); refine goesL_ (some 13) rfl rfl Tryd.func82 (by kernel_rfl) rfl #[.int .i64 a0] rfl gl_ ?_; (with_reducible refine (impl_FieldKind.calls k a0 t336 _ A5.out).mono ?_); rintro e w25 ⟨rfl, hb⟩; refine ⟨_, rfl, ?_⟩; replace HB := Aside0.mk (below_step bl_ hb); (try clear hb); (try clear hb2); (try clear hk); (try clear hi)) | ((with_reducible refine gate_callee (f := 80) rfl ?_); refine goesL_ (some 24) rfl rfl Tryd.func80 (by kernel_rfl) rfl #[.string (⟨#[32]⟩ : ByteArray), .int .i64 ji4] rfl (by (try simp only [List.map_toArray, List.map_cons, List.map_nil]); first | done | (simp only [hji4]; rfl) | rfl | (simp only [List.length_drop, List.length_take]; rfl)) ?_; (with_reducible refine (strings_Repeat.calls (⟨#[32]⟩ : ByteArray) ji4 t339 _ A20.out).mono ?_); rintro e w26 ⟨rfl, hb⟩; refine ⟨_, rfl, ?_⟩; replace HB := Aside0.mk (below_step bl_ hb); (try clear hb); (try clear hb2); (try clear hk); (try clear hi)) | ((with_reducible refine gate_callee (f := 83) rfl ?_); refine goesL_ (some 28) rfl rfl Tryd.func83 (by kernel_rfl) rfl #[.int .i64 a0, .string (a1 ++ t339)] rfl gl_ ?_; (with_reducible refine (impl_FieldOk.calls k a0 (a1 ++ t339) true _ A22.out).mono ?_); rintro e w27 ⟨rfl, hb⟩; refine ⟨_, rfl, ?_⟩; replace HB := Aside0.mk (below_step bl_ hb); (try clear hb); (try clear hb2); (try clear hk); (try clear hi)))
     go_ret
     exact ⟨by first | rfl | (simp [errW_none, errW_some] <;> rfl) | (simp only [← hji4]; first | rfl | (simp [errW_none, errW_some] <;> rfl)) | (simp [*, errW_none, errW_some] <;> rfl), bl_⟩
    ·replace c23 := Bool.eq_false_iff.mpr c23
     subst c23
     replace H := in_ H
     obtain rfl := Option.some.inj H
     go_enter Tryd.func39, Tryd.ntmps39
     go_wp2_with (first | ((with_reducible refine gate_callee (f := 81) rfl ?_); refine goesL_ (some 7) rfl rfl Tryd.func81 (by kernel_rfl) rfl #[.int .i64 a0] rfl gl_ ?_; (with_reducible refine (impl_FieldSize.calls k a0 t335 _ A3.out).mono ?_); rintro e w28 ⟨rfl, hb⟩; refine ⟨_, rfl, ?_⟩; replace HB := Aside0.mk (below_step bl_ hb); (try clear hb); (try clear hb2); (try clear hk); (try clear hi)) | ((with_reducible refine gate_callee (f := 82) rfl ?_); refine goesL_ (some 13) rfl rfl Tryd.func82 (by kernel_rfl) rfl #[.int .i64 a0] rfl gl_ ?_; (with_reducible refine (impl_FieldKind.calls k a0 t336 _ A5.out).mono ?_); rintro e w29 ⟨rfl, hb⟩; refine ⟨_, rfl, ?_⟩; replace HB := Aside0.mk (below_step bl_ hb); (try clear hb); (try clear hb2); (try clear hk); (try clear hi)) | ((with_reducible refine gate_callee (f := 80) rfl ?_); refine goesL_ (some 24) rfl rfl Tryd.func80 (by kernel_rfl) rfl #[.string (⟨#[32]⟩ : ByteArray), .int .i64 ji4] rfl (by (try simp only [List.map_toArray, List.map_cons, List.map_nil]); first | done | (simp only [hji4]; rfl) | rfl | (simp only [List.length_drop, List.length_take]; rfl)) ?_; (with_reducible refine (strings_Repeat.calls (⟨#[32]⟩ : ByteArray) ji4 t339 _ A20.out).mono ?_); rintro e w30 ⟨rfl, hb⟩; refine ⟨_, rfl, ?_⟩; replace HB := Aside0.mk (below_step bl_ hb); (try clear hb); (try clear hb2); (try clear hk); (try clear hi)) | ((with_reducible refine gate_callee (f := 83) rfl ?_); refine goesL_ (some 28) rfl rfl Tryd.func83 (by kernel_rfl) rfl #[.int .i64 a0, .string (a1 ++ t339)] rfl gl_ ?_; (with_reducible refine (impl_FieldOk.calls k a0 (a1 ++ t339) false _ A22.out).mono ?_); rintro e w31 ⟨rfl, hb⟩; refine ⟨_, rfl, ?_⟩; replace HB := Aside0.mk (below_step bl_ hb); (try clear hb); (try clear hb2); (try clear hk); (try clear hi)))
     go_ret
     exact ⟨by first | rfl | (simp [errW_none, errW_some] <;> rfl) | (simp only [← hji4]; first | rfl | (simp [errW_none, errW_some] <;> rfl)) | (simp [*, errW_none, errW_some] <;> rfl), bl_⟩
   ·rw [if_neg c21] at H
    exact absurd H (by simp)
  ·rw [if_neg c19] at H
   have c19b0 : (t336 == 2) = false := beq_eq_false_iff_ne.mpr c19
   have c19b1 : (t336 != 2) = true := bne_iff_ne.mpr c19
   obtain ⟨t341, A32, H⟩ := ob_ H
   by_cases c33 : t341 = true
   ·subst c33
    replace H := ip_ H
    obtain rfl := Option.some.inj H
    go_enter Tryd.func39, Tryd.ntmps39
    go_wp2_with (first | ((with_reducible refine gate_callee (f := 81) rfl ?_); refine goesL_ (some 7) rfl rfl Tryd.func81 (by kernel_rfl) rfl #[.int .i64 a0] rfl gl_ ?_; (with_reducible refine (impl_FieldSize.calls k a0 t335 _ A3.out).mono ?_); rintro e w34 ⟨rfl, hb⟩; refine ⟨_, rfl, ?_⟩; replace HB := Aside0.mk (below_step bl_ hb); (try clear hb); (try clear hb2); (try clear hk); (try clear hi)) | ((with_reducible refine gate_callee (f := 82) rfl ?_); refine goesL_ (some 13) rfl rfl Tryd.func82 (by kernel_rfl) rfl #[.int .i64 a0] rfl gl_ ?_; (with_reducible refine (impl_FieldKind.calls k a0 t336 _ A5.out).mono ?_); rintro e w35 ⟨rfl, hb⟩; refine ⟨_, rfl, ?_⟩; replace HB := Aside0.mk (below_step bl_ hb); (try clear hb); (try clear hb2); (try clear hk); (try clear hi)) | ((with_reducible refine gate_callee (f := 83) rfl ?_); refine goesL_ (some 28) rfl rfl Tryd.func83 (by kernel_rfl) rfl #[.int .i64 a0, .string a1] rfl gl_ ?_; (with_reducible refine (impl_FieldOk.calls k a0 a1 true _ A32.out).mono ?_); rintro e w36 ⟨rfl, hb⟩; refine ⟨_, rfl, ?_⟩; replace HB := Aside0.mk (below_step bl_ hb); (try clear hb); (try clear hb2); (try clear hk); (try clear hi)))
    go_ret
    exact ⟨by first | rfl | (simp [errW_none, errW_some] <;> rfl) | (simp only [← hji4]; first | rfl | (simp [errW_none, errW_some] <;> rfl)) | (simp [*, errW_none, errW_some] <;> rfl), bl_⟩
   ·replace c33 := Bool.eq_false_iff.mpr c33
    subst c33
    replace H := in_ H
    obtain rfl := Option.some.inj H
    go_enter Tryd.func39, Tryd.ntmps39
    go_wp2_with (first | ((with_reducible refine gate_callee (f := 81) rfl ?_); refine goesL_ (some 7) rfl rfl Tryd.func81 (by kernel_rfl) rfl #[.int .i64 a0] rfl gl_ ?_; (with_reducible refine (impl_FieldSize.calls k a0 t335 _ A3.out).mono ?_); rintro e w37 ⟨rfl, hb⟩; refine ⟨_, rfl, ?_⟩; replace HB := Aside0.mk (below_step bl_ hb); (try clear hb); (try clear hb2); (try clear hk); (try clear hi)) | ((with_reducible refine gate_callee (f := 82) rfl ?_); refine goesL_ (some 13) rfl rfl Tryd.func82 (by kernel_rfl) rfl #[.int .i64 a0] rfl gl_ ?_; (with_reducible refine (impl_FieldKind.calls k a0 t336 _ A5.out).mono ?_); rintro e w38 ⟨rfl, hb⟩; refine ⟨_, rfl, ?_⟩; replace HB := Aside0.mk (below_step bl_ hb); (try clear hb); (try clear hb2); (try clear hk); (try clear hi)) | ((with_reducible refine gate_callee (f := 83) rfl ?_); refine goesL_ (some 28) rfl rfl Tryd.func83 (by kernel_rfl) rfl #[.int .i64 a0, .string a1] rfl gl_ ?_; (with_reducible refine (impl_FieldOk.calls k a0 a1 false _ A32.out).mono ?_); rintro e w39 ⟨rfl, hb⟩; refine ⟨_, rfl, ?_⟩; replace HB := Aside0.mk (below_step bl_ hb); (try clear hb); (try clear hb2); (try clear hk); (try clear hi)))
    go_ret
    exact ⟨by first | rfl | (simp [errW_none, errW_some] <;> rfl) | (simp only [← hji4]; first | rfl | (simp [errW_none, errW_some] <;> rfl)) | (simp [*, errW_none, errW_some] <;> rfl), bl_⟩
/-! ### impl_ReqMsg: function 15 -/
def impl_ReqMsg.l0 : Nat → List (S67) → Int → Int → Int → ByteArray → ByteArray → ByteArray → ByteArray → ByteArray → Int → Int → ByteArray → List (S67) → Option (ByteArray × (List (S67)) × Bool)
 | 0, _, _, _, _, _, _, _, _, _, _, _, _, _ => none
 | k + 1, x40, x41, x42, x343000, x343001, x343002, x343003, x343004, x343005, x343006, x343007, x346000, x346001 => if x42 < x41 then (if 0 ≤ x42 then (if x42 < (x40.length : Int) then (if ((rd_T67 x40 x42).f0) = 2 then (if x346001.length < 5864062014805 then (impl_ReqMsg.l0 k x40 x41 (wrap64 (x42 + 1)) x343000 x343001 x343002 x343003 x343004 x343005 x343006 x343007 x346000 (x346001 ++ [(⟨(rd_T67 x40 x42).f0, (rd_T67 x40 x42).f1⟩ : S67)])) else (none)) else (if ((rd_T67 x40 x42).f0) = 3 then (if x346001.length < 5864062014805 then (impl_ReqMsg.l0 k x40 x41 (wrap64 (x42 + 1)) x343000 x343001 x343002 x343003 x343004 x343005 x343006 x343007 x346000 (x346001 ++ [(⟨(rd_T67 x40 x42).f0, (rd_T67 x40 x42).f1⟩ : S67)])) else (none)) else (if ((rd_T67 x40 x42).f0) = 11 then (if x346001.length < 5864062014805 then (impl_ReqMsg.l0 k x40 x41 (wrap64 (x42 + 1)) x343000 x343001 x343002 x343003 x343004 x343005 x343006 x343007 x346000 (x346001 ++ [(⟨(rd_T67 x40 x42).f0, (rd_T67 x40 x42).f1⟩ : S67)])) else (none)) else ((impl_uses.f k x343000 ((rd_T67 x40 x42).f0)).bind fun t364 => (if t364 = true then (if x346001.length < 5864062014805 then (impl_ReqMsg.l0 k x40 x41 (wrap64 (x42 + 1)) x343000 x343001 x343002 x343003 x343004 x343005 x343006 x343007 x346000 (x346001 ++ [(⟨(rd_T67 x40 x42).f0, (rd_T67 x40 x42).f1⟩ : S67)])) else (none)) else (impl_ReqMsg.l0 k x40 x41 (wrap64 (x42 + 1)) x343000 x343001 x343002 x343003 x343004 x343005 x343006 x343007 x346000 x346001)))))) else (none)) else (none)) else (some (x346000, x346001, true))
def impl_ReqMsg.f (k : Nat) (a0_0 : Int) (a0_1 : ByteArray) (a0_2 : ByteArray) (a0_3 : ByteArray) (a0_4 : ByteArray) (a0_5 : ByteArray) (a0_6 : Int) (a0_7 : Int) : Option (ByteArray × (List (S67)) × Bool) := (impl_ReqOk.f k a0_0 a0_1 a0_2 a0_3 a0_4 a0_5 a0_6 a0_7).bind fun t344 => (if t344 = true then ((impl_OpCode.f a0_0).bind fun t346 => (if t346.size + 4 ≤ 9223372036854775807 then ((impl_Wide.f a0_6 12).bind fun t347 => ((impl_Wide.f a0_7 4).bind fun t348 => ((impl_FieldFit.f k 38 a0_3).bind fun t349 => ((some (([(⟨2, a0_1⟩ : S67), (⟨3, t346 ++ (⟨#[48, 48, 48, 48]⟩ : ByteArray)⟩ : S67), (⟨4, t347⟩ : S67), (⟨11, a0_4⟩ : S67), (⟨14, t348⟩ : S67), (⟨38, t349⟩ : S67), (⟨103, a0_2⟩ : S67)] : List (S67)) : List (S67))).bind fun y350 => (impl_ReqMsg.l0 k y350 (y350.length : Int) 0 a0_0 a0_1 a0_2 a0_3 a0_4 a0_5 a0_6 a0_7 a0_5 ([] : List (S67))))))) else (none))) else (some ((⟨#[]⟩ : ByteArray), ([] : List (S67)), false)))
def impl_ReqMsg.T4 : Bool × List (List Nat × List Nat) := (true, [([], []), ([0], [0]), ([1], [1]), ([], []), ([3], [3]), ([4], [4]), ([5], [5]), ([6], [6]), ([], []), ([8], [8]), ([9, 5], [9]), ([10], [10]), ([], []), ([12], [12]), ([13], [13]), ([], []), ([15], [15]), ([16, 10], [16]), ([17], [17]), ([], []), ([19], [19]), ([20, 17], [20]), ([21], [21]), ([], []), ([23], [23]), ([24], [24]), ([2, 7, 11, 14, 18, 22, 25], [2, 7, 11, 14, 18, 22, 25]), ([26], [26]), ([], [])])
def impl_ReqMsg.B4 : List Nat := [0, 1, 3, 0, 8, 24, 56, 120, 0, 256, 824, 1848, 0, 4096, 12288, 0, 32768, 100152, 231224, 0, 524288, 1804088, 3901240, 0, 8388608, 25165824, 67108863, 134217727, 0]
theorem impl_ReqMsg.tab4 : rtab .any (opsOf Tryd.f15 4) = impl_ReqMsg.T4 := by kernel_rfl
theorem impl_ReqMsg.bits4 : waitsOk impl_ReqMsg.T4.2 impl_ReqMsg.B4 = true := by kernel_rfl
set_option maxHeartbeats 8000000 in
set_option maxRecDepth 100000 in
theorem impl_ReqMsg.calls (k : Nat) (a0_0 : Int) (a0_1 : ByteArray) (a0_2 : ByteArray) (a0_3 : ByteArray) (a0_4 : ByteArray) (a0_5 : ByteArray) (a0_6 : Int) (a0_7 : Int) (r1 : ByteArray) (r2 : List (S67)) (r3 : Bool) (w : World) (h : impl_ReqMsg.f k a0_0 a0_1 a0_2 a0_3 a0_4 a0_5 a0_6 a0_7 = some (r1, r2, r3)) (ht_ : Tb w) :
  Calls Tryd.prog 15 #[.agg #[.int .i64 a0_0, .string a0_1, .string a0_2, .string a0_3, .string a0_4, .string a0_5, .int .i64 a0_6, .int .i64 a0_7]] w fun e w' => ∃ v1_ : Value, e = .returned (.tuple #[.agg #[.string r1, v1_], .bool r3]) ∧ Kd.R k67 67 w' w.heap.size (fun _ => True) v1_ r2 ∧ Below w.heap.size w w' := by
 have HTB := Aside0.mk ht_
 clear ht_
 have hu45 := Tryd.underlying45
 have hu42 := Tryd.underlying42
 have hu67 := Tryd.underlying67
 have HB := Aside0.mk (Below.refl w.heap.size w)
 have H : ((impl_ReqOk.f k a0_0 a0_1 a0_2 a0_3 a0_4 a0_5 a0_6 a0_7).bind fun t344 => (if t344 = true then ((impl_OpCode.f a0_0).bind fun t346 => (if t346.size + 4 ≤ 9223372036854775807 then ((impl_Wide.f a0_6 12).bind fun t347 => ((impl_Wide.f a0_7 4).bind fun t348 => ((impl_FieldFit.f k 38 a0_3).bind fun t349 => ((some (([(⟨2, a0_1⟩ : S67), (⟨3, t346 ++ (⟨#[48, 48, 48, 48]⟩ : ByteArray)⟩ : S67), (⟨4, t347⟩ : S67), (⟨11, a0_4⟩ : S67), (⟨14, t348⟩ : S67), (⟨38, t349⟩ : S67), (⟨103, a0_2⟩ : S67)] : List (S67)) : List (S67))).bind fun y350 => (impl_ReqMsg.l0 k y350 (y350.length : Int) 0 a0_0 a0_1 a0_2 a0_3 a0_4 a0_5 a0_6 a0_7 a0_5 ([] : List (S67))))))) else (none))) else (some ((⟨#[]⟩ : ByteArray), ([] : List (S67)), false)))) = some (r1, r2, r3) := h
 clear h
 obtain ⟨t344, A2, H⟩ := ob_ H
 by_cases c3 : t344 = true
 ·subst c3
  replace H := ip_ H
  obtain ⟨t346, A4, H⟩ := ob_ H
  by_cases c5 : t346.size + 4 ≤ 9223372036854775807
  ·rw [if_pos c5] at H
   have c5b0 := eq_true c5
   have c5b1 : decide (t346.size + 4 ≤ 9223372036854775807) = true := decide_eq_true c5
   try have c5b2 : (9223372036854775807 < t346.size + 4) = False := eq_false (Nat.not_lt.2 c5)
   obtain ⟨t347, A6, H⟩ := ob_ H
   obtain ⟨t348, A7, H⟩ := ob_ H
   obtain ⟨t349, A8, H⟩ := ob_ H
   obtain ⟨y350, hy350⟩ : ∃ y_ : List (S67), y_ = (([(⟨2, a0_1⟩ : S67), (⟨3, t346 ++ (⟨#[48, 48, 48, 48]⟩ : ByteArray)⟩ : S67), (⟨4, t347⟩ : S67), (⟨11, a0_4⟩ : S67), (⟨14, t348⟩ : S67), (⟨38, t349⟩ : S67), (⟨103, a0_2⟩ : S67)] : List (S67))) := ⟨_, rfl⟩
   replace H : (impl_ReqMsg.l0 k y350 (y350.length : Int) 0 a0_0 a0_1 a0_2 a0_3 a0_4 a0_5 a0_6 a0_7 a0_5 ([] : List (S67))) = some (r1, r2, r3) := by first | (rw [hy350]; with_reducible exact H) | (have H2_ := (Option.bind_some _ _).symm.trans H; rw [hy350]; with_reducible exact H2_) | (have H2_ := (Option.bind_some _ _).symm.trans H; with_reducible exact H2_) | with_reducible exact H | (rw [hy350]; exact H) | exact H
   have Ny350 := Aside0.mk hy350
   clear hy350
   have H' := Aside0.mk H
   clear H
   go_enter Tryd.func15, Tryd.ntmps15
   try go_wp2_with (first | ((with_reducible refine gate_dst (N := 1) rfl ?_); refine be_ (N := 1) (cs := #[.int .i64 a0_0, .string a0_1, .string a0_2, .string a0_3, .string a0_4, .string a0_5, .int .i64 a0_6, .int .i64 a0_7]) (t := 45) ?_; intro gb342 hg w9 hbox hb; have BK342 := Aside0.mk (hbox); have GW342 := gw_ (w := w) hg; have GE342 := gw_ (w := w) hg; replace HB := Aside0.mk (below_step bl_ hb); clear hb hbox hg) | ((with_reducible refine gate_dst (N := 2) rfl ?_); refine be_ (N := 2) (cs := #[.string (⟨#[]⟩ : ByteArray), .slice none 0 0]) (t := 42) ?_; intro gb343 hg w10 hbox hb; have BK343 := Aside0.mk (hbox); have GW343 := gw_ (w := w) hg; have GE343 := gw_ (w := w) hg; replace HB := Aside0.mk (below_step bl_ hb); have NB342_343 := Aside0.mk ((by rw [hg]; exact Nat.ne_of_lt (blk_lt (bk_ BK342)) : gb342 ≠ gb343)); have NB343_342 := Aside0.mk ((by rw [hg]; exact Nat.ne_of_gt (blk_lt (bk_ BK342)) : gb343 ≠ gb342)); replace BK342 := Aside0.mk (blk_below (bk_ BK342) hb); clear hb hbox hg; have hnb11 := NB342_343.out; have hnc11 := NB343_342.out; obtain ⟨hcz12_0, hcz12_1, hcz12_2, hcz12_3, hcz12_4, hcz12_5, hcz12_6, hcz12_7, hfz12_0, hfz12_1, hfz12_2, hfz12_3, hfz12_4, hfz12_5, hfz12_6, hfz12_7⟩ := bx8_ BK342) | ((with_reducible refine gate_callee (f := 36) rfl ?_); refine goesL_ (some 8) rfl rfl Tryd.func36 (by kernel_rfl) rfl #[.agg #[.int .i64 a0_0, .string a0_1, .string a0_2, .string a0_3, .string a0_4, .string a0_5, .int .i64 a0_6, .int .i64 a0_7]] rfl gl_ ?_; (with_reducible refine (impl_ReqOk.calls k a0_0 a0_1 a0_2 a0_3 a0_4 a0_5 a0_6 a0_7 true _ A2.out).mono ?_); rintro e w13 ⟨rfl, hb⟩; refine ⟨_, rfl, ?_⟩; replace BK342 := Aside0.mk (blk_below (bk_ BK342) hb); replace BK343 := Aside0.mk (blk_below (bk_ BK343) hb); replace HB := Aside0.mk (below_step bl_ hb); (try clear hb); (try clear hb2); (try clear hk); (try clear hi); obtain ⟨hcz14_0, hcz14_1, hcz14_2, hcz14_3, hcz14_4, hcz14_5, hcz14_6, hcz14_7, hfz14_0, hfz14_1, hfz14_2, hfz14_3, hfz14_4, hfz14_5, hfz14_6, hfz14_7⟩ := bx8_ BK342) | ((with_reducible refine gate_dst (N := 4) rfl ?_); refine be_ (N := 4) (cs := #[.string (⟨#[]⟩ : ByteArray), .slice none 0 0]) (t := 42) ?_; intro gb345 hg w15 hbox hb; have BK345 := Aside0.mk (hbox); have GW345 := gw_ (w := w) hg; have GE345 := gw_ (w := w) hg; replace HB := Aside0.mk (below_step bl_ hb); have NB342_345 := Aside0.mk ((by rw [hg]; exact Nat.ne_of_lt (blk_lt (bk_ BK342)) : gb342 ≠ gb345)); have NB345_342 := Aside0.mk ((by rw [hg]; exact Nat.ne_of_gt (blk_lt (bk_ BK342)) : gb345 ≠ gb342)); replace BK342 := Aside0.mk (blk_below (bk_ BK342) hb); have NB343_345 := Aside0.mk ((by rw [hg]; exact Nat.ne_of_lt (blk_lt (bk_ BK343)) : gb343 ≠ gb345)); have NB345_343 := Aside0.mk ((by rw [hg]; exact Nat.ne_of_gt (blk_lt (bk_ BK343)) : gb345 ≠ gb343)); replace BK343 := Aside0.mk (blk_below (bk_ BK343) hb); clear hb hbox hg; have hnb16 := NB345_342.out; have hnc16 := NB342_345.out; have hnb17 := NB345_343.out; have hnc17 := NB343_345.out; obtain ⟨hcz18_0, hcz18_1, hfz18_0, hfz18_1⟩ := bx2_ BK345))
   have n0_ : Aside0 (((w15.setCell ⟨gb345, 0, none⟩ (.string a0_5)).setCell ⟨gb345, 1, none⟩ (.slice none 0 0)).heap[gb342]? = some (.cells #[.int .i64 a0_0, .string a0_1, .string a0_2, .string a0_3, .string a0_4, .string a0_5, .int .i64 a0_6, .int .i64 a0_7] 45 (0, 0))) := ⟨by (with_reducible repeat (first | refine blk_drewN ?_ _ | refine blk_drew ?_ | refine blk_alloc ?_ _)); refine blk_far ?_ NB342_345.out _; (with_reducible repeat (first | refine blk_drewN ?_ _ | refine blk_drew ?_ | refine blk_alloc ?_ _)); refine blk_far ?_ NB342_345.out _; (with_reducible repeat (first | refine blk_drewN ?_ _ | refine blk_drew ?_ | refine blk_alloc ?_ _)); exact BK342.out⟩
   have n1_ : Aside0 (((w15.setCell ⟨gb345, 0, none⟩ (.string a0_5)).setCell ⟨gb345, 1, none⟩ (.slice none 0 0)).heap[gb343]? = some (.cells #[.string (⟨#[]⟩ : ByteArray), .slice none 0 0] 42 (0, 0))) := ⟨by (with_reducible repeat (first | refine blk_drewN ?_ _ | refine blk_drew ?_ | refine blk_alloc ?_ _)); refine blk_far ?_ NB343_345.out _; (with_reducible repeat (first | refine blk_drewN ?_ _ | refine blk_drew ?_ | refine blk_alloc ?_ _)); refine blk_far ?_ NB343_345.out _; (with_reducible repeat (first | refine blk_drewN ?_ _ | refine blk_drew ?_ | refine blk_alloc ?_ _)); exact BK343.out⟩
   have n2_ : Aside0 (((w15.setCell ⟨gb345, 0, none⟩ (.string a0_5)).setCell ⟨gb345, 1, none⟩ (.slice none 0 0)).heap[gb345]? = some (.cells #[.string a0_5, .slice none 0 0] 42 (0, 0))) := ⟨by (with_reducible repeat (first | refine blk_drewN ?_ _ | refine blk_drew ?_ | refine blk_alloc ?_ _)); apply bq2_1_0_; (with_reducible repeat (first | refine blk_drewN ?_ _ | refine blk_drew ?_ | refine blk_alloc ?_ _)); exact BK345.out⟩
   have n3_ : Aside0 (Below w.heap.size w ((w15.setCell ⟨gb345, 0, none⟩ (.string a0_5)).setCell ⟨gb345, 1, none⟩ (.slice none 0 0))) := ⟨bl_⟩
   (try clear BK342)
   (try clear BK343)
   (try clear BK345)
   (try clear HB)
   generalize ((w15.setCell ⟨gb345, 0, none⟩ (.string a0_5)).setCell ⟨gb345, 1, none⟩ (.slice none 0 0)) = w19 at n0_ n1_ n2_ n3_ ⊢
   have BK342 := n0_
   have BK343 := n1_
   have BK345 := n2_
   have HB := n3_
   clear n0_ n1_ n2_ n3_
   have n0_ := Aside0.mk (blk_drew BK342.out)
   have n1_ := Aside0.mk (blk_drew BK343.out)
   have n2_ := Aside0.mk (blk_drew BK345.out)
   have n3_ := Aside0.mk (below_drew1 HB.out)
   clear BK342
   clear BK343
   clear BK345
   clear HB
   have BK342 := n0_
   have BK343 := n1_
   have BK345 := n2_
   have HB := n3_
   clear n0_ n1_ n2_ n3_
   refine start_ (n := 29) (S := fun w' => w'.cell? ⟨gb342, 0, none⟩ = some (.int .i64 a0_0) ∧ w'.cell? ⟨gb342, 1, none⟩ = some (.string a0_1) ∧ w'.cell? ⟨gb342, 2, none⟩ = some (.string a0_2) ∧ w'.cell? ⟨gb342, 3, none⟩ = some (.string a0_3) ∧ w'.cell? ⟨gb342, 4, none⟩ = some (.string a0_4) ∧ w'.cell? ⟨gb342, 5, none⟩ = some (.string a0_5) ∧ w'.cell? ⟨gb342, 6, none⟩ = some (.int .i64 a0_6) ∧ w'.cell? ⟨gb342, 7, none⟩ = some (.int .i64 a0_7)) (ds := []) tb29_0_14 (by kernel_rfl) rfl rfl ⟨cy_ BK342 0, cy_ BK342 1, cy_ BK342 2, cy_ BK342 3, cy_ BK342 4, cy_ BK342 5, cy_ BK342 6, cy_ BK342 7⟩ (fun hHeld => ?_); refine with_tabW impl_ReqMsg.tab4 impl_ReqMsg.bits4 (fun HT_ HW_ => ?_)
   generalize w19.drew = w20 at BK342 BK343 BK345 HB hHeld ⊢
   refine pl_ HT_ 0 14 tb29_1_14 ?_
   refine pl_ HT_ 3 17 tb29_9_14 ?_
   refine pl_ HT_ 8 22 tb29_109_14 ?_
   refine pl_ HT_ 12 26 tb29_1109_14 ?_
   refine pl_ HT_ 15 29 tb29_9109_14 ?_
   refine pl_ HT_ 19 33 tb29_89109_14 ?_
   refine pl_ HT_ 23 37 tb29_889109_14 ?_
   refine pl_ HT_ 28 42 tb29_10889109_14 ?_
   refine take_ (i := 1) (N := some 15) (v := ?_) (a' := ?_) tb29_1088910b_14 rfl rfl (take_ofW HT_.out HW_.out (by kernel_rfl)) (fun _ _ _ h => h) (Or.inl ⟨by rfl, ?_⟩) hHeld ?_ ?_
   rotate_left
   ·rintro w' ⟨s0, s1, s2, s3, s4, s5, s6, s7⟩
    go_simp
    with_reducible rfl
   rotate_left
   ·simp only [Act.put, q_]
    rfl
   refine pl_ HT_ 2 16 tb29_1088910f_14 ?_
   refine take_ (i := 4) (N := some 18) (v := ?_) (a' := ?_) tb29_1088911f_14 rfl rfl (take_ofW HT_.out HW_.out (by kernel_rfl)) (fun _ _ _ h => h) (Or.inl ⟨by rfl, ?_⟩) hHeld ?_ ?_
   rotate_left
   ·rintro w' ⟨s0, s1, s2, s3, s4, s5, s6, s7⟩
    go_simp
    with_reducible rfl
   rotate_left
   ·simp only [Act.put, q_]
    rfl
   refine take_ (i := 9) (N := some 23) (v := ?_) (a' := ?_) tb29_1088931f_14 rfl rfl (take_ofW HT_.out HW_.out (by kernel_rfl)) (fun _ _ _ h => h) (Or.inl ⟨by rfl, ?_⟩) hHeld ?_ ?_
   rotate_left
   ·rintro w' ⟨s0, s1, s2, s3, s4, s5, s6, s7⟩
    go_simp
    with_reducible rfl
   rotate_left
   ·simp only [Act.put, q_]
    rfl
   refine take_ (i := 13) (N := some 27) (v := ?_) (a' := ?_) tb29_1088b31f_14 rfl rfl (take_ofW HT_.out HW_.out (by kernel_rfl)) (fun _ _ _ h => h) (Or.inl ⟨by rfl, ?_⟩) hHeld ?_ ?_
   rotate_left
   ·rintro w' ⟨s0, s1, s2, s3, s4, s5, s6, s7⟩
    go_simp
    with_reducible rfl
   rotate_left
   ·simp only [Act.put, q_]
    rfl
   refine pl_ HT_ 14 28 tb29_1088f31f_14 ?_
   refine take_ (i := 16) (N := some 30) (v := ?_) (a' := ?_) tb29_1089f31f_14 rfl rfl (take_ofW HT_.out HW_.out (by kernel_rfl)) (fun _ _ _ h => h) (Or.inl ⟨by rfl, ?_⟩) hHeld ?_ ?_
   rotate_left
   ·rintro w' ⟨s0, s1, s2, s3, s4, s5, s6, s7⟩
    go_simp
    with_reducible rfl
   rotate_left
   ·simp only [Act.put, q_]
    rfl
   refine take_ (i := 20) (N := some 34) (v := ?_) (a' := ?_) tb29_1099f31f_14 rfl rfl (take_ofW HT_.out HW_.out (by kernel_rfl)) (fun _ _ _ h => h) (Or.inl ⟨by rfl, ?_⟩) hHeld ?_ ?_
   rotate_left
   ·rintro w' ⟨s0, s1, s2, s3, s4, s5, s6, s7⟩
    go_simp
    with_reducible rfl
   rotate_left
   ·simp only [Act.put, q_]
    rfl
   refine take_ (i := 24) (N := some 38) (v := ?_) (a' := ?_) tb29_1199f31f_14 rfl rfl (take_ofW HT_.out HW_.out (by kernel_rfl)) (fun _ _ _ h => h) (Or.inl ⟨by rfl, ?_⟩) hHeld ?_ ?_
   rotate_left
   ·rintro w' ⟨s0, s1, s2, s3, s4, s5, s6, s7⟩
    go_simp
    with_reducible rfl
   rotate_left
   ·simp only [Act.put, q_]
    rfl
   refine pl_ HT_ 25 39 tb29_1399f31f_14 ?_
   refine one_ (i := 5) (N := some 19) tb29_1399f33f_14 rfl rfl (one_of HT_.out (by kernel_rfl)) (by decide) (fun K hK => ?_)
   refine goes_ Tryd.func37 (by kernel_rfl) rfl #[.int .i64 a0_0] (by rfl) rfl rfl gl_ ?_
   with_reducible refine (impl_OpCode.calls a0_0 t346 _ A4.out).mono ?_
   rintro e w21 ⟨rfl, hb⟩
   refine ⟨_, rfl, ?_⟩
   have n0_ := Aside0.mk (blk_below (bk_ BK342) hb)
   have n1_ := Aside0.mk (blk_below (bk_ BK343) hb)
   have n2_ := Aside0.mk (blk_below (bk_ BK345) hb)
   have n3_ := Aside0.mk (below_step bl_ hb)
   clear BK342
   clear BK343
   clear BK345
   clear HB
   have BK342 := n0_
   have BK343 := n1_
   have BK345 := n2_
   have HB := n3_
   clear n0_ n1_ n2_ n3_
   (try clear hb)
   (try clear hb2)
   (try clear hk)
   (try clear hi)
   refine hK.out _ _ ⟨cy_ BK342 0, cy_ BK342 1, cy_ BK342 2, cy_ BK342 3, cy_ BK342 4, cy_ BK342 5, cy_ BK342 6, cy_ BK342 7⟩ (fun hHeld => ?_)
   clear hK K
   refine norm_ (a' := ?_) ?_ ?_
   rotate_left
   ·show Act.put _ (some 19) _ = _
    simp only [Act.put, q_]
    rfl
   refine pl_ HT_ 6 20 tb29_1399f37f_14 ?_
   refine pl_ HT_ 7 21 tb29_1399f3ff_14 ?_
   refine one_ (i := 10) (N := some 24) tb29_1399f7ff_14 rfl rfl (one_of HT_.out (by kernel_rfl)) (by decide) (fun K hK => ?_)
   refine goes_ Tryd.func38 (by kernel_rfl) rfl #[.int .i64 a0_6, .int .i64 12] (by rfl) rfl rfl gl_ ?_
   with_reducible refine (impl_Wide.calls a0_6 12 t347 _ A6.out ?tb).mono ?_
   (case tb => exact tb_below HTB.out (by repeat (first | exact HB.out | apply below_alloc | apply pw_below_drewN | apply below_drew1)))
   rintro e w22 ⟨rfl, hb⟩
   refine ⟨_, rfl, ?_⟩
   have n0_ := Aside0.mk (blk_below (bk_ BK342) hb)
   have n1_ := Aside0.mk (blk_below (bk_ BK343) hb)
   have n2_ := Aside0.mk (blk_below (bk_ BK345) hb)
   have n3_ := Aside0.mk (below_step bl_ hb)
   clear BK342
   clear BK343
   clear BK345
   clear HB
   have BK342 := n0_
   have BK343 := n1_
   have BK345 := n2_
   have HB := n3_
   clear n0_ n1_ n2_ n3_
   (try clear hb)
   (try clear hb2)
   (try clear hk)
   (try clear hi)
   refine hK.out _ _ ⟨cy_ BK342 0, cy_ BK342 1, cy_ BK342 2, cy_ BK342 3, cy_ BK342 4, cy_ BK342 5, cy_ BK342 6, cy_ BK342 7⟩ (fun hHeld => ?_)
   clear hK K
   refine norm_ (a' := ?_) ?_ ?_
   rotate_left
   ·show Act.put _ (some 24) _ = _
    simp only [Act.put, q_]
    rfl
   refine pl_ HT_ 11 25 tb29_1399ffff_14 ?_
   refine one_ (i := 17) (N := some 31) tb29_139bffff_14 rfl rfl (one_of HT_.out (by kernel_rfl)) (by decide) (fun K hK => ?_)
   refine goes_ Tryd.func38 (by kernel_rfl) rfl #[.int .i64 a0_7, .int .i64 4] (by rfl) rfl rfl gl_ ?_
   with_reducible refine (impl_Wide.calls a0_7 4 t348 _ A7.out ?tb).mono ?_
   (case tb => exact tb_below HTB.out (by repeat (first | exact HB.out | apply below_alloc | apply pw_below_drewN | apply below_drew1)))
   rintro e w23 ⟨rfl, hb⟩
   refine ⟨_, rfl, ?_⟩
   have n0_ := Aside0.mk (blk_below (bk_ BK342) hb)
   have n1_ := Aside0.mk (blk_below (bk_ BK343) hb)
   have n2_ := Aside0.mk (blk_below (bk_ BK345) hb)
   have n3_ := Aside0.mk (below_step bl_ hb)
   clear BK342
   clear BK343
   clear BK345
   clear HB
   have BK342 := n0_
   have BK343 := n1_
   have BK345 := n2_
   have HB := n3_
   clear n0_ n1_ n2_ n3_
   (try clear hb)
   (try clear hb2)
   (try clear hk)
   (try clear hi)
   refine hK.out _ _ ⟨cy_ BK342 0, cy_ BK342 1, cy_ BK342 2, cy_ BK342 3, cy_ BK342 4, cy_ BK342 5, cy_ BK342 6, cy_ BK342 7⟩ (fun hHeld => ?_)
   clear hK K
   refine norm_ (a' := ?_) ?_ ?_
   rotate_left
   ·show Act.put _ (some 31) _ = _
    simp only [Act.put, q_]
    rfl
   refine pl_ HT_ 18 32 tb29_139fffff_14 ?_
   refine one_ (i := 21) (N := some 35) tb29_13bfffff_14 rfl rfl (one_of HT_.out (by kernel_rfl)) (by decide) (fun K hK => ?_)
   refine goes_ Tryd.func39 (by kernel_rfl) rfl #[.int .i64 38, .string a0_3] (by rfl) rfl rfl gl_ ?_
   with_reducible refine (impl_FieldFit.calls k 38 a0_3 t349 _ A8.out).mono ?_
   rintro e w24 ⟨rfl, hb⟩
   refine ⟨_, rfl, ?_⟩
   have n0_ := Aside0.mk (blk_below (bk_ BK342) hb)
   have n1_ := Aside0.mk (blk_below (bk_ BK343) hb)
   have n2_ := Aside0.mk (blk_below (bk_ BK345) hb)
   have n3_ := Aside0.mk (below_step bl_ hb)
   clear BK342
   clear BK343
   clear BK345
   clear HB
   have BK342 := n0_
   have BK343 := n1_
   have BK345 := n2_
   have HB := n3_
   clear n0_ n1_ n2_ n3_
   (try clear hb)
   (try clear hb2)
   (try clear hk)
   (try clear hi)
   refine hK.out _ _ ⟨cy_ BK342 0, cy_ BK342 1, cy_ BK342 2, cy_ BK342 3, cy_ BK342 4, cy_ BK342 5, cy_ BK342 6, cy_ BK342 7⟩ (fun hHeld => ?_)
   clear hK K
   refine norm_ (a' := ?_) ?_ ?_
   rotate_left
   ·show Act.put _ (some 35) _ = _
    simp only [Act.put, q_]
    rfl
   refine pl_ HT_ 22 36 tb29_13ffffff_14 ?_
   refine one_ (i := 26) (N := some 40) tb29_17ffffff_14 rfl rfl (one_of HT_.out (by kernel_rfl)) (by decide) (fun K hK => ?_)
   refine Kd.R_lit_step k67 _ 67 ?hg (N := 40) ?hd (xs := ([(⟨2, a0_1⟩ : S67), (⟨3, t346 ++ (⟨#[48, 48, 48, 48]⟩ : ByteArray)⟩ : S67), (⟨4, t347⟩ : S67), (⟨11, a0_4⟩ : S67), (⟨14, t348⟩ : S67), (⟨38, t349⟩ : S67), (⟨103, a0_2⟩ : S67)] : List (S67))) (inner := [.int .i64 2, .string a0_1, .int .i64 3, .string (t346 ++ (⟨#[48, 48, 48, 48]⟩ : ByteArray)), .int .i64 4, .string t347, .int .i64 11, .string a0_4, .int .i64 14, .string t348, .int .i64 38, .string t349, .int .i64 103, .string a0_2]) (ok := fun _ => True) (okp := fun _ => True) ?hr ?hp (fun _ hk => hk) trivial (Below.refl _ _) (Nat.le_refl _) (by simp) ?_; (case hd => rfl); (case hg => rfl); (case hr => first | (go_simp; done) | (go_simp; rfl)); (case hp => exact (Reps.c2 (show Kd.M k67 _ _ _ (⟨2, a0_1⟩ : S67) [.int .i64 2, .string a0_1] from (k67_mkM _ _ _ (⟨2, a0_1⟩ : S67) )) (Reps.c2 (show Kd.M k67 _ _ _ (⟨3, t346 ++ (⟨#[48, 48, 48, 48]⟩ : ByteArray)⟩ : S67) [.int .i64 3, .string (t346 ++ (⟨#[48, 48, 48, 48]⟩ : ByteArray))] from (k67_mkM _ _ _ (⟨3, t346 ++ (⟨#[48, 48, 48, 48]⟩ : ByteArray)⟩ : S67) )) (Reps.c2 (show Kd.M k67 _ _ _ (⟨4, t347⟩ : S67) [.int .i64 4, .string t347] from (k67_mkM _ _ _ (⟨4, t347⟩ : S67) )) (Reps.c2 (show Kd.M k67 _ _ _ (⟨11, a0_4⟩ : S67) [.int .i64 11, .string a0_4] from (k67_mkM _ _ _ (⟨11, a0_4⟩ : S67) )) (Reps.c2 (show Kd.M k67 _ _ _ (⟨14, t348⟩ : S67) [.int .i64 14, .string t348] from (k67_mkM _ _ _ (⟨14, t348⟩ : S67) )) (Reps.c2 (show Kd.M k67 _ _ _ (⟨38, t349⟩ : S67) [.int .i64 38, .string t349] from (k67_mkM _ _ _ (⟨38, t349⟩ : S67) )) (Reps.c2 (show Kd.M k67 _ _ _ (⟨103, a0_2⟩ : S67) [.int .i64 103, .string a0_2] from (k67_mkM _ _ _ (⟨103, a0_2⟩ : S67) )) (Reps.none _ _)))))))))
   intro v351 w25 ho26 hb hg_ hnew_
   clear hg_ hnew_
   (first | rw [← Ny350.out] at ho26 | (simp only [Int.reduceToNat] at ho26; rw [← Ny350.out] at ho26))
   have n0_ := Aside0.mk (Kd.R_lower ho26 (below_size bl_))
   have n1_ := Aside0.mk (blk_below (bk_ BK342) hb)
   have n2_ := Aside0.mk (blk_below (bk_ BK343) hb)
   have n3_ := Aside0.mk (blk_below (bk_ BK345) hb)
   have n4_ := Aside0.mk (below_step bl_ hb)
   clear BK342
   clear BK343
   clear BK345
   clear HB
   have HO352 := n0_
   have BK342 := n1_
   have BK343 := n2_
   have BK345 := n3_
   have HB := n4_
   clear n0_ n1_ n2_ n3_ n4_
   clear hb ho26
   obtain ⟨Ao27, co27, eo27⟩ := Kd.R_slice HO352.out
   (first | subst eo27 | (injection eo27 with f1_ f2_ f3_; have f4_ := f1_.symm; have f5_ := f3_.symm; clear f1_ f2_ f3_; subst f4_; subst f5_))
   refine hK.out _ _ ⟨cy_ BK342 0, cy_ BK342 1, cy_ BK342 2, cy_ BK342 3, cy_ BK342 4, cy_ BK342 5, cy_ BK342 6, cy_ BK342 7⟩ (fun hHeld => ?_)
   clear hK K
   refine norm_ (a' := ?_) ?_ ?_
   rotate_left
   ·show Act.put _ (some 40) _ = _
    simp only [Act.put, q_]
    rfl
   refine pl_ HT_ 27 41 tb29_1fffffff_14 ?_
   refine done_ (done_of HT_.out (by kernel_rfl)) ?_
   try go_wp2
   go_loopg [42] k (fun kq v42 w' => ∃ (x42_1 : Int) (x346001_1 : List (S67)) (u346001 : Value), v42 = .int .i64 x42_1 ∧ Aside0 (impl_ReqMsg.l0 kq y350 (y350.length : Int) x42_1 a0_0 a0_1 a0_2 a0_3 a0_4 a0_5 a0_6 a0_7 a0_5 x346001_1 = some (r1, r2, r3)) ∧ Aside0 (kq ≤ k) ∧ Aside0 (Kd.R k67 67 w' w.heap.size (fun k_ => some k_ ≠ (u346001 : Value).ownBlock) (.slice Ao27 y350.length co27) y350) ∧ Aside0 (Kd.R k67 67 w' w.heap.size (fun k_ => some k_ ≠ ((.slice Ao27 y350.length co27) : Value).ownBlock) u346001 x346001_1) ∧ Aside0 (w'.heap[gb342]? = some (.cells #[.int .i64 a0_0, .string a0_1, .string a0_2, .string a0_3, .string a0_4, .string a0_5, .int .i64 a0_6, .int .i64 a0_7] 45 (0, 0))) ∧ Aside0 (w'.heap[gb343]? = some (.cells #[.string (⟨#[]⟩ : ByteArray), (.slice none 0 0)] 42 (0, 0))) ∧ Aside0 (w'.heap[gb345]? = some (.cells #[.string a0_5, u346001] 42 (0, 0))) ∧ Aside0 (Below w.heap.size w w'))
   case atStart => exact ⟨(0), (([] : List (S67))), (.slice none 0 0), sp_, H', ⟨Nat.le_refl _⟩, ⟨by (with_reducible repeat (first | apply Kd.R_alloc | apply Kd.R_drewN | apply Kd.R_drew)); exact Kd.R_mono HO352.out (fun _ hk => (by simp [Value.ownBlock]))⟩, ⟨by first | exact Kd.R_nil _ _ _ _ _ | exact Kd.N_nil _ _ _ _ _ | exact Kd.V_nil _ _ _ _ _ | exact Kd.Q_nil _ _ _ _ _ | exact Kd.S_nil _ _ _ _ _⟩, ⟨by (with_reducible repeat (first | refine blk_drewN ?_ _ | refine blk_drew ?_ | refine blk_alloc ?_ _)); exact BK342.out⟩, ⟨by (with_reducible repeat (first | refine blk_drewN ?_ _ | refine blk_drew ?_ | refine blk_alloc ?_ _)); exact BK343.out⟩, ⟨by (with_reducible repeat (first | refine blk_drewN ?_ _ | refine blk_drew ?_ | refine blk_alloc ?_ _)); exact BK345.out⟩, ⟨bl_⟩⟩
   case round =>
    clear H'
    try clear c1
    try clear c2
    try clear p2
    try clear c3
    try clear c5
    try clear c5b0
    try clear c5b1
    try clear c5b2
    try clear c11
    try clear c15
    try clear c16
    try clear c17
    try clear hcz12_0
    try clear hcz12_1
    try clear hcz12_2
    try clear hcz12_3
    try clear hcz12_4
    try clear hcz12_5
    try clear hcz12_6
    try clear hcz12_7
    try clear hcz14_0
    try clear hcz14_1
    try clear hcz14_2
    try clear hcz14_3
    try clear hcz14_4
    try clear hcz14_5
    try clear hcz14_6
    try clear hcz14_7
    try clear hcz18_0
    try clear hcz18_1
    try clear hfz12_0
    try clear hfz12_1
    try clear hfz12_2
    try clear hfz12_3
    try clear hfz12_4
    try clear hfz12_5
    try clear hfz12_6
    try clear hfz12_7
    try clear hfz14_0
    try clear hfz14_1
    try clear hfz14_2
    try clear hfz14_3
    try clear hfz14_4
    try clear hfz14_5
    try clear hfz14_6
    try clear hfz14_7
    try clear hfz18_0
    try clear hfz18_1
    obtain ⟨x42_1, x346001_1, u346001, rfl, HA, HK1, HO_40, HO_346001, BK342, BK343, BK345, HB⟩ := hrel
    cases gk with
    | zero => exact absurd HA.out (by simp [impl_ReqMsg.l0])
    | succ k1 =>
     have H := HA.out
     clear HA
     simp only [impl_ReqMsg.l0] at H
     by_cases c28 : x42_1 < (y350.length : Int)
     ·rw [if_pos c28] at H
      have c28b0 : decide (x42_1 < (y350.length : Int)) = true := decide_eq_true c28
      clear c28
      by_cases c29 : 0 ≤ x42_1
      ·rw [if_pos c29] at H
       have c29b0 : decide (0 ≤ x42_1) = true := decide_eq_true c29
       clear c29
       by_cases c30 : x42_1 < (y350.length : Int)
       ·rw [if_pos c30] at H
        have c30b0 : decide (x42_1 < (y350.length : Int)) = true := decide_eq_true c30
        clear c30
        by_cases c31 : ((rd_T67 y350 x42_1).f0) = 2
        ·rw [if_pos c31] at H
         have c31b0 : (((rd_T67 y350 x42_1).f0) == 2) = true := beq_iff_eq.mpr c31
         have c31b1 : (((rd_T67 y350 x42_1).f0) != 2) = false := bne_eq_false_iff_eq.mpr c31
         clear c31
         by_cases c32 : x346001_1.length < 5864062014805
         ·rw [if_pos c32] at H
          have LMc32 := Aside0.mk c32
          clear c32
          obtain ⟨y355, hy355⟩ : ∃ y_ : List (S67), y_ = (x346001_1 ++ [(⟨(rd_T67 y350 x42_1).f0, (rd_T67 y350 x42_1).f1⟩ : S67)]) := ⟨_, rfl⟩
          replace H : (impl_ReqMsg.l0 k1 y350 (y350.length : Int) (wrap64 (x42_1 + 1)) a0_0 a0_1 a0_2 a0_3 a0_4 a0_5 a0_6 a0_7 a0_5 y355) = some (r1, r2, r3) := by first | (rw [hy355]; with_reducible exact H) | (have H2_ := (Option.bind_some _ _).symm.trans H; rw [hy355]; with_reducible exact H2_) | (have H2_ := (Option.bind_some _ _).symm.trans H; with_reducible exact H2_) | with_reducible exact H | (rw [hy355]; exact H) | exact H
          have Ny355 := Aside0.mk hy355
          clear hy355
          have H' := Aside0.mk H
          clear H
          have p353 : 0 ≤ (x42_1 : Int) := od_
          have q353 : x42_1 < (y350.length : Int) := od_
          obtain ⟨ad353, e353, hx353_0, hx353_1⟩ := at_T67 (Kd.R_reads' HO_40.out).2.2 x42_1 p353 q353
          cases e353
          replace p353 := eq_true p353
          replace q353 := eq_true q353
          go_wp2_with (first | ((with_reducible refine gate_dst (N := 6) rfl ?_); refine be_ (N := 6) (cs := #[.int .i64 0, .string (⟨#[]⟩ : ByteArray)]) (t := 67) ?_; intro gb354 hg w33 hbox hb; replace HO_40 := Aside0.mk (Kd.R_below (Kd.R_elderB (ra_ HO_40) gb354 (Nat.le_of_eq hg.symm)) hb); replace HO_346001 := Aside0.mk (Kd.R_below (Kd.R_elderB (ra_ HO_346001) gb354 (Nat.le_of_eq hg.symm)) hb); have BK354 := Aside0.mk (hbox); have GW354 := gw_ (w := w) hg; have GE354 := gw_ (w := w) hg; replace HB := Aside0.mk (below_step bl_ hb); have NB342_354 := Aside0.mk ((by rw [hg]; exact Nat.ne_of_lt (blk_lt (bk_ BK342)) : gb342 ≠ gb354)); have NB354_342 := Aside0.mk ((by rw [hg]; exact Nat.ne_of_gt (blk_lt (bk_ BK342)) : gb354 ≠ gb342)); replace BK342 := Aside0.mk (blk_below (bk_ BK342) hb); have NB343_354 := Aside0.mk ((by rw [hg]; exact Nat.ne_of_lt (blk_lt (bk_ BK343)) : gb343 ≠ gb354)); have NB354_343 := Aside0.mk ((by rw [hg]; exact Nat.ne_of_gt (blk_lt (bk_ BK343)) : gb354 ≠ gb343)); replace BK343 := Aside0.mk (blk_below (bk_ BK343) hb); have NB345_354 := Aside0.mk ((by rw [hg]; exact Nat.ne_of_lt (blk_lt (bk_ BK345)) : gb345 ≠ gb354)); have NB354_345 := Aside0.mk ((by rw [hg]; exact Nat.ne_of_gt (blk_lt (bk_ BK345)) : gb354 ≠ gb345)); replace BK345 := Aside0.mk (blk_below (bk_ BK345) hb); clear hb hbox hg; have hnb34 := NB354_342.out; have hnc34 := NB342_354.out; have hnb35 := NB354_343.out; have hnc35 := NB343_354.out; have hnb36 := NB354_345.out; have hnc36 := NB345_354.out; obtain ⟨hcz37_0, hcz37_1, hfz37_0, hfz37_1⟩ := bx2_ BK354; have hnb38 := NB345_342.out; have hnc38 := NB342_345.out; have hnb39 := NB345_343.out; have hnc39 := NB343_345.out; obtain ⟨hcz40_0, hcz40_1, hfz40_0, hfz40_1⟩ := bx2_ BK345) | ((with_reducible refine gate_builtin (b := .append) (xs := #[.tmp 67, .tmp 69]) rfl ?_); at_builtin; refine Kd.R_append k67 (w0 := w) w.heap.size rfl (.tmp 67) (.tmp 69) 40 67 (.agg #[(.int .i64 0), (.string ⟨#[]⟩)]) 24 rfl Tryd.underlying40 info67 rfl (by decide) (by omega) u346001 x346001_1 (⟨(rd_T67 y350 x42_1).f0, (rd_T67 y350 x42_1).f1⟩ : S67) [.int .i64 ((rd_T67 y350 x42_1).f0), .string ((rd_T67 y350 x42_1).f1)] (fun k_ => some k_ ≠ (.slice (some ad353) y350.length co27 : Value).ownBlock ∧ k_ ≠ gb354) (fun _ => False) rfl (by first | (go_simp; done) | (go_simp; rfl)) ?aP (fun _ hk => hk.elim) ?aF ?aO ?aB ?aS ?aL ?_; (case aP => exact k67_mkM _ _ _ (⟨(rd_T67 y350 x42_1).f0, (rd_T67 y350 x42_1).f1⟩ : S67)); (case aB => exact bl_); (case aF => exact (fun k_ hk => ⟨Kd.fresh' (Kd.R_lt (by (with_reducible repeat (first | apply Kd.R_alloc | apply Kd.R_drewN | apply Kd.R_drew)); exact (Kd.R_mono (Kd.R_far (p := ⟨gb354, 1, none⟩) (Kd.R_far (p := ⟨gb354, 0, none⟩) (Kd.R_mono HO_40.out (fun k_ hk => (⟨hk, hk.2⟩ : _ ∧ k_ ≠ gb354))) (fun _ hk => hk.2) (.int .i64 ((rd_T67 y350 x42_1).f0))) (fun _ hk => hk.2) (.string ((rd_T67 y350 x42_1).f1))) (fun _ h_ => h_.1)))) k_ hk, Kd.freshB (g := gb354) (o := .cells #[.int .i64 ((rd_T67 y350 x42_1).f0), .string ((rd_T67 y350 x42_1).f1)] 67 (0, 0)) (by (with_reducible repeat (first | refine blk_drewN ?_ _ | refine blk_drew ?_ | refine blk_alloc ?_ _)); apply bq2_1_0_; (with_reducible repeat (first | refine blk_drewN ?_ _ | refine blk_drew ?_ | refine blk_alloc ?_ _)); exact BK354.out) k_ hk⟩)); (case aO => exact (by (with_reducible repeat (first | apply Kd.R_alloc | apply Kd.R_drewN | apply Kd.R_drew)); exact Kd.R_mono (Kd.R_far (p := ⟨gb354, 1, none⟩) (Kd.R_far (p := ⟨gb354, 0, none⟩) (Kd.R_mono HO_346001.out (fun k_ hk => (⟨hk, hk.2⟩ : _ ∧ k_ ≠ gb354))) (fun _ hk => hk.2) (.int .i64 ((rd_T67 y350 x42_1).f0))) (fun _ hk => hk.2) (.string ((rd_T67 y350 x42_1).f1))) (fun _ hk => ⟨hk.1.1, hk.1.2⟩))); (case aS => exact (below_size bl_)); (case aL => have := LMc32.out; omega); intro v356 w41 ho hb hg hat; rw [← Ny355.out] at ho; have n0_ := Aside0.mk (Kd.R_after (ok := (fun k_ => k_ ≠ gb354)) (by (with_reducible repeat (first | apply Kd.R_alloc | apply Kd.R_drewN | apply Kd.R_drew)); exact Kd.R_mono (Kd.R_far (p := ⟨gb354, 1, none⟩) (Kd.R_far (p := ⟨gb354, 0, none⟩) (Kd.R_mono HO_40.out (fun k_ hk => (⟨hk, hk.2⟩ : _ ∧ k_ ≠ gb354))) (fun _ hk => hk.2) (.int .i64 ((rd_T67 y350 x42_1).f0))) (fun _ hk => hk.2) (.string ((rd_T67 y350 x42_1).f1))) (fun _ hk => ⟨hk.1.2, hk.1.1⟩)) hg hat); have n1_ := Aside0.mk (blk_grown (g := gb342) (o := .cells #[.int .i64 a0_0, .string a0_1, .string a0_2, .string a0_3, .string a0_4, .string a0_5, .int .i64 a0_6, .int .i64 a0_7] 45 (0, 0)) (by (with_reducible repeat (first | refine blk_drewN ?_ _ | refine blk_drew ?_ | refine blk_alloc ?_ _)); refine blk_far ?_ NB342_354.out _; (with_reducible repeat (first | refine blk_drewN ?_ _ | refine blk_drew ?_ | refine blk_alloc ?_ _)); refine blk_far ?_ NB342_354.out _; (with_reducible repeat (first | refine blk_drewN ?_ _ | refine blk_drew ?_ | refine blk_alloc ?_ _)); exact BK342.out) hg (Kd.R_ne HO_346001.out BK342.out (by decide))); have n2_ := Aside0.mk (blk_grown (g := gb343) (o := .cells #[.string (⟨#[]⟩ : ByteArray), .slice none 0 0] 42 (0, 0)) (by (with_reducible repeat (first | refine blk_drewN ?_ _ | refine blk_drew ?_ | refine blk_alloc ?_ _)); refine blk_far ?_ NB343_354.out _; (with_reducible repeat (first | refine blk_drewN ?_ _ | refine blk_drew ?_ | refine blk_alloc ?_ _)); refine blk_far ?_ NB343_354.out _; (with_reducible repeat (first | refine blk_drewN ?_ _ | refine blk_drew ?_ | refine blk_alloc ?_ _)); exact BK343.out) hg (Kd.R_ne HO_346001.out BK343.out (by decide))); have n3_ := Aside0.mk (blk_grown (g := gb345) (o := .cells #[.string a0_5, u346001] 42 (0, 0)) (by (with_reducible repeat (first | refine blk_drewN ?_ _ | refine blk_drew ?_ | refine blk_alloc ?_ _)); refine blk_far ?_ NB345_354.out _; (with_reducible repeat (first | refine blk_drewN ?_ _ | refine blk_drew ?_ | refine blk_alloc ?_ _)); refine blk_far ?_ NB345_354.out _; (with_reducible repeat (first | refine blk_drewN ?_ _ | refine blk_drew ?_ | refine blk_alloc ?_ _)); exact BK345.out) hg (Kd.R_ne HO_346001.out BK345.out (by decide))); have n4_ := Aside0.mk (blk_grown (g := gb354) (o := .cells #[.int .i64 ((rd_T67 y350 x42_1).f0), .string ((rd_T67 y350 x42_1).f1)] 67 (0, 0)) (by (with_reducible repeat (first | refine blk_drewN ?_ _ | refine blk_drew ?_ | refine blk_alloc ?_ _)); apply bq2_1_0_; (with_reducible repeat (first | refine blk_drewN ?_ _ | refine blk_drew ?_ | refine blk_alloc ?_ _)); exact BK354.out) hg (Kd.R_away HO_346001.out (fun _ hk => hk.2))); have n5_ := Aside0.mk (hb); have n6_ := Aside0.mk (ho); clear HO_40; clear BK342; clear BK343; clear BK345; clear BK354; clear HB; clear HO_346001; have HO_40 := n0_; have BK342 := n1_; have BK343 := n2_; have BK345 := n3_; have BK354 := n4_; have HB := n5_; have HO357 := n6_; clear n0_ n1_ n2_ n3_ n4_ n5_ n6_; clear ho hb hg hat; obtain ⟨Ao42, co42, eo42⟩ := Kd.R_slice HO357.out; subst eo42; obtain ⟨hcz43_0, hcz43_1, hfz43_0, hfz43_1⟩ := bx2_ BK345))
          go_roundg k1
          case measure => have := HK1.out; omega
          case rel => exact ⟨(wrap64 (x42_1 + 1)), (y355), (.slice Ao42 y355.length co42), sp_, H', ⟨by have := HK1.out; omega⟩, ⟨by (with_reducible repeat (first | apply Kd.R_alloc | apply Kd.R_drewN | apply Kd.R_drew)); exact Kd.R_mono (Kd.R_far (p := ⟨gb345, 1, none⟩) (Kd.R_types HO_40.out BK345.out (by decide)) (fun _ hk => hk.2) (.slice Ao42 y355.length co42)) (fun _ hk => hk.1.2)⟩, ⟨by (with_reducible repeat (first | apply Kd.R_alloc | apply Kd.R_drewN | apply Kd.R_drew)); exact Kd.R_mono (Kd.R_far (p := ⟨gb345, 1, none⟩) (Kd.R_types HO357.out BK345.out (by decide)) (fun _ hk => hk.2) (.slice Ao42 y355.length co42)) (fun _ hk => hk.1.1)⟩, ⟨by (with_reducible repeat (first | refine blk_drewN ?_ _ | refine blk_drew ?_ | refine blk_alloc ?_ _)); refine blk_far ?_ NB342_345.out _; (with_reducible repeat (first | refine blk_drewN ?_ _ | refine blk_drew ?_ | refine blk_alloc ?_ _)); exact BK342.out⟩, ⟨by (with_reducible repeat (first | refine blk_drewN ?_ _ | refine blk_drew ?_ | refine blk_alloc ?_ _)); refine blk_far ?_ NB343_345.out _; (with_reducible repeat (first | refine blk_drewN ?_ _ | refine blk_drew ?_ | refine blk_alloc ?_ _)); exact BK343.out⟩, ⟨by (with_reducible repeat (first | refine blk_drewN ?_ _ | refine blk_drew ?_ | refine blk_alloc ?_ _)); apply bq2_1_; (with_reducible repeat (first | refine blk_drewN ?_ _ | refine blk_drew ?_ | refine blk_alloc ?_ _)); exact BK345.out⟩, ⟨bl_⟩⟩
         ·rw [if_neg c32] at H
          exact absurd H (by simp)
        ·rw [if_neg c31] at H
         have c31b0 : (((rd_T67 y350 x42_1).f0) == 2) = false := beq_eq_false_iff_ne.mpr c31
         have c31b1 : (((rd_T67 y350 x42_1).f0) != 2) = true := bne_iff_ne.mpr c31
         by_cases c44 : ((rd_T67 y350 x42_1).f0) = 3
         ·rw [if_pos c44] at H
          have c44b0 : (((rd_T67 y350 x42_1).f0) == 3) = true := beq_iff_eq.mpr c44
          have c44b1 : (((rd_T67 y350 x42_1).f0) != 3) = false := bne_eq_false_iff_eq.mpr c44
          clear c44
          by_cases c45 : x346001_1.length < 5864062014805
          ·rw [if_pos c45] at H
           have LMc45 := Aside0.mk c45
           clear c45
           obtain ⟨y358, hy358⟩ : ∃ y_ : List (S67), y_ = (x346001_1 ++ [(⟨(rd_T67 y350 x42_1).f0, (rd_T67 y350 x42_1).f1⟩ : S67)]) := ⟨_, rfl⟩
           replace H : (impl_ReqMsg.l0 k1 y350 (y350.length : Int) (wrap64 (x42_1 + 1)) a0_0 a0_1 a0_2 a0_3 a0_4 a0_5 a0_6 a0_7 a0_5 y358) = some (r1, r2, r3) := by first | (rw [hy358]; with_reducible exact H) | (have H2_ := (Option.bind_some _ _).symm.trans H; rw [hy358]; with_reducible exact H2_) | (have H2_ := (Option.bind_some _ _).symm.trans H; with_reducible exact H2_) | with_reducible exact H | (rw [hy358]; exact H) | exact H
           have Ny358 := Aside0.mk hy358
           clear hy358
           have H' := Aside0.mk H
           clear H
           have p353 : 0 ≤ (x42_1 : Int) := od_
           have q353 : x42_1 < (y350.length : Int) := od_
           obtain ⟨ad353, e353, hx353_0, hx353_1⟩ := at_T67 (Kd.R_reads' HO_40.out).2.2 x42_1 p353 q353
           cases e353
           replace p353 := eq_true p353
           replace q353 := eq_true q353
           go_wp2_with (first | ((with_reducible refine gate_dst (N := 6) rfl ?_); refine be_ (N := 6) (cs := #[.int .i64 0, .string (⟨#[]⟩ : ByteArray)]) (t := 67) ?_; intro gb354 hg w46 hbox hb; replace HO_40 := Aside0.mk (Kd.R_below (Kd.R_elderB (ra_ HO_40) gb354 (Nat.le_of_eq hg.symm)) hb); replace HO_346001 := Aside0.mk (Kd.R_below (Kd.R_elderB (ra_ HO_346001) gb354 (Nat.le_of_eq hg.symm)) hb); have BK354 := Aside0.mk (hbox); have GW354 := gw_ (w := w) hg; have GE354 := gw_ (w := w) hg; replace HB := Aside0.mk (below_step bl_ hb); have NB342_354 := Aside0.mk ((by rw [hg]; exact Nat.ne_of_lt (blk_lt (bk_ BK342)) : gb342 ≠ gb354)); have NB354_342 := Aside0.mk ((by rw [hg]; exact Nat.ne_of_gt (blk_lt (bk_ BK342)) : gb354 ≠ gb342)); replace BK342 := Aside0.mk (blk_below (bk_ BK342) hb); have NB343_354 := Aside0.mk ((by rw [hg]; exact Nat.ne_of_lt (blk_lt (bk_ BK343)) : gb343 ≠ gb354)); have NB354_343 := Aside0.mk ((by rw [hg]; exact Nat.ne_of_gt (blk_lt (bk_ BK343)) : gb354 ≠ gb343)); replace BK343 := Aside0.mk (blk_below (bk_ BK343) hb); have NB345_354 := Aside0.mk ((by rw [hg]; exact Nat.ne_of_lt (blk_lt (bk_ BK345)) : gb345 ≠ gb354)); have NB354_345 := Aside0.mk ((by rw [hg]; exact Nat.ne_of_gt (blk_lt (bk_ BK345)) : gb354 ≠ gb345)); replace BK345 := Aside0.mk (blk_below (bk_ BK345) hb); clear hb hbox hg; have hnb47 := NB354_342.out; have hnc47 := NB342_354.out; have hnb48 := NB354_343.out; have hnc48 := NB343_354.out; have hnb49 := NB354_345.out; have hnc49 := NB345_354.out; obtain ⟨hcz50_0, hcz50_1, hfz50_0, hfz50_1⟩ := bx2_ BK354; have hnb51 := NB345_342.out; have hnc51 := NB342_345.out; have hnb52 := NB345_343.out; have hnc52 := NB343_345.out; obtain ⟨hcz53_0, hcz53_1, hfz53_0, hfz53_1⟩ := bx2_ BK345) | ((with_reducible refine gate_builtin (b := .append) (xs := #[.tmp 67, .tmp 69]) rfl ?_); at_builtin; refine Kd.R_append k67 (w0 := w) w.heap.size rfl (.tmp 67) (.tmp 69) 40 67 (.agg #[(.int .i64 0), (.string ⟨#[]⟩)]) 24 rfl Tryd.underlying40 info67 rfl (by decide) (by omega) u346001 x346001_1 (⟨(rd_T67 y350 x42_1).f0, (rd_T67 y350 x42_1).f1⟩ : S67) [.int .i64 ((rd_T67 y350 x42_1).f0), .string ((rd_T67 y350 x42_1).f1)] (fun k_ => some k_ ≠ (.slice (some ad353) y350.length co27 : Value).ownBlock ∧ k_ ≠ gb354) (fun _ => False) rfl (by first | (go_simp; done) | (go_simp; rfl)) ?aP (fun _ hk => hk.elim) ?aF ?aO ?aB ?aS ?aL ?_; (case aP => exact k67_mkM _ _ _ (⟨(rd_T67 y350 x42_1).f0, (rd_T67 y350 x42_1).f1⟩ : S67)); (case aB => exact bl_); (case aF => exact (fun k_ hk => ⟨Kd.fresh' (Kd.R_lt (by (with_reducible repeat (first | apply Kd.R_alloc | apply Kd.R_drewN | apply Kd.R_drew)); exact (Kd.R_mono (Kd.R_far (p := ⟨gb354, 1, none⟩) (Kd.R_far (p := ⟨gb354, 0, none⟩) (Kd.R_mono HO_40.out (fun k_ hk => (⟨hk, hk.2⟩ : _ ∧ k_ ≠ gb354))) (fun _ hk => hk.2) (.int .i64 ((rd_T67 y350 x42_1).f0))) (fun _ hk => hk.2) (.string ((rd_T67 y350 x42_1).f1))) (fun _ h_ => h_.1)))) k_ hk, Kd.freshB (g := gb354) (o := .cells #[.int .i64 ((rd_T67 y350 x42_1).f0), .string ((rd_T67 y350 x42_1).f1)] 67 (0, 0)) (by (with_reducible repeat (first | refine blk_drewN ?_ _ | refine blk_drew ?_ | refine blk_alloc ?_ _)); apply bq2_1_0_; (with_reducible repeat (first | refine blk_drewN ?_ _ | refine blk_drew ?_ | refine blk_alloc ?_ _)); exact BK354.out) k_ hk⟩)); (case aO => exact (by (with_reducible repeat (first | apply Kd.R_alloc | apply Kd.R_drewN | apply Kd.R_drew)); exact Kd.R_mono (Kd.R_far (p := ⟨gb354, 1, none⟩) (Kd.R_far (p := ⟨gb354, 0, none⟩) (Kd.R_mono HO_346001.out (fun k_ hk => (⟨hk, hk.2⟩ : _ ∧ k_ ≠ gb354))) (fun _ hk => hk.2) (.int .i64 ((rd_T67 y350 x42_1).f0))) (fun _ hk => hk.2) (.string ((rd_T67 y350 x42_1).f1))) (fun _ hk => ⟨hk.1.1, hk.1.2⟩))); (case aS => exact (below_size bl_)); (case aL => have := LMc45.out; omega); intro v359 w54 ho hb hg hat; rw [← Ny358.out] at ho; have n0_ := Aside0.mk (Kd.R_after (ok := (fun k_ => k_ ≠ gb354)) (by (with_reducible repeat (first | apply Kd.R_alloc | apply Kd.R_drewN | apply Kd.R_drew)); exact Kd.R_mono (Kd.R_far (p := ⟨gb354, 1, none⟩) (Kd.R_far (p := ⟨gb354, 0, none⟩) (Kd.R_mono HO_40.out (fun k_ hk => (⟨hk, hk.2⟩ : _ ∧ k_ ≠ gb354))) (fun _ hk => hk.2) (.int .i64 ((rd_T67 y350 x42_1).f0))) (fun _ hk => hk.2) (.string ((rd_T67 y350 x42_1).f1))) (fun _ hk => ⟨hk.1.2, hk.1.1⟩)) hg hat); have n1_ := Aside0.mk (blk_grown (g := gb342) (o := .cells #[.int .i64 a0_0, .string a0_1, .string a0_2, .string a0_3, .string a0_4, .string a0_5, .int .i64 a0_6, .int .i64 a0_7] 45 (0, 0)) (by (with_reducible repeat (first | refine blk_drewN ?_ _ | refine blk_drew ?_ | refine blk_alloc ?_ _)); refine blk_far ?_ NB342_354.out _; (with_reducible repeat (first | refine blk_drewN ?_ _ | refine blk_drew ?_ | refine blk_alloc ?_ _)); refine blk_far ?_ NB342_354.out _; (with_reducible repeat (first | refine blk_drewN ?_ _ | refine blk_drew ?_ | refine blk_alloc ?_ _)); exact BK342.out) hg (Kd.R_ne HO_346001.out BK342.out (by decide))); have n2_ := Aside0.mk (blk_grown (g := gb343) (o := .cells #[.string (⟨#[]⟩ : ByteArray), .slice none 0 0] 42 (0, 0)) (by (with_reducible repeat (first | refine blk_drewN ?_ _ | refine blk_drew ?_ | refine blk_alloc ?_ _)); refine blk_far ?_ NB343_354.out _; (with_reducible repeat (first | refine blk_drewN ?_ _ | refine blk_drew ?_ | refine blk_alloc ?_ _)); refine blk_far ?_ NB343_354.out _; (with_reducible repeat (first | refine blk_drewN ?_ _ | refine blk_drew ?_ | refine blk_alloc ?_ _)); exact BK343.out) hg (Kd.R_ne HO_346001.out BK343.out (by decide))); have n3_ := Aside0.mk (blk_grown (g := gb345) (o := .cells #[.string a0_5, u346001] 42 (0, 0)) (by (with_reducible repeat (first | refine blk_drewN ?_ _ | refine blk_drew ?_ | refine blk_alloc ?_ _)); refine blk_far ?_ NB345_354.out _; (with_reducible repeat (first | refine blk_drewN ?_ _ | refine blk_drew ?_ | refine blk_alloc ?_ _)); refine blk_far ?_ NB345_354.out _; (with_reducible repeat (first | refine blk_drewN ?_ _ | refine blk_drew ?_ | refine blk_alloc ?_ _)); exact BK345.out) hg (Kd.R_ne HO_346001.out BK345.out (by decide))); have n4_ := Aside0.mk (blk_grown (g := gb354) (o := .cells #[.int .i64 ((rd_T67 y350 x42_1).f0), .string ((rd_T67 y350 x42_1).f1)] 67 (0, 0)) (by (with_reducible repeat (first | refine blk_drewN ?_ _ | refine blk_drew ?_ | refine blk_alloc ?_ _)); apply bq2_1_0_; (with_reducible repeat (first | refine blk_drewN ?_ _ | refine blk_drew ?_ | refine blk_alloc ?_ _)); exact BK354.out) hg (Kd.R_away HO_346001.out (fun _ hk => hk.2))); have n5_ := Aside0.mk (hb); have n6_ := Aside0.mk (ho); clear HO_40; clear BK342; clear BK343; clear BK345; clear BK354; clear HB; clear HO_346001; have HO_40 := n0_; have BK342 := n1_; have BK343 := n2_; have BK345 := n3_; have BK354 := n4_; have HB := n5_; have HO360 := n6_; clear n0_ n1_ n2_ n3_ n4_ n5_ n6_; clear ho hb hg hat; obtain ⟨Ao55, co55, eo55⟩ := Kd.R_slice HO360.out; subst eo55; obtain ⟨hcz56_0, hcz56_1, hfz56_0, hfz56_1⟩ := bx2_ BK345))
           go_roundg k1
           case measure => have := HK1.out; omega
           case rel => exact ⟨(wrap64 (x42_1 + 1)), (y358), (.slice Ao55 y358.length co55), sp_, H', ⟨by have := HK1.out; omega⟩, ⟨by (with_reducible repeat (first | apply Kd.R_alloc | apply Kd.R_drewN | apply Kd.R_drew)); exact Kd.R_mono (Kd.R_far (p := ⟨gb345, 1, none⟩) (Kd.R_types HO_40.out BK345.out (by decide)) (fun _ hk => hk.2) (.slice Ao55 y358.length co55)) (fun _ hk => hk.1.2)⟩, ⟨by (with_reducible repeat (first | apply Kd.R_alloc | apply Kd.R_drewN | apply Kd.R_drew)); exact Kd.R_mono (Kd.R_far (p := ⟨gb345, 1, none⟩) (Kd.R_types HO360.out BK345.out (by decide)) (fun _ hk => hk.2) (.slice Ao55 y358.length co55)) (fun _ hk => hk.1.1)⟩, ⟨by (with_reducible repeat (first | refine blk_drewN ?_ _ | refine blk_drew ?_ | refine blk_alloc ?_ _)); refine blk_far ?_ NB342_345.out _; (with_reducible repeat (first | refine blk_drewN ?_ _ | refine blk_drew ?_ | refine blk_alloc ?_ _)); exact BK342.out⟩, ⟨by (with_reducible repeat (first | refine blk_drewN ?_ _ | refine blk_drew ?_ | refine blk_alloc ?_ _)); refine blk_far ?_ NB343_345.out _; (with_reducible repeat (first | refine blk_drewN ?_ _ | refine blk_drew ?_ | refine blk_alloc ?_ _)); exact BK343.out⟩, ⟨by (with_reducible repeat (first | refine blk_drewN ?_ _ | refine blk_drew ?_ | refine blk_alloc ?_ _)); apply bq2_1_; (with_reducible repeat (first | refine blk_drewN ?_ _ | refine blk_drew ?_ | refine blk_alloc ?_ _)); exact BK345.out⟩, ⟨bl_⟩⟩
          ·rw [if_neg c45] at H
           exact absurd H (by simp)
         ·rw [if_neg c44] at H
          have c44b0 : (((rd_T67 y350 x42_1).f0) == 3) = false := beq_eq_false_iff_ne.mpr c44
          have c44b1 : (((rd_T67 y350 x42_1).f0) != 3) = true := bne_iff_ne.mpr c44
          by_cases c57 : ((rd_T67 y350 x42_1).f0) = 11
          ·rw [if_pos c57] at H
           have c57b0 : (((rd_T67 y350 x42_1).f0) == 11) = true := beq_iff_eq.mpr c57
           have c57b1 : (((rd_T67 y350 x42_1).f0) != 11) = false := bne_eq_false_iff_eq.mpr c57
           clear c57
           by_cases c58 : x346001_1.length < 5864062014805
           ·rw [if_pos c58] at H
            have LMc58 := Aside0.mk c58
            clear c58
            obtain ⟨y361, hy361⟩ : ∃ y_ : List (S67), y_ = (x346001_1 ++ [(⟨(rd_T67 y350 x42_1).f0, (rd_T67 y350 x42_1).f1⟩ : S67)]) := ⟨_, rfl⟩
            replace H : (impl_ReqMsg.l0 k1 y350 (y350.length : Int) (wrap64 (x42_1 + 1)) a0_0 a0_1 a0_2 a0_3 a0_4 a0_5 a0_6 a0_7 a0_5 y361) = some (r1, r2, r3) := by first | (rw [hy361]; with_reducible exact H) | (have H2_ := (Option.bind_some _ _).symm.trans H; rw [hy361]; with_reducible exact H2_) | (have H2_ := (Option.bind_some _ _).symm.trans H; with_reducible exact H2_) | with_reducible exact H | (rw [hy361]; exact H) | exact H
            have Ny361 := Aside0.mk hy361
            clear hy361
            have H' := Aside0.mk H
            clear H
            have p353 : 0 ≤ (x42_1 : Int) := od_
            have q353 : x42_1 < (y350.length : Int) := od_
            obtain ⟨ad353, e353, hx353_0, hx353_1⟩ := at_T67 (Kd.R_reads' HO_40.out).2.2 x42_1 p353 q353
            cases e353
            replace p353 := eq_true p353
            replace q353 := eq_true q353
            go_wp2_with (first | ((with_reducible refine gate_dst (N := 6) rfl ?_); refine be_ (N := 6) (cs := #[.int .i64 0, .string (⟨#[]⟩ : ByteArray)]) (t := 67) ?_; intro gb354 hg w59 hbox hb; replace HO_40 := Aside0.mk (Kd.R_below (Kd.R_elderB (ra_ HO_40) gb354 (Nat.le_of_eq hg.symm)) hb); replace HO_346001 := Aside0.mk (Kd.R_below (Kd.R_elderB (ra_ HO_346001) gb354 (Nat.le_of_eq hg.symm)) hb); have BK354 := Aside0.mk (hbox); have GW354 := gw_ (w := w) hg; have GE354 := gw_ (w := w) hg; replace HB := Aside0.mk (below_step bl_ hb); have NB342_354 := Aside0.mk ((by rw [hg]; exact Nat.ne_of_lt (blk_lt (bk_ BK342)) : gb342 ≠ gb354)); have NB354_342 := Aside0.mk ((by rw [hg]; exact Nat.ne_of_gt (blk_lt (bk_ BK342)) : gb354 ≠ gb342)); replace BK342 := Aside0.mk (blk_below (bk_ BK342) hb); have NB343_354 := Aside0.mk ((by rw [hg]; exact Nat.ne_of_lt (blk_lt (bk_ BK343)) : gb343 ≠ gb354)); have NB354_343 := Aside0.mk ((by rw [hg]; exact Nat.ne_of_gt (blk_lt (bk_ BK343)) : gb354 ≠ gb343)); replace BK343 := Aside0.mk (blk_below (bk_ BK343) hb); have NB345_354 := Aside0.mk ((by rw [hg]; exact Nat.ne_of_lt (blk_lt (bk_ BK345)) : gb345 ≠ gb354)); have NB354_345 := Aside0.mk ((by rw [hg]; exact Nat.ne_of_gt (blk_lt (bk_ BK345)) : gb354 ≠ gb345)); replace BK345 := Aside0.mk (blk_below (bk_ BK345) hb); clear hb hbox hg; have hnb60 := NB354_342.out; have hnc60 := NB342_354.out; have hnb61 := NB354_343.out; have hnc61 := NB343_354.out; have hnb62 := NB354_345.out; have hnc62 := NB345_354.out; obtain ⟨hcz63_0, hcz63_1, hfz63_0, hfz63_1⟩ := bx2_ BK354; have hnb64 := NB345_342.out; have hnc64 := NB342_345.out; have hnb65 := NB345_343.out; have hnc65 := NB343_345.out; obtain ⟨hcz66_0, hcz66_1, hfz66_0, hfz66_1⟩ := bx2_ BK345) | ((with_reducible refine gate_builtin (b := .append) (xs := #[.tmp 67, .tmp 69]) rfl ?_); at_builtin; refine Kd.R_append k67 (w0 := w) w.heap.size rfl (.tmp 67) (.tmp 69) 40 67 (.agg #[(.int .i64 0), (.string ⟨#[]⟩)]) 24 rfl Tryd.underlying40 info67 rfl (by decide) (by omega) u346001 x346001_1 (⟨(rd_T67 y350 x42_1).f0, (rd_T67 y350 x42_1).f1⟩ : S67) [.int .i64 ((rd_T67 y350 x42_1).f0), .string ((rd_T67 y350 x42_1).f1)] (fun k_ => some k_ ≠ (.slice (some ad353) y350.length co27 : Value).ownBlock ∧ k_ ≠ gb354) (fun _ => False) rfl (by first | (go_simp; done) | (go_simp; rfl)) ?aP (fun _ hk => hk.elim) ?aF ?aO ?aB ?aS ?aL ?_; (case aP => exact k67_mkM _ _ _ (⟨(rd_T67 y350 x42_1).f0, (rd_T67 y350 x42_1).f1⟩ : S67)); (case aB => exact bl_); (case aF => exact (fun k_ hk => ⟨Kd.fresh' (Kd.R_lt (by (with_reducible repeat (first | apply Kd.R_alloc | apply Kd.R_drewN | apply Kd.R_drew)); exact (Kd.R_mono (Kd.R_far (p := ⟨gb354, 1, none⟩) (Kd.R_far (p := ⟨gb354, 0, none⟩) (Kd.R_mono HO_40.out (fun k_ hk => (⟨hk, hk.2⟩ : _ ∧ k_ ≠ gb354))) (fun _ hk => hk.2) (.int .i64 ((rd_T67 y350 x42_1).f0))) (fun _ hk => hk.2) (.string ((rd_T67 y350 x42_1).f1))) (fun _ h_ => h_.1)))) k_ hk, Kd.freshB (g := gb354) (o := .cells #[.int .i64 ((rd_T67 y350 x42_1).f0), .string ((rd_T67 y350 x42_1).f1)] 67 (0, 0)) (by (with_reducible repeat (first | refine blk_drewN ?_ _ | refine blk_drew ?_ | refine blk_alloc ?_ _)); apply bq2_1_0_; (with_reducible repeat (first | refine blk_drewN ?_ _ | refine blk_drew ?_ | refine blk_alloc ?_ _)); exact BK354.out) k_ hk⟩)); (case aO => exact (by (with_reducible repeat (first | apply Kd.R_alloc | apply Kd.R_drewN | apply Kd.R_drew)); exact Kd.R_mono (Kd.R_far (p := ⟨gb354, 1, none⟩) (Kd.R_far (p := ⟨gb354, 0, none⟩) (Kd.R_mono HO_346001.out (fun k_ hk => (⟨hk, hk.2⟩ : _ ∧ k_ ≠ gb354))) (fun _ hk => hk.2) (.int .i64 ((rd_T67 y350 x42_1).f0))) (fun _ hk => hk.2) (.string ((rd_T67 y350 x42_1).f1))) (fun _ hk => ⟨hk.1.1, hk.1.2⟩))); (case aS => exact (below_size bl_)); (case aL => have := LMc58.out; omega); intro v362 w67 ho hb hg hat; rw [← Ny361.out] at ho; have n0_ := Aside0.mk (Kd.R_after (ok := (fun k_ => k_ ≠ gb354)) (by (with_reducible repeat (first | apply Kd.R_alloc | apply Kd.R_drewN | apply Kd.R_drew)); exact Kd.R_mono (Kd.R_far (p := ⟨gb354, 1, none⟩) (Kd.R_far (p := ⟨gb354, 0, none⟩) (Kd.R_mono HO_40.out (fun k_ hk => (⟨hk, hk.2⟩ : _ ∧ k_ ≠ gb354))) (fun _ hk => hk.2) (.int .i64 ((rd_T67 y350 x42_1).f0))) (fun _ hk => hk.2) (.string ((rd_T67 y350 x42_1).f1))) (fun _ hk => ⟨hk.1.2, hk.1.1⟩)) hg hat); have n1_ := Aside0.mk (blk_grown (g := gb342) (o := .cells #[.int .i64 a0_0, .string a0_1, .string a0_2, .string a0_3, .string a0_4, .string a0_5, .int .i64 a0_6, .int .i64 a0_7] 45 (0, 0)) (by (with_reducible repeat (first | refine blk_drewN ?_ _ | refine blk_drew ?_ | refine blk_alloc ?_ _)); refine blk_far ?_ NB342_354.out _; (with_reducible repeat (first | refine blk_drewN ?_ _ | refine blk_drew ?_ | refine blk_alloc ?_ _)); refine blk_far ?_ NB342_354.out _; (with_reducible repeat (first | refine blk_drewN ?_ _ | refine blk_drew ?_ | refine blk_alloc ?_ _)); exact BK342.out) hg (Kd.R_ne HO_346001.out BK342.out (by decide))); have n2_ := Aside0.mk (blk_grown (g := gb343) (o := .cells #[.string (⟨#[]⟩ : ByteArray), .slice none 0 0] 42 (0, 0)) (by (with_reducible repeat (first | refine blk_drewN ?_ _ | refine blk_drew ?_ | refine blk_alloc ?_ _)); refine blk_far ?_ NB343_354.out _; (with_reducible repeat (first | refine blk_drewN ?_ _ | refine blk_drew ?_ | refine blk_alloc ?_ _)); refine blk_far ?_ NB343_354.out _; (with_reducible repeat (first | refine blk_drewN ?_ _ | refine blk_drew ?_ | refine blk_alloc ?_ _)); exact BK343.out) hg (Kd.R_ne HO_346001.out BK343.out (by decide))); have n3_ := Aside0.mk (blk_grown (g := gb345) (o := .cells #[.string a0_5, u346001] 42 (0, 0)) (by (with_reducible repeat (first | refine blk_drewN ?_ _ | refine blk_drew ?_ | refine blk_alloc ?_ _)); refine blk_far ?_ NB345_354.out _; (with_reducible repeat (first | refine blk_drewN ?_ _ | refine blk_drew ?_ | refine blk_alloc ?_ _)); refine blk_far ?_ NB345_354.out _; (with_reducible repeat (first | refine blk_drewN ?_ _ | refine blk_drew ?_ | refine blk_alloc ?_ _)); exact BK345.out) hg (Kd.R_ne HO_346001.out BK345.out (by decide))); have n4_ := Aside0.mk (blk_grown (g := gb354) (o := .cells #[.int .i64 ((rd_T67 y350 x42_1).f0), .string ((rd_T67 y350 x42_1).f1)] 67 (0, 0)) (by (with_reducible repeat (first | refine blk_drewN ?_ _ | refine blk_drew ?_ | refine blk_alloc ?_ _)); apply bq2_1_0_; (with_reducible repeat (first | refine blk_drewN ?_ _ | refine blk_drew ?_ | refine blk_alloc ?_ _)); exact BK354.out) hg (Kd.R_away HO_346001.out (fun _ hk => hk.2))); have n5_ := Aside0.mk (hb); have n6_ := Aside0.mk (ho); clear HO_40; clear BK342; clear BK343; clear BK345; clear BK354; clear HB; clear HO_346001; have HO_40 := n0_; have BK342 := n1_; have BK343 := n2_; have BK345 := n3_; have BK354 := n4_; have HB := n5_; have HO363 := n6_; clear n0_ n1_ n2_ n3_ n4_ n5_ n6_; clear ho hb hg hat; obtain ⟨Ao68, co68, eo68⟩ := Kd.R_slice HO363.out; subst eo68; obtain ⟨hcz69_0, hcz69_1, hfz69_0, hfz69_1⟩ := bx2_ BK345))
            go_roundg k1
            case measure => have := HK1.out; omega
            case rel => exact ⟨(wrap64 (x42_1 + 1)), (y361), (.slice Ao68 y361.length co68), sp_, H', ⟨by have := HK1.out; omega⟩, ⟨by (with_reducible repeat (first | apply Kd.R_alloc | apply Kd.R_drewN | apply Kd.R_drew)); exact Kd.R_mono (Kd.R_far (p := ⟨gb345, 1, none⟩) (Kd.R_types HO_40.out BK345.out (by decide)) (fun _ hk => hk.2) (.slice Ao68 y361.length co68)) (fun _ hk => hk.1.2)⟩, ⟨by (with_reducible repeat (first | apply Kd.R_alloc | apply Kd.R_drewN | apply Kd.R_drew)); exact Kd.R_mono (Kd.R_far (p := ⟨gb345, 1, none⟩) (Kd.R_types HO363.out BK345.out (by decide)) (fun _ hk => hk.2) (.slice Ao68 y361.length co68)) (fun _ hk => hk.1.1)⟩, ⟨by (with_reducible repeat (first | refine blk_drewN ?_ _ | refine blk_drew ?_ | refine blk_alloc ?_ _)); refine blk_far ?_ NB342_345.out _; (with_reducible repeat (first | refine blk_drewN ?_ _ | refine blk_drew ?_ | refine blk_alloc ?_ _)); exact BK342.out⟩, ⟨by (with_reducible repeat (first | refine blk_drewN ?_ _ | refine blk_drew ?_ | refine blk_alloc ?_ _)); refine blk_far ?_ NB343_345.out _; (with_reducible repeat (first | refine blk_drewN ?_ _ | refine blk_drew ?_ | refine blk_alloc ?_ _)); exact BK343.out⟩, ⟨by (with_reducible repeat (first | refine blk_drewN ?_ _ | refine blk_drew ?_ | refine blk_alloc ?_ _)); apply bq2_1_; (with_reducible repeat (first | refine blk_drewN ?_ _ | refine blk_drew ?_ | refine blk_alloc ?_ _)); exact BK345.out⟩, ⟨bl_⟩⟩
           ·rw [if_neg c58] at H
            exact absurd H (by simp)
          ·rw [if_neg c57] at H
           have c57b0 : (((rd_T67 y350 x42_1).f0) == 11) = false := beq_eq_false_iff_ne.mpr c57
           have c57b1 : (((rd_T67 y350 x42_1).f0) != 11) = true := bne_iff_ne.mpr c57
           obtain ⟨t364, A70, H⟩ := ob_ H
           by_cases c71 : t364 = true
           ·subst c71
            replace H := ip_ H
            by_cases c72 : x346001_1.length < 5864062014805
            ·rw [if_pos c72] at H
             have LMc72 := Aside0.mk c72
             clear c72
             obtain ⟨y365, hy365⟩ : ∃ y_ : List (S67), y_ = (x346001_1 ++ [(⟨(rd_T67 y350 x42_1).f0, (rd_T67 y350 x42_1).f1⟩ : S67)]) := ⟨_, rfl⟩
             replace H : (impl_ReqMsg.l0 k1 y350 (y350.length : Int) (wrap64 (x42_1 + 1)) a0_0 a0_1 a0_2 a0_3 a0_4 a0_5 a0_6 a0_7 a0_5 y365) = some (r1, r2, r3) := by first | (rw [hy365]; with_reducible exact H) | (have H2_ := (Option.bind_some _ _).symm.trans H; rw [hy365]; with_reducible exact H2_) | (have H2_ := (Option.bind_some _ _).symm.trans H; with_reducible exact H2_) | with_reducible exact H | (rw [hy365]; exact H) | exact H
             have Ny365 := Aside0.mk hy365
             clear hy365
             have H' := Aside0.mk H
             clear H
             have p353 : 0 ≤ (x42_1 : Int) := od_
             have q353 : x42_1 < (y350.length : Int) := od_
             obtain ⟨ad353, e353, hx353_0, hx353_1⟩ := at_T67 (Kd.R_reads' HO_40.out).2.2 x42_1 p353 q353
             cases e353
             replace p353 := eq_true p353
             replace q353 := eq_true q353
             go_wp2_with (first | ((with_reducible refine gate_dst (N := 6) rfl ?_); refine be_ (N := 6) (cs := #[.int .i64 0, .string (⟨#[]⟩ : ByteArray)]) (t := 67) ?_; intro gb354 hg w73 hbox hb; replace HO_40 := Aside0.mk (Kd.R_below (Kd.R_elderB (ra_ HO_40) gb354 (Nat.le_of_eq hg.symm)) hb); replace HO_346001 := Aside0.mk (Kd.R_below (Kd.R_elderB (ra_ HO_346001) gb354 (Nat.le_of_eq hg.symm)) hb); have BK354 := Aside0.mk (hbox); have GW354 := gw_ (w := w) hg; have GE354 := gw_ (w := w) hg; replace HB := Aside0.mk (below_step bl_ hb); have NB342_354 := Aside0.mk ((by rw [hg]; exact Nat.ne_of_lt (blk_lt (bk_ BK342)) : gb342 ≠ gb354)); have NB354_342 := Aside0.mk ((by rw [hg]; exact Nat.ne_of_gt (blk_lt (bk_ BK342)) : gb354 ≠ gb342)); replace BK342 := Aside0.mk (blk_below (bk_ BK342) hb); have NB343_354 := Aside0.mk ((by rw [hg]; exact Nat.ne_of_lt (blk_lt (bk_ BK343)) : gb343 ≠ gb354)); have NB354_343 := Aside0.mk ((by rw [hg]; exact Nat.ne_of_gt (blk_lt (bk_ BK343)) : gb354 ≠ gb343)); replace BK343 := Aside0.mk (blk_below (bk_ BK343) hb); have NB345_354 := Aside0.mk ((by rw [hg]; exact Nat.ne_of_lt (blk_lt (bk_ BK345)) : gb345 ≠ gb354)); have NB354_345 := Aside0.mk ((by rw [hg]; exact Nat.ne_of_gt (blk_lt (bk_ BK345)) : gb354 ≠ gb345)); replace BK345 := Aside0.mk (blk_below (bk_ BK345) hb); clear hb hbox hg; have hnb74 := NB354_342.out; have hnc74 := NB342_354.out; have hnb75 := NB354_343.out; have hnc75 := NB343_354.out; have hnb76 := NB354_345.out; have hnc76 := NB345_354.out; obtain ⟨hcz77_0, hcz77_1, hfz77_0, hfz77_1⟩ := bx2_ BK354; have hnb78 := NB342_343.out; have hnc78 := NB343_342.out; have hnb79 := NB342_345.out; have hnc79 := NB345_342.out; obtain ⟨hcz80_0, hcz80_1, hcz80_2, hcz80_3, hcz80_4, hcz80_5, hcz80_6, hcz80_7, hfz80_0, hfz80_1, hfz80_2, hfz80_3, hfz80_4, hfz80_5, hfz80_6, hfz80_7⟩ := bx8_ BK342) | (go_at_call 40; (with_reducible refine (impl_uses.calls k1 a0_0 ((rd_T67 y350 x42_1).f0) true _ A70.out).mono ?_); rintro e w81 ⟨rfl, hb⟩; replace HO_40 := Aside0.mk (Kd.R_below (by (with_reducible repeat (first | apply Kd.R_alloc | apply Kd.R_drewN | apply Kd.R_drew)); exact (Kd.R_mono (Kd.R_far (p := ⟨gb354, 1, none⟩) (Kd.R_far (p := ⟨gb354, 0, none⟩) (Kd.R_mono HO_40.out (fun k_ hk => (⟨hk, hk.2⟩ : _ ∧ k_ ≠ gb354))) (fun _ hk => hk.2) (.int .i64 ((rd_T67 y350 x42_1).f0))) (fun _ hk => hk.2) (.string ((rd_T67 y350 x42_1).f1))) (fun _ h_ => h_.1))) hb); replace HO_346001 := Aside0.mk (Kd.R_below (by (with_reducible repeat (first | apply Kd.R_alloc | apply Kd.R_drewN | apply Kd.R_drew)); exact (Kd.R_mono (Kd.R_far (p := ⟨gb354, 1, none⟩) (Kd.R_far (p := ⟨gb354, 0, none⟩) (Kd.R_mono HO_346001.out (fun k_ hk => (⟨hk, hk.2⟩ : _ ∧ k_ ≠ gb354))) (fun _ hk => hk.2) (.int .i64 ((rd_T67 y350 x42_1).f0))) (fun _ hk => hk.2) (.string ((rd_T67 y350 x42_1).f1))) (fun _ h_ => h_.1))) hb); replace BK342 := Aside0.mk (blk_below (g := gb342) (o := .cells #[.int .i64 a0_0, .string a0_1, .string a0_2, .string a0_3, .string a0_4, .string a0_5, .int .i64 a0_6, .int .i64 a0_7] 45 (0, 0)) (by (with_reducible repeat (first | refine blk_drewN ?_ _ | refine blk_drew ?_ | refine blk_alloc ?_ _)); refine blk_far ?_ NB342_354.out _; (with_reducible repeat (first | refine blk_drewN ?_ _ | refine blk_drew ?_ | refine blk_alloc ?_ _)); refine blk_far ?_ NB342_354.out _; (with_reducible repeat (first | refine blk_drewN ?_ _ | refine blk_drew ?_ | refine blk_alloc ?_ _)); exact BK342.out) hb); replace BK343 := Aside0.mk (blk_below (g := gb343) (o := .cells #[.string (⟨#[]⟩ : ByteArray), .slice none 0 0] 42 (0, 0)) (by (with_reducible repeat (first | refine blk_drewN ?_ _ | refine blk_drew ?_ | refine blk_alloc ?_ _)); refine blk_far ?_ NB343_354.out _; (with_reducible repeat (first | refine blk_drewN ?_ _ | refine blk_drew ?_ | refine blk_alloc ?_ _)); refine blk_far ?_ NB343_354.out _; (with_reducible repeat (first | refine blk_drewN ?_ _ | refine blk_drew ?_ | refine blk_alloc ?_ _)); exact BK343.out) hb); replace BK345 := Aside0.mk (blk_below (g := gb345) (o := .cells #[.string a0_5, u346001] 42 (0, 0)) (by (with_reducible repeat (first | refine blk_drewN ?_ _ | refine blk_drew ?_ | refine blk_alloc ?_ _)); refine blk_far ?_ NB345_354.out _; (with_reducible repeat (first | refine blk_drewN ?_ _ | refine blk_drew ?_ | refine blk_alloc ?_ _)); refine blk_far ?_ NB345_354.out _; (with_reducible repeat (first | refine blk_drewN ?_ _ | refine blk_drew ?_ | refine blk_alloc ?_ _)); exact BK345.out) hb); replace BK354 := Aside0.mk (blk_below (g := gb354) (o := .cells #[.int .i64 ((rd_T67 y350 x42_1).f0), .string ((rd_T67 y350 x42_1).f1)] 67 (0, 0)) (by (with_reducible repeat (first | refine blk_drewN ?_ _ | refine blk_drew ?_ | refine blk_alloc ?_ _)); apply bq2_1_0_; (with_reducible repeat (first | refine blk_drewN ?_ _ | refine blk_drew ?_ | refine blk_alloc ?_ _)); exact BK354.out) hb); replace HB := Aside0.mk (below_step bl_ hb); (try clear hb); (try clear hb2); (try clear hk); (try clear hi); have hnb82 := NB345_343.out; have hnc82 := NB343_345.out; obtain ⟨hcz83_0, hcz83_1, hfz83_0, hfz83_1⟩ := bx2_ BK345; obtain ⟨hcz84_0, hcz84_1, hfz84_0, hfz84_1⟩ := bx2_ BK354) | ((with_reducible refine gate_builtin (b := .append) (xs := #[.tmp 67, .tmp 69]) rfl ?_); at_builtin; refine Kd.R_append k67 (w0 := w) w.heap.size rfl (.tmp 67) (.tmp 69) 40 67 (.agg #[(.int .i64 0), (.string ⟨#[]⟩)]) 24 rfl Tryd.underlying40 info67 rfl (by decide) (by omega) u346001 x346001_1 (⟨(rd_T67 y350 x42_1).f0, (rd_T67 y350 x42_1).f1⟩ : S67) [.int .i64 ((rd_T67 y350 x42_1).f0), .string ((rd_T67 y350 x42_1).f1)] (fun k_ => some k_ ≠ (.slice (some ad353) y350.length co27 : Value).ownBlock ∧ k_ ≠ gb354) (fun _ => False) rfl rfl ?aP (fun _ hk => hk.elim) ?aF ?aO ?aB ?aS ?aL ?_; (case aP => exact k67_mkM _ _ _ (⟨(rd_T67 y350 x42_1).f0, (rd_T67 y350 x42_1).f1⟩ : S67)); (case aB => exact bl_); (case aF => exact (fun k_ hk => ⟨Kd.fresh' (Kd.R_lt (ra_ HO_40)) k_ hk, Kd.freshB (bk_ BK354) k_ hk⟩)); (case aO => exact (ra_ HO_346001)); (case aS => exact (below_size bl_)); (case aL => have := LMc72.out; omega); intro v366 w85 ho hb hg hat; rw [← Ny365.out] at ho; have n0_ := Aside0.mk (Kd.R_after (ok := (fun k_ => k_ ≠ gb354)) (by (with_reducible repeat (first | apply Kd.R_alloc | apply Kd.R_drewN | apply Kd.R_drew)); exact Kd.R_mono HO_40.out (fun _ hk => ⟨hk.2, hk.1⟩)) hg hat); have n1_ := Aside0.mk (blk_grown (bk_ BK342) hg (Kd.R_ne HO_346001.out BK342.out (by decide))); have n2_ := Aside0.mk (blk_grown (bk_ BK343) hg (Kd.R_ne HO_346001.out BK343.out (by decide))); have n3_ := Aside0.mk (blk_grown (bk_ BK345) hg (Kd.R_ne HO_346001.out BK345.out (by decide))); have n4_ := Aside0.mk (blk_grown (bk_ BK354) hg (Kd.R_away HO_346001.out (fun _ hk => hk.2))); have n5_ := Aside0.mk (hb); have n6_ := Aside0.mk (ho); clear HO_40; clear BK342; clear BK343; clear BK345; clear BK354; clear HB; clear HO_346001; have HO_40 := n0_; have BK342 := n1_; have BK343 := n2_; have BK345 := n3_; have BK354 := n4_; have HB := n5_; have HO367 := n6_; clear n0_ n1_ n2_ n3_ n4_ n5_ n6_; clear ho hb hg hat; obtain ⟨Ao86, co86, eo86⟩ := Kd.R_slice HO367.out; subst eo86; obtain ⟨hcz87_0, hcz87_1, hfz87_0, hfz87_1⟩ := bx2_ BK345))
             go_roundg k1
             case measure => have := HK1.out; omega
             case rel => exact ⟨(wrap64 (x42_1 + 1)), (y365), (.slice Ao86 y365.length co86), sp_, H', ⟨by have := HK1.out; omega⟩, ⟨by (with_reducible repeat (first | apply Kd.R_alloc | apply Kd.R_drewN | apply Kd.R_drew)); exact Kd.R_mono (Kd.R_far (p := ⟨gb345, 1, none⟩) (Kd.R_types HO_40.out BK345.out (by decide)) (fun _ hk => hk.2) (.slice Ao86 y365.length co86)) (fun _ hk => hk.1.2)⟩, ⟨by (with_reducible repeat (first | apply Kd.R_alloc | apply Kd.R_drewN | apply Kd.R_drew)); exact Kd.R_mono (Kd.R_far (p := ⟨gb345, 1, none⟩) (Kd.R_types HO367.out BK345.out (by decide)) (fun _ hk => hk.2) (.slice Ao86 y365.length co86)) (fun _ hk => hk.1.1)⟩, ⟨by (with_reducible repeat (first | refine blk_drewN ?_ _ | refine blk_drew ?_ | refine blk_alloc ?_ _)); refine blk_far ?_ NB342_345.out _; (with_reducible repeat (first | refine blk_drewN ?_ _ | refine blk_drew ?_ | refine blk_alloc ?_ _)); exact BK342.out⟩, ⟨by (with_reducible repeat (first | refine blk_drewN ?_ _ | refine blk_drew ?_ | refine blk_alloc ?_ _)); refine blk_far ?_ NB343_345.out _; (with_reducible repeat (first | refine blk_drewN ?_ _ | refine blk_drew ?_ | refine blk_alloc ?_ _)); exact BK343.out⟩, ⟨by (with_reducible repeat (first | refine blk_drewN ?_ _ | refine blk_drew ?_ | refine blk_alloc ?_ _)); apply bq2_1_; (with_reducible repeat (first | refine blk_drewN ?_ _ | refine blk_drew ?_ | refine blk_alloc ?_ _)); exact BK345.out⟩, ⟨bl_⟩⟩
            ·rw [if_neg c72] at H
             exact absurd H (by simp)
           ·replace c71 := Bool.eq_false_iff.mpr c71
            subst c71
            replace H := in_ H
            have H' := Aside0.mk H
            clear H
            have p353 : 0 ≤ (x42_1 : Int) := od_
            have q353 : x42_1 < (y350.length : Int) := od_
            obtain ⟨ad353, e353, hx353_0, hx353_1⟩ := at_T67 (Kd.R_reads' HO_40.out).2.2 x42_1 p353 q353
            cases e353
            replace p353 := eq_true p353
            replace q353 := eq_true q353
            go_wp2_with (first | ((with_reducible refine gate_dst (N := 6) rfl ?_); refine be_ (N := 6) (cs := #[.int .i64 0, .string (⟨#[]⟩ : ByteArray)]) (t := 67) ?_; intro gb354 hg w88 hbox hb; replace HO_40 := Aside0.mk (Kd.R_below (Kd.R_elderB (ra_ HO_40) gb354 (Nat.le_of_eq hg.symm)) hb); replace HO_346001 := Aside0.mk (Kd.R_below (Kd.R_elderB (ra_ HO_346001) gb354 (Nat.le_of_eq hg.symm)) hb); have BK354 := Aside0.mk (hbox); have GW354 := gw_ (w := w) hg; have GE354 := gw_ (w := w) hg; replace HB := Aside0.mk (below_step bl_ hb); have NB342_354 := Aside0.mk ((by rw [hg]; exact Nat.ne_of_lt (blk_lt (bk_ BK342)) : gb342 ≠ gb354)); have NB354_342 := Aside0.mk ((by rw [hg]; exact Nat.ne_of_gt (blk_lt (bk_ BK342)) : gb354 ≠ gb342)); replace BK342 := Aside0.mk (blk_below (bk_ BK342) hb); have NB343_354 := Aside0.mk ((by rw [hg]; exact Nat.ne_of_lt (blk_lt (bk_ BK343)) : gb343 ≠ gb354)); have NB354_343 := Aside0.mk ((by rw [hg]; exact Nat.ne_of_gt (blk_lt (bk_ BK343)) : gb354 ≠ gb343)); replace BK343 := Aside0.mk (blk_below (bk_ BK343) hb); have NB345_354 := Aside0.mk ((by rw [hg]; exact Nat.ne_of_lt (blk_lt (bk_ BK345)) : gb345 ≠ gb354)); have NB354_345 := Aside0.mk ((by rw [hg]; exact Nat.ne_of_gt (blk_lt (bk_ BK345)) : gb354 ≠ gb345)); replace BK345 := Aside0.mk (blk_below (bk_ BK345) hb); clear hb hbox hg; have hnb89 := NB354_342.out; have hnc89 := NB342_354.out; have hnb90 := NB354_343.out; have hnc90 := NB343_354.out; have hnb91 := NB354_345.out; have hnc91 := NB345_354.out; obtain ⟨hcz92_0, hcz92_1, hfz92_0, hfz92_1⟩ := bx2_ BK354; have hnb93 := NB342_343.out; have hnc93 := NB343_342.out; have hnb94 := NB342_345.out; have hnc94 := NB345_342.out; obtain ⟨hcz95_0, hcz95_1, hcz95_2, hcz95_3, hcz95_4, hcz95_5, hcz95_6, hcz95_7, hfz95_0, hfz95_1, hfz95_2, hfz95_3, hfz95_4, hfz95_5, hfz95_6, hfz95_7⟩ := bx8_ BK342) | (go_at_call 40; (with_reducible refine (impl_uses.calls k1 a0_0 ((rd_T67 y350 x42_1).f0) false _ A70.out).mono ?_); rintro e w96 ⟨rfl, hb⟩; replace HO_40 := Aside0.mk (Kd.R_below (by (with_reducible repeat (first | apply Kd.R_alloc | apply Kd.R_drewN | apply Kd.R_drew)); exact (Kd.R_mono (Kd.R_far (p := ⟨gb354, 1, none⟩) (Kd.R_far (p := ⟨gb354, 0, none⟩) (Kd.R_mono HO_40.out (fun k_ hk => (⟨hk, hk.2⟩ : _ ∧ k_ ≠ gb354))) (fun _ hk => hk.2) (.int .i64 ((rd_T67 y350 x42_1).f0))) (fun _ hk => hk.2) (.string ((rd_T67 y350 x42_1).f1))) (fun _ h_ => h_.1))) hb); replace HO_346001 := Aside0.mk (Kd.R_below (by (with_reducible repeat (first | apply Kd.R_alloc | apply Kd.R_drewN | apply Kd.R_drew)); exact (Kd.R_mono (Kd.R_far (p := ⟨gb354, 1, none⟩) (Kd.R_far (p := ⟨gb354, 0, none⟩) (Kd.R_mono HO_346001.out (fun k_ hk => (⟨hk, hk.2⟩ : _ ∧ k_ ≠ gb354))) (fun _ hk => hk.2) (.int .i64 ((rd_T67 y350 x42_1).f0))) (fun _ hk => hk.2) (.string ((rd_T67 y350 x42_1).f1))) (fun _ h_ => h_.1))) hb); replace BK342 := Aside0.mk (blk_below (g := gb342) (o := .cells #[.int .i64 a0_0, .string a0_1, .string a0_2, .string a0_3, .string a0_4, .string a0_5, .int .i64 a0_6, .int .i64 a0_7] 45 (0, 0)) (by (with_reducible repeat (first | refine blk_drewN ?_ _ | refine blk_drew ?_ | refine blk_alloc ?_ _)); refine blk_far ?_ NB342_354.out _; (with_reducible repeat (first | refine blk_drewN ?_ _ | refine blk_drew ?_ | refine blk_alloc ?_ _)); refine blk_far ?_ NB342_354.out _; (with_reducible repeat (first | refine blk_drewN ?_ _ | refine blk_drew ?_ | refine blk_alloc ?_ _)); exact BK342.out) hb); replace BK343 := Aside0.mk (blk_below (g := gb343) (o := .cells #[.string (⟨#[]⟩ : ByteArray), .slice none 0 0] 42 (0, 0)) (by (with_reducible repeat (first | refine blk_drewN ?_ _ | refine blk_drew ?_ | refine blk_alloc ?_ _)); refine blk_far ?_ NB343_354.out _; (with_reducible repeat (first | refine blk_drewN ?_ _ | refine blk_drew ?_ | refine blk_alloc ?_ _)); refine blk_far ?_ NB343_354.out _; (with_reducible repeat (first | refine blk_drewN ?_ _ | refine blk_drew ?_ | refine blk_alloc ?_ _)); exact BK343.out) hb); replace BK345 := Aside0.mk (blk_below (g := gb345) (o := .cells #[.string a0_5, u346001] 42 (0, 0)) (by (with_reducible repeat (first | refine blk_drewN ?_ _ | refine blk_drew ?_ | refine blk_alloc ?_ _)); refine blk_far ?_ NB345_354.out _; (with_reducible repeat (first | refine blk_drewN ?_ _ | refine blk_drew ?_ | refine blk_alloc ?_ _)); refine blk_far ?_ NB345_354.out _; (with_reducible repeat (first | refine blk_drewN ?_ _ | refine blk_drew ?_ | refine blk_alloc ?_ _)); exact BK345.out) hb); replace BK354 := Aside0.mk (blk_below (g := gb354) (o := .cells #[.int .i64 ((rd_T67 y350 x42_1).f0), .string ((rd_T67 y350 x42_1).f1)] 67 (0, 0)) (by (with_reducible repeat (first | refine blk_drewN ?_ _ | refine blk_drew ?_ | refine blk_alloc ?_ _)); apply bq2_1_0_; (with_reducible repeat (first | refine blk_drewN ?_ _ | refine blk_drew ?_ | refine blk_alloc ?_ _)); exact BK354.out) hb); replace HB := Aside0.mk (below_step bl_ hb); (try clear hb); (try clear hb2); (try clear hk); (try clear hi)))
            go_roundg k1
            case measure => have := HK1.out; omega
            case rel => exact ⟨(wrap64 (x42_1 + 1)), (x346001_1), (u346001), sp_, H', ⟨by have := HK1.out; omega⟩, ⟨by (with_reducible repeat (first | apply Kd.R_alloc | apply Kd.R_drewN | apply Kd.R_drew)); exact Kd.R_mono HO_40.out (fun _ hk => hk.1)⟩, ⟨by (with_reducible repeat (first | apply Kd.R_alloc | apply Kd.R_drewN | apply Kd.R_drew)); exact Kd.R_mono HO_346001.out (fun _ hk => hk.1)⟩, ⟨by (with_reducible repeat (first | refine blk_drewN ?_ _ | refine blk_drew ?_ | refine blk_alloc ?_ _)); exact BK342.out⟩, ⟨by (with_reducible repeat (first | refine blk_drewN ?_ _ | refine blk_drew ?_ | refine blk_alloc ?_ _)); exact BK343.out⟩, ⟨by (with_reducible repeat (first | refine blk_drewN ?_ _ | refine blk_drew ?_ | refine blk_alloc ?_ _)); exact BK345.out⟩, ⟨bl_⟩⟩
       ·rw [if_neg c30] at H
        exact absurd H (by simp)
      ·rw [if_neg c29] at H
       exact absurd H (by simp)
     ·rw [if_neg c28] at H
      have c28b0 : decide (x42_1 < (y350.length : Int)) = false := decide_eq_false c28
      clear c28
      simp only [Option.some.injEq, Prod.mk.injEq] at H
      obtain ⟨rfl, rfl, rfl⟩ := H
      have hnb97 := NB345_342.out
      have hnc97 := NB342_345.out
      have hnb98 := NB345_343.out
      have hnc98 := NB343_345.out
      have hcz99_0 := cz_ BK345 0 (.string a0_5)
      have hcz99_1 := cz_ BK345 1 (u346001)
      have hfz99_0 := fz_ BK345 0
      have hfz99_1 := fz_ BK345 1
      have hnb100 := NB343_342.out
      have hnc100 := NB342_343.out
      have hcz101_0 := cz_ BK343 0 (.string (⟨#[]⟩ : ByteArray))
      have hcz101_1 := cz_ BK343 1 (.slice none 0 0)
      have hfz101_0 := fz_ BK343 0
      have hfz101_1 := fz_ BK343 1
      obtain ⟨Ao102, co102, eo102⟩ := Kd.R_slice HO_346001.out
      subst eo102
      go_wp2
      refine bodyPost_ret (results_ct rfl _ _ gb343 42 #[.string a0_5, .slice Ao102 x346001_1.length co102] (0, 0) _ rfl (by (with_reducible repeat (first | refine blk_drewN ?_ _ | refine blk_drew ?_ | refine blk_alloc ?_ _)); apply bq2_1_0_; (with_reducible repeat (first | refine blk_drewN ?_ _ | refine blk_drew ?_ | refine blk_alloc ?_ _)); exact BK343.out) Tryd.underlying42 rfl (by kernel_rfl)) rfl ?_
      exact ⟨_, by first | rfl | (simp [errW_none, errW_some] <;> rfl) | (simp [*, errW_none, errW_some] <;> rfl), by (with_reducible repeat (first | apply Kd.R_alloc | apply Kd.R_drewN | apply Kd.R_drew)); exact Kd.R_mono (Kd.R_far (p := ⟨gb343, 1, none⟩) (Kd.R_far (p := ⟨gb343, 0, none⟩) (Kd.R_types HO_346001.out BK343.out (by decide)) (fun _ hk => hk.2) (.string a0_5)) (fun _ hk => hk.2) (.slice Ao102 x346001_1.length co102)) (fun _ hk => trivial), bl_⟩
  ·rw [if_neg c5] at H
   exact absurd H (by simp)
 ·replace c3 := Bool.eq_false_iff.mpr c3
  subst c3
  replace H := in_ H
  simp only [Option.some.injEq, Prod.mk.injEq] at H
  obtain ⟨rfl, rfl, rfl⟩ := H
  go_enter Tryd.func15, Tryd.ntmps15
  go_wp2_with (first | ((with_reducible refine gate_dst (N := 1) rfl ?_); refine be_ (N := 1) (cs := #[.int .i64 a0_0, .string a0_1, .string a0_2, .string a0_3, .string a0_4, .string a0_5, .int .i64 a0_6, .int .i64 a0_7]) (t := 45) ?_; intro gb342 hg w103 hbox hb; have BK342 := Aside0.mk (hbox); have GW342 := gw_ (w := w) hg; have GE342 := gw_ (w := w) hg; replace HB := Aside0.mk (below_step bl_ hb); clear hb hbox hg) | ((with_reducible refine gate_dst (N := 2) rfl ?_); refine be_ (N := 2) (cs := #[.string (⟨#[]⟩ : ByteArray), .slice none 0 0]) (t := 42) ?_; intro gb343 hg w104 hbox hb; have BK343 := Aside0.mk (hbox); have GW343 := gw_ (w := w) hg; have GE343 := gw_ (w := w) hg; replace HB := Aside0.mk (below_step bl_ hb); have NB342_343 := Aside0.mk ((by rw [hg]; exact Nat.ne_of_lt (blk_lt (bk_ BK342)) : gb342 ≠ gb343)); have NB343_342 := Aside0.mk ((by rw [hg]; exact Nat.ne_of_gt (blk_lt (bk_ BK342)) : gb343 ≠ gb342)); replace BK342 := Aside0.mk (blk_below (bk_ BK342) hb); clear hb hbox hg; have hnb105 := NB342_343.out; have hnc105 := NB343_342.out; obtain ⟨hcz106_0, hcz106_1, hcz106_2, hcz106_3, hcz106_4, hcz106_5, hcz106_6, hcz106_7, hfz106_0, hfz106_1, hfz106_2, hfz106_3, hfz106_4, hfz106_5, hfz106_6, hfz106_7⟩ := bx8_ BK342) | ((with_reducible refine gate_callee (f := 36) rfl ?_); refine goesL_ (some 8) rfl rfl Tryd.func36 (by kernel_rfl) rfl #[.agg #[.int .i64 a0_0, .string a0_1, .string a0_2, .string a0_3, .string a0_4, .string a0_5, .int .i64 a0_6, .int .i64 a0_7]] rfl gl_ ?_; (with_reducible refine (impl_ReqOk.calls k a0_0 a0_1 a0_2 a0_3 a0_4 a0_5 a0_6 a0_7 false _ A2.out).mono ?_); rintro e w107 ⟨rfl, hb⟩; refine ⟨_, rfl, ?_⟩; replace BK342 := Aside0.mk (blk_below (bk_ BK342) hb); replace BK343 := Aside0.mk (blk_below (bk_ BK343) hb); replace HB := Aside0.mk (below_step bl_ hb); (try clear hb); (try clear hb2); (try clear hk); (try clear hi); obtain ⟨hcz108_0, hcz108_1, hfz108_0, hfz108_1⟩ := bx2_ BK343))
  refine bodyPost_ret (results_ct rfl _ _ gb343 42 #[.string (⟨#[]⟩ : ByteArray), .slice none 0 0] (0, 0) _ rfl (by (with_reducible repeat (first | refine blk_drewN ?_ _ | refine blk_drew ?_ | refine blk_alloc ?_ _)); apply bq2_1_0_; (with_reducible repeat (first | refine blk_drewN ?_ _ | refine blk_drew ?_ | refine blk_alloc ?_ _)); exact BK343.out) Tryd.underlying42 rfl (by kernel_rfl)) rfl ?_
  exact ⟨_, by first | rfl | (simp [errW_none, errW_some] <;> rfl) | (simp [*, errW_none, errW_some] <;> rfl), by first | exact Kd.R_nil _ _ _ _ _ | exact Kd.N_nil _ _ _ _ _ | exact Kd.V_nil _ _ _ _ _ | exact Kd.Q_nil _ _ _ _ _ | exact Kd.S_nil _ _ _ _ _, bl_⟩
end Go.Proofs.YtbjpfknmkpnhjaaDoor.QFnExactReqMsg
