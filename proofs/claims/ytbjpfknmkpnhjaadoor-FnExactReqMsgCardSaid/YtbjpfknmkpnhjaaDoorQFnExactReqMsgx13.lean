-- by my own printer (myprint.py, over the kit's print.py)
import Derived.Test.YtbjpfknmkpnhjaaDoorQFnExactReqMsgx0
import Derived.Test.YtbjpfknmkpnhjaaDoorQFnExactReqMsgx10
namespace Go.Proofs.YtbjpfknmkpnhjaaDoor.QFnExactReqMsg
open Go.RowKit Go.Proofs.YtbjpfknmkpnhjaaDoorW.PrintWords Go.Proofs.YtbjpfknmkpnhjaaDoorW.PrintLast Go.Proofs.YtbjpfknmkpnhjaaDoorW.PrintMore
attribute [local go_sem] max2_int min2_int max_two min_two max_three min_three max_four min_four   -- for this text's walks alone
set_option linter.unusedVariables false
set_option linter.unusedSimpArgs false
attribute [local go_sem] my_geq my_leq my_gtr
/-! ### impl_OpCode: function 37 -/
def impl_OpCode.f (a0 : Int) : Option (ByteArray) := (impl_opOf.f a0).bind fun bt301 => (some bt301.2.1)
set_option maxHeartbeats 8000000 in
set_option maxRecDepth 100000 in
theorem impl_OpCode.calls (a0 : Int) (r : ByteArray) (w : World) (h : impl_OpCode.f a0 = some r) :
  Calls Tryd.prog 37 #[.int .i64 a0] w fun e w' => e = .returned (.string r) ∧ Below w.heap.size w w' := by
 have hfl96_1 : ∀ (x0_ x1_ x2_ x3_ : Value) (w : World), (Instr.field 96 (.agg #[x0_, x1_, x2_, x3_]) 1).run Tryd.prog w = .ok x1_ w := by intros; kernel_rfl
 have HB := Aside0.mk (Below.refl w.heap.size w)
 have H : ((impl_opOf.f a0).bind fun bt301 => (some bt301.2.1)) = some r := h
 clear h
 obtain ⟨⟨t301, t302, t303, t304⟩, A2, H⟩ := ob_ H
 (try dsimp only at H)
 obtain rfl := Option.some.inj H
 go_enter Tryd.func37, Tryd.ntmps37
 go_wp2_with (first | ((with_reducible refine gate_callee (f := 76) rfl ?_); refine goesL_ (some 4) rfl rfl Tryd.func76 (by kernel_rfl) rfl #[.int .i64 a0] rfl gl_ ?_; (with_reducible refine (impl_opOf.calls a0 t301 t302 t303 t304 _ A2.out).mono ?_); rintro e w3 ⟨v305, rfl, ho0, hb⟩; refine ⟨_, rfl, ?_⟩; have HO306 := Aside0.mk (Kd.V_lower (Kd.V_mono (ok' := fun k_ => True) ho0 (fun k_ hk_ => trivial)) (below_size bl_)); replace HB := Aside0.mk (below_step bl_ hb); (try clear hb); (try clear hb2); (try clear hk); (try clear hi); (try clear ho0); obtain ⟨Ao4, co4, eo4⟩ := Kd.V_slice HO306.out; subst eo4))
 go_ret
 exact ⟨sq_, bl_⟩
-- NOT PRINTED: function 146 (strconv_small)
-- NOT PRINTED: function 164 (strconv_log10Pow2)
-- NOT PRINTED: function 165 (bits_Len64)
-- NOT PRINTED: function 166 (strconv_bool2_int)
-- NOT PRINTED: function 147 (strconv_numDigits)
-- NOT PRINTED: function 148 (strconv_formatBase10)
-- NOT PRINTED: function 167 (strconv_isPowerOfTwo)
-- NOT PRINTED: function 171 (bits_TrailingZeros32)
-- NOT PRINTED: function 172 (bits_TrailingZeros64)
-- NOT PRINTED: function 168 (bits_TrailingZeros)
-- NOT PRINTED: function 149 (strconv_formatBits)
-- NOT PRINTED: function 111 (strconv_FormatInt)
-- NOT PRINTED: function 63 (strconv_Itoa_63)
/-! ### strconv_Itoa_28: function 28 -/
/-- The library's table of powers of ten lies as the program's text lays it. -/
def Tb (w : World) : Prop := Lib.TabIs Tryd.prog w "internal/strconv.uint64pow10" .u64 Lib.pow10Tab
theorem tb_below {w w1 : World} (h : Tb w) (hb : Below w.heap.size w w1) : Tb w1 := by
 unfold Tb Lib.TabIs World.var? at h ⊢
 cases hg : Tryd.prog.globalNamed "internal/strconv.uint64pow10" with
 | none => rw [hg] at h; cases h
 | some g =>
  simp only [hg, Option.bind_some] at h ⊢
  rcases Nat.lt_or_ge g w.heap.size with hl | hl
  ·rw [hb.block g hl]
   exact h
  ·rw [Array.getElem?_eq_none hl] at h
   cases h
theorem str_grow {B : Nat} {w0 W : World} (os : Array Obj) (h : Below B w0 W) (hB : B ≤ W.heap.size) : Below B w0 (Sort.grow W os) :=
 h.trans ⟨rfl, rfl, rfl, by simp [Sort.grow], fun k hk => Sort.heap_grow_old W os (Nat.lt_of_lt_of_le hk hB)⟩
def strconv_Itoa_28.f (a0 : Int) : Option (ByteArray) := if -9223372036854775808 ≤ a0 ∧ a0 ≤ 9223372036854775807 then some ⟨(Lib.itoa a0).toArray⟩ else none
theorem strconv_Itoa_28.calls (a0 : Int) (r : ByteArray) (w : World) (h : strconv_Itoa_28.f a0 = some r) (ht_ : Tb w) :
  Calls Tryd.prog 28 #[.int .i64 a0] w fun e w' => e = .returned (.string r) ∧ Below w.heap.size w w' := by
 unfold strconv_Itoa_28.f at h
 split at h
 case isFalse => cases h
 case isTrue hc =>
 obtain rfl := Option.some.inj h
 refine Calls.mono (Go.Proofs.YtbjpfknmkpnhjaaDoor.Shelf.strconv_Itoa a0 hc.1 hc.2 w ht_) ?_
 rintro e w' ⟨rfl, k, os, rfl⟩
 exact ⟨rfl, str_grow os (pw_below_drewN (Below.refl _ _) k) (Nat.le_refl _)⟩
-- NOT PRINTED: function 152 (bits_Mul32)
-- NOT PRINTED: function 153 (bits_Mul64)
-- NOT PRINTED: function 119 (bits_Mul)
-- NOT PRINTED: function 154 (stringslite_HasPrefix)
-- NOT PRINTED: function 120 (strings_HasPrefix)
-- NOT PRINTED: function 169 (abi_NoEscape)
-- NOT PRINTED: function 155 (strings_Builder_copyCheck)
-- NOT PRINTED: function 170 (bytealg_MakeNoZero)
-- NOT PRINTED: function 156 (strings_Builder_grow)
-- NOT PRINTED: function 121 (strings_Builder_Grow)
-- NOT PRINTED: function 122 (strings_Builder_WriteString)
-- NOT PRINTED: function 123 (strings_Builder_Len)
-- NOT PRINTED: function 124 (strings_Builder_String)
/-! ### strings_Repeat: function 80 -/
def strings_Repeat.f (a0 : ByteArray) (a1 : Int) : Option (ByteArray) := if 0 ≤ a1 ∧ a1 ≤ 9223372036854775807 ∧ (a0.size : Int) * a1 ≤ 140737488355328 then some ⟨(Lib.repeatL a0.data.toList a1.toNat).toArray⟩ else none
theorem strings_Repeat.calls (a0 : ByteArray) (a1 : Int) (r : ByteArray) (w : World) (h : strings_Repeat.f a0 a1 = some r) :
  Calls Tryd.prog 80 #[.string a0, .int .i64 a1] w fun e w' => e = .returned (.string r) ∧ Below w.heap.size w w' := by
 unfold strings_Repeat.f at h
 split at h
 case isFalse => cases h
 case isTrue hc =>
 obtain rfl := Option.some.inj h
 obtain ⟨c, rfl⟩ : ∃ c : Nat, a1 = (c : Int) := ⟨a1.toNat, by omega⟩
 have h1 : a0.size * c ≤ 140737488355328 := by
  have h2 := hc.2.2
  rw [← Int.natCast_mul] at h2
  omega
 exact Go.Proofs.YtbjpfknmkpnhjaaDoor.Shelf.strings_Repeat a0 c w (by omega) h1
/-! ### impl_Wide: function 38 -/
def impl_Wide.f (a0 : Int) (a1 : Int) : Option (ByteArray) := (strconv_Itoa_28.f a0).bind fun t307 => (if a0 < 0 then (some (⟨#[]⟩ : ByteArray)) else ((impl_within.f a1 1 18).bind fun t308 => (if t308 = true then (if (t307.size : Int) > a1 then (some (⟨#[]⟩ : ByteArray)) else ((strings_Repeat.f (⟨#[48]⟩ : ByteArray) (wrap64 (a1 - (t307.size : Int)))).bind fun t309 => (if t309.size + t307.size ≤ 9223372036854775807 then (some (t309 ++ t307)) else (none)))) else (some (⟨#[]⟩ : ByteArray)))))
set_option maxHeartbeats 8000000 in
set_option maxRecDepth 100000 in
theorem impl_Wide.calls (a0 : Int) (a1 : Int) (r : ByteArray) (w : World) (h : impl_Wide.f a0 a1 = some r) (ht_ : Tb w) :
  Calls Tryd.prog 38 #[.int .i64 a0, .int .i64 a1] w fun e w' => e = .returned (.string r) ∧ Below w.heap.size w w' := by
 have HTB := Aside0.mk ht_
 clear ht_
 have HB := Aside0.mk (Below.refl w.heap.size w)
 have H : ((strconv_Itoa_28.f a0).bind fun t307 => (if a0 < 0 then (some (⟨#[]⟩ : ByteArray)) else ((impl_within.f a1 1 18).bind fun t308 => (if t308 = true then (if (t307.size : Int) > a1 then (some (⟨#[]⟩ : ByteArray)) else ((strings_Repeat.f (⟨#[48]⟩ : ByteArray) (wrap64 (a1 - (t307.size : Int)))).bind fun t309 => (if t309.size + t307.size ≤ 9223372036854775807 then (some (t309 ++ t307)) else (none)))) else (some (⟨#[]⟩ : ByteArray)))))) = some r := h
 clear h
 obtain ⟨t307, A3, H⟩ := ob_ H
 by_cases c4 : a0 < 0
 ·rw [if_pos c4] at H
  have c4b0 : decide (a0 < 0) = true := decide_eq_true c4
  clear c4
  obtain rfl := Option.some.inj H
  go_enter Tryd.func38, Tryd.ntmps38
  go_wp2_with (first | ((with_reducible refine gate_callee (f := 28) rfl ?_); refine goesL_ (some 7) rfl rfl Tryd.func28 (by kernel_rfl) rfl #[.int .i64 a0] rfl gl_ ?_; (with_reducible refine (strconv_Itoa_28.calls a0 t307 _ A3.out ?tb).mono ?_); (case tb => exact tb_below HTB.out (by repeat (first | exact HB.out | apply below_alloc | apply pw_below_drewN | apply below_drew1))); rintro e w5 ⟨rfl, hb⟩; refine ⟨_, rfl, ?_⟩; replace HB := Aside0.mk (below_step bl_ hb); (try clear hb); (try clear hb2); (try clear hk); (try clear hi)))
  go_ret
  exact ⟨sq_, bl_⟩
 ·rw [if_neg c4] at H
  have c4b0 : decide (a0 < 0) = false := decide_eq_false c4
  clear c4
  obtain ⟨t308, A6, H⟩ := ob_ H
  by_cases c7 : t308 = true
  ·subst c7
   replace H := ip_ H
   by_cases c8 : (t307.size : Int) > a1
   ·rw [if_pos c8] at H
    have c8b0 : decide (a1 < (t307.size : Int)) = true := decide_eq_true c8
    clear c8
    obtain rfl := Option.some.inj H
    go_enter Tryd.func38, Tryd.ntmps38
    go_wp2_with (first | ((with_reducible refine gate_callee (f := 28) rfl ?_); refine goesL_ (some 7) rfl rfl Tryd.func28 (by kernel_rfl) rfl #[.int .i64 a0] rfl gl_ ?_; (with_reducible refine (strconv_Itoa_28.calls a0 t307 _ A3.out ?tb).mono ?_); (case tb => exact tb_below HTB.out (by repeat (first | exact HB.out | apply below_alloc | apply pw_below_drewN | apply below_drew1))); rintro e w9 ⟨rfl, hb⟩; refine ⟨_, rfl, ?_⟩; replace HB := Aside0.mk (below_step bl_ hb); (try clear hb); (try clear hb2); (try clear hk); (try clear hi)) | (go_at_call 60; (with_reducible refine (impl_within.calls a1 1 18 true _ A6.out).mono ?_); rintro e w' ⟨rfl, ⟨nd, rfl⟩⟩))
    go_ret
    exact ⟨sq_, bl_⟩
   ·rw [if_neg c8] at H
    have c8b0 : decide (a1 < (t307.size : Int)) = false := decide_eq_false c8
    clear c8
    obtain ⟨t309, A10, H⟩ := ob_ H
    by_cases c11 : t309.size + t307.size ≤ 9223372036854775807
    ·rw [if_pos c11] at H
     have c11b0 := eq_true c11
     have c11b1 : decide (t309.size + t307.size ≤ 9223372036854775807) = true := decide_eq_true c11
     try have c11b2 : (9223372036854775807 < t309.size + t307.size) = False := eq_false (Nat.not_lt.2 c11)
     obtain rfl := Option.some.inj H
     go_enter Tryd.func38, Tryd.ntmps38
     go_wp2_with (first | ((with_reducible refine gate_callee (f := 28) rfl ?_); refine goesL_ (some 7) rfl rfl Tryd.func28 (by kernel_rfl) rfl #[.int .i64 a0] rfl gl_ ?_; (with_reducible refine (strconv_Itoa_28.calls a0 t307 _ A3.out ?tb).mono ?_); (case tb => exact tb_below HTB.out (by repeat (first | exact HB.out | apply below_alloc | apply pw_below_drewN | apply below_drew1))); rintro e w12 ⟨rfl, hb⟩; refine ⟨_, rfl, ?_⟩; replace HB := Aside0.mk (below_step bl_ hb); (try clear hb); (try clear hb2); (try clear hk); (try clear hi)) | (go_at_call 60; (with_reducible refine (impl_within.calls a1 1 18 true _ A6.out).mono ?_); rintro e w' ⟨rfl, ⟨nd, rfl⟩⟩) | ((with_reducible refine gate_callee (f := 80) rfl ?_); refine goesL_ (some 25) rfl rfl Tryd.func80 (by kernel_rfl) rfl #[.string (⟨#[48]⟩ : ByteArray), .int .i64 (wrap64 (a1 - (t307.size : Int)))] rfl gl_ ?_; (with_reducible refine (strings_Repeat.calls (⟨#[48]⟩ : ByteArray) (wrap64 (a1 - (t307.size : Int))) t309 _ A10.out).mono ?_); rintro e w13 ⟨rfl, hb⟩; refine ⟨_, rfl, ?_⟩; replace HB := Aside0.mk (below_step bl_ hb); (try clear hb); (try clear hb2); (try clear hk); (try clear hi)))
     go_ret
     exact ⟨sq_, bl_⟩
    ·rw [if_neg c11] at H
     exact absurd H (by simp)
  ·replace c7 := Bool.eq_false_iff.mpr c7
   subst c7
   replace H := in_ H
   obtain rfl := Option.some.inj H
   go_enter Tryd.func38, Tryd.ntmps38
   go_wp2_with (first | ((with_reducible refine gate_callee (f := 28) rfl ?_); refine goesL_ (some 7) rfl rfl Tryd.func28 (by kernel_rfl) rfl #[.int .i64 a0] rfl gl_ ?_; (with_reducible refine (strconv_Itoa_28.calls a0 t307 _ A3.out ?tb).mono ?_); (case tb => exact tb_below HTB.out (by repeat (first | exact HB.out | apply below_alloc | apply pw_below_drewN | apply below_drew1))); rintro e w14 ⟨rfl, hb⟩; refine ⟨_, rfl, ?_⟩; replace HB := Aside0.mk (below_step bl_ hb); (try clear hb); (try clear hb2); (try clear hk); (try clear hi)) | (go_at_call 60; (with_reducible refine (impl_within.calls a1 1 18 false _ A6.out).mono ?_); rintro e w' ⟨rfl, ⟨nd, rfl⟩⟩))
   go_ret
   exact ⟨sq_, bl_⟩
/-! ### impl_fieldRows: function 157 -/
def impl_fieldRows.f  : Option ((List (S144))) := some (([(⟨2, 3, 19⟩ : S144), (⟨3, 1, 6⟩ : S144), (⟨4, 1, 12⟩ : S144), (⟨7, 1, 10⟩ : S144), (⟨11, 1, 6⟩ : S144), (⟨14, 1, 4⟩ : S144), (⟨37, 2, 12⟩ : S144), (⟨38, 2, 6⟩ : S144), (⟨39, 2, 2⟩ : S144), (⟨41, 2, 8⟩ : S144), (⟨48, 5, 60⟩ : S144), (⟨49, 1, 3⟩ : S144), (⟨54, 5, 60⟩ : S144), (⟨95, 2, 12⟩ : S144), (⟨102, 4, 20⟩ : S144), (⟨103, 4, 20⟩ : S144)] : List (S144)))
set_option maxHeartbeats 8000000 in
set_option maxRecDepth 100000 in
theorem impl_fieldRows.calls  (r : List (S144)) (w : World) (h : impl_fieldRows.f  = some r) :
  Calls Tryd.prog 157 #[] w fun e w' => ∃ v0_ : Value, e = .returned (v0_) ∧ Kd.R k144 144 w' w.heap.size (fun _ => True) v0_ r ∧ Below w.heap.size w w' := by
 have hu144 := Tryd.underlying144
 have HB := Aside0.mk (Below.refl w.heap.size w)
 have H : (some (([(⟨2, 3, 19⟩ : S144), (⟨3, 1, 6⟩ : S144), (⟨4, 1, 12⟩ : S144), (⟨7, 1, 10⟩ : S144), (⟨11, 1, 6⟩ : S144), (⟨14, 1, 4⟩ : S144), (⟨37, 2, 12⟩ : S144), (⟨38, 2, 6⟩ : S144), (⟨39, 2, 2⟩ : S144), (⟨41, 2, 8⟩ : S144), (⟨48, 5, 60⟩ : S144), (⟨49, 1, 3⟩ : S144), (⟨54, 5, 60⟩ : S144), (⟨95, 2, 12⟩ : S144), (⟨102, 4, 20⟩ : S144), (⟨103, 4, 20⟩ : S144)] : List (S144)))) = some r := h
 clear h
 obtain ⟨y310, hy310⟩ : ∃ y_ : List (S144), y_ = (([(⟨2, 3, 19⟩ : S144), (⟨3, 1, 6⟩ : S144), (⟨4, 1, 12⟩ : S144), (⟨7, 1, 10⟩ : S144), (⟨11, 1, 6⟩ : S144), (⟨14, 1, 4⟩ : S144), (⟨37, 2, 12⟩ : S144), (⟨38, 2, 6⟩ : S144), (⟨39, 2, 2⟩ : S144), (⟨41, 2, 8⟩ : S144), (⟨48, 5, 60⟩ : S144), (⟨49, 1, 3⟩ : S144), (⟨54, 5, 60⟩ : S144), (⟨95, 2, 12⟩ : S144), (⟨102, 4, 20⟩ : S144), (⟨103, 4, 20⟩ : S144)] : List (S144))) := ⟨_, rfl⟩
 replace H : (some y310) = some r := by first | (rw [hy310]; with_reducible exact H) | (have H2_ := (Option.bind_some _ _).symm.trans H; rw [hy310]; with_reducible exact H2_) | (have H2_ := (Option.bind_some _ _).symm.trans H; with_reducible exact H2_) | with_reducible exact H | (rw [hy310]; exact H) | exact H
 have Ny310 := Aside0.mk hy310
 clear hy310
 obtain rfl := Option.some.inj H
 go_enter Tryd.func157, Tryd.ntmps157
 go_wp2_with (first | ((with_reducible refine gate_dst (N := 17) rfl ?_); refine Kd.R_lit k144 _ 144 ?hg (N := 17) ?hd (xs := ([(⟨2, 3, 19⟩ : S144), (⟨3, 1, 6⟩ : S144), (⟨4, 1, 12⟩ : S144), (⟨7, 1, 10⟩ : S144), (⟨11, 1, 6⟩ : S144), (⟨14, 1, 4⟩ : S144), (⟨37, 2, 12⟩ : S144), (⟨38, 2, 6⟩ : S144), (⟨39, 2, 2⟩ : S144), (⟨41, 2, 8⟩ : S144), (⟨48, 5, 60⟩ : S144), (⟨49, 1, 3⟩ : S144), (⟨54, 5, 60⟩ : S144), (⟨95, 2, 12⟩ : S144), (⟨102, 4, 20⟩ : S144), (⟨103, 4, 20⟩ : S144)] : List (S144))) (inner := [.int .i64 2, .int .i64 3, .int .i64 19, .int .i64 3, .int .i64 1, .int .i64 6, .int .i64 4, .int .i64 1, .int .i64 12, .int .i64 7, .int .i64 1, .int .i64 10, .int .i64 11, .int .i64 1, .int .i64 6, .int .i64 14, .int .i64 1, .int .i64 4, .int .i64 37, .int .i64 2, .int .i64 12, .int .i64 38, .int .i64 2, .int .i64 6, .int .i64 39, .int .i64 2, .int .i64 2, .int .i64 41, .int .i64 2, .int .i64 8, .int .i64 48, .int .i64 5, .int .i64 60, .int .i64 49, .int .i64 1, .int .i64 3, .int .i64 54, .int .i64 5, .int .i64 60, .int .i64 95, .int .i64 2, .int .i64 12, .int .i64 102, .int .i64 4, .int .i64 20, .int .i64 103, .int .i64 4, .int .i64 20]) (ok := fun _ => True) (okp := fun _ => True) ?hr ?hp (fun _ hk => hk) trivial (Below.refl _ _) (Nat.le_refl _) (by simp) ?_; (case hd => rfl); (case hg => rfl); (case hr => first | (go_simp; done) | (go_simp; rfl)); (case hp => exact (Reps.c3 (show Kd.M k144 _ _ _ (⟨2, 3, 19⟩ : S144) [.int .i64 2, .int .i64 3, .int .i64 19] from (k144_mkM _ _ _ (⟨2, 3, 19⟩ : S144) )) (Reps.c3 (show Kd.M k144 _ _ _ (⟨3, 1, 6⟩ : S144) [.int .i64 3, .int .i64 1, .int .i64 6] from (k144_mkM _ _ _ (⟨3, 1, 6⟩ : S144) )) (Reps.c3 (show Kd.M k144 _ _ _ (⟨4, 1, 12⟩ : S144) [.int .i64 4, .int .i64 1, .int .i64 12] from (k144_mkM _ _ _ (⟨4, 1, 12⟩ : S144) )) (Reps.c3 (show Kd.M k144 _ _ _ (⟨7, 1, 10⟩ : S144) [.int .i64 7, .int .i64 1, .int .i64 10] from (k144_mkM _ _ _ (⟨7, 1, 10⟩ : S144) )) (Reps.c3 (show Kd.M k144 _ _ _ (⟨11, 1, 6⟩ : S144) [.int .i64 11, .int .i64 1, .int .i64 6] from (k144_mkM _ _ _ (⟨11, 1, 6⟩ : S144) )) (Reps.c3 (show Kd.M k144 _ _ _ (⟨14, 1, 4⟩ : S144) [.int .i64 14, .int .i64 1, .int .i64 4] from (k144_mkM _ _ _ (⟨14, 1, 4⟩ : S144) )) (Reps.c3 (show Kd.M k144 _ _ _ (⟨37, 2, 12⟩ : S144) [.int .i64 37, .int .i64 2, .int .i64 12] from (k144_mkM _ _ _ (⟨37, 2, 12⟩ : S144) )) (Reps.c3 (show Kd.M k144 _ _ _ (⟨38, 2, 6⟩ : S144) [.int .i64 38, .int .i64 2, .int .i64 6] from (k144_mkM _ _ _ (⟨38, 2, 6⟩ : S144) )) (Reps.c3 (show Kd.M k144 _ _ _ (⟨39, 2, 2⟩ : S144) [.int .i64 39, .int .i64 2, .int .i64 2] from (k144_mkM _ _ _ (⟨39, 2, 2⟩ : S144) )) (Reps.c3 (show Kd.M k144 _ _ _ (⟨41, 2, 8⟩ : S144) [.int .i64 41, .int .i64 2, .int .i64 8] from (k144_mkM _ _ _ (⟨41, 2, 8⟩ : S144) )) (Reps.c3 (show Kd.M k144 _ _ _ (⟨48, 5, 60⟩ : S144) [.int .i64 48, .int .i64 5, .int .i64 60] from (k144_mkM _ _ _ (⟨48, 5, 60⟩ : S144) )) (Reps.c3 (show Kd.M k144 _ _ _ (⟨49, 1, 3⟩ : S144) [.int .i64 49, .int .i64 1, .int .i64 3] from (k144_mkM _ _ _ (⟨49, 1, 3⟩ : S144) )) (Reps.c3 (show Kd.M k144 _ _ _ (⟨54, 5, 60⟩ : S144) [.int .i64 54, .int .i64 5, .int .i64 60] from (k144_mkM _ _ _ (⟨54, 5, 60⟩ : S144) )) (Reps.c3 (show Kd.M k144 _ _ _ (⟨95, 2, 12⟩ : S144) [.int .i64 95, .int .i64 2, .int .i64 12] from (k144_mkM _ _ _ (⟨95, 2, 12⟩ : S144) )) (Reps.c3 (show Kd.M k144 _ _ _ (⟨102, 4, 20⟩ : S144) [.int .i64 102, .int .i64 4, .int .i64 20] from (k144_mkM _ _ _ (⟨102, 4, 20⟩ : S144) )) (Reps.c3 (show Kd.M k144 _ _ _ (⟨103, 4, 20⟩ : S144) [.int .i64 103, .int .i64 4, .int .i64 20] from (k144_mkM _ _ _ (⟨103, 4, 20⟩ : S144) )) (Reps.none _ _)))))))))))))))))); intro v311 w1 ho2 hb hg_ hnew_; clear hg_ hnew_; (first | rw [← Ny310.out] at ho2 | (simp only [Int.reduceToNat] at ho2; rw [← Ny310.out] at ho2)); have HO312 := Aside0.mk (Kd.R_lower ho2 (below_size bl_)); replace HB := Aside0.mk (below_step bl_ hb); clear hb ho2))
 go_ret
 exact ⟨_, by first | rfl | (simp [errW_none, errW_some] <;> rfl) | (simp [*, errW_none, errW_some] <;> rfl), ra_ HO312, bl_⟩
/-! ### impl_rowOf: function 125 -/
def impl_rowOf.l0 : Nat → Int → List (S144) → Int → Int → Option (Int × Int × Int)
 | 0, _, _, _, _ => none
 | k + 1, x0, x5, x6, x7 => if x7 < x6 then (if 0 ≤ x7 then (if x7 < (x5.length : Int) then (if ((rd_T144 x5 x7).f0) = x0 then (some ((rd_T144 x5 x7).f0, (rd_T144 x5 x7).f1, (rd_T144 x5 x7).f2)) else (impl_rowOf.l0 k x0 x5 x6 (wrap64 (x7 + 1)))) else (none)) else (none)) else (some (0, 0, 0))
def impl_rowOf.f (k : Nat) (a0 : Int) : Option (Int × Int × Int) := (impl_fieldRows.f).bind fun t314 => (impl_rowOf.l0 k a0 t314 (t314.length : Int) 0)
set_option maxHeartbeats 8000000 in
set_option maxRecDepth 100000 in
theorem impl_rowOf.calls (k : Nat) (a0 : Int) (r1 : Int) (r2 : Int) (r3 : Int) (w : World) (h : impl_rowOf.f k a0 = some (r1, r2, r3)) :
  Calls Tryd.prog 125 #[.int .i64 a0] w fun e w' => e = .returned (.agg #[.int .i64 r1, .int .i64 r2, .int .i64 r3]) ∧ Below w.heap.size w w' := by
 have hu144 := Tryd.underlying144
 have HB := Aside0.mk (Below.refl w.heap.size w)
 have H : ((impl_fieldRows.f).bind fun t314 => (impl_rowOf.l0 k a0 t314 (t314.length : Int) 0)) = some (r1, r2, r3) := h
 clear h
 obtain ⟨t314, A2, H⟩ := ob_ H
 have H' := Aside0.mk H
 clear H
 go_enter Tryd.func125, Tryd.ntmps125
 go_wp2_with (first | ((with_reducible refine gate_dst (N := 2) rfl ?_); refine be_ (N := 2) (cs := #[.int .i64 0, .int .i64 0, .int .i64 0]) (t := 144) ?_; intro gb313 hg w3 hbox hb; have BK313 := Aside0.mk (hbox); have GW313 := gw_ (w := w) hg; have GE313 := gw_ (w := w) hg; replace HB := Aside0.mk (below_step bl_ hb); clear hb hbox hg) | ((with_reducible refine gate_callee (f := 157) rfl ?_); refine goesL_ (some 5) rfl rfl Tryd.func157 (by kernel_rfl) rfl #[] rfl gl_ ?_; (with_reducible refine (impl_fieldRows.calls  t314 _ A2.out).mono ?_); rintro e w4 ⟨v315, rfl, ho0, hb⟩; refine ⟨_, rfl, ?_⟩; have HO316 := Aside0.mk (Kd.R_lower (Kd.R_newB ho0 (bk_ BK313)) (below_size bl_)); replace BK313 := Aside0.mk (blk_below (bk_ BK313) hb); replace HB := Aside0.mk (below_step bl_ hb); (try clear hb); (try clear hb2); (try clear hk); (try clear hi); (try clear ho0); obtain ⟨Ao5, co5, eo5⟩ := Kd.R_slice HO316.out; subst eo5))
 go_loopg [7] k (fun kq v7 w' => ∃ (x7_1 : Int) (x314000_1 : Int) (x314001_1 : Int) (x314002_1 : Int), v7 = .int .i64 x7_1 ∧ Aside0 (impl_rowOf.l0 kq a0 t314 (t314.length : Int) x7_1 = some (r1, r2, r3)) ∧ Aside0 (kq ≤ k) ∧ Aside0 (Kd.R k144 144 w' w.heap.size (fun k_ => k_ ≠ gb313) (.slice Ao5 t314.length co5) t314) ∧ Aside0 (w'.heap[gb313]? = some (.cells #[.int .i64 x314000_1, .int .i64 x314001_1, .int .i64 x314002_1] 144 (0, 0))) ∧ Aside0 (Below w.heap.size w w'))
 case atStart => exact ⟨(0), (0), (0), (0), sp_, H', ⟨Nat.le_refl _⟩, ⟨by (with_reducible repeat (first | apply Kd.R_alloc | apply Kd.R_drewN | apply Kd.R_drew)); exact Kd.R_mono HO316.out (fun _ hk => hk.2)⟩, ⟨by (with_reducible repeat (first | refine blk_drewN ?_ _ | refine blk_drew ?_ | refine blk_alloc ?_ _)); exact BK313.out⟩, ⟨bl_⟩⟩
 case round =>
  clear H'
  try clear c1
  try clear p2
  obtain ⟨x7_1, x314000_1, x314001_1, x314002_1, rfl, HA, HK1, HO_5, BK313, HB⟩ := hrel
  cases gk with
  | zero => exact absurd HA.out (by simp [impl_rowOf.l0])
  | succ k1 =>
   have H := HA.out
   clear HA
   simp only [impl_rowOf.l0] at H
   by_cases c6 : x7_1 < (t314.length : Int)
   ·rw [if_pos c6] at H
    have c6b0 : decide (x7_1 < (t314.length : Int)) = true := decide_eq_true c6
    clear c6
    by_cases c7 : 0 ≤ x7_1
    ·rw [if_pos c7] at H
     have c7b0 : decide (0 ≤ x7_1) = true := decide_eq_true c7
     clear c7
     by_cases c8 : x7_1 < (t314.length : Int)
     ·rw [if_pos c8] at H
      have c8b0 : decide (x7_1 < (t314.length : Int)) = true := decide_eq_true c8
      clear c8
      by_cases c9 : ((rd_T144 t314 x7_1).f0) = a0
      ·rw [if_pos c9] at H
       have c9b0 : (((rd_T144 t314 x7_1).f0) == a0) = true := beq_iff_eq.mpr c9
       have c9b1 : (((rd_T144 t314 x7_1).f0) != a0) = false := bne_eq_false_iff_eq.mpr c9
       clear c9
       simp only [Option.some.injEq, Prod.mk.injEq] at H
       obtain ⟨rfl, rfl, rfl⟩ := H
       have p317 : 0 ≤ (x7_1 : Int) := od_
       have q317 : x7_1 < (t314.length : Int) := od_
       obtain ⟨ad317, e317, hx317_0, hx317_1, hx317_2⟩ := at_T144 (Kd.R_reads' HO_5.out).2.2 x7_1 p317 q317
       cases e317
       replace p317 := eq_true p317
       replace q317 := eq_true q317
       go_wp2_with (first | ((with_reducible refine gate_dst (N := 4) rfl ?_); refine be_ (N := 4) (cs := #[.int .i64 0, .int .i64 0, .int .i64 0]) (t := 144) ?_; intro gb318 hg w10 hbox hb; replace HO_5 := Aside0.mk (Kd.R_below (Kd.R_elderB (ra_ HO_5) gb318 (Nat.le_of_eq hg.symm)) hb); have BK318 := Aside0.mk (hbox); have GW318 := gw_ (w := w) hg; have GE318 := gw_ (w := w) hg; replace HB := Aside0.mk (below_step bl_ hb); have NB313_318 := Aside0.mk ((by rw [hg]; exact Nat.ne_of_lt (blk_lt (bk_ BK313)) : gb313 ≠ gb318)); have NB318_313 := Aside0.mk ((by rw [hg]; exact Nat.ne_of_gt (blk_lt (bk_ BK313)) : gb318 ≠ gb313)); replace BK313 := Aside0.mk (blk_below (bk_ BK313) hb); clear hb hbox hg; have hnb11 := NB318_313.out; have hnc11 := NB313_318.out; obtain ⟨hcz12_0, hcz12_1, hcz12_2, hfz12_0, hfz12_1, hfz12_2⟩ := bx3_ BK318; obtain ⟨hcz13_0, hcz13_1, hcz13_2, hfz13_0, hfz13_1, hfz13_2⟩ := bx3_ BK313))
       refine bodyPost_ret (results_cell_row rfl _ _ gb313 144 #[.int .i64 ((rd_T144 t314 x7_1).f0), .int .i64 ((rd_T144 t314 x7_1).f1), .int .i64 ((rd_T144 t314 x7_1).f2)] (0, 0) _ rfl (by (with_reducible repeat (first | refine blk_drewN ?_ _ | refine blk_drew ?_ | refine blk_alloc ?_ _)); apply bq3_2_1_0_; (with_reducible repeat (first | refine blk_drewN ?_ _ | refine blk_drew ?_ | refine blk_alloc ?_ _)); refine blk_far ?_ NB313_318.out _; (with_reducible repeat (first | refine blk_drewN ?_ _ | refine blk_drew ?_ | refine blk_alloc ?_ _)); refine blk_far ?_ NB313_318.out _; (with_reducible repeat (first | refine blk_drewN ?_ _ | refine blk_drew ?_ | refine blk_alloc ?_ _)); refine blk_far ?_ NB313_318.out _; (with_reducible repeat (first | refine blk_drewN ?_ _ | refine blk_drew ?_ | refine blk_alloc ?_ _)); exact BK313.out) Tryd.underlying144 rfl (by kernel_rfl)) rfl ?_
       exact ⟨sq_, bl_⟩
      ·rw [if_neg c9] at H
       have c9b0 : (((rd_T144 t314 x7_1).f0) == a0) = false := beq_eq_false_iff_ne.mpr c9
       have c9b1 : (((rd_T144 t314 x7_1).f0) != a0) = true := bne_iff_ne.mpr c9
       have H' := Aside0.mk H
       clear H
       have p317 : 0 ≤ (x7_1 : Int) := od_
       have q317 : x7_1 < (t314.length : Int) := od_
       obtain ⟨ad317, e317, hx317_0, hx317_1, hx317_2⟩ := at_T144 (Kd.R_reads' HO_5.out).2.2 x7_1 p317 q317
       cases e317
       replace p317 := eq_true p317
       replace q317 := eq_true q317
       go_wp2_with (first | ((with_reducible refine gate_dst (N := 4) rfl ?_); refine be_ (N := 4) (cs := #[.int .i64 0, .int .i64 0, .int .i64 0]) (t := 144) ?_; intro gb318 hg w14 hbox hb; replace HO_5 := Aside0.mk (Kd.R_below (Kd.R_elderB (ra_ HO_5) gb318 (Nat.le_of_eq hg.symm)) hb); have BK318 := Aside0.mk (hbox); have GW318 := gw_ (w := w) hg; have GE318 := gw_ (w := w) hg; replace HB := Aside0.mk (below_step bl_ hb); have NB313_318 := Aside0.mk ((by rw [hg]; exact Nat.ne_of_lt (blk_lt (bk_ BK313)) : gb313 ≠ gb318)); have NB318_313 := Aside0.mk ((by rw [hg]; exact Nat.ne_of_gt (blk_lt (bk_ BK313)) : gb318 ≠ gb313)); replace BK313 := Aside0.mk (blk_below (bk_ BK313) hb); clear hb hbox hg; have hnb15 := NB318_313.out; have hnc15 := NB313_318.out; obtain ⟨hcz16_0, hcz16_1, hcz16_2, hfz16_0, hfz16_1, hfz16_2⟩ := bx3_ BK318))
       go_roundg k1
       case measure => have := HK1.out; omega
       case rel => exact ⟨(wrap64 (x7_1 + 1)), (x314000_1), (x314001_1), (x314002_1), sp_, H', ⟨by have := HK1.out; omega⟩, ⟨by (with_reducible repeat (first | apply Kd.R_alloc | apply Kd.R_drewN | apply Kd.R_drew)); exact Kd.R_mono (Kd.R_far (p := ⟨gb318, 2, none⟩) (Kd.R_far (p := ⟨gb318, 1, none⟩) (Kd.R_far (p := ⟨gb318, 0, none⟩) (Kd.R_mono HO_5.out (fun k_ hk => (⟨hk, hk.2⟩ : _ ∧ k_ ≠ gb318))) (fun _ hk => hk.2) (.int .i64 ((rd_T144 t314 x7_1).f0))) (fun _ hk => hk.2) (.int .i64 ((rd_T144 t314 x7_1).f1))) (fun _ hk => hk.2) (.int .i64 ((rd_T144 t314 x7_1).f2))) (fun _ hk => hk.1.1)⟩, ⟨by (with_reducible repeat (first | refine blk_drewN ?_ _ | refine blk_drew ?_ | refine blk_alloc ?_ _)); refine blk_far ?_ NB313_318.out _; (with_reducible repeat (first | refine blk_drewN ?_ _ | refine blk_drew ?_ | refine blk_alloc ?_ _)); refine blk_far ?_ NB313_318.out _; (with_reducible repeat (first | refine blk_drewN ?_ _ | refine blk_drew ?_ | refine blk_alloc ?_ _)); refine blk_far ?_ NB313_318.out _; (with_reducible repeat (first | refine blk_drewN ?_ _ | refine blk_drew ?_ | refine blk_alloc ?_ _)); exact BK313.out⟩, ⟨bl_⟩⟩
     ·rw [if_neg c8] at H
      exact absurd H (by simp)
    ·rw [if_neg c7] at H
     exact absurd H (by simp)
   ·rw [if_neg c6] at H
    have c6b0 : decide (x7_1 < (t314.length : Int)) = false := decide_eq_false c6
    clear c6
    simp only [Option.some.injEq, Prod.mk.injEq] at H
    obtain ⟨rfl, rfl, rfl⟩ := H
    have hcz17_0 := cz_ BK313 0 (.int .i64 x314000_1)
    have hcz17_1 := cz_ BK313 1 (.int .i64 x314001_1)
    have hcz17_2 := cz_ BK313 2 (.int .i64 x314002_1)
    have hfz17_0 := fz_ BK313 0
    have hfz17_1 := fz_ BK313 1
    have hfz17_2 := fz_ BK313 2
    go_wp2
    refine bodyPost_ret (results_cell_row rfl _ _ gb313 144 #[.int .i64 0, .int .i64 0, .int .i64 0] (0, 0) _ rfl (by (with_reducible repeat (first | refine blk_drewN ?_ _ | refine blk_drew ?_ | refine blk_alloc ?_ _)); apply bq3_2_1_0_; (with_reducible repeat (first | refine blk_drewN ?_ _ | refine blk_drew ?_ | refine blk_alloc ?_ _)); exact BK313.out) Tryd.underlying144 rfl (by kernel_rfl)) rfl ?_
    exact ⟨sq_, bl_⟩
/-! ### impl_FieldSize: function 81 -/
def impl_FieldSize.f (k : Nat) (a0 : Int) : Option (Int) := (impl_rowOf.f k a0).bind fun bt319 => (some bt319.2.2)
set_option maxHeartbeats 8000000 in
set_option maxRecDepth 100000 in
theorem impl_FieldSize.calls (k : Nat) (a0 : Int) (r : Int) (w : World) (h : impl_FieldSize.f k a0 = some r) :
  Calls Tryd.prog 81 #[.int .i64 a0] w fun e w' => e = .returned (.int .i64 r) ∧ Below w.heap.size w w' := by
 have hfl144_2 : ∀ (x0_ x1_ x2_ : Value) (w : World), (Instr.field 144 (.agg #[x0_, x1_, x2_]) 2).run Tryd.prog w = .ok x2_ w := by intros; kernel_rfl
 have HB := Aside0.mk (Below.refl w.heap.size w)
 have H : ((impl_rowOf.f k a0).bind fun bt319 => (some bt319.2.2)) = some r := h
 clear h
 obtain ⟨⟨t319, t320, t321⟩, A2, H⟩ := ob_ H
 (try dsimp only at H)
 obtain rfl := Option.some.inj H
 go_enter Tryd.func81, Tryd.ntmps81
 go_wp2_with (first | ((with_reducible refine gate_callee (f := 125) rfl ?_); refine goesL_ (some 4) rfl rfl Tryd.func125 (by kernel_rfl) rfl #[.int .i64 a0] rfl gl_ ?_; (with_reducible refine (impl_rowOf.calls k a0 t319 t320 t321 _ A2.out).mono ?_); rintro e w3 ⟨rfl, hb⟩; refine ⟨_, rfl, ?_⟩; replace HB := Aside0.mk (below_step bl_ hb); (try clear hb); (try clear hb2); (try clear hk); (try clear hi)))
 go_ret
 exact ⟨sq_, bl_⟩
/-! ### impl_FieldKind: function 82 -/
def impl_FieldKind.f (k : Nat) (a0 : Int) : Option (Int) := (impl_rowOf.f k a0).bind fun bt322 => (some bt322.2.1)
set_option maxHeartbeats 8000000 in
set_option maxRecDepth 100000 in
theorem impl_FieldKind.calls (k : Nat) (a0 : Int) (r : Int) (w : World) (h : impl_FieldKind.f k a0 = some r) :
  Calls Tryd.prog 82 #[.int .i64 a0] w fun e w' => e = .returned (.int .i64 r) ∧ Below w.heap.size w w' := by
 have hfl144_1 : ∀ (x0_ x1_ x2_ : Value) (w : World), (Instr.field 144 (.agg #[x0_, x1_, x2_]) 1).run Tryd.prog w = .ok x1_ w := by intros; kernel_rfl
 have HB := Aside0.mk (Below.refl w.heap.size w)
 have H : ((impl_rowOf.f k a0).bind fun bt322 => (some bt322.2.1)) = some r := h
 clear h
 obtain ⟨⟨t322, t323, t324⟩, A2, H⟩ := ob_ H
 (try dsimp only at H)
 obtain rfl := Option.some.inj H
 go_enter Tryd.func82, Tryd.ntmps82
 go_wp2_with (first | ((with_reducible refine gate_callee (f := 125) rfl ?_); refine goesL_ (some 4) rfl rfl Tryd.func125 (by kernel_rfl) rfl #[.int .i64 a0] rfl gl_ ?_; (with_reducible refine (impl_rowOf.calls k a0 t322 t323 t324 _ A2.out).mono ?_); rintro e w3 ⟨rfl, hb⟩; refine ⟨_, rfl, ?_⟩; replace HB := Aside0.mk (below_step bl_ hb); (try clear hb); (try clear hb2); (try clear hk); (try clear hi)))
 go_ret
 exact ⟨sq_, bl_⟩
/-! ### impl_Printable: function 126 -/
def impl_Printable.l0 : Nat → ByteArray → Int → Int → Option (Bool)
 | 0, _, _, _ => none
 | k + 1, x0, x5, x6 => if x6 < x5 then (if 0 ≤ x6 then (if x6 < (x0.size : Int) then (if (bt x0 x6) < 32 then (some false) else (if (bt x0 x6) > 126 then (some false) else (impl_Printable.l0 k x0 x5 (wrap64 (x6 + 1))))) else (none)) else (none)) else (some true)
def impl_Printable.f (k : Nat) (a0 : ByteArray) : Option (Bool) := impl_Printable.l0 k a0 (a0.size : Int) 0
set_option maxHeartbeats 8000000 in
set_option maxRecDepth 100000 in
theorem impl_Printable.calls (k : Nat) (a0 : ByteArray) (r : Bool) (w : World) (h : impl_Printable.f k a0 = some r) :
  Calls Tryd.prog 126 #[.string a0] w fun e w' => e = .returned (.bool r) ∧ Drawn0 w w' := by
 have H : (impl_Printable.l0 k a0 (a0.size : Int) 0) = some r := h
 clear h
 have H' := Aside0.mk H
 clear H
 go_enter Tryd.func126, Tryd.ntmps126
 go_wp2
 go_loopg [6] k (fun kq v6 w' => ∃ (x6_1 : Int), v6 = .int .i64 x6_1 ∧ Aside0 (impl_Printable.l0 kq a0 (a0.size : Int) x6_1 = some r) ∧ Aside0 (kq ≤ k) ∧ Drawn0 w w')
 case atStart => exact ⟨(0), sp_, H', ⟨Nat.le_refl _⟩, by repeat (first | exact Drawn0.refl _ | apply Drawn0.step)⟩
 case round =>
  clear H'
  try clear c1
  obtain ⟨x6_1, rfl, HA, HK1, ⟨m1, rfl⟩⟩ := hrel
  cases gk with
  | zero => exact absurd HA.out (by simp [impl_Printable.l0])
  | succ k1 =>
   have H := HA.out
   clear HA
   simp only [impl_Printable.l0] at H
   by_cases c2 : x6_1 < (a0.size : Int)
   ·rw [if_pos c2] at H
    have c2b0 : decide (x6_1 < (a0.size : Int)) = true := decide_eq_true c2
    clear c2
    by_cases c3 : 0 ≤ x6_1
    ·rw [if_pos c3] at H
     have c3b0 : decide (0 ≤ x6_1) = true := decide_eq_true c3
     clear c3
     by_cases c4 : x6_1 < (a0.size : Int)
     ·rw [if_pos c4] at H
      have c4b0 : decide (x6_1 < (a0.size : Int)) = true := decide_eq_true c4
      clear c4
      by_cases c6 : (bt a0 x6_1) < 32
      ·rw [if_pos c6] at H
       have c6b0 : decide ((bt a0 x6_1) < 32) = true := decide_eq_true c6
       clear c6
       obtain rfl := Option.some.inj H
       have p5 : 0 ≤ (x6_1 : Int) := od_
       have q5 : x6_1 < (a0.size : Int) := od_
       have hx5 := bt_at a0 x6_1
       replace p5 := eq_true p5
       replace q5 := eq_true q5
       go_wp2
       go_ret
       exact ⟨sp_, by repeat (first | exact Drawn0.refl _ | apply Drawn0.step)⟩
      ·rw [if_neg c6] at H
       have c6b0 : decide ((bt a0 x6_1) < 32) = false := decide_eq_false c6
       clear c6
       by_cases c8 : (bt a0 x6_1) > 126
       ·rw [if_pos c8] at H
        have c8b0 : decide (126 < (bt a0 x6_1)) = true := decide_eq_true c8
        clear c8
        obtain rfl := Option.some.inj H
        have p5 : 0 ≤ (x6_1 : Int) := od_
        have q5 : x6_1 < (a0.size : Int) := od_
        have hx5 := bt_at a0 x6_1
        replace p5 := eq_true p5
        replace q5 := eq_true q5
        have p7 : 0 ≤ (x6_1 : Int) := od_
        have q7 : x6_1 < (a0.size : Int) := od_
        have hx7 := bt_at a0 x6_1
        replace p7 := eq_true p7
        replace q7 := eq_true q7
        go_wp2
        go_ret
        exact ⟨sp_, by repeat (first | exact Drawn0.refl _ | apply Drawn0.step)⟩
       ·rw [if_neg c8] at H
        have c8b0 : decide (126 < (bt a0 x6_1)) = false := decide_eq_false c8
        clear c8
        have H' := Aside0.mk H
        clear H
        have p5 : 0 ≤ (x6_1 : Int) := od_
        have q5 : x6_1 < (a0.size : Int) := od_
        have hx5 := bt_at a0 x6_1
        replace p5 := eq_true p5
        replace q5 := eq_true q5
        have p7 : 0 ≤ (x6_1 : Int) := od_
        have q7 : x6_1 < (a0.size : Int) := od_
        have hx7 := bt_at a0 x6_1
        replace p7 := eq_true p7
        replace q7 := eq_true q7
        go_wp2
        go_roundg k1
        case measure => have := HK1.out; omega
        case rel => exact ⟨(wrap64 (x6_1 + 1)), sp_, H', ⟨by have := HK1.out; omega⟩, by repeat (first | exact Drawn0.refl _ | apply Drawn0.step)⟩
     ·rw [if_neg c4] at H
      exact absurd H (by simp)
    ·rw [if_neg c3] at H
     exact absurd H (by simp)
   ·rw [if_neg c2] at H
    have c2b0 : decide (x6_1 < (a0.size : Int)) = false := decide_eq_false c2
    clear c2
    obtain rfl := Option.some.inj H
    go_wp2
    go_ret
    exact ⟨sp_, by repeat (first | exact Drawn0.refl _ | apply Drawn0.step)⟩
/-! ### impl_FieldOk: function 83 -/
def impl_FieldOk.j0 : Nat → ByteArray → Bool → Int → Int → Int → Option (Bool)
 | 0, _, _, _, _, _ => none
 | k + 1, x1, x43, x329000, x329001, x329002 => if x43 = true then ((impl_Printable.f k x1).bind fun t333 => (if t333 = true then ((impl_within.f (x1.size : Int) 1 x329002).bind fun t334 => (some t334)) else (some false))) else (some false)
def impl_FieldOk.f (k : Nat) (a0 : Int) (a1 : ByteArray) : Option (Bool) := (impl_rowOf.f k a0).bind fun bt325 => (if bt325.2.1 = 1 then ((impl_Digits.f k a1).bind fun t329 => (if t329 = true then (some ((a1.size : Int) == bt325.2.2)) else (some false))) else (if bt325.2.1 = 2 then ((impl_Printable.f k a1).bind fun t330 => (if t330 = true then (some ((a1.size : Int) == bt325.2.2)) else (some false))) else (if bt325.2.1 = 3 then ((impl_Digits.f k a1).bind fun t331 => (if t331 = true then ((impl_within.f (a1.size : Int) 1 bt325.2.2).bind fun t332 => (some t332)) else (some false))) else (if bt325.2.1 = 4 then (impl_FieldOk.j0 k a1 (bt325.2.1 == 4) bt325.1 bt325.2.1 bt325.2.2) else (impl_FieldOk.j0 k a1 (bt325.2.1 == 5) bt325.1 bt325.2.1 bt325.2.2)))))
set_option maxHeartbeats 8000000 in
set_option maxRecDepth 100000 in
theorem impl_FieldOk.calls (k : Nat) (a0 : Int) (a1 : ByteArray) (r : Bool) (w : World) (h : impl_FieldOk.f k a0 a1 = some r) :
  Calls Tryd.prog 83 #[.int .i64 a0, .string a1] w fun e w' => e = .returned (.bool r) ∧ Below w.heap.size w w' := by
 have hu144 := Tryd.underlying144
 have HB := Aside0.mk (Below.refl w.heap.size w)
 have H : ((impl_rowOf.f k a0).bind fun bt325 => (if bt325.2.1 = 1 then ((impl_Digits.f k a1).bind fun t329 => (if t329 = true then (some ((a1.size : Int) == bt325.2.2)) else (some false))) else (if bt325.2.1 = 2 then ((impl_Printable.f k a1).bind fun t330 => (if t330 = true then (some ((a1.size : Int) == bt325.2.2)) else (some false))) else (if bt325.2.1 = 3 then ((impl_Digits.f k a1).bind fun t331 => (if t331 = true then ((impl_within.f (a1.size : Int) 1 bt325.2.2).bind fun t332 => (some t332)) else (some false))) else (if bt325.2.1 = 4 then (impl_FieldOk.j0 k a1 (bt325.2.1 == 4) bt325.1 bt325.2.1 bt325.2.2) else (impl_FieldOk.j0 k a1 (bt325.2.1 == 5) bt325.1 bt325.2.1 bt325.2.2)))))) = some r := h
 clear h
 obtain ⟨⟨t325, t326, t327⟩, A3, H⟩ := ob_ H
 (try dsimp only at H)
 by_cases c4 : t326 = 1
 ·rw [if_pos c4] at H
  have c4b0 : (t326 == 1) = true := beq_iff_eq.mpr c4
  have c4b1 : (t326 != 1) = false := bne_eq_false_iff_eq.mpr c4
  clear c4
  obtain ⟨t329, A5, H⟩ := ob_ H
  by_cases c6 : t329 = true
  ·subst c6
   replace H := ip_ H
   obtain rfl := Option.some.inj H
   go_enter Tryd.func83, Tryd.ntmps83
   go_wp2_with (first | ((with_reducible refine gate_callee (f := 125) rfl ?_); refine goesL_ (some 7) rfl rfl Tryd.func125 (by kernel_rfl) rfl #[.int .i64 a0] rfl gl_ ?_; (with_reducible refine (impl_rowOf.calls k a0 t325 t326 t327 _ A3.out).mono ?_); rintro e w7 ⟨rfl, hb⟩; refine ⟨_, rfl, ?_⟩; replace HB := Aside0.mk (below_step bl_ hb); (try clear hb); (try clear hb2); (try clear hk); (try clear hi)) | ((with_reducible refine gate_dst (N := 5) rfl ?_); (try (refine gate_guard (by rfl) ?_; dsimp only)); refine be_ (N := 5) (cs := #[.int .i64 0, .int .i64 0, .int .i64 0]) (t := 144) ?_; intro gb328 hg w8 hbox hb; have BK328 := Aside0.mk (hbox); have GW328 := gw_ (w := w) hg; have GE328 := gw_ (w := w) hg; replace HB := Aside0.mk (below_step bl_ hb); clear hb hbox hg; obtain ⟨hcz9_0, hcz9_1, hcz9_2, hfz9_0, hfz9_1, hfz9_2⟩ := bx3_ BK328) | ((with_reducible refine gate_callee (f := 118) rfl ?_); refine goesL_ (some 13) rfl rfl Tryd.func118 (by kernel_rfl) rfl #[.string a1] rfl gl_ ?_; (with_reducible refine (impl_Digits.calls k a1 true _ A5.out).mono ?_); rintro e w' ⟨rfl, ⟨nd, rfl⟩⟩; refine ⟨_, rfl, ?_⟩))
   go_ret
   exact ⟨sq_, bl_⟩
  ·replace c6 := Bool.eq_false_iff.mpr c6
   subst c6
   replace H := in_ H
   obtain rfl := Option.some.inj H
   go_enter Tryd.func83, Tryd.ntmps83
   go_wp2_with (first | ((with_reducible refine gate_callee (f := 125) rfl ?_); refine goesL_ (some 7) rfl rfl Tryd.func125 (by kernel_rfl) rfl #[.int .i64 a0] rfl gl_ ?_; (with_reducible refine (impl_rowOf.calls k a0 t325 t326 t327 _ A3.out).mono ?_); rintro e w10 ⟨rfl, hb⟩; refine ⟨_, rfl, ?_⟩; replace HB := Aside0.mk (below_step bl_ hb); (try clear hb); (try clear hb2); (try clear hk); (try clear hi)) | ((with_reducible refine gate_dst (N := 5) rfl ?_); (try (refine gate_guard (by rfl) ?_; dsimp only)); refine be_ (N := 5) (cs := #[.int .i64 0, .int .i64 0, .int .i64 0]) (t := 144) ?_; intro gb328 hg w11 hbox hb; have BK328 := Aside0.mk (hbox); have GW328 := gw_ (w := w) hg; have GE328 := gw_ (w := w) hg; replace HB := Aside0.mk (below_step bl_ hb); clear hb hbox hg; obtain ⟨hcz12_0, hcz12_1, hcz12_2, hfz12_0, hfz12_1, hfz12_2⟩ := bx3_ BK328) | ((with_reducible refine gate_callee (f := 118) rfl ?_); refine goesL_ (some 13) rfl rfl Tryd.func118 (by kernel_rfl) rfl #[.string a1] rfl gl_ ?_; (with_reducible refine (impl_Digits.calls k a1 false _ A5.out).mono ?_); rintro e w' ⟨rfl, ⟨nd, rfl⟩⟩; refine ⟨_, rfl, ?_⟩))
   go_ret
   exact ⟨sq_, bl_⟩
 ·rw [if_neg c4] at H
  have c4b0 : (t326 == 1) = false := beq_eq_false_iff_ne.mpr c4
  have c4b1 : (t326 != 1) = true := bne_iff_ne.mpr c4
  by_cases c13 : t326 = 2
  ·rw [if_pos c13] at H
   have c13b0 : (t326 == 2) = true := beq_iff_eq.mpr c13
   have c13b1 : (t326 != 2) = false := bne_eq_false_iff_eq.mpr c13
   clear c13
   obtain ⟨t330, A14, H⟩ := ob_ H
   by_cases c15 : t330 = true
   ·subst c15
    replace H := ip_ H
    obtain rfl := Option.some.inj H
    go_enter Tryd.func83, Tryd.ntmps83
    go_wp2_with (first | ((with_reducible refine gate_callee (f := 125) rfl ?_); refine goesL_ (some 7) rfl rfl Tryd.func125 (by kernel_rfl) rfl #[.int .i64 a0] rfl gl_ ?_; (with_reducible refine (impl_rowOf.calls k a0 t325 t326 t327 _ A3.out).mono ?_); rintro e w16 ⟨rfl, hb⟩; refine ⟨_, rfl, ?_⟩; replace HB := Aside0.mk (below_step bl_ hb); (try clear hb); (try clear hb2); (try clear hk); (try clear hi)) | ((with_reducible refine gate_dst (N := 5) rfl ?_); (try (refine gate_guard (by rfl) ?_; dsimp only)); refine be_ (N := 5) (cs := #[.int .i64 0, .int .i64 0, .int .i64 0]) (t := 144) ?_; intro gb328 hg w17 hbox hb; have BK328 := Aside0.mk (hbox); have GW328 := gw_ (w := w) hg; have GE328 := gw_ (w := w) hg; replace HB := Aside0.mk (below_step bl_ hb); clear hb hbox hg; obtain ⟨hcz18_0, hcz18_1, hcz18_2, hfz18_0, hfz18_1, hfz18_2⟩ := bx3_ BK328) | ((with_reducible refine gate_callee (f := 126) rfl ?_); refine goesL_ (some 24) rfl rfl Tryd.func126 (by kernel_rfl) rfl #[.string a1] rfl gl_ ?_; (with_reducible refine (impl_Printable.calls k a1 true _ A14.out).mono ?_); rintro e w' ⟨rfl, ⟨nd, rfl⟩⟩; refine ⟨_, rfl, ?_⟩))
    go_ret
    exact ⟨sq_, bl_⟩
   ·replace c15 := Bool.eq_false_iff.mpr c15
    subst c15
    replace H := in_ H
    obtain rfl := Option.some.inj H
    go_enter Tryd.func83, Tryd.ntmps83
    go_wp2_with (first | ((with_reducible refine gate_callee (f := 125) rfl ?_); refine goesL_ (some 7) rfl rfl Tryd.func125 (by kernel_rfl) rfl #[.int .i64 a0] rfl gl_ ?_; (with_reducible refine (impl_rowOf.calls k a0 t325 t326 t327 _ A3.out).mono ?_); rintro e w19 ⟨rfl, hb⟩; refine ⟨_, rfl, ?_⟩; replace HB := Aside0.mk (below_step bl_ hb); (try clear hb); (try clear hb2); (try clear hk); (try clear hi)) | ((with_reducible refine gate_dst (N := 5) rfl ?_); (try (refine gate_guard (by rfl) ?_; dsimp only)); refine be_ (N := 5) (cs := #[.int .i64 0, .int .i64 0, .int .i64 0]) (t := 144) ?_; intro gb328 hg w20 hbox hb; have BK328 := Aside0.mk (hbox); have GW328 := gw_ (w := w) hg; have GE328 := gw_ (w := w) hg; replace HB := Aside0.mk (below_step bl_ hb); clear hb hbox hg; obtain ⟨hcz21_0, hcz21_1, hcz21_2, hfz21_0, hfz21_1, hfz21_2⟩ := bx3_ BK328) | ((with_reducible refine gate_callee (f := 126) rfl ?_); refine goesL_ (some 24) rfl rfl Tryd.func126 (by kernel_rfl) rfl #[.string a1] rfl gl_ ?_; (with_reducible refine (impl_Printable.calls k a1 false _ A14.out).mono ?_); rintro e w' ⟨rfl, ⟨nd, rfl⟩⟩; refine ⟨_, rfl, ?_⟩))
    go_ret
    exact ⟨sq_, bl_⟩
  ·rw [if_neg c13] at H
   have c13b0 : (t326 == 2) = false := beq_eq_false_iff_ne.mpr c13
   have c13b1 : (t326 != 2) = true := bne_iff_ne.mpr c13
   by_cases c22 : t326 = 3
   ·rw [if_pos c22] at H
    have c22b0 : (t326 == 3) = true := beq_iff_eq.mpr c22
    have c22b1 : (t326 != 3) = false := bne_eq_false_iff_eq.mpr c22
    clear c22
    obtain ⟨t331, A23, H⟩ := ob_ H
    by_cases c24 : t331 = true
    ·subst c24
     replace H := ip_ H
     obtain ⟨t332, A25, H⟩ := ob_ H
     obtain rfl := Option.some.inj H
     go_enter Tryd.func83, Tryd.ntmps83
     go_wp2_with (first | ((with_reducible refine gate_callee (f := 125) rfl ?_); refine goesL_ (some 7) rfl rfl Tryd.func125 (by kernel_rfl) rfl #[.int .i64 a0] rfl gl_ ?_; (with_reducible refine (impl_rowOf.calls k a0 t325 t326 t327 _ A3.out).mono ?_); rintro e w26 ⟨rfl, hb⟩; refine ⟨_, rfl, ?_⟩; replace HB := Aside0.mk (below_step bl_ hb); (try clear hb); (try clear hb2); (try clear hk); (try clear hi)) | ((with_reducible refine gate_dst (N := 5) rfl ?_); (try (refine gate_guard (by rfl) ?_; dsimp only)); refine be_ (N := 5) (cs := #[.int .i64 0, .int .i64 0, .int .i64 0]) (t := 144) ?_; intro gb328 hg w27 hbox hb; have BK328 := Aside0.mk (hbox); have GW328 := gw_ (w := w) hg; have GE328 := gw_ (w := w) hg; replace HB := Aside0.mk (below_step bl_ hb); clear hb hbox hg; obtain ⟨hcz28_0, hcz28_1, hcz28_2, hfz28_0, hfz28_1, hfz28_2⟩ := bx3_ BK328) | ((with_reducible refine gate_callee (f := 118) rfl ?_); refine goesL_ (some 35) rfl rfl Tryd.func118 (by kernel_rfl) rfl #[.string a1] rfl gl_ ?_; (with_reducible refine (impl_Digits.calls k a1 true _ A23.out).mono ?_); rintro e w' ⟨rfl, ⟨nd, rfl⟩⟩; refine ⟨_, rfl, ?_⟩) | (go_at_call 60; (with_reducible refine (impl_within.calls (a1.size : Int) 1 t327 t332 _ A25.out).mono ?_); rintro e w' ⟨rfl, ⟨nd, rfl⟩⟩))
     go_ret
     exact ⟨sq_, bl_⟩
    ·replace c24 := Bool.eq_false_iff.mpr c24
     subst c24
     replace H := in_ H
     obtain rfl := Option.some.inj H
     go_enter Tryd.func83, Tryd.ntmps83
     go_wp2_with (first | ((with_reducible refine gate_callee (f := 125) rfl ?_); refine goesL_ (some 7) rfl rfl Tryd.func125 (by kernel_rfl) rfl #[.int .i64 a0] rfl gl_ ?_; (with_reducible refine (impl_rowOf.calls k a0 t325 t326 t327 _ A3.out).mono ?_); rintro e w29 ⟨rfl, hb⟩; refine ⟨_, rfl, ?_⟩; replace HB := Aside0.mk (below_step bl_ hb); (try clear hb); (try clear hb2); (try clear hk); (try clear hi)) | ((with_reducible refine gate_dst (N := 5) rfl ?_); (try (refine gate_guard (by rfl) ?_; dsimp only)); refine be_ (N := 5) (cs := #[.int .i64 0, .int .i64 0, .int .i64 0]) (t := 144) ?_; intro gb328 hg w30 hbox hb; have BK328 := Aside0.mk (hbox); have GW328 := gw_ (w := w) hg; have GE328 := gw_ (w := w) hg; replace HB := Aside0.mk (below_step bl_ hb); clear hb hbox hg; obtain ⟨hcz31_0, hcz31_1, hcz31_2, hfz31_0, hfz31_1, hfz31_2⟩ := bx3_ BK328) | ((with_reducible refine gate_callee (f := 118) rfl ?_); refine goesL_ (some 35) rfl rfl Tryd.func118 (by kernel_rfl) rfl #[.string a1] rfl gl_ ?_; (with_reducible refine (impl_Digits.calls k a1 false _ A23.out).mono ?_); rintro e w' ⟨rfl, ⟨nd, rfl⟩⟩; refine ⟨_, rfl, ?_⟩))
     go_ret
     exact ⟨sq_, bl_⟩
   ·rw [if_neg c22] at H
    have c22b0 : (t326 == 3) = false := beq_eq_false_iff_ne.mpr c22
    have c22b1 : (t326 != 3) = true := bne_iff_ne.mpr c22
    have HC32 := Aside0.mk H
    clear H
    go_enter Tryd.func83, Tryd.ntmps83
    go_upto_if 43 with (first | ((with_reducible refine gate_callee (f := 125) rfl ?_); refine goesL_ (some 7) rfl rfl Tryd.func125 (by kernel_rfl) rfl #[.int .i64 a0] rfl gl_ ?_; (with_reducible refine (impl_rowOf.calls k a0 t325 t326 t327 _ A3.out).mono ?_); rintro e w33 ⟨rfl, hb⟩; refine ⟨_, rfl, ?_⟩; replace HB := Aside0.mk (below_step bl_ hb); (try clear hb); (try clear hb2); (try clear hk); (try clear hi)) | ((with_reducible refine gate_dst (N := 5) rfl ?_); (try (refine gate_guard (by rfl) ?_; dsimp only)); refine be_ (N := 5) (cs := #[.int .i64 0, .int .i64 0, .int .i64 0]) (t := 144) ?_; intro gb328 hg w34 hbox hb; have BK328 := Aside0.mk (hbox); have GW328 := gw_ (w := w) hg; have GE328 := gw_ (w := w) hg; replace HB := Aside0.mk (below_step bl_ hb); clear hb hbox hg; obtain ⟨hcz35_0, hcz35_1, hcz35_2, hfz35_0, hfz35_1, hfz35_2⟩ := bx3_ BK328))
    (try simp only [Act.put, List.setIfInBounds_toArray, List.set_cons_zero, List.set_cons_succ])
    go_cut [43] (fun v43 wc => ∃ (kq : Nat) (x43_31 : Bool), v43 = .bool x43_31 ∧ Aside0 (impl_FieldOk.j0 kq a1 x43_31 t325 t326 t327 = some r) ∧ Aside0 (kq ≤ k) ∧ Aside0 (wc.heap[gb328]? = some (.cells #[.int .i64 t325, .int .i64 t326, .int .i64 t327] 144 (0, 0))) ∧ Aside0 (Below w.heap.size w wc))
    case first =>
     have H := HC32.out
     clear HC32
     by_cases c36 : t326 = 4
     ·rw [if_pos c36] at H
      have c36b0 : (t326 == 4) = true := beq_iff_eq.mpr c36
      have c36b1 : (t326 != 4) = false := bne_eq_false_iff_eq.mpr c36
      clear c36
      (first | rw [c36b0] | (simp only [i64_w, i32_w]; rw [c36b0]) | skip)
      have H' := Aside0.mk H
      clear H
      go_wp2
      go_meet
      case rel => exact ⟨_, ((t326 == 4)), sp_, H', ⟨by first | omega | exact Nat.le_refl _⟩, ⟨by (with_reducible repeat (first | refine blk_drewN ?_ _ | refine blk_drew ?_ | refine blk_alloc ?_ _)); apply bq3_2_1_0_; (with_reducible repeat (first | refine blk_drewN ?_ _ | refine blk_drew ?_ | refine blk_alloc ?_ _)); exact BK328.out⟩, ⟨bl_⟩⟩
     ·rw [if_neg c36] at H
      have c36b0 : (t326 == 4) = false := beq_eq_false_iff_ne.mpr c36
      have c36b1 : (t326 != 4) = true := bne_iff_ne.mpr c36
      (first | rw [c36b0] | (simp only [i64_w, i32_w]; rw [c36b0]) | skip)
      have H' := Aside0.mk H
      clear H
      go_wp2
      go_meet
      case rel => exact ⟨_, ((t326 == 5)), sp_, H', ⟨by first | omega | exact Nat.le_refl _⟩, ⟨by (with_reducible repeat (first | refine blk_drewN ?_ _ | refine blk_drew ?_ | refine blk_alloc ?_ _)); apply bq3_2_1_0_; (with_reducible repeat (first | refine blk_drewN ?_ _ | refine blk_drew ?_ | refine blk_alloc ?_ _)); exact BK328.out⟩, ⟨bl_⟩⟩
    case rest =>
     clear HC32
     try clear c1
     try clear c2
     try clear p2
     try clear c3
     try clear c4
     try clear c4b0
     try clear c4b1
     try clear c6
     try clear c8
     try clear c11
     try clear c12
     try clear c13
     try clear c13b0
     try clear c13b1
     try clear c15
     try clear c22
     try clear c22b0
     try clear c22b1
     try clear c24
     try clear c36
     try clear c36b0
     try clear c36b1
     try clear hcz12_0
     try clear hcz12_1
     try clear hcz12_2
     try clear hcz18_0
     try clear hcz18_1
     try clear hcz18_2
     try clear hcz21_0
     try clear hcz21_1
     try clear hcz21_2
     try clear hcz28_0
     try clear hcz28_1
     try clear hcz28_2
     try clear hcz31_0
     try clear hcz31_1
     try clear hcz31_2
     try clear hcz35_0
     try clear hcz35_1
     try clear hcz35_2
     try clear hcz9_0
     try clear hcz9_1
     try clear hcz9_2
     try clear hfz12_0
     try clear hfz12_1
     try clear hfz12_2
     try clear hfz18_0
     try clear hfz18_1
     try clear hfz18_2
     try clear hfz21_0
     try clear hfz21_1
     try clear hfz21_2
     try clear hfz28_0
     try clear hfz28_1
     try clear hfz28_2
     try clear hfz31_0
     try clear hfz31_1
     try clear hfz31_2
     try clear hfz35_0
     try clear hfz35_1
     try clear hfz35_2
     try clear hfz9_0
     try clear hfz9_1
     try clear hfz9_2
     obtain ⟨kq, x43_31, rfl, HA, HJ31, BK328, HB⟩ := hcut
     cases kq with
     | zero => exact absurd HA.out (by simp [impl_FieldOk.j0])
     | succ kj31 =>
      have H := HA.out
      clear HA
      simp only [impl_FieldOk.j0] at H
      by_cases c37 : x43_31 = true
      ·subst c37
       replace H := ip_ H
       obtain ⟨t333, A38, H⟩ := ob_ H
       by_cases c39 : t333 = true
       ·subst c39
        replace H := ip_ H
        obtain ⟨t334, A40, H⟩ := ob_ H
        obtain rfl := Option.some.inj H
        go_wp2_with (first | ((with_reducible refine gate_callee (f := 126) rfl ?_); refine goesL_ (some 47) rfl rfl Tryd.func126 (by kernel_rfl) rfl #[.string a1] rfl gl_ ?_; (with_reducible refine (impl_Printable.calls kj31 a1 true _ A38.out).mono ?_); rintro e w' ⟨rfl, ⟨nd, rfl⟩⟩; refine ⟨_, rfl, ?_⟩; obtain ⟨hcz41_0, hcz41_1, hcz41_2, hfz41_0, hfz41_1, hfz41_2⟩ := bx3_ BK328) | (go_at_call 60; (with_reducible refine (impl_within.calls (a1.size : Int) 1 t327 t334 _ A40.out).mono ?_); rintro e w' ⟨rfl, ⟨nd, rfl⟩⟩))
        go_ret
        exact ⟨sq_, bl_⟩
       ·replace c39 := Bool.eq_false_iff.mpr c39
        subst c39
        replace H := in_ H
        obtain rfl := Option.some.inj H
        go_wp2_with (first | ((with_reducible refine gate_callee (f := 126) rfl ?_); refine goesL_ (some 47) rfl rfl Tryd.func126 (by kernel_rfl) rfl #[.string a1] rfl gl_ ?_; (with_reducible refine (impl_Printable.calls kj31 a1 false _ A38.out).mono ?_); rintro e w' ⟨rfl, ⟨nd, rfl⟩⟩; refine ⟨_, rfl, ?_⟩))
        go_ret
        exact ⟨sq_, bl_⟩
      ·replace c37 := Bool.eq_false_iff.mpr c37
       subst c37
       replace H := in_ H
       obtain rfl := Option.some.inj H
       go_wp2
       go_ret
       exact ⟨sq_, bl_⟩
end Go.Proofs.YtbjpfknmkpnhjaaDoor.QFnExactReqMsg
