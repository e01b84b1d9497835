-- by my own printer (myprint.py, over the kit's print.py)
import Derived.Test.YtohfefkjcnbejaaGreatDoorQFnExactReqOfx0
import Derived.Test.YtohfefkjcnbejaaGreatDoorQFnExactReqOfx1
import Derived.Test.YtohfefkjcnbejaaGreatDoorQFnExactReqOfx3
import Derived.Test.YtohfefkjcnbejaaGreatDoorQFnExactReqOfx4
import Derived.Test.YtohfefkjcnbejaaGreatDoorQFnExactReqOfx5
namespace Go.Proofs.YtohfefkjcnbejaaGreatDoor.QFnExactReqOf
open Go.RowKit Go.Proofs.YtohfefkjcnbejaaGreatDoorW.PrintWords Go.Proofs.YtohfefkjcnbejaaGreatDoorW.PrintLast Go.Proofs.YtohfefkjcnbejaaGreatDoorW.PrintMore
attribute [local go_sem] max2_int min2_int max_two min_two max_three min_three max_four min_four   -- for this text's walks alone
set_option linter.unusedVariables false
set_option linter.unusedSimpArgs false
attribute [local go_sem] my_geq my_leq my_gtr
abbrev tb30_0_6 : Array Bool := #[b0, b0, b0, b0, b0, b0, b0, b0, b0, b0, b0, b0, b0, b0, b0, b0, b0, b0, b0, b0, b0, b0, b0, b0, b0, b0, b0, b0, b0, b0]
abbrev tb30_1_6 : Array Bool := #[b1, b0, b0, b0, b0, b0, b0, b0, b0, b0, b0, b0, b0, b0, b0, b0, b0, b0, b0, b0, b0, b0, b0, b0, b0, b0, b0, b0, b0, b0]
abbrev tb30_1f_6 : Array Bool := #[b1, b1, b1, b1, b1, b0, b0, b0, b0, b0, b0, b0, b0, b0, b0, b0, b0, b0, b0, b0, b0, b0, b0, b0, b0, b0, b0, b0, b0, b0]
abbrev tb30_1ff_6 : Array Bool := #[b1, b1, b1, b1, b1, b1, b1, b1, b1, b0, b0, b0, b0, b0, b0, b0, b0, b0, b0, b0, b0, b0, b0, b0, b0, b0, b0, b0, b0, b0]
abbrev tb30_1fff_6 : Array Bool := #[b1, b1, b1, b1, b1, b1, b1, b1, b1, b1, b1, b1, b1, b0, b0, b0, b0, b0, b0, b0, b0, b0, b0, b0, b0, b0, b0, b0, b0, b0]
abbrev tb30_1ffff_6 : Array Bool := #[b1, b1, b1, b1, b1, b1, b1, b1, b1, b1, b1, b1, b1, b1, b1, b1, b1, b0, b0, b0, b0, b0, b0, b0, b0, b0, b0, b0, b0, b0]
abbrev tb30_1fffff_6 : Array Bool := #[b1, b1, b1, b1, b1, b1, b1, b1, b1, b1, b1, b1, b1, b1, b1, b1, b1, b1, b1, b1, b1, b0, b0, b0, b0, b0, b0, b0, b0, b0]
abbrev tb30_1ffffff_6 : Array Bool := #[b1, b1, b1, b1, b1, b1, b1, b1, b1, b1, b1, b1, b1, b1, b1, b1, b1, b1, b1, b1, b1, b1, b1, b1, b1, b0, b0, b0, b0, b0]
abbrev tb30_1fffffff_6 : Array Bool := #[b1, b1, b1, b1, b1, b1, b1, b1, b1, b1, b1, b1, b1, b1, b1, b1, b1, b1, b1, b1, b1, b1, b1, b1, b1, b1, b1, b1, b1, b0]
abbrev tb30_3_6 : Array Bool := #[b1, b1, b0, b0, b0, b0, b0, b0, b0, b0, b0, b0, b0, b0, b0, b0, b0, b0, b0, b0, b0, b0, b0, b0, b0, b0, b0, b0, b0, b0]
abbrev tb30_3f_6 : Array Bool := #[b1, b1, b1, b1, b1, b1, b0, b0, b0, b0, b0, b0, b0, b0, b0, b0, b0, b0, b0, b0, b0, b0, b0, b0, b0, b0, b0, b0, b0, b0]
abbrev tb30_3ff_6 : Array Bool := #[b1, b1, b1, b1, b1, b1, b1, b1, b1, b1, b0, b0, b0, b0, b0, b0, b0, b0, b0, b0, b0, b0, b0, b0, b0, b0, b0, b0, b0, b0]
abbrev tb30_3fff_6 : Array Bool := #[b1, b1, b1, b1, b1, b1, b1, b1, b1, b1, b1, b1, b1, b1, b0, b0, b0, b0, b0, b0, b0, b0, b0, b0, b0, b0, b0, b0, b0, b0]
abbrev tb30_3ffff_6 : Array Bool := #[b1, b1, b1, b1, b1, b1, b1, b1, b1, b1, b1, b1, b1, b1, b1, b1, b1, b1, b0, b0, b0, b0, b0, b0, b0, b0, b0, b0, b0, b0]
abbrev tb30_3fffff_6 : Array Bool := #[b1, b1, b1, b1, b1, b1, b1, b1, b1, b1, b1, b1, b1, b1, b1, b1, b1, b1, b1, b1, b1, b1, b0, b0, b0, b0, b0, b0, b0, b0]
abbrev tb30_3ffffff_6 : Array Bool := #[b1, b1, b1, b1, b1, b1, b1, b1, b1, b1, b1, b1, b1, b1, b1, b1, b1, b1, b1, b1, b1, b1, b1, b1, b1, b1, b0, b0, b0, b0]
abbrev tb30_3fffffff_6 : Array Bool := #[b1, b1, b1, b1, b1, b1, b1, b1, b1, b1, b1, b1, b1, b1, b1, b1, b1, b1, b1, b1, b1, b1, b1, b1, b1, b1, b1, b1, b1, b1]
abbrev tb30_7_6 : Array Bool := #[b1, b1, b1, b0, b0, b0, b0, b0, b0, b0, b0, b0, b0, b0, b0, b0, b0, b0, b0, b0, b0, b0, b0, b0, b0, b0, b0, b0, b0, b0]
abbrev tb30_7f_6 : Array Bool := #[b1, b1, b1, b1, b1, b1, b1, b0, b0, b0, b0, b0, b0, b0, b0, b0, b0, b0, b0, b0, b0, b0, b0, b0, b0, b0, b0, b0, b0, b0]
abbrev tb30_7ff_6 : Array Bool := #[b1, b1, b1, b1, b1, b1, b1, b1, b1, b1, b1, b0, b0, b0, b0, b0, b0, b0, b0, b0, b0, b0, b0, b0, b0, b0, b0, b0, b0, b0]
abbrev tb30_7fff_6 : Array Bool := #[b1, b1, b1, b1, b1, b1, b1, b1, b1, b1, b1, b1, b1, b1, b1, b0, b0, b0, b0, b0, b0, b0, b0, b0, b0, b0, b0, b0, b0, b0]
abbrev tb30_7ffff_6 : Array Bool := #[b1, b1, b1, b1, b1, b1, b1, b1, b1, b1, b1, b1, b1, b1, b1, b1, b1, b1, b1, b0, b0, b0, b0, b0, b0, b0, b0, b0, b0, b0]
abbrev tb30_7fffff_6 : Array Bool := #[b1, b1, b1, b1, b1, b1, b1, b1, b1, b1, b1, b1, b1, b1, b1, b1, b1, b1, b1, b1, b1, b1, b1, b0, b0, b0, b0, b0, b0, b0]
abbrev tb30_7ffffff_6 : Array Bool := #[b1, b1, b1, b1, b1, b1, b1, b1, b1, b1, b1, b1, b1, b1, b1, b1, b1, b1, b1, b1, b1, b1, b1, b1, b1, b1, b1, b0, b0, b0]
abbrev tb30_bf_6 : Array Bool := #[b1, b1, b1, b1, b1, b1, b0, b1, b0, b0, b0, b0, b0, b0, b0, b0, b0, b0, b0, b0, b0, b0, b0, b0, b0, b0, b0, b0, b0, b0]
abbrev tb30_f_6 : Array Bool := #[b1, b1, b1, b1, b0, b0, b0, b0, b0, b0, b0, b0, b0, b0, b0, b0, b0, b0, b0, b0, b0, b0, b0, b0, b0, b0, b0, b0, b0, b0]
abbrev tb30_ff_6 : Array Bool := #[b1, b1, b1, b1, b1, b1, b1, b1, b0, b0, b0, b0, b0, b0, b0, b0, b0, b0, b0, b0, b0, b0, b0, b0, b0, b0, b0, b0, b0, b0]
abbrev tb30_fff_6 : Array Bool := #[b1, b1, b1, b1, b1, b1, b1, b1, b1, b1, b1, b1, b0, b0, b0, b0, b0, b0, b0, b0, b0, b0, b0, b0, b0, b0, b0, b0, b0, b0]
abbrev tb30_ffff_6 : Array Bool := #[b1, b1, b1, b1, b1, b1, b1, b1, b1, b1, b1, b1, b1, b1, b1, b1, b0, b0, b0, b0, b0, b0, b0, b0, b0, b0, b0, b0, b0, b0]
abbrev tb30_fffff_6 : Array Bool := #[b1, b1, b1, b1, b1, b1, b1, b1, b1, b1, b1, b1, b1, b1, b1, b1, b1, b1, b1, b1, b0, b0, b0, b0, b0, b0, b0, b0, b0, b0]
abbrev tb30_ffffff_6 : Array Bool := #[b1, b1, b1, b1, b1, b1, b1, b1, b1, b1, b1, b1, b1, b1, b1, b1, b1, b1, b1, b1, b1, b1, b1, b1, b0, b0, b0, b0, b0, b0]
abbrev tb30_fffffff_6 : Array Bool := #[b1, b1, b1, b1, b1, b1, b1, b1, b1, b1, b1, b1, b1, b1, b1, b1, b1, b1, b1, b1, b1, b1, b1, b1, b1, b1, b1, b1, b0, b0]
/-! ### spec_ReqOk: function 44 -/
mutual
def spec_ReqOk.j0 : Nat → Bool → Int → ByteArray → ByteArray → ByteArray → ByteArray → ByteArray → Int → Int → Option (Bool)
 | 0, _, _, _, _, _, _, _, _, _ => none
 | k + 1, x32, x150000, x150001, x150002, x150003, x150004, x150005, x150006, x150007 => if x32 = true then (some false) else ((spec_l11Hold.f x150000).bind fun t154 => (if t154 = true then ((spec_HoldIdOk.f k x150003).bind fun t155 => (if t155 = true then ((spec_l11Hold.f x150000).bind fun t156 => (if t156 = true then (spec_ReqOk.j1 k false x150000 x150001 x150002 x150003 x150004 x150005 x150006 x150007) else (spec_ReqOk.j1 k (x150003.toList != ([] : List UInt8)) x150000 x150001 x150002 x150003 x150004 x150005 x150006 x150007))) else (spec_ReqOk.j1 k true x150000 x150001 x150002 x150003 x150004 x150005 x150006 x150007))) else ((spec_l11Hold.f x150000).bind fun t157 => (if t157 = true then (spec_ReqOk.j1 k false x150000 x150001 x150002 x150003 x150004 x150005 x150006 x150007) else (spec_ReqOk.j1 k (x150003.toList != ([] : List UInt8)) x150000 x150001 x150002 x150003 x150004 x150005 x150006 x150007)))))
def spec_ReqOk.j1 : Nat → Bool → Int → ByteArray → ByteArray → ByteArray → ByteArray → ByteArray → Int → Int → Option (Bool)
 | 0, _, _, _, _, _, _, _, _, _ => none
 | k + 1, x52, x150000, x150001, x150002, x150003, x150004, x150005, x150006, x150007 => if x52 = true then (some false) else ((spec_l11Amount.f x150000).bind fun t158 => (if t158 = true then ((spec_l01In.f x150006 0 999999999999).bind fun t159 => (if t159 = true then ((spec_l11Amount.f x150000).bind fun t160 => (if t160 = true then (spec_ReqOk.j2 k false x150000 x150001 x150002 x150003 x150004 x150005 x150006 x150007) else (spec_ReqOk.j2 k (x150006 != 0) x150000 x150001 x150002 x150003 x150004 x150005 x150006 x150007))) else (spec_ReqOk.j2 k true x150000 x150001 x150002 x150003 x150004 x150005 x150006 x150007))) else ((spec_l11Amount.f x150000).bind fun t161 => (if t161 = true then (spec_ReqOk.j2 k false x150000 x150001 x150002 x150003 x150004 x150005 x150006 x150007) else (spec_ReqOk.j2 k (x150006 != 0) x150000 x150001 x150002 x150003 x150004 x150005 x150006 x150007)))))
def spec_ReqOk.j2 : Nat → Bool → Int → ByteArray → ByteArray → ByteArray → ByteArray → ByteArray → Int → Int → Option (Bool)
 | 0, _, _, _, _, _, _, _, _, _ => none
 | k + 1, x72, x150000, x150001, x150002, x150003, x150004, x150005, x150006, x150007 => if x72 = true then (some false) else (if x150000 = 1 then ((spec_l01In.f x150007 0 9999).bind fun t162 => (if t162 = true then (if x150000 = 6 then ((spec_AcctIdOk.f k x150002).bind fun t163 => (if t163 = true then (some true) else (some false))) else (some (x150002.toList == ([] : List UInt8)))) else (some false))) else (if x150007 = 0 then (if x150000 = 6 then ((spec_AcctIdOk.f k x150002).bind fun t164 => (if t164 = true then (some true) else (some false))) else (some (x150002.toList == ([] : List UInt8)))) else (some false)))
end
def spec_ReqOk.f (k : Nat) (a0_0 : Int) (a0_1 : ByteArray) (a0_2 : ByteArray) (a0_3 : ByteArray) (a0_4 : ByteArray) (a0_5 : ByteArray) (a0_6 : Int) (a0_7 : Int) : Option (Bool) := (spec_l11Op.f a0_0).bind fun t150 => (if t150 = true then ((spec_OpMti.f a0_0).bind fun t151 => (if a0_5.toList = t151.toList then ((spec_AcctIdOk.f k a0_1).bind fun t152 => (if t152 = true then ((spec_Digits.f k a0_4).bind fun t153 => (if t153 = true then (spec_ReqOk.j0 k ((a0_4.size : Int) != 6) a0_0 a0_1 a0_2 a0_3 a0_4 a0_5 a0_6 a0_7) else (spec_ReqOk.j0 k true a0_0 a0_1 a0_2 a0_3 a0_4 a0_5 a0_6 a0_7))) else (spec_ReqOk.j0 k true a0_0 a0_1 a0_2 a0_3 a0_4 a0_5 a0_6 a0_7))) else (spec_ReqOk.j0 k true a0_0 a0_1 a0_2 a0_3 a0_4 a0_5 a0_6 a0_7))) else (spec_ReqOk.j0 k true a0_0 a0_1 a0_2 a0_3 a0_4 a0_5 a0_6 a0_7))
def spec_ReqOk.T1 : Bool × List (List Nat × List Nat) := (true, [([], []), ([0], [0]), ([1], [1]), ([2], [2]), ([3, 2], [3]), ([4], [4]), ([5, 4], [4, 5]), ([4], [4]), ([7, 4], [4, 7]), ([8, 4, 4], [4, 8]), ([6, 9, 4], [4, 6, 9]), ([4, 10], [4, 10]), ([11, 9], [11]), ([12], [12]), ([13, 12], [12, 13]), ([14, 12, 12], [12, 14]), ([15, 12], [12, 15]), ([12, 16], [12, 16]), ([17, 15], [17]), ([18], [18]), ([19, 18], [18, 19]), ([20, 18, 18], [18, 20]), ([21, 18], [18, 21]), ([18, 22], [18, 22]), ([23, 21], [23]), ([24], [24]), ([25, 24], [24, 25]), ([26, 24], [24, 26]), ([27, 24], [24, 27]), ([24, 28], [24, 28])])
def spec_ReqOk.B1 : List Nat := [0, 1, 3, 7, 15, 31, 63, 31, 159, 415, 1023, 2047, 4095, 8191, 16383, 32767, 65535, 131071, 262143, 524287, 1048575, 2097151, 4194303, 8388607, 16777215, 33554431, 67108863, 134217727, 268435455, 536870911]
theorem spec_ReqOk.tab1 : rtab .any (opsOf Tryz.f44 1) = spec_ReqOk.T1 := by kernel_rfl
theorem spec_ReqOk.bits1 : waitsOk spec_ReqOk.T1.2 spec_ReqOk.B1 = true := by kernel_rfl
set_option maxHeartbeats 8000000 in
set_option maxRecDepth 100000 in
theorem spec_ReqOk.calls (k : Nat) (a0_0 : Int) (a0_1 : ByteArray) (a0_2 : ByteArray) (a0_3 : ByteArray) (a0_4 : ByteArray) (a0_5 : ByteArray) (a0_6 : Int) (a0_7 : Int) (r : Bool) (w : World) (h : spec_ReqOk.f k a0_0 a0_1 a0_2 a0_3 a0_4 a0_5 a0_6 a0_7 = some r) :
  Calls Tryz.prog 44 #[.agg #[.int .i64 a0_0, .string a0_1, .string a0_2, .string a0_3, .string a0_4, .string a0_5, .int .i64 a0_6, .int .i64 a0_7]] w fun e w' => e = .returned (.bool r) ∧ Below w.heap.size w w' := by
 have hu27 := Tryz.underlying27
 have HB := Aside0.mk (Below.refl w.heap.size w)
 have H : ((spec_l11Op.f a0_0).bind fun t150 => (if t150 = true then ((spec_OpMti.f a0_0).bind fun t151 => (if a0_5.toList = t151.toList then ((spec_AcctIdOk.f k a0_1).bind fun t152 => (if t152 = true then ((spec_Digits.f k a0_4).bind fun t153 => (if t153 = true then (spec_ReqOk.j0 k ((a0_4.size : Int) != 6) a0_0 a0_1 a0_2 a0_3 a0_4 a0_5 a0_6 a0_7) else (spec_ReqOk.j0 k true a0_0 a0_1 a0_2 a0_3 a0_4 a0_5 a0_6 a0_7))) else (spec_ReqOk.j0 k true a0_0 a0_1 a0_2 a0_3 a0_4 a0_5 a0_6 a0_7))) else (spec_ReqOk.j0 k true a0_0 a0_1 a0_2 a0_3 a0_4 a0_5 a0_6 a0_7))) else (spec_ReqOk.j0 k true a0_0 a0_1 a0_2 a0_3 a0_4 a0_5 a0_6 a0_7))) = some r := h
 clear h
 have HC2 := Aside0.mk H
 clear H
 go_enter Tryz.func44, Tryz.ntmps44
 go_upto_region 1 with (first | ((with_reducible refine gate_dst (N := 1) rfl ?_); (try (refine gate_guard (by rfl) ?_; dsimp only)); refine be_ (N := 1) (cs := #[.int .i64 a0_0, .string a0_1, .string a0_2, .string a0_3, .string a0_4, .string a0_5, .int .i64 a0_6, .int .i64 a0_7]) (t := 27) ?_; intro gb149 hg w3 hbox hb; have BK149 := Aside0.mk (hbox); have GW149 := gw_ (w := w) hg; have GE149 := gw_ (w := w) hg; replace HB := Aside0.mk (below_step bl_ hb); clear hb hbox hg))
 (try simp only [Act.put, List.setIfInBounds_toArray, List.set_cons_zero, List.set_cons_succ])
 go_cut [32] (fun v32 wc => ∃ (kq : Nat) (x32_1 : Bool), v32 = .bool x32_1 ∧ Aside0 (spec_ReqOk.j0 kq x32_1 a0_0 a0_1 a0_2 a0_3 a0_4 a0_5 a0_6 a0_7 = some r) ∧ Aside0 (kq ≤ k) ∧ Aside0 (wc.heap[gb149]? = some (.cells #[.int .i64 a0_0, .string a0_1, .string a0_2, .string a0_3, .string a0_4, .string a0_5, .int .i64 a0_6, .int .i64 a0_7] 27 (0, 0))) ∧ Aside0 (Below w.heap.size w wc))
 case first =>
  have H := HC2.out
  clear HC2
  obtain ⟨t150, A4, H⟩ := ob_ H
  by_cases c5 : t150 = true
  ·subst c5
   replace H := ip_ H
   obtain ⟨t151, A6, H⟩ := ob_ H
   by_cases c7 : a0_5.toList = t151.toList
   ·rw [if_pos c7] at H
    have c7b0 : (a0_5.toList == t151.toList) = true := beq_iff_eq.mpr c7
    have c7b1 : (a0_5.toList != t151.toList) = false := bne_eq_false_iff_eq.mpr c7
    clear c7
    (first | rw [c7b0] | (simp only [i64_w, i32_w]; rw [c7b0]) | skip)
    obtain ⟨t152, A8, H⟩ := ob_ H
    by_cases c9 : t152 = true
    ·subst c9
     replace H := ip_ H
     obtain ⟨t153, A10, H⟩ := ob_ H
     by_cases c11 : t153 = true
     ·subst c11
      replace H := ip_ H
      have H' := Aside0.mk H
      clear H
      try go_wp2
      have n0_ := Aside0.mk (blk_drew BK149.out)
      have n1_ := Aside0.mk (below_drew1 HB.out)
      clear BK149
      clear HB
      have BK149 := n0_
      have HB := n1_
      clear n0_ n1_
      refine start_ (n := 30) (S := fun w' => w'.cell? ⟨gb149, 0, none⟩ = some (.int .i64 a0_0) ∧ w'.cell? ⟨gb149, 1, none⟩ = some (.string a0_1) ∧ w'.cell? ⟨gb149, 2, none⟩ = some (.string a0_2) ∧ w'.cell? ⟨gb149, 3, none⟩ = some (.string a0_3) ∧ w'.cell? ⟨gb149, 4, none⟩ = some (.string a0_4) ∧ w'.cell? ⟨gb149, 5, none⟩ = some (.string a0_5) ∧ w'.cell? ⟨gb149, 6, none⟩ = some (.int .i64 a0_6) ∧ w'.cell? ⟨gb149, 7, none⟩ = some (.int .i64 a0_7)) (ds := []) tb30_0_6 (by kernel_rfl) rfl rfl ⟨cy_ BK149 0, cy_ BK149 1, cy_ BK149 2, cy_ BK149 3, cy_ BK149 4, cy_ BK149 5, cy_ BK149 6, cy_ BK149 7⟩ (fun hHeld => ?_); refine with_tabW spec_ReqOk.tab1 spec_ReqOk.bits1 (fun HT_ HW_ => ?_)
      generalize w3.drew = w12 at BK149 HB hHeld ⊢
      refine pl_ HT_ 0 3 tb30_1_6 ?_
      refine take_ (i := 1) (N := some 4) (v := ?_) (a' := ?_) tb30_3_6 rfl rfl (take_ofW HT_.out HW_.out (by kernel_rfl)) (fun _ _ _ h => h) (Or.inl ⟨by rfl, ?_⟩) hHeld ?_ ?_
      rotate_left
      ·rintro w' ⟨s0, s1, s2, s3, s4, s5, s6, s7⟩
       go_simp
       with_reducible rfl
      rotate_left
      ·simp only [Act.put, q_]
       rfl
      refine one_ (i := 2) (N := some 5) tb30_7_6 rfl rfl (one_of HT_.out (by kernel_rfl)) (by decide) (fun K hK => ?_)
      refine goes_ Tryz.func80 (by kernel_rfl) rfl #[.int .i64 a0_0] (by rfl) rfl rfl gl_ ?_
      with_reducible refine (spec_l11Op.calls a0_0 true _ A4.out).mono ?_
      rintro e w' ⟨rfl, ⟨nd, rfl⟩⟩
      refine ⟨_, rfl, ?_⟩
      refine hK.out _ _ ⟨cy_ BK149 0, cy_ BK149 1, cy_ BK149 2, cy_ BK149 3, cy_ BK149 4, cy_ BK149 5, cy_ BK149 6, cy_ BK149 7⟩ (fun hHeld => ?_)
      clear hK K
      refine norm_ (a' := ?_) ?_ ?_
      rotate_left
      ·show Act.put _ (some 5) _ = _
       simp only [Act.put, q_]
       rfl
      refine pl_ HT_ 3 6 tb30_f_6 ?_
      refine pl_ HT_ 4 7 tb30_1f_6 ?_
      refine pl_ HT_ 5 8 tb30_3f_6 ?_
      refine pl_ HT_ 7 10 tb30_bf_6 ?_
      refine take_ (i := 6) (N := some 9) (v := ?_) (a' := ?_) tb30_ff_6 rfl rfl (take_ofW HT_.out HW_.out (by kernel_rfl)) (fun _ _ _ h => h) (Or.inl ⟨by rfl, ?_⟩) hHeld ?_ ?_
      rotate_left
      ·rintro w' ⟨s0, s1, s2, s3, s4, s5, s6, s7⟩
       go_simp
       with_reducible rfl
      rotate_left
      ·simp only [Act.put, q_]
       rfl
      refine take_ (i := 8) (N := some 11) (v := ?_) (a' := ?_) tb30_1ff_6 rfl rfl (take_ofW HT_.out HW_.out (by kernel_rfl)) (fun _ _ _ h => h) (Or.inl ⟨by rfl, ?_⟩) hHeld ?_ ?_
      rotate_left
      ·rintro w' ⟨s0, s1, s2, s3, s4, s5, s6, s7⟩
       go_simp
       with_reducible rfl
      rotate_left
      ·simp only [Act.put, q_]
       rfl
      refine one_ (i := 9) (N := some 12) tb30_3ff_6 rfl rfl (one_of HT_.out (by kernel_rfl)) (by decide) (fun K hK => ?_)
      refine goes_ Tryz.func78 (by kernel_rfl) rfl #[.int .i64 a0_0] (by rfl) rfl rfl gl_ ?_
      with_reducible refine (spec_OpMti.calls a0_0 t151 _ A6.out).mono ?_
      rintro e w13 ⟨rfl, hb⟩
      refine ⟨_, rfl, ?_⟩
      have n0_ := Aside0.mk (blk_below (bk_ BK149) hb)
      have n1_ := Aside0.mk (below_step bl_ hb)
      clear BK149
      clear HB
      have BK149 := n0_
      have HB := n1_
      clear n0_ n1_
      (try clear hb)
      (try clear hb2)
      (try clear hk)
      (try clear hi)
      refine hK.out _ _ ⟨cy_ BK149 0, cy_ BK149 1, cy_ BK149 2, cy_ BK149 3, cy_ BK149 4, cy_ BK149 5, cy_ BK149 6, cy_ BK149 7⟩ (fun hHeld => ?_)
      clear hK K
      refine norm_ (a' := ?_) ?_ ?_
      rotate_left
      ·show Act.put _ (some 12) _ = _
       simp only [Act.put, q_]
       rfl
      refine pl_ HT_ 10 13 tb30_7ff_6 ?_
      refine pl_ HT_ 11 14 tb30_fff_6 ?_
      refine pl_ HT_ 12 15 tb30_1fff_6 ?_
      refine pl_ HT_ 13 16 tb30_3fff_6 ?_
      refine take_ (i := 14) (N := some 17) (v := ?_) (a' := ?_) tb30_7fff_6 rfl rfl (take_ofW HT_.out HW_.out (by kernel_rfl)) (fun _ _ _ h => h) (Or.inl ⟨by rfl, ?_⟩) hHeld ?_ ?_
      rotate_left
      ·rintro w' ⟨s0, s1, s2, s3, s4, s5, s6, s7⟩
       go_simp
       with_reducible rfl
      rotate_left
      ·simp only [Act.put, q_]
       rfl
      refine one_ (i := 15) (N := some 18) tb30_ffff_6 rfl rfl (one_of HT_.out (by kernel_rfl)) (by decide) (fun K hK => ?_)
      refine goes_ Tryz.func81 (by kernel_rfl) rfl #[.string a0_1] (by rfl) rfl rfl gl_ ?_
      with_reducible refine (spec_AcctIdOk.calls k a0_1 true _ A8.out).mono ?_
      rintro e w' ⟨rfl, ⟨nd, rfl⟩⟩
      refine ⟨_, rfl, ?_⟩
      refine hK.out _ _ ⟨cy_ BK149 0, cy_ BK149 1, cy_ BK149 2, cy_ BK149 3, cy_ BK149 4, cy_ BK149 5, cy_ BK149 6, cy_ BK149 7⟩ (fun hHeld => ?_)
      clear hK K
      refine norm_ (a' := ?_) ?_ ?_
      rotate_left
      ·show Act.put _ (some 18) _ = _
       simp only [Act.put, q_]
       rfl
      refine pl_ HT_ 16 19 tb30_1ffff_6 ?_
      refine pl_ HT_ 17 20 tb30_3ffff_6 ?_
      refine pl_ HT_ 18 21 tb30_7ffff_6 ?_
      refine pl_ HT_ 19 22 tb30_fffff_6 ?_
      refine take_ (i := 20) (N := some 23) (v := ?_) (a' := ?_) tb30_1fffff_6 rfl rfl (take_ofW HT_.out HW_.out (by kernel_rfl)) (fun _ _ _ h => h) (Or.inl ⟨by rfl, ?_⟩) hHeld ?_ ?_
      rotate_left
      ·rintro w' ⟨s0, s1, s2, s3, s4, s5, s6, s7⟩
       go_simp
       with_reducible rfl
      rotate_left
      ·simp only [Act.put, q_]
       rfl
      refine one_ (i := 21) (N := some 24) tb30_3fffff_6 rfl rfl (one_of HT_.out (by kernel_rfl)) (by decide) (fun K hK => ?_)
      refine goes_ Tryz.func76 (by kernel_rfl) rfl #[.string a0_4] (by rfl) rfl rfl gl_ ?_
      with_reducible refine (spec_Digits.calls k a0_4 true _ A10.out).mono ?_
      rintro e w' ⟨rfl, ⟨nd, rfl⟩⟩
      refine ⟨_, rfl, ?_⟩
      refine hK.out _ _ ⟨cy_ BK149 0, cy_ BK149 1, cy_ BK149 2, cy_ BK149 3, cy_ BK149 4, cy_ BK149 5, cy_ BK149 6, cy_ BK149 7⟩ (fun hHeld => ?_)
      clear hK K
      refine norm_ (a' := ?_) ?_ ?_
      rotate_left
      ·show Act.put _ (some 24) _ = _
       simp only [Act.put, q_]
       rfl
      refine pl_ HT_ 22 25 tb30_7fffff_6 ?_
      refine pl_ HT_ 23 26 tb30_ffffff_6 ?_
      refine pl_ HT_ 24 27 tb30_1ffffff_6 ?_
      refine pl_ HT_ 25 28 tb30_3ffffff_6 ?_
      refine take_ (i := 26) (N := some 29) (v := ?_) (a' := ?_) tb30_7ffffff_6 rfl rfl (take_ofW HT_.out HW_.out (by kernel_rfl)) (fun _ _ _ h => h) (Or.inl ⟨by rfl, ?_⟩) hHeld ?_ ?_
      rotate_left
      ·rintro w' ⟨s0, s1, s2, s3, s4, s5, s6, s7⟩
       go_simp
       with_reducible rfl
      rotate_left
      ·simp only [Act.put, q_]
       rfl
      refine pl_ HT_ 27 30 tb30_fffffff_6 ?_
      refine pl_ HT_ 28 31 tb30_1fffffff_6 ?_
      refine pl_ HT_ 29 32 tb30_3fffffff_6 ?_
      refine done_ (done_of HT_.out (by kernel_rfl)) ?_
      try go_wp2
      go_meet
      case rel => exact ⟨_, (((a0_4.size : Int) != 6)), sp_, H', ⟨by first | omega | exact Nat.le_refl _⟩, ⟨by (with_reducible repeat (first | refine blk_drewN ?_ _ | refine blk_drew ?_ | refine blk_alloc ?_ _)); exact BK149.out⟩, ⟨bl_⟩⟩
     ·replace c11 := Bool.eq_false_iff.mpr c11
      subst c11
      replace H := in_ H
      have H' := Aside0.mk H
      clear H
      try go_wp2
      have n0_ := Aside0.mk (blk_drew BK149.out)
      have n1_ := Aside0.mk (below_drew1 HB.out)
      clear BK149
      clear HB
      have BK149 := n0_
      have HB := n1_
      clear n0_ n1_
      refine start_ (n := 30) (S := fun w' => w'.cell? ⟨gb149, 0, none⟩ = some (.int .i64 a0_0) ∧ w'.cell? ⟨gb149, 1, none⟩ = some (.string a0_1) ∧ w'.cell? ⟨gb149, 2, none⟩ = some (.string a0_2) ∧ w'.cell? ⟨gb149, 3, none⟩ = some (.string a0_3) ∧ w'.cell? ⟨gb149, 4, none⟩ = some (.string a0_4) ∧ w'.cell? ⟨gb149, 5, none⟩ = some (.string a0_5) ∧ w'.cell? ⟨gb149, 6, none⟩ = some (.int .i64 a0_6) ∧ w'.cell? ⟨gb149, 7, none⟩ = some (.int .i64 a0_7)) (ds := []) tb30_0_6 (by kernel_rfl) rfl rfl ⟨cy_ BK149 0, cy_ BK149 1, cy_ BK149 2, cy_ BK149 3, cy_ BK149 4, cy_ BK149 5, cy_ BK149 6, cy_ BK149 7⟩ (fun hHeld => ?_); refine with_tabW spec_ReqOk.tab1 spec_ReqOk.bits1 (fun HT_ HW_ => ?_)
      generalize w3.drew = w14 at BK149 HB hHeld ⊢
      refine pl_ HT_ 0 3 tb30_1_6 ?_
      refine take_ (i := 1) (N := some 4) (v := ?_) (a' := ?_) tb30_3_6 rfl rfl (take_ofW HT_.out HW_.out (by kernel_rfl)) (fun _ _ _ h => h) (Or.inl ⟨by rfl, ?_⟩) hHeld ?_ ?_
      rotate_left
      ·rintro w' ⟨s0, s1, s2, s3, s4, s5, s6, s7⟩
       go_simp
       with_reducible rfl
      rotate_left
      ·simp only [Act.put, q_]
       rfl
      refine one_ (i := 2) (N := some 5) tb30_7_6 rfl rfl (one_of HT_.out (by kernel_rfl)) (by decide) (fun K hK => ?_)
      refine goes_ Tryz.func80 (by kernel_rfl) rfl #[.int .i64 a0_0] (by rfl) rfl rfl gl_ ?_
      with_reducible refine (spec_l11Op.calls a0_0 true _ A4.out).mono ?_
      rintro e w' ⟨rfl, ⟨nd, rfl⟩⟩
      refine ⟨_, rfl, ?_⟩
      refine hK.out _ _ ⟨cy_ BK149 0, cy_ BK149 1, cy_ BK149 2, cy_ BK149 3, cy_ BK149 4, cy_ BK149 5, cy_ BK149 6, cy_ BK149 7⟩ (fun hHeld => ?_)
      clear hK K
      refine norm_ (a' := ?_) ?_ ?_
      rotate_left
      ·show Act.put _ (some 5) _ = _
       simp only [Act.put, q_]
       rfl
      refine pl_ HT_ 3 6 tb30_f_6 ?_
      refine pl_ HT_ 4 7 tb30_1f_6 ?_
      refine pl_ HT_ 5 8 tb30_3f_6 ?_
      refine pl_ HT_ 7 10 tb30_bf_6 ?_
      refine take_ (i := 6) (N := some 9) (v := ?_) (a' := ?_) tb30_ff_6 rfl rfl (take_ofW HT_.out HW_.out (by kernel_rfl)) (fun _ _ _ h => h) (Or.inl ⟨by rfl, ?_⟩) hHeld ?_ ?_
      rotate_left
      ·rintro w' ⟨s0, s1, s2, s3, s4, s5, s6, s7⟩
       go_simp
       with_reducible rfl
      rotate_left
      ·simp only [Act.put, q_]
       rfl
      refine take_ (i := 8) (N := some 11) (v := ?_) (a' := ?_) tb30_1ff_6 rfl rfl (take_ofW HT_.out HW_.out (by kernel_rfl)) (fun _ _ _ h => h) (Or.inl ⟨by rfl, ?_⟩) hHeld ?_ ?_
      rotate_left
      ·rintro w' ⟨s0, s1, s2, s3, s4, s5, s6, s7⟩
       go_simp
       with_reducible rfl
      rotate_left
      ·simp only [Act.put, q_]
       rfl
      refine one_ (i := 9) (N := some 12) tb30_3ff_6 rfl rfl (one_of HT_.out (by kernel_rfl)) (by decide) (fun K hK => ?_)
      refine goes_ Tryz.func78 (by kernel_rfl) rfl #[.int .i64 a0_0] (by rfl) rfl rfl gl_ ?_
      with_reducible refine (spec_OpMti.calls a0_0 t151 _ A6.out).mono ?_
      rintro e w15 ⟨rfl, hb⟩
      refine ⟨_, rfl, ?_⟩
      have n0_ := Aside0.mk (blk_below (bk_ BK149) hb)
      have n1_ := Aside0.mk (below_step bl_ hb)
      clear BK149
      clear HB
      have BK149 := n0_
      have HB := n1_
      clear n0_ n1_
      (try clear hb)
      (try clear hb2)
      (try clear hk)
      (try clear hi)
      refine hK.out _ _ ⟨cy_ BK149 0, cy_ BK149 1, cy_ BK149 2, cy_ BK149 3, cy_ BK149 4, cy_ BK149 5, cy_ BK149 6, cy_ BK149 7⟩ (fun hHeld => ?_)
      clear hK K
      refine norm_ (a' := ?_) ?_ ?_
      rotate_left
      ·show Act.put _ (some 12) _ = _
       simp only [Act.put, q_]
       rfl
      refine pl_ HT_ 10 13 tb30_7ff_6 ?_
      refine pl_ HT_ 11 14 tb30_fff_6 ?_
      refine pl_ HT_ 12 15 tb30_1fff_6 ?_
      refine pl_ HT_ 13 16 tb30_3fff_6 ?_
      refine take_ (i := 14) (N := some 17) (v := ?_) (a' := ?_) tb30_7fff_6 rfl rfl (take_ofW HT_.out HW_.out (by kernel_rfl)) (fun _ _ _ h => h) (Or.inl ⟨by rfl, ?_⟩) hHeld ?_ ?_
      rotate_left
      ·rintro w' ⟨s0, s1, s2, s3, s4, s5, s6, s7⟩
       go_simp
       with_reducible rfl
      rotate_left
      ·simp only [Act.put, q_]
       rfl
      refine one_ (i := 15) (N := some 18) tb30_ffff_6 rfl rfl (one_of HT_.out (by kernel_rfl)) (by decide) (fun K hK => ?_)
      refine goes_ Tryz.func81 (by kernel_rfl) rfl #[.string a0_1] (by rfl) rfl rfl gl_ ?_
      with_reducible refine (spec_AcctIdOk.calls k a0_1 true _ A8.out).mono ?_
      rintro e w' ⟨rfl, ⟨nd, rfl⟩⟩
      refine ⟨_, rfl, ?_⟩
      refine hK.out _ _ ⟨cy_ BK149 0, cy_ BK149 1, cy_ BK149 2, cy_ BK149 3, cy_ BK149 4, cy_ BK149 5, cy_ BK149 6, cy_ BK149 7⟩ (fun hHeld => ?_)
      clear hK K
      refine norm_ (a' := ?_) ?_ ?_
      rotate_left
      ·show Act.put _ (some 18) _ = _
       simp only [Act.put, q_]
       rfl
      refine pl_ HT_ 16 19 tb30_1ffff_6 ?_
      refine pl_ HT_ 17 20 tb30_3ffff_6 ?_
      refine pl_ HT_ 18 21 tb30_7ffff_6 ?_
      refine pl_ HT_ 19 22 tb30_fffff_6 ?_
      refine take_ (i := 20) (N := some 23) (v := ?_) (a' := ?_) tb30_1fffff_6 rfl rfl (take_ofW HT_.out HW_.out (by kernel_rfl)) (fun _ _ _ h => h) (Or.inl ⟨by rfl, ?_⟩) hHeld ?_ ?_
      rotate_left
      ·rintro w' ⟨s0, s1, s2, s3, s4, s5, s6, s7⟩
       go_simp
       with_reducible rfl
      rotate_left
      ·simp only [Act.put, q_]
       rfl
      refine one_ (i := 21) (N := some 24) tb30_3fffff_6 rfl rfl (one_of HT_.out (by kernel_rfl)) (by decide) (fun K hK => ?_)
      refine goes_ Tryz.func76 (by kernel_rfl) rfl #[.string a0_4] (by rfl) rfl rfl gl_ ?_
      with_reducible refine (spec_Digits.calls k a0_4 false _ A10.out).mono ?_
      rintro e w' ⟨rfl, ⟨nd, rfl⟩⟩
      refine ⟨_, rfl, ?_⟩
      refine hK.out _ _ ⟨cy_ BK149 0, cy_ BK149 1, cy_ BK149 2, cy_ BK149 3, cy_ BK149 4, cy_ BK149 5, cy_ BK149 6, cy_ BK149 7⟩ (fun hHeld => ?_)
      clear hK K
      refine norm_ (a' := ?_) ?_ ?_
      rotate_left
      ·show Act.put _ (some 24) _ = _
       simp only [Act.put, q_]
       rfl
      refine pl_ HT_ 22 25 tb30_7fffff_6 ?_
      refine pl_ HT_ 23 26 tb30_ffffff_6 ?_
      refine pl_ HT_ 24 27 tb30_1ffffff_6 ?_
      refine pr_ HT_ 25 28 tb30_3ffffff_6 ?_
      refine pr_ HT_ 26 29 tb30_7ffffff_6 ?_
      refine pr_ HT_ 27 30 tb30_fffffff_6 ?_
      refine pr_ HT_ 28 31 tb30_1fffffff_6 ?_
      refine pl_ HT_ 29 32 tb30_3fffffff_6 ?_
      refine done_ (done_of HT_.out (by kernel_rfl)) ?_
      try go_wp2
      go_meet
      case rel => exact ⟨_, (true), sp_, H', ⟨by first | omega | exact Nat.le_refl _⟩, ⟨by (with_reducible repeat (first | refine blk_drewN ?_ _ | refine blk_drew ?_ | refine blk_alloc ?_ _)); exact BK149.out⟩, ⟨bl_⟩⟩
    ·replace c9 := Bool.eq_false_iff.mpr c9
     subst c9
     replace H := in_ H
     have H' := Aside0.mk H
     clear H
     try go_wp2
     have n0_ := Aside0.mk (blk_drew BK149.out)
     have n1_ := Aside0.mk (below_drew1 HB.out)
     clear BK149
     clear HB
     have BK149 := n0_
     have HB := n1_
     clear n0_ n1_
     refine start_ (n := 30) (S := fun w' => w'.cell? ⟨gb149, 0, none⟩ = some (.int .i64 a0_0) ∧ w'.cell? ⟨gb149, 1, none⟩ = some (.string a0_1) ∧ w'.cell? ⟨gb149, 2, none⟩ = some (.string a0_2) ∧ w'.cell? ⟨gb149, 3, none⟩ = some (.string a0_3) ∧ w'.cell? ⟨gb149, 4, none⟩ = some (.string a0_4) ∧ w'.cell? ⟨gb149, 5, none⟩ = some (.string a0_5) ∧ w'.cell? ⟨gb149, 6, none⟩ = some (.int .i64 a0_6) ∧ w'.cell? ⟨gb149, 7, none⟩ = some (.int .i64 a0_7)) (ds := []) tb30_0_6 (by kernel_rfl) rfl rfl ⟨cy_ BK149 0, cy_ BK149 1, cy_ BK149 2, cy_ BK149 3, cy_ BK149 4, cy_ BK149 5, cy_ BK149 6, cy_ BK149 7⟩ (fun hHeld => ?_); refine with_tabW spec_ReqOk.tab1 spec_ReqOk.bits1 (fun HT_ HW_ => ?_)
     generalize w3.drew = w16 at BK149 HB hHeld ⊢
     refine pl_ HT_ 0 3 tb30_1_6 ?_
     refine take_ (i := 1) (N := some 4) (v := ?_) (a' := ?_) tb30_3_6 rfl rfl (take_ofW HT_.out HW_.out (by kernel_rfl)) (fun _ _ _ h => h) (Or.inl ⟨by rfl, ?_⟩) hHeld ?_ ?_
     rotate_left
     ·rintro w' ⟨s0, s1, s2, s3, s4, s5, s6, s7⟩
      go_simp
      with_reducible rfl
     rotate_left
     ·simp only [Act.put, q_]
      rfl
     refine one_ (i := 2) (N := some 5) tb30_7_6 rfl rfl (one_of HT_.out (by kernel_rfl)) (by decide) (fun K hK => ?_)
     refine goes_ Tryz.func80 (by kernel_rfl) rfl #[.int .i64 a0_0] (by rfl) rfl rfl gl_ ?_
     with_reducible refine (spec_l11Op.calls a0_0 true _ A4.out).mono ?_
     rintro e w' ⟨rfl, ⟨nd, rfl⟩⟩
     refine ⟨_, rfl, ?_⟩
     refine hK.out _ _ ⟨cy_ BK149 0, cy_ BK149 1, cy_ BK149 2, cy_ BK149 3, cy_ BK149 4, cy_ BK149 5, cy_ BK149 6, cy_ BK149 7⟩ (fun hHeld => ?_)
     clear hK K
     refine norm_ (a' := ?_) ?_ ?_
     rotate_left
     ·show Act.put _ (some 5) _ = _
      simp only [Act.put, q_]
      rfl
     refine pl_ HT_ 3 6 tb30_f_6 ?_
     refine pl_ HT_ 4 7 tb30_1f_6 ?_
     refine pl_ HT_ 5 8 tb30_3f_6 ?_
     refine pl_ HT_ 7 10 tb30_bf_6 ?_
     refine take_ (i := 6) (N := some 9) (v := ?_) (a' := ?_) tb30_ff_6 rfl rfl (take_ofW HT_.out HW_.out (by kernel_rfl)) (fun _ _ _ h => h) (Or.inl ⟨by rfl, ?_⟩) hHeld ?_ ?_
     rotate_left
     ·rintro w' ⟨s0, s1, s2, s3, s4, s5, s6, s7⟩
      go_simp
      with_reducible rfl
     rotate_left
     ·simp only [Act.put, q_]
      rfl
     refine take_ (i := 8) (N := some 11) (v := ?_) (a' := ?_) tb30_1ff_6 rfl rfl (take_ofW HT_.out HW_.out (by kernel_rfl)) (fun _ _ _ h => h) (Or.inl ⟨by rfl, ?_⟩) hHeld ?_ ?_
     rotate_left
     ·rintro w' ⟨s0, s1, s2, s3, s4, s5, s6, s7⟩
      go_simp
      with_reducible rfl
     rotate_left
     ·simp only [Act.put, q_]
      rfl
     refine one_ (i := 9) (N := some 12) tb30_3ff_6 rfl rfl (one_of HT_.out (by kernel_rfl)) (by decide) (fun K hK => ?_)
     refine goes_ Tryz.func78 (by kernel_rfl) rfl #[.int .i64 a0_0] (by rfl) rfl rfl gl_ ?_
     with_reducible refine (spec_OpMti.calls a0_0 t151 _ A6.out).mono ?_
     rintro e w17 ⟨rfl, hb⟩
     refine ⟨_, rfl, ?_⟩
     have n0_ := Aside0.mk (blk_below (bk_ BK149) hb)
     have n1_ := Aside0.mk (below_step bl_ hb)
     clear BK149
     clear HB
     have BK149 := n0_
     have HB := n1_
     clear n0_ n1_
     (try clear hb)
     (try clear hb2)
     (try clear hk)
     (try clear hi)
     refine hK.out _ _ ⟨cy_ BK149 0, cy_ BK149 1, cy_ BK149 2, cy_ BK149 3, cy_ BK149 4, cy_ BK149 5, cy_ BK149 6, cy_ BK149 7⟩ (fun hHeld => ?_)
     clear hK K
     refine norm_ (a' := ?_) ?_ ?_
     rotate_left
     ·show Act.put _ (some 12) _ = _
      simp only [Act.put, q_]
      rfl
     refine pl_ HT_ 10 13 tb30_7ff_6 ?_
     refine pl_ HT_ 11 14 tb30_fff_6 ?_
     refine pl_ HT_ 12 15 tb30_1fff_6 ?_
     refine pl_ HT_ 13 16 tb30_3fff_6 ?_
     refine take_ (i := 14) (N := some 17) (v := ?_) (a' := ?_) tb30_7fff_6 rfl rfl (take_ofW HT_.out HW_.out (by kernel_rfl)) (fun _ _ _ h => h) (Or.inl ⟨by rfl, ?_⟩) hHeld ?_ ?_
     rotate_left
     ·rintro w' ⟨s0, s1, s2, s3, s4, s5, s6, s7⟩
      go_simp
      with_reducible rfl
     rotate_left
     ·simp only [Act.put, q_]
      rfl
     refine one_ (i := 15) (N := some 18) tb30_ffff_6 rfl rfl (one_of HT_.out (by kernel_rfl)) (by decide) (fun K hK => ?_)
     refine goes_ Tryz.func81 (by kernel_rfl) rfl #[.string a0_1] (by rfl) rfl rfl gl_ ?_
     with_reducible refine (spec_AcctIdOk.calls k a0_1 false _ A8.out).mono ?_
     rintro e w' ⟨rfl, ⟨nd, rfl⟩⟩
     refine ⟨_, rfl, ?_⟩
     refine hK.out _ _ ⟨cy_ BK149 0, cy_ BK149 1, cy_ BK149 2, cy_ BK149 3, cy_ BK149 4, cy_ BK149 5, cy_ BK149 6, cy_ BK149 7⟩ (fun hHeld => ?_)
     clear hK K
     refine norm_ (a' := ?_) ?_ ?_
     rotate_left
     ·show Act.put _ (some 18) _ = _
      simp only [Act.put, q_]
      rfl
     refine pl_ HT_ 16 19 tb30_1ffff_6 ?_
     refine pl_ HT_ 17 20 tb30_3ffff_6 ?_
     refine pl_ HT_ 18 21 tb30_7ffff_6 ?_
     refine pr_ HT_ 19 22 tb30_fffff_6 ?_
     refine pr_ HT_ 20 23 tb30_1fffff_6 ?_
     refine pr_ HT_ 21 24 tb30_3fffff_6 ?_
     refine pr_ HT_ 22 25 tb30_7fffff_6 ?_
     refine pl_ HT_ 23 26 tb30_ffffff_6 ?_
     refine pl_ HT_ 24 27 tb30_1ffffff_6 ?_
     refine pr_ HT_ 25 28 tb30_3ffffff_6 ?_
     refine pr_ HT_ 26 29 tb30_7ffffff_6 ?_
     refine pr_ HT_ 27 30 tb30_fffffff_6 ?_
     refine pr_ HT_ 28 31 tb30_1fffffff_6 ?_
     refine pl_ HT_ 29 32 tb30_3fffffff_6 ?_
     refine done_ (done_of HT_.out (by kernel_rfl)) ?_
     try go_wp2
     go_meet
     case rel => exact ⟨_, (true), sp_, H', ⟨by first | omega | exact Nat.le_refl _⟩, ⟨by (with_reducible repeat (first | refine blk_drewN ?_ _ | refine blk_drew ?_ | refine blk_alloc ?_ _)); exact BK149.out⟩, ⟨bl_⟩⟩
   ·rw [if_neg c7] at H
    have c7b0 : (a0_5.toList == t151.toList) = false := beq_eq_false_iff_ne.mpr c7
    have c7b1 : (a0_5.toList != t151.toList) = true := bne_iff_ne.mpr c7
    (first | rw [c7b0] | (simp only [i64_w, i32_w]; rw [c7b0]) | skip)
    have H' := Aside0.mk H
    clear H
    try go_wp2
    have n0_ := Aside0.mk (blk_drew BK149.out)
    have n1_ := Aside0.mk (below_drew1 HB.out)
    clear BK149
    clear HB
    have BK149 := n0_
    have HB := n1_
    clear n0_ n1_
    refine start_ (n := 30) (S := fun w' => w'.cell? ⟨gb149, 0, none⟩ = some (.int .i64 a0_0) ∧ w'.cell? ⟨gb149, 1, none⟩ = some (.string a0_1) ∧ w'.cell? ⟨gb149, 2, none⟩ = some (.string a0_2) ∧ w'.cell? ⟨gb149, 3, none⟩ = some (.string a0_3) ∧ w'.cell? ⟨gb149, 4, none⟩ = some (.string a0_4) ∧ w'.cell? ⟨gb149, 5, none⟩ = some (.string a0_5) ∧ w'.cell? ⟨gb149, 6, none⟩ = some (.int .i64 a0_6) ∧ w'.cell? ⟨gb149, 7, none⟩ = some (.int .i64 a0_7)) (ds := []) tb30_0_6 (by kernel_rfl) rfl rfl ⟨cy_ BK149 0, cy_ BK149 1, cy_ BK149 2, cy_ BK149 3, cy_ BK149 4, cy_ BK149 5, cy_ BK149 6, cy_ BK149 7⟩ (fun hHeld => ?_); refine with_tabW spec_ReqOk.tab1 spec_ReqOk.bits1 (fun HT_ HW_ => ?_)
    generalize w3.drew = w18 at BK149 HB hHeld ⊢
    refine pl_ HT_ 0 3 tb30_1_6 ?_
    refine take_ (i := 1) (N := some 4) (v := ?_) (a' := ?_) tb30_3_6 rfl rfl (take_ofW HT_.out HW_.out (by kernel_rfl)) (fun _ _ _ h => h) (Or.inl ⟨by rfl, ?_⟩) hHeld ?_ ?_
    rotate_left
    ·rintro w' ⟨s0, s1, s2, s3, s4, s5, s6, s7⟩
     go_simp
     with_reducible rfl
    rotate_left
    ·simp only [Act.put, q_]
     rfl
    refine one_ (i := 2) (N := some 5) tb30_7_6 rfl rfl (one_of HT_.out (by kernel_rfl)) (by decide) (fun K hK => ?_)
    refine goes_ Tryz.func80 (by kernel_rfl) rfl #[.int .i64 a0_0] (by rfl) rfl rfl gl_ ?_
    with_reducible refine (spec_l11Op.calls a0_0 true _ A4.out).mono ?_
    rintro e w' ⟨rfl, ⟨nd, rfl⟩⟩
    refine ⟨_, rfl, ?_⟩
    refine hK.out _ _ ⟨cy_ BK149 0, cy_ BK149 1, cy_ BK149 2, cy_ BK149 3, cy_ BK149 4, cy_ BK149 5, cy_ BK149 6, cy_ BK149 7⟩ (fun hHeld => ?_)
    clear hK K
    refine norm_ (a' := ?_) ?_ ?_
    rotate_left
    ·show Act.put _ (some 5) _ = _
     simp only [Act.put, q_]
     rfl
    refine pl_ HT_ 3 6 tb30_f_6 ?_
    refine pl_ HT_ 4 7 tb30_1f_6 ?_
    refine pl_ HT_ 5 8 tb30_3f_6 ?_
    refine pl_ HT_ 7 10 tb30_bf_6 ?_
    refine take_ (i := 6) (N := some 9) (v := ?_) (a' := ?_) tb30_ff_6 rfl rfl (take_ofW HT_.out HW_.out (by kernel_rfl)) (fun _ _ _ h => h) (Or.inl ⟨by rfl, ?_⟩) hHeld ?_ ?_
    rotate_left
    ·rintro w' ⟨s0, s1, s2, s3, s4, s5, s6, s7⟩
     go_simp
     with_reducible rfl
    rotate_left
    ·simp only [Act.put, q_]
     rfl
    refine take_ (i := 8) (N := some 11) (v := ?_) (a' := ?_) tb30_1ff_6 rfl rfl (take_ofW HT_.out HW_.out (by kernel_rfl)) (fun _ _ _ h => h) (Or.inl ⟨by rfl, ?_⟩) hHeld ?_ ?_
    rotate_left
    ·rintro w' ⟨s0, s1, s2, s3, s4, s5, s6, s7⟩
     go_simp
     with_reducible rfl
    rotate_left
    ·simp only [Act.put, q_]
     rfl
    refine one_ (i := 9) (N := some 12) tb30_3ff_6 rfl rfl (one_of HT_.out (by kernel_rfl)) (by decide) (fun K hK => ?_)
    refine goes_ Tryz.func78 (by kernel_rfl) rfl #[.int .i64 a0_0] (by rfl) rfl rfl gl_ ?_
    with_reducible refine (spec_OpMti.calls a0_0 t151 _ A6.out).mono ?_
    rintro e w19 ⟨rfl, hb⟩
    refine ⟨_, rfl, ?_⟩
    have n0_ := Aside0.mk (blk_below (bk_ BK149) hb)
    have n1_ := Aside0.mk (below_step bl_ hb)
    clear BK149
    clear HB
    have BK149 := n0_
    have HB := n1_
    clear n0_ n1_
    (try clear hb)
    (try clear hb2)
    (try clear hk)
    (try clear hi)
    refine hK.out _ _ ⟨cy_ BK149 0, cy_ BK149 1, cy_ BK149 2, cy_ BK149 3, cy_ BK149 4, cy_ BK149 5, cy_ BK149 6, cy_ BK149 7⟩ (fun hHeld => ?_)
    clear hK K
    refine norm_ (a' := ?_) ?_ ?_
    rotate_left
    ·show Act.put _ (some 12) _ = _
     simp only [Act.put, q_]
     rfl
    refine pl_ HT_ 10 13 tb30_7ff_6 ?_
    refine pl_ HT_ 11 14 tb30_fff_6 ?_
    refine pl_ HT_ 12 15 tb30_1fff_6 ?_
    refine pr_ HT_ 13 16 tb30_3fff_6 ?_
    refine pr_ HT_ 14 17 tb30_7fff_6 ?_
    refine pr_ HT_ 15 18 tb30_ffff_6 ?_
    refine pr_ HT_ 16 19 tb30_1ffff_6 ?_
    refine pl_ HT_ 17 20 tb30_3ffff_6 ?_
    refine pl_ HT_ 18 21 tb30_7ffff_6 ?_
    refine pr_ HT_ 19 22 tb30_fffff_6 ?_
    refine pr_ HT_ 20 23 tb30_1fffff_6 ?_
    refine pr_ HT_ 21 24 tb30_3fffff_6 ?_
    refine pr_ HT_ 22 25 tb30_7fffff_6 ?_
    refine pl_ HT_ 23 26 tb30_ffffff_6 ?_
    refine pl_ HT_ 24 27 tb30_1ffffff_6 ?_
    refine pr_ HT_ 25 28 tb30_3ffffff_6 ?_
    refine pr_ HT_ 26 29 tb30_7ffffff_6 ?_
    refine pr_ HT_ 27 30 tb30_fffffff_6 ?_
    refine pr_ HT_ 28 31 tb30_1fffffff_6 ?_
    refine pl_ HT_ 29 32 tb30_3fffffff_6 ?_
    refine done_ (done_of HT_.out (by kernel_rfl)) ?_
    try go_wp2
    go_meet
    case rel => exact ⟨_, (true), sp_, H', ⟨by first | omega | exact Nat.le_refl _⟩, ⟨by (with_reducible repeat (first | refine blk_drewN ?_ _ | refine blk_drew ?_ | refine blk_alloc ?_ _)); exact BK149.out⟩, ⟨bl_⟩⟩
  ·replace c5 := Bool.eq_false_iff.mpr c5
   subst c5
   replace H := in_ H
   have H' := Aside0.mk H
   clear H
   try go_wp2
   have n0_ := Aside0.mk (blk_drew BK149.out)
   have n1_ := Aside0.mk (below_drew1 HB.out)
   clear BK149
   clear HB
   have BK149 := n0_
   have HB := n1_
   clear n0_ n1_
   refine start_ (n := 30) (S := fun w' => w'.cell? ⟨gb149, 0, none⟩ = some (.int .i64 a0_0) ∧ w'.cell? ⟨gb149, 1, none⟩ = some (.string a0_1) ∧ w'.cell? ⟨gb149, 2, none⟩ = some (.string a0_2) ∧ w'.cell? ⟨gb149, 3, none⟩ = some (.string a0_3) ∧ w'.cell? ⟨gb149, 4, none⟩ = some (.string a0_4) ∧ w'.cell? ⟨gb149, 5, none⟩ = some (.string a0_5) ∧ w'.cell? ⟨gb149, 6, none⟩ = some (.int .i64 a0_6) ∧ w'.cell? ⟨gb149, 7, none⟩ = some (.int .i64 a0_7)) (ds := []) tb30_0_6 (by kernel_rfl) rfl rfl ⟨cy_ BK149 0, cy_ BK149 1, cy_ BK149 2, cy_ BK149 3, cy_ BK149 4, cy_ BK149 5, cy_ BK149 6, cy_ BK149 7⟩ (fun hHeld => ?_); refine with_tabW spec_ReqOk.tab1 spec_ReqOk.bits1 (fun HT_ HW_ => ?_)
   generalize w3.drew = w20 at BK149 HB hHeld ⊢
   refine pl_ HT_ 0 3 tb30_1_6 ?_
   refine take_ (i := 1) (N := some 4) (v := ?_) (a' := ?_) tb30_3_6 rfl rfl (take_ofW HT_.out HW_.out (by kernel_rfl)) (fun _ _ _ h => h) (Or.inl ⟨by rfl, ?_⟩) hHeld ?_ ?_
   rotate_left
   ·rintro w' ⟨s0, s1, s2, s3, s4, s5, s6, s7⟩
    go_simp
    with_reducible rfl
   rotate_left
   ·simp only [Act.put, q_]
    rfl
   refine one_ (i := 2) (N := some 5) tb30_7_6 rfl rfl (one_of HT_.out (by kernel_rfl)) (by decide) (fun K hK => ?_)
   refine goes_ Tryz.func80 (by kernel_rfl) rfl #[.int .i64 a0_0] (by rfl) rfl rfl gl_ ?_
   with_reducible refine (spec_l11Op.calls a0_0 false _ A4.out).mono ?_
   rintro e w' ⟨rfl, ⟨nd, rfl⟩⟩
   refine ⟨_, rfl, ?_⟩
   refine hK.out _ _ ⟨cy_ BK149 0, cy_ BK149 1, cy_ BK149 2, cy_ BK149 3, cy_ BK149 4, cy_ BK149 5, cy_ BK149 6, cy_ BK149 7⟩ (fun hHeld => ?_)
   clear hK K
   refine norm_ (a' := ?_) ?_ ?_
   rotate_left
   ·show Act.put _ (some 5) _ = _
    simp only [Act.put, q_]
    rfl
   refine pl_ HT_ 3 6 tb30_f_6 ?_
   refine pl_ HT_ 4 7 tb30_1f_6 ?_
   refine pr_ HT_ 5 8 tb30_3f_6 ?_
   refine pr_ HT_ 6 9 tb30_7f_6 ?_
   refine pr_ HT_ 7 10 tb30_ff_6 ?_
   refine pr_ HT_ 8 11 tb30_1ff_6 ?_
   refine pr_ HT_ 9 12 tb30_3ff_6 ?_
   refine pr_ HT_ 10 13 tb30_7ff_6 ?_
   refine pl_ HT_ 11 14 tb30_fff_6 ?_
   refine pl_ HT_ 12 15 tb30_1fff_6 ?_
   refine pr_ HT_ 13 16 tb30_3fff_6 ?_
   refine pr_ HT_ 14 17 tb30_7fff_6 ?_
   refine pr_ HT_ 15 18 tb30_ffff_6 ?_
   refine pr_ HT_ 16 19 tb30_1ffff_6 ?_
   refine pl_ HT_ 17 20 tb30_3ffff_6 ?_
   refine pl_ HT_ 18 21 tb30_7ffff_6 ?_
   refine pr_ HT_ 19 22 tb30_fffff_6 ?_
   refine pr_ HT_ 20 23 tb30_1fffff_6 ?_
   refine pr_ HT_ 21 24 tb30_3fffff_6 ?_
   refine pr_ HT_ 22 25 tb30_7fffff_6 ?_
   refine pl_ HT_ 23 26 tb30_ffffff_6 ?_
   refine pl_ HT_ 24 27 tb30_1ffffff_6 ?_
   refine pr_ HT_ 25 28 tb30_3ffffff_6 ?_
   refine pr_ HT_ 26 29 tb30_7ffffff_6 ?_
   refine pr_ HT_ 27 30 tb30_fffffff_6 ?_
   refine pr_ HT_ 28 31 tb30_1fffffff_6 ?_
   refine pl_ HT_ 29 32 tb30_3fffffff_6 ?_
   refine done_ (done_of HT_.out (by kernel_rfl)) ?_
   try go_wp2
   go_meet
   case rel => exact ⟨_, (true), sp_, H', ⟨by first | omega | exact Nat.le_refl _⟩, ⟨by (with_reducible repeat (first | refine blk_drewN ?_ _ | refine blk_drew ?_ | refine blk_alloc ?_ _)); exact BK149.out⟩, ⟨bl_⟩⟩
 case rest =>
  clear HC2
  try clear p2
  try clear c5
  try clear c7
  try clear c7b0
  try clear c7b1
  try clear c8
  obtain ⟨kq, x32_1, rfl, HA, HJ1, BK149, HB⟩ := hcut
  cases kq with
  | zero => exact absurd HA.out (by simp [spec_ReqOk.j0])
  | succ kj1 =>
   have H := HA.out
   clear HA
   simp only [spec_ReqOk.j0] at H
   by_cases c21 : x32_1 = true
   ·subst c21
    replace H := ip_ H
    obtain rfl := Option.some.inj H
    go_wp2
    go_ret
    exact ⟨sq_, bl_⟩
   ·replace c21 := Bool.eq_false_iff.mpr c21
    subst c21
    replace H := in_ H
    have HC22 := Aside0.mk H
    clear H
    go_upto_region 3 with (fail)
    go_cut [52] (fun v52 wc => ∃ (kq : Nat) (x52_21 : Bool), v52 = .bool x52_21 ∧ Aside0 (spec_ReqOk.j1 kq x52_21 a0_0 a0_1 a0_2 a0_3 a0_4 a0_5 a0_6 a0_7 = some r) ∧ Aside0 (kq ≤ kj1) ∧ Aside0 (wc.heap[gb149]? = some (.cells #[.int .i64 a0_0, .string a0_1, .string a0_2, .string a0_3, .string a0_4, .string a0_5, .int .i64 a0_6, .int .i64 a0_7] 27 (0, 0))) ∧ Aside0 (Below w.heap.size w wc))
    case first =>
     have H := HC22.out
     clear HC22
     obtain ⟨t154, A23, H⟩ := ob_ H
     by_cases c24 : t154 = true
     ·subst c24
      replace H := ip_ H
      obtain ⟨t155, A25, H⟩ := ob_ H
      by_cases c26 : t155 = true
      ·subst c26
       replace H := ip_ H
       obtain ⟨t156, A27, H⟩ := ob_ H
       by_cases c28 : t156 = true
       ·subst c28
        replace H := ip_ H
        have H' := Aside0.mk H
        clear H
        have hcz29_0 := cz_ BK149 0 (.int .i64 a0_0)
        have hcz29_1 := cz_ BK149 1 (.string a0_1)
        have hcz29_2 := cz_ BK149 2 (.string a0_2)
        have hcz29_3 := cz_ BK149 3 (.string a0_3)
        have hcz29_4 := cz_ BK149 4 (.string a0_4)
        have hcz29_5 := cz_ BK149 5 (.string a0_5)
        have hcz29_6 := cz_ BK149 6 (.int .i64 a0_6)
        have hcz29_7 := cz_ BK149 7 (.int .i64 a0_7)
        have hfz29_0 := fz_ BK149 0
        have hfz29_1 := fz_ BK149 1
        have hfz29_2 := fz_ BK149 2
        have hfz29_3 := fz_ BK149 3
        have hfz29_4 := fz_ BK149 4
        have hfz29_5 := fz_ BK149 5
        have hfz29_6 := fz_ BK149 6
        have hfz29_7 := fz_ BK149 7
        go_wp2_with (first | ((with_reducible refine gate_callee (f := 40) rfl ?_); refine goesL_ (some 35) rfl rfl Tryz.func40 (by kernel_rfl) rfl #[.int .i64 a0_0] rfl gl_ ?_; (with_reducible refine (spec_l11Hold.calls a0_0 true _ A23.out).mono ?_); rintro e w' ⟨rfl, ⟨nd, rfl⟩⟩; refine ⟨_, rfl, ?_⟩) | (go_at_call 82; (with_reducible refine (spec_HoldIdOk.calls kj1 a0_3 true _ A25.out).mono ?_); rintro e w' ⟨rfl, ⟨nd, rfl⟩⟩) | (go_at_call 40; (with_reducible refine (spec_l11Hold.calls a0_0 true _ A27.out).mono ?_); rintro e w' ⟨rfl, ⟨nd, rfl⟩⟩))
        go_meet
        case rel => exact ⟨_, (false), sp_, H', ⟨by have := HJ1.out; first | omega | exact Nat.le_refl _⟩, ⟨by (with_reducible repeat (first | refine blk_drewN ?_ _ | refine blk_drew ?_ | refine blk_alloc ?_ _)); exact BK149.out⟩, ⟨bl_⟩⟩
       ·replace c28 := Bool.eq_false_iff.mpr c28
        subst c28
        replace H := in_ H
        have H' := Aside0.mk H
        clear H
        have hcz30_0 := cz_ BK149 0 (.int .i64 a0_0)
        have hcz30_1 := cz_ BK149 1 (.string a0_1)
        have hcz30_2 := cz_ BK149 2 (.string a0_2)
        have hcz30_3 := cz_ BK149 3 (.string a0_3)
        have hcz30_4 := cz_ BK149 4 (.string a0_4)
        have hcz30_5 := cz_ BK149 5 (.string a0_5)
        have hcz30_6 := cz_ BK149 6 (.int .i64 a0_6)
        have hcz30_7 := cz_ BK149 7 (.int .i64 a0_7)
        have hfz30_0 := fz_ BK149 0
        have hfz30_1 := fz_ BK149 1
        have hfz30_2 := fz_ BK149 2
        have hfz30_3 := fz_ BK149 3
        have hfz30_4 := fz_ BK149 4
        have hfz30_5 := fz_ BK149 5
        have hfz30_6 := fz_ BK149 6
        have hfz30_7 := fz_ BK149 7
        go_wp2_with (first | ((with_reducible refine gate_callee (f := 40) rfl ?_); refine goesL_ (some 35) rfl rfl Tryz.func40 (by kernel_rfl) rfl #[.int .i64 a0_0] rfl gl_ ?_; (with_reducible refine (spec_l11Hold.calls a0_0 true _ A23.out).mono ?_); rintro e w' ⟨rfl, ⟨nd, rfl⟩⟩; refine ⟨_, rfl, ?_⟩) | (go_at_call 82; (with_reducible refine (spec_HoldIdOk.calls kj1 a0_3 true _ A25.out).mono ?_); rintro e w' ⟨rfl, ⟨nd, rfl⟩⟩) | (go_at_call 40; (with_reducible refine (spec_l11Hold.calls a0_0 false _ A27.out).mono ?_); rintro e w' ⟨rfl, ⟨nd, rfl⟩⟩))
        go_meet
        case rel => exact ⟨_, ((a0_3.toList != ([] : List UInt8))), sp_, H', ⟨by have := HJ1.out; first | omega | exact Nat.le_refl _⟩, ⟨by (with_reducible repeat (first | refine blk_drewN ?_ _ | refine blk_drew ?_ | refine blk_alloc ?_ _)); exact BK149.out⟩, ⟨bl_⟩⟩
      ·replace c26 := Bool.eq_false_iff.mpr c26
       subst c26
       replace H := in_ H
       have H' := Aside0.mk H
       clear H
       have hcz31_0 := cz_ BK149 0 (.int .i64 a0_0)
       have hcz31_1 := cz_ BK149 1 (.string a0_1)
       have hcz31_2 := cz_ BK149 2 (.string a0_2)
       have hcz31_3 := cz_ BK149 3 (.string a0_3)
       have hcz31_4 := cz_ BK149 4 (.string a0_4)
       have hcz31_5 := cz_ BK149 5 (.string a0_5)
       have hcz31_6 := cz_ BK149 6 (.int .i64 a0_6)
       have hcz31_7 := cz_ BK149 7 (.int .i64 a0_7)
       have hfz31_0 := fz_ BK149 0
       have hfz31_1 := fz_ BK149 1
       have hfz31_2 := fz_ BK149 2
       have hfz31_3 := fz_ BK149 3
       have hfz31_4 := fz_ BK149 4
       have hfz31_5 := fz_ BK149 5
       have hfz31_6 := fz_ BK149 6
       have hfz31_7 := fz_ BK149 7
       go_wp2_with (first | ((with_reducible refine gate_callee (f := 40) rfl ?_); refine goesL_ (some 35) rfl rfl Tryz.func40 (by kernel_rfl) rfl #[.int .i64 a0_0] rfl gl_ ?_; (with_reducible refine (spec_l11Hold.calls a0_0 true _ A23.out).mono ?_); rintro e w' ⟨rfl, ⟨nd, rfl⟩⟩; refine ⟨_, rfl, ?_⟩) | (go_at_call 82; (with_reducible refine (spec_HoldIdOk.calls kj1 a0_3 false _ A25.out).mono ?_); rintro e w' ⟨rfl, ⟨nd, rfl⟩⟩))
       go_meet
       case rel => exact ⟨_, (true), sp_, H', ⟨by have := HJ1.out; first | omega | exact Nat.le_refl _⟩, ⟨by (with_reducible repeat (first | refine blk_drewN ?_ _ | refine blk_drew ?_ | refine blk_alloc ?_ _)); exact BK149.out⟩, ⟨bl_⟩⟩
     ·replace c24 := Bool.eq_false_iff.mpr c24
      subst c24
      replace H := in_ H
      obtain ⟨t157, A32, H⟩ := ob_ H
      by_cases c33 : t157 = true
      ·subst c33
       replace H := ip_ H
       have H' := Aside0.mk H
       clear H
       have hcz34_0 := cz_ BK149 0 (.int .i64 a0_0)
       have hcz34_1 := cz_ BK149 1 (.string a0_1)
       have hcz34_2 := cz_ BK149 2 (.string a0_2)
       have hcz34_3 := cz_ BK149 3 (.string a0_3)
       have hcz34_4 := cz_ BK149 4 (.string a0_4)
       have hcz34_5 := cz_ BK149 5 (.string a0_5)
       have hcz34_6 := cz_ BK149 6 (.int .i64 a0_6)
       have hcz34_7 := cz_ BK149 7 (.int .i64 a0_7)
       have hfz34_0 := fz_ BK149 0
       have hfz34_1 := fz_ BK149 1
       have hfz34_2 := fz_ BK149 2
       have hfz34_3 := fz_ BK149 3
       have hfz34_4 := fz_ BK149 4
       have hfz34_5 := fz_ BK149 5
       have hfz34_6 := fz_ BK149 6
       have hfz34_7 := fz_ BK149 7
       go_wp2_with (first | ((with_reducible refine gate_callee (f := 40) rfl ?_); refine goesL_ (some 35) rfl rfl Tryz.func40 (by kernel_rfl) rfl #[.int .i64 a0_0] rfl gl_ ?_; (with_reducible refine (spec_l11Hold.calls a0_0 false _ A23.out).mono ?_); rintro e w' ⟨rfl, ⟨nd, rfl⟩⟩; refine ⟨_, rfl, ?_⟩) | (go_at_call 40; (with_reducible refine (spec_l11Hold.calls a0_0 true _ A32.out).mono ?_); rintro e w' ⟨rfl, ⟨nd, rfl⟩⟩))
       go_meet
       case rel => exact ⟨_, (false), sp_, H', ⟨by have := HJ1.out; first | omega | exact Nat.le_refl _⟩, ⟨by (with_reducible repeat (first | refine blk_drewN ?_ _ | refine blk_drew ?_ | refine blk_alloc ?_ _)); exact BK149.out⟩, ⟨bl_⟩⟩
      ·replace c33 := Bool.eq_false_iff.mpr c33
       subst c33
       replace H := in_ H
       have H' := Aside0.mk H
       clear H
       have hcz35_0 := cz_ BK149 0 (.int .i64 a0_0)
       have hcz35_1 := cz_ BK149 1 (.string a0_1)
       have hcz35_2 := cz_ BK149 2 (.string a0_2)
       have hcz35_3 := cz_ BK149 3 (.string a0_3)
       have hcz35_4 := cz_ BK149 4 (.string a0_4)
       have hcz35_5 := cz_ BK149 5 (.string a0_5)
       have hcz35_6 := cz_ BK149 6 (.int .i64 a0_6)
       have hcz35_7 := cz_ BK149 7 (.int .i64 a0_7)
       have hfz35_0 := fz_ BK149 0
       have hfz35_1 := fz_ BK149 1
       have hfz35_2 := fz_ BK149 2
       have hfz35_3 := fz_ BK149 3
       have hfz35_4 := fz_ BK149 4
       have hfz35_5 := fz_ BK149 5
       have hfz35_6 := fz_ BK149 6
       have hfz35_7 := fz_ BK149 7
       go_wp2_with (first | ((with_reducible refine gate_callee (f := 40) rfl ?_); refine goesL_ (some 35) rfl rfl Tryz.func40 (by kernel_rfl) rfl #[.int .i64 a0_0] rfl gl_ ?_; (with_reducible refine (spec_l11Hold.calls a0_0 false _ A23.out).mono ?_); rintro e w' ⟨rfl, ⟨nd, rfl⟩⟩; refine ⟨_, rfl, ?_⟩) | (go_at_call 40; (with_reducible refine (spec_l11Hold.calls a0_0 false _ A32.out).mono ?_); rintro e w' ⟨rfl, ⟨nd, rfl⟩⟩))
       go_meet
       case rel => exact ⟨_, ((a0_3.toList != ([] : List UInt8))), sp_, H', ⟨by have := HJ1.out; first | omega | exact Nat.le_refl _⟩, ⟨by (with_reducible repeat (first | refine blk_drewN ?_ _ | refine blk_drew ?_ | refine blk_alloc ?_ _)); exact BK149.out⟩, ⟨bl_⟩⟩
    case rest =>
     clear HC22
     try clear c2
     try clear p2
     try clear c3
     try clear c4
     try clear c5
     try clear c7
     try clear c7b0
     try clear c7b1
     try clear c8
     try clear c21
     try clear c24
     try clear c26
     try clear c28
     try clear c33
     try clear hcz29_0
     try clear hcz29_1
     try clear hcz29_2
     try clear hcz29_3
     try clear hcz29_4
     try clear hcz29_5
     try clear hcz29_6
     try clear hcz29_7
     try clear hcz30_0
     try clear hcz30_1
     try clear hcz30_2
     try clear hcz30_3
     try clear hcz30_4
     try clear hcz30_5
     try clear hcz30_6
     try clear hcz30_7
     try clear hcz31_0
     try clear hcz31_1
     try clear hcz31_2
     try clear hcz31_3
     try clear hcz31_4
     try clear hcz31_5
     try clear hcz31_6
     try clear hcz31_7
     try clear hcz34_0
     try clear hcz34_1
     try clear hcz34_2
     try clear hcz34_3
     try clear hcz34_4
     try clear hcz34_5
     try clear hcz34_6
     try clear hcz34_7
     try clear hcz35_0
     try clear hcz35_1
     try clear hcz35_2
     try clear hcz35_3
     try clear hcz35_4
     try clear hcz35_5
     try clear hcz35_6
     try clear hcz35_7
     try clear hfz29_0
     try clear hfz29_1
     try clear hfz29_2
     try clear hfz29_3
     try clear hfz29_4
     try clear hfz29_5
     try clear hfz29_6
     try clear hfz29_7
     try clear hfz30_0
     try clear hfz30_1
     try clear hfz30_2
     try clear hfz30_3
     try clear hfz30_4
     try clear hfz30_5
     try clear hfz30_6
     try clear hfz30_7
     try clear hfz31_0
     try clear hfz31_1
     try clear hfz31_2
     try clear hfz31_3
     try clear hfz31_4
     try clear hfz31_5
     try clear hfz31_6
     try clear hfz31_7
     try clear hfz34_0
     try clear hfz34_1
     try clear hfz34_2
     try clear hfz34_3
     try clear hfz34_4
     try clear hfz34_5
     try clear hfz34_6
     try clear hfz34_7
     try clear hfz35_0
     try clear hfz35_1
     try clear hfz35_2
     try clear hfz35_3
     try clear hfz35_4
     try clear hfz35_5
     try clear hfz35_6
     try clear hfz35_7
     try clear p2
     obtain ⟨kq, x52_21, rfl, HA, HJ21, BK149, HB⟩ := hcut
     cases kq with
     | zero => exact absurd HA.out (by simp [spec_ReqOk.j1])
     | succ kj21 =>
      have H := HA.out
      clear HA
      simp only [spec_ReqOk.j1] at H
      by_cases c36 : x52_21 = true
      ·subst c36
       replace H := ip_ H
       obtain rfl := Option.some.inj H
       go_wp2
       go_ret
       exact ⟨sq_, bl_⟩
      ·replace c36 := Bool.eq_false_iff.mpr c36
       subst c36
       replace H := in_ H
       have HC37 := Aside0.mk H
       clear H
       go_upto_region 5 with (fail)
       go_cut [72] (fun v72 wc => ∃ (kq : Nat) (x72_36 : Bool), v72 = .bool x72_36 ∧ Aside0 (spec_ReqOk.j2 kq x72_36 a0_0 a0_1 a0_2 a0_3 a0_4 a0_5 a0_6 a0_7 = some r) ∧ Aside0 (kq ≤ kj21) ∧ Aside0 (wc.heap[gb149]? = some (.cells #[.int .i64 a0_0, .string a0_1, .string a0_2, .string a0_3, .string a0_4, .string a0_5, .int .i64 a0_6, .int .i64 a0_7] 27 (0, 0))) ∧ Aside0 (Below w.heap.size w wc))
       case first =>
        have H := HC37.out
        clear HC37
        obtain ⟨t158, A38, H⟩ := ob_ H
        by_cases c39 : t158 = true
        ·subst c39
         replace H := ip_ H
         obtain ⟨t159, A40, H⟩ := ob_ H
         by_cases c41 : t159 = true
         ·subst c41
          replace H := ip_ H
          obtain ⟨t160, A42, H⟩ := ob_ H
          by_cases c43 : t160 = true
          ·subst c43
           replace H := ip_ H
           have H' := Aside0.mk H
           clear H
           have hcz44_0 := cz_ BK149 0 (.int .i64 a0_0)
           have hcz44_1 := cz_ BK149 1 (.string a0_1)
           have hcz44_2 := cz_ BK149 2 (.string a0_2)
           have hcz44_3 := cz_ BK149 3 (.string a0_3)
           have hcz44_4 := cz_ BK149 4 (.string a0_4)
           have hcz44_5 := cz_ BK149 5 (.string a0_5)
           have hcz44_6 := cz_ BK149 6 (.int .i64 a0_6)
           have hcz44_7 := cz_ BK149 7 (.int .i64 a0_7)
           have hfz44_0 := fz_ BK149 0
           have hfz44_1 := fz_ BK149 1
           have hfz44_2 := fz_ BK149 2
           have hfz44_3 := fz_ BK149 3
           have hfz44_4 := fz_ BK149 4
           have hfz44_5 := fz_ BK149 5
           have hfz44_6 := fz_ BK149 6
           have hfz44_7 := fz_ BK149 7
           go_wp2_with (first | ((with_reducible refine gate_callee (f := 42) rfl ?_); refine goesL_ (some 55) rfl rfl Tryz.func42 (by kernel_rfl) rfl #[.int .i64 a0_0] rfl gl_ ?_; (with_reducible refine (spec_l11Amount.calls a0_0 true _ A38.out).mono ?_); rintro e w' ⟨rfl, ⟨nd, rfl⟩⟩; refine ⟨_, rfl, ?_⟩) | (go_at_call 67; (with_reducible refine (spec_l01In.calls a0_6 0 999999999999 true _ A40.out).mono ?_); rintro e w' ⟨rfl, ⟨nd, rfl⟩⟩) | (go_at_call 42; (with_reducible refine (spec_l11Amount.calls a0_0 true _ A42.out).mono ?_); rintro e w' ⟨rfl, ⟨nd, rfl⟩⟩))
           go_meet
           case rel => exact ⟨_, (false), sp_, H', ⟨by have := HJ1.out; have := HJ21.out; first | omega | exact Nat.le_refl _⟩, ⟨by (with_reducible repeat (first | refine blk_drewN ?_ _ | refine blk_drew ?_ | refine blk_alloc ?_ _)); exact BK149.out⟩, ⟨bl_⟩⟩
          ·replace c43 := Bool.eq_false_iff.mpr c43
           subst c43
           replace H := in_ H
           have H' := Aside0.mk H
           clear H
           have hcz45_0 := cz_ BK149 0 (.int .i64 a0_0)
           have hcz45_1 := cz_ BK149 1 (.string a0_1)
           have hcz45_2 := cz_ BK149 2 (.string a0_2)
           have hcz45_3 := cz_ BK149 3 (.string a0_3)
           have hcz45_4 := cz_ BK149 4 (.string a0_4)
           have hcz45_5 := cz_ BK149 5 (.string a0_5)
           have hcz45_6 := cz_ BK149 6 (.int .i64 a0_6)
           have hcz45_7 := cz_ BK149 7 (.int .i64 a0_7)
           have hfz45_0 := fz_ BK149 0
           have hfz45_1 := fz_ BK149 1
           have hfz45_2 := fz_ BK149 2
           have hfz45_3 := fz_ BK149 3
           have hfz45_4 := fz_ BK149 4
           have hfz45_5 := fz_ BK149 5
           have hfz45_6 := fz_ BK149 6
           have hfz45_7 := fz_ BK149 7
           go_wp2_with (first | ((with_reducible refine gate_callee (f := 42) rfl ?_); refine goesL_ (some 55) rfl rfl Tryz.func42 (by kernel_rfl) rfl #[.int .i64 a0_0] rfl gl_ ?_; (with_reducible refine (spec_l11Amount.calls a0_0 true _ A38.out).mono ?_); rintro e w' ⟨rfl, ⟨nd, rfl⟩⟩; refine ⟨_, rfl, ?_⟩) | (go_at_call 67; (with_reducible refine (spec_l01In.calls a0_6 0 999999999999 true _ A40.out).mono ?_); rintro e w' ⟨rfl, ⟨nd, rfl⟩⟩) | (go_at_call 42; (with_reducible refine (spec_l11Amount.calls a0_0 false _ A42.out).mono ?_); rintro e w' ⟨rfl, ⟨nd, rfl⟩⟩))
           go_meet
           case rel => exact ⟨_, ((a0_6 != 0)), sp_, H', ⟨by have := HJ1.out; have := HJ21.out; first | omega | exact Nat.le_refl _⟩, ⟨by (with_reducible repeat (first | refine blk_drewN ?_ _ | refine blk_drew ?_ | refine blk_alloc ?_ _)); exact BK149.out⟩, ⟨bl_⟩⟩
         ·replace c41 := Bool.eq_false_iff.mpr c41
          subst c41
          replace H := in_ H
          have H' := Aside0.mk H
          clear H
          have hcz46_0 := cz_ BK149 0 (.int .i64 a0_0)
          have hcz46_1 := cz_ BK149 1 (.string a0_1)
          have hcz46_2 := cz_ BK149 2 (.string a0_2)
          have hcz46_3 := cz_ BK149 3 (.string a0_3)
          have hcz46_4 := cz_ BK149 4 (.string a0_4)
          have hcz46_5 := cz_ BK149 5 (.string a0_5)
          have hcz46_6 := cz_ BK149 6 (.int .i64 a0_6)
          have hcz46_7 := cz_ BK149 7 (.int .i64 a0_7)
          have hfz46_0 := fz_ BK149 0
          have hfz46_1 := fz_ BK149 1
          have hfz46_2 := fz_ BK149 2
          have hfz46_3 := fz_ BK149 3
          have hfz46_4 := fz_ BK149 4
          have hfz46_5 := fz_ BK149 5
          have hfz46_6 := fz_ BK149 6
          have hfz46_7 := fz_ BK149 7
          go_wp2_with (first | ((with_reducible refine gate_callee (f := 42) rfl ?_); refine goesL_ (some 55) rfl rfl Tryz.func42 (by kernel_rfl) rfl #[.int .i64 a0_0] rfl gl_ ?_; (with_reducible refine (spec_l11Amount.calls a0_0 true _ A38.out).mono ?_); rintro e w' ⟨rfl, ⟨nd, rfl⟩⟩; refine ⟨_, rfl, ?_⟩) | (go_at_call 67; (with_reducible refine (spec_l01In.calls a0_6 0 999999999999 false _ A40.out).mono ?_); rintro e w' ⟨rfl, ⟨nd, rfl⟩⟩))
          go_meet
          case rel => exact ⟨_, (true), sp_, H', ⟨by have := HJ1.out; have := HJ21.out; first | omega | exact Nat.le_refl _⟩, ⟨by (with_reducible repeat (first | refine blk_drewN ?_ _ | refine blk_drew ?_ | refine blk_alloc ?_ _)); exact BK149.out⟩, ⟨bl_⟩⟩
        ·replace c39 := Bool.eq_false_iff.mpr c39
         subst c39
         replace H := in_ H
         obtain ⟨t161, A47, H⟩ := ob_ H
         by_cases c48 : t161 = true
         ·subst c48
          replace H := ip_ H
          have H' := Aside0.mk H
          clear H
          have hcz49_0 := cz_ BK149 0 (.int .i64 a0_0)
          have hcz49_1 := cz_ BK149 1 (.string a0_1)
          have hcz49_2 := cz_ BK149 2 (.string a0_2)
          have hcz49_3 := cz_ BK149 3 (.string a0_3)
          have hcz49_4 := cz_ BK149 4 (.string a0_4)
          have hcz49_5 := cz_ BK149 5 (.string a0_5)
          have hcz49_6 := cz_ BK149 6 (.int .i64 a0_6)
          have hcz49_7 := cz_ BK149 7 (.int .i64 a0_7)
          have hfz49_0 := fz_ BK149 0
          have hfz49_1 := fz_ BK149 1
          have hfz49_2 := fz_ BK149 2
          have hfz49_3 := fz_ BK149 3
          have hfz49_4 := fz_ BK149 4
          have hfz49_5 := fz_ BK149 5
          have hfz49_6 := fz_ BK149 6
          have hfz49_7 := fz_ BK149 7
          go_wp2_with (first | ((with_reducible refine gate_callee (f := 42) rfl ?_); refine goesL_ (some 55) rfl rfl Tryz.func42 (by kernel_rfl) rfl #[.int .i64 a0_0] rfl gl_ ?_; (with_reducible refine (spec_l11Amount.calls a0_0 false _ A38.out).mono ?_); rintro e w' ⟨rfl, ⟨nd, rfl⟩⟩; refine ⟨_, rfl, ?_⟩) | (go_at_call 42; (with_reducible refine (spec_l11Amount.calls a0_0 true _ A47.out).mono ?_); rintro e w' ⟨rfl, ⟨nd, rfl⟩⟩))
          go_meet
          case rel => exact ⟨_, (false), sp_, H', ⟨by have := HJ1.out; have := HJ21.out; first | omega | exact Nat.le_refl _⟩, ⟨by (with_reducible repeat (first | refine blk_drewN ?_ _ | refine blk_drew ?_ | refine blk_alloc ?_ _)); exact BK149.out⟩, ⟨bl_⟩⟩
         ·replace c48 := Bool.eq_false_iff.mpr c48
          subst c48
          replace H := in_ H
          have H' := Aside0.mk H
          clear H
          have hcz50_0 := cz_ BK149 0 (.int .i64 a0_0)
          have hcz50_1 := cz_ BK149 1 (.string a0_1)
          have hcz50_2 := cz_ BK149 2 (.string a0_2)
          have hcz50_3 := cz_ BK149 3 (.string a0_3)
          have hcz50_4 := cz_ BK149 4 (.string a0_4)
          have hcz50_5 := cz_ BK149 5 (.string a0_5)
          have hcz50_6 := cz_ BK149 6 (.int .i64 a0_6)
          have hcz50_7 := cz_ BK149 7 (.int .i64 a0_7)
          have hfz50_0 := fz_ BK149 0
          have hfz50_1 := fz_ BK149 1
          have hfz50_2 := fz_ BK149 2
          have hfz50_3 := fz_ BK149 3
          have hfz50_4 := fz_ BK149 4
          have hfz50_5 := fz_ BK149 5
          have hfz50_6 := fz_ BK149 6
          have hfz50_7 := fz_ BK149 7
          go_wp2_with (first | ((with_reducible refine gate_callee (f := 42) rfl ?_); refine goesL_ (some 55) rfl rfl Tryz.func42 (by kernel_rfl) rfl #[.int .i64 a0_0] rfl gl_ ?_; (with_reducible refine (spec_l11Amount.calls a0_0 false _ A38.out).mono ?_); rintro e w' ⟨rfl, ⟨nd, rfl⟩⟩; refine ⟨_, rfl, ?_⟩) | (go_at_call 42; (with_reducible refine (spec_l11Amount.calls a0_0 false _ A47.out).mono ?_); rintro e w' ⟨rfl, ⟨nd, rfl⟩⟩))
          go_meet
          case rel => exact ⟨_, ((a0_6 != 0)), sp_, H', ⟨by have := HJ1.out; have := HJ21.out; first | omega | exact Nat.le_refl _⟩, ⟨by (with_reducible repeat (first | refine blk_drewN ?_ _ | refine blk_drew ?_ | refine blk_alloc ?_ _)); exact BK149.out⟩, ⟨bl_⟩⟩
       case rest =>
        clear HC37
        try clear c2
        try clear p2
        try clear c3
        try clear c4
        try clear c5
        try clear c7
        try clear c7b0
        try clear c7b1
        try clear c8
        try clear c21
        try clear c24
        try clear c26
        try clear c28
        try clear c33
        try clear c36
        try clear c39
        try clear c40
        try clear c41
        try clear c42
        try clear c43
        try clear c48
        try clear hcz29_0
        try clear hcz29_1
        try clear hcz29_2
        try clear hcz29_3
        try clear hcz29_4
        try clear hcz29_5
        try clear hcz29_6
        try clear hcz29_7
        try clear hcz30_0
        try clear hcz30_1
        try clear hcz30_2
        try clear hcz30_3
        try clear hcz30_4
        try clear hcz30_5
        try clear hcz30_6
        try clear hcz30_7
        try clear hcz31_0
        try clear hcz31_1
        try clear hcz31_2
        try clear hcz31_3
        try clear hcz31_4
        try clear hcz31_5
        try clear hcz31_6
        try clear hcz31_7
        try clear hcz34_0
        try clear hcz34_1
        try clear hcz34_2
        try clear hcz34_3
        try clear hcz34_4
        try clear hcz34_5
        try clear hcz34_6
        try clear hcz34_7
        try clear hcz35_0
        try clear hcz35_1
        try clear hcz35_2
        try clear hcz35_3
        try clear hcz35_4
        try clear hcz35_5
        try clear hcz35_6
        try clear hcz35_7
        try clear hcz44_0
        try clear hcz44_1
        try clear hcz44_2
        try clear hcz44_3
        try clear hcz44_4
        try clear hcz44_5
        try clear hcz44_6
        try clear hcz44_7
        try clear hcz45_0
        try clear hcz45_1
        try clear hcz45_2
        try clear hcz45_3
        try clear hcz45_4
        try clear hcz45_5
        try clear hcz45_6
        try clear hcz45_7
        try clear hcz46_0
        try clear hcz46_1
        try clear hcz46_2
        try clear hcz46_3
        try clear hcz46_4
        try clear hcz46_5
        try clear hcz46_6
        try clear hcz46_7
        try clear hcz49_0
        try clear hcz49_1
        try clear hcz49_2
        try clear hcz49_3
        try clear hcz49_4
        try clear hcz49_5
        try clear hcz49_6
        try clear hcz49_7
        try clear hcz50_0
        try clear hcz50_1
        try clear hcz50_2
        try clear hcz50_3
        try clear hcz50_4
        try clear hcz50_5
        try clear hcz50_6
        try clear hcz50_7
        try clear hfz29_0
        try clear hfz29_1
        try clear hfz29_2
        try clear hfz29_3
        try clear hfz29_4
        try clear hfz29_5
        try clear hfz29_6
        try clear hfz29_7
        try clear hfz30_0
        try clear hfz30_1
        try clear hfz30_2
        try clear hfz30_3
        try clear hfz30_4
        try clear hfz30_5
        try clear hfz30_6
        try clear hfz30_7
        try clear hfz31_0
        try clear hfz31_1
        try clear hfz31_2
        try clear hfz31_3
        try clear hfz31_4
        try clear hfz31_5
        try clear hfz31_6
        try clear hfz31_7
        try clear hfz34_0
        try clear hfz34_1
        try clear hfz34_2
        try clear hfz34_3
        try clear hfz34_4
        try clear hfz34_5
        try clear hfz34_6
        try clear hfz34_7
        try clear hfz35_0
        try clear hfz35_1
        try clear hfz35_2
        try clear hfz35_3
        try clear hfz35_4
        try clear hfz35_5
        try clear hfz35_6
        try clear hfz35_7
        try clear hfz44_0
        try clear hfz44_1
        try clear hfz44_2
        try clear hfz44_3
        try clear hfz44_4
        try clear hfz44_5
        try clear hfz44_6
        try clear hfz44_7
        try clear hfz45_0
        try clear hfz45_1
        try clear hfz45_2
        try clear hfz45_3
        try clear hfz45_4
        try clear hfz45_5
        try clear hfz45_6
        try clear hfz45_7
        try clear hfz46_0
        try clear hfz46_1
        try clear hfz46_2
        try clear hfz46_3
        try clear hfz46_4
        try clear hfz46_5
        try clear hfz46_6
        try clear hfz46_7
        try clear hfz49_0
        try clear hfz49_1
        try clear hfz49_2
        try clear hfz49_3
        try clear hfz49_4
        try clear hfz49_5
        try clear hfz49_6
        try clear hfz49_7
        try clear hfz50_0
        try clear hfz50_1
        try clear hfz50_2
        try clear hfz50_3
        try clear hfz50_4
        try clear hfz50_5
        try clear hfz50_6
        try clear hfz50_7
        try clear p2
        obtain ⟨kq, x72_36, rfl, HA, HJ36, BK149, HB⟩ := hcut
        cases kq with
        | zero => exact absurd HA.out (by simp [spec_ReqOk.j2])
        | succ kj36 =>
         have H := HA.out
         clear HA
         simp only [spec_ReqOk.j2] at H
         by_cases c51 : x72_36 = true
         ·subst c51
          replace H := ip_ H
          obtain rfl := Option.some.inj H
          go_wp2
          go_ret
          exact ⟨sq_, bl_⟩
         ·replace c51 := Bool.eq_false_iff.mpr c51
          subst c51
          replace H := in_ H
          by_cases c52 : a0_0 = 1
          ·rw [if_pos c52] at H
           have c52b0 : (a0_0 == 1) = true := beq_iff_eq.mpr c52
           have c52b1 : (a0_0 != 1) = false := bne_eq_false_iff_eq.mpr c52
           clear c52
           obtain ⟨t162, A53, H⟩ := ob_ H
           by_cases c54 : t162 = true
           ·subst c54
            replace H := ip_ H
            by_cases c55 : a0_0 = 6
            ·rw [if_pos c55] at H
             have c55b0 : (a0_0 == 6) = true := beq_iff_eq.mpr c55
             have c55b1 : (a0_0 != 6) = false := bne_eq_false_iff_eq.mpr c55
             clear c55
             obtain ⟨t163, A56, H⟩ := ob_ H
             by_cases c57 : t163 = true
             ·subst c57
              replace H := ip_ H
              obtain rfl := Option.some.inj H
              have hcz58_0 := cz_ BK149 0 (.int .i64 a0_0)
              have hcz58_1 := cz_ BK149 1 (.string a0_1)
              have hcz58_2 := cz_ BK149 2 (.string a0_2)
              have hcz58_3 := cz_ BK149 3 (.string a0_3)
              have hcz58_4 := cz_ BK149 4 (.string a0_4)
              have hcz58_5 := cz_ BK149 5 (.string a0_5)
              have hcz58_6 := cz_ BK149 6 (.int .i64 a0_6)
              have hcz58_7 := cz_ BK149 7 (.int .i64 a0_7)
              have hfz58_0 := fz_ BK149 0
              have hfz58_1 := fz_ BK149 1
              have hfz58_2 := fz_ BK149 2
              have hfz58_3 := fz_ BK149 3
              have hfz58_4 := fz_ BK149 4
              have hfz58_5 := fz_ BK149 5
              have hfz58_6 := fz_ BK149 6
              have hfz58_7 := fz_ BK149 7
              go_wp2_with (first | (go_at_call 67; (with_reducible refine (spec_l01In.calls a0_7 0 9999 true _ A53.out).mono ?_); rintro e w' ⟨rfl, ⟨nd, rfl⟩⟩) | (go_at_call 81; (with_reducible refine (spec_AcctIdOk.calls kj36 a0_2 true _ A56.out).mono ?_); rintro e w' ⟨rfl, ⟨nd, rfl⟩⟩))
              go_ret
              exact ⟨sq_, bl_⟩
             ·replace c57 := Bool.eq_false_iff.mpr c57
              subst c57
              replace H := in_ H
              obtain rfl := Option.some.inj H
              have hcz59_0 := cz_ BK149 0 (.int .i64 a0_0)
              have hcz59_1 := cz_ BK149 1 (.string a0_1)
              have hcz59_2 := cz_ BK149 2 (.string a0_2)
              have hcz59_3 := cz_ BK149 3 (.string a0_3)
              have hcz59_4 := cz_ BK149 4 (.string a0_4)
              have hcz59_5 := cz_ BK149 5 (.string a0_5)
              have hcz59_6 := cz_ BK149 6 (.int .i64 a0_6)
              have hcz59_7 := cz_ BK149 7 (.int .i64 a0_7)
              have hfz59_0 := fz_ BK149 0
              have hfz59_1 := fz_ BK149 1
              have hfz59_2 := fz_ BK149 2
              have hfz59_3 := fz_ BK149 3
              have hfz59_4 := fz_ BK149 4
              have hfz59_5 := fz_ BK149 5
              have hfz59_6 := fz_ BK149 6
              have hfz59_7 := fz_ BK149 7
              go_wp2_with (first | (go_at_call 67; (with_reducible refine (spec_l01In.calls a0_7 0 9999 true _ A53.out).mono ?_); rintro e w' ⟨rfl, ⟨nd, rfl⟩⟩) | (go_at_call 81; (with_reducible refine (spec_AcctIdOk.calls kj36 a0_2 false _ A56.out).mono ?_); rintro e w' ⟨rfl, ⟨nd, rfl⟩⟩))
              go_ret
              exact ⟨sq_, bl_⟩
            ·rw [if_neg c55] at H
             have c55b0 : (a0_0 == 6) = false := beq_eq_false_iff_ne.mpr c55
             have c55b1 : (a0_0 != 6) = true := bne_iff_ne.mpr c55
             obtain rfl := Option.some.inj H
             have hcz60_0 := cz_ BK149 0 (.int .i64 a0_0)
             have hcz60_1 := cz_ BK149 1 (.string a0_1)
             have hcz60_2 := cz_ BK149 2 (.string a0_2)
             have hcz60_3 := cz_ BK149 3 (.string a0_3)
             have hcz60_4 := cz_ BK149 4 (.string a0_4)
             have hcz60_5 := cz_ BK149 5 (.string a0_5)
             have hcz60_6 := cz_ BK149 6 (.int .i64 a0_6)
             have hcz60_7 := cz_ BK149 7 (.int .i64 a0_7)
             have hfz60_0 := fz_ BK149 0
             have hfz60_1 := fz_ BK149 1
             have hfz60_2 := fz_ BK149 2
             have hfz60_3 := fz_ BK149 3
             have hfz60_4 := fz_ BK149 4
             have hfz60_5 := fz_ BK149 5
             have hfz60_6 := fz_ BK149 6
             have hfz60_7 := fz_ BK149 7
             go_wp2_with (first | (go_at_call 67; (with_reducible refine (spec_l01In.calls a0_7 0 9999 true _ A53.out).mono ?_); rintro e w' ⟨rfl, ⟨nd, rfl⟩⟩))
             go_ret
             exact ⟨sq_, bl_⟩
           ·replace c54 := Bool.eq_false_iff.mpr c54
            subst c54
            replace H := in_ H
            obtain rfl := Option.some.inj H
            have hcz61_0 := cz_ BK149 0 (.int .i64 a0_0)
            have hcz61_1 := cz_ BK149 1 (.string a0_1)
            have hcz61_2 := cz_ BK149 2 (.string a0_2)
            have hcz61_3 := cz_ BK149 3 (.string a0_3)
            have hcz61_4 := cz_ BK149 4 (.string a0_4)
            have hcz61_5 := cz_ BK149 5 (.string a0_5)
            have hcz61_6 := cz_ BK149 6 (.int .i64 a0_6)
            have hcz61_7 := cz_ BK149 7 (.int .i64 a0_7)
            have hfz61_0 := fz_ BK149 0
            have hfz61_1 := fz_ BK149 1
            have hfz61_2 := fz_ BK149 2
            have hfz61_3 := fz_ BK149 3
            have hfz61_4 := fz_ BK149 4
            have hfz61_5 := fz_ BK149 5
            have hfz61_6 := fz_ BK149 6
            have hfz61_7 := fz_ BK149 7
            go_wp2_with (first | (go_at_call 67; (with_reducible refine (spec_l01In.calls a0_7 0 9999 false _ A53.out).mono ?_); rintro e w' ⟨rfl, ⟨nd, rfl⟩⟩))
            go_ret
            exact ⟨sq_, bl_⟩
          ·rw [if_neg c52] at H
           have c52b0 : (a0_0 == 1) = false := beq_eq_false_iff_ne.mpr c52
           have c52b1 : (a0_0 != 1) = true := bne_iff_ne.mpr c52
           by_cases c62 : a0_7 = 0
           ·rw [if_pos c62] at H
            have c62b0 : (a0_7 == 0) = true := beq_iff_eq.mpr c62
            have c62b1 : (a0_7 != 0) = false := bne_eq_false_iff_eq.mpr c62
            clear c62
            by_cases c63 : a0_0 = 6
            ·rw [if_pos c63] at H
             have c63b0 : (a0_0 == 6) = true := beq_iff_eq.mpr c63
             have c63b1 : (a0_0 != 6) = false := bne_eq_false_iff_eq.mpr c63
             clear c63
             obtain ⟨t164, A64, H⟩ := ob_ H
             by_cases c65 : t164 = true
             ·subst c65
              replace H := ip_ H
              obtain rfl := Option.some.inj H
              have hcz66_0 := cz_ BK149 0 (.int .i64 a0_0)
              have hcz66_1 := cz_ BK149 1 (.string a0_1)
              have hcz66_2 := cz_ BK149 2 (.string a0_2)
              have hcz66_3 := cz_ BK149 3 (.string a0_3)
              have hcz66_4 := cz_ BK149 4 (.string a0_4)
              have hcz66_5 := cz_ BK149 5 (.string a0_5)
              have hcz66_6 := cz_ BK149 6 (.int .i64 a0_6)
              have hcz66_7 := cz_ BK149 7 (.int .i64 a0_7)
              have hfz66_0 := fz_ BK149 0
              have hfz66_1 := fz_ BK149 1
              have hfz66_2 := fz_ BK149 2
              have hfz66_3 := fz_ BK149 3
              have hfz66_4 := fz_ BK149 4
              have hfz66_5 := fz_ BK149 5
              have hfz66_6 := fz_ BK149 6
              have hfz66_7 := fz_ BK149 7
              go_wp2_with (first | (go_at_call 81; (with_reducible refine (spec_AcctIdOk.calls kj36 a0_2 true _ A64.out).mono ?_); rintro e w' ⟨rfl, ⟨nd, rfl⟩⟩))
              go_ret
              exact ⟨sq_, bl_⟩
             ·replace c65 := Bool.eq_false_iff.mpr c65
              subst c65
              replace H := in_ H
              obtain rfl := Option.some.inj H
              have hcz67_0 := cz_ BK149 0 (.int .i64 a0_0)
              have hcz67_1 := cz_ BK149 1 (.string a0_1)
              have hcz67_2 := cz_ BK149 2 (.string a0_2)
              have hcz67_3 := cz_ BK149 3 (.string a0_3)
              have hcz67_4 := cz_ BK149 4 (.string a0_4)
              have hcz67_5 := cz_ BK149 5 (.string a0_5)
              have hcz67_6 := cz_ BK149 6 (.int .i64 a0_6)
              have hcz67_7 := cz_ BK149 7 (.int .i64 a0_7)
              have hfz67_0 := fz_ BK149 0
              have hfz67_1 := fz_ BK149 1
              have hfz67_2 := fz_ BK149 2
              have hfz67_3 := fz_ BK149 3
              have hfz67_4 := fz_ BK149 4
              have hfz67_5 := fz_ BK149 5
              have hfz67_6 := fz_ BK149 6
              have hfz67_7 := fz_ BK149 7
              go_wp2_with (first | (go_at_call 81; (with_reducible refine (spec_AcctIdOk.calls kj36 a0_2 false _ A64.out).mono ?_); rintro e w' ⟨rfl, ⟨nd, rfl⟩⟩))
              go_ret
              exact ⟨sq_, bl_⟩
            ·rw [if_neg c63] at H
             have c63b0 : (a0_0 == 6) = false := beq_eq_false_iff_ne.mpr c63
             have c63b1 : (a0_0 != 6) = true := bne_iff_ne.mpr c63
             obtain rfl := Option.some.inj H
             have hcz68_0 := cz_ BK149 0 (.int .i64 a0_0)
             have hcz68_1 := cz_ BK149 1 (.string a0_1)
             have hcz68_2 := cz_ BK149 2 (.string a0_2)
             have hcz68_3 := cz_ BK149 3 (.string a0_3)
             have hcz68_4 := cz_ BK149 4 (.string a0_4)
             have hcz68_5 := cz_ BK149 5 (.string a0_5)
             have hcz68_6 := cz_ BK149 6 (.int .i64 a0_6)
             have hcz68_7 := cz_ BK149 7 (.int .i64 a0_7)
             have hfz68_0 := fz_ BK149 0
             have hfz68_1 := fz_ BK149 1
             have hfz68_2 := fz_ BK149 2
             have hfz68_3 := fz_ BK149 3
             have hfz68_4 := fz_ BK149 4
             have hfz68_5 := fz_ BK149 5
             have hfz68_6 := fz_ BK149 6
             have hfz68_7 := fz_ BK149 7
             go_wp2
             go_ret
             exact ⟨sq_, bl_⟩
           ·rw [if_neg c62] at H
            have c62b0 : (a0_7 == 0) = false := beq_eq_false_iff_ne.mpr c62
            have c62b1 : (a0_7 != 0) = true := bne_iff_ne.mpr c62
            obtain rfl := Option.some.inj H
            have hcz69_0 := cz_ BK149 0 (.int .i64 a0_0)
            have hcz69_1 := cz_ BK149 1 (.string a0_1)
            have hcz69_2 := cz_ BK149 2 (.string a0_2)
            have hcz69_3 := cz_ BK149 3 (.string a0_3)
            have hcz69_4 := cz_ BK149 4 (.string a0_4)
            have hcz69_5 := cz_ BK149 5 (.string a0_5)
            have hcz69_6 := cz_ BK149 6 (.int .i64 a0_6)
            have hcz69_7 := cz_ BK149 7 (.int .i64 a0_7)
            have hfz69_0 := fz_ BK149 0
            have hfz69_1 := fz_ BK149 1
            have hfz69_2 := fz_ BK149 2
            have hfz69_3 := fz_ BK149 3
            have hfz69_4 := fz_ BK149 4
            have hfz69_5 := fz_ BK149 5
            have hfz69_6 := fz_ BK149 6
            have hfz69_7 := fz_ BK149 7
            go_wp2
            go_ret
            exact ⟨sq_, bl_⟩
end Go.Proofs.YtohfefkjcnbejaaGreatDoor.QFnExactReqOf
