-- by my own printer (myprint.py, over the kit's print.py)
import Derived.Test.YtbjpfknmkpnhjaaDoorQFnMoneyx0
import Derived.Test.YtbjpfknmkpnhjaaDoorQFnMoneyx1
import Derived.Test.YtbjpfknmkpnhjaaDoorQFnMoneyx2
import Derived.Test.YtbjpfknmkpnhjaaDoorQFnMoneyx3
import Derived.Test.YtbjpfknmkpnhjaaDoorQFnMoneyx4
namespace Go.Proofs.YtbjpfknmkpnhjaaDoor.QFnMoney
open Go.RowKit Go.Proofs.YtbjpfknmkpnhjaaDoorW.PrintWords Go.Proofs.YtbjpfknmkpnhjaaDoorW.PrintLast Go.Proofs.YtbjpfknmkpnhjaaDoorW.PrintMore
attribute [local go_sem] max2_int min2_int max_two min_two max_three min_three max_four min_four   -- for this text's walks alone
set_option linter.unusedVariables false
set_option linter.unusedSimpArgs false
attribute [local go_sem] my_geq my_leq my_gtr
abbrev tb25_0_5 : Array Bool := #[b0, b0, b0, b0, b0, b0, b0, b0, b0, b0, b0, b0, b0, b0, b0, b0, b0, b0, b0, b0, b0, b0, b0, b0, b0]
abbrev tb25_1_5 : Array Bool := #[b1, b0, b0, b0, b0, b0, b0, b0, b0, b0, b0, b0, b0, b0, b0, b0, b0, b0, b0, b0, b0, b0, b0, b0, b0]
abbrev tb25_117fff_5 : Array Bool := #[b1, b1, b1, b1, b1, b1, b1, b1, b1, b1, b1, b1, b1, b1, b1, b0, b1, b0, b0, b0, b1, b0, b0, b0, b0]
abbrev tb25_11ffff_5 : Array Bool := #[b1, b1, b1, b1, b1, b1, b1, b1, b1, b1, b1, b1, b1, b1, b1, b1, b1, b0, b0, b0, b1, b0, b0, b0, b0]
abbrev tb25_13ffff_5 : Array Bool := #[b1, b1, b1, b1, b1, b1, b1, b1, b1, b1, b1, b1, b1, b1, b1, b1, b1, b1, b0, b0, b1, b0, b0, b0, b0]
abbrev tb25_17fff_5 : Array Bool := #[b1, b1, b1, b1, b1, b1, b1, b1, b1, b1, b1, b1, b1, b1, b1, b0, b1, b0, b0, b0, b0, b0, b0, b0, b0]
abbrev tb25_1f_5 : Array Bool := #[b1, b1, b1, b1, b1, b0, b0, b0, b0, b0, b0, b0, b0, b0, b0, b0, b0, b0, b0, b0, b0, b0, b0, b0, b0]
abbrev tb25_1ff_5 : Array Bool := #[b1, b1, b1, b1, b1, b1, b1, b1, b1, b0, b0, b0, b0, b0, b0, b0, b0, b0, b0, b0, b0, b0, b0, b0, b0]
abbrev tb25_1fff_5 : Array Bool := #[b1, b1, b1, b1, b1, b1, b1, b1, b1, b1, b1, b1, b1, b0, b0, b0, b0, b0, b0, b0, b0, b0, b0, b0, b0]
abbrev tb25_1ffff_5 : Array Bool := #[b1, b1, b1, b1, b1, b1, b1, b1, b1, b1, b1, b1, b1, b1, b1, b1, b1, b0, b0, b0, b0, b0, b0, b0, b0]
abbrev tb25_1fffff_5 : Array Bool := #[b1, b1, b1, b1, b1, b1, b1, b1, b1, b1, b1, b1, b1, b1, b1, b1, b1, b1, b1, b1, b1, b0, b0, b0, b0]
abbrev tb25_1ffffff_5 : Array Bool := #[b1, b1, b1, b1, b1, b1, b1, b1, b1, b1, b1, b1, b1, b1, b1, b1, b1, b1, b1, b1, b1, b1, b1, b1, b1]
abbrev tb25_3_5 : Array Bool := #[b1, b1, b0, b0, b0, b0, b0, b0, b0, b0, b0, b0, b0, b0, b0, b0, b0, b0, b0, b0, b0, b0, b0, b0, b0]
abbrev tb25_33ffff_5 : Array Bool := #[b1, b1, b1, b1, b1, b1, b1, b1, b1, b1, b1, b1, b1, b1, b1, b1, b1, b1, b0, b0, b1, b1, b0, b0, b0]
abbrev tb25_37ffff_5 : Array Bool := #[b1, b1, b1, b1, b1, b1, b1, b1, b1, b1, b1, b1, b1, b1, b1, b1, b1, b1, b1, b0, b1, b1, b0, b0, b0]
abbrev tb25_3f_5 : Array Bool := #[b1, b1, b1, b1, b1, b1, b0, b0, b0, b0, b0, b0, b0, b0, b0, b0, b0, b0, b0, b0, b0, b0, b0, b0, b0]
abbrev tb25_3ff_5 : Array Bool := #[b1, b1, b1, b1, b1, b1, b1, b1, b1, b1, b0, b0, b0, b0, b0, b0, b0, b0, b0, b0, b0, b0, b0, b0, b0]
abbrev tb25_3fff_5 : Array Bool := #[b1, b1, b1, b1, b1, b1, b1, b1, b1, b1, b1, b1, b1, b1, b0, b0, b0, b0, b0, b0, b0, b0, b0, b0, b0]
abbrev tb25_3ffff_5 : Array Bool := #[b1, b1, b1, b1, b1, b1, b1, b1, b1, b1, b1, b1, b1, b1, b1, b1, b1, b1, b0, b0, b0, b0, b0, b0, b0]
abbrev tb25_3fffff_5 : Array Bool := #[b1, b1, b1, b1, b1, b1, b1, b1, b1, b1, b1, b1, b1, b1, b1, b1, b1, b1, b1, b1, b1, b1, b0, b0, b0]
abbrev tb25_7_5 : Array Bool := #[b1, b1, b1, b0, b0, b0, b0, b0, b0, b0, b0, b0, b0, b0, b0, b0, b0, b0, b0, b0, b0, b0, b0, b0, b0]
abbrev tb25_7f_5 : Array Bool := #[b1, b1, b1, b1, b1, b1, b1, b0, b0, b0, b0, b0, b0, b0, b0, b0, b0, b0, b0, b0, b0, b0, b0, b0, b0]
abbrev tb25_7ff_5 : Array Bool := #[b1, b1, b1, b1, b1, b1, b1, b1, b1, b1, b1, b0, b0, b0, b0, b0, b0, b0, b0, b0, b0, b0, b0, b0, b0]
abbrev tb25_7fff_5 : Array Bool := #[b1, b1, b1, b1, b1, b1, b1, b1, b1, b1, b1, b1, b1, b1, b1, b0, b0, b0, b0, b0, b0, b0, b0, b0, b0]
abbrev tb25_7ffff_5 : Array Bool := #[b1, b1, b1, b1, b1, b1, b1, b1, b1, b1, b1, b1, b1, b1, b1, b1, b1, b1, b1, b0, b0, b0, b0, b0, b0]
abbrev tb25_7fffff_5 : Array Bool := #[b1, b1, b1, b1, b1, b1, b1, b1, b1, b1, b1, b1, b1, b1, b1, b1, b1, b1, b1, b1, b1, b1, b1, b0, b0]
abbrev tb25_f_5 : Array Bool := #[b1, b1, b1, b1, b0, b0, b0, b0, b0, b0, b0, b0, b0, b0, b0, b0, b0, b0, b0, b0, b0, b0, b0, b0, b0]
abbrev tb25_ff_5 : Array Bool := #[b1, b1, b1, b1, b1, b1, b1, b1, b0, b0, b0, b0, b0, b0, b0, b0, b0, b0, b0, b0, b0, b0, b0, b0, b0]
abbrev tb25_fff_5 : Array Bool := #[b1, b1, b1, b1, b1, b1, b1, b1, b1, b1, b1, b1, b0, b0, b0, b0, b0, b0, b0, b0, b0, b0, b0, b0, b0]
abbrev tb25_ffff_5 : Array Bool := #[b1, b1, b1, b1, b1, b1, b1, b1, b1, b1, b1, b1, b1, b1, b1, b1, b0, b0, b0, b0, b0, b0, b0, b0, b0]
abbrev tb25_fffff_5 : Array Bool := #[b1, b1, b1, b1, b1, b1, b1, b1, b1, b1, b1, b1, b1, b1, b1, b1, b1, b1, b1, b1, b0, b0, b0, b0, b0]
abbrev tb25_ffffff_5 : Array Bool := #[b1, b1, b1, b1, b1, b1, b1, b1, b1, b1, b1, b1, b1, b1, b1, b1, b1, b1, b1, b1, b1, b1, b1, b1, b0]
/-! ### spec_AcctOk: function 97 -/
def spec_AcctOk.j0 : Nat → Bool → ByteArray → Int → Int → Int → Int → List (S116) → Int → Int → List Int → List Int → List (S122) → Option (Bool)
 | 0, _, _, _, _, _, _, _, _, _, _, _, _ => none
 | k + 1, x30, x158000, x158001, x158002, x158003, x158004, x158005, x158006, x158007, x158008, x158009, x158010 => if x30 = true then (some false) else ((spec_HoldsOk.f k x158005).bind fun t163 => (if t163 = true then ((spec_RingOk.f k x158006 x158007 x158008 x158009).bind fun t164 => (if t164 = true then ((spec_SlotsOk.f k x158010).bind fun t165 => (if t165 = true then ((spec_Stored.f k x158005).bind fun t166 => ((spec_AddSat.f x158002 t166).bind fun t167 => (some (decide (t167 ≤ x158001))))) else (some false))) else (some false))) else (some false)))
def spec_AcctOk.f (k : Nat) (a0_0 : ByteArray) (a0_1 : Int) (a0_2 : Int) (a0_3 : Int) (a0_4 : Int) (l0_5 : List (S116)) (a0_6 : Int) (a0_7 : Int) (l0_8 : List Int) (l0_9 : List Int) (l0_10 : List (S122)) : Option (Bool) := (spec_AcctIdOk.f k a0_0).bind fun t158 => (if t158 = true then ((spec_l01In.f a0_1 0 9007199254740992).bind fun t159 => (if t159 = true then ((spec_l01In.f a0_3 0 1000).bind fun t160 => (if t160 = true then ((spec_l01In.f a0_4 0 9007199254740992).bind fun t161 => (if t161 = true then ((spec_l01Money.f a0_2).bind fun t162 => (spec_AcctOk.j0 k (!t162) a0_0 a0_1 a0_2 a0_3 a0_4 l0_5 a0_6 a0_7 l0_8 l0_9 l0_10)) else (spec_AcctOk.j0 k true a0_0 a0_1 a0_2 a0_3 a0_4 l0_5 a0_6 a0_7 l0_8 l0_9 l0_10))) else (spec_AcctOk.j0 k true a0_0 a0_1 a0_2 a0_3 a0_4 l0_5 a0_6 a0_7 l0_8 l0_9 l0_10))) else (spec_AcctOk.j0 k true a0_0 a0_1 a0_2 a0_3 a0_4 l0_5 a0_6 a0_7 l0_8 l0_9 l0_10))) else (spec_AcctOk.j0 k true a0_0 a0_1 a0_2 a0_3 a0_4 l0_5 a0_6 a0_7 l0_8 l0_9 l0_10))
def spec_AcctOk.T3 : Bool × List (List Nat × List Nat) := (true, [([], []), ([0], [0]), ([1], [1]), ([2, 2], [2]), ([3], [3]), ([4, 3], [3, 4]), ([5, 3, 3], [3, 5]), ([3, 6], [3, 6]), ([7, 6], [7]), ([8], [8]), ([9, 8], [8, 9]), ([10, 8, 8], [8, 10]), ([8, 11], [8, 11]), ([12, 11], [12]), ([13], [13]), ([14, 13], [13, 14]), ([13], [13]), ([16, 13], [13, 16]), ([17, 13, 13], [13, 17]), ([15, 18, 18, 13], [13, 15, 18]), ([13], [13]), ([20, 13], [13, 20]), ([19, 21, 13], [13, 19, 21]), ([13, 22], [13, 22]), ([23, 19, 0, 1, 2, 3, 4, 5, 6, 7, 8, 9, 10, 11, 12, 13, 14, 15, 16, 17, 18, 19, 20, 21, 22, 23], [23])])
def spec_AcctOk.B3 : List Nat := [0, 1, 3, 7, 15, 31, 63, 127, 255, 511, 1023, 2047, 4095, 8191, 16383, 32767, 16383, 81919, 212991, 524287, 16383, 1064959, 4194303, 8388607, 16777215]
theorem spec_AcctOk.tab3 : rtab .any (opsOf Tryd.f97 3) = spec_AcctOk.T3 := by kernel_rfl
theorem spec_AcctOk.bits3 : waitsOk spec_AcctOk.T3.2 spec_AcctOk.B3 = true := by kernel_rfl
set_option maxHeartbeats 8000000 in
set_option maxRecDepth 100000 in
theorem spec_AcctOk.calls (k : Nat) (a0_0 : ByteArray) (a0_1 : Int) (a0_2 : Int) (a0_3 : Int) (a0_4 : Int) (A0_5 : Option Addr) (c0_5 : Nat) (l0_5 : List (S116)) (a0_6 : Int) (a0_7 : Int) (A0_8 : Option Addr) (c0_8 : Nat) (l0_8 : List Int) (A0_9 : Option Addr) (c0_9 : Nat) (l0_9 : List Int) (A0_10 : Option Addr) (c0_10 : Nat) (l0_10 : List (S122)) (r : Bool) (w : World) (hr0_5 : Kd.C k116 w A0_5 l0_5.length l0_5) (hc0_5 : l0_5.length ≤ c0_5) (hr0_8 : Kd.C (Kd.int .i64) w A0_8 l0_8.length l0_8) (hc0_8 : l0_8.length ≤ c0_8) (hr0_9 : Kd.C (Kd.int .i64) w A0_9 l0_9.length l0_9) (hc0_9 : l0_9.length ≤ c0_9) (hr0_10 : Kd.C k122 w A0_10 l0_10.length l0_10) (hc0_10 : l0_10.length ≤ c0_10) (h : spec_AcctOk.f k a0_0 a0_1 a0_2 a0_3 a0_4 l0_5 a0_6 a0_7 l0_8 l0_9 l0_10 = some r) :
  Calls Tryd.prog 97 #[.agg #[.string a0_0, .int .i64 a0_1, .int .i64 a0_2, .int .i64 a0_3, .int .i64 a0_4, .slice A0_5 l0_5.length c0_5, .int .i64 a0_6, .int .i64 a0_7, .slice A0_8 l0_8.length c0_8, .slice A0_9 l0_9.length c0_9, .slice A0_10 l0_10.length c0_10]] w fun e w' => e = .returned (.bool r) ∧ Below w.heap.size w w' := by
 have hu29 := Tryd.underlying29
 have hu26 := Tryd.underlying26
 have HR0_5 := Aside0.mk hr0_5
 have HC0_5 := Aside0.mk hc0_5
 clear hr0_5 hc0_5
 have HR0_8 := Aside0.mk hr0_8
 have HC0_8 := Aside0.mk hc0_8
 clear hr0_8 hc0_8
 have HR0_9 := Aside0.mk hr0_9
 have HC0_9 := Aside0.mk hc0_9
 clear hr0_9 hc0_9
 have HR0_10 := Aside0.mk hr0_10
 have HC0_10 := Aside0.mk hc0_10
 clear hr0_10 hc0_10
 have HB := Aside0.mk (Below.refl w.heap.size w)
 have H : ((spec_AcctIdOk.f k a0_0).bind fun t158 => (if t158 = true then ((spec_l01In.f a0_1 0 9007199254740992).bind fun t159 => (if t159 = true then ((spec_l01In.f a0_3 0 1000).bind fun t160 => (if t160 = true then ((spec_l01In.f a0_4 0 9007199254740992).bind fun t161 => (if t161 = true then ((spec_l01Money.f a0_2).bind fun t162 => (spec_AcctOk.j0 k (!t162) a0_0 a0_1 a0_2 a0_3 a0_4 l0_5 a0_6 a0_7 l0_8 l0_9 l0_10)) else (spec_AcctOk.j0 k true a0_0 a0_1 a0_2 a0_3 a0_4 l0_5 a0_6 a0_7 l0_8 l0_9 l0_10))) else (spec_AcctOk.j0 k true a0_0 a0_1 a0_2 a0_3 a0_4 l0_5 a0_6 a0_7 l0_8 l0_9 l0_10))) else (spec_AcctOk.j0 k true a0_0 a0_1 a0_2 a0_3 a0_4 l0_5 a0_6 a0_7 l0_8 l0_9 l0_10))) else (spec_AcctOk.j0 k true a0_0 a0_1 a0_2 a0_3 a0_4 l0_5 a0_6 a0_7 l0_8 l0_9 l0_10))) = some r := h
 clear h
 have HC2 := Aside0.mk H
 clear H
 go_enter Tryd.func97, Tryd.ntmps97
 go_upto_region 1 with (first | ((with_reducible refine gate_dst (N := 1) rfl ?_); refine be_ (N := 1) (cs := #[.string a0_0, .int .i64 a0_1, .int .i64 a0_2, .int .i64 a0_3, .int .i64 a0_4, .slice A0_5 l0_5.length c0_5, .int .i64 a0_6, .int .i64 a0_7, .slice A0_8 l0_8.length c0_8, .slice A0_9 l0_9.length c0_9, .slice A0_10 l0_10.length c0_10]) (t := 29) ?_; intro gb157 hg w3 hbox hb; have BK157 := Aside0.mk (hbox); have GW157 := gw_ (w := w) hg; have GE157 := gw_ (w := w) hg; replace HB := Aside0.mk (below_step bl_ hb); clear hb hbox hg))
 (try simp only [Act.put, List.setIfInBounds_toArray, List.set_cons_zero, List.set_cons_succ])
 go_cut [30] (fun v30 wc => ∃ (kq : Nat) (x30_1 : Bool), v30 = .bool x30_1 ∧ Aside0 (spec_AcctOk.j0 kq x30_1 a0_0 a0_1 a0_2 a0_3 a0_4 l0_5 a0_6 a0_7 l0_8 l0_9 l0_10 = some r) ∧ Aside0 (kq ≤ k) ∧ Aside0 (wc.heap[gb157]? = some (.cells #[.string a0_0, .int .i64 a0_1, .int .i64 a0_2, .int .i64 a0_3, .int .i64 a0_4, (.slice A0_5 l0_5.length c0_5), .int .i64 a0_6, .int .i64 a0_7, (.slice A0_8 l0_8.length c0_8), (.slice A0_9 l0_9.length c0_9), (.slice A0_10 l0_10.length c0_10)] 29 (0, 0))) ∧ Aside0 (Below w.heap.size w wc))
 case first =>
  have H := HC2.out
  clear HC2
  obtain ⟨t158, A4, H⟩ := ob_ H
  by_cases c5 : t158 = true
  ·subst c5
   replace H := ip_ H
   obtain ⟨t159, A6, H⟩ := ob_ H
   by_cases c7 : t159 = true
   ·subst c7
    replace H := ip_ H
    obtain ⟨t160, A8, H⟩ := ob_ H
    by_cases c9 : t160 = true
    ·subst c9
     replace H := ip_ H
     obtain ⟨t161, A10, H⟩ := ob_ H
     by_cases c11 : t161 = true
     ·subst c11
      replace H := ip_ H
      obtain ⟨t162, A12, H⟩ := ob_ H
      have H' := Aside0.mk H
      clear H
      have hcz13_0 := cz_ BK157 0 (.string a0_0)
      have hcz13_1 := cz_ BK157 1 (.int .i64 a0_1)
      have hcz13_2 := cz_ BK157 2 (.int .i64 a0_2)
      have hcz13_3 := cz_ BK157 3 (.int .i64 a0_3)
      have hcz13_4 := cz_ BK157 4 (.int .i64 a0_4)
      have hcz13_5 := cz_ BK157 5 (.slice A0_5 l0_5.length c0_5)
      have hcz13_6 := cz_ BK157 6 (.int .i64 a0_6)
      have hcz13_7 := cz_ BK157 7 (.int .i64 a0_7)
      have hcz13_8 := cz_ BK157 8 (.slice A0_8 l0_8.length c0_8)
      have hcz13_9 := cz_ BK157 9 (.slice A0_9 l0_9.length c0_9)
      have hcz13_10 := cz_ BK157 10 (.slice A0_10 l0_10.length c0_10)
      have hfz13_0 := fz_ BK157 0
      have hfz13_1 := fz_ BK157 1
      have hfz13_2 := fz_ BK157 2
      have hfz13_3 := fz_ BK157 3
      have hfz13_4 := fz_ BK157 4
      have hfz13_5 := fz_ BK157 5
      have hfz13_6 := fz_ BK157 6
      have hfz13_7 := fz_ BK157 7
      have hfz13_8 := fz_ BK157 8
      have hfz13_9 := fz_ BK157 9
      have hfz13_10 := fz_ BK157 10
      go_wp2_with (first | ((with_reducible refine gate_callee (f := 66) rfl ?_); refine goesL_ (some 5) rfl rfl Tryd.func66 (by kernel_rfl) rfl #[.string a0_0] rfl gl_ ?_; (with_reducible refine (spec_AcctIdOk.calls k a0_0 true _ A4.out).mono ?_); rintro e w' ⟨rfl, ⟨nd, rfl⟩⟩; refine ⟨_, rfl, ?_⟩) | (go_at_call 69; (with_reducible refine (spec_l01In.calls a0_1 0 9007199254740992 true _ A6.out).mono ?_); rintro e w' ⟨rfl, ⟨nd, rfl⟩⟩) | (go_at_call 69; (with_reducible refine (spec_l01In.calls a0_3 0 1000 true _ A8.out).mono ?_); rintro e w' ⟨rfl, ⟨nd, rfl⟩⟩) | (go_at_call 69; (with_reducible refine (spec_l01In.calls a0_4 0 9007199254740992 true _ A10.out).mono ?_); rintro e w' ⟨rfl, ⟨nd, rfl⟩⟩) | (go_at_call 115; (with_reducible refine (spec_l01Money.calls a0_2 t162 _ A12.out).mono ?_); rintro e w' ⟨rfl, ⟨nd, rfl⟩⟩))
      go_meet
      case rel => exact ⟨_, (!t162), sp_, H', ⟨by first | omega | exact Nat.le_refl _⟩, ⟨by (with_reducible repeat (first | refine blk_drewN ?_ _ | refine blk_drew ?_ | refine blk_alloc ?_ _)); exact BK157.out⟩, ⟨bl_⟩⟩
     ·replace c11 := Bool.eq_false_iff.mpr c11
      subst c11
      replace H := in_ H
      have H' := Aside0.mk H
      clear H
      have hcz14_0 := cz_ BK157 0 (.string a0_0)
      have hcz14_1 := cz_ BK157 1 (.int .i64 a0_1)
      have hcz14_2 := cz_ BK157 2 (.int .i64 a0_2)
      have hcz14_3 := cz_ BK157 3 (.int .i64 a0_3)
      have hcz14_4 := cz_ BK157 4 (.int .i64 a0_4)
      have hcz14_5 := cz_ BK157 5 (.slice A0_5 l0_5.length c0_5)
      have hcz14_6 := cz_ BK157 6 (.int .i64 a0_6)
      have hcz14_7 := cz_ BK157 7 (.int .i64 a0_7)
      have hcz14_8 := cz_ BK157 8 (.slice A0_8 l0_8.length c0_8)
      have hcz14_9 := cz_ BK157 9 (.slice A0_9 l0_9.length c0_9)
      have hcz14_10 := cz_ BK157 10 (.slice A0_10 l0_10.length c0_10)
      have hfz14_0 := fz_ BK157 0
      have hfz14_1 := fz_ BK157 1
      have hfz14_2 := fz_ BK157 2
      have hfz14_3 := fz_ BK157 3
      have hfz14_4 := fz_ BK157 4
      have hfz14_5 := fz_ BK157 5
      have hfz14_6 := fz_ BK157 6
      have hfz14_7 := fz_ BK157 7
      have hfz14_8 := fz_ BK157 8
      have hfz14_9 := fz_ BK157 9
      have hfz14_10 := fz_ BK157 10
      go_wp2_with (first | ((with_reducible refine gate_callee (f := 66) rfl ?_); refine goesL_ (some 5) rfl rfl Tryd.func66 (by kernel_rfl) rfl #[.string a0_0] rfl gl_ ?_; (with_reducible refine (spec_AcctIdOk.calls k a0_0 true _ A4.out).mono ?_); rintro e w' ⟨rfl, ⟨nd, rfl⟩⟩; refine ⟨_, rfl, ?_⟩) | (go_at_call 69; (with_reducible refine (spec_l01In.calls a0_1 0 9007199254740992 true _ A6.out).mono ?_); rintro e w' ⟨rfl, ⟨nd, rfl⟩⟩) | (go_at_call 69; (with_reducible refine (spec_l01In.calls a0_3 0 1000 true _ A8.out).mono ?_); rintro e w' ⟨rfl, ⟨nd, rfl⟩⟩) | (go_at_call 69; (with_reducible refine (spec_l01In.calls a0_4 0 9007199254740992 false _ A10.out).mono ?_); rintro e w' ⟨rfl, ⟨nd, rfl⟩⟩))
      go_meet
      case rel => exact ⟨_, (true), sp_, H', ⟨by first | omega | exact Nat.le_refl _⟩, ⟨by (with_reducible repeat (first | refine blk_drewN ?_ _ | refine blk_drew ?_ | refine blk_alloc ?_ _)); exact BK157.out⟩, ⟨bl_⟩⟩
    ·replace c9 := Bool.eq_false_iff.mpr c9
     subst c9
     replace H := in_ H
     have H' := Aside0.mk H
     clear H
     have hcz15_0 := cz_ BK157 0 (.string a0_0)
     have hcz15_1 := cz_ BK157 1 (.int .i64 a0_1)
     have hcz15_2 := cz_ BK157 2 (.int .i64 a0_2)
     have hcz15_3 := cz_ BK157 3 (.int .i64 a0_3)
     have hcz15_4 := cz_ BK157 4 (.int .i64 a0_4)
     have hcz15_5 := cz_ BK157 5 (.slice A0_5 l0_5.length c0_5)
     have hcz15_6 := cz_ BK157 6 (.int .i64 a0_6)
     have hcz15_7 := cz_ BK157 7 (.int .i64 a0_7)
     have hcz15_8 := cz_ BK157 8 (.slice A0_8 l0_8.length c0_8)
     have hcz15_9 := cz_ BK157 9 (.slice A0_9 l0_9.length c0_9)
     have hcz15_10 := cz_ BK157 10 (.slice A0_10 l0_10.length c0_10)
     have hfz15_0 := fz_ BK157 0
     have hfz15_1 := fz_ BK157 1
     have hfz15_2 := fz_ BK157 2
     have hfz15_3 := fz_ BK157 3
     have hfz15_4 := fz_ BK157 4
     have hfz15_5 := fz_ BK157 5
     have hfz15_6 := fz_ BK157 6
     have hfz15_7 := fz_ BK157 7
     have hfz15_8 := fz_ BK157 8
     have hfz15_9 := fz_ BK157 9
     have hfz15_10 := fz_ BK157 10
     go_wp2_with (first | ((with_reducible refine gate_callee (f := 66) rfl ?_); refine goesL_ (some 5) rfl rfl Tryd.func66 (by kernel_rfl) rfl #[.string a0_0] rfl gl_ ?_; (with_reducible refine (spec_AcctIdOk.calls k a0_0 true _ A4.out).mono ?_); rintro e w' ⟨rfl, ⟨nd, rfl⟩⟩; refine ⟨_, rfl, ?_⟩) | (go_at_call 69; (with_reducible refine (spec_l01In.calls a0_1 0 9007199254740992 true _ A6.out).mono ?_); rintro e w' ⟨rfl, ⟨nd, rfl⟩⟩) | (go_at_call 69; (with_reducible refine (spec_l01In.calls a0_3 0 1000 false _ A8.out).mono ?_); rintro e w' ⟨rfl, ⟨nd, rfl⟩⟩))
     go_meet
     case rel => exact ⟨_, (true), sp_, H', ⟨by first | omega | exact Nat.le_refl _⟩, ⟨by (with_reducible repeat (first | refine blk_drewN ?_ _ | refine blk_drew ?_ | refine blk_alloc ?_ _)); exact BK157.out⟩, ⟨bl_⟩⟩
   ·replace c7 := Bool.eq_false_iff.mpr c7
    subst c7
    replace H := in_ H
    have H' := Aside0.mk H
    clear H
    have hcz16_0 := cz_ BK157 0 (.string a0_0)
    have hcz16_1 := cz_ BK157 1 (.int .i64 a0_1)
    have hcz16_2 := cz_ BK157 2 (.int .i64 a0_2)
    have hcz16_3 := cz_ BK157 3 (.int .i64 a0_3)
    have hcz16_4 := cz_ BK157 4 (.int .i64 a0_4)
    have hcz16_5 := cz_ BK157 5 (.slice A0_5 l0_5.length c0_5)
    have hcz16_6 := cz_ BK157 6 (.int .i64 a0_6)
    have hcz16_7 := cz_ BK157 7 (.int .i64 a0_7)
    have hcz16_8 := cz_ BK157 8 (.slice A0_8 l0_8.length c0_8)
    have hcz16_9 := cz_ BK157 9 (.slice A0_9 l0_9.length c0_9)
    have hcz16_10 := cz_ BK157 10 (.slice A0_10 l0_10.length c0_10)
    have hfz16_0 := fz_ BK157 0
    have hfz16_1 := fz_ BK157 1
    have hfz16_2 := fz_ BK157 2
    have hfz16_3 := fz_ BK157 3
    have hfz16_4 := fz_ BK157 4
    have hfz16_5 := fz_ BK157 5
    have hfz16_6 := fz_ BK157 6
    have hfz16_7 := fz_ BK157 7
    have hfz16_8 := fz_ BK157 8
    have hfz16_9 := fz_ BK157 9
    have hfz16_10 := fz_ BK157 10
    go_wp2_with (first | ((with_reducible refine gate_callee (f := 66) rfl ?_); refine goesL_ (some 5) rfl rfl Tryd.func66 (by kernel_rfl) rfl #[.string a0_0] rfl gl_ ?_; (with_reducible refine (spec_AcctIdOk.calls k a0_0 true _ A4.out).mono ?_); rintro e w' ⟨rfl, ⟨nd, rfl⟩⟩; refine ⟨_, rfl, ?_⟩) | (go_at_call 69; (with_reducible refine (spec_l01In.calls a0_1 0 9007199254740992 false _ A6.out).mono ?_); rintro e w' ⟨rfl, ⟨nd, rfl⟩⟩))
    go_meet
    case rel => exact ⟨_, (true), sp_, H', ⟨by first | omega | exact Nat.le_refl _⟩, ⟨by (with_reducible repeat (first | refine blk_drewN ?_ _ | refine blk_drew ?_ | refine blk_alloc ?_ _)); exact BK157.out⟩, ⟨bl_⟩⟩
  ·replace c5 := Bool.eq_false_iff.mpr c5
   subst c5
   replace H := in_ H
   have H' := Aside0.mk H
   clear H
   have hcz17_0 := cz_ BK157 0 (.string a0_0)
   have hcz17_1 := cz_ BK157 1 (.int .i64 a0_1)
   have hcz17_2 := cz_ BK157 2 (.int .i64 a0_2)
   have hcz17_3 := cz_ BK157 3 (.int .i64 a0_3)
   have hcz17_4 := cz_ BK157 4 (.int .i64 a0_4)
   have hcz17_5 := cz_ BK157 5 (.slice A0_5 l0_5.length c0_5)
   have hcz17_6 := cz_ BK157 6 (.int .i64 a0_6)
   have hcz17_7 := cz_ BK157 7 (.int .i64 a0_7)
   have hcz17_8 := cz_ BK157 8 (.slice A0_8 l0_8.length c0_8)
   have hcz17_9 := cz_ BK157 9 (.slice A0_9 l0_9.length c0_9)
   have hcz17_10 := cz_ BK157 10 (.slice A0_10 l0_10.length c0_10)
   have hfz17_0 := fz_ BK157 0
   have hfz17_1 := fz_ BK157 1
   have hfz17_2 := fz_ BK157 2
   have hfz17_3 := fz_ BK157 3
   have hfz17_4 := fz_ BK157 4
   have hfz17_5 := fz_ BK157 5
   have hfz17_6 := fz_ BK157 6
   have hfz17_7 := fz_ BK157 7
   have hfz17_8 := fz_ BK157 8
   have hfz17_9 := fz_ BK157 9
   have hfz17_10 := fz_ BK157 10
   go_wp2_with (first | ((with_reducible refine gate_callee (f := 66) rfl ?_); refine goesL_ (some 5) rfl rfl Tryd.func66 (by kernel_rfl) rfl #[.string a0_0] rfl gl_ ?_; (with_reducible refine (spec_AcctIdOk.calls k a0_0 false _ A4.out).mono ?_); rintro e w' ⟨rfl, ⟨nd, rfl⟩⟩; refine ⟨_, rfl, ?_⟩))
   go_meet
   case rel => exact ⟨_, (true), sp_, H', ⟨by first | omega | exact Nat.le_refl _⟩, ⟨by (with_reducible repeat (first | refine blk_drewN ?_ _ | refine blk_drew ?_ | refine blk_alloc ?_ _)); exact BK157.out⟩, ⟨bl_⟩⟩
 case rest =>
  clear HC2
  try clear c1
  try clear p2
  try clear c5
  try clear c6
  try clear c7
  try clear c9
  try clear c11
  try clear hcz13_0
  try clear hcz13_1
  try clear hcz13_10
  try clear hcz13_2
  try clear hcz13_3
  try clear hcz13_4
  try clear hcz13_5
  try clear hcz13_6
  try clear hcz13_7
  try clear hcz13_8
  try clear hcz13_9
  try clear hcz14_0
  try clear hcz14_1
  try clear hcz14_10
  try clear hcz14_2
  try clear hcz14_3
  try clear hcz14_4
  try clear hcz14_5
  try clear hcz14_6
  try clear hcz14_7
  try clear hcz14_8
  try clear hcz14_9
  try clear hcz15_0
  try clear hcz15_1
  try clear hcz15_10
  try clear hcz15_2
  try clear hcz15_3
  try clear hcz15_4
  try clear hcz15_5
  try clear hcz15_6
  try clear hcz15_7
  try clear hcz15_8
  try clear hcz15_9
  try clear hcz16_0
  try clear hcz16_1
  try clear hcz16_10
  try clear hcz16_2
  try clear hcz16_3
  try clear hcz16_4
  try clear hcz16_5
  try clear hcz16_6
  try clear hcz16_7
  try clear hcz16_8
  try clear hcz16_9
  try clear hcz17_0
  try clear hcz17_1
  try clear hcz17_10
  try clear hcz17_2
  try clear hcz17_3
  try clear hcz17_4
  try clear hcz17_5
  try clear hcz17_6
  try clear hcz17_7
  try clear hcz17_8
  try clear hcz17_9
  try clear hfz13_0
  try clear hfz13_1
  try clear hfz13_10
  try clear hfz13_2
  try clear hfz13_3
  try clear hfz13_4
  try clear hfz13_5
  try clear hfz13_6
  try clear hfz13_7
  try clear hfz13_8
  try clear hfz13_9
  try clear hfz14_0
  try clear hfz14_1
  try clear hfz14_10
  try clear hfz14_2
  try clear hfz14_3
  try clear hfz14_4
  try clear hfz14_5
  try clear hfz14_6
  try clear hfz14_7
  try clear hfz14_8
  try clear hfz14_9
  try clear hfz15_0
  try clear hfz15_1
  try clear hfz15_10
  try clear hfz15_2
  try clear hfz15_3
  try clear hfz15_4
  try clear hfz15_5
  try clear hfz15_6
  try clear hfz15_7
  try clear hfz15_8
  try clear hfz15_9
  try clear hfz16_0
  try clear hfz16_1
  try clear hfz16_10
  try clear hfz16_2
  try clear hfz16_3
  try clear hfz16_4
  try clear hfz16_5
  try clear hfz16_6
  try clear hfz16_7
  try clear hfz16_8
  try clear hfz16_9
  try clear hfz17_0
  try clear hfz17_1
  try clear hfz17_10
  try clear hfz17_2
  try clear hfz17_3
  try clear hfz17_4
  try clear hfz17_5
  try clear hfz17_6
  try clear hfz17_7
  try clear hfz17_8
  try clear hfz17_9
  obtain ⟨kq, x30_1, rfl, HA, HJ1, BK157, HB⟩ := hcut
  cases kq with
  | zero => exact absurd HA.out (by simp [spec_AcctOk.j0])
  | succ kj1 =>
   have H := HA.out
   clear HA
   simp only [spec_AcctOk.j0] at H
   by_cases c18 : x30_1 = true
   ·subst c18
    replace H := ip_ H
    obtain rfl := Option.some.inj H
    go_wp2
    go_ret
    exact ⟨sq_, bl_⟩
   ·replace c18 := Bool.eq_false_iff.mpr c18
    subst c18
    replace H := in_ H
    obtain ⟨t163, A19, H⟩ := ob_ H
    by_cases c20 : t163 = true
    ·subst c20
     replace H := ip_ H
     obtain ⟨t164, A21, H⟩ := ob_ H
     by_cases c22 : t164 = true
     ·subst c22
      replace H := ip_ H
      obtain ⟨t165, A23, H⟩ := ob_ H
      by_cases c24 : t165 = true
      ·subst c24
       replace H := ip_ H
       obtain ⟨t166, A25, H⟩ := ob_ H
       obtain ⟨t167, A26, H⟩ := ob_ H
       obtain rfl := Option.some.inj H
       try go_wp2
       have n0_ := Aside0.mk (blk_drew BK157.out)
       have n1_ := Aside0.mk (below_drew1 HB.out)
       clear BK157
       clear HB
       have BK157 := n0_
       have HB := n1_
       clear n0_ n1_
       refine start_ (n := 25) (S := fun w' => w'.cell? ⟨gb157, 0, none⟩ = some (.string a0_0) ∧ w'.cell? ⟨gb157, 1, none⟩ = some (.int .i64 a0_1) ∧ w'.cell? ⟨gb157, 2, none⟩ = some (.int .i64 a0_2) ∧ w'.cell? ⟨gb157, 3, none⟩ = some (.int .i64 a0_3) ∧ w'.cell? ⟨gb157, 4, none⟩ = some (.int .i64 a0_4) ∧ w'.cell? ⟨gb157, 5, none⟩ = some (.slice A0_5 l0_5.length c0_5) ∧ w'.cell? ⟨gb157, 6, none⟩ = some (.int .i64 a0_6) ∧ w'.cell? ⟨gb157, 7, none⟩ = some (.int .i64 a0_7) ∧ w'.cell? ⟨gb157, 8, none⟩ = some (.slice A0_8 l0_8.length c0_8) ∧ w'.cell? ⟨gb157, 9, none⟩ = some (.slice A0_9 l0_9.length c0_9) ∧ w'.cell? ⟨gb157, 10, none⟩ = some (.slice A0_10 l0_10.length c0_10)) (ds := []) tb25_0_5 (by kernel_rfl) rfl rfl ⟨cy_ BK157 0, cy_ BK157 1, cy_ BK157 2, cy_ BK157 3, cy_ BK157 4, cy_ BK157 5, cy_ BK157 6, cy_ BK157 7, cy_ BK157 8, cy_ BK157 9, cy_ BK157 10⟩ (fun hHeld => ?_); refine with_tabW spec_AcctOk.tab3 spec_AcctOk.bits3 (fun HT_ HW_ => ?_)
       generalize wc.drew = w27 at BK157 HB hHeld ⊢
       refine pl_ HT_ 0 31 tb25_1_5 ?_
       refine pt_ HT_ HW_ hHeld 1 32 tb25_3_5 ?_
       refine one_ (i := 2) (N := some 33) tb25_7_5 rfl rfl (one_of HT_.out (by kernel_rfl)) (by decide) (fun K hK => ?_)
       refine goes_ Tryd.func134 (by kernel_rfl) rfl #[.slice A0_5 l0_5.length c0_5] (by rfl) rfl rfl gl_ ?_
       with_reducible refine (spec_HoldsOk.calls kj1 _ _ l0_5 true _ ?side1 ?side2 A19.out).mono ?_
       (case side1 => exact ca_ (Kd.C_below HR0_5.out HB.out))
       (case side2 => exact HC0_5.out)
       rintro e w28 ⟨rfl, hb⟩
       refine ⟨_, rfl, ?_⟩
       have n0_ := Aside0.mk (blk_below (bk_ BK157) hb)
       have n1_ := Aside0.mk (below_step bl_ hb)
       clear BK157
       clear HB
       have BK157 := n0_
       have HB := n1_
       clear n0_ n1_
       (try clear hb)
       (try clear hb2)
       (try clear hk)
       (try clear hi)
       refine hK.out _ _ ⟨cy_ BK157 0, cy_ BK157 1, cy_ BK157 2, cy_ BK157 3, cy_ BK157 4, cy_ BK157 5, cy_ BK157 6, cy_ BK157 7, cy_ BK157 8, cy_ BK157 9, cy_ BK157 10⟩ (fun hHeld => ?_)
       clear hK K
       refine norm_ (a' := ?_) ?_ ?_
       rotate_left
       ·show Act.put _ (some 33) _ = _
        simp only [Act.put, q_]
        rfl
       refine pl_ HT_ 3 34 tb25_f_5 ?_
       refine pl_ HT_ 4 35 tb25_1f_5 ?_
       refine pt_ HT_ HW_ hHeld 5 36 tb25_3f_5 ?_
       refine one_ (i := 6) (N := some 37) tb25_7f_5 rfl rfl (one_of HT_.out (by kernel_rfl)) (by decide) (fun K hK => ?_)
       refine goes_ Tryd.func135 (by kernel_rfl) rfl #[.agg #[.int .i64 a0_6, .int .i64 a0_7, .slice A0_8 l0_8.length c0_8, .slice A0_9 l0_9.length c0_9]] (by rfl) rfl rfl gl_ ?_
       with_reducible refine (spec_RingOk.calls kj1 a0_6 a0_7 _ _ l0_8 _ _ l0_9 true _ ?side1 ?side2 ?side3 ?side4 A21.out).mono ?_
       (case side1 => exact ca_ (Kd.C_below HR0_8.out HB.out))
       (case side2 => exact HC0_8.out)
       (case side3 => exact ca_ (Kd.C_below HR0_9.out HB.out))
       (case side4 => exact HC0_9.out)
       rintro e w29 ⟨rfl, hb⟩
       refine ⟨_, rfl, ?_⟩
       have n0_ := Aside0.mk (blk_below (bk_ BK157) hb)
       have n1_ := Aside0.mk (below_step bl_ hb)
       clear BK157
       clear HB
       have BK157 := n0_
       have HB := n1_
       clear n0_ n1_
       (try clear hb)
       (try clear hb2)
       (try clear hk)
       (try clear hi)
       refine hK.out _ _ ⟨cy_ BK157 0, cy_ BK157 1, cy_ BK157 2, cy_ BK157 3, cy_ BK157 4, cy_ BK157 5, cy_ BK157 6, cy_ BK157 7, cy_ BK157 8, cy_ BK157 9, cy_ BK157 10⟩ (fun hHeld => ?_)
       clear hK K
       refine norm_ (a' := ?_) ?_ ?_
       rotate_left
       ·show Act.put _ (some 37) _ = _
        simp only [Act.put, q_]
        rfl
       refine pl_ HT_ 7 38 tb25_ff_5 ?_
       refine pl_ HT_ 8 39 tb25_1ff_5 ?_
       refine pl_ HT_ 9 40 tb25_3ff_5 ?_
       refine pt_ HT_ HW_ hHeld 10 41 tb25_7ff_5 ?_
       refine one_ (i := 11) (N := some 42) tb25_fff_5 rfl rfl (one_of HT_.out (by kernel_rfl)) (by decide) (fun K hK => ?_)
       refine goes_ Tryd.func136 (by kernel_rfl) rfl #[.slice A0_10 l0_10.length c0_10] (by rfl) rfl rfl gl_ ?_
       with_reducible refine (spec_SlotsOk.calls kj1 _ _ l0_10 true _ ?side1 ?side2 A23.out).mono ?_
       (case side1 => exact ca_ (Kd.C_below HR0_10.out HB.out))
       (case side2 => exact HC0_10.out)
       rintro e w30 ⟨rfl, hb⟩
       refine ⟨_, rfl, ?_⟩
       have n0_ := Aside0.mk (blk_below (bk_ BK157) hb)
       have n1_ := Aside0.mk (below_step bl_ hb)
       clear BK157
       clear HB
       have BK157 := n0_
       have HB := n1_
       clear n0_ n1_
       (try clear hb)
       (try clear hb2)
       (try clear hk)
       (try clear hi)
       refine hK.out _ _ ⟨cy_ BK157 0, cy_ BK157 1, cy_ BK157 2, cy_ BK157 3, cy_ BK157 4, cy_ BK157 5, cy_ BK157 6, cy_ BK157 7, cy_ BK157 8, cy_ BK157 9, cy_ BK157 10⟩ (fun hHeld => ?_)
       clear hK K
       refine norm_ (a' := ?_) ?_ ?_
       rotate_left
       ·show Act.put _ (some 42) _ = _
        simp only [Act.put, q_]
        rfl
       refine pl_ HT_ 12 43 tb25_1fff_5 ?_
       refine pl_ HT_ 13 44 tb25_3fff_5 ?_
       refine pl_ HT_ 14 45 tb25_7fff_5 ?_
       refine pl_ HT_ 16 47 tb25_17fff_5 ?_
       refine pl_ HT_ 20 51 tb25_117fff_5 ?_
       refine pt_ HT_ HW_ hHeld 15 46 tb25_11ffff_5 ?_
       refine pt_ HT_ HW_ hHeld 17 48 tb25_13ffff_5 ?_
       refine pt_ HT_ HW_ hHeld 21 52 tb25_33ffff_5 ?_
       refine one_ (i := 18) (N := some 49) tb25_37ffff_5 rfl rfl (one_of HT_.out (by kernel_rfl)) (by decide) (fun K hK => ?_)
       refine goes_ Tryd.func56 (by kernel_rfl) rfl #[.slice A0_5 l0_5.length c0_5] (by rfl) rfl rfl gl_ ?_
       with_reducible refine (spec_Stored.calls kj1 _ _ l0_5 t166 _ ?side1 ?side2 A25.out).mono ?_
       (case side1 => exact ca_ (Kd.C_below HR0_5.out HB.out))
       (case side2 => exact HC0_5.out)
       rintro e w31 ⟨rfl, hb⟩
       refine ⟨_, rfl, ?_⟩
       have n0_ := Aside0.mk (blk_below (bk_ BK157) hb)
       have n1_ := Aside0.mk (below_step bl_ hb)
       clear BK157
       clear HB
       have BK157 := n0_
       have HB := n1_
       clear n0_ n1_
       (try clear hb)
       (try clear hb2)
       (try clear hk)
       (try clear hi)
       refine hK.out _ _ ⟨cy_ BK157 0, cy_ BK157 1, cy_ BK157 2, cy_ BK157 3, cy_ BK157 4, cy_ BK157 5, cy_ BK157 6, cy_ BK157 7, cy_ BK157 8, cy_ BK157 9, cy_ BK157 10⟩ (fun hHeld => ?_)
       clear hK K
       refine norm_ (a' := ?_) ?_ ?_
       rotate_left
       ·show Act.put _ (some 49) _ = _
        simp only [Act.put, q_]
        rfl
       refine one_ (i := 19) (N := some 50) tb25_3fffff_5 rfl rfl (one_of HT_.out (by kernel_rfl)) (by decide) (fun K hK => ?_)
       refine goes_ Tryd.func55 (by kernel_rfl) rfl #[.int .i64 a0_2, .int .i64 t166] (by rfl) rfl rfl gl_ ?_
       with_reducible refine (spec_AddSat.calls a0_2 t166 t167 _ A26.out).mono ?_
       rintro e w' ⟨rfl, ⟨nd, rfl⟩⟩
       refine ⟨_, rfl, ?_⟩
       refine hK.out _ _ ⟨cy_ BK157 0, cy_ BK157 1, cy_ BK157 2, cy_ BK157 3, cy_ BK157 4, cy_ BK157 5, cy_ BK157 6, cy_ BK157 7, cy_ BK157 8, cy_ BK157 9, cy_ BK157 10⟩ (fun hHeld => ?_)
       clear hK K
       refine norm_ (a' := ?_) ?_ ?_
       rotate_left
       ·show Act.put _ (some 50) _ = _
        simp only [Act.put, q_]
        rfl
       refine pl_ HT_ 22 53 tb25_7fffff_5 ?_
       refine pl_ HT_ 23 54 tb25_ffffff_5 ?_
       refine pl_ HT_ 24 2 tb25_1ffffff_5 ?_
       refine done_ (done_of HT_.out (by kernel_rfl)) ?_
       try go_wp2
       go_ret
       exact ⟨sq_, bl_⟩
      ·replace c24 := Bool.eq_false_iff.mpr c24
       subst c24
       replace H := in_ H
       obtain rfl := Option.some.inj H
       try go_wp2
       have n0_ := Aside0.mk (blk_drew BK157.out)
       have n1_ := Aside0.mk (below_drew1 HB.out)
       clear BK157
       clear HB
       have BK157 := n0_
       have HB := n1_
       clear n0_ n1_
       refine start_ (n := 25) (S := fun w' => w'.cell? ⟨gb157, 0, none⟩ = some (.string a0_0) ∧ w'.cell? ⟨gb157, 1, none⟩ = some (.int .i64 a0_1) ∧ w'.cell? ⟨gb157, 2, none⟩ = some (.int .i64 a0_2) ∧ w'.cell? ⟨gb157, 3, none⟩ = some (.int .i64 a0_3) ∧ w'.cell? ⟨gb157, 4, none⟩ = some (.int .i64 a0_4) ∧ w'.cell? ⟨gb157, 5, none⟩ = some (.slice A0_5 l0_5.length c0_5) ∧ w'.cell? ⟨gb157, 6, none⟩ = some (.int .i64 a0_6) ∧ w'.cell? ⟨gb157, 7, none⟩ = some (.int .i64 a0_7) ∧ w'.cell? ⟨gb157, 8, none⟩ = some (.slice A0_8 l0_8.length c0_8) ∧ w'.cell? ⟨gb157, 9, none⟩ = some (.slice A0_9 l0_9.length c0_9) ∧ w'.cell? ⟨gb157, 10, none⟩ = some (.slice A0_10 l0_10.length c0_10)) (ds := []) tb25_0_5 (by kernel_rfl) rfl rfl ⟨cy_ BK157 0, cy_ BK157 1, cy_ BK157 2, cy_ BK157 3, cy_ BK157 4, cy_ BK157 5, cy_ BK157 6, cy_ BK157 7, cy_ BK157 8, cy_ BK157 9, cy_ BK157 10⟩ (fun hHeld => ?_); refine with_tabW spec_AcctOk.tab3 spec_AcctOk.bits3 (fun HT_ HW_ => ?_)
       generalize wc.drew = w32 at BK157 HB hHeld ⊢
       refine pl_ HT_ 0 31 tb25_1_5 ?_
       refine pt_ HT_ HW_ hHeld 1 32 tb25_3_5 ?_
       refine one_ (i := 2) (N := some 33) tb25_7_5 rfl rfl (one_of HT_.out (by kernel_rfl)) (by decide) (fun K hK => ?_)
       refine goes_ Tryd.func134 (by kernel_rfl) rfl #[.slice A0_5 l0_5.length c0_5] (by rfl) rfl rfl gl_ ?_
       with_reducible refine (spec_HoldsOk.calls kj1 _ _ l0_5 true _ ?side1 ?side2 A19.out).mono ?_
       (case side1 => exact ca_ (Kd.C_below HR0_5.out HB.out))
       (case side2 => exact HC0_5.out)
       rintro e w33 ⟨rfl, hb⟩
       refine ⟨_, rfl, ?_⟩
       have n0_ := Aside0.mk (blk_below (bk_ BK157) hb)
       have n1_ := Aside0.mk (below_step bl_ hb)
       clear BK157
       clear HB
       have BK157 := n0_
       have HB := n1_
       clear n0_ n1_
       (try clear hb)
       (try clear hb2)
       (try clear hk)
       (try clear hi)
       refine hK.out _ _ ⟨cy_ BK157 0, cy_ BK157 1, cy_ BK157 2, cy_ BK157 3, cy_ BK157 4, cy_ BK157 5, cy_ BK157 6, cy_ BK157 7, cy_ BK157 8, cy_ BK157 9, cy_ BK157 10⟩ (fun hHeld => ?_)
       clear hK K
       refine norm_ (a' := ?_) ?_ ?_
       rotate_left
       ·show Act.put _ (some 33) _ = _
        simp only [Act.put, q_]
        rfl
       refine pl_ HT_ 3 34 tb25_f_5 ?_
       refine pl_ HT_ 4 35 tb25_1f_5 ?_
       refine pt_ HT_ HW_ hHeld 5 36 tb25_3f_5 ?_
       refine one_ (i := 6) (N := some 37) tb25_7f_5 rfl rfl (one_of HT_.out (by kernel_rfl)) (by decide) (fun K hK => ?_)
       refine goes_ Tryd.func135 (by kernel_rfl) rfl #[.agg #[.int .i64 a0_6, .int .i64 a0_7, .slice A0_8 l0_8.length c0_8, .slice A0_9 l0_9.length c0_9]] (by rfl) rfl rfl gl_ ?_
       with_reducible refine (spec_RingOk.calls kj1 a0_6 a0_7 _ _ l0_8 _ _ l0_9 true _ ?side1 ?side2 ?side3 ?side4 A21.out).mono ?_
       (case side1 => exact ca_ (Kd.C_below HR0_8.out HB.out))
       (case side2 => exact HC0_8.out)
       (case side3 => exact ca_ (Kd.C_below HR0_9.out HB.out))
       (case side4 => exact HC0_9.out)
       rintro e w34 ⟨rfl, hb⟩
       refine ⟨_, rfl, ?_⟩
       have n0_ := Aside0.mk (blk_below (bk_ BK157) hb)
       have n1_ := Aside0.mk (below_step bl_ hb)
       clear BK157
       clear HB
       have BK157 := n0_
       have HB := n1_
       clear n0_ n1_
       (try clear hb)
       (try clear hb2)
       (try clear hk)
       (try clear hi)
       refine hK.out _ _ ⟨cy_ BK157 0, cy_ BK157 1, cy_ BK157 2, cy_ BK157 3, cy_ BK157 4, cy_ BK157 5, cy_ BK157 6, cy_ BK157 7, cy_ BK157 8, cy_ BK157 9, cy_ BK157 10⟩ (fun hHeld => ?_)
       clear hK K
       refine norm_ (a' := ?_) ?_ ?_
       rotate_left
       ·show Act.put _ (some 37) _ = _
        simp only [Act.put, q_]
        rfl
       refine pl_ HT_ 7 38 tb25_ff_5 ?_
       refine pl_ HT_ 8 39 tb25_1ff_5 ?_
       refine pl_ HT_ 9 40 tb25_3ff_5 ?_
       refine pt_ HT_ HW_ hHeld 10 41 tb25_7ff_5 ?_
       refine one_ (i := 11) (N := some 42) tb25_fff_5 rfl rfl (one_of HT_.out (by kernel_rfl)) (by decide) (fun K hK => ?_)
       refine goes_ Tryd.func136 (by kernel_rfl) rfl #[.slice A0_10 l0_10.length c0_10] (by rfl) rfl rfl gl_ ?_
       with_reducible refine (spec_SlotsOk.calls kj1 _ _ l0_10 false _ ?side1 ?side2 A23.out).mono ?_
       (case side1 => exact ca_ (Kd.C_below HR0_10.out HB.out))
       (case side2 => exact HC0_10.out)
       rintro e w35 ⟨rfl, hb⟩
       refine ⟨_, rfl, ?_⟩
       have n0_ := Aside0.mk (blk_below (bk_ BK157) hb)
       have n1_ := Aside0.mk (below_step bl_ hb)
       clear BK157
       clear HB
       have BK157 := n0_
       have HB := n1_
       clear n0_ n1_
       (try clear hb)
       (try clear hb2)
       (try clear hk)
       (try clear hi)
       refine hK.out _ _ ⟨cy_ BK157 0, cy_ BK157 1, cy_ BK157 2, cy_ BK157 3, cy_ BK157 4, cy_ BK157 5, cy_ BK157 6, cy_ BK157 7, cy_ BK157 8, cy_ BK157 9, cy_ BK157 10⟩ (fun hHeld => ?_)
       clear hK K
       refine norm_ (a' := ?_) ?_ ?_
       rotate_left
       ·show Act.put _ (some 42) _ = _
        simp only [Act.put, q_]
        rfl
       refine pl_ HT_ 12 43 tb25_1fff_5 ?_
       refine pl_ HT_ 13 44 tb25_3fff_5 ?_
       refine pr_ HT_ 14 45 tb25_7fff_5 ?_
       refine pr_ HT_ 15 46 tb25_ffff_5 ?_
       refine pr_ HT_ 16 47 tb25_1ffff_5 ?_
       refine pr_ HT_ 17 48 tb25_3ffff_5 ?_
       refine pr_ HT_ 18 49 tb25_7ffff_5 ?_
       refine pr_ HT_ 19 50 tb25_fffff_5 ?_
       refine pr_ HT_ 20 51 tb25_1fffff_5 ?_
       refine pr_ HT_ 21 52 tb25_3fffff_5 ?_
       refine pr_ HT_ 22 53 tb25_7fffff_5 ?_
       refine pl_ HT_ 23 54 tb25_ffffff_5 ?_
       refine pl_ HT_ 24 2 tb25_1ffffff_5 ?_
       refine done_ (done_of HT_.out (by kernel_rfl)) ?_
       try go_wp2
       go_ret
       exact ⟨sq_, bl_⟩
     ·replace c22 := Bool.eq_false_iff.mpr c22
      subst c22
      replace H := in_ H
      obtain rfl := Option.some.inj H
      try go_wp2
      have n0_ := Aside0.mk (blk_drew BK157.out)
      have n1_ := Aside0.mk (below_drew1 HB.out)
      clear BK157
      clear HB
      have BK157 := n0_
      have HB := n1_
      clear n0_ n1_
      refine start_ (n := 25) (S := fun w' => w'.cell? ⟨gb157, 0, none⟩ = some (.string a0_0) ∧ w'.cell? ⟨gb157, 1, none⟩ = some (.int .i64 a0_1) ∧ w'.cell? ⟨gb157, 2, none⟩ = some (.int .i64 a0_2) ∧ w'.cell? ⟨gb157, 3, none⟩ = some (.int .i64 a0_3) ∧ w'.cell? ⟨gb157, 4, none⟩ = some (.int .i64 a0_4) ∧ w'.cell? ⟨gb157, 5, none⟩ = some (.slice A0_5 l0_5.length c0_5) ∧ w'.cell? ⟨gb157, 6, none⟩ = some (.int .i64 a0_6) ∧ w'.cell? ⟨gb157, 7, none⟩ = some (.int .i64 a0_7) ∧ w'.cell? ⟨gb157, 8, none⟩ = some (.slice A0_8 l0_8.length c0_8) ∧ w'.cell? ⟨gb157, 9, none⟩ = some (.slice A0_9 l0_9.length c0_9) ∧ w'.cell? ⟨gb157, 10, none⟩ = some (.slice A0_10 l0_10.length c0_10)) (ds := []) tb25_0_5 (by kernel_rfl) rfl rfl ⟨cy_ BK157 0, cy_ BK157 1, cy_ BK157 2, cy_ BK157 3, cy_ BK157 4, cy_ BK157 5, cy_ BK157 6, cy_ BK157 7, cy_ BK157 8, cy_ BK157 9, cy_ BK157 10⟩ (fun hHeld => ?_); refine with_tabW spec_AcctOk.tab3 spec_AcctOk.bits3 (fun HT_ HW_ => ?_)
      generalize wc.drew = w36 at BK157 HB hHeld ⊢
      refine pl_ HT_ 0 31 tb25_1_5 ?_
      refine pt_ HT_ HW_ hHeld 1 32 tb25_3_5 ?_
      refine one_ (i := 2) (N := some 33) tb25_7_5 rfl rfl (one_of HT_.out (by kernel_rfl)) (by decide) (fun K hK => ?_)
      refine goes_ Tryd.func134 (by kernel_rfl) rfl #[.slice A0_5 l0_5.length c0_5] (by rfl) rfl rfl gl_ ?_
      with_reducible refine (spec_HoldsOk.calls kj1 _ _ l0_5 true _ ?side1 ?side2 A19.out).mono ?_
      (case side1 => exact ca_ (Kd.C_below HR0_5.out HB.out))
      (case side2 => exact HC0_5.out)
      rintro e w37 ⟨rfl, hb⟩
      refine ⟨_, rfl, ?_⟩
      have n0_ := Aside0.mk (blk_below (bk_ BK157) hb)
      have n1_ := Aside0.mk (below_step bl_ hb)
      clear BK157
      clear HB
      have BK157 := n0_
      have HB := n1_
      clear n0_ n1_
      (try clear hb)
      (try clear hb2)
      (try clear hk)
      (try clear hi)
      refine hK.out _ _ ⟨cy_ BK157 0, cy_ BK157 1, cy_ BK157 2, cy_ BK157 3, cy_ BK157 4, cy_ BK157 5, cy_ BK157 6, cy_ BK157 7, cy_ BK157 8, cy_ BK157 9, cy_ BK157 10⟩ (fun hHeld => ?_)
      clear hK K
      refine norm_ (a' := ?_) ?_ ?_
      rotate_left
      ·show Act.put _ (some 33) _ = _
       simp only [Act.put, q_]
       rfl
      refine pl_ HT_ 3 34 tb25_f_5 ?_
      refine pl_ HT_ 4 35 tb25_1f_5 ?_
      refine pt_ HT_ HW_ hHeld 5 36 tb25_3f_5 ?_
      refine one_ (i := 6) (N := some 37) tb25_7f_5 rfl rfl (one_of HT_.out (by kernel_rfl)) (by decide) (fun K hK => ?_)
      refine goes_ Tryd.func135 (by kernel_rfl) rfl #[.agg #[.int .i64 a0_6, .int .i64 a0_7, .slice A0_8 l0_8.length c0_8, .slice A0_9 l0_9.length c0_9]] (by rfl) rfl rfl gl_ ?_
      with_reducible refine (spec_RingOk.calls kj1 a0_6 a0_7 _ _ l0_8 _ _ l0_9 false _ ?side1 ?side2 ?side3 ?side4 A21.out).mono ?_
      (case side1 => exact ca_ (Kd.C_below HR0_8.out HB.out))
      (case side2 => exact HC0_8.out)
      (case side3 => exact ca_ (Kd.C_below HR0_9.out HB.out))
      (case side4 => exact HC0_9.out)
      rintro e w38 ⟨rfl, hb⟩
      refine ⟨_, rfl, ?_⟩
      have n0_ := Aside0.mk (blk_below (bk_ BK157) hb)
      have n1_ := Aside0.mk (below_step bl_ hb)
      clear BK157
      clear HB
      have BK157 := n0_
      have HB := n1_
      clear n0_ n1_
      (try clear hb)
      (try clear hb2)
      (try clear hk)
      (try clear hi)
      refine hK.out _ _ ⟨cy_ BK157 0, cy_ BK157 1, cy_ BK157 2, cy_ BK157 3, cy_ BK157 4, cy_ BK157 5, cy_ BK157 6, cy_ BK157 7, cy_ BK157 8, cy_ BK157 9, cy_ BK157 10⟩ (fun hHeld => ?_)
      clear hK K
      refine norm_ (a' := ?_) ?_ ?_
      rotate_left
      ·show Act.put _ (some 37) _ = _
       simp only [Act.put, q_]
       rfl
      refine pl_ HT_ 7 38 tb25_ff_5 ?_
      refine pl_ HT_ 8 39 tb25_1ff_5 ?_
      refine pr_ HT_ 9 40 tb25_3ff_5 ?_
      refine pr_ HT_ 10 41 tb25_7ff_5 ?_
      refine pr_ HT_ 11 42 tb25_fff_5 ?_
      refine pl_ HT_ 12 43 tb25_1fff_5 ?_
      refine pl_ HT_ 13 44 tb25_3fff_5 ?_
      refine pr_ HT_ 14 45 tb25_7fff_5 ?_
      refine pr_ HT_ 15 46 tb25_ffff_5 ?_
      refine pr_ HT_ 16 47 tb25_1ffff_5 ?_
      refine pr_ HT_ 17 48 tb25_3ffff_5 ?_
      refine pr_ HT_ 18 49 tb25_7ffff_5 ?_
      refine pr_ HT_ 19 50 tb25_fffff_5 ?_
      refine pr_ HT_ 20 51 tb25_1fffff_5 ?_
      refine pr_ HT_ 21 52 tb25_3fffff_5 ?_
      refine pr_ HT_ 22 53 tb25_7fffff_5 ?_
      refine pl_ HT_ 23 54 tb25_ffffff_5 ?_
      refine pl_ HT_ 24 2 tb25_1ffffff_5 ?_
      refine done_ (done_of HT_.out (by kernel_rfl)) ?_
      try go_wp2
      go_ret
      exact ⟨sq_, bl_⟩
    ·replace c20 := Bool.eq_false_iff.mpr c20
     subst c20
     replace H := in_ H
     obtain rfl := Option.some.inj H
     try go_wp2
     have n0_ := Aside0.mk (blk_drew BK157.out)
     have n1_ := Aside0.mk (below_drew1 HB.out)
     clear BK157
     clear HB
     have BK157 := n0_
     have HB := n1_
     clear n0_ n1_
     refine start_ (n := 25) (S := fun w' => w'.cell? ⟨gb157, 0, none⟩ = some (.string a0_0) ∧ w'.cell? ⟨gb157, 1, none⟩ = some (.int .i64 a0_1) ∧ w'.cell? ⟨gb157, 2, none⟩ = some (.int .i64 a0_2) ∧ w'.cell? ⟨gb157, 3, none⟩ = some (.int .i64 a0_3) ∧ w'.cell? ⟨gb157, 4, none⟩ = some (.int .i64 a0_4) ∧ w'.cell? ⟨gb157, 5, none⟩ = some (.slice A0_5 l0_5.length c0_5) ∧ w'.cell? ⟨gb157, 6, none⟩ = some (.int .i64 a0_6) ∧ w'.cell? ⟨gb157, 7, none⟩ = some (.int .i64 a0_7) ∧ w'.cell? ⟨gb157, 8, none⟩ = some (.slice A0_8 l0_8.length c0_8) ∧ w'.cell? ⟨gb157, 9, none⟩ = some (.slice A0_9 l0_9.length c0_9) ∧ w'.cell? ⟨gb157, 10, none⟩ = some (.slice A0_10 l0_10.length c0_10)) (ds := []) tb25_0_5 (by kernel_rfl) rfl rfl ⟨cy_ BK157 0, cy_ BK157 1, cy_ BK157 2, cy_ BK157 3, cy_ BK157 4, cy_ BK157 5, cy_ BK157 6, cy_ BK157 7, cy_ BK157 8, cy_ BK157 9, cy_ BK157 10⟩ (fun hHeld => ?_); refine with_tabW spec_AcctOk.tab3 spec_AcctOk.bits3 (fun HT_ HW_ => ?_)
     generalize wc.drew = w39 at BK157 HB hHeld ⊢
     refine pl_ HT_ 0 31 tb25_1_5 ?_
     refine pt_ HT_ HW_ hHeld 1 32 tb25_3_5 ?_
     refine one_ (i := 2) (N := some 33) tb25_7_5 rfl rfl (one_of HT_.out (by kernel_rfl)) (by decide) (fun K hK => ?_)
     refine goes_ Tryd.func134 (by kernel_rfl) rfl #[.slice A0_5 l0_5.length c0_5] (by rfl) rfl rfl gl_ ?_
     with_reducible refine (spec_HoldsOk.calls kj1 _ _ l0_5 false _ ?side1 ?side2 A19.out).mono ?_
     (case side1 => exact ca_ (Kd.C_below HR0_5.out HB.out))
     (case side2 => exact HC0_5.out)
     rintro e w40 ⟨rfl, hb⟩
     refine ⟨_, rfl, ?_⟩
     have n0_ := Aside0.mk (blk_below (bk_ BK157) hb)
     have n1_ := Aside0.mk (below_step bl_ hb)
     clear BK157
     clear HB
     have BK157 := n0_
     have HB := n1_
     clear n0_ n1_
     (try clear hb)
     (try clear hb2)
     (try clear hk)
     (try clear hi)
     refine hK.out _ _ ⟨cy_ BK157 0, cy_ BK157 1, cy_ BK157 2, cy_ BK157 3, cy_ BK157 4, cy_ BK157 5, cy_ BK157 6, cy_ BK157 7, cy_ BK157 8, cy_ BK157 9, cy_ BK157 10⟩ (fun hHeld => ?_)
     clear hK K
     refine norm_ (a' := ?_) ?_ ?_
     rotate_left
     ·show Act.put _ (some 33) _ = _
      simp only [Act.put, q_]
      rfl
     refine pl_ HT_ 3 34 tb25_f_5 ?_
     refine pr_ HT_ 4 35 tb25_1f_5 ?_
     refine pr_ HT_ 5 36 tb25_3f_5 ?_
     refine pr_ HT_ 6 37 tb25_7f_5 ?_
     refine pl_ HT_ 7 38 tb25_ff_5 ?_
     refine pl_ HT_ 8 39 tb25_1ff_5 ?_
     refine pr_ HT_ 9 40 tb25_3ff_5 ?_
     refine pr_ HT_ 10 41 tb25_7ff_5 ?_
     refine pr_ HT_ 11 42 tb25_fff_5 ?_
     refine pl_ HT_ 12 43 tb25_1fff_5 ?_
     refine pl_ HT_ 13 44 tb25_3fff_5 ?_
     refine pr_ HT_ 14 45 tb25_7fff_5 ?_
     refine pr_ HT_ 15 46 tb25_ffff_5 ?_
     refine pr_ HT_ 16 47 tb25_1ffff_5 ?_
     refine pr_ HT_ 17 48 tb25_3ffff_5 ?_
     refine pr_ HT_ 18 49 tb25_7ffff_5 ?_
     refine pr_ HT_ 19 50 tb25_fffff_5 ?_
     refine pr_ HT_ 20 51 tb25_1fffff_5 ?_
     refine pr_ HT_ 21 52 tb25_3fffff_5 ?_
     refine pr_ HT_ 22 53 tb25_7fffff_5 ?_
     refine pl_ HT_ 23 54 tb25_ffffff_5 ?_
     refine pl_ HT_ 24 2 tb25_1ffffff_5 ?_
     refine done_ (done_of HT_.out (by kernel_rfl)) ?_
     try go_wp2
     go_ret
     exact ⟨sq_, bl_⟩
end Go.Proofs.YtbjpfknmkpnhjaaDoor.QFnMoney
