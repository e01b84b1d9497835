-- by my own printer (myprint.py, over the kit's print.py)
import Derived.Test.YtcojjdfbdgpajaaQFnExactAcctSamex0
import Derived.Test.YtcojjdfbdgpajaaQFnExactAcctSamex2
import Derived.Test.YtcojjdfbdgpajaaQFnExactAcctSamex5
import Derived.Test.YtcojjdfbdgpajaaQFnExactAcctSamex6
import Derived.Test.YtcojjdfbdgpajaaQFnExactAcctSamex7
import Derived.Test.YtcojjdfbdgpajaaQFnExactAcctSamex9
namespace Go.Proofs.Ytcojjdfbdgpajaa.QFnExactAcctSame
open Go.RowKit Go.Proofs.YtcojjdfbdgpajaaW.PrintWords Go.Proofs.YtcojjdfbdgpajaaW.PrintLast Go.Proofs.YtcojjdfbdgpajaaW.PrintMore
attribute [local go_sem] max2_int min2_int max_two min_two max_three min_three max_four min_four   -- for this text's walks alone
set_option linter.unusedVariables false
set_option linter.unusedSimpArgs false

attribute [local go_sem] my_geq my_leq my_gtr
/-! ### laws_FnExactAcctSame: function 8 -/
def laws_FnExactAcctSame.f (k : Nat) (a0_0 : ByteArray) (a0_1 : Int) (a0_2 : Int) (a0_3 : Int) (a0_4 : Int) (l0_5 : List (S53)) (a0_6 : Int) (a0_7 : Int) (l0_8 : List Int) (l0_9 : List Int) (l0_10 : List (S42)) (a1_0 : ByteArray) (a1_1 : Int) (a1_2 : Int) (a1_3 : Int) (a1_4 : Int) (l1_5 : List (S53)) (a1_6 : Int) (a1_7 : Int) (l1_8 : List Int) (l1_9 : List Int) (l1_10 : List (S42)) : Option (Bool) := (laws_szAcct.f k a0_0 a0_1 a0_2 a0_3 a0_4 l0_5 a0_6 a0_7 l0_8 l0_9 l0_10 1048576).bind fun t246 => (if t246 < 0 then (some true) else ((laws_szAcct.f k a1_0 a1_1 a1_2 a1_3 a1_4 l1_5 a1_6 a1_7 l1_8 l1_9 l1_10 t246).bind fun t247 => (if t247 < 0 then (some true) else ((laws_toAcct.f k a0_0 a0_1 a0_2 a0_3 a0_4 l0_5 a0_6 a0_7 l0_8 l0_9 l0_10).bind fun bt248 => ((laws_toAcct.f k a1_0 a1_1 a1_2 a1_3 a1_4 l1_5 a1_6 a1_7 l1_8 l1_9 l1_10).bind fun bt267 => ((spec_AcctSame.f k bt248.1 bt248.2.1 bt248.2.2.1 bt248.2.2.2.1 bt248.2.2.2.2.1 bt248.2.2.2.2.2.1 bt248.2.2.2.2.2.2.1 bt248.2.2.2.2.2.2.2.1 bt248.2.2.2.2.2.2.2.2.1 bt248.2.2.2.2.2.2.2.2.2.1 bt248.2.2.2.2.2.2.2.2.2.2 bt267.1 bt267.2.1 bt267.2.2.1 bt267.2.2.2.1 bt267.2.2.2.2.1 bt267.2.2.2.2.2.1 bt267.2.2.2.2.2.2.1 bt267.2.2.2.2.2.2.2.1 bt267.2.2.2.2.2.2.2.2.1 bt267.2.2.2.2.2.2.2.2.2.1 bt267.2.2.2.2.2.2.2.2.2.2).bind fun t286 => ((laws_toAcct.f k a0_0 a0_1 a0_2 a0_3 a0_4 l0_5 a0_6 a0_7 l0_8 l0_9 l0_10).bind fun bt287 => ((laws_toAcct.f k a1_0 a1_1 a1_2 a1_3 a1_4 l1_5 a1_6 a1_7 l1_8 l1_9 l1_10).bind fun bt307 => ((impl_AcctSame.f k bt287.1 bt287.2.1 bt287.2.2.1 bt287.2.2.2.1 bt287.2.2.2.2.1 bt287.2.2.2.2.2.1 bt287.2.2.2.2.2.2.1 bt287.2.2.2.2.2.2.2.1 bt287.2.2.2.2.2.2.2.2.1 bt287.2.2.2.2.2.2.2.2.2.1 bt287.2.2.2.2.2.2.2.2.2.2 bt307.1 bt307.2.1 bt307.2.2.1 bt307.2.2.2.1 bt307.2.2.2.2.1 bt307.2.2.2.2.2.1 bt307.2.2.2.2.2.2.1 bt307.2.2.2.2.2.2.2.1 bt307.2.2.2.2.2.2.2.2.1 bt307.2.2.2.2.2.2.2.2.2.1 bt307.2.2.2.2.2.2.2.2.2.2).bind fun t327 => (if (t327 != t286) = true then (some false) else ((laws_toAcct.f k a0_0 a0_1 a0_2 a0_3 a0_4 l0_5 a0_6 a0_7 l0_8 l0_9 l0_10).bind fun bt328 => ((laws_eqAcct.f k bt287.1 bt287.2.1 bt287.2.2.1 bt287.2.2.2.1 bt287.2.2.2.2.1 bt287.2.2.2.2.2.1 bt287.2.2.2.2.2.2.1 bt287.2.2.2.2.2.2.2.1 bt287.2.2.2.2.2.2.2.2.1 bt287.2.2.2.2.2.2.2.2.2.1 bt287.2.2.2.2.2.2.2.2.2.2 bt328.1 bt328.2.1 bt328.2.2.1 bt328.2.2.2.1 bt328.2.2.2.2.1 bt328.2.2.2.2.2.1 bt328.2.2.2.2.2.2.1 bt328.2.2.2.2.2.2.2.1 bt328.2.2.2.2.2.2.2.2.1 bt328.2.2.2.2.2.2.2.2.2.1 bt328.2.2.2.2.2.2.2.2.2.2).bind fun t347 => (if t347 = true then ((laws_toAcct.f k a1_0 a1_1 a1_2 a1_3 a1_4 l1_5 a1_6 a1_7 l1_8 l1_9 l1_10).bind fun bt348 => ((laws_eqAcct.f k bt307.1 bt307.2.1 bt307.2.2.1 bt307.2.2.2.1 bt307.2.2.2.2.1 bt307.2.2.2.2.2.1 bt307.2.2.2.2.2.2.1 bt307.2.2.2.2.2.2.2.1 bt307.2.2.2.2.2.2.2.2.1 bt307.2.2.2.2.2.2.2.2.2.1 bt307.2.2.2.2.2.2.2.2.2.2 bt348.1 bt348.2.1 bt348.2.2.1 bt348.2.2.2.1 bt348.2.2.2.2.1 bt348.2.2.2.2.2.1 bt348.2.2.2.2.2.2.1 bt348.2.2.2.2.2.2.2.1 bt348.2.2.2.2.2.2.2.2.1 bt348.2.2.2.2.2.2.2.2.2.1 bt348.2.2.2.2.2.2.2.2.2.2).bind fun t367 => (if t367 = true then (some true) else (some false)))) else (some false))))))))))))))
theorem laws_FnExactAcctSame.mono : ∀ a0 a1 a2 a3 a4 a5 a6 a7 a8 a9 a10 a11 a12 a13 a14 a15 a16 a17 a18 a19 a20 a21 k, LeO (laws_FnExactAcctSame.f k a0 a1 a2 a3 a4 a5 a6 a7 a8 a9 a10 a11 a12 a13 a14 a15 a16 a17 a18 a19 a20 a21) (laws_FnExactAcctSame.f (k + 1) a0 a1 a2 a3 a4 a5 a6 a7 a8 a9 a10 a11 a12 a13 a14 a15 a16 a17 a18 a19 a20 a21) := by
  intro a0 a1 a2 a3 a4 a5 a6 a7 a8 a9 a10 a11 a12 a13 a14 a15 a16 a17 a18 a19 a20 a21 k
  unfold laws_FnExactAcctSame.f
  repeat' first
      | (with_reducible exact impl_AcctSame.mono _ _ _ _ _ _ _ _ _ _ _ _ _ _ _ _ _ _ _ _ _ _ _)
      | (with_reducible exact laws_eqAcct.mono _ _ _ _ _ _ _ _ _ _ _ _ _ _ _ _ _ _ _ _ _ _ _)
      | (with_reducible exact laws_szAcct.mono _ _ _ _ _ _ _ _ _ _ _ _ _)
      | (with_reducible exact laws_toAcct.mono _ _ _ _ _ _ _ _ _ _ _ _)
      | (with_reducible exact spec_AcctSame.mono _ _ _ _ _ _ _ _ _ _ _ _ _ _ _ _ _ _ _ _ _ _ _)
      | (with_reducible exact LeO.refl _)
      | (with_reducible exact LeO.none _)
      | (with_reducible refine LeO.ite ?_ ?_)
      | (with_reducible refine LeO.bind ?_ (fun _ => ?_))
      | exact impl_AcctSame.mono _ _ _ _ _ _ _ _ _ _ _ _ _ _ _ _ _ _ _ _ _ _ _
      | exact laws_eqAcct.mono _ _ _ _ _ _ _ _ _ _ _ _ _ _ _ _ _ _ _ _ _ _ _
      | exact laws_szAcct.mono _ _ _ _ _ _ _ _ _ _ _ _ _
      | exact laws_toAcct.mono _ _ _ _ _ _ _ _ _ _ _ _
      | exact spec_AcctSame.mono _ _ _ _ _ _ _ _ _ _ _ _ _ _ _ _ _ _ _ _ _ _ _
      | exact LeO.none _
      | refine LeO.ite ?_ ?_
      | refine LeO.bind ?_ (fun _ => ?_)
set_option maxHeartbeats 8000000 in
set_option maxRecDepth 100000 in
theorem laws_FnExactAcctSame.calls (k : Nat) (a0_0 : ByteArray) (a0_1 : Int) (a0_2 : Int) (a0_3 : Int) (a0_4 : Int) (A0_5 : Option Addr) (c0_5 : Nat) (l0_5 : List (S53)) (a0_6 : Int) (a0_7 : Int) (A0_8 : Option Addr) (c0_8 : Nat) (l0_8 : List Int) (A0_9 : Option Addr) (c0_9 : Nat) (l0_9 : List Int) (A0_10 : Option Addr) (c0_10 : Nat) (l0_10 : List (S42)) (a1_0 : ByteArray) (a1_1 : Int) (a1_2 : Int) (a1_3 : Int) (a1_4 : Int) (A1_5 : Option Addr) (c1_5 : Nat) (l1_5 : List (S53)) (a1_6 : Int) (a1_7 : Int) (A1_8 : Option Addr) (c1_8 : Nat) (l1_8 : List Int) (A1_9 : Option Addr) (c1_9 : Nat) (l1_9 : List Int) (A1_10 : Option Addr) (c1_10 : Nat) (l1_10 : List (S42)) (r : Bool) (w : World) (hr0_5 : Kd.C k53 w A0_5 l0_5.length l0_5) (hc0_5 : l0_5.length ≤ c0_5) (hr0_8 : Kd.C (Kd.int .i64) w A0_8 l0_8.length l0_8) (hc0_8 : l0_8.length ≤ c0_8) (hr0_9 : Kd.C (Kd.int .i64) w A0_9 l0_9.length l0_9) (hc0_9 : l0_9.length ≤ c0_9) (hr0_10 : Kd.C k42 w A0_10 l0_10.length l0_10) (hc0_10 : l0_10.length ≤ c0_10) (hr1_5 : Kd.C k53 w A1_5 l1_5.length l1_5) (hc1_5 : l1_5.length ≤ c1_5) (hr1_8 : Kd.C (Kd.int .i64) w A1_8 l1_8.length l1_8) (hc1_8 : l1_8.length ≤ c1_8) (hr1_9 : Kd.C (Kd.int .i64) w A1_9 l1_9.length l1_9) (hc1_9 : l1_9.length ≤ c1_9) (hr1_10 : Kd.C k42 w A1_10 l1_10.length l1_10) (hc1_10 : l1_10.length ≤ c1_10) (h : laws_FnExactAcctSame.f k a0_0 a0_1 a0_2 a0_3 a0_4 l0_5 a0_6 a0_7 l0_8 l0_9 l0_10 a1_0 a1_1 a1_2 a1_3 a1_4 l1_5 a1_6 a1_7 l1_8 l1_9 l1_10 = some true) :
    Calls Try.prog 8 #[.agg #[.string a0_0, .int .i64 a0_1, .int .i64 a0_2, .int .i64 a0_3, .int .i64 a0_4, .slice A0_5 l0_5.length c0_5, .int .i64 a0_6, .int .i64 a0_7, .slice A0_8 l0_8.length c0_8, .slice A0_9 l0_9.length c0_9, .slice A0_10 l0_10.length c0_10], .agg #[.string a1_0, .int .i64 a1_1, .int .i64 a1_2, .int .i64 a1_3, .int .i64 a1_4, .slice A1_5 l1_5.length c1_5, .int .i64 a1_6, .int .i64 a1_7, .slice A1_8 l1_8.length c1_8, .slice A1_9 l1_9.length c1_9, .slice A1_10 l1_10.length c1_10]] w fun e w' => e = .returned (.bool true) ∧ Below w.heap.size w w' := by
  have hu80 := Try.underlying80
  have hu85 := Try.underlying85
  have HR0_5 := Aside0.mk hr0_5
  have HC0_5 := Aside0.mk hc0_5
  clear hr0_5 hc0_5
  have HR0_8 := Aside0.mk hr0_8
  have HC0_8 := Aside0.mk hc0_8
  clear hr0_8 hc0_8
  have HR0_9 := Aside0.mk hr0_9
  have HC0_9 := Aside0.mk hc0_9
  clear hr0_9 hc0_9
  have HR0_10 := Aside0.mk hr0_10
  have HC0_10 := Aside0.mk hc0_10
  clear hr0_10 hc0_10
  have HR1_5 := Aside0.mk hr1_5
  have HC1_5 := Aside0.mk hc1_5
  clear hr1_5 hc1_5
  have HR1_8 := Aside0.mk hr1_8
  have HC1_8 := Aside0.mk hc1_8
  clear hr1_8 hc1_8
  have HR1_9 := Aside0.mk hr1_9
  have HC1_9 := Aside0.mk hc1_9
  clear hr1_9 hc1_9
  have HR1_10 := Aside0.mk hr1_10
  have HC1_10 := Aside0.mk hc1_10
  clear hr1_10 hc1_10
  have HB := Aside0.mk (Below.refl w.heap.size w)
  have H : ((laws_szAcct.f k a0_0 a0_1 a0_2 a0_3 a0_4 l0_5 a0_6 a0_7 l0_8 l0_9 l0_10 1048576).bind fun t246 => (if t246 < 0 then (some true) else ((laws_szAcct.f k a1_0 a1_1 a1_2 a1_3 a1_4 l1_5 a1_6 a1_7 l1_8 l1_9 l1_10 t246).bind fun t247 => (if t247 < 0 then (some true) else ((laws_toAcct.f k a0_0 a0_1 a0_2 a0_3 a0_4 l0_5 a0_6 a0_7 l0_8 l0_9 l0_10).bind fun bt248 => ((laws_toAcct.f k a1_0 a1_1 a1_2 a1_3 a1_4 l1_5 a1_6 a1_7 l1_8 l1_9 l1_10).bind fun bt267 => ((spec_AcctSame.f k bt248.1 bt248.2.1 bt248.2.2.1 bt248.2.2.2.1 bt248.2.2.2.2.1 bt248.2.2.2.2.2.1 bt248.2.2.2.2.2.2.1 bt248.2.2.2.2.2.2.2.1 bt248.2.2.2.2.2.2.2.2.1 bt248.2.2.2.2.2.2.2.2.2.1 bt248.2.2.2.2.2.2.2.2.2.2 bt267.1 bt267.2.1 bt267.2.2.1 bt267.2.2.2.1 bt267.2.2.2.2.1 bt267.2.2.2.2.2.1 bt267.2.2.2.2.2.2.1 bt267.2.2.2.2.2.2.2.1 bt267.2.2.2.2.2.2.2.2.1 bt267.2.2.2.2.2.2.2.2.2.1 bt267.2.2.2.2.2.2.2.2.2.2).bind fun t286 => ((laws_toAcct.f k a0_0 a0_1 a0_2 a0_3 a0_4 l0_5 a0_6 a0_7 l0_8 l0_9 l0_10).bind fun bt287 => ((laws_toAcct.f k a1_0 a1_1 a1_2 a1_3 a1_4 l1_5 a1_6 a1_7 l1_8 l1_9 l1_10).bind fun bt307 => ((impl_AcctSame.f k bt287.1 bt287.2.1 bt287.2.2.1 bt287.2.2.2.1 bt287.2.2.2.2.1 bt287.2.2.2.2.2.1 bt287.2.2.2.2.2.2.1 bt287.2.2.2.2.2.2.2.1 bt287.2.2.2.2.2.2.2.2.1 bt287.2.2.2.2.2.2.2.2.2.1 bt287.2.2.2.2.2.2.2.2.2.2 bt307.1 bt307.2.1 bt307.2.2.1 bt307.2.2.2.1 bt307.2.2.2.2.1 bt307.2.2.2.2.2.1 bt307.2.2.2.2.2.2.1 bt307.2.2.2.2.2.2.2.1 bt307.2.2.2.2.2.2.2.2.1 bt307.2.2.2.2.2.2.2.2.2.1 bt307.2.2.2.2.2.2.2.2.2.2).bind fun t327 => (if (t327 != t286) = true then (some false) else ((laws_toAcct.f k a0_0 a0_1 a0_2 a0_3 a0_4 l0_5 a0_6 a0_7 l0_8 l0_9 l0_10).bind fun bt328 => ((laws_eqAcct.f k bt287.1 bt287.2.1 bt287.2.2.1 bt287.2.2.2.1 bt287.2.2.2.2.1 bt287.2.2.2.2.2.1 bt287.2.2.2.2.2.2.1 bt287.2.2.2.2.2.2.2.1 bt287.2.2.2.2.2.2.2.2.1 bt287.2.2.2.2.2.2.2.2.2.1 bt287.2.2.2.2.2.2.2.2.2.2 bt328.1 bt328.2.1 bt328.2.2.1 bt328.2.2.2.1 bt328.2.2.2.2.1 bt328.2.2.2.2.2.1 bt328.2.2.2.2.2.2.1 bt328.2.2.2.2.2.2.2.1 bt328.2.2.2.2.2.2.2.2.1 bt328.2.2.2.2.2.2.2.2.2.1 bt328.2.2.2.2.2.2.2.2.2.2).bind fun t347 => (if t347 = true then ((laws_toAcct.f k a1_0 a1_1 a1_2 a1_3 a1_4 l1_5 a1_6 a1_7 l1_8 l1_9 l1_10).bind fun bt348 => ((laws_eqAcct.f k bt307.1 bt307.2.1 bt307.2.2.1 bt307.2.2.2.1 bt307.2.2.2.2.1 bt307.2.2.2.2.2.1 bt307.2.2.2.2.2.2.1 bt307.2.2.2.2.2.2.2.1 bt307.2.2.2.2.2.2.2.2.1 bt307.2.2.2.2.2.2.2.2.2.1 bt307.2.2.2.2.2.2.2.2.2.2 bt348.1 bt348.2.1 bt348.2.2.1 bt348.2.2.2.1 bt348.2.2.2.2.1 bt348.2.2.2.2.2.1 bt348.2.2.2.2.2.2.1 bt348.2.2.2.2.2.2.2.1 bt348.2.2.2.2.2.2.2.2.1 bt348.2.2.2.2.2.2.2.2.2.1 bt348.2.2.2.2.2.2.2.2.2.2).bind fun t367 => (if t367 = true then (some true) else (some false)))) else (some false))))))))))))))) = some true := h
  clear h
  replace H := Option.bind_eq_some_iff.mp H
  obtain ⟨t246, A30, H⟩ := H
  replace H : (if t246 < 0 then (some true) else ((laws_szAcct.f k a1_0 a1_1 a1_2 a1_3 a1_4 l1_5 a1_6 a1_7 l1_8 l1_9 l1_10 t246).bind fun t247 => (if t247 < 0 then (some true) else ((laws_toAcct.f k a0_0 a0_1 a0_2 a0_3 a0_4 l0_5 a0_6 a0_7 l0_8 l0_9 l0_10).bind fun bt248 => ((laws_toAcct.f k a1_0 a1_1 a1_2 a1_3 a1_4 l1_5 a1_6 a1_7 l1_8 l1_9 l1_10).bind fun bt267 => ((spec_AcctSame.f k bt248.1 bt248.2.1 bt248.2.2.1 bt248.2.2.2.1 bt248.2.2.2.2.1 bt248.2.2.2.2.2.1 bt248.2.2.2.2.2.2.1 bt248.2.2.2.2.2.2.2.1 bt248.2.2.2.2.2.2.2.2.1 bt248.2.2.2.2.2.2.2.2.2.1 bt248.2.2.2.2.2.2.2.2.2.2 bt267.1 bt267.2.1 bt267.2.2.1 bt267.2.2.2.1 bt267.2.2.2.2.1 bt267.2.2.2.2.2.1 bt267.2.2.2.2.2.2.1 bt267.2.2.2.2.2.2.2.1 bt267.2.2.2.2.2.2.2.2.1 bt267.2.2.2.2.2.2.2.2.2.1 bt267.2.2.2.2.2.2.2.2.2.2).bind fun t286 => ((laws_toAcct.f k a0_0 a0_1 a0_2 a0_3 a0_4 l0_5 a0_6 a0_7 l0_8 l0_9 l0_10).bind fun bt287 => ((laws_toAcct.f k a1_0 a1_1 a1_2 a1_3 a1_4 l1_5 a1_6 a1_7 l1_8 l1_9 l1_10).bind fun bt307 => ((impl_AcctSame.f k bt287.1 bt287.2.1 bt287.2.2.1 bt287.2.2.2.1 bt287.2.2.2.2.1 bt287.2.2.2.2.2.1 bt287.2.2.2.2.2.2.1 bt287.2.2.2.2.2.2.2.1 bt287.2.2.2.2.2.2.2.2.1 bt287.2.2.2.2.2.2.2.2.2.1 bt287.2.2.2.2.2.2.2.2.2.2 bt307.1 bt307.2.1 bt307.2.2.1 bt307.2.2.2.1 bt307.2.2.2.2.1 bt307.2.2.2.2.2.1 bt307.2.2.2.2.2.2.1 bt307.2.2.2.2.2.2.2.1 bt307.2.2.2.2.2.2.2.2.1 bt307.2.2.2.2.2.2.2.2.2.1 bt307.2.2.2.2.2.2.2.2.2.2).bind fun t327 => (if (t327 != t286) = true then (some false) else ((laws_toAcct.f k a0_0 a0_1 a0_2 a0_3 a0_4 l0_5 a0_6 a0_7 l0_8 l0_9 l0_10).bind fun bt328 => ((laws_eqAcct.f k bt287.1 bt287.2.1 bt287.2.2.1 bt287.2.2.2.1 bt287.2.2.2.2.1 bt287.2.2.2.2.2.1 bt287.2.2.2.2.2.2.1 bt287.2.2.2.2.2.2.2.1 bt287.2.2.2.2.2.2.2.2.1 bt287.2.2.2.2.2.2.2.2.2.1 bt287.2.2.2.2.2.2.2.2.2.2 bt328.1 bt328.2.1 bt328.2.2.1 bt328.2.2.2.1 bt328.2.2.2.2.1 bt328.2.2.2.2.2.1 bt328.2.2.2.2.2.2.1 bt328.2.2.2.2.2.2.2.1 bt328.2.2.2.2.2.2.2.2.1 bt328.2.2.2.2.2.2.2.2.2.1 bt328.2.2.2.2.2.2.2.2.2.2).bind fun t347 => (if t347 = true then ((laws_toAcct.f k a1_0 a1_1 a1_2 a1_3 a1_4 l1_5 a1_6 a1_7 l1_8 l1_9 l1_10).bind fun bt348 => ((laws_eqAcct.f k bt307.1 bt307.2.1 bt307.2.2.1 bt307.2.2.2.1 bt307.2.2.2.2.1 bt307.2.2.2.2.2.1 bt307.2.2.2.2.2.2.1 bt307.2.2.2.2.2.2.2.1 bt307.2.2.2.2.2.2.2.2.1 bt307.2.2.2.2.2.2.2.2.2.1 bt307.2.2.2.2.2.2.2.2.2.2 bt348.1 bt348.2.1 bt348.2.2.1 bt348.2.2.2.1 bt348.2.2.2.2.1 bt348.2.2.2.2.2.1 bt348.2.2.2.2.2.2.1 bt348.2.2.2.2.2.2.2.1 bt348.2.2.2.2.2.2.2.2.1 bt348.2.2.2.2.2.2.2.2.2.1 bt348.2.2.2.2.2.2.2.2.2.2).bind fun t367 => (if t367 = true then (some true) else (some false)))) else (some false)))))))))))))) = some true := H
  have A3 := Aside0.mk A30
  clear A30
  by_cases c4 : t246 < 0
  · rw [if_pos c4] at H
    have c4b0 : decide (t246 < 0) = true := decide_eq_true c4
    clear c4
    clear H
    go_enter Try.func8, Try.ntmps8
    go_wp2_with (first | ((with_reducible refine gate_dst (N := 2) rfl ?_); refine box_event ?hg (N := 2) ?hd (cs := #[.string a0_0, .int .i64 a0_1, .int .i64 a0_2, .int .i64 a0_3, .int .i64 a0_4, .slice A0_5 l0_5.length c0_5, .int .i64 a0_6, .int .i64 a0_7, .slice A0_8 l0_8.length c0_8, .slice A0_9 l0_9.length c0_9, .slice A0_10 l0_10.length c0_10]) (t := 80) ?hr ?_; (case hd => rfl); (case hg => rfl); (case hr => first | (go_simp; done) | (go_simp; rfl)); intro gb244 hg w5 hbox hb; have n0_ := Aside0.mk (below_step bl_ hb); have n1_ := Aside0.mk (hbox); have n2_ := Aside0.mk ((by rw [hg]; exact (below_size bl_) : w.heap.size ≤ gb244)); have n3_ := Aside0.mk ((by rw [hg]; exact (below_size bl_) : w.heap.size ≤ gb244)); clear HB; have HB := n0_; have BK244 := n1_; have GW244 := n2_; have GE244 := n3_; clear n0_ n1_ n2_ n3_; clear hb hbox hg) | ((with_reducible refine gate_dst (N := 3) rfl ?_); refine box_event ?hg (N := 3) ?hd (cs := #[.string a1_0, .int .i64 a1_1, .int .i64 a1_2, .int .i64 a1_3, .int .i64 a1_4, .slice A1_5 l1_5.length c1_5, .int .i64 a1_6, .int .i64 a1_7, .slice A1_8 l1_8.length c1_8, .slice A1_9 l1_9.length c1_9, .slice A1_10 l1_10.length c1_10]) (t := 80) ?hr ?_; (case hd => rfl); (case hg => rfl); (case hr => first | (go_simp; done) | (go_simp; rfl)); intro gb245 hg w6 hbox hb; have n0_ := Aside0.mk (blk_below (bk_ BK244) hb); have n1_ := Aside0.mk (below_step bl_ hb); have n2_ := Aside0.mk (hbox); have n3_ := Aside0.mk ((by rw [hg]; exact (below_size bl_) : w.heap.size ≤ gb245)); have n4_ := Aside0.mk ((by rw [hg]; exact (below_size bl_) : w.heap.size ≤ gb245)); have n5_ := Aside0.mk ((by rw [hg]; exact Nat.ne_of_lt (blk_lt (bk_ BK244)) : gb244 ≠ gb245)); have n6_ := Aside0.mk ((by rw [hg]; exact Nat.ne_of_gt (blk_lt (bk_ BK244)) : gb245 ≠ gb244)); clear BK244; clear HB; have BK244 := n0_; have HB := n1_; have BK245 := n2_; have GW245 := n3_; have GE245 := n4_; have NB244_245 := n5_; have NB245_244 := n6_; clear n0_ n1_ n2_ n3_ n4_ n5_ n6_; clear hb hbox hg; have hnb7 := NB244_245.out; have hnc7 := NB245_244.out; have hcz8_0 := cz_ BK244 0 (.string a0_0); have hcz8_1 := cz_ BK244 1 (.int .i64 a0_1); have hcz8_2 := cz_ BK244 2 (.int .i64 a0_2); have hcz8_3 := cz_ BK244 3 (.int .i64 a0_3); have hcz8_4 := cz_ BK244 4 (.int .i64 a0_4); have hcz8_5 := cz_ BK244 5 (.slice A0_5 l0_5.length c0_5); have hcz8_6 := cz_ BK244 6 (.int .i64 a0_6); have hcz8_7 := cz_ BK244 7 (.int .i64 a0_7); have hcz8_8 := cz_ BK244 8 (.slice A0_8 l0_8.length c0_8); have hcz8_9 := cz_ BK244 9 (.slice A0_9 l0_9.length c0_9); have hcz8_10 := cz_ BK244 10 (.slice A0_10 l0_10.length c0_10); have hfz8_0 := fz_ BK244 0; have hfz8_1 := fz_ BK244 1; have hfz8_2 := fz_ BK244 2; have hfz8_3 := fz_ BK244 3; have hfz8_4 := fz_ BK244 4; have hfz8_5 := fz_ BK244 5; have hfz8_6 := fz_ BK244 6; have hfz8_7 := fz_ BK244 7; have hfz8_8 := fz_ BK244 8; have hfz8_9 := fz_ BK244 9; have hfz8_10 := fz_ BK244 10) | ((with_reducible refine gate_callee (f := 49) rfl ?_); refine goesL_ (some 12) rfl rfl Try.func49 (by kernel_rfl) rfl #[.agg #[.string a0_0, .int .i64 a0_1, .int .i64 a0_2, .int .i64 a0_3, .int .i64 a0_4, .slice A0_5 l0_5.length c0_5, .int .i64 a0_6, .int .i64 a0_7, .slice A0_8 l0_8.length c0_8, .slice A0_9 l0_9.length c0_9, .slice A0_10 l0_10.length c0_10], .int .i64 1048576] rfl gl_ ?_; (with_reducible refine (laws_szAcct.calls k a0_0 a0_1 a0_2 a0_3 a0_4 _ _ l0_5 a0_6 a0_7 _ _ l0_8 _ _ l0_9 _ _ l0_10 1048576 t246 _ ?side1 ?side2 ?side3 ?side4 ?side5 ?side6 ?side7 ?side8 A3.out).mono ?_); (case side1 => exact ca_ (Kd.C_below HR0_5.out HB.out)); (case side2 => exact HC0_5.out); (case side3 => exact ca_ (Kd.C_below HR0_8.out HB.out)); (case side4 => exact HC0_8.out); (case side5 => exact ca_ (Kd.C_below HR0_9.out HB.out)); (case side6 => exact HC0_9.out); (case side7 => exact ca_ (Kd.C_below HR0_10.out HB.out)); (case side8 => exact HC0_10.out); rintro e w9 ⟨rfl, hb⟩; refine ⟨_, rfl, ?_⟩; have n0_ := Aside0.mk (blk_below (bk_ BK244) hb); have n1_ := Aside0.mk (blk_below (bk_ BK245) hb); have n2_ := Aside0.mk (below_step bl_ hb); clear BK244; clear BK245; clear HB; have BK244 := n0_; have BK245 := n1_; have HB := n2_; clear n0_ n1_ n2_; (try clear hb); (try clear hb2); (try clear hk); (try clear hi)))
    go_ret
    exact ⟨by first | rfl | (simp [errW_none, errW_some] <;> rfl) | (simp [*, errW_none, errW_some] <;> rfl), bl_⟩
  · rw [if_neg c4] at H
    have c4b0 : decide (t246 < 0) = false := decide_eq_false c4
    clear c4
    replace H := Option.bind_eq_some_iff.mp H
    obtain ⟨t247, A100, H⟩ := H
    replace H : (if t247 < 0 then (some true) else ((laws_toAcct.f k a0_0 a0_1 a0_2 a0_3 a0_4 l0_5 a0_6 a0_7 l0_8 l0_9 l0_10).bind fun bt248 => ((laws_toAcct.f k a1_0 a1_1 a1_2 a1_3 a1_4 l1_5 a1_6 a1_7 l1_8 l1_9 l1_10).bind fun bt267 => ((spec_AcctSame.f k bt248.1 bt248.2.1 bt248.2.2.1 bt248.2.2.2.1 bt248.2.2.2.2.1 bt248.2.2.2.2.2.1 bt248.2.2.2.2.2.2.1 bt248.2.2.2.2.2.2.2.1 bt248.2.2.2.2.2.2.2.2.1 bt248.2.2.2.2.2.2.2.2.2.1 bt248.2.2.2.2.2.2.2.2.2.2 bt267.1 bt267.2.1 bt267.2.2.1 bt267.2.2.2.1 bt267.2.2.2.2.1 bt267.2.2.2.2.2.1 bt267.2.2.2.2.2.2.1 bt267.2.2.2.2.2.2.2.1 bt267.2.2.2.2.2.2.2.2.1 bt267.2.2.2.2.2.2.2.2.2.1 bt267.2.2.2.2.2.2.2.2.2.2).bind fun t286 => ((laws_toAcct.f k a0_0 a0_1 a0_2 a0_3 a0_4 l0_5 a0_6 a0_7 l0_8 l0_9 l0_10).bind fun bt287 => ((laws_toAcct.f k a1_0 a1_1 a1_2 a1_3 a1_4 l1_5 a1_6 a1_7 l1_8 l1_9 l1_10).bind fun bt307 => ((impl_AcctSame.f k bt287.1 bt287.2.1 bt287.2.2.1 bt287.2.2.2.1 bt287.2.2.2.2.1 bt287.2.2.2.2.2.1 bt287.2.2.2.2.2.2.1 bt287.2.2.2.2.2.2.2.1 bt287.2.2.2.2.2.2.2.2.1 bt287.2.2.2.2.2.2.2.2.2.1 bt287.2.2.2.2.2.2.2.2.2.2 bt307.1 bt307.2.1 bt307.2.2.1 bt307.2.2.2.1 bt307.2.2.2.2.1 bt307.2.2.2.2.2.1 bt307.2.2.2.2.2.2.1 bt307.2.2.2.2.2.2.2.1 bt307.2.2.2.2.2.2.2.2.1 bt307.2.2.2.2.2.2.2.2.2.1 bt307.2.2.2.2.2.2.2.2.2.2).bind fun t327 => (if (t327 != t286) = true then (some false) else ((laws_toAcct.f k a0_0 a0_1 a0_2 a0_3 a0_4 l0_5 a0_6 a0_7 l0_8 l0_9 l0_10).bind fun bt328 => ((laws_eqAcct.f k bt287.1 bt287.2.1 bt287.2.2.1 bt287.2.2.2.1 bt287.2.2.2.2.1 bt287.2.2.2.2.2.1 bt287.2.2.2.2.2.2.1 bt287.2.2.2.2.2.2.2.1 bt287.2.2.2.2.2.2.2.2.1 bt287.2.2.2.2.2.2.2.2.2.1 bt287.2.2.2.2.2.2.2.2.2.2 bt328.1 bt328.2.1 bt328.2.2.1 bt328.2.2.2.1 bt328.2.2.2.2.1 bt328.2.2.2.2.2.1 bt328.2.2.2.2.2.2.1 bt328.2.2.2.2.2.2.2.1 bt328.2.2.2.2.2.2.2.2.1 bt328.2.2.2.2.2.2.2.2.2.1 bt328.2.2.2.2.2.2.2.2.2.2).bind fun t347 => (if t347 = true then ((laws_toAcct.f k a1_0 a1_1 a1_2 a1_3 a1_4 l1_5 a1_6 a1_7 l1_8 l1_9 l1_10).bind fun bt348 => ((laws_eqAcct.f k bt307.1 bt307.2.1 bt307.2.2.1 bt307.2.2.2.1 bt307.2.2.2.2.1 bt307.2.2.2.2.2.1 bt307.2.2.2.2.2.2.1 bt307.2.2.2.2.2.2.2.1 bt307.2.2.2.2.2.2.2.2.1 bt307.2.2.2.2.2.2.2.2.2.1 bt307.2.2.2.2.2.2.2.2.2.2 bt348.1 bt348.2.1 bt348.2.2.1 bt348.2.2.2.1 bt348.2.2.2.2.1 bt348.2.2.2.2.2.1 bt348.2.2.2.2.2.2.1 bt348.2.2.2.2.2.2.2.1 bt348.2.2.2.2.2.2.2.2.1 bt348.2.2.2.2.2.2.2.2.2.1 bt348.2.2.2.2.2.2.2.2.2.2).bind fun t367 => (if t367 = true then (some true) else (some false)))) else (some false)))))))))))) = some true := H
    have A10 := Aside0.mk A100
    clear A100
    by_cases c11 : t247 < 0
    · rw [if_pos c11] at H
      have c11b0 : decide (t247 < 0) = true := decide_eq_true c11
      clear c11
      clear H
      go_enter Try.func8, Try.ntmps8
      go_wp2_with (first | ((with_reducible refine gate_dst (N := 2) rfl ?_); refine box_event ?hg (N := 2) ?hd (cs := #[.string a0_0, .int .i64 a0_1, .int .i64 a0_2, .int .i64 a0_3, .int .i64 a0_4, .slice A0_5 l0_5.length c0_5, .int .i64 a0_6, .int .i64 a0_7, .slice A0_8 l0_8.length c0_8, .slice A0_9 l0_9.length c0_9, .slice A0_10 l0_10.length c0_10]) (t := 80) ?hr ?_; (case hd => rfl); (case hg => rfl); (case hr => first | (go_simp; done) | (go_simp; rfl)); intro gb244 hg w12 hbox hb; have n0_ := Aside0.mk (below_step bl_ hb); have n1_ := Aside0.mk (hbox); have n2_ := Aside0.mk ((by rw [hg]; exact (below_size bl_) : w.heap.size ≤ gb244)); have n3_ := Aside0.mk ((by rw [hg]; exact (below_size bl_) : w.heap.size ≤ gb244)); clear HB; have HB := n0_; have BK244 := n1_; have GW244 := n2_; have GE244 := n3_; clear n0_ n1_ n2_ n3_; clear hb hbox hg) | ((with_reducible refine gate_dst (N := 3) rfl ?_); refine box_event ?hg (N := 3) ?hd (cs := #[.string a1_0, .int .i64 a1_1, .int .i64 a1_2, .int .i64 a1_3, .int .i64 a1_4, .slice A1_5 l1_5.length c1_5, .int .i64 a1_6, .int .i64 a1_7, .slice A1_8 l1_8.length c1_8, .slice A1_9 l1_9.length c1_9, .slice A1_10 l1_10.length c1_10]) (t := 80) ?hr ?_; (case hd => rfl); (case hg => rfl); (case hr => first | (go_simp; done) | (go_simp; rfl)); intro gb245 hg w13 hbox hb; have n0_ := Aside0.mk (blk_below (bk_ BK244) hb); have n1_ := Aside0.mk (below_step bl_ hb); have n2_ := Aside0.mk (hbox); have n3_ := Aside0.mk ((by rw [hg]; exact (below_size bl_) : w.heap.size ≤ gb245)); have n4_ := Aside0.mk ((by rw [hg]; exact (below_size bl_) : w.heap.size ≤ gb245)); have n5_ := Aside0.mk ((by rw [hg]; exact Nat.ne_of_lt (blk_lt (bk_ BK244)) : gb244 ≠ gb245)); have n6_ := Aside0.mk ((by rw [hg]; exact Nat.ne_of_gt (blk_lt (bk_ BK244)) : gb245 ≠ gb244)); clear BK244; clear HB; have BK244 := n0_; have HB := n1_; have BK245 := n2_; have GW245 := n3_; have GE245 := n4_; have NB244_245 := n5_; have NB245_244 := n6_; clear n0_ n1_ n2_ n3_ n4_ n5_ n6_; clear hb hbox hg; have hnb14 := NB244_245.out; have hnc14 := NB245_244.out; have hcz15_0 := cz_ BK244 0 (.string a0_0); have hcz15_1 := cz_ BK244 1 (.int .i64 a0_1); have hcz15_2 := cz_ BK244 2 (.int .i64 a0_2); have hcz15_3 := cz_ BK244 3 (.int .i64 a0_3); have hcz15_4 := cz_ BK244 4 (.int .i64 a0_4); have hcz15_5 := cz_ BK244 5 (.slice A0_5 l0_5.length c0_5); have hcz15_6 := cz_ BK244 6 (.int .i64 a0_6); have hcz15_7 := cz_ BK244 7 (.int .i64 a0_7); have hcz15_8 := cz_ BK244 8 (.slice A0_8 l0_8.length c0_8); have hcz15_9 := cz_ BK244 9 (.slice A0_9 l0_9.length c0_9); have hcz15_10 := cz_ BK244 10 (.slice A0_10 l0_10.length c0_10); have hfz15_0 := fz_ BK244 0; have hfz15_1 := fz_ BK244 1; have hfz15_2 := fz_ BK244 2; have hfz15_3 := fz_ BK244 3; have hfz15_4 := fz_ BK244 4; have hfz15_5 := fz_ BK244 5; have hfz15_6 := fz_ BK244 6; have hfz15_7 := fz_ BK244 7; have hfz15_8 := fz_ BK244 8; have hfz15_9 := fz_ BK244 9; have hfz15_10 := fz_ BK244 10) | ((with_reducible refine gate_callee (f := 49) rfl ?_); refine goesL_ (some 12) rfl rfl Try.func49 (by kernel_rfl) rfl #[.agg #[.string a0_0, .int .i64 a0_1, .int .i64 a0_2, .int .i64 a0_3, .int .i64 a0_4, .slice A0_5 l0_5.length c0_5, .int .i64 a0_6, .int .i64 a0_7, .slice A0_8 l0_8.length c0_8, .slice A0_9 l0_9.length c0_9, .slice A0_10 l0_10.length c0_10], .int .i64 1048576] rfl gl_ ?_; (with_reducible refine (laws_szAcct.calls k a0_0 a0_1 a0_2 a0_3 a0_4 _ _ l0_5 a0_6 a0_7 _ _ l0_8 _ _ l0_9 _ _ l0_10 1048576 t246 _ ?side1 ?side2 ?side3 ?side4 ?side5 ?side6 ?side7 ?side8 A3.out).mono ?_); (case side1 => exact ca_ (Kd.C_below HR0_5.out HB.out)); (case side2 => exact HC0_5.out); (case side3 => exact ca_ (Kd.C_below HR0_8.out HB.out)); (case side4 => exact HC0_8.out); (case side5 => exact ca_ (Kd.C_below HR0_9.out HB.out)); (case side6 => exact HC0_9.out); (case side7 => exact ca_ (Kd.C_below HR0_10.out HB.out)); (case side8 => exact HC0_10.out); rintro e w16 ⟨rfl, hb⟩; refine ⟨_, rfl, ?_⟩; have n0_ := Aside0.mk (blk_below (bk_ BK244) hb); have n1_ := Aside0.mk (blk_below (bk_ BK245) hb); have n2_ := Aside0.mk (below_step bl_ hb); clear BK244; clear BK245; clear HB; have BK244 := n0_; have BK245 := n1_; have HB := n2_; clear n0_ n1_ n2_; (try clear hb); (try clear hb2); (try clear hk); (try clear hi); have hcz17_0 := cz_ BK245 0 (.string a1_0); have hcz17_1 := cz_ BK245 1 (.int .i64 a1_1); have hcz17_2 := cz_ BK245 2 (.int .i64 a1_2); have hcz17_3 := cz_ BK245 3 (.int .i64 a1_3); have hcz17_4 := cz_ BK245 4 (.int .i64 a1_4); have hcz17_5 := cz_ BK245 5 (.slice A1_5 l1_5.length c1_5); have hcz17_6 := cz_ BK245 6 (.int .i64 a1_6); have hcz17_7 := cz_ BK245 7 (.int .i64 a1_7); have hcz17_8 := cz_ BK245 8 (.slice A1_8 l1_8.length c1_8); have hcz17_9 := cz_ BK245 9 (.slice A1_9 l1_9.length c1_9); have hcz17_10 := cz_ BK245 10 (.slice A1_10 l1_10.length c1_10); have hfz17_0 := fz_ BK245 0; have hfz17_1 := fz_ BK245 1; have hfz17_2 := fz_ BK245 2; have hfz17_3 := fz_ BK245 3; have hfz17_4 := fz_ BK245 4; have hfz17_5 := fz_ BK245 5; have hfz17_6 := fz_ BK245 6; have hfz17_7 := fz_ BK245 7; have hfz17_8 := fz_ BK245 8; have hfz17_9 := fz_ BK245 9; have hfz17_10 := fz_ BK245 10) | ((with_reducible refine gate_callee (f := 49) rfl ?_); refine goesL_ (some 17) rfl rfl Try.func49 (by kernel_rfl) rfl #[.agg #[.string a1_0, .int .i64 a1_1, .int .i64 a1_2, .int .i64 a1_3, .int .i64 a1_4, .slice A1_5 l1_5.length c1_5, .int .i64 a1_6, .int .i64 a1_7, .slice A1_8 l1_8.length c1_8, .slice A1_9 l1_9.length c1_9, .slice A1_10 l1_10.length c1_10], .int .i64 t246] rfl gl_ ?_; (with_reducible refine (laws_szAcct.calls k a1_0 a1_1 a1_2 a1_3 a1_4 _ _ l1_5 a1_6 a1_7 _ _ l1_8 _ _ l1_9 _ _ l1_10 t246 t247 _ ?side1 ?side2 ?side3 ?side4 ?side5 ?side6 ?side7 ?side8 A10.out).mono ?_); (case side1 => exact ca_ (Kd.C_below HR1_5.out HB.out)); (case side2 => exact HC1_5.out); (case side3 => exact ca_ (Kd.C_below HR1_8.out HB.out)); (case side4 => exact HC1_8.out); (case side5 => exact ca_ (Kd.C_below HR1_9.out HB.out)); (case side6 => exact HC1_9.out); (case side7 => exact ca_ (Kd.C_below HR1_10.out HB.out)); (case side8 => exact HC1_10.out); rintro e w18 ⟨rfl, hb⟩; refine ⟨_, rfl, ?_⟩; have n0_ := Aside0.mk (blk_below (bk_ BK244) hb); have n1_ := Aside0.mk (blk_below (bk_ BK245) hb); have n2_ := Aside0.mk (below_step bl_ hb); clear BK244; clear BK245; clear HB; have BK244 := n0_; have BK245 := n1_; have HB := n2_; clear n0_ n1_ n2_; (try clear hb); (try clear hb2); (try clear hk); (try clear hi)))
      go_ret
      exact ⟨by first | rfl | (simp [errW_none, errW_some] <;> rfl) | (simp [*, errW_none, errW_some] <;> rfl), bl_⟩
    · rw [if_neg c11] at H
      have c11b0 : decide (t247 < 0) = false := decide_eq_false c11
      clear c11
      replace H := Option.bind_eq_some_iff.mp H
      obtain ⟨⟨t248, t249, t250, t251, t252, t253, t256, t257, t258, t261, t264⟩, A190, H⟩ := H
      replace H : ((laws_toAcct.f k a1_0 a1_1 a1_2 a1_3 a1_4 l1_5 a1_6 a1_7 l1_8 l1_9 l1_10).bind fun bt267 => ((spec_AcctSame.f k t248 t249 t250 t251 t252 t253 t256 t257 t258 t261 t264 bt267.1 bt267.2.1 bt267.2.2.1 bt267.2.2.2.1 bt267.2.2.2.2.1 bt267.2.2.2.2.2.1 bt267.2.2.2.2.2.2.1 bt267.2.2.2.2.2.2.2.1 bt267.2.2.2.2.2.2.2.2.1 bt267.2.2.2.2.2.2.2.2.2.1 bt267.2.2.2.2.2.2.2.2.2.2).bind fun t286 => ((laws_toAcct.f k a0_0 a0_1 a0_2 a0_3 a0_4 l0_5 a0_6 a0_7 l0_8 l0_9 l0_10).bind fun bt287 => ((laws_toAcct.f k a1_0 a1_1 a1_2 a1_3 a1_4 l1_5 a1_6 a1_7 l1_8 l1_9 l1_10).bind fun bt307 => ((impl_AcctSame.f k bt287.1 bt287.2.1 bt287.2.2.1 bt287.2.2.2.1 bt287.2.2.2.2.1 bt287.2.2.2.2.2.1 bt287.2.2.2.2.2.2.1 bt287.2.2.2.2.2.2.2.1 bt287.2.2.2.2.2.2.2.2.1 bt287.2.2.2.2.2.2.2.2.2.1 bt287.2.2.2.2.2.2.2.2.2.2 bt307.1 bt307.2.1 bt307.2.2.1 bt307.2.2.2.1 bt307.2.2.2.2.1 bt307.2.2.2.2.2.1 bt307.2.2.2.2.2.2.1 bt307.2.2.2.2.2.2.2.1 bt307.2.2.2.2.2.2.2.2.1 bt307.2.2.2.2.2.2.2.2.2.1 bt307.2.2.2.2.2.2.2.2.2.2).bind fun t327 => (if (t327 != t286) = true then (some false) else ((laws_toAcct.f k a0_0 a0_1 a0_2 a0_3 a0_4 l0_5 a0_6 a0_7 l0_8 l0_9 l0_10).bind fun bt328 => ((laws_eqAcct.f k bt287.1 bt287.2.1 bt287.2.2.1 bt287.2.2.2.1 bt287.2.2.2.2.1 bt287.2.2.2.2.2.1 bt287.2.2.2.2.2.2.1 bt287.2.2.2.2.2.2.2.1 bt287.2.2.2.2.2.2.2.2.1 bt287.2.2.2.2.2.2.2.2.2.1 bt287.2.2.2.2.2.2.2.2.2.2 bt328.1 bt328.2.1 bt328.2.2.1 bt328.2.2.2.1 bt328.2.2.2.2.1 bt328.2.2.2.2.2.1 bt328.2.2.2.2.2.2.1 bt328.2.2.2.2.2.2.2.1 bt328.2.2.2.2.2.2.2.2.1 bt328.2.2.2.2.2.2.2.2.2.1 bt328.2.2.2.2.2.2.2.2.2.2).bind fun t347 => (if t347 = true then ((laws_toAcct.f k a1_0 a1_1 a1_2 a1_3 a1_4 l1_5 a1_6 a1_7 l1_8 l1_9 l1_10).bind fun bt348 => ((laws_eqAcct.f k bt307.1 bt307.2.1 bt307.2.2.1 bt307.2.2.2.1 bt307.2.2.2.2.1 bt307.2.2.2.2.2.1 bt307.2.2.2.2.2.2.1 bt307.2.2.2.2.2.2.2.1 bt307.2.2.2.2.2.2.2.2.1 bt307.2.2.2.2.2.2.2.2.2.1 bt307.2.2.2.2.2.2.2.2.2.2 bt348.1 bt348.2.1 bt348.2.2.1 bt348.2.2.2.1 bt348.2.2.2.2.1 bt348.2.2.2.2.2.1 bt348.2.2.2.2.2.2.1 bt348.2.2.2.2.2.2.2.1 bt348.2.2.2.2.2.2.2.2.1 bt348.2.2.2.2.2.2.2.2.2.1 bt348.2.2.2.2.2.2.2.2.2.2).bind fun t367 => (if t367 = true then (some true) else (some false)))) else (some false)))))))))) = some true := H
      have A19 := Aside0.mk A190
      clear A190
      replace H := Option.bind_eq_some_iff.mp H
      obtain ⟨⟨t267, t268, t269, t270, t271, t272, t275, t276, t277, t280, t283⟩, A200, H⟩ := H
      replace H : ((spec_AcctSame.f k t248 t249 t250 t251 t252 t253 t256 t257 t258 t261 t264 t267 t268 t269 t270 t271 t272 t275 t276 t277 t280 t283).bind fun t286 => ((laws_toAcct.f k a0_0 a0_1 a0_2 a0_3 a0_4 l0_5 a0_6 a0_7 l0_8 l0_9 l0_10).bind fun bt287 => ((laws_toAcct.f k a1_0 a1_1 a1_2 a1_3 a1_4 l1_5 a1_6 a1_7 l1_8 l1_9 l1_10).bind fun bt307 => ((impl_AcctSame.f k bt287.1 bt287.2.1 bt287.2.2.1 bt287.2.2.2.1 bt287.2.2.2.2.1 bt287.2.2.2.2.2.1 bt287.2.2.2.2.2.2.1 bt287.2.2.2.2.2.2.2.1 bt287.2.2.2.2.2.2.2.2.1 bt287.2.2.2.2.2.2.2.2.2.1 bt287.2.2.2.2.2.2.2.2.2.2 bt307.1 bt307.2.1 bt307.2.2.1 bt307.2.2.2.1 bt307.2.2.2.2.1 bt307.2.2.2.2.2.1 bt307.2.2.2.2.2.2.1 bt307.2.2.2.2.2.2.2.1 bt307.2.2.2.2.2.2.2.2.1 bt307.2.2.2.2.2.2.2.2.2.1 bt307.2.2.2.2.2.2.2.2.2.2).bind fun t327 => (if (t327 != t286) = true then (some false) else ((laws_toAcct.f k a0_0 a0_1 a0_2 a0_3 a0_4 l0_5 a0_6 a0_7 l0_8 l0_9 l0_10).bind fun bt328 => ((laws_eqAcct.f k bt287.1 bt287.2.1 bt287.2.2.1 bt287.2.2.2.1 bt287.2.2.2.2.1 bt287.2.2.2.2.2.1 bt287.2.2.2.2.2.2.1 bt287.2.2.2.2.2.2.2.1 bt287.2.2.2.2.2.2.2.2.1 bt287.2.2.2.2.2.2.2.2.2.1 bt287.2.2.2.2.2.2.2.2.2.2 bt328.1 bt328.2.1 bt328.2.2.1 bt328.2.2.2.1 bt328.2.2.2.2.1 bt328.2.2.2.2.2.1 bt328.2.2.2.2.2.2.1 bt328.2.2.2.2.2.2.2.1 bt328.2.2.2.2.2.2.2.2.1 bt328.2.2.2.2.2.2.2.2.2.1 bt328.2.2.2.2.2.2.2.2.2.2).bind fun t347 => (if t347 = true then ((laws_toAcct.f k a1_0 a1_1 a1_2 a1_3 a1_4 l1_5 a1_6 a1_7 l1_8 l1_9 l1_10).bind fun bt348 => ((laws_eqAcct.f k bt307.1 bt307.2.1 bt307.2.2.1 bt307.2.2.2.1 bt307.2.2.2.2.1 bt307.2.2.2.2.2.1 bt307.2.2.2.2.2.2.1 bt307.2.2.2.2.2.2.2.1 bt307.2.2.2.2.2.2.2.2.1 bt307.2.2.2.2.2.2.2.2.2.1 bt307.2.2.2.2.2.2.2.2.2.2 bt348.1 bt348.2.1 bt348.2.2.1 bt348.2.2.2.1 bt348.2.2.2.2.1 bt348.2.2.2.2.2.1 bt348.2.2.2.2.2.2.1 bt348.2.2.2.2.2.2.2.1 bt348.2.2.2.2.2.2.2.2.1 bt348.2.2.2.2.2.2.2.2.2.1 bt348.2.2.2.2.2.2.2.2.2.2).bind fun t367 => (if t367 = true then (some true) else (some false)))) else (some false))))))))) = some true := H
      have A20 := Aside0.mk A200
      clear A200
      replace H := Option.bind_eq_some_iff.mp H
      obtain ⟨t286, A210, H⟩ := H
      replace H : ((laws_toAcct.f k a0_0 a0_1 a0_2 a0_3 a0_4 l0_5 a0_6 a0_7 l0_8 l0_9 l0_10).bind fun bt287 => ((laws_toAcct.f k a1_0 a1_1 a1_2 a1_3 a1_4 l1_5 a1_6 a1_7 l1_8 l1_9 l1_10).bind fun bt307 => ((impl_AcctSame.f k bt287.1 bt287.2.1 bt287.2.2.1 bt287.2.2.2.1 bt287.2.2.2.2.1 bt287.2.2.2.2.2.1 bt287.2.2.2.2.2.2.1 bt287.2.2.2.2.2.2.2.1 bt287.2.2.2.2.2.2.2.2.1 bt287.2.2.2.2.2.2.2.2.2.1 bt287.2.2.2.2.2.2.2.2.2.2 bt307.1 bt307.2.1 bt307.2.2.1 bt307.2.2.2.1 bt307.2.2.2.2.1 bt307.2.2.2.2.2.1 bt307.2.2.2.2.2.2.1 bt307.2.2.2.2.2.2.2.1 bt307.2.2.2.2.2.2.2.2.1 bt307.2.2.2.2.2.2.2.2.2.1 bt307.2.2.2.2.2.2.2.2.2.2).bind fun t327 => (if (t327 != t286) = true then (some false) else ((laws_toAcct.f k a0_0 a0_1 a0_2 a0_3 a0_4 l0_5 a0_6 a0_7 l0_8 l0_9 l0_10).bind fun bt328 => ((laws_eqAcct.f k bt287.1 bt287.2.1 bt287.2.2.1 bt287.2.2.2.1 bt287.2.2.2.2.1 bt287.2.2.2.2.2.1 bt287.2.2.2.2.2.2.1 bt287.2.2.2.2.2.2.2.1 bt287.2.2.2.2.2.2.2.2.1 bt287.2.2.2.2.2.2.2.2.2.1 bt287.2.2.2.2.2.2.2.2.2.2 bt328.1 bt328.2.1 bt328.2.2.1 bt328.2.2.2.1 bt328.2.2.2.2.1 bt328.2.2.2.2.2.1 bt328.2.2.2.2.2.2.1 bt328.2.2.2.2.2.2.2.1 bt328.2.2.2.2.2.2.2.2.1 bt328.2.2.2.2.2.2.2.2.2.1 bt328.2.2.2.2.2.2.2.2.2.2).bind fun t347 => (if t347 = true then ((laws_toAcct.f k a1_0 a1_1 a1_2 a1_3 a1_4 l1_5 a1_6 a1_7 l1_8 l1_9 l1_10).bind fun bt348 => ((laws_eqAcct.f k bt307.1 bt307.2.1 bt307.2.2.1 bt307.2.2.2.1 bt307.2.2.2.2.1 bt307.2.2.2.2.2.1 bt307.2.2.2.2.2.2.1 bt307.2.2.2.2.2.2.2.1 bt307.2.2.2.2.2.2.2.2.1 bt307.2.2.2.2.2.2.2.2.2.1 bt307.2.2.2.2.2.2.2.2.2.2 bt348.1 bt348.2.1 bt348.2.2.1 bt348.2.2.2.1 bt348.2.2.2.2.1 bt348.2.2.2.2.2.1 bt348.2.2.2.2.2.2.1 bt348.2.2.2.2.2.2.2.1 bt348.2.2.2.2.2.2.2.2.1 bt348.2.2.2.2.2.2.2.2.2.1 bt348.2.2.2.2.2.2.2.2.2.2).bind fun t367 => (if t367 = true then (some true) else (some false)))) else (some false)))))))) = some true := H
      have A21 := Aside0.mk A210
      clear A210
      replace H := Option.bind_eq_some_iff.mp H
      obtain ⟨⟨t287, t288, t289, t290, t291, t292, t295, t296, t297, t300, t303⟩, A220, H⟩ := H
      replace H : ((laws_toAcct.f k a1_0 a1_1 a1_2 a1_3 a1_4 l1_5 a1_6 a1_7 l1_8 l1_9 l1_10).bind fun bt307 => ((impl_AcctSame.f k t287 t288 t289 t290 t291 t292 t295 t296 t297 t300 t303 bt307.1 bt307.2.1 bt307.2.2.1 bt307.2.2.2.1 bt307.2.2.2.2.1 bt307.2.2.2.2.2.1 bt307.2.2.2.2.2.2.1 bt307.2.2.2.2.2.2.2.1 bt307.2.2.2.2.2.2.2.2.1 bt307.2.2.2.2.2.2.2.2.2.1 bt307.2.2.2.2.2.2.2.2.2.2).bind fun t327 => (if (t327 != t286) = true then (some false) else ((laws_toAcct.f k a0_0 a0_1 a0_2 a0_3 a0_4 l0_5 a0_6 a0_7 l0_8 l0_9 l0_10).bind fun bt328 => ((laws_eqAcct.f k t287 t288 t289 t290 t291 t292 t295 t296 t297 t300 t303 bt328.1 bt328.2.1 bt328.2.2.1 bt328.2.2.2.1 bt328.2.2.2.2.1 bt328.2.2.2.2.2.1 bt328.2.2.2.2.2.2.1 bt328.2.2.2.2.2.2.2.1 bt328.2.2.2.2.2.2.2.2.1 bt328.2.2.2.2.2.2.2.2.2.1 bt328.2.2.2.2.2.2.2.2.2.2).bind fun t347 => (if t347 = true then ((laws_toAcct.f k a1_0 a1_1 a1_2 a1_3 a1_4 l1_5 a1_6 a1_7 l1_8 l1_9 l1_10).bind fun bt348 => ((laws_eqAcct.f k bt307.1 bt307.2.1 bt307.2.2.1 bt307.2.2.2.1 bt307.2.2.2.2.1 bt307.2.2.2.2.2.1 bt307.2.2.2.2.2.2.1 bt307.2.2.2.2.2.2.2.1 bt307.2.2.2.2.2.2.2.2.1 bt307.2.2.2.2.2.2.2.2.2.1 bt307.2.2.2.2.2.2.2.2.2.2 bt348.1 bt348.2.1 bt348.2.2.1 bt348.2.2.2.1 bt348.2.2.2.2.1 bt348.2.2.2.2.2.1 bt348.2.2.2.2.2.2.1 bt348.2.2.2.2.2.2.2.1 bt348.2.2.2.2.2.2.2.2.1 bt348.2.2.2.2.2.2.2.2.2.1 bt348.2.2.2.2.2.2.2.2.2.2).bind fun t367 => (if t367 = true then (some true) else (some false)))) else (some false))))))) = some true := H
      have A22 := Aside0.mk A220
      clear A220
      replace H := Option.bind_eq_some_iff.mp H
      obtain ⟨⟨t307, t308, t309, t310, t311, t312, t315, t316, t317, t320, t323⟩, A230, H⟩ := H
      replace H : ((impl_AcctSame.f k t287 t288 t289 t290 t291 t292 t295 t296 t297 t300 t303 t307 t308 t309 t310 t311 t312 t315 t316 t317 t320 t323).bind fun t327 => (if (t327 != t286) = true then (some false) else ((laws_toAcct.f k a0_0 a0_1 a0_2 a0_3 a0_4 l0_5 a0_6 a0_7 l0_8 l0_9 l0_10).bind fun bt328 => ((laws_eqAcct.f k t287 t288 t289 t290 t291 t292 t295 t296 t297 t300 t303 bt328.1 bt328.2.1 bt328.2.2.1 bt328.2.2.2.1 bt328.2.2.2.2.1 bt328.2.2.2.2.2.1 bt328.2.2.2.2.2.2.1 bt328.2.2.2.2.2.2.2.1 bt328.2.2.2.2.2.2.2.2.1 bt328.2.2.2.2.2.2.2.2.2.1 bt328.2.2.2.2.2.2.2.2.2.2).bind fun t347 => (if t347 = true then ((laws_toAcct.f k a1_0 a1_1 a1_2 a1_3 a1_4 l1_5 a1_6 a1_7 l1_8 l1_9 l1_10).bind fun bt348 => ((laws_eqAcct.f k t307 t308 t309 t310 t311 t312 t315 t316 t317 t320 t323 bt348.1 bt348.2.1 bt348.2.2.1 bt348.2.2.2.1 bt348.2.2.2.2.1 bt348.2.2.2.2.2.1 bt348.2.2.2.2.2.2.1 bt348.2.2.2.2.2.2.2.1 bt348.2.2.2.2.2.2.2.2.1 bt348.2.2.2.2.2.2.2.2.2.1 bt348.2.2.2.2.2.2.2.2.2.2).bind fun t367 => (if t367 = true then (some true) else (some false)))) else (some false)))))) = some true := H
      have A23 := Aside0.mk A230
      clear A230
      replace H := Option.bind_eq_some_iff.mp H
      obtain ⟨t327, A240, H⟩ := H
      replace H : (if (t327 != t286) = true then (some false) else ((laws_toAcct.f k a0_0 a0_1 a0_2 a0_3 a0_4 l0_5 a0_6 a0_7 l0_8 l0_9 l0_10).bind fun bt328 => ((laws_eqAcct.f k t287 t288 t289 t290 t291 t292 t295 t296 t297 t300 t303 bt328.1 bt328.2.1 bt328.2.2.1 bt328.2.2.2.1 bt328.2.2.2.2.1 bt328.2.2.2.2.2.1 bt328.2.2.2.2.2.2.1 bt328.2.2.2.2.2.2.2.1 bt328.2.2.2.2.2.2.2.2.1 bt328.2.2.2.2.2.2.2.2.2.1 bt328.2.2.2.2.2.2.2.2.2.2).bind fun t347 => (if t347 = true then ((laws_toAcct.f k a1_0 a1_1 a1_2 a1_3 a1_4 l1_5 a1_6 a1_7 l1_8 l1_9 l1_10).bind fun bt348 => ((laws_eqAcct.f k t307 t308 t309 t310 t311 t312 t315 t316 t317 t320 t323 bt348.1 bt348.2.1 bt348.2.2.1 bt348.2.2.2.1 bt348.2.2.2.2.1 bt348.2.2.2.2.2.1 bt348.2.2.2.2.2.2.1 bt348.2.2.2.2.2.2.2.1 bt348.2.2.2.2.2.2.2.2.1 bt348.2.2.2.2.2.2.2.2.2.1 bt348.2.2.2.2.2.2.2.2.2.2).bind fun t367 => (if t367 = true then (some true) else (some false)))) else (some false))))) = some true := H
      have A24 := Aside0.mk A240
      clear A240
      by_cases c25 : (t327 != t286) = true
      · rw [if_pos c25] at H
        have c25b0 : (t327 != t286) = true := c25
        (try (have c25b1 : decide (t327 = t286) = false := by simpa using c25))
        (try (have c25b2 : (t327 == t286) = false := by simpa using c25))
        (try (have c25b3 : ¬ (t327 = t286) := by simpa using c25))
        clear c25
        exact absurd H (by simp)
      · rw [if_neg c25] at H
        have c25b0 : (t327 != t286) = false := by simpa using c25
        (try (have c25b1 : decide (t327 = t286) = true := by simpa using c25))
        (try (have c25b2 : (t327 == t286) = true := by simpa using c25))
        clear c25
        replace H := Option.bind_eq_some_iff.mp H
        obtain ⟨⟨t328, t329, t330, t331, t332, t333, t336, t337, t338, t341, t344⟩, A260, H⟩ := H
        replace H : ((laws_eqAcct.f k t287 t288 t289 t290 t291 t292 t295 t296 t297 t300 t303 t328 t329 t330 t331 t332 t333 t336 t337 t338 t341 t344).bind fun t347 => (if t347 = true then ((laws_toAcct.f k a1_0 a1_1 a1_2 a1_3 a1_4 l1_5 a1_6 a1_7 l1_8 l1_9 l1_10).bind fun bt348 => ((laws_eqAcct.f k t307 t308 t309 t310 t311 t312 t315 t316 t317 t320 t323 bt348.1 bt348.2.1 bt348.2.2.1 bt348.2.2.2.1 bt348.2.2.2.2.1 bt348.2.2.2.2.2.1 bt348.2.2.2.2.2.2.1 bt348.2.2.2.2.2.2.2.1 bt348.2.2.2.2.2.2.2.2.1 bt348.2.2.2.2.2.2.2.2.2.1 bt348.2.2.2.2.2.2.2.2.2.2).bind fun t367 => (if t367 = true then (some true) else (some false)))) else (some false))) = some true := H
        have A26 := Aside0.mk A260
        clear A260
        replace H := Option.bind_eq_some_iff.mp H
        obtain ⟨t347, A270, H⟩ := H
        replace H : (if t347 = true then ((laws_toAcct.f k a1_0 a1_1 a1_2 a1_3 a1_4 l1_5 a1_6 a1_7 l1_8 l1_9 l1_10).bind fun bt348 => ((laws_eqAcct.f k t307 t308 t309 t310 t311 t312 t315 t316 t317 t320 t323 bt348.1 bt348.2.1 bt348.2.2.1 bt348.2.2.2.1 bt348.2.2.2.2.1 bt348.2.2.2.2.2.1 bt348.2.2.2.2.2.2.1 bt348.2.2.2.2.2.2.2.1 bt348.2.2.2.2.2.2.2.2.1 bt348.2.2.2.2.2.2.2.2.2.1 bt348.2.2.2.2.2.2.2.2.2.2).bind fun t367 => (if t367 = true then (some true) else (some false)))) else (some false)) = some true := H
        have A27 := Aside0.mk A270
        clear A270
        by_cases c28 : t347 = true
        · subst c28
          have H1 : ((laws_toAcct.f k a1_0 a1_1 a1_2 a1_3 a1_4 l1_5 a1_6 a1_7 l1_8 l1_9 l1_10).bind fun bt348 => ((laws_eqAcct.f k t307 t308 t309 t310 t311 t312 t315 t316 t317 t320 t323 bt348.1 bt348.2.1 bt348.2.2.1 bt348.2.2.2.1 bt348.2.2.2.2.1 bt348.2.2.2.2.2.1 bt348.2.2.2.2.2.2.1 bt348.2.2.2.2.2.2.2.1 bt348.2.2.2.2.2.2.2.2.1 bt348.2.2.2.2.2.2.2.2.2.1 bt348.2.2.2.2.2.2.2.2.2.2).bind fun t367 => (if t367 = true then (some true) else (some false)))) = some true := by rw [if_pos rfl] at H; exact H
          clear H
          have H := H1
          clear H1
          replace H := Option.bind_eq_some_iff.mp H
          obtain ⟨⟨t348, t349, t350, t351, t352, t353, t356, t357, t358, t361, t364⟩, A290, H⟩ := H
          replace H : ((laws_eqAcct.f k t307 t308 t309 t310 t311 t312 t315 t316 t317 t320 t323 t348 t349 t350 t351 t352 t353 t356 t357 t358 t361 t364).bind fun t367 => (if t367 = true then (some true) else (some false))) = some true := H
          have A29 := Aside0.mk A290
          clear A290
          replace H := Option.bind_eq_some_iff.mp H
          obtain ⟨t367, A300, H⟩ := H
          replace H : (if t367 = true then (some true) else (some false)) = some true := H
          have A30 := Aside0.mk A300
          clear A300
          by_cases c31 : t367 = true
          · subst c31
            have H1 : (some true) = some true := rfl
            clear H
            have H := H1
            clear H1
            clear H
            go_enter Try.func8, Try.ntmps8
            try go_wp2_with (first | ((with_reducible refine gate_dst (N := 2) rfl ?_); refine box_event ?hg (N := 2) ?hd (cs := #[.string a0_0, .int .i64 a0_1, .int .i64 a0_2, .int .i64 a0_3, .int .i64 a0_4, .slice A0_5 l0_5.length c0_5, .int .i64 a0_6, .int .i64 a0_7, .slice A0_8 l0_8.length c0_8, .slice A0_9 l0_9.length c0_9, .slice A0_10 l0_10.length c0_10]) (t := 80) ?hr ?_; (case hd => rfl); (case hg => rfl); (case hr => first | (go_simp; done) | (go_simp; rfl)); intro gb244 hg w32 hbox hb; have n0_ := Aside0.mk (below_step bl_ hb); have n1_ := Aside0.mk (hbox); have n2_ := Aside0.mk ((by rw [hg]; exact (below_size bl_) : w.heap.size ≤ gb244)); have n3_ := Aside0.mk ((by rw [hg]; exact (below_size bl_) : w.heap.size ≤ gb244)); clear HB; have HB := n0_; have BK244 := n1_; have GW244 := n2_; have GE244 := n3_; clear n0_ n1_ n2_ n3_; clear hb hbox hg) | ((with_reducible refine gate_dst (N := 3) rfl ?_); refine box_event ?hg (N := 3) ?hd (cs := #[.string a1_0, .int .i64 a1_1, .int .i64 a1_2, .int .i64 a1_3, .int .i64 a1_4, .slice A1_5 l1_5.length c1_5, .int .i64 a1_6, .int .i64 a1_7, .slice A1_8 l1_8.length c1_8, .slice A1_9 l1_9.length c1_9, .slice A1_10 l1_10.length c1_10]) (t := 80) ?hr ?_; (case hd => rfl); (case hg => rfl); (case hr => first | (go_simp; done) | (go_simp; rfl)); intro gb245 hg w33 hbox hb; have n0_ := Aside0.mk (blk_below (bk_ BK244) hb); have n1_ := Aside0.mk (below_step bl_ hb); have n2_ := Aside0.mk (hbox); have n3_ := Aside0.mk ((by rw [hg]; exact (below_size bl_) : w.heap.size ≤ gb245)); have n4_ := Aside0.mk ((by rw [hg]; exact (below_size bl_) : w.heap.size ≤ gb245)); have n5_ := Aside0.mk ((by rw [hg]; exact Nat.ne_of_lt (blk_lt (bk_ BK244)) : gb244 ≠ gb245)); have n6_ := Aside0.mk ((by rw [hg]; exact Nat.ne_of_gt (blk_lt (bk_ BK244)) : gb245 ≠ gb244)); clear BK244; clear HB; have BK244 := n0_; have HB := n1_; have BK245 := n2_; have GW245 := n3_; have GE245 := n4_; have NB244_245 := n5_; have NB245_244 := n6_; clear n0_ n1_ n2_ n3_ n4_ n5_ n6_; clear hb hbox hg; have hnb34 := NB244_245.out; have hnc34 := NB245_244.out; have hcz35_0 := cz_ BK244 0 (.string a0_0); have hcz35_1 := cz_ BK244 1 (.int .i64 a0_1); have hcz35_2 := cz_ BK244 2 (.int .i64 a0_2); have hcz35_3 := cz_ BK244 3 (.int .i64 a0_3); have hcz35_4 := cz_ BK244 4 (.int .i64 a0_4); have hcz35_5 := cz_ BK244 5 (.slice A0_5 l0_5.length c0_5); have hcz35_6 := cz_ BK244 6 (.int .i64 a0_6); have hcz35_7 := cz_ BK244 7 (.int .i64 a0_7); have hcz35_8 := cz_ BK244 8 (.slice A0_8 l0_8.length c0_8); have hcz35_9 := cz_ BK244 9 (.slice A0_9 l0_9.length c0_9); have hcz35_10 := cz_ BK244 10 (.slice A0_10 l0_10.length c0_10); have hfz35_0 := fz_ BK244 0; have hfz35_1 := fz_ BK244 1; have hfz35_2 := fz_ BK244 2; have hfz35_3 := fz_ BK244 3; have hfz35_4 := fz_ BK244 4; have hfz35_5 := fz_ BK244 5; have hfz35_6 := fz_ BK244 6; have hfz35_7 := fz_ BK244 7; have hfz35_8 := fz_ BK244 8; have hfz35_9 := fz_ BK244 9; have hfz35_10 := fz_ BK244 10) | ((with_reducible refine gate_callee (f := 49) rfl ?_); refine goesL_ (some 12) rfl rfl Try.func49 (by kernel_rfl) rfl #[.agg #[.string a0_0, .int .i64 a0_1, .int .i64 a0_2, .int .i64 a0_3, .int .i64 a0_4, .slice A0_5 l0_5.length c0_5, .int .i64 a0_6, .int .i64 a0_7, .slice A0_8 l0_8.length c0_8, .slice A0_9 l0_9.length c0_9, .slice A0_10 l0_10.length c0_10], .int .i64 1048576] rfl gl_ ?_; (with_reducible refine (laws_szAcct.calls k a0_0 a0_1 a0_2 a0_3 a0_4 _ _ l0_5 a0_6 a0_7 _ _ l0_8 _ _ l0_9 _ _ l0_10 1048576 t246 _ ?side1 ?side2 ?side3 ?side4 ?side5 ?side6 ?side7 ?side8 A3.out).mono ?_); (case side1 => exact ca_ (Kd.C_below HR0_5.out HB.out)); (case side2 => exact HC0_5.out); (case side3 => exact ca_ (Kd.C_below HR0_8.out HB.out)); (case side4 => exact HC0_8.out); (case side5 => exact ca_ (Kd.C_below HR0_9.out HB.out)); (case side6 => exact HC0_9.out); (case side7 => exact ca_ (Kd.C_below HR0_10.out HB.out)); (case side8 => exact HC0_10.out); rintro e w36 ⟨rfl, hb⟩; refine ⟨_, rfl, ?_⟩; have n0_ := Aside0.mk (blk_below (bk_ BK244) hb); have n1_ := Aside0.mk (blk_below (bk_ BK245) hb); have n2_ := Aside0.mk (below_step bl_ hb); clear BK244; clear BK245; clear HB; have BK244 := n0_; have BK245 := n1_; have HB := n2_; clear n0_ n1_ n2_; (try clear hb); (try clear hb2); (try clear hk); (try clear hi); have hcz37_0 := cz_ BK245 0 (.string a1_0); have hcz37_1 := cz_ BK245 1 (.int .i64 a1_1); have hcz37_2 := cz_ BK245 2 (.int .i64 a1_2); have hcz37_3 := cz_ BK245 3 (.int .i64 a1_3); have hcz37_4 := cz_ BK245 4 (.int .i64 a1_4); have hcz37_5 := cz_ BK245 5 (.slice A1_5 l1_5.length c1_5); have hcz37_6 := cz_ BK245 6 (.int .i64 a1_6); have hcz37_7 := cz_ BK245 7 (.int .i64 a1_7); have hcz37_8 := cz_ BK245 8 (.slice A1_8 l1_8.length c1_8); have hcz37_9 := cz_ BK245 9 (.slice A1_9 l1_9.length c1_9); have hcz37_10 := cz_ BK245 10 (.slice A1_10 l1_10.length c1_10); have hfz37_0 := fz_ BK245 0; have hfz37_1 := fz_ BK245 1; have hfz37_2 := fz_ BK245 2; have hfz37_3 := fz_ BK245 3; have hfz37_4 := fz_ BK245 4; have hfz37_5 := fz_ BK245 5; have hfz37_6 := fz_ BK245 6; have hfz37_7 := fz_ BK245 7; have hfz37_8 := fz_ BK245 8; have hfz37_9 := fz_ BK245 9; have hfz37_10 := fz_ BK245 10) | ((with_reducible refine gate_callee (f := 49) rfl ?_); refine goesL_ (some 17) rfl rfl Try.func49 (by kernel_rfl) rfl #[.agg #[.string a1_0, .int .i64 a1_1, .int .i64 a1_2, .int .i64 a1_3, .int .i64 a1_4, .slice A1_5 l1_5.length c1_5, .int .i64 a1_6, .int .i64 a1_7, .slice A1_8 l1_8.length c1_8, .slice A1_9 l1_9.length c1_9, .slice A1_10 l1_10.length c1_10], .int .i64 t246] rfl gl_ ?_; (with_reducible refine (laws_szAcct.calls k a1_0 a1_1 a1_2 a1_3 a1_4 _ _ l1_5 a1_6 a1_7 _ _ l1_8 _ _ l1_9 _ _ l1_10 t246 t247 _ ?side1 ?side2 ?side3 ?side4 ?side5 ?side6 ?side7 ?side8 A10.out).mono ?_); (case side1 => exact ca_ (Kd.C_below HR1_5.out HB.out)); (case side2 => exact HC1_5.out); (case side3 => exact ca_ (Kd.C_below HR1_8.out HB.out)); (case side4 => exact HC1_8.out); (case side5 => exact ca_ (Kd.C_below HR1_9.out HB.out)); (case side6 => exact HC1_9.out); (case side7 => exact ca_ (Kd.C_below HR1_10.out HB.out)); (case side8 => exact HC1_10.out); rintro e w38 ⟨rfl, hb⟩; refine ⟨_, rfl, ?_⟩; have n0_ := Aside0.mk (blk_below (bk_ BK244) hb); have n1_ := Aside0.mk (blk_below (bk_ BK245) hb); have n2_ := Aside0.mk (below_step bl_ hb); clear BK244; clear BK245; clear HB; have BK244 := n0_; have BK245 := n1_; have HB := n2_; clear n0_ n1_ n2_; (try clear hb); (try clear hb2); (try clear hk); (try clear hi)))
            have n0_ := Aside0.mk (blk_drew BK244.out)
            have n1_ := Aside0.mk (blk_drew BK245.out)
            have n2_ := Aside0.mk (below_drew1 HB.out)
            clear BK244
            clear BK245
            clear HB
            have BK244 := n0_
            have BK245 := n1_
            have HB := n2_
            clear n0_ n1_ n2_
            refine start_ (n := 6) (S := fun w' => w'.cell? ⟨gb244, 0, none⟩ = some (.string a0_0) ∧ w'.cell? ⟨gb244, 1, none⟩ = some (.int .i64 a0_1) ∧ w'.cell? ⟨gb244, 2, none⟩ = some (.int .i64 a0_2) ∧ w'.cell? ⟨gb244, 3, none⟩ = some (.int .i64 a0_3) ∧ w'.cell? ⟨gb244, 4, none⟩ = some (.int .i64 a0_4) ∧ w'.cell? ⟨gb244, 5, none⟩ = some (.slice A0_5 l0_5.length c0_5) ∧ w'.cell? ⟨gb244, 6, none⟩ = some (.int .i64 a0_6) ∧ w'.cell? ⟨gb244, 7, none⟩ = some (.int .i64 a0_7) ∧ w'.cell? ⟨gb244, 8, none⟩ = some (.slice A0_8 l0_8.length c0_8) ∧ w'.cell? ⟨gb244, 9, none⟩ = some (.slice A0_9 l0_9.length c0_9) ∧ w'.cell? ⟨gb244, 10, none⟩ = some (.slice A0_10 l0_10.length c0_10) ∧ w'.cell? ⟨gb245, 0, none⟩ = some (.string a1_0) ∧ w'.cell? ⟨gb245, 1, none⟩ = some (.int .i64 a1_1) ∧ w'.cell? ⟨gb245, 2, none⟩ = some (.int .i64 a1_2) ∧ w'.cell? ⟨gb245, 3, none⟩ = some (.int .i64 a1_3) ∧ w'.cell? ⟨gb245, 4, none⟩ = some (.int .i64 a1_4) ∧ w'.cell? ⟨gb245, 5, none⟩ = some (.slice A1_5 l1_5.length c1_5) ∧ w'.cell? ⟨gb245, 6, none⟩ = some (.int .i64 a1_6) ∧ w'.cell? ⟨gb245, 7, none⟩ = some (.int .i64 a1_7) ∧ w'.cell? ⟨gb245, 8, none⟩ = some (.slice A1_8 l1_8.length c1_8) ∧ w'.cell? ⟨gb245, 9, none⟩ = some (.slice A1_9 l1_9.length c1_9) ∧ w'.cell? ⟨gb245, 10, none⟩ = some (.slice A1_10 l1_10.length c1_10)) (ds := []) #[false, false, false, false, false, false] (by kernel_rfl) rfl rfl ⟨(blk_cell BK244.out 0).trans rfl, (blk_cell BK244.out 1).trans rfl, (blk_cell BK244.out 2).trans rfl, (blk_cell BK244.out 3).trans rfl, (blk_cell BK244.out 4).trans rfl, (blk_cell BK244.out 5).trans rfl, (blk_cell BK244.out 6).trans rfl, (blk_cell BK244.out 7).trans rfl, (blk_cell BK244.out 8).trans rfl, (blk_cell BK244.out 9).trans rfl, (blk_cell BK244.out 10).trans rfl, (blk_cell BK245.out 0).trans rfl, (blk_cell BK245.out 1).trans rfl, (blk_cell BK245.out 2).trans rfl, (blk_cell BK245.out 3).trans rfl, (blk_cell BK245.out 4).trans rfl, (blk_cell BK245.out 5).trans rfl, (blk_cell BK245.out 6).trans rfl, (blk_cell BK245.out 7).trans rfl, (blk_cell BK245.out 8).trans rfl, (blk_cell BK245.out 9).trans rfl, (blk_cell BK245.out 10).trans rfl⟩ (fun hHeld => ?_)
            generalize w38.drew = w39 at BK244 BK245 HB hHeld ⊢
            refine take_ (i := 0) (N := some 20) (v := ?_) (a' := ?_) #[true, false, false, false, false, false] rfl rfl (by kernel_rfl) (fun _ _ _ h => h) (Or.inl ⟨by rfl, ?_⟩) hHeld ?_ ?_
            rotate_left
            · rintro w' ⟨s0, s1, s2, s3, s4, s5, s6, s7, s8, s9, s10, s11, s12, s13, s14, s15, s16, s17, s18, s19, s20, s21⟩
              go_simp
              with_reducible rfl
            rotate_left
            · simp only [Act.put, List.setIfInBounds_toArray, List.set_cons_zero, List.set_cons_succ, i64_w, i32_w]
              rfl
            refine take_ (i := 2) (N := some 22) (v := ?_) (a' := ?_) #[true, false, true, false, false, false] rfl rfl (by kernel_rfl) (fun _ _ _ h => h) (Or.inl ⟨by rfl, ?_⟩) hHeld ?_ ?_
            rotate_left
            · rintro w' ⟨s0, s1, s2, s3, s4, s5, s6, s7, s8, s9, s10, s11, s12, s13, s14, s15, s16, s17, s18, s19, s20, s21⟩
              go_simp
              with_reducible rfl
            rotate_left
            · simp only [Act.put, List.setIfInBounds_toArray, List.set_cons_zero, List.set_cons_succ, i64_w, i32_w]
              rfl
            refine one_ (i := 1) (N := some 21) #[true, true, true, false, false, false] rfl rfl (by kernel_rfl) (by decide) (fun K hK => ?_)
            refine goes_ Try.func51 (by kernel_rfl) rfl #[.agg #[.string a0_0, .int .i64 a0_1, .int .i64 a0_2, .int .i64 a0_3, .int .i64 a0_4, .slice A0_5 l0_5.length c0_5, .int .i64 a0_6, .int .i64 a0_7, .slice A0_8 l0_8.length c0_8, .slice A0_9 l0_9.length c0_9, .slice A0_10 l0_10.length c0_10]] (by rfl) rfl rfl gl_ ?_
            with_reducible refine (laws_toAcct.calls k a0_0 a0_1 a0_2 a0_3 a0_4 _ _ l0_5 a0_6 a0_7 _ _ l0_8 _ _ l0_9 _ _ l0_10 t248 t249 t250 t251 t252 t253 t256 t257 t258 t261 t264 _ ?side1 ?side2 ?side3 ?side4 ?side5 ?side6 ?side7 ?side8 A19.out).mono ?_
            (case side1 => exact ca_ (Kd.C_below HR0_5.out HB.out))
            (case side2 => exact HC0_5.out)
            (case side3 => exact ca_ (Kd.C_below HR0_8.out HB.out))
            (case side4 => exact HC0_8.out)
            (case side5 => exact ca_ (Kd.C_below HR0_9.out HB.out))
            (case side6 => exact HC0_9.out)
            (case side7 => exact ca_ (Kd.C_below HR0_10.out HB.out))
            (case side8 => exact HC0_10.out)
            rintro e w40 ⟨v254, v259, v262, v265, rfl, ho0, ho1, ho2, ho3, hb⟩
            refine ⟨_, rfl, ?_⟩
            have n0_ := Aside0.mk (Kd.R_lower ho0 (below_size bl_))
            have n1_ := Aside0.mk (Kd.R_lower ho1 (below_size bl_))
            have n2_ := Aside0.mk (Kd.R_lower ho2 (below_size bl_))
            have n3_ := Aside0.mk (Kd.S_lower ho3 (below_size bl_))
            have n4_ := Aside0.mk (blk_below (bk_ BK244) hb)
            have n5_ := Aside0.mk (blk_below (bk_ BK245) hb)
            have n6_ := Aside0.mk (below_step bl_ hb)
            clear BK244
            clear BK245
            clear HB
            have HO255 := n0_
            have HO260 := n1_
            have HO263 := n2_
            have HO266 := n3_
            have BK244 := n4_
            have BK245 := n5_
            have HB := n6_
            clear n0_ n1_ n2_ n3_ n4_ n5_ n6_
            (try clear hb)
            (try clear hb2)
            (try clear hk)
            (try clear hi)
            (try clear ho0)
            (try clear ho1)
            (try clear ho2)
            (try clear ho3)
            refine hK.out _ _ ⟨(blk_cell BK244.out 0).trans rfl, (blk_cell BK244.out 1).trans rfl, (blk_cell BK244.out 2).trans rfl, (blk_cell BK244.out 3).trans rfl, (blk_cell BK244.out 4).trans rfl, (blk_cell BK244.out 5).trans rfl, (blk_cell BK244.out 6).trans rfl, (blk_cell BK244.out 7).trans rfl, (blk_cell BK244.out 8).trans rfl, (blk_cell BK244.out 9).trans rfl, (blk_cell BK244.out 10).trans rfl, (blk_cell BK245.out 0).trans rfl, (blk_cell BK245.out 1).trans rfl, (blk_cell BK245.out 2).trans rfl, (blk_cell BK245.out 3).trans rfl, (blk_cell BK245.out 4).trans rfl, (blk_cell BK245.out 5).trans rfl, (blk_cell BK245.out 6).trans rfl, (blk_cell BK245.out 7).trans rfl, (blk_cell BK245.out 8).trans rfl, (blk_cell BK245.out 9).trans rfl, (blk_cell BK245.out 10).trans rfl⟩ (fun hHeld => ?_)
            clear hK K
            refine norm_ (a' := ?_) ?_ ?_
            rotate_left
            · show Act.put _ (some 21) _ = _
              simp only [Act.put, List.setIfInBounds_toArray, List.set_cons_zero, List.set_cons_succ, i64_w, i32_w]
              rfl
            refine one_ (i := 3) (N := some 23) #[true, true, true, true, false, false] rfl rfl (by kernel_rfl) (by decide) (fun K hK => ?_)
            refine goes_ Try.func51 (by kernel_rfl) rfl #[.agg #[.string a1_0, .int .i64 a1_1, .int .i64 a1_2, .int .i64 a1_3, .int .i64 a1_4, .slice A1_5 l1_5.length c1_5, .int .i64 a1_6, .int .i64 a1_7, .slice A1_8 l1_8.length c1_8, .slice A1_9 l1_9.length c1_9, .slice A1_10 l1_10.length c1_10]] (by rfl) rfl rfl gl_ ?_
            with_reducible refine (laws_toAcct.calls k a1_0 a1_1 a1_2 a1_3 a1_4 _ _ l1_5 a1_6 a1_7 _ _ l1_8 _ _ l1_9 _ _ l1_10 t267 t268 t269 t270 t271 t272 t275 t276 t277 t280 t283 _ ?side1 ?side2 ?side3 ?side4 ?side5 ?side6 ?side7 ?side8 A20.out).mono ?_
            (case side1 => exact ca_ (Kd.C_below HR1_5.out HB.out))
            (case side2 => exact HC1_5.out)
            (case side3 => exact ca_ (Kd.C_below HR1_8.out HB.out))
            (case side4 => exact HC1_8.out)
            (case side5 => exact ca_ (Kd.C_below HR1_9.out HB.out))
            (case side6 => exact HC1_9.out)
            (case side7 => exact ca_ (Kd.C_below HR1_10.out HB.out))
            (case side8 => exact HC1_10.out)
            rintro e w41 ⟨v273, v278, v281, v284, rfl, ho0, ho1, ho2, ho3, hb⟩
            refine ⟨_, rfl, ?_⟩
            have n0_ := Aside0.mk (Kd.R_elder' (ra_ HO255) (Kd.R_base ho0) hb)
            have n1_ := Aside0.mk (Kd.R_mono (Kd.R_told (Kd.R_told (Kd.R_old (ra_ HO260) hb) (Kd.R_base ho1)) (Kd.R_base ho2)) (fun _ h_ => h_.1))
            have n2_ := Aside0.mk (Kd.R_mono (Kd.R_told (Kd.R_told (Kd.R_old (ra_ HO263) hb) (Kd.R_base ho1)) (Kd.R_base ho2)) (fun _ h_ => h_.1))
            have n3_ := Aside0.mk (Kd.S_elder' (by (with_reducible repeat (first | apply Kd.S_alloc | apply Kd.S_drewN | apply Kd.S_drew)); exact HO266.out) (Kd.S_base ho3) hb)
            have n4_ := Aside0.mk (Kd.R_lower (Kd.R_new' ho0 (Kd.R_lt (ra_ HO255))) (below_size bl_))
            have n5_ := Aside0.mk (Kd.R_lower (Kd.R_new' (Kd.R_new' ho1 (Kd.R_lt (ra_ HO260))) (Kd.R_lt (ra_ HO263))) (below_size bl_))
            have n6_ := Aside0.mk (Kd.R_lower (Kd.R_new' (Kd.R_new' ho2 (Kd.R_lt (ra_ HO260))) (Kd.R_lt (ra_ HO263))) (below_size bl_))
            have n7_ := Aside0.mk (Kd.S_lower (Kd.S_new' ho3 (Kd.S_lt (by (with_reducible repeat (first | apply Kd.S_alloc | apply Kd.S_drewN | apply Kd.S_drew)); exact HO266.out))) (below_size bl_))
            have n8_ := Aside0.mk (blk_below (bk_ BK244) hb)
            have n9_ := Aside0.mk (blk_below (bk_ BK245) hb)
            have n10_ := Aside0.mk (below_step bl_ hb)
            clear HO255
            clear HO260
            clear HO263
            clear HO266
            clear BK244
            clear BK245
            clear HB
            have HO255 := n0_
            have HO260 := n1_
            have HO263 := n2_
            have HO266 := n3_
            have HO274 := n4_
            have HO279 := n5_
            have HO282 := n6_
            have HO285 := n7_
            have BK244 := n8_
            have BK245 := n9_
            have HB := n10_
            clear n0_ n1_ n2_ n3_ n4_ n5_ n6_ n7_ n8_ n9_ n10_
            (try clear hb)
            (try clear hb2)
            (try clear hk)
            (try clear hi)
            (try clear ho0)
            (try clear ho1)
            (try clear ho2)
            (try clear ho3)
            obtain ⟨Ao42, co42, eo42⟩ := Kd.R_slice HO255.out
            (first | subst eo42 | (injection eo42 with f1_ f2_ f3_; have f4_ := f1_.symm; have f5_ := f3_.symm; clear f1_ f2_ f3_; subst f4_; subst f5_))
            obtain ⟨Ao43, co43, eo43⟩ := Kd.R_slice HO260.out
            (first | subst eo43 | (injection eo43 with f1_ f2_ f3_; have f4_ := f1_.symm; have f5_ := f3_.symm; clear f1_ f2_ f3_; subst f4_; subst f5_))
            obtain ⟨Ao44, co44, eo44⟩ := Kd.R_slice HO263.out
            (first | subst eo44 | (injection eo44 with f1_ f2_ f3_; have f4_ := f1_.symm; have f5_ := f3_.symm; clear f1_ f2_ f3_; subst f4_; subst f5_))
            obtain ⟨Ao45, co45, eo45⟩ := Kd.S_slice HO266.out
            (first | subst eo45 | (injection eo45 with f1_ f2_ f3_; have f4_ := f1_.symm; have f5_ := f3_.symm; clear f1_ f2_ f3_; subst f4_; subst f5_))
            obtain ⟨Ao46, co46, eo46⟩ := Kd.R_slice HO274.out
            (first | subst eo46 | (injection eo46 with f1_ f2_ f3_; have f4_ := f1_.symm; have f5_ := f3_.symm; clear f1_ f2_ f3_; subst f4_; subst f5_))
            obtain ⟨Ao47, co47, eo47⟩ := Kd.R_slice HO279.out
            (first | subst eo47 | (injection eo47 with f1_ f2_ f3_; have f4_ := f1_.symm; have f5_ := f3_.symm; clear f1_ f2_ f3_; subst f4_; subst f5_))
            obtain ⟨Ao48, co48, eo48⟩ := Kd.R_slice HO282.out
            (first | subst eo48 | (injection eo48 with f1_ f2_ f3_; have f4_ := f1_.symm; have f5_ := f3_.symm; clear f1_ f2_ f3_; subst f4_; subst f5_))
            obtain ⟨Ao49, co49, eo49⟩ := Kd.S_slice HO285.out
            (first | subst eo49 | (injection eo49 with f1_ f2_ f3_; have f4_ := f1_.symm; have f5_ := f3_.symm; clear f1_ f2_ f3_; subst f4_; subst f5_))
            refine hK.out _ _ ⟨(blk_cell BK244.out 0).trans rfl, (blk_cell BK244.out 1).trans rfl, (blk_cell BK244.out 2).trans rfl, (blk_cell BK244.out 3).trans rfl, (blk_cell BK244.out 4).trans rfl, (blk_cell BK244.out 5).trans rfl, (blk_cell BK244.out 6).trans rfl, (blk_cell BK244.out 7).trans rfl, (blk_cell BK244.out 8).trans rfl, (blk_cell BK244.out 9).trans rfl, (blk_cell BK244.out 10).trans rfl, (blk_cell BK245.out 0).trans rfl, (blk_cell BK245.out 1).trans rfl, (blk_cell BK245.out 2).trans rfl, (blk_cell BK245.out 3).trans rfl, (blk_cell BK245.out 4).trans rfl, (blk_cell BK245.out 5).trans rfl, (blk_cell BK245.out 6).trans rfl, (blk_cell BK245.out 7).trans rfl, (blk_cell BK245.out 8).trans rfl, (blk_cell BK245.out 9).trans rfl, (blk_cell BK245.out 10).trans rfl⟩ (fun hHeld => ?_)
            clear hK K
            refine norm_ (a' := ?_) ?_ ?_
            rotate_left
            · show Act.put _ (some 23) _ = _
              simp only [Act.put, List.setIfInBounds_toArray, List.set_cons_zero, List.set_cons_succ, i64_w, i32_w]
              rfl
            refine one_ (i := 4) (N := some 24) #[true, true, true, true, true, false] rfl rfl (by kernel_rfl) (by decide) (fun K hK => ?_)
            refine goes_ Try.func50 (by kernel_rfl) rfl #[.agg #[.string t248, .int .i64 t249, .int .i64 t250, .int .i64 t251, .int .i64 t252, .slice Ao42 t253.length co42, .int .i64 t256, .int .i64 t257, .slice Ao43 t258.length co43, .slice Ao44 t261.length co44, .slice Ao45 t264.length co45], .agg #[.string t267, .int .i64 t268, .int .i64 t269, .int .i64 t270, .int .i64 t271, .slice Ao46 t272.length co46, .int .i64 t275, .int .i64 t276, .slice Ao47 t277.length co47, .slice Ao48 t280.length co48, .slice Ao49 t283.length co49]] (by rfl) rfl rfl gl_ ?_
            with_reducible refine (spec_AcctSame.calls k t248 t249 t250 t251 t252 _ _ t253 t256 t257 _ _ t258 _ _ t261 _ _ t264 t267 t268 t269 t270 t271 _ _ t272 t275 t276 _ _ t277 _ _ t280 _ _ t283 t286 _ ?side1 ?side2 ?side3 ?side4 ?side5 ?side6 ?side7 ?side8 ?side9 ?side10 ?side11 ?side12 ?side13 ?side14 ?side15 ?side16 A21.out).mono ?_
            (case side1 => exact ca_ ((Kd.R_reads' HO255.out).2.2))
            (case side2 => exact (Kd.R_reads' HO255.out).2.1)
            (case side3 => exact ca_ ((Kd.R_reads' HO260.out).2.2))
            (case side4 => exact (Kd.R_reads' HO260.out).2.1)
            (case side5 => exact ca_ ((Kd.R_reads' HO263.out).2.2))
            (case side6 => exact (Kd.R_reads' HO263.out).2.1)
            (case side7 => exact ca_ ((Kd.S_reads' HO266.out).2.2))
            (case side8 => exact (Kd.S_reads' HO266.out).2.1)
            (case side9 => exact ca_ ((Kd.R_reads' HO274.out).2.2))
            (case side10 => exact (Kd.R_reads' HO274.out).2.1)
            (case side11 => exact ca_ ((Kd.R_reads' HO279.out).2.2))
            (case side12 => exact (Kd.R_reads' HO279.out).2.1)
            (case side13 => exact ca_ ((Kd.R_reads' HO282.out).2.2))
            (case side14 => exact (Kd.R_reads' HO282.out).2.1)
            (case side15 => exact ca_ ((Kd.S_reads' HO285.out).2.2))
            (case side16 => exact (Kd.S_reads' HO285.out).2.1)
            rintro e w50 ⟨rfl, hb⟩
            refine ⟨_, rfl, ?_⟩
            have n0_ := Aside0.mk (Kd.R_below (ra_ HO255) hb)
            have n1_ := Aside0.mk (Kd.R_below (ra_ HO260) hb)
            have n2_ := Aside0.mk (Kd.R_below (ra_ HO263) hb)
            have n3_ := Aside0.mk (Kd.S_below (by (with_reducible repeat (first | apply Kd.S_alloc | apply Kd.S_drewN | apply Kd.S_drew)); exact HO266.out) hb)
            have n4_ := Aside0.mk (Kd.R_below (ra_ HO274) hb)
            have n5_ := Aside0.mk (Kd.R_below (ra_ HO279) hb)
            have n6_ := Aside0.mk (Kd.R_below (ra_ HO282) hb)
            have n7_ := Aside0.mk (Kd.S_below (by (with_reducible repeat (first | apply Kd.S_alloc | apply Kd.S_drewN | apply Kd.S_drew)); exact HO285.out) hb)
            have n8_ := Aside0.mk (blk_below (bk_ BK244) hb)
            have n9_ := Aside0.mk (blk_below (bk_ BK245) hb)
            have n10_ := Aside0.mk (below_step bl_ hb)
            clear HO255
            clear HO260
            clear HO263
            clear HO266
            clear HO274
            clear HO279
            clear HO282
            clear HO285
            clear BK244
            clear BK245
            clear HB
            have HO255 := n0_
            have HO260 := n1_
            have HO263 := n2_
            have HO266 := n3_
            have HO274 := n4_
            have HO279 := n5_
            have HO282 := n6_
            have HO285 := n7_
            have BK244 := n8_
            have BK245 := n9_
            have HB := n10_
            clear n0_ n1_ n2_ n3_ n4_ n5_ n6_ n7_ n8_ n9_ n10_
            (try clear hb)
            (try clear hb2)
            (try clear hk)
            (try clear hi)
            refine hK.out _ _ ⟨(blk_cell BK244.out 0).trans rfl, (blk_cell BK244.out 1).trans rfl, (blk_cell BK244.out 2).trans rfl, (blk_cell BK244.out 3).trans rfl, (blk_cell BK244.out 4).trans rfl, (blk_cell BK244.out 5).trans rfl, (blk_cell BK244.out 6).trans rfl, (blk_cell BK244.out 7).trans rfl, (blk_cell BK244.out 8).trans rfl, (blk_cell BK244.out 9).trans rfl, (blk_cell BK244.out 10).trans rfl, (blk_cell BK245.out 0).trans rfl, (blk_cell BK245.out 1).trans rfl, (blk_cell BK245.out 2).trans rfl, (blk_cell BK245.out 3).trans rfl, (blk_cell BK245.out 4).trans rfl, (blk_cell BK245.out 5).trans rfl, (blk_cell BK245.out 6).trans rfl, (blk_cell BK245.out 7).trans rfl, (blk_cell BK245.out 8).trans rfl, (blk_cell BK245.out 9).trans rfl, (blk_cell BK245.out 10).trans rfl⟩ (fun hHeld => ?_)
            clear hK K
            refine norm_ (a' := ?_) ?_ ?_
            rotate_left
            · show Act.put _ (some 24) _ = _
              simp only [Act.put, List.setIfInBounds_toArray, List.set_cons_zero, List.set_cons_succ, i64_w, i32_w]
              rfl
            refine pure_ (i := 5) (N := some 6) (v := ?_) (a' := ?_) #[true, true, true, true, true, true] rfl rfl (by kernel_rfl) (fun _ _ _ h => h) (Or.inl ⟨by rfl, ?_⟩) ?_ ?_
            rotate_left
            · intro w'
              go_simp
              with_reducible rfl
            rotate_left
            · simp only [Act.put, List.setIfInBounds_toArray, List.set_cons_zero, List.set_cons_succ, i64_w, i32_w]
              rfl
            refine done_ (by kernel_rfl) ?_
            have hcz51_0 := cz_ BK244 0 (.string a0_0)
            have hcz51_1 := cz_ BK244 1 (.int .i64 a0_1)
            have hcz51_2 := cz_ BK244 2 (.int .i64 a0_2)
            have hcz51_3 := cz_ BK244 3 (.int .i64 a0_3)
            have hcz51_4 := cz_ BK244 4 (.int .i64 a0_4)
            have hcz51_5 := cz_ BK244 5 (.slice A0_5 l0_5.length c0_5)
            have hcz51_6 := cz_ BK244 6 (.int .i64 a0_6)
            have hcz51_7 := cz_ BK244 7 (.int .i64 a0_7)
            have hcz51_8 := cz_ BK244 8 (.slice A0_8 l0_8.length c0_8)
            have hcz51_9 := cz_ BK244 9 (.slice A0_9 l0_9.length c0_9)
            have hcz51_10 := cz_ BK244 10 (.slice A0_10 l0_10.length c0_10)
            have hfz51_0 := fz_ BK244 0
            have hfz51_1 := fz_ BK244 1
            have hfz51_2 := fz_ BK244 2
            have hfz51_3 := fz_ BK244 3
            have hfz51_4 := fz_ BK244 4
            have hfz51_5 := fz_ BK244 5
            have hfz51_6 := fz_ BK244 6
            have hfz51_7 := fz_ BK244 7
            have hfz51_8 := fz_ BK244 8
            have hfz51_9 := fz_ BK244 9
            have hfz51_10 := fz_ BK244 10
            try go_wp2_with (first | ((with_reducible refine gate_callee (f := 51) rfl ?_); refine goesL_ (some 26) rfl rfl Try.func51 (by kernel_rfl) rfl #[.agg #[.string a0_0, .int .i64 a0_1, .int .i64 a0_2, .int .i64 a0_3, .int .i64 a0_4, .slice A0_5 l0_5.length c0_5, .int .i64 a0_6, .int .i64 a0_7, .slice A0_8 l0_8.length c0_8, .slice A0_9 l0_9.length c0_9, .slice A0_10 l0_10.length c0_10]] rfl gl_ ?_; (with_reducible refine (laws_toAcct.calls k a0_0 a0_1 a0_2 a0_3 a0_4 _ _ l0_5 a0_6 a0_7 _ _ l0_8 _ _ l0_9 _ _ l0_10 t287 t288 t289 t290 t291 t292 t295 t296 t297 t300 t303 _ ?side1 ?side2 ?side3 ?side4 ?side5 ?side6 ?side7 ?side8 A22.out).mono ?_); (case side1 => exact ca_ (Kd.C_below HR0_5.out HB.out)); (case side2 => exact HC0_5.out); (case side3 => exact ca_ (Kd.C_below HR0_8.out HB.out)); (case side4 => exact HC0_8.out); (case side5 => exact ca_ (Kd.C_below HR0_9.out HB.out)); (case side6 => exact HC0_9.out); (case side7 => exact ca_ (Kd.C_below HR0_10.out HB.out)); (case side8 => exact HC0_10.out); rintro e w52 ⟨v293, v298, v301, v304, rfl, ho0, ho1, ho2, ho3, hb⟩; refine ⟨_, rfl, ?_⟩; have n0_ := Aside0.mk (Kd.R_elder' (ra_ HO255) (Kd.R_base ho0) hb); have n1_ := Aside0.mk (Kd.R_mono (Kd.R_told (Kd.R_told (Kd.R_old (ra_ HO260) hb) (Kd.R_base ho1)) (Kd.R_base ho2)) (fun _ h_ => h_.1)); have n2_ := Aside0.mk (Kd.R_mono (Kd.R_told (Kd.R_told (Kd.R_old (ra_ HO263) hb) (Kd.R_base ho1)) (Kd.R_base ho2)) (fun _ h_ => h_.1)); have n3_ := Aside0.mk (Kd.S_elder' (by (with_reducible repeat (first | apply Kd.S_alloc | apply Kd.S_drewN | apply Kd.S_drew)); exact HO266.out) (Kd.S_base ho3) hb); have n4_ := Aside0.mk (Kd.R_elder' (ra_ HO274) (Kd.R_base ho0) hb); have n5_ := Aside0.mk (Kd.R_mono (Kd.R_told (Kd.R_told (Kd.R_old (ra_ HO279) hb) (Kd.R_base ho1)) (Kd.R_base ho2)) (fun _ h_ => h_.1)); have n6_ := Aside0.mk (Kd.R_mono (Kd.R_told (Kd.R_told (Kd.R_old (ra_ HO282) hb) (Kd.R_base ho1)) (Kd.R_base ho2)) (fun _ h_ => h_.1)); have n7_ := Aside0.mk (Kd.S_elder' (by (with_reducible repeat (first | apply Kd.S_alloc | apply Kd.S_drewN | apply Kd.S_drew)); exact HO285.out) (Kd.S_base ho3) hb); have n8_ := Aside0.mk (Kd.R_lower (Kd.R_new' (Kd.R_new' ho0 (Kd.R_lt (ra_ HO255))) (Kd.R_lt (ra_ HO274))) (below_size bl_)); have n9_ := Aside0.mk (Kd.R_lower (Kd.R_new' (Kd.R_new' (Kd.R_new' (Kd.R_new' ho1 (Kd.R_lt (ra_ HO260))) (Kd.R_lt (ra_ HO263))) (Kd.R_lt (ra_ HO279))) (Kd.R_lt (ra_ HO282))) (below_size bl_)); have n10_ := Aside0.mk (Kd.R_lower (Kd.R_new' (Kd.R_new' (Kd.R_new' (Kd.R_new' ho2 (Kd.R_lt (ra_ HO260))) (Kd.R_lt (ra_ HO263))) (Kd.R_lt (ra_ HO279))) (Kd.R_lt (ra_ HO282))) (below_size bl_)); have n11_ := Aside0.mk (Kd.S_lower (Kd.S_new' (Kd.S_new' ho3 (Kd.S_lt (by (with_reducible repeat (first | apply Kd.S_alloc | apply Kd.S_drewN | apply Kd.S_drew)); exact HO266.out))) (Kd.S_lt (by (with_reducible repeat (first | apply Kd.S_alloc | apply Kd.S_drewN | apply Kd.S_drew)); exact HO285.out))) (below_size bl_)); have n12_ := Aside0.mk (blk_below (bk_ BK244) hb); have n13_ := Aside0.mk (blk_below (bk_ BK245) hb); have n14_ := Aside0.mk (below_step bl_ hb); clear HO255; clear HO260; clear HO263; clear HO266; clear HO274; clear HO279; clear HO282; clear HO285; clear BK244; clear BK245; clear HB; have HO255 := n0_; have HO260 := n1_; have HO263 := n2_; have HO266 := n3_; have HO274 := n4_; have HO279 := n5_; have HO282 := n6_; have HO285 := n7_; have HO294 := n8_; have HO299 := n9_; have HO302 := n10_; have HO305 := n11_; have BK244 := n12_; have BK245 := n13_; have HB := n14_; clear n0_ n1_ n2_ n3_ n4_ n5_ n6_ n7_ n8_ n9_ n10_ n11_ n12_ n13_ n14_; (try clear hb); (try clear hb2); (try clear hk); (try clear hi); (try clear ho0); (try clear ho1); (try clear ho2); (try clear ho3)) | ((with_reducible refine gate_dst (N := 7) rfl ?_); refine box_event ?hg (N := 7) ?hd (cs := #[.string (⟨#[]⟩ : ByteArray), .int .i64 0, .int .i64 0, .int .i64 0, .int .i64 0, .slice none 0 0, .int .i64 0, .int .i64 0, .slice none 0 0, .slice none 0 0, .slice none 0 0]) (t := 85) ?hr ?_; (case hd => rfl); (case hg => rfl); (case hr => first | (go_simp; done) | (go_simp; rfl)); intro gb306 hg w53 hbox hb; have n0_ := Aside0.mk (Kd.R_below (ra_ HO255) hb); have n1_ := Aside0.mk (Kd.R_below (ra_ HO260) hb); have n2_ := Aside0.mk (Kd.R_below (ra_ HO263) hb); have n3_ := Aside0.mk (Kd.S_below (by (with_reducible repeat (first | apply Kd.S_alloc | apply Kd.S_drewN | apply Kd.S_drew)); exact HO266.out) hb); have n4_ := Aside0.mk (Kd.R_below (ra_ HO274) hb); have n5_ := Aside0.mk (Kd.R_below (ra_ HO279) hb); have n6_ := Aside0.mk (Kd.R_below (ra_ HO282) hb); have n7_ := Aside0.mk (Kd.S_below (by (with_reducible repeat (first | apply Kd.S_alloc | apply Kd.S_drewN | apply Kd.S_drew)); exact HO285.out) hb); have n8_ := Aside0.mk (Kd.R_below (ra_ HO294) hb); have n9_ := Aside0.mk (Kd.R_below (ra_ HO299) hb); have n10_ := Aside0.mk (Kd.R_below (ra_ HO302) hb); have n11_ := Aside0.mk (Kd.S_below (by (with_reducible repeat (first | apply Kd.S_alloc | apply Kd.S_drewN | apply Kd.S_drew)); exact HO305.out) hb); have n12_ := Aside0.mk (blk_below (bk_ BK244) hb); have n13_ := Aside0.mk (blk_below (bk_ BK245) hb); have n14_ := Aside0.mk (below_step bl_ hb); have n15_ := Aside0.mk (hbox); have n16_ := Aside0.mk ((by rw [hg]; exact (below_size bl_) : w.heap.size ≤ gb306)); have n17_ := Aside0.mk ((by rw [hg]; exact (below_size bl_) : w.heap.size ≤ gb306)); have n18_ := Aside0.mk ((by rw [hg]; exact Nat.ne_of_lt (blk_lt (bk_ BK244)) : gb244 ≠ gb306)); have n19_ := Aside0.mk ((by rw [hg]; exact Nat.ne_of_gt (blk_lt (bk_ BK244)) : gb306 ≠ gb244)); have n20_ := Aside0.mk ((by rw [hg]; exact Nat.ne_of_lt (blk_lt (bk_ BK245)) : gb245 ≠ gb306)); have n21_ := Aside0.mk ((by rw [hg]; exact Nat.ne_of_gt (blk_lt (bk_ BK245)) : gb306 ≠ gb245)); clear HO255; clear HO260; clear HO263; clear HO266; clear HO274; clear HO279; clear HO282; clear HO285; clear HO294; clear HO299; clear HO302; clear HO305; clear BK244; clear BK245; clear HB; have HO255 := n0_; have HO260 := n1_; have HO263 := n2_; have HO266 := n3_; have HO274 := n4_; have HO279 := n5_; have HO282 := n6_; have HO285 := n7_; have HO294 := n8_; have HO299 := n9_; have HO302 := n10_; have HO305 := n11_; have BK244 := n12_; have BK245 := n13_; have HB := n14_; have BK306 := n15_; have GW306 := n16_; have GE306 := n17_; have NB244_306 := n18_; have NB306_244 := n19_; have NB245_306 := n20_; have NB306_245 := n21_; clear n0_ n1_ n2_ n3_ n4_ n5_ n6_ n7_ n8_ n9_ n10_ n11_ n12_ n13_ n14_ n15_ n16_ n17_ n18_ n19_ n20_ n21_; clear hb hbox hg; have hnb54 := NB306_244.out; have hnc54 := NB244_306.out; have hnb55 := NB306_245.out; have hnc55 := NB245_306.out; have hcz56_0 := cz_ BK306 0 (.string (⟨#[]⟩ : ByteArray)); have hcz56_1 := cz_ BK306 1 (.int .i64 0); have hcz56_2 := cz_ BK306 2 (.int .i64 0); have hcz56_3 := cz_ BK306 3 (.int .i64 0); have hcz56_4 := cz_ BK306 4 (.int .i64 0); have hcz56_5 := cz_ BK306 5 (.slice none 0 0); have hcz56_6 := cz_ BK306 6 (.int .i64 0); have hcz56_7 := cz_ BK306 7 (.int .i64 0); have hcz56_8 := cz_ BK306 8 (.slice none 0 0); have hcz56_9 := cz_ BK306 9 (.slice none 0 0); have hcz56_10 := cz_ BK306 10 (.slice none 0 0); have hfz56_0 := fz_ BK306 0; have hfz56_1 := fz_ BK306 1; have hfz56_2 := fz_ BK306 2; have hfz56_3 := fz_ BK306 3; have hfz56_4 := fz_ BK306 4; have hfz56_5 := fz_ BK306 5; have hfz56_6 := fz_ BK306 6; have hfz56_7 := fz_ BK306 7; have hfz56_8 := fz_ BK306 8; have hfz56_9 := fz_ BK306 9; have hfz56_10 := fz_ BK306 10; obtain ⟨Ao57, co57, eo57⟩ := Kd.R_slice HO294.out; subst eo57; obtain ⟨Ao58, co58, eo58⟩ := Kd.R_slice HO299.out; subst eo58; obtain ⟨Ao59, co59, eo59⟩ := Kd.R_slice HO302.out; subst eo59; obtain ⟨Ao60, co60, eo60⟩ := Kd.S_slice HO305.out; subst eo60; have hcz61_0 := cz_ BK245 0 (.string a1_0); have hcz61_1 := cz_ BK245 1 (.int .i64 a1_1); have hcz61_2 := cz_ BK245 2 (.int .i64 a1_2); have hcz61_3 := cz_ BK245 3 (.int .i64 a1_3); have hcz61_4 := cz_ BK245 4 (.int .i64 a1_4); have hcz61_5 := cz_ BK245 5 (.slice A1_5 l1_5.length c1_5); have hcz61_6 := cz_ BK245 6 (.int .i64 a1_6); have hcz61_7 := cz_ BK245 7 (.int .i64 a1_7); have hcz61_8 := cz_ BK245 8 (.slice A1_8 l1_8.length c1_8); have hcz61_9 := cz_ BK245 9 (.slice A1_9 l1_9.length c1_9); have hcz61_10 := cz_ BK245 10 (.slice A1_10 l1_10.length c1_10); have hfz61_0 := fz_ BK245 0; have hfz61_1 := fz_ BK245 1; have hfz61_2 := fz_ BK245 2; have hfz61_3 := fz_ BK245 3; have hfz61_4 := fz_ BK245 4; have hfz61_5 := fz_ BK245 5; have hfz61_6 := fz_ BK245 6; have hfz61_7 := fz_ BK245 7; have hfz61_8 := fz_ BK245 8; have hfz61_9 := fz_ BK245 9; have hfz61_10 := fz_ BK245 10) | ((with_reducible refine gate_callee (f := 51) rfl ?_); refine goesL_ (some 28) rfl rfl Try.func51 (by kernel_rfl) rfl #[.agg #[.string a1_0, .int .i64 a1_1, .int .i64 a1_2, .int .i64 a1_3, .int .i64 a1_4, .slice A1_5 l1_5.length c1_5, .int .i64 a1_6, .int .i64 a1_7, .slice A1_8 l1_8.length c1_8, .slice A1_9 l1_9.length c1_9, .slice A1_10 l1_10.length c1_10]] rfl gl_ ?_; (with_reducible refine (laws_toAcct.calls k a1_0 a1_1 a1_2 a1_3 a1_4 _ _ l1_5 a1_6 a1_7 _ _ l1_8 _ _ l1_9 _ _ l1_10 t307 t308 t309 t310 t311 t312 t315 t316 t317 t320 t323 _ ?side1 ?side2 ?side3 ?side4 ?side5 ?side6 ?side7 ?side8 A23.out).mono ?_); (case side1 => exact Kd.C_below HR1_5.out bl_); (case side2 => exact HC1_5.out); (case side3 => exact Kd.C_below HR1_8.out bl_); (case side4 => exact HC1_8.out); (case side5 => exact Kd.C_below HR1_9.out bl_); (case side6 => exact HC1_9.out); (case side7 => exact Kd.C_below HR1_10.out bl_); (case side8 => exact HC1_10.out); rintro e w62 ⟨v313, v318, v321, v324, rfl, ho0, ho1, ho2, ho3, hb⟩; refine ⟨_, rfl, ?_⟩; have n0_ := Aside0.mk (Kd.R_elder' (by (with_reducible repeat (first | apply Kd.R_alloc | apply Kd.R_drewN | apply Kd.R_drew)); exact (Kd.R_mono (Kd.R_far (p := ⟨gb306, 10, none⟩) (Kd.R_far (p := ⟨gb306, 9, none⟩) (Kd.R_far (p := ⟨gb306, 8, none⟩) (Kd.R_far (p := ⟨gb306, 7, none⟩) (Kd.R_far (p := ⟨gb306, 6, none⟩) (Kd.R_far (p := ⟨gb306, 5, none⟩) (Kd.R_far (p := ⟨gb306, 4, none⟩) (Kd.R_far (p := ⟨gb306, 3, none⟩) (Kd.R_far (p := ⟨gb306, 2, none⟩) (Kd.R_far (p := ⟨gb306, 1, none⟩) (Kd.R_far (p := ⟨gb306, 0, none⟩) (Kd.R_types HO255.out BK306.out (by decide)) (fun _ hk => hk.2) (.string t287)) (fun _ hk => hk.2) (.int .i64 t288)) (fun _ hk => hk.2) (.int .i64 t289)) (fun _ hk => hk.2) (.int .i64 t290)) (fun _ hk => hk.2) (.int .i64 t291)) (fun _ hk => hk.2) (.slice Ao57 t292.length co57)) (fun _ hk => hk.2) (.int .i64 t295)) (fun _ hk => hk.2) (.int .i64 t296)) (fun _ hk => hk.2) (.slice Ao58 t297.length co58)) (fun _ hk => hk.2) (.slice Ao59 t300.length co59)) (fun _ hk => hk.2) (.slice Ao60 t303.length co60)) (fun _ h_ => h_.1))) (Kd.R_base ho0) hb); have n1_ := Aside0.mk (Kd.R_mono (Kd.R_told (Kd.R_told (Kd.R_old (by (with_reducible repeat (first | apply Kd.R_alloc | apply Kd.R_drewN | apply Kd.R_drew)); exact (Kd.R_mono (Kd.R_far (p := ⟨gb306, 10, none⟩) (Kd.R_far (p := ⟨gb306, 9, none⟩) (Kd.R_far (p := ⟨gb306, 8, none⟩) (Kd.R_far (p := ⟨gb306, 7, none⟩) (Kd.R_far (p := ⟨gb306, 6, none⟩) (Kd.R_far (p := ⟨gb306, 5, none⟩) (Kd.R_far (p := ⟨gb306, 4, none⟩) (Kd.R_far (p := ⟨gb306, 3, none⟩) (Kd.R_far (p := ⟨gb306, 2, none⟩) (Kd.R_far (p := ⟨gb306, 1, none⟩) (Kd.R_far (p := ⟨gb306, 0, none⟩) (Kd.R_types HO260.out BK306.out (by decide)) (fun _ hk => hk.2) (.string t287)) (fun _ hk => hk.2) (.int .i64 t288)) (fun _ hk => hk.2) (.int .i64 t289)) (fun _ hk => hk.2) (.int .i64 t290)) (fun _ hk => hk.2) (.int .i64 t291)) (fun _ hk => hk.2) (.slice Ao57 t292.length co57)) (fun _ hk => hk.2) (.int .i64 t295)) (fun _ hk => hk.2) (.int .i64 t296)) (fun _ hk => hk.2) (.slice Ao58 t297.length co58)) (fun _ hk => hk.2) (.slice Ao59 t300.length co59)) (fun _ hk => hk.2) (.slice Ao60 t303.length co60)) (fun _ h_ => h_.1))) hb) (Kd.R_base ho1)) (Kd.R_base ho2)) (fun _ h_ => h_.1)); have n2_ := Aside0.mk (Kd.R_mono (Kd.R_told (Kd.R_told (Kd.R_old (by (with_reducible repeat (first | apply Kd.R_alloc | apply Kd.R_drewN | apply Kd.R_drew)); exact (Kd.R_mono (Kd.R_far (p := ⟨gb306, 10, none⟩) (Kd.R_far (p := ⟨gb306, 9, none⟩) (Kd.R_far (p := ⟨gb306, 8, none⟩) (Kd.R_far (p := ⟨gb306, 7, none⟩) (Kd.R_far (p := ⟨gb306, 6, none⟩) (Kd.R_far (p := ⟨gb306, 5, none⟩) (Kd.R_far (p := ⟨gb306, 4, none⟩) (Kd.R_far (p := ⟨gb306, 3, none⟩) (Kd.R_far (p := ⟨gb306, 2, none⟩) (Kd.R_far (p := ⟨gb306, 1, none⟩) (Kd.R_far (p := ⟨gb306, 0, none⟩) (Kd.R_types HO263.out BK306.out (by decide)) (fun _ hk => hk.2) (.string t287)) (fun _ hk => hk.2) (.int .i64 t288)) (fun _ hk => hk.2) (.int .i64 t289)) (fun _ hk => hk.2) (.int .i64 t290)) (fun _ hk => hk.2) (.int .i64 t291)) (fun _ hk => hk.2) (.slice Ao57 t292.length co57)) (fun _ hk => hk.2) (.int .i64 t295)) (fun _ hk => hk.2) (.int .i64 t296)) (fun _ hk => hk.2) (.slice Ao58 t297.length co58)) (fun _ hk => hk.2) (.slice Ao59 t300.length co59)) (fun _ hk => hk.2) (.slice Ao60 t303.length co60)) (fun _ h_ => h_.1))) hb) (Kd.R_base ho1)) (Kd.R_base ho2)) (fun _ h_ => h_.1)); have n3_ := Aside0.mk (Kd.S_elder' (by (with_reducible repeat (first | apply Kd.S_alloc | apply Kd.S_drewN | apply Kd.S_drew)); exact (Kd.S_mono (Kd.S_far (p := ⟨gb306, 10, none⟩) (Kd.S_far (p := ⟨gb306, 9, none⟩) (Kd.S_far (p := ⟨gb306, 8, none⟩) (Kd.S_far (p := ⟨gb306, 7, none⟩) (Kd.S_far (p := ⟨gb306, 6, none⟩) (Kd.S_far (p := ⟨gb306, 5, none⟩) (Kd.S_far (p := ⟨gb306, 4, none⟩) (Kd.S_far (p := ⟨gb306, 3, none⟩) (Kd.S_far (p := ⟨gb306, 2, none⟩) (Kd.S_far (p := ⟨gb306, 1, none⟩) (Kd.S_far (p := ⟨gb306, 0, none⟩) (Kd.S_types HO266.out BK306.out (by decide)) (fun _ hk => hk.2) (.string t287)) (fun _ hk => hk.2) (.int .i64 t288)) (fun _ hk => hk.2) (.int .i64 t289)) (fun _ hk => hk.2) (.int .i64 t290)) (fun _ hk => hk.2) (.int .i64 t291)) (fun _ hk => hk.2) (.slice Ao57 t292.length co57)) (fun _ hk => hk.2) (.int .i64 t295)) (fun _ hk => hk.2) (.int .i64 t296)) (fun _ hk => hk.2) (.slice Ao58 t297.length co58)) (fun _ hk => hk.2) (.slice Ao59 t300.length co59)) (fun _ hk => hk.2) (.slice Ao60 t303.length co60)) (fun _ h_ => h_.1))) (Kd.S_base ho3) hb); have n4_ := Aside0.mk (Kd.R_elder' (by (with_reducible repeat (first | apply Kd.R_alloc | apply Kd.R_drewN | apply Kd.R_drew)); exact (Kd.R_mono (Kd.R_far (p := ⟨gb306, 10, none⟩) (Kd.R_far (p := ⟨gb306, 9, none⟩) (Kd.R_far (p := ⟨gb306, 8, none⟩) (Kd.R_far (p := ⟨gb306, 7, none⟩) (Kd.R_far (p := ⟨gb306, 6, none⟩) (Kd.R_far (p := ⟨gb306, 5, none⟩) (Kd.R_far (p := ⟨gb306, 4, none⟩) (Kd.R_far (p := ⟨gb306, 3, none⟩) (Kd.R_far (p := ⟨gb306, 2, none⟩) (Kd.R_far (p := ⟨gb306, 1, none⟩) (Kd.R_far (p := ⟨gb306, 0, none⟩) (Kd.R_types HO274.out BK306.out (by decide)) (fun _ hk => hk.2) (.string t287)) (fun _ hk => hk.2) (.int .i64 t288)) (fun _ hk => hk.2) (.int .i64 t289)) (fun _ hk => hk.2) (.int .i64 t290)) (fun _ hk => hk.2) (.int .i64 t291)) (fun _ hk => hk.2) (.slice Ao57 t292.length co57)) (fun _ hk => hk.2) (.int .i64 t295)) (fun _ hk => hk.2) (.int .i64 t296)) (fun _ hk => hk.2) (.slice Ao58 t297.length co58)) (fun _ hk => hk.2) (.slice Ao59 t300.length co59)) (fun _ hk => hk.2) (.slice Ao60 t303.length co60)) (fun _ h_ => h_.1))) (Kd.R_base ho0) hb); have n5_ := Aside0.mk (Kd.R_mono (Kd.R_told (Kd.R_told (Kd.R_old (by (with_reducible repeat (first | apply Kd.R_alloc | apply Kd.R_drewN | apply Kd.R_drew)); exact (Kd.R_mono (Kd.R_far (p := ⟨gb306, 10, none⟩) (Kd.R_far (p := ⟨gb306, 9, none⟩) (Kd.R_far (p := ⟨gb306, 8, none⟩) (Kd.R_far (p := ⟨gb306, 7, none⟩) (Kd.R_far (p := ⟨gb306, 6, none⟩) (Kd.R_far (p := ⟨gb306, 5, none⟩) (Kd.R_far (p := ⟨gb306, 4, none⟩) (Kd.R_far (p := ⟨gb306, 3, none⟩) (Kd.R_far (p := ⟨gb306, 2, none⟩) (Kd.R_far (p := ⟨gb306, 1, none⟩) (Kd.R_far (p := ⟨gb306, 0, none⟩) (Kd.R_types HO279.out BK306.out (by decide)) (fun _ hk => hk.2) (.string t287)) (fun _ hk => hk.2) (.int .i64 t288)) (fun _ hk => hk.2) (.int .i64 t289)) (fun _ hk => hk.2) (.int .i64 t290)) (fun _ hk => hk.2) (.int .i64 t291)) (fun _ hk => hk.2) (.slice Ao57 t292.length co57)) (fun _ hk => hk.2) (.int .i64 t295)) (fun _ hk => hk.2) (.int .i64 t296)) (fun _ hk => hk.2) (.slice Ao58 t297.length co58)) (fun _ hk => hk.2) (.slice Ao59 t300.length co59)) (fun _ hk => hk.2) (.slice Ao60 t303.length co60)) (fun _ h_ => h_.1))) hb) (Kd.R_base ho1)) (Kd.R_base ho2)) (fun _ h_ => h_.1)); have n6_ := Aside0.mk (Kd.R_mono (Kd.R_told (Kd.R_told (Kd.R_old (by (with_reducible repeat (first | apply Kd.R_alloc | apply Kd.R_drewN | apply Kd.R_drew)); exact (Kd.R_mono (Kd.R_far (p := ⟨gb306, 10, none⟩) (Kd.R_far (p := ⟨gb306, 9, none⟩) (Kd.R_far (p := ⟨gb306, 8, none⟩) (Kd.R_far (p := ⟨gb306, 7, none⟩) (Kd.R_far (p := ⟨gb306, 6, none⟩) (Kd.R_far (p := ⟨gb306, 5, none⟩) (Kd.R_far (p := ⟨gb306, 4, none⟩) (Kd.R_far (p := ⟨gb306, 3, none⟩) (Kd.R_far (p := ⟨gb306, 2, none⟩) (Kd.R_far (p := ⟨gb306, 1, none⟩) (Kd.R_far (p := ⟨gb306, 0, none⟩) (Kd.R_types HO282.out BK306.out (by decide)) (fun _ hk => hk.2) (.string t287)) (fun _ hk => hk.2) (.int .i64 t288)) (fun _ hk => hk.2) (.int .i64 t289)) (fun _ hk => hk.2) (.int .i64 t290)) (fun _ hk => hk.2) (.int .i64 t291)) (fun _ hk => hk.2) (.slice Ao57 t292.length co57)) (fun _ hk => hk.2) (.int .i64 t295)) (fun _ hk => hk.2) (.int .i64 t296)) (fun _ hk => hk.2) (.slice Ao58 t297.length co58)) (fun _ hk => hk.2) (.slice Ao59 t300.length co59)) (fun _ hk => hk.2) (.slice Ao60 t303.length co60)) (fun _ h_ => h_.1))) hb) (Kd.R_base ho1)) (Kd.R_base ho2)) (fun _ h_ => h_.1)); have n7_ := Aside0.mk (Kd.S_elder' (by (with_reducible repeat (first | apply Kd.S_alloc | apply Kd.S_drewN | apply Kd.S_drew)); exact (Kd.S_mono (Kd.S_far (p := ⟨gb306, 10, none⟩) (Kd.S_far (p := ⟨gb306, 9, none⟩) (Kd.S_far (p := ⟨gb306, 8, none⟩) (Kd.S_far (p := ⟨gb306, 7, none⟩) (Kd.S_far (p := ⟨gb306, 6, none⟩) (Kd.S_far (p := ⟨gb306, 5, none⟩) (Kd.S_far (p := ⟨gb306, 4, none⟩) (Kd.S_far (p := ⟨gb306, 3, none⟩) (Kd.S_far (p := ⟨gb306, 2, none⟩) (Kd.S_far (p := ⟨gb306, 1, none⟩) (Kd.S_far (p := ⟨gb306, 0, none⟩) (Kd.S_types HO285.out BK306.out (by decide)) (fun _ hk => hk.2) (.string t287)) (fun _ hk => hk.2) (.int .i64 t288)) (fun _ hk => hk.2) (.int .i64 t289)) (fun _ hk => hk.2) (.int .i64 t290)) (fun _ hk => hk.2) (.int .i64 t291)) (fun _ hk => hk.2) (.slice Ao57 t292.length co57)) (fun _ hk => hk.2) (.int .i64 t295)) (fun _ hk => hk.2) (.int .i64 t296)) (fun _ hk => hk.2) (.slice Ao58 t297.length co58)) (fun _ hk => hk.2) (.slice Ao59 t300.length co59)) (fun _ hk => hk.2) (.slice Ao60 t303.length co60)) (fun _ h_ => h_.1))) (Kd.S_base ho3) hb); have n8_ := Aside0.mk (Kd.R_elder' (by (with_reducible repeat (first | apply Kd.R_alloc | apply Kd.R_drewN | apply Kd.R_drew)); exact (Kd.R_mono (Kd.R_far (p := ⟨gb306, 10, none⟩) (Kd.R_far (p := ⟨gb306, 9, none⟩) (Kd.R_far (p := ⟨gb306, 8, none⟩) (Kd.R_far (p := ⟨gb306, 7, none⟩) (Kd.R_far (p := ⟨gb306, 6, none⟩) (Kd.R_far (p := ⟨gb306, 5, none⟩) (Kd.R_far (p := ⟨gb306, 4, none⟩) (Kd.R_far (p := ⟨gb306, 3, none⟩) (Kd.R_far (p := ⟨gb306, 2, none⟩) (Kd.R_far (p := ⟨gb306, 1, none⟩) (Kd.R_far (p := ⟨gb306, 0, none⟩) (Kd.R_types HO294.out BK306.out (by decide)) (fun _ hk => hk.2) (.string t287)) (fun _ hk => hk.2) (.int .i64 t288)) (fun _ hk => hk.2) (.int .i64 t289)) (fun _ hk => hk.2) (.int .i64 t290)) (fun _ hk => hk.2) (.int .i64 t291)) (fun _ hk => hk.2) (.slice Ao57 t292.length co57)) (fun _ hk => hk.2) (.int .i64 t295)) (fun _ hk => hk.2) (.int .i64 t296)) (fun _ hk => hk.2) (.slice Ao58 t297.length co58)) (fun _ hk => hk.2) (.slice Ao59 t300.length co59)) (fun _ hk => hk.2) (.slice Ao60 t303.length co60)) (fun _ h_ => h_.1))) (Kd.R_base ho0) hb); have n9_ := Aside0.mk (Kd.R_mono (Kd.R_told (Kd.R_told (Kd.R_old (by (with_reducible repeat (first | apply Kd.R_alloc | apply Kd.R_drewN | apply Kd.R_drew)); exact (Kd.R_mono (Kd.R_far (p := ⟨gb306, 10, none⟩) (Kd.R_far (p := ⟨gb306, 9, none⟩) (Kd.R_far (p := ⟨gb306, 8, none⟩) (Kd.R_far (p := ⟨gb306, 7, none⟩) (Kd.R_far (p := ⟨gb306, 6, none⟩) (Kd.R_far (p := ⟨gb306, 5, none⟩) (Kd.R_far (p := ⟨gb306, 4, none⟩) (Kd.R_far (p := ⟨gb306, 3, none⟩) (Kd.R_far (p := ⟨gb306, 2, none⟩) (Kd.R_far (p := ⟨gb306, 1, none⟩) (Kd.R_far (p := ⟨gb306, 0, none⟩) (Kd.R_types HO299.out BK306.out (by decide)) (fun _ hk => hk.2) (.string t287)) (fun _ hk => hk.2) (.int .i64 t288)) (fun _ hk => hk.2) (.int .i64 t289)) (fun _ hk => hk.2) (.int .i64 t290)) (fun _ hk => hk.2) (.int .i64 t291)) (fun _ hk => hk.2) (.slice Ao57 t292.length co57)) (fun _ hk => hk.2) (.int .i64 t295)) (fun _ hk => hk.2) (.int .i64 t296)) (fun _ hk => hk.2) (.slice Ao58 t297.length co58)) (fun _ hk => hk.2) (.slice Ao59 t300.length co59)) (fun _ hk => hk.2) (.slice Ao60 t303.length co60)) (fun _ h_ => h_.1))) hb) (Kd.R_base ho1)) (Kd.R_base ho2)) (fun _ h_ => h_.1)); have n10_ := Aside0.mk (Kd.R_mono (Kd.R_told (Kd.R_told (Kd.R_old (by (with_reducible repeat (first | apply Kd.R_alloc | apply Kd.R_drewN | apply Kd.R_drew)); exact (Kd.R_mono (Kd.R_far (p := ⟨gb306, 10, none⟩) (Kd.R_far (p := ⟨gb306, 9, none⟩) (Kd.R_far (p := ⟨gb306, 8, none⟩) (Kd.R_far (p := ⟨gb306, 7, none⟩) (Kd.R_far (p := ⟨gb306, 6, none⟩) (Kd.R_far (p := ⟨gb306, 5, none⟩) (Kd.R_far (p := ⟨gb306, 4, none⟩) (Kd.R_far (p := ⟨gb306, 3, none⟩) (Kd.R_far (p := ⟨gb306, 2, none⟩) (Kd.R_far (p := ⟨gb306, 1, none⟩) (Kd.R_far (p := ⟨gb306, 0, none⟩) (Kd.R_types HO302.out BK306.out (by decide)) (fun _ hk => hk.2) (.string t287)) (fun _ hk => hk.2) (.int .i64 t288)) (fun _ hk => hk.2) (.int .i64 t289)) (fun _ hk => hk.2) (.int .i64 t290)) (fun _ hk => hk.2) (.int .i64 t291)) (fun _ hk => hk.2) (.slice Ao57 t292.length co57)) (fun _ hk => hk.2) (.int .i64 t295)) (fun _ hk => hk.2) (.int .i64 t296)) (fun _ hk => hk.2) (.slice Ao58 t297.length co58)) (fun _ hk => hk.2) (.slice Ao59 t300.length co59)) (fun _ hk => hk.2) (.slice Ao60 t303.length co60)) (fun _ h_ => h_.1))) hb) (Kd.R_base ho1)) (Kd.R_base ho2)) (fun _ h_ => h_.1)); have n11_ := Aside0.mk (Kd.S_elder' (by (with_reducible repeat (first | apply Kd.S_alloc | apply Kd.S_drewN | apply Kd.S_drew)); exact (Kd.S_mono (Kd.S_far (p := ⟨gb306, 10, none⟩) (Kd.S_far (p := ⟨gb306, 9, none⟩) (Kd.S_far (p := ⟨gb306, 8, none⟩) (Kd.S_far (p := ⟨gb306, 7, none⟩) (Kd.S_far (p := ⟨gb306, 6, none⟩) (Kd.S_far (p := ⟨gb306, 5, none⟩) (Kd.S_far (p := ⟨gb306, 4, none⟩) (Kd.S_far (p := ⟨gb306, 3, none⟩) (Kd.S_far (p := ⟨gb306, 2, none⟩) (Kd.S_far (p := ⟨gb306, 1, none⟩) (Kd.S_far (p := ⟨gb306, 0, none⟩) (Kd.S_types HO305.out BK306.out (by decide)) (fun _ hk => hk.2) (.string t287)) (fun _ hk => hk.2) (.int .i64 t288)) (fun _ hk => hk.2) (.int .i64 t289)) (fun _ hk => hk.2) (.int .i64 t290)) (fun _ hk => hk.2) (.int .i64 t291)) (fun _ hk => hk.2) (.slice Ao57 t292.length co57)) (fun _ hk => hk.2) (.int .i64 t295)) (fun _ hk => hk.2) (.int .i64 t296)) (fun _ hk => hk.2) (.slice Ao58 t297.length co58)) (fun _ hk => hk.2) (.slice Ao59 t300.length co59)) (fun _ hk => hk.2) (.slice Ao60 t303.length co60)) (fun _ h_ => h_.1))) (Kd.S_base ho3) hb); have n12_ := Aside0.mk (Kd.R_lower (Kd.R_new' (Kd.R_new' (Kd.R_new' ho0 (Kd.R_lt (by (with_reducible repeat (first | apply Kd.R_alloc | apply Kd.R_drewN | apply Kd.R_drew)); exact (Kd.R_mono (Kd.R_far (p := ⟨gb306, 10, none⟩) (Kd.R_far (p := ⟨gb306, 9, none⟩) (Kd.R_far (p := ⟨gb306, 8, none⟩) (Kd.R_far (p := ⟨gb306, 7, none⟩) (Kd.R_far (p := ⟨gb306, 6, none⟩) (Kd.R_far (p := ⟨gb306, 5, none⟩) (Kd.R_far (p := ⟨gb306, 4, none⟩) (Kd.R_far (p := ⟨gb306, 3, none⟩) (Kd.R_far (p := ⟨gb306, 2, none⟩) (Kd.R_far (p := ⟨gb306, 1, none⟩) (Kd.R_far (p := ⟨gb306, 0, none⟩) (Kd.R_types HO255.out BK306.out (by decide)) (fun _ hk => hk.2) (.string t287)) (fun _ hk => hk.2) (.int .i64 t288)) (fun _ hk => hk.2) (.int .i64 t289)) (fun _ hk => hk.2) (.int .i64 t290)) (fun _ hk => hk.2) (.int .i64 t291)) (fun _ hk => hk.2) (.slice Ao57 t292.length co57)) (fun _ hk => hk.2) (.int .i64 t295)) (fun _ hk => hk.2) (.int .i64 t296)) (fun _ hk => hk.2) (.slice Ao58 t297.length co58)) (fun _ hk => hk.2) (.slice Ao59 t300.length co59)) (fun _ hk => hk.2) (.slice Ao60 t303.length co60)) (fun _ h_ => h_.1))))) (Kd.R_lt (by (with_reducible repeat (first | apply Kd.R_alloc | apply Kd.R_drewN | apply Kd.R_drew)); exact (Kd.R_mono (Kd.R_far (p := ⟨gb306, 10, none⟩) (Kd.R_far (p := ⟨gb306, 9, none⟩) (Kd.R_far (p := ⟨gb306, 8, none⟩) (Kd.R_far (p := ⟨gb306, 7, none⟩) (Kd.R_far (p := ⟨gb306, 6, none⟩) (Kd.R_far (p := ⟨gb306, 5, none⟩) (Kd.R_far (p := ⟨gb306, 4, none⟩) (Kd.R_far (p := ⟨gb306, 3, none⟩) (Kd.R_far (p := ⟨gb306, 2, none⟩) (Kd.R_far (p := ⟨gb306, 1, none⟩) (Kd.R_far (p := ⟨gb306, 0, none⟩) (Kd.R_types HO274.out BK306.out (by decide)) (fun _ hk => hk.2) (.string t287)) (fun _ hk => hk.2) (.int .i64 t288)) (fun _ hk => hk.2) (.int .i64 t289)) (fun _ hk => hk.2) (.int .i64 t290)) (fun _ hk => hk.2) (.int .i64 t291)) (fun _ hk => hk.2) (.slice Ao57 t292.length co57)) (fun _ hk => hk.2) (.int .i64 t295)) (fun _ hk => hk.2) (.int .i64 t296)) (fun _ hk => hk.2) (.slice Ao58 t297.length co58)) (fun _ hk => hk.2) (.slice Ao59 t300.length co59)) (fun _ hk => hk.2) (.slice Ao60 t303.length co60)) (fun _ h_ => h_.1))))) (Kd.R_lt (by (with_reducible repeat (first | apply Kd.R_alloc | apply Kd.R_drewN | apply Kd.R_drew)); exact (Kd.R_mono (Kd.R_far (p := ⟨gb306, 10, none⟩) (Kd.R_far (p := ⟨gb306, 9, none⟩) (Kd.R_far (p := ⟨gb306, 8, none⟩) (Kd.R_far (p := ⟨gb306, 7, none⟩) (Kd.R_far (p := ⟨gb306, 6, none⟩) (Kd.R_far (p := ⟨gb306, 5, none⟩) (Kd.R_far (p := ⟨gb306, 4, none⟩) (Kd.R_far (p := ⟨gb306, 3, none⟩) (Kd.R_far (p := ⟨gb306, 2, none⟩) (Kd.R_far (p := ⟨gb306, 1, none⟩) (Kd.R_far (p := ⟨gb306, 0, none⟩) (Kd.R_types HO294.out BK306.out (by decide)) (fun _ hk => hk.2) (.string t287)) (fun _ hk => hk.2) (.int .i64 t288)) (fun _ hk => hk.2) (.int .i64 t289)) (fun _ hk => hk.2) (.int .i64 t290)) (fun _ hk => hk.2) (.int .i64 t291)) (fun _ hk => hk.2) (.slice Ao57 t292.length co57)) (fun _ hk => hk.2) (.int .i64 t295)) (fun _ hk => hk.2) (.int .i64 t296)) (fun _ hk => hk.2) (.slice Ao58 t297.length co58)) (fun _ hk => hk.2) (.slice Ao59 t300.length co59)) (fun _ hk => hk.2) (.slice Ao60 t303.length co60)) (fun _ h_ => h_.1))))) (below_size bl_)); have n13_ := Aside0.mk (Kd.R_lower (Kd.R_new' (Kd.R_new' (Kd.R_new' (Kd.R_new' (Kd.R_new' (Kd.R_new' ho1 (Kd.R_lt (by (with_reducible repeat (first | apply Kd.R_alloc | apply Kd.R_drewN | apply Kd.R_drew)); exact (Kd.R_mono (Kd.R_far (p := ⟨gb306, 10, none⟩) (Kd.R_far (p := ⟨gb306, 9, none⟩) (Kd.R_far (p := ⟨gb306, 8, none⟩) (Kd.R_far (p := ⟨gb306, 7, none⟩) (Kd.R_far (p := ⟨gb306, 6, none⟩) (Kd.R_far (p := ⟨gb306, 5, none⟩) (Kd.R_far (p := ⟨gb306, 4, none⟩) (Kd.R_far (p := ⟨gb306, 3, none⟩) (Kd.R_far (p := ⟨gb306, 2, none⟩) (Kd.R_far (p := ⟨gb306, 1, none⟩) (Kd.R_far (p := ⟨gb306, 0, none⟩) (Kd.R_types HO260.out BK306.out (by decide)) (fun _ hk => hk.2) (.string t287)) (fun _ hk => hk.2) (.int .i64 t288)) (fun _ hk => hk.2) (.int .i64 t289)) (fun _ hk => hk.2) (.int .i64 t290)) (fun _ hk => hk.2) (.int .i64 t291)) (fun _ hk => hk.2) (.slice Ao57 t292.length co57)) (fun _ hk => hk.2) (.int .i64 t295)) (fun _ hk => hk.2) (.int .i64 t296)) (fun _ hk => hk.2) (.slice Ao58 t297.length co58)) (fun _ hk => hk.2) (.slice Ao59 t300.length co59)) (fun _ hk => hk.2) (.slice Ao60 t303.length co60)) (fun _ h_ => h_.1))))) (Kd.R_lt (by (with_reducible repeat (first | apply Kd.R_alloc | apply Kd.R_drewN | apply Kd.R_drew)); exact (Kd.R_mono (Kd.R_far (p := ⟨gb306, 10, none⟩) (Kd.R_far (p := ⟨gb306, 9, none⟩) (Kd.R_far (p := ⟨gb306, 8, none⟩) (Kd.R_far (p := ⟨gb306, 7, none⟩) (Kd.R_far (p := ⟨gb306, 6, none⟩) (Kd.R_far (p := ⟨gb306, 5, none⟩) (Kd.R_far (p := ⟨gb306, 4, none⟩) (Kd.R_far (p := ⟨gb306, 3, none⟩) (Kd.R_far (p := ⟨gb306, 2, none⟩) (Kd.R_far (p := ⟨gb306, 1, none⟩) (Kd.R_far (p := ⟨gb306, 0, none⟩) (Kd.R_types HO263.out BK306.out (by decide)) (fun _ hk => hk.2) (.string t287)) (fun _ hk => hk.2) (.int .i64 t288)) (fun _ hk => hk.2) (.int .i64 t289)) (fun _ hk => hk.2) (.int .i64 t290)) (fun _ hk => hk.2) (.int .i64 t291)) (fun _ hk => hk.2) (.slice Ao57 t292.length co57)) (fun _ hk => hk.2) (.int .i64 t295)) (fun _ hk => hk.2) (.int .i64 t296)) (fun _ hk => hk.2) (.slice Ao58 t297.length co58)) (fun _ hk => hk.2) (.slice Ao59 t300.length co59)) (fun _ hk => hk.2) (.slice Ao60 t303.length co60)) (fun _ h_ => h_.1))))) (Kd.R_lt (by (with_reducible repeat (first | apply Kd.R_alloc | apply Kd.R_drewN | apply Kd.R_drew)); exact (Kd.R_mono (Kd.R_far (p := ⟨gb306, 10, none⟩) (Kd.R_far (p := ⟨gb306, 9, none⟩) (Kd.R_far (p := ⟨gb306, 8, none⟩) (Kd.R_far (p := ⟨gb306, 7, none⟩) (Kd.R_far (p := ⟨gb306, 6, none⟩) (Kd.R_far (p := ⟨gb306, 5, none⟩) (Kd.R_far (p := ⟨gb306, 4, none⟩) (Kd.R_far (p := ⟨gb306, 3, none⟩) (Kd.R_far (p := ⟨gb306, 2, none⟩) (Kd.R_far (p := ⟨gb306, 1, none⟩) (Kd.R_far (p := ⟨gb306, 0, none⟩) (Kd.R_types HO279.out BK306.out (by decide)) (fun _ hk => hk.2) (.string t287)) (fun _ hk => hk.2) (.int .i64 t288)) (fun _ hk => hk.2) (.int .i64 t289)) (fun _ hk => hk.2) (.int .i64 t290)) (fun _ hk => hk.2) (.int .i64 t291)) (fun _ hk => hk.2) (.slice Ao57 t292.length co57)) (fun _ hk => hk.2) (.int .i64 t295)) (fun _ hk => hk.2) (.int .i64 t296)) (fun _ hk => hk.2) (.slice Ao58 t297.length co58)) (fun _ hk => hk.2) (.slice Ao59 t300.length co59)) (fun _ hk => hk.2) (.slice Ao60 t303.length co60)) (fun _ h_ => h_.1))))) (Kd.R_lt (by (with_reducible repeat (first | apply Kd.R_alloc | apply Kd.R_drewN | apply Kd.R_drew)); exact (Kd.R_mono (Kd.R_far (p := ⟨gb306, 10, none⟩) (Kd.R_far (p := ⟨gb306, 9, none⟩) (Kd.R_far (p := ⟨gb306, 8, none⟩) (Kd.R_far (p := ⟨gb306, 7, none⟩) (Kd.R_far (p := ⟨gb306, 6, none⟩) (Kd.R_far (p := ⟨gb306, 5, none⟩) (Kd.R_far (p := ⟨gb306, 4, none⟩) (Kd.R_far (p := ⟨gb306, 3, none⟩) (Kd.R_far (p := ⟨gb306, 2, none⟩) (Kd.R_far (p := ⟨gb306, 1, none⟩) (Kd.R_far (p := ⟨gb306, 0, none⟩) (Kd.R_types HO282.out BK306.out (by decide)) (fun _ hk => hk.2) (.string t287)) (fun _ hk => hk.2) (.int .i64 t288)) (fun _ hk => hk.2) (.int .i64 t289)) (fun _ hk => hk.2) (.int .i64 t290)) (fun _ hk => hk.2) (.int .i64 t291)) (fun _ hk => hk.2) (.slice Ao57 t292.length co57)) (fun _ hk => hk.2) (.int .i64 t295)) (fun _ hk => hk.2) (.int .i64 t296)) (fun _ hk => hk.2) (.slice Ao58 t297.length co58)) (fun _ hk => hk.2) (.slice Ao59 t300.length co59)) (fun _ hk => hk.2) (.slice Ao60 t303.length co60)) (fun _ h_ => h_.1))))) (Kd.R_lt (by (with_reducible repeat (first | apply Kd.R_alloc | apply Kd.R_drewN | apply Kd.R_drew)); exact (Kd.R_mono (Kd.R_far (p := ⟨gb306, 10, none⟩) (Kd.R_far (p := ⟨gb306, 9, none⟩) (Kd.R_far (p := ⟨gb306, 8, none⟩) (Kd.R_far (p := ⟨gb306, 7, none⟩) (Kd.R_far (p := ⟨gb306, 6, none⟩) (Kd.R_far (p := ⟨gb306, 5, none⟩) (Kd.R_far (p := ⟨gb306, 4, none⟩) (Kd.R_far (p := ⟨gb306, 3, none⟩) (Kd.R_far (p := ⟨gb306, 2, none⟩) (Kd.R_far (p := ⟨gb306, 1, none⟩) (Kd.R_far (p := ⟨gb306, 0, none⟩) (Kd.R_types HO299.out BK306.out (by decide)) (fun _ hk => hk.2) (.string t287)) (fun _ hk => hk.2) (.int .i64 t288)) (fun _ hk => hk.2) (.int .i64 t289)) (fun _ hk => hk.2) (.int .i64 t290)) (fun _ hk => hk.2) (.int .i64 t291)) (fun _ hk => hk.2) (.slice Ao57 t292.length co57)) (fun _ hk => hk.2) (.int .i64 t295)) (fun _ hk => hk.2) (.int .i64 t296)) (fun _ hk => hk.2) (.slice Ao58 t297.length co58)) (fun _ hk => hk.2) (.slice Ao59 t300.length co59)) (fun _ hk => hk.2) (.slice Ao60 t303.length co60)) (fun _ h_ => h_.1))))) (Kd.R_lt (by (with_reducible repeat (first | apply Kd.R_alloc | apply Kd.R_drewN | apply Kd.R_drew)); exact (Kd.R_mono (Kd.R_far (p := ⟨gb306, 10, none⟩) (Kd.R_far (p := ⟨gb306, 9, none⟩) (Kd.R_far (p := ⟨gb306, 8, none⟩) (Kd.R_far (p := ⟨gb306, 7, none⟩) (Kd.R_far (p := ⟨gb306, 6, none⟩) (Kd.R_far (p := ⟨gb306, 5, none⟩) (Kd.R_far (p := ⟨gb306, 4, none⟩) (Kd.R_far (p := ⟨gb306, 3, none⟩) (Kd.R_far (p := ⟨gb306, 2, none⟩) (Kd.R_far (p := ⟨gb306, 1, none⟩) (Kd.R_far (p := ⟨gb306, 0, none⟩) (Kd.R_types HO302.out BK306.out (by decide)) (fun _ hk => hk.2) (.string t287)) (fun _ hk => hk.2) (.int .i64 t288)) (fun _ hk => hk.2) (.int .i64 t289)) (fun _ hk => hk.2) (.int .i64 t290)) (fun _ hk => hk.2) (.int .i64 t291)) (fun _ hk => hk.2) (.slice Ao57 t292.length co57)) (fun _ hk => hk.2) (.int .i64 t295)) (fun _ hk => hk.2) (.int .i64 t296)) (fun _ hk => hk.2) (.slice Ao58 t297.length co58)) (fun _ hk => hk.2) (.slice Ao59 t300.length co59)) (fun _ hk => hk.2) (.slice Ao60 t303.length co60)) (fun _ h_ => h_.1))))) (below_size bl_)); have n14_ := Aside0.mk (Kd.R_lower (Kd.R_new' (Kd.R_new' (Kd.R_new' (Kd.R_new' (Kd.R_new' (Kd.R_new' ho2 (Kd.R_lt (by (with_reducible repeat (first | apply Kd.R_alloc | apply Kd.R_drewN | apply Kd.R_drew)); exact (Kd.R_mono (Kd.R_far (p := ⟨gb306, 10, none⟩) (Kd.R_far (p := ⟨gb306, 9, none⟩) (Kd.R_far (p := ⟨gb306, 8, none⟩) (Kd.R_far (p := ⟨gb306, 7, none⟩) (Kd.R_far (p := ⟨gb306, 6, none⟩) (Kd.R_far (p := ⟨gb306, 5, none⟩) (Kd.R_far (p := ⟨gb306, 4, none⟩) (Kd.R_far (p := ⟨gb306, 3, none⟩) (Kd.R_far (p := ⟨gb306, 2, none⟩) (Kd.R_far (p := ⟨gb306, 1, none⟩) (Kd.R_far (p := ⟨gb306, 0, none⟩) (Kd.R_types HO260.out BK306.out (by decide)) (fun _ hk => hk.2) (.string t287)) (fun _ hk => hk.2) (.int .i64 t288)) (fun _ hk => hk.2) (.int .i64 t289)) (fun _ hk => hk.2) (.int .i64 t290)) (fun _ hk => hk.2) (.int .i64 t291)) (fun _ hk => hk.2) (.slice Ao57 t292.length co57)) (fun _ hk => hk.2) (.int .i64 t295)) (fun _ hk => hk.2) (.int .i64 t296)) (fun _ hk => hk.2) (.slice Ao58 t297.length co58)) (fun _ hk => hk.2) (.slice Ao59 t300.length co59)) (fun _ hk => hk.2) (.slice Ao60 t303.length co60)) (fun _ h_ => h_.1))))) (Kd.R_lt (by (with_reducible repeat (first | apply Kd.R_alloc | apply Kd.R_drewN | apply Kd.R_drew)); exact (Kd.R_mono (Kd.R_far (p := ⟨gb306, 10, none⟩) (Kd.R_far (p := ⟨gb306, 9, none⟩) (Kd.R_far (p := ⟨gb306, 8, none⟩) (Kd.R_far (p := ⟨gb306, 7, none⟩) (Kd.R_far (p := ⟨gb306, 6, none⟩) (Kd.R_far (p := ⟨gb306, 5, none⟩) (Kd.R_far (p := ⟨gb306, 4, none⟩) (Kd.R_far (p := ⟨gb306, 3, none⟩) (Kd.R_far (p := ⟨gb306, 2, none⟩) (Kd.R_far (p := ⟨gb306, 1, none⟩) (Kd.R_far (p := ⟨gb306, 0, none⟩) (Kd.R_types HO263.out BK306.out (by decide)) (fun _ hk => hk.2) (.string t287)) (fun _ hk => hk.2) (.int .i64 t288)) (fun _ hk => hk.2) (.int .i64 t289)) (fun _ hk => hk.2) (.int .i64 t290)) (fun _ hk => hk.2) (.int .i64 t291)) (fun _ hk => hk.2) (.slice Ao57 t292.length co57)) (fun _ hk => hk.2) (.int .i64 t295)) (fun _ hk => hk.2) (.int .i64 t296)) (fun _ hk => hk.2) (.slice Ao58 t297.length co58)) (fun _ hk => hk.2) (.slice Ao59 t300.length co59)) (fun _ hk => hk.2) (.slice Ao60 t303.length co60)) (fun _ h_ => h_.1))))) (Kd.R_lt (by (with_reducible repeat (first | apply Kd.R_alloc | apply Kd.R_drewN | apply Kd.R_drew)); exact (Kd.R_mono (Kd.R_far (p := ⟨gb306, 10, none⟩) (Kd.R_far (p := ⟨gb306, 9, none⟩) (Kd.R_far (p := ⟨gb306, 8, none⟩) (Kd.R_far (p := ⟨gb306, 7, none⟩) (Kd.R_far (p := ⟨gb306, 6, none⟩) (Kd.R_far (p := ⟨gb306, 5, none⟩) (Kd.R_far (p := ⟨gb306, 4, none⟩) (Kd.R_far (p := ⟨gb306, 3, none⟩) (Kd.R_far (p := ⟨gb306, 2, none⟩) (Kd.R_far (p := ⟨gb306, 1, none⟩) (Kd.R_far (p := ⟨gb306, 0, none⟩) (Kd.R_types HO279.out BK306.out (by decide)) (fun _ hk => hk.2) (.string t287)) (fun _ hk => hk.2) (.int .i64 t288)) (fun _ hk => hk.2) (.int .i64 t289)) (fun _ hk => hk.2) (.int .i64 t290)) (fun _ hk => hk.2) (.int .i64 t291)) (fun _ hk => hk.2) (.slice Ao57 t292.length co57)) (fun _ hk => hk.2) (.int .i64 t295)) (fun _ hk => hk.2) (.int .i64 t296)) (fun _ hk => hk.2) (.slice Ao58 t297.length co58)) (fun _ hk => hk.2) (.slice Ao59 t300.length co59)) (fun _ hk => hk.2) (.slice Ao60 t303.length co60)) (fun _ h_ => h_.1))))) (Kd.R_lt (by (with_reducible repeat (first | apply Kd.R_alloc | apply Kd.R_drewN | apply Kd.R_drew)); exact (Kd.R_mono (Kd.R_far (p := ⟨gb306, 10, none⟩) (Kd.R_far (p := ⟨gb306, 9, none⟩) (Kd.R_far (p := ⟨gb306, 8, none⟩) (Kd.R_far (p := ⟨gb306, 7, none⟩) (Kd.R_far (p := ⟨gb306, 6, none⟩) (Kd.R_far (p := ⟨gb306, 5, none⟩) (Kd.R_far (p := ⟨gb306, 4, none⟩) (Kd.R_far (p := ⟨gb306, 3, none⟩) (Kd.R_far (p := ⟨gb306, 2, none⟩) (Kd.R_far (p := ⟨gb306, 1, none⟩) (Kd.R_far (p := ⟨gb306, 0, none⟩) (Kd.R_types HO282.out BK306.out (by decide)) (fun _ hk => hk.2) (.string t287)) (fun _ hk => hk.2) (.int .i64 t288)) (fun _ hk => hk.2) (.int .i64 t289)) (fun _ hk => hk.2) (.int .i64 t290)) (fun _ hk => hk.2) (.int .i64 t291)) (fun _ hk => hk.2) (.slice Ao57 t292.length co57)) (fun _ hk => hk.2) (.int .i64 t295)) (fun _ hk => hk.2) (.int .i64 t296)) (fun _ hk => hk.2) (.slice Ao58 t297.length co58)) (fun _ hk => hk.2) (.slice Ao59 t300.length co59)) (fun _ hk => hk.2) (.slice Ao60 t303.length co60)) (fun _ h_ => h_.1))))) (Kd.R_lt (by (with_reducible repeat (first | apply Kd.R_alloc | apply Kd.R_drewN | apply Kd.R_drew)); exact (Kd.R_mono (Kd.R_far (p := ⟨gb306, 10, none⟩) (Kd.R_far (p := ⟨gb306, 9, none⟩) (Kd.R_far (p := ⟨gb306, 8, none⟩) (Kd.R_far (p := ⟨gb306, 7, none⟩) (Kd.R_far (p := ⟨gb306, 6, none⟩) (Kd.R_far (p := ⟨gb306, 5, none⟩) (Kd.R_far (p := ⟨gb306, 4, none⟩) (Kd.R_far (p := ⟨gb306, 3, none⟩) (Kd.R_far (p := ⟨gb306, 2, none⟩) (Kd.R_far (p := ⟨gb306, 1, none⟩) (Kd.R_far (p := ⟨gb306, 0, none⟩) (Kd.R_types HO299.out BK306.out (by decide)) (fun _ hk => hk.2) (.string t287)) (fun _ hk => hk.2) (.int .i64 t288)) (fun _ hk => hk.2) (.int .i64 t289)) (fun _ hk => hk.2) (.int .i64 t290)) (fun _ hk => hk.2) (.int .i64 t291)) (fun _ hk => hk.2) (.slice Ao57 t292.length co57)) (fun _ hk => hk.2) (.int .i64 t295)) (fun _ hk => hk.2) (.int .i64 t296)) (fun _ hk => hk.2) (.slice Ao58 t297.length co58)) (fun _ hk => hk.2) (.slice Ao59 t300.length co59)) (fun _ hk => hk.2) (.slice Ao60 t303.length co60)) (fun _ h_ => h_.1))))) (Kd.R_lt (by (with_reducible repeat (first | apply Kd.R_alloc | apply Kd.R_drewN | apply Kd.R_drew)); exact (Kd.R_mono (Kd.R_far (p := ⟨gb306, 10, none⟩) (Kd.R_far (p := ⟨gb306, 9, none⟩) (Kd.R_far (p := ⟨gb306, 8, none⟩) (Kd.R_far (p := ⟨gb306, 7, none⟩) (Kd.R_far (p := ⟨gb306, 6, none⟩) (Kd.R_far (p := ⟨gb306, 5, none⟩) (Kd.R_far (p := ⟨gb306, 4, none⟩) (Kd.R_far (p := ⟨gb306, 3, none⟩) (Kd.R_far (p := ⟨gb306, 2, none⟩) (Kd.R_far (p := ⟨gb306, 1, none⟩) (Kd.R_far (p := ⟨gb306, 0, none⟩) (Kd.R_types HO302.out BK306.out (by decide)) (fun _ hk => hk.2) (.string t287)) (fun _ hk => hk.2) (.int .i64 t288)) (fun _ hk => hk.2) (.int .i64 t289)) (fun _ hk => hk.2) (.int .i64 t290)) (fun _ hk => hk.2) (.int .i64 t291)) (fun _ hk => hk.2) (.slice Ao57 t292.length co57)) (fun _ hk => hk.2) (.int .i64 t295)) (fun _ hk => hk.2) (.int .i64 t296)) (fun _ hk => hk.2) (.slice Ao58 t297.length co58)) (fun _ hk => hk.2) (.slice Ao59 t300.length co59)) (fun _ hk => hk.2) (.slice Ao60 t303.length co60)) (fun _ h_ => h_.1))))) (below_size bl_)); have n15_ := Aside0.mk (Kd.S_lower (Kd.S_new' (Kd.S_new' (Kd.S_new' ho3 (Kd.S_lt (by (with_reducible repeat (first | apply Kd.S_alloc | apply Kd.S_drewN | apply Kd.S_drew)); exact (Kd.S_mono (Kd.S_far (p := ⟨gb306, 10, none⟩) (Kd.S_far (p := ⟨gb306, 9, none⟩) (Kd.S_far (p := ⟨gb306, 8, none⟩) (Kd.S_far (p := ⟨gb306, 7, none⟩) (Kd.S_far (p := ⟨gb306, 6, none⟩) (Kd.S_far (p := ⟨gb306, 5, none⟩) (Kd.S_far (p := ⟨gb306, 4, none⟩) (Kd.S_far (p := ⟨gb306, 3, none⟩) (Kd.S_far (p := ⟨gb306, 2, none⟩) (Kd.S_far (p := ⟨gb306, 1, none⟩) (Kd.S_far (p := ⟨gb306, 0, none⟩) (Kd.S_types HO266.out BK306.out (by decide)) (fun _ hk => hk.2) (.string t287)) (fun _ hk => hk.2) (.int .i64 t288)) (fun _ hk => hk.2) (.int .i64 t289)) (fun _ hk => hk.2) (.int .i64 t290)) (fun _ hk => hk.2) (.int .i64 t291)) (fun _ hk => hk.2) (.slice Ao57 t292.length co57)) (fun _ hk => hk.2) (.int .i64 t295)) (fun _ hk => hk.2) (.int .i64 t296)) (fun _ hk => hk.2) (.slice Ao58 t297.length co58)) (fun _ hk => hk.2) (.slice Ao59 t300.length co59)) (fun _ hk => hk.2) (.slice Ao60 t303.length co60)) (fun _ h_ => h_.1))))) (Kd.S_lt (by (with_reducible repeat (first | apply Kd.S_alloc | apply Kd.S_drewN | apply Kd.S_drew)); exact (Kd.S_mono (Kd.S_far (p := ⟨gb306, 10, none⟩) (Kd.S_far (p := ⟨gb306, 9, none⟩) (Kd.S_far (p := ⟨gb306, 8, none⟩) (Kd.S_far (p := ⟨gb306, 7, none⟩) (Kd.S_far (p := ⟨gb306, 6, none⟩) (Kd.S_far (p := ⟨gb306, 5, none⟩) (Kd.S_far (p := ⟨gb306, 4, none⟩) (Kd.S_far (p := ⟨gb306, 3, none⟩) (Kd.S_far (p := ⟨gb306, 2, none⟩) (Kd.S_far (p := ⟨gb306, 1, none⟩) (Kd.S_far (p := ⟨gb306, 0, none⟩) (Kd.S_types HO285.out BK306.out (by decide)) (fun _ hk => hk.2) (.string t287)) (fun _ hk => hk.2) (.int .i64 t288)) (fun _ hk => hk.2) (.int .i64 t289)) (fun _ hk => hk.2) (.int .i64 t290)) (fun _ hk => hk.2) (.int .i64 t291)) (fun _ hk => hk.2) (.slice Ao57 t292.length co57)) (fun _ hk => hk.2) (.int .i64 t295)) (fun _ hk => hk.2) (.int .i64 t296)) (fun _ hk => hk.2) (.slice Ao58 t297.length co58)) (fun _ hk => hk.2) (.slice Ao59 t300.length co59)) (fun _ hk => hk.2) (.slice Ao60 t303.length co60)) (fun _ h_ => h_.1))))) (Kd.S_lt (by (with_reducible repeat (first | apply Kd.S_alloc | apply Kd.S_drewN | apply Kd.S_drew)); exact (Kd.S_mono (Kd.S_far (p := ⟨gb306, 10, none⟩) (Kd.S_far (p := ⟨gb306, 9, none⟩) (Kd.S_far (p := ⟨gb306, 8, none⟩) (Kd.S_far (p := ⟨gb306, 7, none⟩) (Kd.S_far (p := ⟨gb306, 6, none⟩) (Kd.S_far (p := ⟨gb306, 5, none⟩) (Kd.S_far (p := ⟨gb306, 4, none⟩) (Kd.S_far (p := ⟨gb306, 3, none⟩) (Kd.S_far (p := ⟨gb306, 2, none⟩) (Kd.S_far (p := ⟨gb306, 1, none⟩) (Kd.S_far (p := ⟨gb306, 0, none⟩) (Kd.S_types HO305.out BK306.out (by decide)) (fun _ hk => hk.2) (.string t287)) (fun _ hk => hk.2) (.int .i64 t288)) (fun _ hk => hk.2) (.int .i64 t289)) (fun _ hk => hk.2) (.int .i64 t290)) (fun _ hk => hk.2) (.int .i64 t291)) (fun _ hk => hk.2) (.slice Ao57 t292.length co57)) (fun _ hk => hk.2) (.int .i64 t295)) (fun _ hk => hk.2) (.int .i64 t296)) (fun _ hk => hk.2) (.slice Ao58 t297.length co58)) (fun _ hk => hk.2) (.slice Ao59 t300.length co59)) (fun _ hk => hk.2) (.slice Ao60 t303.length co60)) (fun _ h_ => h_.1))))) (below_size bl_)); have n16_ := Aside0.mk (blk_below (g := gb244) (o := .cells #[.string a0_0, .int .i64 a0_1, .int .i64 a0_2, .int .i64 a0_3, .int .i64 a0_4, .slice A0_5 l0_5.length c0_5, .int .i64 a0_6, .int .i64 a0_7, .slice A0_8 l0_8.length c0_8, .slice A0_9 l0_9.length c0_9, .slice A0_10 l0_10.length c0_10] 80 (0, 0)) (by (with_reducible repeat (first | refine blk_drewN ?_ _ | refine blk_drew ?_ | refine blk_alloc ?_ _)); refine blk_far ?_ NB244_306.out _; (with_reducible repeat (first | refine blk_drewN ?_ _ | refine blk_drew ?_ | refine blk_alloc ?_ _)); refine blk_far ?_ NB244_306.out _; (with_reducible repeat (first | refine blk_drewN ?_ _ | refine blk_drew ?_ | refine blk_alloc ?_ _)); refine blk_far ?_ NB244_306.out _; (with_reducible repeat (first | refine blk_drewN ?_ _ | refine blk_drew ?_ | refine blk_alloc ?_ _)); refine blk_far ?_ NB244_306.out _; (with_reducible repeat (first | refine blk_drewN ?_ _ | refine blk_drew ?_ | refine blk_alloc ?_ _)); refine blk_far ?_ NB244_306.out _; (with_reducible repeat (first | refine blk_drewN ?_ _ | refine blk_drew ?_ | refine blk_alloc ?_ _)); refine blk_far ?_ NB244_306.out _; (with_reducible repeat (first | refine blk_drewN ?_ _ | refine blk_drew ?_ | refine blk_alloc ?_ _)); refine blk_far ?_ NB244_306.out _; (with_reducible repeat (first | refine blk_drewN ?_ _ | refine blk_drew ?_ | refine blk_alloc ?_ _)); refine blk_far ?_ NB244_306.out _; (with_reducible repeat (first | refine blk_drewN ?_ _ | refine blk_drew ?_ | refine blk_alloc ?_ _)); refine blk_far ?_ NB244_306.out _; (with_reducible repeat (first | refine blk_drewN ?_ _ | refine blk_drew ?_ | refine blk_alloc ?_ _)); refine blk_far ?_ NB244_306.out _; (with_reducible repeat (first | refine blk_drewN ?_ _ | refine blk_drew ?_ | refine blk_alloc ?_ _)); refine blk_far ?_ NB244_306.out _; (with_reducible repeat (first | refine blk_drewN ?_ _ | refine blk_drew ?_ | refine blk_alloc ?_ _)); exact BK244.out) hb); have n17_ := Aside0.mk (blk_below (g := gb245) (o := .cells #[.string a1_0, .int .i64 a1_1, .int .i64 a1_2, .int .i64 a1_3, .int .i64 a1_4, .slice A1_5 l1_5.length c1_5, .int .i64 a1_6, .int .i64 a1_7, .slice A1_8 l1_8.length c1_8, .slice A1_9 l1_9.length c1_9, .slice A1_10 l1_10.length c1_10] 80 (0, 0)) (by (with_reducible repeat (first | refine blk_drewN ?_ _ | refine blk_drew ?_ | refine blk_alloc ?_ _)); refine blk_far ?_ NB245_306.out _; (with_reducible repeat (first | refine blk_drewN ?_ _ | refine blk_drew ?_ | refine blk_alloc ?_ _)); refine blk_far ?_ NB245_306.out _; (with_reducible repeat (first | refine blk_drewN ?_ _ | refine blk_drew ?_ | refine blk_alloc ?_ _)); refine blk_far ?_ NB245_306.out _; (with_reducible repeat (first | refine blk_drewN ?_ _ | refine blk_drew ?_ | refine blk_alloc ?_ _)); refine blk_far ?_ NB245_306.out _; (with_reducible repeat (first | refine blk_drewN ?_ _ | refine blk_drew ?_ | refine blk_alloc ?_ _)); refine blk_far ?_ NB245_306.out _; (with_reducible repeat (first | refine blk_drewN ?_ _ | refine blk_drew ?_ | refine blk_alloc ?_ _)); refine blk_far ?_ NB245_306.out _; (with_reducible repeat (first | refine blk_drewN ?_ _ | refine blk_drew ?_ | refine blk_alloc ?_ _)); refine blk_far ?_ NB245_306.out _; (with_reducible repeat (first | refine blk_drewN ?_ _ | refine blk_drew ?_ | refine blk_alloc ?_ _)); refine blk_far ?_ NB245_306.out _; (with_reducible repeat (first | refine blk_drewN ?_ _ | refine blk_drew ?_ | refine blk_alloc ?_ _)); refine blk_far ?_ NB245_306.out _; (with_reducible repeat (first | refine blk_drewN ?_ _ | refine blk_drew ?_ | refine blk_alloc ?_ _)); refine blk_far ?_ NB245_306.out _; (with_reducible repeat (first | refine blk_drewN ?_ _ | refine blk_drew ?_ | refine blk_alloc ?_ _)); refine blk_far ?_ NB245_306.out _; (with_reducible repeat (first | refine blk_drewN ?_ _ | refine blk_drew ?_ | refine blk_alloc ?_ _)); exact BK245.out) hb); have n18_ := Aside0.mk (blk_below (g := gb306) (o := .cells #[.string t287, .int .i64 t288, .int .i64 t289, .int .i64 t290, .int .i64 t291, .slice Ao57 t292.length co57, .int .i64 t295, .int .i64 t296, .slice Ao58 t297.length co58, .slice Ao59 t300.length co59, .slice Ao60 t303.length co60] 85 (0, 0)) (by (with_reducible repeat (first | refine blk_drewN ?_ _ | refine blk_drew ?_ | refine blk_alloc ?_ _)); refine blk_put (cs := #[.string t287, .int .i64 t288, .int .i64 t289, .int .i64 t290, .int .i64 t291, .slice Ao57 t292.length co57, .int .i64 t295, .int .i64 t296, .slice Ao58 t297.length co58, .slice Ao59 t300.length co59, .slice none 0 0]) ?_ 10 _ rfl; (with_reducible repeat (first | refine blk_drewN ?_ _ | refine blk_drew ?_ | refine blk_alloc ?_ _)); refine blk_put (cs := #[.string t287, .int .i64 t288, .int .i64 t289, .int .i64 t290, .int .i64 t291, .slice Ao57 t292.length co57, .int .i64 t295, .int .i64 t296, .slice Ao58 t297.length co58, .slice none 0 0, .slice none 0 0]) ?_ 9 _ rfl; (with_reducible repeat (first | refine blk_drewN ?_ _ | refine blk_drew ?_ | refine blk_alloc ?_ _)); refine blk_put (cs := #[.string t287, .int .i64 t288, .int .i64 t289, .int .i64 t290, .int .i64 t291, .slice Ao57 t292.length co57, .int .i64 t295, .int .i64 t296, .slice none 0 0, .slice none 0 0, .slice none 0 0]) ?_ 8 _ rfl; (with_reducible repeat (first | refine blk_drewN ?_ _ | refine blk_drew ?_ | refine blk_alloc ?_ _)); refine blk_put (cs := #[.string t287, .int .i64 t288, .int .i64 t289, .int .i64 t290, .int .i64 t291, .slice Ao57 t292.length co57, .int .i64 t295, .int .i64 0, .slice none 0 0, .slice none 0 0, .slice none 0 0]) ?_ 7 _ rfl; (with_reducible repeat (first | refine blk_drewN ?_ _ | refine blk_drew ?_ | refine blk_alloc ?_ _)); refine blk_put (cs := #[.string t287, .int .i64 t288, .int .i64 t289, .int .i64 t290, .int .i64 t291, .slice Ao57 t292.length co57, .int .i64 0, .int .i64 0, .slice none 0 0, .slice none 0 0, .slice none 0 0]) ?_ 6 _ rfl; (with_reducible repeat (first | refine blk_drewN ?_ _ | refine blk_drew ?_ | refine blk_alloc ?_ _)); refine blk_put (cs := #[.string t287, .int .i64 t288, .int .i64 t289, .int .i64 t290, .int .i64 t291, .slice none 0 0, .int .i64 0, .int .i64 0, .slice none 0 0, .slice none 0 0, .slice none 0 0]) ?_ 5 _ rfl; (with_reducible repeat (first | refine blk_drewN ?_ _ | refine blk_drew ?_ | refine blk_alloc ?_ _)); refine blk_put (cs := #[.string t287, .int .i64 t288, .int .i64 t289, .int .i64 t290, .int .i64 0, .slice none 0 0, .int .i64 0, .int .i64 0, .slice none 0 0, .slice none 0 0, .slice none 0 0]) ?_ 4 _ rfl; (with_reducible repeat (first | refine blk_drewN ?_ _ | refine blk_drew ?_ | refine blk_alloc ?_ _)); refine blk_put (cs := #[.string t287, .int .i64 t288, .int .i64 t289, .int .i64 0, .int .i64 0, .slice none 0 0, .int .i64 0, .int .i64 0, .slice none 0 0, .slice none 0 0, .slice none 0 0]) ?_ 3 _ rfl; (with_reducible repeat (first | refine blk_drewN ?_ _ | refine blk_drew ?_ | refine blk_alloc ?_ _)); refine blk_put (cs := #[.string t287, .int .i64 t288, .int .i64 0, .int .i64 0, .int .i64 0, .slice none 0 0, .int .i64 0, .int .i64 0, .slice none 0 0, .slice none 0 0, .slice none 0 0]) ?_ 2 _ rfl; (with_reducible repeat (first | refine blk_drewN ?_ _ | refine blk_drew ?_ | refine blk_alloc ?_ _)); refine blk_put (cs := #[.string t287, .int .i64 0, .int .i64 0, .int .i64 0, .int .i64 0, .slice none 0 0, .int .i64 0, .int .i64 0, .slice none 0 0, .slice none 0 0, .slice none 0 0]) ?_ 1 _ rfl; (with_reducible repeat (first | refine blk_drewN ?_ _ | refine blk_drew ?_ | refine blk_alloc ?_ _)); refine blk_put (cs := #[.string (⟨#[]⟩ : ByteArray), .int .i64 0, .int .i64 0, .int .i64 0, .int .i64 0, .slice none 0 0, .int .i64 0, .int .i64 0, .slice none 0 0, .slice none 0 0, .slice none 0 0]) ?_ 0 _ rfl; (with_reducible repeat (first | refine blk_drewN ?_ _ | refine blk_drew ?_ | refine blk_alloc ?_ _)); exact BK306.out) hb); have n19_ := Aside0.mk (below_step bl_ hb); clear HO255; clear HO260; clear HO263; clear HO266; clear HO274; clear HO279; clear HO282; clear HO285; clear HO294; clear HO299; clear HO302; clear HO305; clear BK244; clear BK245; clear BK306; clear HB; have HO255 := n0_; have HO260 := n1_; have HO263 := n2_; have HO266 := n3_; have HO274 := n4_; have HO279 := n5_; have HO282 := n6_; have HO285 := n7_; have HO294 := n8_; have HO299 := n9_; have HO302 := n10_; have HO305 := n11_; have HO314 := n12_; have HO319 := n13_; have HO322 := n14_; have HO325 := n15_; have BK244 := n16_; have BK245 := n17_; have BK306 := n18_; have HB := n19_; clear n0_ n1_ n2_ n3_ n4_ n5_ n6_ n7_ n8_ n9_ n10_ n11_ n12_ n13_ n14_ n15_ n16_ n17_ n18_ n19_; (try clear hb); (try clear hb2); (try clear hk); (try clear hi); (try clear ho0); (try clear ho1); (try clear ho2); (try clear ho3)) | ((with_reducible refine gate_dst (N := 8) rfl ?_); refine box_event ?hg (N := 8) ?hd (cs := #[.string (⟨#[]⟩ : ByteArray), .int .i64 0, .int .i64 0, .int .i64 0, .int .i64 0, .slice none 0 0, .int .i64 0, .int .i64 0, .slice none 0 0, .slice none 0 0, .slice none 0 0]) (t := 85) ?hr ?_; (case hd => rfl); (case hg => rfl); (case hr => first | (go_simp; done) | (go_simp; rfl)); intro gb326 hg w63 hbox hb; have n0_ := Aside0.mk (Kd.R_below (ra_ HO255) hb); have n1_ := Aside0.mk (Kd.R_below (ra_ HO260) hb); have n2_ := Aside0.mk (Kd.R_below (ra_ HO263) hb); have n3_ := Aside0.mk (Kd.S_below (by (with_reducible repeat (first | apply Kd.S_alloc | apply Kd.S_drewN | apply Kd.S_drew)); exact HO266.out) hb); have n4_ := Aside0.mk (Kd.R_below (ra_ HO274) hb); have n5_ := Aside0.mk (Kd.R_below (ra_ HO279) hb); have n6_ := Aside0.mk (Kd.R_below (ra_ HO282) hb); have n7_ := Aside0.mk (Kd.S_below (by (with_reducible repeat (first | apply Kd.S_alloc | apply Kd.S_drewN | apply Kd.S_drew)); exact HO285.out) hb); have n8_ := Aside0.mk (Kd.R_below (ra_ HO294) hb); have n9_ := Aside0.mk (Kd.R_below (ra_ HO299) hb); have n10_ := Aside0.mk (Kd.R_below (ra_ HO302) hb); have n11_ := Aside0.mk (Kd.S_below (by (with_reducible repeat (first | apply Kd.S_alloc | apply Kd.S_drewN | apply Kd.S_drew)); exact HO305.out) hb); have n12_ := Aside0.mk (Kd.R_below (ra_ HO314) hb); have n13_ := Aside0.mk (Kd.R_below (ra_ HO319) hb); have n14_ := Aside0.mk (Kd.R_below (ra_ HO322) hb); have n15_ := Aside0.mk (Kd.S_below (by (with_reducible repeat (first | apply Kd.S_alloc | apply Kd.S_drewN | apply Kd.S_drew)); exact HO325.out) hb); have n16_ := Aside0.mk (blk_below (bk_ BK244) hb); have n17_ := Aside0.mk (blk_below (bk_ BK245) hb); have n18_ := Aside0.mk (blk_below (bk_ BK306) hb); have n19_ := Aside0.mk (below_step bl_ hb); have n20_ := Aside0.mk (hbox); have n21_ := Aside0.mk ((by rw [hg]; exact (below_size bl_) : w.heap.size ≤ gb326)); have n22_ := Aside0.mk ((by rw [hg]; exact (below_size bl_) : w.heap.size ≤ gb326)); have n23_ := Aside0.mk ((by rw [hg]; exact Nat.ne_of_lt (blk_lt (bk_ BK244)) : gb244 ≠ gb326)); have n24_ := Aside0.mk ((by rw [hg]; exact Nat.ne_of_gt (blk_lt (bk_ BK244)) : gb326 ≠ gb244)); have n25_ := Aside0.mk ((by rw [hg]; exact Nat.ne_of_lt (blk_lt (bk_ BK245)) : gb245 ≠ gb326)); have n26_ := Aside0.mk ((by rw [hg]; exact Nat.ne_of_gt (blk_lt (bk_ BK245)) : gb326 ≠ gb245)); have n27_ := Aside0.mk ((by rw [hg]; exact Nat.ne_of_lt (blk_lt (bk_ BK306)) : gb306 ≠ gb326)); have n28_ := Aside0.mk ((by rw [hg]; exact Nat.ne_of_gt (blk_lt (bk_ BK306)) : gb326 ≠ gb306)); clear HO255; clear HO260; clear HO263; clear HO266; clear HO274; clear HO279; clear HO282; clear HO285; clear HO294; clear HO299; clear HO302; clear HO305; clear HO314; clear HO319; clear HO322; clear HO325; clear BK244; clear BK245; clear BK306; clear HB; have HO255 := n0_; have HO260 := n1_; have HO263 := n2_; have HO266 := n3_; have HO274 := n4_; have HO279 := n5_; have HO282 := n6_; have HO285 := n7_; have HO294 := n8_; have HO299 := n9_; have HO302 := n10_; have HO305 := n11_; have HO314 := n12_; have HO319 := n13_; have HO322 := n14_; have HO325 := n15_; have BK244 := n16_; have BK245 := n17_; have BK306 := n18_; have HB := n19_; have BK326 := n20_; have GW326 := n21_; have GE326 := n22_; have NB244_326 := n23_; have NB326_244 := n24_; have NB245_326 := n25_; have NB326_245 := n26_; have NB306_326 := n27_; have NB326_306 := n28_; clear n0_ n1_ n2_ n3_ n4_ n5_ n6_ n7_ n8_ n9_ n10_ n11_ n12_ n13_ n14_ n15_ n16_ n17_ n18_ n19_ n20_ n21_ n22_ n23_ n24_ n25_ n26_ n27_ n28_; clear hb hbox hg; have hnb64 := NB326_244.out; have hnc64 := NB244_326.out; have hnb65 := NB326_245.out; have hnc65 := NB245_326.out; have hnb66 := NB326_306.out; have hnc66 := NB306_326.out; have hcz67_0 := cz_ BK326 0 (.string (⟨#[]⟩ : ByteArray)); have hcz67_1 := cz_ BK326 1 (.int .i64 0); have hcz67_2 := cz_ BK326 2 (.int .i64 0); have hcz67_3 := cz_ BK326 3 (.int .i64 0); have hcz67_4 := cz_ BK326 4 (.int .i64 0); have hcz67_5 := cz_ BK326 5 (.slice none 0 0); have hcz67_6 := cz_ BK326 6 (.int .i64 0); have hcz67_7 := cz_ BK326 7 (.int .i64 0); have hcz67_8 := cz_ BK326 8 (.slice none 0 0); have hcz67_9 := cz_ BK326 9 (.slice none 0 0); have hcz67_10 := cz_ BK326 10 (.slice none 0 0); have hfz67_0 := fz_ BK326 0; have hfz67_1 := fz_ BK326 1; have hfz67_2 := fz_ BK326 2; have hfz67_3 := fz_ BK326 3; have hfz67_4 := fz_ BK326 4; have hfz67_5 := fz_ BK326 5; have hfz67_6 := fz_ BK326 6; have hfz67_7 := fz_ BK326 7; have hfz67_8 := fz_ BK326 8; have hfz67_9 := fz_ BK326 9; have hfz67_10 := fz_ BK326 10; obtain ⟨Ao68, co68, eo68⟩ := Kd.R_slice HO314.out; subst eo68; obtain ⟨Ao69, co69, eo69⟩ := Kd.R_slice HO319.out; subst eo69; obtain ⟨Ao70, co70, eo70⟩ := Kd.R_slice HO322.out; subst eo70; obtain ⟨Ao71, co71, eo71⟩ := Kd.S_slice HO325.out; subst eo71; have hcz72_0 := cz_ BK306 0 (.string t287); have hcz72_1 := cz_ BK306 1 (.int .i64 t288); have hcz72_2 := cz_ BK306 2 (.int .i64 t289); have hcz72_3 := cz_ BK306 3 (.int .i64 t290); have hcz72_4 := cz_ BK306 4 (.int .i64 t291); have hcz72_5 := cz_ BK306 5 (.slice Ao57 t292.length co57); have hcz72_6 := cz_ BK306 6 (.int .i64 t295); have hcz72_7 := cz_ BK306 7 (.int .i64 t296); have hcz72_8 := cz_ BK306 8 (.slice Ao58 t297.length co58); have hcz72_9 := cz_ BK306 9 (.slice Ao59 t300.length co59); have hcz72_10 := cz_ BK306 10 (.slice Ao60 t303.length co60); have hfz72_0 := fz_ BK306 0; have hfz72_1 := fz_ BK306 1; have hfz72_2 := fz_ BK306 2; have hfz72_3 := fz_ BK306 3; have hfz72_4 := fz_ BK306 4; have hfz72_5 := fz_ BK306 5; have hfz72_6 := fz_ BK306 6; have hfz72_7 := fz_ BK306 7; have hfz72_8 := fz_ BK306 8; have hfz72_9 := fz_ BK306 9; have hfz72_10 := fz_ BK306 10) | ((with_reducible refine gate_callee (f := 52) rfl ?_); refine goesL_ (some 31) rfl rfl Try.func52 (by kernel_rfl) rfl #[.agg #[.string t287, .int .i64 t288, .int .i64 t289, .int .i64 t290, .int .i64 t291, .slice Ao57 t292.length co57, .int .i64 t295, .int .i64 t296, .slice Ao58 t297.length co58, .slice Ao59 t300.length co59, .slice Ao60 t303.length co60], .agg #[.string t307, .int .i64 t308, .int .i64 t309, .int .i64 t310, .int .i64 t311, .slice Ao68 t312.length co68, .int .i64 t315, .int .i64 t316, .slice Ao69 t317.length co69, .slice Ao70 t320.length co70, .slice Ao71 t323.length co71]] rfl gl_ ?_; (with_reducible refine (impl_AcctSame.calls k t287 t288 t289 t290 t291 _ _ t292 t295 t296 _ _ t297 _ _ t300 _ _ t303 t307 t308 t309 t310 t311 _ _ t312 t315 t316 _ _ t317 _ _ t320 _ _ t323 t327 _ ?side1 ?side2 ?side3 ?side4 ?side5 ?side6 ?side7 ?side8 ?side9 ?side10 ?side11 ?side12 ?side13 ?side14 ?side15 ?side16 A24.out).mono ?_); (case side1 => refine (Kd.R_reads' (e := 60) (base := w.heap.size) (ok := fun k_ => (((True ∧ some k_ ≠ (.slice Ao42 t253.length co42 : Value).ownBlock) ∧ some k_ ≠ (.slice Ao46 t272.length co46 : Value).ownBlock) ∧ some k_ ≠ (.slice Ao68 t312.length co68 : Value).ownBlock)) (n := t292.length) (c := co57) ?_).2.2; exact (by (with_reducible repeat (first | apply Kd.R_alloc | apply Kd.R_drewN | apply Kd.R_drew)); exact (Kd.R_mono (Kd.R_far (p := ⟨gb326, 10, none⟩) (Kd.R_far (p := ⟨gb326, 9, none⟩) (Kd.R_far (p := ⟨gb326, 8, none⟩) (Kd.R_far (p := ⟨gb326, 7, none⟩) (Kd.R_far (p := ⟨gb326, 6, none⟩) (Kd.R_far (p := ⟨gb326, 5, none⟩) (Kd.R_far (p := ⟨gb326, 4, none⟩) (Kd.R_far (p := ⟨gb326, 3, none⟩) (Kd.R_far (p := ⟨gb326, 2, none⟩) (Kd.R_far (p := ⟨gb326, 1, none⟩) (Kd.R_far (p := ⟨gb326, 0, none⟩) (Kd.R_types HO294.out BK326.out (by decide)) (fun _ hk => hk.2) (.string t307)) (fun _ hk => hk.2) (.int .i64 t308)) (fun _ hk => hk.2) (.int .i64 t309)) (fun _ hk => hk.2) (.int .i64 t310)) (fun _ hk => hk.2) (.int .i64 t311)) (fun _ hk => hk.2) (.slice Ao68 t312.length co68)) (fun _ hk => hk.2) (.int .i64 t315)) (fun _ hk => hk.2) (.int .i64 t316)) (fun _ hk => hk.2) (.slice Ao69 t317.length co69)) (fun _ hk => hk.2) (.slice Ao70 t320.length co70)) (fun _ hk => hk.2) (.slice Ao71 t323.length co71)) (fun _ h_ => h_.1)))); (case side2 => exact (Kd.R_reads' HO294.out).2.1); (case side3 => refine (Kd.R_reads' (e := 3) (base := w.heap.size) (ok := fun k_ => ((((((some k_ ≠ (.slice Ao59 t300.length co59 : Value).ownBlock ∧ some k_ ≠ (.slice Ao43 t258.length co43 : Value).ownBlock) ∧ some k_ ≠ (.slice Ao44 t261.length co44 : Value).ownBlock) ∧ some k_ ≠ (.slice Ao47 t277.length co47 : Value).ownBlock) ∧ some k_ ≠ (.slice Ao48 t280.length co48 : Value).ownBlock) ∧ some k_ ≠ (.slice Ao69 t317.length co69 : Value).ownBlock) ∧ some k_ ≠ (.slice Ao70 t320.length co70 : Value).ownBlock)) (n := t297.length) (c := co58) ?_).2.2; exact (by (with_reducible repeat (first | apply Kd.R_alloc | apply Kd.R_drewN | apply Kd.R_drew)); exact (Kd.R_mono (Kd.R_far (p := ⟨gb326, 10, none⟩) (Kd.R_far (p := ⟨gb326, 9, none⟩) (Kd.R_far (p := ⟨gb326, 8, none⟩) (Kd.R_far (p := ⟨gb326, 7, none⟩) (Kd.R_far (p := ⟨gb326, 6, none⟩) (Kd.R_far (p := ⟨gb326, 5, none⟩) (Kd.R_far (p := ⟨gb326, 4, none⟩) (Kd.R_far (p := ⟨gb326, 3, none⟩) (Kd.R_far (p := ⟨gb326, 2, none⟩) (Kd.R_far (p := ⟨gb326, 1, none⟩) (Kd.R_far (p := ⟨gb326, 0, none⟩) (Kd.R_types HO299.out BK326.out (by decide)) (fun _ hk => hk.2) (.string t307)) (fun _ hk => hk.2) (.int .i64 t308)) (fun _ hk => hk.2) (.int .i64 t309)) (fun _ hk => hk.2) (.int .i64 t310)) (fun _ hk => hk.2) (.int .i64 t311)) (fun _ hk => hk.2) (.slice Ao68 t312.length co68)) (fun _ hk => hk.2) (.int .i64 t315)) (fun _ hk => hk.2) (.int .i64 t316)) (fun _ hk => hk.2) (.slice Ao69 t317.length co69)) (fun _ hk => hk.2) (.slice Ao70 t320.length co70)) (fun _ hk => hk.2) (.slice Ao71 t323.length co71)) (fun _ h_ => h_.1)))); (case side4 => exact (Kd.R_reads' HO299.out).2.1); (case side5 => refine (Kd.R_reads' (e := 3) (base := w.heap.size) (ok := fun k_ => ((((((some k_ ≠ (.slice Ao58 t297.length co58 : Value).ownBlock ∧ some k_ ≠ (.slice Ao43 t258.length co43 : Value).ownBlock) ∧ some k_ ≠ (.slice Ao44 t261.length co44 : Value).ownBlock) ∧ some k_ ≠ (.slice Ao47 t277.length co47 : Value).ownBlock) ∧ some k_ ≠ (.slice Ao48 t280.length co48 : Value).ownBlock) ∧ some k_ ≠ (.slice Ao69 t317.length co69 : Value).ownBlock) ∧ some k_ ≠ (.slice Ao70 t320.length co70 : Value).ownBlock)) (n := t300.length) (c := co59) ?_).2.2; exact (by (with_reducible repeat (first | apply Kd.R_alloc | apply Kd.R_drewN | apply Kd.R_drew)); exact (Kd.R_mono (Kd.R_far (p := ⟨gb326, 10, none⟩) (Kd.R_far (p := ⟨gb326, 9, none⟩) (Kd.R_far (p := ⟨gb326, 8, none⟩) (Kd.R_far (p := ⟨gb326, 7, none⟩) (Kd.R_far (p := ⟨gb326, 6, none⟩) (Kd.R_far (p := ⟨gb326, 5, none⟩) (Kd.R_far (p := ⟨gb326, 4, none⟩) (Kd.R_far (p := ⟨gb326, 3, none⟩) (Kd.R_far (p := ⟨gb326, 2, none⟩) (Kd.R_far (p := ⟨gb326, 1, none⟩) (Kd.R_far (p := ⟨gb326, 0, none⟩) (Kd.R_types HO302.out BK326.out (by decide)) (fun _ hk => hk.2) (.string t307)) (fun _ hk => hk.2) (.int .i64 t308)) (fun _ hk => hk.2) (.int .i64 t309)) (fun _ hk => hk.2) (.int .i64 t310)) (fun _ hk => hk.2) (.int .i64 t311)) (fun _ hk => hk.2) (.slice Ao68 t312.length co68)) (fun _ hk => hk.2) (.int .i64 t315)) (fun _ hk => hk.2) (.int .i64 t316)) (fun _ hk => hk.2) (.slice Ao69 t317.length co69)) (fun _ hk => hk.2) (.slice Ao70 t320.length co70)) (fun _ hk => hk.2) (.slice Ao71 t323.length co71)) (fun _ h_ => h_.1)))); (case side6 => exact (Kd.R_reads' HO302.out).2.1); (case side7 => refine (Kd.S_reads' (e := 46) (base := w.heap.size) (ok := fun k_ => (((True ∧ some k_ ≠ (.slice Ao45 t264.length co45 : Value).ownBlock) ∧ some k_ ≠ (.slice Ao49 t283.length co49 : Value).ownBlock) ∧ some k_ ≠ (.slice Ao71 t323.length co71 : Value).ownBlock)) (n := t303.length) (c := co60) ?_).2.2; exact (by (with_reducible repeat (first | apply Kd.S_alloc | apply Kd.S_drewN | apply Kd.S_drew)); exact (Kd.S_mono (Kd.S_far (p := ⟨gb326, 10, none⟩) (Kd.S_far (p := ⟨gb326, 9, none⟩) (Kd.S_far (p := ⟨gb326, 8, none⟩) (Kd.S_far (p := ⟨gb326, 7, none⟩) (Kd.S_far (p := ⟨gb326, 6, none⟩) (Kd.S_far (p := ⟨gb326, 5, none⟩) (Kd.S_far (p := ⟨gb326, 4, none⟩) (Kd.S_far (p := ⟨gb326, 3, none⟩) (Kd.S_far (p := ⟨gb326, 2, none⟩) (Kd.S_far (p := ⟨gb326, 1, none⟩) (Kd.S_far (p := ⟨gb326, 0, none⟩) (Kd.S_types HO305.out BK326.out (by decide)) (fun _ hk => hk.2) (.string t307)) (fun _ hk => hk.2) (.int .i64 t308)) (fun _ hk => hk.2) (.int .i64 t309)) (fun _ hk => hk.2) (.int .i64 t310)) (fun _ hk => hk.2) (.int .i64 t311)) (fun _ hk => hk.2) (.slice Ao68 t312.length co68)) (fun _ hk => hk.2) (.int .i64 t315)) (fun _ hk => hk.2) (.int .i64 t316)) (fun _ hk => hk.2) (.slice Ao69 t317.length co69)) (fun _ hk => hk.2) (.slice Ao70 t320.length co70)) (fun _ hk => hk.2) (.slice Ao71 t323.length co71)) (fun _ h_ => h_.1)))); (case side8 => exact (Kd.S_reads' HO305.out).2.1); (case side9 => refine (Kd.R_reads' (e := 60) (base := w.heap.size) (ok := fun k_ => (((True ∧ some k_ ≠ (.slice Ao42 t253.length co42 : Value).ownBlock) ∧ some k_ ≠ (.slice Ao46 t272.length co46 : Value).ownBlock) ∧ some k_ ≠ (.slice Ao57 t292.length co57 : Value).ownBlock)) (n := t312.length) (c := co68) ?_).2.2; exact (by (with_reducible repeat (first | apply Kd.R_alloc | apply Kd.R_drewN | apply Kd.R_drew)); exact (Kd.R_mono (Kd.R_far (p := ⟨gb326, 10, none⟩) (Kd.R_far (p := ⟨gb326, 9, none⟩) (Kd.R_far (p := ⟨gb326, 8, none⟩) (Kd.R_far (p := ⟨gb326, 7, none⟩) (Kd.R_far (p := ⟨gb326, 6, none⟩) (Kd.R_far (p := ⟨gb326, 5, none⟩) (Kd.R_far (p := ⟨gb326, 4, none⟩) (Kd.R_far (p := ⟨gb326, 3, none⟩) (Kd.R_far (p := ⟨gb326, 2, none⟩) (Kd.R_far (p := ⟨gb326, 1, none⟩) (Kd.R_far (p := ⟨gb326, 0, none⟩) (Kd.R_types HO314.out BK326.out (by decide)) (fun _ hk => hk.2) (.string t307)) (fun _ hk => hk.2) (.int .i64 t308)) (fun _ hk => hk.2) (.int .i64 t309)) (fun _ hk => hk.2) (.int .i64 t310)) (fun _ hk => hk.2) (.int .i64 t311)) (fun _ hk => hk.2) (.slice Ao68 t312.length co68)) (fun _ hk => hk.2) (.int .i64 t315)) (fun _ hk => hk.2) (.int .i64 t316)) (fun _ hk => hk.2) (.slice Ao69 t317.length co69)) (fun _ hk => hk.2) (.slice Ao70 t320.length co70)) (fun _ hk => hk.2) (.slice Ao71 t323.length co71)) (fun _ h_ => h_.1)))); (case side10 => exact (Kd.R_reads' HO314.out).2.1); (case side11 => refine (Kd.R_reads' (e := 3) (base := w.heap.size) (ok := fun k_ => ((((((some k_ ≠ (.slice Ao70 t320.length co70 : Value).ownBlock ∧ some k_ ≠ (.slice Ao43 t258.length co43 : Value).ownBlock) ∧ some k_ ≠ (.slice Ao44 t261.length co44 : Value).ownBlock) ∧ some k_ ≠ (.slice Ao47 t277.length co47 : Value).ownBlock) ∧ some k_ ≠ (.slice Ao48 t280.length co48 : Value).ownBlock) ∧ some k_ ≠ (.slice Ao58 t297.length co58 : Value).ownBlock) ∧ some k_ ≠ (.slice Ao59 t300.length co59 : Value).ownBlock)) (n := t317.length) (c := co69) ?_).2.2; exact (by (with_reducible repeat (first | apply Kd.R_alloc | apply Kd.R_drewN | apply Kd.R_drew)); exact (Kd.R_mono (Kd.R_far (p := ⟨gb326, 10, none⟩) (Kd.R_far (p := ⟨gb326, 9, none⟩) (Kd.R_far (p := ⟨gb326, 8, none⟩) (Kd.R_far (p := ⟨gb326, 7, none⟩) (Kd.R_far (p := ⟨gb326, 6, none⟩) (Kd.R_far (p := ⟨gb326, 5, none⟩) (Kd.R_far (p := ⟨gb326, 4, none⟩) (Kd.R_far (p := ⟨gb326, 3, none⟩) (Kd.R_far (p := ⟨gb326, 2, none⟩) (Kd.R_far (p := ⟨gb326, 1, none⟩) (Kd.R_far (p := ⟨gb326, 0, none⟩) (Kd.R_types HO319.out BK326.out (by decide)) (fun _ hk => hk.2) (.string t307)) (fun _ hk => hk.2) (.int .i64 t308)) (fun _ hk => hk.2) (.int .i64 t309)) (fun _ hk => hk.2) (.int .i64 t310)) (fun _ hk => hk.2) (.int .i64 t311)) (fun _ hk => hk.2) (.slice Ao68 t312.length co68)) (fun _ hk => hk.2) (.int .i64 t315)) (fun _ hk => hk.2) (.int .i64 t316)) (fun _ hk => hk.2) (.slice Ao69 t317.length co69)) (fun _ hk => hk.2) (.slice Ao70 t320.length co70)) (fun _ hk => hk.2) (.slice Ao71 t323.length co71)) (fun _ h_ => h_.1)))); (case side12 => exact (Kd.R_reads' HO319.out).2.1); (case side13 => refine (Kd.R_reads' (e := 3) (base := w.heap.size) (ok := fun k_ => ((((((some k_ ≠ (.slice Ao69 t317.length co69 : Value).ownBlock ∧ some k_ ≠ (.slice Ao43 t258.length co43 : Value).ownBlock) ∧ some k_ ≠ (.slice Ao44 t261.length co44 : Value).ownBlock) ∧ some k_ ≠ (.slice Ao47 t277.length co47 : Value).ownBlock) ∧ some k_ ≠ (.slice Ao48 t280.length co48 : Value).ownBlock) ∧ some k_ ≠ (.slice Ao58 t297.length co58 : Value).ownBlock) ∧ some k_ ≠ (.slice Ao59 t300.length co59 : Value).ownBlock)) (n := t320.length) (c := co70) ?_).2.2; exact (by (with_reducible repeat (first | apply Kd.R_alloc | apply Kd.R_drewN | apply Kd.R_drew)); exact (Kd.R_mono (Kd.R_far (p := ⟨gb326, 10, none⟩) (Kd.R_far (p := ⟨gb326, 9, none⟩) (Kd.R_far (p := ⟨gb326, 8, none⟩) (Kd.R_far (p := ⟨gb326, 7, none⟩) (Kd.R_far (p := ⟨gb326, 6, none⟩) (Kd.R_far (p := ⟨gb326, 5, none⟩) (Kd.R_far (p := ⟨gb326, 4, none⟩) (Kd.R_far (p := ⟨gb326, 3, none⟩) (Kd.R_far (p := ⟨gb326, 2, none⟩) (Kd.R_far (p := ⟨gb326, 1, none⟩) (Kd.R_far (p := ⟨gb326, 0, none⟩) (Kd.R_types HO322.out BK326.out (by decide)) (fun _ hk => hk.2) (.string t307)) (fun _ hk => hk.2) (.int .i64 t308)) (fun _ hk => hk.2) (.int .i64 t309)) (fun _ hk => hk.2) (.int .i64 t310)) (fun _ hk => hk.2) (.int .i64 t311)) (fun _ hk => hk.2) (.slice Ao68 t312.length co68)) (fun _ hk => hk.2) (.int .i64 t315)) (fun _ hk => hk.2) (.int .i64 t316)) (fun _ hk => hk.2) (.slice Ao69 t317.length co69)) (fun _ hk => hk.2) (.slice Ao70 t320.length co70)) (fun _ hk => hk.2) (.slice Ao71 t323.length co71)) (fun _ h_ => h_.1)))); (case side14 => exact (Kd.R_reads' HO322.out).2.1); (case side15 => refine (Kd.S_reads' (e := 46) (base := w.heap.size) (ok := fun k_ => (((True ∧ some k_ ≠ (.slice Ao45 t264.length co45 : Value).ownBlock) ∧ some k_ ≠ (.slice Ao49 t283.length co49 : Value).ownBlock) ∧ some k_ ≠ (.slice Ao60 t303.length co60 : Value).ownBlock)) (n := t323.length) (c := co71) ?_).2.2; exact (by (with_reducible repeat (first | apply Kd.S_alloc | apply Kd.S_drewN | apply Kd.S_drew)); exact (Kd.S_mono (Kd.S_far (p := ⟨gb326, 10, none⟩) (Kd.S_far (p := ⟨gb326, 9, none⟩) (Kd.S_far (p := ⟨gb326, 8, none⟩) (Kd.S_far (p := ⟨gb326, 7, none⟩) (Kd.S_far (p := ⟨gb326, 6, none⟩) (Kd.S_far (p := ⟨gb326, 5, none⟩) (Kd.S_far (p := ⟨gb326, 4, none⟩) (Kd.S_far (p := ⟨gb326, 3, none⟩) (Kd.S_far (p := ⟨gb326, 2, none⟩) (Kd.S_far (p := ⟨gb326, 1, none⟩) (Kd.S_far (p := ⟨gb326, 0, none⟩) (Kd.S_types HO325.out BK326.out (by decide)) (fun _ hk => hk.2) (.string t307)) (fun _ hk => hk.2) (.int .i64 t308)) (fun _ hk => hk.2) (.int .i64 t309)) (fun _ hk => hk.2) (.int .i64 t310)) (fun _ hk => hk.2) (.int .i64 t311)) (fun _ hk => hk.2) (.slice Ao68 t312.length co68)) (fun _ hk => hk.2) (.int .i64 t315)) (fun _ hk => hk.2) (.int .i64 t316)) (fun _ hk => hk.2) (.slice Ao69 t317.length co69)) (fun _ hk => hk.2) (.slice Ao70 t320.length co70)) (fun _ hk => hk.2) (.slice Ao71 t323.length co71)) (fun _ h_ => h_.1)))); (case side16 => exact (Kd.S_reads' HO325.out).2.1); rintro e w73 ⟨rfl, hb⟩; refine ⟨_, rfl, ?_⟩; have n0_ := Aside0.mk (Kd.R_below (by (with_reducible repeat (first | apply Kd.R_alloc | apply Kd.R_drewN | apply Kd.R_drew)); exact (Kd.R_mono (Kd.R_far (p := ⟨gb326, 10, none⟩) (Kd.R_far (p := ⟨gb326, 9, none⟩) (Kd.R_far (p := ⟨gb326, 8, none⟩) (Kd.R_far (p := ⟨gb326, 7, none⟩) (Kd.R_far (p := ⟨gb326, 6, none⟩) (Kd.R_far (p := ⟨gb326, 5, none⟩) (Kd.R_far (p := ⟨gb326, 4, none⟩) (Kd.R_far (p := ⟨gb326, 3, none⟩) (Kd.R_far (p := ⟨gb326, 2, none⟩) (Kd.R_far (p := ⟨gb326, 1, none⟩) (Kd.R_far (p := ⟨gb326, 0, none⟩) (Kd.R_types HO255.out BK326.out (by decide)) (fun _ hk => hk.2) (.string t307)) (fun _ hk => hk.2) (.int .i64 t308)) (fun _ hk => hk.2) (.int .i64 t309)) (fun _ hk => hk.2) (.int .i64 t310)) (fun _ hk => hk.2) (.int .i64 t311)) (fun _ hk => hk.2) (.slice Ao68 t312.length co68)) (fun _ hk => hk.2) (.int .i64 t315)) (fun _ hk => hk.2) (.int .i64 t316)) (fun _ hk => hk.2) (.slice Ao69 t317.length co69)) (fun _ hk => hk.2) (.slice Ao70 t320.length co70)) (fun _ hk => hk.2) (.slice Ao71 t323.length co71)) (fun _ h_ => h_.1))) hb); have n1_ := Aside0.mk (Kd.R_below (by (with_reducible repeat (first | apply Kd.R_alloc | apply Kd.R_drewN | apply Kd.R_drew)); exact (Kd.R_mono (Kd.R_far (p := ⟨gb326, 10, none⟩) (Kd.R_far (p := ⟨gb326, 9, none⟩) (Kd.R_far (p := ⟨gb326, 8, none⟩) (Kd.R_far (p := ⟨gb326, 7, none⟩) (Kd.R_far (p := ⟨gb326, 6, none⟩) (Kd.R_far (p := ⟨gb326, 5, none⟩) (Kd.R_far (p := ⟨gb326, 4, none⟩) (Kd.R_far (p := ⟨gb326, 3, none⟩) (Kd.R_far (p := ⟨gb326, 2, none⟩) (Kd.R_far (p := ⟨gb326, 1, none⟩) (Kd.R_far (p := ⟨gb326, 0, none⟩) (Kd.R_types HO260.out BK326.out (by decide)) (fun _ hk => hk.2) (.string t307)) (fun _ hk => hk.2) (.int .i64 t308)) (fun _ hk => hk.2) (.int .i64 t309)) (fun _ hk => hk.2) (.int .i64 t310)) (fun _ hk => hk.2) (.int .i64 t311)) (fun _ hk => hk.2) (.slice Ao68 t312.length co68)) (fun _ hk => hk.2) (.int .i64 t315)) (fun _ hk => hk.2) (.int .i64 t316)) (fun _ hk => hk.2) (.slice Ao69 t317.length co69)) (fun _ hk => hk.2) (.slice Ao70 t320.length co70)) (fun _ hk => hk.2) (.slice Ao71 t323.length co71)) (fun _ h_ => h_.1))) hb); have n2_ := Aside0.mk (Kd.R_below (by (with_reducible repeat (first | apply Kd.R_alloc | apply Kd.R_drewN | apply Kd.R_drew)); exact (Kd.R_mono (Kd.R_far (p := ⟨gb326, 10, none⟩) (Kd.R_far (p := ⟨gb326, 9, none⟩) (Kd.R_far (p := ⟨gb326, 8, none⟩) (Kd.R_far (p := ⟨gb326, 7, none⟩) (Kd.R_far (p := ⟨gb326, 6, none⟩) (Kd.R_far (p := ⟨gb326, 5, none⟩) (Kd.R_far (p := ⟨gb326, 4, none⟩) (Kd.R_far (p := ⟨gb326, 3, none⟩) (Kd.R_far (p := ⟨gb326, 2, none⟩) (Kd.R_far (p := ⟨gb326, 1, none⟩) (Kd.R_far (p := ⟨gb326, 0, none⟩) (Kd.R_types HO263.out BK326.out (by decide)) (fun _ hk => hk.2) (.string t307)) (fun _ hk => hk.2) (.int .i64 t308)) (fun _ hk => hk.2) (.int .i64 t309)) (fun _ hk => hk.2) (.int .i64 t310)) (fun _ hk => hk.2) (.int .i64 t311)) (fun _ hk => hk.2) (.slice Ao68 t312.length co68)) (fun _ hk => hk.2) (.int .i64 t315)) (fun _ hk => hk.2) (.int .i64 t316)) (fun _ hk => hk.2) (.slice Ao69 t317.length co69)) (fun _ hk => hk.2) (.slice Ao70 t320.length co70)) (fun _ hk => hk.2) (.slice Ao71 t323.length co71)) (fun _ h_ => h_.1))) hb); have n3_ := Aside0.mk (Kd.S_below (by (with_reducible repeat (first | apply Kd.S_alloc | apply Kd.S_drewN | apply Kd.S_drew)); exact (Kd.S_mono (Kd.S_far (p := ⟨gb326, 10, none⟩) (Kd.S_far (p := ⟨gb326, 9, none⟩) (Kd.S_far (p := ⟨gb326, 8, none⟩) (Kd.S_far (p := ⟨gb326, 7, none⟩) (Kd.S_far (p := ⟨gb326, 6, none⟩) (Kd.S_far (p := ⟨gb326, 5, none⟩) (Kd.S_far (p := ⟨gb326, 4, none⟩) (Kd.S_far (p := ⟨gb326, 3, none⟩) (Kd.S_far (p := ⟨gb326, 2, none⟩) (Kd.S_far (p := ⟨gb326, 1, none⟩) (Kd.S_far (p := ⟨gb326, 0, none⟩) (Kd.S_types HO266.out BK326.out (by decide)) (fun _ hk => hk.2) (.string t307)) (fun _ hk => hk.2) (.int .i64 t308)) (fun _ hk => hk.2) (.int .i64 t309)) (fun _ hk => hk.2) (.int .i64 t310)) (fun _ hk => hk.2) (.int .i64 t311)) (fun _ hk => hk.2) (.slice Ao68 t312.length co68)) (fun _ hk => hk.2) (.int .i64 t315)) (fun _ hk => hk.2) (.int .i64 t316)) (fun _ hk => hk.2) (.slice Ao69 t317.length co69)) (fun _ hk => hk.2) (.slice Ao70 t320.length co70)) (fun _ hk => hk.2) (.slice Ao71 t323.length co71)) (fun _ h_ => h_.1))) hb); have n4_ := Aside0.mk (Kd.R_below (by (with_reducible repeat (first | apply Kd.R_alloc | apply Kd.R_drewN | apply Kd.R_drew)); exact (Kd.R_mono (Kd.R_far (p := ⟨gb326, 10, none⟩) (Kd.R_far (p := ⟨gb326, 9, none⟩) (Kd.R_far (p := ⟨gb326, 8, none⟩) (Kd.R_far (p := ⟨gb326, 7, none⟩) (Kd.R_far (p := ⟨gb326, 6, none⟩) (Kd.R_far (p := ⟨gb326, 5, none⟩) (Kd.R_far (p := ⟨gb326, 4, none⟩) (Kd.R_far (p := ⟨gb326, 3, none⟩) (Kd.R_far (p := ⟨gb326, 2, none⟩) (Kd.R_far (p := ⟨gb326, 1, none⟩) (Kd.R_far (p := ⟨gb326, 0, none⟩) (Kd.R_types HO274.out BK326.out (by decide)) (fun _ hk => hk.2) (.string t307)) (fun _ hk => hk.2) (.int .i64 t308)) (fun _ hk => hk.2) (.int .i64 t309)) (fun _ hk => hk.2) (.int .i64 t310)) (fun _ hk => hk.2) (.int .i64 t311)) (fun _ hk => hk.2) (.slice Ao68 t312.length co68)) (fun _ hk => hk.2) (.int .i64 t315)) (fun _ hk => hk.2) (.int .i64 t316)) (fun _ hk => hk.2) (.slice Ao69 t317.length co69)) (fun _ hk => hk.2) (.slice Ao70 t320.length co70)) (fun _ hk => hk.2) (.slice Ao71 t323.length co71)) (fun _ h_ => h_.1))) hb); have n5_ := Aside0.mk (Kd.R_below (by (with_reducible repeat (first | apply Kd.R_alloc | apply Kd.R_drewN | apply Kd.R_drew)); exact (Kd.R_mono (Kd.R_far (p := ⟨gb326, 10, none⟩) (Kd.R_far (p := ⟨gb326, 9, none⟩) (Kd.R_far (p := ⟨gb326, 8, none⟩) (Kd.R_far (p := ⟨gb326, 7, none⟩) (Kd.R_far (p := ⟨gb326, 6, none⟩) (Kd.R_far (p := ⟨gb326, 5, none⟩) (Kd.R_far (p := ⟨gb326, 4, none⟩) (Kd.R_far (p := ⟨gb326, 3, none⟩) (Kd.R_far (p := ⟨gb326, 2, none⟩) (Kd.R_far (p := ⟨gb326, 1, none⟩) (Kd.R_far (p := ⟨gb326, 0, none⟩) (Kd.R_types HO279.out BK326.out (by decide)) (fun _ hk => hk.2) (.string t307)) (fun _ hk => hk.2) (.int .i64 t308)) (fun _ hk => hk.2) (.int .i64 t309)) (fun _ hk => hk.2) (.int .i64 t310)) (fun _ hk => hk.2) (.int .i64 t311)) (fun _ hk => hk.2) (.slice Ao68 t312.length co68)) (fun _ hk => hk.2) (.int .i64 t315)) (fun _ hk => hk.2) (.int .i64 t316)) (fun _ hk => hk.2) (.slice Ao69 t317.length co69)) (fun _ hk => hk.2) (.slice Ao70 t320.length co70)) (fun _ hk => hk.2) (.slice Ao71 t323.length co71)) (fun _ h_ => h_.1))) hb); have n6_ := Aside0.mk (Kd.R_below (by (with_reducible repeat (first | apply Kd.R_alloc | apply Kd.R_drewN | apply Kd.R_drew)); exact (Kd.R_mono (Kd.R_far (p := ⟨gb326, 10, none⟩) (Kd.R_far (p := ⟨gb326, 9, none⟩) (Kd.R_far (p := ⟨gb326, 8, none⟩) (Kd.R_far (p := ⟨gb326, 7, none⟩) (Kd.R_far (p := ⟨gb326, 6, none⟩) (Kd.R_far (p := ⟨gb326, 5, none⟩) (Kd.R_far (p := ⟨gb326, 4, none⟩) (Kd.R_far (p := ⟨gb326, 3, none⟩) (Kd.R_far (p := ⟨gb326, 2, none⟩) (Kd.R_far (p := ⟨gb326, 1, none⟩) (Kd.R_far (p := ⟨gb326, 0, none⟩) (Kd.R_types HO282.out BK326.out (by decide)) (fun _ hk => hk.2) (.string t307)) (fun _ hk => hk.2) (.int .i64 t308)) (fun _ hk => hk.2) (.int .i64 t309)) (fun _ hk => hk.2) (.int .i64 t310)) (fun _ hk => hk.2) (.int .i64 t311)) (fun _ hk => hk.2) (.slice Ao68 t312.length co68)) (fun _ hk => hk.2) (.int .i64 t315)) (fun _ hk => hk.2) (.int .i64 t316)) (fun _ hk => hk.2) (.slice Ao69 t317.length co69)) (fun _ hk => hk.2) (.slice Ao70 t320.length co70)) (fun _ hk => hk.2) (.slice Ao71 t323.length co71)) (fun _ h_ => h_.1))) hb); have n7_ := Aside0.mk (Kd.S_below (by (with_reducible repeat (first | apply Kd.S_alloc | apply Kd.S_drewN | apply Kd.S_drew)); exact (Kd.S_mono (Kd.S_far (p := ⟨gb326, 10, none⟩) (Kd.S_far (p := ⟨gb326, 9, none⟩) (Kd.S_far (p := ⟨gb326, 8, none⟩) (Kd.S_far (p := ⟨gb326, 7, none⟩) (Kd.S_far (p := ⟨gb326, 6, none⟩) (Kd.S_far (p := ⟨gb326, 5, none⟩) (Kd.S_far (p := ⟨gb326, 4, none⟩) (Kd.S_far (p := ⟨gb326, 3, none⟩) (Kd.S_far (p := ⟨gb326, 2, none⟩) (Kd.S_far (p := ⟨gb326, 1, none⟩) (Kd.S_far (p := ⟨gb326, 0, none⟩) (Kd.S_types HO285.out BK326.out (by decide)) (fun _ hk => hk.2) (.string t307)) (fun _ hk => hk.2) (.int .i64 t308)) (fun _ hk => hk.2) (.int .i64 t309)) (fun _ hk => hk.2) (.int .i64 t310)) (fun _ hk => hk.2) (.int .i64 t311)) (fun _ hk => hk.2) (.slice Ao68 t312.length co68)) (fun _ hk => hk.2) (.int .i64 t315)) (fun _ hk => hk.2) (.int .i64 t316)) (fun _ hk => hk.2) (.slice Ao69 t317.length co69)) (fun _ hk => hk.2) (.slice Ao70 t320.length co70)) (fun _ hk => hk.2) (.slice Ao71 t323.length co71)) (fun _ h_ => h_.1))) hb); have n8_ := Aside0.mk (Kd.R_below (by (with_reducible repeat (first | apply Kd.R_alloc | apply Kd.R_drewN | apply Kd.R_drew)); exact (Kd.R_mono (Kd.R_far (p := ⟨gb326, 10, none⟩) (Kd.R_far (p := ⟨gb326, 9, none⟩) (Kd.R_far (p := ⟨gb326, 8, none⟩) (Kd.R_far (p := ⟨gb326, 7, none⟩) (Kd.R_far (p := ⟨gb326, 6, none⟩) (Kd.R_far (p := ⟨gb326, 5, none⟩) (Kd.R_far (p := ⟨gb326, 4, none⟩) (Kd.R_far (p := ⟨gb326, 3, none⟩) (Kd.R_far (p := ⟨gb326, 2, none⟩) (Kd.R_far (p := ⟨gb326, 1, none⟩) (Kd.R_far (p := ⟨gb326, 0, none⟩) (Kd.R_types HO294.out BK326.out (by decide)) (fun _ hk => hk.2) (.string t307)) (fun _ hk => hk.2) (.int .i64 t308)) (fun _ hk => hk.2) (.int .i64 t309)) (fun _ hk => hk.2) (.int .i64 t310)) (fun _ hk => hk.2) (.int .i64 t311)) (fun _ hk => hk.2) (.slice Ao68 t312.length co68)) (fun _ hk => hk.2) (.int .i64 t315)) (fun _ hk => hk.2) (.int .i64 t316)) (fun _ hk => hk.2) (.slice Ao69 t317.length co69)) (fun _ hk => hk.2) (.slice Ao70 t320.length co70)) (fun _ hk => hk.2) (.slice Ao71 t323.length co71)) (fun _ h_ => h_.1))) hb); have n9_ := Aside0.mk (Kd.R_below (by (with_reducible repeat (first | apply Kd.R_alloc | apply Kd.R_drewN | apply Kd.R_drew)); exact (Kd.R_mono (Kd.R_far (p := ⟨gb326, 10, none⟩) (Kd.R_far (p := ⟨gb326, 9, none⟩) (Kd.R_far (p := ⟨gb326, 8, none⟩) (Kd.R_far (p := ⟨gb326, 7, none⟩) (Kd.R_far (p := ⟨gb326, 6, none⟩) (Kd.R_far (p := ⟨gb326, 5, none⟩) (Kd.R_far (p := ⟨gb326, 4, none⟩) (Kd.R_far (p := ⟨gb326, 3, none⟩) (Kd.R_far (p := ⟨gb326, 2, none⟩) (Kd.R_far (p := ⟨gb326, 1, none⟩) (Kd.R_far (p := ⟨gb326, 0, none⟩) (Kd.R_types HO299.out BK326.out (by decide)) (fun _ hk => hk.2) (.string t307)) (fun _ hk => hk.2) (.int .i64 t308)) (fun _ hk => hk.2) (.int .i64 t309)) (fun _ hk => hk.2) (.int .i64 t310)) (fun _ hk => hk.2) (.int .i64 t311)) (fun _ hk => hk.2) (.slice Ao68 t312.length co68)) (fun _ hk => hk.2) (.int .i64 t315)) (fun _ hk => hk.2) (.int .i64 t316)) (fun _ hk => hk.2) (.slice Ao69 t317.length co69)) (fun _ hk => hk.2) (.slice Ao70 t320.length co70)) (fun _ hk => hk.2) (.slice Ao71 t323.length co71)) (fun _ h_ => h_.1))) hb); have n10_ := Aside0.mk (Kd.R_below (by (with_reducible repeat (first | apply Kd.R_alloc | apply Kd.R_drewN | apply Kd.R_drew)); exact (Kd.R_mono (Kd.R_far (p := ⟨gb326, 10, none⟩) (Kd.R_far (p := ⟨gb326, 9, none⟩) (Kd.R_far (p := ⟨gb326, 8, none⟩) (Kd.R_far (p := ⟨gb326, 7, none⟩) (Kd.R_far (p := ⟨gb326, 6, none⟩) (Kd.R_far (p := ⟨gb326, 5, none⟩) (Kd.R_far (p := ⟨gb326, 4, none⟩) (Kd.R_far (p := ⟨gb326, 3, none⟩) (Kd.R_far (p := ⟨gb326, 2, none⟩) (Kd.R_far (p := ⟨gb326, 1, none⟩) (Kd.R_far (p := ⟨gb326, 0, none⟩) (Kd.R_types HO302.out BK326.out (by decide)) (fun _ hk => hk.2) (.string t307)) (fun _ hk => hk.2) (.int .i64 t308)) (fun _ hk => hk.2) (.int .i64 t309)) (fun _ hk => hk.2) (.int .i64 t310)) (fun _ hk => hk.2) (.int .i64 t311)) (fun _ hk => hk.2) (.slice Ao68 t312.length co68)) (fun _ hk => hk.2) (.int .i64 t315)) (fun _ hk => hk.2) (.int .i64 t316)) (fun _ hk => hk.2) (.slice Ao69 t317.length co69)) (fun _ hk => hk.2) (.slice Ao70 t320.length co70)) (fun _ hk => hk.2) (.slice Ao71 t323.length co71)) (fun _ h_ => h_.1))) hb); have n11_ := Aside0.mk (Kd.S_below (by (with_reducible repeat (first | apply Kd.S_alloc | apply Kd.S_drewN | apply Kd.S_drew)); exact (Kd.S_mono (Kd.S_far (p := ⟨gb326, 10, none⟩) (Kd.S_far (p := ⟨gb326, 9, none⟩) (Kd.S_far (p := ⟨gb326, 8, none⟩) (Kd.S_far (p := ⟨gb326, 7, none⟩) (Kd.S_far (p := ⟨gb326, 6, none⟩) (Kd.S_far (p := ⟨gb326, 5, none⟩) (Kd.S_far (p := ⟨gb326, 4, none⟩) (Kd.S_far (p := ⟨gb326, 3, none⟩) (Kd.S_far (p := ⟨gb326, 2, none⟩) (Kd.S_far (p := ⟨gb326, 1, none⟩) (Kd.S_far (p := ⟨gb326, 0, none⟩) (Kd.S_types HO305.out BK326.out (by decide)) (fun _ hk => hk.2) (.string t307)) (fun _ hk => hk.2) (.int .i64 t308)) (fun _ hk => hk.2) (.int .i64 t309)) (fun _ hk => hk.2) (.int .i64 t310)) (fun _ hk => hk.2) (.int .i64 t311)) (fun _ hk => hk.2) (.slice Ao68 t312.length co68)) (fun _ hk => hk.2) (.int .i64 t315)) (fun _ hk => hk.2) (.int .i64 t316)) (fun _ hk => hk.2) (.slice Ao69 t317.length co69)) (fun _ hk => hk.2) (.slice Ao70 t320.length co70)) (fun _ hk => hk.2) (.slice Ao71 t323.length co71)) (fun _ h_ => h_.1))) hb); have n12_ := Aside0.mk (Kd.R_below (by (with_reducible repeat (first | apply Kd.R_alloc | apply Kd.R_drewN | apply Kd.R_drew)); exact (Kd.R_mono (Kd.R_far (p := ⟨gb326, 10, none⟩) (Kd.R_far (p := ⟨gb326, 9, none⟩) (Kd.R_far (p := ⟨gb326, 8, none⟩) (Kd.R_far (p := ⟨gb326, 7, none⟩) (Kd.R_far (p := ⟨gb326, 6, none⟩) (Kd.R_far (p := ⟨gb326, 5, none⟩) (Kd.R_far (p := ⟨gb326, 4, none⟩) (Kd.R_far (p := ⟨gb326, 3, none⟩) (Kd.R_far (p := ⟨gb326, 2, none⟩) (Kd.R_far (p := ⟨gb326, 1, none⟩) (Kd.R_far (p := ⟨gb326, 0, none⟩) (Kd.R_types HO314.out BK326.out (by decide)) (fun _ hk => hk.2) (.string t307)) (fun _ hk => hk.2) (.int .i64 t308)) (fun _ hk => hk.2) (.int .i64 t309)) (fun _ hk => hk.2) (.int .i64 t310)) (fun _ hk => hk.2) (.int .i64 t311)) (fun _ hk => hk.2) (.slice Ao68 t312.length co68)) (fun _ hk => hk.2) (.int .i64 t315)) (fun _ hk => hk.2) (.int .i64 t316)) (fun _ hk => hk.2) (.slice Ao69 t317.length co69)) (fun _ hk => hk.2) (.slice Ao70 t320.length co70)) (fun _ hk => hk.2) (.slice Ao71 t323.length co71)) (fun _ h_ => h_.1))) hb); have n13_ := Aside0.mk (Kd.R_below (by (with_reducible repeat (first | apply Kd.R_alloc | apply Kd.R_drewN | apply Kd.R_drew)); exact (Kd.R_mono (Kd.R_far (p := ⟨gb326, 10, none⟩) (Kd.R_far (p := ⟨gb326, 9, none⟩) (Kd.R_far (p := ⟨gb326, 8, none⟩) (Kd.R_far (p := ⟨gb326, 7, none⟩) (Kd.R_far (p := ⟨gb326, 6, none⟩) (Kd.R_far (p := ⟨gb326, 5, none⟩) (Kd.R_far (p := ⟨gb326, 4, none⟩) (Kd.R_far (p := ⟨gb326, 3, none⟩) (Kd.R_far (p := ⟨gb326, 2, none⟩) (Kd.R_far (p := ⟨gb326, 1, none⟩) (Kd.R_far (p := ⟨gb326, 0, none⟩) (Kd.R_types HO319.out BK326.out (by decide)) (fun _ hk => hk.2) (.string t307)) (fun _ hk => hk.2) (.int .i64 t308)) (fun _ hk => hk.2) (.int .i64 t309)) (fun _ hk => hk.2) (.int .i64 t310)) (fun _ hk => hk.2) (.int .i64 t311)) (fun _ hk => hk.2) (.slice Ao68 t312.length co68)) (fun _ hk => hk.2) (.int .i64 t315)) (fun _ hk => hk.2) (.int .i64 t316)) (fun _ hk => hk.2) (.slice Ao69 t317.length co69)) (fun _ hk => hk.2) (.slice Ao70 t320.length co70)) (fun _ hk => hk.2) (.slice Ao71 t323.length co71)) (fun _ h_ => h_.1))) hb); have n14_ := Aside0.mk (Kd.R_below (by (with_reducible repeat (first | apply Kd.R_alloc | apply Kd.R_drewN | apply Kd.R_drew)); exact (Kd.R_mono (Kd.R_far (p := ⟨gb326, 10, none⟩) (Kd.R_far (p := ⟨gb326, 9, none⟩) (Kd.R_far (p := ⟨gb326, 8, none⟩) (Kd.R_far (p := ⟨gb326, 7, none⟩) (Kd.R_far (p := ⟨gb326, 6, none⟩) (Kd.R_far (p := ⟨gb326, 5, none⟩) (Kd.R_far (p := ⟨gb326, 4, none⟩) (Kd.R_far (p := ⟨gb326, 3, none⟩) (Kd.R_far (p := ⟨gb326, 2, none⟩) (Kd.R_far (p := ⟨gb326, 1, none⟩) (Kd.R_far (p := ⟨gb326, 0, none⟩) (Kd.R_types HO322.out BK326.out (by decide)) (fun _ hk => hk.2) (.string t307)) (fun _ hk => hk.2) (.int .i64 t308)) (fun _ hk => hk.2) (.int .i64 t309)) (fun _ hk => hk.2) (.int .i64 t310)) (fun _ hk => hk.2) (.int .i64 t311)) (fun _ hk => hk.2) (.slice Ao68 t312.length co68)) (fun _ hk => hk.2) (.int .i64 t315)) (fun _ hk => hk.2) (.int .i64 t316)) (fun _ hk => hk.2) (.slice Ao69 t317.length co69)) (fun _ hk => hk.2) (.slice Ao70 t320.length co70)) (fun _ hk => hk.2) (.slice Ao71 t323.length co71)) (fun _ h_ => h_.1))) hb); have n15_ := Aside0.mk (Kd.S_below (by (with_reducible repeat (first | apply Kd.S_alloc | apply Kd.S_drewN | apply Kd.S_drew)); exact (Kd.S_mono (Kd.S_far (p := ⟨gb326, 10, none⟩) (Kd.S_far (p := ⟨gb326, 9, none⟩) (Kd.S_far (p := ⟨gb326, 8, none⟩) (Kd.S_far (p := ⟨gb326, 7, none⟩) (Kd.S_far (p := ⟨gb326, 6, none⟩) (Kd.S_far (p := ⟨gb326, 5, none⟩) (Kd.S_far (p := ⟨gb326, 4, none⟩) (Kd.S_far (p := ⟨gb326, 3, none⟩) (Kd.S_far (p := ⟨gb326, 2, none⟩) (Kd.S_far (p := ⟨gb326, 1, none⟩) (Kd.S_far (p := ⟨gb326, 0, none⟩) (Kd.S_types HO325.out BK326.out (by decide)) (fun _ hk => hk.2) (.string t307)) (fun _ hk => hk.2) (.int .i64 t308)) (fun _ hk => hk.2) (.int .i64 t309)) (fun _ hk => hk.2) (.int .i64 t310)) (fun _ hk => hk.2) (.int .i64 t311)) (fun _ hk => hk.2) (.slice Ao68 t312.length co68)) (fun _ hk => hk.2) (.int .i64 t315)) (fun _ hk => hk.2) (.int .i64 t316)) (fun _ hk => hk.2) (.slice Ao69 t317.length co69)) (fun _ hk => hk.2) (.slice Ao70 t320.length co70)) (fun _ hk => hk.2) (.slice Ao71 t323.length co71)) (fun _ h_ => h_.1))) hb); have n16_ := Aside0.mk (blk_below (g := gb244) (o := .cells #[.string a0_0, .int .i64 a0_1, .int .i64 a0_2, .int .i64 a0_3, .int .i64 a0_4, .slice A0_5 l0_5.length c0_5, .int .i64 a0_6, .int .i64 a0_7, .slice A0_8 l0_8.length c0_8, .slice A0_9 l0_9.length c0_9, .slice A0_10 l0_10.length c0_10] 80 (0, 0)) (by (with_reducible repeat (first | refine blk_drewN ?_ _ | refine blk_drew ?_ | refine blk_alloc ?_ _)); refine blk_far ?_ NB244_326.out _; (with_reducible repeat (first | refine blk_drewN ?_ _ | refine blk_drew ?_ | refine blk_alloc ?_ _)); refine blk_far ?_ NB244_326.out _; (with_reducible repeat (first | refine blk_drewN ?_ _ | refine blk_drew ?_ | refine blk_alloc ?_ _)); refine blk_far ?_ NB244_326.out _; (with_reducible repeat (first | refine blk_drewN ?_ _ | refine blk_drew ?_ | refine blk_alloc ?_ _)); refine blk_far ?_ NB244_326.out _; (with_reducible repeat (first | refine blk_drewN ?_ _ | refine blk_drew ?_ | refine blk_alloc ?_ _)); refine blk_far ?_ NB244_326.out _; (with_reducible repeat (first | refine blk_drewN ?_ _ | refine blk_drew ?_ | refine blk_alloc ?_ _)); refine blk_far ?_ NB244_326.out _; (with_reducible repeat (first | refine blk_drewN ?_ _ | refine blk_drew ?_ | refine blk_alloc ?_ _)); refine blk_far ?_ NB244_326.out _; (with_reducible repeat (first | refine blk_drewN ?_ _ | refine blk_drew ?_ | refine blk_alloc ?_ _)); refine blk_far ?_ NB244_326.out _; (with_reducible repeat (first | refine blk_drewN ?_ _ | refine blk_drew ?_ | refine blk_alloc ?_ _)); refine blk_far ?_ NB244_326.out _; (with_reducible repeat (first | refine blk_drewN ?_ _ | refine blk_drew ?_ | refine blk_alloc ?_ _)); refine blk_far ?_ NB244_326.out _; (with_reducible repeat (first | refine blk_drewN ?_ _ | refine blk_drew ?_ | refine blk_alloc ?_ _)); refine blk_far ?_ NB244_326.out _; (with_reducible repeat (first | refine blk_drewN ?_ _ | refine blk_drew ?_ | refine blk_alloc ?_ _)); exact BK244.out) hb); have n17_ := Aside0.mk (blk_below (g := gb245) (o := .cells #[.string a1_0, .int .i64 a1_1, .int .i64 a1_2, .int .i64 a1_3, .int .i64 a1_4, .slice A1_5 l1_5.length c1_5, .int .i64 a1_6, .int .i64 a1_7, .slice A1_8 l1_8.length c1_8, .slice A1_9 l1_9.length c1_9, .slice A1_10 l1_10.length c1_10] 80 (0, 0)) (by (with_reducible repeat (first | refine blk_drewN ?_ _ | refine blk_drew ?_ | refine blk_alloc ?_ _)); refine blk_far ?_ NB245_326.out _; (with_reducible repeat (first | refine blk_drewN ?_ _ | refine blk_drew ?_ | refine blk_alloc ?_ _)); refine blk_far ?_ NB245_326.out _; (with_reducible repeat (first | refine blk_drewN ?_ _ | refine blk_drew ?_ | refine blk_alloc ?_ _)); refine blk_far ?_ NB245_326.out _; (with_reducible repeat (first | refine blk_drewN ?_ _ | refine blk_drew ?_ | refine blk_alloc ?_ _)); refine blk_far ?_ NB245_326.out _; (with_reducible repeat (first | refine blk_drewN ?_ _ | refine blk_drew ?_ | refine blk_alloc ?_ _)); refine blk_far ?_ NB245_326.out _; (with_reducible repeat (first | refine blk_drewN ?_ _ | refine blk_drew ?_ | refine blk_alloc ?_ _)); refine blk_far ?_ NB245_326.out _; (with_reducible repeat (first | refine blk_drewN ?_ _ | refine blk_drew ?_ | refine blk_alloc ?_ _)); refine blk_far ?_ NB245_326.out _; (with_reducible repeat (first | refine blk_drewN ?_ _ | refine blk_drew ?_ | refine blk_alloc ?_ _)); refine blk_far ?_ NB245_326.out _; (with_reducible repeat (first | refine blk_drewN ?_ _ | refine blk_drew ?_ | refine blk_alloc ?_ _)); refine blk_far ?_ NB245_326.out _; (with_reducible repeat (first | refine blk_drewN ?_ _ | refine blk_drew ?_ | refine blk_alloc ?_ _)); refine blk_far ?_ NB245_326.out _; (with_reducible repeat (first | refine blk_drewN ?_ _ | refine blk_drew ?_ | refine blk_alloc ?_ _)); refine blk_far ?_ NB245_326.out _; (with_reducible repeat (first | refine blk_drewN ?_ _ | refine blk_drew ?_ | refine blk_alloc ?_ _)); exact BK245.out) hb); have n18_ := Aside0.mk (blk_below (g := gb306) (o := .cells #[.string t287, .int .i64 t288, .int .i64 t289, .int .i64 t290, .int .i64 t291, .slice Ao57 t292.length co57, .int .i64 t295, .int .i64 t296, .slice Ao58 t297.length co58, .slice Ao59 t300.length co59, .slice Ao60 t303.length co60] 85 (0, 0)) (by (with_reducible repeat (first | refine blk_drewN ?_ _ | refine blk_drew ?_ | refine blk_alloc ?_ _)); refine blk_far ?_ NB306_326.out _; (with_reducible repeat (first | refine blk_drewN ?_ _ | refine blk_drew ?_ | refine blk_alloc ?_ _)); refine blk_far ?_ NB306_326.out _; (with_reducible repeat (first | refine blk_drewN ?_ _ | refine blk_drew ?_ | refine blk_alloc ?_ _)); refine blk_far ?_ NB306_326.out _; (with_reducible repeat (first | refine blk_drewN ?_ _ | refine blk_drew ?_ | refine blk_alloc ?_ _)); refine blk_far ?_ NB306_326.out _; (with_reducible repeat (first | refine blk_drewN ?_ _ | refine blk_drew ?_ | refine blk_alloc ?_ _)); refine blk_far ?_ NB306_326.out _; (with_reducible repeat (first | refine blk_drewN ?_ _ | refine blk_drew ?_ | refine blk_alloc ?_ _)); refine blk_far ?_ NB306_326.out _; (with_reducible repeat (first | refine blk_drewN ?_ _ | refine blk_drew ?_ | refine blk_alloc ?_ _)); refine blk_far ?_ NB306_326.out _; (with_reducible repeat (first | refine blk_drewN ?_ _ | refine blk_drew ?_ | refine blk_alloc ?_ _)); refine blk_far ?_ NB306_326.out _; (with_reducible repeat (first | refine blk_drewN ?_ _ | refine blk_drew ?_ | refine blk_alloc ?_ _)); refine blk_far ?_ NB306_326.out _; (with_reducible repeat (first | refine blk_drewN ?_ _ | refine blk_drew ?_ | refine blk_alloc ?_ _)); refine blk_far ?_ NB306_326.out _; (with_reducible repeat (first | refine blk_drewN ?_ _ | refine blk_drew ?_ | refine blk_alloc ?_ _)); refine blk_far ?_ NB306_326.out _; (with_reducible repeat (first | refine blk_drewN ?_ _ | refine blk_drew ?_ | refine blk_alloc ?_ _)); exact BK306.out) hb); have n19_ := Aside0.mk (blk_below (g := gb326) (o := .cells #[.string t307, .int .i64 t308, .int .i64 t309, .int .i64 t310, .int .i64 t311, .slice Ao68 t312.length co68, .int .i64 t315, .int .i64 t316, .slice Ao69 t317.length co69, .slice Ao70 t320.length co70, .slice Ao71 t323.length co71] 85 (0, 0)) (by (with_reducible repeat (first | refine blk_drewN ?_ _ | refine blk_drew ?_ | refine blk_alloc ?_ _)); refine blk_put (cs := #[.string t307, .int .i64 t308, .int .i64 t309, .int .i64 t310, .int .i64 t311, .slice Ao68 t312.length co68, .int .i64 t315, .int .i64 t316, .slice Ao69 t317.length co69, .slice Ao70 t320.length co70, .slice none 0 0]) ?_ 10 _ rfl; (with_reducible repeat (first | refine blk_drewN ?_ _ | refine blk_drew ?_ | refine blk_alloc ?_ _)); refine blk_put (cs := #[.string t307, .int .i64 t308, .int .i64 t309, .int .i64 t310, .int .i64 t311, .slice Ao68 t312.length co68, .int .i64 t315, .int .i64 t316, .slice Ao69 t317.length co69, .slice none 0 0, .slice none 0 0]) ?_ 9 _ rfl; (with_reducible repeat (first | refine blk_drewN ?_ _ | refine blk_drew ?_ | refine blk_alloc ?_ _)); refine blk_put (cs := #[.string t307, .int .i64 t308, .int .i64 t309, .int .i64 t310, .int .i64 t311, .slice Ao68 t312.length co68, .int .i64 t315, .int .i64 t316, .slice none 0 0, .slice none 0 0, .slice none 0 0]) ?_ 8 _ rfl; (with_reducible repeat (first | refine blk_drewN ?_ _ | refine blk_drew ?_ | refine blk_alloc ?_ _)); refine blk_put (cs := #[.string t307, .int .i64 t308, .int .i64 t309, .int .i64 t310, .int .i64 t311, .slice Ao68 t312.length co68, .int .i64 t315, .int .i64 0, .slice none 0 0, .slice none 0 0, .slice none 0 0]) ?_ 7 _ rfl; (with_reducible repeat (first | refine blk_drewN ?_ _ | refine blk_drew ?_ | refine blk_alloc ?_ _)); refine blk_put (cs := #[.string t307, .int .i64 t308, .int .i64 t309, .int .i64 t310, .int .i64 t311, .slice Ao68 t312.length co68, .int .i64 0, .int .i64 0, .slice none 0 0, .slice none 0 0, .slice none 0 0]) ?_ 6 _ rfl; (with_reducible repeat (first | refine blk_drewN ?_ _ | refine blk_drew ?_ | refine blk_alloc ?_ _)); refine blk_put (cs := #[.string t307, .int .i64 t308, .int .i64 t309, .int .i64 t310, .int .i64 t311, .slice none 0 0, .int .i64 0, .int .i64 0, .slice none 0 0, .slice none 0 0, .slice none 0 0]) ?_ 5 _ rfl; (with_reducible repeat (first | refine blk_drewN ?_ _ | refine blk_drew ?_ | refine blk_alloc ?_ _)); refine blk_put (cs := #[.string t307, .int .i64 t308, .int .i64 t309, .int .i64 t310, .int .i64 0, .slice none 0 0, .int .i64 0, .int .i64 0, .slice none 0 0, .slice none 0 0, .slice none 0 0]) ?_ 4 _ rfl; (with_reducible repeat (first | refine blk_drewN ?_ _ | refine blk_drew ?_ | refine blk_alloc ?_ _)); refine blk_put (cs := #[.string t307, .int .i64 t308, .int .i64 t309, .int .i64 0, .int .i64 0, .slice none 0 0, .int .i64 0, .int .i64 0, .slice none 0 0, .slice none 0 0, .slice none 0 0]) ?_ 3 _ rfl; (with_reducible repeat (first | refine blk_drewN ?_ _ | refine blk_drew ?_ | refine blk_alloc ?_ _)); refine blk_put (cs := #[.string t307, .int .i64 t308, .int .i64 0, .int .i64 0, .int .i64 0, .slice none 0 0, .int .i64 0, .int .i64 0, .slice none 0 0, .slice none 0 0, .slice none 0 0]) ?_ 2 _ rfl; (with_reducible repeat (first | refine blk_drewN ?_ _ | refine blk_drew ?_ | refine blk_alloc ?_ _)); refine blk_put (cs := #[.string t307, .int .i64 0, .int .i64 0, .int .i64 0, .int .i64 0, .slice none 0 0, .int .i64 0, .int .i64 0, .slice none 0 0, .slice none 0 0, .slice none 0 0]) ?_ 1 _ rfl; (with_reducible repeat (first | refine blk_drewN ?_ _ | refine blk_drew ?_ | refine blk_alloc ?_ _)); refine blk_put (cs := #[.string (⟨#[]⟩ : ByteArray), .int .i64 0, .int .i64 0, .int .i64 0, .int .i64 0, .slice none 0 0, .int .i64 0, .int .i64 0, .slice none 0 0, .slice none 0 0, .slice none 0 0]) ?_ 0 _ rfl; (with_reducible repeat (first | refine blk_drewN ?_ _ | refine blk_drew ?_ | refine blk_alloc ?_ _)); exact BK326.out) hb); have n20_ := Aside0.mk (below_step bl_ hb); clear HO255; clear HO260; clear HO263; clear HO266; clear HO274; clear HO279; clear HO282; clear HO285; clear HO294; clear HO299; clear HO302; clear HO305; clear HO314; clear HO319; clear HO322; clear HO325; clear BK244; clear BK245; clear BK306; clear BK326; clear HB; have HO255 := n0_; have HO260 := n1_; have HO263 := n2_; have HO266 := n3_; have HO274 := n4_; have HO279 := n5_; have HO282 := n6_; have HO285 := n7_; have HO294 := n8_; have HO299 := n9_; have HO302 := n10_; have HO305 := n11_; have HO314 := n12_; have HO319 := n13_; have HO322 := n14_; have HO325 := n15_; have BK244 := n16_; have BK245 := n17_; have BK306 := n18_; have BK326 := n19_; have HB := n20_; clear n0_ n1_ n2_ n3_ n4_ n5_ n6_ n7_ n8_ n9_ n10_ n11_ n12_ n13_ n14_ n15_ n16_ n17_ n18_ n19_ n20_; (try clear hb); (try clear hb2); (try clear hk); (try clear hi)))
            have n0_ := Aside0.mk (Kd.R_drew HO255.out)
            have n1_ := Aside0.mk (Kd.R_drew HO260.out)
            have n2_ := Aside0.mk (Kd.R_drew HO263.out)
            have n3_ := Aside0.mk (Kd.S_drew HO266.out)
            have n4_ := Aside0.mk (Kd.R_drew HO274.out)
            have n5_ := Aside0.mk (Kd.R_drew HO279.out)
            have n6_ := Aside0.mk (Kd.R_drew HO282.out)
            have n7_ := Aside0.mk (Kd.S_drew HO285.out)
            have n8_ := Aside0.mk (Kd.R_drew HO294.out)
            have n9_ := Aside0.mk (Kd.R_drew HO299.out)
            have n10_ := Aside0.mk (Kd.R_drew HO302.out)
            have n11_ := Aside0.mk (Kd.S_drew HO305.out)
            have n12_ := Aside0.mk (Kd.R_drew HO314.out)
            have n13_ := Aside0.mk (Kd.R_drew HO319.out)
            have n14_ := Aside0.mk (Kd.R_drew HO322.out)
            have n15_ := Aside0.mk (Kd.S_drew HO325.out)
            have n16_ := Aside0.mk (blk_drew BK244.out)
            have n17_ := Aside0.mk (blk_drew BK245.out)
            have n18_ := Aside0.mk (blk_drew BK306.out)
            have n19_ := Aside0.mk (blk_drew BK326.out)
            have n20_ := Aside0.mk (below_drew1 HB.out)
            clear HO255
            clear HO260
            clear HO263
            clear HO266
            clear HO274
            clear HO279
            clear HO282
            clear HO285
            clear HO294
            clear HO299
            clear HO302
            clear HO305
            clear HO314
            clear HO319
            clear HO322
            clear HO325
            clear BK244
            clear BK245
            clear BK306
            clear BK326
            clear HB
            have HO255 := n0_
            have HO260 := n1_
            have HO263 := n2_
            have HO266 := n3_
            have HO274 := n4_
            have HO279 := n5_
            have HO282 := n6_
            have HO285 := n7_
            have HO294 := n8_
            have HO299 := n9_
            have HO302 := n10_
            have HO305 := n11_
            have HO314 := n12_
            have HO319 := n13_
            have HO322 := n14_
            have HO325 := n15_
            have BK244 := n16_
            have BK245 := n17_
            have BK306 := n18_
            have BK326 := n19_
            have HB := n20_
            clear n0_ n1_ n2_ n3_ n4_ n5_ n6_ n7_ n8_ n9_ n10_ n11_ n12_ n13_ n14_ n15_ n16_ n17_ n18_ n19_ n20_
            refine start_ (n := 5) (S := fun w' => w'.cell? ⟨gb306, 0, none⟩ = some (.string t287) ∧ w'.cell? ⟨gb306, 1, none⟩ = some (.int .i64 t288) ∧ w'.cell? ⟨gb306, 2, none⟩ = some (.int .i64 t289) ∧ w'.cell? ⟨gb306, 3, none⟩ = some (.int .i64 t290) ∧ w'.cell? ⟨gb306, 4, none⟩ = some (.int .i64 t291) ∧ w'.cell? ⟨gb306, 5, none⟩ = some (.slice Ao57 t292.length co57) ∧ w'.cell? ⟨gb306, 6, none⟩ = some (.int .i64 t295) ∧ w'.cell? ⟨gb306, 7, none⟩ = some (.int .i64 t296) ∧ w'.cell? ⟨gb306, 8, none⟩ = some (.slice Ao58 t297.length co58) ∧ w'.cell? ⟨gb306, 9, none⟩ = some (.slice Ao59 t300.length co59) ∧ w'.cell? ⟨gb306, 10, none⟩ = some (.slice Ao60 t303.length co60) ∧ w'.cell? ⟨gb244, 0, none⟩ = some (.string a0_0) ∧ w'.cell? ⟨gb244, 1, none⟩ = some (.int .i64 a0_1) ∧ w'.cell? ⟨gb244, 2, none⟩ = some (.int .i64 a0_2) ∧ w'.cell? ⟨gb244, 3, none⟩ = some (.int .i64 a0_3) ∧ w'.cell? ⟨gb244, 4, none⟩ = some (.int .i64 a0_4) ∧ w'.cell? ⟨gb244, 5, none⟩ = some (.slice A0_5 l0_5.length c0_5) ∧ w'.cell? ⟨gb244, 6, none⟩ = some (.int .i64 a0_6) ∧ w'.cell? ⟨gb244, 7, none⟩ = some (.int .i64 a0_7) ∧ w'.cell? ⟨gb244, 8, none⟩ = some (.slice A0_8 l0_8.length c0_8) ∧ w'.cell? ⟨gb244, 9, none⟩ = some (.slice A0_9 l0_9.length c0_9) ∧ w'.cell? ⟨gb244, 10, none⟩ = some (.slice A0_10 l0_10.length c0_10)) (ds := []) #[false, false, false, false, false] (by kernel_rfl) rfl rfl ⟨(blk_cell BK306.out 0).trans rfl, (blk_cell BK306.out 1).trans rfl, (blk_cell BK306.out 2).trans rfl, (blk_cell BK306.out 3).trans rfl, (blk_cell BK306.out 4).trans rfl, (blk_cell BK306.out 5).trans rfl, (blk_cell BK306.out 6).trans rfl, (blk_cell BK306.out 7).trans rfl, (blk_cell BK306.out 8).trans rfl, (blk_cell BK306.out 9).trans rfl, (blk_cell BK306.out 10).trans rfl, (blk_cell BK244.out 0).trans rfl, (blk_cell BK244.out 1).trans rfl, (blk_cell BK244.out 2).trans rfl, (blk_cell BK244.out 3).trans rfl, (blk_cell BK244.out 4).trans rfl, (blk_cell BK244.out 5).trans rfl, (blk_cell BK244.out 6).trans rfl, (blk_cell BK244.out 7).trans rfl, (blk_cell BK244.out 8).trans rfl, (blk_cell BK244.out 9).trans rfl, (blk_cell BK244.out 10).trans rfl⟩ (fun hHeld => ?_)
            generalize w73.drew = w74 at HO255 HO260 HO263 HO266 HO274 HO279 HO282 HO285 HO294 HO299 HO302 HO305 HO314 HO319 HO322 HO325 BK244 BK245 BK306 BK326 HB hHeld ⊢
            refine take_ (i := 0) (N := some 35) (v := ?_) (a' := ?_) #[true, false, false, false, false] rfl rfl (by kernel_rfl) (fun _ _ _ h => h) (Or.inl ⟨by rfl, ?_⟩) hHeld ?_ ?_
            rotate_left
            · rintro w' ⟨s0, s1, s2, s3, s4, s5, s6, s7, s8, s9, s10, s11, s12, s13, s14, s15, s16, s17, s18, s19, s20, s21⟩
              go_simp
              with_reducible rfl
            rotate_left
            · simp only [Act.put, List.setIfInBounds_toArray, List.set_cons_zero, List.set_cons_succ, i64_w, i32_w]
              rfl
            refine take_ (i := 1) (N := some 36) (v := ?_) (a' := ?_) #[true, true, false, false, false] rfl rfl (by kernel_rfl) (fun _ _ _ h => h) (Or.inl ⟨by rfl, ?_⟩) hHeld ?_ ?_
            rotate_left
            · rintro w' ⟨s0, s1, s2, s3, s4, s5, s6, s7, s8, s9, s10, s11, s12, s13, s14, s15, s16, s17, s18, s19, s20, s21⟩
              go_simp
              with_reducible rfl
            rotate_left
            · simp only [Act.put, List.setIfInBounds_toArray, List.set_cons_zero, List.set_cons_succ, i64_w, i32_w]
              rfl
            refine one_ (i := 2) (N := some 37) #[true, true, true, false, false] rfl rfl (by kernel_rfl) (by decide) (fun K hK => ?_)
            refine goes_ Try.func51 (by kernel_rfl) rfl #[.agg #[.string a0_0, .int .i64 a0_1, .int .i64 a0_2, .int .i64 a0_3, .int .i64 a0_4, .slice A0_5 l0_5.length c0_5, .int .i64 a0_6, .int .i64 a0_7, .slice A0_8 l0_8.length c0_8, .slice A0_9 l0_9.length c0_9, .slice A0_10 l0_10.length c0_10]] (by rfl) rfl rfl gl_ ?_
            with_reducible refine (laws_toAcct.calls k a0_0 a0_1 a0_2 a0_3 a0_4 _ _ l0_5 a0_6 a0_7 _ _ l0_8 _ _ l0_9 _ _ l0_10 t328 t329 t330 t331 t332 t333 t336 t337 t338 t341 t344 _ ?side1 ?side2 ?side3 ?side4 ?side5 ?side6 ?side7 ?side8 A26.out).mono ?_
            (case side1 => exact ca_ (Kd.C_below HR0_5.out HB.out))
            (case side2 => exact HC0_5.out)
            (case side3 => exact ca_ (Kd.C_below HR0_8.out HB.out))
            (case side4 => exact HC0_8.out)
            (case side5 => exact ca_ (Kd.C_below HR0_9.out HB.out))
            (case side6 => exact HC0_9.out)
            (case side7 => exact ca_ (Kd.C_below HR0_10.out HB.out))
            (case side8 => exact HC0_10.out)
            rintro e w75 ⟨v334, v339, v342, v345, rfl, ho0, ho1, ho2, ho3, hb⟩
            refine ⟨_, rfl, ?_⟩
            have n0_ := Aside0.mk (Kd.R_elder' (ra_ HO255) (Kd.R_base ho0) hb)
            have n1_ := Aside0.mk (Kd.R_mono (Kd.R_told (Kd.R_told (Kd.R_old (ra_ HO260) hb) (Kd.R_base ho1)) (Kd.R_base ho2)) (fun _ h_ => h_.1))
            have n2_ := Aside0.mk (Kd.R_mono (Kd.R_told (Kd.R_told (Kd.R_old (ra_ HO263) hb) (Kd.R_base ho1)) (Kd.R_base ho2)) (fun _ h_ => h_.1))
            have n3_ := Aside0.mk (Kd.S_elder' (by (with_reducible repeat (first | apply Kd.S_alloc | apply Kd.S_drewN | apply Kd.S_drew)); exact HO266.out) (Kd.S_base ho3) hb)
            have n4_ := Aside0.mk (Kd.R_elder' (ra_ HO274) (Kd.R_base ho0) hb)
            have n5_ := Aside0.mk (Kd.R_mono (Kd.R_told (Kd.R_told (Kd.R_old (ra_ HO279) hb) (Kd.R_base ho1)) (Kd.R_base ho2)) (fun _ h_ => h_.1))
            have n6_ := Aside0.mk (Kd.R_mono (Kd.R_told (Kd.R_told (Kd.R_old (ra_ HO282) hb) (Kd.R_base ho1)) (Kd.R_base ho2)) (fun _ h_ => h_.1))
            have n7_ := Aside0.mk (Kd.S_elder' (by (with_reducible repeat (first | apply Kd.S_alloc | apply Kd.S_drewN | apply Kd.S_drew)); exact HO285.out) (Kd.S_base ho3) hb)
            have n8_ := Aside0.mk (Kd.R_elder' (ra_ HO294) (Kd.R_base ho0) hb)
            have n9_ := Aside0.mk (Kd.R_mono (Kd.R_told (Kd.R_told (Kd.R_old (ra_ HO299) hb) (Kd.R_base ho1)) (Kd.R_base ho2)) (fun _ h_ => h_.1))
            have n10_ := Aside0.mk (Kd.R_mono (Kd.R_told (Kd.R_told (Kd.R_old (ra_ HO302) hb) (Kd.R_base ho1)) (Kd.R_base ho2)) (fun _ h_ => h_.1))
            have n11_ := Aside0.mk (Kd.S_elder' (by (with_reducible repeat (first | apply Kd.S_alloc | apply Kd.S_drewN | apply Kd.S_drew)); exact HO305.out) (Kd.S_base ho3) hb)
            have n12_ := Aside0.mk (Kd.R_elder' (ra_ HO314) (Kd.R_base ho0) hb)
            have n13_ := Aside0.mk (Kd.R_mono (Kd.R_told (Kd.R_told (Kd.R_old (ra_ HO319) hb) (Kd.R_base ho1)) (Kd.R_base ho2)) (fun _ h_ => h_.1))
            have n14_ := Aside0.mk (Kd.R_mono (Kd.R_told (Kd.R_told (Kd.R_old (ra_ HO322) hb) (Kd.R_base ho1)) (Kd.R_base ho2)) (fun _ h_ => h_.1))
            have n15_ := Aside0.mk (Kd.S_elder' (by (with_reducible repeat (first | apply Kd.S_alloc | apply Kd.S_drewN | apply Kd.S_drew)); exact HO325.out) (Kd.S_base ho3) hb)
            have n16_ := Aside0.mk (Kd.R_lower (Kd.R_new' (Kd.R_new' (Kd.R_new' (Kd.R_new' ho0 (Kd.R_lt (ra_ HO255))) (Kd.R_lt (ra_ HO274))) (Kd.R_lt (ra_ HO294))) (Kd.R_lt (ra_ HO314))) (below_size bl_))
            have n17_ := Aside0.mk (Kd.R_lower (Kd.R_new' (Kd.R_new' (Kd.R_new' (Kd.R_new' (Kd.R_new' (Kd.R_new' (Kd.R_new' (Kd.R_new' ho1 (Kd.R_lt (ra_ HO260))) (Kd.R_lt (ra_ HO263))) (Kd.R_lt (ra_ HO279))) (Kd.R_lt (ra_ HO282))) (Kd.R_lt (ra_ HO299))) (Kd.R_lt (ra_ HO302))) (Kd.R_lt (ra_ HO319))) (Kd.R_lt (ra_ HO322))) (below_size bl_))
            have n18_ := Aside0.mk (Kd.R_lower (Kd.R_new' (Kd.R_new' (Kd.R_new' (Kd.R_new' (Kd.R_new' (Kd.R_new' (Kd.R_new' (Kd.R_new' ho2 (Kd.R_lt (ra_ HO260))) (Kd.R_lt (ra_ HO263))) (Kd.R_lt (ra_ HO279))) (Kd.R_lt (ra_ HO282))) (Kd.R_lt (ra_ HO299))) (Kd.R_lt (ra_ HO302))) (Kd.R_lt (ra_ HO319))) (Kd.R_lt (ra_ HO322))) (below_size bl_))
            have n19_ := Aside0.mk (Kd.S_lower (Kd.S_new' (Kd.S_new' (Kd.S_new' (Kd.S_new' ho3 (Kd.S_lt (by (with_reducible repeat (first | apply Kd.S_alloc | apply Kd.S_drewN | apply Kd.S_drew)); exact HO266.out))) (Kd.S_lt (by (with_reducible repeat (first | apply Kd.S_alloc | apply Kd.S_drewN | apply Kd.S_drew)); exact HO285.out))) (Kd.S_lt (by (with_reducible repeat (first | apply Kd.S_alloc | apply Kd.S_drewN | apply Kd.S_drew)); exact HO305.out))) (Kd.S_lt (by (with_reducible repeat (first | apply Kd.S_alloc | apply Kd.S_drewN | apply Kd.S_drew)); exact HO325.out))) (below_size bl_))
            have n20_ := Aside0.mk (blk_below (bk_ BK244) hb)
            have n21_ := Aside0.mk (blk_below (bk_ BK245) hb)
            have n22_ := Aside0.mk (blk_below (bk_ BK306) hb)
            have n23_ := Aside0.mk (blk_below (bk_ BK326) hb)
            have n24_ := Aside0.mk (below_step bl_ hb)
            clear HO255
            clear HO260
            clear HO263
            clear HO266
            clear HO274
            clear HO279
            clear HO282
            clear HO285
            clear HO294
            clear HO299
            clear HO302
            clear HO305
            clear HO314
            clear HO319
            clear HO322
            clear HO325
            clear BK244
            clear BK245
            clear BK306
            clear BK326
            clear HB
            have HO255 := n0_
            have HO260 := n1_
            have HO263 := n2_
            have HO266 := n3_
            have HO274 := n4_
            have HO279 := n5_
            have HO282 := n6_
            have HO285 := n7_
            have HO294 := n8_
            have HO299 := n9_
            have HO302 := n10_
            have HO305 := n11_
            have HO314 := n12_
            have HO319 := n13_
            have HO322 := n14_
            have HO325 := n15_
            have HO335 := n16_
            have HO340 := n17_
            have HO343 := n18_
            have HO346 := n19_
            have BK244 := n20_
            have BK245 := n21_
            have BK306 := n22_
            have BK326 := n23_
            have HB := n24_
            clear n0_ n1_ n2_ n3_ n4_ n5_ n6_ n7_ n8_ n9_ n10_ n11_ n12_ n13_ n14_ n15_ n16_ n17_ n18_ n19_ n20_ n21_ n22_ n23_ n24_
            (try clear hb)
            (try clear hb2)
            (try clear hk)
            (try clear hi)
            (try clear ho0)
            (try clear ho1)
            (try clear ho2)
            (try clear ho3)
            obtain ⟨Ao76, co76, eo76⟩ := Kd.R_slice HO335.out
            (first | subst eo76 | (injection eo76 with f1_ f2_ f3_; have f4_ := f1_.symm; have f5_ := f3_.symm; clear f1_ f2_ f3_; subst f4_; subst f5_))
            obtain ⟨Ao77, co77, eo77⟩ := Kd.R_slice HO340.out
            (first | subst eo77 | (injection eo77 with f1_ f2_ f3_; have f4_ := f1_.symm; have f5_ := f3_.symm; clear f1_ f2_ f3_; subst f4_; subst f5_))
            obtain ⟨Ao78, co78, eo78⟩ := Kd.R_slice HO343.out
            (first | subst eo78 | (injection eo78 with f1_ f2_ f3_; have f4_ := f1_.symm; have f5_ := f3_.symm; clear f1_ f2_ f3_; subst f4_; subst f5_))
            obtain ⟨Ao79, co79, eo79⟩ := Kd.S_slice HO346.out
            (first | subst eo79 | (injection eo79 with f1_ f2_ f3_; have f4_ := f1_.symm; have f5_ := f3_.symm; clear f1_ f2_ f3_; subst f4_; subst f5_))
            refine hK.out _ _ ⟨(blk_cell BK306.out 0).trans rfl, (blk_cell BK306.out 1).trans rfl, (blk_cell BK306.out 2).trans rfl, (blk_cell BK306.out 3).trans rfl, (blk_cell BK306.out 4).trans rfl, (blk_cell BK306.out 5).trans rfl, (blk_cell BK306.out 6).trans rfl, (blk_cell BK306.out 7).trans rfl, (blk_cell BK306.out 8).trans rfl, (blk_cell BK306.out 9).trans rfl, (blk_cell BK306.out 10).trans rfl, (blk_cell BK244.out 0).trans rfl, (blk_cell BK244.out 1).trans rfl, (blk_cell BK244.out 2).trans rfl, (blk_cell BK244.out 3).trans rfl, (blk_cell BK244.out 4).trans rfl, (blk_cell BK244.out 5).trans rfl, (blk_cell BK244.out 6).trans rfl, (blk_cell BK244.out 7).trans rfl, (blk_cell BK244.out 8).trans rfl, (blk_cell BK244.out 9).trans rfl, (blk_cell BK244.out 10).trans rfl⟩ (fun hHeld => ?_)
            clear hK K
            refine norm_ (a' := ?_) ?_ ?_
            rotate_left
            · show Act.put _ (some 37) _ = _
              simp only [Act.put, List.setIfInBounds_toArray, List.set_cons_zero, List.set_cons_succ, i64_w, i32_w]
              rfl
            refine one_ (i := 3) (N := some 38) #[true, true, true, true, false] rfl rfl (by kernel_rfl) (by decide) (fun K hK => ?_)
            refine goes_ Try.func53 (by kernel_rfl) rfl #[.agg #[.string t287, .int .i64 t288, .int .i64 t289, .int .i64 t290, .int .i64 t291, .slice Ao57 t292.length co57, .int .i64 t295, .int .i64 t296, .slice Ao58 t297.length co58, .slice Ao59 t300.length co59, .slice Ao60 t303.length co60], .agg #[.string t328, .int .i64 t329, .int .i64 t330, .int .i64 t331, .int .i64 t332, .slice Ao76 t333.length co76, .int .i64 t336, .int .i64 t337, .slice Ao77 t338.length co77, .slice Ao78 t341.length co78, .slice Ao79 t344.length co79]] (by rfl) rfl rfl gl_ ?_
            with_reducible refine (laws_eqAcct.calls k t287 t288 t289 t290 t291 _ _ t292 t295 t296 _ _ t297 _ _ t300 _ _ t303 t328 t329 t330 t331 t332 _ _ t333 t336 t337 _ _ t338 _ _ t341 _ _ t344 true _ ?side1 ?side2 ?side3 ?side4 ?side5 ?side6 ?side7 ?side8 ?side9 ?side10 ?side11 ?side12 ?side13 ?side14 ?side15 ?side16 A27.out).mono ?_
            (case side1 => exact ca_ ((Kd.R_reads' HO294.out).2.2))
            (case side2 => exact (Kd.R_reads' HO294.out).2.1)
            (case side3 => exact ca_ ((Kd.R_reads' HO299.out).2.2))
            (case side4 => exact (Kd.R_reads' HO299.out).2.1)
            (case side5 => exact ca_ ((Kd.R_reads' HO302.out).2.2))
            (case side6 => exact (Kd.R_reads' HO302.out).2.1)
            (case side7 => exact ca_ ((Kd.S_reads' HO305.out).2.2))
            (case side8 => exact (Kd.S_reads' HO305.out).2.1)
            (case side9 => exact ca_ ((Kd.R_reads' HO335.out).2.2))
            (case side10 => exact (Kd.R_reads' HO335.out).2.1)
            (case side11 => exact ca_ ((Kd.R_reads' HO340.out).2.2))
            (case side12 => exact (Kd.R_reads' HO340.out).2.1)
            (case side13 => exact ca_ ((Kd.R_reads' HO343.out).2.2))
            (case side14 => exact (Kd.R_reads' HO343.out).2.1)
            (case side15 => exact ca_ ((Kd.S_reads' HO346.out).2.2))
            (case side16 => exact (Kd.S_reads' HO346.out).2.1)
            rintro e w80 ⟨rfl, hb⟩
            refine ⟨_, rfl, ?_⟩
            have n0_ := Aside0.mk (Kd.R_below (ra_ HO255) hb)
            have n1_ := Aside0.mk (Kd.R_below (ra_ HO260) hb)
            have n2_ := Aside0.mk (Kd.R_below (ra_ HO263) hb)
            have n3_ := Aside0.mk (Kd.S_below (by (with_reducible repeat (first | apply Kd.S_alloc | apply Kd.S_drewN | apply Kd.S_drew)); exact HO266.out) hb)
            have n4_ := Aside0.mk (Kd.R_below (ra_ HO274) hb)
            have n5_ := Aside0.mk (Kd.R_below (ra_ HO279) hb)
            have n6_ := Aside0.mk (Kd.R_below (ra_ HO282) hb)
            have n7_ := Aside0.mk (Kd.S_below (by (with_reducible repeat (first | apply Kd.S_alloc | apply Kd.S_drewN | apply Kd.S_drew)); exact HO285.out) hb)
            have n8_ := Aside0.mk (Kd.R_below (ra_ HO294) hb)
            have n9_ := Aside0.mk (Kd.R_below (ra_ HO299) hb)
            have n10_ := Aside0.mk (Kd.R_below (ra_ HO302) hb)
            have n11_ := Aside0.mk (Kd.S_below (by (with_reducible repeat (first | apply Kd.S_alloc | apply Kd.S_drewN | apply Kd.S_drew)); exact HO305.out) hb)
            have n12_ := Aside0.mk (Kd.R_below (ra_ HO314) hb)
            have n13_ := Aside0.mk (Kd.R_below (ra_ HO319) hb)
            have n14_ := Aside0.mk (Kd.R_below (ra_ HO322) hb)
            have n15_ := Aside0.mk (Kd.S_below (by (with_reducible repeat (first | apply Kd.S_alloc | apply Kd.S_drewN | apply Kd.S_drew)); exact HO325.out) hb)
            have n16_ := Aside0.mk (Kd.R_below (ra_ HO335) hb)
            have n17_ := Aside0.mk (Kd.R_below (ra_ HO340) hb)
            have n18_ := Aside0.mk (Kd.R_below (ra_ HO343) hb)
            have n19_ := Aside0.mk (Kd.S_below (by (with_reducible repeat (first | apply Kd.S_alloc | apply Kd.S_drewN | apply Kd.S_drew)); exact HO346.out) hb)
            have n20_ := Aside0.mk (blk_below (bk_ BK244) hb)
            have n21_ := Aside0.mk (blk_below (bk_ BK245) hb)
            have n22_ := Aside0.mk (blk_below (bk_ BK306) hb)
            have n23_ := Aside0.mk (blk_below (bk_ BK326) hb)
            have n24_ := Aside0.mk (below_step bl_ hb)
            clear HO255
            clear HO260
            clear HO263
            clear HO266
            clear HO274
            clear HO279
            clear HO282
            clear HO285
            clear HO294
            clear HO299
            clear HO302
            clear HO305
            clear HO314
            clear HO319
            clear HO322
            clear HO325
            clear HO335
            clear HO340
            clear HO343
            clear HO346
            clear BK244
            clear BK245
            clear BK306
            clear BK326
            clear HB
            have HO255 := n0_
            have HO260 := n1_
            have HO263 := n2_
            have HO266 := n3_
            have HO274 := n4_
            have HO279 := n5_
            have HO282 := n6_
            have HO285 := n7_
            have HO294 := n8_
            have HO299 := n9_
            have HO302 := n10_
            have HO305 := n11_
            have HO314 := n12_
            have HO319 := n13_
            have HO322 := n14_
            have HO325 := n15_
            have HO335 := n16_
            have HO340 := n17_
            have HO343 := n18_
            have HO346 := n19_
            have BK244 := n20_
            have BK245 := n21_
            have BK306 := n22_
            have BK326 := n23_
            have HB := n24_
            clear n0_ n1_ n2_ n3_ n4_ n5_ n6_ n7_ n8_ n9_ n10_ n11_ n12_ n13_ n14_ n15_ n16_ n17_ n18_ n19_ n20_ n21_ n22_ n23_ n24_
            (try clear hb)
            (try clear hb2)
            (try clear hk)
            (try clear hi)
            refine hK.out _ _ ⟨(blk_cell BK306.out 0).trans rfl, (blk_cell BK306.out 1).trans rfl, (blk_cell BK306.out 2).trans rfl, (blk_cell BK306.out 3).trans rfl, (blk_cell BK306.out 4).trans rfl, (blk_cell BK306.out 5).trans rfl, (blk_cell BK306.out 6).trans rfl, (blk_cell BK306.out 7).trans rfl, (blk_cell BK306.out 8).trans rfl, (blk_cell BK306.out 9).trans rfl, (blk_cell BK306.out 10).trans rfl, (blk_cell BK244.out 0).trans rfl, (blk_cell BK244.out 1).trans rfl, (blk_cell BK244.out 2).trans rfl, (blk_cell BK244.out 3).trans rfl, (blk_cell BK244.out 4).trans rfl, (blk_cell BK244.out 5).trans rfl, (blk_cell BK244.out 6).trans rfl, (blk_cell BK244.out 7).trans rfl, (blk_cell BK244.out 8).trans rfl, (blk_cell BK244.out 9).trans rfl, (blk_cell BK244.out 10).trans rfl⟩ (fun hHeld => ?_)
            clear hK K
            refine norm_ (a' := ?_) ?_ ?_
            rotate_left
            · show Act.put _ (some 38) _ = _
              simp only [Act.put, List.setIfInBounds_toArray, List.set_cons_zero, List.set_cons_succ, i64_w, i32_w]
              rfl
            refine pure_ (i := 4) (N := some 39) (v := ?_) (a' := ?_) #[true, true, true, true, true] rfl rfl (by kernel_rfl) (fun _ _ _ h => h) (Or.inl ⟨by rfl, ?_⟩) ?_ ?_
            rotate_left
            · intro w'
              go_simp
              with_reducible rfl
            rotate_left
            · simp only [Act.put, List.setIfInBounds_toArray, List.set_cons_zero, List.set_cons_succ, i64_w, i32_w]
              rfl
            refine done_ (by kernel_rfl) ?_
            try go_wp2
            have n0_ := Aside0.mk (Kd.R_drew HO255.out)
            have n1_ := Aside0.mk (Kd.R_drew HO260.out)
            have n2_ := Aside0.mk (Kd.R_drew HO263.out)
            have n3_ := Aside0.mk (Kd.S_drew HO266.out)
            have n4_ := Aside0.mk (Kd.R_drew HO274.out)
            have n5_ := Aside0.mk (Kd.R_drew HO279.out)
            have n6_ := Aside0.mk (Kd.R_drew HO282.out)
            have n7_ := Aside0.mk (Kd.S_drew HO285.out)
            have n8_ := Aside0.mk (Kd.R_drew HO294.out)
            have n9_ := Aside0.mk (Kd.R_drew HO299.out)
            have n10_ := Aside0.mk (Kd.R_drew HO302.out)
            have n11_ := Aside0.mk (Kd.S_drew HO305.out)
            have n12_ := Aside0.mk (Kd.R_drew HO314.out)
            have n13_ := Aside0.mk (Kd.R_drew HO319.out)
            have n14_ := Aside0.mk (Kd.R_drew HO322.out)
            have n15_ := Aside0.mk (Kd.S_drew HO325.out)
            have n16_ := Aside0.mk (Kd.R_drew HO335.out)
            have n17_ := Aside0.mk (Kd.R_drew HO340.out)
            have n18_ := Aside0.mk (Kd.R_drew HO343.out)
            have n19_ := Aside0.mk (Kd.S_drew HO346.out)
            have n20_ := Aside0.mk (blk_drew BK244.out)
            have n21_ := Aside0.mk (blk_drew BK245.out)
            have n22_ := Aside0.mk (blk_drew BK306.out)
            have n23_ := Aside0.mk (blk_drew BK326.out)
            have n24_ := Aside0.mk (below_drew1 HB.out)
            clear HO255
            clear HO260
            clear HO263
            clear HO266
            clear HO274
            clear HO279
            clear HO282
            clear HO285
            clear HO294
            clear HO299
            clear HO302
            clear HO305
            clear HO314
            clear HO319
            clear HO322
            clear HO325
            clear HO335
            clear HO340
            clear HO343
            clear HO346
            clear BK244
            clear BK245
            clear BK306
            clear BK326
            clear HB
            have HO255 := n0_
            have HO260 := n1_
            have HO263 := n2_
            have HO266 := n3_
            have HO274 := n4_
            have HO279 := n5_
            have HO282 := n6_
            have HO285 := n7_
            have HO294 := n8_
            have HO299 := n9_
            have HO302 := n10_
            have HO305 := n11_
            have HO314 := n12_
            have HO319 := n13_
            have HO322 := n14_
            have HO325 := n15_
            have HO335 := n16_
            have HO340 := n17_
            have HO343 := n18_
            have HO346 := n19_
            have BK244 := n20_
            have BK245 := n21_
            have BK306 := n22_
            have BK326 := n23_
            have HB := n24_
            clear n0_ n1_ n2_ n3_ n4_ n5_ n6_ n7_ n8_ n9_ n10_ n11_ n12_ n13_ n14_ n15_ n16_ n17_ n18_ n19_ n20_ n21_ n22_ n23_ n24_
            refine start_ (n := 5) (S := fun w' => w'.cell? ⟨gb326, 0, none⟩ = some (.string t307) ∧ w'.cell? ⟨gb326, 1, none⟩ = some (.int .i64 t308) ∧ w'.cell? ⟨gb326, 2, none⟩ = some (.int .i64 t309) ∧ w'.cell? ⟨gb326, 3, none⟩ = some (.int .i64 t310) ∧ w'.cell? ⟨gb326, 4, none⟩ = some (.int .i64 t311) ∧ w'.cell? ⟨gb326, 5, none⟩ = some (.slice Ao68 t312.length co68) ∧ w'.cell? ⟨gb326, 6, none⟩ = some (.int .i64 t315) ∧ w'.cell? ⟨gb326, 7, none⟩ = some (.int .i64 t316) ∧ w'.cell? ⟨gb326, 8, none⟩ = some (.slice Ao69 t317.length co69) ∧ w'.cell? ⟨gb326, 9, none⟩ = some (.slice Ao70 t320.length co70) ∧ w'.cell? ⟨gb326, 10, none⟩ = some (.slice Ao71 t323.length co71) ∧ w'.cell? ⟨gb245, 0, none⟩ = some (.string a1_0) ∧ w'.cell? ⟨gb245, 1, none⟩ = some (.int .i64 a1_1) ∧ w'.cell? ⟨gb245, 2, none⟩ = some (.int .i64 a1_2) ∧ w'.cell? ⟨gb245, 3, none⟩ = some (.int .i64 a1_3) ∧ w'.cell? ⟨gb245, 4, none⟩ = some (.int .i64 a1_4) ∧ w'.cell? ⟨gb245, 5, none⟩ = some (.slice A1_5 l1_5.length c1_5) ∧ w'.cell? ⟨gb245, 6, none⟩ = some (.int .i64 a1_6) ∧ w'.cell? ⟨gb245, 7, none⟩ = some (.int .i64 a1_7) ∧ w'.cell? ⟨gb245, 8, none⟩ = some (.slice A1_8 l1_8.length c1_8) ∧ w'.cell? ⟨gb245, 9, none⟩ = some (.slice A1_9 l1_9.length c1_9) ∧ w'.cell? ⟨gb245, 10, none⟩ = some (.slice A1_10 l1_10.length c1_10)) (ds := []) #[false, false, false, false, false] (by kernel_rfl) rfl rfl ⟨(blk_cell BK326.out 0).trans rfl, (blk_cell BK326.out 1).trans rfl, (blk_cell BK326.out 2).trans rfl, (blk_cell BK326.out 3).trans rfl, (blk_cell BK326.out 4).trans rfl, (blk_cell BK326.out 5).trans rfl, (blk_cell BK326.out 6).trans rfl, (blk_cell BK326.out 7).trans rfl, (blk_cell BK326.out 8).trans rfl, (blk_cell BK326.out 9).trans rfl, (blk_cell BK326.out 10).trans rfl, (blk_cell BK245.out 0).trans rfl, (blk_cell BK245.out 1).trans rfl, (blk_cell BK245.out 2).trans rfl, (blk_cell BK245.out 3).trans rfl, (blk_cell BK245.out 4).trans rfl, (blk_cell BK245.out 5).trans rfl, (blk_cell BK245.out 6).trans rfl, (blk_cell BK245.out 7).trans rfl, (blk_cell BK245.out 8).trans rfl, (blk_cell BK245.out 9).trans rfl, (blk_cell BK245.out 10).trans rfl⟩ (fun hHeld => ?_)
            generalize w80.drew = w81 at HO255 HO260 HO263 HO266 HO274 HO279 HO282 HO285 HO294 HO299 HO302 HO305 HO314 HO319 HO322 HO325 HO335 HO340 HO343 HO346 BK244 BK245 BK306 BK326 HB hHeld ⊢
            refine take_ (i := 0) (N := some 40) (v := ?_) (a' := ?_) #[true, false, false, false, false] rfl rfl (by kernel_rfl) (fun _ _ _ h => h) (Or.inl ⟨by rfl, ?_⟩) hHeld ?_ ?_
            rotate_left
            · rintro w' ⟨s0, s1, s2, s3, s4, s5, s6, s7, s8, s9, s10, s11, s12, s13, s14, s15, s16, s17, s18, s19, s20, s21⟩
              go_simp
              with_reducible rfl
            rotate_left
            · simp only [Act.put, List.setIfInBounds_toArray, List.set_cons_zero, List.set_cons_succ, i64_w, i32_w]
              rfl
            refine take_ (i := 1) (N := some 41) (v := ?_) (a' := ?_) #[true, true, false, false, false] rfl rfl (by kernel_rfl) (fun _ _ _ h => h) (Or.inl ⟨by rfl, ?_⟩) hHeld ?_ ?_
            rotate_left
            · rintro w' ⟨s0, s1, s2, s3, s4, s5, s6, s7, s8, s9, s10, s11, s12, s13, s14, s15, s16, s17, s18, s19, s20, s21⟩
              go_simp
              with_reducible rfl
            rotate_left
            · simp only [Act.put, List.setIfInBounds_toArray, List.set_cons_zero, List.set_cons_succ, i64_w, i32_w]
              rfl
            refine one_ (i := 2) (N := some 42) #[true, true, true, false, false] rfl rfl (by kernel_rfl) (by decide) (fun K hK => ?_)
            refine goes_ Try.func51 (by kernel_rfl) rfl #[.agg #[.string a1_0, .int .i64 a1_1, .int .i64 a1_2, .int .i64 a1_3, .int .i64 a1_4, .slice A1_5 l1_5.length c1_5, .int .i64 a1_6, .int .i64 a1_7, .slice A1_8 l1_8.length c1_8, .slice A1_9 l1_9.length c1_9, .slice A1_10 l1_10.length c1_10]] (by rfl) rfl rfl gl_ ?_
            with_reducible refine (laws_toAcct.calls k a1_0 a1_1 a1_2 a1_3 a1_4 _ _ l1_5 a1_6 a1_7 _ _ l1_8 _ _ l1_9 _ _ l1_10 t348 t349 t350 t351 t352 t353 t356 t357 t358 t361 t364 _ ?side1 ?side2 ?side3 ?side4 ?side5 ?side6 ?side7 ?side8 A29.out).mono ?_
            (case side1 => exact ca_ (Kd.C_below HR1_5.out HB.out))
            (case side2 => exact HC1_5.out)
            (case side3 => exact ca_ (Kd.C_below HR1_8.out HB.out))
            (case side4 => exact HC1_8.out)
            (case side5 => exact ca_ (Kd.C_below HR1_9.out HB.out))
            (case side6 => exact HC1_9.out)
            (case side7 => exact ca_ (Kd.C_below HR1_10.out HB.out))
            (case side8 => exact HC1_10.out)
            rintro e w82 ⟨v354, v359, v362, v365, rfl, ho0, ho1, ho2, ho3, hb⟩
            refine ⟨_, rfl, ?_⟩
            have n0_ := Aside0.mk (Kd.R_elder' (ra_ HO255) (Kd.R_base ho0) hb)
            have n1_ := Aside0.mk (Kd.R_mono (Kd.R_told (Kd.R_told (Kd.R_old (ra_ HO260) hb) (Kd.R_base ho1)) (Kd.R_base ho2)) (fun _ h_ => h_.1))
            have n2_ := Aside0.mk (Kd.R_mono (Kd.R_told (Kd.R_told (Kd.R_old (ra_ HO263) hb) (Kd.R_base ho1)) (Kd.R_base ho2)) (fun _ h_ => h_.1))
            have n3_ := Aside0.mk (Kd.S_elder' (by (with_reducible repeat (first | apply Kd.S_alloc | apply Kd.S_drewN | apply Kd.S_drew)); exact HO266.out) (Kd.S_base ho3) hb)
            have n4_ := Aside0.mk (Kd.R_elder' (ra_ HO274) (Kd.R_base ho0) hb)
            have n5_ := Aside0.mk (Kd.R_mono (Kd.R_told (Kd.R_told (Kd.R_old (ra_ HO279) hb) (Kd.R_base ho1)) (Kd.R_base ho2)) (fun _ h_ => h_.1))
            have n6_ := Aside0.mk (Kd.R_mono (Kd.R_told (Kd.R_told (Kd.R_old (ra_ HO282) hb) (Kd.R_base ho1)) (Kd.R_base ho2)) (fun _ h_ => h_.1))
            have n7_ := Aside0.mk (Kd.S_elder' (by (with_reducible repeat (first | apply Kd.S_alloc | apply Kd.S_drewN | apply Kd.S_drew)); exact HO285.out) (Kd.S_base ho3) hb)
            have n8_ := Aside0.mk (Kd.R_elder' (ra_ HO294) (Kd.R_base ho0) hb)
            have n9_ := Aside0.mk (Kd.R_mono (Kd.R_told (Kd.R_told (Kd.R_old (ra_ HO299) hb) (Kd.R_base ho1)) (Kd.R_base ho2)) (fun _ h_ => h_.1))
            have n10_ := Aside0.mk (Kd.R_mono (Kd.R_told (Kd.R_told (Kd.R_old (ra_ HO302) hb) (Kd.R_base ho1)) (Kd.R_base ho2)) (fun _ h_ => h_.1))
            have n11_ := Aside0.mk (Kd.S_elder' (by (with_reducible repeat (first | apply Kd.S_alloc | apply Kd.S_drewN | apply Kd.S_drew)); exact HO305.out) (Kd.S_base ho3) hb)
            have n12_ := Aside0.mk (Kd.R_elder' (ra_ HO314) (Kd.R_base ho0) hb)
            have n13_ := Aside0.mk (Kd.R_mono (Kd.R_told (Kd.R_told (Kd.R_old (ra_ HO319) hb) (Kd.R_base ho1)) (Kd.R_base ho2)) (fun _ h_ => h_.1))
            have n14_ := Aside0.mk (Kd.R_mono (Kd.R_told (Kd.R_told (Kd.R_old (ra_ HO322) hb) (Kd.R_base ho1)) (Kd.R_base ho2)) (fun _ h_ => h_.1))
            have n15_ := Aside0.mk (Kd.S_elder' (by (with_reducible repeat (first | apply Kd.S_alloc | apply Kd.S_drewN | apply Kd.S_drew)); exact HO325.out) (Kd.S_base ho3) hb)
            have n16_ := Aside0.mk (Kd.R_elder' (ra_ HO335) (Kd.R_base ho0) hb)
            have n17_ := Aside0.mk (Kd.R_mono (Kd.R_told (Kd.R_told (Kd.R_old (ra_ HO340) hb) (Kd.R_base ho1)) (Kd.R_base ho2)) (fun _ h_ => h_.1))
            have n18_ := Aside0.mk (Kd.R_mono (Kd.R_told (Kd.R_told (Kd.R_old (ra_ HO343) hb) (Kd.R_base ho1)) (Kd.R_base ho2)) (fun _ h_ => h_.1))
            have n19_ := Aside0.mk (Kd.S_elder' (by (with_reducible repeat (first | apply Kd.S_alloc | apply Kd.S_drewN | apply Kd.S_drew)); exact HO346.out) (Kd.S_base ho3) hb)
            have n20_ := Aside0.mk (Kd.R_lower (Kd.R_new' (Kd.R_new' (Kd.R_new' (Kd.R_new' (Kd.R_new' ho0 (Kd.R_lt (ra_ HO255))) (Kd.R_lt (ra_ HO274))) (Kd.R_lt (ra_ HO294))) (Kd.R_lt (ra_ HO314))) (Kd.R_lt (ra_ HO335))) (below_size bl_))
            have n21_ := Aside0.mk (Kd.R_lower (Kd.R_new' (Kd.R_new' (Kd.R_new' (Kd.R_new' (Kd.R_new' (Kd.R_new' (Kd.R_new' (Kd.R_new' (Kd.R_new' (Kd.R_new' ho1 (Kd.R_lt (ra_ HO260))) (Kd.R_lt (ra_ HO263))) (Kd.R_lt (ra_ HO279))) (Kd.R_lt (ra_ HO282))) (Kd.R_lt (ra_ HO299))) (Kd.R_lt (ra_ HO302))) (Kd.R_lt (ra_ HO319))) (Kd.R_lt (ra_ HO322))) (Kd.R_lt (ra_ HO340))) (Kd.R_lt (ra_ HO343))) (below_size bl_))
            have n22_ := Aside0.mk (Kd.R_lower (Kd.R_new' (Kd.R_new' (Kd.R_new' (Kd.R_new' (Kd.R_new' (Kd.R_new' (Kd.R_new' (Kd.R_new' (Kd.R_new' (Kd.R_new' ho2 (Kd.R_lt (ra_ HO260))) (Kd.R_lt (ra_ HO263))) (Kd.R_lt (ra_ HO279))) (Kd.R_lt (ra_ HO282))) (Kd.R_lt (ra_ HO299))) (Kd.R_lt (ra_ HO302))) (Kd.R_lt (ra_ HO319))) (Kd.R_lt (ra_ HO322))) (Kd.R_lt (ra_ HO340))) (Kd.R_lt (ra_ HO343))) (below_size bl_))
            have n23_ := Aside0.mk (Kd.S_lower (Kd.S_new' (Kd.S_new' (Kd.S_new' (Kd.S_new' (Kd.S_new' ho3 (Kd.S_lt (by (with_reducible repeat (first | apply Kd.S_alloc | apply Kd.S_drewN | apply Kd.S_drew)); exact HO266.out))) (Kd.S_lt (by (with_reducible repeat (first | apply Kd.S_alloc | apply Kd.S_drewN | apply Kd.S_drew)); exact HO285.out))) (Kd.S_lt (by (with_reducible repeat (first | apply Kd.S_alloc | apply Kd.S_drewN | apply Kd.S_drew)); exact HO305.out))) (Kd.S_lt (by (with_reducible repeat (first | apply Kd.S_alloc | apply Kd.S_drewN | apply Kd.S_drew)); exact HO325.out))) (Kd.S_lt (by (with_reducible repeat (first | apply Kd.S_alloc | apply Kd.S_drewN | apply Kd.S_drew)); exact HO346.out))) (below_size bl_))
            have n24_ := Aside0.mk (blk_below (bk_ BK244) hb)
            have n25_ := Aside0.mk (blk_below (bk_ BK245) hb)
            have n26_ := Aside0.mk (blk_below (bk_ BK306) hb)
            have n27_ := Aside0.mk (blk_below (bk_ BK326) hb)
            have n28_ := Aside0.mk (below_step bl_ hb)
            clear HO255
            clear HO260
            clear HO263
            clear HO266
            clear HO274
            clear HO279
            clear HO282
            clear HO285
            clear HO294
            clear HO299
            clear HO302
            clear HO305
            clear HO314
            clear HO319
            clear HO322
            clear HO325
            clear HO335
            clear HO340
            clear HO343
            clear HO346
            clear BK244
            clear BK245
            clear BK306
            clear BK326
            clear HB
            have HO255 := n0_
            have HO260 := n1_
            have HO263 := n2_
            have HO266 := n3_
            have HO274 := n4_
            have HO279 := n5_
            have HO282 := n6_
            have HO285 := n7_
            have HO294 := n8_
            have HO299 := n9_
            have HO302 := n10_
            have HO305 := n11_
            have HO314 := n12_
            have HO319 := n13_
            have HO322 := n14_
            have HO325 := n15_
            have HO335 := n16_
            have HO340 := n17_
            have HO343 := n18_
            have HO346 := n19_
            have HO355 := n20_
            have HO360 := n21_
            have HO363 := n22_
            have HO366 := n23_
            have BK244 := n24_
            have BK245 := n25_
            have BK306 := n26_
            have BK326 := n27_
            have HB := n28_
            clear n0_ n1_ n2_ n3_ n4_ n5_ n6_ n7_ n8_ n9_ n10_ n11_ n12_ n13_ n14_ n15_ n16_ n17_ n18_ n19_ n20_ n21_ n22_ n23_ n24_ n25_ n26_ n27_ n28_
            (try clear hb)
            (try clear hb2)
            (try clear hk)
            (try clear hi)
            (try clear ho0)
            (try clear ho1)
            (try clear ho2)
            (try clear ho3)
            obtain ⟨Ao83, co83, eo83⟩ := Kd.R_slice HO355.out
            (first | subst eo83 | (injection eo83 with f1_ f2_ f3_; have f4_ := f1_.symm; have f5_ := f3_.symm; clear f1_ f2_ f3_; subst f4_; subst f5_))
            obtain ⟨Ao84, co84, eo84⟩ := Kd.R_slice HO360.out
            (first | subst eo84 | (injection eo84 with f1_ f2_ f3_; have f4_ := f1_.symm; have f5_ := f3_.symm; clear f1_ f2_ f3_; subst f4_; subst f5_))
            obtain ⟨Ao85, co85, eo85⟩ := Kd.R_slice HO363.out
            (first | subst eo85 | (injection eo85 with f1_ f2_ f3_; have f4_ := f1_.symm; have f5_ := f3_.symm; clear f1_ f2_ f3_; subst f4_; subst f5_))
            obtain ⟨Ao86, co86, eo86⟩ := Kd.S_slice HO366.out
            (first | subst eo86 | (injection eo86 with f1_ f2_ f3_; have f4_ := f1_.symm; have f5_ := f3_.symm; clear f1_ f2_ f3_; subst f4_; subst f5_))
            refine hK.out _ _ ⟨(blk_cell BK326.out 0).trans rfl, (blk_cell BK326.out 1).trans rfl, (blk_cell BK326.out 2).trans rfl, (blk_cell BK326.out 3).trans rfl, (blk_cell BK326.out 4).trans rfl, (blk_cell BK326.out 5).trans rfl, (blk_cell BK326.out 6).trans rfl, (blk_cell BK326.out 7).trans rfl, (blk_cell BK326.out 8).trans rfl, (blk_cell BK326.out 9).trans rfl, (blk_cell BK326.out 10).trans rfl, (blk_cell BK245.out 0).trans rfl, (blk_cell BK245.out 1).trans rfl, (blk_cell BK245.out 2).trans rfl, (blk_cell BK245.out 3).trans rfl, (blk_cell BK245.out 4).trans rfl, (blk_cell BK245.out 5).trans rfl, (blk_cell BK245.out 6).trans rfl, (blk_cell BK245.out 7).trans rfl, (blk_cell BK245.out 8).trans rfl, (blk_cell BK245.out 9).trans rfl, (blk_cell BK245.out 10).trans rfl⟩ (fun hHeld => ?_)
            clear hK K
            refine norm_ (a' := ?_) ?_ ?_
            rotate_left
            · show Act.put _ (some 42) _ = _
              simp only [Act.put, List.setIfInBounds_toArray, List.set_cons_zero, List.set_cons_succ, i64_w, i32_w]
              rfl
            refine one_ (i := 3) (N := some 43) #[true, true, true, true, false] rfl rfl (by kernel_rfl) (by decide) (fun K hK => ?_)
            refine goes_ Try.func53 (by kernel_rfl) rfl #[.agg #[.string t307, .int .i64 t308, .int .i64 t309, .int .i64 t310, .int .i64 t311, .slice Ao68 t312.length co68, .int .i64 t315, .int .i64 t316, .slice Ao69 t317.length co69, .slice Ao70 t320.length co70, .slice Ao71 t323.length co71], .agg #[.string t348, .int .i64 t349, .int .i64 t350, .int .i64 t351, .int .i64 t352, .slice Ao83 t353.length co83, .int .i64 t356, .int .i64 t357, .slice Ao84 t358.length co84, .slice Ao85 t361.length co85, .slice Ao86 t364.length co86]] (by rfl) rfl rfl gl_ ?_
            with_reducible refine (laws_eqAcct.calls k t307 t308 t309 t310 t311 _ _ t312 t315 t316 _ _ t317 _ _ t320 _ _ t323 t348 t349 t350 t351 t352 _ _ t353 t356 t357 _ _ t358 _ _ t361 _ _ t364 true _ ?side1 ?side2 ?side3 ?side4 ?side5 ?side6 ?side7 ?side8 ?side9 ?side10 ?side11 ?side12 ?side13 ?side14 ?side15 ?side16 A30.out).mono ?_
            (case side1 => exact ca_ ((Kd.R_reads' HO314.out).2.2))
            (case side2 => exact (Kd.R_reads' HO314.out).2.1)
            (case side3 => exact ca_ ((Kd.R_reads' HO319.out).2.2))
            (case side4 => exact (Kd.R_reads' HO319.out).2.1)
            (case side5 => exact ca_ ((Kd.R_reads' HO322.out).2.2))
            (case side6 => exact (Kd.R_reads' HO322.out).2.1)
            (case side7 => exact ca_ ((Kd.S_reads' HO325.out).2.2))
            (case side8 => exact (Kd.S_reads' HO325.out).2.1)
            (case side9 => exact ca_ ((Kd.R_reads' HO355.out).2.2))
            (case side10 => exact (Kd.R_reads' HO355.out).2.1)
            (case side11 => exact ca_ ((Kd.R_reads' HO360.out).2.2))
            (case side12 => exact (Kd.R_reads' HO360.out).2.1)
            (case side13 => exact ca_ ((Kd.R_reads' HO363.out).2.2))
            (case side14 => exact (Kd.R_reads' HO363.out).2.1)
            (case side15 => exact ca_ ((Kd.S_reads' HO366.out).2.2))
            (case side16 => exact (Kd.S_reads' HO366.out).2.1)
            rintro e w87 ⟨rfl, hb⟩
            refine ⟨_, rfl, ?_⟩
            have n0_ := Aside0.mk (Kd.R_below (ra_ HO255) hb)
            have n1_ := Aside0.mk (Kd.R_below (ra_ HO260) hb)
            have n2_ := Aside0.mk (Kd.R_below (ra_ HO263) hb)
            have n3_ := Aside0.mk (Kd.S_below (by (with_reducible repeat (first | apply Kd.S_alloc | apply Kd.S_drewN | apply Kd.S_drew)); exact HO266.out) hb)
            have n4_ := Aside0.mk (Kd.R_below (ra_ HO274) hb)
            have n5_ := Aside0.mk (Kd.R_below (ra_ HO279) hb)
            have n6_ := Aside0.mk (Kd.R_below (ra_ HO282) hb)
            have n7_ := Aside0.mk (Kd.S_below (by (with_reducible repeat (first | apply Kd.S_alloc | apply Kd.S_drewN | apply Kd.S_drew)); exact HO285.out) hb)
            have n8_ := Aside0.mk (Kd.R_below (ra_ HO294) hb)
            have n9_ := Aside0.mk (Kd.R_below (ra_ HO299) hb)
            have n10_ := Aside0.mk (Kd.R_below (ra_ HO302) hb)
            have n11_ := Aside0.mk (Kd.S_below (by (with_reducible repeat (first | apply Kd.S_alloc | apply Kd.S_drewN | apply Kd.S_drew)); exact HO305.out) hb)
            have n12_ := Aside0.mk (Kd.R_below (ra_ HO314) hb)
            have n13_ := Aside0.mk (Kd.R_below (ra_ HO319) hb)
            have n14_ := Aside0.mk (Kd.R_below (ra_ HO322) hb)
            have n15_ := Aside0.mk (Kd.S_below (by (with_reducible repeat (first | apply Kd.S_alloc | apply Kd.S_drewN | apply Kd.S_drew)); exact HO325.out) hb)
            have n16_ := Aside0.mk (Kd.R_below (ra_ HO335) hb)
            have n17_ := Aside0.mk (Kd.R_below (ra_ HO340) hb)
            have n18_ := Aside0.mk (Kd.R_below (ra_ HO343) hb)
            have n19_ := Aside0.mk (Kd.S_below (by (with_reducible repeat (first | apply Kd.S_alloc | apply Kd.S_drewN | apply Kd.S_drew)); exact HO346.out) hb)
            have n20_ := Aside0.mk (Kd.R_below (ra_ HO355) hb)
            have n21_ := Aside0.mk (Kd.R_below (ra_ HO360) hb)
            have n22_ := Aside0.mk (Kd.R_below (ra_ HO363) hb)
            have n23_ := Aside0.mk (Kd.S_below (by (with_reducible repeat (first | apply Kd.S_alloc | apply Kd.S_drewN | apply Kd.S_drew)); exact HO366.out) hb)
            have n24_ := Aside0.mk (blk_below (bk_ BK244) hb)
            have n25_ := Aside0.mk (blk_below (bk_ BK245) hb)
            have n26_ := Aside0.mk (blk_below (bk_ BK306) hb)
            have n27_ := Aside0.mk (blk_below (bk_ BK326) hb)
            have n28_ := Aside0.mk (below_step bl_ hb)
            clear HO255
            clear HO260
            clear HO263
            clear HO266
            clear HO274
            clear HO279
            clear HO282
            clear HO285
            clear HO294
            clear HO299
            clear HO302
            clear HO305
            clear HO314
            clear HO319
            clear HO322
            clear HO325
            clear HO335
            clear HO340
            clear HO343
            clear HO346
            clear HO355
            clear HO360
            clear HO363
            clear HO366
            clear BK244
            clear BK245
            clear BK306
            clear BK326
            clear HB
            have HO255 := n0_
            have HO260 := n1_
            have HO263 := n2_
            have HO266 := n3_
            have HO274 := n4_
            have HO279 := n5_
            have HO282 := n6_
            have HO285 := n7_
            have HO294 := n8_
            have HO299 := n9_
            have HO302 := n10_
            have HO305 := n11_
            have HO314 := n12_
            have HO319 := n13_
            have HO322 := n14_
            have HO325 := n15_
            have HO335 := n16_
            have HO340 := n17_
            have HO343 := n18_
            have HO346 := n19_
            have HO355 := n20_
            have HO360 := n21_
            have HO363 := n22_
            have HO366 := n23_
            have BK244 := n24_
            have BK245 := n25_
            have BK306 := n26_
            have BK326 := n27_
            have HB := n28_
            clear n0_ n1_ n2_ n3_ n4_ n5_ n6_ n7_ n8_ n9_ n10_ n11_ n12_ n13_ n14_ n15_ n16_ n17_ n18_ n19_ n20_ n21_ n22_ n23_ n24_ n25_ n26_ n27_ n28_
            (try clear hb)
            (try clear hb2)
            (try clear hk)
            (try clear hi)
            refine hK.out _ _ ⟨(blk_cell BK326.out 0).trans rfl, (blk_cell BK326.out 1).trans rfl, (blk_cell BK326.out 2).trans rfl, (blk_cell BK326.out 3).trans rfl, (blk_cell BK326.out 4).trans rfl, (blk_cell BK326.out 5).trans rfl, (blk_cell BK326.out 6).trans rfl, (blk_cell BK326.out 7).trans rfl, (blk_cell BK326.out 8).trans rfl, (blk_cell BK326.out 9).trans rfl, (blk_cell BK326.out 10).trans rfl, (blk_cell BK245.out 0).trans rfl, (blk_cell BK245.out 1).trans rfl, (blk_cell BK245.out 2).trans rfl, (blk_cell BK245.out 3).trans rfl, (blk_cell BK245.out 4).trans rfl, (blk_cell BK245.out 5).trans rfl, (blk_cell BK245.out 6).trans rfl, (blk_cell BK245.out 7).trans rfl, (blk_cell BK245.out 8).trans rfl, (blk_cell BK245.out 9).trans rfl, (blk_cell BK245.out 10).trans rfl⟩ (fun hHeld => ?_)
            clear hK K
            refine norm_ (a' := ?_) ?_ ?_
            rotate_left
            · show Act.put _ (some 43) _ = _
              simp only [Act.put, List.setIfInBounds_toArray, List.set_cons_zero, List.set_cons_succ, i64_w, i32_w]
              rfl
            refine pure_ (i := 4) (N := some 44) (v := ?_) (a' := ?_) #[true, true, true, true, true] rfl rfl (by kernel_rfl) (fun _ _ _ h => h) (Or.inl ⟨by rfl, ?_⟩) ?_ ?_
            rotate_left
            · intro w'
              go_simp
              with_reducible rfl
            rotate_left
            · simp only [Act.put, List.setIfInBounds_toArray, List.set_cons_zero, List.set_cons_succ, i64_w, i32_w]
              rfl
            refine done_ (by kernel_rfl) ?_
            try go_wp2
            go_ret
            exact ⟨by first | rfl | (simp [errW_none, errW_some] <;> rfl) | (simp [*, errW_none, errW_some] <;> rfl), bl_⟩
          · replace c31 := Bool.eq_false_iff.mpr c31
            subst c31
            have H1 : (some false) = some true := by rw [if_neg (show ¬ (false = true) by decide)] at H; exact H
            clear H
            have H := H1
            clear H1
            exact absurd H (by simp)
        · replace c28 := Bool.eq_false_iff.mpr c28
          subst c28
          have H1 : (some false) = some true := by rw [if_neg (show ¬ (false = true) by decide)] at H; exact H
          clear H
          have H := H1
          clear H1
          exact absurd H (by simp)

def ok53 (x : S53) : Prop := (x.f0.size ≤ maxLen) ∧ ((Lit.int .i64 x.f1).wf = true) ∧ ((Lit.int .i64 x.f2).wf = true)
def ok78 (x : S78) : Prop := ((Lit.int .i64 x.f0).wf = true) ∧ ((Lit.int .i64 x.f1).wf = true) ∧ (x.f2.length ≤ maxLen ∧ ∀ y0 ∈ x.f2, (Lit.int .i64 y0).wf = true) ∧ (x.f3.length ≤ maxLen ∧ ∀ y0 ∈ x.f3, (Lit.int .i64 y0).wf = true)
def ok42 (x : S42) : Prop := (x.f0.size ≤ maxLen) ∧ (x.f1.size ≤ maxLen) ∧ (x.f2.length ≤ maxLen ∧ ∀ y0 ∈ x.f2, (Lit.int .u8 y0).wf = true)
def ok80 (x : S80) : Prop := (x.f0.size ≤ maxLen) ∧ ((Lit.int .i64 x.f1).wf = true) ∧ ((Lit.int .i64 x.f2).wf = true) ∧ ((Lit.int .i64 x.f3).wf = true) ∧ ((Lit.int .i64 x.f4).wf = true) ∧ (x.f5.length ≤ maxLen ∧ ∀ y0 ∈ x.f5, ok53 y0) ∧ (ok78 x.f6) ∧ (x.f7.length ≤ maxLen ∧ ∀ y0 ∈ x.f7, ok42 y0)
/-- THE ONE PURE STATEMENT of laws_FnExactAcctSame. -/
def laws_FnExactAcctSame.Pure : Prop := ∀ (s0 : S80) (s1 : S80), (ok80 s0) → (ok80 s1) → ∃ k, laws_FnExactAcctSame.f k s0.f0 s0.f1 s0.f2 s0.f3 s0.f4 s0.f5 s0.f6.f0 s0.f6.f1 s0.f6.f2 s0.f6.f3 s0.f7 s1.f0 s1.f1 s1.f2 s1.f3 s1.f4 s1.f5 s1.f6.f0 s1.f6.f1 s1.f6.f2 s1.f6.f3 s1.f7 = some true

end Go.Proofs.Ytcojjdfbdgpajaa.QFnExactAcctSame
