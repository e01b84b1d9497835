-- by my own printer (myprint.py, over the kit's print.py)
import Derived.Test.YtgcggfoailaalaaQFnExactAcctOkx0
import Derived.Test.YtgcggfoailaalaaQFnExactAcctOkx1
import Derived.Test.YtgcggfoailaalaaQFnExactAcctOkx6
import Derived.Test.YtgcggfoailaalaaQFnExactAcctOkx7
import Derived.Test.YtgcggfoailaalaaQFnExactAcctOkx12
import Derived.Test.YtgcggfoailaalaaQFnExactAcctOkx14
namespace Go.Proofs.Ytgcggfoailaalaa.QFnExactAcctOk
open Go.RowKit Go.Proofs.YtgcggfoailaalaaW.PrintWords Go.Proofs.YtgcggfoailaalaaW.PrintLast Go.Proofs.YtgcggfoailaalaaW.PrintMore
attribute [local go_sem] max2_int min2_int max_two min_two max_three min_three max_four min_four   -- for this text's walks alone
set_option linter.unusedVariables false
set_option linter.unusedSimpArgs false

attribute [local go_sem] my_geq my_leq my_gtr
/-! ### laws_FnExactAcctOk: function 4 -/
def laws_FnExactAcctOk.f (k : Nat) (a0_0 : ByteArray) (a0_1 : Int) (a0_2 : Int) (a0_3 : Int) (a0_4 : Int) (l0_5 : List (S138)) (a0_6 : Int) (a0_7 : Int) (l0_8 : List Int) (l0_9 : List Int) (l0_10 : List (S141)) : Option (Bool) := (laws_szAcct.f k a0_0 a0_1 a0_2 a0_3 a0_4 l0_5 a0_6 a0_7 l0_8 l0_9 l0_10 1048576).bind fun t323 => (if t323 < 0 then (some true) else ((laws_toAcct.f k a0_0 a0_1 a0_2 a0_3 a0_4 l0_5 a0_6 a0_7 l0_8 l0_9 l0_10).bind fun bt324 => ((spec_AcctOk.f k bt324.1 bt324.2.1 bt324.2.2.1 bt324.2.2.2.1 bt324.2.2.2.2.1 bt324.2.2.2.2.2.1 bt324.2.2.2.2.2.2.1 bt324.2.2.2.2.2.2.2.1 bt324.2.2.2.2.2.2.2.2.1 bt324.2.2.2.2.2.2.2.2.2.1 bt324.2.2.2.2.2.2.2.2.2.2).bind fun t343 => ((laws_toAcct.f k a0_0 a0_1 a0_2 a0_3 a0_4 l0_5 a0_6 a0_7 l0_8 l0_9 l0_10).bind fun bt344 => ((impl_AcctOk.f k bt344.1 bt344.2.1 bt344.2.2.1 bt344.2.2.2.1 bt344.2.2.2.2.1 bt344.2.2.2.2.2.1 bt344.2.2.2.2.2.2.1 bt344.2.2.2.2.2.2.2.1 bt344.2.2.2.2.2.2.2.2.1 bt344.2.2.2.2.2.2.2.2.2.1 bt344.2.2.2.2.2.2.2.2.2.2).bind fun t364 => (if (t364 != t343) = true then (some false) else ((laws_toAcct.f k a0_0 a0_1 a0_2 a0_3 a0_4 l0_5 a0_6 a0_7 l0_8 l0_9 l0_10).bind fun bt365 => ((laws_eqAcct.f k bt344.1 bt344.2.1 bt344.2.2.1 bt344.2.2.2.1 bt344.2.2.2.2.1 bt344.2.2.2.2.2.1 bt344.2.2.2.2.2.2.1 bt344.2.2.2.2.2.2.2.1 bt344.2.2.2.2.2.2.2.2.1 bt344.2.2.2.2.2.2.2.2.2.1 bt344.2.2.2.2.2.2.2.2.2.2 bt365.1 bt365.2.1 bt365.2.2.1 bt365.2.2.2.1 bt365.2.2.2.2.1 bt365.2.2.2.2.2.1 bt365.2.2.2.2.2.2.1 bt365.2.2.2.2.2.2.2.1 bt365.2.2.2.2.2.2.2.2.1 bt365.2.2.2.2.2.2.2.2.2.1 bt365.2.2.2.2.2.2.2.2.2.2).bind fun t384 => (if t384 = true then (some true) else (some false))))))))))
theorem laws_FnExactAcctOk.mono : ∀ a0 a1 a2 a3 a4 a5 a6 a7 a8 a9 a10 k, LeO (laws_FnExactAcctOk.f k a0 a1 a2 a3 a4 a5 a6 a7 a8 a9 a10) (laws_FnExactAcctOk.f (k + 1) a0 a1 a2 a3 a4 a5 a6 a7 a8 a9 a10) := by
 intro a0 a1 a2 a3 a4 a5 a6 a7 a8 a9 a10 k
 unfold laws_FnExactAcctOk.f
 repeat' first
   | (with_reducible exact impl_AcctOk.mono _ _ _ _ _ _ _ _ _ _ _ _)
   | (with_reducible exact laws_eqAcct.mono _ _ _ _ _ _ _ _ _ _ _ _ _ _ _ _ _ _ _ _ _ _ _)
   | (with_reducible exact laws_szAcct.mono _ _ _ _ _ _ _ _ _ _ _ _ _)
   | (with_reducible exact laws_toAcct.mono _ _ _ _ _ _ _ _ _ _ _ _)
   | (with_reducible exact spec_AcctOk.mono _ _ _ _ _ _ _ _ _ _ _ _)
   | (with_reducible exact LeO.refl _)
   | (with_reducible exact LeO.none _)
   | (with_reducible refine LeO.ite ?_ ?_)
   | (with_reducible refine LeO.bind ?_ (fun _ => ?_))
   | exact impl_AcctOk.mono _ _ _ _ _ _ _ _ _ _ _ _
   | exact laws_eqAcct.mono _ _ _ _ _ _ _ _ _ _ _ _ _ _ _ _ _ _ _ _ _ _ _
   | exact laws_szAcct.mono _ _ _ _ _ _ _ _ _ _ _ _ _
   | exact laws_toAcct.mono _ _ _ _ _ _ _ _ _ _ _ _
   | exact spec_AcctOk.mono _ _ _ _ _ _ _ _ _ _ _ _
   | exact LeO.none _
   | refine LeO.ite ?_ ?_
   | refine LeO.bind ?_ (fun _ => ?_)
set_option maxHeartbeats 8000000 in
set_option maxRecDepth 100000 in
theorem laws_FnExactAcctOk.calls (k : Nat) (a0_0 : ByteArray) (a0_1 : Int) (a0_2 : Int) (a0_3 : Int) (a0_4 : Int) (A0_5 : Option Addr) (c0_5 : Nat) (l0_5 : List (S138)) (a0_6 : Int) (a0_7 : Int) (A0_8 : Option Addr) (c0_8 : Nat) (l0_8 : List Int) (A0_9 : Option Addr) (c0_9 : Nat) (l0_9 : List Int) (A0_10 : Option Addr) (c0_10 : Nat) (l0_10 : List (S141)) (r : Bool) (w : World) (hr0_5 : Kd.C k138 w A0_5 l0_5.length l0_5) (hc0_5 : l0_5.length ≤ c0_5) (hr0_8 : Kd.C (Kd.int .i64) w A0_8 l0_8.length l0_8) (hc0_8 : l0_8.length ≤ c0_8) (hr0_9 : Kd.C (Kd.int .i64) w A0_9 l0_9.length l0_9) (hc0_9 : l0_9.length ≤ c0_9) (hr0_10 : Kd.C k141 w A0_10 l0_10.length l0_10) (hc0_10 : l0_10.length ≤ c0_10) (h : laws_FnExactAcctOk.f k a0_0 a0_1 a0_2 a0_3 a0_4 l0_5 a0_6 a0_7 l0_8 l0_9 l0_10 = some true) :
  Calls Try.prog 4 #[.agg #[.string a0_0, .int .i64 a0_1, .int .i64 a0_2, .int .i64 a0_3, .int .i64 a0_4, .slice A0_5 l0_5.length c0_5, .int .i64 a0_6, .int .i64 a0_7, .slice A0_8 l0_8.length c0_8, .slice A0_9 l0_9.length c0_9, .slice A0_10 l0_10.length c0_10]] w fun e w' => e = .returned (.bool true) ∧ Below w.heap.size w w' := by
 have hu41 := Try.underlying41
 have hu48 := Try.underlying48
 have HR0_5 := Aside0.mk hr0_5
 have HC0_5 := Aside0.mk hc0_5
 clear hr0_5 hc0_5
 have HR0_8 := Aside0.mk hr0_8
 have HC0_8 := Aside0.mk hc0_8
 clear hr0_8 hc0_8
 have HR0_9 := Aside0.mk hr0_9
 have HC0_9 := Aside0.mk hc0_9
 clear hr0_9 hc0_9
 have HR0_10 := Aside0.mk hr0_10
 have HC0_10 := Aside0.mk hc0_10
 clear hr0_10 hc0_10
 have HB := Aside0.mk (Below.refl w.heap.size w)
 have H : ((laws_szAcct.f k a0_0 a0_1 a0_2 a0_3 a0_4 l0_5 a0_6 a0_7 l0_8 l0_9 l0_10 1048576).bind fun t323 => (if t323 < 0 then (some true) else ((laws_toAcct.f k a0_0 a0_1 a0_2 a0_3 a0_4 l0_5 a0_6 a0_7 l0_8 l0_9 l0_10).bind fun bt324 => ((spec_AcctOk.f k bt324.1 bt324.2.1 bt324.2.2.1 bt324.2.2.2.1 bt324.2.2.2.2.1 bt324.2.2.2.2.2.1 bt324.2.2.2.2.2.2.1 bt324.2.2.2.2.2.2.2.1 bt324.2.2.2.2.2.2.2.2.1 bt324.2.2.2.2.2.2.2.2.2.1 bt324.2.2.2.2.2.2.2.2.2.2).bind fun t343 => ((laws_toAcct.f k a0_0 a0_1 a0_2 a0_3 a0_4 l0_5 a0_6 a0_7 l0_8 l0_9 l0_10).bind fun bt344 => ((impl_AcctOk.f k bt344.1 bt344.2.1 bt344.2.2.1 bt344.2.2.2.1 bt344.2.2.2.2.1 bt344.2.2.2.2.2.1 bt344.2.2.2.2.2.2.1 bt344.2.2.2.2.2.2.2.1 bt344.2.2.2.2.2.2.2.2.1 bt344.2.2.2.2.2.2.2.2.2.1 bt344.2.2.2.2.2.2.2.2.2.2).bind fun t364 => (if (t364 != t343) = true then (some false) else ((laws_toAcct.f k a0_0 a0_1 a0_2 a0_3 a0_4 l0_5 a0_6 a0_7 l0_8 l0_9 l0_10).bind fun bt365 => ((laws_eqAcct.f k bt344.1 bt344.2.1 bt344.2.2.1 bt344.2.2.2.1 bt344.2.2.2.2.1 bt344.2.2.2.2.2.1 bt344.2.2.2.2.2.2.1 bt344.2.2.2.2.2.2.2.1 bt344.2.2.2.2.2.2.2.2.1 bt344.2.2.2.2.2.2.2.2.2.1 bt344.2.2.2.2.2.2.2.2.2.2 bt365.1 bt365.2.1 bt365.2.2.1 bt365.2.2.2.1 bt365.2.2.2.2.1 bt365.2.2.2.2.2.1 bt365.2.2.2.2.2.2.1 bt365.2.2.2.2.2.2.2.1 bt365.2.2.2.2.2.2.2.2.1 bt365.2.2.2.2.2.2.2.2.2.1 bt365.2.2.2.2.2.2.2.2.2.2).bind fun t384 => (if t384 = true then (some true) else (some false))))))))))) = some true := h
 clear h
 replace H := Option.bind_eq_some_iff.mp H
 obtain ⟨t323, A20, H⟩ := H
 replace H : (if t323 < 0 then (some true) else ((laws_toAcct.f k a0_0 a0_1 a0_2 a0_3 a0_4 l0_5 a0_6 a0_7 l0_8 l0_9 l0_10).bind fun bt324 => ((spec_AcctOk.f k bt324.1 bt324.2.1 bt324.2.2.1 bt324.2.2.2.1 bt324.2.2.2.2.1 bt324.2.2.2.2.2.1 bt324.2.2.2.2.2.2.1 bt324.2.2.2.2.2.2.2.1 bt324.2.2.2.2.2.2.2.2.1 bt324.2.2.2.2.2.2.2.2.2.1 bt324.2.2.2.2.2.2.2.2.2.2).bind fun t343 => ((laws_toAcct.f k a0_0 a0_1 a0_2 a0_3 a0_4 l0_5 a0_6 a0_7 l0_8 l0_9 l0_10).bind fun bt344 => ((impl_AcctOk.f k bt344.1 bt344.2.1 bt344.2.2.1 bt344.2.2.2.1 bt344.2.2.2.2.1 bt344.2.2.2.2.2.1 bt344.2.2.2.2.2.2.1 bt344.2.2.2.2.2.2.2.1 bt344.2.2.2.2.2.2.2.2.1 bt344.2.2.2.2.2.2.2.2.2.1 bt344.2.2.2.2.2.2.2.2.2.2).bind fun t364 => (if (t364 != t343) = true then (some false) else ((laws_toAcct.f k a0_0 a0_1 a0_2 a0_3 a0_4 l0_5 a0_6 a0_7 l0_8 l0_9 l0_10).bind fun bt365 => ((laws_eqAcct.f k bt344.1 bt344.2.1 bt344.2.2.1 bt344.2.2.2.1 bt344.2.2.2.2.1 bt344.2.2.2.2.2.1 bt344.2.2.2.2.2.2.1 bt344.2.2.2.2.2.2.2.1 bt344.2.2.2.2.2.2.2.2.1 bt344.2.2.2.2.2.2.2.2.2.1 bt344.2.2.2.2.2.2.2.2.2.2 bt365.1 bt365.2.1 bt365.2.2.1 bt365.2.2.2.1 bt365.2.2.2.2.1 bt365.2.2.2.2.2.1 bt365.2.2.2.2.2.2.1 bt365.2.2.2.2.2.2.2.1 bt365.2.2.2.2.2.2.2.2.1 bt365.2.2.2.2.2.2.2.2.2.1 bt365.2.2.2.2.2.2.2.2.2.2).bind fun t384 => (if t384 = true then (some true) else (some false)))))))))) = some true := H
 have A2 := Aside0.mk A20
 clear A20
 by_cases c3 : t323 < 0
 ·rw [if_pos c3] at H
  have c3b0 : decide (t323 < 0) = true := decide_eq_true c3
  clear c3
  clear H
  go_enter Try.func4, Try.ntmps4
  go_wp2_with (first | ((with_reducible refine gate_dst (N := 1) rfl ?_); refine box_event ?hg (N := 1) ?hd (cs := #[.string a0_0, .int .i64 a0_1, .int .i64 a0_2, .int .i64 a0_3, .int .i64 a0_4, .slice A0_5 l0_5.length c0_5, .int .i64 a0_6, .int .i64 a0_7, .slice A0_8 l0_8.length c0_8, .slice A0_9 l0_9.length c0_9, .slice A0_10 l0_10.length c0_10]) (t := 41) ?hr ?_; (case hd => rfl); (case hg => rfl); (case hr => first | (go_simp; done) | (go_simp; rfl)); intro gb322 hg w4 hbox hb; have n0_ := Aside0.mk (below_step bl_ hb); have n1_ := Aside0.mk (hbox); have n2_ := Aside0.mk ((by rw [hg]; exact (below_size bl_) : w.heap.size ≤ gb322)); have n3_ := Aside0.mk ((by rw [hg]; exact (below_size bl_) : w.heap.size ≤ gb322)); clear HB; have HB := n0_; have BK322 := n1_; have GW322 := n2_; have GE322 := n3_; clear n0_ n1_ n2_ n3_; clear hb hbox hg; have hcz5_0 := cz_ BK322 0 (.string a0_0); have hcz5_1 := cz_ BK322 1 (.int .i64 a0_1); have hcz5_2 := cz_ BK322 2 (.int .i64 a0_2); have hcz5_3 := cz_ BK322 3 (.int .i64 a0_3); have hcz5_4 := cz_ BK322 4 (.int .i64 a0_4); have hcz5_5 := cz_ BK322 5 (.slice A0_5 l0_5.length c0_5); have hcz5_6 := cz_ BK322 6 (.int .i64 a0_6); have hcz5_7 := cz_ BK322 7 (.int .i64 a0_7); have hcz5_8 := cz_ BK322 8 (.slice A0_8 l0_8.length c0_8); have hcz5_9 := cz_ BK322 9 (.slice A0_9 l0_9.length c0_9); have hcz5_10 := cz_ BK322 10 (.slice A0_10 l0_10.length c0_10); have hfz5_0 := fz_ BK322 0; have hfz5_1 := fz_ BK322 1; have hfz5_2 := fz_ BK322 2; have hfz5_3 := fz_ BK322 3; have hfz5_4 := fz_ BK322 4; have hfz5_5 := fz_ BK322 5; have hfz5_6 := fz_ BK322 6; have hfz5_7 := fz_ BK322 7; have hfz5_8 := fz_ BK322 8; have hfz5_9 := fz_ BK322 9; have hfz5_10 := fz_ BK322 10) | ((with_reducible refine gate_callee (f := 17) rfl ?_); refine goesL_ (some 9) rfl rfl Try.func17 (by kernel_rfl) rfl #[.agg #[.string a0_0, .int .i64 a0_1, .int .i64 a0_2, .int .i64 a0_3, .int .i64 a0_4, .slice A0_5 l0_5.length c0_5, .int .i64 a0_6, .int .i64 a0_7, .slice A0_8 l0_8.length c0_8, .slice A0_9 l0_9.length c0_9, .slice A0_10 l0_10.length c0_10], .int .i64 1048576] rfl gl_ ?_; (with_reducible refine (laws_szAcct.calls k a0_0 a0_1 a0_2 a0_3 a0_4 _ _ l0_5 a0_6 a0_7 _ _ l0_8 _ _ l0_9 _ _ l0_10 1048576 t323 _ ?side1 ?side2 ?side3 ?side4 ?side5 ?side6 ?side7 ?side8 A2.out).mono ?_); (case side1 => exact ca_ (Kd.C_below HR0_5.out HB.out)); (case side2 => exact HC0_5.out); (case side3 => exact ca_ (Kd.C_below HR0_8.out HB.out)); (case side4 => exact HC0_8.out); (case side5 => exact ca_ (Kd.C_below HR0_9.out HB.out)); (case side6 => exact HC0_9.out); (case side7 => exact ca_ (Kd.C_below HR0_10.out HB.out)); (case side8 => exact HC0_10.out); rintro e w6 ⟨rfl, hb⟩; refine ⟨_, rfl, ?_⟩; have n0_ := Aside0.mk (blk_below (bk_ BK322) hb); have n1_ := Aside0.mk (below_step bl_ hb); clear BK322; clear HB; have BK322 := n0_; have HB := n1_; clear n0_ n1_; (try clear hb); (try clear hb2); (try clear hk); (try clear hi)))
  go_ret
  exact ⟨by first | rfl | (simp [errW_none, errW_some] <;> rfl) | (simp [*, errW_none, errW_some] <;> rfl), bl_⟩
 ·rw [if_neg c3] at H
  have c3b0 : decide (t323 < 0) = false := decide_eq_false c3
  clear c3
  replace H := Option.bind_eq_some_iff.mp H
  obtain ⟨⟨t324, t325, t326, t327, t328, t329, t332, t333, t334, t337, t340⟩, A70, H⟩ := H
  replace H : ((spec_AcctOk.f k t324 t325 t326 t327 t328 t329 t332 t333 t334 t337 t340).bind fun t343 => ((laws_toAcct.f k a0_0 a0_1 a0_2 a0_3 a0_4 l0_5 a0_6 a0_7 l0_8 l0_9 l0_10).bind fun bt344 => ((impl_AcctOk.f k bt344.1 bt344.2.1 bt344.2.2.1 bt344.2.2.2.1 bt344.2.2.2.2.1 bt344.2.2.2.2.2.1 bt344.2.2.2.2.2.2.1 bt344.2.2.2.2.2.2.2.1 bt344.2.2.2.2.2.2.2.2.1 bt344.2.2.2.2.2.2.2.2.2.1 bt344.2.2.2.2.2.2.2.2.2.2).bind fun t364 => (if (t364 != t343) = true then (some false) else ((laws_toAcct.f k a0_0 a0_1 a0_2 a0_3 a0_4 l0_5 a0_6 a0_7 l0_8 l0_9 l0_10).bind fun bt365 => ((laws_eqAcct.f k bt344.1 bt344.2.1 bt344.2.2.1 bt344.2.2.2.1 bt344.2.2.2.2.1 bt344.2.2.2.2.2.1 bt344.2.2.2.2.2.2.1 bt344.2.2.2.2.2.2.2.1 bt344.2.2.2.2.2.2.2.2.1 bt344.2.2.2.2.2.2.2.2.2.1 bt344.2.2.2.2.2.2.2.2.2.2 bt365.1 bt365.2.1 bt365.2.2.1 bt365.2.2.2.1 bt365.2.2.2.2.1 bt365.2.2.2.2.2.1 bt365.2.2.2.2.2.2.1 bt365.2.2.2.2.2.2.2.1 bt365.2.2.2.2.2.2.2.2.1 bt365.2.2.2.2.2.2.2.2.2.1 bt365.2.2.2.2.2.2.2.2.2.2).bind fun t384 => (if t384 = true then (some true) else (some false)))))))) = some true := H
  have A7 := Aside0.mk A70
  clear A70
  replace H := Option.bind_eq_some_iff.mp H
  obtain ⟨t343, A80, H⟩ := H
  replace H : ((laws_toAcct.f k a0_0 a0_1 a0_2 a0_3 a0_4 l0_5 a0_6 a0_7 l0_8 l0_9 l0_10).bind fun bt344 => ((impl_AcctOk.f k bt344.1 bt344.2.1 bt344.2.2.1 bt344.2.2.2.1 bt344.2.2.2.2.1 bt344.2.2.2.2.2.1 bt344.2.2.2.2.2.2.1 bt344.2.2.2.2.2.2.2.1 bt344.2.2.2.2.2.2.2.2.1 bt344.2.2.2.2.2.2.2.2.2.1 bt344.2.2.2.2.2.2.2.2.2.2).bind fun t364 => (if (t364 != t343) = true then (some false) else ((laws_toAcct.f k a0_0 a0_1 a0_2 a0_3 a0_4 l0_5 a0_6 a0_7 l0_8 l0_9 l0_10).bind fun bt365 => ((laws_eqAcct.f k bt344.1 bt344.2.1 bt344.2.2.1 bt344.2.2.2.1 bt344.2.2.2.2.1 bt344.2.2.2.2.2.1 bt344.2.2.2.2.2.2.1 bt344.2.2.2.2.2.2.2.1 bt344.2.2.2.2.2.2.2.2.1 bt344.2.2.2.2.2.2.2.2.2.1 bt344.2.2.2.2.2.2.2.2.2.2 bt365.1 bt365.2.1 bt365.2.2.1 bt365.2.2.2.1 bt365.2.2.2.2.1 bt365.2.2.2.2.2.1 bt365.2.2.2.2.2.2.1 bt365.2.2.2.2.2.2.2.1 bt365.2.2.2.2.2.2.2.2.1 bt365.2.2.2.2.2.2.2.2.2.1 bt365.2.2.2.2.2.2.2.2.2.2).bind fun t384 => (if t384 = true then (some true) else (some false))))))) = some true := H
  have A8 := Aside0.mk A80
  clear A80
  replace H := Option.bind_eq_some_iff.mp H
  obtain ⟨⟨t344, t345, t346, t347, t348, t349, t352, t353, t354, t357, t360⟩, A90, H⟩ := H
  replace H : ((impl_AcctOk.f k t344 t345 t346 t347 t348 t349 t352 t353 t354 t357 t360).bind fun t364 => (if (t364 != t343) = true then (some false) else ((laws_toAcct.f k a0_0 a0_1 a0_2 a0_3 a0_4 l0_5 a0_6 a0_7 l0_8 l0_9 l0_10).bind fun bt365 => ((laws_eqAcct.f k t344 t345 t346 t347 t348 t349 t352 t353 t354 t357 t360 bt365.1 bt365.2.1 bt365.2.2.1 bt365.2.2.2.1 bt365.2.2.2.2.1 bt365.2.2.2.2.2.1 bt365.2.2.2.2.2.2.1 bt365.2.2.2.2.2.2.2.1 bt365.2.2.2.2.2.2.2.2.1 bt365.2.2.2.2.2.2.2.2.2.1 bt365.2.2.2.2.2.2.2.2.2.2).bind fun t384 => (if t384 = true then (some true) else (some false)))))) = some true := H
  have A9 := Aside0.mk A90
  clear A90
  replace H := Option.bind_eq_some_iff.mp H
  obtain ⟨t364, A100, H⟩ := H
  replace H : (if (t364 != t343) = true then (some false) else ((laws_toAcct.f k a0_0 a0_1 a0_2 a0_3 a0_4 l0_5 a0_6 a0_7 l0_8 l0_9 l0_10).bind fun bt365 => ((laws_eqAcct.f k t344 t345 t346 t347 t348 t349 t352 t353 t354 t357 t360 bt365.1 bt365.2.1 bt365.2.2.1 bt365.2.2.2.1 bt365.2.2.2.2.1 bt365.2.2.2.2.2.1 bt365.2.2.2.2.2.2.1 bt365.2.2.2.2.2.2.2.1 bt365.2.2.2.2.2.2.2.2.1 bt365.2.2.2.2.2.2.2.2.2.1 bt365.2.2.2.2.2.2.2.2.2.2).bind fun t384 => (if t384 = true then (some true) else (some false))))) = some true := H
  have A10 := Aside0.mk A100
  clear A100
  by_cases c11 : (t364 != t343) = true
  ·rw [if_pos c11] at H
   have c11b0 : (t364 != t343) = true := c11
   (try (have c11b1 : decide (t364 = t343) = false := by simpa using c11))
   (try (have c11b2 : (t364 == t343) = false := by simpa using c11))
   (try (have c11b3 : ¬ (t364 = t343) := by simpa using c11))
   clear c11
   exact absurd H (by simp)
  ·rw [if_neg c11] at H
   have c11b0 : (t364 != t343) = false := by simpa using c11
   (try (have c11b1 : decide (t364 = t343) = true := by simpa using c11))
   (try (have c11b2 : (t364 == t343) = true := by simpa using c11))
   clear c11
   replace H := Option.bind_eq_some_iff.mp H
   obtain ⟨⟨t365, t366, t367, t368, t369, t370, t373, t374, t375, t378, t381⟩, A120, H⟩ := H
   replace H : ((laws_eqAcct.f k t344 t345 t346 t347 t348 t349 t352 t353 t354 t357 t360 t365 t366 t367 t368 t369 t370 t373 t374 t375 t378 t381).bind fun t384 => (if t384 = true then (some true) else (some false))) = some true := H
   have A12 := Aside0.mk A120
   clear A120
   replace H := Option.bind_eq_some_iff.mp H
   obtain ⟨t384, A130, H⟩ := H
   replace H : (if t384 = true then (some true) else (some false)) = some true := H
   have A13 := Aside0.mk A130
   clear A130
   by_cases c14 : t384 = true
   ·subst c14
    have H1 : (some true) = some true := rfl
    clear H
    have H := H1
    clear H1
    clear H
    go_enter Try.func4, Try.ntmps4
    try go_wp2_with (first | ((with_reducible refine gate_dst (N := 1) rfl ?_); refine box_event ?hg (N := 1) ?hd (cs := #[.string a0_0, .int .i64 a0_1, .int .i64 a0_2, .int .i64 a0_3, .int .i64 a0_4, .slice A0_5 l0_5.length c0_5, .int .i64 a0_6, .int .i64 a0_7, .slice A0_8 l0_8.length c0_8, .slice A0_9 l0_9.length c0_9, .slice A0_10 l0_10.length c0_10]) (t := 41) ?hr ?_; (case hd => rfl); (case hg => rfl); (case hr => first | (go_simp; done) | (go_simp; rfl)); intro gb322 hg w15 hbox hb; have n0_ := Aside0.mk (below_step bl_ hb); have n1_ := Aside0.mk (hbox); have n2_ := Aside0.mk ((by rw [hg]; exact (below_size bl_) : w.heap.size ≤ gb322)); have n3_ := Aside0.mk ((by rw [hg]; exact (below_size bl_) : w.heap.size ≤ gb322)); clear HB; have HB := n0_; have BK322 := n1_; have GW322 := n2_; have GE322 := n3_; clear n0_ n1_ n2_ n3_; clear hb hbox hg; have hcz16_0 := cz_ BK322 0 (.string a0_0); have hcz16_1 := cz_ BK322 1 (.int .i64 a0_1); have hcz16_2 := cz_ BK322 2 (.int .i64 a0_2); have hcz16_3 := cz_ BK322 3 (.int .i64 a0_3); have hcz16_4 := cz_ BK322 4 (.int .i64 a0_4); have hcz16_5 := cz_ BK322 5 (.slice A0_5 l0_5.length c0_5); have hcz16_6 := cz_ BK322 6 (.int .i64 a0_6); have hcz16_7 := cz_ BK322 7 (.int .i64 a0_7); have hcz16_8 := cz_ BK322 8 (.slice A0_8 l0_8.length c0_8); have hcz16_9 := cz_ BK322 9 (.slice A0_9 l0_9.length c0_9); have hcz16_10 := cz_ BK322 10 (.slice A0_10 l0_10.length c0_10); have hfz16_0 := fz_ BK322 0; have hfz16_1 := fz_ BK322 1; have hfz16_2 := fz_ BK322 2; have hfz16_3 := fz_ BK322 3; have hfz16_4 := fz_ BK322 4; have hfz16_5 := fz_ BK322 5; have hfz16_6 := fz_ BK322 6; have hfz16_7 := fz_ BK322 7; have hfz16_8 := fz_ BK322 8; have hfz16_9 := fz_ BK322 9; have hfz16_10 := fz_ BK322 10) | ((with_reducible refine gate_callee (f := 17) rfl ?_); refine goesL_ (some 9) rfl rfl Try.func17 (by kernel_rfl) rfl #[.agg #[.string a0_0, .int .i64 a0_1, .int .i64 a0_2, .int .i64 a0_3, .int .i64 a0_4, .slice A0_5 l0_5.length c0_5, .int .i64 a0_6, .int .i64 a0_7, .slice A0_8 l0_8.length c0_8, .slice A0_9 l0_9.length c0_9, .slice A0_10 l0_10.length c0_10], .int .i64 1048576] rfl gl_ ?_; (with_reducible refine (laws_szAcct.calls k a0_0 a0_1 a0_2 a0_3 a0_4 _ _ l0_5 a0_6 a0_7 _ _ l0_8 _ _ l0_9 _ _ l0_10 1048576 t323 _ ?side1 ?side2 ?side3 ?side4 ?side5 ?side6 ?side7 ?side8 A2.out).mono ?_); (case side1 => exact ca_ (Kd.C_below HR0_5.out HB.out)); (case side2 => exact HC0_5.out); (case side3 => exact ca_ (Kd.C_below HR0_8.out HB.out)); (case side4 => exact HC0_8.out); (case side5 => exact ca_ (Kd.C_below HR0_9.out HB.out)); (case side6 => exact HC0_9.out); (case side7 => exact ca_ (Kd.C_below HR0_10.out HB.out)); (case side8 => exact HC0_10.out); rintro e w17 ⟨rfl, hb⟩; refine ⟨_, rfl, ?_⟩; have n0_ := Aside0.mk (blk_below (bk_ BK322) hb); have n1_ := Aside0.mk (below_step bl_ hb); clear BK322; clear HB; have BK322 := n0_; have HB := n1_; clear n0_ n1_; (try clear hb); (try clear hb2); (try clear hk); (try clear hi); have hcz18_0 := cz_ BK322 0 (.string a0_0); have hcz18_1 := cz_ BK322 1 (.int .i64 a0_1); have hcz18_2 := cz_ BK322 2 (.int .i64 a0_2); have hcz18_3 := cz_ BK322 3 (.int .i64 a0_3); have hcz18_4 := cz_ BK322 4 (.int .i64 a0_4); have hcz18_5 := cz_ BK322 5 (.slice A0_5 l0_5.length c0_5); have hcz18_6 := cz_ BK322 6 (.int .i64 a0_6); have hcz18_7 := cz_ BK322 7 (.int .i64 a0_7); have hcz18_8 := cz_ BK322 8 (.slice A0_8 l0_8.length c0_8); have hcz18_9 := cz_ BK322 9 (.slice A0_9 l0_9.length c0_9); have hcz18_10 := cz_ BK322 10 (.slice A0_10 l0_10.length c0_10); have hfz18_0 := fz_ BK322 0; have hfz18_1 := fz_ BK322 1; have hfz18_2 := fz_ BK322 2; have hfz18_3 := fz_ BK322 3; have hfz18_4 := fz_ BK322 4; have hfz18_5 := fz_ BK322 5; have hfz18_6 := fz_ BK322 6; have hfz18_7 := fz_ BK322 7; have hfz18_8 := fz_ BK322 8; have hfz18_9 := fz_ BK322 9; have hfz18_10 := fz_ BK322 10) | ((with_reducible refine gate_callee (f := 19) rfl ?_); refine goesL_ (some 13) rfl rfl Try.func19 (by kernel_rfl) rfl #[.agg #[.string a0_0, .int .i64 a0_1, .int .i64 a0_2, .int .i64 a0_3, .int .i64 a0_4, .slice A0_5 l0_5.length c0_5, .int .i64 a0_6, .int .i64 a0_7, .slice A0_8 l0_8.length c0_8, .slice A0_9 l0_9.length c0_9, .slice A0_10 l0_10.length c0_10]] rfl gl_ ?_; (with_reducible refine (laws_toAcct.calls k a0_0 a0_1 a0_2 a0_3 a0_4 _ _ l0_5 a0_6 a0_7 _ _ l0_8 _ _ l0_9 _ _ l0_10 t324 t325 t326 t327 t328 t329 t332 t333 t334 t337 t340 _ ?side1 ?side2 ?side3 ?side4 ?side5 ?side6 ?side7 ?side8 A7.out).mono ?_); (case side1 => exact ca_ (Kd.C_below HR0_5.out HB.out)); (case side2 => exact HC0_5.out); (case side3 => exact ca_ (Kd.C_below HR0_8.out HB.out)); (case side4 => exact HC0_8.out); (case side5 => exact ca_ (Kd.C_below HR0_9.out HB.out)); (case side6 => exact HC0_9.out); (case side7 => exact ca_ (Kd.C_below HR0_10.out HB.out)); (case side8 => exact HC0_10.out); rintro e w19 ⟨v330, v335, v338, v341, rfl, ho0, ho1, ho2, ho3, hb⟩; refine ⟨_, rfl, ?_⟩; have n0_ := Aside0.mk (Kd.R_lower ho0 (below_size bl_)); have n1_ := Aside0.mk (Kd.R_lower ho1 (below_size bl_)); have n2_ := Aside0.mk (Kd.R_lower ho2 (below_size bl_)); have n3_ := Aside0.mk (Kd.S_lower ho3 (below_size bl_)); have n4_ := Aside0.mk (blk_below (bk_ BK322) hb); have n5_ := Aside0.mk (below_step bl_ hb); clear BK322; clear HB; have HO331 := n0_; have HO336 := n1_; have HO339 := n2_; have HO342 := n3_; have BK322 := n4_; have HB := n5_; clear n0_ n1_ n2_ n3_ n4_ n5_; (try clear hb); (try clear hb2); (try clear hk); (try clear hi); (try clear ho0); (try clear ho1); (try clear ho2); (try clear ho3); obtain ⟨Ao20, co20, eo20⟩ := Kd.R_slice HO331.out; subst eo20; obtain ⟨Ao21, co21, eo21⟩ := Kd.R_slice HO336.out; subst eo21; obtain ⟨Ao22, co22, eo22⟩ := Kd.R_slice HO339.out; subst eo22; obtain ⟨Ao23, co23, eo23⟩ := Kd.S_slice HO342.out; subst eo23) | ((with_reducible refine gate_callee (f := 18) rfl ?_); refine goesL_ (some 14) rfl rfl Try.func18 (by kernel_rfl) rfl #[.agg #[.string t324, .int .i64 t325, .int .i64 t326, .int .i64 t327, .int .i64 t328, .slice Ao20 t329.length co20, .int .i64 t332, .int .i64 t333, .slice Ao21 t334.length co21, .slice Ao22 t337.length co22, .slice Ao23 t340.length co23]] rfl gl_ ?_; (with_reducible refine (spec_AcctOk.calls k t324 t325 t326 t327 t328 _ _ t329 t332 t333 _ _ t334 _ _ t337 _ _ t340 t343 _ ?side1 ?side2 ?side3 ?side4 ?side5 ?side6 ?side7 ?side8 A8.out).mono ?_); (case side1 => exact ca_ ((Kd.R_reads' HO331.out).2.2)); (case side2 => exact (Kd.R_reads' HO331.out).2.1); (case side3 => exact ca_ ((Kd.R_reads' HO336.out).2.2)); (case side4 => exact (Kd.R_reads' HO336.out).2.1); (case side5 => exact ca_ ((Kd.R_reads' HO339.out).2.2)); (case side6 => exact (Kd.R_reads' HO339.out).2.1); (case side7 => exact ca_ ((Kd.S_reads' HO342.out).2.2)); (case side8 => exact (Kd.S_reads' HO342.out).2.1); rintro e w24 ⟨rfl, hb⟩; refine ⟨_, rfl, ?_⟩; have n0_ := Aside0.mk (Kd.R_below (ra_ HO331) hb); have n1_ := Aside0.mk (Kd.R_below (ra_ HO336) hb); have n2_ := Aside0.mk (Kd.R_below (ra_ HO339) hb); have n3_ := Aside0.mk (Kd.S_below (by (with_reducible repeat (first | apply Kd.S_alloc | apply Kd.S_drewN | apply Kd.S_drew)); exact HO342.out) hb); have n4_ := Aside0.mk (blk_below (bk_ BK322) hb); have n5_ := Aside0.mk (below_step bl_ hb); clear HO331; clear HO336; clear HO339; clear HO342; clear BK322; clear HB; have HO331 := n0_; have HO336 := n1_; have HO339 := n2_; have HO342 := n3_; have BK322 := n4_; have HB := n5_; clear n0_ n1_ n2_ n3_ n4_ n5_; (try clear hb); (try clear hb2); (try clear hk); (try clear hi); have hcz25_0 := cz_ BK322 0 (.string a0_0); have hcz25_1 := cz_ BK322 1 (.int .i64 a0_1); have hcz25_2 := cz_ BK322 2 (.int .i64 a0_2); have hcz25_3 := cz_ BK322 3 (.int .i64 a0_3); have hcz25_4 := cz_ BK322 4 (.int .i64 a0_4); have hcz25_5 := cz_ BK322 5 (.slice A0_5 l0_5.length c0_5); have hcz25_6 := cz_ BK322 6 (.int .i64 a0_6); have hcz25_7 := cz_ BK322 7 (.int .i64 a0_7); have hcz25_8 := cz_ BK322 8 (.slice A0_8 l0_8.length c0_8); have hcz25_9 := cz_ BK322 9 (.slice A0_9 l0_9.length c0_9); have hcz25_10 := cz_ BK322 10 (.slice A0_10 l0_10.length c0_10); have hfz25_0 := fz_ BK322 0; have hfz25_1 := fz_ BK322 1; have hfz25_2 := fz_ BK322 2; have hfz25_3 := fz_ BK322 3; have hfz25_4 := fz_ BK322 4; have hfz25_5 := fz_ BK322 5; have hfz25_6 := fz_ BK322 6; have hfz25_7 := fz_ BK322 7; have hfz25_8 := fz_ BK322 8; have hfz25_9 := fz_ BK322 9; have hfz25_10 := fz_ BK322 10) | ((with_reducible refine gate_callee (f := 19) rfl ?_); refine goesL_ (some 16) rfl rfl Try.func19 (by kernel_rfl) rfl #[.agg #[.string a0_0, .int .i64 a0_1, .int .i64 a0_2, .int .i64 a0_3, .int .i64 a0_4, .slice A0_5 l0_5.length c0_5, .int .i64 a0_6, .int .i64 a0_7, .slice A0_8 l0_8.length c0_8, .slice A0_9 l0_9.length c0_9, .slice A0_10 l0_10.length c0_10]] rfl gl_ ?_; (with_reducible refine (laws_toAcct.calls k a0_0 a0_1 a0_2 a0_3 a0_4 _ _ l0_5 a0_6 a0_7 _ _ l0_8 _ _ l0_9 _ _ l0_10 t344 t345 t346 t347 t348 t349 t352 t353 t354 t357 t360 _ ?side1 ?side2 ?side3 ?side4 ?side5 ?side6 ?side7 ?side8 A9.out).mono ?_); (case side1 => exact ca_ (Kd.C_below HR0_5.out HB.out)); (case side2 => exact HC0_5.out); (case side3 => exact ca_ (Kd.C_below HR0_8.out HB.out)); (case side4 => exact HC0_8.out); (case side5 => exact ca_ (Kd.C_below HR0_9.out HB.out)); (case side6 => exact HC0_9.out); (case side7 => exact ca_ (Kd.C_below HR0_10.out HB.out)); (case side8 => exact HC0_10.out); rintro e w26 ⟨v350, v355, v358, v361, rfl, ho0, ho1, ho2, ho3, hb⟩; refine ⟨_, rfl, ?_⟩; have n0_ := Aside0.mk (Kd.R_elder' (ra_ HO331) (Kd.R_base ho0) hb); have n1_ := Aside0.mk (Kd.R_mono (Kd.R_told (Kd.R_told (Kd.R_old (ra_ HO336) hb) (Kd.R_base ho1)) (Kd.R_base ho2)) (fun _ h_ => h_.1)); have n2_ := Aside0.mk (Kd.R_mono (Kd.R_told (Kd.R_told (Kd.R_old (ra_ HO339) hb) (Kd.R_base ho1)) (Kd.R_base ho2)) (fun _ h_ => h_.1)); have n3_ := Aside0.mk (Kd.S_elder' (by (with_reducible repeat (first | apply Kd.S_alloc | apply Kd.S_drewN | apply Kd.S_drew)); exact HO342.out) (Kd.S_base ho3) hb); have n4_ := Aside0.mk (Kd.R_lower (Kd.R_new' ho0 (Kd.R_lt (ra_ HO331))) (below_size bl_)); have n5_ := Aside0.mk (Kd.R_lower (Kd.R_new' (Kd.R_new' ho1 (Kd.R_lt (ra_ HO336))) (Kd.R_lt (ra_ HO339))) (below_size bl_)); have n6_ := Aside0.mk (Kd.R_lower (Kd.R_new' (Kd.R_new' ho2 (Kd.R_lt (ra_ HO336))) (Kd.R_lt (ra_ HO339))) (below_size bl_)); have n7_ := Aside0.mk (Kd.S_lower (Kd.S_new' ho3 (Kd.S_lt (by (with_reducible repeat (first | apply Kd.S_alloc | apply Kd.S_drewN | apply Kd.S_drew)); exact HO342.out))) (below_size bl_)); have n8_ := Aside0.mk (blk_below (bk_ BK322) hb); have n9_ := Aside0.mk (below_step bl_ hb); clear HO331; clear HO336; clear HO339; clear HO342; clear BK322; clear HB; have HO331 := n0_; have HO336 := n1_; have HO339 := n2_; have HO342 := n3_; have HO351 := n4_; have HO356 := n5_; have HO359 := n6_; have HO362 := n7_; have BK322 := n8_; have HB := n9_; clear n0_ n1_ n2_ n3_ n4_ n5_ n6_ n7_ n8_ n9_; (try clear hb); (try clear hb2); (try clear hk); (try clear hi); (try clear ho0); (try clear ho1); (try clear ho2); (try clear ho3)) | ((with_reducible refine gate_dst (N := 5) rfl ?_); refine box_event ?hg (N := 5) ?hd (cs := #[.string (⟨#[]⟩ : ByteArray), .int .i64 0, .int .i64 0, .int .i64 0, .int .i64 0, .slice none 0 0, .int .i64 0, .int .i64 0, .slice none 0 0, .slice none 0 0, .slice none 0 0]) (t := 48) ?hr ?_; (case hd => rfl); (case hg => rfl); (case hr => first | (go_simp; done) | (go_simp; rfl)); intro gb363 hg w27 hbox hb; have n0_ := Aside0.mk (Kd.R_below (ra_ HO331) hb); have n1_ := Aside0.mk (Kd.R_below (ra_ HO336) hb); have n2_ := Aside0.mk (Kd.R_below (ra_ HO339) hb); have n3_ := Aside0.mk (Kd.S_below (by (with_reducible repeat (first | apply Kd.S_alloc | apply Kd.S_drewN | apply Kd.S_drew)); exact HO342.out) hb); have n4_ := Aside0.mk (Kd.R_below (ra_ HO351) hb); have n5_ := Aside0.mk (Kd.R_below (ra_ HO356) hb); have n6_ := Aside0.mk (Kd.R_below (ra_ HO359) hb); have n7_ := Aside0.mk (Kd.S_below (by (with_reducible repeat (first | apply Kd.S_alloc | apply Kd.S_drewN | apply Kd.S_drew)); exact HO362.out) hb); have n8_ := Aside0.mk (blk_below (bk_ BK322) hb); have n9_ := Aside0.mk (below_step bl_ hb); have n10_ := Aside0.mk (hbox); have n11_ := Aside0.mk ((by rw [hg]; exact (below_size bl_) : w.heap.size ≤ gb363)); have n12_ := Aside0.mk ((by rw [hg]; exact (below_size bl_) : w.heap.size ≤ gb363)); have n13_ := Aside0.mk ((by rw [hg]; exact Nat.ne_of_lt (blk_lt (bk_ BK322)) : gb322 ≠ gb363)); have n14_ := Aside0.mk ((by rw [hg]; exact Nat.ne_of_gt (blk_lt (bk_ BK322)) : gb363 ≠ gb322)); clear HO331; clear HO336; clear HO339; clear HO342; clear HO351; clear HO356; clear HO359; clear HO362; clear BK322; clear HB; have HO331 := n0_; have HO336 := n1_; have HO339 := n2_; have HO342 := n3_; have HO351 := n4_; have HO356 := n5_; have HO359 := n6_; have HO362 := n7_; have BK322 := n8_; have HB := n9_; have BK363 := n10_; have GW363 := n11_; have GE363 := n12_; have NB322_363 := n13_; have NB363_322 := n14_; clear n0_ n1_ n2_ n3_ n4_ n5_ n6_ n7_ n8_ n9_ n10_ n11_ n12_ n13_ n14_; clear hb hbox hg; have hnb28 := NB363_322.out; have hnc28 := NB322_363.out; have hcz29_0 := cz_ BK363 0 (.string (⟨#[]⟩ : ByteArray)); have hcz29_1 := cz_ BK363 1 (.int .i64 0); have hcz29_2 := cz_ BK363 2 (.int .i64 0); have hcz29_3 := cz_ BK363 3 (.int .i64 0); have hcz29_4 := cz_ BK363 4 (.int .i64 0); have hcz29_5 := cz_ BK363 5 (.slice none 0 0); have hcz29_6 := cz_ BK363 6 (.int .i64 0); have hcz29_7 := cz_ BK363 7 (.int .i64 0); have hcz29_8 := cz_ BK363 8 (.slice none 0 0); have hcz29_9 := cz_ BK363 9 (.slice none 0 0); have hcz29_10 := cz_ BK363 10 (.slice none 0 0); have hfz29_0 := fz_ BK363 0; have hfz29_1 := fz_ BK363 1; have hfz29_2 := fz_ BK363 2; have hfz29_3 := fz_ BK363 3; have hfz29_4 := fz_ BK363 4; have hfz29_5 := fz_ BK363 5; have hfz29_6 := fz_ BK363 6; have hfz29_7 := fz_ BK363 7; have hfz29_8 := fz_ BK363 8; have hfz29_9 := fz_ BK363 9; have hfz29_10 := fz_ BK363 10; obtain ⟨Ao30, co30, eo30⟩ := Kd.R_slice HO351.out; subst eo30; obtain ⟨Ao31, co31, eo31⟩ := Kd.R_slice HO356.out; subst eo31; obtain ⟨Ao32, co32, eo32⟩ := Kd.R_slice HO359.out; subst eo32; obtain ⟨Ao33, co33, eo33⟩ := Kd.S_slice HO362.out; subst eo33) | ((with_reducible refine gate_callee (f := 20) rfl ?_); refine goesL_ (some 18) rfl rfl Try.func20 (by kernel_rfl) rfl #[.agg #[.string t344, .int .i64 t345, .int .i64 t346, .int .i64 t347, .int .i64 t348, .slice Ao30 t349.length co30, .int .i64 t352, .int .i64 t353, .slice Ao31 t354.length co31, .slice Ao32 t357.length co32, .slice Ao33 t360.length co33]] rfl gl_ ?_; (with_reducible refine (impl_AcctOk.calls k t344 t345 t346 t347 t348 _ _ t349 t352 t353 _ _ t354 _ _ t357 _ _ t360 t364 _ ?side1 ?side2 ?side3 ?side4 ?side5 ?side6 ?side7 ?side8 A10.out).mono ?_); (case side1 => refine (Kd.R_reads' (e := 142) (base := w.heap.size) (ok := fun k_ => (True ∧ some k_ ≠ (.slice Ao20 t329.length co20 : Value).ownBlock)) (n := t349.length) (c := co30) ?_).2.2; exact (by (with_reducible repeat (first | apply Kd.R_alloc | apply Kd.R_drewN | apply Kd.R_drew)); exact (Kd.R_mono (Kd.R_far (p := ⟨gb363, 10, none⟩) (Kd.R_far (p := ⟨gb363, 9, none⟩) (Kd.R_far (p := ⟨gb363, 8, none⟩) (Kd.R_far (p := ⟨gb363, 7, none⟩) (Kd.R_far (p := ⟨gb363, 6, none⟩) (Kd.R_far (p := ⟨gb363, 5, none⟩) (Kd.R_far (p := ⟨gb363, 4, none⟩) (Kd.R_far (p := ⟨gb363, 3, none⟩) (Kd.R_far (p := ⟨gb363, 2, none⟩) (Kd.R_far (p := ⟨gb363, 1, none⟩) (Kd.R_far (p := ⟨gb363, 0, none⟩) (Kd.R_types HO351.out BK363.out (by decide)) (fun _ hk => hk.2) (.string t344)) (fun _ hk => hk.2) (.int .i64 t345)) (fun _ hk => hk.2) (.int .i64 t346)) (fun _ hk => hk.2) (.int .i64 t347)) (fun _ hk => hk.2) (.int .i64 t348)) (fun _ hk => hk.2) (.slice Ao30 t349.length co30)) (fun _ hk => hk.2) (.int .i64 t352)) (fun _ hk => hk.2) (.int .i64 t353)) (fun _ hk => hk.2) (.slice Ao31 t354.length co31)) (fun _ hk => hk.2) (.slice Ao32 t357.length co32)) (fun _ hk => hk.2) (.slice Ao33 t360.length co33)) (fun _ h_ => h_.1)))); (case side2 => exact (Kd.R_reads' HO351.out).2.1); (case side3 => refine (Kd.R_reads' (e := 3) (base := w.heap.size) (ok := fun k_ => ((some k_ ≠ (.slice Ao32 t357.length co32 : Value).ownBlock ∧ some k_ ≠ (.slice Ao21 t334.length co21 : Value).ownBlock) ∧ some k_ ≠ (.slice Ao22 t337.length co22 : Value).ownBlock)) (n := t354.length) (c := co31) ?_).2.2; exact (by (with_reducible repeat (first | apply Kd.R_alloc | apply Kd.R_drewN | apply Kd.R_drew)); exact (Kd.R_mono (Kd.R_far (p := ⟨gb363, 10, none⟩) (Kd.R_far (p := ⟨gb363, 9, none⟩) (Kd.R_far (p := ⟨gb363, 8, none⟩) (Kd.R_far (p := ⟨gb363, 7, none⟩) (Kd.R_far (p := ⟨gb363, 6, none⟩) (Kd.R_far (p := ⟨gb363, 5, none⟩) (Kd.R_far (p := ⟨gb363, 4, none⟩) (Kd.R_far (p := ⟨gb363, 3, none⟩) (Kd.R_far (p := ⟨gb363, 2, none⟩) (Kd.R_far (p := ⟨gb363, 1, none⟩) (Kd.R_far (p := ⟨gb363, 0, none⟩) (Kd.R_types HO356.out BK363.out (by decide)) (fun _ hk => hk.2) (.string t344)) (fun _ hk => hk.2) (.int .i64 t345)) (fun _ hk => hk.2) (.int .i64 t346)) (fun _ hk => hk.2) (.int .i64 t347)) (fun _ hk => hk.2) (.int .i64 t348)) (fun _ hk => hk.2) (.slice Ao30 t349.length co30)) (fun _ hk => hk.2) (.int .i64 t352)) (fun _ hk => hk.2) (.int .i64 t353)) (fun _ hk => hk.2) (.slice Ao31 t354.length co31)) (fun _ hk => hk.2) (.slice Ao32 t357.length co32)) (fun _ hk => hk.2) (.slice Ao33 t360.length co33)) (fun _ h_ => h_.1)))); (case side4 => exact (Kd.R_reads' HO356.out).2.1); (case side5 => refine (Kd.R_reads' (e := 3) (base := w.heap.size) (ok := fun k_ => ((some k_ ≠ (.slice Ao31 t354.length co31 : Value).ownBlock ∧ some k_ ≠ (.slice Ao21 t334.length co21 : Value).ownBlock) ∧ some k_ ≠ (.slice Ao22 t337.length co22 : Value).ownBlock)) (n := t357.length) (c := co32) ?_).2.2; exact (by (with_reducible repeat (first | apply Kd.R_alloc | apply Kd.R_drewN | apply Kd.R_drew)); exact (Kd.R_mono (Kd.R_far (p := ⟨gb363, 10, none⟩) (Kd.R_far (p := ⟨gb363, 9, none⟩) (Kd.R_far (p := ⟨gb363, 8, none⟩) (Kd.R_far (p := ⟨gb363, 7, none⟩) (Kd.R_far (p := ⟨gb363, 6, none⟩) (Kd.R_far (p := ⟨gb363, 5, none⟩) (Kd.R_far (p := ⟨gb363, 4, none⟩) (Kd.R_far (p := ⟨gb363, 3, none⟩) (Kd.R_far (p := ⟨gb363, 2, none⟩) (Kd.R_far (p := ⟨gb363, 1, none⟩) (Kd.R_far (p := ⟨gb363, 0, none⟩) (Kd.R_types HO359.out BK363.out (by decide)) (fun _ hk => hk.2) (.string t344)) (fun _ hk => hk.2) (.int .i64 t345)) (fun _ hk => hk.2) (.int .i64 t346)) (fun _ hk => hk.2) (.int .i64 t347)) (fun _ hk => hk.2) (.int .i64 t348)) (fun _ hk => hk.2) (.slice Ao30 t349.length co30)) (fun _ hk => hk.2) (.int .i64 t352)) (fun _ hk => hk.2) (.int .i64 t353)) (fun _ hk => hk.2) (.slice Ao31 t354.length co31)) (fun _ hk => hk.2) (.slice Ao32 t357.length co32)) (fun _ hk => hk.2) (.slice Ao33 t360.length co33)) (fun _ h_ => h_.1)))); (case side6 => exact (Kd.R_reads' HO359.out).2.1); (case side7 => refine (Kd.S_reads' (e := 144) (base := w.heap.size) (ok := fun k_ => (True ∧ some k_ ≠ (.slice Ao23 t340.length co23 : Value).ownBlock)) (n := t360.length) (c := co33) ?_).2.2; exact (by (with_reducible repeat (first | apply Kd.S_alloc | apply Kd.S_drewN | apply Kd.S_drew)); exact (Kd.S_mono (Kd.S_far (p := ⟨gb363, 10, none⟩) (Kd.S_far (p := ⟨gb363, 9, none⟩) (Kd.S_far (p := ⟨gb363, 8, none⟩) (Kd.S_far (p := ⟨gb363, 7, none⟩) (Kd.S_far (p := ⟨gb363, 6, none⟩) (Kd.S_far (p := ⟨gb363, 5, none⟩) (Kd.S_far (p := ⟨gb363, 4, none⟩) (Kd.S_far (p := ⟨gb363, 3, none⟩) (Kd.S_far (p := ⟨gb363, 2, none⟩) (Kd.S_far (p := ⟨gb363, 1, none⟩) (Kd.S_far (p := ⟨gb363, 0, none⟩) (Kd.S_types HO362.out BK363.out (by decide)) (fun _ hk => hk.2) (.string t344)) (fun _ hk => hk.2) (.int .i64 t345)) (fun _ hk => hk.2) (.int .i64 t346)) (fun _ hk => hk.2) (.int .i64 t347)) (fun _ hk => hk.2) (.int .i64 t348)) (fun _ hk => hk.2) (.slice Ao30 t349.length co30)) (fun _ hk => hk.2) (.int .i64 t352)) (fun _ hk => hk.2) (.int .i64 t353)) (fun _ hk => hk.2) (.slice Ao31 t354.length co31)) (fun _ hk => hk.2) (.slice Ao32 t357.length co32)) (fun _ hk => hk.2) (.slice Ao33 t360.length co33)) (fun _ h_ => h_.1)))); (case side8 => exact (Kd.S_reads' HO362.out).2.1); rintro e w34 ⟨rfl, hb⟩; refine ⟨_, rfl, ?_⟩; have n0_ := Aside0.mk (Kd.R_below (by (with_reducible repeat (first | apply Kd.R_alloc | apply Kd.R_drewN | apply Kd.R_drew)); exact (Kd.R_mono (Kd.R_far (p := ⟨gb363, 10, none⟩) (Kd.R_far (p := ⟨gb363, 9, none⟩) (Kd.R_far (p := ⟨gb363, 8, none⟩) (Kd.R_far (p := ⟨gb363, 7, none⟩) (Kd.R_far (p := ⟨gb363, 6, none⟩) (Kd.R_far (p := ⟨gb363, 5, none⟩) (Kd.R_far (p := ⟨gb363, 4, none⟩) (Kd.R_far (p := ⟨gb363, 3, none⟩) (Kd.R_far (p := ⟨gb363, 2, none⟩) (Kd.R_far (p := ⟨gb363, 1, none⟩) (Kd.R_far (p := ⟨gb363, 0, none⟩) (Kd.R_types HO331.out BK363.out (by decide)) (fun _ hk => hk.2) (.string t344)) (fun _ hk => hk.2) (.int .i64 t345)) (fun _ hk => hk.2) (.int .i64 t346)) (fun _ hk => hk.2) (.int .i64 t347)) (fun _ hk => hk.2) (.int .i64 t348)) (fun _ hk => hk.2) (.slice Ao30 t349.length co30)) (fun _ hk => hk.2) (.int .i64 t352)) (fun _ hk => hk.2) (.int .i64 t353)) (fun _ hk => hk.2) (.slice Ao31 t354.length co31)) (fun _ hk => hk.2) (.slice Ao32 t357.length co32)) (fun _ hk => hk.2) (.slice Ao33 t360.length co33)) (fun _ h_ => h_.1))) hb); have n1_ := Aside0.mk (Kd.R_below (by (with_reducible repeat (first | apply Kd.R_alloc | apply Kd.R_drewN | apply Kd.R_drew)); exact (Kd.R_mono (Kd.R_far (p := ⟨gb363, 10, none⟩) (Kd.R_far (p := ⟨gb363, 9, none⟩) (Kd.R_far (p := ⟨gb363, 8, none⟩) (Kd.R_far (p := ⟨gb363, 7, none⟩) (Kd.R_far (p := ⟨gb363, 6, none⟩) (Kd.R_far (p := ⟨gb363, 5, none⟩) (Kd.R_far (p := ⟨gb363, 4, none⟩) (Kd.R_far (p := ⟨gb363, 3, none⟩) (Kd.R_far (p := ⟨gb363, 2, none⟩) (Kd.R_far (p := ⟨gb363, 1, none⟩) (Kd.R_far (p := ⟨gb363, 0, none⟩) (Kd.R_types HO336.out BK363.out (by decide)) (fun _ hk => hk.2) (.string t344)) (fun _ hk => hk.2) (.int .i64 t345)) (fun _ hk => hk.2) (.int .i64 t346)) (fun _ hk => hk.2) (.int .i64 t347)) (fun _ hk => hk.2) (.int .i64 t348)) (fun _ hk => hk.2) (.slice Ao30 t349.length co30)) (fun _ hk => hk.2) (.int .i64 t352)) (fun _ hk => hk.2) (.int .i64 t353)) (fun _ hk => hk.2) (.slice Ao31 t354.length co31)) (fun _ hk => hk.2) (.slice Ao32 t357.length co32)) (fun _ hk => hk.2) (.slice Ao33 t360.length co33)) (fun _ h_ => h_.1))) hb); have n2_ := Aside0.mk (Kd.R_below (by (with_reducible repeat (first | apply Kd.R_alloc | apply Kd.R_drewN | apply Kd.R_drew)); exact (Kd.R_mono (Kd.R_far (p := ⟨gb363, 10, none⟩) (Kd.R_far (p := ⟨gb363, 9, none⟩) (Kd.R_far (p := ⟨gb363, 8, none⟩) (Kd.R_far (p := ⟨gb363, 7, none⟩) (Kd.R_far (p := ⟨gb363, 6, none⟩) (Kd.R_far (p := ⟨gb363, 5, none⟩) (Kd.R_far (p := ⟨gb363, 4, none⟩) (Kd.R_far (p := ⟨gb363, 3, none⟩) (Kd.R_far (p := ⟨gb363, 2, none⟩) (Kd.R_far (p := ⟨gb363, 1, none⟩) (Kd.R_far (p := ⟨gb363, 0, none⟩) (Kd.R_types HO339.out BK363.out (by decide)) (fun _ hk => hk.2) (.string t344)) (fun _ hk => hk.2) (.int .i64 t345)) (fun _ hk => hk.2) (.int .i64 t346)) (fun _ hk => hk.2) (.int .i64 t347)) (fun _ hk => hk.2) (.int .i64 t348)) (fun _ hk => hk.2) (.slice Ao30 t349.length co30)) (fun _ hk => hk.2) (.int .i64 t352)) (fun _ hk => hk.2) (.int .i64 t353)) (fun _ hk => hk.2) (.slice Ao31 t354.length co31)) (fun _ hk => hk.2) (.slice Ao32 t357.length co32)) (fun _ hk => hk.2) (.slice Ao33 t360.length co33)) (fun _ h_ => h_.1))) hb); have n3_ := Aside0.mk (Kd.S_below (by (with_reducible repeat (first | apply Kd.S_alloc | apply Kd.S_drewN | apply Kd.S_drew)); exact (Kd.S_mono (Kd.S_far (p := ⟨gb363, 10, none⟩) (Kd.S_far (p := ⟨gb363, 9, none⟩) (Kd.S_far (p := ⟨gb363, 8, none⟩) (Kd.S_far (p := ⟨gb363, 7, none⟩) (Kd.S_far (p := ⟨gb363, 6, none⟩) (Kd.S_far (p := ⟨gb363, 5, none⟩) (Kd.S_far (p := ⟨gb363, 4, none⟩) (Kd.S_far (p := ⟨gb363, 3, none⟩) (Kd.S_far (p := ⟨gb363, 2, none⟩) (Kd.S_far (p := ⟨gb363, 1, none⟩) (Kd.S_far (p := ⟨gb363, 0, none⟩) (Kd.S_types HO342.out BK363.out (by decide)) (fun _ hk => hk.2) (.string t344)) (fun _ hk => hk.2) (.int .i64 t345)) (fun _ hk => hk.2) (.int .i64 t346)) (fun _ hk => hk.2) (.int .i64 t347)) (fun _ hk => hk.2) (.int .i64 t348)) (fun _ hk => hk.2) (.slice Ao30 t349.length co30)) (fun _ hk => hk.2) (.int .i64 t352)) (fun _ hk => hk.2) (.int .i64 t353)) (fun _ hk => hk.2) (.slice Ao31 t354.length co31)) (fun _ hk => hk.2) (.slice Ao32 t357.length co32)) (fun _ hk => hk.2) (.slice Ao33 t360.length co33)) (fun _ h_ => h_.1))) hb); have n4_ := Aside0.mk (Kd.R_below (by (with_reducible repeat (first | apply Kd.R_alloc | apply Kd.R_drewN | apply Kd.R_drew)); exact (Kd.R_mono (Kd.R_far (p := ⟨gb363, 10, none⟩) (Kd.R_far (p := ⟨gb363, 9, none⟩) (Kd.R_far (p := ⟨gb363, 8, none⟩) (Kd.R_far (p := ⟨gb363, 7, none⟩) (Kd.R_far (p := ⟨gb363, 6, none⟩) (Kd.R_far (p := ⟨gb363, 5, none⟩) (Kd.R_far (p := ⟨gb363, 4, none⟩) (Kd.R_far (p := ⟨gb363, 3, none⟩) (Kd.R_far (p := ⟨gb363, 2, none⟩) (Kd.R_far (p := ⟨gb363, 1, none⟩) (Kd.R_far (p := ⟨gb363, 0, none⟩) (Kd.R_types HO351.out BK363.out (by decide)) (fun _ hk => hk.2) (.string t344)) (fun _ hk => hk.2) (.int .i64 t345)) (fun _ hk => hk.2) (.int .i64 t346)) (fun _ hk => hk.2) (.int .i64 t347)) (fun _ hk => hk.2) (.int .i64 t348)) (fun _ hk => hk.2) (.slice Ao30 t349.length co30)) (fun _ hk => hk.2) (.int .i64 t352)) (fun _ hk => hk.2) (.int .i64 t353)) (fun _ hk => hk.2) (.slice Ao31 t354.length co31)) (fun _ hk => hk.2) (.slice Ao32 t357.length co32)) (fun _ hk => hk.2) (.slice Ao33 t360.length co33)) (fun _ h_ => h_.1))) hb); have n5_ := Aside0.mk (Kd.R_below (by (with_reducible repeat (first | apply Kd.R_alloc | apply Kd.R_drewN | apply Kd.R_drew)); exact (Kd.R_mono (Kd.R_far (p := ⟨gb363, 10, none⟩) (Kd.R_far (p := ⟨gb363, 9, none⟩) (Kd.R_far (p := ⟨gb363, 8, none⟩) (Kd.R_far (p := ⟨gb363, 7, none⟩) (Kd.R_far (p := ⟨gb363, 6, none⟩) (Kd.R_far (p := ⟨gb363, 5, none⟩) (Kd.R_far (p := ⟨gb363, 4, none⟩) (Kd.R_far (p := ⟨gb363, 3, none⟩) (Kd.R_far (p := ⟨gb363, 2, none⟩) (Kd.R_far (p := ⟨gb363, 1, none⟩) (Kd.R_far (p := ⟨gb363, 0, none⟩) (Kd.R_types HO356.out BK363.out (by decide)) (fun _ hk => hk.2) (.string t344)) (fun _ hk => hk.2) (.int .i64 t345)) (fun _ hk => hk.2) (.int .i64 t346)) (fun _ hk => hk.2) (.int .i64 t347)) (fun _ hk => hk.2) (.int .i64 t348)) (fun _ hk => hk.2) (.slice Ao30 t349.length co30)) (fun _ hk => hk.2) (.int .i64 t352)) (fun _ hk => hk.2) (.int .i64 t353)) (fun _ hk => hk.2) (.slice Ao31 t354.length co31)) (fun _ hk => hk.2) (.slice Ao32 t357.length co32)) (fun _ hk => hk.2) (.slice Ao33 t360.length co33)) (fun _ h_ => h_.1))) hb); have n6_ := Aside0.mk (Kd.R_below (by (with_reducible repeat (first | apply Kd.R_alloc | apply Kd.R_drewN | apply Kd.R_drew)); exact (Kd.R_mono (Kd.R_far (p := ⟨gb363, 10, none⟩) (Kd.R_far (p := ⟨gb363, 9, none⟩) (Kd.R_far (p := ⟨gb363, 8, none⟩) (Kd.R_far (p := ⟨gb363, 7, none⟩) (Kd.R_far (p := ⟨gb363, 6, none⟩) (Kd.R_far (p := ⟨gb363, 5, none⟩) (Kd.R_far (p := ⟨gb363, 4, none⟩) (Kd.R_far (p := ⟨gb363, 3, none⟩) (Kd.R_far (p := ⟨gb363, 2, none⟩) (Kd.R_far (p := ⟨gb363, 1, none⟩) (Kd.R_far (p := ⟨gb363, 0, none⟩) (Kd.R_types HO359.out BK363.out (by decide)) (fun _ hk => hk.2) (.string t344)) (fun _ hk => hk.2) (.int .i64 t345)) (fun _ hk => hk.2) (.int .i64 t346)) (fun _ hk => hk.2) (.int .i64 t347)) (fun _ hk => hk.2) (.int .i64 t348)) (fun _ hk => hk.2) (.slice Ao30 t349.length co30)) (fun _ hk => hk.2) (.int .i64 t352)) (fun _ hk => hk.2) (.int .i64 t353)) (fun _ hk => hk.2) (.slice Ao31 t354.length co31)) (fun _ hk => hk.2) (.slice Ao32 t357.length co32)) (fun _ hk => hk.2) (.slice Ao33 t360.length co33)) (fun _ h_ => h_.1))) hb); have n7_ := Aside0.mk (Kd.S_below (by (with_reducible repeat (first | apply Kd.S_alloc | apply Kd.S_drewN | apply Kd.S_drew)); exact (Kd.S_mono (Kd.S_far (p := ⟨gb363, 10, none⟩) (Kd.S_far (p := ⟨gb363, 9, none⟩) (Kd.S_far (p := ⟨gb363, 8, none⟩) (Kd.S_far (p := ⟨gb363, 7, none⟩) (Kd.S_far (p := ⟨gb363, 6, none⟩) (Kd.S_far (p := ⟨gb363, 5, none⟩) (Kd.S_far (p := ⟨gb363, 4, none⟩) (Kd.S_far (p := ⟨gb363, 3, none⟩) (Kd.S_far (p := ⟨gb363, 2, none⟩) (Kd.S_far (p := ⟨gb363, 1, none⟩) (Kd.S_far (p := ⟨gb363, 0, none⟩) (Kd.S_types HO362.out BK363.out (by decide)) (fun _ hk => hk.2) (.string t344)) (fun _ hk => hk.2) (.int .i64 t345)) (fun _ hk => hk.2) (.int .i64 t346)) (fun _ hk => hk.2) (.int .i64 t347)) (fun _ hk => hk.2) (.int .i64 t348)) (fun _ hk => hk.2) (.slice Ao30 t349.length co30)) (fun _ hk => hk.2) (.int .i64 t352)) (fun _ hk => hk.2) (.int .i64 t353)) (fun _ hk => hk.2) (.slice Ao31 t354.length co31)) (fun _ hk => hk.2) (.slice Ao32 t357.length co32)) (fun _ hk => hk.2) (.slice Ao33 t360.length co33)) (fun _ h_ => h_.1))) hb); have n8_ := Aside0.mk (blk_below (g := gb322) (o := .cells #[.string a0_0, .int .i64 a0_1, .int .i64 a0_2, .int .i64 a0_3, .int .i64 a0_4, .slice A0_5 l0_5.length c0_5, .int .i64 a0_6, .int .i64 a0_7, .slice A0_8 l0_8.length c0_8, .slice A0_9 l0_9.length c0_9, .slice A0_10 l0_10.length c0_10] 41 (0, 0)) (by (with_reducible repeat (first | refine blk_drewN ?_ _ | refine blk_drew ?_ | refine blk_alloc ?_ _)); refine blk_far ?_ NB322_363.out _; (with_reducible repeat (first | refine blk_drewN ?_ _ | refine blk_drew ?_ | refine blk_alloc ?_ _)); refine blk_far ?_ NB322_363.out _; (with_reducible repeat (first | refine blk_drewN ?_ _ | refine blk_drew ?_ | refine blk_alloc ?_ _)); refine blk_far ?_ NB322_363.out _; (with_reducible repeat (first | refine blk_drewN ?_ _ | refine blk_drew ?_ | refine blk_alloc ?_ _)); refine blk_far ?_ NB322_363.out _; (with_reducible repeat (first | refine blk_drewN ?_ _ | refine blk_drew ?_ | refine blk_alloc ?_ _)); refine blk_far ?_ NB322_363.out _; (with_reducible repeat (first | refine blk_drewN ?_ _ | refine blk_drew ?_ | refine blk_alloc ?_ _)); refine blk_far ?_ NB322_363.out _; (with_reducible repeat (first | refine blk_drewN ?_ _ | refine blk_drew ?_ | refine blk_alloc ?_ _)); refine blk_far ?_ NB322_363.out _; (with_reducible repeat (first | refine blk_drewN ?_ _ | refine blk_drew ?_ | refine blk_alloc ?_ _)); refine blk_far ?_ NB322_363.out _; (with_reducible repeat (first | refine blk_drewN ?_ _ | refine blk_drew ?_ | refine blk_alloc ?_ _)); refine blk_far ?_ NB322_363.out _; (with_reducible repeat (first | refine blk_drewN ?_ _ | refine blk_drew ?_ | refine blk_alloc ?_ _)); refine blk_far ?_ NB322_363.out _; (with_reducible repeat (first | refine blk_drewN ?_ _ | refine blk_drew ?_ | refine blk_alloc ?_ _)); refine blk_far ?_ NB322_363.out _; (with_reducible repeat (first | refine blk_drewN ?_ _ | refine blk_drew ?_ | refine blk_alloc ?_ _)); exact BK322.out) hb); have n9_ := Aside0.mk (blk_below (g := gb363) (o := .cells #[.string t344, .int .i64 t345, .int .i64 t346, .int .i64 t347, .int .i64 t348, .slice Ao30 t349.length co30, .int .i64 t352, .int .i64 t353, .slice Ao31 t354.length co31, .slice Ao32 t357.length co32, .slice Ao33 t360.length co33] 48 (0, 0)) (by (with_reducible repeat (first | refine blk_drewN ?_ _ | refine blk_drew ?_ | refine blk_alloc ?_ _)); refine blk_put (cs := #[.string t344, .int .i64 t345, .int .i64 t346, .int .i64 t347, .int .i64 t348, .slice Ao30 t349.length co30, .int .i64 t352, .int .i64 t353, .slice Ao31 t354.length co31, .slice Ao32 t357.length co32, .slice none 0 0]) ?_ 10 _ rfl; (with_reducible repeat (first | refine blk_drewN ?_ _ | refine blk_drew ?_ | refine blk_alloc ?_ _)); refine blk_put (cs := #[.string t344, .int .i64 t345, .int .i64 t346, .int .i64 t347, .int .i64 t348, .slice Ao30 t349.length co30, .int .i64 t352, .int .i64 t353, .slice Ao31 t354.length co31, .slice none 0 0, .slice none 0 0]) ?_ 9 _ rfl; (with_reducible repeat (first | refine blk_drewN ?_ _ | refine blk_drew ?_ | refine blk_alloc ?_ _)); refine blk_put (cs := #[.string t344, .int .i64 t345, .int .i64 t346, .int .i64 t347, .int .i64 t348, .slice Ao30 t349.length co30, .int .i64 t352, .int .i64 t353, .slice none 0 0, .slice none 0 0, .slice none 0 0]) ?_ 8 _ rfl; (with_reducible repeat (first | refine blk_drewN ?_ _ | refine blk_drew ?_ | refine blk_alloc ?_ _)); refine blk_put (cs := #[.string t344, .int .i64 t345, .int .i64 t346, .int .i64 t347, .int .i64 t348, .slice Ao30 t349.length co30, .int .i64 t352, .int .i64 0, .slice none 0 0, .slice none 0 0, .slice none 0 0]) ?_ 7 _ rfl; (with_reducible repeat (first | refine blk_drewN ?_ _ | refine blk_drew ?_ | refine blk_alloc ?_ _)); refine blk_put (cs := #[.string t344, .int .i64 t345, .int .i64 t346, .int .i64 t347, .int .i64 t348, .slice Ao30 t349.length co30, .int .i64 0, .int .i64 0, .slice none 0 0, .slice none 0 0, .slice none 0 0]) ?_ 6 _ rfl; (with_reducible repeat (first | refine blk_drewN ?_ _ | refine blk_drew ?_ | refine blk_alloc ?_ _)); refine blk_put (cs := #[.string t344, .int .i64 t345, .int .i64 t346, .int .i64 t347, .int .i64 t348, .slice none 0 0, .int .i64 0, .int .i64 0, .slice none 0 0, .slice none 0 0, .slice none 0 0]) ?_ 5 _ rfl; (with_reducible repeat (first | refine blk_drewN ?_ _ | refine blk_drew ?_ | refine blk_alloc ?_ _)); refine blk_put (cs := #[.string t344, .int .i64 t345, .int .i64 t346, .int .i64 t347, .int .i64 0, .slice none 0 0, .int .i64 0, .int .i64 0, .slice none 0 0, .slice none 0 0, .slice none 0 0]) ?_ 4 _ rfl; (with_reducible repeat (first | refine blk_drewN ?_ _ | refine blk_drew ?_ | refine blk_alloc ?_ _)); refine blk_put (cs := #[.string t344, .int .i64 t345, .int .i64 t346, .int .i64 0, .int .i64 0, .slice none 0 0, .int .i64 0, .int .i64 0, .slice none 0 0, .slice none 0 0, .slice none 0 0]) ?_ 3 _ rfl; (with_reducible repeat (first | refine blk_drewN ?_ _ | refine blk_drew ?_ | refine blk_alloc ?_ _)); refine blk_put (cs := #[.string t344, .int .i64 t345, .int .i64 0, .int .i64 0, .int .i64 0, .slice none 0 0, .int .i64 0, .int .i64 0, .slice none 0 0, .slice none 0 0, .slice none 0 0]) ?_ 2 _ rfl; (with_reducible repeat (first | refine blk_drewN ?_ _ | refine blk_drew ?_ | refine blk_alloc ?_ _)); refine blk_put (cs := #[.string t344, .int .i64 0, .int .i64 0, .int .i64 0, .int .i64 0, .slice none 0 0, .int .i64 0, .int .i64 0, .slice none 0 0, .slice none 0 0, .slice none 0 0]) ?_ 1 _ rfl; (with_reducible repeat (first | refine blk_drewN ?_ _ | refine blk_drew ?_ | refine blk_alloc ?_ _)); refine blk_put (cs := #[.string (⟨#[]⟩ : ByteArray), .int .i64 0, .int .i64 0, .int .i64 0, .int .i64 0, .slice none 0 0, .int .i64 0, .int .i64 0, .slice none 0 0, .slice none 0 0, .slice none 0 0]) ?_ 0 _ rfl; (with_reducible repeat (first | refine blk_drewN ?_ _ | refine blk_drew ?_ | refine blk_alloc ?_ _)); exact BK363.out) hb); have n10_ := Aside0.mk (below_step bl_ hb); clear HO331; clear HO336; clear HO339; clear HO342; clear HO351; clear HO356; clear HO359; clear HO362; clear BK322; clear BK363; clear HB; have HO331 := n0_; have HO336 := n1_; have HO339 := n2_; have HO342 := n3_; have HO351 := n4_; have HO356 := n5_; have HO359 := n6_; have HO362 := n7_; have BK322 := n8_; have BK363 := n9_; have HB := n10_; clear n0_ n1_ n2_ n3_ n4_ n5_ n6_ n7_ n8_ n9_ n10_; (try clear hb); (try clear hb2); (try clear hk); (try clear hi)))
    have n0_ := Aside0.mk (Kd.R_drew HO331.out)
    have n1_ := Aside0.mk (Kd.R_drew HO336.out)
    have n2_ := Aside0.mk (Kd.R_drew HO339.out)
    have n3_ := Aside0.mk (Kd.S_drew HO342.out)
    have n4_ := Aside0.mk (Kd.R_drew HO351.out)
    have n5_ := Aside0.mk (Kd.R_drew HO356.out)
    have n6_ := Aside0.mk (Kd.R_drew HO359.out)
    have n7_ := Aside0.mk (Kd.S_drew HO362.out)
    have n8_ := Aside0.mk (blk_drew BK322.out)
    have n9_ := Aside0.mk (blk_drew BK363.out)
    have n10_ := Aside0.mk (below_drew1 HB.out)
    clear HO331
    clear HO336
    clear HO339
    clear HO342
    clear HO351
    clear HO356
    clear HO359
    clear HO362
    clear BK322
    clear BK363
    clear HB
    have HO331 := n0_
    have HO336 := n1_
    have HO339 := n2_
    have HO342 := n3_
    have HO351 := n4_
    have HO356 := n5_
    have HO359 := n6_
    have HO362 := n7_
    have BK322 := n8_
    have BK363 := n9_
    have HB := n10_
    clear n0_ n1_ n2_ n3_ n4_ n5_ n6_ n7_ n8_ n9_ n10_
    refine start_ (n := 5) (S := fun w' => w'.cell? ⟨gb363, 0, none⟩ = some (.string t344) ∧ w'.cell? ⟨gb363, 1, none⟩ = some (.int .i64 t345) ∧ w'.cell? ⟨gb363, 2, none⟩ = some (.int .i64 t346) ∧ w'.cell? ⟨gb363, 3, none⟩ = some (.int .i64 t347) ∧ w'.cell? ⟨gb363, 4, none⟩ = some (.int .i64 t348) ∧ w'.cell? ⟨gb363, 5, none⟩ = some (.slice Ao30 t349.length co30) ∧ w'.cell? ⟨gb363, 6, none⟩ = some (.int .i64 t352) ∧ w'.cell? ⟨gb363, 7, none⟩ = some (.int .i64 t353) ∧ w'.cell? ⟨gb363, 8, none⟩ = some (.slice Ao31 t354.length co31) ∧ w'.cell? ⟨gb363, 9, none⟩ = some (.slice Ao32 t357.length co32) ∧ w'.cell? ⟨gb363, 10, none⟩ = some (.slice Ao33 t360.length co33) ∧ w'.cell? ⟨gb322, 0, none⟩ = some (.string a0_0) ∧ w'.cell? ⟨gb322, 1, none⟩ = some (.int .i64 a0_1) ∧ w'.cell? ⟨gb322, 2, none⟩ = some (.int .i64 a0_2) ∧ w'.cell? ⟨gb322, 3, none⟩ = some (.int .i64 a0_3) ∧ w'.cell? ⟨gb322, 4, none⟩ = some (.int .i64 a0_4) ∧ w'.cell? ⟨gb322, 5, none⟩ = some (.slice A0_5 l0_5.length c0_5) ∧ w'.cell? ⟨gb322, 6, none⟩ = some (.int .i64 a0_6) ∧ w'.cell? ⟨gb322, 7, none⟩ = some (.int .i64 a0_7) ∧ w'.cell? ⟨gb322, 8, none⟩ = some (.slice A0_8 l0_8.length c0_8) ∧ w'.cell? ⟨gb322, 9, none⟩ = some (.slice A0_9 l0_9.length c0_9) ∧ w'.cell? ⟨gb322, 10, none⟩ = some (.slice A0_10 l0_10.length c0_10)) (ds := []) #[false, false, false, false, false] (by kernel_rfl) rfl rfl ⟨cy_ BK363 0, cy_ BK363 1, cy_ BK363 2, cy_ BK363 3, cy_ BK363 4, cy_ BK363 5, cy_ BK363 6, cy_ BK363 7, cy_ BK363 8, cy_ BK363 9, cy_ BK363 10, cy_ BK322 0, cy_ BK322 1, cy_ BK322 2, cy_ BK322 3, cy_ BK322 4, cy_ BK322 5, cy_ BK322 6, cy_ BK322 7, cy_ BK322 8, cy_ BK322 9, cy_ BK322 10⟩ (fun hHeld => ?_)
    generalize w34.drew = w35 at HO331 HO336 HO339 HO342 HO351 HO356 HO359 HO362 BK322 BK363 HB hHeld ⊢
    refine take_ (i := 0) (N := some 22) (v := ?_) (a' := ?_) #[true, false, false, false, false] rfl rfl (by kernel_rfl) (fun _ _ _ h => h) (Or.inl ⟨by rfl, ?_⟩) hHeld ?_ ?_
    rotate_left
    ·rintro w' ⟨s0, s1, s2, s3, s4, s5, s6, s7, s8, s9, s10, s11, s12, s13, s14, s15, s16, s17, s18, s19, s20, s21⟩
     go_simp
     with_reducible rfl
    rotate_left
    ·simp only [Act.put, q_]
     rfl
    refine take_ (i := 1) (N := some 23) (v := ?_) (a' := ?_) #[true, true, false, false, false] rfl rfl (by kernel_rfl) (fun _ _ _ h => h) (Or.inl ⟨by rfl, ?_⟩) hHeld ?_ ?_
    rotate_left
    ·rintro w' ⟨s0, s1, s2, s3, s4, s5, s6, s7, s8, s9, s10, s11, s12, s13, s14, s15, s16, s17, s18, s19, s20, s21⟩
     go_simp
     with_reducible rfl
    rotate_left
    ·simp only [Act.put, q_]
     rfl
    refine one_ (i := 2) (N := some 24) #[true, true, true, false, false] rfl rfl (by kernel_rfl) (by decide) (fun K hK => ?_)
    refine goes_ Try.func19 (by kernel_rfl) rfl #[.agg #[.string a0_0, .int .i64 a0_1, .int .i64 a0_2, .int .i64 a0_3, .int .i64 a0_4, .slice A0_5 l0_5.length c0_5, .int .i64 a0_6, .int .i64 a0_7, .slice A0_8 l0_8.length c0_8, .slice A0_9 l0_9.length c0_9, .slice A0_10 l0_10.length c0_10]] (by rfl) rfl rfl gl_ ?_
    with_reducible refine (laws_toAcct.calls k a0_0 a0_1 a0_2 a0_3 a0_4 _ _ l0_5 a0_6 a0_7 _ _ l0_8 _ _ l0_9 _ _ l0_10 t365 t366 t367 t368 t369 t370 t373 t374 t375 t378 t381 _ ?side1 ?side2 ?side3 ?side4 ?side5 ?side6 ?side7 ?side8 A12.out).mono ?_
    (case side1 => exact ca_ (Kd.C_below HR0_5.out HB.out))
    (case side2 => exact HC0_5.out)
    (case side3 => exact ca_ (Kd.C_below HR0_8.out HB.out))
    (case side4 => exact HC0_8.out)
    (case side5 => exact ca_ (Kd.C_below HR0_9.out HB.out))
    (case side6 => exact HC0_9.out)
    (case side7 => exact ca_ (Kd.C_below HR0_10.out HB.out))
    (case side8 => exact HC0_10.out)
    rintro e w36 ⟨v371, v376, v379, v382, rfl, ho0, ho1, ho2, ho3, hb⟩
    refine ⟨_, rfl, ?_⟩
    have n0_ := Aside0.mk (Kd.R_elder' (ra_ HO331) (Kd.R_base ho0) hb)
    have n1_ := Aside0.mk (Kd.R_mono (Kd.R_told (Kd.R_told (Kd.R_old (ra_ HO336) hb) (Kd.R_base ho1)) (Kd.R_base ho2)) (fun _ h_ => h_.1))
    have n2_ := Aside0.mk (Kd.R_mono (Kd.R_told (Kd.R_told (Kd.R_old (ra_ HO339) hb) (Kd.R_base ho1)) (Kd.R_base ho2)) (fun _ h_ => h_.1))
    have n3_ := Aside0.mk (Kd.S_elder' (by (with_reducible repeat (first | apply Kd.S_alloc | apply Kd.S_drewN | apply Kd.S_drew)); exact HO342.out) (Kd.S_base ho3) hb)
    have n4_ := Aside0.mk (Kd.R_elder' (ra_ HO351) (Kd.R_base ho0) hb)
    have n5_ := Aside0.mk (Kd.R_mono (Kd.R_told (Kd.R_told (Kd.R_old (ra_ HO356) hb) (Kd.R_base ho1)) (Kd.R_base ho2)) (fun _ h_ => h_.1))
    have n6_ := Aside0.mk (Kd.R_mono (Kd.R_told (Kd.R_told (Kd.R_old (ra_ HO359) hb) (Kd.R_base ho1)) (Kd.R_base ho2)) (fun _ h_ => h_.1))
    have n7_ := Aside0.mk (Kd.S_elder' (by (with_reducible repeat (first | apply Kd.S_alloc | apply Kd.S_drewN | apply Kd.S_drew)); exact HO362.out) (Kd.S_base ho3) hb)
    have n8_ := Aside0.mk (Kd.R_lower (Kd.R_new' (Kd.R_new' ho0 (Kd.R_lt (ra_ HO331))) (Kd.R_lt (ra_ HO351))) (below_size bl_))
    have n9_ := Aside0.mk (Kd.R_lower (Kd.R_new' (Kd.R_new' (Kd.R_new' (Kd.R_new' ho1 (Kd.R_lt (ra_ HO336))) (Kd.R_lt (ra_ HO339))) (Kd.R_lt (ra_ HO356))) (Kd.R_lt (ra_ HO359))) (below_size bl_))
    have n10_ := Aside0.mk (Kd.R_lower (Kd.R_new' (Kd.R_new' (Kd.R_new' (Kd.R_new' ho2 (Kd.R_lt (ra_ HO336))) (Kd.R_lt (ra_ HO339))) (Kd.R_lt (ra_ HO356))) (Kd.R_lt (ra_ HO359))) (below_size bl_))
    have n11_ := Aside0.mk (Kd.S_lower (Kd.S_new' (Kd.S_new' ho3 (Kd.S_lt (by (with_reducible repeat (first | apply Kd.S_alloc | apply Kd.S_drewN | apply Kd.S_drew)); exact HO342.out))) (Kd.S_lt (by (with_reducible repeat (first | apply Kd.S_alloc | apply Kd.S_drewN | apply Kd.S_drew)); exact HO362.out))) (below_size bl_))
    have n12_ := Aside0.mk (blk_below (bk_ BK322) hb)
    have n13_ := Aside0.mk (blk_below (bk_ BK363) hb)
    have n14_ := Aside0.mk (below_step bl_ hb)
    clear HO331
    clear HO336
    clear HO339
    clear HO342
    clear HO351
    clear HO356
    clear HO359
    clear HO362
    clear BK322
    clear BK363
    clear HB
    have HO331 := n0_
    have HO336 := n1_
    have HO339 := n2_
    have HO342 := n3_
    have HO351 := n4_
    have HO356 := n5_
    have HO359 := n6_
    have HO362 := n7_
    have HO372 := n8_
    have HO377 := n9_
    have HO380 := n10_
    have HO383 := n11_
    have BK322 := n12_
    have BK363 := n13_
    have HB := n14_
    clear n0_ n1_ n2_ n3_ n4_ n5_ n6_ n7_ n8_ n9_ n10_ n11_ n12_ n13_ n14_
    (try clear hb)
    (try clear hb2)
    (try clear hk)
    (try clear hi)
    (try clear ho0)
    (try clear ho1)
    (try clear ho2)
    (try clear ho3)
    obtain ⟨Ao37, co37, eo37⟩ := Kd.R_slice HO372.out
    (first | subst eo37 | (injection eo37 with f1_ f2_ f3_; have f4_ := f1_.symm; have f5_ := f3_.symm; clear f1_ f2_ f3_; subst f4_; subst f5_))
    obtain ⟨Ao38, co38, eo38⟩ := Kd.R_slice HO377.out
    (first | subst eo38 | (injection eo38 with f1_ f2_ f3_; have f4_ := f1_.symm; have f5_ := f3_.symm; clear f1_ f2_ f3_; subst f4_; subst f5_))
    obtain ⟨Ao39, co39, eo39⟩ := Kd.R_slice HO380.out
    (first | subst eo39 | (injection eo39 with f1_ f2_ f3_; have f4_ := f1_.symm; have f5_ := f3_.symm; clear f1_ f2_ f3_; subst f4_; subst f5_))
    obtain ⟨Ao40, co40, eo40⟩ := Kd.S_slice HO383.out
    (first | subst eo40 | (injection eo40 with f1_ f2_ f3_; have f4_ := f1_.symm; have f5_ := f3_.symm; clear f1_ f2_ f3_; subst f4_; subst f5_))
    refine hK.out _ _ ⟨cy_ BK363 0, cy_ BK363 1, cy_ BK363 2, cy_ BK363 3, cy_ BK363 4, cy_ BK363 5, cy_ BK363 6, cy_ BK363 7, cy_ BK363 8, cy_ BK363 9, cy_ BK363 10, cy_ BK322 0, cy_ BK322 1, cy_ BK322 2, cy_ BK322 3, cy_ BK322 4, cy_ BK322 5, cy_ BK322 6, cy_ BK322 7, cy_ BK322 8, cy_ BK322 9, cy_ BK322 10⟩ (fun hHeld => ?_)
    clear hK K
    refine norm_ (a' := ?_) ?_ ?_
    rotate_left
    ·show Act.put _ (some 24) _ = _
     simp only [Act.put, q_]
     rfl
    refine one_ (i := 3) (N := some 25) #[true, true, true, true, false] rfl rfl (by kernel_rfl) (by decide) (fun K hK => ?_)
    refine goes_ Try.func21 (by kernel_rfl) rfl #[.agg #[.string t344, .int .i64 t345, .int .i64 t346, .int .i64 t347, .int .i64 t348, .slice Ao30 t349.length co30, .int .i64 t352, .int .i64 t353, .slice Ao31 t354.length co31, .slice Ao32 t357.length co32, .slice Ao33 t360.length co33], .agg #[.string t365, .int .i64 t366, .int .i64 t367, .int .i64 t368, .int .i64 t369, .slice Ao37 t370.length co37, .int .i64 t373, .int .i64 t374, .slice Ao38 t375.length co38, .slice Ao39 t378.length co39, .slice Ao40 t381.length co40]] (by rfl) rfl rfl gl_ ?_
    with_reducible refine (laws_eqAcct.calls k t344 t345 t346 t347 t348 _ _ t349 t352 t353 _ _ t354 _ _ t357 _ _ t360 t365 t366 t367 t368 t369 _ _ t370 t373 t374 _ _ t375 _ _ t378 _ _ t381 true _ ?side1 ?side2 ?side3 ?side4 ?side5 ?side6 ?side7 ?side8 ?side9 ?side10 ?side11 ?side12 ?side13 ?side14 ?side15 ?side16 A13.out).mono ?_
    (case side1 => exact ca_ ((Kd.R_reads' HO351.out).2.2))
    (case side2 => exact (Kd.R_reads' HO351.out).2.1)
    (case side3 => exact ca_ ((Kd.R_reads' HO356.out).2.2))
    (case side4 => exact (Kd.R_reads' HO356.out).2.1)
    (case side5 => exact ca_ ((Kd.R_reads' HO359.out).2.2))
    (case side6 => exact (Kd.R_reads' HO359.out).2.1)
    (case side7 => exact ca_ ((Kd.S_reads' HO362.out).2.2))
    (case side8 => exact (Kd.S_reads' HO362.out).2.1)
    (case side9 => exact ca_ ((Kd.R_reads' HO372.out).2.2))
    (case side10 => exact (Kd.R_reads' HO372.out).2.1)
    (case side11 => exact ca_ ((Kd.R_reads' HO377.out).2.2))
    (case side12 => exact (Kd.R_reads' HO377.out).2.1)
    (case side13 => exact ca_ ((Kd.R_reads' HO380.out).2.2))
    (case side14 => exact (Kd.R_reads' HO380.out).2.1)
    (case side15 => exact ca_ ((Kd.S_reads' HO383.out).2.2))
    (case side16 => exact (Kd.S_reads' HO383.out).2.1)
    rintro e w41 ⟨rfl, hb⟩
    refine ⟨_, rfl, ?_⟩
    have n0_ := Aside0.mk (Kd.R_below (ra_ HO331) hb)
    have n1_ := Aside0.mk (Kd.R_below (ra_ HO336) hb)
    have n2_ := Aside0.mk (Kd.R_below (ra_ HO339) hb)
    have n3_ := Aside0.mk (Kd.S_below (by (with_reducible repeat (first | apply Kd.S_alloc | apply Kd.S_drewN | apply Kd.S_drew)); exact HO342.out) hb)
    have n4_ := Aside0.mk (Kd.R_below (ra_ HO351) hb)
    have n5_ := Aside0.mk (Kd.R_below (ra_ HO356) hb)
    have n6_ := Aside0.mk (Kd.R_below (ra_ HO359) hb)
    have n7_ := Aside0.mk (Kd.S_below (by (with_reducible repeat (first | apply Kd.S_alloc | apply Kd.S_drewN | apply Kd.S_drew)); exact HO362.out) hb)
    have n8_ := Aside0.mk (Kd.R_below (ra_ HO372) hb)
    have n9_ := Aside0.mk (Kd.R_below (ra_ HO377) hb)
    have n10_ := Aside0.mk (Kd.R_below (ra_ HO380) hb)
    have n11_ := Aside0.mk (Kd.S_below (by (with_reducible repeat (first | apply Kd.S_alloc | apply Kd.S_drewN | apply Kd.S_drew)); exact HO383.out) hb)
    have n12_ := Aside0.mk (blk_below (bk_ BK322) hb)
    have n13_ := Aside0.mk (blk_below (bk_ BK363) hb)
    have n14_ := Aside0.mk (below_step bl_ hb)
    clear HO331
    clear HO336
    clear HO339
    clear HO342
    clear HO351
    clear HO356
    clear HO359
    clear HO362
    clear HO372
    clear HO377
    clear HO380
    clear HO383
    clear BK322
    clear BK363
    clear HB
    have HO331 := n0_
    have HO336 := n1_
    have HO339 := n2_
    have HO342 := n3_
    have HO351 := n4_
    have HO356 := n5_
    have HO359 := n6_
    have HO362 := n7_
    have HO372 := n8_
    have HO377 := n9_
    have HO380 := n10_
    have HO383 := n11_
    have BK322 := n12_
    have BK363 := n13_
    have HB := n14_
    clear n0_ n1_ n2_ n3_ n4_ n5_ n6_ n7_ n8_ n9_ n10_ n11_ n12_ n13_ n14_
    (try clear hb)
    (try clear hb2)
    (try clear hk)
    (try clear hi)
    refine hK.out _ _ ⟨cy_ BK363 0, cy_ BK363 1, cy_ BK363 2, cy_ BK363 3, cy_ BK363 4, cy_ BK363 5, cy_ BK363 6, cy_ BK363 7, cy_ BK363 8, cy_ BK363 9, cy_ BK363 10, cy_ BK322 0, cy_ BK322 1, cy_ BK322 2, cy_ BK322 3, cy_ BK322 4, cy_ BK322 5, cy_ BK322 6, cy_ BK322 7, cy_ BK322 8, cy_ BK322 9, cy_ BK322 10⟩ (fun hHeld => ?_)
    clear hK K
    refine norm_ (a' := ?_) ?_ ?_
    rotate_left
    ·show Act.put _ (some 25) _ = _
     simp only [Act.put, q_]
     rfl
    refine pure_ (i := 4) (N := some 26) (v := ?_) (a' := ?_) #[true, true, true, true, true] rfl rfl (by kernel_rfl) (fun _ _ _ h => h) (Or.inl ⟨by rfl, ?_⟩) ?_ ?_
    rotate_left
    ·intro w'
     go_simp
     with_reducible rfl
    rotate_left
    ·simp only [Act.put, q_]
     rfl
    refine done_ (by kernel_rfl) ?_
    try go_wp2
    go_ret
    exact ⟨by first | rfl | (simp [errW_none, errW_some] <;> rfl) | (simp [*, errW_none, errW_some] <;> rfl), bl_⟩
   ·replace c14 := Bool.eq_false_iff.mpr c14
    subst c14
    have H1 : (some false) = some true := by rw [if_neg (show ¬ (false = true) by decide)] at H; exact H
    clear H
    have H := H1
    clear H1
    exact absurd H (by simp)

def ok138 (x : S138) : Prop := (x.f0.size ≤ maxLen) ∧ ((Lit.int .i64 x.f1).wf = true) ∧ ((Lit.int .i64 x.f2).wf = true)
def ok38 (x : S38) : Prop := ((Lit.int .i64 x.f0).wf = true) ∧ ((Lit.int .i64 x.f1).wf = true) ∧ (x.f2.length ≤ maxLen ∧ ∀ y0 ∈ x.f2, (Lit.int .i64 y0).wf = true) ∧ (x.f3.length ≤ maxLen ∧ ∀ y0 ∈ x.f3, (Lit.int .i64 y0).wf = true)
def ok141 (x : S141) : Prop := (x.f0.size ≤ maxLen) ∧ (x.f1.size ≤ maxLen) ∧ (x.f2.length ≤ maxLen ∧ ∀ y0 ∈ x.f2, (Lit.int .u8 y0).wf = true)
def ok41 (x : S41) : Prop := (x.f0.size ≤ maxLen) ∧ ((Lit.int .i64 x.f1).wf = true) ∧ ((Lit.int .i64 x.f2).wf = true) ∧ ((Lit.int .i64 x.f3).wf = true) ∧ ((Lit.int .i64 x.f4).wf = true) ∧ (x.f5.length ≤ maxLen ∧ ∀ y0 ∈ x.f5, ok138 y0) ∧ (ok38 x.f6) ∧ (x.f7.length ≤ maxLen ∧ ∀ y0 ∈ x.f7, ok141 y0)
/-- THE ONE PURE STATEMENT of laws_FnExactAcctOk. -/
def laws_FnExactAcctOk.Pure : Prop := ∀ (s0 : S41), (ok41 s0) → ∃ k, laws_FnExactAcctOk.f k s0.f0 s0.f1 s0.f2 s0.f3 s0.f4 s0.f5 s0.f6.f0 s0.f6.f1 s0.f6.f2 s0.f6.f3 s0.f7 = some true

end Go.Proofs.Ytgcggfoailaalaa.QFnExactAcctOk
