-- by my own printer (myprint.py, over the kit's print.py)
import Derived.Test.YtepjnalkpfnmcaaQFnExactRoomx0
import Derived.Test.YtepjnalkpfnmcaaQFnExactRoomx1
import Derived.Test.YtepjnalkpfnmcaaQFnExactRoomx7
import Derived.Test.YtepjnalkpfnmcaaQFnExactRoomx8
import Derived.Test.YtepjnalkpfnmcaaQFnExactRoomx13
import Derived.Test.YtepjnalkpfnmcaaQFnExactRoomx14
namespace Go.Proofs.Ytepjnalkpfnmcaa.QFnExactRoom
open Go.RowKit Go.Proofs.YtepjnalkpfnmcaaW.PrintWords Go.Proofs.YtepjnalkpfnmcaaW.PrintLast Go.Proofs.YtepjnalkpfnmcaaW.PrintMore
attribute [local go_sem] max2_int min2_int max_two min_two max_three min_three max_four min_four   -- for this text's walks alone
set_option linter.unusedVariables false
set_option linter.unusedSimpArgs false

attribute [local go_sem] my_geq my_leq my_gtr
/-! ### laws_FnExactRoom: function 6 -/
def laws_FnExactRoom.f (k : Nat) (a0_0 : ByteArray) (a0_1 : Int) (a0_2 : Int) (a0_3 : Int) (a0_4 : Int) (l0_5 : List (S89)) (a0_6 : Int) (a0_7 : Int) (l0_8 : List Int) (l0_9 : List Int) (l0_10 : List (S70)) (a1 : Int) : Option (Bool) := (laws_szAcct.f k a0_0 a0_1 a0_2 a0_3 a0_4 l0_5 a0_6 a0_7 l0_8 l0_9 l0_10 1048576).bind fun t357 => (if t357 < 0 then (some true) else ((laws_toAcct.f k a0_0 a0_1 a0_2 a0_3 a0_4 l0_5 a0_6 a0_7 l0_8 l0_9 l0_10).bind fun bt358 => ((spec_Room.f k bt358.1 bt358.2.1 bt358.2.2.1 bt358.2.2.2.1 bt358.2.2.2.2.1 bt358.2.2.2.2.2.1 bt358.2.2.2.2.2.2.1 bt358.2.2.2.2.2.2.2.1 bt358.2.2.2.2.2.2.2.2.1 bt358.2.2.2.2.2.2.2.2.2.1 bt358.2.2.2.2.2.2.2.2.2.2 a1).bind fun t377 => ((laws_toAcct.f k a0_0 a0_1 a0_2 a0_3 a0_4 l0_5 a0_6 a0_7 l0_8 l0_9 l0_10).bind fun bt378 => ((impl_Room.f k bt378.1 bt378.2.1 bt378.2.2.1 bt378.2.2.2.1 bt378.2.2.2.2.1 bt378.2.2.2.2.2.1 bt378.2.2.2.2.2.2.1 bt378.2.2.2.2.2.2.2.1 bt378.2.2.2.2.2.2.2.2.1 bt378.2.2.2.2.2.2.2.2.2.1 bt378.2.2.2.2.2.2.2.2.2.2 a1).bind fun t398 => (if t398 = t377 then ((laws_toAcct.f k a0_0 a0_1 a0_2 a0_3 a0_4 l0_5 a0_6 a0_7 l0_8 l0_9 l0_10).bind fun bt399 => ((laws_eqAcct.f k bt378.1 bt378.2.1 bt378.2.2.1 bt378.2.2.2.1 bt378.2.2.2.2.1 bt378.2.2.2.2.2.1 bt378.2.2.2.2.2.2.1 bt378.2.2.2.2.2.2.2.1 bt378.2.2.2.2.2.2.2.2.1 bt378.2.2.2.2.2.2.2.2.2.1 bt378.2.2.2.2.2.2.2.2.2.2 bt399.1 bt399.2.1 bt399.2.2.1 bt399.2.2.2.1 bt399.2.2.2.2.1 bt399.2.2.2.2.2.1 bt399.2.2.2.2.2.2.1 bt399.2.2.2.2.2.2.2.1 bt399.2.2.2.2.2.2.2.2.1 bt399.2.2.2.2.2.2.2.2.2.1 bt399.2.2.2.2.2.2.2.2.2.2).bind fun t418 => (if t418 = true then (some true) else (some false)))) else (some false)))))))
theorem laws_FnExactRoom.mono : ∀ a0 a1 a2 a3 a4 a5 a6 a7 a8 a9 a10 a11 k, LeO (laws_FnExactRoom.f k a0 a1 a2 a3 a4 a5 a6 a7 a8 a9 a10 a11) (laws_FnExactRoom.f (k + 1) a0 a1 a2 a3 a4 a5 a6 a7 a8 a9 a10 a11) := by
 intro a0 a1 a2 a3 a4 a5 a6 a7 a8 a9 a10 a11 k
 unfold laws_FnExactRoom.f
 repeat' first
   | (with_reducible exact impl_Room.mono _ _ _ _ _ _ _ _ _ _ _ _ _)
   | (with_reducible exact laws_eqAcct.mono _ _ _ _ _ _ _ _ _ _ _ _ _ _ _ _ _ _ _ _ _ _ _)
   | (with_reducible exact laws_szAcct.mono _ _ _ _ _ _ _ _ _ _ _ _ _)
   | (with_reducible exact laws_toAcct.mono _ _ _ _ _ _ _ _ _ _ _ _)
   | (with_reducible exact spec_Room.mono _ _ _ _ _ _ _ _ _ _ _ _ _)
   | (with_reducible exact LeO.refl _)
   | (with_reducible exact LeO.none _)
   | (with_reducible refine LeO.ite ?_ ?_)
   | (with_reducible refine LeO.bind ?_ (fun _ => ?_))
   | exact impl_Room.mono _ _ _ _ _ _ _ _ _ _ _ _ _
   | exact laws_eqAcct.mono _ _ _ _ _ _ _ _ _ _ _ _ _ _ _ _ _ _ _ _ _ _ _
   | exact laws_szAcct.mono _ _ _ _ _ _ _ _ _ _ _ _ _
   | exact laws_toAcct.mono _ _ _ _ _ _ _ _ _ _ _ _
   | exact spec_Room.mono _ _ _ _ _ _ _ _ _ _ _ _ _
   | exact LeO.none _
   | refine LeO.ite ?_ ?_
   | refine LeO.bind ?_ (fun _ => ?_)
set_option maxHeartbeats 8000000 in
set_option maxRecDepth 100000 in
theorem laws_FnExactRoom.calls (k : Nat) (a0_0 : ByteArray) (a0_1 : Int) (a0_2 : Int) (a0_3 : Int) (a0_4 : Int) (A0_5 : Option Addr) (c0_5 : Nat) (l0_5 : List (S89)) (a0_6 : Int) (a0_7 : Int) (A0_8 : Option Addr) (c0_8 : Nat) (l0_8 : List Int) (A0_9 : Option Addr) (c0_9 : Nat) (l0_9 : List Int) (A0_10 : Option Addr) (c0_10 : Nat) (l0_10 : List (S70)) (a1 : Int) (r : Bool) (w : World) (hr0_5 : Kd.C k89 w A0_5 l0_5.length l0_5) (hc0_5 : l0_5.length ≤ c0_5) (hr0_8 : Kd.C (Kd.int .i64) w A0_8 l0_8.length l0_8) (hc0_8 : l0_8.length ≤ c0_8) (hr0_9 : Kd.C (Kd.int .i64) w A0_9 l0_9.length l0_9) (hc0_9 : l0_9.length ≤ c0_9) (hr0_10 : Kd.C k70 w A0_10 l0_10.length l0_10) (hc0_10 : l0_10.length ≤ c0_10) (h : laws_FnExactRoom.f k a0_0 a0_1 a0_2 a0_3 a0_4 l0_5 a0_6 a0_7 l0_8 l0_9 l0_10 a1 = some true) :
  Calls Try.prog 6 #[.agg #[.string a0_0, .int .i64 a0_1, .int .i64 a0_2, .int .i64 a0_3, .int .i64 a0_4, .slice A0_5 l0_5.length c0_5, .int .i64 a0_6, .int .i64 a0_7, .slice A0_8 l0_8.length c0_8, .slice A0_9 l0_9.length c0_9, .slice A0_10 l0_10.length c0_10], .int .i64 a1] w fun e w' => e = .returned (.bool true) ∧ Below w.heap.size w w' := by
 have hu37 := Try.underlying37
 have hu43 := Try.underlying43
 have HR0_5 := Aside0.mk hr0_5
 have HC0_5 := Aside0.mk hc0_5
 clear hr0_5 hc0_5
 have HR0_8 := Aside0.mk hr0_8
 have HC0_8 := Aside0.mk hc0_8
 clear hr0_8 hc0_8
 have HR0_9 := Aside0.mk hr0_9
 have HC0_9 := Aside0.mk hc0_9
 clear hr0_9 hc0_9
 have HR0_10 := Aside0.mk hr0_10
 have HC0_10 := Aside0.mk hc0_10
 clear hr0_10 hc0_10
 have HB := Aside0.mk (Below.refl w.heap.size w)
 have H : ((laws_szAcct.f k a0_0 a0_1 a0_2 a0_3 a0_4 l0_5 a0_6 a0_7 l0_8 l0_9 l0_10 1048576).bind fun t357 => (if t357 < 0 then (some true) else ((laws_toAcct.f k a0_0 a0_1 a0_2 a0_3 a0_4 l0_5 a0_6 a0_7 l0_8 l0_9 l0_10).bind fun bt358 => ((spec_Room.f k bt358.1 bt358.2.1 bt358.2.2.1 bt358.2.2.2.1 bt358.2.2.2.2.1 bt358.2.2.2.2.2.1 bt358.2.2.2.2.2.2.1 bt358.2.2.2.2.2.2.2.1 bt358.2.2.2.2.2.2.2.2.1 bt358.2.2.2.2.2.2.2.2.2.1 bt358.2.2.2.2.2.2.2.2.2.2 a1).bind fun t377 => ((laws_toAcct.f k a0_0 a0_1 a0_2 a0_3 a0_4 l0_5 a0_6 a0_7 l0_8 l0_9 l0_10).bind fun bt378 => ((impl_Room.f k bt378.1 bt378.2.1 bt378.2.2.1 bt378.2.2.2.1 bt378.2.2.2.2.1 bt378.2.2.2.2.2.1 bt378.2.2.2.2.2.2.1 bt378.2.2.2.2.2.2.2.1 bt378.2.2.2.2.2.2.2.2.1 bt378.2.2.2.2.2.2.2.2.2.1 bt378.2.2.2.2.2.2.2.2.2.2 a1).bind fun t398 => (if t398 = t377 then ((laws_toAcct.f k a0_0 a0_1 a0_2 a0_3 a0_4 l0_5 a0_6 a0_7 l0_8 l0_9 l0_10).bind fun bt399 => ((laws_eqAcct.f k bt378.1 bt378.2.1 bt378.2.2.1 bt378.2.2.2.1 bt378.2.2.2.2.1 bt378.2.2.2.2.2.1 bt378.2.2.2.2.2.2.1 bt378.2.2.2.2.2.2.2.1 bt378.2.2.2.2.2.2.2.2.1 bt378.2.2.2.2.2.2.2.2.2.1 bt378.2.2.2.2.2.2.2.2.2.2 bt399.1 bt399.2.1 bt399.2.2.1 bt399.2.2.2.1 bt399.2.2.2.2.1 bt399.2.2.2.2.2.1 bt399.2.2.2.2.2.2.1 bt399.2.2.2.2.2.2.2.1 bt399.2.2.2.2.2.2.2.2.1 bt399.2.2.2.2.2.2.2.2.2.1 bt399.2.2.2.2.2.2.2.2.2.2).bind fun t418 => (if t418 = true then (some true) else (some false)))) else (some false)))))))) = some true := h
 clear h
 replace H := Option.bind_eq_some_iff.mp H
 obtain ⟨t357, A30, H⟩ := H
 replace H : (if t357 < 0 then (some true) else ((laws_toAcct.f k a0_0 a0_1 a0_2 a0_3 a0_4 l0_5 a0_6 a0_7 l0_8 l0_9 l0_10).bind fun bt358 => ((spec_Room.f k bt358.1 bt358.2.1 bt358.2.2.1 bt358.2.2.2.1 bt358.2.2.2.2.1 bt358.2.2.2.2.2.1 bt358.2.2.2.2.2.2.1 bt358.2.2.2.2.2.2.2.1 bt358.2.2.2.2.2.2.2.2.1 bt358.2.2.2.2.2.2.2.2.2.1 bt358.2.2.2.2.2.2.2.2.2.2 a1).bind fun t377 => ((laws_toAcct.f k a0_0 a0_1 a0_2 a0_3 a0_4 l0_5 a0_6 a0_7 l0_8 l0_9 l0_10).bind fun bt378 => ((impl_Room.f k bt378.1 bt378.2.1 bt378.2.2.1 bt378.2.2.2.1 bt378.2.2.2.2.1 bt378.2.2.2.2.2.1 bt378.2.2.2.2.2.2.1 bt378.2.2.2.2.2.2.2.1 bt378.2.2.2.2.2.2.2.2.1 bt378.2.2.2.2.2.2.2.2.2.1 bt378.2.2.2.2.2.2.2.2.2.2 a1).bind fun t398 => (if t398 = t377 then ((laws_toAcct.f k a0_0 a0_1 a0_2 a0_3 a0_4 l0_5 a0_6 a0_7 l0_8 l0_9 l0_10).bind fun bt399 => ((laws_eqAcct.f k bt378.1 bt378.2.1 bt378.2.2.1 bt378.2.2.2.1 bt378.2.2.2.2.1 bt378.2.2.2.2.2.1 bt378.2.2.2.2.2.2.1 bt378.2.2.2.2.2.2.2.1 bt378.2.2.2.2.2.2.2.2.1 bt378.2.2.2.2.2.2.2.2.2.1 bt378.2.2.2.2.2.2.2.2.2.2 bt399.1 bt399.2.1 bt399.2.2.1 bt399.2.2.2.1 bt399.2.2.2.2.1 bt399.2.2.2.2.2.1 bt399.2.2.2.2.2.2.1 bt399.2.2.2.2.2.2.2.1 bt399.2.2.2.2.2.2.2.2.1 bt399.2.2.2.2.2.2.2.2.2.1 bt399.2.2.2.2.2.2.2.2.2.2).bind fun t418 => (if t418 = true then (some true) else (some false)))) else (some false))))))) = some true := H
 have A3 := Aside0.mk A30
 clear A30
 by_cases c4 : t357 < 0
 ·rw [if_pos c4] at H
  have c4b0 : decide (t357 < 0) = true := decide_eq_true c4
  clear c4
  clear H
  go_enter Try.func6, Try.ntmps6
  go_wp2_with (first | ((with_reducible refine gate_dst (N := 2) rfl ?_); refine box_event ?hg (N := 2) ?hd (cs := #[.string a0_0, .int .i64 a0_1, .int .i64 a0_2, .int .i64 a0_3, .int .i64 a0_4, .slice A0_5 l0_5.length c0_5, .int .i64 a0_6, .int .i64 a0_7, .slice A0_8 l0_8.length c0_8, .slice A0_9 l0_9.length c0_9, .slice A0_10 l0_10.length c0_10]) (t := 37) ?hr ?_; (case hd => rfl); (case hg => rfl); (case hr => first | (go_simp; done) | (go_simp; rfl)); intro gb356 hg w5 hbox hb; have n0_ := Aside0.mk (below_step bl_ hb); have n1_ := Aside0.mk (hbox); have n2_ := gw_ (w := w) hg; have n3_ := gw_ (w := w) hg; clear HB; have HB := n0_; have BK356 := n1_; have GW356 := n2_; have GE356 := n3_; clear n0_ n1_ n2_ n3_; clear hb hbox hg; have hcz6_0 := cz_ BK356 0 (.string a0_0); have hcz6_1 := cz_ BK356 1 (.int .i64 a0_1); have hcz6_2 := cz_ BK356 2 (.int .i64 a0_2); have hcz6_3 := cz_ BK356 3 (.int .i64 a0_3); have hcz6_4 := cz_ BK356 4 (.int .i64 a0_4); have hcz6_5 := cz_ BK356 5 (.slice A0_5 l0_5.length c0_5); have hcz6_6 := cz_ BK356 6 (.int .i64 a0_6); have hcz6_7 := cz_ BK356 7 (.int .i64 a0_7); have hcz6_8 := cz_ BK356 8 (.slice A0_8 l0_8.length c0_8); have hcz6_9 := cz_ BK356 9 (.slice A0_9 l0_9.length c0_9); have hcz6_10 := cz_ BK356 10 (.slice A0_10 l0_10.length c0_10); have hfz6_0 := fz_ BK356 0; have hfz6_1 := fz_ BK356 1; have hfz6_2 := fz_ BK356 2; have hfz6_3 := fz_ BK356 3; have hfz6_4 := fz_ BK356 4; have hfz6_5 := fz_ BK356 5; have hfz6_6 := fz_ BK356 6; have hfz6_7 := fz_ BK356 7; have hfz6_8 := fz_ BK356 8; have hfz6_9 := fz_ BK356 9; have hfz6_10 := fz_ BK356 10) | ((with_reducible refine gate_callee (f := 26) rfl ?_); refine goesL_ (some 11) rfl rfl Try.func26 (by kernel_rfl) rfl #[.agg #[.string a0_0, .int .i64 a0_1, .int .i64 a0_2, .int .i64 a0_3, .int .i64 a0_4, .slice A0_5 l0_5.length c0_5, .int .i64 a0_6, .int .i64 a0_7, .slice A0_8 l0_8.length c0_8, .slice A0_9 l0_9.length c0_9, .slice A0_10 l0_10.length c0_10], .int .i64 1048576] rfl gl_ ?_; (with_reducible refine (laws_szAcct.calls k a0_0 a0_1 a0_2 a0_3 a0_4 _ _ l0_5 a0_6 a0_7 _ _ l0_8 _ _ l0_9 _ _ l0_10 1048576 t357 _ ?side1 ?side2 ?side3 ?side4 ?side5 ?side6 ?side7 ?side8 A3.out).mono ?_); (case side1 => exact ca_ (Kd.C_below HR0_5.out HB.out)); (case side2 => exact HC0_5.out); (case side3 => exact ca_ (Kd.C_below HR0_8.out HB.out)); (case side4 => exact HC0_8.out); (case side5 => exact ca_ (Kd.C_below HR0_9.out HB.out)); (case side6 => exact HC0_9.out); (case side7 => exact ca_ (Kd.C_below HR0_10.out HB.out)); (case side8 => exact HC0_10.out); rintro e w7 ⟨rfl, hb⟩; refine ⟨_, rfl, ?_⟩; have n0_ := Aside0.mk (blk_below (bk_ BK356) hb); have n1_ := Aside0.mk (below_step bl_ hb); clear BK356; clear HB; have BK356 := n0_; have HB := n1_; clear n0_ n1_; (try clear hb); (try clear hb2); (try clear hk); (try clear hi)))
  go_ret
  exact ⟨sq_, bl_⟩
 ·rw [if_neg c4] at H
  have c4b0 : decide (t357 < 0) = false := decide_eq_false c4
  clear c4
  replace H := Option.bind_eq_some_iff.mp H
  obtain ⟨⟨t358, t359, t360, t361, t362, t363, t366, t367, t368, t371, t374⟩, A80, H⟩ := H
  replace H : ((spec_Room.f k t358 t359 t360 t361 t362 t363 t366 t367 t368 t371 t374 a1).bind fun t377 => ((laws_toAcct.f k a0_0 a0_1 a0_2 a0_3 a0_4 l0_5 a0_6 a0_7 l0_8 l0_9 l0_10).bind fun bt378 => ((impl_Room.f k bt378.1 bt378.2.1 bt378.2.2.1 bt378.2.2.2.1 bt378.2.2.2.2.1 bt378.2.2.2.2.2.1 bt378.2.2.2.2.2.2.1 bt378.2.2.2.2.2.2.2.1 bt378.2.2.2.2.2.2.2.2.1 bt378.2.2.2.2.2.2.2.2.2.1 bt378.2.2.2.2.2.2.2.2.2.2 a1).bind fun t398 => (if t398 = t377 then ((laws_toAcct.f k a0_0 a0_1 a0_2 a0_3 a0_4 l0_5 a0_6 a0_7 l0_8 l0_9 l0_10).bind fun bt399 => ((laws_eqAcct.f k bt378.1 bt378.2.1 bt378.2.2.1 bt378.2.2.2.1 bt378.2.2.2.2.1 bt378.2.2.2.2.2.1 bt378.2.2.2.2.2.2.1 bt378.2.2.2.2.2.2.2.1 bt378.2.2.2.2.2.2.2.2.1 bt378.2.2.2.2.2.2.2.2.2.1 bt378.2.2.2.2.2.2.2.2.2.2 bt399.1 bt399.2.1 bt399.2.2.1 bt399.2.2.2.1 bt399.2.2.2.2.1 bt399.2.2.2.2.2.1 bt399.2.2.2.2.2.2.1 bt399.2.2.2.2.2.2.2.1 bt399.2.2.2.2.2.2.2.2.1 bt399.2.2.2.2.2.2.2.2.2.1 bt399.2.2.2.2.2.2.2.2.2.2).bind fun t418 => (if t418 = true then (some true) else (some false)))) else (some false))))) = some true := H
  have A8 := Aside0.mk A80
  clear A80
  replace H := Option.bind_eq_some_iff.mp H
  obtain ⟨t377, A90, H⟩ := H
  replace H : ((laws_toAcct.f k a0_0 a0_1 a0_2 a0_3 a0_4 l0_5 a0_6 a0_7 l0_8 l0_9 l0_10).bind fun bt378 => ((impl_Room.f k bt378.1 bt378.2.1 bt378.2.2.1 bt378.2.2.2.1 bt378.2.2.2.2.1 bt378.2.2.2.2.2.1 bt378.2.2.2.2.2.2.1 bt378.2.2.2.2.2.2.2.1 bt378.2.2.2.2.2.2.2.2.1 bt378.2.2.2.2.2.2.2.2.2.1 bt378.2.2.2.2.2.2.2.2.2.2 a1).bind fun t398 => (if t398 = t377 then ((laws_toAcct.f k a0_0 a0_1 a0_2 a0_3 a0_4 l0_5 a0_6 a0_7 l0_8 l0_9 l0_10).bind fun bt399 => ((laws_eqAcct.f k bt378.1 bt378.2.1 bt378.2.2.1 bt378.2.2.2.1 bt378.2.2.2.2.1 bt378.2.2.2.2.2.1 bt378.2.2.2.2.2.2.1 bt378.2.2.2.2.2.2.2.1 bt378.2.2.2.2.2.2.2.2.1 bt378.2.2.2.2.2.2.2.2.2.1 bt378.2.2.2.2.2.2.2.2.2.2 bt399.1 bt399.2.1 bt399.2.2.1 bt399.2.2.2.1 bt399.2.2.2.2.1 bt399.2.2.2.2.2.1 bt399.2.2.2.2.2.2.1 bt399.2.2.2.2.2.2.2.1 bt399.2.2.2.2.2.2.2.2.1 bt399.2.2.2.2.2.2.2.2.2.1 bt399.2.2.2.2.2.2.2.2.2.2).bind fun t418 => (if t418 = true then (some true) else (some false)))) else (some false)))) = some true := H
  have A9 := Aside0.mk A90
  clear A90
  replace H := Option.bind_eq_some_iff.mp H
  obtain ⟨⟨t378, t379, t380, t381, t382, t383, t386, t387, t388, t391, t394⟩, A100, H⟩ := H
  replace H : ((impl_Room.f k t378 t379 t380 t381 t382 t383 t386 t387 t388 t391 t394 a1).bind fun t398 => (if t398 = t377 then ((laws_toAcct.f k a0_0 a0_1 a0_2 a0_3 a0_4 l0_5 a0_6 a0_7 l0_8 l0_9 l0_10).bind fun bt399 => ((laws_eqAcct.f k t378 t379 t380 t381 t382 t383 t386 t387 t388 t391 t394 bt399.1 bt399.2.1 bt399.2.2.1 bt399.2.2.2.1 bt399.2.2.2.2.1 bt399.2.2.2.2.2.1 bt399.2.2.2.2.2.2.1 bt399.2.2.2.2.2.2.2.1 bt399.2.2.2.2.2.2.2.2.1 bt399.2.2.2.2.2.2.2.2.2.1 bt399.2.2.2.2.2.2.2.2.2.2).bind fun t418 => (if t418 = true then (some true) else (some false)))) else (some false))) = some true := H
  have A10 := Aside0.mk A100
  clear A100
  replace H := Option.bind_eq_some_iff.mp H
  obtain ⟨t398, A110, H⟩ := H
  replace H : (if t398 = t377 then ((laws_toAcct.f k a0_0 a0_1 a0_2 a0_3 a0_4 l0_5 a0_6 a0_7 l0_8 l0_9 l0_10).bind fun bt399 => ((laws_eqAcct.f k t378 t379 t380 t381 t382 t383 t386 t387 t388 t391 t394 bt399.1 bt399.2.1 bt399.2.2.1 bt399.2.2.2.1 bt399.2.2.2.2.1 bt399.2.2.2.2.2.1 bt399.2.2.2.2.2.2.1 bt399.2.2.2.2.2.2.2.1 bt399.2.2.2.2.2.2.2.2.1 bt399.2.2.2.2.2.2.2.2.2.1 bt399.2.2.2.2.2.2.2.2.2.2).bind fun t418 => (if t418 = true then (some true) else (some false)))) else (some false)) = some true := H
  have A11 := Aside0.mk A110
  clear A110
  by_cases c12 : t398 = t377
  ·rw [if_pos c12] at H
   have c12b0 : (t398 == t377) = true := beq_iff_eq.mpr c12
   have c12b1 : (t398 != t377) = false := bne_eq_false_iff_eq.mpr c12
   clear c12
   replace H := Option.bind_eq_some_iff.mp H
   obtain ⟨⟨t399, t400, t401, t402, t403, t404, t407, t408, t409, t412, t415⟩, A130, H⟩ := H
   replace H : ((laws_eqAcct.f k t378 t379 t380 t381 t382 t383 t386 t387 t388 t391 t394 t399 t400 t401 t402 t403 t404 t407 t408 t409 t412 t415).bind fun t418 => (if t418 = true then (some true) else (some false))) = some true := H
   have A13 := Aside0.mk A130
   clear A130
   replace H := Option.bind_eq_some_iff.mp H
   obtain ⟨t418, A140, H⟩ := H
   replace H : (if t418 = true then (some true) else (some false)) = some true := H
   have A14 := Aside0.mk A140
   clear A140
   by_cases c15 : t418 = true
   ·subst c15
    have H1 : (some true) = some true := rfl
    clear H
    have H := H1
    clear H1
    clear H
    go_enter Try.func6, Try.ntmps6
    try go_wp2_with (first | ((with_reducible refine gate_dst (N := 2) rfl ?_); refine box_event ?hg (N := 2) ?hd (cs := #[.string a0_0, .int .i64 a0_1, .int .i64 a0_2, .int .i64 a0_3, .int .i64 a0_4, .slice A0_5 l0_5.length c0_5, .int .i64 a0_6, .int .i64 a0_7, .slice A0_8 l0_8.length c0_8, .slice A0_9 l0_9.length c0_9, .slice A0_10 l0_10.length c0_10]) (t := 37) ?hr ?_; (case hd => rfl); (case hg => rfl); (case hr => first | (go_simp; done) | (go_simp; rfl)); intro gb356 hg w16 hbox hb; have n0_ := Aside0.mk (below_step bl_ hb); have n1_ := Aside0.mk (hbox); have n2_ := gw_ (w := w) hg; have n3_ := gw_ (w := w) hg; clear HB; have HB := n0_; have BK356 := n1_; have GW356 := n2_; have GE356 := n3_; clear n0_ n1_ n2_ n3_; clear hb hbox hg; have hcz17_0 := cz_ BK356 0 (.string a0_0); have hcz17_1 := cz_ BK356 1 (.int .i64 a0_1); have hcz17_2 := cz_ BK356 2 (.int .i64 a0_2); have hcz17_3 := cz_ BK356 3 (.int .i64 a0_3); have hcz17_4 := cz_ BK356 4 (.int .i64 a0_4); have hcz17_5 := cz_ BK356 5 (.slice A0_5 l0_5.length c0_5); have hcz17_6 := cz_ BK356 6 (.int .i64 a0_6); have hcz17_7 := cz_ BK356 7 (.int .i64 a0_7); have hcz17_8 := cz_ BK356 8 (.slice A0_8 l0_8.length c0_8); have hcz17_9 := cz_ BK356 9 (.slice A0_9 l0_9.length c0_9); have hcz17_10 := cz_ BK356 10 (.slice A0_10 l0_10.length c0_10); have hfz17_0 := fz_ BK356 0; have hfz17_1 := fz_ BK356 1; have hfz17_2 := fz_ BK356 2; have hfz17_3 := fz_ BK356 3; have hfz17_4 := fz_ BK356 4; have hfz17_5 := fz_ BK356 5; have hfz17_6 := fz_ BK356 6; have hfz17_7 := fz_ BK356 7; have hfz17_8 := fz_ BK356 8; have hfz17_9 := fz_ BK356 9; have hfz17_10 := fz_ BK356 10) | ((with_reducible refine gate_callee (f := 26) rfl ?_); refine goesL_ (some 11) rfl rfl Try.func26 (by kernel_rfl) rfl #[.agg #[.string a0_0, .int .i64 a0_1, .int .i64 a0_2, .int .i64 a0_3, .int .i64 a0_4, .slice A0_5 l0_5.length c0_5, .int .i64 a0_6, .int .i64 a0_7, .slice A0_8 l0_8.length c0_8, .slice A0_9 l0_9.length c0_9, .slice A0_10 l0_10.length c0_10], .int .i64 1048576] rfl gl_ ?_; (with_reducible refine (laws_szAcct.calls k a0_0 a0_1 a0_2 a0_3 a0_4 _ _ l0_5 a0_6 a0_7 _ _ l0_8 _ _ l0_9 _ _ l0_10 1048576 t357 _ ?side1 ?side2 ?side3 ?side4 ?side5 ?side6 ?side7 ?side8 A3.out).mono ?_); (case side1 => exact ca_ (Kd.C_below HR0_5.out HB.out)); (case side2 => exact HC0_5.out); (case side3 => exact ca_ (Kd.C_below HR0_8.out HB.out)); (case side4 => exact HC0_8.out); (case side5 => exact ca_ (Kd.C_below HR0_9.out HB.out)); (case side6 => exact HC0_9.out); (case side7 => exact ca_ (Kd.C_below HR0_10.out HB.out)); (case side8 => exact HC0_10.out); rintro e w18 ⟨rfl, hb⟩; refine ⟨_, rfl, ?_⟩; have n0_ := Aside0.mk (blk_below (bk_ BK356) hb); have n1_ := Aside0.mk (below_step bl_ hb); clear BK356; clear HB; have BK356 := n0_; have HB := n1_; clear n0_ n1_; (try clear hb); (try clear hb2); (try clear hk); (try clear hi); have hcz19_0 := cz_ BK356 0 (.string a0_0); have hcz19_1 := cz_ BK356 1 (.int .i64 a0_1); have hcz19_2 := cz_ BK356 2 (.int .i64 a0_2); have hcz19_3 := cz_ BK356 3 (.int .i64 a0_3); have hcz19_4 := cz_ BK356 4 (.int .i64 a0_4); have hcz19_5 := cz_ BK356 5 (.slice A0_5 l0_5.length c0_5); have hcz19_6 := cz_ BK356 6 (.int .i64 a0_6); have hcz19_7 := cz_ BK356 7 (.int .i64 a0_7); have hcz19_8 := cz_ BK356 8 (.slice A0_8 l0_8.length c0_8); have hcz19_9 := cz_ BK356 9 (.slice A0_9 l0_9.length c0_9); have hcz19_10 := cz_ BK356 10 (.slice A0_10 l0_10.length c0_10); have hfz19_0 := fz_ BK356 0; have hfz19_1 := fz_ BK356 1; have hfz19_2 := fz_ BK356 2; have hfz19_3 := fz_ BK356 3; have hfz19_4 := fz_ BK356 4; have hfz19_5 := fz_ BK356 5; have hfz19_6 := fz_ BK356 6; have hfz19_7 := fz_ BK356 7; have hfz19_8 := fz_ BK356 8; have hfz19_9 := fz_ BK356 9; have hfz19_10 := fz_ BK356 10) | ((with_reducible refine gate_callee (f := 28) rfl ?_); refine goesL_ (some 15) rfl rfl Try.func28 (by kernel_rfl) rfl #[.agg #[.string a0_0, .int .i64 a0_1, .int .i64 a0_2, .int .i64 a0_3, .int .i64 a0_4, .slice A0_5 l0_5.length c0_5, .int .i64 a0_6, .int .i64 a0_7, .slice A0_8 l0_8.length c0_8, .slice A0_9 l0_9.length c0_9, .slice A0_10 l0_10.length c0_10]] rfl gl_ ?_; (with_reducible refine (laws_toAcct.calls k a0_0 a0_1 a0_2 a0_3 a0_4 _ _ l0_5 a0_6 a0_7 _ _ l0_8 _ _ l0_9 _ _ l0_10 t358 t359 t360 t361 t362 t363 t366 t367 t368 t371 t374 _ ?side1 ?side2 ?side3 ?side4 ?side5 ?side6 ?side7 ?side8 A8.out).mono ?_); (case side1 => exact ca_ (Kd.C_below HR0_5.out HB.out)); (case side2 => exact HC0_5.out); (case side3 => exact ca_ (Kd.C_below HR0_8.out HB.out)); (case side4 => exact HC0_8.out); (case side5 => exact ca_ (Kd.C_below HR0_9.out HB.out)); (case side6 => exact HC0_9.out); (case side7 => exact ca_ (Kd.C_below HR0_10.out HB.out)); (case side8 => exact HC0_10.out); rintro e w20 ⟨v364, v369, v372, v375, rfl, ho0, ho1, ho2, ho3, hb⟩; refine ⟨_, rfl, ?_⟩; have n0_ := Aside0.mk (Kd.R_lower ho0 (below_size bl_)); have n1_ := Aside0.mk (Kd.R_lower ho1 (below_size bl_)); have n2_ := Aside0.mk (Kd.R_lower ho2 (below_size bl_)); have n3_ := Aside0.mk (Kd.S_lower ho3 (below_size bl_)); have n4_ := Aside0.mk (blk_below (bk_ BK356) hb); have n5_ := Aside0.mk (below_step bl_ hb); clear BK356; clear HB; have HO365 := n0_; have HO370 := n1_; have HO373 := n2_; have HO376 := n3_; have BK356 := n4_; have HB := n5_; clear n0_ n1_ n2_ n3_ n4_ n5_; (try clear hb); (try clear hb2); (try clear hk); (try clear hi); (try clear ho0); (try clear ho1); (try clear ho2); (try clear ho3); obtain ⟨Ao21, co21, eo21⟩ := Kd.R_slice HO365.out; subst eo21; obtain ⟨Ao22, co22, eo22⟩ := Kd.R_slice HO370.out; subst eo22; obtain ⟨Ao23, co23, eo23⟩ := Kd.R_slice HO373.out; subst eo23; obtain ⟨Ao24, co24, eo24⟩ := Kd.S_slice HO376.out; subst eo24) | ((with_reducible refine gate_callee (f := 27) rfl ?_); refine goesL_ (some 17) rfl rfl Try.func27 (by kernel_rfl) rfl #[.agg #[.string t358, .int .i64 t359, .int .i64 t360, .int .i64 t361, .int .i64 t362, .slice Ao21 t363.length co21, .int .i64 t366, .int .i64 t367, .slice Ao22 t368.length co22, .slice Ao23 t371.length co23, .slice Ao24 t374.length co24], .int .i64 a1] rfl gl_ ?_; (with_reducible refine (spec_Room.calls k t358 t359 t360 t361 t362 _ _ t363 t366 t367 _ _ t368 _ _ t371 _ _ t374 a1 t377 _ ?side1 ?side2 ?side3 ?side4 ?side5 ?side6 ?side7 ?side8 A9.out).mono ?_); (case side1 => exact ca_ ((Kd.R_reads' HO365.out).2.2)); (case side2 => exact (Kd.R_reads' HO365.out).2.1); (case side3 => exact ca_ ((Kd.R_reads' HO370.out).2.2)); (case side4 => exact (Kd.R_reads' HO370.out).2.1); (case side5 => exact ca_ ((Kd.R_reads' HO373.out).2.2)); (case side6 => exact (Kd.R_reads' HO373.out).2.1); (case side7 => exact ca_ ((Kd.S_reads' HO376.out).2.2)); (case side8 => exact (Kd.S_reads' HO376.out).2.1); rintro e w25 ⟨rfl, hb⟩; refine ⟨_, rfl, ?_⟩; have n0_ := Aside0.mk (Kd.R_below (ra_ HO365) hb); have n1_ := Aside0.mk (Kd.R_below (ra_ HO370) hb); have n2_ := Aside0.mk (Kd.R_below (ra_ HO373) hb); have n3_ := Aside0.mk (Kd.S_below (by (with_reducible repeat (first | apply Kd.S_alloc | apply Kd.S_drewN | apply Kd.S_drew)); exact HO376.out) hb); have n4_ := Aside0.mk (blk_below (bk_ BK356) hb); have n5_ := Aside0.mk (below_step bl_ hb); clear HO365; clear HO370; clear HO373; clear HO376; clear BK356; clear HB; have HO365 := n0_; have HO370 := n1_; have HO373 := n2_; have HO376 := n3_; have BK356 := n4_; have HB := n5_; clear n0_ n1_ n2_ n3_ n4_ n5_; (try clear hb); (try clear hb2); (try clear hk); (try clear hi); have hcz26_0 := cz_ BK356 0 (.string a0_0); have hcz26_1 := cz_ BK356 1 (.int .i64 a0_1); have hcz26_2 := cz_ BK356 2 (.int .i64 a0_2); have hcz26_3 := cz_ BK356 3 (.int .i64 a0_3); have hcz26_4 := cz_ BK356 4 (.int .i64 a0_4); have hcz26_5 := cz_ BK356 5 (.slice A0_5 l0_5.length c0_5); have hcz26_6 := cz_ BK356 6 (.int .i64 a0_6); have hcz26_7 := cz_ BK356 7 (.int .i64 a0_7); have hcz26_8 := cz_ BK356 8 (.slice A0_8 l0_8.length c0_8); have hcz26_9 := cz_ BK356 9 (.slice A0_9 l0_9.length c0_9); have hcz26_10 := cz_ BK356 10 (.slice A0_10 l0_10.length c0_10); have hfz26_0 := fz_ BK356 0; have hfz26_1 := fz_ BK356 1; have hfz26_2 := fz_ BK356 2; have hfz26_3 := fz_ BK356 3; have hfz26_4 := fz_ BK356 4; have hfz26_5 := fz_ BK356 5; have hfz26_6 := fz_ BK356 6; have hfz26_7 := fz_ BK356 7; have hfz26_8 := fz_ BK356 8; have hfz26_9 := fz_ BK356 9; have hfz26_10 := fz_ BK356 10) | ((with_reducible refine gate_callee (f := 28) rfl ?_); refine goesL_ (some 19) rfl rfl Try.func28 (by kernel_rfl) rfl #[.agg #[.string a0_0, .int .i64 a0_1, .int .i64 a0_2, .int .i64 a0_3, .int .i64 a0_4, .slice A0_5 l0_5.length c0_5, .int .i64 a0_6, .int .i64 a0_7, .slice A0_8 l0_8.length c0_8, .slice A0_9 l0_9.length c0_9, .slice A0_10 l0_10.length c0_10]] rfl gl_ ?_; (with_reducible refine (laws_toAcct.calls k a0_0 a0_1 a0_2 a0_3 a0_4 _ _ l0_5 a0_6 a0_7 _ _ l0_8 _ _ l0_9 _ _ l0_10 t378 t379 t380 t381 t382 t383 t386 t387 t388 t391 t394 _ ?side1 ?side2 ?side3 ?side4 ?side5 ?side6 ?side7 ?side8 A10.out).mono ?_); (case side1 => exact ca_ (Kd.C_below HR0_5.out HB.out)); (case side2 => exact HC0_5.out); (case side3 => exact ca_ (Kd.C_below HR0_8.out HB.out)); (case side4 => exact HC0_8.out); (case side5 => exact ca_ (Kd.C_below HR0_9.out HB.out)); (case side6 => exact HC0_9.out); (case side7 => exact ca_ (Kd.C_below HR0_10.out HB.out)); (case side8 => exact HC0_10.out); rintro e w27 ⟨v384, v389, v392, v395, rfl, ho0, ho1, ho2, ho3, hb⟩; refine ⟨_, rfl, ?_⟩; have n0_ := Aside0.mk (Kd.R_elder' (ra_ HO365) (Kd.R_base ho0) hb); have n1_ := Aside0.mk (Kd.R_mono (Kd.R_told (Kd.R_told (Kd.R_old (ra_ HO370) hb) (Kd.R_base ho1)) (Kd.R_base ho2)) (fun _ h_ => h_.1)); have n2_ := Aside0.mk (Kd.R_mono (Kd.R_told (Kd.R_told (Kd.R_old (ra_ HO373) hb) (Kd.R_base ho1)) (Kd.R_base ho2)) (fun _ h_ => h_.1)); have n3_ := Aside0.mk (Kd.S_elder' (by (with_reducible repeat (first | apply Kd.S_alloc | apply Kd.S_drewN | apply Kd.S_drew)); exact HO376.out) (Kd.S_base ho3) hb); have n4_ := Aside0.mk (Kd.R_lower (Kd.R_new' ho0 (Kd.R_lt (ra_ HO365))) (below_size bl_)); have n5_ := Aside0.mk (Kd.R_lower (Kd.R_new' (Kd.R_new' ho1 (Kd.R_lt (ra_ HO370))) (Kd.R_lt (ra_ HO373))) (below_size bl_)); have n6_ := Aside0.mk (Kd.R_lower (Kd.R_new' (Kd.R_new' ho2 (Kd.R_lt (ra_ HO370))) (Kd.R_lt (ra_ HO373))) (below_size bl_)); have n7_ := Aside0.mk (Kd.S_lower (Kd.S_new' ho3 (Kd.S_lt (by (with_reducible repeat (first | apply Kd.S_alloc | apply Kd.S_drewN | apply Kd.S_drew)); exact HO376.out))) (below_size bl_)); have n8_ := Aside0.mk (blk_below (bk_ BK356) hb); have n9_ := Aside0.mk (below_step bl_ hb); clear HO365; clear HO370; clear HO373; clear HO376; clear BK356; clear HB; have HO365 := n0_; have HO370 := n1_; have HO373 := n2_; have HO376 := n3_; have HO385 := n4_; have HO390 := n5_; have HO393 := n6_; have HO396 := n7_; have BK356 := n8_; have HB := n9_; clear n0_ n1_ n2_ n3_ n4_ n5_ n6_ n7_ n8_ n9_; (try clear hb); (try clear hb2); (try clear hk); (try clear hi); (try clear ho0); (try clear ho1); (try clear ho2); (try clear ho3)) | ((with_reducible refine gate_dst (N := 7) rfl ?_); refine box_event ?hg (N := 7) ?hd (cs := #[.string (⟨#[]⟩ : ByteArray), .int .i64 0, .int .i64 0, .int .i64 0, .int .i64 0, .slice none 0 0, .int .i64 0, .int .i64 0, .slice none 0 0, .slice none 0 0, .slice none 0 0]) (t := 43) ?hr ?_; (case hd => rfl); (case hg => rfl); (case hr => first | (go_simp; done) | (go_simp; rfl)); intro gb397 hg w28 hbox hb; have n0_ := Aside0.mk (Kd.R_below (ra_ HO365) hb); have n1_ := Aside0.mk (Kd.R_below (ra_ HO370) hb); have n2_ := Aside0.mk (Kd.R_below (ra_ HO373) hb); have n3_ := Aside0.mk (Kd.S_below (by (with_reducible repeat (first | apply Kd.S_alloc | apply Kd.S_drewN | apply Kd.S_drew)); exact HO376.out) hb); have n4_ := Aside0.mk (Kd.R_below (ra_ HO385) hb); have n5_ := Aside0.mk (Kd.R_below (ra_ HO390) hb); have n6_ := Aside0.mk (Kd.R_below (ra_ HO393) hb); have n7_ := Aside0.mk (Kd.S_below (by (with_reducible repeat (first | apply Kd.S_alloc | apply Kd.S_drewN | apply Kd.S_drew)); exact HO396.out) hb); have n8_ := Aside0.mk (blk_below (bk_ BK356) hb); have n9_ := Aside0.mk (below_step bl_ hb); have n10_ := Aside0.mk (hbox); have n11_ := gw_ (w := w) hg; have n12_ := gw_ (w := w) hg; have n13_ := Aside0.mk ((by rw [hg]; exact Nat.ne_of_lt (blk_lt (bk_ BK356)) : gb356 ≠ gb397)); have n14_ := Aside0.mk ((by rw [hg]; exact Nat.ne_of_gt (blk_lt (bk_ BK356)) : gb397 ≠ gb356)); clear HO365; clear HO370; clear HO373; clear HO376; clear HO385; clear HO390; clear HO393; clear HO396; clear BK356; clear HB; have HO365 := n0_; have HO370 := n1_; have HO373 := n2_; have HO376 := n3_; have HO385 := n4_; have HO390 := n5_; have HO393 := n6_; have HO396 := n7_; have BK356 := n8_; have HB := n9_; have BK397 := n10_; have GW397 := n11_; have GE397 := n12_; have NB356_397 := n13_; have NB397_356 := n14_; clear n0_ n1_ n2_ n3_ n4_ n5_ n6_ n7_ n8_ n9_ n10_ n11_ n12_ n13_ n14_; clear hb hbox hg; have hnb29 := NB397_356.out; have hnc29 := NB356_397.out; have hcz30_0 := cz_ BK397 0 (.string (⟨#[]⟩ : ByteArray)); have hcz30_1 := cz_ BK397 1 (.int .i64 0); have hcz30_2 := cz_ BK397 2 (.int .i64 0); have hcz30_3 := cz_ BK397 3 (.int .i64 0); have hcz30_4 := cz_ BK397 4 (.int .i64 0); have hcz30_5 := cz_ BK397 5 (.slice none 0 0); have hcz30_6 := cz_ BK397 6 (.int .i64 0); have hcz30_7 := cz_ BK397 7 (.int .i64 0); have hcz30_8 := cz_ BK397 8 (.slice none 0 0); have hcz30_9 := cz_ BK397 9 (.slice none 0 0); have hcz30_10 := cz_ BK397 10 (.slice none 0 0); have hfz30_0 := fz_ BK397 0; have hfz30_1 := fz_ BK397 1; have hfz30_2 := fz_ BK397 2; have hfz30_3 := fz_ BK397 3; have hfz30_4 := fz_ BK397 4; have hfz30_5 := fz_ BK397 5; have hfz30_6 := fz_ BK397 6; have hfz30_7 := fz_ BK397 7; have hfz30_8 := fz_ BK397 8; have hfz30_9 := fz_ BK397 9; have hfz30_10 := fz_ BK397 10; obtain ⟨Ao31, co31, eo31⟩ := Kd.R_slice HO385.out; subst eo31; obtain ⟨Ao32, co32, eo32⟩ := Kd.R_slice HO390.out; subst eo32; obtain ⟨Ao33, co33, eo33⟩ := Kd.R_slice HO393.out; subst eo33; obtain ⟨Ao34, co34, eo34⟩ := Kd.S_slice HO396.out; subst eo34) | ((with_reducible refine gate_callee (f := 29) rfl ?_); refine goesL_ (some 22) rfl rfl Try.func29 (by kernel_rfl) rfl #[.agg #[.string t378, .int .i64 t379, .int .i64 t380, .int .i64 t381, .int .i64 t382, .slice Ao31 t383.length co31, .int .i64 t386, .int .i64 t387, .slice Ao32 t388.length co32, .slice Ao33 t391.length co33, .slice Ao34 t394.length co34], .int .i64 a1] rfl gl_ ?_; (with_reducible refine (impl_Room.calls k t378 t379 t380 t381 t382 _ _ t383 t386 t387 _ _ t388 _ _ t391 _ _ t394 a1 t398 _ ?side1 ?side2 ?side3 ?side4 ?side5 ?side6 ?side7 ?side8 A11.out).mono ?_); (case side1 => refine (Kd.R_reads' (e := 93) (base := w.heap.size) (ok := fun k_ => (True ∧ some k_ ≠ (.slice Ao21 t363.length co21 : Value).ownBlock)) (n := t383.length) (c := co31) ?_).2.2; exact (by (with_reducible repeat (first | apply Kd.R_alloc | apply Kd.R_drewN | apply Kd.R_drew)); exact (Kd.R_mono (Kd.R_far (p := ⟨gb397, 10, none⟩) (Kd.R_far (p := ⟨gb397, 9, none⟩) (Kd.R_far (p := ⟨gb397, 8, none⟩) (Kd.R_far (p := ⟨gb397, 7, none⟩) (Kd.R_far (p := ⟨gb397, 6, none⟩) (Kd.R_far (p := ⟨gb397, 5, none⟩) (Kd.R_far (p := ⟨gb397, 4, none⟩) (Kd.R_far (p := ⟨gb397, 3, none⟩) (Kd.R_far (p := ⟨gb397, 2, none⟩) (Kd.R_far (p := ⟨gb397, 1, none⟩) (Kd.R_far (p := ⟨gb397, 0, none⟩) (Kd.R_types HO385.out BK397.out (by decide)) (fun _ hk => hk.2) (.string t378)) (fun _ hk => hk.2) (.int .i64 t379)) (fun _ hk => hk.2) (.int .i64 t380)) (fun _ hk => hk.2) (.int .i64 t381)) (fun _ hk => hk.2) (.int .i64 t382)) (fun _ hk => hk.2) (.slice Ao31 t383.length co31)) (fun _ hk => hk.2) (.int .i64 t386)) (fun _ hk => hk.2) (.int .i64 t387)) (fun _ hk => hk.2) (.slice Ao32 t388.length co32)) (fun _ hk => hk.2) (.slice Ao33 t391.length co33)) (fun _ hk => hk.2) (.slice Ao34 t394.length co34)) (fun _ h_ => h_.1)))); (case side2 => exact (Kd.R_reads' HO385.out).2.1); (case side3 => refine (Kd.R_reads' (e := 3) (base := w.heap.size) (ok := fun k_ => ((some k_ ≠ (.slice Ao33 t391.length co33 : Value).ownBlock ∧ some k_ ≠ (.slice Ao22 t368.length co22 : Value).ownBlock) ∧ some k_ ≠ (.slice Ao23 t371.length co23 : Value).ownBlock)) (n := t388.length) (c := co32) ?_).2.2; exact (by (with_reducible repeat (first | apply Kd.R_alloc | apply Kd.R_drewN | apply Kd.R_drew)); exact (Kd.R_mono (Kd.R_far (p := ⟨gb397, 10, none⟩) (Kd.R_far (p := ⟨gb397, 9, none⟩) (Kd.R_far (p := ⟨gb397, 8, none⟩) (Kd.R_far (p := ⟨gb397, 7, none⟩) (Kd.R_far (p := ⟨gb397, 6, none⟩) (Kd.R_far (p := ⟨gb397, 5, none⟩) (Kd.R_far (p := ⟨gb397, 4, none⟩) (Kd.R_far (p := ⟨gb397, 3, none⟩) (Kd.R_far (p := ⟨gb397, 2, none⟩) (Kd.R_far (p := ⟨gb397, 1, none⟩) (Kd.R_far (p := ⟨gb397, 0, none⟩) (Kd.R_types HO390.out BK397.out (by decide)) (fun _ hk => hk.2) (.string t378)) (fun _ hk => hk.2) (.int .i64 t379)) (fun _ hk => hk.2) (.int .i64 t380)) (fun _ hk => hk.2) (.int .i64 t381)) (fun _ hk => hk.2) (.int .i64 t382)) (fun _ hk => hk.2) (.slice Ao31 t383.length co31)) (fun _ hk => hk.2) (.int .i64 t386)) (fun _ hk => hk.2) (.int .i64 t387)) (fun _ hk => hk.2) (.slice Ao32 t388.length co32)) (fun _ hk => hk.2) (.slice Ao33 t391.length co33)) (fun _ hk => hk.2) (.slice Ao34 t394.length co34)) (fun _ h_ => h_.1)))); (case side4 => exact (Kd.R_reads' HO390.out).2.1); (case side5 => refine (Kd.R_reads' (e := 3) (base := w.heap.size) (ok := fun k_ => ((some k_ ≠ (.slice Ao32 t388.length co32 : Value).ownBlock ∧ some k_ ≠ (.slice Ao22 t368.length co22 : Value).ownBlock) ∧ some k_ ≠ (.slice Ao23 t371.length co23 : Value).ownBlock)) (n := t391.length) (c := co33) ?_).2.2; exact (by (with_reducible repeat (first | apply Kd.R_alloc | apply Kd.R_drewN | apply Kd.R_drew)); exact (Kd.R_mono (Kd.R_far (p := ⟨gb397, 10, none⟩) (Kd.R_far (p := ⟨gb397, 9, none⟩) (Kd.R_far (p := ⟨gb397, 8, none⟩) (Kd.R_far (p := ⟨gb397, 7, none⟩) (Kd.R_far (p := ⟨gb397, 6, none⟩) (Kd.R_far (p := ⟨gb397, 5, none⟩) (Kd.R_far (p := ⟨gb397, 4, none⟩) (Kd.R_far (p := ⟨gb397, 3, none⟩) (Kd.R_far (p := ⟨gb397, 2, none⟩) (Kd.R_far (p := ⟨gb397, 1, none⟩) (Kd.R_far (p := ⟨gb397, 0, none⟩) (Kd.R_types HO393.out BK397.out (by decide)) (fun _ hk => hk.2) (.string t378)) (fun _ hk => hk.2) (.int .i64 t379)) (fun _ hk => hk.2) (.int .i64 t380)) (fun _ hk => hk.2) (.int .i64 t381)) (fun _ hk => hk.2) (.int .i64 t382)) (fun _ hk => hk.2) (.slice Ao31 t383.length co31)) (fun _ hk => hk.2) (.int .i64 t386)) (fun _ hk => hk.2) (.int .i64 t387)) (fun _ hk => hk.2) (.slice Ao32 t388.length co32)) (fun _ hk => hk.2) (.slice Ao33 t391.length co33)) (fun _ hk => hk.2) (.slice Ao34 t394.length co34)) (fun _ h_ => h_.1)))); (case side6 => exact (Kd.R_reads' HO393.out).2.1); (case side7 => refine (Kd.S_reads' (e := 74) (base := w.heap.size) (ok := fun k_ => (True ∧ some k_ ≠ (.slice Ao24 t374.length co24 : Value).ownBlock)) (n := t394.length) (c := co34) ?_).2.2; exact (by (with_reducible repeat (first | apply Kd.S_alloc | apply Kd.S_drewN | apply Kd.S_drew)); exact (Kd.S_mono (Kd.S_far (p := ⟨gb397, 10, none⟩) (Kd.S_far (p := ⟨gb397, 9, none⟩) (Kd.S_far (p := ⟨gb397, 8, none⟩) (Kd.S_far (p := ⟨gb397, 7, none⟩) (Kd.S_far (p := ⟨gb397, 6, none⟩) (Kd.S_far (p := ⟨gb397, 5, none⟩) (Kd.S_far (p := ⟨gb397, 4, none⟩) (Kd.S_far (p := ⟨gb397, 3, none⟩) (Kd.S_far (p := ⟨gb397, 2, none⟩) (Kd.S_far (p := ⟨gb397, 1, none⟩) (Kd.S_far (p := ⟨gb397, 0, none⟩) (Kd.S_types HO396.out BK397.out (by decide)) (fun _ hk => hk.2) (.string t378)) (fun _ hk => hk.2) (.int .i64 t379)) (fun _ hk => hk.2) (.int .i64 t380)) (fun _ hk => hk.2) (.int .i64 t381)) (fun _ hk => hk.2) (.int .i64 t382)) (fun _ hk => hk.2) (.slice Ao31 t383.length co31)) (fun _ hk => hk.2) (.int .i64 t386)) (fun _ hk => hk.2) (.int .i64 t387)) (fun _ hk => hk.2) (.slice Ao32 t388.length co32)) (fun _ hk => hk.2) (.slice Ao33 t391.length co33)) (fun _ hk => hk.2) (.slice Ao34 t394.length co34)) (fun _ h_ => h_.1)))); (case side8 => exact (Kd.S_reads' HO396.out).2.1); rintro e w35 ⟨rfl, hb⟩; refine ⟨_, rfl, ?_⟩; have n0_ := Aside0.mk (Kd.R_below (by (with_reducible repeat (first | apply Kd.R_alloc | apply Kd.R_drewN | apply Kd.R_drew)); exact (Kd.R_mono (Kd.R_far (p := ⟨gb397, 10, none⟩) (Kd.R_far (p := ⟨gb397, 9, none⟩) (Kd.R_far (p := ⟨gb397, 8, none⟩) (Kd.R_far (p := ⟨gb397, 7, none⟩) (Kd.R_far (p := ⟨gb397, 6, none⟩) (Kd.R_far (p := ⟨gb397, 5, none⟩) (Kd.R_far (p := ⟨gb397, 4, none⟩) (Kd.R_far (p := ⟨gb397, 3, none⟩) (Kd.R_far (p := ⟨gb397, 2, none⟩) (Kd.R_far (p := ⟨gb397, 1, none⟩) (Kd.R_far (p := ⟨gb397, 0, none⟩) (Kd.R_types HO365.out BK397.out (by decide)) (fun _ hk => hk.2) (.string t378)) (fun _ hk => hk.2) (.int .i64 t379)) (fun _ hk => hk.2) (.int .i64 t380)) (fun _ hk => hk.2) (.int .i64 t381)) (fun _ hk => hk.2) (.int .i64 t382)) (fun _ hk => hk.2) (.slice Ao31 t383.length co31)) (fun _ hk => hk.2) (.int .i64 t386)) (fun _ hk => hk.2) (.int .i64 t387)) (fun _ hk => hk.2) (.slice Ao32 t388.length co32)) (fun _ hk => hk.2) (.slice Ao33 t391.length co33)) (fun _ hk => hk.2) (.slice Ao34 t394.length co34)) (fun _ h_ => h_.1))) hb); have n1_ := Aside0.mk (Kd.R_below (by (with_reducible repeat (first | apply Kd.R_alloc | apply Kd.R_drewN | apply Kd.R_drew)); exact (Kd.R_mono (Kd.R_far (p := ⟨gb397, 10, none⟩) (Kd.R_far (p := ⟨gb397, 9, none⟩) (Kd.R_far (p := ⟨gb397, 8, none⟩) (Kd.R_far (p := ⟨gb397, 7, none⟩) (Kd.R_far (p := ⟨gb397, 6, none⟩) (Kd.R_far (p := ⟨gb397, 5, none⟩) (Kd.R_far (p := ⟨gb397, 4, none⟩) (Kd.R_far (p := ⟨gb397, 3, none⟩) (Kd.R_far (p := ⟨gb397, 2, none⟩) (Kd.R_far (p := ⟨gb397, 1, none⟩) (Kd.R_far (p := ⟨gb397, 0, none⟩) (Kd.R_types HO370.out BK397.out (by decide)) (fun _ hk => hk.2) (.string t378)) (fun _ hk => hk.2) (.int .i64 t379)) (fun _ hk => hk.2) (.int .i64 t380)) (fun _ hk => hk.2) (.int .i64 t381)) (fun _ hk => hk.2) (.int .i64 t382)) (fun _ hk => hk.2) (.slice Ao31 t383.length co31)) (fun _ hk => hk.2) (.int .i64 t386)) (fun _ hk => hk.2) (.int .i64 t387)) (fun _ hk => hk.2) (.slice Ao32 t388.length co32)) (fun _ hk => hk.2) (.slice Ao33 t391.length co33)) (fun _ hk => hk.2) (.slice Ao34 t394.length co34)) (fun _ h_ => h_.1))) hb); have n2_ := Aside0.mk (Kd.R_below (by (with_reducible repeat (first | apply Kd.R_alloc | apply Kd.R_drewN | apply Kd.R_drew)); exact (Kd.R_mono (Kd.R_far (p := ⟨gb397, 10, none⟩) (Kd.R_far (p := ⟨gb397, 9, none⟩) (Kd.R_far (p := ⟨gb397, 8, none⟩) (Kd.R_far (p := ⟨gb397, 7, none⟩) (Kd.R_far (p := ⟨gb397, 6, none⟩) (Kd.R_far (p := ⟨gb397, 5, none⟩) (Kd.R_far (p := ⟨gb397, 4, none⟩) (Kd.R_far (p := ⟨gb397, 3, none⟩) (Kd.R_far (p := ⟨gb397, 2, none⟩) (Kd.R_far (p := ⟨gb397, 1, none⟩) (Kd.R_far (p := ⟨gb397, 0, none⟩) (Kd.R_types HO373.out BK397.out (by decide)) (fun _ hk => hk.2) (.string t378)) (fun _ hk => hk.2) (.int .i64 t379)) (fun _ hk => hk.2) (.int .i64 t380)) (fun _ hk => hk.2) (.int .i64 t381)) (fun _ hk => hk.2) (.int .i64 t382)) (fun _ hk => hk.2) (.slice Ao31 t383.length co31)) (fun _ hk => hk.2) (.int .i64 t386)) (fun _ hk => hk.2) (.int .i64 t387)) (fun _ hk => hk.2) (.slice Ao32 t388.length co32)) (fun _ hk => hk.2) (.slice Ao33 t391.length co33)) (fun _ hk => hk.2) (.slice Ao34 t394.length co34)) (fun _ h_ => h_.1))) hb); have n3_ := Aside0.mk (Kd.S_below (by (with_reducible repeat (first | apply Kd.S_alloc | apply Kd.S_drewN | apply Kd.S_drew)); exact (Kd.S_mono (Kd.S_far (p := ⟨gb397, 10, none⟩) (Kd.S_far (p := ⟨gb397, 9, none⟩) (Kd.S_far (p := ⟨gb397, 8, none⟩) (Kd.S_far (p := ⟨gb397, 7, none⟩) (Kd.S_far (p := ⟨gb397, 6, none⟩) (Kd.S_far (p := ⟨gb397, 5, none⟩) (Kd.S_far (p := ⟨gb397, 4, none⟩) (Kd.S_far (p := ⟨gb397, 3, none⟩) (Kd.S_far (p := ⟨gb397, 2, none⟩) (Kd.S_far (p := ⟨gb397, 1, none⟩) (Kd.S_far (p := ⟨gb397, 0, none⟩) (Kd.S_types HO376.out BK397.out (by decide)) (fun _ hk => hk.2) (.string t378)) (fun _ hk => hk.2) (.int .i64 t379)) (fun _ hk => hk.2) (.int .i64 t380)) (fun _ hk => hk.2) (.int .i64 t381)) (fun _ hk => hk.2) (.int .i64 t382)) (fun _ hk => hk.2) (.slice Ao31 t383.length co31)) (fun _ hk => hk.2) (.int .i64 t386)) (fun _ hk => hk.2) (.int .i64 t387)) (fun _ hk => hk.2) (.slice Ao32 t388.length co32)) (fun _ hk => hk.2) (.slice Ao33 t391.length co33)) (fun _ hk => hk.2) (.slice Ao34 t394.length co34)) (fun _ h_ => h_.1))) hb); have n4_ := Aside0.mk (Kd.R_below (by (with_reducible repeat (first | apply Kd.R_alloc | apply Kd.R_drewN | apply Kd.R_drew)); exact (Kd.R_mono (Kd.R_far (p := ⟨gb397, 10, none⟩) (Kd.R_far (p := ⟨gb397, 9, none⟩) (Kd.R_far (p := ⟨gb397, 8, none⟩) (Kd.R_far (p := ⟨gb397, 7, none⟩) (Kd.R_far (p := ⟨gb397, 6, none⟩) (Kd.R_far (p := ⟨gb397, 5, none⟩) (Kd.R_far (p := ⟨gb397, 4, none⟩) (Kd.R_far (p := ⟨gb397, 3, none⟩) (Kd.R_far (p := ⟨gb397, 2, none⟩) (Kd.R_far (p := ⟨gb397, 1, none⟩) (Kd.R_far (p := ⟨gb397, 0, none⟩) (Kd.R_types HO385.out BK397.out (by decide)) (fun _ hk => hk.2) (.string t378)) (fun _ hk => hk.2) (.int .i64 t379)) (fun _ hk => hk.2) (.int .i64 t380)) (fun _ hk => hk.2) (.int .i64 t381)) (fun _ hk => hk.2) (.int .i64 t382)) (fun _ hk => hk.2) (.slice Ao31 t383.length co31)) (fun _ hk => hk.2) (.int .i64 t386)) (fun _ hk => hk.2) (.int .i64 t387)) (fun _ hk => hk.2) (.slice Ao32 t388.length co32)) (fun _ hk => hk.2) (.slice Ao33 t391.length co33)) (fun _ hk => hk.2) (.slice Ao34 t394.length co34)) (fun _ h_ => h_.1))) hb); have n5_ := Aside0.mk (Kd.R_below (by (with_reducible repeat (first | apply Kd.R_alloc | apply Kd.R_drewN | apply Kd.R_drew)); exact (Kd.R_mono (Kd.R_far (p := ⟨gb397, 10, none⟩) (Kd.R_far (p := ⟨gb397, 9, none⟩) (Kd.R_far (p := ⟨gb397, 8, none⟩) (Kd.R_far (p := ⟨gb397, 7, none⟩) (Kd.R_far (p := ⟨gb397, 6, none⟩) (Kd.R_far (p := ⟨gb397, 5, none⟩) (Kd.R_far (p := ⟨gb397, 4, none⟩) (Kd.R_far (p := ⟨gb397, 3, none⟩) (Kd.R_far (p := ⟨gb397, 2, none⟩) (Kd.R_far (p := ⟨gb397, 1, none⟩) (Kd.R_far (p := ⟨gb397, 0, none⟩) (Kd.R_types HO390.out BK397.out (by decide)) (fun _ hk => hk.2) (.string t378)) (fun _ hk => hk.2) (.int .i64 t379)) (fun _ hk => hk.2) (.int .i64 t380)) (fun _ hk => hk.2) (.int .i64 t381)) (fun _ hk => hk.2) (.int .i64 t382)) (fun _ hk => hk.2) (.slice Ao31 t383.length co31)) (fun _ hk => hk.2) (.int .i64 t386)) (fun _ hk => hk.2) (.int .i64 t387)) (fun _ hk => hk.2) (.slice Ao32 t388.length co32)) (fun _ hk => hk.2) (.slice Ao33 t391.length co33)) (fun _ hk => hk.2) (.slice Ao34 t394.length co34)) (fun _ h_ => h_.1))) hb); have n6_ := Aside0.mk (Kd.R_below (by (with_reducible repeat (first | apply Kd.R_alloc | apply Kd.R_drewN | apply Kd.R_drew)); exact (Kd.R_mono (Kd.R_far (p := ⟨gb397, 10, none⟩) (Kd.R_far (p := ⟨gb397, 9, none⟩) (Kd.R_far (p := ⟨gb397, 8, none⟩) (Kd.R_far (p := ⟨gb397, 7, none⟩) (Kd.R_far (p := ⟨gb397, 6, none⟩) (Kd.R_far (p := ⟨gb397, 5, none⟩) (Kd.R_far (p := ⟨gb397, 4, none⟩) (Kd.R_far (p := ⟨gb397, 3, none⟩) (Kd.R_far (p := ⟨gb397, 2, none⟩) (Kd.R_far (p := ⟨gb397, 1, none⟩) (Kd.R_far (p := ⟨gb397, 0, none⟩) (Kd.R_types HO393.out BK397.out (by decide)) (fun _ hk => hk.2) (.string t378)) (fun _ hk => hk.2) (.int .i64 t379)) (fun _ hk => hk.2) (.int .i64 t380)) (fun _ hk => hk.2) (.int .i64 t381)) (fun _ hk => hk.2) (.int .i64 t382)) (fun _ hk => hk.2) (.slice Ao31 t383.length co31)) (fun _ hk => hk.2) (.int .i64 t386)) (fun _ hk => hk.2) (.int .i64 t387)) (fun _ hk => hk.2) (.slice Ao32 t388.length co32)) (fun _ hk => hk.2) (.slice Ao33 t391.length co33)) (fun _ hk => hk.2) (.slice Ao34 t394.length co34)) (fun _ h_ => h_.1))) hb); have n7_ := Aside0.mk (Kd.S_below (by (with_reducible repeat (first | apply Kd.S_alloc | apply Kd.S_drewN | apply Kd.S_drew)); exact (Kd.S_mono (Kd.S_far (p := ⟨gb397, 10, none⟩) (Kd.S_far (p := ⟨gb397, 9, none⟩) (Kd.S_far (p := ⟨gb397, 8, none⟩) (Kd.S_far (p := ⟨gb397, 7, none⟩) (Kd.S_far (p := ⟨gb397, 6, none⟩) (Kd.S_far (p := ⟨gb397, 5, none⟩) (Kd.S_far (p := ⟨gb397, 4, none⟩) (Kd.S_far (p := ⟨gb397, 3, none⟩) (Kd.S_far (p := ⟨gb397, 2, none⟩) (Kd.S_far (p := ⟨gb397, 1, none⟩) (Kd.S_far (p := ⟨gb397, 0, none⟩) (Kd.S_types HO396.out BK397.out (by decide)) (fun _ hk => hk.2) (.string t378)) (fun _ hk => hk.2) (.int .i64 t379)) (fun _ hk => hk.2) (.int .i64 t380)) (fun _ hk => hk.2) (.int .i64 t381)) (fun _ hk => hk.2) (.int .i64 t382)) (fun _ hk => hk.2) (.slice Ao31 t383.length co31)) (fun _ hk => hk.2) (.int .i64 t386)) (fun _ hk => hk.2) (.int .i64 t387)) (fun _ hk => hk.2) (.slice Ao32 t388.length co32)) (fun _ hk => hk.2) (.slice Ao33 t391.length co33)) (fun _ hk => hk.2) (.slice Ao34 t394.length co34)) (fun _ h_ => h_.1))) hb); have n8_ := Aside0.mk (blk_below (g := gb356) (o := .cells #[.string a0_0, .int .i64 a0_1, .int .i64 a0_2, .int .i64 a0_3, .int .i64 a0_4, .slice A0_5 l0_5.length c0_5, .int .i64 a0_6, .int .i64 a0_7, .slice A0_8 l0_8.length c0_8, .slice A0_9 l0_9.length c0_9, .slice A0_10 l0_10.length c0_10] 37 (0, 0)) (by (with_reducible repeat (first | refine blk_drewN ?_ _ | refine blk_drew ?_ | refine blk_alloc ?_ _)); refine blk_far ?_ NB356_397.out _; (with_reducible repeat (first | refine blk_drewN ?_ _ | refine blk_drew ?_ | refine blk_alloc ?_ _)); refine blk_far ?_ NB356_397.out _; (with_reducible repeat (first | refine blk_drewN ?_ _ | refine blk_drew ?_ | refine blk_alloc ?_ _)); refine blk_far ?_ NB356_397.out _; (with_reducible repeat (first | refine blk_drewN ?_ _ | refine blk_drew ?_ | refine blk_alloc ?_ _)); refine blk_far ?_ NB356_397.out _; (with_reducible repeat (first | refine blk_drewN ?_ _ | refine blk_drew ?_ | refine blk_alloc ?_ _)); refine blk_far ?_ NB356_397.out _; (with_reducible repeat (first | refine blk_drewN ?_ _ | refine blk_drew ?_ | refine blk_alloc ?_ _)); refine blk_far ?_ NB356_397.out _; (with_reducible repeat (first | refine blk_drewN ?_ _ | refine blk_drew ?_ | refine blk_alloc ?_ _)); refine blk_far ?_ NB356_397.out _; (with_reducible repeat (first | refine blk_drewN ?_ _ | refine blk_drew ?_ | refine blk_alloc ?_ _)); refine blk_far ?_ NB356_397.out _; (with_reducible repeat (first | refine blk_drewN ?_ _ | refine blk_drew ?_ | refine blk_alloc ?_ _)); refine blk_far ?_ NB356_397.out _; (with_reducible repeat (first | refine blk_drewN ?_ _ | refine blk_drew ?_ | refine blk_alloc ?_ _)); refine blk_far ?_ NB356_397.out _; (with_reducible repeat (first | refine blk_drewN ?_ _ | refine blk_drew ?_ | refine blk_alloc ?_ _)); refine blk_far ?_ NB356_397.out _; (with_reducible repeat (first | refine blk_drewN ?_ _ | refine blk_drew ?_ | refine blk_alloc ?_ _)); exact BK356.out) hb); have n9_ := Aside0.mk (blk_below (g := gb397) (o := .cells #[.string t378, .int .i64 t379, .int .i64 t380, .int .i64 t381, .int .i64 t382, .slice Ao31 t383.length co31, .int .i64 t386, .int .i64 t387, .slice Ao32 t388.length co32, .slice Ao33 t391.length co33, .slice Ao34 t394.length co34] 43 (0, 0)) (by (with_reducible repeat (first | refine blk_drewN ?_ _ | refine blk_drew ?_ | refine blk_alloc ?_ _)); refine blk_put (cs := #[.string t378, .int .i64 t379, .int .i64 t380, .int .i64 t381, .int .i64 t382, .slice Ao31 t383.length co31, .int .i64 t386, .int .i64 t387, .slice Ao32 t388.length co32, .slice Ao33 t391.length co33, .slice none 0 0]) ?_ 10 _ rfl; refine blk_put (cs := #[.string t378, .int .i64 t379, .int .i64 t380, .int .i64 t381, .int .i64 t382, .slice Ao31 t383.length co31, .int .i64 t386, .int .i64 t387, .slice Ao32 t388.length co32, .slice none 0 0, .slice none 0 0]) ?_ 9 _ rfl; refine blk_put (cs := #[.string t378, .int .i64 t379, .int .i64 t380, .int .i64 t381, .int .i64 t382, .slice Ao31 t383.length co31, .int .i64 t386, .int .i64 t387, .slice none 0 0, .slice none 0 0, .slice none 0 0]) ?_ 8 _ rfl; refine blk_put (cs := #[.string t378, .int .i64 t379, .int .i64 t380, .int .i64 t381, .int .i64 t382, .slice Ao31 t383.length co31, .int .i64 t386, .int .i64 0, .slice none 0 0, .slice none 0 0, .slice none 0 0]) ?_ 7 _ rfl; refine blk_put (cs := #[.string t378, .int .i64 t379, .int .i64 t380, .int .i64 t381, .int .i64 t382, .slice Ao31 t383.length co31, .int .i64 0, .int .i64 0, .slice none 0 0, .slice none 0 0, .slice none 0 0]) ?_ 6 _ rfl; refine blk_put (cs := #[.string t378, .int .i64 t379, .int .i64 t380, .int .i64 t381, .int .i64 t382, .slice none 0 0, .int .i64 0, .int .i64 0, .slice none 0 0, .slice none 0 0, .slice none 0 0]) ?_ 5 _ rfl; refine blk_put (cs := #[.string t378, .int .i64 t379, .int .i64 t380, .int .i64 t381, .int .i64 0, .slice none 0 0, .int .i64 0, .int .i64 0, .slice none 0 0, .slice none 0 0, .slice none 0 0]) ?_ 4 _ rfl; refine blk_put (cs := #[.string t378, .int .i64 t379, .int .i64 t380, .int .i64 0, .int .i64 0, .slice none 0 0, .int .i64 0, .int .i64 0, .slice none 0 0, .slice none 0 0, .slice none 0 0]) ?_ 3 _ rfl; refine blk_put (cs := #[.string t378, .int .i64 t379, .int .i64 0, .int .i64 0, .int .i64 0, .slice none 0 0, .int .i64 0, .int .i64 0, .slice none 0 0, .slice none 0 0, .slice none 0 0]) ?_ 2 _ rfl; refine blk_put (cs := #[.string t378, .int .i64 0, .int .i64 0, .int .i64 0, .int .i64 0, .slice none 0 0, .int .i64 0, .int .i64 0, .slice none 0 0, .slice none 0 0, .slice none 0 0]) ?_ 1 _ rfl; refine blk_put (cs := #[.string (⟨#[]⟩ : ByteArray), .int .i64 0, .int .i64 0, .int .i64 0, .int .i64 0, .slice none 0 0, .int .i64 0, .int .i64 0, .slice none 0 0, .slice none 0 0, .slice none 0 0]) ?_ 0 _ rfl; (with_reducible repeat (first | refine blk_drewN ?_ _ | refine blk_drew ?_ | refine blk_alloc ?_ _)); exact BK397.out) hb); have n10_ := Aside0.mk (below_step bl_ hb); clear HO365; clear HO370; clear HO373; clear HO376; clear HO385; clear HO390; clear HO393; clear HO396; clear BK356; clear BK397; clear HB; have HO365 := n0_; have HO370 := n1_; have HO373 := n2_; have HO376 := n3_; have HO385 := n4_; have HO390 := n5_; have HO393 := n6_; have HO396 := n7_; have BK356 := n8_; have BK397 := n9_; have HB := n10_; clear n0_ n1_ n2_ n3_ n4_ n5_ n6_ n7_ n8_ n9_ n10_; (try clear hb); (try clear hb2); (try clear hk); (try clear hi)))
    have n0_ := Aside0.mk (Kd.R_drew HO365.out)
    have n1_ := Aside0.mk (Kd.R_drew HO370.out)
    have n2_ := Aside0.mk (Kd.R_drew HO373.out)
    have n3_ := Aside0.mk (Kd.S_drew HO376.out)
    have n4_ := Aside0.mk (Kd.R_drew HO385.out)
    have n5_ := Aside0.mk (Kd.R_drew HO390.out)
    have n6_ := Aside0.mk (Kd.R_drew HO393.out)
    have n7_ := Aside0.mk (Kd.S_drew HO396.out)
    have n8_ := Aside0.mk (blk_drew BK356.out)
    have n9_ := Aside0.mk (blk_drew BK397.out)
    have n10_ := Aside0.mk (below_drew1 HB.out)
    clear HO365
    clear HO370
    clear HO373
    clear HO376
    clear HO385
    clear HO390
    clear HO393
    clear HO396
    clear BK356
    clear BK397
    clear HB
    have HO365 := n0_
    have HO370 := n1_
    have HO373 := n2_
    have HO376 := n3_
    have HO385 := n4_
    have HO390 := n5_
    have HO393 := n6_
    have HO396 := n7_
    have BK356 := n8_
    have BK397 := n9_
    have HB := n10_
    clear n0_ n1_ n2_ n3_ n4_ n5_ n6_ n7_ n8_ n9_ n10_
    refine start_ (n := 5) (S := fun w' => w'.cell? ⟨gb397, 0, none⟩ = some (.string t378) ∧ w'.cell? ⟨gb397, 1, none⟩ = some (.int .i64 t379) ∧ w'.cell? ⟨gb397, 2, none⟩ = some (.int .i64 t380) ∧ w'.cell? ⟨gb397, 3, none⟩ = some (.int .i64 t381) ∧ w'.cell? ⟨gb397, 4, none⟩ = some (.int .i64 t382) ∧ w'.cell? ⟨gb397, 5, none⟩ = some (.slice Ao31 t383.length co31) ∧ w'.cell? ⟨gb397, 6, none⟩ = some (.int .i64 t386) ∧ w'.cell? ⟨gb397, 7, none⟩ = some (.int .i64 t387) ∧ w'.cell? ⟨gb397, 8, none⟩ = some (.slice Ao32 t388.length co32) ∧ w'.cell? ⟨gb397, 9, none⟩ = some (.slice Ao33 t391.length co33) ∧ w'.cell? ⟨gb397, 10, none⟩ = some (.slice Ao34 t394.length co34) ∧ w'.cell? ⟨gb356, 0, none⟩ = some (.string a0_0) ∧ w'.cell? ⟨gb356, 1, none⟩ = some (.int .i64 a0_1) ∧ w'.cell? ⟨gb356, 2, none⟩ = some (.int .i64 a0_2) ∧ w'.cell? ⟨gb356, 3, none⟩ = some (.int .i64 a0_3) ∧ w'.cell? ⟨gb356, 4, none⟩ = some (.int .i64 a0_4) ∧ w'.cell? ⟨gb356, 5, none⟩ = some (.slice A0_5 l0_5.length c0_5) ∧ w'.cell? ⟨gb356, 6, none⟩ = some (.int .i64 a0_6) ∧ w'.cell? ⟨gb356, 7, none⟩ = some (.int .i64 a0_7) ∧ w'.cell? ⟨gb356, 8, none⟩ = some (.slice A0_8 l0_8.length c0_8) ∧ w'.cell? ⟨gb356, 9, none⟩ = some (.slice A0_9 l0_9.length c0_9) ∧ w'.cell? ⟨gb356, 10, none⟩ = some (.slice A0_10 l0_10.length c0_10)) (ds := []) #[false, false, false, false, false] (by kernel_rfl) rfl rfl ⟨cy_ BK397 0, cy_ BK397 1, cy_ BK397 2, cy_ BK397 3, cy_ BK397 4, cy_ BK397 5, cy_ BK397 6, cy_ BK397 7, cy_ BK397 8, cy_ BK397 9, cy_ BK397 10, cy_ BK356 0, cy_ BK356 1, cy_ BK356 2, cy_ BK356 3, cy_ BK356 4, cy_ BK356 5, cy_ BK356 6, cy_ BK356 7, cy_ BK356 8, cy_ BK356 9, cy_ BK356 10⟩ (fun hHeld => ?_)
    generalize w35.drew = w36 at HO365 HO370 HO373 HO376 HO385 HO390 HO393 HO396 BK356 BK397 HB hHeld ⊢
    refine take_ (i := 0) (N := some 26) (v := ?_) (a' := ?_) #[true, false, false, false, false] rfl rfl (by kernel_rfl) (fun _ _ _ h => h) (Or.inl ⟨by rfl, ?_⟩) hHeld ?_ ?_
    rotate_left
    ·rintro w' ⟨s0, s1, s2, s3, s4, s5, s6, s7, s8, s9, s10, s11, s12, s13, s14, s15, s16, s17, s18, s19, s20, s21⟩
     go_simp
     with_reducible rfl
    rotate_left
    ·simp only [Act.put, q_]
     rfl
    refine take_ (i := 1) (N := some 27) (v := ?_) (a' := ?_) #[true, true, false, false, false] rfl rfl (by kernel_rfl) (fun _ _ _ h => h) (Or.inl ⟨by rfl, ?_⟩) hHeld ?_ ?_
    rotate_left
    ·rintro w' ⟨s0, s1, s2, s3, s4, s5, s6, s7, s8, s9, s10, s11, s12, s13, s14, s15, s16, s17, s18, s19, s20, s21⟩
     go_simp
     with_reducible rfl
    rotate_left
    ·simp only [Act.put, q_]
     rfl
    refine one_ (i := 2) (N := some 28) #[true, true, true, false, false] rfl rfl (by kernel_rfl) (by decide) (fun K hK => ?_)
    refine goes_ Try.func28 (by kernel_rfl) rfl #[.agg #[.string a0_0, .int .i64 a0_1, .int .i64 a0_2, .int .i64 a0_3, .int .i64 a0_4, .slice A0_5 l0_5.length c0_5, .int .i64 a0_6, .int .i64 a0_7, .slice A0_8 l0_8.length c0_8, .slice A0_9 l0_9.length c0_9, .slice A0_10 l0_10.length c0_10]] (by rfl) rfl rfl gl_ ?_
    with_reducible refine (laws_toAcct.calls k a0_0 a0_1 a0_2 a0_3 a0_4 _ _ l0_5 a0_6 a0_7 _ _ l0_8 _ _ l0_9 _ _ l0_10 t399 t400 t401 t402 t403 t404 t407 t408 t409 t412 t415 _ ?side1 ?side2 ?side3 ?side4 ?side5 ?side6 ?side7 ?side8 A13.out).mono ?_
    (case side1 => exact ca_ (Kd.C_below HR0_5.out HB.out))
    (case side2 => exact HC0_5.out)
    (case side3 => exact ca_ (Kd.C_below HR0_8.out HB.out))
    (case side4 => exact HC0_8.out)
    (case side5 => exact ca_ (Kd.C_below HR0_9.out HB.out))
    (case side6 => exact HC0_9.out)
    (case side7 => exact ca_ (Kd.C_below HR0_10.out HB.out))
    (case side8 => exact HC0_10.out)
    rintro e w37 ⟨v405, v410, v413, v416, rfl, ho0, ho1, ho2, ho3, hb⟩
    refine ⟨_, rfl, ?_⟩
    have n0_ := Aside0.mk (Kd.R_elder' (ra_ HO365) (Kd.R_base ho0) hb)
    have n1_ := Aside0.mk (Kd.R_mono (Kd.R_told (Kd.R_told (Kd.R_old (ra_ HO370) hb) (Kd.R_base ho1)) (Kd.R_base ho2)) (fun _ h_ => h_.1))
    have n2_ := Aside0.mk (Kd.R_mono (Kd.R_told (Kd.R_told (Kd.R_old (ra_ HO373) hb) (Kd.R_base ho1)) (Kd.R_base ho2)) (fun _ h_ => h_.1))
    have n3_ := Aside0.mk (Kd.S_elder' (by (with_reducible repeat (first | apply Kd.S_alloc | apply Kd.S_drewN | apply Kd.S_drew)); exact HO376.out) (Kd.S_base ho3) hb)
    have n4_ := Aside0.mk (Kd.R_elder' (ra_ HO385) (Kd.R_base ho0) hb)
    have n5_ := Aside0.mk (Kd.R_mono (Kd.R_told (Kd.R_told (Kd.R_old (ra_ HO390) hb) (Kd.R_base ho1)) (Kd.R_base ho2)) (fun _ h_ => h_.1))
    have n6_ := Aside0.mk (Kd.R_mono (Kd.R_told (Kd.R_told (Kd.R_old (ra_ HO393) hb) (Kd.R_base ho1)) (Kd.R_base ho2)) (fun _ h_ => h_.1))
    have n7_ := Aside0.mk (Kd.S_elder' (by (with_reducible repeat (first | apply Kd.S_alloc | apply Kd.S_drewN | apply Kd.S_drew)); exact HO396.out) (Kd.S_base ho3) hb)
    have n8_ := Aside0.mk (Kd.R_lower (Kd.R_new' (Kd.R_new' ho0 (Kd.R_lt (ra_ HO365))) (Kd.R_lt (ra_ HO385))) (below_size bl_))
    have n9_ := Aside0.mk (Kd.R_lower (Kd.R_new' (Kd.R_new' (Kd.R_new' (Kd.R_new' ho1 (Kd.R_lt (ra_ HO370))) (Kd.R_lt (ra_ HO373))) (Kd.R_lt (ra_ HO390))) (Kd.R_lt (ra_ HO393))) (below_size bl_))
    have n10_ := Aside0.mk (Kd.R_lower (Kd.R_new' (Kd.R_new' (Kd.R_new' (Kd.R_new' ho2 (Kd.R_lt (ra_ HO370))) (Kd.R_lt (ra_ HO373))) (Kd.R_lt (ra_ HO390))) (Kd.R_lt (ra_ HO393))) (below_size bl_))
    have n11_ := Aside0.mk (Kd.S_lower (Kd.S_new' (Kd.S_new' ho3 (Kd.S_lt (by (with_reducible repeat (first | apply Kd.S_alloc | apply Kd.S_drewN | apply Kd.S_drew)); exact HO376.out))) (Kd.S_lt (by (with_reducible repeat (first | apply Kd.S_alloc | apply Kd.S_drewN | apply Kd.S_drew)); exact HO396.out))) (below_size bl_))
    have n12_ := Aside0.mk (blk_below (bk_ BK356) hb)
    have n13_ := Aside0.mk (blk_below (bk_ BK397) hb)
    have n14_ := Aside0.mk (below_step bl_ hb)
    clear HO365
    clear HO370
    clear HO373
    clear HO376
    clear HO385
    clear HO390
    clear HO393
    clear HO396
    clear BK356
    clear BK397
    clear HB
    have HO365 := n0_
    have HO370 := n1_
    have HO373 := n2_
    have HO376 := n3_
    have HO385 := n4_
    have HO390 := n5_
    have HO393 := n6_
    have HO396 := n7_
    have HO406 := n8_
    have HO411 := n9_
    have HO414 := n10_
    have HO417 := n11_
    have BK356 := n12_
    have BK397 := n13_
    have HB := n14_
    clear n0_ n1_ n2_ n3_ n4_ n5_ n6_ n7_ n8_ n9_ n10_ n11_ n12_ n13_ n14_
    (try clear hb)
    (try clear hb2)
    (try clear hk)
    (try clear hi)
    (try clear ho0)
    (try clear ho1)
    (try clear ho2)
    (try clear ho3)
    obtain ⟨Ao38, co38, eo38⟩ := Kd.R_slice HO406.out
    (first | subst eo38 | (injection eo38 with f1_ f2_ f3_; have f4_ := f1_.symm; have f5_ := f3_.symm; clear f1_ f2_ f3_; subst f4_; subst f5_))
    obtain ⟨Ao39, co39, eo39⟩ := Kd.R_slice HO411.out
    (first | subst eo39 | (injection eo39 with f1_ f2_ f3_; have f4_ := f1_.symm; have f5_ := f3_.symm; clear f1_ f2_ f3_; subst f4_; subst f5_))
    obtain ⟨Ao40, co40, eo40⟩ := Kd.R_slice HO414.out
    (first | subst eo40 | (injection eo40 with f1_ f2_ f3_; have f4_ := f1_.symm; have f5_ := f3_.symm; clear f1_ f2_ f3_; subst f4_; subst f5_))
    obtain ⟨Ao41, co41, eo41⟩ := Kd.S_slice HO417.out
    (first | subst eo41 | (injection eo41 with f1_ f2_ f3_; have f4_ := f1_.symm; have f5_ := f3_.symm; clear f1_ f2_ f3_; subst f4_; subst f5_))
    refine hK.out _ _ ⟨cy_ BK397 0, cy_ BK397 1, cy_ BK397 2, cy_ BK397 3, cy_ BK397 4, cy_ BK397 5, cy_ BK397 6, cy_ BK397 7, cy_ BK397 8, cy_ BK397 9, cy_ BK397 10, cy_ BK356 0, cy_ BK356 1, cy_ BK356 2, cy_ BK356 3, cy_ BK356 4, cy_ BK356 5, cy_ BK356 6, cy_ BK356 7, cy_ BK356 8, cy_ BK356 9, cy_ BK356 10⟩ (fun hHeld => ?_)
    clear hK K
    refine norm_ (a' := ?_) ?_ ?_
    rotate_left
    ·show Act.put _ (some 28) _ = _
     simp only [Act.put, q_]
     rfl
    refine one_ (i := 3) (N := some 29) #[true, true, true, true, false] rfl rfl (by kernel_rfl) (by decide) (fun K hK => ?_)
    refine goes_ Try.func30 (by kernel_rfl) rfl #[.agg #[.string t378, .int .i64 t379, .int .i64 t380, .int .i64 t381, .int .i64 t382, .slice Ao31 t383.length co31, .int .i64 t386, .int .i64 t387, .slice Ao32 t388.length co32, .slice Ao33 t391.length co33, .slice Ao34 t394.length co34], .agg #[.string t399, .int .i64 t400, .int .i64 t401, .int .i64 t402, .int .i64 t403, .slice Ao38 t404.length co38, .int .i64 t407, .int .i64 t408, .slice Ao39 t409.length co39, .slice Ao40 t412.length co40, .slice Ao41 t415.length co41]] (by rfl) rfl rfl gl_ ?_
    with_reducible refine (laws_eqAcct.calls k t378 t379 t380 t381 t382 _ _ t383 t386 t387 _ _ t388 _ _ t391 _ _ t394 t399 t400 t401 t402 t403 _ _ t404 t407 t408 _ _ t409 _ _ t412 _ _ t415 true _ ?side1 ?side2 ?side3 ?side4 ?side5 ?side6 ?side7 ?side8 ?side9 ?side10 ?side11 ?side12 ?side13 ?side14 ?side15 ?side16 A14.out).mono ?_
    (case side1 => exact ca_ ((Kd.R_reads' HO385.out).2.2))
    (case side2 => exact (Kd.R_reads' HO385.out).2.1)
    (case side3 => exact ca_ ((Kd.R_reads' HO390.out).2.2))
    (case side4 => exact (Kd.R_reads' HO390.out).2.1)
    (case side5 => exact ca_ ((Kd.R_reads' HO393.out).2.2))
    (case side6 => exact (Kd.R_reads' HO393.out).2.1)
    (case side7 => exact ca_ ((Kd.S_reads' HO396.out).2.2))
    (case side8 => exact (Kd.S_reads' HO396.out).2.1)
    (case side9 => exact ca_ ((Kd.R_reads' HO406.out).2.2))
    (case side10 => exact (Kd.R_reads' HO406.out).2.1)
    (case side11 => exact ca_ ((Kd.R_reads' HO411.out).2.2))
    (case side12 => exact (Kd.R_reads' HO411.out).2.1)
    (case side13 => exact ca_ ((Kd.R_reads' HO414.out).2.2))
    (case side14 => exact (Kd.R_reads' HO414.out).2.1)
    (case side15 => exact ca_ ((Kd.S_reads' HO417.out).2.2))
    (case side16 => exact (Kd.S_reads' HO417.out).2.1)
    rintro e w42 ⟨rfl, hb⟩
    refine ⟨_, rfl, ?_⟩
    have n0_ := Aside0.mk (Kd.R_below (ra_ HO365) hb)
    have n1_ := Aside0.mk (Kd.R_below (ra_ HO370) hb)
    have n2_ := Aside0.mk (Kd.R_below (ra_ HO373) hb)
    have n3_ := Aside0.mk (Kd.S_below (by (with_reducible repeat (first | apply Kd.S_alloc | apply Kd.S_drewN | apply Kd.S_drew)); exact HO376.out) hb)
    have n4_ := Aside0.mk (Kd.R_below (ra_ HO385) hb)
    have n5_ := Aside0.mk (Kd.R_below (ra_ HO390) hb)
    have n6_ := Aside0.mk (Kd.R_below (ra_ HO393) hb)
    have n7_ := Aside0.mk (Kd.S_below (by (with_reducible repeat (first | apply Kd.S_alloc | apply Kd.S_drewN | apply Kd.S_drew)); exact HO396.out) hb)
    have n8_ := Aside0.mk (Kd.R_below (ra_ HO406) hb)
    have n9_ := Aside0.mk (Kd.R_below (ra_ HO411) hb)
    have n10_ := Aside0.mk (Kd.R_below (ra_ HO414) hb)
    have n11_ := Aside0.mk (Kd.S_below (by (with_reducible repeat (first | apply Kd.S_alloc | apply Kd.S_drewN | apply Kd.S_drew)); exact HO417.out) hb)
    have n12_ := Aside0.mk (blk_below (bk_ BK356) hb)
    have n13_ := Aside0.mk (blk_below (bk_ BK397) hb)
    have n14_ := Aside0.mk (below_step bl_ hb)
    clear HO365
    clear HO370
    clear HO373
    clear HO376
    clear HO385
    clear HO390
    clear HO393
    clear HO396
    clear HO406
    clear HO411
    clear HO414
    clear HO417
    clear BK356
    clear BK397
    clear HB
    have HO365 := n0_
    have HO370 := n1_
    have HO373 := n2_
    have HO376 := n3_
    have HO385 := n4_
    have HO390 := n5_
    have HO393 := n6_
    have HO396 := n7_
    have HO406 := n8_
    have HO411 := n9_
    have HO414 := n10_
    have HO417 := n11_
    have BK356 := n12_
    have BK397 := n13_
    have HB := n14_
    clear n0_ n1_ n2_ n3_ n4_ n5_ n6_ n7_ n8_ n9_ n10_ n11_ n12_ n13_ n14_
    (try clear hb)
    (try clear hb2)
    (try clear hk)
    (try clear hi)
    refine hK.out _ _ ⟨cy_ BK397 0, cy_ BK397 1, cy_ BK397 2, cy_ BK397 3, cy_ BK397 4, cy_ BK397 5, cy_ BK397 6, cy_ BK397 7, cy_ BK397 8, cy_ BK397 9, cy_ BK397 10, cy_ BK356 0, cy_ BK356 1, cy_ BK356 2, cy_ BK356 3, cy_ BK356 4, cy_ BK356 5, cy_ BK356 6, cy_ BK356 7, cy_ BK356 8, cy_ BK356 9, cy_ BK356 10⟩ (fun hHeld => ?_)
    clear hK K
    refine norm_ (a' := ?_) ?_ ?_
    rotate_left
    ·show Act.put _ (some 29) _ = _
     simp only [Act.put, q_]
     rfl
    refine pure_ (i := 4) (N := some 30) (v := ?_) (a' := ?_) #[true, true, true, true, true] rfl rfl (by kernel_rfl) (fun _ _ _ h => h) (Or.inl ⟨by rfl, ?_⟩) ?_ ?_
    rotate_left
    ·intro w'
     go_simp
     with_reducible rfl
    rotate_left
    ·simp only [Act.put, q_]
     rfl
    refine done_ (by kernel_rfl) ?_
    try go_wp2
    go_ret
    exact ⟨sq_, bl_⟩
   ·replace c15 := Bool.eq_false_iff.mpr c15
    subst c15
    have H1 : (some false) = some true := by rw [if_neg (show ¬ (false = true) by decide)] at H; exact H
    clear H
    have H := H1
    clear H1
    exact absurd H (by simp)
  ·rw [if_neg c12] at H
   have c12b0 : (t398 == t377) = false := beq_eq_false_iff_ne.mpr c12
   have c12b1 : (t398 != t377) = true := bne_iff_ne.mpr c12
   exact absurd H (by simp)

def ok89 (x : S89) : Prop := (x.f0.size ≤ maxLen) ∧ ((Lit.int .i64 x.f1).wf = true) ∧ ((Lit.int .i64 x.f2).wf = true)
def ok34 (x : S34) : Prop := ((Lit.int .i64 x.f0).wf = true) ∧ ((Lit.int .i64 x.f1).wf = true) ∧ (x.f2.length ≤ maxLen ∧ ∀ y0 ∈ x.f2, (Lit.int .i64 y0).wf = true) ∧ (x.f3.length ≤ maxLen ∧ ∀ y0 ∈ x.f3, (Lit.int .i64 y0).wf = true)
def ok70 (x : S70) : Prop := (x.f0.size ≤ maxLen) ∧ (x.f1.size ≤ maxLen) ∧ (x.f2.length ≤ maxLen ∧ ∀ y0 ∈ x.f2, (Lit.int .u8 y0).wf = true)
def ok37 (x : S37) : Prop := (x.f0.size ≤ maxLen) ∧ ((Lit.int .i64 x.f1).wf = true) ∧ ((Lit.int .i64 x.f2).wf = true) ∧ ((Lit.int .i64 x.f3).wf = true) ∧ ((Lit.int .i64 x.f4).wf = true) ∧ (x.f5.length ≤ maxLen ∧ ∀ y0 ∈ x.f5, ok89 y0) ∧ (ok34 x.f6) ∧ (x.f7.length ≤ maxLen ∧ ∀ y0 ∈ x.f7, ok70 y0)
/-- THE ONE PURE STATEMENT of laws_FnExactRoom. -/
def laws_FnExactRoom.Pure : Prop := ∀ (s0 : S37) (a1 : Int), (ok37 s0) → ((Lit.int .i64 a1).wf = true) → ∃ k, laws_FnExactRoom.f k s0.f0 s0.f1 s0.f2 s0.f3 s0.f4 s0.f5 s0.f6.f0 s0.f6.f1 s0.f6.f2 s0.f6.f3 s0.f7 a1 = some true

end Go.Proofs.Ytepjnalkpfnmcaa.QFnExactRoom
