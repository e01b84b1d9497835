-- by my own printer (myprint.py, over the kit's print.py)
import Derived.Test.YtninpllnlhlclaaQFnExactSlotsOkx0
import Derived.Test.YtninpllnlhlclaaQFnExactSlotsOkx1
import Derived.Test.YtninpllnlhlclaaQFnExactSlotsOkx2
import Derived.Test.YtninpllnlhlclaaQFnExactSlotsOkx3
namespace Go.Proofs.Ytninpllnlhlclaa.QFnExactSlotsOk
open Go.RowKit Go.Proofs.YtninpllnlhlclaaW.PrintWords Go.Proofs.YtninpllnlhlclaaW.PrintLast Go.Proofs.YtninpllnlhlclaaW.PrintMore
attribute [local go_sem] max2_int min2_int max_two min_two max_three min_three max_four min_four   -- for this text's walks alone
set_option linter.unusedVariables false
set_option linter.unusedSimpArgs false

attribute [local go_sem] my_geq my_leq my_gtr
/-! ### laws_FnExactSlotsOk: function 13 -/
def laws_FnExactSlotsOk.f (k : Nat) (l0 : List (S77)) : Option (Bool) := (laws_szSlotS.f k l0 1048576).bind fun t157 => (if t157 < 0 then (some true) else ((laws_toSlotS.f k l0).bind fun t158 => ((spec_SlotsOk.f k t158).bind fun t161 => ((laws_toSlotS.f k l0).bind fun t162 => ((impl_SlotsOk.f k t162).bind fun t165 => (if (t165 != t161) = true then (some false) else ((laws_toSlotS.f k l0).bind fun t166 => ((laws_eqSlotS.f k t162 t166).bind fun t169 => (if t169 = true then (some true) else (some false))))))))))
theorem laws_FnExactSlotsOk.mono : ∀ a0 k, LeO (laws_FnExactSlotsOk.f k a0) (laws_FnExactSlotsOk.f (k + 1) a0) := by
  intro a0 k
  unfold laws_FnExactSlotsOk.f
  repeat' first
      | (with_reducible exact impl_SlotsOk.mono _ _)
      | (with_reducible exact laws_eqSlotS.mono _ _ _)
      | (with_reducible exact laws_szSlotS.mono _ _ _)
      | (with_reducible exact laws_toSlotS.mono _ _)
      | (with_reducible exact spec_SlotsOk.mono _ _)
      | (with_reducible exact LeO.refl _)
      | (with_reducible exact LeO.none _)
      | (with_reducible refine LeO.ite ?_ ?_)
      | (with_reducible refine LeO.bind ?_ (fun _ => ?_))
      | exact impl_SlotsOk.mono _ _
      | exact laws_eqSlotS.mono _ _ _
      | exact laws_szSlotS.mono _ _ _
      | exact laws_toSlotS.mono _ _
      | exact spec_SlotsOk.mono _ _
      | exact LeO.none _
      | refine LeO.ite ?_ ?_
      | refine LeO.bind ?_ (fun _ => ?_)
set_option maxHeartbeats 8000000 in
set_option maxRecDepth 100000 in
theorem laws_FnExactSlotsOk.calls (k : Nat) (A0 : Option Addr) (c0 : Nat) (l0 : List (S77)) (r : Bool) (w : World) (hr0 : Kd.C k77 w A0 l0.length l0) (hc0 : l0.length ≤ c0) (h : laws_FnExactSlotsOk.f k l0 = some r) :
    Calls Try.prog 13 #[.slice A0 l0.length c0] w fun e w' => e = .returned (.bool r) ∧ Below w.heap.size w w' := by
  have HR0 := Aside0.mk hr0
  have HC0 := Aside0.mk hc0
  clear hr0 hc0
  have HB := Aside0.mk (Below.refl w.heap.size w)
  have H : ((laws_szSlotS.f k l0 1048576).bind fun t157 => (if t157 < 0 then (some true) else ((laws_toSlotS.f k l0).bind fun t158 => ((spec_SlotsOk.f k t158).bind fun t161 => ((laws_toSlotS.f k l0).bind fun t162 => ((impl_SlotsOk.f k t162).bind fun t165 => (if (t165 != t161) = true then (some false) else ((laws_toSlotS.f k l0).bind fun t166 => ((laws_eqSlotS.f k t162 t166).bind fun t169 => (if t169 = true then (some true) else (some false))))))))))) = some r := h
  clear h
  replace H := Option.bind_eq_some_iff.mp H
  obtain ⟨t157, A20, H⟩ := H
  replace H : (if t157 < 0 then (some true) else ((laws_toSlotS.f k l0).bind fun t158 => ((spec_SlotsOk.f k t158).bind fun t161 => ((laws_toSlotS.f k l0).bind fun t162 => ((impl_SlotsOk.f k t162).bind fun t165 => (if (t165 != t161) = true then (some false) else ((laws_toSlotS.f k l0).bind fun t166 => ((laws_eqSlotS.f k t162 t166).bind fun t169 => (if t169 = true then (some true) else (some false)))))))))) = some r := H
  have A2 := Aside0.mk A20
  clear A20
  by_cases c3 : t157 < 0
  · rw [if_pos c3] at H
    have c3b0 : decide (t157 < 0) = true := decide_eq_true c3
    clear c3
    obtain rfl := Option.some.inj H
    go_enter Try.func13, Try.ntmps13
    go_wp2_with (first | ((with_reducible refine gate_callee (f := 29) rfl ?_); refine goesL_ (some 9) rfl rfl Try.func29 (by kernel_rfl) rfl #[.slice A0 l0.length c0, .int .i64 1048576] rfl gl_ ?_; (with_reducible refine (laws_szSlotS.calls k _ _ l0 1048576 t157 _ ?side1 ?side2 A2.out).mono ?_); (case side1 => exact ca_ (HR0.out)); (case side2 => exact HC0.out); rintro e w4 ⟨rfl, hb⟩; refine ⟨_, rfl, ?_⟩; have n0_ := Aside0.mk (below_step bl_ hb); clear HB; have HB := n0_; clear n0_; (try clear hb); (try clear hb2); (try clear hk); (try clear hi)))
    go_ret
    exact ⟨by first | rfl | (simp [errW_none, errW_some] <;> rfl) | (simp [*, errW_none, errW_some] <;> rfl), bl_⟩
  · rw [if_neg c3] at H
    have c3b0 : decide (t157 < 0) = false := decide_eq_false c3
    clear c3
    replace H := Option.bind_eq_some_iff.mp H
    obtain ⟨t158, A50, H⟩ := H
    replace H : ((spec_SlotsOk.f k t158).bind fun t161 => ((laws_toSlotS.f k l0).bind fun t162 => ((impl_SlotsOk.f k t162).bind fun t165 => (if (t165 != t161) = true then (some false) else ((laws_toSlotS.f k l0).bind fun t166 => ((laws_eqSlotS.f k t162 t166).bind fun t169 => (if t169 = true then (some true) else (some false)))))))) = some r := H
    have A5 := Aside0.mk A50
    clear A50
    replace H := Option.bind_eq_some_iff.mp H
    obtain ⟨t161, A60, H⟩ := H
    replace H : ((laws_toSlotS.f k l0).bind fun t162 => ((impl_SlotsOk.f k t162).bind fun t165 => (if (t165 != t161) = true then (some false) else ((laws_toSlotS.f k l0).bind fun t166 => ((laws_eqSlotS.f k t162 t166).bind fun t169 => (if t169 = true then (some true) else (some false))))))) = some r := H
    have A6 := Aside0.mk A60
    clear A60
    replace H := Option.bind_eq_some_iff.mp H
    obtain ⟨t162, A70, H⟩ := H
    replace H : ((impl_SlotsOk.f k t162).bind fun t165 => (if (t165 != t161) = true then (some false) else ((laws_toSlotS.f k l0).bind fun t166 => ((laws_eqSlotS.f k t162 t166).bind fun t169 => (if t169 = true then (some true) else (some false)))))) = some r := H
    have A7 := Aside0.mk A70
    clear A70
    replace H := Option.bind_eq_some_iff.mp H
    obtain ⟨t165, A80, H⟩ := H
    replace H : (if (t165 != t161) = true then (some false) else ((laws_toSlotS.f k l0).bind fun t166 => ((laws_eqSlotS.f k t162 t166).bind fun t169 => (if t169 = true then (some true) else (some false))))) = some r := H
    have A8 := Aside0.mk A80
    clear A80
    by_cases c9 : (t165 != t161) = true
    · rw [if_pos c9] at H
      have c9b0 : (t165 != t161) = true := c9
      (try (have c9b1 : decide (t165 = t161) = false := by simpa using c9))
      (try (have c9b2 : (t165 == t161) = false := by simpa using c9))
      (try (have c9b3 : ¬ (t165 = t161) := by simpa using c9))
      clear c9
      obtain rfl := Option.some.inj H
      go_enter Try.func13, Try.ntmps13
      go_wp2_with (first | ((with_reducible refine gate_callee (f := 29) rfl ?_); refine goesL_ (some 9) rfl rfl Try.func29 (by kernel_rfl) rfl #[.slice A0 l0.length c0, .int .i64 1048576] rfl gl_ ?_; (with_reducible refine (laws_szSlotS.calls k _ _ l0 1048576 t157 _ ?side1 ?side2 A2.out).mono ?_); (case side1 => exact ca_ (HR0.out)); (case side2 => exact HC0.out); rintro e w10 ⟨rfl, hb⟩; refine ⟨_, rfl, ?_⟩; have n0_ := Aside0.mk (below_step bl_ hb); clear HB; have HB := n0_; clear n0_; (try clear hb); (try clear hb2); (try clear hk); (try clear hi)) | ((with_reducible refine gate_callee (f := 31) rfl ?_); refine goesL_ (some 13) rfl rfl Try.func31 (by kernel_rfl) rfl #[.slice A0 l0.length c0] rfl gl_ ?_; (with_reducible refine (laws_toSlotS.calls k _ _ l0 t158 _ ?side1 ?side2 A5.out).mono ?_); (case side1 => exact ca_ (Kd.C_below HR0.out HB.out)); (case side2 => exact HC0.out); rintro e w11 ⟨v159, rfl, ho0, hb⟩; refine ⟨_, rfl, ?_⟩; have n0_ := Aside0.mk (Kd.S_lower ho0 (below_size bl_)); have n1_ := Aside0.mk (below_step bl_ hb); clear HB; have HO160 := n0_; have HB := n1_; clear n0_ n1_; (try clear hb); (try clear hb2); (try clear hk); (try clear hi); (try clear ho0); obtain ⟨Ao12, co12, eo12⟩ := Kd.S_slice HO160.out; subst eo12) | ((with_reducible refine gate_callee (f := 51) rfl ?_); refine goesL_ (some 14) rfl rfl Try.func51 (by kernel_rfl) rfl #[.slice Ao12 t158.length co12] rfl gl_ ?_; (with_reducible refine (spec_SlotsOk.calls k _ _ t158 t161 _ ?side1 ?side2 A6.out).mono ?_); (case side1 => exact ca_ ((Kd.S_reads' HO160.out).2.2)); (case side2 => exact (Kd.S_reads' HO160.out).2.1); rintro e w13 ⟨rfl, hb⟩; refine ⟨_, rfl, ?_⟩; have n0_ := Aside0.mk (Kd.S_below (by (with_reducible repeat (first | apply Kd.S_alloc | apply Kd.S_drewN | apply Kd.S_drew)); exact HO160.out) hb); have n1_ := Aside0.mk (below_step bl_ hb); clear HO160; clear HB; have HO160 := n0_; have HB := n1_; clear n0_ n1_; (try clear hb); (try clear hb2); (try clear hk); (try clear hi)) | ((with_reducible refine gate_callee (f := 31) rfl ?_); refine goesL_ (some 16) rfl rfl Try.func31 (by kernel_rfl) rfl #[.slice A0 l0.length c0] rfl gl_ ?_; (with_reducible refine (laws_toSlotS.calls k _ _ l0 t162 _ ?side1 ?side2 A7.out).mono ?_); (case side1 => exact ca_ (Kd.C_below HR0.out HB.out)); (case side2 => exact HC0.out); rintro e w14 ⟨v163, rfl, ho0, hb⟩; refine ⟨_, rfl, ?_⟩; have n0_ := Aside0.mk (Kd.S_elder' (by (with_reducible repeat (first | apply Kd.S_alloc | apply Kd.S_drewN | apply Kd.S_drew)); exact HO160.out) (Kd.S_base ho0) hb); have n1_ := Aside0.mk (Kd.S_lower (Kd.S_new' ho0 (Kd.S_lt (by (with_reducible repeat (first | apply Kd.S_alloc | apply Kd.S_drewN | apply Kd.S_drew)); exact HO160.out))) (below_size bl_)); have n2_ := Aside0.mk (below_step bl_ hb); clear HO160; clear HB; have HO160 := n0_; have HO164 := n1_; have HB := n2_; clear n0_ n1_ n2_; (try clear hb); (try clear hb2); (try clear hk); (try clear hi); (try clear ho0); obtain ⟨Ao15, co15, eo15⟩ := Kd.S_slice HO164.out; subst eo15) | ((with_reducible refine gate_callee (f := 52) rfl ?_); refine goesL_ (some 18) rfl rfl Try.func52 (by kernel_rfl) rfl #[.slice Ao15 t162.length co15] rfl gl_ ?_; (with_reducible refine (impl_SlotsOk.calls k _ _ t162 t165 _ ?side1 ?side2 A8.out).mono ?_); (case side1 => exact ca_ ((Kd.S_reads' HO164.out).2.2)); (case side2 => exact (Kd.S_reads' HO164.out).2.1); rintro e w16 ⟨rfl, hb⟩; refine ⟨_, rfl, ?_⟩; have n0_ := Aside0.mk (Kd.S_below (by (with_reducible repeat (first | apply Kd.S_alloc | apply Kd.S_drewN | apply Kd.S_drew)); exact HO160.out) hb); have n1_ := Aside0.mk (Kd.S_below (by (with_reducible repeat (first | apply Kd.S_alloc | apply Kd.S_drewN | apply Kd.S_drew)); exact HO164.out) hb); have n2_ := Aside0.mk (below_step bl_ hb); clear HO160; clear HO164; clear HB; have HO160 := n0_; have HO164 := n1_; have HB := n2_; clear n0_ n1_ n2_; (try clear hb); (try clear hb2); (try clear hk); (try clear hi)))
      go_ret
      exact ⟨by first | rfl | (simp [errW_none, errW_some] <;> rfl) | (simp [*, errW_none, errW_some] <;> rfl), bl_⟩
    · rw [if_neg c9] at H
      have c9b0 : (t165 != t161) = false := by simpa using c9
      (try (have c9b1 : decide (t165 = t161) = true := by simpa using c9))
      (try (have c9b2 : (t165 == t161) = true := by simpa using c9))
      clear c9
      replace H := Option.bind_eq_some_iff.mp H
      obtain ⟨t166, A170, H⟩ := H
      replace H : ((laws_eqSlotS.f k t162 t166).bind fun t169 => (if t169 = true then (some true) else (some false))) = some r := H
      have A17 := Aside0.mk A170
      clear A170
      replace H := Option.bind_eq_some_iff.mp H
      obtain ⟨t169, A180, H⟩ := H
      replace H : (if t169 = true then (some true) else (some false)) = some r := H
      have A18 := Aside0.mk A180
      clear A180
      by_cases c19 : t169 = true
      · subst c19
        have H1 : (some true) = some r := by rw [if_pos rfl] at H; exact H
        clear H
        have H := H1
        clear H1
        obtain rfl := Option.some.inj H
        go_enter Try.func13, Try.ntmps13
        go_wp2_with (first | ((with_reducible refine gate_callee (f := 29) rfl ?_); refine goesL_ (some 9) rfl rfl Try.func29 (by kernel_rfl) rfl #[.slice A0 l0.length c0, .int .i64 1048576] rfl gl_ ?_; (with_reducible refine (laws_szSlotS.calls k _ _ l0 1048576 t157 _ ?side1 ?side2 A2.out).mono ?_); (case side1 => exact ca_ (HR0.out)); (case side2 => exact HC0.out); rintro e w20 ⟨rfl, hb⟩; refine ⟨_, rfl, ?_⟩; have n0_ := Aside0.mk (below_step bl_ hb); clear HB; have HB := n0_; clear n0_; (try clear hb); (try clear hb2); (try clear hk); (try clear hi)) | ((with_reducible refine gate_callee (f := 31) rfl ?_); refine goesL_ (some 13) rfl rfl Try.func31 (by kernel_rfl) rfl #[.slice A0 l0.length c0] rfl gl_ ?_; (with_reducible refine (laws_toSlotS.calls k _ _ l0 t158 _ ?side1 ?side2 A5.out).mono ?_); (case side1 => exact ca_ (Kd.C_below HR0.out HB.out)); (case side2 => exact HC0.out); rintro e w21 ⟨v159, rfl, ho0, hb⟩; refine ⟨_, rfl, ?_⟩; have n0_ := Aside0.mk (Kd.S_lower ho0 (below_size bl_)); have n1_ := Aside0.mk (below_step bl_ hb); clear HB; have HO160 := n0_; have HB := n1_; clear n0_ n1_; (try clear hb); (try clear hb2); (try clear hk); (try clear hi); (try clear ho0); obtain ⟨Ao22, co22, eo22⟩ := Kd.S_slice HO160.out; subst eo22) | ((with_reducible refine gate_callee (f := 51) rfl ?_); refine goesL_ (some 14) rfl rfl Try.func51 (by kernel_rfl) rfl #[.slice Ao22 t158.length co22] rfl gl_ ?_; (with_reducible refine (spec_SlotsOk.calls k _ _ t158 t161 _ ?side1 ?side2 A6.out).mono ?_); (case side1 => exact ca_ ((Kd.S_reads' HO160.out).2.2)); (case side2 => exact (Kd.S_reads' HO160.out).2.1); rintro e w23 ⟨rfl, hb⟩; refine ⟨_, rfl, ?_⟩; have n0_ := Aside0.mk (Kd.S_below (by (with_reducible repeat (first | apply Kd.S_alloc | apply Kd.S_drewN | apply Kd.S_drew)); exact HO160.out) hb); have n1_ := Aside0.mk (below_step bl_ hb); clear HO160; clear HB; have HO160 := n0_; have HB := n1_; clear n0_ n1_; (try clear hb); (try clear hb2); (try clear hk); (try clear hi)) | ((with_reducible refine gate_callee (f := 31) rfl ?_); refine goesL_ (some 16) rfl rfl Try.func31 (by kernel_rfl) rfl #[.slice A0 l0.length c0] rfl gl_ ?_; (with_reducible refine (laws_toSlotS.calls k _ _ l0 t162 _ ?side1 ?side2 A7.out).mono ?_); (case side1 => exact ca_ (Kd.C_below HR0.out HB.out)); (case side2 => exact HC0.out); rintro e w24 ⟨v163, rfl, ho0, hb⟩; refine ⟨_, rfl, ?_⟩; have n0_ := Aside0.mk (Kd.S_elder' (by (with_reducible repeat (first | apply Kd.S_alloc | apply Kd.S_drewN | apply Kd.S_drew)); exact HO160.out) (Kd.S_base ho0) hb); have n1_ := Aside0.mk (Kd.S_lower (Kd.S_new' ho0 (Kd.S_lt (by (with_reducible repeat (first | apply Kd.S_alloc | apply Kd.S_drewN | apply Kd.S_drew)); exact HO160.out))) (below_size bl_)); have n2_ := Aside0.mk (below_step bl_ hb); clear HO160; clear HB; have HO160 := n0_; have HO164 := n1_; have HB := n2_; clear n0_ n1_ n2_; (try clear hb); (try clear hb2); (try clear hk); (try clear hi); (try clear ho0); obtain ⟨Ao25, co25, eo25⟩ := Kd.S_slice HO164.out; subst eo25) | ((with_reducible refine gate_callee (f := 52) rfl ?_); refine goesL_ (some 18) rfl rfl Try.func52 (by kernel_rfl) rfl #[.slice Ao25 t162.length co25] rfl gl_ ?_; (with_reducible refine (impl_SlotsOk.calls k _ _ t162 t165 _ ?side1 ?side2 A8.out).mono ?_); (case side1 => exact ca_ ((Kd.S_reads' HO164.out).2.2)); (case side2 => exact (Kd.S_reads' HO164.out).2.1); rintro e w26 ⟨rfl, hb⟩; refine ⟨_, rfl, ?_⟩; have n0_ := Aside0.mk (Kd.S_below (by (with_reducible repeat (first | apply Kd.S_alloc | apply Kd.S_drewN | apply Kd.S_drew)); exact HO160.out) hb); have n1_ := Aside0.mk (Kd.S_below (by (with_reducible repeat (first | apply Kd.S_alloc | apply Kd.S_drewN | apply Kd.S_drew)); exact HO164.out) hb); have n2_ := Aside0.mk (below_step bl_ hb); clear HO160; clear HO164; clear HB; have HO160 := n0_; have HO164 := n1_; have HB := n2_; clear n0_ n1_ n2_; (try clear hb); (try clear hb2); (try clear hk); (try clear hi)) | ((with_reducible refine gate_callee (f := 31) rfl ?_); refine goesL_ (some 24) rfl rfl Try.func31 (by kernel_rfl) rfl #[.slice A0 l0.length c0] rfl gl_ ?_; (with_reducible refine (laws_toSlotS.calls k _ _ l0 t166 _ ?side1 ?side2 A17.out).mono ?_); (case side1 => exact ca_ (Kd.C_below HR0.out HB.out)); (case side2 => exact HC0.out); rintro e w27 ⟨v167, rfl, ho0, hb⟩; refine ⟨_, rfl, ?_⟩; have n0_ := Aside0.mk (Kd.S_elder' (by (with_reducible repeat (first | apply Kd.S_alloc | apply Kd.S_drewN | apply Kd.S_drew)); exact HO160.out) (Kd.S_base ho0) hb); have n1_ := Aside0.mk (Kd.S_elder' (by (with_reducible repeat (first | apply Kd.S_alloc | apply Kd.S_drewN | apply Kd.S_drew)); exact HO164.out) (Kd.S_base ho0) hb); have n2_ := Aside0.mk (Kd.S_lower (Kd.S_new' (Kd.S_new' ho0 (Kd.S_lt (by (with_reducible repeat (first | apply Kd.S_alloc | apply Kd.S_drewN | apply Kd.S_drew)); exact HO160.out))) (Kd.S_lt (by (with_reducible repeat (first | apply Kd.S_alloc | apply Kd.S_drewN | apply Kd.S_drew)); exact HO164.out))) (below_size bl_)); have n3_ := Aside0.mk (below_step bl_ hb); clear HO160; clear HO164; clear HB; have HO160 := n0_; have HO164 := n1_; have HO168 := n2_; have HB := n3_; clear n0_ n1_ n2_ n3_; (try clear hb); (try clear hb2); (try clear hk); (try clear hi); (try clear ho0); obtain ⟨Ao28, co28, eo28⟩ := Kd.S_slice HO168.out; subst eo28) | ((with_reducible refine gate_callee (f := 33) rfl ?_); refine goesL_ (some 25) rfl rfl Try.func33 (by kernel_rfl) rfl #[.slice Ao25 t162.length co25, .slice Ao28 t166.length co28] rfl gl_ ?_; (with_reducible refine (laws_eqSlotS.calls k _ _ t162 _ _ t166 true _ ?side1 ?side2 ?side3 ?side4 A18.out).mono ?_); (case side1 => exact ca_ ((Kd.S_reads' HO164.out).2.2)); (case side2 => exact (Kd.S_reads' HO164.out).2.1); (case side3 => exact ca_ ((Kd.S_reads' HO168.out).2.2)); (case side4 => exact (Kd.S_reads' HO168.out).2.1); rintro e w29 ⟨rfl, hb⟩; refine ⟨_, rfl, ?_⟩; have n0_ := Aside0.mk (Kd.S_below (by (with_reducible repeat (first | apply Kd.S_alloc | apply Kd.S_drewN | apply Kd.S_drew)); exact HO160.out) hb); have n1_ := Aside0.mk (Kd.S_below (by (with_reducible repeat (first | apply Kd.S_alloc | apply Kd.S_drewN | apply Kd.S_drew)); exact HO164.out) hb); have n2_ := Aside0.mk (Kd.S_below (by (with_reducible repeat (first | apply Kd.S_alloc | apply Kd.S_drewN | apply Kd.S_drew)); exact HO168.out) hb); have n3_ := Aside0.mk (below_step bl_ hb); clear HO160; clear HO164; clear HO168; clear HB; have HO160 := n0_; have HO164 := n1_; have HO168 := n2_; have HB := n3_; clear n0_ n1_ n2_ n3_; (try clear hb); (try clear hb2); (try clear hk); (try clear hi)))
        go_ret
        exact ⟨by first | rfl | (simp [errW_none, errW_some] <;> rfl) | (simp [*, errW_none, errW_some] <;> rfl), bl_⟩
      · replace c19 := Bool.eq_false_iff.mpr c19
        subst c19
        have H1 : (some false) = some r := by rw [if_neg (show ¬ (false = true) by decide)] at H; exact H
        clear H
        have H := H1
        clear H1
        obtain rfl := Option.some.inj H
        go_enter Try.func13, Try.ntmps13
        go_wp2_with (first | ((with_reducible refine gate_callee (f := 29) rfl ?_); refine goesL_ (some 9) rfl rfl Try.func29 (by kernel_rfl) rfl #[.slice A0 l0.length c0, .int .i64 1048576] rfl gl_ ?_; (with_reducible refine (laws_szSlotS.calls k _ _ l0 1048576 t157 _ ?side1 ?side2 A2.out).mono ?_); (case side1 => exact ca_ (HR0.out)); (case side2 => exact HC0.out); rintro e w30 ⟨rfl, hb⟩; refine ⟨_, rfl, ?_⟩; have n0_ := Aside0.mk (below_step bl_ hb); clear HB; have HB := n0_; clear n0_; (try clear hb); (try clear hb2); (try clear hk); (try clear hi)) | ((with_reducible refine gate_callee (f := 31) rfl ?_); refine goesL_ (some 13) rfl rfl Try.func31 (by kernel_rfl) rfl #[.slice A0 l0.length c0] rfl gl_ ?_; (with_reducible refine (laws_toSlotS.calls k _ _ l0 t158 _ ?side1 ?side2 A5.out).mono ?_); (case side1 => exact ca_ (Kd.C_below HR0.out HB.out)); (case side2 => exact HC0.out); rintro e w31 ⟨v159, rfl, ho0, hb⟩; refine ⟨_, rfl, ?_⟩; have n0_ := Aside0.mk (Kd.S_lower ho0 (below_size bl_)); have n1_ := Aside0.mk (below_step bl_ hb); clear HB; have HO160 := n0_; have HB := n1_; clear n0_ n1_; (try clear hb); (try clear hb2); (try clear hk); (try clear hi); (try clear ho0); obtain ⟨Ao32, co32, eo32⟩ := Kd.S_slice HO160.out; subst eo32) | ((with_reducible refine gate_callee (f := 51) rfl ?_); refine goesL_ (some 14) rfl rfl Try.func51 (by kernel_rfl) rfl #[.slice Ao32 t158.length co32] rfl gl_ ?_; (with_reducible refine (spec_SlotsOk.calls k _ _ t158 t161 _ ?side1 ?side2 A6.out).mono ?_); (case side1 => exact ca_ ((Kd.S_reads' HO160.out).2.2)); (case side2 => exact (Kd.S_reads' HO160.out).2.1); rintro e w33 ⟨rfl, hb⟩; refine ⟨_, rfl, ?_⟩; have n0_ := Aside0.mk (Kd.S_below (by (with_reducible repeat (first | apply Kd.S_alloc | apply Kd.S_drewN | apply Kd.S_drew)); exact HO160.out) hb); have n1_ := Aside0.mk (below_step bl_ hb); clear HO160; clear HB; have HO160 := n0_; have HB := n1_; clear n0_ n1_; (try clear hb); (try clear hb2); (try clear hk); (try clear hi)) | ((with_reducible refine gate_callee (f := 31) rfl ?_); refine goesL_ (some 16) rfl rfl Try.func31 (by kernel_rfl) rfl #[.slice A0 l0.length c0] rfl gl_ ?_; (with_reducible refine (laws_toSlotS.calls k _ _ l0 t162 _ ?side1 ?side2 A7.out).mono ?_); (case side1 => exact ca_ (Kd.C_below HR0.out HB.out)); (case side2 => exact HC0.out); rintro e w34 ⟨v163, rfl, ho0, hb⟩; refine ⟨_, rfl, ?_⟩; have n0_ := Aside0.mk (Kd.S_elder' (by (with_reducible repeat (first | apply Kd.S_alloc | apply Kd.S_drewN | apply Kd.S_drew)); exact HO160.out) (Kd.S_base ho0) hb); have n1_ := Aside0.mk (Kd.S_lower (Kd.S_new' ho0 (Kd.S_lt (by (with_reducible repeat (first | apply Kd.S_alloc | apply Kd.S_drewN | apply Kd.S_drew)); exact HO160.out))) (below_size bl_)); have n2_ := Aside0.mk (below_step bl_ hb); clear HO160; clear HB; have HO160 := n0_; have HO164 := n1_; have HB := n2_; clear n0_ n1_ n2_; (try clear hb); (try clear hb2); (try clear hk); (try clear hi); (try clear ho0); obtain ⟨Ao35, co35, eo35⟩ := Kd.S_slice HO164.out; subst eo35) | ((with_reducible refine gate_callee (f := 52) rfl ?_); refine goesL_ (some 18) rfl rfl Try.func52 (by kernel_rfl) rfl #[.slice Ao35 t162.length co35] rfl gl_ ?_; (with_reducible refine (impl_SlotsOk.calls k _ _ t162 t165 _ ?side1 ?side2 A8.out).mono ?_); (case side1 => exact ca_ ((Kd.S_reads' HO164.out).2.2)); (case side2 => exact (Kd.S_reads' HO164.out).2.1); rintro e w36 ⟨rfl, hb⟩; refine ⟨_, rfl, ?_⟩; have n0_ := Aside0.mk (Kd.S_below (by (with_reducible repeat (first | apply Kd.S_alloc | apply Kd.S_drewN | apply Kd.S_drew)); exact HO160.out) hb); have n1_ := Aside0.mk (Kd.S_below (by (with_reducible repeat (first | apply Kd.S_alloc | apply Kd.S_drewN | apply Kd.S_drew)); exact HO164.out) hb); have n2_ := Aside0.mk (below_step bl_ hb); clear HO160; clear HO164; clear HB; have HO160 := n0_; have HO164 := n1_; have HB := n2_; clear n0_ n1_ n2_; (try clear hb); (try clear hb2); (try clear hk); (try clear hi)) | ((with_reducible refine gate_callee (f := 31) rfl ?_); refine goesL_ (some 24) rfl rfl Try.func31 (by kernel_rfl) rfl #[.slice A0 l0.length c0] rfl gl_ ?_; (with_reducible refine (laws_toSlotS.calls k _ _ l0 t166 _ ?side1 ?side2 A17.out).mono ?_); (case side1 => exact ca_ (Kd.C_below HR0.out HB.out)); (case side2 => exact HC0.out); rintro e w37 ⟨v167, rfl, ho0, hb⟩; refine ⟨_, rfl, ?_⟩; have n0_ := Aside0.mk (Kd.S_elder' (by (with_reducible repeat (first | apply Kd.S_alloc | apply Kd.S_drewN | apply Kd.S_drew)); exact HO160.out) (Kd.S_base ho0) hb); have n1_ := Aside0.mk (Kd.S_elder' (by (with_reducible repeat (first | apply Kd.S_alloc | apply Kd.S_drewN | apply Kd.S_drew)); exact HO164.out) (Kd.S_base ho0) hb); have n2_ := Aside0.mk (Kd.S_lower (Kd.S_new' (Kd.S_new' ho0 (Kd.S_lt (by (with_reducible repeat (first | apply Kd.S_alloc | apply Kd.S_drewN | apply Kd.S_drew)); exact HO160.out))) (Kd.S_lt (by (with_reducible repeat (first | apply Kd.S_alloc | apply Kd.S_drewN | apply Kd.S_drew)); exact HO164.out))) (below_size bl_)); have n3_ := Aside0.mk (below_step bl_ hb); clear HO160; clear HO164; clear HB; have HO160 := n0_; have HO164 := n1_; have HO168 := n2_; have HB := n3_; clear n0_ n1_ n2_ n3_; (try clear hb); (try clear hb2); (try clear hk); (try clear hi); (try clear ho0); obtain ⟨Ao38, co38, eo38⟩ := Kd.S_slice HO168.out; subst eo38) | ((with_reducible refine gate_callee (f := 33) rfl ?_); refine goesL_ (some 25) rfl rfl Try.func33 (by kernel_rfl) rfl #[.slice Ao35 t162.length co35, .slice Ao38 t166.length co38] rfl gl_ ?_; (with_reducible refine (laws_eqSlotS.calls k _ _ t162 _ _ t166 false _ ?side1 ?side2 ?side3 ?side4 A18.out).mono ?_); (case side1 => exact ca_ ((Kd.S_reads' HO164.out).2.2)); (case side2 => exact (Kd.S_reads' HO164.out).2.1); (case side3 => exact ca_ ((Kd.S_reads' HO168.out).2.2)); (case side4 => exact (Kd.S_reads' HO168.out).2.1); rintro e w39 ⟨rfl, hb⟩; refine ⟨_, rfl, ?_⟩; have n0_ := Aside0.mk (Kd.S_below (by (with_reducible repeat (first | apply Kd.S_alloc | apply Kd.S_drewN | apply Kd.S_drew)); exact HO160.out) hb); have n1_ := Aside0.mk (Kd.S_below (by (with_reducible repeat (first | apply Kd.S_alloc | apply Kd.S_drewN | apply Kd.S_drew)); exact HO164.out) hb); have n2_ := Aside0.mk (Kd.S_below (by (with_reducible repeat (first | apply Kd.S_alloc | apply Kd.S_drewN | apply Kd.S_drew)); exact HO168.out) hb); have n3_ := Aside0.mk (below_step bl_ hb); clear HO160; clear HO164; clear HO168; clear HB; have HO160 := n0_; have HO164 := n1_; have HO168 := n2_; have HB := n3_; clear n0_ n1_ n2_ n3_; (try clear hb); (try clear hb2); (try clear hk); (try clear hi)))
        go_ret
        exact ⟨by first | rfl | (simp [errW_none, errW_some] <;> rfl) | (simp [*, errW_none, errW_some] <;> rfl), bl_⟩

def ok77 (x : S77) : Prop := (x.f0.size ≤ maxLen) ∧ (x.f1.size ≤ maxLen) ∧ (x.f2.length ≤ maxLen ∧ ∀ y0 ∈ x.f2, (Lit.int .u8 y0).wf = true)
/-- THE ONE PURE STATEMENT of laws_FnExactSlotsOk. -/
def laws_FnExactSlotsOk.Pure : Prop := ∀ (l0 : List (S77)), (l0.length ≤ maxLen ∧ ∀ y0 ∈ l0, ok77 y0) → ∃ k, laws_FnExactSlotsOk.f k l0 = some true

end Go.Proofs.Ytninpllnlhlclaa.QFnExactSlotsOk
