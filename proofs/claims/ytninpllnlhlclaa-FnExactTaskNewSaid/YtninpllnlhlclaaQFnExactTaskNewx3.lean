-- by my own printer (myprint.py, over the kit's print.py)
import Derived.Test.YtninpllnlhlclaaQFnExactTaskNewx0
import Derived.Test.YtninpllnlhlclaaQFnExactTaskNewx1
import Derived.Test.YtninpllnlhlclaaQFnExactTaskNewx2
namespace Go.Proofs.Ytninpllnlhlclaa.QFnExactTaskNew
open Go.RowKit Go.Proofs.YtninpllnlhlclaaW.PrintWords Go.Proofs.YtninpllnlhlclaaW.PrintLast Go.Proofs.YtninpllnlhlclaaW.PrintMore
attribute [local go_sem] max2_int min2_int max_two min_two max_three min_three max_four min_four   -- for this text's walks alone
set_option linter.unusedVariables false
set_option linter.unusedSimpArgs false

attribute [local go_sem] my_geq my_leq my_gtr
/-! ### laws_FnExactTaskNew: function 10 -/
mutual
def laws_FnExactTaskNew.j0 : Nat → List Int → Int → Bool → List Int → Bool → Bool → List Int → Int → List Int → Int → Int → Int → Int → Int → List Int → List Int → Int → List Int → Int → Int → Int → Int → Int → List Int → Option (Bool)
  | 0, _, _, _, _, _, _, _, _, _, _, _, _, _, _, _, _, _, _, _, _, _, _, _, _ => none
  | k + 1, x0, x1, x6, x7, x9, x41, x171000, x171001, x171002, x171003, x171004, x171005, x171006, x171007, x171008, x191000, x191001, x191002, x191003, x191004, x191005, x191006, x191007, x191008 => if x41 = true then (some false) else ((laws_toByteS.f k x0).bind fun t192 => ((laws_eqByteS.f k x7 t192).bind fun t195 => (if t195 = true then ((laws_markByteS.f k x7 1).bind fun bt196 => (if bt196.1 < 0 then (laws_FnExactTaskNew.j1 k x0 x1 x6 true x171000 x171001 x171002 x171003 x171004 x171005 x171006 x171007 x171008 x191000 x191001 x191002 x191003 x191004 x191005 x191006 x191007 x191008) else ((laws_eqTask.f k x191000 x191001 x191002 x191003 x191004 x191005 x191006 x191007 x191008 x171000 x171001 x171002 x171003 x171004 x171005 x171006 x171007 x171008).bind fun t198 => (if t198 = true then (laws_FnExactTaskNew.j1 k x0 x1 x6 (x9 != x6) x171000 x171001 x171002 x171003 x171004 x171005 x171006 x171007 x171008 x191000 x191001 x191002 x191003 x191004 x191005 x191006 x191007 x191008) else (laws_FnExactTaskNew.j1 k x0 x1 x6 true x171000 x171001 x171002 x171003 x171004 x171005 x171006 x171007 x171008 x191000 x191001 x191002 x191003 x191004 x191005 x191006 x191007 x191008))))) else (some false))))
def laws_FnExactTaskNew.j1 : Nat → List Int → Int → Bool → Bool → List Int → Int → List Int → Int → Int → Int → Int → Int → List Int → List Int → Int → List Int → Int → Int → Int → Int → Int → List Int → Option (Bool)
  | 0, _, _, _, _, _, _, _, _, _, _, _, _, _, _, _, _, _, _, _, _, _, _ => none
  | k + 1, x0, x1, x6, x62, x171000, x171001, x171002, x171003, x171004, x171005, x171006, x171007, x171008, x191000, x191001, x191002, x191003, x191004, x191005, x191006, x191007, x191008 => if x62 = true then (some false) else ((laws_markTask.f k x191000 x191001 x191002 x191003 x191004 x191005 x191006 x191007 x191008 1).bind fun bt199 => ((laws_heldTask.f k bt199.2.1 x191001 bt199.2.2.1 x191003 x191004 x191005 x191006 x191007 bt199.2.2.2 1).bind fun t203 => (if t203 < 0 then (some false) else (if t203 = bt199.1 then ((laws_toByteS.f k x0).bind fun t204 => ((impl_TaskNew.f t204 x1).bind fun bt207 => ((laws_eqTask.f k bt207.1 bt207.2.1 bt207.2.2.1 bt207.2.2.2.1 bt207.2.2.2.2.1 bt207.2.2.2.2.2.1 bt207.2.2.2.2.2.2.1 bt207.2.2.2.2.2.2.2.1 bt207.2.2.2.2.2.2.2.2.1 x171000 x171001 x171002 x171003 x171004 x171005 x171006 x171007 x171008).bind fun t224 => (if t224 = true then (laws_FnExactTaskNew.j2 k bt199.1 (bt207.2.2.2.2.2.2.2.2.2 != x6) bt199.2.1 x191001 bt199.2.2.1 x191003 x191004 x191005 x191006 x191007 bt199.2.2.2) else (laws_FnExactTaskNew.j2 k bt199.1 true bt199.2.1 x191001 bt199.2.2.1 x191003 x191004 x191005 x191006 x191007 bt199.2.2.2))))) else (some false)))))
def laws_FnExactTaskNew.j2 : Nat → Int → Bool → List Int → Int → List Int → Int → Int → Int → Int → Int → List Int → Option (Bool)
  | 0, _, _, _, _, _, _, _, _, _, _, _ => none
  | k + 1, x11, x89, x191000, x191001, x191002, x191003, x191004, x191005, x191006, x191007, x191008 => if x89 = true then (some false) else ((laws_heldTask.f k x191000 x191001 x191002 x191003 x191004 x191005 x191006 x191007 x191008 1).bind fun t225 => (if t225 < 0 then (some false) else (if t225 = x11 then (some true) else (some false))))
end
def laws_FnExactTaskNew.f (k : Nat) (l0 : List Int) (a1 : Int) : Option (Bool) := if (l0.length : Int) > 1048576 then (some true) else ((laws_toByteS.f k l0).bind fun t151 => ((spec_TaskNew.f t151 a1).bind fun bt154 => ((laws_toByteS.f k l0).bind fun t171 => ((impl_TaskNew.f t171 a1).bind fun bt174 => ((laws_eqTask.f k bt174.1 bt174.2.1 bt174.2.2.1 bt174.2.2.2.1 bt174.2.2.2.2.1 bt174.2.2.2.2.2.1 bt174.2.2.2.2.2.2.1 bt174.2.2.2.2.2.2.2.1 bt174.2.2.2.2.2.2.2.2.1 bt154.1 bt154.2.1 bt154.2.2.1 bt154.2.2.2.1 bt154.2.2.2.2.1 bt154.2.2.2.2.2.1 bt154.2.2.2.2.2.2.1 bt154.2.2.2.2.2.2.2.1 bt154.2.2.2.2.2.2.2.2.1).bind fun t191 => (if t191 = true then (laws_FnExactTaskNew.j0 k l0 a1 bt154.2.2.2.2.2.2.2.2.2 t171 bt174.2.2.2.2.2.2.2.2.2 (bt174.2.2.2.2.2.2.2.2.2 != bt154.2.2.2.2.2.2.2.2.2) bt154.1 bt154.2.1 bt154.2.2.1 bt154.2.2.2.1 bt154.2.2.2.2.1 bt154.2.2.2.2.2.1 bt154.2.2.2.2.2.2.1 bt154.2.2.2.2.2.2.2.1 bt154.2.2.2.2.2.2.2.2.1 bt174.1 bt174.2.1 bt174.2.2.1 bt174.2.2.2.1 bt174.2.2.2.2.1 bt174.2.2.2.2.2.1 bt174.2.2.2.2.2.2.1 bt174.2.2.2.2.2.2.2.1 bt174.2.2.2.2.2.2.2.2.1) else (laws_FnExactTaskNew.j0 k l0 a1 bt154.2.2.2.2.2.2.2.2.2 t171 bt174.2.2.2.2.2.2.2.2.2 true bt154.1 bt154.2.1 bt154.2.2.1 bt154.2.2.2.1 bt154.2.2.2.2.1 bt154.2.2.2.2.2.1 bt154.2.2.2.2.2.2.1 bt154.2.2.2.2.2.2.2.1 bt154.2.2.2.2.2.2.2.2.1 bt174.1 bt174.2.1 bt174.2.2.1 bt174.2.2.2.1 bt174.2.2.2.2.1 bt174.2.2.2.2.2.1 bt174.2.2.2.2.2.2.1 bt174.2.2.2.2.2.2.2.1 bt174.2.2.2.2.2.2.2.2.1)))))))
theorem laws_FnExactTaskNew.mono_l : ∀ k, (∀ y0 y1 y2 y3 y4 y5 y6 y7 y8 y9 y10 y11 y12 y13 y14 y15 y16 y17 y18 y19 y20 y21 y22 y23, LeO (laws_FnExactTaskNew.j0 k y0 y1 y2 y3 y4 y5 y6 y7 y8 y9 y10 y11 y12 y13 y14 y15 y16 y17 y18 y19 y20 y21 y22 y23) (laws_FnExactTaskNew.j0 (k + 1) y0 y1 y2 y3 y4 y5 y6 y7 y8 y9 y10 y11 y12 y13 y14 y15 y16 y17 y18 y19 y20 y21 y22 y23)) ∧ (∀ y0 y1 y2 y3 y4 y5 y6 y7 y8 y9 y10 y11 y12 y13 y14 y15 y16 y17 y18 y19 y20 y21, LeO (laws_FnExactTaskNew.j1 k y0 y1 y2 y3 y4 y5 y6 y7 y8 y9 y10 y11 y12 y13 y14 y15 y16 y17 y18 y19 y20 y21) (laws_FnExactTaskNew.j1 (k + 1) y0 y1 y2 y3 y4 y5 y6 y7 y8 y9 y10 y11 y12 y13 y14 y15 y16 y17 y18 y19 y20 y21)) ∧ (∀ y0 y1 y2 y3 y4 y5 y6 y7 y8 y9 y10, LeO (laws_FnExactTaskNew.j2 k y0 y1 y2 y3 y4 y5 y6 y7 y8 y9 y10) (laws_FnExactTaskNew.j2 (k + 1) y0 y1 y2 y3 y4 y5 y6 y7 y8 y9 y10))
  | 0 => ⟨fun _ _ _ _ _ _ _ _ _ _ _ _ _ _ _ _ _ _ _ _ _ _ _ _ r h => by simp [laws_FnExactTaskNew.j0] at h, fun _ _ _ _ _ _ _ _ _ _ _ _ _ _ _ _ _ _ _ _ _ _ r h => by simp [laws_FnExactTaskNew.j1] at h, fun _ _ _ _ _ _ _ _ _ _ _ r h => by simp [laws_FnExactTaskNew.j2] at h⟩
  | k + 1 => by
    obtain ⟨ih0, ih1, ih2⟩ := laws_FnExactTaskNew.mono_l k
    refine ⟨?_, ?_, ?_⟩
    · intro y0 y1 y2 y3 y4 y5 y6 y7 y8 y9 y10 y11 y12 y13 y14 y15 y16 y17 y18 y19 y20 y21 y22 y23
      unfold laws_FnExactTaskNew.j0
      repeat' first
      | (with_reducible exact ih0 _ _ _ _ _ _ _ _ _ _ _ _ _ _ _ _ _ _ _ _ _ _ _ _)
      | (with_reducible exact ih1 _ _ _ _ _ _ _ _ _ _ _ _ _ _ _ _ _ _ _ _ _ _)
      | (with_reducible exact ih2 _ _ _ _ _ _ _ _ _ _ _)
      | (with_reducible exact laws_eqByteS.mono _ _ _)
      | (with_reducible exact laws_eqTask.mono _ _ _ _ _ _ _ _ _ _ _ _ _ _ _ _ _ _ _)
      | (with_reducible exact laws_heldTask.mono _ _ _ _ _ _ _ _ _ _ _)
      | (with_reducible exact laws_markByteS.mono _ _ _)
      | (with_reducible exact laws_markTask.mono _ _ _ _ _ _ _ _ _ _ _)
      | (with_reducible exact laws_toByteS.mono _ _)
      | (with_reducible exact LeO.refl _)
      | (with_reducible exact LeO.none _)
      | (with_reducible refine LeO.ite ?_ ?_)
      | (with_reducible refine LeO.bind ?_ (fun _ => ?_))
      | exact ih0 _ _ _ _ _ _ _ _ _ _ _ _ _ _ _ _ _ _ _ _ _ _ _ _
      | exact ih1 _ _ _ _ _ _ _ _ _ _ _ _ _ _ _ _ _ _ _ _ _ _
      | exact ih2 _ _ _ _ _ _ _ _ _ _ _
      | exact laws_eqByteS.mono _ _ _
      | exact laws_eqTask.mono _ _ _ _ _ _ _ _ _ _ _ _ _ _ _ _ _ _ _
      | exact laws_heldTask.mono _ _ _ _ _ _ _ _ _ _ _
      | exact laws_markByteS.mono _ _ _
      | exact laws_markTask.mono _ _ _ _ _ _ _ _ _ _ _
      | exact laws_toByteS.mono _ _
      | exact LeO.none _
      | refine LeO.ite ?_ ?_
      | refine LeO.bind ?_ (fun _ => ?_)
    · intro y0 y1 y2 y3 y4 y5 y6 y7 y8 y9 y10 y11 y12 y13 y14 y15 y16 y17 y18 y19 y20 y21
      unfold laws_FnExactTaskNew.j1
      repeat' first
      | (with_reducible exact ih0 _ _ _ _ _ _ _ _ _ _ _ _ _ _ _ _ _ _ _ _ _ _ _ _)
      | (with_reducible exact ih1 _ _ _ _ _ _ _ _ _ _ _ _ _ _ _ _ _ _ _ _ _ _)
      | (with_reducible exact ih2 _ _ _ _ _ _ _ _ _ _ _)
      | (with_reducible exact laws_eqByteS.mono _ _ _)
      | (with_reducible exact laws_eqTask.mono _ _ _ _ _ _ _ _ _ _ _ _ _ _ _ _ _ _ _)
      | (with_reducible exact laws_heldTask.mono _ _ _ _ _ _ _ _ _ _ _)
      | (with_reducible exact laws_markByteS.mono _ _ _)
      | (with_reducible exact laws_markTask.mono _ _ _ _ _ _ _ _ _ _ _)
      | (with_reducible exact laws_toByteS.mono _ _)
      | (with_reducible exact LeO.refl _)
      | (with_reducible exact LeO.none _)
      | (with_reducible refine LeO.ite ?_ ?_)
      | (with_reducible refine LeO.bind ?_ (fun _ => ?_))
      | exact ih0 _ _ _ _ _ _ _ _ _ _ _ _ _ _ _ _ _ _ _ _ _ _ _ _
      | exact ih1 _ _ _ _ _ _ _ _ _ _ _ _ _ _ _ _ _ _ _ _ _ _
      | exact ih2 _ _ _ _ _ _ _ _ _ _ _
      | exact laws_eqByteS.mono _ _ _
      | exact laws_eqTask.mono _ _ _ _ _ _ _ _ _ _ _ _ _ _ _ _ _ _ _
      | exact laws_heldTask.mono _ _ _ _ _ _ _ _ _ _ _
      | exact laws_markByteS.mono _ _ _
      | exact laws_markTask.mono _ _ _ _ _ _ _ _ _ _ _
      | exact laws_toByteS.mono _ _
      | exact LeO.none _
      | refine LeO.ite ?_ ?_
      | refine LeO.bind ?_ (fun _ => ?_)
    · intro y0 y1 y2 y3 y4 y5 y6 y7 y8 y9 y10
      unfold laws_FnExactTaskNew.j2
      repeat' first
      | (with_reducible exact ih0 _ _ _ _ _ _ _ _ _ _ _ _ _ _ _ _ _ _ _ _ _ _ _ _)
      | (with_reducible exact ih1 _ _ _ _ _ _ _ _ _ _ _ _ _ _ _ _ _ _ _ _ _ _)
      | (with_reducible exact ih2 _ _ _ _ _ _ _ _ _ _ _)
      | (with_reducible exact laws_eqByteS.mono _ _ _)
      | (with_reducible exact laws_eqTask.mono _ _ _ _ _ _ _ _ _ _ _ _ _ _ _ _ _ _ _)
      | (with_reducible exact laws_heldTask.mono _ _ _ _ _ _ _ _ _ _ _)
      | (with_reducible exact laws_markByteS.mono _ _ _)
      | (with_reducible exact laws_markTask.mono _ _ _ _ _ _ _ _ _ _ _)
      | (with_reducible exact laws_toByteS.mono _ _)
      | (with_reducible exact LeO.refl _)
      | (with_reducible exact LeO.none _)
      | (with_reducible refine LeO.ite ?_ ?_)
      | (with_reducible refine LeO.bind ?_ (fun _ => ?_))
      | exact ih0 _ _ _ _ _ _ _ _ _ _ _ _ _ _ _ _ _ _ _ _ _ _ _ _
      | exact ih1 _ _ _ _ _ _ _ _ _ _ _ _ _ _ _ _ _ _ _ _ _ _
      | exact ih2 _ _ _ _ _ _ _ _ _ _ _
      | exact laws_eqByteS.mono _ _ _
      | exact laws_eqTask.mono _ _ _ _ _ _ _ _ _ _ _ _ _ _ _ _ _ _ _
      | exact laws_heldTask.mono _ _ _ _ _ _ _ _ _ _ _
      | exact laws_markByteS.mono _ _ _
      | exact laws_markTask.mono _ _ _ _ _ _ _ _ _ _ _
      | exact laws_toByteS.mono _ _
      | exact LeO.none _
      | refine LeO.ite ?_ ?_
      | refine LeO.bind ?_ (fun _ => ?_)
theorem laws_FnExactTaskNew.mono : ∀ a0 a1 k, LeO (laws_FnExactTaskNew.f k a0 a1) (laws_FnExactTaskNew.f (k + 1) a0 a1) := by
  intro a0 a1 k
  obtain ⟨ih0, ih1, ih2⟩ := laws_FnExactTaskNew.mono_l k
  unfold laws_FnExactTaskNew.f
  repeat' first
      | (with_reducible exact ih0 _ _ _ _ _ _ _ _ _ _ _ _ _ _ _ _ _ _ _ _ _ _ _ _)
      | (with_reducible exact ih1 _ _ _ _ _ _ _ _ _ _ _ _ _ _ _ _ _ _ _ _ _ _)
      | (with_reducible exact ih2 _ _ _ _ _ _ _ _ _ _ _)
      | (with_reducible exact laws_eqByteS.mono _ _ _)
      | (with_reducible exact laws_eqTask.mono _ _ _ _ _ _ _ _ _ _ _ _ _ _ _ _ _ _ _)
      | (with_reducible exact laws_heldTask.mono _ _ _ _ _ _ _ _ _ _ _)
      | (with_reducible exact laws_markByteS.mono _ _ _)
      | (with_reducible exact laws_markTask.mono _ _ _ _ _ _ _ _ _ _ _)
      | (with_reducible exact laws_toByteS.mono _ _)
      | (with_reducible exact LeO.refl _)
      | (with_reducible exact LeO.none _)
      | (with_reducible refine LeO.ite ?_ ?_)
      | (with_reducible refine LeO.bind ?_ (fun _ => ?_))
      | exact ih0 _ _ _ _ _ _ _ _ _ _ _ _ _ _ _ _ _ _ _ _ _ _ _ _
      | exact ih1 _ _ _ _ _ _ _ _ _ _ _ _ _ _ _ _ _ _ _ _ _ _
      | exact ih2 _ _ _ _ _ _ _ _ _ _ _
      | exact laws_eqByteS.mono _ _ _
      | exact laws_eqTask.mono _ _ _ _ _ _ _ _ _ _ _ _ _ _ _ _ _ _ _
      | exact laws_heldTask.mono _ _ _ _ _ _ _ _ _ _ _
      | exact laws_markByteS.mono _ _ _
      | exact laws_markTask.mono _ _ _ _ _ _ _ _ _ _ _
      | exact laws_toByteS.mono _ _
      | exact LeO.none _
      | refine LeO.ite ?_ ?_
      | refine LeO.bind ?_ (fun _ => ?_)
set_option maxHeartbeats 8000000 in
set_option maxRecDepth 100000 in
theorem laws_FnExactTaskNew.calls (k : Nat) (A0 : Option Addr) (c0 : Nat) (l0 : List Int) (a1 : Int) (r : Bool) (w : World) (hr0 : Kd.C (Kd.int .u8) w A0 l0.length l0) (hc0 : l0.length ≤ c0) (h : laws_FnExactTaskNew.f k l0 a1 = some true) :
    Calls Try.prog 10 #[.slice A0 l0.length c0, .int .i64 a1] w fun e w' => e = .returned (.bool true) ∧ Below w.heap.size w w' := by
  have hu36 := Try.underlying36
  have HR0 := Aside0.mk hr0
  have HC0 := Aside0.mk hc0
  clear hr0 hc0
  have HB := Aside0.mk (Below.refl w.heap.size w)
  have H : (if (l0.length : Int) > 1048576 then (some true) else ((laws_toByteS.f k l0).bind fun t151 => ((spec_TaskNew.f t151 a1).bind fun bt154 => ((laws_toByteS.f k l0).bind fun t171 => ((impl_TaskNew.f t171 a1).bind fun bt174 => ((laws_eqTask.f k bt174.1 bt174.2.1 bt174.2.2.1 bt174.2.2.2.1 bt174.2.2.2.2.1 bt174.2.2.2.2.2.1 bt174.2.2.2.2.2.2.1 bt174.2.2.2.2.2.2.2.1 bt174.2.2.2.2.2.2.2.2.1 bt154.1 bt154.2.1 bt154.2.2.1 bt154.2.2.2.1 bt154.2.2.2.2.1 bt154.2.2.2.2.2.1 bt154.2.2.2.2.2.2.1 bt154.2.2.2.2.2.2.2.1 bt154.2.2.2.2.2.2.2.2.1).bind fun t191 => (if t191 = true then (laws_FnExactTaskNew.j0 k l0 a1 bt154.2.2.2.2.2.2.2.2.2 t171 bt174.2.2.2.2.2.2.2.2.2 (bt174.2.2.2.2.2.2.2.2.2 != bt154.2.2.2.2.2.2.2.2.2) bt154.1 bt154.2.1 bt154.2.2.1 bt154.2.2.2.1 bt154.2.2.2.2.1 bt154.2.2.2.2.2.1 bt154.2.2.2.2.2.2.1 bt154.2.2.2.2.2.2.2.1 bt154.2.2.2.2.2.2.2.2.1 bt174.1 bt174.2.1 bt174.2.2.1 bt174.2.2.2.1 bt174.2.2.2.2.1 bt174.2.2.2.2.2.1 bt174.2.2.2.2.2.2.1 bt174.2.2.2.2.2.2.2.1 bt174.2.2.2.2.2.2.2.2.1) else (laws_FnExactTaskNew.j0 k l0 a1 bt154.2.2.2.2.2.2.2.2.2 t171 bt174.2.2.2.2.2.2.2.2.2 true bt154.1 bt154.2.1 bt154.2.2.1 bt154.2.2.2.1 bt154.2.2.2.2.1 bt154.2.2.2.2.2.1 bt154.2.2.2.2.2.2.1 bt154.2.2.2.2.2.2.2.1 bt154.2.2.2.2.2.2.2.2.1 bt174.1 bt174.2.1 bt174.2.2.1 bt174.2.2.2.1 bt174.2.2.2.2.1 bt174.2.2.2.2.2.1 bt174.2.2.2.2.2.2.1 bt174.2.2.2.2.2.2.2.1 bt174.2.2.2.2.2.2.2.2.1)))))))) = some true := h
  clear h
  by_cases c3 : (l0.length : Int) > 1048576
  · rw [if_pos c3] at H
    have c3b0 : decide (1048576 < (l0.length : Int)) = true := decide_eq_true c3
    have c3b1 : decide (1048576 < l0.length) = true := decide_eq_true (by omega)
    clear c3
    clear H
    go_enter Try.func10, Try.ntmps10
    go_wp2
    go_ret
    exact ⟨by first | rfl | (simp [errW_none, errW_some] <;> rfl) | (simp [*, errW_none, errW_some] <;> rfl), bl_⟩
  · rw [if_neg c3] at H
    have c3b0 : decide (1048576 < (l0.length : Int)) = false := decide_eq_false c3
    have c3b1 : decide (1048576 < l0.length) = false := decide_eq_false (by omega)
    clear c3
    replace H := Option.bind_eq_some_iff.mp H
    obtain ⟨t151, A40, H⟩ := H
    replace H : ((spec_TaskNew.f t151 a1).bind fun bt154 => ((laws_toByteS.f k l0).bind fun t171 => ((impl_TaskNew.f t171 a1).bind fun bt174 => ((laws_eqTask.f k bt174.1 bt174.2.1 bt174.2.2.1 bt174.2.2.2.1 bt174.2.2.2.2.1 bt174.2.2.2.2.2.1 bt174.2.2.2.2.2.2.1 bt174.2.2.2.2.2.2.2.1 bt174.2.2.2.2.2.2.2.2.1 bt154.1 bt154.2.1 bt154.2.2.1 bt154.2.2.2.1 bt154.2.2.2.2.1 bt154.2.2.2.2.2.1 bt154.2.2.2.2.2.2.1 bt154.2.2.2.2.2.2.2.1 bt154.2.2.2.2.2.2.2.2.1).bind fun t191 => (if t191 = true then (laws_FnExactTaskNew.j0 k l0 a1 bt154.2.2.2.2.2.2.2.2.2 t171 bt174.2.2.2.2.2.2.2.2.2 (bt174.2.2.2.2.2.2.2.2.2 != bt154.2.2.2.2.2.2.2.2.2) bt154.1 bt154.2.1 bt154.2.2.1 bt154.2.2.2.1 bt154.2.2.2.2.1 bt154.2.2.2.2.2.1 bt154.2.2.2.2.2.2.1 bt154.2.2.2.2.2.2.2.1 bt154.2.2.2.2.2.2.2.2.1 bt174.1 bt174.2.1 bt174.2.2.1 bt174.2.2.2.1 bt174.2.2.2.2.1 bt174.2.2.2.2.2.1 bt174.2.2.2.2.2.2.1 bt174.2.2.2.2.2.2.2.1 bt174.2.2.2.2.2.2.2.2.1) else (laws_FnExactTaskNew.j0 k l0 a1 bt154.2.2.2.2.2.2.2.2.2 t171 bt174.2.2.2.2.2.2.2.2.2 true bt154.1 bt154.2.1 bt154.2.2.1 bt154.2.2.2.1 bt154.2.2.2.2.1 bt154.2.2.2.2.2.1 bt154.2.2.2.2.2.2.1 bt154.2.2.2.2.2.2.2.1 bt154.2.2.2.2.2.2.2.2.1 bt174.1 bt174.2.1 bt174.2.2.1 bt174.2.2.2.1 bt174.2.2.2.2.1 bt174.2.2.2.2.2.1 bt174.2.2.2.2.2.2.1 bt174.2.2.2.2.2.2.2.1 bt174.2.2.2.2.2.2.2.2.1)))))) = some true := H
    have A4 := Aside0.mk A40
    clear A40
    replace H := Option.bind_eq_some_iff.mp H
    obtain ⟨⟨t154, t157, t158, t161, t162, t163, t164, t165, t166, t169⟩, A50, H⟩ := H
    replace H : ((laws_toByteS.f k l0).bind fun t171 => ((impl_TaskNew.f t171 a1).bind fun bt174 => ((laws_eqTask.f k bt174.1 bt174.2.1 bt174.2.2.1 bt174.2.2.2.1 bt174.2.2.2.2.1 bt174.2.2.2.2.2.1 bt174.2.2.2.2.2.2.1 bt174.2.2.2.2.2.2.2.1 bt174.2.2.2.2.2.2.2.2.1 t154 t157 t158 t161 t162 t163 t164 t165 t166).bind fun t191 => (if t191 = true then (laws_FnExactTaskNew.j0 k l0 a1 t169 t171 bt174.2.2.2.2.2.2.2.2.2 (bt174.2.2.2.2.2.2.2.2.2 != t169) t154 t157 t158 t161 t162 t163 t164 t165 t166 bt174.1 bt174.2.1 bt174.2.2.1 bt174.2.2.2.1 bt174.2.2.2.2.1 bt174.2.2.2.2.2.1 bt174.2.2.2.2.2.2.1 bt174.2.2.2.2.2.2.2.1 bt174.2.2.2.2.2.2.2.2.1) else (laws_FnExactTaskNew.j0 k l0 a1 t169 t171 bt174.2.2.2.2.2.2.2.2.2 true t154 t157 t158 t161 t162 t163 t164 t165 t166 bt174.1 bt174.2.1 bt174.2.2.1 bt174.2.2.2.1 bt174.2.2.2.2.1 bt174.2.2.2.2.2.1 bt174.2.2.2.2.2.2.1 bt174.2.2.2.2.2.2.2.1 bt174.2.2.2.2.2.2.2.2.1))))) = some true := H
    have A5 := Aside0.mk A50
    clear A50
    replace H := Option.bind_eq_some_iff.mp H
    obtain ⟨t171, A60, H⟩ := H
    replace H : ((impl_TaskNew.f t171 a1).bind fun bt174 => ((laws_eqTask.f k bt174.1 bt174.2.1 bt174.2.2.1 bt174.2.2.2.1 bt174.2.2.2.2.1 bt174.2.2.2.2.2.1 bt174.2.2.2.2.2.2.1 bt174.2.2.2.2.2.2.2.1 bt174.2.2.2.2.2.2.2.2.1 t154 t157 t158 t161 t162 t163 t164 t165 t166).bind fun t191 => (if t191 = true then (laws_FnExactTaskNew.j0 k l0 a1 t169 t171 bt174.2.2.2.2.2.2.2.2.2 (bt174.2.2.2.2.2.2.2.2.2 != t169) t154 t157 t158 t161 t162 t163 t164 t165 t166 bt174.1 bt174.2.1 bt174.2.2.1 bt174.2.2.2.1 bt174.2.2.2.2.1 bt174.2.2.2.2.2.1 bt174.2.2.2.2.2.2.1 bt174.2.2.2.2.2.2.2.1 bt174.2.2.2.2.2.2.2.2.1) else (laws_FnExactTaskNew.j0 k l0 a1 t169 t171 bt174.2.2.2.2.2.2.2.2.2 true t154 t157 t158 t161 t162 t163 t164 t165 t166 bt174.1 bt174.2.1 bt174.2.2.1 bt174.2.2.2.1 bt174.2.2.2.2.1 bt174.2.2.2.2.2.1 bt174.2.2.2.2.2.2.1 bt174.2.2.2.2.2.2.2.1 bt174.2.2.2.2.2.2.2.2.1)))) = some true := H
    have A6 := Aside0.mk A60
    clear A60
    replace H := Option.bind_eq_some_iff.mp H
    obtain ⟨⟨t174, t177, t178, t181, t182, t183, t184, t185, t186, t189⟩, A70, H⟩ := H
    replace H : ((laws_eqTask.f k t174 t177 t178 t181 t182 t183 t184 t185 t186 t154 t157 t158 t161 t162 t163 t164 t165 t166).bind fun t191 => (if t191 = true then (laws_FnExactTaskNew.j0 k l0 a1 t169 t171 t189 (t189 != t169) t154 t157 t158 t161 t162 t163 t164 t165 t166 t174 t177 t178 t181 t182 t183 t184 t185 t186) else (laws_FnExactTaskNew.j0 k l0 a1 t169 t171 t189 true t154 t157 t158 t161 t162 t163 t164 t165 t166 t174 t177 t178 t181 t182 t183 t184 t185 t186))) = some true := H
    have A7 := Aside0.mk A70
    clear A70
    have HC8 := Aside0.mk H
    clear H
    go_enter Try.func10, Try.ntmps10
    go_upto_region 6 with (first | ((with_reducible refine gate_callee (f := 39) rfl ?_); refine goesL_ (some 20) rfl rfl Try.func39 (by kernel_rfl) rfl #[.slice A0 l0.length c0] rfl gl_ ?_; (with_reducible refine (laws_toByteS.calls k _ _ l0 t151 _ ?side1 ?side2 A4.out).mono ?_); (case side1 => exact ca_ (HR0.out)); (case side2 => exact HC0.out); rintro e w9 ⟨v152, rfl, ho0, hb⟩; refine ⟨_, rfl, ?_⟩; have n0_ := Aside0.mk (Kd.R_lower ho0 (below_size bl_)); have n1_ := Aside0.mk (below_step bl_ hb); clear HB; have HO153 := n0_; have HB := n1_; clear n0_ n1_; (try clear hb); (try clear hb2); (try clear hk); (try clear hi); (try clear ho0); obtain ⟨Ao10, co10, eo10⟩ := Kd.R_slice HO153.out; subst eo10) | ((with_reducible refine gate_callee (f := 38) rfl ?_); refine goesL_ (some 22) rfl rfl Try.func38 (by kernel_rfl) rfl #[.slice Ao10 t151.length co10, .int .i64 a1] rfl gl_ ?_; (with_reducible refine (spec_TaskNew.calls _ _ t151 a1 t154 t157 t158 t161 t162 t163 t164 t165 t166 t169 _ ?side1 ?side2 A5.out).mono ?_); (case side1 => exact ca_ ((Kd.R_reads' HO153.out).2.2)); (case side2 => exact (Kd.R_reads' HO153.out).2.1); rintro e w11 ⟨v155, v159, v167, rfl, ho0, ho1, ho2, hb⟩; refine ⟨_, rfl, ?_⟩; have n0_ := Aside0.mk (Kd.R_mono (Kd.R_told (Kd.R_told (Kd.R_old (ra_ HO153) hb) (Kd.R_base ho0)) (Kd.R_base ho2)) (fun _ h_ => h_.1)); have n1_ := Aside0.mk (Kd.R_lower (Kd.R_new' ho0 (Kd.R_lt (ra_ HO153))) (below_size bl_)); have n2_ := Aside0.mk (Kd.R_lower ho1 (below_size bl_)); have n3_ := Aside0.mk (Kd.R_lower (Kd.R_new' ho2 (Kd.R_lt (ra_ HO153))) (below_size bl_)); have n4_ := Aside0.mk (below_step bl_ hb); clear HO153; clear HB; have HO153 := n0_; have HO156 := n1_; have HO160 := n2_; have HO168 := n3_; have HB := n4_; clear n0_ n1_ n2_ n3_ n4_; (try clear hb); (try clear hb2); (try clear hk); (try clear hi); (try clear ho0); (try clear ho1); (try clear ho2)) | ((with_reducible refine gate_dst (N := 5) rfl ?_); refine box_event ?hg (N := 5) ?hd (cs := #[.slice none 0 0, .int .i64 0, .slice none 0 0, .int .i64 0, .int .i64 0, .int .i64 0, .int .i64 0, .int .i64 0, .slice none 0 0]) (t := 36) ?hr ?_; (case hd => rfl); (case hg => rfl); (case hr => first | (go_simp; done) | (go_simp; rfl)); intro gb170 hg w12 hbox hb; have n0_ := Aside0.mk (Kd.R_below (ra_ HO153) hb); have n1_ := Aside0.mk (Kd.R_below (ra_ HO156) hb); have n2_ := Aside0.mk (Kd.R_below (ra_ HO160) hb); have n3_ := Aside0.mk (Kd.R_below (ra_ HO168) hb); have n4_ := Aside0.mk (below_step bl_ hb); have n5_ := Aside0.mk (hbox); have n6_ := Aside0.mk ((by rw [hg]; exact (below_size bl_) : w.heap.size ≤ gb170)); have n7_ := Aside0.mk ((by rw [hg]; exact (below_size bl_) : w.heap.size ≤ gb170)); clear HO153; clear HO156; clear HO160; clear HO168; clear HB; have HO153 := n0_; have HO156 := n1_; have HO160 := n2_; have HO168 := n3_; have HB := n4_; have BK170 := n5_; have GW170 := n6_; have GE170 := n7_; clear n0_ n1_ n2_ n3_ n4_ n5_ n6_ n7_; clear hb hbox hg; obtain ⟨Ao13, co13, eo13⟩ := Kd.R_slice HO156.out; subst eo13; have hcz14_0 : w12.cell? ⟨gb170, 0, none⟩ = some (.slice none 0 0) := (blk_cell BK170.out 0).trans rfl; have hcz14_1 : w12.cell? ⟨gb170, 1, none⟩ = some (.int .i64 0) := (blk_cell BK170.out 1).trans rfl; have hcz14_2 : w12.cell? ⟨gb170, 2, none⟩ = some (.slice none 0 0) := (blk_cell BK170.out 2).trans rfl; have hcz14_3 : w12.cell? ⟨gb170, 3, none⟩ = some (.int .i64 0) := (blk_cell BK170.out 3).trans rfl; have hcz14_4 : w12.cell? ⟨gb170, 4, none⟩ = some (.int .i64 0) := (blk_cell BK170.out 4).trans rfl; have hcz14_5 : w12.cell? ⟨gb170, 5, none⟩ = some (.int .i64 0) := (blk_cell BK170.out 5).trans rfl; have hcz14_6 : w12.cell? ⟨gb170, 6, none⟩ = some (.int .i64 0) := (blk_cell BK170.out 6).trans rfl; have hcz14_7 : w12.cell? ⟨gb170, 7, none⟩ = some (.int .i64 0) := (blk_cell BK170.out 7).trans rfl; have hcz14_8 : w12.cell? ⟨gb170, 8, none⟩ = some (.slice none 0 0) := (blk_cell BK170.out 8).trans rfl; have hfz14_0 := blk_frozen BK170.out 0; have hfz14_1 := blk_frozen BK170.out 1; have hfz14_2 := blk_frozen BK170.out 2; have hfz14_3 := blk_frozen BK170.out 3; have hfz14_4 := blk_frozen BK170.out 4; have hfz14_5 := blk_frozen BK170.out 5; have hfz14_6 := blk_frozen BK170.out 6; have hfz14_7 := blk_frozen BK170.out 7; have hfz14_8 := blk_frozen BK170.out 8; obtain ⟨Ao15, co15, eo15⟩ := Kd.R_slice HO160.out; subst eo15; obtain ⟨Ao16, co16, eo16⟩ := Kd.R_slice HO168.out; subst eo16) | ((with_reducible refine gate_callee (f := 39) rfl ?_); refine goesL_ (some 26) rfl rfl Try.func39 (by kernel_rfl) rfl #[.slice A0 l0.length c0] rfl gl_ ?_; (with_reducible refine (laws_toByteS.calls k _ _ l0 t171 _ ?side1 ?side2 A6.out).mono ?_); (case side1 => exact Kd.C_below HR0.out bl_); (case side2 => exact HC0.out); rintro e w17 ⟨v172, rfl, ho0, hb⟩; refine ⟨_, rfl, ?_⟩; have n0_ := Aside0.mk (Kd.R_elder' (by (with_reducible repeat (first | apply Kd.R_alloc | apply Kd.R_drewN | apply Kd.R_drew)); exact (Kd.R_mono (Kd.R_far (p := ⟨gb170, 8, none⟩) (Kd.R_far (p := ⟨gb170, 7, none⟩) (Kd.R_far (p := ⟨gb170, 6, none⟩) (Kd.R_far (p := ⟨gb170, 5, none⟩) (Kd.R_far (p := ⟨gb170, 4, none⟩) (Kd.R_far (p := ⟨gb170, 3, none⟩) (Kd.R_far (p := ⟨gb170, 2, none⟩) (Kd.R_far (p := ⟨gb170, 1, none⟩) (Kd.R_far (p := ⟨gb170, 0, none⟩) (Kd.R_types HO153.out BK170.out (by decide)) (fun _ hk => hk.2) (.slice Ao13 t154.length co13)) (fun _ hk => hk.2) (.int .i64 t157)) (fun _ hk => hk.2) (.slice Ao15 t158.length co15)) (fun _ hk => hk.2) (.int .i64 t161)) (fun _ hk => hk.2) (.int .i64 t162)) (fun _ hk => hk.2) (.int .i64 t163)) (fun _ hk => hk.2) (.int .i64 t164)) (fun _ hk => hk.2) (.int .i64 t165)) (fun _ hk => hk.2) (.slice Ao16 t166.length co16)) (fun _ h_ => h_.1))) (Kd.R_base ho0) hb); have n1_ := Aside0.mk (Kd.R_elder' (by (with_reducible repeat (first | apply Kd.R_alloc | apply Kd.R_drewN | apply Kd.R_drew)); exact (Kd.R_mono (Kd.R_far (p := ⟨gb170, 8, none⟩) (Kd.R_far (p := ⟨gb170, 7, none⟩) (Kd.R_far (p := ⟨gb170, 6, none⟩) (Kd.R_far (p := ⟨gb170, 5, none⟩) (Kd.R_far (p := ⟨gb170, 4, none⟩) (Kd.R_far (p := ⟨gb170, 3, none⟩) (Kd.R_far (p := ⟨gb170, 2, none⟩) (Kd.R_far (p := ⟨gb170, 1, none⟩) (Kd.R_far (p := ⟨gb170, 0, none⟩) (Kd.R_types HO156.out BK170.out (by decide)) (fun _ hk => hk.2) (.slice Ao13 t154.length co13)) (fun _ hk => hk.2) (.int .i64 t157)) (fun _ hk => hk.2) (.slice Ao15 t158.length co15)) (fun _ hk => hk.2) (.int .i64 t161)) (fun _ hk => hk.2) (.int .i64 t162)) (fun _ hk => hk.2) (.int .i64 t163)) (fun _ hk => hk.2) (.int .i64 t164)) (fun _ hk => hk.2) (.int .i64 t165)) (fun _ hk => hk.2) (.slice Ao16 t166.length co16)) (fun _ h_ => h_.1))) (Kd.R_base ho0) hb); have n2_ := Aside0.mk (Kd.R_below (by (with_reducible repeat (first | apply Kd.R_alloc | apply Kd.R_drewN | apply Kd.R_drew)); exact (Kd.R_mono (Kd.R_far (p := ⟨gb170, 8, none⟩) (Kd.R_far (p := ⟨gb170, 7, none⟩) (Kd.R_far (p := ⟨gb170, 6, none⟩) (Kd.R_far (p := ⟨gb170, 5, none⟩) (Kd.R_far (p := ⟨gb170, 4, none⟩) (Kd.R_far (p := ⟨gb170, 3, none⟩) (Kd.R_far (p := ⟨gb170, 2, none⟩) (Kd.R_far (p := ⟨gb170, 1, none⟩) (Kd.R_far (p := ⟨gb170, 0, none⟩) (Kd.R_types HO160.out BK170.out (by decide)) (fun _ hk => hk.2) (.slice Ao13 t154.length co13)) (fun _ hk => hk.2) (.int .i64 t157)) (fun _ hk => hk.2) (.slice Ao15 t158.length co15)) (fun _ hk => hk.2) (.int .i64 t161)) (fun _ hk => hk.2) (.int .i64 t162)) (fun _ hk => hk.2) (.int .i64 t163)) (fun _ hk => hk.2) (.int .i64 t164)) (fun _ hk => hk.2) (.int .i64 t165)) (fun _ hk => hk.2) (.slice Ao16 t166.length co16)) (fun _ h_ => h_.1))) hb); have n3_ := Aside0.mk (Kd.R_elder' (by (with_reducible repeat (first | apply Kd.R_alloc | apply Kd.R_drewN | apply Kd.R_drew)); exact (Kd.R_mono (Kd.R_far (p := ⟨gb170, 8, none⟩) (Kd.R_far (p := ⟨gb170, 7, none⟩) (Kd.R_far (p := ⟨gb170, 6, none⟩) (Kd.R_far (p := ⟨gb170, 5, none⟩) (Kd.R_far (p := ⟨gb170, 4, none⟩) (Kd.R_far (p := ⟨gb170, 3, none⟩) (Kd.R_far (p := ⟨gb170, 2, none⟩) (Kd.R_far (p := ⟨gb170, 1, none⟩) (Kd.R_far (p := ⟨gb170, 0, none⟩) (Kd.R_types HO168.out BK170.out (by decide)) (fun _ hk => hk.2) (.slice Ao13 t154.length co13)) (fun _ hk => hk.2) (.int .i64 t157)) (fun _ hk => hk.2) (.slice Ao15 t158.length co15)) (fun _ hk => hk.2) (.int .i64 t161)) (fun _ hk => hk.2) (.int .i64 t162)) (fun _ hk => hk.2) (.int .i64 t163)) (fun _ hk => hk.2) (.int .i64 t164)) (fun _ hk => hk.2) (.int .i64 t165)) (fun _ hk => hk.2) (.slice Ao16 t166.length co16)) (fun _ h_ => h_.1))) (Kd.R_base ho0) hb); have n4_ := Aside0.mk (Kd.R_lower (Kd.R_new' (Kd.R_new' (Kd.R_new' ho0 (Kd.R_lt (by (with_reducible repeat (first | apply Kd.R_alloc | apply Kd.R_drewN | apply Kd.R_drew)); exact (Kd.R_mono (Kd.R_far (p := ⟨gb170, 8, none⟩) (Kd.R_far (p := ⟨gb170, 7, none⟩) (Kd.R_far (p := ⟨gb170, 6, none⟩) (Kd.R_far (p := ⟨gb170, 5, none⟩) (Kd.R_far (p := ⟨gb170, 4, none⟩) (Kd.R_far (p := ⟨gb170, 3, none⟩) (Kd.R_far (p := ⟨gb170, 2, none⟩) (Kd.R_far (p := ⟨gb170, 1, none⟩) (Kd.R_far (p := ⟨gb170, 0, none⟩) (Kd.R_types HO153.out BK170.out (by decide)) (fun _ hk => hk.2) (.slice Ao13 t154.length co13)) (fun _ hk => hk.2) (.int .i64 t157)) (fun _ hk => hk.2) (.slice Ao15 t158.length co15)) (fun _ hk => hk.2) (.int .i64 t161)) (fun _ hk => hk.2) (.int .i64 t162)) (fun _ hk => hk.2) (.int .i64 t163)) (fun _ hk => hk.2) (.int .i64 t164)) (fun _ hk => hk.2) (.int .i64 t165)) (fun _ hk => hk.2) (.slice Ao16 t166.length co16)) (fun _ h_ => h_.1))))) (Kd.R_lt (by (with_reducible repeat (first | apply Kd.R_alloc | apply Kd.R_drewN | apply Kd.R_drew)); exact (Kd.R_mono (Kd.R_far (p := ⟨gb170, 8, none⟩) (Kd.R_far (p := ⟨gb170, 7, none⟩) (Kd.R_far (p := ⟨gb170, 6, none⟩) (Kd.R_far (p := ⟨gb170, 5, none⟩) (Kd.R_far (p := ⟨gb170, 4, none⟩) (Kd.R_far (p := ⟨gb170, 3, none⟩) (Kd.R_far (p := ⟨gb170, 2, none⟩) (Kd.R_far (p := ⟨gb170, 1, none⟩) (Kd.R_far (p := ⟨gb170, 0, none⟩) (Kd.R_types HO156.out BK170.out (by decide)) (fun _ hk => hk.2) (.slice Ao13 t154.length co13)) (fun _ hk => hk.2) (.int .i64 t157)) (fun _ hk => hk.2) (.slice Ao15 t158.length co15)) (fun _ hk => hk.2) (.int .i64 t161)) (fun _ hk => hk.2) (.int .i64 t162)) (fun _ hk => hk.2) (.int .i64 t163)) (fun _ hk => hk.2) (.int .i64 t164)) (fun _ hk => hk.2) (.int .i64 t165)) (fun _ hk => hk.2) (.slice Ao16 t166.length co16)) (fun _ h_ => h_.1))))) (Kd.R_lt (by (with_reducible repeat (first | apply Kd.R_alloc | apply Kd.R_drewN | apply Kd.R_drew)); exact (Kd.R_mono (Kd.R_far (p := ⟨gb170, 8, none⟩) (Kd.R_far (p := ⟨gb170, 7, none⟩) (Kd.R_far (p := ⟨gb170, 6, none⟩) (Kd.R_far (p := ⟨gb170, 5, none⟩) (Kd.R_far (p := ⟨gb170, 4, none⟩) (Kd.R_far (p := ⟨gb170, 3, none⟩) (Kd.R_far (p := ⟨gb170, 2, none⟩) (Kd.R_far (p := ⟨gb170, 1, none⟩) (Kd.R_far (p := ⟨gb170, 0, none⟩) (Kd.R_types HO168.out BK170.out (by decide)) (fun _ hk => hk.2) (.slice Ao13 t154.length co13)) (fun _ hk => hk.2) (.int .i64 t157)) (fun _ hk => hk.2) (.slice Ao15 t158.length co15)) (fun _ hk => hk.2) (.int .i64 t161)) (fun _ hk => hk.2) (.int .i64 t162)) (fun _ hk => hk.2) (.int .i64 t163)) (fun _ hk => hk.2) (.int .i64 t164)) (fun _ hk => hk.2) (.int .i64 t165)) (fun _ hk => hk.2) (.slice Ao16 t166.length co16)) (fun _ h_ => h_.1))))) (below_size bl_)); have n5_ := Aside0.mk (blk_below (g := gb170) (o := .cells #[.slice Ao13 t154.length co13, .int .i64 t157, .slice Ao15 t158.length co15, .int .i64 t161, .int .i64 t162, .int .i64 t163, .int .i64 t164, .int .i64 t165, .slice Ao16 t166.length co16] 36 (0, 0)) (by (with_reducible repeat (first | refine blk_drewN ?_ _ | refine blk_drew ?_ | refine blk_alloc ?_ _)); refine blk_put (cs := #[.slice Ao13 t154.length co13, .int .i64 t157, .slice Ao15 t158.length co15, .int .i64 t161, .int .i64 t162, .int .i64 t163, .int .i64 t164, .int .i64 t165, .slice none 0 0]) ?_ 8 _ rfl; (with_reducible repeat (first | refine blk_drewN ?_ _ | refine blk_drew ?_ | refine blk_alloc ?_ _)); refine blk_put (cs := #[.slice Ao13 t154.length co13, .int .i64 t157, .slice Ao15 t158.length co15, .int .i64 t161, .int .i64 t162, .int .i64 t163, .int .i64 t164, .int .i64 0, .slice none 0 0]) ?_ 7 _ rfl; (with_reducible repeat (first | refine blk_drewN ?_ _ | refine blk_drew ?_ | refine blk_alloc ?_ _)); refine blk_put (cs := #[.slice Ao13 t154.length co13, .int .i64 t157, .slice Ao15 t158.length co15, .int .i64 t161, .int .i64 t162, .int .i64 t163, .int .i64 0, .int .i64 0, .slice none 0 0]) ?_ 6 _ rfl; (with_reducible repeat (first | refine blk_drewN ?_ _ | refine blk_drew ?_ | refine blk_alloc ?_ _)); refine blk_put (cs := #[.slice Ao13 t154.length co13, .int .i64 t157, .slice Ao15 t158.length co15, .int .i64 t161, .int .i64 t162, .int .i64 0, .int .i64 0, .int .i64 0, .slice none 0 0]) ?_ 5 _ rfl; (with_reducible repeat (first | refine blk_drewN ?_ _ | refine blk_drew ?_ | refine blk_alloc ?_ _)); refine blk_put (cs := #[.slice Ao13 t154.length co13, .int .i64 t157, .slice Ao15 t158.length co15, .int .i64 t161, .int .i64 0, .int .i64 0, .int .i64 0, .int .i64 0, .slice none 0 0]) ?_ 4 _ rfl; (with_reducible repeat (first | refine blk_drewN ?_ _ | refine blk_drew ?_ | refine blk_alloc ?_ _)); refine blk_put (cs := #[.slice Ao13 t154.length co13, .int .i64 t157, .slice Ao15 t158.length co15, .int .i64 0, .int .i64 0, .int .i64 0, .int .i64 0, .int .i64 0, .slice none 0 0]) ?_ 3 _ rfl; (with_reducible repeat (first | refine blk_drewN ?_ _ | refine blk_drew ?_ | refine blk_alloc ?_ _)); refine blk_put (cs := #[.slice Ao13 t154.length co13, .int .i64 t157, .slice none 0 0, .int .i64 0, .int .i64 0, .int .i64 0, .int .i64 0, .int .i64 0, .slice none 0 0]) ?_ 2 _ rfl; (with_reducible repeat (first | refine blk_drewN ?_ _ | refine blk_drew ?_ | refine blk_alloc ?_ _)); refine blk_put (cs := #[.slice Ao13 t154.length co13, .int .i64 0, .slice none 0 0, .int .i64 0, .int .i64 0, .int .i64 0, .int .i64 0, .int .i64 0, .slice none 0 0]) ?_ 1 _ rfl; (with_reducible repeat (first | refine blk_drewN ?_ _ | refine blk_drew ?_ | refine blk_alloc ?_ _)); refine blk_put (cs := #[.slice none 0 0, .int .i64 0, .slice none 0 0, .int .i64 0, .int .i64 0, .int .i64 0, .int .i64 0, .int .i64 0, .slice none 0 0]) ?_ 0 _ rfl; (with_reducible repeat (first | refine blk_drewN ?_ _ | refine blk_drew ?_ | refine blk_alloc ?_ _)); exact BK170.out) hb); have n6_ := Aside0.mk (below_step bl_ hb); clear HO153; clear HO156; clear HO160; clear HO168; clear BK170; clear HB; have HO153 := n0_; have HO156 := n1_; have HO160 := n2_; have HO168 := n3_; have HO173 := n4_; have BK170 := n5_; have HB := n6_; clear n0_ n1_ n2_ n3_ n4_ n5_ n6_; (try clear hb); (try clear hb2); (try clear hk); (try clear hi); (try clear ho0); obtain ⟨Ao18, co18, eo18⟩ := Kd.R_slice HO173.out; subst eo18) | ((with_reducible refine gate_callee (f := 40) rfl ?_); refine goesL_ (some 30) rfl rfl Try.func40 (by kernel_rfl) rfl #[.slice Ao18 t171.length co18, .int .i64 a1] rfl gl_ ?_; (with_reducible refine (impl_TaskNew.calls _ _ t171 a1 t174 t177 t178 t181 t182 t183 t184 t185 t186 t189 _ ?side1 ?side2 A7.out).mono ?_); (case side1 => exact ca_ ((Kd.R_reads' HO173.out).2.2)); (case side2 => exact (Kd.R_reads' HO173.out).2.1); rintro e w19 ⟨v175, v179, v187, rfl, ho0, ho1, ho2, hb⟩; refine ⟨_, rfl, ?_⟩; have n0_ := Aside0.mk (Kd.R_mono (Kd.R_told (Kd.R_told (Kd.R_old (ra_ HO153) hb) (Kd.R_base ho0)) (Kd.R_base ho2)) (fun _ h_ => h_.1)); have n1_ := Aside0.mk (Kd.R_mono (Kd.R_told (Kd.R_told (Kd.R_old (ra_ HO156) hb) (Kd.R_base ho0)) (Kd.R_base ho2)) (fun _ h_ => h_.1)); have n2_ := Aside0.mk (Kd.R_elder' (ra_ HO160) (Kd.R_base ho1) hb); have n3_ := Aside0.mk (Kd.R_mono (Kd.R_told (Kd.R_told (Kd.R_old (ra_ HO168) hb) (Kd.R_base ho0)) (Kd.R_base ho2)) (fun _ h_ => h_.1)); have n4_ := Aside0.mk (Kd.R_mono (Kd.R_told (Kd.R_told (Kd.R_old (ra_ HO173) hb) (Kd.R_base ho0)) (Kd.R_base ho2)) (fun _ h_ => h_.1)); have n5_ := Aside0.mk (Kd.R_lower (Kd.R_new' (Kd.R_new' (Kd.R_new' (Kd.R_new' ho0 (Kd.R_lt (ra_ HO153))) (Kd.R_lt (ra_ HO156))) (Kd.R_lt (ra_ HO168))) (Kd.R_lt (ra_ HO173))) (below_size bl_)); have n6_ := Aside0.mk (Kd.R_lower (Kd.R_new' ho1 (Kd.R_lt (ra_ HO160))) (below_size bl_)); have n7_ := Aside0.mk (Kd.R_lower (Kd.R_new' (Kd.R_new' (Kd.R_new' (Kd.R_new' ho2 (Kd.R_lt (ra_ HO153))) (Kd.R_lt (ra_ HO156))) (Kd.R_lt (ra_ HO168))) (Kd.R_lt (ra_ HO173))) (below_size bl_)); have n8_ := Aside0.mk (blk_below (bk_ BK170) hb); have n9_ := Aside0.mk (below_step bl_ hb); clear HO153; clear HO156; clear HO160; clear HO168; clear HO173; clear BK170; clear HB; have HO153 := n0_; have HO156 := n1_; have HO160 := n2_; have HO168 := n3_; have HO173 := n4_; have HO176 := n5_; have HO180 := n6_; have HO188 := n7_; have BK170 := n8_; have HB := n9_; clear n0_ n1_ n2_ n3_ n4_ n5_ n6_ n7_ n8_ n9_; (try clear hb); (try clear hb2); (try clear hk); (try clear hi); (try clear ho0); (try clear ho1); (try clear ho2)) | ((with_reducible refine gate_dst (N := 8) rfl ?_); refine box_event ?hg (N := 8) ?hd (cs := #[.slice none 0 0, .int .i64 0, .slice none 0 0, .int .i64 0, .int .i64 0, .int .i64 0, .int .i64 0, .int .i64 0, .slice none 0 0]) (t := 36) ?hr ?_; (case hd => rfl); (case hg => rfl); (case hr => first | (go_simp; done) | (go_simp; rfl)); intro gb190 hg w20 hbox hb; have n0_ := Aside0.mk (Kd.R_below (ra_ HO153) hb); have n1_ := Aside0.mk (Kd.R_below (ra_ HO156) hb); have n2_ := Aside0.mk (Kd.R_below (ra_ HO160) hb); have n3_ := Aside0.mk (Kd.R_below (ra_ HO168) hb); have n4_ := Aside0.mk (Kd.R_below (ra_ HO173) hb); have n5_ := Aside0.mk (Kd.R_below (ra_ HO176) hb); have n6_ := Aside0.mk (Kd.R_below (ra_ HO180) hb); have n7_ := Aside0.mk (Kd.R_below (ra_ HO188) hb); have n8_ := Aside0.mk (blk_below (bk_ BK170) hb); have n9_ := Aside0.mk (below_step bl_ hb); have n10_ := Aside0.mk (hbox); have n11_ := Aside0.mk ((by rw [hg]; exact (below_size bl_) : w.heap.size ≤ gb190)); have n12_ := Aside0.mk ((by rw [hg]; exact (below_size bl_) : w.heap.size ≤ gb190)); have n13_ := Aside0.mk ((by rw [hg]; exact Nat.ne_of_lt (blk_lt (bk_ BK170)) : gb170 ≠ gb190)); have n14_ := Aside0.mk ((by rw [hg]; exact Nat.ne_of_gt (blk_lt (bk_ BK170)) : gb190 ≠ gb170)); clear HO153; clear HO156; clear HO160; clear HO168; clear HO173; clear HO176; clear HO180; clear HO188; clear BK170; clear HB; have HO153 := n0_; have HO156 := n1_; have HO160 := n2_; have HO168 := n3_; have HO173 := n4_; have HO176 := n5_; have HO180 := n6_; have HO188 := n7_; have BK170 := n8_; have HB := n9_; have BK190 := n10_; have GW190 := n11_; have GE190 := n12_; have NB170_190 := n13_; have NB190_170 := n14_; clear n0_ n1_ n2_ n3_ n4_ n5_ n6_ n7_ n8_ n9_ n10_ n11_ n12_ n13_ n14_; clear hb hbox hg; obtain ⟨Ao21, co21, eo21⟩ := Kd.R_slice HO176.out; subst eo21; have hnb22 := NB190_170.out; have hnc22 := NB170_190.out; have hcz23_0 : w20.cell? ⟨gb190, 0, none⟩ = some (.slice none 0 0) := (blk_cell BK190.out 0).trans rfl; have hcz23_1 : w20.cell? ⟨gb190, 1, none⟩ = some (.int .i64 0) := (blk_cell BK190.out 1).trans rfl; have hcz23_2 : w20.cell? ⟨gb190, 2, none⟩ = some (.slice none 0 0) := (blk_cell BK190.out 2).trans rfl; have hcz23_3 : w20.cell? ⟨gb190, 3, none⟩ = some (.int .i64 0) := (blk_cell BK190.out 3).trans rfl; have hcz23_4 : w20.cell? ⟨gb190, 4, none⟩ = some (.int .i64 0) := (blk_cell BK190.out 4).trans rfl; have hcz23_5 : w20.cell? ⟨gb190, 5, none⟩ = some (.int .i64 0) := (blk_cell BK190.out 5).trans rfl; have hcz23_6 : w20.cell? ⟨gb190, 6, none⟩ = some (.int .i64 0) := (blk_cell BK190.out 6).trans rfl; have hcz23_7 : w20.cell? ⟨gb190, 7, none⟩ = some (.int .i64 0) := (blk_cell BK190.out 7).trans rfl; have hcz23_8 : w20.cell? ⟨gb190, 8, none⟩ = some (.slice none 0 0) := (blk_cell BK190.out 8).trans rfl; have hfz23_0 := blk_frozen BK190.out 0; have hfz23_1 := blk_frozen BK190.out 1; have hfz23_2 := blk_frozen BK190.out 2; have hfz23_3 := blk_frozen BK190.out 3; have hfz23_4 := blk_frozen BK190.out 4; have hfz23_5 := blk_frozen BK190.out 5; have hfz23_6 := blk_frozen BK190.out 6; have hfz23_7 := blk_frozen BK190.out 7; have hfz23_8 := blk_frozen BK190.out 8; obtain ⟨Ao24, co24, eo24⟩ := Kd.R_slice HO180.out; subst eo24; obtain ⟨Ao25, co25, eo25⟩ := Kd.R_slice HO188.out; subst eo25))
    (try simp only [Act.put, List.setIfInBounds_toArray, List.set_cons_zero, List.set_cons_succ])
    go_cut [41] (fun v41 wc => ∃ (kq : Nat) (x41_7 : Bool), v41 = .bool x41_7 ∧ Aside0 (laws_FnExactTaskNew.j0 kq l0 a1 t169 t171 t189 x41_7 t154 t157 t158 t161 t162 t163 t164 t165 t166 t174 t177 t178 t181 t182 t183 t184 t185 t186 = some true) ∧ Aside0 (kq ≤ k) ∧ Aside0 (Kd.R (Kd.int .u8) 5 wc w.heap.size (fun k_ => some k_ ≠ ((.slice Ao13 t154.length co13) : Value).ownBlock ∧ some k_ ≠ ((.slice Ao16 t166.length co16) : Value).ownBlock ∧ some k_ ≠ ((.slice Ao21 t174.length co21) : Value).ownBlock ∧ some k_ ≠ ((.slice Ao25 t186.length co25) : Value).ownBlock) (.slice Ao18 t171.length co18) t171) ∧ Aside0 (Kd.R (Kd.int .u8) 5 wc w.heap.size (fun k_ => some k_ ≠ ((.slice Ao18 t171.length co18) : Value).ownBlock ∧ some k_ ≠ ((.slice Ao16 t166.length co16) : Value).ownBlock ∧ some k_ ≠ ((.slice Ao21 t174.length co21) : Value).ownBlock ∧ some k_ ≠ ((.slice Ao25 t186.length co25) : Value).ownBlock) (.slice Ao13 t154.length co13) t154) ∧ Aside0 (Kd.R (Kd.int .i64) 3 wc w.heap.size (fun k_ => some k_ ≠ ((.slice Ao24 t178.length co24) : Value).ownBlock) (.slice Ao15 t158.length co15) t158) ∧ Aside0 (Kd.R (Kd.int .u8) 5 wc w.heap.size (fun k_ => some k_ ≠ ((.slice Ao18 t171.length co18) : Value).ownBlock ∧ some k_ ≠ ((.slice Ao13 t154.length co13) : Value).ownBlock ∧ some k_ ≠ ((.slice Ao21 t174.length co21) : Value).ownBlock ∧ some k_ ≠ ((.slice Ao25 t186.length co25) : Value).ownBlock) (.slice Ao16 t166.length co16) t166) ∧ Aside0 (Kd.R (Kd.int .u8) 5 wc w.heap.size (fun k_ => some k_ ≠ ((.slice Ao18 t171.length co18) : Value).ownBlock ∧ some k_ ≠ ((.slice Ao13 t154.length co13) : Value).ownBlock ∧ some k_ ≠ ((.slice Ao16 t166.length co16) : Value).ownBlock ∧ some k_ ≠ ((.slice Ao25 t186.length co25) : Value).ownBlock) (.slice Ao21 t174.length co21) t174) ∧ Aside0 (Kd.R (Kd.int .i64) 3 wc w.heap.size (fun k_ => some k_ ≠ ((.slice Ao15 t158.length co15) : Value).ownBlock) (.slice Ao24 t178.length co24) t178) ∧ Aside0 (Kd.R (Kd.int .u8) 5 wc w.heap.size (fun k_ => some k_ ≠ ((.slice Ao18 t171.length co18) : Value).ownBlock ∧ some k_ ≠ ((.slice Ao13 t154.length co13) : Value).ownBlock ∧ some k_ ≠ ((.slice Ao16 t166.length co16) : Value).ownBlock ∧ some k_ ≠ ((.slice Ao21 t174.length co21) : Value).ownBlock) (.slice Ao25 t186.length co25) t186) ∧ Aside0 (wc.heap[gb170]? = some (.cells #[(.slice Ao13 t154.length co13), .int .i64 t157, (.slice Ao15 t158.length co15), .int .i64 t161, .int .i64 t162, .int .i64 t163, .int .i64 t164, .int .i64 t165, (.slice Ao16 t166.length co16)] 36 (0, 0))) ∧ Aside0 (wc.heap[gb190]? = some (.cells #[(.slice Ao21 t174.length co21), .int .i64 t177, (.slice Ao24 t178.length co24), .int .i64 t181, .int .i64 t182, .int .i64 t183, .int .i64 t184, .int .i64 t185, (.slice Ao25 t186.length co25)] 36 (0, 0))) ∧ Aside0 (Below w.heap.size w wc))
    case first =>
      have H := HC8.out
      clear HC8
      replace H := Option.bind_eq_some_iff.mp H
      obtain ⟨t191, A260, H⟩ := H
      replace H : (if t191 = true then (laws_FnExactTaskNew.j0 k l0 a1 t169 t171 t189 (t189 != t169) t154 t157 t158 t161 t162 t163 t164 t165 t166 t174 t177 t178 t181 t182 t183 t184 t185 t186) else (laws_FnExactTaskNew.j0 k l0 a1 t169 t171 t189 true t154 t157 t158 t161 t162 t163 t164 t165 t166 t174 t177 t178 t181 t182 t183 t184 t185 t186)) = some true := H
      have A26 := Aside0.mk A260
      clear A260
      by_cases c27 : t191 = true
      · subst c27
        have H1 : (laws_FnExactTaskNew.j0 k l0 a1 t169 t171 t189 (t189 != t169) t154 t157 t158 t161 t162 t163 t164 t165 t166 t174 t177 t178 t181 t182 t183 t184 t185 t186) = some true := by rw [if_pos rfl] at H; exact H
        clear H
        have H := H1
        clear H1
        have H' := Aside0.mk H
        clear H
        have hnb28 := NB190_170.out
        have hnc28 := NB170_190.out
        have hcz29_0 : w20.cell? ⟨gb190, 0, none⟩ = some (.slice none 0 0) := (blk_cell BK190.out 0).trans rfl
        have hcz29_1 : w20.cell? ⟨gb190, 1, none⟩ = some (.int .i64 0) := (blk_cell BK190.out 1).trans rfl
        have hcz29_2 : w20.cell? ⟨gb190, 2, none⟩ = some (.slice none 0 0) := (blk_cell BK190.out 2).trans rfl
        have hcz29_3 : w20.cell? ⟨gb190, 3, none⟩ = some (.int .i64 0) := (blk_cell BK190.out 3).trans rfl
        have hcz29_4 : w20.cell? ⟨gb190, 4, none⟩ = some (.int .i64 0) := (blk_cell BK190.out 4).trans rfl
        have hcz29_5 : w20.cell? ⟨gb190, 5, none⟩ = some (.int .i64 0) := (blk_cell BK190.out 5).trans rfl
        have hcz29_6 : w20.cell? ⟨gb190, 6, none⟩ = some (.int .i64 0) := (blk_cell BK190.out 6).trans rfl
        have hcz29_7 : w20.cell? ⟨gb190, 7, none⟩ = some (.int .i64 0) := (blk_cell BK190.out 7).trans rfl
        have hcz29_8 : w20.cell? ⟨gb190, 8, none⟩ = some (.slice none 0 0) := (blk_cell BK190.out 8).trans rfl
        have hfz29_0 := blk_frozen BK190.out 0
        have hfz29_1 := blk_frozen BK190.out 1
        have hfz29_2 := blk_frozen BK190.out 2
        have hfz29_3 := blk_frozen BK190.out 3
        have hfz29_4 := blk_frozen BK190.out 4
        have hfz29_5 := blk_frozen BK190.out 5
        have hfz29_6 := blk_frozen BK190.out 6
        have hfz29_7 := blk_frozen BK190.out 7
        have hfz29_8 := blk_frozen BK190.out 8
        have hcz30_0 : w20.cell? ⟨gb170, 0, none⟩ = some (.slice Ao13 t154.length co13) := (blk_cell BK170.out 0).trans rfl
        have hcz30_1 : w20.cell? ⟨gb170, 1, none⟩ = some (.int .i64 t157) := (blk_cell BK170.out 1).trans rfl
        have hcz30_2 : w20.cell? ⟨gb170, 2, none⟩ = some (.slice Ao15 t158.length co15) := (blk_cell BK170.out 2).trans rfl
        have hcz30_3 : w20.cell? ⟨gb170, 3, none⟩ = some (.int .i64 t161) := (blk_cell BK170.out 3).trans rfl
        have hcz30_4 : w20.cell? ⟨gb170, 4, none⟩ = some (.int .i64 t162) := (blk_cell BK170.out 4).trans rfl
        have hcz30_5 : w20.cell? ⟨gb170, 5, none⟩ = some (.int .i64 t163) := (blk_cell BK170.out 5).trans rfl
        have hcz30_6 : w20.cell? ⟨gb170, 6, none⟩ = some (.int .i64 t164) := (blk_cell BK170.out 6).trans rfl
        have hcz30_7 : w20.cell? ⟨gb170, 7, none⟩ = some (.int .i64 t165) := (blk_cell BK170.out 7).trans rfl
        have hcz30_8 : w20.cell? ⟨gb170, 8, none⟩ = some (.slice Ao16 t166.length co16) := (blk_cell BK170.out 8).trans rfl
        have hfz30_0 := blk_frozen BK170.out 0
        have hfz30_1 := blk_frozen BK170.out 1
        have hfz30_2 := blk_frozen BK170.out 2
        have hfz30_3 := blk_frozen BK170.out 3
        have hfz30_4 := blk_frozen BK170.out 4
        have hfz30_5 := blk_frozen BK170.out 5
        have hfz30_6 := blk_frozen BK170.out 6
        have hfz30_7 := blk_frozen BK170.out 7
        have hfz30_8 := blk_frozen BK170.out 8
        go_wp2_with (first | ((with_reducible refine gate_callee (f := 26) rfl ?_); refine goesL_ (some 35) rfl rfl Try.func26 (by kernel_rfl) rfl #[.agg #[.slice Ao21 t174.length co21, .int .i64 t177, .slice Ao24 t178.length co24, .int .i64 t181, .int .i64 t182, .int .i64 t183, .int .i64 t184, .int .i64 t185, .slice Ao25 t186.length co25], .agg #[.slice Ao13 t154.length co13, .int .i64 t157, .slice Ao15 t158.length co15, .int .i64 t161, .int .i64 t162, .int .i64 t163, .int .i64 t164, .int .i64 t165, .slice Ao16 t166.length co16]] rfl gl_ ?_; (with_reducible refine (laws_eqTask.calls k _ _ t174 t177 _ _ t178 t181 t182 t183 t184 t185 _ _ t186 _ _ t154 t157 _ _ t158 t161 t162 t163 t164 t165 _ _ t166 true _ ?side1 ?side2 ?side3 ?side4 ?side5 ?side6 ?side7 ?side8 ?side9 ?side10 ?side11 ?side12 A26.out).mono ?_); (case side1 => refine (Kd.R_reads' (e := 5) (base := w.heap.size) (ok := fun k_ => ((((some k_ ≠ (.slice Ao25 t186.length co25 : Value).ownBlock ∧ some k_ ≠ (.slice Ao10 t151.length co10 : Value).ownBlock) ∧ some k_ ≠ (.slice Ao13 t154.length co13 : Value).ownBlock) ∧ some k_ ≠ (.slice Ao16 t166.length co16 : Value).ownBlock) ∧ some k_ ≠ (.slice Ao18 t171.length co18 : Value).ownBlock)) (n := t174.length) (c := co21) ?_).2.2; exact (by (with_reducible repeat (first | apply Kd.R_alloc | apply Kd.R_drewN | apply Kd.R_drew)); exact (Kd.R_mono (Kd.R_far (p := ⟨gb190, 8, none⟩) (Kd.R_far (p := ⟨gb190, 7, none⟩) (Kd.R_far (p := ⟨gb190, 6, none⟩) (Kd.R_far (p := ⟨gb190, 5, none⟩) (Kd.R_far (p := ⟨gb190, 4, none⟩) (Kd.R_far (p := ⟨gb190, 3, none⟩) (Kd.R_far (p := ⟨gb190, 2, none⟩) (Kd.R_far (p := ⟨gb190, 1, none⟩) (Kd.R_far (p := ⟨gb190, 0, none⟩) (Kd.R_types HO176.out BK190.out (by decide)) (fun _ hk => hk.2) (.slice Ao21 t174.length co21)) (fun _ hk => hk.2) (.int .i64 t177)) (fun _ hk => hk.2) (.slice Ao24 t178.length co24)) (fun _ hk => hk.2) (.int .i64 t181)) (fun _ hk => hk.2) (.int .i64 t182)) (fun _ hk => hk.2) (.int .i64 t183)) (fun _ hk => hk.2) (.int .i64 t184)) (fun _ hk => hk.2) (.int .i64 t185)) (fun _ hk => hk.2) (.slice Ao25 t186.length co25)) (fun _ h_ => h_.1)))); (case side2 => exact (Kd.R_reads' HO176.out).2.1); (case side3 => refine (Kd.R_reads' (e := 3) (base := w.heap.size) (ok := fun k_ => (True ∧ some k_ ≠ (.slice Ao15 t158.length co15 : Value).ownBlock)) (n := t178.length) (c := co24) ?_).2.2; exact (by (with_reducible repeat (first | apply Kd.R_alloc | apply Kd.R_drewN | apply Kd.R_drew)); exact (Kd.R_mono (Kd.R_far (p := ⟨gb190, 8, none⟩) (Kd.R_far (p := ⟨gb190, 7, none⟩) (Kd.R_far (p := ⟨gb190, 6, none⟩) (Kd.R_far (p := ⟨gb190, 5, none⟩) (Kd.R_far (p := ⟨gb190, 4, none⟩) (Kd.R_far (p := ⟨gb190, 3, none⟩) (Kd.R_far (p := ⟨gb190, 2, none⟩) (Kd.R_far (p := ⟨gb190, 1, none⟩) (Kd.R_far (p := ⟨gb190, 0, none⟩) (Kd.R_types HO180.out BK190.out (by decide)) (fun _ hk => hk.2) (.slice Ao21 t174.length co21)) (fun _ hk => hk.2) (.int .i64 t177)) (fun _ hk => hk.2) (.slice Ao24 t178.length co24)) (fun _ hk => hk.2) (.int .i64 t181)) (fun _ hk => hk.2) (.int .i64 t182)) (fun _ hk => hk.2) (.int .i64 t183)) (fun _ hk => hk.2) (.int .i64 t184)) (fun _ hk => hk.2) (.int .i64 t185)) (fun _ hk => hk.2) (.slice Ao25 t186.length co25)) (fun _ h_ => h_.1)))); (case side4 => exact (Kd.R_reads' HO180.out).2.1); (case side5 => refine (Kd.R_reads' (e := 5) (base := w.heap.size) (ok := fun k_ => ((((some k_ ≠ (.slice Ao21 t174.length co21 : Value).ownBlock ∧ some k_ ≠ (.slice Ao10 t151.length co10 : Value).ownBlock) ∧ some k_ ≠ (.slice Ao13 t154.length co13 : Value).ownBlock) ∧ some k_ ≠ (.slice Ao16 t166.length co16 : Value).ownBlock) ∧ some k_ ≠ (.slice Ao18 t171.length co18 : Value).ownBlock)) (n := t186.length) (c := co25) ?_).2.2; exact (by (with_reducible repeat (first | apply Kd.R_alloc | apply Kd.R_drewN | apply Kd.R_drew)); exact (Kd.R_mono (Kd.R_far (p := ⟨gb190, 8, none⟩) (Kd.R_far (p := ⟨gb190, 7, none⟩) (Kd.R_far (p := ⟨gb190, 6, none⟩) (Kd.R_far (p := ⟨gb190, 5, none⟩) (Kd.R_far (p := ⟨gb190, 4, none⟩) (Kd.R_far (p := ⟨gb190, 3, none⟩) (Kd.R_far (p := ⟨gb190, 2, none⟩) (Kd.R_far (p := ⟨gb190, 1, none⟩) (Kd.R_far (p := ⟨gb190, 0, none⟩) (Kd.R_types HO188.out BK190.out (by decide)) (fun _ hk => hk.2) (.slice Ao21 t174.length co21)) (fun _ hk => hk.2) (.int .i64 t177)) (fun _ hk => hk.2) (.slice Ao24 t178.length co24)) (fun _ hk => hk.2) (.int .i64 t181)) (fun _ hk => hk.2) (.int .i64 t182)) (fun _ hk => hk.2) (.int .i64 t183)) (fun _ hk => hk.2) (.int .i64 t184)) (fun _ hk => hk.2) (.int .i64 t185)) (fun _ hk => hk.2) (.slice Ao25 t186.length co25)) (fun _ h_ => h_.1)))); (case side6 => exact (Kd.R_reads' HO188.out).2.1); (case side7 => refine (Kd.R_reads' (e := 5) (base := w.heap.size) (ok := fun k_ => ((((some k_ ≠ (.slice Ao16 t166.length co16 : Value).ownBlock ∧ some k_ ≠ (.slice Ao10 t151.length co10 : Value).ownBlock) ∧ some k_ ≠ (.slice Ao18 t171.length co18 : Value).ownBlock) ∧ some k_ ≠ (.slice Ao21 t174.length co21 : Value).ownBlock) ∧ some k_ ≠ (.slice Ao25 t186.length co25 : Value).ownBlock)) (n := t154.length) (c := co13) ?_).2.2; exact (by (with_reducible repeat (first | apply Kd.R_alloc | apply Kd.R_drewN | apply Kd.R_drew)); exact (Kd.R_mono (Kd.R_far (p := ⟨gb190, 8, none⟩) (Kd.R_far (p := ⟨gb190, 7, none⟩) (Kd.R_far (p := ⟨gb190, 6, none⟩) (Kd.R_far (p := ⟨gb190, 5, none⟩) (Kd.R_far (p := ⟨gb190, 4, none⟩) (Kd.R_far (p := ⟨gb190, 3, none⟩) (Kd.R_far (p := ⟨gb190, 2, none⟩) (Kd.R_far (p := ⟨gb190, 1, none⟩) (Kd.R_far (p := ⟨gb190, 0, none⟩) (Kd.R_types HO156.out BK190.out (by decide)) (fun _ hk => hk.2) (.slice Ao21 t174.length co21)) (fun _ hk => hk.2) (.int .i64 t177)) (fun _ hk => hk.2) (.slice Ao24 t178.length co24)) (fun _ hk => hk.2) (.int .i64 t181)) (fun _ hk => hk.2) (.int .i64 t182)) (fun _ hk => hk.2) (.int .i64 t183)) (fun _ hk => hk.2) (.int .i64 t184)) (fun _ hk => hk.2) (.int .i64 t185)) (fun _ hk => hk.2) (.slice Ao25 t186.length co25)) (fun _ h_ => h_.1)))); (case side8 => exact (Kd.R_reads' HO156.out).2.1); (case side9 => refine (Kd.R_reads' (e := 3) (base := w.heap.size) (ok := fun k_ => (True ∧ some k_ ≠ (.slice Ao24 t178.length co24 : Value).ownBlock)) (n := t158.length) (c := co15) ?_).2.2; exact (by (with_reducible repeat (first | apply Kd.R_alloc | apply Kd.R_drewN | apply Kd.R_drew)); exact (Kd.R_mono (Kd.R_far (p := ⟨gb190, 8, none⟩) (Kd.R_far (p := ⟨gb190, 7, none⟩) (Kd.R_far (p := ⟨gb190, 6, none⟩) (Kd.R_far (p := ⟨gb190, 5, none⟩) (Kd.R_far (p := ⟨gb190, 4, none⟩) (Kd.R_far (p := ⟨gb190, 3, none⟩) (Kd.R_far (p := ⟨gb190, 2, none⟩) (Kd.R_far (p := ⟨gb190, 1, none⟩) (Kd.R_far (p := ⟨gb190, 0, none⟩) (Kd.R_types HO160.out BK190.out (by decide)) (fun _ hk => hk.2) (.slice Ao21 t174.length co21)) (fun _ hk => hk.2) (.int .i64 t177)) (fun _ hk => hk.2) (.slice Ao24 t178.length co24)) (fun _ hk => hk.2) (.int .i64 t181)) (fun _ hk => hk.2) (.int .i64 t182)) (fun _ hk => hk.2) (.int .i64 t183)) (fun _ hk => hk.2) (.int .i64 t184)) (fun _ hk => hk.2) (.int .i64 t185)) (fun _ hk => hk.2) (.slice Ao25 t186.length co25)) (fun _ h_ => h_.1)))); (case side10 => exact (Kd.R_reads' HO160.out).2.1); (case side11 => refine (Kd.R_reads' (e := 5) (base := w.heap.size) (ok := fun k_ => ((((some k_ ≠ (.slice Ao13 t154.length co13 : Value).ownBlock ∧ some k_ ≠ (.slice Ao10 t151.length co10 : Value).ownBlock) ∧ some k_ ≠ (.slice Ao18 t171.length co18 : Value).ownBlock) ∧ some k_ ≠ (.slice Ao21 t174.length co21 : Value).ownBlock) ∧ some k_ ≠ (.slice Ao25 t186.length co25 : Value).ownBlock)) (n := t166.length) (c := co16) ?_).2.2; exact (by (with_reducible repeat (first | apply Kd.R_alloc | apply Kd.R_drewN | apply Kd.R_drew)); exact (Kd.R_mono (Kd.R_far (p := ⟨gb190, 8, none⟩) (Kd.R_far (p := ⟨gb190, 7, none⟩) (Kd.R_far (p := ⟨gb190, 6, none⟩) (Kd.R_far (p := ⟨gb190, 5, none⟩) (Kd.R_far (p := ⟨gb190, 4, none⟩) (Kd.R_far (p := ⟨gb190, 3, none⟩) (Kd.R_far (p := ⟨gb190, 2, none⟩) (Kd.R_far (p := ⟨gb190, 1, none⟩) (Kd.R_far (p := ⟨gb190, 0, none⟩) (Kd.R_types HO168.out BK190.out (by decide)) (fun _ hk => hk.2) (.slice Ao21 t174.length co21)) (fun _ hk => hk.2) (.int .i64 t177)) (fun _ hk => hk.2) (.slice Ao24 t178.length co24)) (fun _ hk => hk.2) (.int .i64 t181)) (fun _ hk => hk.2) (.int .i64 t182)) (fun _ hk => hk.2) (.int .i64 t183)) (fun _ hk => hk.2) (.int .i64 t184)) (fun _ hk => hk.2) (.int .i64 t185)) (fun _ hk => hk.2) (.slice Ao25 t186.length co25)) (fun _ h_ => h_.1)))); (case side12 => exact (Kd.R_reads' HO168.out).2.1); rintro e w31 ⟨rfl, hb⟩; refine ⟨_, rfl, ?_⟩; have n0_ := Aside0.mk (Kd.R_below (by (with_reducible repeat (first | apply Kd.R_alloc | apply Kd.R_drewN | apply Kd.R_drew)); exact (Kd.R_mono (Kd.R_far (p := ⟨gb190, 8, none⟩) (Kd.R_far (p := ⟨gb190, 7, none⟩) (Kd.R_far (p := ⟨gb190, 6, none⟩) (Kd.R_far (p := ⟨gb190, 5, none⟩) (Kd.R_far (p := ⟨gb190, 4, none⟩) (Kd.R_far (p := ⟨gb190, 3, none⟩) (Kd.R_far (p := ⟨gb190, 2, none⟩) (Kd.R_far (p := ⟨gb190, 1, none⟩) (Kd.R_far (p := ⟨gb190, 0, none⟩) (Kd.R_types HO153.out BK190.out (by decide)) (fun _ hk => hk.2) (.slice Ao21 t174.length co21)) (fun _ hk => hk.2) (.int .i64 t177)) (fun _ hk => hk.2) (.slice Ao24 t178.length co24)) (fun _ hk => hk.2) (.int .i64 t181)) (fun _ hk => hk.2) (.int .i64 t182)) (fun _ hk => hk.2) (.int .i64 t183)) (fun _ hk => hk.2) (.int .i64 t184)) (fun _ hk => hk.2) (.int .i64 t185)) (fun _ hk => hk.2) (.slice Ao25 t186.length co25)) (fun _ h_ => h_.1))) hb); have n1_ := Aside0.mk (Kd.R_below (by (with_reducible repeat (first | apply Kd.R_alloc | apply Kd.R_drewN | apply Kd.R_drew)); exact (Kd.R_mono (Kd.R_far (p := ⟨gb190, 8, none⟩) (Kd.R_far (p := ⟨gb190, 7, none⟩) (Kd.R_far (p := ⟨gb190, 6, none⟩) (Kd.R_far (p := ⟨gb190, 5, none⟩) (Kd.R_far (p := ⟨gb190, 4, none⟩) (Kd.R_far (p := ⟨gb190, 3, none⟩) (Kd.R_far (p := ⟨gb190, 2, none⟩) (Kd.R_far (p := ⟨gb190, 1, none⟩) (Kd.R_far (p := ⟨gb190, 0, none⟩) (Kd.R_types HO156.out BK190.out (by decide)) (fun _ hk => hk.2) (.slice Ao21 t174.length co21)) (fun _ hk => hk.2) (.int .i64 t177)) (fun _ hk => hk.2) (.slice Ao24 t178.length co24)) (fun _ hk => hk.2) (.int .i64 t181)) (fun _ hk => hk.2) (.int .i64 t182)) (fun _ hk => hk.2) (.int .i64 t183)) (fun _ hk => hk.2) (.int .i64 t184)) (fun _ hk => hk.2) (.int .i64 t185)) (fun _ hk => hk.2) (.slice Ao25 t186.length co25)) (fun _ h_ => h_.1))) hb); have n2_ := Aside0.mk (Kd.R_below (by (with_reducible repeat (first | apply Kd.R_alloc | apply Kd.R_drewN | apply Kd.R_drew)); exact (Kd.R_mono (Kd.R_far (p := ⟨gb190, 8, none⟩) (Kd.R_far (p := ⟨gb190, 7, none⟩) (Kd.R_far (p := ⟨gb190, 6, none⟩) (Kd.R_far (p := ⟨gb190, 5, none⟩) (Kd.R_far (p := ⟨gb190, 4, none⟩) (Kd.R_far (p := ⟨gb190, 3, none⟩) (Kd.R_far (p := ⟨gb190, 2, none⟩) (Kd.R_far (p := ⟨gb190, 1, none⟩) (Kd.R_far (p := ⟨gb190, 0, none⟩) (Kd.R_types HO160.out BK190.out (by decide)) (fun _ hk => hk.2) (.slice Ao21 t174.length co21)) (fun _ hk => hk.2) (.int .i64 t177)) (fun _ hk => hk.2) (.slice Ao24 t178.length co24)) (fun _ hk => hk.2) (.int .i64 t181)) (fun _ hk => hk.2) (.int .i64 t182)) (fun _ hk => hk.2) (.int .i64 t183)) (fun _ hk => hk.2) (.int .i64 t184)) (fun _ hk => hk.2) (.int .i64 t185)) (fun _ hk => hk.2) (.slice Ao25 t186.length co25)) (fun _ h_ => h_.1))) hb); have n3_ := Aside0.mk (Kd.R_below (by (with_reducible repeat (first | apply Kd.R_alloc | apply Kd.R_drewN | apply Kd.R_drew)); exact (Kd.R_mono (Kd.R_far (p := ⟨gb190, 8, none⟩) (Kd.R_far (p := ⟨gb190, 7, none⟩) (Kd.R_far (p := ⟨gb190, 6, none⟩) (Kd.R_far (p := ⟨gb190, 5, none⟩) (Kd.R_far (p := ⟨gb190, 4, none⟩) (Kd.R_far (p := ⟨gb190, 3, none⟩) (Kd.R_far (p := ⟨gb190, 2, none⟩) (Kd.R_far (p := ⟨gb190, 1, none⟩) (Kd.R_far (p := ⟨gb190, 0, none⟩) (Kd.R_types HO168.out BK190.out (by decide)) (fun _ hk => hk.2) (.slice Ao21 t174.length co21)) (fun _ hk => hk.2) (.int .i64 t177)) (fun _ hk => hk.2) (.slice Ao24 t178.length co24)) (fun _ hk => hk.2) (.int .i64 t181)) (fun _ hk => hk.2) (.int .i64 t182)) (fun _ hk => hk.2) (.int .i64 t183)) (fun _ hk => hk.2) (.int .i64 t184)) (fun _ hk => hk.2) (.int .i64 t185)) (fun _ hk => hk.2) (.slice Ao25 t186.length co25)) (fun _ h_ => h_.1))) hb); have n4_ := Aside0.mk (Kd.R_below (by (with_reducible repeat (first | apply Kd.R_alloc | apply Kd.R_drewN | apply Kd.R_drew)); exact (Kd.R_mono (Kd.R_far (p := ⟨gb190, 8, none⟩) (Kd.R_far (p := ⟨gb190, 7, none⟩) (Kd.R_far (p := ⟨gb190, 6, none⟩) (Kd.R_far (p := ⟨gb190, 5, none⟩) (Kd.R_far (p := ⟨gb190, 4, none⟩) (Kd.R_far (p := ⟨gb190, 3, none⟩) (Kd.R_far (p := ⟨gb190, 2, none⟩) (Kd.R_far (p := ⟨gb190, 1, none⟩) (Kd.R_far (p := ⟨gb190, 0, none⟩) (Kd.R_types HO173.out BK190.out (by decide)) (fun _ hk => hk.2) (.slice Ao21 t174.length co21)) (fun _ hk => hk.2) (.int .i64 t177)) (fun _ hk => hk.2) (.slice Ao24 t178.length co24)) (fun _ hk => hk.2) (.int .i64 t181)) (fun _ hk => hk.2) (.int .i64 t182)) (fun _ hk => hk.2) (.int .i64 t183)) (fun _ hk => hk.2) (.int .i64 t184)) (fun _ hk => hk.2) (.int .i64 t185)) (fun _ hk => hk.2) (.slice Ao25 t186.length co25)) (fun _ h_ => h_.1))) hb); have n5_ := Aside0.mk (Kd.R_below (by (with_reducible repeat (first | apply Kd.R_alloc | apply Kd.R_drewN | apply Kd.R_drew)); exact (Kd.R_mono (Kd.R_far (p := ⟨gb190, 8, none⟩) (Kd.R_far (p := ⟨gb190, 7, none⟩) (Kd.R_far (p := ⟨gb190, 6, none⟩) (Kd.R_far (p := ⟨gb190, 5, none⟩) (Kd.R_far (p := ⟨gb190, 4, none⟩) (Kd.R_far (p := ⟨gb190, 3, none⟩) (Kd.R_far (p := ⟨gb190, 2, none⟩) (Kd.R_far (p := ⟨gb190, 1, none⟩) (Kd.R_far (p := ⟨gb190, 0, none⟩) (Kd.R_types HO176.out BK190.out (by decide)) (fun _ hk => hk.2) (.slice Ao21 t174.length co21)) (fun _ hk => hk.2) (.int .i64 t177)) (fun _ hk => hk.2) (.slice Ao24 t178.length co24)) (fun _ hk => hk.2) (.int .i64 t181)) (fun _ hk => hk.2) (.int .i64 t182)) (fun _ hk => hk.2) (.int .i64 t183)) (fun _ hk => hk.2) (.int .i64 t184)) (fun _ hk => hk.2) (.int .i64 t185)) (fun _ hk => hk.2) (.slice Ao25 t186.length co25)) (fun _ h_ => h_.1))) hb); have n6_ := Aside0.mk (Kd.R_below (by (with_reducible repeat (first | apply Kd.R_alloc | apply Kd.R_drewN | apply Kd.R_drew)); exact (Kd.R_mono (Kd.R_far (p := ⟨gb190, 8, none⟩) (Kd.R_far (p := ⟨gb190, 7, none⟩) (Kd.R_far (p := ⟨gb190, 6, none⟩) (Kd.R_far (p := ⟨gb190, 5, none⟩) (Kd.R_far (p := ⟨gb190, 4, none⟩) (Kd.R_far (p := ⟨gb190, 3, none⟩) (Kd.R_far (p := ⟨gb190, 2, none⟩) (Kd.R_far (p := ⟨gb190, 1, none⟩) (Kd.R_far (p := ⟨gb190, 0, none⟩) (Kd.R_types HO180.out BK190.out (by decide)) (fun _ hk => hk.2) (.slice Ao21 t174.length co21)) (fun _ hk => hk.2) (.int .i64 t177)) (fun _ hk => hk.2) (.slice Ao24 t178.length co24)) (fun _ hk => hk.2) (.int .i64 t181)) (fun _ hk => hk.2) (.int .i64 t182)) (fun _ hk => hk.2) (.int .i64 t183)) (fun _ hk => hk.2) (.int .i64 t184)) (fun _ hk => hk.2) (.int .i64 t185)) (fun _ hk => hk.2) (.slice Ao25 t186.length co25)) (fun _ h_ => h_.1))) hb); have n7_ := Aside0.mk (Kd.R_below (by (with_reducible repeat (first | apply Kd.R_alloc | apply Kd.R_drewN | apply Kd.R_drew)); exact (Kd.R_mono (Kd.R_far (p := ⟨gb190, 8, none⟩) (Kd.R_far (p := ⟨gb190, 7, none⟩) (Kd.R_far (p := ⟨gb190, 6, none⟩) (Kd.R_far (p := ⟨gb190, 5, none⟩) (Kd.R_far (p := ⟨gb190, 4, none⟩) (Kd.R_far (p := ⟨gb190, 3, none⟩) (Kd.R_far (p := ⟨gb190, 2, none⟩) (Kd.R_far (p := ⟨gb190, 1, none⟩) (Kd.R_far (p := ⟨gb190, 0, none⟩) (Kd.R_types HO188.out BK190.out (by decide)) (fun _ hk => hk.2) (.slice Ao21 t174.length co21)) (fun _ hk => hk.2) (.int .i64 t177)) (fun _ hk => hk.2) (.slice Ao24 t178.length co24)) (fun _ hk => hk.2) (.int .i64 t181)) (fun _ hk => hk.2) (.int .i64 t182)) (fun _ hk => hk.2) (.int .i64 t183)) (fun _ hk => hk.2) (.int .i64 t184)) (fun _ hk => hk.2) (.int .i64 t185)) (fun _ hk => hk.2) (.slice Ao25 t186.length co25)) (fun _ h_ => h_.1))) hb); have n8_ := Aside0.mk (blk_below (g := gb170) (o := .cells #[.slice Ao13 t154.length co13, .int .i64 t157, .slice Ao15 t158.length co15, .int .i64 t161, .int .i64 t162, .int .i64 t163, .int .i64 t164, .int .i64 t165, .slice Ao16 t166.length co16] 36 (0, 0)) (by (with_reducible repeat (first | refine blk_drewN ?_ _ | refine blk_drew ?_ | refine blk_alloc ?_ _)); refine blk_far ?_ NB170_190.out _; (with_reducible repeat (first | refine blk_drewN ?_ _ | refine blk_drew ?_ | refine blk_alloc ?_ _)); refine blk_far ?_ NB170_190.out _; (with_reducible repeat (first | refine blk_drewN ?_ _ | refine blk_drew ?_ | refine blk_alloc ?_ _)); refine blk_far ?_ NB170_190.out _; (with_reducible repeat (first | refine blk_drewN ?_ _ | refine blk_drew ?_ | refine blk_alloc ?_ _)); refine blk_far ?_ NB170_190.out _; (with_reducible repeat (first | refine blk_drewN ?_ _ | refine blk_drew ?_ | refine blk_alloc ?_ _)); refine blk_far ?_ NB170_190.out _; (with_reducible repeat (first | refine blk_drewN ?_ _ | refine blk_drew ?_ | refine blk_alloc ?_ _)); refine blk_far ?_ NB170_190.out _; (with_reducible repeat (first | refine blk_drewN ?_ _ | refine blk_drew ?_ | refine blk_alloc ?_ _)); refine blk_far ?_ NB170_190.out _; (with_reducible repeat (first | refine blk_drewN ?_ _ | refine blk_drew ?_ | refine blk_alloc ?_ _)); refine blk_far ?_ NB170_190.out _; (with_reducible repeat (first | refine blk_drewN ?_ _ | refine blk_drew ?_ | refine blk_alloc ?_ _)); refine blk_far ?_ NB170_190.out _; (with_reducible repeat (first | refine blk_drewN ?_ _ | refine blk_drew ?_ | refine blk_alloc ?_ _)); exact BK170.out) hb); have n9_ := Aside0.mk (blk_below (g := gb190) (o := .cells #[.slice Ao21 t174.length co21, .int .i64 t177, .slice Ao24 t178.length co24, .int .i64 t181, .int .i64 t182, .int .i64 t183, .int .i64 t184, .int .i64 t185, .slice Ao25 t186.length co25] 36 (0, 0)) (by (with_reducible repeat (first | refine blk_drewN ?_ _ | refine blk_drew ?_ | refine blk_alloc ?_ _)); refine blk_put (cs := #[.slice Ao21 t174.length co21, .int .i64 t177, .slice Ao24 t178.length co24, .int .i64 t181, .int .i64 t182, .int .i64 t183, .int .i64 t184, .int .i64 t185, .slice none 0 0]) ?_ 8 _ rfl; (with_reducible repeat (first | refine blk_drewN ?_ _ | refine blk_drew ?_ | refine blk_alloc ?_ _)); refine blk_put (cs := #[.slice Ao21 t174.length co21, .int .i64 t177, .slice Ao24 t178.length co24, .int .i64 t181, .int .i64 t182, .int .i64 t183, .int .i64 t184, .int .i64 0, .slice none 0 0]) ?_ 7 _ rfl; (with_reducible repeat (first | refine blk_drewN ?_ _ | refine blk_drew ?_ | refine blk_alloc ?_ _)); refine blk_put (cs := #[.slice Ao21 t174.length co21, .int .i64 t177, .slice Ao24 t178.length co24, .int .i64 t181, .int .i64 t182, .int .i64 t183, .int .i64 0, .int .i64 0, .slice none 0 0]) ?_ 6 _ rfl; (with_reducible repeat (first | refine blk_drewN ?_ _ | refine blk_drew ?_ | refine blk_alloc ?_ _)); refine blk_put (cs := #[.slice Ao21 t174.length co21, .int .i64 t177, .slice Ao24 t178.length co24, .int .i64 t181, .int .i64 t182, .int .i64 0, .int .i64 0, .int .i64 0, .slice none 0 0]) ?_ 5 _ rfl; (with_reducible repeat (first | refine blk_drewN ?_ _ | refine blk_drew ?_ | refine blk_alloc ?_ _)); refine blk_put (cs := #[.slice Ao21 t174.length co21, .int .i64 t177, .slice Ao24 t178.length co24, .int .i64 t181, .int .i64 0, .int .i64 0, .int .i64 0, .int .i64 0, .slice none 0 0]) ?_ 4 _ rfl; (with_reducible repeat (first | refine blk_drewN ?_ _ | refine blk_drew ?_ | refine blk_alloc ?_ _)); refine blk_put (cs := #[.slice Ao21 t174.length co21, .int .i64 t177, .slice Ao24 t178.length co24, .int .i64 0, .int .i64 0, .int .i64 0, .int .i64 0, .int .i64 0, .slice none 0 0]) ?_ 3 _ rfl; (with_reducible repeat (first | refine blk_drewN ?_ _ | refine blk_drew ?_ | refine blk_alloc ?_ _)); refine blk_put (cs := #[.slice Ao21 t174.length co21, .int .i64 t177, .slice none 0 0, .int .i64 0, .int .i64 0, .int .i64 0, .int .i64 0, .int .i64 0, .slice none 0 0]) ?_ 2 _ rfl; (with_reducible repeat (first | refine blk_drewN ?_ _ | refine blk_drew ?_ | refine blk_alloc ?_ _)); refine blk_put (cs := #[.slice Ao21 t174.length co21, .int .i64 0, .slice none 0 0, .int .i64 0, .int .i64 0, .int .i64 0, .int .i64 0, .int .i64 0, .slice none 0 0]) ?_ 1 _ rfl; (with_reducible repeat (first | refine blk_drewN ?_ _ | refine blk_drew ?_ | refine blk_alloc ?_ _)); refine blk_put (cs := #[.slice none 0 0, .int .i64 0, .slice none 0 0, .int .i64 0, .int .i64 0, .int .i64 0, .int .i64 0, .int .i64 0, .slice none 0 0]) ?_ 0 _ rfl; (with_reducible repeat (first | refine blk_drewN ?_ _ | refine blk_drew ?_ | refine blk_alloc ?_ _)); exact BK190.out) hb); have n10_ := Aside0.mk (below_step bl_ hb); clear HO153; clear HO156; clear HO160; clear HO168; clear HO173; clear HO176; clear HO180; clear HO188; clear BK170; clear BK190; clear HB; have HO153 := n0_; have HO156 := n1_; have HO160 := n2_; have HO168 := n3_; have HO173 := n4_; have HO176 := n5_; have HO180 := n6_; have HO188 := n7_; have BK170 := n8_; have BK190 := n9_; have HB := n10_; clear n0_ n1_ n2_ n3_ n4_ n5_ n6_ n7_ n8_ n9_ n10_; (try clear hb); (try clear hb2); (try clear hk); (try clear hi)))
        go_meet
        case rel => exact ⟨_, ((t189 != t169)), sp_, H', ⟨by first | omega | exact Nat.le_refl _⟩, ⟨by (with_reducible repeat (first | apply Kd.R_alloc | apply Kd.R_drewN | apply Kd.R_drew)); exact Kd.R_mono HO173.out (fun _ hk => ⟨hk.1.1.1.2, ⟨hk.1.1.2, ⟨hk.1.2, hk.2⟩⟩⟩)⟩, ⟨by (with_reducible repeat (first | apply Kd.R_alloc | apply Kd.R_drewN | apply Kd.R_drew)); exact Kd.R_mono HO156.out (fun _ hk => ⟨hk.1.1.2, ⟨hk.1.1.1.1, ⟨hk.1.2, hk.2⟩⟩⟩)⟩, ⟨by (with_reducible repeat (first | apply Kd.R_alloc | apply Kd.R_drewN | apply Kd.R_drew)); exact Kd.R_mono HO160.out (fun _ hk => hk.2)⟩, ⟨by (with_reducible repeat (first | apply Kd.R_alloc | apply Kd.R_drewN | apply Kd.R_drew)); exact Kd.R_mono HO168.out (fun _ hk => ⟨hk.1.1.2, ⟨hk.1.1.1.1, ⟨hk.1.2, hk.2⟩⟩⟩)⟩, ⟨by (with_reducible repeat (first | apply Kd.R_alloc | apply Kd.R_drewN | apply Kd.R_drew)); exact Kd.R_mono HO176.out (fun _ hk => ⟨hk.2, ⟨hk.1.1.2, ⟨hk.1.2, hk.1.1.1.1⟩⟩⟩)⟩, ⟨by (with_reducible repeat (first | apply Kd.R_alloc | apply Kd.R_drewN | apply Kd.R_drew)); exact Kd.R_mono HO180.out (fun _ hk => hk.2)⟩, ⟨by (with_reducible repeat (first | apply Kd.R_alloc | apply Kd.R_drewN | apply Kd.R_drew)); exact Kd.R_mono HO188.out (fun _ hk => ⟨hk.2, ⟨hk.1.1.2, ⟨hk.1.2, hk.1.1.1.1⟩⟩⟩)⟩, ⟨by (with_reducible repeat (first | refine blk_drewN ?_ _ | refine blk_drew ?_ | refine blk_alloc ?_ _)); exact BK170.out⟩, ⟨by (with_reducible repeat (first | refine blk_drewN ?_ _ | refine blk_drew ?_ | refine blk_alloc ?_ _)); exact BK190.out⟩, ⟨bl_⟩⟩
      · replace c27 := Bool.eq_false_iff.mpr c27
        subst c27
        have H1 : (laws_FnExactTaskNew.j0 k l0 a1 t169 t171 t189 true t154 t157 t158 t161 t162 t163 t164 t165 t166 t174 t177 t178 t181 t182 t183 t184 t185 t186) = some true := by rw [if_neg (show ¬ (false = true) by decide)] at H; exact H
        clear H
        have H := H1
        clear H1
        have H' := Aside0.mk H
        clear H
        have hnb32 := NB190_170.out
        have hnc32 := NB170_190.out
        have hcz33_0 : w20.cell? ⟨gb190, 0, none⟩ = some (.slice none 0 0) := (blk_cell BK190.out 0).trans rfl
        have hcz33_1 : w20.cell? ⟨gb190, 1, none⟩ = some (.int .i64 0) := (blk_cell BK190.out 1).trans rfl
        have hcz33_2 : w20.cell? ⟨gb190, 2, none⟩ = some (.slice none 0 0) := (blk_cell BK190.out 2).trans rfl
        have hcz33_3 : w20.cell? ⟨gb190, 3, none⟩ = some (.int .i64 0) := (blk_cell BK190.out 3).trans rfl
        have hcz33_4 : w20.cell? ⟨gb190, 4, none⟩ = some (.int .i64 0) := (blk_cell BK190.out 4).trans rfl
        have hcz33_5 : w20.cell? ⟨gb190, 5, none⟩ = some (.int .i64 0) := (blk_cell BK190.out 5).trans rfl
        have hcz33_6 : w20.cell? ⟨gb190, 6, none⟩ = some (.int .i64 0) := (blk_cell BK190.out 6).trans rfl
        have hcz33_7 : w20.cell? ⟨gb190, 7, none⟩ = some (.int .i64 0) := (blk_cell BK190.out 7).trans rfl
        have hcz33_8 : w20.cell? ⟨gb190, 8, none⟩ = some (.slice none 0 0) := (blk_cell BK190.out 8).trans rfl
        have hfz33_0 := blk_frozen BK190.out 0
        have hfz33_1 := blk_frozen BK190.out 1
        have hfz33_2 := blk_frozen BK190.out 2
        have hfz33_3 := blk_frozen BK190.out 3
        have hfz33_4 := blk_frozen BK190.out 4
        have hfz33_5 := blk_frozen BK190.out 5
        have hfz33_6 := blk_frozen BK190.out 6
        have hfz33_7 := blk_frozen BK190.out 7
        have hfz33_8 := blk_frozen BK190.out 8
        have hcz34_0 : w20.cell? ⟨gb170, 0, none⟩ = some (.slice Ao13 t154.length co13) := (blk_cell BK170.out 0).trans rfl
        have hcz34_1 : w20.cell? ⟨gb170, 1, none⟩ = some (.int .i64 t157) := (blk_cell BK170.out 1).trans rfl
        have hcz34_2 : w20.cell? ⟨gb170, 2, none⟩ = some (.slice Ao15 t158.length co15) := (blk_cell BK170.out 2).trans rfl
        have hcz34_3 : w20.cell? ⟨gb170, 3, none⟩ = some (.int .i64 t161) := (blk_cell BK170.out 3).trans rfl
        have hcz34_4 : w20.cell? ⟨gb170, 4, none⟩ = some (.int .i64 t162) := (blk_cell BK170.out 4).trans rfl
        have hcz34_5 : w20.cell? ⟨gb170, 5, none⟩ = some (.int .i64 t163) := (blk_cell BK170.out 5).trans rfl
        have hcz34_6 : w20.cell? ⟨gb170, 6, none⟩ = some (.int .i64 t164) := (blk_cell BK170.out 6).trans rfl
        have hcz34_7 : w20.cell? ⟨gb170, 7, none⟩ = some (.int .i64 t165) := (blk_cell BK170.out 7).trans rfl
        have hcz34_8 : w20.cell? ⟨gb170, 8, none⟩ = some (.slice Ao16 t166.length co16) := (blk_cell BK170.out 8).trans rfl
        have hfz34_0 := blk_frozen BK170.out 0
        have hfz34_1 := blk_frozen BK170.out 1
        have hfz34_2 := blk_frozen BK170.out 2
        have hfz34_3 := blk_frozen BK170.out 3
        have hfz34_4 := blk_frozen BK170.out 4
        have hfz34_5 := blk_frozen BK170.out 5
        have hfz34_6 := blk_frozen BK170.out 6
        have hfz34_7 := blk_frozen BK170.out 7
        have hfz34_8 := blk_frozen BK170.out 8
        go_wp2_with (first | ((with_reducible refine gate_callee (f := 26) rfl ?_); refine goesL_ (some 35) rfl rfl Try.func26 (by kernel_rfl) rfl #[.agg #[.slice Ao21 t174.length co21, .int .i64 t177, .slice Ao24 t178.length co24, .int .i64 t181, .int .i64 t182, .int .i64 t183, .int .i64 t184, .int .i64 t185, .slice Ao25 t186.length co25], .agg #[.slice Ao13 t154.length co13, .int .i64 t157, .slice Ao15 t158.length co15, .int .i64 t161, .int .i64 t162, .int .i64 t163, .int .i64 t164, .int .i64 t165, .slice Ao16 t166.length co16]] rfl gl_ ?_; (with_reducible refine (laws_eqTask.calls k _ _ t174 t177 _ _ t178 t181 t182 t183 t184 t185 _ _ t186 _ _ t154 t157 _ _ t158 t161 t162 t163 t164 t165 _ _ t166 false _ ?side1 ?side2 ?side3 ?side4 ?side5 ?side6 ?side7 ?side8 ?side9 ?side10 ?side11 ?side12 A26.out).mono ?_); (case side1 => refine (Kd.R_reads' (e := 5) (base := w.heap.size) (ok := fun k_ => ((((some k_ ≠ (.slice Ao25 t186.length co25 : Value).ownBlock ∧ some k_ ≠ (.slice Ao10 t151.length co10 : Value).ownBlock) ∧ some k_ ≠ (.slice Ao13 t154.length co13 : Value).ownBlock) ∧ some k_ ≠ (.slice Ao16 t166.length co16 : Value).ownBlock) ∧ some k_ ≠ (.slice Ao18 t171.length co18 : Value).ownBlock)) (n := t174.length) (c := co21) ?_).2.2; exact (by (with_reducible repeat (first | apply Kd.R_alloc | apply Kd.R_drewN | apply Kd.R_drew)); exact (Kd.R_mono (Kd.R_far (p := ⟨gb190, 8, none⟩) (Kd.R_far (p := ⟨gb190, 7, none⟩) (Kd.R_far (p := ⟨gb190, 6, none⟩) (Kd.R_far (p := ⟨gb190, 5, none⟩) (Kd.R_far (p := ⟨gb190, 4, none⟩) (Kd.R_far (p := ⟨gb190, 3, none⟩) (Kd.R_far (p := ⟨gb190, 2, none⟩) (Kd.R_far (p := ⟨gb190, 1, none⟩) (Kd.R_far (p := ⟨gb190, 0, none⟩) (Kd.R_types HO176.out BK190.out (by decide)) (fun _ hk => hk.2) (.slice Ao21 t174.length co21)) (fun _ hk => hk.2) (.int .i64 t177)) (fun _ hk => hk.2) (.slice Ao24 t178.length co24)) (fun _ hk => hk.2) (.int .i64 t181)) (fun _ hk => hk.2) (.int .i64 t182)) (fun _ hk => hk.2) (.int .i64 t183)) (fun _ hk => hk.2) (.int .i64 t184)) (fun _ hk => hk.2) (.int .i64 t185)) (fun _ hk => hk.2) (.slice Ao25 t186.length co25)) (fun _ h_ => h_.1)))); (case side2 => exact (Kd.R_reads' HO176.out).2.1); (case side3 => refine (Kd.R_reads' (e := 3) (base := w.heap.size) (ok := fun k_ => (True ∧ some k_ ≠ (.slice Ao15 t158.length co15 : Value).ownBlock)) (n := t178.length) (c := co24) ?_).2.2; exact (by (with_reducible repeat (first | apply Kd.R_alloc | apply Kd.R_drewN | apply Kd.R_drew)); exact (Kd.R_mono (Kd.R_far (p := ⟨gb190, 8, none⟩) (Kd.R_far (p := ⟨gb190, 7, none⟩) (Kd.R_far (p := ⟨gb190, 6, none⟩) (Kd.R_far (p := ⟨gb190, 5, none⟩) (Kd.R_far (p := ⟨gb190, 4, none⟩) (Kd.R_far (p := ⟨gb190, 3, none⟩) (Kd.R_far (p := ⟨gb190, 2, none⟩) (Kd.R_far (p := ⟨gb190, 1, none⟩) (Kd.R_far (p := ⟨gb190, 0, none⟩) (Kd.R_types HO180.out BK190.out (by decide)) (fun _ hk => hk.2) (.slice Ao21 t174.length co21)) (fun _ hk => hk.2) (.int .i64 t177)) (fun _ hk => hk.2) (.slice Ao24 t178.length co24)) (fun _ hk => hk.2) (.int .i64 t181)) (fun _ hk => hk.2) (.int .i64 t182)) (fun _ hk => hk.2) (.int .i64 t183)) (fun _ hk => hk.2) (.int .i64 t184)) (fun _ hk => hk.2) (.int .i64 t185)) (fun _ hk => hk.2) (.slice Ao25 t186.length co25)) (fun _ h_ => h_.1)))); (case side4 => exact (Kd.R_reads' HO180.out).2.1); (case side5 => refine (Kd.R_reads' (e := 5) (base := w.heap.size) (ok := fun k_ => ((((some k_ ≠ (.slice Ao21 t174.length co21 : Value).ownBlock ∧ some k_ ≠ (.slice Ao10 t151.length co10 : Value).ownBlock) ∧ some k_ ≠ (.slice Ao13 t154.length co13 : Value).ownBlock) ∧ some k_ ≠ (.slice Ao16 t166.length co16 : Value).ownBlock) ∧ some k_ ≠ (.slice Ao18 t171.length co18 : Value).ownBlock)) (n := t186.length) (c := co25) ?_).2.2; exact (by (with_reducible repeat (first | apply Kd.R_alloc | apply Kd.R_drewN | apply Kd.R_drew)); exact (Kd.R_mono (Kd.R_far (p := ⟨gb190, 8, none⟩) (Kd.R_far (p := ⟨gb190, 7, none⟩) (Kd.R_far (p := ⟨gb190, 6, none⟩) (Kd.R_far (p := ⟨gb190, 5, none⟩) (Kd.R_far (p := ⟨gb190, 4, none⟩) (Kd.R_far (p := ⟨gb190, 3, none⟩) (Kd.R_far (p := ⟨gb190, 2, none⟩) (Kd.R_far (p := ⟨gb190, 1, none⟩) (Kd.R_far (p := ⟨gb190, 0, none⟩) (Kd.R_types HO188.out BK190.out (by decide)) (fun _ hk => hk.2) (.slice Ao21 t174.length co21)) (fun _ hk => hk.2) (.int .i64 t177)) (fun _ hk => hk.2) (.slice Ao24 t178.length co24)) (fun _ hk => hk.2) (.int .i64 t181)) (fun _ hk => hk.2) (.int .i64 t182)) (fun _ hk => hk.2) (.int .i64 t183)) (fun _ hk => hk.2) (.int .i64 t184)) (fun _ hk => hk.2) (.int .i64 t185)) (fun _ hk => hk.2) (.slice Ao25 t186.length co25)) (fun _ h_ => h_.1)))); (case side6 => exact (Kd.R_reads' HO188.out).2.1); (case side7 => refine (Kd.R_reads' (e := 5) (base := w.heap.size) (ok := fun k_ => ((((some k_ ≠ (.slice Ao16 t166.length co16 : Value).ownBlock ∧ some k_ ≠ (.slice Ao10 t151.length co10 : Value).ownBlock) ∧ some k_ ≠ (.slice Ao18 t171.length co18 : Value).ownBlock) ∧ some k_ ≠ (.slice Ao21 t174.length co21 : Value).ownBlock) ∧ some k_ ≠ (.slice Ao25 t186.length co25 : Value).ownBlock)) (n := t154.length) (c := co13) ?_).2.2; exact (by (with_reducible repeat (first | apply Kd.R_alloc | apply Kd.R_drewN | apply Kd.R_drew)); exact (Kd.R_mono (Kd.R_far (p := ⟨gb190, 8, none⟩) (Kd.R_far (p := ⟨gb190, 7, none⟩) (Kd.R_far (p := ⟨gb190, 6, none⟩) (Kd.R_far (p := ⟨gb190, 5, none⟩) (Kd.R_far (p := ⟨gb190, 4, none⟩) (Kd.R_far (p := ⟨gb190, 3, none⟩) (Kd.R_far (p := ⟨gb190, 2, none⟩) (Kd.R_far (p := ⟨gb190, 1, none⟩) (Kd.R_far (p := ⟨gb190, 0, none⟩) (Kd.R_types HO156.out BK190.out (by decide)) (fun _ hk => hk.2) (.slice Ao21 t174.length co21)) (fun _ hk => hk.2) (.int .i64 t177)) (fun _ hk => hk.2) (.slice Ao24 t178.length co24)) (fun _ hk => hk.2) (.int .i64 t181)) (fun _ hk => hk.2) (.int .i64 t182)) (fun _ hk => hk.2) (.int .i64 t183)) (fun _ hk => hk.2) (.int .i64 t184)) (fun _ hk => hk.2) (.int .i64 t185)) (fun _ hk => hk.2) (.slice Ao25 t186.length co25)) (fun _ h_ => h_.1)))); (case side8 => exact (Kd.R_reads' HO156.out).2.1); (case side9 => refine (Kd.R_reads' (e := 3) (base := w.heap.size) (ok := fun k_ => (True ∧ some k_ ≠ (.slice Ao24 t178.length co24 : Value).ownBlock)) (n := t158.length) (c := co15) ?_).2.2; exact (by (with_reducible repeat (first | apply Kd.R_alloc | apply Kd.R_drewN | apply Kd.R_drew)); exact (Kd.R_mono (Kd.R_far (p := ⟨gb190, 8, none⟩) (Kd.R_far (p := ⟨gb190, 7, none⟩) (Kd.R_far (p := ⟨gb190, 6, none⟩) (Kd.R_far (p := ⟨gb190, 5, none⟩) (Kd.R_far (p := ⟨gb190, 4, none⟩) (Kd.R_far (p := ⟨gb190, 3, none⟩) (Kd.R_far (p := ⟨gb190, 2, none⟩) (Kd.R_far (p := ⟨gb190, 1, none⟩) (Kd.R_far (p := ⟨gb190, 0, none⟩) (Kd.R_types HO160.out BK190.out (by decide)) (fun _ hk => hk.2) (.slice Ao21 t174.length co21)) (fun _ hk => hk.2) (.int .i64 t177)) (fun _ hk => hk.2) (.slice Ao24 t178.length co24)) (fun _ hk => hk.2) (.int .i64 t181)) (fun _ hk => hk.2) (.int .i64 t182)) (fun _ hk => hk.2) (.int .i64 t183)) (fun _ hk => hk.2) (.int .i64 t184)) (fun _ hk => hk.2) (.int .i64 t185)) (fun _ hk => hk.2) (.slice Ao25 t186.length co25)) (fun _ h_ => h_.1)))); (case side10 => exact (Kd.R_reads' HO160.out).2.1); (case side11 => refine (Kd.R_reads' (e := 5) (base := w.heap.size) (ok := fun k_ => ((((some k_ ≠ (.slice Ao13 t154.length co13 : Value).ownBlock ∧ some k_ ≠ (.slice Ao10 t151.length co10 : Value).ownBlock) ∧ some k_ ≠ (.slice Ao18 t171.length co18 : Value).ownBlock) ∧ some k_ ≠ (.slice Ao21 t174.length co21 : Value).ownBlock) ∧ some k_ ≠ (.slice Ao25 t186.length co25 : Value).ownBlock)) (n := t166.length) (c := co16) ?_).2.2; exact (by (with_reducible repeat (first | apply Kd.R_alloc | apply Kd.R_drewN | apply Kd.R_drew)); exact (Kd.R_mono (Kd.R_far (p := ⟨gb190, 8, none⟩) (Kd.R_far (p := ⟨gb190, 7, none⟩) (Kd.R_far (p := ⟨gb190, 6, none⟩) (Kd.R_far (p := ⟨gb190, 5, none⟩) (Kd.R_far (p := ⟨gb190, 4, none⟩) (Kd.R_far (p := ⟨gb190, 3, none⟩) (Kd.R_far (p := ⟨gb190, 2, none⟩) (Kd.R_far (p := ⟨gb190, 1, none⟩) (Kd.R_far (p := ⟨gb190, 0, none⟩) (Kd.R_types HO168.out BK190.out (by decide)) (fun _ hk => hk.2) (.slice Ao21 t174.length co21)) (fun _ hk => hk.2) (.int .i64 t177)) (fun _ hk => hk.2) (.slice Ao24 t178.length co24)) (fun _ hk => hk.2) (.int .i64 t181)) (fun _ hk => hk.2) (.int .i64 t182)) (fun _ hk => hk.2) (.int .i64 t183)) (fun _ hk => hk.2) (.int .i64 t184)) (fun _ hk => hk.2) (.int .i64 t185)) (fun _ hk => hk.2) (.slice Ao25 t186.length co25)) (fun _ h_ => h_.1)))); (case side12 => exact (Kd.R_reads' HO168.out).2.1); rintro e w35 ⟨rfl, hb⟩; refine ⟨_, rfl, ?_⟩; have n0_ := Aside0.mk (Kd.R_below (by (with_reducible repeat (first | apply Kd.R_alloc | apply Kd.R_drewN | apply Kd.R_drew)); exact (Kd.R_mono (Kd.R_far (p := ⟨gb190, 8, none⟩) (Kd.R_far (p := ⟨gb190, 7, none⟩) (Kd.R_far (p := ⟨gb190, 6, none⟩) (Kd.R_far (p := ⟨gb190, 5, none⟩) (Kd.R_far (p := ⟨gb190, 4, none⟩) (Kd.R_far (p := ⟨gb190, 3, none⟩) (Kd.R_far (p := ⟨gb190, 2, none⟩) (Kd.R_far (p := ⟨gb190, 1, none⟩) (Kd.R_far (p := ⟨gb190, 0, none⟩) (Kd.R_types HO153.out BK190.out (by decide)) (fun _ hk => hk.2) (.slice Ao21 t174.length co21)) (fun _ hk => hk.2) (.int .i64 t177)) (fun _ hk => hk.2) (.slice Ao24 t178.length co24)) (fun _ hk => hk.2) (.int .i64 t181)) (fun _ hk => hk.2) (.int .i64 t182)) (fun _ hk => hk.2) (.int .i64 t183)) (fun _ hk => hk.2) (.int .i64 t184)) (fun _ hk => hk.2) (.int .i64 t185)) (fun _ hk => hk.2) (.slice Ao25 t186.length co25)) (fun _ h_ => h_.1))) hb); have n1_ := Aside0.mk (Kd.R_below (by (with_reducible repeat (first | apply Kd.R_alloc | apply Kd.R_drewN | apply Kd.R_drew)); exact (Kd.R_mono (Kd.R_far (p := ⟨gb190, 8, none⟩) (Kd.R_far (p := ⟨gb190, 7, none⟩) (Kd.R_far (p := ⟨gb190, 6, none⟩) (Kd.R_far (p := ⟨gb190, 5, none⟩) (Kd.R_far (p := ⟨gb190, 4, none⟩) (Kd.R_far (p := ⟨gb190, 3, none⟩) (Kd.R_far (p := ⟨gb190, 2, none⟩) (Kd.R_far (p := ⟨gb190, 1, none⟩) (Kd.R_far (p := ⟨gb190, 0, none⟩) (Kd.R_types HO156.out BK190.out (by decide)) (fun _ hk => hk.2) (.slice Ao21 t174.length co21)) (fun _ hk => hk.2) (.int .i64 t177)) (fun _ hk => hk.2) (.slice Ao24 t178.length co24)) (fun _ hk => hk.2) (.int .i64 t181)) (fun _ hk => hk.2) (.int .i64 t182)) (fun _ hk => hk.2) (.int .i64 t183)) (fun _ hk => hk.2) (.int .i64 t184)) (fun _ hk => hk.2) (.int .i64 t185)) (fun _ hk => hk.2) (.slice Ao25 t186.length co25)) (fun _ h_ => h_.1))) hb); have n2_ := Aside0.mk (Kd.R_below (by (with_reducible repeat (first | apply Kd.R_alloc | apply Kd.R_drewN | apply Kd.R_drew)); exact (Kd.R_mono (Kd.R_far (p := ⟨gb190, 8, none⟩) (Kd.R_far (p := ⟨gb190, 7, none⟩) (Kd.R_far (p := ⟨gb190, 6, none⟩) (Kd.R_far (p := ⟨gb190, 5, none⟩) (Kd.R_far (p := ⟨gb190, 4, none⟩) (Kd.R_far (p := ⟨gb190, 3, none⟩) (Kd.R_far (p := ⟨gb190, 2, none⟩) (Kd.R_far (p := ⟨gb190, 1, none⟩) (Kd.R_far (p := ⟨gb190, 0, none⟩) (Kd.R_types HO160.out BK190.out (by decide)) (fun _ hk => hk.2) (.slice Ao21 t174.length co21)) (fun _ hk => hk.2) (.int .i64 t177)) (fun _ hk => hk.2) (.slice Ao24 t178.length co24)) (fun _ hk => hk.2) (.int .i64 t181)) (fun _ hk => hk.2) (.int .i64 t182)) (fun _ hk => hk.2) (.int .i64 t183)) (fun _ hk => hk.2) (.int .i64 t184)) (fun _ hk => hk.2) (.int .i64 t185)) (fun _ hk => hk.2) (.slice Ao25 t186.length co25)) (fun _ h_ => h_.1))) hb); have n3_ := Aside0.mk (Kd.R_below (by (with_reducible repeat (first | apply Kd.R_alloc | apply Kd.R_drewN | apply Kd.R_drew)); exact (Kd.R_mono (Kd.R_far (p := ⟨gb190, 8, none⟩) (Kd.R_far (p := ⟨gb190, 7, none⟩) (Kd.R_far (p := ⟨gb190, 6, none⟩) (Kd.R_far (p := ⟨gb190, 5, none⟩) (Kd.R_far (p := ⟨gb190, 4, none⟩) (Kd.R_far (p := ⟨gb190, 3, none⟩) (Kd.R_far (p := ⟨gb190, 2, none⟩) (Kd.R_far (p := ⟨gb190, 1, none⟩) (Kd.R_far (p := ⟨gb190, 0, none⟩) (Kd.R_types HO168.out BK190.out (by decide)) (fun _ hk => hk.2) (.slice Ao21 t174.length co21)) (fun _ hk => hk.2) (.int .i64 t177)) (fun _ hk => hk.2) (.slice Ao24 t178.length co24)) (fun _ hk => hk.2) (.int .i64 t181)) (fun _ hk => hk.2) (.int .i64 t182)) (fun _ hk => hk.2) (.int .i64 t183)) (fun _ hk => hk.2) (.int .i64 t184)) (fun _ hk => hk.2) (.int .i64 t185)) (fun _ hk => hk.2) (.slice Ao25 t186.length co25)) (fun _ h_ => h_.1))) hb); have n4_ := Aside0.mk (Kd.R_below (by (with_reducible repeat (first | apply Kd.R_alloc | apply Kd.R_drewN | apply Kd.R_drew)); exact (Kd.R_mono (Kd.R_far (p := ⟨gb190, 8, none⟩) (Kd.R_far (p := ⟨gb190, 7, none⟩) (Kd.R_far (p := ⟨gb190, 6, none⟩) (Kd.R_far (p := ⟨gb190, 5, none⟩) (Kd.R_far (p := ⟨gb190, 4, none⟩) (Kd.R_far (p := ⟨gb190, 3, none⟩) (Kd.R_far (p := ⟨gb190, 2, none⟩) (Kd.R_far (p := ⟨gb190, 1, none⟩) (Kd.R_far (p := ⟨gb190, 0, none⟩) (Kd.R_types HO173.out BK190.out (by decide)) (fun _ hk => hk.2) (.slice Ao21 t174.length co21)) (fun _ hk => hk.2) (.int .i64 t177)) (fun _ hk => hk.2) (.slice Ao24 t178.length co24)) (fun _ hk => hk.2) (.int .i64 t181)) (fun _ hk => hk.2) (.int .i64 t182)) (fun _ hk => hk.2) (.int .i64 t183)) (fun _ hk => hk.2) (.int .i64 t184)) (fun _ hk => hk.2) (.int .i64 t185)) (fun _ hk => hk.2) (.slice Ao25 t186.length co25)) (fun _ h_ => h_.1))) hb); have n5_ := Aside0.mk (Kd.R_below (by (with_reducible repeat (first | apply Kd.R_alloc | apply Kd.R_drewN | apply Kd.R_drew)); exact (Kd.R_mono (Kd.R_far (p := ⟨gb190, 8, none⟩) (Kd.R_far (p := ⟨gb190, 7, none⟩) (Kd.R_far (p := ⟨gb190, 6, none⟩) (Kd.R_far (p := ⟨gb190, 5, none⟩) (Kd.R_far (p := ⟨gb190, 4, none⟩) (Kd.R_far (p := ⟨gb190, 3, none⟩) (Kd.R_far (p := ⟨gb190, 2, none⟩) (Kd.R_far (p := ⟨gb190, 1, none⟩) (Kd.R_far (p := ⟨gb190, 0, none⟩) (Kd.R_types HO176.out BK190.out (by decide)) (fun _ hk => hk.2) (.slice Ao21 t174.length co21)) (fun _ hk => hk.2) (.int .i64 t177)) (fun _ hk => hk.2) (.slice Ao24 t178.length co24)) (fun _ hk => hk.2) (.int .i64 t181)) (fun _ hk => hk.2) (.int .i64 t182)) (fun _ hk => hk.2) (.int .i64 t183)) (fun _ hk => hk.2) (.int .i64 t184)) (fun _ hk => hk.2) (.int .i64 t185)) (fun _ hk => hk.2) (.slice Ao25 t186.length co25)) (fun _ h_ => h_.1))) hb); have n6_ := Aside0.mk (Kd.R_below (by (with_reducible repeat (first | apply Kd.R_alloc | apply Kd.R_drewN | apply Kd.R_drew)); exact (Kd.R_mono (Kd.R_far (p := ⟨gb190, 8, none⟩) (Kd.R_far (p := ⟨gb190, 7, none⟩) (Kd.R_far (p := ⟨gb190, 6, none⟩) (Kd.R_far (p := ⟨gb190, 5, none⟩) (Kd.R_far (p := ⟨gb190, 4, none⟩) (Kd.R_far (p := ⟨gb190, 3, none⟩) (Kd.R_far (p := ⟨gb190, 2, none⟩) (Kd.R_far (p := ⟨gb190, 1, none⟩) (Kd.R_far (p := ⟨gb190, 0, none⟩) (Kd.R_types HO180.out BK190.out (by decide)) (fun _ hk => hk.2) (.slice Ao21 t174.length co21)) (fun _ hk => hk.2) (.int .i64 t177)) (fun _ hk => hk.2) (.slice Ao24 t178.length co24)) (fun _ hk => hk.2) (.int .i64 t181)) (fun _ hk => hk.2) (.int .i64 t182)) (fun _ hk => hk.2) (.int .i64 t183)) (fun _ hk => hk.2) (.int .i64 t184)) (fun _ hk => hk.2) (.int .i64 t185)) (fun _ hk => hk.2) (.slice Ao25 t186.length co25)) (fun _ h_ => h_.1))) hb); have n7_ := Aside0.mk (Kd.R_below (by (with_reducible repeat (first | apply Kd.R_alloc | apply Kd.R_drewN | apply Kd.R_drew)); exact (Kd.R_mono (Kd.R_far (p := ⟨gb190, 8, none⟩) (Kd.R_far (p := ⟨gb190, 7, none⟩) (Kd.R_far (p := ⟨gb190, 6, none⟩) (Kd.R_far (p := ⟨gb190, 5, none⟩) (Kd.R_far (p := ⟨gb190, 4, none⟩) (Kd.R_far (p := ⟨gb190, 3, none⟩) (Kd.R_far (p := ⟨gb190, 2, none⟩) (Kd.R_far (p := ⟨gb190, 1, none⟩) (Kd.R_far (p := ⟨gb190, 0, none⟩) (Kd.R_types HO188.out BK190.out (by decide)) (fun _ hk => hk.2) (.slice Ao21 t174.length co21)) (fun _ hk => hk.2) (.int .i64 t177)) (fun _ hk => hk.2) (.slice Ao24 t178.length co24)) (fun _ hk => hk.2) (.int .i64 t181)) (fun _ hk => hk.2) (.int .i64 t182)) (fun _ hk => hk.2) (.int .i64 t183)) (fun _ hk => hk.2) (.int .i64 t184)) (fun _ hk => hk.2) (.int .i64 t185)) (fun _ hk => hk.2) (.slice Ao25 t186.length co25)) (fun _ h_ => h_.1))) hb); have n8_ := Aside0.mk (blk_below (g := gb170) (o := .cells #[.slice Ao13 t154.length co13, .int .i64 t157, .slice Ao15 t158.length co15, .int .i64 t161, .int .i64 t162, .int .i64 t163, .int .i64 t164, .int .i64 t165, .slice Ao16 t166.length co16] 36 (0, 0)) (by (with_reducible repeat (first | refine blk_drewN ?_ _ | refine blk_drew ?_ | refine blk_alloc ?_ _)); refine blk_far ?_ NB170_190.out _; (with_reducible repeat (first | refine blk_drewN ?_ _ | refine blk_drew ?_ | refine blk_alloc ?_ _)); refine blk_far ?_ NB170_190.out _; (with_reducible repeat (first | refine blk_drewN ?_ _ | refine blk_drew ?_ | refine blk_alloc ?_ _)); refine blk_far ?_ NB170_190.out _; (with_reducible repeat (first | refine blk_drewN ?_ _ | refine blk_drew ?_ | refine blk_alloc ?_ _)); refine blk_far ?_ NB170_190.out _; (with_reducible repeat (first | refine blk_drewN ?_ _ | refine blk_drew ?_ | refine blk_alloc ?_ _)); refine blk_far ?_ NB170_190.out _; (with_reducible repeat (first | refine blk_drewN ?_ _ | refine blk_drew ?_ | refine blk_alloc ?_ _)); refine blk_far ?_ NB170_190.out _; (with_reducible repeat (first | refine blk_drewN ?_ _ | refine blk_drew ?_ | refine blk_alloc ?_ _)); refine blk_far ?_ NB170_190.out _; (with_reducible repeat (first | refine blk_drewN ?_ _ | refine blk_drew ?_ | refine blk_alloc ?_ _)); refine blk_far ?_ NB170_190.out _; (with_reducible repeat (first | refine blk_drewN ?_ _ | refine blk_drew ?_ | refine blk_alloc ?_ _)); refine blk_far ?_ NB170_190.out _; (with_reducible repeat (first | refine blk_drewN ?_ _ | refine blk_drew ?_ | refine blk_alloc ?_ _)); exact BK170.out) hb); have n9_ := Aside0.mk (blk_below (g := gb190) (o := .cells #[.slice Ao21 t174.length co21, .int .i64 t177, .slice Ao24 t178.length co24, .int .i64 t181, .int .i64 t182, .int .i64 t183, .int .i64 t184, .int .i64 t185, .slice Ao25 t186.length co25] 36 (0, 0)) (by (with_reducible repeat (first | refine blk_drewN ?_ _ | refine blk_drew ?_ | refine blk_alloc ?_ _)); refine blk_put (cs := #[.slice Ao21 t174.length co21, .int .i64 t177, .slice Ao24 t178.length co24, .int .i64 t181, .int .i64 t182, .int .i64 t183, .int .i64 t184, .int .i64 t185, .slice none 0 0]) ?_ 8 _ rfl; (with_reducible repeat (first | refine blk_drewN ?_ _ | refine blk_drew ?_ | refine blk_alloc ?_ _)); refine blk_put (cs := #[.slice Ao21 t174.length co21, .int .i64 t177, .slice Ao24 t178.length co24, .int .i64 t181, .int .i64 t182, .int .i64 t183, .int .i64 t184, .int .i64 0, .slice none 0 0]) ?_ 7 _ rfl; (with_reducible repeat (first | refine blk_drewN ?_ _ | refine blk_drew ?_ | refine blk_alloc ?_ _)); refine blk_put (cs := #[.slice Ao21 t174.length co21, .int .i64 t177, .slice Ao24 t178.length co24, .int .i64 t181, .int .i64 t182, .int .i64 t183, .int .i64 0, .int .i64 0, .slice none 0 0]) ?_ 6 _ rfl; (with_reducible repeat (first | refine blk_drewN ?_ _ | refine blk_drew ?_ | refine blk_alloc ?_ _)); refine blk_put (cs := #[.slice Ao21 t174.length co21, .int .i64 t177, .slice Ao24 t178.length co24, .int .i64 t181, .int .i64 t182, .int .i64 0, .int .i64 0, .int .i64 0, .slice none 0 0]) ?_ 5 _ rfl; (with_reducible repeat (first | refine blk_drewN ?_ _ | refine blk_drew ?_ | refine blk_alloc ?_ _)); refine blk_put (cs := #[.slice Ao21 t174.length co21, .int .i64 t177, .slice Ao24 t178.length co24, .int .i64 t181, .int .i64 0, .int .i64 0, .int .i64 0, .int .i64 0, .slice none 0 0]) ?_ 4 _ rfl; (with_reducible repeat (first | refine blk_drewN ?_ _ | refine blk_drew ?_ | refine blk_alloc ?_ _)); refine blk_put (cs := #[.slice Ao21 t174.length co21, .int .i64 t177, .slice Ao24 t178.length co24, .int .i64 0, .int .i64 0, .int .i64 0, .int .i64 0, .int .i64 0, .slice none 0 0]) ?_ 3 _ rfl; (with_reducible repeat (first | refine blk_drewN ?_ _ | refine blk_drew ?_ | refine blk_alloc ?_ _)); refine blk_put (cs := #[.slice Ao21 t174.length co21, .int .i64 t177, .slice none 0 0, .int .i64 0, .int .i64 0, .int .i64 0, .int .i64 0, .int .i64 0, .slice none 0 0]) ?_ 2 _ rfl; (with_reducible repeat (first | refine blk_drewN ?_ _ | refine blk_drew ?_ | refine blk_alloc ?_ _)); refine blk_put (cs := #[.slice Ao21 t174.length co21, .int .i64 0, .slice none 0 0, .int .i64 0, .int .i64 0, .int .i64 0, .int .i64 0, .int .i64 0, .slice none 0 0]) ?_ 1 _ rfl; (with_reducible repeat (first | refine blk_drewN ?_ _ | refine blk_drew ?_ | refine blk_alloc ?_ _)); refine blk_put (cs := #[.slice none 0 0, .int .i64 0, .slice none 0 0, .int .i64 0, .int .i64 0, .int .i64 0, .int .i64 0, .int .i64 0, .slice none 0 0]) ?_ 0 _ rfl; (with_reducible repeat (first | refine blk_drewN ?_ _ | refine blk_drew ?_ | refine blk_alloc ?_ _)); exact BK190.out) hb); have n10_ := Aside0.mk (below_step bl_ hb); clear HO153; clear HO156; clear HO160; clear HO168; clear HO173; clear HO176; clear HO180; clear HO188; clear BK170; clear BK190; clear HB; have HO153 := n0_; have HO156 := n1_; have HO160 := n2_; have HO168 := n3_; have HO173 := n4_; have HO176 := n5_; have HO180 := n6_; have HO188 := n7_; have BK170 := n8_; have BK190 := n9_; have HB := n10_; clear n0_ n1_ n2_ n3_ n4_ n5_ n6_ n7_ n8_ n9_ n10_; (try clear hb); (try clear hb2); (try clear hk); (try clear hi)))
        go_meet
        case rel => exact ⟨_, (true), sp_, H', ⟨by first | omega | exact Nat.le_refl _⟩, ⟨by (with_reducible repeat (first | apply Kd.R_alloc | apply Kd.R_drewN | apply Kd.R_drew)); exact Kd.R_mono HO173.out (fun _ hk => ⟨hk.1.1.1.2, ⟨hk.1.1.2, ⟨hk.1.2, hk.2⟩⟩⟩)⟩, ⟨by (with_reducible repeat (first | apply Kd.R_alloc | apply Kd.R_drewN | apply Kd.R_drew)); exact Kd.R_mono HO156.out (fun _ hk => ⟨hk.1.1.2, ⟨hk.1.1.1.1, ⟨hk.1.2, hk.2⟩⟩⟩)⟩, ⟨by (with_reducible repeat (first | apply Kd.R_alloc | apply Kd.R_drewN | apply Kd.R_drew)); exact Kd.R_mono HO160.out (fun _ hk => hk.2)⟩, ⟨by (with_reducible repeat (first | apply Kd.R_alloc | apply Kd.R_drewN | apply Kd.R_drew)); exact Kd.R_mono HO168.out (fun _ hk => ⟨hk.1.1.2, ⟨hk.1.1.1.1, ⟨hk.1.2, hk.2⟩⟩⟩)⟩, ⟨by (with_reducible repeat (first | apply Kd.R_alloc | apply Kd.R_drewN | apply Kd.R_drew)); exact Kd.R_mono HO176.out (fun _ hk => ⟨hk.2, ⟨hk.1.1.2, ⟨hk.1.2, hk.1.1.1.1⟩⟩⟩)⟩, ⟨by (with_reducible repeat (first | apply Kd.R_alloc | apply Kd.R_drewN | apply Kd.R_drew)); exact Kd.R_mono HO180.out (fun _ hk => hk.2)⟩, ⟨by (with_reducible repeat (first | apply Kd.R_alloc | apply Kd.R_drewN | apply Kd.R_drew)); exact Kd.R_mono HO188.out (fun _ hk => ⟨hk.2, ⟨hk.1.1.2, ⟨hk.1.2, hk.1.1.1.1⟩⟩⟩)⟩, ⟨by (with_reducible repeat (first | refine blk_drewN ?_ _ | refine blk_drew ?_ | refine blk_alloc ?_ _)); exact BK170.out⟩, ⟨by (with_reducible repeat (first | refine blk_drewN ?_ _ | refine blk_drew ?_ | refine blk_alloc ?_ _)); exact BK190.out⟩, ⟨bl_⟩⟩
    case rest =>
      clear HC8
      try clear c1
      try clear c2
      try clear p2
      try clear c3
      try clear c3b0
      try clear c3b1
      try clear c4
      try clear c10
      try clear c22
      try clear c26
      try clear c27
      try clear c28
      try clear c32
      try clear hcz14_0
      try clear hcz14_1
      try clear hcz14_2
      try clear hcz14_3
      try clear hcz14_4
      try clear hcz14_5
      try clear hcz14_6
      try clear hcz14_7
      try clear hcz14_8
      try clear hcz23_0
      try clear hcz23_1
      try clear hcz23_2
      try clear hcz23_3
      try clear hcz23_4
      try clear hcz23_5
      try clear hcz23_6
      try clear hcz23_7
      try clear hcz23_8
      try clear hcz29_0
      try clear hcz29_1
      try clear hcz29_2
      try clear hcz29_3
      try clear hcz29_4
      try clear hcz29_5
      try clear hcz29_6
      try clear hcz29_7
      try clear hcz29_8
      try clear hcz30_0
      try clear hcz30_1
      try clear hcz30_2
      try clear hcz30_3
      try clear hcz30_4
      try clear hcz30_5
      try clear hcz30_6
      try clear hcz30_7
      try clear hcz30_8
      try clear hcz33_0
      try clear hcz33_1
      try clear hcz33_2
      try clear hcz33_3
      try clear hcz33_4
      try clear hcz33_5
      try clear hcz33_6
      try clear hcz33_7
      try clear hcz33_8
      try clear hcz34_0
      try clear hcz34_1
      try clear hcz34_2
      try clear hcz34_3
      try clear hcz34_4
      try clear hcz34_5
      try clear hcz34_6
      try clear hcz34_7
      try clear hcz34_8
      try clear hfz14_0
      try clear hfz14_1
      try clear hfz14_2
      try clear hfz14_3
      try clear hfz14_4
      try clear hfz14_5
      try clear hfz14_6
      try clear hfz14_7
      try clear hfz14_8
      try clear hfz23_0
      try clear hfz23_1
      try clear hfz23_2
      try clear hfz23_3
      try clear hfz23_4
      try clear hfz23_5
      try clear hfz23_6
      try clear hfz23_7
      try clear hfz23_8
      try clear hfz29_0
      try clear hfz29_1
      try clear hfz29_2
      try clear hfz29_3
      try clear hfz29_4
      try clear hfz29_5
      try clear hfz29_6
      try clear hfz29_7
      try clear hfz29_8
      try clear hfz30_0
      try clear hfz30_1
      try clear hfz30_2
      try clear hfz30_3
      try clear hfz30_4
      try clear hfz30_5
      try clear hfz30_6
      try clear hfz30_7
      try clear hfz30_8
      try clear hfz33_0
      try clear hfz33_1
      try clear hfz33_2
      try clear hfz33_3
      try clear hfz33_4
      try clear hfz33_5
      try clear hfz33_6
      try clear hfz33_7
      try clear hfz33_8
      try clear hfz34_0
      try clear hfz34_1
      try clear hfz34_2
      try clear hfz34_3
      try clear hfz34_4
      try clear hfz34_5
      try clear hfz34_6
      try clear hfz34_7
      try clear hfz34_8
      obtain ⟨kq, x41_7, rfl, HA, HJ7, HO_7, HO_171000, HO_171002, HO_171008, HO_191000, HO_191002, HO_191008, BK170, BK190, HB⟩ := hcut
      cases kq with
      | zero => exact absurd HA.out (by simp [laws_FnExactTaskNew.j0])
      | succ kj7 =>
        have H := HA.out
        clear HA
        simp only [laws_FnExactTaskNew.j0] at H
        by_cases c36 : x41_7 = true
        · subst c36
          have H1 : (some false) = some true := by rw [if_pos rfl] at H; exact H
          clear H
          have H := H1
          clear H1
          exact absurd H (by simp)
        · replace c36 := Bool.eq_false_iff.mpr c36
          subst c36
          have H1 : ((laws_toByteS.f kj7 l0).bind fun t192 => ((laws_eqByteS.f kj7 t171 t192).bind fun t195 => (if t195 = true then ((laws_markByteS.f kj7 t171 1).bind fun bt196 => (if bt196.1 < 0 then (laws_FnExactTaskNew.j1 kj7 l0 a1 t169 true t154 t157 t158 t161 t162 t163 t164 t165 t166 t174 t177 t178 t181 t182 t183 t184 t185 t186) else ((laws_eqTask.f kj7 t174 t177 t178 t181 t182 t183 t184 t185 t186 t154 t157 t158 t161 t162 t163 t164 t165 t166).bind fun t198 => (if t198 = true then (laws_FnExactTaskNew.j1 kj7 l0 a1 t169 (t189 != t169) t154 t157 t158 t161 t162 t163 t164 t165 t166 t174 t177 t178 t181 t182 t183 t184 t185 t186) else (laws_FnExactTaskNew.j1 kj7 l0 a1 t169 true t154 t157 t158 t161 t162 t163 t164 t165 t166 t174 t177 t178 t181 t182 t183 t184 t185 t186))))) else (some false)))) = some true := by rw [if_neg (show ¬ (false = true) by decide)] at H; exact H
          clear H
          have H := H1
          clear H1
          replace H := Option.bind_eq_some_iff.mp H
          obtain ⟨t192, A370, H⟩ := H
          replace H : ((laws_eqByteS.f kj7 t171 t192).bind fun t195 => (if t195 = true then ((laws_markByteS.f kj7 t171 1).bind fun bt196 => (if bt196.1 < 0 then (laws_FnExactTaskNew.j1 kj7 l0 a1 t169 true t154 t157 t158 t161 t162 t163 t164 t165 t166 t174 t177 t178 t181 t182 t183 t184 t185 t186) else ((laws_eqTask.f kj7 t174 t177 t178 t181 t182 t183 t184 t185 t186 t154 t157 t158 t161 t162 t163 t164 t165 t166).bind fun t198 => (if t198 = true then (laws_FnExactTaskNew.j1 kj7 l0 a1 t169 (t189 != t169) t154 t157 t158 t161 t162 t163 t164 t165 t166 t174 t177 t178 t181 t182 t183 t184 t185 t186) else (laws_FnExactTaskNew.j1 kj7 l0 a1 t169 true t154 t157 t158 t161 t162 t163 t164 t165 t166 t174 t177 t178 t181 t182 t183 t184 t185 t186))))) else (some false))) = some true := H
          have A37 := Aside0.mk A370
          clear A370
          replace H := Option.bind_eq_some_iff.mp H
          obtain ⟨t195, A380, H⟩ := H
          replace H : (if t195 = true then ((laws_markByteS.f kj7 t171 1).bind fun bt196 => (if bt196.1 < 0 then (laws_FnExactTaskNew.j1 kj7 l0 a1 t169 true t154 t157 t158 t161 t162 t163 t164 t165 t166 t174 t177 t178 t181 t182 t183 t184 t185 t186) else ((laws_eqTask.f kj7 t174 t177 t178 t181 t182 t183 t184 t185 t186 t154 t157 t158 t161 t162 t163 t164 t165 t166).bind fun t198 => (if t198 = true then (laws_FnExactTaskNew.j1 kj7 l0 a1 t169 (t189 != t169) t154 t157 t158 t161 t162 t163 t164 t165 t166 t174 t177 t178 t181 t182 t183 t184 t185 t186) else (laws_FnExactTaskNew.j1 kj7 l0 a1 t169 true t154 t157 t158 t161 t162 t163 t164 t165 t166 t174 t177 t178 t181 t182 t183 t184 t185 t186))))) else (some false)) = some true := H
          have A38 := Aside0.mk A380
          clear A380
          by_cases c39 : t195 = true
          · subst c39
            have H1 : ((laws_markByteS.f kj7 t171 1).bind fun bt196 => (if bt196.1 < 0 then (laws_FnExactTaskNew.j1 kj7 l0 a1 t169 true t154 t157 t158 t161 t162 t163 t164 t165 t166 t174 t177 t178 t181 t182 t183 t184 t185 t186) else ((laws_eqTask.f kj7 t174 t177 t178 t181 t182 t183 t184 t185 t186 t154 t157 t158 t161 t162 t163 t164 t165 t166).bind fun t198 => (if t198 = true then (laws_FnExactTaskNew.j1 kj7 l0 a1 t169 (t189 != t169) t154 t157 t158 t161 t162 t163 t164 t165 t166 t174 t177 t178 t181 t182 t183 t184 t185 t186) else (laws_FnExactTaskNew.j1 kj7 l0 a1 t169 true t154 t157 t158 t161 t162 t163 t164 t165 t166 t174 t177 t178 t181 t182 t183 t184 t185 t186))))) = some true := by rw [if_pos rfl] at H; exact H
            clear H
            have H := H1
            clear H1
            replace H := Option.bind_eq_some_iff.mp H
            obtain ⟨⟨t196, t197⟩, A400, H⟩ := H
            replace H : (if t196 < 0 then (laws_FnExactTaskNew.j1 kj7 l0 a1 t169 true t154 t157 t158 t161 t162 t163 t164 t165 t166 t174 t177 t178 t181 t182 t183 t184 t185 t186) else ((laws_eqTask.f kj7 t174 t177 t178 t181 t182 t183 t184 t185 t186 t154 t157 t158 t161 t162 t163 t164 t165 t166).bind fun t198 => (if t198 = true then (laws_FnExactTaskNew.j1 kj7 l0 a1 t169 (t189 != t169) t154 t157 t158 t161 t162 t163 t164 t165 t166 t174 t177 t178 t181 t182 t183 t184 t185 t186) else (laws_FnExactTaskNew.j1 kj7 l0 a1 t169 true t154 t157 t158 t161 t162 t163 t164 t165 t166 t174 t177 t178 t181 t182 t183 t184 t185 t186)))) = some true := H
            have A40 := Aside0.mk A400
            clear A400
            have HC41 := Aside0.mk H
            clear H
            go_upto_region 12 with (first | ((with_reducible refine gate_callee (f := 39) rfl ?_); refine goesL_ (some 44) rfl rfl Try.func39 (by kernel_rfl) rfl #[.slice A0 l0.length c0] rfl gl_ ?_; (with_reducible refine (laws_toByteS.calls kj7 _ _ l0 t192 _ ?side1 ?side2 A37.out).mono ?_); (case side1 => exact ca_ (Kd.C_below HR0.out HB.out)); (case side2 => exact HC0.out); rintro e w42 ⟨v193, rfl, ho0, hb⟩; refine ⟨_, rfl, ?_⟩; have n0_ := Aside0.mk (Kd.R_elder' (ra_ HO_7) (Kd.R_base ho0) hb); have n1_ := Aside0.mk (Kd.R_elder' (ra_ HO_171000) (Kd.R_base ho0) hb); have n2_ := Aside0.mk (Kd.R_below (ra_ HO_171002) hb); have n3_ := Aside0.mk (Kd.R_elder' (ra_ HO_171008) (Kd.R_base ho0) hb); have n4_ := Aside0.mk (Kd.R_elder' (ra_ HO_191000) (Kd.R_base ho0) hb); have n5_ := Aside0.mk (Kd.R_below (ra_ HO_191002) hb); have n6_ := Aside0.mk (Kd.R_elder' (ra_ HO_191008) (Kd.R_base ho0) hb); have n7_ := Aside0.mk (Kd.R_lower (Kd.R_new' (Kd.R_new' (Kd.R_new' (Kd.R_new' (Kd.R_new' ho0 (Kd.R_lt (ra_ HO_7))) (Kd.R_lt (ra_ HO_171000))) (Kd.R_lt (ra_ HO_171008))) (Kd.R_lt (ra_ HO_191000))) (Kd.R_lt (ra_ HO_191008))) (below_size bl_)); have n8_ := Aside0.mk (blk_below (bk_ BK170) hb); have n9_ := Aside0.mk (blk_below (bk_ BK190) hb); have n10_ := Aside0.mk (below_step bl_ hb); clear HO_7; clear HO_171000; clear HO_171002; clear HO_171008; clear HO_191000; clear HO_191002; clear HO_191008; clear BK170; clear BK190; clear HB; have HO_7 := n0_; have HO_171000 := n1_; have HO_171002 := n2_; have HO_171008 := n3_; have HO_191000 := n4_; have HO_191002 := n5_; have HO_191008 := n6_; have HO194 := n7_; have BK170 := n8_; have BK190 := n9_; have HB := n10_; clear n0_ n1_ n2_ n3_ n4_ n5_ n6_ n7_ n8_ n9_ n10_; (try clear hb); (try clear hb2); (try clear hk); (try clear hi); (try clear ho0); obtain ⟨Ao43, co43, eo43⟩ := Kd.R_slice HO194.out; subst eo43) | ((with_reducible refine gate_callee (f := 41) rfl ?_); refine goesL_ (some 45) rfl rfl Try.func41 (by kernel_rfl) rfl #[.slice Ao18 t171.length co18, .slice Ao43 t192.length co43] rfl gl_ ?_; (with_reducible refine (laws_eqByteS.calls kj7 _ _ t171 _ _ t192 true _ ?side1 ?side2 ?side3 ?side4 A38.out).mono ?_); (case side1 => exact ca_ ((Kd.R_reads' HO_7.out).2.2)); (case side2 => exact (Kd.R_reads' HO_7.out).2.1); (case side3 => exact ca_ ((Kd.R_reads' HO194.out).2.2)); (case side4 => exact (Kd.R_reads' HO194.out).2.1); rintro e w' ⟨rfl, ⟨nd, rfl⟩⟩; refine ⟨_, rfl, ?_⟩) | ((with_reducible refine gate_callee (f := 42) rfl ?_); refine goesL_ (some 49) rfl rfl Try.func42 (by kernel_rfl) rfl #[.slice Ao18 t171.length co18, .int .i64 1] rfl gl_ ?_; (with_reducible refine (laws_markByteS.calls kj7 (fun k_ => some k_ = (.slice Ao18 t171.length co18 : Value).ownBlock) (.slice Ao18 t171.length co18) t171 1 t196 t197 w _ ?side1 ?side2 A40.out).mono ?_); (case side1 => repeat (first | (with_reducible first | exact HB.out | apply below_alloc | apply pw_below_drewN | apply below_drew1 | refine below_set ?_ GE170.out | refine below_set ?_ GE190.out) | exact HB.out)); (case side2 => exact Kd.R_tight rfl HO_7.out); rintro e w44 ⟨rfl, hy0, hb, hkp⟩; refine ⟨_, rfl, ?_⟩; have n0_ := Aside0.mk (Kd.R_reok rfl hy0 (fun k_ e_ => HO_7.out.1 k_ e_)); have n1_ := Aside0.mk (Kd.R_mono (ok' := fun k_ => some k_ ≠ (.slice Ao18 t171.length co18 : Value).ownBlock ∧ some k_ ≠ (.slice Ao16 t166.length co16 : Value).ownBlock ∧ some k_ ≠ (.slice Ao21 t174.length co21 : Value).ownBlock ∧ some k_ ≠ (.slice Ao25 t186.length co25 : Value).ownBlock ∧ some k_ ≠ (.slice Ao43 t192.length co43 : Value).ownBlock) (Kd.R_keptB (HO_171000.out) hkp (fun k_ hk_ hs_ => (hk_.1.1) hs_)) (fun k_ hk_ => ⟨hk_.1.1.1, hk_.1.1.2.1, hk_.1.1.2.2.1, hk_.1.1.2.2.2, hk_.1.2⟩)); have n2_ := Aside0.mk (Kd.R_mono (ok' := fun k_ => some k_ ≠ (.slice Ao24 t178.length co24 : Value).ownBlock) (Kd.R_keptB ((Kd.R_apart' HO_171002.out (Kd.R_typed HO_7.out) (by decide))) hkp (fun k_ hk_ hs_ => (hk_.2) hs_)) (fun k_ hk_ => hk_.1.1)); have n3_ := Aside0.mk (Kd.R_mono (ok' := fun k_ => some k_ ≠ (.slice Ao18 t171.length co18 : Value).ownBlock ∧ some k_ ≠ (.slice Ao13 t154.length co13 : Value).ownBlock ∧ some k_ ≠ (.slice Ao21 t174.length co21 : Value).ownBlock ∧ some k_ ≠ (.slice Ao25 t186.length co25 : Value).ownBlock ∧ some k_ ≠ (.slice Ao43 t192.length co43 : Value).ownBlock) (Kd.R_keptB (HO_171008.out) hkp (fun k_ hk_ hs_ => (hk_.1.1) hs_)) (fun k_ hk_ => ⟨hk_.1.1.1, hk_.1.1.2.1, hk_.1.1.2.2.1, hk_.1.1.2.2.2, hk_.1.2⟩)); have n4_ := Aside0.mk (Kd.R_mono (ok' := fun k_ => some k_ ≠ (.slice Ao18 t171.length co18 : Value).ownBlock ∧ some k_ ≠ (.slice Ao13 t154.length co13 : Value).ownBlock ∧ some k_ ≠ (.slice Ao16 t166.length co16 : Value).ownBlock ∧ some k_ ≠ (.slice Ao25 t186.length co25 : Value).ownBlock ∧ some k_ ≠ (.slice Ao43 t192.length co43 : Value).ownBlock) (Kd.R_keptB (HO_191000.out) hkp (fun k_ hk_ hs_ => (hk_.1.1) hs_)) (fun k_ hk_ => ⟨hk_.1.1.1, hk_.1.1.2.1, hk_.1.1.2.2.1, hk_.1.1.2.2.2, hk_.1.2⟩)); have n5_ := Aside0.mk (Kd.R_mono (ok' := fun k_ => some k_ ≠ (.slice Ao15 t158.length co15 : Value).ownBlock) (Kd.R_keptB ((Kd.R_apart' HO_191002.out (Kd.R_typed HO_7.out) (by decide))) hkp (fun k_ hk_ hs_ => (hk_.2) hs_)) (fun k_ hk_ => hk_.1.1)); have n6_ := Aside0.mk (Kd.R_mono (ok' := fun k_ => some k_ ≠ (.slice Ao18 t171.length co18 : Value).ownBlock ∧ some k_ ≠ (.slice Ao13 t154.length co13 : Value).ownBlock ∧ some k_ ≠ (.slice Ao16 t166.length co16 : Value).ownBlock ∧ some k_ ≠ (.slice Ao21 t174.length co21 : Value).ownBlock ∧ some k_ ≠ (.slice Ao43 t192.length co43 : Value).ownBlock) (Kd.R_keptB (HO_191008.out) hkp (fun k_ hk_ hs_ => (hk_.1.1) hs_)) (fun k_ hk_ => ⟨hk_.1.1.1, hk_.1.1.2.1, hk_.1.1.2.2.1, hk_.1.1.2.2.2, hk_.1.2⟩)); have n7_ := Aside0.mk (blk_kept (by (with_reducible repeat (first | refine blk_drewN ?_ _ | refine blk_drew ?_ | refine blk_alloc ?_ _)); exact BK170.out) hkp (fun hs_ => (fun e_ => (Kd.R_ne HO_7.out BK170.out (by decide)) e_) hs_)); have n8_ := Aside0.mk (blk_kept (by (with_reducible repeat (first | refine blk_drewN ?_ _ | refine blk_drew ?_ | refine blk_alloc ?_ _)); exact BK190.out) hkp (fun hs_ => (fun e_ => (Kd.R_ne HO_7.out BK190.out (by decide)) e_) hs_)); have n9_ := Aside0.mk (Kd.R_mono (ok' := fun k_ => some k_ ≠ (.slice Ao18 t171.length co18 : Value).ownBlock ∧ some k_ ≠ (.slice Ao13 t154.length co13 : Value).ownBlock ∧ some k_ ≠ (.slice Ao16 t166.length co16 : Value).ownBlock ∧ some k_ ≠ (.slice Ao21 t174.length co21 : Value).ownBlock ∧ some k_ ≠ (.slice Ao25 t186.length co25 : Value).ownBlock) (Kd.R_keptB (HO194.out) hkp (fun k_ hk_ hs_ => (hk_.1.1.1.1.2) hs_)) (fun k_ hk_ => ⟨hk_.1.1.1.1.1.2, hk_.1.1.1.1.2, hk_.1.1.1.2, hk_.1.1.2, hk_.1.2⟩)); have n10_ := Aside0.mk (hb); clear HO_7; clear HO_171000; clear HO_171002; clear HO_171008; clear HO_191000; clear HO_191002; clear HO_191008; clear BK170; clear BK190; clear HO194; clear HB; have HO_7 := n0_; have HO_171000 := n1_; have HO_171002 := n2_; have HO_171008 := n3_; have HO_191000 := n4_; have HO_191002 := n5_; have HO_191008 := n6_; have BK170 := n7_; have BK190 := n8_; have HO194 := n9_; have HB := n10_; clear n0_ n1_ n2_ n3_ n4_ n5_ n6_ n7_ n8_ n9_ n10_; (try clear hb); (try clear hkp); (try clear hy0)))
            (try simp only [Act.put, List.setIfInBounds_toArray, List.set_cons_zero, List.set_cons_succ])
            go_cut [62] (fun v62 wc => ∃ (kq : Nat) (x62_40 : Bool), v62 = .bool x62_40 ∧ Aside0 (laws_FnExactTaskNew.j1 kq l0 a1 t169 x62_40 t154 t157 t158 t161 t162 t163 t164 t165 t166 t174 t177 t178 t181 t182 t183 t184 t185 t186 = some true) ∧ Aside0 (kq ≤ kj7) ∧ Aside0 (Kd.R (Kd.int .u8) 5 wc w.heap.size (fun k_ => some k_ ≠ ((.slice Ao16 t166.length co16) : Value).ownBlock ∧ some k_ ≠ ((.slice Ao21 t174.length co21) : Value).ownBlock ∧ some k_ ≠ ((.slice Ao25 t186.length co25) : Value).ownBlock) (.slice Ao13 t154.length co13) t154) ∧ Aside0 (Kd.R (Kd.int .i64) 3 wc w.heap.size (fun k_ => some k_ ≠ ((.slice Ao24 t178.length co24) : Value).ownBlock) (.slice Ao15 t158.length co15) t158) ∧ Aside0 (Kd.R (Kd.int .u8) 5 wc w.heap.size (fun k_ => some k_ ≠ ((.slice Ao13 t154.length co13) : Value).ownBlock ∧ some k_ ≠ ((.slice Ao21 t174.length co21) : Value).ownBlock ∧ some k_ ≠ ((.slice Ao25 t186.length co25) : Value).ownBlock) (.slice Ao16 t166.length co16) t166) ∧ Aside0 (Kd.R (Kd.int .u8) 5 wc w.heap.size (fun k_ => some k_ ≠ ((.slice Ao13 t154.length co13) : Value).ownBlock ∧ some k_ ≠ ((.slice Ao16 t166.length co16) : Value).ownBlock ∧ some k_ ≠ ((.slice Ao25 t186.length co25) : Value).ownBlock) (.slice Ao21 t174.length co21) t174) ∧ Aside0 (Kd.R (Kd.int .i64) 3 wc w.heap.size (fun k_ => some k_ ≠ ((.slice Ao15 t158.length co15) : Value).ownBlock) (.slice Ao24 t178.length co24) t178) ∧ Aside0 (Kd.R (Kd.int .u8) 5 wc w.heap.size (fun k_ => some k_ ≠ ((.slice Ao13 t154.length co13) : Value).ownBlock ∧ some k_ ≠ ((.slice Ao16 t166.length co16) : Value).ownBlock ∧ some k_ ≠ ((.slice Ao21 t174.length co21) : Value).ownBlock) (.slice Ao25 t186.length co25) t186) ∧ Aside0 (wc.heap[gb170]? = some (.cells #[(.slice Ao13 t154.length co13), .int .i64 t157, (.slice Ao15 t158.length co15), .int .i64 t161, .int .i64 t162, .int .i64 t163, .int .i64 t164, .int .i64 t165, (.slice Ao16 t166.length co16)] 36 (0, 0))) ∧ Aside0 (wc.heap[gb190]? = some (.cells #[(.slice Ao21 t174.length co21), .int .i64 t177, (.slice Ao24 t178.length co24), .int .i64 t181, .int .i64 t182, .int .i64 t183, .int .i64 t184, .int .i64 t185, (.slice Ao25 t186.length co25)] 36 (0, 0))) ∧ Aside0 (Below w.heap.size w wc))
            case first =>
              have H := HC41.out
              clear HC41
              by_cases c45 : t196 < 0
              · rw [if_pos c45] at H
                have c45b0 : decide (t196 < 0) = true := decide_eq_true c45
                clear c45
                (first | rw [c45b0] | (simp only [i64_w, i32_w]; rw [c45b0]) | skip)
                have H' := Aside0.mk H
                clear H
                go_wp2
                go_meet
                case rel => exact ⟨_, (true), sp_, H', ⟨by have := HJ7.out; first | omega | exact Nat.le_refl _⟩, ⟨by (with_reducible repeat (first | apply Kd.R_alloc | apply Kd.R_drewN | apply Kd.R_drew)); exact Kd.R_mono HO_171000.out (fun _ hk => ⟨hk.2.1, ⟨hk.2.2.1, hk.2.2.2.1⟩⟩)⟩, ⟨ra_ HO_171002⟩, ⟨by (with_reducible repeat (first | apply Kd.R_alloc | apply Kd.R_drewN | apply Kd.R_drew)); exact Kd.R_mono HO_171008.out (fun _ hk => ⟨hk.2.1, ⟨hk.2.2.1, hk.2.2.2.1⟩⟩)⟩, ⟨by (with_reducible repeat (first | apply Kd.R_alloc | apply Kd.R_drewN | apply Kd.R_drew)); exact Kd.R_mono HO_191000.out (fun _ hk => ⟨hk.2.1, ⟨hk.2.2.1, hk.2.2.2.1⟩⟩)⟩, ⟨ra_ HO_191002⟩, ⟨by (with_reducible repeat (first | apply Kd.R_alloc | apply Kd.R_drewN | apply Kd.R_drew)); exact Kd.R_mono HO_191008.out (fun _ hk => ⟨hk.2.1, ⟨hk.2.2.1, hk.2.2.2.1⟩⟩)⟩, ⟨by (with_reducible repeat (first | refine blk_drewN ?_ _ | refine blk_drew ?_ | refine blk_alloc ?_ _)); exact BK170.out⟩, ⟨by (with_reducible repeat (first | refine blk_drewN ?_ _ | refine blk_drew ?_ | refine blk_alloc ?_ _)); exact BK190.out⟩, ⟨bl_⟩⟩
              · rw [if_neg c45] at H
                have c45b0 : decide (t196 < 0) = false := decide_eq_false c45
                clear c45
                (first | rw [c45b0] | (simp only [i64_w, i32_w]; rw [c45b0]) | skip)
                replace H := Option.bind_eq_some_iff.mp H
                obtain ⟨t198, A460, H⟩ := H
                replace H : (if t198 = true then (laws_FnExactTaskNew.j1 kj7 l0 a1 t169 (t189 != t169) t154 t157 t158 t161 t162 t163 t164 t165 t166 t174 t177 t178 t181 t182 t183 t184 t185 t186) else (laws_FnExactTaskNew.j1 kj7 l0 a1 t169 true t154 t157 t158 t161 t162 t163 t164 t165 t166 t174 t177 t178 t181 t182 t183 t184 t185 t186)) = some true := H
                have A46 := Aside0.mk A460
                clear A460
                by_cases c47 : t198 = true
                · subst c47
                  have H1 : (laws_FnExactTaskNew.j1 kj7 l0 a1 t169 (t189 != t169) t154 t157 t158 t161 t162 t163 t164 t165 t166 t174 t177 t178 t181 t182 t183 t184 t185 t186) = some true := by rw [if_pos rfl] at H; exact H
                  clear H
                  have H := H1
                  clear H1
                  have H' := Aside0.mk H
                  clear H
                  have hnb48 := NB190_170.out
                  have hnc48 := NB170_190.out
                  have hcz49_0 : w44.cell? ⟨gb190, 0, none⟩ = some (.slice Ao21 t174.length co21) := (blk_cell BK190.out 0).trans rfl
                  have hcz49_1 : w44.cell? ⟨gb190, 1, none⟩ = some (.int .i64 t177) := (blk_cell BK190.out 1).trans rfl
                  have hcz49_2 : w44.cell? ⟨gb190, 2, none⟩ = some (.slice Ao24 t178.length co24) := (blk_cell BK190.out 2).trans rfl
                  have hcz49_3 : w44.cell? ⟨gb190, 3, none⟩ = some (.int .i64 t181) := (blk_cell BK190.out 3).trans rfl
                  have hcz49_4 : w44.cell? ⟨gb190, 4, none⟩ = some (.int .i64 t182) := (blk_cell BK190.out 4).trans rfl
                  have hcz49_5 : w44.cell? ⟨gb190, 5, none⟩ = some (.int .i64 t183) := (blk_cell BK190.out 5).trans rfl
                  have hcz49_6 : w44.cell? ⟨gb190, 6, none⟩ = some (.int .i64 t184) := (blk_cell BK190.out 6).trans rfl
                  have hcz49_7 : w44.cell? ⟨gb190, 7, none⟩ = some (.int .i64 t185) := (blk_cell BK190.out 7).trans rfl
                  have hcz49_8 : w44.cell? ⟨gb190, 8, none⟩ = some (.slice Ao25 t186.length co25) := (blk_cell BK190.out 8).trans rfl
                  have hfz49_0 := blk_frozen BK190.out 0
                  have hfz49_1 := blk_frozen BK190.out 1
                  have hfz49_2 := blk_frozen BK190.out 2
                  have hfz49_3 := blk_frozen BK190.out 3
                  have hfz49_4 := blk_frozen BK190.out 4
                  have hfz49_5 := blk_frozen BK190.out 5
                  have hfz49_6 := blk_frozen BK190.out 6
                  have hfz49_7 := blk_frozen BK190.out 7
                  have hfz49_8 := blk_frozen BK190.out 8
                  have hcz50_0 : w44.cell? ⟨gb170, 0, none⟩ = some (.slice Ao13 t154.length co13) := (blk_cell BK170.out 0).trans rfl
                  have hcz50_1 : w44.cell? ⟨gb170, 1, none⟩ = some (.int .i64 t157) := (blk_cell BK170.out 1).trans rfl
                  have hcz50_2 : w44.cell? ⟨gb170, 2, none⟩ = some (.slice Ao15 t158.length co15) := (blk_cell BK170.out 2).trans rfl
                  have hcz50_3 : w44.cell? ⟨gb170, 3, none⟩ = some (.int .i64 t161) := (blk_cell BK170.out 3).trans rfl
                  have hcz50_4 : w44.cell? ⟨gb170, 4, none⟩ = some (.int .i64 t162) := (blk_cell BK170.out 4).trans rfl
                  have hcz50_5 : w44.cell? ⟨gb170, 5, none⟩ = some (.int .i64 t163) := (blk_cell BK170.out 5).trans rfl
                  have hcz50_6 : w44.cell? ⟨gb170, 6, none⟩ = some (.int .i64 t164) := (blk_cell BK170.out 6).trans rfl
                  have hcz50_7 : w44.cell? ⟨gb170, 7, none⟩ = some (.int .i64 t165) := (blk_cell BK170.out 7).trans rfl
                  have hcz50_8 : w44.cell? ⟨gb170, 8, none⟩ = some (.slice Ao16 t166.length co16) := (blk_cell BK170.out 8).trans rfl
                  have hfz50_0 := blk_frozen BK170.out 0
                  have hfz50_1 := blk_frozen BK170.out 1
                  have hfz50_2 := blk_frozen BK170.out 2
                  have hfz50_3 := blk_frozen BK170.out 3
                  have hfz50_4 := blk_frozen BK170.out 4
                  have hfz50_5 := blk_frozen BK170.out 5
                  have hfz50_6 := blk_frozen BK170.out 6
                  have hfz50_7 := blk_frozen BK170.out 7
                  have hfz50_8 := blk_frozen BK170.out 8
                  go_wp2_with (first | (go_at_call 26; (with_reducible refine (laws_eqTask.calls kj7 _ _ t174 t177 _ _ t178 t181 t182 t183 t184 t185 _ _ t186 _ _ t154 t157 _ _ t158 t161 t162 t163 t164 t165 _ _ t166 true _ ?side1 ?side2 ?side3 ?side4 ?side5 ?side6 ?side7 ?side8 ?side9 ?side10 ?side11 ?side12 A46.out).mono ?_); (case side1 => exact ca_ ((Kd.R_reads' HO_191000.out).2.2)); (case side2 => exact (Kd.R_reads' HO_191000.out).2.1); (case side3 => exact ca_ ((Kd.R_reads' HO_191002.out).2.2)); (case side4 => exact (Kd.R_reads' HO_191002.out).2.1); (case side5 => exact ca_ ((Kd.R_reads' HO_191008.out).2.2)); (case side6 => exact (Kd.R_reads' HO_191008.out).2.1); (case side7 => exact ca_ ((Kd.R_reads' HO_171000.out).2.2)); (case side8 => exact (Kd.R_reads' HO_171000.out).2.1); (case side9 => exact ca_ ((Kd.R_reads' HO_171002.out).2.2)); (case side10 => exact (Kd.R_reads' HO_171002.out).2.1); (case side11 => exact ca_ ((Kd.R_reads' HO_171008.out).2.2)); (case side12 => exact (Kd.R_reads' HO_171008.out).2.1); rintro e w51 ⟨rfl, hb⟩; have n0_ := Aside0.mk (Kd.R_below (ra_ HO_7) hb); have n1_ := Aside0.mk (Kd.R_below (ra_ HO_171000) hb); have n2_ := Aside0.mk (Kd.R_below (ra_ HO_171002) hb); have n3_ := Aside0.mk (Kd.R_below (ra_ HO_171008) hb); have n4_ := Aside0.mk (Kd.R_below (ra_ HO_191000) hb); have n5_ := Aside0.mk (Kd.R_below (ra_ HO_191002) hb); have n6_ := Aside0.mk (Kd.R_below (ra_ HO_191008) hb); have n7_ := Aside0.mk (Kd.R_below (ra_ HO194) hb); have n8_ := Aside0.mk (blk_below (bk_ BK170) hb); have n9_ := Aside0.mk (blk_below (bk_ BK190) hb); have n10_ := Aside0.mk (below_step bl_ hb); clear HO_7; clear HO_171000; clear HO_171002; clear HO_171008; clear HO_191000; clear HO_191002; clear HO_191008; clear HO194; clear BK170; clear BK190; clear HB; have HO_7 := n0_; have HO_171000 := n1_; have HO_171002 := n2_; have HO_171008 := n3_; have HO_191000 := n4_; have HO_191002 := n5_; have HO_191008 := n6_; have HO194 := n7_; have BK170 := n8_; have BK190 := n9_; have HB := n10_; clear n0_ n1_ n2_ n3_ n4_ n5_ n6_ n7_ n8_ n9_ n10_; (try clear hb); (try clear hb2); (try clear hk); (try clear hi)))
                  go_meet
                  case rel => exact ⟨_, ((t189 != t169)), sp_, H', ⟨by have := HJ7.out; first | omega | exact Nat.le_refl _⟩, ⟨by (with_reducible repeat (first | apply Kd.R_alloc | apply Kd.R_drewN | apply Kd.R_drew)); exact Kd.R_mono HO_171000.out (fun _ hk => ⟨hk.2.1, ⟨hk.2.2.1, hk.2.2.2.1⟩⟩)⟩, ⟨ra_ HO_171002⟩, ⟨by (with_reducible repeat (first | apply Kd.R_alloc | apply Kd.R_drewN | apply Kd.R_drew)); exact Kd.R_mono HO_171008.out (fun _ hk => ⟨hk.2.1, ⟨hk.2.2.1, hk.2.2.2.1⟩⟩)⟩, ⟨by (with_reducible repeat (first | apply Kd.R_alloc | apply Kd.R_drewN | apply Kd.R_drew)); exact Kd.R_mono HO_191000.out (fun _ hk => ⟨hk.2.1, ⟨hk.2.2.1, hk.2.2.2.1⟩⟩)⟩, ⟨ra_ HO_191002⟩, ⟨by (with_reducible repeat (first | apply Kd.R_alloc | apply Kd.R_drewN | apply Kd.R_drew)); exact Kd.R_mono HO_191008.out (fun _ hk => ⟨hk.2.1, ⟨hk.2.2.1, hk.2.2.2.1⟩⟩)⟩, ⟨by (with_reducible repeat (first | refine blk_drewN ?_ _ | refine blk_drew ?_ | refine blk_alloc ?_ _)); exact BK170.out⟩, ⟨by (with_reducible repeat (first | refine blk_drewN ?_ _ | refine blk_drew ?_ | refine blk_alloc ?_ _)); exact BK190.out⟩, ⟨bl_⟩⟩
                · replace c47 := Bool.eq_false_iff.mpr c47
                  subst c47
                  have H1 : (laws_FnExactTaskNew.j1 kj7 l0 a1 t169 true t154 t157 t158 t161 t162 t163 t164 t165 t166 t174 t177 t178 t181 t182 t183 t184 t185 t186) = some true := by rw [if_neg (show ¬ (false = true) by decide)] at H; exact H
                  clear H
                  have H := H1
                  clear H1
                  have H' := Aside0.mk H
                  clear H
                  have hnb52 := NB190_170.out
                  have hnc52 := NB170_190.out
                  have hcz53_0 : w44.cell? ⟨gb190, 0, none⟩ = some (.slice Ao21 t174.length co21) := (blk_cell BK190.out 0).trans rfl
                  have hcz53_1 : w44.cell? ⟨gb190, 1, none⟩ = some (.int .i64 t177) := (blk_cell BK190.out 1).trans rfl
                  have hcz53_2 : w44.cell? ⟨gb190, 2, none⟩ = some (.slice Ao24 t178.length co24) := (blk_cell BK190.out 2).trans rfl
                  have hcz53_3 : w44.cell? ⟨gb190, 3, none⟩ = some (.int .i64 t181) := (blk_cell BK190.out 3).trans rfl
                  have hcz53_4 : w44.cell? ⟨gb190, 4, none⟩ = some (.int .i64 t182) := (blk_cell BK190.out 4).trans rfl
                  have hcz53_5 : w44.cell? ⟨gb190, 5, none⟩ = some (.int .i64 t183) := (blk_cell BK190.out 5).trans rfl
                  have hcz53_6 : w44.cell? ⟨gb190, 6, none⟩ = some (.int .i64 t184) := (blk_cell BK190.out 6).trans rfl
                  have hcz53_7 : w44.cell? ⟨gb190, 7, none⟩ = some (.int .i64 t185) := (blk_cell BK190.out 7).trans rfl
                  have hcz53_8 : w44.cell? ⟨gb190, 8, none⟩ = some (.slice Ao25 t186.length co25) := (blk_cell BK190.out 8).trans rfl
                  have hfz53_0 := blk_frozen BK190.out 0
                  have hfz53_1 := blk_frozen BK190.out 1
                  have hfz53_2 := blk_frozen BK190.out 2
                  have hfz53_3 := blk_frozen BK190.out 3
                  have hfz53_4 := blk_frozen BK190.out 4
                  have hfz53_5 := blk_frozen BK190.out 5
                  have hfz53_6 := blk_frozen BK190.out 6
                  have hfz53_7 := blk_frozen BK190.out 7
                  have hfz53_8 := blk_frozen BK190.out 8
                  have hcz54_0 : w44.cell? ⟨gb170, 0, none⟩ = some (.slice Ao13 t154.length co13) := (blk_cell BK170.out 0).trans rfl
                  have hcz54_1 : w44.cell? ⟨gb170, 1, none⟩ = some (.int .i64 t157) := (blk_cell BK170.out 1).trans rfl
                  have hcz54_2 : w44.cell? ⟨gb170, 2, none⟩ = some (.slice Ao15 t158.length co15) := (blk_cell BK170.out 2).trans rfl
                  have hcz54_3 : w44.cell? ⟨gb170, 3, none⟩ = some (.int .i64 t161) := (blk_cell BK170.out 3).trans rfl
                  have hcz54_4 : w44.cell? ⟨gb170, 4, none⟩ = some (.int .i64 t162) := (blk_cell BK170.out 4).trans rfl
                  have hcz54_5 : w44.cell? ⟨gb170, 5, none⟩ = some (.int .i64 t163) := (blk_cell BK170.out 5).trans rfl
                  have hcz54_6 : w44.cell? ⟨gb170, 6, none⟩ = some (.int .i64 t164) := (blk_cell BK170.out 6).trans rfl
                  have hcz54_7 : w44.cell? ⟨gb170, 7, none⟩ = some (.int .i64 t165) := (blk_cell BK170.out 7).trans rfl
                  have hcz54_8 : w44.cell? ⟨gb170, 8, none⟩ = some (.slice Ao16 t166.length co16) := (blk_cell BK170.out 8).trans rfl
                  have hfz54_0 := blk_frozen BK170.out 0
                  have hfz54_1 := blk_frozen BK170.out 1
                  have hfz54_2 := blk_frozen BK170.out 2
                  have hfz54_3 := blk_frozen BK170.out 3
                  have hfz54_4 := blk_frozen BK170.out 4
                  have hfz54_5 := blk_frozen BK170.out 5
                  have hfz54_6 := blk_frozen BK170.out 6
                  have hfz54_7 := blk_frozen BK170.out 7
                  have hfz54_8 := blk_frozen BK170.out 8
                  go_wp2_with (first | (go_at_call 26; (with_reducible refine (laws_eqTask.calls kj7 _ _ t174 t177 _ _ t178 t181 t182 t183 t184 t185 _ _ t186 _ _ t154 t157 _ _ t158 t161 t162 t163 t164 t165 _ _ t166 false _ ?side1 ?side2 ?side3 ?side4 ?side5 ?side6 ?side7 ?side8 ?side9 ?side10 ?side11 ?side12 A46.out).mono ?_); (case side1 => exact ca_ ((Kd.R_reads' HO_191000.out).2.2)); (case side2 => exact (Kd.R_reads' HO_191000.out).2.1); (case side3 => exact ca_ ((Kd.R_reads' HO_191002.out).2.2)); (case side4 => exact (Kd.R_reads' HO_191002.out).2.1); (case side5 => exact ca_ ((Kd.R_reads' HO_191008.out).2.2)); (case side6 => exact (Kd.R_reads' HO_191008.out).2.1); (case side7 => exact ca_ ((Kd.R_reads' HO_171000.out).2.2)); (case side8 => exact (Kd.R_reads' HO_171000.out).2.1); (case side9 => exact ca_ ((Kd.R_reads' HO_171002.out).2.2)); (case side10 => exact (Kd.R_reads' HO_171002.out).2.1); (case side11 => exact ca_ ((Kd.R_reads' HO_171008.out).2.2)); (case side12 => exact (Kd.R_reads' HO_171008.out).2.1); rintro e w55 ⟨rfl, hb⟩; have n0_ := Aside0.mk (Kd.R_below (ra_ HO_7) hb); have n1_ := Aside0.mk (Kd.R_below (ra_ HO_171000) hb); have n2_ := Aside0.mk (Kd.R_below (ra_ HO_171002) hb); have n3_ := Aside0.mk (Kd.R_below (ra_ HO_171008) hb); have n4_ := Aside0.mk (Kd.R_below (ra_ HO_191000) hb); have n5_ := Aside0.mk (Kd.R_below (ra_ HO_191002) hb); have n6_ := Aside0.mk (Kd.R_below (ra_ HO_191008) hb); have n7_ := Aside0.mk (Kd.R_below (ra_ HO194) hb); have n8_ := Aside0.mk (blk_below (bk_ BK170) hb); have n9_ := Aside0.mk (blk_below (bk_ BK190) hb); have n10_ := Aside0.mk (below_step bl_ hb); clear HO_7; clear HO_171000; clear HO_171002; clear HO_171008; clear HO_191000; clear HO_191002; clear HO_191008; clear HO194; clear BK170; clear BK190; clear HB; have HO_7 := n0_; have HO_171000 := n1_; have HO_171002 := n2_; have HO_171008 := n3_; have HO_191000 := n4_; have HO_191002 := n5_; have HO_191008 := n6_; have HO194 := n7_; have BK170 := n8_; have BK190 := n9_; have HB := n10_; clear n0_ n1_ n2_ n3_ n4_ n5_ n6_ n7_ n8_ n9_ n10_; (try clear hb); (try clear hb2); (try clear hk); (try clear hi)))
                  go_meet
                  case rel => exact ⟨_, (true), sp_, H', ⟨by have := HJ7.out; first | omega | exact Nat.le_refl _⟩, ⟨by (with_reducible repeat (first | apply Kd.R_alloc | apply Kd.R_drewN | apply Kd.R_drew)); exact Kd.R_mono HO_171000.out (fun _ hk => ⟨hk.2.1, ⟨hk.2.2.1, hk.2.2.2.1⟩⟩)⟩, ⟨ra_ HO_171002⟩, ⟨by (with_reducible repeat (first | apply Kd.R_alloc | apply Kd.R_drewN | apply Kd.R_drew)); exact Kd.R_mono HO_171008.out (fun _ hk => ⟨hk.2.1, ⟨hk.2.2.1, hk.2.2.2.1⟩⟩)⟩, ⟨by (with_reducible repeat (first | apply Kd.R_alloc | apply Kd.R_drewN | apply Kd.R_drew)); exact Kd.R_mono HO_191000.out (fun _ hk => ⟨hk.2.1, ⟨hk.2.2.1, hk.2.2.2.1⟩⟩)⟩, ⟨ra_ HO_191002⟩, ⟨by (with_reducible repeat (first | apply Kd.R_alloc | apply Kd.R_drewN | apply Kd.R_drew)); exact Kd.R_mono HO_191008.out (fun _ hk => ⟨hk.2.1, ⟨hk.2.2.1, hk.2.2.2.1⟩⟩)⟩, ⟨by (with_reducible repeat (first | refine blk_drewN ?_ _ | refine blk_drew ?_ | refine blk_alloc ?_ _)); exact BK170.out⟩, ⟨by (with_reducible repeat (first | refine blk_drewN ?_ _ | refine blk_drew ?_ | refine blk_alloc ?_ _)); exact BK190.out⟩, ⟨bl_⟩⟩
            case rest =>
              clear HC41
              try clear c1
              try clear c2
              try clear p2
              try clear c3
              try clear c3b0
              try clear c3b1
              try clear c4
              try clear c5
              try clear c10
              try clear c22
              try clear c26
              try clear c27
              try clear c28
              try clear c32
              try clear c36
              try clear c38
              try clear c39
              try clear c40
              try clear c41
              try clear c42
              try clear c45
              try clear c45b0
              try clear c47
              try clear c48
              try clear c52
              try clear hcz14_0
              try clear hcz14_1
              try clear hcz14_2
              try clear hcz14_3
              try clear hcz14_4
              try clear hcz14_5
              try clear hcz14_6
              try clear hcz14_7
              try clear hcz14_8
              try clear hcz23_0
              try clear hcz23_1
              try clear hcz23_2
              try clear hcz23_3
              try clear hcz23_4
              try clear hcz23_5
              try clear hcz23_6
              try clear hcz23_7
              try clear hcz23_8
              try clear hcz29_0
              try clear hcz29_1
              try clear hcz29_2
              try clear hcz29_3
              try clear hcz29_4
              try clear hcz29_5
              try clear hcz29_6
              try clear hcz29_7
              try clear hcz29_8
              try clear hcz30_0
              try clear hcz30_1
              try clear hcz30_2
              try clear hcz30_3
              try clear hcz30_4
              try clear hcz30_5
              try clear hcz30_6
              try clear hcz30_7
              try clear hcz30_8
              try clear hcz33_0
              try clear hcz33_1
              try clear hcz33_2
              try clear hcz33_3
              try clear hcz33_4
              try clear hcz33_5
              try clear hcz33_6
              try clear hcz33_7
              try clear hcz33_8
              try clear hcz34_0
              try clear hcz34_1
              try clear hcz34_2
              try clear hcz34_3
              try clear hcz34_4
              try clear hcz34_5
              try clear hcz34_6
              try clear hcz34_7
              try clear hcz34_8
              try clear hcz49_0
              try clear hcz49_1
              try clear hcz49_2
              try clear hcz49_3
              try clear hcz49_4
              try clear hcz49_5
              try clear hcz49_6
              try clear hcz49_7
              try clear hcz49_8
              try clear hcz50_0
              try clear hcz50_1
              try clear hcz50_2
              try clear hcz50_3
              try clear hcz50_4
              try clear hcz50_5
              try clear hcz50_6
              try clear hcz50_7
              try clear hcz50_8
              try clear hcz53_0
              try clear hcz53_1
              try clear hcz53_2
              try clear hcz53_3
              try clear hcz53_4
              try clear hcz53_5
              try clear hcz53_6
              try clear hcz53_7
              try clear hcz53_8
              try clear hcz54_0
              try clear hcz54_1
              try clear hcz54_2
              try clear hcz54_3
              try clear hcz54_4
              try clear hcz54_5
              try clear hcz54_6
              try clear hcz54_7
              try clear hcz54_8
              try clear hfz14_0
              try clear hfz14_1
              try clear hfz14_2
              try clear hfz14_3
              try clear hfz14_4
              try clear hfz14_5
              try clear hfz14_6
              try clear hfz14_7
              try clear hfz14_8
              try clear hfz23_0
              try clear hfz23_1
              try clear hfz23_2
              try clear hfz23_3
              try clear hfz23_4
              try clear hfz23_5
              try clear hfz23_6
              try clear hfz23_7
              try clear hfz23_8
              try clear hfz29_0
              try clear hfz29_1
              try clear hfz29_2
              try clear hfz29_3
              try clear hfz29_4
              try clear hfz29_5
              try clear hfz29_6
              try clear hfz29_7
              try clear hfz29_8
              try clear hfz30_0
              try clear hfz30_1
              try clear hfz30_2
              try clear hfz30_3
              try clear hfz30_4
              try clear hfz30_5
              try clear hfz30_6
              try clear hfz30_7
              try clear hfz30_8
              try clear hfz33_0
              try clear hfz33_1
              try clear hfz33_2
              try clear hfz33_3
              try clear hfz33_4
              try clear hfz33_5
              try clear hfz33_6
              try clear hfz33_7
              try clear hfz33_8
              try clear hfz34_0
              try clear hfz34_1
              try clear hfz34_2
              try clear hfz34_3
              try clear hfz34_4
              try clear hfz34_5
              try clear hfz34_6
              try clear hfz34_7
              try clear hfz34_8
              try clear hfz49_0
              try clear hfz49_1
              try clear hfz49_2
              try clear hfz49_3
              try clear hfz49_4
              try clear hfz49_5
              try clear hfz49_6
              try clear hfz49_7
              try clear hfz49_8
              try clear hfz50_0
              try clear hfz50_1
              try clear hfz50_2
              try clear hfz50_3
              try clear hfz50_4
              try clear hfz50_5
              try clear hfz50_6
              try clear hfz50_7
              try clear hfz50_8
              try clear hfz53_0
              try clear hfz53_1
              try clear hfz53_2
              try clear hfz53_3
              try clear hfz53_4
              try clear hfz53_5
              try clear hfz53_6
              try clear hfz53_7
              try clear hfz53_8
              try clear hfz54_0
              try clear hfz54_1
              try clear hfz54_2
              try clear hfz54_3
              try clear hfz54_4
              try clear hfz54_5
              try clear hfz54_6
              try clear hfz54_7
              try clear hfz54_8
              try clear p2
              obtain ⟨kq, x62_40, rfl, HA, HJ40, HO_171000, HO_171002, HO_171008, HO_191000, HO_191002, HO_191008, BK170, BK190, HB⟩ := hcut
              cases kq with
              | zero => exact absurd HA.out (by simp [laws_FnExactTaskNew.j1])
              | succ kj40 =>
                have H := HA.out
                clear HA
                simp only [laws_FnExactTaskNew.j1] at H
                by_cases c56 : x62_40 = true
                · subst c56
                  have H1 : (some false) = some true := by rw [if_pos rfl] at H; exact H
                  clear H
                  have H := H1
                  clear H1
                  exact absurd H (by simp)
                · replace c56 := Bool.eq_false_iff.mpr c56
                  subst c56
                  have H1 : ((laws_markTask.f kj40 t174 t177 t178 t181 t182 t183 t184 t185 t186 1).bind fun bt199 => ((laws_heldTask.f kj40 bt199.2.1 t177 bt199.2.2.1 t181 t182 t183 t184 t185 bt199.2.2.2 1).bind fun t203 => (if t203 < 0 then (some false) else (if t203 = bt199.1 then ((laws_toByteS.f kj40 l0).bind fun t204 => ((impl_TaskNew.f t204 a1).bind fun bt207 => ((laws_eqTask.f kj40 bt207.1 bt207.2.1 bt207.2.2.1 bt207.2.2.2.1 bt207.2.2.2.2.1 bt207.2.2.2.2.2.1 bt207.2.2.2.2.2.2.1 bt207.2.2.2.2.2.2.2.1 bt207.2.2.2.2.2.2.2.2.1 t154 t157 t158 t161 t162 t163 t164 t165 t166).bind fun t224 => (if t224 = true then (laws_FnExactTaskNew.j2 kj40 bt199.1 (bt207.2.2.2.2.2.2.2.2.2 != t169) bt199.2.1 t177 bt199.2.2.1 t181 t182 t183 t184 t185 bt199.2.2.2) else (laws_FnExactTaskNew.j2 kj40 bt199.1 true bt199.2.1 t177 bt199.2.2.1 t181 t182 t183 t184 t185 bt199.2.2.2))))) else (some false))))) = some true := by rw [if_neg (show ¬ (false = true) by decide)] at H; exact H
                  clear H
                  have H := H1
                  clear H1
                  replace H := Option.bind_eq_some_iff.mp H
                  obtain ⟨⟨t199, t200, t201, t202⟩, A570, H⟩ := H
                  replace H : ((laws_heldTask.f kj40 t200 t177 t201 t181 t182 t183 t184 t185 t202 1).bind fun t203 => (if t203 < 0 then (some false) else (if t203 = t199 then ((laws_toByteS.f kj40 l0).bind fun t204 => ((impl_TaskNew.f t204 a1).bind fun bt207 => ((laws_eqTask.f kj40 bt207.1 bt207.2.1 bt207.2.2.1 bt207.2.2.2.1 bt207.2.2.2.2.1 bt207.2.2.2.2.2.1 bt207.2.2.2.2.2.2.1 bt207.2.2.2.2.2.2.2.1 bt207.2.2.2.2.2.2.2.2.1 t154 t157 t158 t161 t162 t163 t164 t165 t166).bind fun t224 => (if t224 = true then (laws_FnExactTaskNew.j2 kj40 t199 (bt207.2.2.2.2.2.2.2.2.2 != t169) t200 t177 t201 t181 t182 t183 t184 t185 t202) else (laws_FnExactTaskNew.j2 kj40 t199 true t200 t177 t201 t181 t182 t183 t184 t185 t202))))) else (some false)))) = some true := H
                  have A57 := Aside0.mk A570
                  clear A570
                  replace H := Option.bind_eq_some_iff.mp H
                  obtain ⟨t203, A580, H⟩ := H
                  replace H : (if t203 < 0 then (some false) else (if t203 = t199 then ((laws_toByteS.f kj40 l0).bind fun t204 => ((impl_TaskNew.f t204 a1).bind fun bt207 => ((laws_eqTask.f kj40 bt207.1 bt207.2.1 bt207.2.2.1 bt207.2.2.2.1 bt207.2.2.2.2.1 bt207.2.2.2.2.2.1 bt207.2.2.2.2.2.2.1 bt207.2.2.2.2.2.2.2.1 bt207.2.2.2.2.2.2.2.2.1 t154 t157 t158 t161 t162 t163 t164 t165 t166).bind fun t224 => (if t224 = true then (laws_FnExactTaskNew.j2 kj40 t199 (bt207.2.2.2.2.2.2.2.2.2 != t169) t200 t177 t201 t181 t182 t183 t184 t185 t202) else (laws_FnExactTaskNew.j2 kj40 t199 true t200 t177 t201 t181 t182 t183 t184 t185 t202))))) else (some false))) = some true := H
                  have A58 := Aside0.mk A580
                  clear A580
                  by_cases c59 : t203 < 0
                  · rw [if_pos c59] at H
                    have c59b0 : decide (t203 < 0) = true := decide_eq_true c59
                    clear c59
                    exact absurd H (by simp)
                  · rw [if_neg c59] at H
                    have c59b0 : decide (t203 < 0) = false := decide_eq_false c59
                    clear c59
                    by_cases c60 : t203 = t199
                    · rw [if_pos c60] at H
                      have c60b0 : (t203 == t199) = true := beq_iff_eq.mpr c60
                      have c60b1 : (t203 != t199) = false := bne_eq_false_iff_eq.mpr c60
                      clear c60
                      replace H := Option.bind_eq_some_iff.mp H
                      obtain ⟨t204, A610, H⟩ := H
                      replace H : ((impl_TaskNew.f t204 a1).bind fun bt207 => ((laws_eqTask.f kj40 bt207.1 bt207.2.1 bt207.2.2.1 bt207.2.2.2.1 bt207.2.2.2.2.1 bt207.2.2.2.2.2.1 bt207.2.2.2.2.2.2.1 bt207.2.2.2.2.2.2.2.1 bt207.2.2.2.2.2.2.2.2.1 t154 t157 t158 t161 t162 t163 t164 t165 t166).bind fun t224 => (if t224 = true then (laws_FnExactTaskNew.j2 kj40 t199 (bt207.2.2.2.2.2.2.2.2.2 != t169) t200 t177 t201 t181 t182 t183 t184 t185 t202) else (laws_FnExactTaskNew.j2 kj40 t199 true t200 t177 t201 t181 t182 t183 t184 t185 t202)))) = some true := H
                      have A61 := Aside0.mk A610
                      clear A610
                      replace H := Option.bind_eq_some_iff.mp H
                      obtain ⟨⟨t207, t210, t211, t214, t215, t216, t217, t218, t219, t222⟩, A620, H⟩ := H
                      replace H : ((laws_eqTask.f kj40 t207 t210 t211 t214 t215 t216 t217 t218 t219 t154 t157 t158 t161 t162 t163 t164 t165 t166).bind fun t224 => (if t224 = true then (laws_FnExactTaskNew.j2 kj40 t199 (t222 != t169) t200 t177 t201 t181 t182 t183 t184 t185 t202) else (laws_FnExactTaskNew.j2 kj40 t199 true t200 t177 t201 t181 t182 t183 t184 t185 t202))) = some true := H
                      have A62 := Aside0.mk A620
                      clear A620
                      have HC63 := Aside0.mk H
                      clear H
                      have hnb64 := NB190_170.out
                      have hnc64 := NB170_190.out
                      have hcz65_0 : wc.cell? ⟨gb190, 0, none⟩ = some (.slice Ao21 t174.length co21) := (blk_cell BK190.out 0).trans rfl
                      have hcz65_1 : wc.cell? ⟨gb190, 1, none⟩ = some (.int .i64 t177) := (blk_cell BK190.out 1).trans rfl
                      have hcz65_2 : wc.cell? ⟨gb190, 2, none⟩ = some (.slice Ao24 t178.length co24) := (blk_cell BK190.out 2).trans rfl
                      have hcz65_3 : wc.cell? ⟨gb190, 3, none⟩ = some (.int .i64 t181) := (blk_cell BK190.out 3).trans rfl
                      have hcz65_4 : wc.cell? ⟨gb190, 4, none⟩ = some (.int .i64 t182) := (blk_cell BK190.out 4).trans rfl
                      have hcz65_5 : wc.cell? ⟨gb190, 5, none⟩ = some (.int .i64 t183) := (blk_cell BK190.out 5).trans rfl
                      have hcz65_6 : wc.cell? ⟨gb190, 6, none⟩ = some (.int .i64 t184) := (blk_cell BK190.out 6).trans rfl
                      have hcz65_7 : wc.cell? ⟨gb190, 7, none⟩ = some (.int .i64 t185) := (blk_cell BK190.out 7).trans rfl
                      have hcz65_8 : wc.cell? ⟨gb190, 8, none⟩ = some (.slice Ao25 t186.length co25) := (blk_cell BK190.out 8).trans rfl
                      have hfz65_0 := blk_frozen BK190.out 0
                      have hfz65_1 := blk_frozen BK190.out 1
                      have hfz65_2 := blk_frozen BK190.out 2
                      have hfz65_3 := blk_frozen BK190.out 3
                      have hfz65_4 := blk_frozen BK190.out 4
                      have hfz65_5 := blk_frozen BK190.out 5
                      have hfz65_6 := blk_frozen BK190.out 6
                      have hfz65_7 := blk_frozen BK190.out 7
                      have hfz65_8 := blk_frozen BK190.out 8
                      go_upto_region 23 with (first | ((with_reducible refine gate_callee (f := 43) rfl ?_); refine goesL_ (some 65) rfl rfl Try.func43 (by kernel_rfl) rfl #[.agg #[.slice Ao21 t174.length co21, .int .i64 t177, .slice Ao24 t178.length co24, .int .i64 t181, .int .i64 t182, .int .i64 t183, .int .i64 t184, .int .i64 t185, .slice Ao25 t186.length co25], .int .i64 1] rfl gl_ ?_; (with_reducible refine (laws_markTask.calls kj40 (fun k_ => some k_ = (.slice Ao21 t174.length co21 : Value).ownBlock) (.slice Ao21 t174.length co21) t174 t177 (fun k_ => some k_ = (.slice Ao24 t178.length co24 : Value).ownBlock) (.slice Ao24 t178.length co24) t178 t181 t182 t183 t184 t185 (fun k_ => some k_ = (.slice Ao25 t186.length co25 : Value).ownBlock) (.slice Ao25 t186.length co25) t186 1 t199 t200 t201 t202 w _ ?side1 ?side2 ?side3 ?side4 ?side5 ?side6 A57.out).mono ?_); (case side1 => repeat (first | (with_reducible first | exact HB.out | apply below_alloc | apply pw_below_drewN | apply below_drew1 | refine below_set ?_ GE170.out | refine below_set ?_ GE190.out) | exact HB.out)); (case side2 => exact Kd.R_tight rfl HO_191000.out); (case side3 => exact fun k_ e_ => (HO_191000.out.1 k_ e_.symm).2.2); (case side4 => exact Kd.R_tight rfl HO_191002.out); (case side5 => exact Kd.R_tight rfl HO_191008.out); (case side6 => exact fun k_ e_ => (HO_191008.out.1 k_ e_.symm).2.2); rintro e w66 ⟨rfl, hy0, hy1, hy2, hb, hkp⟩; refine ⟨_, rfl, ?_⟩; have n0_ := Aside0.mk (Kd.R_mono (ok' := fun k_ => some k_ ≠ (.slice Ao16 t166.length co16 : Value).ownBlock ∧ some k_ ≠ (.slice Ao21 t174.length co21 : Value).ownBlock ∧ some k_ ≠ (.slice Ao25 t186.length co25 : Value).ownBlock) (Kd.R_keptB ((Kd.R_apart' HO_171000.out (Kd.R_typed HO_191002.out) (by decide))) hkp (fun k_ hk_ hs_ => Or.elim hs_ (fun e_ => (hk_.1.2.1) e_) (fun e_ => Or.elim e_ (fun e_ => (hk_.2) e_) (fun e_ => (hk_.1.2.2) e_)))) (fun k_ hk_ => ⟨hk_.1.1.1, hk_.1.1.2.1, hk_.1.1.2.2⟩)); have n1_ := Aside0.mk (Kd.R_mono (ok' := fun k_ => some k_ ≠ (.slice Ao24 t178.length co24 : Value).ownBlock) (Kd.R_keptB ((Kd.R_apart' (Kd.R_apart' HO_171002.out (Kd.R_typed HO_191000.out) (by decide)) (Kd.R_typed HO_191008.out) (by decide))) hkp (fun k_ hk_ hs_ => Or.elim hs_ (fun e_ => (hk_.1.2) e_) (fun e_ => Or.elim e_ (fun e_ => (hk_.1.1) e_) (fun e_ => (hk_.2) e_)))) (fun k_ hk_ => hk_.1.1.1)); have n2_ := Aside0.mk (Kd.R_mono (ok' := fun k_ => some k_ ≠ (.slice Ao13 t154.length co13 : Value).ownBlock ∧ some k_ ≠ (.slice Ao21 t174.length co21 : Value).ownBlock ∧ some k_ ≠ (.slice Ao25 t186.length co25 : Value).ownBlock) (Kd.R_keptB ((Kd.R_apart' HO_171008.out (Kd.R_typed HO_191002.out) (by decide))) hkp (fun k_ hk_ hs_ => Or.elim hs_ (fun e_ => (hk_.1.2.1) e_) (fun e_ => Or.elim e_ (fun e_ => (hk_.2) e_) (fun e_ => (hk_.1.2.2) e_)))) (fun k_ hk_ => ⟨hk_.1.1.1, hk_.1.1.2.1, hk_.1.1.2.2⟩)); have n3_ := Aside0.mk (Kd.R_reok rfl hy0 (fun k_ e_ => HO_191000.out.1 k_ e_)); have n4_ := Aside0.mk (Kd.R_reok rfl hy1 (fun k_ e_ => HO_191002.out.1 k_ e_)); have n5_ := Aside0.mk (Kd.R_reok rfl hy2 (fun k_ e_ => HO_191008.out.1 k_ e_)); have n6_ := Aside0.mk (blk_kept (by (with_reducible repeat (first | refine blk_drewN ?_ _ | refine blk_drew ?_ | refine blk_alloc ?_ _)); exact BK170.out) hkp (fun hs_ => Or.elim hs_ (fun e_ => (fun e_ => (Kd.R_ne HO_191000.out BK170.out (by decide)) e_) e_) (fun e_ => Or.elim e_ (fun e_ => (fun e_ => (Kd.R_ne HO_191002.out BK170.out (by decide)) e_) e_) (fun e_ => (fun e_ => (Kd.R_ne HO_191008.out BK170.out (by decide)) e_) e_)))); have n7_ := Aside0.mk (blk_kept (by (with_reducible repeat (first | refine blk_drewN ?_ _ | refine blk_drew ?_ | refine blk_alloc ?_ _)); exact BK190.out) hkp (fun hs_ => Or.elim hs_ (fun e_ => (fun e_ => (Kd.R_ne HO_191000.out BK190.out (by decide)) e_) e_) (fun e_ => Or.elim e_ (fun e_ => (fun e_ => (Kd.R_ne HO_191002.out BK190.out (by decide)) e_) e_) (fun e_ => (fun e_ => (Kd.R_ne HO_191008.out BK190.out (by decide)) e_) e_)))); have n8_ := Aside0.mk (hb); clear HO_171000; clear HO_171002; clear HO_171008; clear HO_191000; clear HO_191002; clear HO_191008; clear BK170; clear BK190; clear HB; have HO_171000 := n0_; have HO_171002 := n1_; have HO_171008 := n2_; have HO_191000 := n3_; have HO_191002 := n4_; have HO_191008 := n5_; have BK170 := n6_; have BK190 := n7_; have HB := n8_; clear n0_ n1_ n2_ n3_ n4_ n5_ n6_ n7_ n8_; (try clear hb); (try clear hkp); (try clear hy0); (try clear hy1); (try clear hy2); have hcz67_0 : w66.cell? ⟨gb190, 0, none⟩ = some (.slice Ao21 t174.length co21) := (blk_cell BK190.out 0).trans rfl; have hcz67_1 : w66.cell? ⟨gb190, 1, none⟩ = some (.int .i64 t177) := (blk_cell BK190.out 1).trans rfl; have hcz67_2 : w66.cell? ⟨gb190, 2, none⟩ = some (.slice Ao24 t178.length co24) := (blk_cell BK190.out 2).trans rfl; have hcz67_3 : w66.cell? ⟨gb190, 3, none⟩ = some (.int .i64 t181) := (blk_cell BK190.out 3).trans rfl; have hcz67_4 : w66.cell? ⟨gb190, 4, none⟩ = some (.int .i64 t182) := (blk_cell BK190.out 4).trans rfl; have hcz67_5 : w66.cell? ⟨gb190, 5, none⟩ = some (.int .i64 t183) := (blk_cell BK190.out 5).trans rfl; have hcz67_6 : w66.cell? ⟨gb190, 6, none⟩ = some (.int .i64 t184) := (blk_cell BK190.out 6).trans rfl; have hcz67_7 : w66.cell? ⟨gb190, 7, none⟩ = some (.int .i64 t185) := (blk_cell BK190.out 7).trans rfl; have hcz67_8 : w66.cell? ⟨gb190, 8, none⟩ = some (.slice Ao25 t186.length co25) := (blk_cell BK190.out 8).trans rfl; have hfz67_0 := blk_frozen BK190.out 0; have hfz67_1 := blk_frozen BK190.out 1; have hfz67_2 := blk_frozen BK190.out 2; have hfz67_3 := blk_frozen BK190.out 3; have hfz67_4 := blk_frozen BK190.out 4; have hfz67_5 := blk_frozen BK190.out 5; have hfz67_6 := blk_frozen BK190.out 6; have hfz67_7 := blk_frozen BK190.out 7; have hfz67_8 := blk_frozen BK190.out 8) | ((with_reducible refine gate_callee (f := 44) rfl ?_); refine goesL_ (some 68) rfl rfl Try.func44 (by kernel_rfl) rfl #[.agg #[.slice Ao21 t200.length co21, .int .i64 t177, .slice Ao24 t201.length co24, .int .i64 t181, .int .i64 t182, .int .i64 t183, .int .i64 t184, .int .i64 t185, .slice Ao25 t202.length co25], .int .i64 1] rfl (by (try simp only [List.map_toArray, List.map_cons, List.map_nil]); first | done | (rw [show t200.length = t174.length from (Kd.R_reads' HO_191000.out).1.symm, show t201.length = t178.length from (Kd.R_reads' HO_191002.out).1.symm, show t202.length = t186.length from (Kd.R_reads' HO_191008.out).1.symm] <;> rfl) | rfl | (simp only [List.length_drop, List.length_take]; rfl)) ?_; (with_reducible refine (laws_heldTask.calls kj40 _ _ t200 t177 _ _ t201 t181 t182 t183 t184 t185 _ _ t202 1 t203 _ ?side1 ?side2 ?side3 ?side4 ?side5 ?side6 A58.out).mono ?_); (case side1 => exact ca_ ((Kd.R_reads' HO_191000.out).2.2)); (case side2 => rw [show t200.length = t174.length from (Kd.R_reads' HO_191000.out).1.symm]; exact (Kd.R_reads' HO_191000.out).2.1); (case side3 => exact ca_ ((Kd.R_reads' HO_191002.out).2.2)); (case side4 => rw [show t201.length = t178.length from (Kd.R_reads' HO_191002.out).1.symm]; exact (Kd.R_reads' HO_191002.out).2.1); (case side5 => exact ca_ ((Kd.R_reads' HO_191008.out).2.2)); (case side6 => rw [show t202.length = t186.length from (Kd.R_reads' HO_191008.out).1.symm]; exact (Kd.R_reads' HO_191008.out).2.1); rintro e w68 ⟨rfl, hb⟩; refine ⟨_, rfl, ?_⟩; have n0_ := Aside0.mk (Kd.R_below (ra_ HO_171000) hb); have n1_ := Aside0.mk (Kd.R_below (ra_ HO_171002) hb); have n2_ := Aside0.mk (Kd.R_below (ra_ HO_171008) hb); have n3_ := Aside0.mk (Kd.R_below (ra_ HO_191000) hb); have n4_ := Aside0.mk (Kd.R_below (ra_ HO_191002) hb); have n5_ := Aside0.mk (Kd.R_below (ra_ HO_191008) hb); have n6_ := Aside0.mk (blk_below (bk_ BK170) hb); have n7_ := Aside0.mk (blk_below (bk_ BK190) hb); have n8_ := Aside0.mk (below_step bl_ hb); clear HO_171000; clear HO_171002; clear HO_171008; clear HO_191000; clear HO_191002; clear HO_191008; clear BK170; clear BK190; clear HB; have HO_171000 := n0_; have HO_171002 := n1_; have HO_171008 := n2_; have HO_191000 := n3_; have HO_191002 := n4_; have HO_191008 := n5_; have BK170 := n6_; have BK190 := n7_; have HB := n8_; clear n0_ n1_ n2_ n3_ n4_ n5_ n6_ n7_ n8_; (try clear hb); (try clear hb2); (try clear hk); (try clear hi)) | ((with_reducible refine gate_callee (f := 39) rfl ?_); refine goesL_ (some 76) rfl rfl Try.func39 (by kernel_rfl) rfl #[.slice A0 l0.length c0] rfl gl_ ?_; (with_reducible refine (laws_toByteS.calls kj40 _ _ l0 t204 _ ?side1 ?side2 A61.out).mono ?_); (case side1 => exact ca_ (Kd.C_below HR0.out HB.out)); (case side2 => exact HC0.out); rintro e w69 ⟨v205, rfl, ho0, hb⟩; refine ⟨_, rfl, ?_⟩; have n0_ := Aside0.mk (Kd.R_elder' (ra_ HO_171000) (Kd.R_base ho0) hb); have n1_ := Aside0.mk (Kd.R_below (ra_ HO_171002) hb); have n2_ := Aside0.mk (Kd.R_elder' (ra_ HO_171008) (Kd.R_base ho0) hb); have n3_ := Aside0.mk (Kd.R_elder' (ra_ HO_191000) (Kd.R_base ho0) hb); have n4_ := Aside0.mk (Kd.R_below (ra_ HO_191002) hb); have n5_ := Aside0.mk (Kd.R_elder' (ra_ HO_191008) (Kd.R_base ho0) hb); have n6_ := Aside0.mk (Kd.R_lower (Kd.R_new' (Kd.R_new' (Kd.R_new' (Kd.R_new' ho0 (Kd.R_lt (ra_ HO_171000))) (Kd.R_lt (ra_ HO_171008))) (Kd.R_lt (ra_ HO_191000))) (Kd.R_lt (ra_ HO_191008))) (below_size bl_)); have n7_ := Aside0.mk (blk_below (bk_ BK170) hb); have n8_ := Aside0.mk (blk_below (bk_ BK190) hb); have n9_ := Aside0.mk (below_step bl_ hb); clear HO_171000; clear HO_171002; clear HO_171008; clear HO_191000; clear HO_191002; clear HO_191008; clear BK170; clear BK190; clear HB; have HO_171000 := n0_; have HO_171002 := n1_; have HO_171008 := n2_; have HO_191000 := n3_; have HO_191002 := n4_; have HO_191008 := n5_; have HO206 := n6_; have BK170 := n7_; have BK190 := n8_; have HB := n9_; clear n0_ n1_ n2_ n3_ n4_ n5_ n6_ n7_ n8_ n9_; (try clear hb); (try clear hb2); (try clear hk); (try clear hi); (try clear ho0); obtain ⟨Ao70, co70, eo70⟩ := Kd.R_slice HO206.out; subst eo70) | ((with_reducible refine gate_callee (f := 40) rfl ?_); refine goesL_ (some 78) rfl rfl Try.func40 (by kernel_rfl) rfl #[.slice Ao70 t204.length co70, .int .i64 a1] rfl gl_ ?_; (with_reducible refine (impl_TaskNew.calls _ _ t204 a1 t207 t210 t211 t214 t215 t216 t217 t218 t219 t222 _ ?side1 ?side2 A62.out).mono ?_); (case side1 => exact ca_ ((Kd.R_reads' HO206.out).2.2)); (case side2 => exact (Kd.R_reads' HO206.out).2.1); rintro e w71 ⟨v208, v212, v220, rfl, ho0, ho1, ho2, hb⟩; refine ⟨_, rfl, ?_⟩; have n0_ := Aside0.mk (Kd.R_mono (Kd.R_told (Kd.R_told (Kd.R_old (ra_ HO_171000) hb) (Kd.R_base ho0)) (Kd.R_base ho2)) (fun _ h_ => h_.1)); have n1_ := Aside0.mk (Kd.R_elder' (ra_ HO_171002) (Kd.R_base ho1) hb); have n2_ := Aside0.mk (Kd.R_mono (Kd.R_told (Kd.R_told (Kd.R_old (ra_ HO_171008) hb) (Kd.R_base ho0)) (Kd.R_base ho2)) (fun _ h_ => h_.1)); have n3_ := Aside0.mk (Kd.R_mono (Kd.R_told (Kd.R_told (Kd.R_old (ra_ HO_191000) hb) (Kd.R_base ho0)) (Kd.R_base ho2)) (fun _ h_ => h_.1)); have n4_ := Aside0.mk (Kd.R_elder' (ra_ HO_191002) (Kd.R_base ho1) hb); have n5_ := Aside0.mk (Kd.R_mono (Kd.R_told (Kd.R_told (Kd.R_old (ra_ HO_191008) hb) (Kd.R_base ho0)) (Kd.R_base ho2)) (fun _ h_ => h_.1)); have n6_ := Aside0.mk (Kd.R_mono (Kd.R_told (Kd.R_told (Kd.R_old (ra_ HO206) hb) (Kd.R_base ho0)) (Kd.R_base ho2)) (fun _ h_ => h_.1)); have n7_ := Aside0.mk (Kd.R_lower (Kd.R_new' (Kd.R_new' (Kd.R_new' (Kd.R_new' (Kd.R_new' ho0 (Kd.R_lt (ra_ HO_171000))) (Kd.R_lt (ra_ HO_171008))) (Kd.R_lt (ra_ HO_191000))) (Kd.R_lt (ra_ HO_191008))) (Kd.R_lt (ra_ HO206))) (below_size bl_)); have n8_ := Aside0.mk (Kd.R_lower (Kd.R_new' (Kd.R_new' ho1 (Kd.R_lt (ra_ HO_171002))) (Kd.R_lt (ra_ HO_191002))) (below_size bl_)); have n9_ := Aside0.mk (Kd.R_lower (Kd.R_new' (Kd.R_new' (Kd.R_new' (Kd.R_new' (Kd.R_new' ho2 (Kd.R_lt (ra_ HO_171000))) (Kd.R_lt (ra_ HO_171008))) (Kd.R_lt (ra_ HO_191000))) (Kd.R_lt (ra_ HO_191008))) (Kd.R_lt (ra_ HO206))) (below_size bl_)); have n10_ := Aside0.mk (blk_below (bk_ BK170) hb); have n11_ := Aside0.mk (blk_below (bk_ BK190) hb); have n12_ := Aside0.mk (below_step bl_ hb); clear HO_171000; clear HO_171002; clear HO_171008; clear HO_191000; clear HO_191002; clear HO_191008; clear HO206; clear BK170; clear BK190; clear HB; have HO_171000 := n0_; have HO_171002 := n1_; have HO_171008 := n2_; have HO_191000 := n3_; have HO_191002 := n4_; have HO_191008 := n5_; have HO206 := n6_; have HO209 := n7_; have HO213 := n8_; have HO221 := n9_; have BK170 := n10_; have BK190 := n11_; have HB := n12_; clear n0_ n1_ n2_ n3_ n4_ n5_ n6_ n7_ n8_ n9_ n10_ n11_ n12_; (try clear hb); (try clear hb2); (try clear hk); (try clear hi); (try clear ho0); (try clear ho1); (try clear ho2)) | ((with_reducible refine gate_dst (N := 13) rfl ?_); refine box_event ?hg (N := 13) ?hd (cs := #[.slice none 0 0, .int .i64 0, .slice none 0 0, .int .i64 0, .int .i64 0, .int .i64 0, .int .i64 0, .int .i64 0, .slice none 0 0]) (t := 36) ?hr ?_; (case hd => rfl); (case hg => rfl); (case hr => first | (go_simp; done) | (go_simp; rfl)); intro gb223 hg w72 hbox hb; have n0_ := Aside0.mk (Kd.R_below (ra_ HO_171000) hb); have n1_ := Aside0.mk (Kd.R_below (ra_ HO_171002) hb); have n2_ := Aside0.mk (Kd.R_below (ra_ HO_171008) hb); have n3_ := Aside0.mk (Kd.R_below (ra_ HO_191000) hb); have n4_ := Aside0.mk (Kd.R_below (ra_ HO_191002) hb); have n5_ := Aside0.mk (Kd.R_below (ra_ HO_191008) hb); have n6_ := Aside0.mk (Kd.R_below (ra_ HO206) hb); have n7_ := Aside0.mk (Kd.R_below (ra_ HO209) hb); have n8_ := Aside0.mk (Kd.R_below (ra_ HO213) hb); have n9_ := Aside0.mk (Kd.R_below (ra_ HO221) hb); have n10_ := Aside0.mk (blk_below (bk_ BK170) hb); have n11_ := Aside0.mk (blk_below (bk_ BK190) hb); have n12_ := Aside0.mk (below_step bl_ hb); have n13_ := Aside0.mk (hbox); have n14_ := Aside0.mk ((by rw [hg]; exact (below_size bl_) : w.heap.size ≤ gb223)); have n15_ := Aside0.mk ((by rw [hg]; exact (below_size bl_) : w.heap.size ≤ gb223)); have n16_ := Aside0.mk ((by rw [hg]; exact Nat.ne_of_lt (blk_lt (bk_ BK170)) : gb170 ≠ gb223)); have n17_ := Aside0.mk ((by rw [hg]; exact Nat.ne_of_gt (blk_lt (bk_ BK170)) : gb223 ≠ gb170)); have n18_ := Aside0.mk ((by rw [hg]; exact Nat.ne_of_lt (blk_lt (bk_ BK190)) : gb190 ≠ gb223)); have n19_ := Aside0.mk ((by rw [hg]; exact Nat.ne_of_gt (blk_lt (bk_ BK190)) : gb223 ≠ gb190)); clear HO_171000; clear HO_171002; clear HO_171008; clear HO_191000; clear HO_191002; clear HO_191008; clear HO206; clear HO209; clear HO213; clear HO221; clear BK170; clear BK190; clear HB; have HO_171000 := n0_; have HO_171002 := n1_; have HO_171008 := n2_; have HO_191000 := n3_; have HO_191002 := n4_; have HO_191008 := n5_; have HO206 := n6_; have HO209 := n7_; have HO213 := n8_; have HO221 := n9_; have BK170 := n10_; have BK190 := n11_; have HB := n12_; have BK223 := n13_; have GW223 := n14_; have GE223 := n15_; have NB170_223 := n16_; have NB223_170 := n17_; have NB190_223 := n18_; have NB223_190 := n19_; clear n0_ n1_ n2_ n3_ n4_ n5_ n6_ n7_ n8_ n9_ n10_ n11_ n12_ n13_ n14_ n15_ n16_ n17_ n18_ n19_; clear hb hbox hg; obtain ⟨Ao73, co73, eo73⟩ := Kd.R_slice HO209.out; subst eo73; have hnb74 := NB223_170.out; have hnc74 := NB170_223.out; have hnb75 := NB223_190.out; have hnc75 := NB190_223.out; have hcz76_0 : w72.cell? ⟨gb223, 0, none⟩ = some (.slice none 0 0) := (blk_cell BK223.out 0).trans rfl; have hcz76_1 : w72.cell? ⟨gb223, 1, none⟩ = some (.int .i64 0) := (blk_cell BK223.out 1).trans rfl; have hcz76_2 : w72.cell? ⟨gb223, 2, none⟩ = some (.slice none 0 0) := (blk_cell BK223.out 2).trans rfl; have hcz76_3 : w72.cell? ⟨gb223, 3, none⟩ = some (.int .i64 0) := (blk_cell BK223.out 3).trans rfl; have hcz76_4 : w72.cell? ⟨gb223, 4, none⟩ = some (.int .i64 0) := (blk_cell BK223.out 4).trans rfl; have hcz76_5 : w72.cell? ⟨gb223, 5, none⟩ = some (.int .i64 0) := (blk_cell BK223.out 5).trans rfl; have hcz76_6 : w72.cell? ⟨gb223, 6, none⟩ = some (.int .i64 0) := (blk_cell BK223.out 6).trans rfl; have hcz76_7 : w72.cell? ⟨gb223, 7, none⟩ = some (.int .i64 0) := (blk_cell BK223.out 7).trans rfl; have hcz76_8 : w72.cell? ⟨gb223, 8, none⟩ = some (.slice none 0 0) := (blk_cell BK223.out 8).trans rfl; have hfz76_0 := blk_frozen BK223.out 0; have hfz76_1 := blk_frozen BK223.out 1; have hfz76_2 := blk_frozen BK223.out 2; have hfz76_3 := blk_frozen BK223.out 3; have hfz76_4 := blk_frozen BK223.out 4; have hfz76_5 := blk_frozen BK223.out 5; have hfz76_6 := blk_frozen BK223.out 6; have hfz76_7 := blk_frozen BK223.out 7; have hfz76_8 := blk_frozen BK223.out 8; obtain ⟨Ao77, co77, eo77⟩ := Kd.R_slice HO213.out; subst eo77; obtain ⟨Ao78, co78, eo78⟩ := Kd.R_slice HO221.out; subst eo78))
                      (try simp only [Act.put, List.setIfInBounds_toArray, List.set_cons_zero, List.set_cons_succ])
                      go_cut [89] (fun v89 wc => ∃ (kq : Nat) (x89_62 : Bool), v89 = .bool x89_62 ∧ Aside0 (laws_FnExactTaskNew.j2 kq t199 x89_62 t200 t177 t201 t181 t182 t183 t184 t185 t202 = some true) ∧ Aside0 (kq ≤ kj40) ∧ Aside0 (Kd.R (Kd.int .u8) 5 wc w.heap.size (fun k_ => some k_ ≠ ((.slice Ao16 t166.length co16) : Value).ownBlock ∧ some k_ ≠ ((.slice Ao21 t174.length co21) : Value).ownBlock ∧ some k_ ≠ ((.slice Ao25 t186.length co25) : Value).ownBlock ∧ some k_ ≠ ((.slice Ao73 t207.length co73) : Value).ownBlock ∧ some k_ ≠ ((.slice Ao78 t219.length co78) : Value).ownBlock) (.slice Ao13 t154.length co13) t154) ∧ Aside0 (Kd.R (Kd.int .i64) 3 wc w.heap.size (fun k_ => some k_ ≠ ((.slice Ao24 t178.length co24) : Value).ownBlock ∧ some k_ ≠ ((.slice Ao77 t211.length co77) : Value).ownBlock) (.slice Ao15 t158.length co15) t158) ∧ Aside0 (Kd.R (Kd.int .u8) 5 wc w.heap.size (fun k_ => some k_ ≠ ((.slice Ao13 t154.length co13) : Value).ownBlock ∧ some k_ ≠ ((.slice Ao21 t174.length co21) : Value).ownBlock ∧ some k_ ≠ ((.slice Ao25 t186.length co25) : Value).ownBlock ∧ some k_ ≠ ((.slice Ao73 t207.length co73) : Value).ownBlock ∧ some k_ ≠ ((.slice Ao78 t219.length co78) : Value).ownBlock) (.slice Ao16 t166.length co16) t166) ∧ Aside0 (Kd.R (Kd.int .u8) 5 wc w.heap.size (fun k_ => some k_ ≠ ((.slice Ao13 t154.length co13) : Value).ownBlock ∧ some k_ ≠ ((.slice Ao16 t166.length co16) : Value).ownBlock ∧ some k_ ≠ ((.slice Ao25 t186.length co25) : Value).ownBlock ∧ some k_ ≠ ((.slice Ao73 t207.length co73) : Value).ownBlock ∧ some k_ ≠ ((.slice Ao78 t219.length co78) : Value).ownBlock) (.slice Ao21 t174.length co21) t200) ∧ Aside0 (Kd.R (Kd.int .i64) 3 wc w.heap.size (fun k_ => some k_ ≠ ((.slice Ao15 t158.length co15) : Value).ownBlock ∧ some k_ ≠ ((.slice Ao77 t211.length co77) : Value).ownBlock) (.slice Ao24 t178.length co24) t201) ∧ Aside0 (Kd.R (Kd.int .u8) 5 wc w.heap.size (fun k_ => some k_ ≠ ((.slice Ao13 t154.length co13) : Value).ownBlock ∧ some k_ ≠ ((.slice Ao16 t166.length co16) : Value).ownBlock ∧ some k_ ≠ ((.slice Ao21 t174.length co21) : Value).ownBlock ∧ some k_ ≠ ((.slice Ao73 t207.length co73) : Value).ownBlock ∧ some k_ ≠ ((.slice Ao78 t219.length co78) : Value).ownBlock) (.slice Ao25 t186.length co25) t202) ∧ Aside0 (Kd.R (Kd.int .u8) 5 wc w.heap.size (fun k_ => some k_ ≠ ((.slice Ao13 t154.length co13) : Value).ownBlock ∧ some k_ ≠ ((.slice Ao16 t166.length co16) : Value).ownBlock ∧ some k_ ≠ ((.slice Ao21 t174.length co21) : Value).ownBlock ∧ some k_ ≠ ((.slice Ao25 t186.length co25) : Value).ownBlock ∧ some k_ ≠ ((.slice Ao78 t219.length co78) : Value).ownBlock) (.slice Ao73 t207.length co73) t207) ∧ Aside0 (Kd.R (Kd.int .i64) 3 wc w.heap.size (fun k_ => some k_ ≠ ((.slice Ao15 t158.length co15) : Value).ownBlock ∧ some k_ ≠ ((.slice Ao24 t178.length co24) : Value).ownBlock) (.slice Ao77 t211.length co77) t211) ∧ Aside0 (Kd.R (Kd.int .u8) 5 wc w.heap.size (fun k_ => some k_ ≠ ((.slice Ao13 t154.length co13) : Value).ownBlock ∧ some k_ ≠ ((.slice Ao16 t166.length co16) : Value).ownBlock ∧ some k_ ≠ ((.slice Ao21 t174.length co21) : Value).ownBlock ∧ some k_ ≠ ((.slice Ao25 t186.length co25) : Value).ownBlock ∧ some k_ ≠ ((.slice Ao73 t207.length co73) : Value).ownBlock) (.slice Ao78 t219.length co78) t219) ∧ Aside0 (wc.heap[gb170]? = some (.cells #[(.slice Ao13 t154.length co13), .int .i64 t157, (.slice Ao15 t158.length co15), .int .i64 t161, .int .i64 t162, .int .i64 t163, .int .i64 t164, .int .i64 t165, (.slice Ao16 t166.length co16)] 36 (0, 0))) ∧ Aside0 (wc.heap[gb190]? = some (.cells #[(.slice Ao21 t174.length co21), .int .i64 t177, (.slice Ao24 t178.length co24), .int .i64 t181, .int .i64 t182, .int .i64 t183, .int .i64 t184, .int .i64 t185, (.slice Ao25 t186.length co25)] 36 (0, 0))) ∧ Aside0 (wc.heap[gb223]? = some (.cells #[(.slice Ao73 t207.length co73), .int .i64 t210, (.slice Ao77 t211.length co77), .int .i64 t214, .int .i64 t215, .int .i64 t216, .int .i64 t217, .int .i64 t218, (.slice Ao78 t219.length co78)] 36 (0, 0))) ∧ Aside0 (Below w.heap.size w wc))
                      case first =>
                        have H := HC63.out
                        clear HC63
                        replace H := Option.bind_eq_some_iff.mp H
                        obtain ⟨t224, A790, H⟩ := H
                        replace H : (if t224 = true then (laws_FnExactTaskNew.j2 kj40 t199 (t222 != t169) t200 t177 t201 t181 t182 t183 t184 t185 t202) else (laws_FnExactTaskNew.j2 kj40 t199 true t200 t177 t201 t181 t182 t183 t184 t185 t202)) = some true := H
                        have A79 := Aside0.mk A790
                        clear A790
                        by_cases c80 : t224 = true
                        · subst c80
                          have H1 : (laws_FnExactTaskNew.j2 kj40 t199 (t222 != t169) t200 t177 t201 t181 t182 t183 t184 t185 t202) = some true := by rw [if_pos rfl] at H; exact H
                          clear H
                          have H := H1
                          clear H1
                          have H' := Aside0.mk H
                          clear H
                          have hnb81 := NB223_170.out
                          have hnc81 := NB170_223.out
                          have hnb82 := NB223_190.out
                          have hnc82 := NB190_223.out
                          have hcz83_0 : w72.cell? ⟨gb223, 0, none⟩ = some (.slice none 0 0) := (blk_cell BK223.out 0).trans rfl
                          have hcz83_1 : w72.cell? ⟨gb223, 1, none⟩ = some (.int .i64 0) := (blk_cell BK223.out 1).trans rfl
                          have hcz83_2 : w72.cell? ⟨gb223, 2, none⟩ = some (.slice none 0 0) := (blk_cell BK223.out 2).trans rfl
                          have hcz83_3 : w72.cell? ⟨gb223, 3, none⟩ = some (.int .i64 0) := (blk_cell BK223.out 3).trans rfl
                          have hcz83_4 : w72.cell? ⟨gb223, 4, none⟩ = some (.int .i64 0) := (blk_cell BK223.out 4).trans rfl
                          have hcz83_5 : w72.cell? ⟨gb223, 5, none⟩ = some (.int .i64 0) := (blk_cell BK223.out 5).trans rfl
                          have hcz83_6 : w72.cell? ⟨gb223, 6, none⟩ = some (.int .i64 0) := (blk_cell BK223.out 6).trans rfl
                          have hcz83_7 : w72.cell? ⟨gb223, 7, none⟩ = some (.int .i64 0) := (blk_cell BK223.out 7).trans rfl
                          have hcz83_8 : w72.cell? ⟨gb223, 8, none⟩ = some (.slice none 0 0) := (blk_cell BK223.out 8).trans rfl
                          have hfz83_0 := blk_frozen BK223.out 0
                          have hfz83_1 := blk_frozen BK223.out 1
                          have hfz83_2 := blk_frozen BK223.out 2
                          have hfz83_3 := blk_frozen BK223.out 3
                          have hfz83_4 := blk_frozen BK223.out 4
                          have hfz83_5 := blk_frozen BK223.out 5
                          have hfz83_6 := blk_frozen BK223.out 6
                          have hfz83_7 := blk_frozen BK223.out 7
                          have hfz83_8 := blk_frozen BK223.out 8
                          have hnb84 := NB170_190.out
                          have hnc84 := NB190_170.out
                          have hcz85_0 : w72.cell? ⟨gb170, 0, none⟩ = some (.slice Ao13 t154.length co13) := (blk_cell BK170.out 0).trans rfl
                          have hcz85_1 : w72.cell? ⟨gb170, 1, none⟩ = some (.int .i64 t157) := (blk_cell BK170.out 1).trans rfl
                          have hcz85_2 : w72.cell? ⟨gb170, 2, none⟩ = some (.slice Ao15 t158.length co15) := (blk_cell BK170.out 2).trans rfl
                          have hcz85_3 : w72.cell? ⟨gb170, 3, none⟩ = some (.int .i64 t161) := (blk_cell BK170.out 3).trans rfl
                          have hcz85_4 : w72.cell? ⟨gb170, 4, none⟩ = some (.int .i64 t162) := (blk_cell BK170.out 4).trans rfl
                          have hcz85_5 : w72.cell? ⟨gb170, 5, none⟩ = some (.int .i64 t163) := (blk_cell BK170.out 5).trans rfl
                          have hcz85_6 : w72.cell? ⟨gb170, 6, none⟩ = some (.int .i64 t164) := (blk_cell BK170.out 6).trans rfl
                          have hcz85_7 : w72.cell? ⟨gb170, 7, none⟩ = some (.int .i64 t165) := (blk_cell BK170.out 7).trans rfl
                          have hcz85_8 : w72.cell? ⟨gb170, 8, none⟩ = some (.slice Ao16 t166.length co16) := (blk_cell BK170.out 8).trans rfl
                          have hfz85_0 := blk_frozen BK170.out 0
                          have hfz85_1 := blk_frozen BK170.out 1
                          have hfz85_2 := blk_frozen BK170.out 2
                          have hfz85_3 := blk_frozen BK170.out 3
                          have hfz85_4 := blk_frozen BK170.out 4
                          have hfz85_5 := blk_frozen BK170.out 5
                          have hfz85_6 := blk_frozen BK170.out 6
                          have hfz85_7 := blk_frozen BK170.out 7
                          have hfz85_8 := blk_frozen BK170.out 8
                          go_wp2_with (first | ((with_reducible refine gate_callee (f := 26) rfl ?_); refine goesL_ (some 83) rfl rfl Try.func26 (by kernel_rfl) rfl #[.agg #[.slice Ao73 t207.length co73, .int .i64 t210, .slice Ao77 t211.length co77, .int .i64 t214, .int .i64 t215, .int .i64 t216, .int .i64 t217, .int .i64 t218, .slice Ao78 t219.length co78], .agg #[.slice Ao13 t154.length co13, .int .i64 t157, .slice Ao15 t158.length co15, .int .i64 t161, .int .i64 t162, .int .i64 t163, .int .i64 t164, .int .i64 t165, .slice Ao16 t166.length co16]] rfl gl_ ?_; (with_reducible refine (laws_eqTask.calls kj40 _ _ t207 t210 _ _ t211 t214 t215 t216 t217 t218 _ _ t219 _ _ t154 t157 _ _ t158 t161 t162 t163 t164 t165 _ _ t166 true _ ?side1 ?side2 ?side3 ?side4 ?side5 ?side6 ?side7 ?side8 ?side9 ?side10 ?side11 ?side12 A79.out).mono ?_); (case side1 => refine (Kd.R_reads' (e := 5) (base := w.heap.size) (ok := fun k_ => (((((some k_ ≠ (.slice Ao78 t219.length co78 : Value).ownBlock ∧ some k_ ≠ (.slice Ao13 t154.length co13 : Value).ownBlock) ∧ some k_ ≠ (.slice Ao16 t166.length co16 : Value).ownBlock) ∧ some k_ ≠ (.slice Ao21 t174.length co21 : Value).ownBlock) ∧ some k_ ≠ (.slice Ao25 t186.length co25 : Value).ownBlock) ∧ some k_ ≠ (.slice Ao70 t204.length co70 : Value).ownBlock)) (n := t207.length) (c := co73) ?_).2.2; exact (by (with_reducible repeat (first | apply Kd.R_alloc | apply Kd.R_drewN | apply Kd.R_drew)); exact (Kd.R_mono (Kd.R_far (p := ⟨gb223, 8, none⟩) (Kd.R_far (p := ⟨gb223, 7, none⟩) (Kd.R_far (p := ⟨gb223, 6, none⟩) (Kd.R_far (p := ⟨gb223, 5, none⟩) (Kd.R_far (p := ⟨gb223, 4, none⟩) (Kd.R_far (p := ⟨gb223, 3, none⟩) (Kd.R_far (p := ⟨gb223, 2, none⟩) (Kd.R_far (p := ⟨gb223, 1, none⟩) (Kd.R_far (p := ⟨gb223, 0, none⟩) (Kd.R_types HO209.out BK223.out (by decide)) (fun _ hk => hk.2) (.slice Ao73 t207.length co73)) (fun _ hk => hk.2) (.int .i64 t210)) (fun _ hk => hk.2) (.slice Ao77 t211.length co77)) (fun _ hk => hk.2) (.int .i64 t214)) (fun _ hk => hk.2) (.int .i64 t215)) (fun _ hk => hk.2) (.int .i64 t216)) (fun _ hk => hk.2) (.int .i64 t217)) (fun _ hk => hk.2) (.int .i64 t218)) (fun _ hk => hk.2) (.slice Ao78 t219.length co78)) (fun _ h_ => h_.1)))); (case side2 => exact (Kd.R_reads' HO209.out).2.1); (case side3 => refine (Kd.R_reads' (e := 3) (base := w.heap.size) (ok := fun k_ => ((True ∧ some k_ ≠ (.slice Ao15 t158.length co15 : Value).ownBlock) ∧ some k_ ≠ (.slice Ao24 t178.length co24 : Value).ownBlock)) (n := t211.length) (c := co77) ?_).2.2; exact (by (with_reducible repeat (first | apply Kd.R_alloc | apply Kd.R_drewN | apply Kd.R_drew)); exact (Kd.R_mono (Kd.R_far (p := ⟨gb223, 8, none⟩) (Kd.R_far (p := ⟨gb223, 7, none⟩) (Kd.R_far (p := ⟨gb223, 6, none⟩) (Kd.R_far (p := ⟨gb223, 5, none⟩) (Kd.R_far (p := ⟨gb223, 4, none⟩) (Kd.R_far (p := ⟨gb223, 3, none⟩) (Kd.R_far (p := ⟨gb223, 2, none⟩) (Kd.R_far (p := ⟨gb223, 1, none⟩) (Kd.R_far (p := ⟨gb223, 0, none⟩) (Kd.R_types HO213.out BK223.out (by decide)) (fun _ hk => hk.2) (.slice Ao73 t207.length co73)) (fun _ hk => hk.2) (.int .i64 t210)) (fun _ hk => hk.2) (.slice Ao77 t211.length co77)) (fun _ hk => hk.2) (.int .i64 t214)) (fun _ hk => hk.2) (.int .i64 t215)) (fun _ hk => hk.2) (.int .i64 t216)) (fun _ hk => hk.2) (.int .i64 t217)) (fun _ hk => hk.2) (.int .i64 t218)) (fun _ hk => hk.2) (.slice Ao78 t219.length co78)) (fun _ h_ => h_.1)))); (case side4 => exact (Kd.R_reads' HO213.out).2.1); (case side5 => refine (Kd.R_reads' (e := 5) (base := w.heap.size) (ok := fun k_ => (((((some k_ ≠ (.slice Ao73 t207.length co73 : Value).ownBlock ∧ some k_ ≠ (.slice Ao13 t154.length co13 : Value).ownBlock) ∧ some k_ ≠ (.slice Ao16 t166.length co16 : Value).ownBlock) ∧ some k_ ≠ (.slice Ao21 t174.length co21 : Value).ownBlock) ∧ some k_ ≠ (.slice Ao25 t186.length co25 : Value).ownBlock) ∧ some k_ ≠ (.slice Ao70 t204.length co70 : Value).ownBlock)) (n := t219.length) (c := co78) ?_).2.2; exact (by (with_reducible repeat (first | apply Kd.R_alloc | apply Kd.R_drewN | apply Kd.R_drew)); exact (Kd.R_mono (Kd.R_far (p := ⟨gb223, 8, none⟩) (Kd.R_far (p := ⟨gb223, 7, none⟩) (Kd.R_far (p := ⟨gb223, 6, none⟩) (Kd.R_far (p := ⟨gb223, 5, none⟩) (Kd.R_far (p := ⟨gb223, 4, none⟩) (Kd.R_far (p := ⟨gb223, 3, none⟩) (Kd.R_far (p := ⟨gb223, 2, none⟩) (Kd.R_far (p := ⟨gb223, 1, none⟩) (Kd.R_far (p := ⟨gb223, 0, none⟩) (Kd.R_types HO221.out BK223.out (by decide)) (fun _ hk => hk.2) (.slice Ao73 t207.length co73)) (fun _ hk => hk.2) (.int .i64 t210)) (fun _ hk => hk.2) (.slice Ao77 t211.length co77)) (fun _ hk => hk.2) (.int .i64 t214)) (fun _ hk => hk.2) (.int .i64 t215)) (fun _ hk => hk.2) (.int .i64 t216)) (fun _ hk => hk.2) (.int .i64 t217)) (fun _ hk => hk.2) (.int .i64 t218)) (fun _ hk => hk.2) (.slice Ao78 t219.length co78)) (fun _ h_ => h_.1)))); (case side6 => exact (Kd.R_reads' HO221.out).2.1); (case side7 => refine (Kd.R_reads' (e := 5) (base := w.heap.size) (ok := fun k_ => ((((some k_ ≠ (.slice Ao16 t166.length co16 : Value).ownBlock ∧ (some k_ ≠ (.slice Ao21 t174.length co21 : Value).ownBlock ∧ some k_ ≠ (.slice Ao25 t186.length co25 : Value).ownBlock)) ∧ some k_ ≠ (.slice Ao70 t204.length co70 : Value).ownBlock) ∧ some k_ ≠ (.slice Ao73 t207.length co73 : Value).ownBlock) ∧ some k_ ≠ (.slice Ao78 t219.length co78 : Value).ownBlock)) (n := t154.length) (c := co13) ?_).2.2; exact (by (with_reducible repeat (first | apply Kd.R_alloc | apply Kd.R_drewN | apply Kd.R_drew)); exact (Kd.R_mono (Kd.R_far (p := ⟨gb223, 8, none⟩) (Kd.R_far (p := ⟨gb223, 7, none⟩) (Kd.R_far (p := ⟨gb223, 6, none⟩) (Kd.R_far (p := ⟨gb223, 5, none⟩) (Kd.R_far (p := ⟨gb223, 4, none⟩) (Kd.R_far (p := ⟨gb223, 3, none⟩) (Kd.R_far (p := ⟨gb223, 2, none⟩) (Kd.R_far (p := ⟨gb223, 1, none⟩) (Kd.R_far (p := ⟨gb223, 0, none⟩) (Kd.R_types HO_171000.out BK223.out (by decide)) (fun _ hk => hk.2) (.slice Ao73 t207.length co73)) (fun _ hk => hk.2) (.int .i64 t210)) (fun _ hk => hk.2) (.slice Ao77 t211.length co77)) (fun _ hk => hk.2) (.int .i64 t214)) (fun _ hk => hk.2) (.int .i64 t215)) (fun _ hk => hk.2) (.int .i64 t216)) (fun _ hk => hk.2) (.int .i64 t217)) (fun _ hk => hk.2) (.int .i64 t218)) (fun _ hk => hk.2) (.slice Ao78 t219.length co78)) (fun _ h_ => h_.1)))); (case side8 => exact (Kd.R_reads' HO_171000.out).2.1); (case side9 => refine (Kd.R_reads' (e := 3) (base := w.heap.size) (ok := fun k_ => (some k_ ≠ (.slice Ao24 t178.length co24 : Value).ownBlock ∧ some k_ ≠ (.slice Ao77 t211.length co77 : Value).ownBlock)) (n := t158.length) (c := co15) ?_).2.2; exact (by (with_reducible repeat (first | apply Kd.R_alloc | apply Kd.R_drewN | apply Kd.R_drew)); exact (Kd.R_mono (Kd.R_far (p := ⟨gb223, 8, none⟩) (Kd.R_far (p := ⟨gb223, 7, none⟩) (Kd.R_far (p := ⟨gb223, 6, none⟩) (Kd.R_far (p := ⟨gb223, 5, none⟩) (Kd.R_far (p := ⟨gb223, 4, none⟩) (Kd.R_far (p := ⟨gb223, 3, none⟩) (Kd.R_far (p := ⟨gb223, 2, none⟩) (Kd.R_far (p := ⟨gb223, 1, none⟩) (Kd.R_far (p := ⟨gb223, 0, none⟩) (Kd.R_types HO_171002.out BK223.out (by decide)) (fun _ hk => hk.2) (.slice Ao73 t207.length co73)) (fun _ hk => hk.2) (.int .i64 t210)) (fun _ hk => hk.2) (.slice Ao77 t211.length co77)) (fun _ hk => hk.2) (.int .i64 t214)) (fun _ hk => hk.2) (.int .i64 t215)) (fun _ hk => hk.2) (.int .i64 t216)) (fun _ hk => hk.2) (.int .i64 t217)) (fun _ hk => hk.2) (.int .i64 t218)) (fun _ hk => hk.2) (.slice Ao78 t219.length co78)) (fun _ h_ => h_.1)))); (case side10 => exact (Kd.R_reads' HO_171002.out).2.1); (case side11 => refine (Kd.R_reads' (e := 5) (base := w.heap.size) (ok := fun k_ => ((((some k_ ≠ (.slice Ao13 t154.length co13 : Value).ownBlock ∧ (some k_ ≠ (.slice Ao21 t174.length co21 : Value).ownBlock ∧ some k_ ≠ (.slice Ao25 t186.length co25 : Value).ownBlock)) ∧ some k_ ≠ (.slice Ao70 t204.length co70 : Value).ownBlock) ∧ some k_ ≠ (.slice Ao73 t207.length co73 : Value).ownBlock) ∧ some k_ ≠ (.slice Ao78 t219.length co78 : Value).ownBlock)) (n := t166.length) (c := co16) ?_).2.2; exact (by (with_reducible repeat (first | apply Kd.R_alloc | apply Kd.R_drewN | apply Kd.R_drew)); exact (Kd.R_mono (Kd.R_far (p := ⟨gb223, 8, none⟩) (Kd.R_far (p := ⟨gb223, 7, none⟩) (Kd.R_far (p := ⟨gb223, 6, none⟩) (Kd.R_far (p := ⟨gb223, 5, none⟩) (Kd.R_far (p := ⟨gb223, 4, none⟩) (Kd.R_far (p := ⟨gb223, 3, none⟩) (Kd.R_far (p := ⟨gb223, 2, none⟩) (Kd.R_far (p := ⟨gb223, 1, none⟩) (Kd.R_far (p := ⟨gb223, 0, none⟩) (Kd.R_types HO_171008.out BK223.out (by decide)) (fun _ hk => hk.2) (.slice Ao73 t207.length co73)) (fun _ hk => hk.2) (.int .i64 t210)) (fun _ hk => hk.2) (.slice Ao77 t211.length co77)) (fun _ hk => hk.2) (.int .i64 t214)) (fun _ hk => hk.2) (.int .i64 t215)) (fun _ hk => hk.2) (.int .i64 t216)) (fun _ hk => hk.2) (.int .i64 t217)) (fun _ hk => hk.2) (.int .i64 t218)) (fun _ hk => hk.2) (.slice Ao78 t219.length co78)) (fun _ h_ => h_.1)))); (case side12 => exact (Kd.R_reads' HO_171008.out).2.1); rintro e w86 ⟨rfl, hb⟩; refine ⟨_, rfl, ?_⟩; have n0_ := Aside0.mk (Kd.R_below (by (with_reducible repeat (first | apply Kd.R_alloc | apply Kd.R_drewN | apply Kd.R_drew)); exact (Kd.R_mono (Kd.R_far (p := ⟨gb223, 8, none⟩) (Kd.R_far (p := ⟨gb223, 7, none⟩) (Kd.R_far (p := ⟨gb223, 6, none⟩) (Kd.R_far (p := ⟨gb223, 5, none⟩) (Kd.R_far (p := ⟨gb223, 4, none⟩) (Kd.R_far (p := ⟨gb223, 3, none⟩) (Kd.R_far (p := ⟨gb223, 2, none⟩) (Kd.R_far (p := ⟨gb223, 1, none⟩) (Kd.R_far (p := ⟨gb223, 0, none⟩) (Kd.R_types HO_171000.out BK223.out (by decide)) (fun _ hk => hk.2) (.slice Ao73 t207.length co73)) (fun _ hk => hk.2) (.int .i64 t210)) (fun _ hk => hk.2) (.slice Ao77 t211.length co77)) (fun _ hk => hk.2) (.int .i64 t214)) (fun _ hk => hk.2) (.int .i64 t215)) (fun _ hk => hk.2) (.int .i64 t216)) (fun _ hk => hk.2) (.int .i64 t217)) (fun _ hk => hk.2) (.int .i64 t218)) (fun _ hk => hk.2) (.slice Ao78 t219.length co78)) (fun _ h_ => h_.1))) hb); have n1_ := Aside0.mk (Kd.R_below (by (with_reducible repeat (first | apply Kd.R_alloc | apply Kd.R_drewN | apply Kd.R_drew)); exact (Kd.R_mono (Kd.R_far (p := ⟨gb223, 8, none⟩) (Kd.R_far (p := ⟨gb223, 7, none⟩) (Kd.R_far (p := ⟨gb223, 6, none⟩) (Kd.R_far (p := ⟨gb223, 5, none⟩) (Kd.R_far (p := ⟨gb223, 4, none⟩) (Kd.R_far (p := ⟨gb223, 3, none⟩) (Kd.R_far (p := ⟨gb223, 2, none⟩) (Kd.R_far (p := ⟨gb223, 1, none⟩) (Kd.R_far (p := ⟨gb223, 0, none⟩) (Kd.R_types HO_171002.out BK223.out (by decide)) (fun _ hk => hk.2) (.slice Ao73 t207.length co73)) (fun _ hk => hk.2) (.int .i64 t210)) (fun _ hk => hk.2) (.slice Ao77 t211.length co77)) (fun _ hk => hk.2) (.int .i64 t214)) (fun _ hk => hk.2) (.int .i64 t215)) (fun _ hk => hk.2) (.int .i64 t216)) (fun _ hk => hk.2) (.int .i64 t217)) (fun _ hk => hk.2) (.int .i64 t218)) (fun _ hk => hk.2) (.slice Ao78 t219.length co78)) (fun _ h_ => h_.1))) hb); have n2_ := Aside0.mk (Kd.R_below (by (with_reducible repeat (first | apply Kd.R_alloc | apply Kd.R_drewN | apply Kd.R_drew)); exact (Kd.R_mono (Kd.R_far (p := ⟨gb223, 8, none⟩) (Kd.R_far (p := ⟨gb223, 7, none⟩) (Kd.R_far (p := ⟨gb223, 6, none⟩) (Kd.R_far (p := ⟨gb223, 5, none⟩) (Kd.R_far (p := ⟨gb223, 4, none⟩) (Kd.R_far (p := ⟨gb223, 3, none⟩) (Kd.R_far (p := ⟨gb223, 2, none⟩) (Kd.R_far (p := ⟨gb223, 1, none⟩) (Kd.R_far (p := ⟨gb223, 0, none⟩) (Kd.R_types HO_171008.out BK223.out (by decide)) (fun _ hk => hk.2) (.slice Ao73 t207.length co73)) (fun _ hk => hk.2) (.int .i64 t210)) (fun _ hk => hk.2) (.slice Ao77 t211.length co77)) (fun _ hk => hk.2) (.int .i64 t214)) (fun _ hk => hk.2) (.int .i64 t215)) (fun _ hk => hk.2) (.int .i64 t216)) (fun _ hk => hk.2) (.int .i64 t217)) (fun _ hk => hk.2) (.int .i64 t218)) (fun _ hk => hk.2) (.slice Ao78 t219.length co78)) (fun _ h_ => h_.1))) hb); have n3_ := Aside0.mk (Kd.R_below (by (with_reducible repeat (first | apply Kd.R_alloc | apply Kd.R_drewN | apply Kd.R_drew)); exact (Kd.R_mono (Kd.R_far (p := ⟨gb223, 8, none⟩) (Kd.R_far (p := ⟨gb223, 7, none⟩) (Kd.R_far (p := ⟨gb223, 6, none⟩) (Kd.R_far (p := ⟨gb223, 5, none⟩) (Kd.R_far (p := ⟨gb223, 4, none⟩) (Kd.R_far (p := ⟨gb223, 3, none⟩) (Kd.R_far (p := ⟨gb223, 2, none⟩) (Kd.R_far (p := ⟨gb223, 1, none⟩) (Kd.R_far (p := ⟨gb223, 0, none⟩) (Kd.R_types HO_191000.out BK223.out (by decide)) (fun _ hk => hk.2) (.slice Ao73 t207.length co73)) (fun _ hk => hk.2) (.int .i64 t210)) (fun _ hk => hk.2) (.slice Ao77 t211.length co77)) (fun _ hk => hk.2) (.int .i64 t214)) (fun _ hk => hk.2) (.int .i64 t215)) (fun _ hk => hk.2) (.int .i64 t216)) (fun _ hk => hk.2) (.int .i64 t217)) (fun _ hk => hk.2) (.int .i64 t218)) (fun _ hk => hk.2) (.slice Ao78 t219.length co78)) (fun _ h_ => h_.1))) hb); have n4_ := Aside0.mk (Kd.R_below (by (with_reducible repeat (first | apply Kd.R_alloc | apply Kd.R_drewN | apply Kd.R_drew)); exact (Kd.R_mono (Kd.R_far (p := ⟨gb223, 8, none⟩) (Kd.R_far (p := ⟨gb223, 7, none⟩) (Kd.R_far (p := ⟨gb223, 6, none⟩) (Kd.R_far (p := ⟨gb223, 5, none⟩) (Kd.R_far (p := ⟨gb223, 4, none⟩) (Kd.R_far (p := ⟨gb223, 3, none⟩) (Kd.R_far (p := ⟨gb223, 2, none⟩) (Kd.R_far (p := ⟨gb223, 1, none⟩) (Kd.R_far (p := ⟨gb223, 0, none⟩) (Kd.R_types HO_191002.out BK223.out (by decide)) (fun _ hk => hk.2) (.slice Ao73 t207.length co73)) (fun _ hk => hk.2) (.int .i64 t210)) (fun _ hk => hk.2) (.slice Ao77 t211.length co77)) (fun _ hk => hk.2) (.int .i64 t214)) (fun _ hk => hk.2) (.int .i64 t215)) (fun _ hk => hk.2) (.int .i64 t216)) (fun _ hk => hk.2) (.int .i64 t217)) (fun _ hk => hk.2) (.int .i64 t218)) (fun _ hk => hk.2) (.slice Ao78 t219.length co78)) (fun _ h_ => h_.1))) hb); have n5_ := Aside0.mk (Kd.R_below (by (with_reducible repeat (first | apply Kd.R_alloc | apply Kd.R_drewN | apply Kd.R_drew)); exact (Kd.R_mono (Kd.R_far (p := ⟨gb223, 8, none⟩) (Kd.R_far (p := ⟨gb223, 7, none⟩) (Kd.R_far (p := ⟨gb223, 6, none⟩) (Kd.R_far (p := ⟨gb223, 5, none⟩) (Kd.R_far (p := ⟨gb223, 4, none⟩) (Kd.R_far (p := ⟨gb223, 3, none⟩) (Kd.R_far (p := ⟨gb223, 2, none⟩) (Kd.R_far (p := ⟨gb223, 1, none⟩) (Kd.R_far (p := ⟨gb223, 0, none⟩) (Kd.R_types HO_191008.out BK223.out (by decide)) (fun _ hk => hk.2) (.slice Ao73 t207.length co73)) (fun _ hk => hk.2) (.int .i64 t210)) (fun _ hk => hk.2) (.slice Ao77 t211.length co77)) (fun _ hk => hk.2) (.int .i64 t214)) (fun _ hk => hk.2) (.int .i64 t215)) (fun _ hk => hk.2) (.int .i64 t216)) (fun _ hk => hk.2) (.int .i64 t217)) (fun _ hk => hk.2) (.int .i64 t218)) (fun _ hk => hk.2) (.slice Ao78 t219.length co78)) (fun _ h_ => h_.1))) hb); have n6_ := Aside0.mk (Kd.R_below (by (with_reducible repeat (first | apply Kd.R_alloc | apply Kd.R_drewN | apply Kd.R_drew)); exact (Kd.R_mono (Kd.R_far (p := ⟨gb223, 8, none⟩) (Kd.R_far (p := ⟨gb223, 7, none⟩) (Kd.R_far (p := ⟨gb223, 6, none⟩) (Kd.R_far (p := ⟨gb223, 5, none⟩) (Kd.R_far (p := ⟨gb223, 4, none⟩) (Kd.R_far (p := ⟨gb223, 3, none⟩) (Kd.R_far (p := ⟨gb223, 2, none⟩) (Kd.R_far (p := ⟨gb223, 1, none⟩) (Kd.R_far (p := ⟨gb223, 0, none⟩) (Kd.R_types HO206.out BK223.out (by decide)) (fun _ hk => hk.2) (.slice Ao73 t207.length co73)) (fun _ hk => hk.2) (.int .i64 t210)) (fun _ hk => hk.2) (.slice Ao77 t211.length co77)) (fun _ hk => hk.2) (.int .i64 t214)) (fun _ hk => hk.2) (.int .i64 t215)) (fun _ hk => hk.2) (.int .i64 t216)) (fun _ hk => hk.2) (.int .i64 t217)) (fun _ hk => hk.2) (.int .i64 t218)) (fun _ hk => hk.2) (.slice Ao78 t219.length co78)) (fun _ h_ => h_.1))) hb); have n7_ := Aside0.mk (Kd.R_below (by (with_reducible repeat (first | apply Kd.R_alloc | apply Kd.R_drewN | apply Kd.R_drew)); exact (Kd.R_mono (Kd.R_far (p := ⟨gb223, 8, none⟩) (Kd.R_far (p := ⟨gb223, 7, none⟩) (Kd.R_far (p := ⟨gb223, 6, none⟩) (Kd.R_far (p := ⟨gb223, 5, none⟩) (Kd.R_far (p := ⟨gb223, 4, none⟩) (Kd.R_far (p := ⟨gb223, 3, none⟩) (Kd.R_far (p := ⟨gb223, 2, none⟩) (Kd.R_far (p := ⟨gb223, 1, none⟩) (Kd.R_far (p := ⟨gb223, 0, none⟩) (Kd.R_types HO209.out BK223.out (by decide)) (fun _ hk => hk.2) (.slice Ao73 t207.length co73)) (fun _ hk => hk.2) (.int .i64 t210)) (fun _ hk => hk.2) (.slice Ao77 t211.length co77)) (fun _ hk => hk.2) (.int .i64 t214)) (fun _ hk => hk.2) (.int .i64 t215)) (fun _ hk => hk.2) (.int .i64 t216)) (fun _ hk => hk.2) (.int .i64 t217)) (fun _ hk => hk.2) (.int .i64 t218)) (fun _ hk => hk.2) (.slice Ao78 t219.length co78)) (fun _ h_ => h_.1))) hb); have n8_ := Aside0.mk (Kd.R_below (by (with_reducible repeat (first | apply Kd.R_alloc | apply Kd.R_drewN | apply Kd.R_drew)); exact (Kd.R_mono (Kd.R_far (p := ⟨gb223, 8, none⟩) (Kd.R_far (p := ⟨gb223, 7, none⟩) (Kd.R_far (p := ⟨gb223, 6, none⟩) (Kd.R_far (p := ⟨gb223, 5, none⟩) (Kd.R_far (p := ⟨gb223, 4, none⟩) (Kd.R_far (p := ⟨gb223, 3, none⟩) (Kd.R_far (p := ⟨gb223, 2, none⟩) (Kd.R_far (p := ⟨gb223, 1, none⟩) (Kd.R_far (p := ⟨gb223, 0, none⟩) (Kd.R_types HO213.out BK223.out (by decide)) (fun _ hk => hk.2) (.slice Ao73 t207.length co73)) (fun _ hk => hk.2) (.int .i64 t210)) (fun _ hk => hk.2) (.slice Ao77 t211.length co77)) (fun _ hk => hk.2) (.int .i64 t214)) (fun _ hk => hk.2) (.int .i64 t215)) (fun _ hk => hk.2) (.int .i64 t216)) (fun _ hk => hk.2) (.int .i64 t217)) (fun _ hk => hk.2) (.int .i64 t218)) (fun _ hk => hk.2) (.slice Ao78 t219.length co78)) (fun _ h_ => h_.1))) hb); have n9_ := Aside0.mk (Kd.R_below (by (with_reducible repeat (first | apply Kd.R_alloc | apply Kd.R_drewN | apply Kd.R_drew)); exact (Kd.R_mono (Kd.R_far (p := ⟨gb223, 8, none⟩) (Kd.R_far (p := ⟨gb223, 7, none⟩) (Kd.R_far (p := ⟨gb223, 6, none⟩) (Kd.R_far (p := ⟨gb223, 5, none⟩) (Kd.R_far (p := ⟨gb223, 4, none⟩) (Kd.R_far (p := ⟨gb223, 3, none⟩) (Kd.R_far (p := ⟨gb223, 2, none⟩) (Kd.R_far (p := ⟨gb223, 1, none⟩) (Kd.R_far (p := ⟨gb223, 0, none⟩) (Kd.R_types HO221.out BK223.out (by decide)) (fun _ hk => hk.2) (.slice Ao73 t207.length co73)) (fun _ hk => hk.2) (.int .i64 t210)) (fun _ hk => hk.2) (.slice Ao77 t211.length co77)) (fun _ hk => hk.2) (.int .i64 t214)) (fun _ hk => hk.2) (.int .i64 t215)) (fun _ hk => hk.2) (.int .i64 t216)) (fun _ hk => hk.2) (.int .i64 t217)) (fun _ hk => hk.2) (.int .i64 t218)) (fun _ hk => hk.2) (.slice Ao78 t219.length co78)) (fun _ h_ => h_.1))) hb); have n10_ := Aside0.mk (blk_below (g := gb170) (o := .cells #[.slice Ao13 t154.length co13, .int .i64 t157, .slice Ao15 t158.length co15, .int .i64 t161, .int .i64 t162, .int .i64 t163, .int .i64 t164, .int .i64 t165, .slice Ao16 t166.length co16] 36 (0, 0)) (by (with_reducible repeat (first | refine blk_drewN ?_ _ | refine blk_drew ?_ | refine blk_alloc ?_ _)); refine blk_far ?_ NB170_223.out _; (with_reducible repeat (first | refine blk_drewN ?_ _ | refine blk_drew ?_ | refine blk_alloc ?_ _)); refine blk_far ?_ NB170_223.out _; (with_reducible repeat (first | refine blk_drewN ?_ _ | refine blk_drew ?_ | refine blk_alloc ?_ _)); refine blk_far ?_ NB170_223.out _; (with_reducible repeat (first | refine blk_drewN ?_ _ | refine blk_drew ?_ | refine blk_alloc ?_ _)); refine blk_far ?_ NB170_223.out _; (with_reducible repeat (first | refine blk_drewN ?_ _ | refine blk_drew ?_ | refine blk_alloc ?_ _)); refine blk_far ?_ NB170_223.out _; (with_reducible repeat (first | refine blk_drewN ?_ _ | refine blk_drew ?_ | refine blk_alloc ?_ _)); refine blk_far ?_ NB170_223.out _; (with_reducible repeat (first | refine blk_drewN ?_ _ | refine blk_drew ?_ | refine blk_alloc ?_ _)); refine blk_far ?_ NB170_223.out _; (with_reducible repeat (first | refine blk_drewN ?_ _ | refine blk_drew ?_ | refine blk_alloc ?_ _)); refine blk_far ?_ NB170_223.out _; (with_reducible repeat (first | refine blk_drewN ?_ _ | refine blk_drew ?_ | refine blk_alloc ?_ _)); refine blk_far ?_ NB170_223.out _; (with_reducible repeat (first | refine blk_drewN ?_ _ | refine blk_drew ?_ | refine blk_alloc ?_ _)); exact BK170.out) hb); have n11_ := Aside0.mk (blk_below (g := gb190) (o := .cells #[.slice Ao21 t174.length co21, .int .i64 t177, .slice Ao24 t178.length co24, .int .i64 t181, .int .i64 t182, .int .i64 t183, .int .i64 t184, .int .i64 t185, .slice Ao25 t186.length co25] 36 (0, 0)) (by (with_reducible repeat (first | refine blk_drewN ?_ _ | refine blk_drew ?_ | refine blk_alloc ?_ _)); refine blk_far ?_ NB190_223.out _; (with_reducible repeat (first | refine blk_drewN ?_ _ | refine blk_drew ?_ | refine blk_alloc ?_ _)); refine blk_far ?_ NB190_223.out _; (with_reducible repeat (first | refine blk_drewN ?_ _ | refine blk_drew ?_ | refine blk_alloc ?_ _)); refine blk_far ?_ NB190_223.out _; (with_reducible repeat (first | refine blk_drewN ?_ _ | refine blk_drew ?_ | refine blk_alloc ?_ _)); refine blk_far ?_ NB190_223.out _; (with_reducible repeat (first | refine blk_drewN ?_ _ | refine blk_drew ?_ | refine blk_alloc ?_ _)); refine blk_far ?_ NB190_223.out _; (with_reducible repeat (first | refine blk_drewN ?_ _ | refine blk_drew ?_ | refine blk_alloc ?_ _)); refine blk_far ?_ NB190_223.out _; (with_reducible repeat (first | refine blk_drewN ?_ _ | refine blk_drew ?_ | refine blk_alloc ?_ _)); refine blk_far ?_ NB190_223.out _; (with_reducible repeat (first | refine blk_drewN ?_ _ | refine blk_drew ?_ | refine blk_alloc ?_ _)); refine blk_far ?_ NB190_223.out _; (with_reducible repeat (first | refine blk_drewN ?_ _ | refine blk_drew ?_ | refine blk_alloc ?_ _)); refine blk_far ?_ NB190_223.out _; (with_reducible repeat (first | refine blk_drewN ?_ _ | refine blk_drew ?_ | refine blk_alloc ?_ _)); exact BK190.out) hb); have n12_ := Aside0.mk (blk_below (g := gb223) (o := .cells #[.slice Ao73 t207.length co73, .int .i64 t210, .slice Ao77 t211.length co77, .int .i64 t214, .int .i64 t215, .int .i64 t216, .int .i64 t217, .int .i64 t218, .slice Ao78 t219.length co78] 36 (0, 0)) (by (with_reducible repeat (first | refine blk_drewN ?_ _ | refine blk_drew ?_ | refine blk_alloc ?_ _)); refine blk_put (cs := #[.slice Ao73 t207.length co73, .int .i64 t210, .slice Ao77 t211.length co77, .int .i64 t214, .int .i64 t215, .int .i64 t216, .int .i64 t217, .int .i64 t218, .slice none 0 0]) ?_ 8 _ rfl; (with_reducible repeat (first | refine blk_drewN ?_ _ | refine blk_drew ?_ | refine blk_alloc ?_ _)); refine blk_put (cs := #[.slice Ao73 t207.length co73, .int .i64 t210, .slice Ao77 t211.length co77, .int .i64 t214, .int .i64 t215, .int .i64 t216, .int .i64 t217, .int .i64 0, .slice none 0 0]) ?_ 7 _ rfl; (with_reducible repeat (first | refine blk_drewN ?_ _ | refine blk_drew ?_ | refine blk_alloc ?_ _)); refine blk_put (cs := #[.slice Ao73 t207.length co73, .int .i64 t210, .slice Ao77 t211.length co77, .int .i64 t214, .int .i64 t215, .int .i64 t216, .int .i64 0, .int .i64 0, .slice none 0 0]) ?_ 6 _ rfl; (with_reducible repeat (first | refine blk_drewN ?_ _ | refine blk_drew ?_ | refine blk_alloc ?_ _)); refine blk_put (cs := #[.slice Ao73 t207.length co73, .int .i64 t210, .slice Ao77 t211.length co77, .int .i64 t214, .int .i64 t215, .int .i64 0, .int .i64 0, .int .i64 0, .slice none 0 0]) ?_ 5 _ rfl; (with_reducible repeat (first | refine blk_drewN ?_ _ | refine blk_drew ?_ | refine blk_alloc ?_ _)); refine blk_put (cs := #[.slice Ao73 t207.length co73, .int .i64 t210, .slice Ao77 t211.length co77, .int .i64 t214, .int .i64 0, .int .i64 0, .int .i64 0, .int .i64 0, .slice none 0 0]) ?_ 4 _ rfl; (with_reducible repeat (first | refine blk_drewN ?_ _ | refine blk_drew ?_ | refine blk_alloc ?_ _)); refine blk_put (cs := #[.slice Ao73 t207.length co73, .int .i64 t210, .slice Ao77 t211.length co77, .int .i64 0, .int .i64 0, .int .i64 0, .int .i64 0, .int .i64 0, .slice none 0 0]) ?_ 3 _ rfl; (with_reducible repeat (first | refine blk_drewN ?_ _ | refine blk_drew ?_ | refine blk_alloc ?_ _)); refine blk_put (cs := #[.slice Ao73 t207.length co73, .int .i64 t210, .slice none 0 0, .int .i64 0, .int .i64 0, .int .i64 0, .int .i64 0, .int .i64 0, .slice none 0 0]) ?_ 2 _ rfl; (with_reducible repeat (first | refine blk_drewN ?_ _ | refine blk_drew ?_ | refine blk_alloc ?_ _)); refine blk_put (cs := #[.slice Ao73 t207.length co73, .int .i64 0, .slice none 0 0, .int .i64 0, .int .i64 0, .int .i64 0, .int .i64 0, .int .i64 0, .slice none 0 0]) ?_ 1 _ rfl; (with_reducible repeat (first | refine blk_drewN ?_ _ | refine blk_drew ?_ | refine blk_alloc ?_ _)); refine blk_put (cs := #[.slice none 0 0, .int .i64 0, .slice none 0 0, .int .i64 0, .int .i64 0, .int .i64 0, .int .i64 0, .int .i64 0, .slice none 0 0]) ?_ 0 _ rfl; (with_reducible repeat (first | refine blk_drewN ?_ _ | refine blk_drew ?_ | refine blk_alloc ?_ _)); exact BK223.out) hb); have n13_ := Aside0.mk (below_step bl_ hb); clear HO_171000; clear HO_171002; clear HO_171008; clear HO_191000; clear HO_191002; clear HO_191008; clear HO206; clear HO209; clear HO213; clear HO221; clear BK170; clear BK190; clear BK223; clear HB; have HO_171000 := n0_; have HO_171002 := n1_; have HO_171008 := n2_; have HO_191000 := n3_; have HO_191002 := n4_; have HO_191008 := n5_; have HO206 := n6_; have HO209 := n7_; have HO213 := n8_; have HO221 := n9_; have BK170 := n10_; have BK190 := n11_; have BK223 := n12_; have HB := n13_; clear n0_ n1_ n2_ n3_ n4_ n5_ n6_ n7_ n8_ n9_ n10_ n11_ n12_ n13_; (try clear hb); (try clear hb2); (try clear hk); (try clear hi)))
                          go_meet
                          case rel => exact ⟨_, ((t222 != t169)), sp_, H', ⟨by have := HJ7.out; have := HJ40.out; first | omega | exact Nat.le_refl _⟩, ⟨by (with_reducible repeat (first | apply Kd.R_alloc | apply Kd.R_drewN | apply Kd.R_drew)); exact Kd.R_mono HO_171000.out (fun _ hk => ⟨hk.1.1.1.1, ⟨hk.1.1.1.2.1, ⟨hk.1.1.1.2.2, ⟨hk.1.2, hk.2⟩⟩⟩⟩)⟩, ⟨ra_ HO_171002⟩, ⟨by (with_reducible repeat (first | apply Kd.R_alloc | apply Kd.R_drewN | apply Kd.R_drew)); exact Kd.R_mono HO_171008.out (fun _ hk => ⟨hk.1.1.1.1, ⟨hk.1.1.1.2.1, ⟨hk.1.1.1.2.2, ⟨hk.1.2, hk.2⟩⟩⟩⟩)⟩, ⟨by (with_reducible repeat (first | apply Kd.R_alloc | apply Kd.R_drewN | apply Kd.R_drew)); exact Kd.R_mono HO_191000.out (fun _ hk => ⟨hk.1.1.1.1, ⟨hk.1.1.1.2.1, ⟨hk.1.1.1.2.2, ⟨hk.1.2, hk.2⟩⟩⟩⟩)⟩, ⟨ra_ HO_191002⟩, ⟨by (with_reducible repeat (first | apply Kd.R_alloc | apply Kd.R_drewN | apply Kd.R_drew)); exact Kd.R_mono HO_191008.out (fun _ hk => ⟨hk.1.1.1.1, ⟨hk.1.1.1.2.1, ⟨hk.1.1.1.2.2, ⟨hk.1.2, hk.2⟩⟩⟩⟩)⟩, ⟨by (with_reducible repeat (first | apply Kd.R_alloc | apply Kd.R_drewN | apply Kd.R_drew)); exact Kd.R_mono HO209.out (fun _ hk => ⟨hk.1.1.1.1.2, ⟨hk.1.1.1.2, ⟨hk.1.1.2, ⟨hk.1.2, hk.1.1.1.1.1⟩⟩⟩⟩)⟩, ⟨by (with_reducible repeat (first | apply Kd.R_alloc | apply Kd.R_drewN | apply Kd.R_drew)); exact Kd.R_mono HO213.out (fun _ hk => ⟨hk.1.2, hk.2⟩)⟩, ⟨by (with_reducible repeat (first | apply Kd.R_alloc | apply Kd.R_drewN | apply Kd.R_drew)); exact Kd.R_mono HO221.out (fun _ hk => ⟨hk.1.1.1.1.2, ⟨hk.1.1.1.2, ⟨hk.1.1.2, ⟨hk.1.2, hk.1.1.1.1.1⟩⟩⟩⟩)⟩, ⟨by (with_reducible repeat (first | refine blk_drewN ?_ _ | refine blk_drew ?_ | refine blk_alloc ?_ _)); exact BK170.out⟩, ⟨by (with_reducible repeat (first | refine blk_drewN ?_ _ | refine blk_drew ?_ | refine blk_alloc ?_ _)); exact BK190.out⟩, ⟨by (with_reducible repeat (first | refine blk_drewN ?_ _ | refine blk_drew ?_ | refine blk_alloc ?_ _)); exact BK223.out⟩, ⟨bl_⟩⟩
                        · replace c80 := Bool.eq_false_iff.mpr c80
                          subst c80
                          have H1 : (laws_FnExactTaskNew.j2 kj40 t199 true t200 t177 t201 t181 t182 t183 t184 t185 t202) = some true := by rw [if_neg (show ¬ (false = true) by decide)] at H; exact H
                          clear H
                          have H := H1
                          clear H1
                          have H' := Aside0.mk H
                          clear H
                          have hnb87 := NB223_170.out
                          have hnc87 := NB170_223.out
                          have hnb88 := NB223_190.out
                          have hnc88 := NB190_223.out
                          have hcz89_0 : w72.cell? ⟨gb223, 0, none⟩ = some (.slice none 0 0) := (blk_cell BK223.out 0).trans rfl
                          have hcz89_1 : w72.cell? ⟨gb223, 1, none⟩ = some (.int .i64 0) := (blk_cell BK223.out 1).trans rfl
                          have hcz89_2 : w72.cell? ⟨gb223, 2, none⟩ = some (.slice none 0 0) := (blk_cell BK223.out 2).trans rfl
                          have hcz89_3 : w72.cell? ⟨gb223, 3, none⟩ = some (.int .i64 0) := (blk_cell BK223.out 3).trans rfl
                          have hcz89_4 : w72.cell? ⟨gb223, 4, none⟩ = some (.int .i64 0) := (blk_cell BK223.out 4).trans rfl
                          have hcz89_5 : w72.cell? ⟨gb223, 5, none⟩ = some (.int .i64 0) := (blk_cell BK223.out 5).trans rfl
                          have hcz89_6 : w72.cell? ⟨gb223, 6, none⟩ = some (.int .i64 0) := (blk_cell BK223.out 6).trans rfl
                          have hcz89_7 : w72.cell? ⟨gb223, 7, none⟩ = some (.int .i64 0) := (blk_cell BK223.out 7).trans rfl
                          have hcz89_8 : w72.cell? ⟨gb223, 8, none⟩ = some (.slice none 0 0) := (blk_cell BK223.out 8).trans rfl
                          have hfz89_0 := blk_frozen BK223.out 0
                          have hfz89_1 := blk_frozen BK223.out 1
                          have hfz89_2 := blk_frozen BK223.out 2
                          have hfz89_3 := blk_frozen BK223.out 3
                          have hfz89_4 := blk_frozen BK223.out 4
                          have hfz89_5 := blk_frozen BK223.out 5
                          have hfz89_6 := blk_frozen BK223.out 6
                          have hfz89_7 := blk_frozen BK223.out 7
                          have hfz89_8 := blk_frozen BK223.out 8
                          have hnb90 := NB170_190.out
                          have hnc90 := NB190_170.out
                          have hcz91_0 : w72.cell? ⟨gb170, 0, none⟩ = some (.slice Ao13 t154.length co13) := (blk_cell BK170.out 0).trans rfl
                          have hcz91_1 : w72.cell? ⟨gb170, 1, none⟩ = some (.int .i64 t157) := (blk_cell BK170.out 1).trans rfl
                          have hcz91_2 : w72.cell? ⟨gb170, 2, none⟩ = some (.slice Ao15 t158.length co15) := (blk_cell BK170.out 2).trans rfl
                          have hcz91_3 : w72.cell? ⟨gb170, 3, none⟩ = some (.int .i64 t161) := (blk_cell BK170.out 3).trans rfl
                          have hcz91_4 : w72.cell? ⟨gb170, 4, none⟩ = some (.int .i64 t162) := (blk_cell BK170.out 4).trans rfl
                          have hcz91_5 : w72.cell? ⟨gb170, 5, none⟩ = some (.int .i64 t163) := (blk_cell BK170.out 5).trans rfl
                          have hcz91_6 : w72.cell? ⟨gb170, 6, none⟩ = some (.int .i64 t164) := (blk_cell BK170.out 6).trans rfl
                          have hcz91_7 : w72.cell? ⟨gb170, 7, none⟩ = some (.int .i64 t165) := (blk_cell BK170.out 7).trans rfl
                          have hcz91_8 : w72.cell? ⟨gb170, 8, none⟩ = some (.slice Ao16 t166.length co16) := (blk_cell BK170.out 8).trans rfl
                          have hfz91_0 := blk_frozen BK170.out 0
                          have hfz91_1 := blk_frozen BK170.out 1
                          have hfz91_2 := blk_frozen BK170.out 2
                          have hfz91_3 := blk_frozen BK170.out 3
                          have hfz91_4 := blk_frozen BK170.out 4
                          have hfz91_5 := blk_frozen BK170.out 5
                          have hfz91_6 := blk_frozen BK170.out 6
                          have hfz91_7 := blk_frozen BK170.out 7
                          have hfz91_8 := blk_frozen BK170.out 8
                          go_wp2_with (first | ((with_reducible refine gate_callee (f := 26) rfl ?_); refine goesL_ (some 83) rfl rfl Try.func26 (by kernel_rfl) rfl #[.agg #[.slice Ao73 t207.length co73, .int .i64 t210, .slice Ao77 t211.length co77, .int .i64 t214, .int .i64 t215, .int .i64 t216, .int .i64 t217, .int .i64 t218, .slice Ao78 t219.length co78], .agg #[.slice Ao13 t154.length co13, .int .i64 t157, .slice Ao15 t158.length co15, .int .i64 t161, .int .i64 t162, .int .i64 t163, .int .i64 t164, .int .i64 t165, .slice Ao16 t166.length co16]] rfl gl_ ?_; (with_reducible refine (laws_eqTask.calls kj40 _ _ t207 t210 _ _ t211 t214 t215 t216 t217 t218 _ _ t219 _ _ t154 t157 _ _ t158 t161 t162 t163 t164 t165 _ _ t166 false _ ?side1 ?side2 ?side3 ?side4 ?side5 ?side6 ?side7 ?side8 ?side9 ?side10 ?side11 ?side12 A79.out).mono ?_); (case side1 => refine (Kd.R_reads' (e := 5) (base := w.heap.size) (ok := fun k_ => (((((some k_ ≠ (.slice Ao78 t219.length co78 : Value).ownBlock ∧ some k_ ≠ (.slice Ao13 t154.length co13 : Value).ownBlock) ∧ some k_ ≠ (.slice Ao16 t166.length co16 : Value).ownBlock) ∧ some k_ ≠ (.slice Ao21 t174.length co21 : Value).ownBlock) ∧ some k_ ≠ (.slice Ao25 t186.length co25 : Value).ownBlock) ∧ some k_ ≠ (.slice Ao70 t204.length co70 : Value).ownBlock)) (n := t207.length) (c := co73) ?_).2.2; exact (by (with_reducible repeat (first | apply Kd.R_alloc | apply Kd.R_drewN | apply Kd.R_drew)); exact (Kd.R_mono (Kd.R_far (p := ⟨gb223, 8, none⟩) (Kd.R_far (p := ⟨gb223, 7, none⟩) (Kd.R_far (p := ⟨gb223, 6, none⟩) (Kd.R_far (p := ⟨gb223, 5, none⟩) (Kd.R_far (p := ⟨gb223, 4, none⟩) (Kd.R_far (p := ⟨gb223, 3, none⟩) (Kd.R_far (p := ⟨gb223, 2, none⟩) (Kd.R_far (p := ⟨gb223, 1, none⟩) (Kd.R_far (p := ⟨gb223, 0, none⟩) (Kd.R_types HO209.out BK223.out (by decide)) (fun _ hk => hk.2) (.slice Ao73 t207.length co73)) (fun _ hk => hk.2) (.int .i64 t210)) (fun _ hk => hk.2) (.slice Ao77 t211.length co77)) (fun _ hk => hk.2) (.int .i64 t214)) (fun _ hk => hk.2) (.int .i64 t215)) (fun _ hk => hk.2) (.int .i64 t216)) (fun _ hk => hk.2) (.int .i64 t217)) (fun _ hk => hk.2) (.int .i64 t218)) (fun _ hk => hk.2) (.slice Ao78 t219.length co78)) (fun _ h_ => h_.1)))); (case side2 => exact (Kd.R_reads' HO209.out).2.1); (case side3 => refine (Kd.R_reads' (e := 3) (base := w.heap.size) (ok := fun k_ => ((True ∧ some k_ ≠ (.slice Ao15 t158.length co15 : Value).ownBlock) ∧ some k_ ≠ (.slice Ao24 t178.length co24 : Value).ownBlock)) (n := t211.length) (c := co77) ?_).2.2; exact (by (with_reducible repeat (first | apply Kd.R_alloc | apply Kd.R_drewN | apply Kd.R_drew)); exact (Kd.R_mono (Kd.R_far (p := ⟨gb223, 8, none⟩) (Kd.R_far (p := ⟨gb223, 7, none⟩) (Kd.R_far (p := ⟨gb223, 6, none⟩) (Kd.R_far (p := ⟨gb223, 5, none⟩) (Kd.R_far (p := ⟨gb223, 4, none⟩) (Kd.R_far (p := ⟨gb223, 3, none⟩) (Kd.R_far (p := ⟨gb223, 2, none⟩) (Kd.R_far (p := ⟨gb223, 1, none⟩) (Kd.R_far (p := ⟨gb223, 0, none⟩) (Kd.R_types HO213.out BK223.out (by decide)) (fun _ hk => hk.2) (.slice Ao73 t207.length co73)) (fun _ hk => hk.2) (.int .i64 t210)) (fun _ hk => hk.2) (.slice Ao77 t211.length co77)) (fun _ hk => hk.2) (.int .i64 t214)) (fun _ hk => hk.2) (.int .i64 t215)) (fun _ hk => hk.2) (.int .i64 t216)) (fun _ hk => hk.2) (.int .i64 t217)) (fun _ hk => hk.2) (.int .i64 t218)) (fun _ hk => hk.2) (.slice Ao78 t219.length co78)) (fun _ h_ => h_.1)))); (case side4 => exact (Kd.R_reads' HO213.out).2.1); (case side5 => refine (Kd.R_reads' (e := 5) (base := w.heap.size) (ok := fun k_ => (((((some k_ ≠ (.slice Ao73 t207.length co73 : Value).ownBlock ∧ some k_ ≠ (.slice Ao13 t154.length co13 : Value).ownBlock) ∧ some k_ ≠ (.slice Ao16 t166.length co16 : Value).ownBlock) ∧ some k_ ≠ (.slice Ao21 t174.length co21 : Value).ownBlock) ∧ some k_ ≠ (.slice Ao25 t186.length co25 : Value).ownBlock) ∧ some k_ ≠ (.slice Ao70 t204.length co70 : Value).ownBlock)) (n := t219.length) (c := co78) ?_).2.2; exact (by (with_reducible repeat (first | apply Kd.R_alloc | apply Kd.R_drewN | apply Kd.R_drew)); exact (Kd.R_mono (Kd.R_far (p := ⟨gb223, 8, none⟩) (Kd.R_far (p := ⟨gb223, 7, none⟩) (Kd.R_far (p := ⟨gb223, 6, none⟩) (Kd.R_far (p := ⟨gb223, 5, none⟩) (Kd.R_far (p := ⟨gb223, 4, none⟩) (Kd.R_far (p := ⟨gb223, 3, none⟩) (Kd.R_far (p := ⟨gb223, 2, none⟩) (Kd.R_far (p := ⟨gb223, 1, none⟩) (Kd.R_far (p := ⟨gb223, 0, none⟩) (Kd.R_types HO221.out BK223.out (by decide)) (fun _ hk => hk.2) (.slice Ao73 t207.length co73)) (fun _ hk => hk.2) (.int .i64 t210)) (fun _ hk => hk.2) (.slice Ao77 t211.length co77)) (fun _ hk => hk.2) (.int .i64 t214)) (fun _ hk => hk.2) (.int .i64 t215)) (fun _ hk => hk.2) (.int .i64 t216)) (fun _ hk => hk.2) (.int .i64 t217)) (fun _ hk => hk.2) (.int .i64 t218)) (fun _ hk => hk.2) (.slice Ao78 t219.length co78)) (fun _ h_ => h_.1)))); (case side6 => exact (Kd.R_reads' HO221.out).2.1); (case side7 => refine (Kd.R_reads' (e := 5) (base := w.heap.size) (ok := fun k_ => ((((some k_ ≠ (.slice Ao16 t166.length co16 : Value).ownBlock ∧ (some k_ ≠ (.slice Ao21 t174.length co21 : Value).ownBlock ∧ some k_ ≠ (.slice Ao25 t186.length co25 : Value).ownBlock)) ∧ some k_ ≠ (.slice Ao70 t204.length co70 : Value).ownBlock) ∧ some k_ ≠ (.slice Ao73 t207.length co73 : Value).ownBlock) ∧ some k_ ≠ (.slice Ao78 t219.length co78 : Value).ownBlock)) (n := t154.length) (c := co13) ?_).2.2; exact (by (with_reducible repeat (first | apply Kd.R_alloc | apply Kd.R_drewN | apply Kd.R_drew)); exact (Kd.R_mono (Kd.R_far (p := ⟨gb223, 8, none⟩) (Kd.R_far (p := ⟨gb223, 7, none⟩) (Kd.R_far (p := ⟨gb223, 6, none⟩) (Kd.R_far (p := ⟨gb223, 5, none⟩) (Kd.R_far (p := ⟨gb223, 4, none⟩) (Kd.R_far (p := ⟨gb223, 3, none⟩) (Kd.R_far (p := ⟨gb223, 2, none⟩) (Kd.R_far (p := ⟨gb223, 1, none⟩) (Kd.R_far (p := ⟨gb223, 0, none⟩) (Kd.R_types HO_171000.out BK223.out (by decide)) (fun _ hk => hk.2) (.slice Ao73 t207.length co73)) (fun _ hk => hk.2) (.int .i64 t210)) (fun _ hk => hk.2) (.slice Ao77 t211.length co77)) (fun _ hk => hk.2) (.int .i64 t214)) (fun _ hk => hk.2) (.int .i64 t215)) (fun _ hk => hk.2) (.int .i64 t216)) (fun _ hk => hk.2) (.int .i64 t217)) (fun _ hk => hk.2) (.int .i64 t218)) (fun _ hk => hk.2) (.slice Ao78 t219.length co78)) (fun _ h_ => h_.1)))); (case side8 => exact (Kd.R_reads' HO_171000.out).2.1); (case side9 => refine (Kd.R_reads' (e := 3) (base := w.heap.size) (ok := fun k_ => (some k_ ≠ (.slice Ao24 t178.length co24 : Value).ownBlock ∧ some k_ ≠ (.slice Ao77 t211.length co77 : Value).ownBlock)) (n := t158.length) (c := co15) ?_).2.2; exact (by (with_reducible repeat (first | apply Kd.R_alloc | apply Kd.R_drewN | apply Kd.R_drew)); exact (Kd.R_mono (Kd.R_far (p := ⟨gb223, 8, none⟩) (Kd.R_far (p := ⟨gb223, 7, none⟩) (Kd.R_far (p := ⟨gb223, 6, none⟩) (Kd.R_far (p := ⟨gb223, 5, none⟩) (Kd.R_far (p := ⟨gb223, 4, none⟩) (Kd.R_far (p := ⟨gb223, 3, none⟩) (Kd.R_far (p := ⟨gb223, 2, none⟩) (Kd.R_far (p := ⟨gb223, 1, none⟩) (Kd.R_far (p := ⟨gb223, 0, none⟩) (Kd.R_types HO_171002.out BK223.out (by decide)) (fun _ hk => hk.2) (.slice Ao73 t207.length co73)) (fun _ hk => hk.2) (.int .i64 t210)) (fun _ hk => hk.2) (.slice Ao77 t211.length co77)) (fun _ hk => hk.2) (.int .i64 t214)) (fun _ hk => hk.2) (.int .i64 t215)) (fun _ hk => hk.2) (.int .i64 t216)) (fun _ hk => hk.2) (.int .i64 t217)) (fun _ hk => hk.2) (.int .i64 t218)) (fun _ hk => hk.2) (.slice Ao78 t219.length co78)) (fun _ h_ => h_.1)))); (case side10 => exact (Kd.R_reads' HO_171002.out).2.1); (case side11 => refine (Kd.R_reads' (e := 5) (base := w.heap.size) (ok := fun k_ => ((((some k_ ≠ (.slice Ao13 t154.length co13 : Value).ownBlock ∧ (some k_ ≠ (.slice Ao21 t174.length co21 : Value).ownBlock ∧ some k_ ≠ (.slice Ao25 t186.length co25 : Value).ownBlock)) ∧ some k_ ≠ (.slice Ao70 t204.length co70 : Value).ownBlock) ∧ some k_ ≠ (.slice Ao73 t207.length co73 : Value).ownBlock) ∧ some k_ ≠ (.slice Ao78 t219.length co78 : Value).ownBlock)) (n := t166.length) (c := co16) ?_).2.2; exact (by (with_reducible repeat (first | apply Kd.R_alloc | apply Kd.R_drewN | apply Kd.R_drew)); exact (Kd.R_mono (Kd.R_far (p := ⟨gb223, 8, none⟩) (Kd.R_far (p := ⟨gb223, 7, none⟩) (Kd.R_far (p := ⟨gb223, 6, none⟩) (Kd.R_far (p := ⟨gb223, 5, none⟩) (Kd.R_far (p := ⟨gb223, 4, none⟩) (Kd.R_far (p := ⟨gb223, 3, none⟩) (Kd.R_far (p := ⟨gb223, 2, none⟩) (Kd.R_far (p := ⟨gb223, 1, none⟩) (Kd.R_far (p := ⟨gb223, 0, none⟩) (Kd.R_types HO_171008.out BK223.out (by decide)) (fun _ hk => hk.2) (.slice Ao73 t207.length co73)) (fun _ hk => hk.2) (.int .i64 t210)) (fun _ hk => hk.2) (.slice Ao77 t211.length co77)) (fun _ hk => hk.2) (.int .i64 t214)) (fun _ hk => hk.2) (.int .i64 t215)) (fun _ hk => hk.2) (.int .i64 t216)) (fun _ hk => hk.2) (.int .i64 t217)) (fun _ hk => hk.2) (.int .i64 t218)) (fun _ hk => hk.2) (.slice Ao78 t219.length co78)) (fun _ h_ => h_.1)))); (case side12 => exact (Kd.R_reads' HO_171008.out).2.1); rintro e w92 ⟨rfl, hb⟩; refine ⟨_, rfl, ?_⟩; have n0_ := Aside0.mk (Kd.R_below (by (with_reducible repeat (first | apply Kd.R_alloc | apply Kd.R_drewN | apply Kd.R_drew)); exact (Kd.R_mono (Kd.R_far (p := ⟨gb223, 8, none⟩) (Kd.R_far (p := ⟨gb223, 7, none⟩) (Kd.R_far (p := ⟨gb223, 6, none⟩) (Kd.R_far (p := ⟨gb223, 5, none⟩) (Kd.R_far (p := ⟨gb223, 4, none⟩) (Kd.R_far (p := ⟨gb223, 3, none⟩) (Kd.R_far (p := ⟨gb223, 2, none⟩) (Kd.R_far (p := ⟨gb223, 1, none⟩) (Kd.R_far (p := ⟨gb223, 0, none⟩) (Kd.R_types HO_171000.out BK223.out (by decide)) (fun _ hk => hk.2) (.slice Ao73 t207.length co73)) (fun _ hk => hk.2) (.int .i64 t210)) (fun _ hk => hk.2) (.slice Ao77 t211.length co77)) (fun _ hk => hk.2) (.int .i64 t214)) (fun _ hk => hk.2) (.int .i64 t215)) (fun _ hk => hk.2) (.int .i64 t216)) (fun _ hk => hk.2) (.int .i64 t217)) (fun _ hk => hk.2) (.int .i64 t218)) (fun _ hk => hk.2) (.slice Ao78 t219.length co78)) (fun _ h_ => h_.1))) hb); have n1_ := Aside0.mk (Kd.R_below (by (with_reducible repeat (first | apply Kd.R_alloc | apply Kd.R_drewN | apply Kd.R_drew)); exact (Kd.R_mono (Kd.R_far (p := ⟨gb223, 8, none⟩) (Kd.R_far (p := ⟨gb223, 7, none⟩) (Kd.R_far (p := ⟨gb223, 6, none⟩) (Kd.R_far (p := ⟨gb223, 5, none⟩) (Kd.R_far (p := ⟨gb223, 4, none⟩) (Kd.R_far (p := ⟨gb223, 3, none⟩) (Kd.R_far (p := ⟨gb223, 2, none⟩) (Kd.R_far (p := ⟨gb223, 1, none⟩) (Kd.R_far (p := ⟨gb223, 0, none⟩) (Kd.R_types HO_171002.out BK223.out (by decide)) (fun _ hk => hk.2) (.slice Ao73 t207.length co73)) (fun _ hk => hk.2) (.int .i64 t210)) (fun _ hk => hk.2) (.slice Ao77 t211.length co77)) (fun _ hk => hk.2) (.int .i64 t214)) (fun _ hk => hk.2) (.int .i64 t215)) (fun _ hk => hk.2) (.int .i64 t216)) (fun _ hk => hk.2) (.int .i64 t217)) (fun _ hk => hk.2) (.int .i64 t218)) (fun _ hk => hk.2) (.slice Ao78 t219.length co78)) (fun _ h_ => h_.1))) hb); have n2_ := Aside0.mk (Kd.R_below (by (with_reducible repeat (first | apply Kd.R_alloc | apply Kd.R_drewN | apply Kd.R_drew)); exact (Kd.R_mono (Kd.R_far (p := ⟨gb223, 8, none⟩) (Kd.R_far (p := ⟨gb223, 7, none⟩) (Kd.R_far (p := ⟨gb223, 6, none⟩) (Kd.R_far (p := ⟨gb223, 5, none⟩) (Kd.R_far (p := ⟨gb223, 4, none⟩) (Kd.R_far (p := ⟨gb223, 3, none⟩) (Kd.R_far (p := ⟨gb223, 2, none⟩) (Kd.R_far (p := ⟨gb223, 1, none⟩) (Kd.R_far (p := ⟨gb223, 0, none⟩) (Kd.R_types HO_171008.out BK223.out (by decide)) (fun _ hk => hk.2) (.slice Ao73 t207.length co73)) (fun _ hk => hk.2) (.int .i64 t210)) (fun _ hk => hk.2) (.slice Ao77 t211.length co77)) (fun _ hk => hk.2) (.int .i64 t214)) (fun _ hk => hk.2) (.int .i64 t215)) (fun _ hk => hk.2) (.int .i64 t216)) (fun _ hk => hk.2) (.int .i64 t217)) (fun _ hk => hk.2) (.int .i64 t218)) (fun _ hk => hk.2) (.slice Ao78 t219.length co78)) (fun _ h_ => h_.1))) hb); have n3_ := Aside0.mk (Kd.R_below (by (with_reducible repeat (first | apply Kd.R_alloc | apply Kd.R_drewN | apply Kd.R_drew)); exact (Kd.R_mono (Kd.R_far (p := ⟨gb223, 8, none⟩) (Kd.R_far (p := ⟨gb223, 7, none⟩) (Kd.R_far (p := ⟨gb223, 6, none⟩) (Kd.R_far (p := ⟨gb223, 5, none⟩) (Kd.R_far (p := ⟨gb223, 4, none⟩) (Kd.R_far (p := ⟨gb223, 3, none⟩) (Kd.R_far (p := ⟨gb223, 2, none⟩) (Kd.R_far (p := ⟨gb223, 1, none⟩) (Kd.R_far (p := ⟨gb223, 0, none⟩) (Kd.R_types HO_191000.out BK223.out (by decide)) (fun _ hk => hk.2) (.slice Ao73 t207.length co73)) (fun _ hk => hk.2) (.int .i64 t210)) (fun _ hk => hk.2) (.slice Ao77 t211.length co77)) (fun _ hk => hk.2) (.int .i64 t214)) (fun _ hk => hk.2) (.int .i64 t215)) (fun _ hk => hk.2) (.int .i64 t216)) (fun _ hk => hk.2) (.int .i64 t217)) (fun _ hk => hk.2) (.int .i64 t218)) (fun _ hk => hk.2) (.slice Ao78 t219.length co78)) (fun _ h_ => h_.1))) hb); have n4_ := Aside0.mk (Kd.R_below (by (with_reducible repeat (first | apply Kd.R_alloc | apply Kd.R_drewN | apply Kd.R_drew)); exact (Kd.R_mono (Kd.R_far (p := ⟨gb223, 8, none⟩) (Kd.R_far (p := ⟨gb223, 7, none⟩) (Kd.R_far (p := ⟨gb223, 6, none⟩) (Kd.R_far (p := ⟨gb223, 5, none⟩) (Kd.R_far (p := ⟨gb223, 4, none⟩) (Kd.R_far (p := ⟨gb223, 3, none⟩) (Kd.R_far (p := ⟨gb223, 2, none⟩) (Kd.R_far (p := ⟨gb223, 1, none⟩) (Kd.R_far (p := ⟨gb223, 0, none⟩) (Kd.R_types HO_191002.out BK223.out (by decide)) (fun _ hk => hk.2) (.slice Ao73 t207.length co73)) (fun _ hk => hk.2) (.int .i64 t210)) (fun _ hk => hk.2) (.slice Ao77 t211.length co77)) (fun _ hk => hk.2) (.int .i64 t214)) (fun _ hk => hk.2) (.int .i64 t215)) (fun _ hk => hk.2) (.int .i64 t216)) (fun _ hk => hk.2) (.int .i64 t217)) (fun _ hk => hk.2) (.int .i64 t218)) (fun _ hk => hk.2) (.slice Ao78 t219.length co78)) (fun _ h_ => h_.1))) hb); have n5_ := Aside0.mk (Kd.R_below (by (with_reducible repeat (first | apply Kd.R_alloc | apply Kd.R_drewN | apply Kd.R_drew)); exact (Kd.R_mono (Kd.R_far (p := ⟨gb223, 8, none⟩) (Kd.R_far (p := ⟨gb223, 7, none⟩) (Kd.R_far (p := ⟨gb223, 6, none⟩) (Kd.R_far (p := ⟨gb223, 5, none⟩) (Kd.R_far (p := ⟨gb223, 4, none⟩) (Kd.R_far (p := ⟨gb223, 3, none⟩) (Kd.R_far (p := ⟨gb223, 2, none⟩) (Kd.R_far (p := ⟨gb223, 1, none⟩) (Kd.R_far (p := ⟨gb223, 0, none⟩) (Kd.R_types HO_191008.out BK223.out (by decide)) (fun _ hk => hk.2) (.slice Ao73 t207.length co73)) (fun _ hk => hk.2) (.int .i64 t210)) (fun _ hk => hk.2) (.slice Ao77 t211.length co77)) (fun _ hk => hk.2) (.int .i64 t214)) (fun _ hk => hk.2) (.int .i64 t215)) (fun _ hk => hk.2) (.int .i64 t216)) (fun _ hk => hk.2) (.int .i64 t217)) (fun _ hk => hk.2) (.int .i64 t218)) (fun _ hk => hk.2) (.slice Ao78 t219.length co78)) (fun _ h_ => h_.1))) hb); have n6_ := Aside0.mk (Kd.R_below (by (with_reducible repeat (first | apply Kd.R_alloc | apply Kd.R_drewN | apply Kd.R_drew)); exact (Kd.R_mono (Kd.R_far (p := ⟨gb223, 8, none⟩) (Kd.R_far (p := ⟨gb223, 7, none⟩) (Kd.R_far (p := ⟨gb223, 6, none⟩) (Kd.R_far (p := ⟨gb223, 5, none⟩) (Kd.R_far (p := ⟨gb223, 4, none⟩) (Kd.R_far (p := ⟨gb223, 3, none⟩) (Kd.R_far (p := ⟨gb223, 2, none⟩) (Kd.R_far (p := ⟨gb223, 1, none⟩) (Kd.R_far (p := ⟨gb223, 0, none⟩) (Kd.R_types HO206.out BK223.out (by decide)) (fun _ hk => hk.2) (.slice Ao73 t207.length co73)) (fun _ hk => hk.2) (.int .i64 t210)) (fun _ hk => hk.2) (.slice Ao77 t211.length co77)) (fun _ hk => hk.2) (.int .i64 t214)) (fun _ hk => hk.2) (.int .i64 t215)) (fun _ hk => hk.2) (.int .i64 t216)) (fun _ hk => hk.2) (.int .i64 t217)) (fun _ hk => hk.2) (.int .i64 t218)) (fun _ hk => hk.2) (.slice Ao78 t219.length co78)) (fun _ h_ => h_.1))) hb); have n7_ := Aside0.mk (Kd.R_below (by (with_reducible repeat (first | apply Kd.R_alloc | apply Kd.R_drewN | apply Kd.R_drew)); exact (Kd.R_mono (Kd.R_far (p := ⟨gb223, 8, none⟩) (Kd.R_far (p := ⟨gb223, 7, none⟩) (Kd.R_far (p := ⟨gb223, 6, none⟩) (Kd.R_far (p := ⟨gb223, 5, none⟩) (Kd.R_far (p := ⟨gb223, 4, none⟩) (Kd.R_far (p := ⟨gb223, 3, none⟩) (Kd.R_far (p := ⟨gb223, 2, none⟩) (Kd.R_far (p := ⟨gb223, 1, none⟩) (Kd.R_far (p := ⟨gb223, 0, none⟩) (Kd.R_types HO209.out BK223.out (by decide)) (fun _ hk => hk.2) (.slice Ao73 t207.length co73)) (fun _ hk => hk.2) (.int .i64 t210)) (fun _ hk => hk.2) (.slice Ao77 t211.length co77)) (fun _ hk => hk.2) (.int .i64 t214)) (fun _ hk => hk.2) (.int .i64 t215)) (fun _ hk => hk.2) (.int .i64 t216)) (fun _ hk => hk.2) (.int .i64 t217)) (fun _ hk => hk.2) (.int .i64 t218)) (fun _ hk => hk.2) (.slice Ao78 t219.length co78)) (fun _ h_ => h_.1))) hb); have n8_ := Aside0.mk (Kd.R_below (by (with_reducible repeat (first | apply Kd.R_alloc | apply Kd.R_drewN | apply Kd.R_drew)); exact (Kd.R_mono (Kd.R_far (p := ⟨gb223, 8, none⟩) (Kd.R_far (p := ⟨gb223, 7, none⟩) (Kd.R_far (p := ⟨gb223, 6, none⟩) (Kd.R_far (p := ⟨gb223, 5, none⟩) (Kd.R_far (p := ⟨gb223, 4, none⟩) (Kd.R_far (p := ⟨gb223, 3, none⟩) (Kd.R_far (p := ⟨gb223, 2, none⟩) (Kd.R_far (p := ⟨gb223, 1, none⟩) (Kd.R_far (p := ⟨gb223, 0, none⟩) (Kd.R_types HO213.out BK223.out (by decide)) (fun _ hk => hk.2) (.slice Ao73 t207.length co73)) (fun _ hk => hk.2) (.int .i64 t210)) (fun _ hk => hk.2) (.slice Ao77 t211.length co77)) (fun _ hk => hk.2) (.int .i64 t214)) (fun _ hk => hk.2) (.int .i64 t215)) (fun _ hk => hk.2) (.int .i64 t216)) (fun _ hk => hk.2) (.int .i64 t217)) (fun _ hk => hk.2) (.int .i64 t218)) (fun _ hk => hk.2) (.slice Ao78 t219.length co78)) (fun _ h_ => h_.1))) hb); have n9_ := Aside0.mk (Kd.R_below (by (with_reducible repeat (first | apply Kd.R_alloc | apply Kd.R_drewN | apply Kd.R_drew)); exact (Kd.R_mono (Kd.R_far (p := ⟨gb223, 8, none⟩) (Kd.R_far (p := ⟨gb223, 7, none⟩) (Kd.R_far (p := ⟨gb223, 6, none⟩) (Kd.R_far (p := ⟨gb223, 5, none⟩) (Kd.R_far (p := ⟨gb223, 4, none⟩) (Kd.R_far (p := ⟨gb223, 3, none⟩) (Kd.R_far (p := ⟨gb223, 2, none⟩) (Kd.R_far (p := ⟨gb223, 1, none⟩) (Kd.R_far (p := ⟨gb223, 0, none⟩) (Kd.R_types HO221.out BK223.out (by decide)) (fun _ hk => hk.2) (.slice Ao73 t207.length co73)) (fun _ hk => hk.2) (.int .i64 t210)) (fun _ hk => hk.2) (.slice Ao77 t211.length co77)) (fun _ hk => hk.2) (.int .i64 t214)) (fun _ hk => hk.2) (.int .i64 t215)) (fun _ hk => hk.2) (.int .i64 t216)) (fun _ hk => hk.2) (.int .i64 t217)) (fun _ hk => hk.2) (.int .i64 t218)) (fun _ hk => hk.2) (.slice Ao78 t219.length co78)) (fun _ h_ => h_.1))) hb); have n10_ := Aside0.mk (blk_below (g := gb170) (o := .cells #[.slice Ao13 t154.length co13, .int .i64 t157, .slice Ao15 t158.length co15, .int .i64 t161, .int .i64 t162, .int .i64 t163, .int .i64 t164, .int .i64 t165, .slice Ao16 t166.length co16] 36 (0, 0)) (by (with_reducible repeat (first | refine blk_drewN ?_ _ | refine blk_drew ?_ | refine blk_alloc ?_ _)); refine blk_far ?_ NB170_223.out _; (with_reducible repeat (first | refine blk_drewN ?_ _ | refine blk_drew ?_ | refine blk_alloc ?_ _)); refine blk_far ?_ NB170_223.out _; (with_reducible repeat (first | refine blk_drewN ?_ _ | refine blk_drew ?_ | refine blk_alloc ?_ _)); refine blk_far ?_ NB170_223.out _; (with_reducible repeat (first | refine blk_drewN ?_ _ | refine blk_drew ?_ | refine blk_alloc ?_ _)); refine blk_far ?_ NB170_223.out _; (with_reducible repeat (first | refine blk_drewN ?_ _ | refine blk_drew ?_ | refine blk_alloc ?_ _)); refine blk_far ?_ NB170_223.out _; (with_reducible repeat (first | refine blk_drewN ?_ _ | refine blk_drew ?_ | refine blk_alloc ?_ _)); refine blk_far ?_ NB170_223.out _; (with_reducible repeat (first | refine blk_drewN ?_ _ | refine blk_drew ?_ | refine blk_alloc ?_ _)); refine blk_far ?_ NB170_223.out _; (with_reducible repeat (first | refine blk_drewN ?_ _ | refine blk_drew ?_ | refine blk_alloc ?_ _)); refine blk_far ?_ NB170_223.out _; (with_reducible repeat (first | refine blk_drewN ?_ _ | refine blk_drew ?_ | refine blk_alloc ?_ _)); refine blk_far ?_ NB170_223.out _; (with_reducible repeat (first | refine blk_drewN ?_ _ | refine blk_drew ?_ | refine blk_alloc ?_ _)); exact BK170.out) hb); have n11_ := Aside0.mk (blk_below (g := gb190) (o := .cells #[.slice Ao21 t174.length co21, .int .i64 t177, .slice Ao24 t178.length co24, .int .i64 t181, .int .i64 t182, .int .i64 t183, .int .i64 t184, .int .i64 t185, .slice Ao25 t186.length co25] 36 (0, 0)) (by (with_reducible repeat (first | refine blk_drewN ?_ _ | refine blk_drew ?_ | refine blk_alloc ?_ _)); refine blk_far ?_ NB190_223.out _; (with_reducible repeat (first | refine blk_drewN ?_ _ | refine blk_drew ?_ | refine blk_alloc ?_ _)); refine blk_far ?_ NB190_223.out _; (with_reducible repeat (first | refine blk_drewN ?_ _ | refine blk_drew ?_ | refine blk_alloc ?_ _)); refine blk_far ?_ NB190_223.out _; (with_reducible repeat (first | refine blk_drewN ?_ _ | refine blk_drew ?_ | refine blk_alloc ?_ _)); refine blk_far ?_ NB190_223.out _; (with_reducible repeat (first | refine blk_drewN ?_ _ | refine blk_drew ?_ | refine blk_alloc ?_ _)); refine blk_far ?_ NB190_223.out _; (with_reducible repeat (first | refine blk_drewN ?_ _ | refine blk_drew ?_ | refine blk_alloc ?_ _)); refine blk_far ?_ NB190_223.out _; (with_reducible repeat (first | refine blk_drewN ?_ _ | refine blk_drew ?_ | refine blk_alloc ?_ _)); refine blk_far ?_ NB190_223.out _; (with_reducible repeat (first | refine blk_drewN ?_ _ | refine blk_drew ?_ | refine blk_alloc ?_ _)); refine blk_far ?_ NB190_223.out _; (with_reducible repeat (first | refine blk_drewN ?_ _ | refine blk_drew ?_ | refine blk_alloc ?_ _)); refine blk_far ?_ NB190_223.out _; (with_reducible repeat (first | refine blk_drewN ?_ _ | refine blk_drew ?_ | refine blk_alloc ?_ _)); exact BK190.out) hb); have n12_ := Aside0.mk (blk_below (g := gb223) (o := .cells #[.slice Ao73 t207.length co73, .int .i64 t210, .slice Ao77 t211.length co77, .int .i64 t214, .int .i64 t215, .int .i64 t216, .int .i64 t217, .int .i64 t218, .slice Ao78 t219.length co78] 36 (0, 0)) (by (with_reducible repeat (first | refine blk_drewN ?_ _ | refine blk_drew ?_ | refine blk_alloc ?_ _)); refine blk_put (cs := #[.slice Ao73 t207.length co73, .int .i64 t210, .slice Ao77 t211.length co77, .int .i64 t214, .int .i64 t215, .int .i64 t216, .int .i64 t217, .int .i64 t218, .slice none 0 0]) ?_ 8 _ rfl; (with_reducible repeat (first | refine blk_drewN ?_ _ | refine blk_drew ?_ | refine blk_alloc ?_ _)); refine blk_put (cs := #[.slice Ao73 t207.length co73, .int .i64 t210, .slice Ao77 t211.length co77, .int .i64 t214, .int .i64 t215, .int .i64 t216, .int .i64 t217, .int .i64 0, .slice none 0 0]) ?_ 7 _ rfl; (with_reducible repeat (first | refine blk_drewN ?_ _ | refine blk_drew ?_ | refine blk_alloc ?_ _)); refine blk_put (cs := #[.slice Ao73 t207.length co73, .int .i64 t210, .slice Ao77 t211.length co77, .int .i64 t214, .int .i64 t215, .int .i64 t216, .int .i64 0, .int .i64 0, .slice none 0 0]) ?_ 6 _ rfl; (with_reducible repeat (first | refine blk_drewN ?_ _ | refine blk_drew ?_ | refine blk_alloc ?_ _)); refine blk_put (cs := #[.slice Ao73 t207.length co73, .int .i64 t210, .slice Ao77 t211.length co77, .int .i64 t214, .int .i64 t215, .int .i64 0, .int .i64 0, .int .i64 0, .slice none 0 0]) ?_ 5 _ rfl; (with_reducible repeat (first | refine blk_drewN ?_ _ | refine blk_drew ?_ | refine blk_alloc ?_ _)); refine blk_put (cs := #[.slice Ao73 t207.length co73, .int .i64 t210, .slice Ao77 t211.length co77, .int .i64 t214, .int .i64 0, .int .i64 0, .int .i64 0, .int .i64 0, .slice none 0 0]) ?_ 4 _ rfl; (with_reducible repeat (first | refine blk_drewN ?_ _ | refine blk_drew ?_ | refine blk_alloc ?_ _)); refine blk_put (cs := #[.slice Ao73 t207.length co73, .int .i64 t210, .slice Ao77 t211.length co77, .int .i64 0, .int .i64 0, .int .i64 0, .int .i64 0, .int .i64 0, .slice none 0 0]) ?_ 3 _ rfl; (with_reducible repeat (first | refine blk_drewN ?_ _ | refine blk_drew ?_ | refine blk_alloc ?_ _)); refine blk_put (cs := #[.slice Ao73 t207.length co73, .int .i64 t210, .slice none 0 0, .int .i64 0, .int .i64 0, .int .i64 0, .int .i64 0, .int .i64 0, .slice none 0 0]) ?_ 2 _ rfl; (with_reducible repeat (first | refine blk_drewN ?_ _ | refine blk_drew ?_ | refine blk_alloc ?_ _)); refine blk_put (cs := #[.slice Ao73 t207.length co73, .int .i64 0, .slice none 0 0, .int .i64 0, .int .i64 0, .int .i64 0, .int .i64 0, .int .i64 0, .slice none 0 0]) ?_ 1 _ rfl; (with_reducible repeat (first | refine blk_drewN ?_ _ | refine blk_drew ?_ | refine blk_alloc ?_ _)); refine blk_put (cs := #[.slice none 0 0, .int .i64 0, .slice none 0 0, .int .i64 0, .int .i64 0, .int .i64 0, .int .i64 0, .int .i64 0, .slice none 0 0]) ?_ 0 _ rfl; (with_reducible repeat (first | refine blk_drewN ?_ _ | refine blk_drew ?_ | refine blk_alloc ?_ _)); exact BK223.out) hb); have n13_ := Aside0.mk (below_step bl_ hb); clear HO_171000; clear HO_171002; clear HO_171008; clear HO_191000; clear HO_191002; clear HO_191008; clear HO206; clear HO209; clear HO213; clear HO221; clear BK170; clear BK190; clear BK223; clear HB; have HO_171000 := n0_; have HO_171002 := n1_; have HO_171008 := n2_; have HO_191000 := n3_; have HO_191002 := n4_; have HO_191008 := n5_; have HO206 := n6_; have HO209 := n7_; have HO213 := n8_; have HO221 := n9_; have BK170 := n10_; have BK190 := n11_; have BK223 := n12_; have HB := n13_; clear n0_ n1_ n2_ n3_ n4_ n5_ n6_ n7_ n8_ n9_ n10_ n11_ n12_ n13_; (try clear hb); (try clear hb2); (try clear hk); (try clear hi)))
                          go_meet
                          case rel => exact ⟨_, (true), sp_, H', ⟨by have := HJ7.out; have := HJ40.out; first | omega | exact Nat.le_refl _⟩, ⟨by (with_reducible repeat (first | apply Kd.R_alloc | apply Kd.R_drewN | apply Kd.R_drew)); exact Kd.R_mono HO_171000.out (fun _ hk => ⟨hk.1.1.1.1, ⟨hk.1.1.1.2.1, ⟨hk.1.1.1.2.2, ⟨hk.1.2, hk.2⟩⟩⟩⟩)⟩, ⟨ra_ HO_171002⟩, ⟨by (with_reducible repeat (first | apply Kd.R_alloc | apply Kd.R_drewN | apply Kd.R_drew)); exact Kd.R_mono HO_171008.out (fun _ hk => ⟨hk.1.1.1.1, ⟨hk.1.1.1.2.1, ⟨hk.1.1.1.2.2, ⟨hk.1.2, hk.2⟩⟩⟩⟩)⟩, ⟨by (with_reducible repeat (first | apply Kd.R_alloc | apply Kd.R_drewN | apply Kd.R_drew)); exact Kd.R_mono HO_191000.out (fun _ hk => ⟨hk.1.1.1.1, ⟨hk.1.1.1.2.1, ⟨hk.1.1.1.2.2, ⟨hk.1.2, hk.2⟩⟩⟩⟩)⟩, ⟨ra_ HO_191002⟩, ⟨by (with_reducible repeat (first | apply Kd.R_alloc | apply Kd.R_drewN | apply Kd.R_drew)); exact Kd.R_mono HO_191008.out (fun _ hk => ⟨hk.1.1.1.1, ⟨hk.1.1.1.2.1, ⟨hk.1.1.1.2.2, ⟨hk.1.2, hk.2⟩⟩⟩⟩)⟩, ⟨by (with_reducible repeat (first | apply Kd.R_alloc | apply Kd.R_drewN | apply Kd.R_drew)); exact Kd.R_mono HO209.out (fun _ hk => ⟨hk.1.1.1.1.2, ⟨hk.1.1.1.2, ⟨hk.1.1.2, ⟨hk.1.2, hk.1.1.1.1.1⟩⟩⟩⟩)⟩, ⟨by (with_reducible repeat (first | apply Kd.R_alloc | apply Kd.R_drewN | apply Kd.R_drew)); exact Kd.R_mono HO213.out (fun _ hk => ⟨hk.1.2, hk.2⟩)⟩, ⟨by (with_reducible repeat (first | apply Kd.R_alloc | apply Kd.R_drewN | apply Kd.R_drew)); exact Kd.R_mono HO221.out (fun _ hk => ⟨hk.1.1.1.1.2, ⟨hk.1.1.1.2, ⟨hk.1.1.2, ⟨hk.1.2, hk.1.1.1.1.1⟩⟩⟩⟩)⟩, ⟨by (with_reducible repeat (first | refine blk_drewN ?_ _ | refine blk_drew ?_ | refine blk_alloc ?_ _)); exact BK170.out⟩, ⟨by (with_reducible repeat (first | refine blk_drewN ?_ _ | refine blk_drew ?_ | refine blk_alloc ?_ _)); exact BK190.out⟩, ⟨by (with_reducible repeat (first | refine blk_drewN ?_ _ | refine blk_drew ?_ | refine blk_alloc ?_ _)); exact BK223.out⟩, ⟨bl_⟩⟩
                      case rest =>
                        clear HC63
                        try clear c1
                        try clear c2
                        try clear p2
                        try clear c3
                        try clear c3b0
                        try clear c3b1
                        try clear c4
                        try clear c5
                        try clear c6
                        try clear c7
                        try clear c8
                        try clear c9
                        try clear c10
                        try clear c22
                        try clear c26
                        try clear c27
                        try clear c28
                        try clear c32
                        try clear c36
                        try clear c38
                        try clear c39
                        try clear c40
                        try clear c41
                        try clear c42
                        try clear c43
                        try clear c44
                        try clear c45
                        try clear c45b0
                        try clear c47
                        try clear c48
                        try clear c52
                        try clear c56
                        try clear c59
                        try clear c59b0
                        try clear c60
                        try clear c60b0
                        try clear c60b1
                        try clear c64
                        try clear c74
                        try clear c75
                        try clear c80
                        try clear c81
                        try clear c82
                        try clear c84
                        try clear c87
                        try clear c88
                        try clear c90
                        try clear hcz14_0
                        try clear hcz14_1
                        try clear hcz14_2
                        try clear hcz14_3
                        try clear hcz14_4
                        try clear hcz14_5
                        try clear hcz14_6
                        try clear hcz14_7
                        try clear hcz14_8
                        try clear hcz23_0
                        try clear hcz23_1
                        try clear hcz23_2
                        try clear hcz23_3
                        try clear hcz23_4
                        try clear hcz23_5
                        try clear hcz23_6
                        try clear hcz23_7
                        try clear hcz23_8
                        try clear hcz29_0
                        try clear hcz29_1
                        try clear hcz29_2
                        try clear hcz29_3
                        try clear hcz29_4
                        try clear hcz29_5
                        try clear hcz29_6
                        try clear hcz29_7
                        try clear hcz29_8
                        try clear hcz30_0
                        try clear hcz30_1
                        try clear hcz30_2
                        try clear hcz30_3
                        try clear hcz30_4
                        try clear hcz30_5
                        try clear hcz30_6
                        try clear hcz30_7
                        try clear hcz30_8
                        try clear hcz33_0
                        try clear hcz33_1
                        try clear hcz33_2
                        try clear hcz33_3
                        try clear hcz33_4
                        try clear hcz33_5
                        try clear hcz33_6
                        try clear hcz33_7
                        try clear hcz33_8
                        try clear hcz34_0
                        try clear hcz34_1
                        try clear hcz34_2
                        try clear hcz34_3
                        try clear hcz34_4
                        try clear hcz34_5
                        try clear hcz34_6
                        try clear hcz34_7
                        try clear hcz34_8
                        try clear hcz49_0
                        try clear hcz49_1
                        try clear hcz49_2
                        try clear hcz49_3
                        try clear hcz49_4
                        try clear hcz49_5
                        try clear hcz49_6
                        try clear hcz49_7
                        try clear hcz49_8
                        try clear hcz50_0
                        try clear hcz50_1
                        try clear hcz50_2
                        try clear hcz50_3
                        try clear hcz50_4
                        try clear hcz50_5
                        try clear hcz50_6
                        try clear hcz50_7
                        try clear hcz50_8
                        try clear hcz53_0
                        try clear hcz53_1
                        try clear hcz53_2
                        try clear hcz53_3
                        try clear hcz53_4
                        try clear hcz53_5
                        try clear hcz53_6
                        try clear hcz53_7
                        try clear hcz53_8
                        try clear hcz54_0
                        try clear hcz54_1
                        try clear hcz54_2
                        try clear hcz54_3
                        try clear hcz54_4
                        try clear hcz54_5
                        try clear hcz54_6
                        try clear hcz54_7
                        try clear hcz54_8
                        try clear hcz65_0
                        try clear hcz65_1
                        try clear hcz65_2
                        try clear hcz65_3
                        try clear hcz65_4
                        try clear hcz65_5
                        try clear hcz65_6
                        try clear hcz65_7
                        try clear hcz65_8
                        try clear hcz67_0
                        try clear hcz67_1
                        try clear hcz67_2
                        try clear hcz67_3
                        try clear hcz67_4
                        try clear hcz67_5
                        try clear hcz67_6
                        try clear hcz67_7
                        try clear hcz67_8
                        try clear hcz76_0
                        try clear hcz76_1
                        try clear hcz76_2
                        try clear hcz76_3
                        try clear hcz76_4
                        try clear hcz76_5
                        try clear hcz76_6
                        try clear hcz76_7
                        try clear hcz76_8
                        try clear hcz83_0
                        try clear hcz83_1
                        try clear hcz83_2
                        try clear hcz83_3
                        try clear hcz83_4
                        try clear hcz83_5
                        try clear hcz83_6
                        try clear hcz83_7
                        try clear hcz83_8
                        try clear hcz85_0
                        try clear hcz85_1
                        try clear hcz85_2
                        try clear hcz85_3
                        try clear hcz85_4
                        try clear hcz85_5
                        try clear hcz85_6
                        try clear hcz85_7
                        try clear hcz85_8
                        try clear hcz89_0
                        try clear hcz89_1
                        try clear hcz89_2
                        try clear hcz89_3
                        try clear hcz89_4
                        try clear hcz89_5
                        try clear hcz89_6
                        try clear hcz89_7
                        try clear hcz89_8
                        try clear hcz91_0
                        try clear hcz91_1
                        try clear hcz91_2
                        try clear hcz91_3
                        try clear hcz91_4
                        try clear hcz91_5
                        try clear hcz91_6
                        try clear hcz91_7
                        try clear hcz91_8
                        try clear hfz14_0
                        try clear hfz14_1
                        try clear hfz14_2
                        try clear hfz14_3
                        try clear hfz14_4
                        try clear hfz14_5
                        try clear hfz14_6
                        try clear hfz14_7
                        try clear hfz14_8
                        try clear hfz23_0
                        try clear hfz23_1
                        try clear hfz23_2
                        try clear hfz23_3
                        try clear hfz23_4
                        try clear hfz23_5
                        try clear hfz23_6
                        try clear hfz23_7
                        try clear hfz23_8
                        try clear hfz29_0
                        try clear hfz29_1
                        try clear hfz29_2
                        try clear hfz29_3
                        try clear hfz29_4
                        try clear hfz29_5
                        try clear hfz29_6
                        try clear hfz29_7
                        try clear hfz29_8
                        try clear hfz30_0
                        try clear hfz30_1
                        try clear hfz30_2
                        try clear hfz30_3
                        try clear hfz30_4
                        try clear hfz30_5
                        try clear hfz30_6
                        try clear hfz30_7
                        try clear hfz30_8
                        try clear hfz33_0
                        try clear hfz33_1
                        try clear hfz33_2
                        try clear hfz33_3
                        try clear hfz33_4
                        try clear hfz33_5
                        try clear hfz33_6
                        try clear hfz33_7
                        try clear hfz33_8
                        try clear hfz34_0
                        try clear hfz34_1
                        try clear hfz34_2
                        try clear hfz34_3
                        try clear hfz34_4
                        try clear hfz34_5
                        try clear hfz34_6
                        try clear hfz34_7
                        try clear hfz34_8
                        try clear hfz49_0
                        try clear hfz49_1
                        try clear hfz49_2
                        try clear hfz49_3
                        try clear hfz49_4
                        try clear hfz49_5
                        try clear hfz49_6
                        try clear hfz49_7
                        try clear hfz49_8
                        try clear hfz50_0
                        try clear hfz50_1
                        try clear hfz50_2
                        try clear hfz50_3
                        try clear hfz50_4
                        try clear hfz50_5
                        try clear hfz50_6
                        try clear hfz50_7
                        try clear hfz50_8
                        try clear hfz53_0
                        try clear hfz53_1
                        try clear hfz53_2
                        try clear hfz53_3
                        try clear hfz53_4
                        try clear hfz53_5
                        try clear hfz53_6
                        try clear hfz53_7
                        try clear hfz53_8
                        try clear hfz54_0
                        try clear hfz54_1
                        try clear hfz54_2
                        try clear hfz54_3
                        try clear hfz54_4
                        try clear hfz54_5
                        try clear hfz54_6
                        try clear hfz54_7
                        try clear hfz54_8
                        try clear hfz65_0
                        try clear hfz65_1
                        try clear hfz65_2
                        try clear hfz65_3
                        try clear hfz65_4
                        try clear hfz65_5
                        try clear hfz65_6
                        try clear hfz65_7
                        try clear hfz65_8
                        try clear hfz67_0
                        try clear hfz67_1
                        try clear hfz67_2
                        try clear hfz67_3
                        try clear hfz67_4
                        try clear hfz67_5
                        try clear hfz67_6
                        try clear hfz67_7
                        try clear hfz67_8
                        try clear hfz76_0
                        try clear hfz76_1
                        try clear hfz76_2
                        try clear hfz76_3
                        try clear hfz76_4
                        try clear hfz76_5
                        try clear hfz76_6
                        try clear hfz76_7
                        try clear hfz76_8
                        try clear hfz83_0
                        try clear hfz83_1
                        try clear hfz83_2
                        try clear hfz83_3
                        try clear hfz83_4
                        try clear hfz83_5
                        try clear hfz83_6
                        try clear hfz83_7
                        try clear hfz83_8
                        try clear hfz85_0
                        try clear hfz85_1
                        try clear hfz85_2
                        try clear hfz85_3
                        try clear hfz85_4
                        try clear hfz85_5
                        try clear hfz85_6
                        try clear hfz85_7
                        try clear hfz85_8
                        try clear hfz89_0
                        try clear hfz89_1
                        try clear hfz89_2
                        try clear hfz89_3
                        try clear hfz89_4
                        try clear hfz89_5
                        try clear hfz89_6
                        try clear hfz89_7
                        try clear hfz89_8
                        try clear hfz91_0
                        try clear hfz91_1
                        try clear hfz91_2
                        try clear hfz91_3
                        try clear hfz91_4
                        try clear hfz91_5
                        try clear hfz91_6
                        try clear hfz91_7
                        try clear hfz91_8
                        try clear p2
                        obtain ⟨kq, x89_62, rfl, HA, HJ62, HO_171000, HO_171002, HO_171008, HO_191000, HO_191002, HO_191008, HO_224000, HO_224002, HO_224008, BK170, BK190, BK223, HB⟩ := hcut
                        have hl191000_62 := (Kd.R_reads' HO_191000.out).1
                        rw [hl191000_62] at HO_191000
                        (try simp only [hl191000_62])
                        (try simp only [hl191000_62] at BK170)
                        (try simp only [hl191000_62] at BK190)
                        (try simp only [hl191000_62] at BK223)
                        (try simp only [hl191000_62] at HO_171000)
                        (try simp only [hl191000_62] at HO_171002)
                        (try simp only [hl191000_62] at HO_171008)
                        (try simp only [hl191000_62] at HO_191002)
                        (try simp only [hl191000_62] at HO_191008)
                        (try simp only [hl191000_62] at HO_224000)
                        (try simp only [hl191000_62] at HO_224002)
                        (try simp only [hl191000_62] at HO_224008)
                        have hl191002_62 := (Kd.R_reads' HO_191002.out).1
                        rw [hl191002_62] at HO_191002
                        (try simp only [hl191002_62])
                        (try simp only [hl191002_62] at BK170)
                        (try simp only [hl191002_62] at BK190)
                        (try simp only [hl191002_62] at BK223)
                        (try simp only [hl191002_62] at HO_171000)
                        (try simp only [hl191002_62] at HO_171002)
                        (try simp only [hl191002_62] at HO_171008)
                        (try simp only [hl191002_62] at HO_191000)
                        (try simp only [hl191002_62] at HO_191008)
                        (try simp only [hl191002_62] at HO_224000)
                        (try simp only [hl191002_62] at HO_224002)
                        (try simp only [hl191002_62] at HO_224008)
                        have hl191008_62 := (Kd.R_reads' HO_191008.out).1
                        rw [hl191008_62] at HO_191008
                        (try simp only [hl191008_62])
                        (try simp only [hl191008_62] at BK170)
                        (try simp only [hl191008_62] at BK190)
                        (try simp only [hl191008_62] at BK223)
                        (try simp only [hl191008_62] at HO_171000)
                        (try simp only [hl191008_62] at HO_171002)
                        (try simp only [hl191008_62] at HO_171008)
                        (try simp only [hl191008_62] at HO_191000)
                        (try simp only [hl191008_62] at HO_191002)
                        (try simp only [hl191008_62] at HO_224000)
                        (try simp only [hl191008_62] at HO_224002)
                        (try simp only [hl191008_62] at HO_224008)
                        cases kq with
                        | zero => exact absurd HA.out (by simp [laws_FnExactTaskNew.j2])
                        | succ kj62 =>
                          have H := HA.out
                          clear HA
                          simp only [laws_FnExactTaskNew.j2] at H
                          by_cases c93 : x89_62 = true
                          · subst c93
                            have H1 : (some false) = some true := by rw [if_pos rfl] at H; exact H
                            clear H
                            have H := H1
                            clear H1
                            exact absurd H (by simp)
                          · replace c93 := Bool.eq_false_iff.mpr c93
                            subst c93
                            have H1 : ((laws_heldTask.f kj62 t200 t177 t201 t181 t182 t183 t184 t185 t202 1).bind fun t225 => (if t225 < 0 then (some false) else (if t225 = t199 then (some true) else (some false)))) = some true := by rw [if_neg (show ¬ (false = true) by decide)] at H; exact H
                            clear H
                            have H := H1
                            clear H1
                            replace H := Option.bind_eq_some_iff.mp H
                            obtain ⟨t225, A940, H⟩ := H
                            replace H : (if t225 < 0 then (some false) else (if t225 = t199 then (some true) else (some false))) = some true := H
                            have A94 := Aside0.mk A940
                            clear A940
                            by_cases c95 : t225 < 0
                            · rw [if_pos c95] at H
                              have c95b0 : decide (t225 < 0) = true := decide_eq_true c95
                              clear c95
                              exact absurd H (by simp)
                            · rw [if_neg c95] at H
                              have c95b0 : decide (t225 < 0) = false := decide_eq_false c95
                              clear c95
                              by_cases c96 : t225 = t199
                              · rw [if_pos c96] at H
                                have c96b0 : (t225 == t199) = true := beq_iff_eq.mpr c96
                                have c96b1 : (t225 != t199) = false := bne_eq_false_iff_eq.mpr c96
                                clear c96
                                clear H
                                have hnb97 := NB190_170.out
                                have hnc97 := NB170_190.out
                                have hnb98 := NB190_223.out
                                have hnc98 := NB223_190.out
                                have hcz99_0 : wc.cell? ⟨gb190, 0, none⟩ = some (.slice Ao21 t200.length co21) := (blk_cell BK190.out 0).trans rfl
                                have hcz99_1 : wc.cell? ⟨gb190, 1, none⟩ = some (.int .i64 t177) := (blk_cell BK190.out 1).trans rfl
                                have hcz99_2 : wc.cell? ⟨gb190, 2, none⟩ = some (.slice Ao24 t201.length co24) := (blk_cell BK190.out 2).trans rfl
                                have hcz99_3 : wc.cell? ⟨gb190, 3, none⟩ = some (.int .i64 t181) := (blk_cell BK190.out 3).trans rfl
                                have hcz99_4 : wc.cell? ⟨gb190, 4, none⟩ = some (.int .i64 t182) := (blk_cell BK190.out 4).trans rfl
                                have hcz99_5 : wc.cell? ⟨gb190, 5, none⟩ = some (.int .i64 t183) := (blk_cell BK190.out 5).trans rfl
                                have hcz99_6 : wc.cell? ⟨gb190, 6, none⟩ = some (.int .i64 t184) := (blk_cell BK190.out 6).trans rfl
                                have hcz99_7 : wc.cell? ⟨gb190, 7, none⟩ = some (.int .i64 t185) := (blk_cell BK190.out 7).trans rfl
                                have hcz99_8 : wc.cell? ⟨gb190, 8, none⟩ = some (.slice Ao25 t202.length co25) := (blk_cell BK190.out 8).trans rfl
                                have hfz99_0 := blk_frozen BK190.out 0
                                have hfz99_1 := blk_frozen BK190.out 1
                                have hfz99_2 := blk_frozen BK190.out 2
                                have hfz99_3 := blk_frozen BK190.out 3
                                have hfz99_4 := blk_frozen BK190.out 4
                                have hfz99_5 := blk_frozen BK190.out 5
                                have hfz99_6 := blk_frozen BK190.out 6
                                have hfz99_7 := blk_frozen BK190.out 7
                                have hfz99_8 := blk_frozen BK190.out 8
                                go_wp2_with (first | ((with_reducible refine gate_callee (f := 44) rfl ?_); refine goesL_ (some 92) rfl rfl Try.func44 (by kernel_rfl) rfl #[.agg #[.slice Ao21 t200.length co21, .int .i64 t177, .slice Ao24 t201.length co24, .int .i64 t181, .int .i64 t182, .int .i64 t183, .int .i64 t184, .int .i64 t185, .slice Ao25 t202.length co25], .int .i64 1] rfl gl_ ?_; (with_reducible refine (laws_heldTask.calls kj62 _ _ t200 t177 _ _ t201 t181 t182 t183 t184 t185 _ _ t202 1 t225 _ ?side1 ?side2 ?side3 ?side4 ?side5 ?side6 A94.out).mono ?_); (case side1 => exact ca_ ((Kd.R_reads' HO_191000.out).2.2)); (case side2 => exact (Kd.R_reads' HO_191000.out).2.1); (case side3 => exact ca_ ((Kd.R_reads' HO_191002.out).2.2)); (case side4 => exact (Kd.R_reads' HO_191002.out).2.1); (case side5 => exact ca_ ((Kd.R_reads' HO_191008.out).2.2)); (case side6 => exact (Kd.R_reads' HO_191008.out).2.1); rintro e w100 ⟨rfl, hb⟩; refine ⟨_, rfl, ?_⟩; have n0_ := Aside0.mk (Kd.R_below (ra_ HO_171000) hb); have n1_ := Aside0.mk (Kd.R_below (ra_ HO_171002) hb); have n2_ := Aside0.mk (Kd.R_below (ra_ HO_171008) hb); have n3_ := Aside0.mk (Kd.R_below (ra_ HO_191000) hb); have n4_ := Aside0.mk (Kd.R_below (ra_ HO_191002) hb); have n5_ := Aside0.mk (Kd.R_below (ra_ HO_191008) hb); have n6_ := Aside0.mk (Kd.R_below (ra_ HO_224000) hb); have n7_ := Aside0.mk (Kd.R_below (ra_ HO_224002) hb); have n8_ := Aside0.mk (Kd.R_below (ra_ HO_224008) hb); have n9_ := Aside0.mk (blk_below (bk_ BK170) hb); have n10_ := Aside0.mk (blk_below (bk_ BK190) hb); have n11_ := Aside0.mk (blk_below (bk_ BK223) hb); have n12_ := Aside0.mk (below_step bl_ hb); clear HO_171000; clear HO_171002; clear HO_171008; clear HO_191000; clear HO_191002; clear HO_191008; clear HO_224000; clear HO_224002; clear HO_224008; clear BK170; clear BK190; clear BK223; clear HB; have HO_171000 := n0_; have HO_171002 := n1_; have HO_171008 := n2_; have HO_191000 := n3_; have HO_191002 := n4_; have HO_191008 := n5_; have HO_224000 := n6_; have HO_224002 := n7_; have HO_224008 := n8_; have BK170 := n9_; have BK190 := n10_; have BK223 := n11_; have HB := n12_; clear n0_ n1_ n2_ n3_ n4_ n5_ n6_ n7_ n8_ n9_ n10_ n11_ n12_; (try clear hb); (try clear hb2); (try clear hk); (try clear hi)))
                                go_ret
                                exact ⟨by first | rfl | (simp [errW_none, errW_some] <;> rfl) | (simp [*, errW_none, errW_some] <;> rfl), bl_⟩
                              · rw [if_neg c96] at H
                                have c96b0 : (t225 == t199) = false := beq_eq_false_iff_ne.mpr c96
                                have c96b1 : (t225 != t199) = true := bne_iff_ne.mpr c96
                                exact absurd H (by simp)
                    · rw [if_neg c60] at H
                      have c60b0 : (t203 == t199) = false := beq_eq_false_iff_ne.mpr c60
                      have c60b1 : (t203 != t199) = true := bne_iff_ne.mpr c60
                      exact absurd H (by simp)
          · replace c39 := Bool.eq_false_iff.mpr c39
            subst c39
            have H1 : (some false) = some true := by rw [if_neg (show ¬ (false = true) by decide)] at H; exact H
            clear H
            have H := H1
            clear H1
            exact absurd H (by simp)

/-- THE ONE PURE STATEMENT of laws_FnExactTaskNew. -/
def laws_FnExactTaskNew.Pure : Prop := ∀ (l0 : List Int) (a1 : Int), (l0.length ≤ maxLen ∧ ∀ y0 ∈ l0, (Lit.int .u8 y0).wf = true) → ((Lit.int .i64 a1).wf = true) → ∃ k, laws_FnExactTaskNew.f k l0 a1 = some true

end Go.Proofs.Ytninpllnlhlclaa.QFnExactTaskNew
