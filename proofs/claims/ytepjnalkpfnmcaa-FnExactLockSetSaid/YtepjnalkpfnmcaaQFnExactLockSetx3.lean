-- by my own printer (myprint.py, over the kit's print.py)
import Derived.Test.YtepjnalkpfnmcaaQFnExactLockSetx0
import Derived.Test.YtepjnalkpfnmcaaQFnExactLockSetx1
import Derived.Test.YtepjnalkpfnmcaaQFnExactLockSetx2
namespace Go.Proofs.Ytepjnalkpfnmcaa.QFnExactLockSet
open Go.RowKit Go.Proofs.YtepjnalkpfnmcaaW.PrintWords Go.Proofs.YtepjnalkpfnmcaaW.PrintLast Go.Proofs.YtepjnalkpfnmcaaW.PrintMore
attribute [local go_sem] max2_int min2_int max_two min_two max_three min_three max_four min_four   -- for this text's walks alone
set_option linter.unusedVariables false
set_option linter.unusedSimpArgs false

attribute [local go_sem] my_geq my_leq my_gtr
/-! ### laws_heldIntS: function 74 -/
def laws_heldIntS.l0 : Nat → List Int → Int → Int → Option (Int)
 | 0, _, _, _ => none
 | k + 1, x0, x1, x5 => if x5 < (x0.length : Int) then (if 0 ≤ x5 then (if (rd x0 x5) = x1 then (laws_heldIntS.l0 k x0 (wrap64 (x1 + 1)) (wrap64 (x5 + 1))) else (some (-1))) else (none)) else (some x1)
def laws_heldIntS.f (k : Nat) (l0 : List Int) (a1 : Int) : Option (Int) := laws_heldIntS.l0 k l0 a1 0
theorem laws_heldIntS.mono_l : ∀ k, (∀ y0 y1 y2, LeO (laws_heldIntS.l0 k y0 y1 y2) (laws_heldIntS.l0 (k + 1) y0 y1 y2))
 | 0 => fun _ _ _ r h => by simp [laws_heldIntS.l0] at h
 | k + 1 => by
  have ih0 := laws_heldIntS.mono_l k
  ·intro y0 y1 y2
   unfold laws_heldIntS.l0
   repeat' first
   | (with_reducible exact ih0 _ _ _)
   | (with_reducible exact LeO.refl _)
   | (with_reducible exact LeO.none _)
   | (with_reducible refine LeO.ite ?_ ?_)
   | (with_reducible refine LeO.bind ?_ (fun _ => ?_))
   | exact ih0 _ _ _
   | exact LeO.none _
   | refine LeO.ite ?_ ?_
   | refine LeO.bind ?_ (fun _ => ?_)
theorem laws_heldIntS.mono : ∀ a0 a1 k, LeO (laws_heldIntS.f k a0 a1) (laws_heldIntS.f (k + 1) a0 a1) := by
 intro a0 a1 k
 have ih0 := laws_heldIntS.mono_l k
 unfold laws_heldIntS.f
 repeat' first
   | (with_reducible exact ih0 _ _ _)
   | (with_reducible exact LeO.refl _)
   | (with_reducible exact LeO.none _)
   | (with_reducible refine LeO.ite ?_ ?_)
   | (with_reducible refine LeO.bind ?_ (fun _ => ?_))
   | exact ih0 _ _ _
   | exact LeO.none _
   | refine LeO.ite ?_ ?_
   | refine LeO.bind ?_ (fun _ => ?_)
set_option maxHeartbeats 8000000 in
set_option maxRecDepth 100000 in
theorem laws_heldIntS.calls (k : Nat) (A0 : Option Addr) (c0 : Nat) (l0 : List Int) (a1 : Int) (r : Int) (w : World) (hr0 : Kd.C (Kd.int .i64) w A0 l0.length l0) (hc0 : l0.length ≤ c0) (h : laws_heldIntS.f k l0 a1 = some r) :
  Calls Try.prog 74 #[.slice A0 l0.length c0, .int .i64 a1] w fun e w' => e = .returned (.int .i64 r) ∧ Drawn0 w w' := by
 have HR0 := Aside0.mk hr0
 have HC0 := Aside0.mk hc0
 clear hr0 hc0
 have H : (laws_heldIntS.l0 k l0 a1 0) = some r := h
 clear h
 have H' := Aside0.mk H
 clear H
 go_enter Try.func74, Try.ntmps74
 go_wp2
 go_loopg [1, 5] k (fun kq v1 v5 w' => ∃ (x1_1 : Int) (x5_1 : Int), v1 = .int .i64 x1_1 ∧ v5 = .int .i64 x5_1 ∧ Aside0 (laws_heldIntS.l0 kq l0 x1_1 x5_1 = some r) ∧ Aside0 (kq ≤ k) ∧ Drawn0 w w')
 case atStart => exact ⟨(a1), (0), sp_, sp_, H', ⟨Nat.le_refl _⟩, by repeat (first | exact Drawn0.refl _ | apply Drawn0.step)⟩
 case round =>
  clear H'
  try clear p2
  obtain ⟨x1_1, x5_1, rfl, rfl, HA, HK1, ⟨m1, rfl⟩⟩ := hrel
  cases gk with
  | zero => exact absurd HA.out (by simp [laws_heldIntS.l0])
  | succ k1 =>
   have H := HA.out
   clear HA
   simp only [laws_heldIntS.l0] at H
   by_cases c3 : x5_1 < (l0.length : Int)
   ·rw [if_pos c3] at H
    have c3b0 : decide (x5_1 < (l0.length : Int)) = true := decide_eq_true c3
    clear c3
    by_cases c4 : 0 ≤ x5_1
    ·rw [if_pos c4] at H
     have c4b0 : decide (0 ≤ x5_1) = true := decide_eq_true c4
     clear c4
     by_cases c5 : (rd l0 x5_1) = x1_1
     ·rw [if_pos c5] at H
      have c5b0 : ((rd l0 x5_1) == x1_1) = true := beq_iff_eq.mpr c5
      have c5b1 : ((rd l0 x5_1) != x1_1) = false := bne_eq_false_iff_eq.mpr c5
      clear c5
      have H' := Aside0.mk H
      clear H
      have p178 : 0 ≤ (x5_1 : Int) := od_
      have q178 : x5_1 < (l0.length : Int) := od_
      obtain ⟨ad178, e178, hx178_0⟩ := Kd.at_int HR0.out x5_1 p178 q178
      cases e178
      replace p178 := eq_true p178
      replace q178 := eq_true q178
      go_wp2
      go_roundg k1
      case measure => have := HK1.out; omega
      case rel => exact ⟨(wrap64 (x1_1 + 1)), (wrap64 (x5_1 + 1)), sp_, sp_, H', ⟨by have := HK1.out; omega⟩, by repeat (first | exact Drawn0.refl _ | apply Drawn0.step)⟩
     ·rw [if_neg c5] at H
      have c5b0 : ((rd l0 x5_1) == x1_1) = false := beq_eq_false_iff_ne.mpr c5
      have c5b1 : ((rd l0 x5_1) != x1_1) = true := bne_iff_ne.mpr c5
      obtain rfl := Option.some.inj H
      have p178 : 0 ≤ (x5_1 : Int) := od_
      have q178 : x5_1 < (l0.length : Int) := od_
      obtain ⟨ad178, e178, hx178_0⟩ := Kd.at_int HR0.out x5_1 p178 q178
      cases e178
      replace p178 := eq_true p178
      replace q178 := eq_true q178
      go_wp2
      go_ret
      exact ⟨sp_, by repeat (first | exact Drawn0.refl _ | apply Drawn0.step)⟩
    ·rw [if_neg c4] at H
     exact absurd H (by simp)
   ·rw [if_neg c3] at H
    have c3b0 : decide (x5_1 < (l0.length : Int)) = false := decide_eq_false c3
    clear c3
    obtain rfl := Option.some.inj H
    go_wp2
    go_ret
    exact ⟨sp_, by repeat (first | exact Drawn0.refl _ | apply Drawn0.step)⟩

/-! ### laws_FnExactLockSet: function 13 -/
def laws_FnExactLockSet.j0 : Nat → List ByteArray → Int → List Int → List Int → Bool → Option (Bool)
 | 0, _, _, _, _, _ => none
 | k + 1, x0, x1, x6, x8, x46 => if x46 = true then (some false) else ((laws_markIntS.f k x8 1).bind fun bt200 => ((laws_heldIntS.f k bt200.2 1).bind fun t202 => (if t202 < 0 then (some false) else (if t202 = bt200.1 then ((laws_toStringS.f k x0).bind fun t203 => ((impl_LockSet.f k t203 x1).bind fun t206 => ((laws_eqIntS.f k t206 x6).bind fun t209 => (if t209 = true then ((laws_heldIntS.f k bt200.2 1).bind fun t210 => (if t210 < 0 then (some false) else (if t210 = bt200.1 then (some true) else (some false)))) else (some false))))) else (some false)))))
def laws_FnExactLockSet.f (k : Nat) (l0 : List ByteArray) (a1 : Int) : Option (Bool) := (laws_szStringS.f k l0 1048576).bind fun t179 => (if t179 < 0 then (some true) else ((laws_toStringS.f k l0).bind fun t180 => ((spec_LockSet.f k t180 a1).bind fun t183 => ((laws_toStringS.f k l0).bind fun t186 => ((impl_LockSet.f k t186 a1).bind fun t189 => ((laws_eqIntS.f k t189 t183).bind fun t192 => (if t192 = true then ((laws_toStringS.f k l0).bind fun t193 => ((laws_eqStringS.f k t186 t193).bind fun t196 => (if t196 = true then ((laws_markStringS.f k t186 1).bind fun bt197 => (if bt197.1 < 0 then (laws_FnExactLockSet.j0 k l0 a1 t183 t189 true) else ((laws_eqIntS.f k t189 t183).bind fun t199 => (laws_FnExactLockSet.j0 k l0 a1 t183 t189 (!t199))))) else (some false)))) else (some false))))))))
theorem laws_FnExactLockSet.mono_l : ∀ k, (∀ y0 y1 y2 y3 y4, LeO (laws_FnExactLockSet.j0 k y0 y1 y2 y3 y4) (laws_FnExactLockSet.j0 (k + 1) y0 y1 y2 y3 y4))
 | 0 => fun _ _ _ _ _ r h => by simp [laws_FnExactLockSet.j0] at h
 | k + 1 => by
  have ih0 := laws_FnExactLockSet.mono_l k
  ·intro y0 y1 y2 y3 y4
   unfold laws_FnExactLockSet.j0
   repeat' first
   | (with_reducible exact ih0 _ _ _ _ _)
   | (with_reducible exact impl_LockSet.mono _ _ _)
   | (with_reducible exact laws_eqIntS.mono _ _ _)
   | (with_reducible exact laws_eqStringS.mono _ _ _)
   | (with_reducible exact laws_heldIntS.mono _ _ _)
   | (with_reducible exact laws_markIntS.mono _ _ _)
   | (with_reducible exact laws_markStringS.mono _ _ _)
   | (with_reducible exact laws_szStringS.mono _ _ _)
   | (with_reducible exact laws_toStringS.mono _ _)
   | (with_reducible exact spec_LockSet.mono _ _ _)
   | (with_reducible exact LeO.refl _)
   | (with_reducible exact LeO.none _)
   | (with_reducible refine LeO.ite ?_ ?_)
   | (with_reducible refine LeO.bind ?_ (fun _ => ?_))
   | exact ih0 _ _ _ _ _
   | exact impl_LockSet.mono _ _ _
   | exact laws_eqIntS.mono _ _ _
   | exact laws_eqStringS.mono _ _ _
   | exact laws_heldIntS.mono _ _ _
   | exact laws_markIntS.mono _ _ _
   | exact laws_markStringS.mono _ _ _
   | exact laws_szStringS.mono _ _ _
   | exact laws_toStringS.mono _ _
   | exact spec_LockSet.mono _ _ _
   | exact LeO.none _
   | refine LeO.ite ?_ ?_
   | refine LeO.bind ?_ (fun _ => ?_)
theorem laws_FnExactLockSet.mono : ∀ a0 a1 k, LeO (laws_FnExactLockSet.f k a0 a1) (laws_FnExactLockSet.f (k + 1) a0 a1) := by
 intro a0 a1 k
 have ih0 := laws_FnExactLockSet.mono_l k
 unfold laws_FnExactLockSet.f
 repeat' first
   | (with_reducible exact ih0 _ _ _ _ _)
   | (with_reducible exact impl_LockSet.mono _ _ _)
   | (with_reducible exact laws_eqIntS.mono _ _ _)
   | (with_reducible exact laws_eqStringS.mono _ _ _)
   | (with_reducible exact laws_heldIntS.mono _ _ _)
   | (with_reducible exact laws_markIntS.mono _ _ _)
   | (with_reducible exact laws_markStringS.mono _ _ _)
   | (with_reducible exact laws_szStringS.mono _ _ _)
   | (with_reducible exact laws_toStringS.mono _ _)
   | (with_reducible exact spec_LockSet.mono _ _ _)
   | (with_reducible exact LeO.refl _)
   | (with_reducible exact LeO.none _)
   | (with_reducible refine LeO.ite ?_ ?_)
   | (with_reducible refine LeO.bind ?_ (fun _ => ?_))
   | exact ih0 _ _ _ _ _
   | exact impl_LockSet.mono _ _ _
   | exact laws_eqIntS.mono _ _ _
   | exact laws_eqStringS.mono _ _ _
   | exact laws_heldIntS.mono _ _ _
   | exact laws_markIntS.mono _ _ _
   | exact laws_markStringS.mono _ _ _
   | exact laws_szStringS.mono _ _ _
   | exact laws_toStringS.mono _ _
   | exact spec_LockSet.mono _ _ _
   | exact LeO.none _
   | refine LeO.ite ?_ ?_
   | refine LeO.bind ?_ (fun _ => ?_)
set_option maxHeartbeats 8000000 in
set_option maxRecDepth 100000 in
theorem laws_FnExactLockSet.calls (k : Nat) (A0 : Option Addr) (c0 : Nat) (l0 : List ByteArray) (a1 : Int) (r : Bool) (w : World) (hr0 : Kd.C Kd.string w A0 l0.length l0) (hc0 : l0.length ≤ c0) (h : laws_FnExactLockSet.f k l0 a1 = some true) :
  Calls Try.prog 13 #[.slice A0 l0.length c0, .int .i64 a1] w fun e w' => e = .returned (.bool true) ∧ Below w.heap.size w w' := by
 have HR0 := Aside0.mk hr0
 have HC0 := Aside0.mk hc0
 clear hr0 hc0
 have HB := Aside0.mk (Below.refl w.heap.size w)
 have H : ((laws_szStringS.f k l0 1048576).bind fun t179 => (if t179 < 0 then (some true) else ((laws_toStringS.f k l0).bind fun t180 => ((spec_LockSet.f k t180 a1).bind fun t183 => ((laws_toStringS.f k l0).bind fun t186 => ((impl_LockSet.f k t186 a1).bind fun t189 => ((laws_eqIntS.f k t189 t183).bind fun t192 => (if t192 = true then ((laws_toStringS.f k l0).bind fun t193 => ((laws_eqStringS.f k t186 t193).bind fun t196 => (if t196 = true then ((laws_markStringS.f k t186 1).bind fun bt197 => (if bt197.1 < 0 then (laws_FnExactLockSet.j0 k l0 a1 t183 t189 true) else ((laws_eqIntS.f k t189 t183).bind fun t199 => (laws_FnExactLockSet.j0 k l0 a1 t183 t189 (!t199))))) else (some false)))) else (some false))))))))) = some true := h
 clear h
 replace H := Option.bind_eq_some_iff.mp H
 obtain ⟨t179, A30, H⟩ := H
 replace H : (if t179 < 0 then (some true) else ((laws_toStringS.f k l0).bind fun t180 => ((spec_LockSet.f k t180 a1).bind fun t183 => ((laws_toStringS.f k l0).bind fun t186 => ((impl_LockSet.f k t186 a1).bind fun t189 => ((laws_eqIntS.f k t189 t183).bind fun t192 => (if t192 = true then ((laws_toStringS.f k l0).bind fun t193 => ((laws_eqStringS.f k t186 t193).bind fun t196 => (if t196 = true then ((laws_markStringS.f k t186 1).bind fun bt197 => (if bt197.1 < 0 then (laws_FnExactLockSet.j0 k l0 a1 t183 t189 true) else ((laws_eqIntS.f k t189 t183).bind fun t199 => (laws_FnExactLockSet.j0 k l0 a1 t183 t189 (!t199))))) else (some false)))) else (some false)))))))) = some true := H
 have A3 := Aside0.mk A30
 clear A30
 by_cases c4 : t179 < 0
 ·rw [if_pos c4] at H
  have c4b0 : decide (t179 < 0) = true := decide_eq_true c4
  clear c4
  clear H
  go_enter Try.func13, Try.ntmps13
  go_wp2_with (first | ((with_reducible refine gate_callee (f := 66) rfl ?_); refine goesL_ (some 15) rfl rfl Try.func66 (by kernel_rfl) rfl #[.slice A0 l0.length c0, .int .i64 1048576] rfl gl_ ?_; (with_reducible refine (laws_szStringS.calls k _ _ l0 1048576 t179 _ ?side1 ?side2 A3.out).mono ?_); (case side1 => exact ca_ (HR0.out)); (case side2 => exact HC0.out); rintro e w' ⟨rfl, ⟨nd, rfl⟩⟩; refine ⟨_, rfl, ?_⟩))
  go_ret
  exact ⟨sq_, bl_⟩
 ·rw [if_neg c4] at H
  have c4b0 : decide (t179 < 0) = false := decide_eq_false c4
  clear c4
  replace H := Option.bind_eq_some_iff.mp H
  obtain ⟨t180, A50, H⟩ := H
  replace H : ((spec_LockSet.f k t180 a1).bind fun t183 => ((laws_toStringS.f k l0).bind fun t186 => ((impl_LockSet.f k t186 a1).bind fun t189 => ((laws_eqIntS.f k t189 t183).bind fun t192 => (if t192 = true then ((laws_toStringS.f k l0).bind fun t193 => ((laws_eqStringS.f k t186 t193).bind fun t196 => (if t196 = true then ((laws_markStringS.f k t186 1).bind fun bt197 => (if bt197.1 < 0 then (laws_FnExactLockSet.j0 k l0 a1 t183 t189 true) else ((laws_eqIntS.f k t189 t183).bind fun t199 => (laws_FnExactLockSet.j0 k l0 a1 t183 t189 (!t199))))) else (some false)))) else (some false)))))) = some true := H
  have A5 := Aside0.mk A50
  clear A50
  replace H := Option.bind_eq_some_iff.mp H
  obtain ⟨t183, A60, H⟩ := H
  replace H : ((laws_toStringS.f k l0).bind fun t186 => ((impl_LockSet.f k t186 a1).bind fun t189 => ((laws_eqIntS.f k t189 t183).bind fun t192 => (if t192 = true then ((laws_toStringS.f k l0).bind fun t193 => ((laws_eqStringS.f k t186 t193).bind fun t196 => (if t196 = true then ((laws_markStringS.f k t186 1).bind fun bt197 => (if bt197.1 < 0 then (laws_FnExactLockSet.j0 k l0 a1 t183 t189 true) else ((laws_eqIntS.f k t189 t183).bind fun t199 => (laws_FnExactLockSet.j0 k l0 a1 t183 t189 (!t199))))) else (some false)))) else (some false))))) = some true := H
  have A6 := Aside0.mk A60
  clear A60
  replace H := Option.bind_eq_some_iff.mp H
  obtain ⟨t186, A70, H⟩ := H
  replace H : ((impl_LockSet.f k t186 a1).bind fun t189 => ((laws_eqIntS.f k t189 t183).bind fun t192 => (if t192 = true then ((laws_toStringS.f k l0).bind fun t193 => ((laws_eqStringS.f k t186 t193).bind fun t196 => (if t196 = true then ((laws_markStringS.f k t186 1).bind fun bt197 => (if bt197.1 < 0 then (laws_FnExactLockSet.j0 k l0 a1 t183 t189 true) else ((laws_eqIntS.f k t189 t183).bind fun t199 => (laws_FnExactLockSet.j0 k l0 a1 t183 t189 (!t199))))) else (some false)))) else (some false)))) = some true := H
  have A7 := Aside0.mk A70
  clear A70
  replace H := Option.bind_eq_some_iff.mp H
  obtain ⟨t189, A80, H⟩ := H
  replace H : ((laws_eqIntS.f k t189 t183).bind fun t192 => (if t192 = true then ((laws_toStringS.f k l0).bind fun t193 => ((laws_eqStringS.f k t186 t193).bind fun t196 => (if t196 = true then ((laws_markStringS.f k t186 1).bind fun bt197 => (if bt197.1 < 0 then (laws_FnExactLockSet.j0 k l0 a1 t183 t189 true) else ((laws_eqIntS.f k t189 t183).bind fun t199 => (laws_FnExactLockSet.j0 k l0 a1 t183 t189 (!t199))))) else (some false)))) else (some false))) = some true := H
  have A8 := Aside0.mk A80
  clear A80
  replace H := Option.bind_eq_some_iff.mp H
  obtain ⟨t192, A90, H⟩ := H
  replace H : (if t192 = true then ((laws_toStringS.f k l0).bind fun t193 => ((laws_eqStringS.f k t186 t193).bind fun t196 => (if t196 = true then ((laws_markStringS.f k t186 1).bind fun bt197 => (if bt197.1 < 0 then (laws_FnExactLockSet.j0 k l0 a1 t183 t189 true) else ((laws_eqIntS.f k t189 t183).bind fun t199 => (laws_FnExactLockSet.j0 k l0 a1 t183 t189 (!t199))))) else (some false)))) else (some false)) = some true := H
  have A9 := Aside0.mk A90
  clear A90
  by_cases c10 : t192 = true
  ·subst c10
   have H1 : ((laws_toStringS.f k l0).bind fun t193 => ((laws_eqStringS.f k t186 t193).bind fun t196 => (if t196 = true then ((laws_markStringS.f k t186 1).bind fun bt197 => (if bt197.1 < 0 then (laws_FnExactLockSet.j0 k l0 a1 t183 t189 true) else ((laws_eqIntS.f k t189 t183).bind fun t199 => (laws_FnExactLockSet.j0 k l0 a1 t183 t189 (!t199))))) else (some false)))) = some true := by rw [if_pos rfl] at H; exact H
   clear H
   have H := H1
   clear H1
   replace H := Option.bind_eq_some_iff.mp H
   obtain ⟨t193, A110, H⟩ := H
   replace H : ((laws_eqStringS.f k t186 t193).bind fun t196 => (if t196 = true then ((laws_markStringS.f k t186 1).bind fun bt197 => (if bt197.1 < 0 then (laws_FnExactLockSet.j0 k l0 a1 t183 t189 true) else ((laws_eqIntS.f k t189 t183).bind fun t199 => (laws_FnExactLockSet.j0 k l0 a1 t183 t189 (!t199))))) else (some false))) = some true := H
   have A11 := Aside0.mk A110
   clear A110
   replace H := Option.bind_eq_some_iff.mp H
   obtain ⟨t196, A120, H⟩ := H
   replace H : (if t196 = true then ((laws_markStringS.f k t186 1).bind fun bt197 => (if bt197.1 < 0 then (laws_FnExactLockSet.j0 k l0 a1 t183 t189 true) else ((laws_eqIntS.f k t189 t183).bind fun t199 => (laws_FnExactLockSet.j0 k l0 a1 t183 t189 (!t199))))) else (some false)) = some true := H
   have A12 := Aside0.mk A120
   clear A120
   by_cases c13 : t196 = true
   ·subst c13
    have H1 : ((laws_markStringS.f k t186 1).bind fun bt197 => (if bt197.1 < 0 then (laws_FnExactLockSet.j0 k l0 a1 t183 t189 true) else ((laws_eqIntS.f k t189 t183).bind fun t199 => (laws_FnExactLockSet.j0 k l0 a1 t183 t189 (!t199))))) = some true := by rw [if_pos rfl] at H; exact H
    clear H
    have H := H1
    clear H1
    replace H := Option.bind_eq_some_iff.mp H
    obtain ⟨⟨t197, t198⟩, A140, H⟩ := H
    replace H : (if t197 < 0 then (laws_FnExactLockSet.j0 k l0 a1 t183 t189 true) else ((laws_eqIntS.f k t189 t183).bind fun t199 => (laws_FnExactLockSet.j0 k l0 a1 t183 t189 (!t199)))) = some true := H
    have A14 := Aside0.mk A140
    clear A140
    have HC15 := Aside0.mk H
    clear H
    go_enter Try.func13, Try.ntmps13
    go_upto_region 14 with (first | ((with_reducible refine gate_callee (f := 66) rfl ?_); refine goesL_ (some 15) rfl rfl Try.func66 (by kernel_rfl) rfl #[.slice A0 l0.length c0, .int .i64 1048576] rfl gl_ ?_; (with_reducible refine (laws_szStringS.calls k _ _ l0 1048576 t179 _ ?side1 ?side2 A3.out).mono ?_); (case side1 => exact ca_ (HR0.out)); (case side2 => exact HC0.out); rintro e w' ⟨rfl, ⟨nd, rfl⟩⟩; refine ⟨_, rfl, ?_⟩) | ((with_reducible refine gate_callee (f := 68) rfl ?_); refine goesL_ (some 19) rfl rfl Try.func68 (by kernel_rfl) rfl #[.slice A0 l0.length c0] rfl gl_ ?_; (with_reducible refine (laws_toStringS.calls k _ _ l0 t180 _ ?side1 ?side2 A5.out).mono ?_); (case side1 => exact ca_ (HR0.out)); (case side2 => exact HC0.out); rintro e w16 ⟨v181, rfl, ho0, hb⟩; refine ⟨_, rfl, ?_⟩; have n0_ := Aside0.mk (Kd.R_lower ho0 (below_size bl_)); have n1_ := Aside0.mk (below_step bl_ hb); clear HB; have HO182 := n0_; have HB := n1_; clear n0_ n1_; (try clear hb); (try clear hb2); (try clear hk); (try clear hi); (try clear ho0); obtain ⟨Ao17, co17, eo17⟩ := Kd.R_slice HO182.out; subst eo17) | ((with_reducible refine gate_callee (f := 67) rfl ?_); refine goesL_ (some 21) rfl rfl Try.func67 (by kernel_rfl) rfl #[.slice Ao17 t180.length co17, .int .i64 a1] rfl gl_ ?_; (with_reducible refine (spec_LockSet.calls k _ _ t180 a1 t183 _ ?side1 ?side2 A6.out).mono ?_); (case side1 => exact ca_ ((Kd.R_reads' HO182.out).2.2)); (case side2 => exact (Kd.R_reads' HO182.out).2.1); rintro e w18 ⟨v184, rfl, ho0, hb⟩; refine ⟨_, rfl, ?_⟩; have n0_ := Aside0.mk (Kd.R_below (ra_ HO182) hb); have n1_ := Aside0.mk (Kd.R_lower ho0 (below_size bl_)); have n2_ := Aside0.mk (below_step bl_ hb); clear HO182; clear HB; have HO182 := n0_; have HO185 := n1_; have HB := n2_; clear n0_ n1_ n2_; (try clear hb); (try clear hb2); (try clear hk); (try clear hi); (try clear ho0)) | ((with_reducible refine gate_callee (f := 68) rfl ?_); refine goesL_ (some 23) rfl rfl Try.func68 (by kernel_rfl) rfl #[.slice A0 l0.length c0] rfl gl_ ?_; (with_reducible refine (laws_toStringS.calls k _ _ l0 t186 _ ?side1 ?side2 A7.out).mono ?_); (case side1 => exact ca_ (Kd.C_below HR0.out HB.out)); (case side2 => exact HC0.out); rintro e w19 ⟨v187, rfl, ho0, hb⟩; refine ⟨_, rfl, ?_⟩; have n0_ := Aside0.mk (Kd.R_elder' (ra_ HO182) (Kd.R_base ho0) hb); have n1_ := Aside0.mk (Kd.R_below (ra_ HO185) hb); have n2_ := Aside0.mk (Kd.R_lower (Kd.R_new' ho0 (Kd.R_lt (ra_ HO182))) (below_size bl_)); have n3_ := Aside0.mk (below_step bl_ hb); clear HO182; clear HO185; clear HB; have HO182 := n0_; have HO185 := n1_; have HO188 := n2_; have HB := n3_; clear n0_ n1_ n2_ n3_; (try clear hb); (try clear hb2); (try clear hk); (try clear hi); (try clear ho0); obtain ⟨Ao20, co20, eo20⟩ := Kd.R_slice HO188.out; subst eo20) | ((with_reducible refine gate_callee (f := 69) rfl ?_); refine goesL_ (some 26) rfl rfl Try.func69 (by kernel_rfl) rfl #[.slice Ao20 t186.length co20, .int .i64 a1] rfl gl_ ?_; (with_reducible refine (impl_LockSet.calls k _ _ t186 a1 t189 _ ?side1 ?side2 A8.out).mono ?_); (case side1 => exact ca_ ((Kd.R_reads' HO188.out).2.2)); (case side2 => exact (Kd.R_reads' HO188.out).2.1); rintro e w21 ⟨v190, rfl, ho0, hb⟩; refine ⟨_, rfl, ?_⟩; have n0_ := Aside0.mk (Kd.R_below (ra_ HO182) hb); have n1_ := Aside0.mk (Kd.R_elder' (ra_ HO185) (Kd.R_base ho0) hb); have n2_ := Aside0.mk (Kd.R_below (ra_ HO188) hb); have n3_ := Aside0.mk (Kd.R_lower (Kd.R_new' ho0 (Kd.R_lt (ra_ HO185))) (below_size bl_)); have n4_ := Aside0.mk (below_step bl_ hb); clear HO182; clear HO185; clear HO188; clear HB; have HO182 := n0_; have HO185 := n1_; have HO188 := n2_; have HO191 := n3_; have HB := n4_; clear n0_ n1_ n2_ n3_ n4_; (try clear hb); (try clear hb2); (try clear hk); (try clear hi); (try clear ho0); obtain ⟨Ao22, co22, eo22⟩ := Kd.R_slice HO191.out; subst eo22; obtain ⟨Ao23, co23, eo23⟩ := Kd.R_slice HO185.out; subst eo23) | ((with_reducible refine gate_callee (f := 70) rfl ?_); refine goesL_ (some 29) rfl rfl Try.func70 (by kernel_rfl) rfl #[.slice Ao22 t189.length co22, .slice Ao23 t183.length co23] rfl gl_ ?_; (with_reducible refine (laws_eqIntS.calls k _ _ t189 _ _ t183 true _ ?side1 ?side2 ?side3 ?side4 A9.out).mono ?_); (case side1 => exact ca_ ((Kd.R_reads' HO191.out).2.2)); (case side2 => exact (Kd.R_reads' HO191.out).2.1); (case side3 => exact ca_ ((Kd.R_reads' HO185.out).2.2)); (case side4 => exact (Kd.R_reads' HO185.out).2.1); rintro e w' ⟨rfl, ⟨nd, rfl⟩⟩; refine ⟨_, rfl, ?_⟩) | ((with_reducible refine gate_callee (f := 68) rfl ?_); refine goesL_ (some 33) rfl rfl Try.func68 (by kernel_rfl) rfl #[.slice A0 l0.length c0] rfl gl_ ?_; (with_reducible refine (laws_toStringS.calls k _ _ l0 t193 _ ?side1 ?side2 A11.out).mono ?_); (case side1 => exact ca_ (Kd.C_below HR0.out bl_)); (case side2 => exact HC0.out); rintro e w24 ⟨v194, rfl, ho0, hb⟩; refine ⟨_, rfl, ?_⟩; have n0_ := Aside0.mk (Kd.R_elder' (ra_ HO182) (Kd.R_base ho0) hb); have n1_ := Aside0.mk (Kd.R_below (ra_ HO185) hb); have n2_ := Aside0.mk (Kd.R_elder' (ra_ HO188) (Kd.R_base ho0) hb); have n3_ := Aside0.mk (Kd.R_below (ra_ HO191) hb); have n4_ := Aside0.mk (Kd.R_lower (Kd.R_new' (Kd.R_new' ho0 (Kd.R_lt (ra_ HO182))) (Kd.R_lt (ra_ HO188))) (below_size bl_)); have n5_ := Aside0.mk (below_step bl_ hb); clear HO182; clear HO185; clear HO188; clear HO191; clear HB; have HO182 := n0_; have HO185 := n1_; have HO188 := n2_; have HO191 := n3_; have HO195 := n4_; have HB := n5_; clear n0_ n1_ n2_ n3_ n4_ n5_; (try clear hb); (try clear hb2); (try clear hk); (try clear hi); (try clear ho0); obtain ⟨Ao25, co25, eo25⟩ := Kd.R_slice HO195.out; subst eo25) | ((with_reducible refine gate_callee (f := 71) rfl ?_); refine goesL_ (some 34) rfl rfl Try.func71 (by kernel_rfl) rfl #[.slice Ao20 t186.length co20, .slice Ao25 t193.length co25] rfl gl_ ?_; (with_reducible refine (laws_eqStringS.calls k _ _ t186 _ _ t193 true _ ?side1 ?side2 ?side3 ?side4 A12.out).mono ?_); (case side1 => exact ca_ ((Kd.R_reads' HO188.out).2.2)); (case side2 => exact (Kd.R_reads' HO188.out).2.1); (case side3 => exact ca_ ((Kd.R_reads' HO195.out).2.2)); (case side4 => exact (Kd.R_reads' HO195.out).2.1); rintro e w' ⟨rfl, ⟨nd, rfl⟩⟩; refine ⟨_, rfl, ?_⟩) | ((with_reducible refine gate_callee (f := 72) rfl ?_); refine goesL_ (some 38) rfl rfl Try.func72 (by kernel_rfl) rfl #[.slice Ao20 t186.length co20, .int .i64 1] rfl gl_ ?_; (with_reducible refine (laws_markStringS.calls k (fun k_ => some k_ = (.slice Ao20 t186.length co20 : Value).ownBlock) (.slice Ao20 t186.length co20) t186 1 t197 t198 w _ ?side1 ?side2 A14.out).mono ?_); (case side1 => repeat (first | (with_reducible first | exact HB.out | apply below_alloc | apply pw_below_drewN | apply below_drew1) | exact HB.out)); (case side2 => exact Kd.R_tight rfl HO188.out); rintro e w26 ⟨rfl, hy0, hb, hkp⟩; refine ⟨_, rfl, ?_⟩; have n0_ := Aside0.mk (Kd.R_mono (ok' := fun k_ => some k_ ≠ (.slice Ao20 t186.length co20 : Value).ownBlock ∧ some k_ ≠ (.slice Ao25 t193.length co25 : Value).ownBlock) (Kd.R_keptB (HO182.out) hkp (fun k_ hk_ hs_ => (hk_.1.2) hs_)) (fun k_ hk_ => ⟨hk_.1.1.2, hk_.1.2⟩)); have n1_ := Aside0.mk (Kd.R_mono (ok' := fun k_ => some k_ ≠ (.slice Ao22 t189.length co22 : Value).ownBlock) (Kd.R_keptB ((Kd.R_apart' HO185.out (Kd.R_typed HO188.out) (by decide))) hkp (fun k_ hk_ hs_ => (hk_.2) hs_)) (fun k_ hk_ => hk_.1.1.2)); have n2_ := Aside0.mk (Kd.R_reok rfl hy0 (fun k_ e_ => HO188.out.1 k_ e_)); have n3_ := Aside0.mk (Kd.R_mono (ok' := fun k_ => some k_ ≠ (.slice Ao23 t183.length co23 : Value).ownBlock) (Kd.R_keptB ((Kd.R_apart' HO191.out (Kd.R_typed HO188.out) (by decide))) hkp (fun k_ hk_ hs_ => (hk_.2) hs_)) (fun k_ hk_ => hk_.1.1.2)); have n4_ := Aside0.mk (Kd.R_mono (ok' := fun k_ => some k_ ≠ (.slice Ao17 t180.length co17 : Value).ownBlock ∧ some k_ ≠ (.slice Ao20 t186.length co20 : Value).ownBlock) (Kd.R_keptB (HO195.out) hkp (fun k_ hk_ hs_ => (hk_.2) hs_)) (fun k_ hk_ => ⟨hk_.1.1.2, hk_.1.2⟩)); have n5_ := Aside0.mk (hb); clear HO182; clear HO185; clear HO188; clear HO191; clear HO195; clear HB; have HO182 := n0_; have HO185 := n1_; have HO188 := n2_; have HO191 := n3_; have HO195 := n4_; have HB := n5_; clear n0_ n1_ n2_ n3_ n4_ n5_; (try clear hb); (try clear hkp); (try clear hy0)))
    (try simp only [Act.put, List.setIfInBounds_toArray, List.set_cons_zero, List.set_cons_succ])
    go_cut [46] (fun v46 wc => ∃ (kq : Nat) (x46_14 : Bool), v46 = .bool x46_14 ∧ Aside0 (laws_FnExactLockSet.j0 kq l0 a1 t183 t189 x46_14 = some true) ∧ Aside0 (kq ≤ k) ∧ Aside0 (Kd.R (Kd.int .i64) 3 wc w.heap.size (fun k_ => some k_ ≠ ((.slice Ao22 t189.length co22) : Value).ownBlock) (.slice Ao23 t183.length co23) t183) ∧ Aside0 (Kd.R (Kd.int .i64) 3 wc w.heap.size (fun k_ => some k_ ≠ ((.slice Ao23 t183.length co23) : Value).ownBlock) (.slice Ao22 t189.length co22) t189) ∧ Aside0 (Below w.heap.size w wc))
    case first =>
     have H := HC15.out
     clear HC15
     by_cases c27 : t197 < 0
     ·rw [if_pos c27] at H
      have c27b0 : decide (t197 < 0) = true := decide_eq_true c27
      clear c27
      (first | rw [c27b0] | (simp only [i64_w, i32_w]; rw [c27b0]) | skip)
      have H' := Aside0.mk H
      clear H
      go_wp2
      go_meet
      case rel => exact ⟨_, (true), sp_, H', ⟨by first | omega | exact Nat.le_refl _⟩, ⟨ra_ HO185⟩, ⟨ra_ HO191⟩, ⟨bl_⟩⟩
     ·rw [if_neg c27] at H
      have c27b0 : decide (t197 < 0) = false := decide_eq_false c27
      clear c27
      (first | rw [c27b0] | (simp only [i64_w, i32_w]; rw [c27b0]) | skip)
      replace H := Option.bind_eq_some_iff.mp H
      obtain ⟨t199, A280, H⟩ := H
      replace H : (laws_FnExactLockSet.j0 k l0 a1 t183 t189 (!t199)) = some true := H
      have A28 := Aside0.mk A280
      clear A280
      have H' := Aside0.mk H
      clear H
      go_wp2_with (first | (go_at_call 70; (with_reducible refine (laws_eqIntS.calls k _ _ t189 _ _ t183 t199 _ ?side1 ?side2 ?side3 ?side4 A28.out).mono ?_); (case side1 => exact ca_ ((Kd.R_reads' HO191.out).2.2)); (case side2 => exact (Kd.R_reads' HO191.out).2.1); (case side3 => exact ca_ ((Kd.R_reads' HO185.out).2.2)); (case side4 => exact (Kd.R_reads' HO185.out).2.1); rintro e w' ⟨rfl, ⟨nd, rfl⟩⟩))
      go_meet
      case rel => exact ⟨_, (!t199), sp_, H', ⟨by first | omega | exact Nat.le_refl _⟩, ⟨ra_ HO185⟩, ⟨ra_ HO191⟩, ⟨bl_⟩⟩
    case rest =>
     clear HC15
     try clear c1
     try clear c2
     try clear p2
     try clear c4
     try clear c4b0
     try clear c6
     try clear c7
     try clear c10
     try clear c13
     try clear c27
     try clear c27b0
     obtain ⟨kq, x46_14, rfl, HA, HJ14, HO_6, HO_8, HB⟩ := hcut
     cases kq with
     | zero => exact absurd HA.out (by simp [laws_FnExactLockSet.j0])
     | succ kj14 =>
      have H := HA.out
      clear HA
      simp only [laws_FnExactLockSet.j0] at H
      by_cases c29 : x46_14 = true
      ·subst c29
       have H1 : (some false) = some true := by rw [if_pos rfl] at H; exact H
       clear H
       have H := H1
       clear H1
       exact absurd H (by simp)
      ·replace c29 := Bool.eq_false_iff.mpr c29
       subst c29
       have H1 : ((laws_markIntS.f kj14 t189 1).bind fun bt200 => ((laws_heldIntS.f kj14 bt200.2 1).bind fun t202 => (if t202 < 0 then (some false) else (if t202 = bt200.1 then ((laws_toStringS.f kj14 l0).bind fun t203 => ((impl_LockSet.f kj14 t203 a1).bind fun t206 => ((laws_eqIntS.f kj14 t206 t183).bind fun t209 => (if t209 = true then ((laws_heldIntS.f kj14 bt200.2 1).bind fun t210 => (if t210 < 0 then (some false) else (if t210 = bt200.1 then (some true) else (some false)))) else (some false))))) else (some false))))) = some true := by rw [if_neg (show ¬ (false = true) by decide)] at H; exact H
       clear H
       have H := H1
       clear H1
       replace H := Option.bind_eq_some_iff.mp H
       obtain ⟨⟨t200, t201⟩, A300, H⟩ := H
       replace H : ((laws_heldIntS.f kj14 t201 1).bind fun t202 => (if t202 < 0 then (some false) else (if t202 = t200 then ((laws_toStringS.f kj14 l0).bind fun t203 => ((impl_LockSet.f kj14 t203 a1).bind fun t206 => ((laws_eqIntS.f kj14 t206 t183).bind fun t209 => (if t209 = true then ((laws_heldIntS.f kj14 t201 1).bind fun t210 => (if t210 < 0 then (some false) else (if t210 = t200 then (some true) else (some false)))) else (some false))))) else (some false)))) = some true := H
       have A30 := Aside0.mk A300
       clear A300
       replace H := Option.bind_eq_some_iff.mp H
       obtain ⟨t202, A310, H⟩ := H
       replace H : (if t202 < 0 then (some false) else (if t202 = t200 then ((laws_toStringS.f kj14 l0).bind fun t203 => ((impl_LockSet.f kj14 t203 a1).bind fun t206 => ((laws_eqIntS.f kj14 t206 t183).bind fun t209 => (if t209 = true then ((laws_heldIntS.f kj14 t201 1).bind fun t210 => (if t210 < 0 then (some false) else (if t210 = t200 then (some true) else (some false)))) else (some false))))) else (some false))) = some true := H
       have A31 := Aside0.mk A310
       clear A310
       by_cases c32 : t202 < 0
       ·rw [if_pos c32] at H
        have c32b0 : decide (t202 < 0) = true := decide_eq_true c32
        clear c32
        exact absurd H (by simp)
       ·rw [if_neg c32] at H
        have c32b0 : decide (t202 < 0) = false := decide_eq_false c32
        clear c32
        by_cases c33 : t202 = t200
        ·rw [if_pos c33] at H
         have c33b0 : (t202 == t200) = true := beq_iff_eq.mpr c33
         have c33b1 : (t202 != t200) = false := bne_eq_false_iff_eq.mpr c33
         clear c33
         replace H := Option.bind_eq_some_iff.mp H
         obtain ⟨t203, A340, H⟩ := H
         replace H : ((impl_LockSet.f kj14 t203 a1).bind fun t206 => ((laws_eqIntS.f kj14 t206 t183).bind fun t209 => (if t209 = true then ((laws_heldIntS.f kj14 t201 1).bind fun t210 => (if t210 < 0 then (some false) else (if t210 = t200 then (some true) else (some false)))) else (some false)))) = some true := H
         have A34 := Aside0.mk A340
         clear A340
         replace H := Option.bind_eq_some_iff.mp H
         obtain ⟨t206, A350, H⟩ := H
         replace H : ((laws_eqIntS.f kj14 t206 t183).bind fun t209 => (if t209 = true then ((laws_heldIntS.f kj14 t201 1).bind fun t210 => (if t210 < 0 then (some false) else (if t210 = t200 then (some true) else (some false)))) else (some false))) = some true := H
         have A35 := Aside0.mk A350
         clear A350
         replace H := Option.bind_eq_some_iff.mp H
         obtain ⟨t209, A360, H⟩ := H
         replace H : (if t209 = true then ((laws_heldIntS.f kj14 t201 1).bind fun t210 => (if t210 < 0 then (some false) else (if t210 = t200 then (some true) else (some false)))) else (some false)) = some true := H
         have A36 := Aside0.mk A360
         clear A360
         by_cases c37 : t209 = true
         ·subst c37
          have H1 : ((laws_heldIntS.f kj14 t201 1).bind fun t210 => (if t210 < 0 then (some false) else (if t210 = t200 then (some true) else (some false)))) = some true := by rw [if_pos rfl] at H; exact H
          clear H
          have H := H1
          clear H1
          replace H := Option.bind_eq_some_iff.mp H
          obtain ⟨t210, A380, H⟩ := H
          replace H : (if t210 < 0 then (some false) else (if t210 = t200 then (some true) else (some false))) = some true := H
          have A38 := Aside0.mk A380
          clear A380
          by_cases c39 : t210 < 0
          ·rw [if_pos c39] at H
           have c39b0 : decide (t210 < 0) = true := decide_eq_true c39
           clear c39
           exact absurd H (by simp)
          ·rw [if_neg c39] at H
           have c39b0 : decide (t210 < 0) = false := decide_eq_false c39
           clear c39
           by_cases c40 : t210 = t200
           ·rw [if_pos c40] at H
            have c40b0 : (t210 == t200) = true := beq_iff_eq.mpr c40
            have c40b1 : (t210 != t200) = false := bne_eq_false_iff_eq.mpr c40
            clear c40
            clear H
            go_wp2_with (first | ((with_reducible refine gate_callee (f := 73) rfl ?_); refine goesL_ (some 49) rfl rfl Try.func73 (by kernel_rfl) rfl #[.slice Ao22 t189.length co22, .int .i64 1] rfl gl_ ?_; (with_reducible refine (laws_markIntS.calls kj14 (fun k_ => some k_ = (.slice Ao22 t189.length co22 : Value).ownBlock) (.slice Ao22 t189.length co22) t189 1 t200 t201 w _ ?side1 ?side2 A30.out).mono ?_); (case side1 => repeat (first | (with_reducible first | exact HB.out | apply below_alloc | apply pw_below_drewN | apply below_drew1) | exact HB.out)); (case side2 => exact Kd.R_tight rfl HO_8.out); rintro e w41 ⟨rfl, hy0, hb, hkp⟩; refine ⟨_, rfl, ?_⟩; have n0_ := Aside0.mk (Kd.R_mono (ok' := fun k_ => some k_ ≠ (.slice Ao22 t189.length co22 : Value).ownBlock) (Kd.R_keptB (HO_6.out) hkp (fun k_ hk_ hs_ => (hk_) hs_)) (fun k_ hk_ => hk_.1)); have n1_ := Aside0.mk (Kd.R_reok rfl hy0 (fun k_ e_ => HO_8.out.1 k_ e_)); have n2_ := Aside0.mk (hb); clear HO_6; clear HO_8; clear HB; have HO_6 := n0_; have HO_8 := n1_; have HB := n2_; clear n0_ n1_ n2_; (try clear hb); (try clear hkp); (try clear hy0)) | ((with_reducible refine gate_callee (f := 74) rfl ?_); refine goesL_ (some 52) rfl rfl Try.func74 (by kernel_rfl) rfl #[.slice Ao22 t201.length co22, .int .i64 1] rfl (by (try simp only [List.map_toArray, List.map_cons, List.map_nil]); first | done | (rw [show t201.length = t189.length from (Kd.R_reads' HO_8.out).1.symm] <;> rfl) | rfl | (simp only [List.length_drop, List.length_take]; rfl)) ?_; (with_reducible refine (laws_heldIntS.calls kj14 _ _ t201 1 t202 _ ?side1 ?side2 A31.out).mono ?_); (case side1 => exact ca_ ((Kd.R_reads' HO_8.out).2.2)); (case side2 => rw [show t201.length = t189.length from (Kd.R_reads' HO_8.out).1.symm]; exact (Kd.R_reads' HO_8.out).2.1); rintro e w' ⟨rfl, ⟨nd, rfl⟩⟩; refine ⟨_, rfl, ?_⟩) | ((with_reducible refine gate_callee (f := 68) rfl ?_); refine goesL_ (some 59) rfl rfl Try.func68 (by kernel_rfl) rfl #[.slice A0 l0.length c0] rfl gl_ ?_; (with_reducible refine (laws_toStringS.calls kj14 _ _ l0 t203 _ ?side1 ?side2 A34.out).mono ?_); (case side1 => exact ca_ (Kd.C_below HR0.out bl_)); (case side2 => exact HC0.out); rintro e w42 ⟨v204, rfl, ho0, hb⟩; refine ⟨_, rfl, ?_⟩; have n0_ := Aside0.mk (Kd.R_below (ra_ HO_6) hb); have n1_ := Aside0.mk (Kd.R_below (ra_ HO_8) hb); have n2_ := Aside0.mk (Kd.R_lower ho0 (below_size bl_)); have n3_ := Aside0.mk (below_step bl_ hb); clear HO_6; clear HO_8; clear HB; have HO_6 := n0_; have HO_8 := n1_; have HO205 := n2_; have HB := n3_; clear n0_ n1_ n2_ n3_; (try clear hb); (try clear hb2); (try clear hk); (try clear hi); (try clear ho0); obtain ⟨Ao43, co43, eo43⟩ := Kd.R_slice HO205.out; subst eo43) | ((with_reducible refine gate_callee (f := 69) rfl ?_); refine goesL_ (some 61) rfl rfl Try.func69 (by kernel_rfl) rfl #[.slice Ao43 t203.length co43, .int .i64 a1] rfl gl_ ?_; (with_reducible refine (impl_LockSet.calls kj14 _ _ t203 a1 t206 _ ?side1 ?side2 A35.out).mono ?_); (case side1 => exact ca_ ((Kd.R_reads' HO205.out).2.2)); (case side2 => exact (Kd.R_reads' HO205.out).2.1); rintro e w44 ⟨v207, rfl, ho0, hb⟩; refine ⟨_, rfl, ?_⟩; have n0_ := Aside0.mk (Kd.R_elder' (ra_ HO_6) (Kd.R_base ho0) hb); have n1_ := Aside0.mk (Kd.R_elder' (ra_ HO_8) (Kd.R_base ho0) hb); have n2_ := Aside0.mk (Kd.R_below (ra_ HO205) hb); have n3_ := Aside0.mk (Kd.R_lower (Kd.R_new' (Kd.R_new' ho0 (Kd.R_lt (ra_ HO_6))) (Kd.R_lt (ra_ HO_8))) (below_size bl_)); have n4_ := Aside0.mk (below_step bl_ hb); clear HO_6; clear HO_8; clear HO205; clear HB; have HO_6 := n0_; have HO_8 := n1_; have HO205 := n2_; have HO208 := n3_; have HB := n4_; clear n0_ n1_ n2_ n3_ n4_; (try clear hb); (try clear hb2); (try clear hk); (try clear hi); (try clear ho0); obtain ⟨Ao45, co45, eo45⟩ := Kd.R_slice HO208.out; subst eo45) | ((with_reducible refine gate_callee (f := 70) rfl ?_); refine goesL_ (some 64) rfl rfl Try.func70 (by kernel_rfl) rfl #[.slice Ao45 t206.length co45, .slice Ao23 t183.length co23] rfl gl_ ?_; (with_reducible refine (laws_eqIntS.calls kj14 _ _ t206 _ _ t183 true _ ?side1 ?side2 ?side3 ?side4 A36.out).mono ?_); (case side1 => exact ca_ ((Kd.R_reads' HO208.out).2.2)); (case side2 => exact (Kd.R_reads' HO208.out).2.1); (case side3 => exact ca_ ((Kd.R_reads' HO_6.out).2.2)); (case side4 => exact (Kd.R_reads' HO_6.out).2.1); rintro e w' ⟨rfl, ⟨nd, rfl⟩⟩; refine ⟨_, rfl, ?_⟩) | ((with_reducible refine gate_callee (f := 74) rfl ?_); refine goesL_ (some 68) rfl rfl Try.func74 (by kernel_rfl) rfl #[.slice Ao22 t201.length co22, .int .i64 1] rfl (by (try simp only [List.map_toArray, List.map_cons, List.map_nil]); first | done | (rw [show t201.length = t189.length from (Kd.R_reads' HO_8.out).1.symm] <;> rfl) | rfl | (simp only [List.length_drop, List.length_take]; rfl)) ?_; (with_reducible refine (laws_heldIntS.calls kj14 _ _ t201 1 t210 _ ?side1 ?side2 A38.out).mono ?_); (case side1 => exact ca_ ((Kd.R_reads' HO_8.out).2.2)); (case side2 => rw [show t201.length = t189.length from (Kd.R_reads' HO_8.out).1.symm]; exact (Kd.R_reads' HO_8.out).2.1); rintro e w' ⟨rfl, ⟨nd, rfl⟩⟩; refine ⟨_, rfl, ?_⟩))
            go_ret
            exact ⟨sq_, bl_⟩
           ·rw [if_neg c40] at H
            have c40b0 : (t210 == t200) = false := beq_eq_false_iff_ne.mpr c40
            have c40b1 : (t210 != t200) = true := bne_iff_ne.mpr c40
            exact absurd H (by simp)
         ·replace c37 := Bool.eq_false_iff.mpr c37
          subst c37
          have H1 : (some false) = some true := by rw [if_neg (show ¬ (false = true) by decide)] at H; exact H
          clear H
          have H := H1
          clear H1
          exact absurd H (by simp)
        ·rw [if_neg c33] at H
         have c33b0 : (t202 == t200) = false := beq_eq_false_iff_ne.mpr c33
         have c33b1 : (t202 != t200) = true := bne_iff_ne.mpr c33
         exact absurd H (by simp)
   ·replace c13 := Bool.eq_false_iff.mpr c13
    subst c13
    have H1 : (some false) = some true := by rw [if_neg (show ¬ (false = true) by decide)] at H; exact H
    clear H
    have H := H1
    clear H1
    exact absurd H (by simp)
  ·replace c10 := Bool.eq_false_iff.mpr c10
   subst c10
   have H1 : (some false) = some true := by rw [if_neg (show ¬ (false = true) by decide)] at H; exact H
   clear H
   have H := H1
   clear H1
   exact absurd H (by simp)

/-- THE ONE PURE STATEMENT of laws_FnExactLockSet. -/
def laws_FnExactLockSet.Pure : Prop := ∀ (l0 : List ByteArray) (a1 : Int), (l0.length ≤ maxLen ∧ ∀ y0 ∈ l0, y0.size ≤ maxLen) → ((Lit.int .i64 a1).wf = true) → ∃ k, laws_FnExactLockSet.f k l0 a1 = some true

end Go.Proofs.Ytepjnalkpfnmcaa.QFnExactLockSet
