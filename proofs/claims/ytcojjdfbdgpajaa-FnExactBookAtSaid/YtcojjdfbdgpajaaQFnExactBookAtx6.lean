-- by my own printer (myprint.py, over the kit's print.py)
import Derived.Test.YtcojjdfbdgpajaaQFnExactBookAtx0
import Derived.Test.YtcojjdfbdgpajaaQFnExactBookAtx5
namespace Go.Proofs.Ytcojjdfbdgpajaa.QFnExactBookAt
open Go.RowKit Go.Proofs.YtcojjdfbdgpajaaW.PrintWords Go.Proofs.YtcojjdfbdgpajaaW.PrintLast Go.Proofs.YtcojjdfbdgpajaaW.PrintMore
attribute [local go_sem] max2_int min2_int max_two min_two max_three min_three max_four min_four   -- for this text's walks alone
set_option linter.unusedVariables false
set_option linter.unusedSimpArgs false

attribute [local go_sem] my_geq my_leq my_gtr
/-! ### laws_eqAcctS: function 109 -/
def laws_eqAcctS.l0 : Nat → List (S85) → List (S85) → Int → Option (Bool)
  | 0, _, _, _ => none
  | k + 1, x0, x1, x5 => if x5 < (x0.length : Int) then (if 0 ≤ x5 then (if x5 < (x1.length : Int) then ((laws_eqAcct.f k ((rd_T85 x0 x5).f0) ((rd_T85 x0 x5).f1) ((rd_T85 x0 x5).f2) ((rd_T85 x0 x5).f3) ((rd_T85 x0 x5).f4) ((rd_T85 x0 x5).f5) ((rd_T85 x0 x5).f6.f0) ((rd_T85 x0 x5).f6.f1) ((rd_T85 x0 x5).f6.f2) ((rd_T85 x0 x5).f6.f3) ((rd_T85 x0 x5).f7) ((rd_T85 x1 x5).f0) ((rd_T85 x1 x5).f1) ((rd_T85 x1 x5).f2) ((rd_T85 x1 x5).f3) ((rd_T85 x1 x5).f4) ((rd_T85 x1 x5).f5) ((rd_T85 x1 x5).f6.f0) ((rd_T85 x1 x5).f6.f1) ((rd_T85 x1 x5).f6.f2) ((rd_T85 x1 x5).f6.f3) ((rd_T85 x1 x5).f7)).bind fun t242 => (if t242 = true then (laws_eqAcctS.l0 k x0 x1 (wrap64 (x5 + 1))) else (some false))) else (none)) else (none)) else (some true)
def laws_eqAcctS.f (k : Nat) (l0 : List (S85)) (l1 : List (S85)) : Option (Bool) := if (l0.length : Int) = (l1.length : Int) then (laws_eqAcctS.l0 k l0 l1 0) else (some false)
theorem laws_eqAcctS.mono_l : ∀ k, (∀ y0 y1 y2, LeO (laws_eqAcctS.l0 k y0 y1 y2) (laws_eqAcctS.l0 (k + 1) y0 y1 y2))
  | 0 => fun _ _ _ r h => by simp [laws_eqAcctS.l0] at h
  | k + 1 => by
    have ih0 := laws_eqAcctS.mono_l k
    · intro y0 y1 y2
      unfold laws_eqAcctS.l0
      repeat' first
      | (with_reducible exact ih0 _ _ _)
      | (with_reducible exact laws_eqAcct.mono _ _ _ _ _ _ _ _ _ _ _ _ _ _ _ _ _ _ _ _ _ _ _)
      | (with_reducible exact LeO.refl _)
      | (with_reducible exact LeO.none _)
      | (with_reducible refine LeO.ite ?_ ?_)
      | (with_reducible refine LeO.bind ?_ (fun _ => ?_))
      | exact ih0 _ _ _
      | exact laws_eqAcct.mono _ _ _ _ _ _ _ _ _ _ _ _ _ _ _ _ _ _ _ _ _ _ _
      | exact LeO.none _
      | refine LeO.ite ?_ ?_
      | refine LeO.bind ?_ (fun _ => ?_)
theorem laws_eqAcctS.mono : ∀ a0 a1 k, LeO (laws_eqAcctS.f k a0 a1) (laws_eqAcctS.f (k + 1) a0 a1) := by
  intro a0 a1 k
  have ih0 := laws_eqAcctS.mono_l k
  unfold laws_eqAcctS.f
  repeat' first
      | (with_reducible exact ih0 _ _ _)
      | (with_reducible exact laws_eqAcct.mono _ _ _ _ _ _ _ _ _ _ _ _ _ _ _ _ _ _ _ _ _ _ _)
      | (with_reducible exact LeO.refl _)
      | (with_reducible exact LeO.none _)
      | (with_reducible refine LeO.ite ?_ ?_)
      | (with_reducible refine LeO.bind ?_ (fun _ => ?_))
      | exact ih0 _ _ _
      | exact laws_eqAcct.mono _ _ _ _ _ _ _ _ _ _ _ _ _ _ _ _ _ _ _ _ _ _ _
      | exact LeO.none _
      | refine LeO.ite ?_ ?_
      | refine LeO.bind ?_ (fun _ => ?_)
def laws_eqAcctS.T6 : Bool × List (List Nat × List Nat) := (true, [([], []), ([], []), ([0, 1], [0, 1]), ([2], [2]), ([], []), ([], []), ([4, 5], [4, 5]), ([6], [6]), ([3, 7], [3, 7]), ([8], [8])])
def laws_eqAcctS.B6 : List Nat := [0, 0, 3, 7, 0, 0, 48, 112, 255, 511]
theorem laws_eqAcctS.tab6 : rtab .any (opsOf Try.f109 6) = laws_eqAcctS.T6 := by kernel_rfl
theorem laws_eqAcctS.bits6 : waitsOk laws_eqAcctS.T6.2 laws_eqAcctS.B6 = true := by kernel_rfl
set_option maxHeartbeats 8000000 in
set_option maxRecDepth 100000 in
theorem laws_eqAcctS.calls (k : Nat) (A0 : Option Addr) (c0 : Nat) (l0 : List (S85)) (A1 : Option Addr) (c1 : Nat) (l1 : List (S85)) (r : Bool) (w : World) (hr0 : Kd.C k85 w A0 l0.length l0) (hc0 : l0.length ≤ c0) (hr1 : Kd.C k85 w A1 l1.length l1) (hc1 : l1.length ≤ c1) (h : laws_eqAcctS.f k l0 l1 = some r) :
    Calls Try.prog 109 #[.slice A0 l0.length c0, .slice A1 l1.length c1] w fun e w' => e = .returned (.bool r) ∧ Below w.heap.size w w' := by
  have hu85 := Try.underlying85
  have HR0 := Aside0.mk hr0
  have HC0 := Aside0.mk hc0
  clear hr0 hc0
  have HR1 := Aside0.mk hr1
  have HC1 := Aside0.mk hc1
  clear hr1 hc1
  have HB := Aside0.mk (Below.refl w.heap.size w)
  have H : (if (l0.length : Int) = (l1.length : Int) then (laws_eqAcctS.l0 k l0 l1 0) else (some false)) = some r := h
  clear h
  by_cases c3 : (l0.length : Int) = (l1.length : Int)
  · rw [if_pos c3] at H
    have c3b0 : ((l0.length : Int) == (l1.length : Int)) = true := beq_iff_eq.mpr c3
    have c3b1 : ((l0.length : Int) != (l1.length : Int)) = false := bne_eq_false_iff_eq.mpr c3
    have c3b2 : (l0.length == l1.length) = true := by first | simpa using c3 | (simp at c3 ⊢; omega)
    clear c3
    have H' := Aside0.mk H
    clear H
    go_enter Try.func109, Try.ntmps109
    go_wp2
    go_loopg [5] k (fun kq v5 w' => ∃ (x5_1 : Int), v5 = .int .i64 x5_1 ∧ Aside0 (laws_eqAcctS.l0 kq l0 l1 x5_1 = some r) ∧ Aside0 (kq ≤ k) ∧ Aside0 (Below w.heap.size w w'))
    case atStart => exact ⟨(0), sp_, H', ⟨Nat.le_refl _⟩, ⟨bl_⟩⟩
    case round =>
      clear H'
      try clear c1
      try clear p2
      try clear c3
      try clear c3b0
      try clear c3b1
      try clear c3b2
      obtain ⟨x5_1, rfl, HA, HK1, HB⟩ := hrel
      cases gk with
      | zero => exact absurd HA.out (by simp [laws_eqAcctS.l0])
      | succ k1 =>
        have H := HA.out
        clear HA
        simp only [laws_eqAcctS.l0] at H
        by_cases c4 : x5_1 < (l0.length : Int)
        · rw [if_pos c4] at H
          have c4b0 : decide (x5_1 < (l0.length : Int)) = true := decide_eq_true c4
          clear c4
          by_cases c5 : 0 ≤ x5_1
          · rw [if_pos c5] at H
            have c5b0 : decide (0 ≤ x5_1) = true := decide_eq_true c5
            clear c5
            by_cases c6 : x5_1 < (l1.length : Int)
            · rw [if_pos c6] at H
              have c6b0 : decide (x5_1 < (l1.length : Int)) = true := decide_eq_true c6
              clear c6
              replace H := Option.bind_eq_some_iff.mp H
              obtain ⟨t242, A70, H⟩ := H
              replace H : (if t242 = true then (laws_eqAcctS.l0 k1 l0 l1 (wrap64 (x5_1 + 1))) else (some false)) = some r := H
              have A7 := Aside0.mk A70
              clear A70
              by_cases c8 : t242 = true
              · subst c8
                have H1 : (laws_eqAcctS.l0 k1 l0 l1 (wrap64 (x5_1 + 1))) = some r := by rw [if_pos rfl] at H; exact H
                clear H
                have H := H1
                clear H1
                have H' := Aside0.mk H
                clear H
                try go_wp2
                have n0_ := Aside0.mk (below_drew1 HB.out)
                clear HB
                have HB := n0_
                clear n0_
                have p240 : 0 ≤ (x5_1 : Int) := of_decide_eq_true (by first | (with_reducible assumption) | assumption)
                have q240 : x5_1 < (l0.length : Int) := of_decide_eq_true (by first | (with_reducible assumption) | assumption)
                obtain ⟨ad240, A240_5, c240_5, A240_8, c240_8, A240_9, c240_9, A240_10, c240_10, e240, hx240_0, hx240_1, hx240_2, hx240_3, hx240_4, hx240_5, hx240_6, hx240_7, hx240_8, hx240_9, hx240_10, hl240_5, hi240_5, hl240_8, hi240_8, hl240_9, hi240_9, hl240_10, hi240_10⟩ := at_T85 HR0.out x5_1 p240 q240
                have hw240_10 := hx240_10
                have hw240_9 := hx240_9
                have hw240_8 := hx240_8
                have hw240_7 := hx240_7
                have hw240_6 := hx240_6
                have hw240_5 := hx240_5
                have hw240_4 := hx240_4
                have hw240_3 := hx240_3
                have hw240_2 := hx240_2
                have hw240_1 := hx240_1
                have hw240_0 := hx240_0
                cases e240
                replace hx240_0 := (HB.out.cell (World.block_lt_of_cell? w _ hx240_0)).trans hx240_0
                replace hx240_1 := (HB.out.cell (World.block_lt_of_cell? w _ hx240_1)).trans hx240_1
                replace hx240_2 := (HB.out.cell (World.block_lt_of_cell? w _ hx240_2)).trans hx240_2
                replace hx240_3 := (HB.out.cell (World.block_lt_of_cell? w _ hx240_3)).trans hx240_3
                replace hx240_4 := (HB.out.cell (World.block_lt_of_cell? w _ hx240_4)).trans hx240_4
                replace hx240_5 := (HB.out.cell (World.block_lt_of_cell? w _ hx240_5)).trans hx240_5
                replace hx240_6 := (HB.out.cell (World.block_lt_of_cell? w _ hx240_6)).trans hx240_6
                replace hx240_7 := (HB.out.cell (World.block_lt_of_cell? w _ hx240_7)).trans hx240_7
                replace hx240_8 := (HB.out.cell (World.block_lt_of_cell? w _ hx240_8)).trans hx240_8
                replace hx240_9 := (HB.out.cell (World.block_lt_of_cell? w _ hx240_9)).trans hx240_9
                replace hx240_10 := (HB.out.cell (World.block_lt_of_cell? w _ hx240_10)).trans hx240_10
                have HR240_5 := Aside0.mk hi240_5
                have HC240_5 := Aside0.mk hl240_5
                clear hi240_5 hl240_5
                have HR240_8 := Aside0.mk hi240_8
                have HC240_8 := Aside0.mk hl240_8
                clear hi240_8 hl240_8
                have HR240_9 := Aside0.mk hi240_9
                have HC240_9 := Aside0.mk hl240_9
                clear hi240_9 hl240_9
                have HR240_10 := Aside0.mk hi240_10
                have HC240_10 := Aside0.mk hl240_10
                clear hi240_10 hl240_10
                replace p240 := eq_true p240
                replace q240 := eq_true q240
                have p241 : 0 ≤ (x5_1 : Int) := of_decide_eq_true (by first | (with_reducible assumption) | assumption)
                have q241 : x5_1 < (l1.length : Int) := of_decide_eq_true (by first | (with_reducible assumption) | assumption)
                obtain ⟨ad241, A241_5, c241_5, A241_8, c241_8, A241_9, c241_9, A241_10, c241_10, e241, hx241_0, hx241_1, hx241_2, hx241_3, hx241_4, hx241_5, hx241_6, hx241_7, hx241_8, hx241_9, hx241_10, hl241_5, hi241_5, hl241_8, hi241_8, hl241_9, hi241_9, hl241_10, hi241_10⟩ := at_T85 HR1.out x5_1 p241 q241
                have hw241_10 := hx241_10
                have hw241_9 := hx241_9
                have hw241_8 := hx241_8
                have hw241_7 := hx241_7
                have hw241_6 := hx241_6
                have hw241_5 := hx241_5
                have hw241_4 := hx241_4
                have hw241_3 := hx241_3
                have hw241_2 := hx241_2
                have hw241_1 := hx241_1
                have hw241_0 := hx241_0
                cases e241
                replace hx241_0 := (HB.out.cell (World.block_lt_of_cell? w _ hx241_0)).trans hx241_0
                replace hx241_1 := (HB.out.cell (World.block_lt_of_cell? w _ hx241_1)).trans hx241_1
                replace hx241_2 := (HB.out.cell (World.block_lt_of_cell? w _ hx241_2)).trans hx241_2
                replace hx241_3 := (HB.out.cell (World.block_lt_of_cell? w _ hx241_3)).trans hx241_3
                replace hx241_4 := (HB.out.cell (World.block_lt_of_cell? w _ hx241_4)).trans hx241_4
                replace hx241_5 := (HB.out.cell (World.block_lt_of_cell? w _ hx241_5)).trans hx241_5
                replace hx241_6 := (HB.out.cell (World.block_lt_of_cell? w _ hx241_6)).trans hx241_6
                replace hx241_7 := (HB.out.cell (World.block_lt_of_cell? w _ hx241_7)).trans hx241_7
                replace hx241_8 := (HB.out.cell (World.block_lt_of_cell? w _ hx241_8)).trans hx241_8
                replace hx241_9 := (HB.out.cell (World.block_lt_of_cell? w _ hx241_9)).trans hx241_9
                replace hx241_10 := (HB.out.cell (World.block_lt_of_cell? w _ hx241_10)).trans hx241_10
                have HR241_5 := Aside0.mk hi241_5
                have HC241_5 := Aside0.mk hl241_5
                clear hi241_5 hl241_5
                have HR241_8 := Aside0.mk hi241_8
                have HC241_8 := Aside0.mk hl241_8
                clear hi241_8 hl241_8
                have HR241_9 := Aside0.mk hi241_9
                have HC241_9 := Aside0.mk hl241_9
                clear hi241_9 hl241_9
                have HR241_10 := Aside0.mk hi241_10
                have HC241_10 := Aside0.mk hl241_10
                clear hi241_10 hl241_10
                replace p241 := eq_true p241
                replace q241 := eq_true q241
                refine start_ (n := 10) (S := fun w' => w'.cell? (ad240.add ((x5_1).toNat * 11)) = some (.string ((rd_T85 l0 x5_1).f0)) ∧ w'.cell? ⟨(ad240.add ((x5_1).toNat * 11)).block, (ad240.add ((x5_1).toNat * 11)).off + 1, none⟩ = some (.int .i64 ((rd_T85 l0 x5_1).f1)) ∧ w'.cell? ⟨(ad240.add ((x5_1).toNat * 11)).block, (ad240.add ((x5_1).toNat * 11)).off + 2, none⟩ = some (.int .i64 ((rd_T85 l0 x5_1).f2)) ∧ w'.cell? ⟨(ad240.add ((x5_1).toNat * 11)).block, (ad240.add ((x5_1).toNat * 11)).off + 3, none⟩ = some (.int .i64 ((rd_T85 l0 x5_1).f3)) ∧ w'.cell? ⟨(ad240.add ((x5_1).toNat * 11)).block, (ad240.add ((x5_1).toNat * 11)).off + 4, none⟩ = some (.int .i64 ((rd_T85 l0 x5_1).f4)) ∧ w'.cell? ⟨(ad240.add ((x5_1).toNat * 11)).block, (ad240.add ((x5_1).toNat * 11)).off + 5, none⟩ = some (.slice A240_5 ((rd_T85 l0 x5_1).f5).length c240_5) ∧ w'.cell? ⟨(ad240.add ((x5_1).toNat * 11)).block, (ad240.add ((x5_1).toNat * 11)).off + 6, none⟩ = some (.int .i64 ((rd_T85 l0 x5_1).f6.f0)) ∧ w'.cell? ⟨(ad240.add ((x5_1).toNat * 11)).block, (ad240.add ((x5_1).toNat * 11)).off + 7, none⟩ = some (.int .i64 ((rd_T85 l0 x5_1).f6.f1)) ∧ w'.cell? ⟨(ad240.add ((x5_1).toNat * 11)).block, (ad240.add ((x5_1).toNat * 11)).off + 8, none⟩ = some (.slice A240_8 ((rd_T85 l0 x5_1).f6.f2).length c240_8) ∧ w'.cell? ⟨(ad240.add ((x5_1).toNat * 11)).block, (ad240.add ((x5_1).toNat * 11)).off + 9, none⟩ = some (.slice A240_9 ((rd_T85 l0 x5_1).f6.f3).length c240_9) ∧ w'.cell? ⟨(ad240.add ((x5_1).toNat * 11)).block, (ad240.add ((x5_1).toNat * 11)).off + 10, none⟩ = some (.slice A240_10 ((rd_T85 l0 x5_1).f7).length c240_10) ∧ w'.cell? (ad241.add ((x5_1).toNat * 11)) = some (.string ((rd_T85 l1 x5_1).f0)) ∧ w'.cell? ⟨(ad241.add ((x5_1).toNat * 11)).block, (ad241.add ((x5_1).toNat * 11)).off + 1, none⟩ = some (.int .i64 ((rd_T85 l1 x5_1).f1)) ∧ w'.cell? ⟨(ad241.add ((x5_1).toNat * 11)).block, (ad241.add ((x5_1).toNat * 11)).off + 2, none⟩ = some (.int .i64 ((rd_T85 l1 x5_1).f2)) ∧ w'.cell? ⟨(ad241.add ((x5_1).toNat * 11)).block, (ad241.add ((x5_1).toNat * 11)).off + 3, none⟩ = some (.int .i64 ((rd_T85 l1 x5_1).f3)) ∧ w'.cell? ⟨(ad241.add ((x5_1).toNat * 11)).block, (ad241.add ((x5_1).toNat * 11)).off + 4, none⟩ = some (.int .i64 ((rd_T85 l1 x5_1).f4)) ∧ w'.cell? ⟨(ad241.add ((x5_1).toNat * 11)).block, (ad241.add ((x5_1).toNat * 11)).off + 5, none⟩ = some (.slice A241_5 ((rd_T85 l1 x5_1).f5).length c241_5) ∧ w'.cell? ⟨(ad241.add ((x5_1).toNat * 11)).block, (ad241.add ((x5_1).toNat * 11)).off + 6, none⟩ = some (.int .i64 ((rd_T85 l1 x5_1).f6.f0)) ∧ w'.cell? ⟨(ad241.add ((x5_1).toNat * 11)).block, (ad241.add ((x5_1).toNat * 11)).off + 7, none⟩ = some (.int .i64 ((rd_T85 l1 x5_1).f6.f1)) ∧ w'.cell? ⟨(ad241.add ((x5_1).toNat * 11)).block, (ad241.add ((x5_1).toNat * 11)).off + 8, none⟩ = some (.slice A241_8 ((rd_T85 l1 x5_1).f6.f2).length c241_8) ∧ w'.cell? ⟨(ad241.add ((x5_1).toNat * 11)).block, (ad241.add ((x5_1).toNat * 11)).off + 9, none⟩ = some (.slice A241_9 ((rd_T85 l1 x5_1).f6.f3).length c241_9) ∧ w'.cell? ⟨(ad241.add ((x5_1).toNat * 11)).block, (ad241.add ((x5_1).toNat * 11)).off + 10, none⟩ = some (.slice A241_10 ((rd_T85 l1 x5_1).f7).length c241_10)) (ds := []) #[false, false, false, false, false, false, false, false, false, false] (by kernel_rfl) rfl rfl ⟨((HB.out.cell (World.block_lt_of_cell? w _ hw240_0)).trans hw240_0), ((HB.out.cell (World.block_lt_of_cell? w _ hw240_1)).trans hw240_1), ((HB.out.cell (World.block_lt_of_cell? w _ hw240_2)).trans hw240_2), ((HB.out.cell (World.block_lt_of_cell? w _ hw240_3)).trans hw240_3), ((HB.out.cell (World.block_lt_of_cell? w _ hw240_4)).trans hw240_4), ((HB.out.cell (World.block_lt_of_cell? w _ hw240_5)).trans hw240_5), ((HB.out.cell (World.block_lt_of_cell? w _ hw240_6)).trans hw240_6), ((HB.out.cell (World.block_lt_of_cell? w _ hw240_7)).trans hw240_7), ((HB.out.cell (World.block_lt_of_cell? w _ hw240_8)).trans hw240_8), ((HB.out.cell (World.block_lt_of_cell? w _ hw240_9)).trans hw240_9), ((HB.out.cell (World.block_lt_of_cell? w _ hw240_10)).trans hw240_10), ((HB.out.cell (World.block_lt_of_cell? w _ hw241_0)).trans hw241_0), ((HB.out.cell (World.block_lt_of_cell? w _ hw241_1)).trans hw241_1), ((HB.out.cell (World.block_lt_of_cell? w _ hw241_2)).trans hw241_2), ((HB.out.cell (World.block_lt_of_cell? w _ hw241_3)).trans hw241_3), ((HB.out.cell (World.block_lt_of_cell? w _ hw241_4)).trans hw241_4), ((HB.out.cell (World.block_lt_of_cell? w _ hw241_5)).trans hw241_5), ((HB.out.cell (World.block_lt_of_cell? w _ hw241_6)).trans hw241_6), ((HB.out.cell (World.block_lt_of_cell? w _ hw241_7)).trans hw241_7), ((HB.out.cell (World.block_lt_of_cell? w _ hw241_8)).trans hw241_8), ((HB.out.cell (World.block_lt_of_cell? w _ hw241_9)).trans hw241_9), ((HB.out.cell (World.block_lt_of_cell? w _ hw241_10)).trans hw241_10)⟩ (fun hHeld => ?_); refine with_tabW laws_eqAcctS.tab6 laws_eqAcctS.bits6 (fun HT_ HW_ => ?_)
                generalize wr.drew = w9 at HB HR240_10 HR240_5 HR240_8 HR240_9 HR241_10 HR241_5 HR241_8 HR241_9 hx240_0 hx240_1 hx240_10 hx240_2 hx240_3 hx240_4 hx240_5 hx240_6 hx240_7 hx240_8 hx240_9 hx241_0 hx241_1 hx241_10 hx241_2 hx241_3 hx241_4 hx241_5 hx241_6 hx241_7 hx241_8 hx241_9 hHeld ⊢
                refine pure_ (i := 0) (N := some 17) (v := ?_) (a' := ?_) #[true, false, false, false, false, false, false, false, false, false] rfl rfl (any_of HT_.out (by kernel_rfl)) (fun _ _ _ h => h) (Or.inl ⟨by rfl, ?_⟩) ?_ ?_
                rotate_left
                · intro w'
                  go_simp
                  with_reducible rfl
                rotate_left
                · simp only [Act.put, List.setIfInBounds_toArray, List.set_cons_zero, List.set_cons_succ, i64_w, i32_w]
                  rfl
                refine pure_ (i := 1) (N := some 18) (v := ?_) (a' := ?_) #[true, true, false, false, false, false, false, false, false, false] rfl rfl (any_of HT_.out (by kernel_rfl)) (fun _ _ _ h => h) (Or.inl ⟨by rfl, ?_⟩) ?_ ?_
                rotate_left
                · intro w'
                  go_simp
                  with_reducible rfl
                rotate_left
                · simp only [Act.put, List.setIfInBounds_toArray, List.set_cons_zero, List.set_cons_succ, i64_w, i32_w]
                  rfl
                refine pure_ (i := 2) (N := some 19) (v := ?_) (a' := ?_) #[true, true, true, false, false, false, false, false, false, false] rfl rfl (any_of HT_.out (by kernel_rfl)) (fun _ _ _ h => h) (Or.inl ⟨by rfl, ?_⟩) ?_ ?_
                rotate_left
                · intro w'
                  go_simp
                  with_reducible rfl
                rotate_left
                · simp only [Act.put, List.setIfInBounds_toArray, List.set_cons_zero, List.set_cons_succ, i64_w, i32_w]
                  rfl
                refine pure_ (i := 4) (N := some 21) (v := ?_) (a' := ?_) #[true, true, true, false, true, false, false, false, false, false] rfl rfl (any_of HT_.out (by kernel_rfl)) (fun _ _ _ h => h) (Or.inl ⟨by rfl, ?_⟩) ?_ ?_
                rotate_left
                · intro w'
                  go_simp
                  with_reducible rfl
                rotate_left
                · simp only [Act.put, List.setIfInBounds_toArray, List.set_cons_zero, List.set_cons_succ, i64_w, i32_w]
                  rfl
                refine pure_ (i := 5) (N := some 22) (v := ?_) (a' := ?_) #[true, true, true, false, true, true, false, false, false, false] rfl rfl (any_of HT_.out (by kernel_rfl)) (fun _ _ _ h => h) (Or.inl ⟨by rfl, ?_⟩) ?_ ?_
                rotate_left
                · intro w'
                  go_simp
                  with_reducible rfl
                rotate_left
                · simp only [Act.put, List.setIfInBounds_toArray, List.set_cons_zero, List.set_cons_succ, i64_w, i32_w]
                  rfl
                refine pure_ (i := 6) (N := some 23) (v := ?_) (a' := ?_) #[true, true, true, false, true, true, true, false, false, false] rfl rfl (any_of HT_.out (by kernel_rfl)) (fun _ _ _ h => h) (Or.inl ⟨by rfl, ?_⟩) ?_ ?_
                rotate_left
                · intro w'
                  go_simp
                  with_reducible rfl
                rotate_left
                · simp only [Act.put, List.setIfInBounds_toArray, List.set_cons_zero, List.set_cons_succ, i64_w, i32_w]
                  rfl
                refine take_ (i := 3) (N := some 20) (v := ?_) (a' := ?_) #[true, true, true, true, true, true, true, false, false, false] rfl rfl (take_ofW HT_.out HW_.out (by kernel_rfl)) (fun _ _ _ h => h) (Or.inl ⟨by rfl, ?_⟩) hHeld ?_ ?_
                rotate_left
                · rintro w' ⟨s0, s1, s2, s3, s4, s5, s6, s7, s8, s9, s10, s11, s12, s13, s14, s15, s16, s17, s18, s19, s20, s21⟩
                  go_simp
                  with_reducible rfl
                rotate_left
                · simp only [Act.put, List.setIfInBounds_toArray, List.set_cons_zero, List.set_cons_succ, i64_w, i32_w]
                  rfl
                refine take_ (i := 7) (N := some 24) (v := ?_) (a' := ?_) #[true, true, true, true, true, true, true, true, false, false] rfl rfl (take_ofW HT_.out HW_.out (by kernel_rfl)) (fun _ _ _ h => h) (Or.inl ⟨by rfl, ?_⟩) hHeld ?_ ?_
                rotate_left
                · rintro w' ⟨s0, s1, s2, s3, s4, s5, s6, s7, s8, s9, s10, s11, s12, s13, s14, s15, s16, s17, s18, s19, s20, s21⟩
                  go_simp
                  with_reducible rfl
                rotate_left
                · simp only [Act.put, List.setIfInBounds_toArray, List.set_cons_zero, List.set_cons_succ, i64_w, i32_w]
                  rfl
                refine one_ (i := 8) (N := some 25) #[true, true, true, true, true, true, true, true, true, false] rfl rfl (one_of HT_.out (by kernel_rfl)) (by decide) (fun K hK => ?_)
                refine goes_ Try.func53 (by kernel_rfl) rfl #[.agg #[.string ((rd_T85 l0 x5_1).f0), .int .i64 ((rd_T85 l0 x5_1).f1), .int .i64 ((rd_T85 l0 x5_1).f2), .int .i64 ((rd_T85 l0 x5_1).f3), .int .i64 ((rd_T85 l0 x5_1).f4), .slice A240_5 ((rd_T85 l0 x5_1).f5).length c240_5, .int .i64 ((rd_T85 l0 x5_1).f6.f0), .int .i64 ((rd_T85 l0 x5_1).f6.f1), .slice A240_8 ((rd_T85 l0 x5_1).f6.f2).length c240_8, .slice A240_9 ((rd_T85 l0 x5_1).f6.f3).length c240_9, .slice A240_10 ((rd_T85 l0 x5_1).f7).length c240_10], .agg #[.string ((rd_T85 l1 x5_1).f0), .int .i64 ((rd_T85 l1 x5_1).f1), .int .i64 ((rd_T85 l1 x5_1).f2), .int .i64 ((rd_T85 l1 x5_1).f3), .int .i64 ((rd_T85 l1 x5_1).f4), .slice A241_5 ((rd_T85 l1 x5_1).f5).length c241_5, .int .i64 ((rd_T85 l1 x5_1).f6.f0), .int .i64 ((rd_T85 l1 x5_1).f6.f1), .slice A241_8 ((rd_T85 l1 x5_1).f6.f2).length c241_8, .slice A241_9 ((rd_T85 l1 x5_1).f6.f3).length c241_9, .slice A241_10 ((rd_T85 l1 x5_1).f7).length c241_10]] (by rfl) rfl rfl gl_ ?_
                with_reducible refine (laws_eqAcct.calls k1 ((rd_T85 l0 x5_1).f0) ((rd_T85 l0 x5_1).f1) ((rd_T85 l0 x5_1).f2) ((rd_T85 l0 x5_1).f3) ((rd_T85 l0 x5_1).f4) _ _ ((rd_T85 l0 x5_1).f5) ((rd_T85 l0 x5_1).f6.f0) ((rd_T85 l0 x5_1).f6.f1) _ _ ((rd_T85 l0 x5_1).f6.f2) _ _ ((rd_T85 l0 x5_1).f6.f3) _ _ ((rd_T85 l0 x5_1).f7) ((rd_T85 l1 x5_1).f0) ((rd_T85 l1 x5_1).f1) ((rd_T85 l1 x5_1).f2) ((rd_T85 l1 x5_1).f3) ((rd_T85 l1 x5_1).f4) _ _ ((rd_T85 l1 x5_1).f5) ((rd_T85 l1 x5_1).f6.f0) ((rd_T85 l1 x5_1).f6.f1) _ _ ((rd_T85 l1 x5_1).f6.f2) _ _ ((rd_T85 l1 x5_1).f6.f3) _ _ ((rd_T85 l1 x5_1).f7) true _ ?side1 ?side2 ?side3 ?side4 ?side5 ?side6 ?side7 ?side8 ?side9 ?side10 ?side11 ?side12 ?side13 ?side14 ?side15 ?side16 A7.out).mono ?_
                (case side1 => exact ca_ (Kd.C_below HR240_5.out HB.out))
                (case side2 => exact HC240_5.out)
                (case side3 => exact ca_ (Kd.C_below HR240_8.out HB.out))
                (case side4 => exact HC240_8.out)
                (case side5 => exact ca_ (Kd.C_below HR240_9.out HB.out))
                (case side6 => exact HC240_9.out)
                (case side7 => exact ca_ (Kd.C_below HR240_10.out HB.out))
                (case side8 => exact HC240_10.out)
                (case side9 => exact ca_ (Kd.C_below HR241_5.out HB.out))
                (case side10 => exact HC241_5.out)
                (case side11 => exact ca_ (Kd.C_below HR241_8.out HB.out))
                (case side12 => exact HC241_8.out)
                (case side13 => exact ca_ (Kd.C_below HR241_9.out HB.out))
                (case side14 => exact HC241_9.out)
                (case side15 => exact ca_ (Kd.C_below HR241_10.out HB.out))
                (case side16 => exact HC241_10.out)
                rintro e w10 ⟨rfl, hb⟩
                refine ⟨_, rfl, ?_⟩
                have n0_ := Aside0.mk (below_step bl_ hb)
                clear HB
                have HB := n0_
                clear n0_
                (try clear hb)
                (try clear hb2)
                (try clear hk)
                (try clear hi)
                refine hK.out _ _ ⟨((HB.out.cell (World.block_lt_of_cell? w _ hw240_0)).trans hw240_0), ((HB.out.cell (World.block_lt_of_cell? w _ hw240_1)).trans hw240_1), ((HB.out.cell (World.block_lt_of_cell? w _ hw240_2)).trans hw240_2), ((HB.out.cell (World.block_lt_of_cell? w _ hw240_3)).trans hw240_3), ((HB.out.cell (World.block_lt_of_cell? w _ hw240_4)).trans hw240_4), ((HB.out.cell (World.block_lt_of_cell? w _ hw240_5)).trans hw240_5), ((HB.out.cell (World.block_lt_of_cell? w _ hw240_6)).trans hw240_6), ((HB.out.cell (World.block_lt_of_cell? w _ hw240_7)).trans hw240_7), ((HB.out.cell (World.block_lt_of_cell? w _ hw240_8)).trans hw240_8), ((HB.out.cell (World.block_lt_of_cell? w _ hw240_9)).trans hw240_9), ((HB.out.cell (World.block_lt_of_cell? w _ hw240_10)).trans hw240_10), ((HB.out.cell (World.block_lt_of_cell? w _ hw241_0)).trans hw241_0), ((HB.out.cell (World.block_lt_of_cell? w _ hw241_1)).trans hw241_1), ((HB.out.cell (World.block_lt_of_cell? w _ hw241_2)).trans hw241_2), ((HB.out.cell (World.block_lt_of_cell? w _ hw241_3)).trans hw241_3), ((HB.out.cell (World.block_lt_of_cell? w _ hw241_4)).trans hw241_4), ((HB.out.cell (World.block_lt_of_cell? w _ hw241_5)).trans hw241_5), ((HB.out.cell (World.block_lt_of_cell? w _ hw241_6)).trans hw241_6), ((HB.out.cell (World.block_lt_of_cell? w _ hw241_7)).trans hw241_7), ((HB.out.cell (World.block_lt_of_cell? w _ hw241_8)).trans hw241_8), ((HB.out.cell (World.block_lt_of_cell? w _ hw241_9)).trans hw241_9), ((HB.out.cell (World.block_lt_of_cell? w _ hw241_10)).trans hw241_10)⟩ (fun hHeld => ?_)
                clear hK K
                refine norm_ (a' := ?_) ?_ ?_
                rotate_left
                · show Act.put _ (some 25) _ = _
                  simp only [Act.put, List.setIfInBounds_toArray, List.set_cons_zero, List.set_cons_succ, i64_w, i32_w]
                  rfl
                refine pure_ (i := 9) (N := some 26) (v := ?_) (a' := ?_) #[true, true, true, true, true, true, true, true, true, true] rfl rfl (any_of HT_.out (by kernel_rfl)) (fun _ _ _ h => h) (Or.inl ⟨by rfl, ?_⟩) ?_ ?_
                rotate_left
                · intro w'
                  go_simp
                  with_reducible rfl
                rotate_left
                · simp only [Act.put, List.setIfInBounds_toArray, List.set_cons_zero, List.set_cons_succ, i64_w, i32_w]
                  rfl
                refine done_ (done_of HT_.out (by kernel_rfl)) ?_
                try go_wp2
                go_roundg k1
                case measure => have := HK1.out; omega
                case rel => exact ⟨(wrap64 (x5_1 + 1)), sp_, H', ⟨by have := HK1.out; omega⟩, ⟨bl_⟩⟩
              · replace c8 := Bool.eq_false_iff.mpr c8
                subst c8
                have H1 : (some false) = some r := by rw [if_neg (show ¬ (false = true) by decide)] at H; exact H
                clear H
                have H := H1
                clear H1
                obtain rfl := Option.some.inj H
                try go_wp2
                have n0_ := Aside0.mk (below_drew1 HB.out)
                clear HB
                have HB := n0_
                clear n0_
                have p240 : 0 ≤ (x5_1 : Int) := of_decide_eq_true (by first | (with_reducible assumption) | assumption)
                have q240 : x5_1 < (l0.length : Int) := of_decide_eq_true (by first | (with_reducible assumption) | assumption)
                obtain ⟨ad240, A240_5, c240_5, A240_8, c240_8, A240_9, c240_9, A240_10, c240_10, e240, hx240_0, hx240_1, hx240_2, hx240_3, hx240_4, hx240_5, hx240_6, hx240_7, hx240_8, hx240_9, hx240_10, hl240_5, hi240_5, hl240_8, hi240_8, hl240_9, hi240_9, hl240_10, hi240_10⟩ := at_T85 HR0.out x5_1 p240 q240
                have hw240_10 := hx240_10
                have hw240_9 := hx240_9
                have hw240_8 := hx240_8
                have hw240_7 := hx240_7
                have hw240_6 := hx240_6
                have hw240_5 := hx240_5
                have hw240_4 := hx240_4
                have hw240_3 := hx240_3
                have hw240_2 := hx240_2
                have hw240_1 := hx240_1
                have hw240_0 := hx240_0
                cases e240
                replace hx240_0 := (HB.out.cell (World.block_lt_of_cell? w _ hx240_0)).trans hx240_0
                replace hx240_1 := (HB.out.cell (World.block_lt_of_cell? w _ hx240_1)).trans hx240_1
                replace hx240_2 := (HB.out.cell (World.block_lt_of_cell? w _ hx240_2)).trans hx240_2
                replace hx240_3 := (HB.out.cell (World.block_lt_of_cell? w _ hx240_3)).trans hx240_3
                replace hx240_4 := (HB.out.cell (World.block_lt_of_cell? w _ hx240_4)).trans hx240_4
                replace hx240_5 := (HB.out.cell (World.block_lt_of_cell? w _ hx240_5)).trans hx240_5
                replace hx240_6 := (HB.out.cell (World.block_lt_of_cell? w _ hx240_6)).trans hx240_6
                replace hx240_7 := (HB.out.cell (World.block_lt_of_cell? w _ hx240_7)).trans hx240_7
                replace hx240_8 := (HB.out.cell (World.block_lt_of_cell? w _ hx240_8)).trans hx240_8
                replace hx240_9 := (HB.out.cell (World.block_lt_of_cell? w _ hx240_9)).trans hx240_9
                replace hx240_10 := (HB.out.cell (World.block_lt_of_cell? w _ hx240_10)).trans hx240_10
                have HR240_5 := Aside0.mk hi240_5
                have HC240_5 := Aside0.mk hl240_5
                clear hi240_5 hl240_5
                have HR240_8 := Aside0.mk hi240_8
                have HC240_8 := Aside0.mk hl240_8
                clear hi240_8 hl240_8
                have HR240_9 := Aside0.mk hi240_9
                have HC240_9 := Aside0.mk hl240_9
                clear hi240_9 hl240_9
                have HR240_10 := Aside0.mk hi240_10
                have HC240_10 := Aside0.mk hl240_10
                clear hi240_10 hl240_10
                replace p240 := eq_true p240
                replace q240 := eq_true q240
                have p241 : 0 ≤ (x5_1 : Int) := of_decide_eq_true (by first | (with_reducible assumption) | assumption)
                have q241 : x5_1 < (l1.length : Int) := of_decide_eq_true (by first | (with_reducible assumption) | assumption)
                obtain ⟨ad241, A241_5, c241_5, A241_8, c241_8, A241_9, c241_9, A241_10, c241_10, e241, hx241_0, hx241_1, hx241_2, hx241_3, hx241_4, hx241_5, hx241_6, hx241_7, hx241_8, hx241_9, hx241_10, hl241_5, hi241_5, hl241_8, hi241_8, hl241_9, hi241_9, hl241_10, hi241_10⟩ := at_T85 HR1.out x5_1 p241 q241
                have hw241_10 := hx241_10
                have hw241_9 := hx241_9
                have hw241_8 := hx241_8
                have hw241_7 := hx241_7
                have hw241_6 := hx241_6
                have hw241_5 := hx241_5
                have hw241_4 := hx241_4
                have hw241_3 := hx241_3
                have hw241_2 := hx241_2
                have hw241_1 := hx241_1
                have hw241_0 := hx241_0
                cases e241
                replace hx241_0 := (HB.out.cell (World.block_lt_of_cell? w _ hx241_0)).trans hx241_0
                replace hx241_1 := (HB.out.cell (World.block_lt_of_cell? w _ hx241_1)).trans hx241_1
                replace hx241_2 := (HB.out.cell (World.block_lt_of_cell? w _ hx241_2)).trans hx241_2
                replace hx241_3 := (HB.out.cell (World.block_lt_of_cell? w _ hx241_3)).trans hx241_3
                replace hx241_4 := (HB.out.cell (World.block_lt_of_cell? w _ hx241_4)).trans hx241_4
                replace hx241_5 := (HB.out.cell (World.block_lt_of_cell? w _ hx241_5)).trans hx241_5
                replace hx241_6 := (HB.out.cell (World.block_lt_of_cell? w _ hx241_6)).trans hx241_6
                replace hx241_7 := (HB.out.cell (World.block_lt_of_cell? w _ hx241_7)).trans hx241_7
                replace hx241_8 := (HB.out.cell (World.block_lt_of_cell? w _ hx241_8)).trans hx241_8
                replace hx241_9 := (HB.out.cell (World.block_lt_of_cell? w _ hx241_9)).trans hx241_9
                replace hx241_10 := (HB.out.cell (World.block_lt_of_cell? w _ hx241_10)).trans hx241_10
                have HR241_5 := Aside0.mk hi241_5
                have HC241_5 := Aside0.mk hl241_5
                clear hi241_5 hl241_5
                have HR241_8 := Aside0.mk hi241_8
                have HC241_8 := Aside0.mk hl241_8
                clear hi241_8 hl241_8
                have HR241_9 := Aside0.mk hi241_9
                have HC241_9 := Aside0.mk hl241_9
                clear hi241_9 hl241_9
                have HR241_10 := Aside0.mk hi241_10
                have HC241_10 := Aside0.mk hl241_10
                clear hi241_10 hl241_10
                replace p241 := eq_true p241
                replace q241 := eq_true q241
                refine start_ (n := 10) (S := fun w' => w'.cell? (ad240.add ((x5_1).toNat * 11)) = some (.string ((rd_T85 l0 x5_1).f0)) ∧ w'.cell? ⟨(ad240.add ((x5_1).toNat * 11)).block, (ad240.add ((x5_1).toNat * 11)).off + 1, none⟩ = some (.int .i64 ((rd_T85 l0 x5_1).f1)) ∧ w'.cell? ⟨(ad240.add ((x5_1).toNat * 11)).block, (ad240.add ((x5_1).toNat * 11)).off + 2, none⟩ = some (.int .i64 ((rd_T85 l0 x5_1).f2)) ∧ w'.cell? ⟨(ad240.add ((x5_1).toNat * 11)).block, (ad240.add ((x5_1).toNat * 11)).off + 3, none⟩ = some (.int .i64 ((rd_T85 l0 x5_1).f3)) ∧ w'.cell? ⟨(ad240.add ((x5_1).toNat * 11)).block, (ad240.add ((x5_1).toNat * 11)).off + 4, none⟩ = some (.int .i64 ((rd_T85 l0 x5_1).f4)) ∧ w'.cell? ⟨(ad240.add ((x5_1).toNat * 11)).block, (ad240.add ((x5_1).toNat * 11)).off + 5, none⟩ = some (.slice A240_5 ((rd_T85 l0 x5_1).f5).length c240_5) ∧ w'.cell? ⟨(ad240.add ((x5_1).toNat * 11)).block, (ad240.add ((x5_1).toNat * 11)).off + 6, none⟩ = some (.int .i64 ((rd_T85 l0 x5_1).f6.f0)) ∧ w'.cell? ⟨(ad240.add ((x5_1).toNat * 11)).block, (ad240.add ((x5_1).toNat * 11)).off + 7, none⟩ = some (.int .i64 ((rd_T85 l0 x5_1).f6.f1)) ∧ w'.cell? ⟨(ad240.add ((x5_1).toNat * 11)).block, (ad240.add ((x5_1).toNat * 11)).off + 8, none⟩ = some (.slice A240_8 ((rd_T85 l0 x5_1).f6.f2).length c240_8) ∧ w'.cell? ⟨(ad240.add ((x5_1).toNat * 11)).block, (ad240.add ((x5_1).toNat * 11)).off + 9, none⟩ = some (.slice A240_9 ((rd_T85 l0 x5_1).f6.f3).length c240_9) ∧ w'.cell? ⟨(ad240.add ((x5_1).toNat * 11)).block, (ad240.add ((x5_1).toNat * 11)).off + 10, none⟩ = some (.slice A240_10 ((rd_T85 l0 x5_1).f7).length c240_10) ∧ w'.cell? (ad241.add ((x5_1).toNat * 11)) = some (.string ((rd_T85 l1 x5_1).f0)) ∧ w'.cell? ⟨(ad241.add ((x5_1).toNat * 11)).block, (ad241.add ((x5_1).toNat * 11)).off + 1, none⟩ = some (.int .i64 ((rd_T85 l1 x5_1).f1)) ∧ w'.cell? ⟨(ad241.add ((x5_1).toNat * 11)).block, (ad241.add ((x5_1).toNat * 11)).off + 2, none⟩ = some (.int .i64 ((rd_T85 l1 x5_1).f2)) ∧ w'.cell? ⟨(ad241.add ((x5_1).toNat * 11)).block, (ad241.add ((x5_1).toNat * 11)).off + 3, none⟩ = some (.int .i64 ((rd_T85 l1 x5_1).f3)) ∧ w'.cell? ⟨(ad241.add ((x5_1).toNat * 11)).block, (ad241.add ((x5_1).toNat * 11)).off + 4, none⟩ = some (.int .i64 ((rd_T85 l1 x5_1).f4)) ∧ w'.cell? ⟨(ad241.add ((x5_1).toNat * 11)).block, (ad241.add ((x5_1).toNat * 11)).off + 5, none⟩ = some (.slice A241_5 ((rd_T85 l1 x5_1).f5).length c241_5) ∧ w'.cell? ⟨(ad241.add ((x5_1).toNat * 11)).block, (ad241.add ((x5_1).toNat * 11)).off + 6, none⟩ = some (.int .i64 ((rd_T85 l1 x5_1).f6.f0)) ∧ w'.cell? ⟨(ad241.add ((x5_1).toNat * 11)).block, (ad241.add ((x5_1).toNat * 11)).off + 7, none⟩ = some (.int .i64 ((rd_T85 l1 x5_1).f6.f1)) ∧ w'.cell? ⟨(ad241.add ((x5_1).toNat * 11)).block, (ad241.add ((x5_1).toNat * 11)).off + 8, none⟩ = some (.slice A241_8 ((rd_T85 l1 x5_1).f6.f2).length c241_8) ∧ w'.cell? ⟨(ad241.add ((x5_1).toNat * 11)).block, (ad241.add ((x5_1).toNat * 11)).off + 9, none⟩ = some (.slice A241_9 ((rd_T85 l1 x5_1).f6.f3).length c241_9) ∧ w'.cell? ⟨(ad241.add ((x5_1).toNat * 11)).block, (ad241.add ((x5_1).toNat * 11)).off + 10, none⟩ = some (.slice A241_10 ((rd_T85 l1 x5_1).f7).length c241_10)) (ds := []) #[false, false, false, false, false, false, false, false, false, false] (by kernel_rfl) rfl rfl ⟨((HB.out.cell (World.block_lt_of_cell? w _ hw240_0)).trans hw240_0), ((HB.out.cell (World.block_lt_of_cell? w _ hw240_1)).trans hw240_1), ((HB.out.cell (World.block_lt_of_cell? w _ hw240_2)).trans hw240_2), ((HB.out.cell (World.block_lt_of_cell? w _ hw240_3)).trans hw240_3), ((HB.out.cell (World.block_lt_of_cell? w _ hw240_4)).trans hw240_4), ((HB.out.cell (World.block_lt_of_cell? w _ hw240_5)).trans hw240_5), ((HB.out.cell (World.block_lt_of_cell? w _ hw240_6)).trans hw240_6), ((HB.out.cell (World.block_lt_of_cell? w _ hw240_7)).trans hw240_7), ((HB.out.cell (World.block_lt_of_cell? w _ hw240_8)).trans hw240_8), ((HB.out.cell (World.block_lt_of_cell? w _ hw240_9)).trans hw240_9), ((HB.out.cell (World.block_lt_of_cell? w _ hw240_10)).trans hw240_10), ((HB.out.cell (World.block_lt_of_cell? w _ hw241_0)).trans hw241_0), ((HB.out.cell (World.block_lt_of_cell? w _ hw241_1)).trans hw241_1), ((HB.out.cell (World.block_lt_of_cell? w _ hw241_2)).trans hw241_2), ((HB.out.cell (World.block_lt_of_cell? w _ hw241_3)).trans hw241_3), ((HB.out.cell (World.block_lt_of_cell? w _ hw241_4)).trans hw241_4), ((HB.out.cell (World.block_lt_of_cell? w _ hw241_5)).trans hw241_5), ((HB.out.cell (World.block_lt_of_cell? w _ hw241_6)).trans hw241_6), ((HB.out.cell (World.block_lt_of_cell? w _ hw241_7)).trans hw241_7), ((HB.out.cell (World.block_lt_of_cell? w _ hw241_8)).trans hw241_8), ((HB.out.cell (World.block_lt_of_cell? w _ hw241_9)).trans hw241_9), ((HB.out.cell (World.block_lt_of_cell? w _ hw241_10)).trans hw241_10)⟩ (fun hHeld => ?_); refine with_tabW laws_eqAcctS.tab6 laws_eqAcctS.bits6 (fun HT_ HW_ => ?_)
                generalize wr.drew = w11 at HB HR240_10 HR240_5 HR240_8 HR240_9 HR241_10 HR241_5 HR241_8 HR241_9 hx240_0 hx240_1 hx240_10 hx240_2 hx240_3 hx240_4 hx240_5 hx240_6 hx240_7 hx240_8 hx240_9 hx241_0 hx241_1 hx241_10 hx241_2 hx241_3 hx241_4 hx241_5 hx241_6 hx241_7 hx241_8 hx241_9 hHeld ⊢
                refine pure_ (i := 0) (N := some 17) (v := ?_) (a' := ?_) #[true, false, false, false, false, false, false, false, false, false] rfl rfl (any_of HT_.out (by kernel_rfl)) (fun _ _ _ h => h) (Or.inl ⟨by rfl, ?_⟩) ?_ ?_
                rotate_left
                · intro w'
                  go_simp
                  with_reducible rfl
                rotate_left
                · simp only [Act.put, List.setIfInBounds_toArray, List.set_cons_zero, List.set_cons_succ, i64_w, i32_w]
                  rfl
                refine pure_ (i := 1) (N := some 18) (v := ?_) (a' := ?_) #[true, true, false, false, false, false, false, false, false, false] rfl rfl (any_of HT_.out (by kernel_rfl)) (fun _ _ _ h => h) (Or.inl ⟨by rfl, ?_⟩) ?_ ?_
                rotate_left
                · intro w'
                  go_simp
                  with_reducible rfl
                rotate_left
                · simp only [Act.put, List.setIfInBounds_toArray, List.set_cons_zero, List.set_cons_succ, i64_w, i32_w]
                  rfl
                refine pure_ (i := 2) (N := some 19) (v := ?_) (a' := ?_) #[true, true, true, false, false, false, false, false, false, false] rfl rfl (any_of HT_.out (by kernel_rfl)) (fun _ _ _ h => h) (Or.inl ⟨by rfl, ?_⟩) ?_ ?_
                rotate_left
                · intro w'
                  go_simp
                  with_reducible rfl
                rotate_left
                · simp only [Act.put, List.setIfInBounds_toArray, List.set_cons_zero, List.set_cons_succ, i64_w, i32_w]
                  rfl
                refine pure_ (i := 4) (N := some 21) (v := ?_) (a' := ?_) #[true, true, true, false, true, false, false, false, false, false] rfl rfl (any_of HT_.out (by kernel_rfl)) (fun _ _ _ h => h) (Or.inl ⟨by rfl, ?_⟩) ?_ ?_
                rotate_left
                · intro w'
                  go_simp
                  with_reducible rfl
                rotate_left
                · simp only [Act.put, List.setIfInBounds_toArray, List.set_cons_zero, List.set_cons_succ, i64_w, i32_w]
                  rfl
                refine pure_ (i := 5) (N := some 22) (v := ?_) (a' := ?_) #[true, true, true, false, true, true, false, false, false, false] rfl rfl (any_of HT_.out (by kernel_rfl)) (fun _ _ _ h => h) (Or.inl ⟨by rfl, ?_⟩) ?_ ?_
                rotate_left
                · intro w'
                  go_simp
                  with_reducible rfl
                rotate_left
                · simp only [Act.put, List.setIfInBounds_toArray, List.set_cons_zero, List.set_cons_succ, i64_w, i32_w]
                  rfl
                refine pure_ (i := 6) (N := some 23) (v := ?_) (a' := ?_) #[true, true, true, false, true, true, true, false, false, false] rfl rfl (any_of HT_.out (by kernel_rfl)) (fun _ _ _ h => h) (Or.inl ⟨by rfl, ?_⟩) ?_ ?_
                rotate_left
                · intro w'
                  go_simp
                  with_reducible rfl
                rotate_left
                · simp only [Act.put, List.setIfInBounds_toArray, List.set_cons_zero, List.set_cons_succ, i64_w, i32_w]
                  rfl
                refine take_ (i := 3) (N := some 20) (v := ?_) (a' := ?_) #[true, true, true, true, true, true, true, false, false, false] rfl rfl (take_ofW HT_.out HW_.out (by kernel_rfl)) (fun _ _ _ h => h) (Or.inl ⟨by rfl, ?_⟩) hHeld ?_ ?_
                rotate_left
                · rintro w' ⟨s0, s1, s2, s3, s4, s5, s6, s7, s8, s9, s10, s11, s12, s13, s14, s15, s16, s17, s18, s19, s20, s21⟩
                  go_simp
                  with_reducible rfl
                rotate_left
                · simp only [Act.put, List.setIfInBounds_toArray, List.set_cons_zero, List.set_cons_succ, i64_w, i32_w]
                  rfl
                refine take_ (i := 7) (N := some 24) (v := ?_) (a' := ?_) #[true, true, true, true, true, true, true, true, false, false] rfl rfl (take_ofW HT_.out HW_.out (by kernel_rfl)) (fun _ _ _ h => h) (Or.inl ⟨by rfl, ?_⟩) hHeld ?_ ?_
                rotate_left
                · rintro w' ⟨s0, s1, s2, s3, s4, s5, s6, s7, s8, s9, s10, s11, s12, s13, s14, s15, s16, s17, s18, s19, s20, s21⟩
                  go_simp
                  with_reducible rfl
                rotate_left
                · simp only [Act.put, List.setIfInBounds_toArray, List.set_cons_zero, List.set_cons_succ, i64_w, i32_w]
                  rfl
                refine one_ (i := 8) (N := some 25) #[true, true, true, true, true, true, true, true, true, false] rfl rfl (one_of HT_.out (by kernel_rfl)) (by decide) (fun K hK => ?_)
                refine goes_ Try.func53 (by kernel_rfl) rfl #[.agg #[.string ((rd_T85 l0 x5_1).f0), .int .i64 ((rd_T85 l0 x5_1).f1), .int .i64 ((rd_T85 l0 x5_1).f2), .int .i64 ((rd_T85 l0 x5_1).f3), .int .i64 ((rd_T85 l0 x5_1).f4), .slice A240_5 ((rd_T85 l0 x5_1).f5).length c240_5, .int .i64 ((rd_T85 l0 x5_1).f6.f0), .int .i64 ((rd_T85 l0 x5_1).f6.f1), .slice A240_8 ((rd_T85 l0 x5_1).f6.f2).length c240_8, .slice A240_9 ((rd_T85 l0 x5_1).f6.f3).length c240_9, .slice A240_10 ((rd_T85 l0 x5_1).f7).length c240_10], .agg #[.string ((rd_T85 l1 x5_1).f0), .int .i64 ((rd_T85 l1 x5_1).f1), .int .i64 ((rd_T85 l1 x5_1).f2), .int .i64 ((rd_T85 l1 x5_1).f3), .int .i64 ((rd_T85 l1 x5_1).f4), .slice A241_5 ((rd_T85 l1 x5_1).f5).length c241_5, .int .i64 ((rd_T85 l1 x5_1).f6.f0), .int .i64 ((rd_T85 l1 x5_1).f6.f1), .slice A241_8 ((rd_T85 l1 x5_1).f6.f2).length c241_8, .slice A241_9 ((rd_T85 l1 x5_1).f6.f3).length c241_9, .slice A241_10 ((rd_T85 l1 x5_1).f7).length c241_10]] (by rfl) rfl rfl gl_ ?_
                with_reducible refine (laws_eqAcct.calls k1 ((rd_T85 l0 x5_1).f0) ((rd_T85 l0 x5_1).f1) ((rd_T85 l0 x5_1).f2) ((rd_T85 l0 x5_1).f3) ((rd_T85 l0 x5_1).f4) _ _ ((rd_T85 l0 x5_1).f5) ((rd_T85 l0 x5_1).f6.f0) ((rd_T85 l0 x5_1).f6.f1) _ _ ((rd_T85 l0 x5_1).f6.f2) _ _ ((rd_T85 l0 x5_1).f6.f3) _ _ ((rd_T85 l0 x5_1).f7) ((rd_T85 l1 x5_1).f0) ((rd_T85 l1 x5_1).f1) ((rd_T85 l1 x5_1).f2) ((rd_T85 l1 x5_1).f3) ((rd_T85 l1 x5_1).f4) _ _ ((rd_T85 l1 x5_1).f5) ((rd_T85 l1 x5_1).f6.f0) ((rd_T85 l1 x5_1).f6.f1) _ _ ((rd_T85 l1 x5_1).f6.f2) _ _ ((rd_T85 l1 x5_1).f6.f3) _ _ ((rd_T85 l1 x5_1).f7) false _ ?side1 ?side2 ?side3 ?side4 ?side5 ?side6 ?side7 ?side8 ?side9 ?side10 ?side11 ?side12 ?side13 ?side14 ?side15 ?side16 A7.out).mono ?_
                (case side1 => exact ca_ (Kd.C_below HR240_5.out HB.out))
                (case side2 => exact HC240_5.out)
                (case side3 => exact ca_ (Kd.C_below HR240_8.out HB.out))
                (case side4 => exact HC240_8.out)
                (case side5 => exact ca_ (Kd.C_below HR240_9.out HB.out))
                (case side6 => exact HC240_9.out)
                (case side7 => exact ca_ (Kd.C_below HR240_10.out HB.out))
                (case side8 => exact HC240_10.out)
                (case side9 => exact ca_ (Kd.C_below HR241_5.out HB.out))
                (case side10 => exact HC241_5.out)
                (case side11 => exact ca_ (Kd.C_below HR241_8.out HB.out))
                (case side12 => exact HC241_8.out)
                (case side13 => exact ca_ (Kd.C_below HR241_9.out HB.out))
                (case side14 => exact HC241_9.out)
                (case side15 => exact ca_ (Kd.C_below HR241_10.out HB.out))
                (case side16 => exact HC241_10.out)
                rintro e w12 ⟨rfl, hb⟩
                refine ⟨_, rfl, ?_⟩
                have n0_ := Aside0.mk (below_step bl_ hb)
                clear HB
                have HB := n0_
                clear n0_
                (try clear hb)
                (try clear hb2)
                (try clear hk)
                (try clear hi)
                refine hK.out _ _ ⟨((HB.out.cell (World.block_lt_of_cell? w _ hw240_0)).trans hw240_0), ((HB.out.cell (World.block_lt_of_cell? w _ hw240_1)).trans hw240_1), ((HB.out.cell (World.block_lt_of_cell? w _ hw240_2)).trans hw240_2), ((HB.out.cell (World.block_lt_of_cell? w _ hw240_3)).trans hw240_3), ((HB.out.cell (World.block_lt_of_cell? w _ hw240_4)).trans hw240_4), ((HB.out.cell (World.block_lt_of_cell? w _ hw240_5)).trans hw240_5), ((HB.out.cell (World.block_lt_of_cell? w _ hw240_6)).trans hw240_6), ((HB.out.cell (World.block_lt_of_cell? w _ hw240_7)).trans hw240_7), ((HB.out.cell (World.block_lt_of_cell? w _ hw240_8)).trans hw240_8), ((HB.out.cell (World.block_lt_of_cell? w _ hw240_9)).trans hw240_9), ((HB.out.cell (World.block_lt_of_cell? w _ hw240_10)).trans hw240_10), ((HB.out.cell (World.block_lt_of_cell? w _ hw241_0)).trans hw241_0), ((HB.out.cell (World.block_lt_of_cell? w _ hw241_1)).trans hw241_1), ((HB.out.cell (World.block_lt_of_cell? w _ hw241_2)).trans hw241_2), ((HB.out.cell (World.block_lt_of_cell? w _ hw241_3)).trans hw241_3), ((HB.out.cell (World.block_lt_of_cell? w _ hw241_4)).trans hw241_4), ((HB.out.cell (World.block_lt_of_cell? w _ hw241_5)).trans hw241_5), ((HB.out.cell (World.block_lt_of_cell? w _ hw241_6)).trans hw241_6), ((HB.out.cell (World.block_lt_of_cell? w _ hw241_7)).trans hw241_7), ((HB.out.cell (World.block_lt_of_cell? w _ hw241_8)).trans hw241_8), ((HB.out.cell (World.block_lt_of_cell? w _ hw241_9)).trans hw241_9), ((HB.out.cell (World.block_lt_of_cell? w _ hw241_10)).trans hw241_10)⟩ (fun hHeld => ?_)
                clear hK K
                refine norm_ (a' := ?_) ?_ ?_
                rotate_left
                · show Act.put _ (some 25) _ = _
                  simp only [Act.put, List.setIfInBounds_toArray, List.set_cons_zero, List.set_cons_succ, i64_w, i32_w]
                  rfl
                refine pure_ (i := 9) (N := some 26) (v := ?_) (a' := ?_) #[true, true, true, true, true, true, true, true, true, true] rfl rfl (any_of HT_.out (by kernel_rfl)) (fun _ _ _ h => h) (Or.inl ⟨by rfl, ?_⟩) ?_ ?_
                rotate_left
                · intro w'
                  go_simp
                  with_reducible rfl
                rotate_left
                · simp only [Act.put, List.setIfInBounds_toArray, List.set_cons_zero, List.set_cons_succ, i64_w, i32_w]
                  rfl
                refine done_ (done_of HT_.out (by kernel_rfl)) ?_
                try go_wp2
                go_ret
                exact ⟨by first | rfl | (simp [errW_none, errW_some] <;> rfl) | (simp [*, errW_none, errW_some] <;> rfl), bl_⟩
            · rw [if_neg c6] at H
              exact absurd H (by simp)
          · rw [if_neg c5] at H
            exact absurd H (by simp)
        · rw [if_neg c4] at H
          have c4b0 : decide (x5_1 < (l0.length : Int)) = false := decide_eq_false c4
          clear c4
          obtain rfl := Option.some.inj H
          go_wp2
          go_ret
          exact ⟨by first | rfl | (simp [errW_none, errW_some] <;> rfl) | (simp [*, errW_none, errW_some] <;> rfl), bl_⟩
  · rw [if_neg c3] at H
    have c3b0 : ((l0.length : Int) == (l1.length : Int)) = false := beq_eq_false_iff_ne.mpr c3
    have c3b1 : ((l0.length : Int) != (l1.length : Int)) = true := bne_iff_ne.mpr c3
    have c3b2 : (l0.length == l1.length) = false := by first | simpa using c3 | (simp at c3 ⊢; omega)
    obtain rfl := Option.some.inj H
    go_enter Try.func109, Try.ntmps109
    go_wp2
    go_ret
    exact ⟨by first | rfl | (simp [errW_none, errW_some] <;> rfl) | (simp [*, errW_none, errW_some] <;> rfl), bl_⟩

/-! ### laws_eqBook: function 48 -/
def laws_eqBook.f (k : Nat) (l0_0 : List (S85)) (l1_0 : List (S85)) : Option (Bool) := (laws_eqAcctS.f k l0_0 l1_0).bind fun t245 => (if t245 = true then (some true) else (some false))
theorem laws_eqBook.mono : ∀ a0 a1 k, LeO (laws_eqBook.f k a0 a1) (laws_eqBook.f (k + 1) a0 a1) := by
  intro a0 a1 k
  unfold laws_eqBook.f
  repeat' first
      | (with_reducible exact laws_eqAcctS.mono _ _ _)
      | (with_reducible exact LeO.refl _)
      | (with_reducible exact LeO.none _)
      | (with_reducible refine LeO.ite ?_ ?_)
      | (with_reducible refine LeO.bind ?_ (fun _ => ?_))
      | exact laws_eqAcctS.mono _ _ _
      | exact LeO.none _
      | refine LeO.ite ?_ ?_
      | refine LeO.bind ?_ (fun _ => ?_)
set_option maxHeartbeats 8000000 in
set_option maxRecDepth 100000 in
theorem laws_eqBook.calls (k : Nat) (A0_0 : Option Addr) (c0_0 : Nat) (l0_0 : List (S85)) (A1_0 : Option Addr) (c1_0 : Nat) (l1_0 : List (S85)) (r : Bool) (w : World) (hr0_0 : Kd.C k85 w A0_0 l0_0.length l0_0) (hc0_0 : l0_0.length ≤ c0_0) (hr1_0 : Kd.C k85 w A1_0 l1_0.length l1_0) (hc1_0 : l1_0.length ≤ c1_0) (h : laws_eqBook.f k l0_0 l1_0 = some r) :
    Calls Try.prog 48 #[.agg #[.slice A0_0 l0_0.length c0_0], .agg #[.slice A1_0 l1_0.length c1_0]] w fun e w' => e = .returned (.bool r) ∧ Below w.heap.size w w' := by
  have hu72 := Try.underlying72
  have HR0_0 := Aside0.mk hr0_0
  have HC0_0 := Aside0.mk hc0_0
  clear hr0_0 hc0_0
  have HR1_0 := Aside0.mk hr1_0
  have HC1_0 := Aside0.mk hc1_0
  clear hr1_0 hc1_0
  have HB := Aside0.mk (Below.refl w.heap.size w)
  have H : ((laws_eqAcctS.f k l0_0 l1_0).bind fun t245 => (if t245 = true then (some true) else (some false))) = some r := h
  clear h
  replace H := Option.bind_eq_some_iff.mp H
  obtain ⟨t245, A30, H⟩ := H
  replace H : (if t245 = true then (some true) else (some false)) = some r := H
  have A3 := Aside0.mk A30
  clear A30
  by_cases c4 : t245 = true
  · subst c4
    have H1 : (some true) = some r := by rw [if_pos rfl] at H; exact H
    clear H
    have H := H1
    clear H1
    obtain rfl := Option.some.inj H
    go_enter Try.func48, Try.ntmps48
    go_wp2_with (first | ((with_reducible refine gate_dst (N := 2) rfl ?_); refine box_event ?hg (N := 2) ?hd (cs := #[.slice A0_0 l0_0.length c0_0]) (t := 72) ?hr ?_; (case hd => rfl); (case hg => rfl); (case hr => first | (go_simp; done) | (go_simp; rfl)); intro gb243 hg w5 hbox hb; have n0_ := Aside0.mk (below_step bl_ hb); have n1_ := Aside0.mk (hbox); have n2_ := Aside0.mk ((by rw [hg]; exact (below_size bl_) : w.heap.size ≤ gb243)); have n3_ := Aside0.mk ((by rw [hg]; exact (below_size bl_) : w.heap.size ≤ gb243)); clear HB; have HB := n0_; have BK243 := n1_; have GW243 := n2_; have GE243 := n3_; clear n0_ n1_ n2_ n3_; clear hb hbox hg) | ((with_reducible refine gate_dst (N := 3) rfl ?_); refine box_event ?hg (N := 3) ?hd (cs := #[.slice A1_0 l1_0.length c1_0]) (t := 72) ?hr ?_; (case hd => rfl); (case hg => rfl); (case hr => first | (go_simp; done) | (go_simp; rfl)); intro gb244 hg w6 hbox hb; have n0_ := Aside0.mk (blk_below (bk_ BK243) hb); have n1_ := Aside0.mk (below_step bl_ hb); have n2_ := Aside0.mk (hbox); have n3_ := Aside0.mk ((by rw [hg]; exact (below_size bl_) : w.heap.size ≤ gb244)); have n4_ := Aside0.mk ((by rw [hg]; exact (below_size bl_) : w.heap.size ≤ gb244)); have n5_ := Aside0.mk ((by rw [hg]; exact Nat.ne_of_lt (blk_lt (bk_ BK243)) : gb243 ≠ gb244)); have n6_ := Aside0.mk ((by rw [hg]; exact Nat.ne_of_gt (blk_lt (bk_ BK243)) : gb244 ≠ gb243)); clear BK243; clear HB; have BK243 := n0_; have HB := n1_; have BK244 := n2_; have GW244 := n3_; have GE244 := n4_; have NB243_244 := n5_; have NB244_243 := n6_; clear n0_ n1_ n2_ n3_ n4_ n5_ n6_; clear hb hbox hg; have hnb7 := NB243_244.out; have hnc7 := NB244_243.out; have hcz8_0 : w6.cell? ⟨gb243, 0, none⟩ = some (.slice A0_0 l0_0.length c0_0) := (blk_cell BK243.out 0).trans rfl; have hfz8_0 := blk_frozen BK243.out 0; have hcz9_0 : w6.cell? ⟨gb244, 0, none⟩ = some (.slice A1_0 l1_0.length c1_0) := (blk_cell BK244.out 0).trans rfl; have hfz9_0 := blk_frozen BK244.out 0) | ((with_reducible refine gate_callee (f := 109) rfl ?_); refine goesL_ (some 9) rfl rfl Try.func109 (by kernel_rfl) rfl #[.slice A0_0 l0_0.length c0_0, .slice A1_0 l1_0.length c1_0] rfl gl_ ?_; (with_reducible refine (laws_eqAcctS.calls k _ _ l0_0 _ _ l1_0 true _ ?side1 ?side2 ?side3 ?side4 A3.out).mono ?_); (case side1 => exact ca_ (Kd.C_below HR0_0.out HB.out)); (case side2 => exact HC0_0.out); (case side3 => exact ca_ (Kd.C_below HR1_0.out HB.out)); (case side4 => exact HC1_0.out); rintro e w10 ⟨rfl, hb⟩; refine ⟨_, rfl, ?_⟩; have n0_ := Aside0.mk (blk_below (bk_ BK243) hb); have n1_ := Aside0.mk (blk_below (bk_ BK244) hb); have n2_ := Aside0.mk (below_step bl_ hb); clear BK243; clear BK244; clear HB; have BK243 := n0_; have BK244 := n1_; have HB := n2_; clear n0_ n1_ n2_; (try clear hb); (try clear hb2); (try clear hk); (try clear hi)))
    go_ret
    exact ⟨by first | rfl | (simp [errW_none, errW_some] <;> rfl) | (simp [*, errW_none, errW_some] <;> rfl), bl_⟩
  · replace c4 := Bool.eq_false_iff.mpr c4
    subst c4
    have H1 : (some false) = some r := by rw [if_neg (show ¬ (false = true) by decide)] at H; exact H
    clear H
    have H := H1
    clear H1
    obtain rfl := Option.some.inj H
    go_enter Try.func48, Try.ntmps48
    go_wp2_with (first | ((with_reducible refine gate_dst (N := 2) rfl ?_); refine box_event ?hg (N := 2) ?hd (cs := #[.slice A0_0 l0_0.length c0_0]) (t := 72) ?hr ?_; (case hd => rfl); (case hg => rfl); (case hr => first | (go_simp; done) | (go_simp; rfl)); intro gb243 hg w11 hbox hb; have n0_ := Aside0.mk (below_step bl_ hb); have n1_ := Aside0.mk (hbox); have n2_ := Aside0.mk ((by rw [hg]; exact (below_size bl_) : w.heap.size ≤ gb243)); have n3_ := Aside0.mk ((by rw [hg]; exact (below_size bl_) : w.heap.size ≤ gb243)); clear HB; have HB := n0_; have BK243 := n1_; have GW243 := n2_; have GE243 := n3_; clear n0_ n1_ n2_ n3_; clear hb hbox hg) | ((with_reducible refine gate_dst (N := 3) rfl ?_); refine box_event ?hg (N := 3) ?hd (cs := #[.slice A1_0 l1_0.length c1_0]) (t := 72) ?hr ?_; (case hd => rfl); (case hg => rfl); (case hr => first | (go_simp; done) | (go_simp; rfl)); intro gb244 hg w12 hbox hb; have n0_ := Aside0.mk (blk_below (bk_ BK243) hb); have n1_ := Aside0.mk (below_step bl_ hb); have n2_ := Aside0.mk (hbox); have n3_ := Aside0.mk ((by rw [hg]; exact (below_size bl_) : w.heap.size ≤ gb244)); have n4_ := Aside0.mk ((by rw [hg]; exact (below_size bl_) : w.heap.size ≤ gb244)); have n5_ := Aside0.mk ((by rw [hg]; exact Nat.ne_of_lt (blk_lt (bk_ BK243)) : gb243 ≠ gb244)); have n6_ := Aside0.mk ((by rw [hg]; exact Nat.ne_of_gt (blk_lt (bk_ BK243)) : gb244 ≠ gb243)); clear BK243; clear HB; have BK243 := n0_; have HB := n1_; have BK244 := n2_; have GW244 := n3_; have GE244 := n4_; have NB243_244 := n5_; have NB244_243 := n6_; clear n0_ n1_ n2_ n3_ n4_ n5_ n6_; clear hb hbox hg; have hnb13 := NB243_244.out; have hnc13 := NB244_243.out; have hcz14_0 : w12.cell? ⟨gb243, 0, none⟩ = some (.slice A0_0 l0_0.length c0_0) := (blk_cell BK243.out 0).trans rfl; have hfz14_0 := blk_frozen BK243.out 0; have hcz15_0 : w12.cell? ⟨gb244, 0, none⟩ = some (.slice A1_0 l1_0.length c1_0) := (blk_cell BK244.out 0).trans rfl; have hfz15_0 := blk_frozen BK244.out 0) | ((with_reducible refine gate_callee (f := 109) rfl ?_); refine goesL_ (some 9) rfl rfl Try.func109 (by kernel_rfl) rfl #[.slice A0_0 l0_0.length c0_0, .slice A1_0 l1_0.length c1_0] rfl gl_ ?_; (with_reducible refine (laws_eqAcctS.calls k _ _ l0_0 _ _ l1_0 false _ ?side1 ?side2 ?side3 ?side4 A3.out).mono ?_); (case side1 => exact ca_ (Kd.C_below HR0_0.out HB.out)); (case side2 => exact HC0_0.out); (case side3 => exact ca_ (Kd.C_below HR1_0.out HB.out)); (case side4 => exact HC1_0.out); rintro e w16 ⟨rfl, hb⟩; refine ⟨_, rfl, ?_⟩; have n0_ := Aside0.mk (blk_below (bk_ BK243) hb); have n1_ := Aside0.mk (blk_below (bk_ BK244) hb); have n2_ := Aside0.mk (below_step bl_ hb); clear BK243; clear BK244; clear HB; have BK243 := n0_; have BK244 := n1_; have HB := n2_; clear n0_ n1_ n2_; (try clear hb); (try clear hb2); (try clear hk); (try clear hi)))
    go_ret
    exact ⟨by first | rfl | (simp [errW_none, errW_some] <;> rfl) | (simp [*, errW_none, errW_some] <;> rfl), bl_⟩

end Go.Proofs.Ytcojjdfbdgpajaa.QFnExactBookAt
