-- by my own printer (myprint.py, over the kit's print.py)
import Derived.Test.YtgcggfoailaalaaQFnExactUnlockedx0
import Derived.Test.YtgcggfoailaalaaQFnExactUnlockedx4
import Derived.Test.YtgcggfoailaalaaQFnExactUnlockedx5
namespace Go.Proofs.Ytgcggfoailaalaa.QFnExactUnlocked
open Go.RowKit Go.Proofs.YtgcggfoailaalaaW.PrintWords Go.Proofs.YtgcggfoailaalaaW.PrintLast Go.Proofs.YtgcggfoailaalaaW.PrintMore
attribute [local go_sem] max2_int min2_int max_two min_two max_three min_three max_four min_four   -- for this text's walks alone
set_option linter.unusedVariables false
set_option linter.unusedSimpArgs false

attribute [local go_sem] my_geq my_leq my_gtr
/-! ### laws_eqSlotS: function 80 -/
def laws_eqSlotS.l0 : Nat → List (S144) → List (S144) → Int → Option (Bool)
  | 0, _, _, _ => none
  | k + 1, x0, x1, x5 => if x5 < (x0.length : Int) then (if 0 ≤ x5 then (if x5 < (x1.length : Int) then ((laws_eqSlot.f k ((rd_T144 x0 x5).f0) ((rd_T144 x0 x5).f1) ((rd_T144 x0 x5).f2) ((rd_T144 x1 x5).f0) ((rd_T144 x1 x5).f1) ((rd_T144 x1 x5).f2)).bind fun t300 => (if t300 = true then (laws_eqSlotS.l0 k x0 x1 (wrap64 (x5 + 1))) else (some false))) else (none)) else (none)) else (some true)
def laws_eqSlotS.f (k : Nat) (l0 : List (S144)) (l1 : List (S144)) : Option (Bool) := if (l0.length : Int) = (l1.length : Int) then (laws_eqSlotS.l0 k l0 l1 0) else (some false)
theorem laws_eqSlotS.mono_l : ∀ k, (∀ y0 y1 y2, LeO (laws_eqSlotS.l0 k y0 y1 y2) (laws_eqSlotS.l0 (k + 1) y0 y1 y2))
  | 0 => fun _ _ _ r h => by simp [laws_eqSlotS.l0] at h
  | k + 1 => by
    have ih0 := laws_eqSlotS.mono_l k
    · intro y0 y1 y2
      unfold laws_eqSlotS.l0
      repeat' first
      | (with_reducible exact ih0 _ _ _)
      | (with_reducible exact laws_eqSlot.mono _ _ _ _ _ _ _)
      | (with_reducible exact LeO.refl _)
      | (with_reducible exact LeO.none _)
      | (with_reducible refine LeO.ite ?_ ?_)
      | (with_reducible refine LeO.bind ?_ (fun _ => ?_))
      | exact ih0 _ _ _
      | exact laws_eqSlot.mono _ _ _ _ _ _ _
      | exact LeO.none _
      | refine LeO.ite ?_ ?_
      | refine LeO.bind ?_ (fun _ => ?_)
theorem laws_eqSlotS.mono : ∀ a0 a1 k, LeO (laws_eqSlotS.f k a0 a1) (laws_eqSlotS.f (k + 1) a0 a1) := by
  intro a0 a1 k
  have ih0 := laws_eqSlotS.mono_l k
  unfold laws_eqSlotS.f
  repeat' first
      | (with_reducible exact ih0 _ _ _)
      | (with_reducible exact laws_eqSlot.mono _ _ _ _ _ _ _)
      | (with_reducible exact LeO.refl _)
      | (with_reducible exact LeO.none _)
      | (with_reducible refine LeO.ite ?_ ?_)
      | (with_reducible refine LeO.bind ?_ (fun _ => ?_))
      | exact ih0 _ _ _
      | exact laws_eqSlot.mono _ _ _ _ _ _ _
      | exact LeO.none _
      | refine LeO.ite ?_ ?_
      | refine LeO.bind ?_ (fun _ => ?_)
def laws_eqSlotS.T6 : Bool × List (List Nat × List Nat) := (true, [([], []), ([], []), ([0, 1], [0, 1]), ([2], [2]), ([], []), ([], []), ([4, 5], [4, 5]), ([6], [6]), ([3, 7], [3, 7]), ([8], [8])])
def laws_eqSlotS.B6 : List Nat := [0, 0, 3, 7, 0, 0, 48, 112, 255, 511]
theorem laws_eqSlotS.tab6 : rtab .any (opsOf Try.f80 6) = laws_eqSlotS.T6 := by kernel_rfl
theorem laws_eqSlotS.bits6 : waitsOk laws_eqSlotS.T6.2 laws_eqSlotS.B6 = true := by kernel_rfl
set_option maxHeartbeats 8000000 in
set_option maxRecDepth 100000 in
theorem laws_eqSlotS.calls (k : Nat) (A0 : Option Addr) (c0 : Nat) (l0 : List (S144)) (A1 : Option Addr) (c1 : Nat) (l1 : List (S144)) (r : Bool) (w : World) (hr0 : Kd.C k144 w A0 l0.length l0) (hc0 : l0.length ≤ c0) (hr1 : Kd.C k144 w A1 l1.length l1) (hc1 : l1.length ≤ c1) (h : laws_eqSlotS.f k l0 l1 = some r) :
    Calls Try.prog 80 #[.slice A0 l0.length c0, .slice A1 l1.length c1] w fun e w' => e = .returned (.bool r) ∧ Below w.heap.size w w' := by
  have hu144 := Try.underlying144
  have HR0 := Aside0.mk hr0
  have HC0 := Aside0.mk hc0
  clear hr0 hc0
  have HR1 := Aside0.mk hr1
  have HC1 := Aside0.mk hc1
  clear hr1 hc1
  have HB := Aside0.mk (Below.refl w.heap.size w)
  have H : (if (l0.length : Int) = (l1.length : Int) then (laws_eqSlotS.l0 k l0 l1 0) else (some false)) = some r := h
  clear h
  by_cases c3 : (l0.length : Int) = (l1.length : Int)
  · rw [if_pos c3] at H
    have c3b0 : ((l0.length : Int) == (l1.length : Int)) = true := beq_iff_eq.mpr c3
    have c3b1 : ((l0.length : Int) != (l1.length : Int)) = false := bne_eq_false_iff_eq.mpr c3
    have c3b2 : (l0.length == l1.length) = true := by first | simpa using c3 | (simp at c3 ⊢; omega)
    clear c3
    have H' := Aside0.mk H
    clear H
    go_enter Try.func80, Try.ntmps80
    go_wp2
    go_loopg [5] k (fun kq v5 w' => ∃ (x5_1 : Int), v5 = .int .i64 x5_1 ∧ Aside0 (laws_eqSlotS.l0 kq l0 l1 x5_1 = some r) ∧ Aside0 (kq ≤ k) ∧ Aside0 (Below w.heap.size w w'))
    case atStart => exact ⟨(0), sp_, H', ⟨Nat.le_refl _⟩, ⟨bl_⟩⟩
    case round =>
      clear H'
      try clear c1
      try clear p2
      try clear c3
      try clear c3b0
      try clear c3b1
      try clear c3b2
      obtain ⟨x5_1, rfl, HA, HK1, HB⟩ := hrel
      cases gk with
      | zero => exact absurd HA.out (by simp [laws_eqSlotS.l0])
      | succ k1 =>
        have H := HA.out
        clear HA
        simp only [laws_eqSlotS.l0] at H
        by_cases c4 : x5_1 < (l0.length : Int)
        · rw [if_pos c4] at H
          have c4b0 : decide (x5_1 < (l0.length : Int)) = true := decide_eq_true c4
          clear c4
          by_cases c5 : 0 ≤ x5_1
          · rw [if_pos c5] at H
            have c5b0 : decide (0 ≤ x5_1) = true := decide_eq_true c5
            clear c5
            by_cases c6 : x5_1 < (l1.length : Int)
            · rw [if_pos c6] at H
              have c6b0 : decide (x5_1 < (l1.length : Int)) = true := decide_eq_true c6
              clear c6
              replace H := Option.bind_eq_some_iff.mp H
              obtain ⟨t300, A70, H⟩ := H
              replace H : (if t300 = true then (laws_eqSlotS.l0 k1 l0 l1 (wrap64 (x5_1 + 1))) else (some false)) = some r := H
              have A7 := Aside0.mk A70
              clear A70
              by_cases c8 : t300 = true
              · subst c8
                have H1 : (laws_eqSlotS.l0 k1 l0 l1 (wrap64 (x5_1 + 1))) = some r := by rw [if_pos rfl] at H; exact H
                clear H
                have H := H1
                clear H1
                have H' := Aside0.mk H
                clear H
                try go_wp2
                have n0_ := Aside0.mk (below_drew1 HB.out)
                clear HB
                have HB := n0_
                clear n0_
                have p298 : 0 ≤ (x5_1 : Int) := of_decide_eq_true (by first | (with_reducible assumption) | assumption)
                have q298 : x5_1 < (l0.length : Int) := of_decide_eq_true (by first | (with_reducible assumption) | assumption)
                obtain ⟨ad298, A298_2, c298_2, e298, hx298_0, hx298_1, hx298_2, hl298_2, hi298_2⟩ := at_T144 HR0.out x5_1 p298 q298
                have hw298_2 := hx298_2
                have hw298_1 := hx298_1
                have hw298_0 := hx298_0
                cases e298
                replace hx298_0 := (HB.out.cell (World.block_lt_of_cell? w _ hx298_0)).trans hx298_0
                replace hx298_1 := (HB.out.cell (World.block_lt_of_cell? w _ hx298_1)).trans hx298_1
                replace hx298_2 := (HB.out.cell (World.block_lt_of_cell? w _ hx298_2)).trans hx298_2
                have HR298_2 := Aside0.mk hi298_2
                have HC298_2 := Aside0.mk hl298_2
                clear hi298_2 hl298_2
                replace p298 := eq_true p298
                replace q298 := eq_true q298
                have p299 : 0 ≤ (x5_1 : Int) := of_decide_eq_true (by first | (with_reducible assumption) | assumption)
                have q299 : x5_1 < (l1.length : Int) := of_decide_eq_true (by first | (with_reducible assumption) | assumption)
                obtain ⟨ad299, A299_2, c299_2, e299, hx299_0, hx299_1, hx299_2, hl299_2, hi299_2⟩ := at_T144 HR1.out x5_1 p299 q299
                have hw299_2 := hx299_2
                have hw299_1 := hx299_1
                have hw299_0 := hx299_0
                cases e299
                replace hx299_0 := (HB.out.cell (World.block_lt_of_cell? w _ hx299_0)).trans hx299_0
                replace hx299_1 := (HB.out.cell (World.block_lt_of_cell? w _ hx299_1)).trans hx299_1
                replace hx299_2 := (HB.out.cell (World.block_lt_of_cell? w _ hx299_2)).trans hx299_2
                have HR299_2 := Aside0.mk hi299_2
                have HC299_2 := Aside0.mk hl299_2
                clear hi299_2 hl299_2
                replace p299 := eq_true p299
                replace q299 := eq_true q299
                refine start_ (n := 10) (S := fun w' => w'.cell? (ad298.add ((x5_1).toNat * 3)) = some (.string ((rd_T144 l0 x5_1).f0)) ∧ w'.cell? ⟨(ad298.add ((x5_1).toNat * 3)).block, (ad298.add ((x5_1).toNat * 3)).off + 1, none⟩ = some (.string ((rd_T144 l0 x5_1).f1)) ∧ w'.cell? ⟨(ad298.add ((x5_1).toNat * 3)).block, (ad298.add ((x5_1).toNat * 3)).off + 2, none⟩ = some (.slice A298_2 ((rd_T144 l0 x5_1).f2).length c298_2) ∧ w'.cell? (ad299.add ((x5_1).toNat * 3)) = some (.string ((rd_T144 l1 x5_1).f0)) ∧ w'.cell? ⟨(ad299.add ((x5_1).toNat * 3)).block, (ad299.add ((x5_1).toNat * 3)).off + 1, none⟩ = some (.string ((rd_T144 l1 x5_1).f1)) ∧ w'.cell? ⟨(ad299.add ((x5_1).toNat * 3)).block, (ad299.add ((x5_1).toNat * 3)).off + 2, none⟩ = some (.slice A299_2 ((rd_T144 l1 x5_1).f2).length c299_2)) (ds := []) #[false, false, false, false, false, false, false, false, false, false] (by kernel_rfl) rfl rfl ⟨((HB.out.cell (World.block_lt_of_cell? w _ hw298_0)).trans hw298_0), ((HB.out.cell (World.block_lt_of_cell? w _ hw298_1)).trans hw298_1), ((HB.out.cell (World.block_lt_of_cell? w _ hw298_2)).trans hw298_2), ((HB.out.cell (World.block_lt_of_cell? w _ hw299_0)).trans hw299_0), ((HB.out.cell (World.block_lt_of_cell? w _ hw299_1)).trans hw299_1), ((HB.out.cell (World.block_lt_of_cell? w _ hw299_2)).trans hw299_2)⟩ (fun hHeld => ?_); refine with_tabW laws_eqSlotS.tab6 laws_eqSlotS.bits6 (fun HT_ HW_ => ?_)
                generalize wr.drew = w9 at HB HR298_2 HR299_2 hx298_0 hx298_1 hx298_2 hx299_0 hx299_1 hx299_2 hHeld ⊢
                refine pure_ (i := 0) (N := some 17) (v := ?_) (a' := ?_) #[true, false, false, false, false, false, false, false, false, false] rfl rfl (any_of HT_.out (by kernel_rfl)) (fun _ _ _ h => h) (Or.inl ⟨by rfl, ?_⟩) ?_ ?_
                rotate_left
                · intro w'
                  go_simp
                  with_reducible rfl
                rotate_left
                · simp only [Act.put, List.setIfInBounds_toArray, List.set_cons_zero, List.set_cons_succ, i64_w, i32_w]
                  rfl
                refine pure_ (i := 1) (N := some 18) (v := ?_) (a' := ?_) #[true, true, false, false, false, false, false, false, false, false] rfl rfl (any_of HT_.out (by kernel_rfl)) (fun _ _ _ h => h) (Or.inl ⟨by rfl, ?_⟩) ?_ ?_
                rotate_left
                · intro w'
                  go_simp
                  with_reducible rfl
                rotate_left
                · simp only [Act.put, List.setIfInBounds_toArray, List.set_cons_zero, List.set_cons_succ, i64_w, i32_w]
                  rfl
                refine pure_ (i := 2) (N := some 19) (v := ?_) (a' := ?_) #[true, true, true, false, false, false, false, false, false, false] rfl rfl (any_of HT_.out (by kernel_rfl)) (fun _ _ _ h => h) (Or.inl ⟨by rfl, ?_⟩) ?_ ?_
                rotate_left
                · intro w'
                  go_simp
                  with_reducible rfl
                rotate_left
                · simp only [Act.put, List.setIfInBounds_toArray, List.set_cons_zero, List.set_cons_succ, i64_w, i32_w]
                  rfl
                refine pure_ (i := 4) (N := some 21) (v := ?_) (a' := ?_) #[true, true, true, false, true, false, false, false, false, false] rfl rfl (any_of HT_.out (by kernel_rfl)) (fun _ _ _ h => h) (Or.inl ⟨by rfl, ?_⟩) ?_ ?_
                rotate_left
                · intro w'
                  go_simp
                  with_reducible rfl
                rotate_left
                · simp only [Act.put, List.setIfInBounds_toArray, List.set_cons_zero, List.set_cons_succ, i64_w, i32_w]
                  rfl
                refine pure_ (i := 5) (N := some 22) (v := ?_) (a' := ?_) #[true, true, true, false, true, true, false, false, false, false] rfl rfl (any_of HT_.out (by kernel_rfl)) (fun _ _ _ h => h) (Or.inl ⟨by rfl, ?_⟩) ?_ ?_
                rotate_left
                · intro w'
                  go_simp
                  with_reducible rfl
                rotate_left
                · simp only [Act.put, List.setIfInBounds_toArray, List.set_cons_zero, List.set_cons_succ, i64_w, i32_w]
                  rfl
                refine pure_ (i := 6) (N := some 23) (v := ?_) (a' := ?_) #[true, true, true, false, true, true, true, false, false, false] rfl rfl (any_of HT_.out (by kernel_rfl)) (fun _ _ _ h => h) (Or.inl ⟨by rfl, ?_⟩) ?_ ?_
                rotate_left
                · intro w'
                  go_simp
                  with_reducible rfl
                rotate_left
                · simp only [Act.put, List.setIfInBounds_toArray, List.set_cons_zero, List.set_cons_succ, i64_w, i32_w]
                  rfl
                refine take_ (i := 3) (N := some 20) (v := ?_) (a' := ?_) #[true, true, true, true, true, true, true, false, false, false] rfl rfl (take_ofW HT_.out HW_.out (by kernel_rfl)) (fun _ _ _ h => h) (Or.inl ⟨by rfl, ?_⟩) hHeld ?_ ?_
                rotate_left
                · rintro w' ⟨s0, s1, s2, s3, s4, s5⟩
                  go_simp
                  with_reducible rfl
                rotate_left
                · simp only [Act.put, List.setIfInBounds_toArray, List.set_cons_zero, List.set_cons_succ, i64_w, i32_w]
                  rfl
                refine take_ (i := 7) (N := some 24) (v := ?_) (a' := ?_) #[true, true, true, true, true, true, true, true, false, false] rfl rfl (take_ofW HT_.out HW_.out (by kernel_rfl)) (fun _ _ _ h => h) (Or.inl ⟨by rfl, ?_⟩) hHeld ?_ ?_
                rotate_left
                · rintro w' ⟨s0, s1, s2, s3, s4, s5⟩
                  go_simp
                  with_reducible rfl
                rotate_left
                · simp only [Act.put, List.setIfInBounds_toArray, List.set_cons_zero, List.set_cons_succ, i64_w, i32_w]
                  rfl
                refine one_ (i := 8) (N := some 25) #[true, true, true, true, true, true, true, true, true, false] rfl rfl (one_of HT_.out (by kernel_rfl)) (by decide) (fun K hK => ?_)
                refine goes_ Try.func138 (by kernel_rfl) rfl #[.agg #[.string ((rd_T144 l0 x5_1).f0), .string ((rd_T144 l0 x5_1).f1), .slice A298_2 ((rd_T144 l0 x5_1).f2).length c298_2], .agg #[.string ((rd_T144 l1 x5_1).f0), .string ((rd_T144 l1 x5_1).f1), .slice A299_2 ((rd_T144 l1 x5_1).f2).length c299_2]] (by rfl) rfl rfl (by (try simp only [List.map_toArray, List.map_cons, List.map_nil]); first | done | rfl | (simp only [List.length_drop, List.length_take]; rfl)) ?_
                with_reducible refine (laws_eqSlot.calls k1 ((rd_T144 l0 x5_1).f0) ((rd_T144 l0 x5_1).f1) _ _ ((rd_T144 l0 x5_1).f2) ((rd_T144 l1 x5_1).f0) ((rd_T144 l1 x5_1).f1) _ _ ((rd_T144 l1 x5_1).f2) true _ ?side1 ?side2 ?side3 ?side4 A7.out).mono ?_
                (case side1 => repeat (first | exact (Kd.C_below HR298_2.out HB.out) | (with_reducible refine Kd.C_alloc ?_ _) | (with_reducible refine Kd.C_drewN ?_ _) | (with_reducible refine Kd.C_drew ?_)))
                (case side2 => exact HC298_2.out)
                (case side3 => repeat (first | exact (Kd.C_below HR299_2.out HB.out) | (with_reducible refine Kd.C_alloc ?_ _) | (with_reducible refine Kd.C_drewN ?_ _) | (with_reducible refine Kd.C_drew ?_)))
                (case side4 => exact HC299_2.out)
                rintro e w10 ⟨rfl, hb⟩
                refine ⟨_, rfl, ?_⟩
                have n0_ := Aside0.mk (below_step bl_ hb)
                clear HB
                have HB := n0_
                clear n0_
                (try clear hb)
                (try clear hb2)
                (try clear hk)
                (try clear hi)
                refine hK.out _ _ ⟨((HB.out.cell (World.block_lt_of_cell? w _ hw298_0)).trans hw298_0), ((HB.out.cell (World.block_lt_of_cell? w _ hw298_1)).trans hw298_1), ((HB.out.cell (World.block_lt_of_cell? w _ hw298_2)).trans hw298_2), ((HB.out.cell (World.block_lt_of_cell? w _ hw299_0)).trans hw299_0), ((HB.out.cell (World.block_lt_of_cell? w _ hw299_1)).trans hw299_1), ((HB.out.cell (World.block_lt_of_cell? w _ hw299_2)).trans hw299_2)⟩ (fun hHeld => ?_)
                clear hK K
                refine norm_ (a' := ?_) ?_ ?_
                rotate_left
                · show Act.put _ (some 25) _ = _
                  simp only [Act.put, List.setIfInBounds_toArray, List.set_cons_zero, List.set_cons_succ, i64_w, i32_w]
                  rfl
                refine pure_ (i := 9) (N := some 26) (v := ?_) (a' := ?_) #[true, true, true, true, true, true, true, true, true, true] rfl rfl (any_of HT_.out (by kernel_rfl)) (fun _ _ _ h => h) (Or.inl ⟨by rfl, ?_⟩) ?_ ?_
                rotate_left
                · intro w'
                  go_simp
                  with_reducible rfl
                rotate_left
                · simp only [Act.put, List.setIfInBounds_toArray, List.set_cons_zero, List.set_cons_succ, i64_w, i32_w]
                  rfl
                refine done_ (done_of HT_.out (by kernel_rfl)) ?_
                try go_wp2
                go_roundg k1
                case measure => have := HK1.out; omega
                case rel => exact ⟨(wrap64 (x5_1 + 1)), sp_, H', ⟨by have := HK1.out; omega⟩, ⟨bl_⟩⟩
              · replace c8 := Bool.eq_false_iff.mpr c8
                subst c8
                have H1 : (some false) = some r := by rw [if_neg (show ¬ (false = true) by decide)] at H; exact H
                clear H
                have H := H1
                clear H1
                obtain rfl := Option.some.inj H
                try go_wp2
                have n0_ := Aside0.mk (below_drew1 HB.out)
                clear HB
                have HB := n0_
                clear n0_
                have p298 : 0 ≤ (x5_1 : Int) := of_decide_eq_true (by first | (with_reducible assumption) | assumption)
                have q298 : x5_1 < (l0.length : Int) := of_decide_eq_true (by first | (with_reducible assumption) | assumption)
                obtain ⟨ad298, A298_2, c298_2, e298, hx298_0, hx298_1, hx298_2, hl298_2, hi298_2⟩ := at_T144 HR0.out x5_1 p298 q298
                have hw298_2 := hx298_2
                have hw298_1 := hx298_1
                have hw298_0 := hx298_0
                cases e298
                replace hx298_0 := (HB.out.cell (World.block_lt_of_cell? w _ hx298_0)).trans hx298_0
                replace hx298_1 := (HB.out.cell (World.block_lt_of_cell? w _ hx298_1)).trans hx298_1
                replace hx298_2 := (HB.out.cell (World.block_lt_of_cell? w _ hx298_2)).trans hx298_2
                have HR298_2 := Aside0.mk hi298_2
                have HC298_2 := Aside0.mk hl298_2
                clear hi298_2 hl298_2
                replace p298 := eq_true p298
                replace q298 := eq_true q298
                have p299 : 0 ≤ (x5_1 : Int) := of_decide_eq_true (by first | (with_reducible assumption) | assumption)
                have q299 : x5_1 < (l1.length : Int) := of_decide_eq_true (by first | (with_reducible assumption) | assumption)
                obtain ⟨ad299, A299_2, c299_2, e299, hx299_0, hx299_1, hx299_2, hl299_2, hi299_2⟩ := at_T144 HR1.out x5_1 p299 q299
                have hw299_2 := hx299_2
                have hw299_1 := hx299_1
                have hw299_0 := hx299_0
                cases e299
                replace hx299_0 := (HB.out.cell (World.block_lt_of_cell? w _ hx299_0)).trans hx299_0
                replace hx299_1 := (HB.out.cell (World.block_lt_of_cell? w _ hx299_1)).trans hx299_1
                replace hx299_2 := (HB.out.cell (World.block_lt_of_cell? w _ hx299_2)).trans hx299_2
                have HR299_2 := Aside0.mk hi299_2
                have HC299_2 := Aside0.mk hl299_2
                clear hi299_2 hl299_2
                replace p299 := eq_true p299
                replace q299 := eq_true q299
                refine start_ (n := 10) (S := fun w' => w'.cell? (ad298.add ((x5_1).toNat * 3)) = some (.string ((rd_T144 l0 x5_1).f0)) ∧ w'.cell? ⟨(ad298.add ((x5_1).toNat * 3)).block, (ad298.add ((x5_1).toNat * 3)).off + 1, none⟩ = some (.string ((rd_T144 l0 x5_1).f1)) ∧ w'.cell? ⟨(ad298.add ((x5_1).toNat * 3)).block, (ad298.add ((x5_1).toNat * 3)).off + 2, none⟩ = some (.slice A298_2 ((rd_T144 l0 x5_1).f2).length c298_2) ∧ w'.cell? (ad299.add ((x5_1).toNat * 3)) = some (.string ((rd_T144 l1 x5_1).f0)) ∧ w'.cell? ⟨(ad299.add ((x5_1).toNat * 3)).block, (ad299.add ((x5_1).toNat * 3)).off + 1, none⟩ = some (.string ((rd_T144 l1 x5_1).f1)) ∧ w'.cell? ⟨(ad299.add ((x5_1).toNat * 3)).block, (ad299.add ((x5_1).toNat * 3)).off + 2, none⟩ = some (.slice A299_2 ((rd_T144 l1 x5_1).f2).length c299_2)) (ds := []) #[false, false, false, false, false, false, false, false, false, false] (by kernel_rfl) rfl rfl ⟨((HB.out.cell (World.block_lt_of_cell? w _ hw298_0)).trans hw298_0), ((HB.out.cell (World.block_lt_of_cell? w _ hw298_1)).trans hw298_1), ((HB.out.cell (World.block_lt_of_cell? w _ hw298_2)).trans hw298_2), ((HB.out.cell (World.block_lt_of_cell? w _ hw299_0)).trans hw299_0), ((HB.out.cell (World.block_lt_of_cell? w _ hw299_1)).trans hw299_1), ((HB.out.cell (World.block_lt_of_cell? w _ hw299_2)).trans hw299_2)⟩ (fun hHeld => ?_); refine with_tabW laws_eqSlotS.tab6 laws_eqSlotS.bits6 (fun HT_ HW_ => ?_)
                generalize wr.drew = w11 at HB HR298_2 HR299_2 hx298_0 hx298_1 hx298_2 hx299_0 hx299_1 hx299_2 hHeld ⊢
                refine pure_ (i := 0) (N := some 17) (v := ?_) (a' := ?_) #[true, false, false, false, false, false, false, false, false, false] rfl rfl (any_of HT_.out (by kernel_rfl)) (fun _ _ _ h => h) (Or.inl ⟨by rfl, ?_⟩) ?_ ?_
                rotate_left
                · intro w'
                  go_simp
                  with_reducible rfl
                rotate_left
                · simp only [Act.put, List.setIfInBounds_toArray, List.set_cons_zero, List.set_cons_succ, i64_w, i32_w]
                  rfl
                refine pure_ (i := 1) (N := some 18) (v := ?_) (a' := ?_) #[true, true, false, false, false, false, false, false, false, false] rfl rfl (any_of HT_.out (by kernel_rfl)) (fun _ _ _ h => h) (Or.inl ⟨by rfl, ?_⟩) ?_ ?_
                rotate_left
                · intro w'
                  go_simp
                  with_reducible rfl
                rotate_left
                · simp only [Act.put, List.setIfInBounds_toArray, List.set_cons_zero, List.set_cons_succ, i64_w, i32_w]
                  rfl
                refine pure_ (i := 2) (N := some 19) (v := ?_) (a' := ?_) #[true, true, true, false, false, false, false, false, false, false] rfl rfl (any_of HT_.out (by kernel_rfl)) (fun _ _ _ h => h) (Or.inl ⟨by rfl, ?_⟩) ?_ ?_
                rotate_left
                · intro w'
                  go_simp
                  with_reducible rfl
                rotate_left
                · simp only [Act.put, List.setIfInBounds_toArray, List.set_cons_zero, List.set_cons_succ, i64_w, i32_w]
                  rfl
                refine pure_ (i := 4) (N := some 21) (v := ?_) (a' := ?_) #[true, true, true, false, true, false, false, false, false, false] rfl rfl (any_of HT_.out (by kernel_rfl)) (fun _ _ _ h => h) (Or.inl ⟨by rfl, ?_⟩) ?_ ?_
                rotate_left
                · intro w'
                  go_simp
                  with_reducible rfl
                rotate_left
                · simp only [Act.put, List.setIfInBounds_toArray, List.set_cons_zero, List.set_cons_succ, i64_w, i32_w]
                  rfl
                refine pure_ (i := 5) (N := some 22) (v := ?_) (a' := ?_) #[true, true, true, false, true, true, false, false, false, false] rfl rfl (any_of HT_.out (by kernel_rfl)) (fun _ _ _ h => h) (Or.inl ⟨by rfl, ?_⟩) ?_ ?_
                rotate_left
                · intro w'
                  go_simp
                  with_reducible rfl
                rotate_left
                · simp only [Act.put, List.setIfInBounds_toArray, List.set_cons_zero, List.set_cons_succ, i64_w, i32_w]
                  rfl
                refine pure_ (i := 6) (N := some 23) (v := ?_) (a' := ?_) #[true, true, true, false, true, true, true, false, false, false] rfl rfl (any_of HT_.out (by kernel_rfl)) (fun _ _ _ h => h) (Or.inl ⟨by rfl, ?_⟩) ?_ ?_
                rotate_left
                · intro w'
                  go_simp
                  with_reducible rfl
                rotate_left
                · simp only [Act.put, List.setIfInBounds_toArray, List.set_cons_zero, List.set_cons_succ, i64_w, i32_w]
                  rfl
                refine take_ (i := 3) (N := some 20) (v := ?_) (a' := ?_) #[true, true, true, true, true, true, true, false, false, false] rfl rfl (take_ofW HT_.out HW_.out (by kernel_rfl)) (fun _ _ _ h => h) (Or.inl ⟨by rfl, ?_⟩) hHeld ?_ ?_
                rotate_left
                · rintro w' ⟨s0, s1, s2, s3, s4, s5⟩
                  go_simp
                  with_reducible rfl
                rotate_left
                · simp only [Act.put, List.setIfInBounds_toArray, List.set_cons_zero, List.set_cons_succ, i64_w, i32_w]
                  rfl
                refine take_ (i := 7) (N := some 24) (v := ?_) (a' := ?_) #[true, true, true, true, true, true, true, true, false, false] rfl rfl (take_ofW HT_.out HW_.out (by kernel_rfl)) (fun _ _ _ h => h) (Or.inl ⟨by rfl, ?_⟩) hHeld ?_ ?_
                rotate_left
                · rintro w' ⟨s0, s1, s2, s3, s4, s5⟩
                  go_simp
                  with_reducible rfl
                rotate_left
                · simp only [Act.put, List.setIfInBounds_toArray, List.set_cons_zero, List.set_cons_succ, i64_w, i32_w]
                  rfl
                refine one_ (i := 8) (N := some 25) #[true, true, true, true, true, true, true, true, true, false] rfl rfl (one_of HT_.out (by kernel_rfl)) (by decide) (fun K hK => ?_)
                refine goes_ Try.func138 (by kernel_rfl) rfl #[.agg #[.string ((rd_T144 l0 x5_1).f0), .string ((rd_T144 l0 x5_1).f1), .slice A298_2 ((rd_T144 l0 x5_1).f2).length c298_2], .agg #[.string ((rd_T144 l1 x5_1).f0), .string ((rd_T144 l1 x5_1).f1), .slice A299_2 ((rd_T144 l1 x5_1).f2).length c299_2]] (by rfl) rfl rfl (by (try simp only [List.map_toArray, List.map_cons, List.map_nil]); first | done | rfl | (simp only [List.length_drop, List.length_take]; rfl)) ?_
                with_reducible refine (laws_eqSlot.calls k1 ((rd_T144 l0 x5_1).f0) ((rd_T144 l0 x5_1).f1) _ _ ((rd_T144 l0 x5_1).f2) ((rd_T144 l1 x5_1).f0) ((rd_T144 l1 x5_1).f1) _ _ ((rd_T144 l1 x5_1).f2) false _ ?side1 ?side2 ?side3 ?side4 A7.out).mono ?_
                (case side1 => repeat (first | exact (Kd.C_below HR298_2.out HB.out) | (with_reducible refine Kd.C_alloc ?_ _) | (with_reducible refine Kd.C_drewN ?_ _) | (with_reducible refine Kd.C_drew ?_)))
                (case side2 => exact HC298_2.out)
                (case side3 => repeat (first | exact (Kd.C_below HR299_2.out HB.out) | (with_reducible refine Kd.C_alloc ?_ _) | (with_reducible refine Kd.C_drewN ?_ _) | (with_reducible refine Kd.C_drew ?_)))
                (case side4 => exact HC299_2.out)
                rintro e w12 ⟨rfl, hb⟩
                refine ⟨_, rfl, ?_⟩
                have n0_ := Aside0.mk (below_step bl_ hb)
                clear HB
                have HB := n0_
                clear n0_
                (try clear hb)
                (try clear hb2)
                (try clear hk)
                (try clear hi)
                refine hK.out _ _ ⟨((HB.out.cell (World.block_lt_of_cell? w _ hw298_0)).trans hw298_0), ((HB.out.cell (World.block_lt_of_cell? w _ hw298_1)).trans hw298_1), ((HB.out.cell (World.block_lt_of_cell? w _ hw298_2)).trans hw298_2), ((HB.out.cell (World.block_lt_of_cell? w _ hw299_0)).trans hw299_0), ((HB.out.cell (World.block_lt_of_cell? w _ hw299_1)).trans hw299_1), ((HB.out.cell (World.block_lt_of_cell? w _ hw299_2)).trans hw299_2)⟩ (fun hHeld => ?_)
                clear hK K
                refine norm_ (a' := ?_) ?_ ?_
                rotate_left
                · show Act.put _ (some 25) _ = _
                  simp only [Act.put, List.setIfInBounds_toArray, List.set_cons_zero, List.set_cons_succ, i64_w, i32_w]
                  rfl
                refine pure_ (i := 9) (N := some 26) (v := ?_) (a' := ?_) #[true, true, true, true, true, true, true, true, true, true] rfl rfl (any_of HT_.out (by kernel_rfl)) (fun _ _ _ h => h) (Or.inl ⟨by rfl, ?_⟩) ?_ ?_
                rotate_left
                · intro w'
                  go_simp
                  with_reducible rfl
                rotate_left
                · simp only [Act.put, List.setIfInBounds_toArray, List.set_cons_zero, List.set_cons_succ, i64_w, i32_w]
                  rfl
                refine done_ (done_of HT_.out (by kernel_rfl)) ?_
                try go_wp2
                go_ret
                exact ⟨by first | rfl | (simp [errW_none, errW_some] <;> rfl) | (simp [*, errW_none, errW_some] <;> rfl), bl_⟩
            · rw [if_neg c6] at H
              exact absurd H (by simp)
          · rw [if_neg c5] at H
            exact absurd H (by simp)
        · rw [if_neg c4] at H
          have c4b0 : decide (x5_1 < (l0.length : Int)) = false := decide_eq_false c4
          clear c4
          obtain rfl := Option.some.inj H
          go_wp2
          go_ret
          exact ⟨by first | rfl | (simp [errW_none, errW_some] <;> rfl) | (simp [*, errW_none, errW_some] <;> rfl), bl_⟩
  · rw [if_neg c3] at H
    have c3b0 : ((l0.length : Int) == (l1.length : Int)) = false := beq_eq_false_iff_ne.mpr c3
    have c3b1 : ((l0.length : Int) != (l1.length : Int)) = true := bne_iff_ne.mpr c3
    have c3b2 : (l0.length == l1.length) = false := by first | simpa using c3 | (simp at c3 ⊢; omega)
    obtain rfl := Option.some.inj H
    go_enter Try.func80, Try.ntmps80
    go_wp2
    go_ret
    exact ⟨by first | rfl | (simp [errW_none, errW_some] <;> rfl) | (simp [*, errW_none, errW_some] <;> rfl), bl_⟩

/-! ### laws_eqAcct: function 21 -/
def laws_eqAcct.f (k : Nat) (a0_0 : ByteArray) (a0_1 : Int) (a0_2 : Int) (a0_3 : Int) (a0_4 : Int) (l0_5 : List (S142)) (a0_6 : Int) (a0_7 : Int) (l0_8 : List Int) (l0_9 : List Int) (l0_10 : List (S144)) (a1_0 : ByteArray) (a1_1 : Int) (a1_2 : Int) (a1_3 : Int) (a1_4 : Int) (l1_5 : List (S142)) (a1_6 : Int) (a1_7 : Int) (l1_8 : List Int) (l1_9 : List Int) (l1_10 : List (S144)) : Option (Bool) := if a0_0.toList = a1_0.toList then (if a0_1 = a1_1 then (if a0_2 = a1_2 then (if a0_3 = a1_3 then (if a0_4 = a1_4 then ((laws_eqHoldS.f k l0_5 l1_5).bind fun t303 => (if t303 = true then ((laws_eqRing.f k a0_6 a0_7 l0_8 l0_9 a1_6 a1_7 l1_8 l1_9).bind fun t304 => (if t304 = true then ((laws_eqSlotS.f k l0_10 l1_10).bind fun t305 => (if t305 = true then (some true) else (some false))) else (some false))) else (some false))) else (some false)) else (some false)) else (some false)) else (some false)) else (some false)
theorem laws_eqAcct.mono : ∀ a0 a1 a2 a3 a4 a5 a6 a7 a8 a9 a10 a11 a12 a13 a14 a15 a16 a17 a18 a19 a20 a21 k, LeO (laws_eqAcct.f k a0 a1 a2 a3 a4 a5 a6 a7 a8 a9 a10 a11 a12 a13 a14 a15 a16 a17 a18 a19 a20 a21) (laws_eqAcct.f (k + 1) a0 a1 a2 a3 a4 a5 a6 a7 a8 a9 a10 a11 a12 a13 a14 a15 a16 a17 a18 a19 a20 a21) := by
  intro a0 a1 a2 a3 a4 a5 a6 a7 a8 a9 a10 a11 a12 a13 a14 a15 a16 a17 a18 a19 a20 a21 k
  unfold laws_eqAcct.f
  repeat' first
      | (with_reducible exact laws_eqHoldS.mono _ _ _)
      | (with_reducible exact laws_eqRing.mono _ _ _ _ _ _ _ _ _)
      | (with_reducible exact laws_eqSlotS.mono _ _ _)
      | (with_reducible exact LeO.refl _)
      | (with_reducible exact LeO.none _)
      | (with_reducible refine LeO.ite ?_ ?_)
      | (with_reducible refine LeO.bind ?_ (fun _ => ?_))
      | exact laws_eqHoldS.mono _ _ _
      | exact laws_eqRing.mono _ _ _ _ _ _ _ _ _
      | exact laws_eqSlotS.mono _ _ _
      | exact LeO.none _
      | refine LeO.ite ?_ ?_
      | refine LeO.bind ?_ (fun _ => ?_)
set_option maxHeartbeats 8000000 in
set_option maxRecDepth 100000 in
theorem laws_eqAcct.calls (k : Nat) (a0_0 : ByteArray) (a0_1 : Int) (a0_2 : Int) (a0_3 : Int) (a0_4 : Int) (A0_5 : Option Addr) (c0_5 : Nat) (l0_5 : List (S142)) (a0_6 : Int) (a0_7 : Int) (A0_8 : Option Addr) (c0_8 : Nat) (l0_8 : List Int) (A0_9 : Option Addr) (c0_9 : Nat) (l0_9 : List Int) (A0_10 : Option Addr) (c0_10 : Nat) (l0_10 : List (S144)) (a1_0 : ByteArray) (a1_1 : Int) (a1_2 : Int) (a1_3 : Int) (a1_4 : Int) (A1_5 : Option Addr) (c1_5 : Nat) (l1_5 : List (S142)) (a1_6 : Int) (a1_7 : Int) (A1_8 : Option Addr) (c1_8 : Nat) (l1_8 : List Int) (A1_9 : Option Addr) (c1_9 : Nat) (l1_9 : List Int) (A1_10 : Option Addr) (c1_10 : Nat) (l1_10 : List (S144)) (r : Bool) (w : World) (hr0_5 : Kd.C k142 w A0_5 l0_5.length l0_5) (hc0_5 : l0_5.length ≤ c0_5) (hr0_8 : Kd.C (Kd.int .i64) w A0_8 l0_8.length l0_8) (hc0_8 : l0_8.length ≤ c0_8) (hr0_9 : Kd.C (Kd.int .i64) w A0_9 l0_9.length l0_9) (hc0_9 : l0_9.length ≤ c0_9) (hr0_10 : Kd.C k144 w A0_10 l0_10.length l0_10) (hc0_10 : l0_10.length ≤ c0_10) (hr1_5 : Kd.C k142 w A1_5 l1_5.length l1_5) (hc1_5 : l1_5.length ≤ c1_5) (hr1_8 : Kd.C (Kd.int .i64) w A1_8 l1_8.length l1_8) (hc1_8 : l1_8.length ≤ c1_8) (hr1_9 : Kd.C (Kd.int .i64) w A1_9 l1_9.length l1_9) (hc1_9 : l1_9.length ≤ c1_9) (hr1_10 : Kd.C k144 w A1_10 l1_10.length l1_10) (hc1_10 : l1_10.length ≤ c1_10) (h : laws_eqAcct.f k a0_0 a0_1 a0_2 a0_3 a0_4 l0_5 a0_6 a0_7 l0_8 l0_9 l0_10 a1_0 a1_1 a1_2 a1_3 a1_4 l1_5 a1_6 a1_7 l1_8 l1_9 l1_10 = some r) :
    Calls Try.prog 21 #[.agg #[.string a0_0, .int .i64 a0_1, .int .i64 a0_2, .int .i64 a0_3, .int .i64 a0_4, .slice A0_5 l0_5.length c0_5, .int .i64 a0_6, .int .i64 a0_7, .slice A0_8 l0_8.length c0_8, .slice A0_9 l0_9.length c0_9, .slice A0_10 l0_10.length c0_10], .agg #[.string a1_0, .int .i64 a1_1, .int .i64 a1_2, .int .i64 a1_3, .int .i64 a1_4, .slice A1_5 l1_5.length c1_5, .int .i64 a1_6, .int .i64 a1_7, .slice A1_8 l1_8.length c1_8, .slice A1_9 l1_9.length c1_9, .slice A1_10 l1_10.length c1_10]] w fun e w' => e = .returned (.bool r) ∧ Below w.heap.size w w' := by
  have hu48 := Try.underlying48
  have hu45 := Try.underlying45
  have HR0_5 := Aside0.mk hr0_5
  have HC0_5 := Aside0.mk hc0_5
  clear hr0_5 hc0_5
  have HR0_8 := Aside0.mk hr0_8
  have HC0_8 := Aside0.mk hc0_8
  clear hr0_8 hc0_8
  have HR0_9 := Aside0.mk hr0_9
  have HC0_9 := Aside0.mk hc0_9
  clear hr0_9 hc0_9
  have HR0_10 := Aside0.mk hr0_10
  have HC0_10 := Aside0.mk hc0_10
  clear hr0_10 hc0_10
  have HR1_5 := Aside0.mk hr1_5
  have HC1_5 := Aside0.mk hc1_5
  clear hr1_5 hc1_5
  have HR1_8 := Aside0.mk hr1_8
  have HC1_8 := Aside0.mk hc1_8
  clear hr1_8 hc1_8
  have HR1_9 := Aside0.mk hr1_9
  have HC1_9 := Aside0.mk hc1_9
  clear hr1_9 hc1_9
  have HR1_10 := Aside0.mk hr1_10
  have HC1_10 := Aside0.mk hc1_10
  clear hr1_10 hc1_10
  have HB := Aside0.mk (Below.refl w.heap.size w)
  have H : (if a0_0.toList = a1_0.toList then (if a0_1 = a1_1 then (if a0_2 = a1_2 then (if a0_3 = a1_3 then (if a0_4 = a1_4 then ((laws_eqHoldS.f k l0_5 l1_5).bind fun t303 => (if t303 = true then ((laws_eqRing.f k a0_6 a0_7 l0_8 l0_9 a1_6 a1_7 l1_8 l1_9).bind fun t304 => (if t304 = true then ((laws_eqSlotS.f k l0_10 l1_10).bind fun t305 => (if t305 = true then (some true) else (some false))) else (some false))) else (some false))) else (some false)) else (some false)) else (some false)) else (some false)) else (some false)) = some r := h
  clear h
  by_cases c3 : a0_0.toList = a1_0.toList
  · rw [if_pos c3] at H
    have c3b0 : (a0_0.toList == a1_0.toList) = true := beq_iff_eq.mpr c3
    have c3b1 : (a0_0.toList != a1_0.toList) = false := bne_eq_false_iff_eq.mpr c3
    clear c3
    by_cases c4 : a0_1 = a1_1
    · rw [if_pos c4] at H
      have c4b0 : (a0_1 == a1_1) = true := beq_iff_eq.mpr c4
      have c4b1 : (a0_1 != a1_1) = false := bne_eq_false_iff_eq.mpr c4
      clear c4
      by_cases c5 : a0_2 = a1_2
      · rw [if_pos c5] at H
        have c5b0 : (a0_2 == a1_2) = true := beq_iff_eq.mpr c5
        have c5b1 : (a0_2 != a1_2) = false := bne_eq_false_iff_eq.mpr c5
        clear c5
        by_cases c6 : a0_3 = a1_3
        · rw [if_pos c6] at H
          have c6b0 : (a0_3 == a1_3) = true := beq_iff_eq.mpr c6
          have c6b1 : (a0_3 != a1_3) = false := bne_eq_false_iff_eq.mpr c6
          clear c6
          by_cases c7 : a0_4 = a1_4
          · rw [if_pos c7] at H
            have c7b0 : (a0_4 == a1_4) = true := beq_iff_eq.mpr c7
            have c7b1 : (a0_4 != a1_4) = false := bne_eq_false_iff_eq.mpr c7
            clear c7
            replace H := Option.bind_eq_some_iff.mp H
            obtain ⟨t303, A80, H⟩ := H
            replace H : (if t303 = true then ((laws_eqRing.f k a0_6 a0_7 l0_8 l0_9 a1_6 a1_7 l1_8 l1_9).bind fun t304 => (if t304 = true then ((laws_eqSlotS.f k l0_10 l1_10).bind fun t305 => (if t305 = true then (some true) else (some false))) else (some false))) else (some false)) = some r := H
            have A8 := Aside0.mk A80
            clear A80
            by_cases c9 : t303 = true
            · subst c9
              have H1 : ((laws_eqRing.f k a0_6 a0_7 l0_8 l0_9 a1_6 a1_7 l1_8 l1_9).bind fun t304 => (if t304 = true then ((laws_eqSlotS.f k l0_10 l1_10).bind fun t305 => (if t305 = true then (some true) else (some false))) else (some false))) = some r := by rw [if_pos rfl] at H; exact H
              clear H
              have H := H1
              clear H1
              replace H := Option.bind_eq_some_iff.mp H
              obtain ⟨t304, A100, H⟩ := H
              replace H : (if t304 = true then ((laws_eqSlotS.f k l0_10 l1_10).bind fun t305 => (if t305 = true then (some true) else (some false))) else (some false)) = some r := H
              have A10 := Aside0.mk A100
              clear A100
              by_cases c11 : t304 = true
              · subst c11
                have H1 : ((laws_eqSlotS.f k l0_10 l1_10).bind fun t305 => (if t305 = true then (some true) else (some false))) = some r := by rw [if_pos rfl] at H; exact H
                clear H
                have H := H1
                clear H1
                replace H := Option.bind_eq_some_iff.mp H
                obtain ⟨t305, A120, H⟩ := H
                replace H : (if t305 = true then (some true) else (some false)) = some r := H
                have A12 := Aside0.mk A120
                clear A120
                by_cases c13 : t305 = true
                · subst c13
                  have H1 : (some true) = some r := by rw [if_pos rfl] at H; exact H
                  clear H
                  have H := H1
                  clear H1
                  obtain rfl := Option.some.inj H
                  go_enter Try.func21, Try.ntmps21
                  go_wp2_with (first | ((with_reducible refine gate_dst (N := 2) rfl ?_); refine box_event ?hg (N := 2) ?hd (cs := #[.string a0_0, .int .i64 a0_1, .int .i64 a0_2, .int .i64 a0_3, .int .i64 a0_4, .slice A0_5 l0_5.length c0_5, .int .i64 a0_6, .int .i64 a0_7, .slice A0_8 l0_8.length c0_8, .slice A0_9 l0_9.length c0_9, .slice A0_10 l0_10.length c0_10]) (t := 48) ?hr ?_; (case hd => rfl); (case hg => rfl); (case hr => first | (go_simp; done) | (go_simp; rfl)); intro gb301 hg w14 hbox hb; have n0_ := Aside0.mk (below_step bl_ hb); have n1_ := Aside0.mk (hbox); have n2_ := Aside0.mk ((by rw [hg]; exact (below_size bl_) : w.heap.size ≤ gb301)); have n3_ := Aside0.mk ((by rw [hg]; exact (below_size bl_) : w.heap.size ≤ gb301)); clear HB; have HB := n0_; have BK301 := n1_; have GW301 := n2_; have GE301 := n3_; clear n0_ n1_ n2_ n3_; clear hb hbox hg) | ((with_reducible refine gate_dst (N := 3) rfl ?_); refine box_event ?hg (N := 3) ?hd (cs := #[.string a1_0, .int .i64 a1_1, .int .i64 a1_2, .int .i64 a1_3, .int .i64 a1_4, .slice A1_5 l1_5.length c1_5, .int .i64 a1_6, .int .i64 a1_7, .slice A1_8 l1_8.length c1_8, .slice A1_9 l1_9.length c1_9, .slice A1_10 l1_10.length c1_10]) (t := 48) ?hr ?_; (case hd => rfl); (case hg => rfl); (case hr => first | (go_simp; done) | (go_simp; rfl)); intro gb302 hg w15 hbox hb; have n0_ := Aside0.mk (blk_below (bk_ BK301) hb); have n1_ := Aside0.mk (below_step bl_ hb); have n2_ := Aside0.mk (hbox); have n3_ := Aside0.mk ((by rw [hg]; exact (below_size bl_) : w.heap.size ≤ gb302)); have n4_ := Aside0.mk ((by rw [hg]; exact (below_size bl_) : w.heap.size ≤ gb302)); have n5_ := Aside0.mk ((by rw [hg]; exact Nat.ne_of_lt (blk_lt (bk_ BK301)) : gb301 ≠ gb302)); have n6_ := Aside0.mk ((by rw [hg]; exact Nat.ne_of_gt (blk_lt (bk_ BK301)) : gb302 ≠ gb301)); clear BK301; clear HB; have BK301 := n0_; have HB := n1_; have BK302 := n2_; have GW302 := n3_; have GE302 := n4_; have NB301_302 := n5_; have NB302_301 := n6_; clear n0_ n1_ n2_ n3_ n4_ n5_ n6_; clear hb hbox hg; have hnb16 := NB301_302.out; have hnc16 := NB302_301.out; have hcz17_0 : w15.cell? ⟨gb301, 0, none⟩ = some (.string a0_0) := (blk_cell BK301.out 0).trans rfl; have hcz17_1 : w15.cell? ⟨gb301, 1, none⟩ = some (.int .i64 a0_1) := (blk_cell BK301.out 1).trans rfl; have hcz17_2 : w15.cell? ⟨gb301, 2, none⟩ = some (.int .i64 a0_2) := (blk_cell BK301.out 2).trans rfl; have hcz17_3 : w15.cell? ⟨gb301, 3, none⟩ = some (.int .i64 a0_3) := (blk_cell BK301.out 3).trans rfl; have hcz17_4 : w15.cell? ⟨gb301, 4, none⟩ = some (.int .i64 a0_4) := (blk_cell BK301.out 4).trans rfl; have hcz17_5 : w15.cell? ⟨gb301, 5, none⟩ = some (.slice A0_5 l0_5.length c0_5) := (blk_cell BK301.out 5).trans rfl; have hcz17_6 : w15.cell? ⟨gb301, 6, none⟩ = some (.int .i64 a0_6) := (blk_cell BK301.out 6).trans rfl; have hcz17_7 : w15.cell? ⟨gb301, 7, none⟩ = some (.int .i64 a0_7) := (blk_cell BK301.out 7).trans rfl; have hcz17_8 : w15.cell? ⟨gb301, 8, none⟩ = some (.slice A0_8 l0_8.length c0_8) := (blk_cell BK301.out 8).trans rfl; have hcz17_9 : w15.cell? ⟨gb301, 9, none⟩ = some (.slice A0_9 l0_9.length c0_9) := (blk_cell BK301.out 9).trans rfl; have hcz17_10 : w15.cell? ⟨gb301, 10, none⟩ = some (.slice A0_10 l0_10.length c0_10) := (blk_cell BK301.out 10).trans rfl; have hfz17_0 := blk_frozen BK301.out 0; have hfz17_1 := blk_frozen BK301.out 1; have hfz17_2 := blk_frozen BK301.out 2; have hfz17_3 := blk_frozen BK301.out 3; have hfz17_4 := blk_frozen BK301.out 4; have hfz17_5 := blk_frozen BK301.out 5; have hfz17_6 := blk_frozen BK301.out 6; have hfz17_7 := blk_frozen BK301.out 7; have hfz17_8 := blk_frozen BK301.out 8; have hfz17_9 := blk_frozen BK301.out 9; have hfz17_10 := blk_frozen BK301.out 10; have hcz18_0 : w15.cell? ⟨gb302, 0, none⟩ = some (.string a1_0) := (blk_cell BK302.out 0).trans rfl; have hcz18_1 : w15.cell? ⟨gb302, 1, none⟩ = some (.int .i64 a1_1) := (blk_cell BK302.out 1).trans rfl; have hcz18_2 : w15.cell? ⟨gb302, 2, none⟩ = some (.int .i64 a1_2) := (blk_cell BK302.out 2).trans rfl; have hcz18_3 : w15.cell? ⟨gb302, 3, none⟩ = some (.int .i64 a1_3) := (blk_cell BK302.out 3).trans rfl; have hcz18_4 : w15.cell? ⟨gb302, 4, none⟩ = some (.int .i64 a1_4) := (blk_cell BK302.out 4).trans rfl; have hcz18_5 : w15.cell? ⟨gb302, 5, none⟩ = some (.slice A1_5 l1_5.length c1_5) := (blk_cell BK302.out 5).trans rfl; have hcz18_6 : w15.cell? ⟨gb302, 6, none⟩ = some (.int .i64 a1_6) := (blk_cell BK302.out 6).trans rfl; have hcz18_7 : w15.cell? ⟨gb302, 7, none⟩ = some (.int .i64 a1_7) := (blk_cell BK302.out 7).trans rfl; have hcz18_8 : w15.cell? ⟨gb302, 8, none⟩ = some (.slice A1_8 l1_8.length c1_8) := (blk_cell BK302.out 8).trans rfl; have hcz18_9 : w15.cell? ⟨gb302, 9, none⟩ = some (.slice A1_9 l1_9.length c1_9) := (blk_cell BK302.out 9).trans rfl; have hcz18_10 : w15.cell? ⟨gb302, 10, none⟩ = some (.slice A1_10 l1_10.length c1_10) := (blk_cell BK302.out 10).trans rfl; have hfz18_0 := blk_frozen BK302.out 0; have hfz18_1 := blk_frozen BK302.out 1; have hfz18_2 := blk_frozen BK302.out 2; have hfz18_3 := blk_frozen BK302.out 3; have hfz18_4 := blk_frozen BK302.out 4; have hfz18_5 := blk_frozen BK302.out 5; have hfz18_6 := blk_frozen BK302.out 6; have hfz18_7 := blk_frozen BK302.out 7; have hfz18_8 := blk_frozen BK302.out 8; have hfz18_9 := blk_frozen BK302.out 9; have hfz18_10 := blk_frozen BK302.out 10) | ((with_reducible refine gate_callee (f := 78) rfl ?_); refine goesL_ (some 34) rfl rfl Try.func78 (by kernel_rfl) rfl #[.slice A0_5 l0_5.length c0_5, .slice A1_5 l1_5.length c1_5] rfl (by (try simp only [List.map_toArray, List.map_cons, List.map_nil]); first | done | rfl | (simp only [List.length_drop, List.length_take]; rfl)) ?_; (with_reducible refine (laws_eqHoldS.calls k _ _ l0_5 _ _ l1_5 true _ ?side1 ?side2 ?side3 ?side4 A8.out).mono ?_); (case side1 => repeat (first | exact (Kd.C_below HR0_5.out HB.out) | (with_reducible refine Kd.C_alloc ?_ _) | (with_reducible refine Kd.C_drewN ?_ _) | (with_reducible refine Kd.C_drew ?_))); (case side2 => exact HC0_5.out); (case side3 => repeat (first | exact (Kd.C_below HR1_5.out HB.out) | (with_reducible refine Kd.C_alloc ?_ _) | (with_reducible refine Kd.C_drewN ?_ _) | (with_reducible refine Kd.C_drew ?_))); (case side4 => exact HC1_5.out); rintro e w19 ⟨rfl, hb⟩; refine ⟨_, rfl, ?_⟩; have n0_ := Aside0.mk (blk_below (bk_ BK301) hb); have n1_ := Aside0.mk (blk_below (bk_ BK302) hb); have n2_ := Aside0.mk (below_step bl_ hb); clear BK301; clear BK302; clear HB; have BK301 := n0_; have BK302 := n1_; have HB := n2_; clear n0_ n1_ n2_; (try clear hb); (try clear hb2); (try clear hk); (try clear hi); have hcz20_0 : w19.cell? ⟨gb301, 0, none⟩ = some (.string a0_0) := (blk_cell BK301.out 0).trans rfl; have hcz20_1 : w19.cell? ⟨gb301, 1, none⟩ = some (.int .i64 a0_1) := (blk_cell BK301.out 1).trans rfl; have hcz20_2 : w19.cell? ⟨gb301, 2, none⟩ = some (.int .i64 a0_2) := (blk_cell BK301.out 2).trans rfl; have hcz20_3 : w19.cell? ⟨gb301, 3, none⟩ = some (.int .i64 a0_3) := (blk_cell BK301.out 3).trans rfl; have hcz20_4 : w19.cell? ⟨gb301, 4, none⟩ = some (.int .i64 a0_4) := (blk_cell BK301.out 4).trans rfl; have hcz20_5 : w19.cell? ⟨gb301, 5, none⟩ = some (.slice A0_5 l0_5.length c0_5) := (blk_cell BK301.out 5).trans rfl; have hcz20_6 : w19.cell? ⟨gb301, 6, none⟩ = some (.int .i64 a0_6) := (blk_cell BK301.out 6).trans rfl; have hcz20_7 : w19.cell? ⟨gb301, 7, none⟩ = some (.int .i64 a0_7) := (blk_cell BK301.out 7).trans rfl; have hcz20_8 : w19.cell? ⟨gb301, 8, none⟩ = some (.slice A0_8 l0_8.length c0_8) := (blk_cell BK301.out 8).trans rfl; have hcz20_9 : w19.cell? ⟨gb301, 9, none⟩ = some (.slice A0_9 l0_9.length c0_9) := (blk_cell BK301.out 9).trans rfl; have hcz20_10 : w19.cell? ⟨gb301, 10, none⟩ = some (.slice A0_10 l0_10.length c0_10) := (blk_cell BK301.out 10).trans rfl; have hfz20_0 := blk_frozen BK301.out 0; have hfz20_1 := blk_frozen BK301.out 1; have hfz20_2 := blk_frozen BK301.out 2; have hfz20_3 := blk_frozen BK301.out 3; have hfz20_4 := blk_frozen BK301.out 4; have hfz20_5 := blk_frozen BK301.out 5; have hfz20_6 := blk_frozen BK301.out 6; have hfz20_7 := blk_frozen BK301.out 7; have hfz20_8 := blk_frozen BK301.out 8; have hfz20_9 := blk_frozen BK301.out 9; have hfz20_10 := blk_frozen BK301.out 10; have hcz21_0 : w19.cell? ⟨gb302, 0, none⟩ = some (.string a1_0) := (blk_cell BK302.out 0).trans rfl; have hcz21_1 : w19.cell? ⟨gb302, 1, none⟩ = some (.int .i64 a1_1) := (blk_cell BK302.out 1).trans rfl; have hcz21_2 : w19.cell? ⟨gb302, 2, none⟩ = some (.int .i64 a1_2) := (blk_cell BK302.out 2).trans rfl; have hcz21_3 : w19.cell? ⟨gb302, 3, none⟩ = some (.int .i64 a1_3) := (blk_cell BK302.out 3).trans rfl; have hcz21_4 : w19.cell? ⟨gb302, 4, none⟩ = some (.int .i64 a1_4) := (blk_cell BK302.out 4).trans rfl; have hcz21_5 : w19.cell? ⟨gb302, 5, none⟩ = some (.slice A1_5 l1_5.length c1_5) := (blk_cell BK302.out 5).trans rfl; have hcz21_6 : w19.cell? ⟨gb302, 6, none⟩ = some (.int .i64 a1_6) := (blk_cell BK302.out 6).trans rfl; have hcz21_7 : w19.cell? ⟨gb302, 7, none⟩ = some (.int .i64 a1_7) := (blk_cell BK302.out 7).trans rfl; have hcz21_8 : w19.cell? ⟨gb302, 8, none⟩ = some (.slice A1_8 l1_8.length c1_8) := (blk_cell BK302.out 8).trans rfl; have hcz21_9 : w19.cell? ⟨gb302, 9, none⟩ = some (.slice A1_9 l1_9.length c1_9) := (blk_cell BK302.out 9).trans rfl; have hcz21_10 : w19.cell? ⟨gb302, 10, none⟩ = some (.slice A1_10 l1_10.length c1_10) := (blk_cell BK302.out 10).trans rfl; have hfz21_0 := blk_frozen BK302.out 0; have hfz21_1 := blk_frozen BK302.out 1; have hfz21_2 := blk_frozen BK302.out 2; have hfz21_3 := blk_frozen BK302.out 3; have hfz21_4 := blk_frozen BK302.out 4; have hfz21_5 := blk_frozen BK302.out 5; have hfz21_6 := blk_frozen BK302.out 6; have hfz21_7 := blk_frozen BK302.out 7; have hfz21_8 := blk_frozen BK302.out 8; have hfz21_9 := blk_frozen BK302.out 9; have hfz21_10 := blk_frozen BK302.out 10) | ((with_reducible refine gate_callee (f := 79) rfl ?_); refine goesL_ (some 40) rfl rfl Try.func79 (by kernel_rfl) rfl #[.agg #[.int .i64 a0_6, .int .i64 a0_7, .slice A0_8 l0_8.length c0_8, .slice A0_9 l0_9.length c0_9], .agg #[.int .i64 a1_6, .int .i64 a1_7, .slice A1_8 l1_8.length c1_8, .slice A1_9 l1_9.length c1_9]] rfl (by (try simp only [List.map_toArray, List.map_cons, List.map_nil]); first | done | rfl | (simp only [List.length_drop, List.length_take]; rfl)) ?_; (with_reducible refine (laws_eqRing.calls k a0_6 a0_7 _ _ l0_8 _ _ l0_9 a1_6 a1_7 _ _ l1_8 _ _ l1_9 true _ ?side1 ?side2 ?side3 ?side4 ?side5 ?side6 ?side7 ?side8 A10.out).mono ?_); (case side1 => repeat (first | exact (Kd.C_below HR0_8.out HB.out) | (with_reducible refine Kd.C_alloc ?_ _) | (with_reducible refine Kd.C_drewN ?_ _) | (with_reducible refine Kd.C_drew ?_))); (case side2 => exact HC0_8.out); (case side3 => repeat (first | exact (Kd.C_below HR0_9.out HB.out) | (with_reducible refine Kd.C_alloc ?_ _) | (with_reducible refine Kd.C_drewN ?_ _) | (with_reducible refine Kd.C_drew ?_))); (case side4 => exact HC0_9.out); (case side5 => repeat (first | exact (Kd.C_below HR1_8.out HB.out) | (with_reducible refine Kd.C_alloc ?_ _) | (with_reducible refine Kd.C_drewN ?_ _) | (with_reducible refine Kd.C_drew ?_))); (case side6 => exact HC1_8.out); (case side7 => repeat (first | exact (Kd.C_below HR1_9.out HB.out) | (with_reducible refine Kd.C_alloc ?_ _) | (with_reducible refine Kd.C_drewN ?_ _) | (with_reducible refine Kd.C_drew ?_))); (case side8 => exact HC1_9.out); rintro e w22 ⟨rfl, hb⟩; refine ⟨_, rfl, ?_⟩; have n0_ := Aside0.mk (blk_below (bk_ BK301) hb); have n1_ := Aside0.mk (blk_below (bk_ BK302) hb); have n2_ := Aside0.mk (below_step bl_ hb); clear BK301; clear BK302; clear HB; have BK301 := n0_; have BK302 := n1_; have HB := n2_; clear n0_ n1_ n2_; (try clear hb); (try clear hb2); (try clear hk); (try clear hi); have hcz23_0 : w22.cell? ⟨gb301, 0, none⟩ = some (.string a0_0) := (blk_cell BK301.out 0).trans rfl; have hcz23_1 : w22.cell? ⟨gb301, 1, none⟩ = some (.int .i64 a0_1) := (blk_cell BK301.out 1).trans rfl; have hcz23_2 : w22.cell? ⟨gb301, 2, none⟩ = some (.int .i64 a0_2) := (blk_cell BK301.out 2).trans rfl; have hcz23_3 : w22.cell? ⟨gb301, 3, none⟩ = some (.int .i64 a0_3) := (blk_cell BK301.out 3).trans rfl; have hcz23_4 : w22.cell? ⟨gb301, 4, none⟩ = some (.int .i64 a0_4) := (blk_cell BK301.out 4).trans rfl; have hcz23_5 : w22.cell? ⟨gb301, 5, none⟩ = some (.slice A0_5 l0_5.length c0_5) := (blk_cell BK301.out 5).trans rfl; have hcz23_6 : w22.cell? ⟨gb301, 6, none⟩ = some (.int .i64 a0_6) := (blk_cell BK301.out 6).trans rfl; have hcz23_7 : w22.cell? ⟨gb301, 7, none⟩ = some (.int .i64 a0_7) := (blk_cell BK301.out 7).trans rfl; have hcz23_8 : w22.cell? ⟨gb301, 8, none⟩ = some (.slice A0_8 l0_8.length c0_8) := (blk_cell BK301.out 8).trans rfl; have hcz23_9 : w22.cell? ⟨gb301, 9, none⟩ = some (.slice A0_9 l0_9.length c0_9) := (blk_cell BK301.out 9).trans rfl; have hcz23_10 : w22.cell? ⟨gb301, 10, none⟩ = some (.slice A0_10 l0_10.length c0_10) := (blk_cell BK301.out 10).trans rfl; have hfz23_0 := blk_frozen BK301.out 0; have hfz23_1 := blk_frozen BK301.out 1; have hfz23_2 := blk_frozen BK301.out 2; have hfz23_3 := blk_frozen BK301.out 3; have hfz23_4 := blk_frozen BK301.out 4; have hfz23_5 := blk_frozen BK301.out 5; have hfz23_6 := blk_frozen BK301.out 6; have hfz23_7 := blk_frozen BK301.out 7; have hfz23_8 := blk_frozen BK301.out 8; have hfz23_9 := blk_frozen BK301.out 9; have hfz23_10 := blk_frozen BK301.out 10; have hcz24_0 : w22.cell? ⟨gb302, 0, none⟩ = some (.string a1_0) := (blk_cell BK302.out 0).trans rfl; have hcz24_1 : w22.cell? ⟨gb302, 1, none⟩ = some (.int .i64 a1_1) := (blk_cell BK302.out 1).trans rfl; have hcz24_2 : w22.cell? ⟨gb302, 2, none⟩ = some (.int .i64 a1_2) := (blk_cell BK302.out 2).trans rfl; have hcz24_3 : w22.cell? ⟨gb302, 3, none⟩ = some (.int .i64 a1_3) := (blk_cell BK302.out 3).trans rfl; have hcz24_4 : w22.cell? ⟨gb302, 4, none⟩ = some (.int .i64 a1_4) := (blk_cell BK302.out 4).trans rfl; have hcz24_5 : w22.cell? ⟨gb302, 5, none⟩ = some (.slice A1_5 l1_5.length c1_5) := (blk_cell BK302.out 5).trans rfl; have hcz24_6 : w22.cell? ⟨gb302, 6, none⟩ = some (.int .i64 a1_6) := (blk_cell BK302.out 6).trans rfl; have hcz24_7 : w22.cell? ⟨gb302, 7, none⟩ = some (.int .i64 a1_7) := (blk_cell BK302.out 7).trans rfl; have hcz24_8 : w22.cell? ⟨gb302, 8, none⟩ = some (.slice A1_8 l1_8.length c1_8) := (blk_cell BK302.out 8).trans rfl; have hcz24_9 : w22.cell? ⟨gb302, 9, none⟩ = some (.slice A1_9 l1_9.length c1_9) := (blk_cell BK302.out 9).trans rfl; have hcz24_10 : w22.cell? ⟨gb302, 10, none⟩ = some (.slice A1_10 l1_10.length c1_10) := (blk_cell BK302.out 10).trans rfl; have hfz24_0 := blk_frozen BK302.out 0; have hfz24_1 := blk_frozen BK302.out 1; have hfz24_2 := blk_frozen BK302.out 2; have hfz24_3 := blk_frozen BK302.out 3; have hfz24_4 := blk_frozen BK302.out 4; have hfz24_5 := blk_frozen BK302.out 5; have hfz24_6 := blk_frozen BK302.out 6; have hfz24_7 := blk_frozen BK302.out 7; have hfz24_8 := blk_frozen BK302.out 8; have hfz24_9 := blk_frozen BK302.out 9; have hfz24_10 := blk_frozen BK302.out 10) | ((with_reducible refine gate_callee (f := 80) rfl ?_); refine goesL_ (some 46) rfl rfl Try.func80 (by kernel_rfl) rfl #[.slice A0_10 l0_10.length c0_10, .slice A1_10 l1_10.length c1_10] rfl (by (try simp only [List.map_toArray, List.map_cons, List.map_nil]); first | done | rfl | (simp only [List.length_drop, List.length_take]; rfl)) ?_; (with_reducible refine (laws_eqSlotS.calls k _ _ l0_10 _ _ l1_10 true _ ?side1 ?side2 ?side3 ?side4 A12.out).mono ?_); (case side1 => repeat (first | exact (Kd.C_below HR0_10.out HB.out) | (with_reducible refine Kd.C_alloc ?_ _) | (with_reducible refine Kd.C_drewN ?_ _) | (with_reducible refine Kd.C_drew ?_))); (case side2 => exact HC0_10.out); (case side3 => repeat (first | exact (Kd.C_below HR1_10.out HB.out) | (with_reducible refine Kd.C_alloc ?_ _) | (with_reducible refine Kd.C_drewN ?_ _) | (with_reducible refine Kd.C_drew ?_))); (case side4 => exact HC1_10.out); rintro e w25 ⟨rfl, hb⟩; refine ⟨_, rfl, ?_⟩; have n0_ := Aside0.mk (blk_below (bk_ BK301) hb); have n1_ := Aside0.mk (blk_below (bk_ BK302) hb); have n2_ := Aside0.mk (below_step bl_ hb); clear BK301; clear BK302; clear HB; have BK301 := n0_; have BK302 := n1_; have HB := n2_; clear n0_ n1_ n2_; (try clear hb); (try clear hb2); (try clear hk); (try clear hi)))
                  go_ret
                  exact ⟨by first | rfl | (simp [errW_none, errW_some] <;> rfl) | (simp [*, errW_none, errW_some] <;> rfl), bl_⟩
                · replace c13 := Bool.eq_false_iff.mpr c13
                  subst c13
                  have H1 : (some false) = some r := by rw [if_neg (show ¬ (false = true) by decide)] at H; exact H
                  clear H
                  have H := H1
                  clear H1
                  obtain rfl := Option.some.inj H
                  go_enter Try.func21, Try.ntmps21
                  go_wp2_with (first | ((with_reducible refine gate_dst (N := 2) rfl ?_); refine box_event ?hg (N := 2) ?hd (cs := #[.string a0_0, .int .i64 a0_1, .int .i64 a0_2, .int .i64 a0_3, .int .i64 a0_4, .slice A0_5 l0_5.length c0_5, .int .i64 a0_6, .int .i64 a0_7, .slice A0_8 l0_8.length c0_8, .slice A0_9 l0_9.length c0_9, .slice A0_10 l0_10.length c0_10]) (t := 48) ?hr ?_; (case hd => rfl); (case hg => rfl); (case hr => first | (go_simp; done) | (go_simp; rfl)); intro gb301 hg w26 hbox hb; have n0_ := Aside0.mk (below_step bl_ hb); have n1_ := Aside0.mk (hbox); have n2_ := Aside0.mk ((by rw [hg]; exact (below_size bl_) : w.heap.size ≤ gb301)); have n3_ := Aside0.mk ((by rw [hg]; exact (below_size bl_) : w.heap.size ≤ gb301)); clear HB; have HB := n0_; have BK301 := n1_; have GW301 := n2_; have GE301 := n3_; clear n0_ n1_ n2_ n3_; clear hb hbox hg) | ((with_reducible refine gate_dst (N := 3) rfl ?_); refine box_event ?hg (N := 3) ?hd (cs := #[.string a1_0, .int .i64 a1_1, .int .i64 a1_2, .int .i64 a1_3, .int .i64 a1_4, .slice A1_5 l1_5.length c1_5, .int .i64 a1_6, .int .i64 a1_7, .slice A1_8 l1_8.length c1_8, .slice A1_9 l1_9.length c1_9, .slice A1_10 l1_10.length c1_10]) (t := 48) ?hr ?_; (case hd => rfl); (case hg => rfl); (case hr => first | (go_simp; done) | (go_simp; rfl)); intro gb302 hg w27 hbox hb; have n0_ := Aside0.mk (blk_below (bk_ BK301) hb); have n1_ := Aside0.mk (below_step bl_ hb); have n2_ := Aside0.mk (hbox); have n3_ := Aside0.mk ((by rw [hg]; exact (below_size bl_) : w.heap.size ≤ gb302)); have n4_ := Aside0.mk ((by rw [hg]; exact (below_size bl_) : w.heap.size ≤ gb302)); have n5_ := Aside0.mk ((by rw [hg]; exact Nat.ne_of_lt (blk_lt (bk_ BK301)) : gb301 ≠ gb302)); have n6_ := Aside0.mk ((by rw [hg]; exact Nat.ne_of_gt (blk_lt (bk_ BK301)) : gb302 ≠ gb301)); clear BK301; clear HB; have BK301 := n0_; have HB := n1_; have BK302 := n2_; have GW302 := n3_; have GE302 := n4_; have NB301_302 := n5_; have NB302_301 := n6_; clear n0_ n1_ n2_ n3_ n4_ n5_ n6_; clear hb hbox hg; have hnb28 := NB301_302.out; have hnc28 := NB302_301.out; have hcz29_0 : w27.cell? ⟨gb301, 0, none⟩ = some (.string a0_0) := (blk_cell BK301.out 0).trans rfl; have hcz29_1 : w27.cell? ⟨gb301, 1, none⟩ = some (.int .i64 a0_1) := (blk_cell BK301.out 1).trans rfl; have hcz29_2 : w27.cell? ⟨gb301, 2, none⟩ = some (.int .i64 a0_2) := (blk_cell BK301.out 2).trans rfl; have hcz29_3 : w27.cell? ⟨gb301, 3, none⟩ = some (.int .i64 a0_3) := (blk_cell BK301.out 3).trans rfl; have hcz29_4 : w27.cell? ⟨gb301, 4, none⟩ = some (.int .i64 a0_4) := (blk_cell BK301.out 4).trans rfl; have hcz29_5 : w27.cell? ⟨gb301, 5, none⟩ = some (.slice A0_5 l0_5.length c0_5) := (blk_cell BK301.out 5).trans rfl; have hcz29_6 : w27.cell? ⟨gb301, 6, none⟩ = some (.int .i64 a0_6) := (blk_cell BK301.out 6).trans rfl; have hcz29_7 : w27.cell? ⟨gb301, 7, none⟩ = some (.int .i64 a0_7) := (blk_cell BK301.out 7).trans rfl; have hcz29_8 : w27.cell? ⟨gb301, 8, none⟩ = some (.slice A0_8 l0_8.length c0_8) := (blk_cell BK301.out 8).trans rfl; have hcz29_9 : w27.cell? ⟨gb301, 9, none⟩ = some (.slice A0_9 l0_9.length c0_9) := (blk_cell BK301.out 9).trans rfl; have hcz29_10 : w27.cell? ⟨gb301, 10, none⟩ = some (.slice A0_10 l0_10.length c0_10) := (blk_cell BK301.out 10).trans rfl; have hfz29_0 := blk_frozen BK301.out 0; have hfz29_1 := blk_frozen BK301.out 1; have hfz29_2 := blk_frozen BK301.out 2; have hfz29_3 := blk_frozen BK301.out 3; have hfz29_4 := blk_frozen BK301.out 4; have hfz29_5 := blk_frozen BK301.out 5; have hfz29_6 := blk_frozen BK301.out 6; have hfz29_7 := blk_frozen BK301.out 7; have hfz29_8 := blk_frozen BK301.out 8; have hfz29_9 := blk_frozen BK301.out 9; have hfz29_10 := blk_frozen BK301.out 10; have hcz30_0 : w27.cell? ⟨gb302, 0, none⟩ = some (.string a1_0) := (blk_cell BK302.out 0).trans rfl; have hcz30_1 : w27.cell? ⟨gb302, 1, none⟩ = some (.int .i64 a1_1) := (blk_cell BK302.out 1).trans rfl; have hcz30_2 : w27.cell? ⟨gb302, 2, none⟩ = some (.int .i64 a1_2) := (blk_cell BK302.out 2).trans rfl; have hcz30_3 : w27.cell? ⟨gb302, 3, none⟩ = some (.int .i64 a1_3) := (blk_cell BK302.out 3).trans rfl; have hcz30_4 : w27.cell? ⟨gb302, 4, none⟩ = some (.int .i64 a1_4) := (blk_cell BK302.out 4).trans rfl; have hcz30_5 : w27.cell? ⟨gb302, 5, none⟩ = some (.slice A1_5 l1_5.length c1_5) := (blk_cell BK302.out 5).trans rfl; have hcz30_6 : w27.cell? ⟨gb302, 6, none⟩ = some (.int .i64 a1_6) := (blk_cell BK302.out 6).trans rfl; have hcz30_7 : w27.cell? ⟨gb302, 7, none⟩ = some (.int .i64 a1_7) := (blk_cell BK302.out 7).trans rfl; have hcz30_8 : w27.cell? ⟨gb302, 8, none⟩ = some (.slice A1_8 l1_8.length c1_8) := (blk_cell BK302.out 8).trans rfl; have hcz30_9 : w27.cell? ⟨gb302, 9, none⟩ = some (.slice A1_9 l1_9.length c1_9) := (blk_cell BK302.out 9).trans rfl; have hcz30_10 : w27.cell? ⟨gb302, 10, none⟩ = some (.slice A1_10 l1_10.length c1_10) := (blk_cell BK302.out 10).trans rfl; have hfz30_0 := blk_frozen BK302.out 0; have hfz30_1 := blk_frozen BK302.out 1; have hfz30_2 := blk_frozen BK302.out 2; have hfz30_3 := blk_frozen BK302.out 3; have hfz30_4 := blk_frozen BK302.out 4; have hfz30_5 := blk_frozen BK302.out 5; have hfz30_6 := blk_frozen BK302.out 6; have hfz30_7 := blk_frozen BK302.out 7; have hfz30_8 := blk_frozen BK302.out 8; have hfz30_9 := blk_frozen BK302.out 9; have hfz30_10 := blk_frozen BK302.out 10) | ((with_reducible refine gate_callee (f := 78) rfl ?_); refine goesL_ (some 34) rfl rfl Try.func78 (by kernel_rfl) rfl #[.slice A0_5 l0_5.length c0_5, .slice A1_5 l1_5.length c1_5] rfl (by (try simp only [List.map_toArray, List.map_cons, List.map_nil]); first | done | rfl | (simp only [List.length_drop, List.length_take]; rfl)) ?_; (with_reducible refine (laws_eqHoldS.calls k _ _ l0_5 _ _ l1_5 true _ ?side1 ?side2 ?side3 ?side4 A8.out).mono ?_); (case side1 => repeat (first | exact (Kd.C_below HR0_5.out HB.out) | (with_reducible refine Kd.C_alloc ?_ _) | (with_reducible refine Kd.C_drewN ?_ _) | (with_reducible refine Kd.C_drew ?_))); (case side2 => exact HC0_5.out); (case side3 => repeat (first | exact (Kd.C_below HR1_5.out HB.out) | (with_reducible refine Kd.C_alloc ?_ _) | (with_reducible refine Kd.C_drewN ?_ _) | (with_reducible refine Kd.C_drew ?_))); (case side4 => exact HC1_5.out); rintro e w31 ⟨rfl, hb⟩; refine ⟨_, rfl, ?_⟩; have n0_ := Aside0.mk (blk_below (bk_ BK301) hb); have n1_ := Aside0.mk (blk_below (bk_ BK302) hb); have n2_ := Aside0.mk (below_step bl_ hb); clear BK301; clear BK302; clear HB; have BK301 := n0_; have BK302 := n1_; have HB := n2_; clear n0_ n1_ n2_; (try clear hb); (try clear hb2); (try clear hk); (try clear hi); have hcz32_0 : w31.cell? ⟨gb301, 0, none⟩ = some (.string a0_0) := (blk_cell BK301.out 0).trans rfl; have hcz32_1 : w31.cell? ⟨gb301, 1, none⟩ = some (.int .i64 a0_1) := (blk_cell BK301.out 1).trans rfl; have hcz32_2 : w31.cell? ⟨gb301, 2, none⟩ = some (.int .i64 a0_2) := (blk_cell BK301.out 2).trans rfl; have hcz32_3 : w31.cell? ⟨gb301, 3, none⟩ = some (.int .i64 a0_3) := (blk_cell BK301.out 3).trans rfl; have hcz32_4 : w31.cell? ⟨gb301, 4, none⟩ = some (.int .i64 a0_4) := (blk_cell BK301.out 4).trans rfl; have hcz32_5 : w31.cell? ⟨gb301, 5, none⟩ = some (.slice A0_5 l0_5.length c0_5) := (blk_cell BK301.out 5).trans rfl; have hcz32_6 : w31.cell? ⟨gb301, 6, none⟩ = some (.int .i64 a0_6) := (blk_cell BK301.out 6).trans rfl; have hcz32_7 : w31.cell? ⟨gb301, 7, none⟩ = some (.int .i64 a0_7) := (blk_cell BK301.out 7).trans rfl; have hcz32_8 : w31.cell? ⟨gb301, 8, none⟩ = some (.slice A0_8 l0_8.length c0_8) := (blk_cell BK301.out 8).trans rfl; have hcz32_9 : w31.cell? ⟨gb301, 9, none⟩ = some (.slice A0_9 l0_9.length c0_9) := (blk_cell BK301.out 9).trans rfl; have hcz32_10 : w31.cell? ⟨gb301, 10, none⟩ = some (.slice A0_10 l0_10.length c0_10) := (blk_cell BK301.out 10).trans rfl; have hfz32_0 := blk_frozen BK301.out 0; have hfz32_1 := blk_frozen BK301.out 1; have hfz32_2 := blk_frozen BK301.out 2; have hfz32_3 := blk_frozen BK301.out 3; have hfz32_4 := blk_frozen BK301.out 4; have hfz32_5 := blk_frozen BK301.out 5; have hfz32_6 := blk_frozen BK301.out 6; have hfz32_7 := blk_frozen BK301.out 7; have hfz32_8 := blk_frozen BK301.out 8; have hfz32_9 := blk_frozen BK301.out 9; have hfz32_10 := blk_frozen BK301.out 10; have hcz33_0 : w31.cell? ⟨gb302, 0, none⟩ = some (.string a1_0) := (blk_cell BK302.out 0).trans rfl; have hcz33_1 : w31.cell? ⟨gb302, 1, none⟩ = some (.int .i64 a1_1) := (blk_cell BK302.out 1).trans rfl; have hcz33_2 : w31.cell? ⟨gb302, 2, none⟩ = some (.int .i64 a1_2) := (blk_cell BK302.out 2).trans rfl; have hcz33_3 : w31.cell? ⟨gb302, 3, none⟩ = some (.int .i64 a1_3) := (blk_cell BK302.out 3).trans rfl; have hcz33_4 : w31.cell? ⟨gb302, 4, none⟩ = some (.int .i64 a1_4) := (blk_cell BK302.out 4).trans rfl; have hcz33_5 : w31.cell? ⟨gb302, 5, none⟩ = some (.slice A1_5 l1_5.length c1_5) := (blk_cell BK302.out 5).trans rfl; have hcz33_6 : w31.cell? ⟨gb302, 6, none⟩ = some (.int .i64 a1_6) := (blk_cell BK302.out 6).trans rfl; have hcz33_7 : w31.cell? ⟨gb302, 7, none⟩ = some (.int .i64 a1_7) := (blk_cell BK302.out 7).trans rfl; have hcz33_8 : w31.cell? ⟨gb302, 8, none⟩ = some (.slice A1_8 l1_8.length c1_8) := (blk_cell BK302.out 8).trans rfl; have hcz33_9 : w31.cell? ⟨gb302, 9, none⟩ = some (.slice A1_9 l1_9.length c1_9) := (blk_cell BK302.out 9).trans rfl; have hcz33_10 : w31.cell? ⟨gb302, 10, none⟩ = some (.slice A1_10 l1_10.length c1_10) := (blk_cell BK302.out 10).trans rfl; have hfz33_0 := blk_frozen BK302.out 0; have hfz33_1 := blk_frozen BK302.out 1; have hfz33_2 := blk_frozen BK302.out 2; have hfz33_3 := blk_frozen BK302.out 3; have hfz33_4 := blk_frozen BK302.out 4; have hfz33_5 := blk_frozen BK302.out 5; have hfz33_6 := blk_frozen BK302.out 6; have hfz33_7 := blk_frozen BK302.out 7; have hfz33_8 := blk_frozen BK302.out 8; have hfz33_9 := blk_frozen BK302.out 9; have hfz33_10 := blk_frozen BK302.out 10) | ((with_reducible refine gate_callee (f := 79) rfl ?_); refine goesL_ (some 40) rfl rfl Try.func79 (by kernel_rfl) rfl #[.agg #[.int .i64 a0_6, .int .i64 a0_7, .slice A0_8 l0_8.length c0_8, .slice A0_9 l0_9.length c0_9], .agg #[.int .i64 a1_6, .int .i64 a1_7, .slice A1_8 l1_8.length c1_8, .slice A1_9 l1_9.length c1_9]] rfl (by (try simp only [List.map_toArray, List.map_cons, List.map_nil]); first | done | rfl | (simp only [List.length_drop, List.length_take]; rfl)) ?_; (with_reducible refine (laws_eqRing.calls k a0_6 a0_7 _ _ l0_8 _ _ l0_9 a1_6 a1_7 _ _ l1_8 _ _ l1_9 true _ ?side1 ?side2 ?side3 ?side4 ?side5 ?side6 ?side7 ?side8 A10.out).mono ?_); (case side1 => repeat (first | exact (Kd.C_below HR0_8.out HB.out) | (with_reducible refine Kd.C_alloc ?_ _) | (with_reducible refine Kd.C_drewN ?_ _) | (with_reducible refine Kd.C_drew ?_))); (case side2 => exact HC0_8.out); (case side3 => repeat (first | exact (Kd.C_below HR0_9.out HB.out) | (with_reducible refine Kd.C_alloc ?_ _) | (with_reducible refine Kd.C_drewN ?_ _) | (with_reducible refine Kd.C_drew ?_))); (case side4 => exact HC0_9.out); (case side5 => repeat (first | exact (Kd.C_below HR1_8.out HB.out) | (with_reducible refine Kd.C_alloc ?_ _) | (with_reducible refine Kd.C_drewN ?_ _) | (with_reducible refine Kd.C_drew ?_))); (case side6 => exact HC1_8.out); (case side7 => repeat (first | exact (Kd.C_below HR1_9.out HB.out) | (with_reducible refine Kd.C_alloc ?_ _) | (with_reducible refine Kd.C_drewN ?_ _) | (with_reducible refine Kd.C_drew ?_))); (case side8 => exact HC1_9.out); rintro e w34 ⟨rfl, hb⟩; refine ⟨_, rfl, ?_⟩; have n0_ := Aside0.mk (blk_below (bk_ BK301) hb); have n1_ := Aside0.mk (blk_below (bk_ BK302) hb); have n2_ := Aside0.mk (below_step bl_ hb); clear BK301; clear BK302; clear HB; have BK301 := n0_; have BK302 := n1_; have HB := n2_; clear n0_ n1_ n2_; (try clear hb); (try clear hb2); (try clear hk); (try clear hi); have hcz35_0 : w34.cell? ⟨gb301, 0, none⟩ = some (.string a0_0) := (blk_cell BK301.out 0).trans rfl; have hcz35_1 : w34.cell? ⟨gb301, 1, none⟩ = some (.int .i64 a0_1) := (blk_cell BK301.out 1).trans rfl; have hcz35_2 : w34.cell? ⟨gb301, 2, none⟩ = some (.int .i64 a0_2) := (blk_cell BK301.out 2).trans rfl; have hcz35_3 : w34.cell? ⟨gb301, 3, none⟩ = some (.int .i64 a0_3) := (blk_cell BK301.out 3).trans rfl; have hcz35_4 : w34.cell? ⟨gb301, 4, none⟩ = some (.int .i64 a0_4) := (blk_cell BK301.out 4).trans rfl; have hcz35_5 : w34.cell? ⟨gb301, 5, none⟩ = some (.slice A0_5 l0_5.length c0_5) := (blk_cell BK301.out 5).trans rfl; have hcz35_6 : w34.cell? ⟨gb301, 6, none⟩ = some (.int .i64 a0_6) := (blk_cell BK301.out 6).trans rfl; have hcz35_7 : w34.cell? ⟨gb301, 7, none⟩ = some (.int .i64 a0_7) := (blk_cell BK301.out 7).trans rfl; have hcz35_8 : w34.cell? ⟨gb301, 8, none⟩ = some (.slice A0_8 l0_8.length c0_8) := (blk_cell BK301.out 8).trans rfl; have hcz35_9 : w34.cell? ⟨gb301, 9, none⟩ = some (.slice A0_9 l0_9.length c0_9) := (blk_cell BK301.out 9).trans rfl; have hcz35_10 : w34.cell? ⟨gb301, 10, none⟩ = some (.slice A0_10 l0_10.length c0_10) := (blk_cell BK301.out 10).trans rfl; have hfz35_0 := blk_frozen BK301.out 0; have hfz35_1 := blk_frozen BK301.out 1; have hfz35_2 := blk_frozen BK301.out 2; have hfz35_3 := blk_frozen BK301.out 3; have hfz35_4 := blk_frozen BK301.out 4; have hfz35_5 := blk_frozen BK301.out 5; have hfz35_6 := blk_frozen BK301.out 6; have hfz35_7 := blk_frozen BK301.out 7; have hfz35_8 := blk_frozen BK301.out 8; have hfz35_9 := blk_frozen BK301.out 9; have hfz35_10 := blk_frozen BK301.out 10; have hcz36_0 : w34.cell? ⟨gb302, 0, none⟩ = some (.string a1_0) := (blk_cell BK302.out 0).trans rfl; have hcz36_1 : w34.cell? ⟨gb302, 1, none⟩ = some (.int .i64 a1_1) := (blk_cell BK302.out 1).trans rfl; have hcz36_2 : w34.cell? ⟨gb302, 2, none⟩ = some (.int .i64 a1_2) := (blk_cell BK302.out 2).trans rfl; have hcz36_3 : w34.cell? ⟨gb302, 3, none⟩ = some (.int .i64 a1_3) := (blk_cell BK302.out 3).trans rfl; have hcz36_4 : w34.cell? ⟨gb302, 4, none⟩ = some (.int .i64 a1_4) := (blk_cell BK302.out 4).trans rfl; have hcz36_5 : w34.cell? ⟨gb302, 5, none⟩ = some (.slice A1_5 l1_5.length c1_5) := (blk_cell BK302.out 5).trans rfl; have hcz36_6 : w34.cell? ⟨gb302, 6, none⟩ = some (.int .i64 a1_6) := (blk_cell BK302.out 6).trans rfl; have hcz36_7 : w34.cell? ⟨gb302, 7, none⟩ = some (.int .i64 a1_7) := (blk_cell BK302.out 7).trans rfl; have hcz36_8 : w34.cell? ⟨gb302, 8, none⟩ = some (.slice A1_8 l1_8.length c1_8) := (blk_cell BK302.out 8).trans rfl; have hcz36_9 : w34.cell? ⟨gb302, 9, none⟩ = some (.slice A1_9 l1_9.length c1_9) := (blk_cell BK302.out 9).trans rfl; have hcz36_10 : w34.cell? ⟨gb302, 10, none⟩ = some (.slice A1_10 l1_10.length c1_10) := (blk_cell BK302.out 10).trans rfl; have hfz36_0 := blk_frozen BK302.out 0; have hfz36_1 := blk_frozen BK302.out 1; have hfz36_2 := blk_frozen BK302.out 2; have hfz36_3 := blk_frozen BK302.out 3; have hfz36_4 := blk_frozen BK302.out 4; have hfz36_5 := blk_frozen BK302.out 5; have hfz36_6 := blk_frozen BK302.out 6; have hfz36_7 := blk_frozen BK302.out 7; have hfz36_8 := blk_frozen BK302.out 8; have hfz36_9 := blk_frozen BK302.out 9; have hfz36_10 := blk_frozen BK302.out 10) | ((with_reducible refine gate_callee (f := 80) rfl ?_); refine goesL_ (some 46) rfl rfl Try.func80 (by kernel_rfl) rfl #[.slice A0_10 l0_10.length c0_10, .slice A1_10 l1_10.length c1_10] rfl (by (try simp only [List.map_toArray, List.map_cons, List.map_nil]); first | done | rfl | (simp only [List.length_drop, List.length_take]; rfl)) ?_; (with_reducible refine (laws_eqSlotS.calls k _ _ l0_10 _ _ l1_10 false _ ?side1 ?side2 ?side3 ?side4 A12.out).mono ?_); (case side1 => repeat (first | exact (Kd.C_below HR0_10.out HB.out) | (with_reducible refine Kd.C_alloc ?_ _) | (with_reducible refine Kd.C_drewN ?_ _) | (with_reducible refine Kd.C_drew ?_))); (case side2 => exact HC0_10.out); (case side3 => repeat (first | exact (Kd.C_below HR1_10.out HB.out) | (with_reducible refine Kd.C_alloc ?_ _) | (with_reducible refine Kd.C_drewN ?_ _) | (with_reducible refine Kd.C_drew ?_))); (case side4 => exact HC1_10.out); rintro e w37 ⟨rfl, hb⟩; refine ⟨_, rfl, ?_⟩; have n0_ := Aside0.mk (blk_below (bk_ BK301) hb); have n1_ := Aside0.mk (blk_below (bk_ BK302) hb); have n2_ := Aside0.mk (below_step bl_ hb); clear BK301; clear BK302; clear HB; have BK301 := n0_; have BK302 := n1_; have HB := n2_; clear n0_ n1_ n2_; (try clear hb); (try clear hb2); (try clear hk); (try clear hi)))
                  go_ret
                  exact ⟨by first | rfl | (simp [errW_none, errW_some] <;> rfl) | (simp [*, errW_none, errW_some] <;> rfl), bl_⟩
              · replace c11 := Bool.eq_false_iff.mpr c11
                subst c11
                have H1 : (some false) = some r := by rw [if_neg (show ¬ (false = true) by decide)] at H; exact H
                clear H
                have H := H1
                clear H1
                obtain rfl := Option.some.inj H
                go_enter Try.func21, Try.ntmps21
                go_wp2_with (first | ((with_reducible refine gate_dst (N := 2) rfl ?_); refine box_event ?hg (N := 2) ?hd (cs := #[.string a0_0, .int .i64 a0_1, .int .i64 a0_2, .int .i64 a0_3, .int .i64 a0_4, .slice A0_5 l0_5.length c0_5, .int .i64 a0_6, .int .i64 a0_7, .slice A0_8 l0_8.length c0_8, .slice A0_9 l0_9.length c0_9, .slice A0_10 l0_10.length c0_10]) (t := 48) ?hr ?_; (case hd => rfl); (case hg => rfl); (case hr => first | (go_simp; done) | (go_simp; rfl)); intro gb301 hg w38 hbox hb; have n0_ := Aside0.mk (below_step bl_ hb); have n1_ := Aside0.mk (hbox); have n2_ := Aside0.mk ((by rw [hg]; exact (below_size bl_) : w.heap.size ≤ gb301)); have n3_ := Aside0.mk ((by rw [hg]; exact (below_size bl_) : w.heap.size ≤ gb301)); clear HB; have HB := n0_; have BK301 := n1_; have GW301 := n2_; have GE301 := n3_; clear n0_ n1_ n2_ n3_; clear hb hbox hg) | ((with_reducible refine gate_dst (N := 3) rfl ?_); refine box_event ?hg (N := 3) ?hd (cs := #[.string a1_0, .int .i64 a1_1, .int .i64 a1_2, .int .i64 a1_3, .int .i64 a1_4, .slice A1_5 l1_5.length c1_5, .int .i64 a1_6, .int .i64 a1_7, .slice A1_8 l1_8.length c1_8, .slice A1_9 l1_9.length c1_9, .slice A1_10 l1_10.length c1_10]) (t := 48) ?hr ?_; (case hd => rfl); (case hg => rfl); (case hr => first | (go_simp; done) | (go_simp; rfl)); intro gb302 hg w39 hbox hb; have n0_ := Aside0.mk (blk_below (bk_ BK301) hb); have n1_ := Aside0.mk (below_step bl_ hb); have n2_ := Aside0.mk (hbox); have n3_ := Aside0.mk ((by rw [hg]; exact (below_size bl_) : w.heap.size ≤ gb302)); have n4_ := Aside0.mk ((by rw [hg]; exact (below_size bl_) : w.heap.size ≤ gb302)); have n5_ := Aside0.mk ((by rw [hg]; exact Nat.ne_of_lt (blk_lt (bk_ BK301)) : gb301 ≠ gb302)); have n6_ := Aside0.mk ((by rw [hg]; exact Nat.ne_of_gt (blk_lt (bk_ BK301)) : gb302 ≠ gb301)); clear BK301; clear HB; have BK301 := n0_; have HB := n1_; have BK302 := n2_; have GW302 := n3_; have GE302 := n4_; have NB301_302 := n5_; have NB302_301 := n6_; clear n0_ n1_ n2_ n3_ n4_ n5_ n6_; clear hb hbox hg; have hnb40 := NB301_302.out; have hnc40 := NB302_301.out; have hcz41_0 : w39.cell? ⟨gb301, 0, none⟩ = some (.string a0_0) := (blk_cell BK301.out 0).trans rfl; have hcz41_1 : w39.cell? ⟨gb301, 1, none⟩ = some (.int .i64 a0_1) := (blk_cell BK301.out 1).trans rfl; have hcz41_2 : w39.cell? ⟨gb301, 2, none⟩ = some (.int .i64 a0_2) := (blk_cell BK301.out 2).trans rfl; have hcz41_3 : w39.cell? ⟨gb301, 3, none⟩ = some (.int .i64 a0_3) := (blk_cell BK301.out 3).trans rfl; have hcz41_4 : w39.cell? ⟨gb301, 4, none⟩ = some (.int .i64 a0_4) := (blk_cell BK301.out 4).trans rfl; have hcz41_5 : w39.cell? ⟨gb301, 5, none⟩ = some (.slice A0_5 l0_5.length c0_5) := (blk_cell BK301.out 5).trans rfl; have hcz41_6 : w39.cell? ⟨gb301, 6, none⟩ = some (.int .i64 a0_6) := (blk_cell BK301.out 6).trans rfl; have hcz41_7 : w39.cell? ⟨gb301, 7, none⟩ = some (.int .i64 a0_7) := (blk_cell BK301.out 7).trans rfl; have hcz41_8 : w39.cell? ⟨gb301, 8, none⟩ = some (.slice A0_8 l0_8.length c0_8) := (blk_cell BK301.out 8).trans rfl; have hcz41_9 : w39.cell? ⟨gb301, 9, none⟩ = some (.slice A0_9 l0_9.length c0_9) := (blk_cell BK301.out 9).trans rfl; have hcz41_10 : w39.cell? ⟨gb301, 10, none⟩ = some (.slice A0_10 l0_10.length c0_10) := (blk_cell BK301.out 10).trans rfl; have hfz41_0 := blk_frozen BK301.out 0; have hfz41_1 := blk_frozen BK301.out 1; have hfz41_2 := blk_frozen BK301.out 2; have hfz41_3 := blk_frozen BK301.out 3; have hfz41_4 := blk_frozen BK301.out 4; have hfz41_5 := blk_frozen BK301.out 5; have hfz41_6 := blk_frozen BK301.out 6; have hfz41_7 := blk_frozen BK301.out 7; have hfz41_8 := blk_frozen BK301.out 8; have hfz41_9 := blk_frozen BK301.out 9; have hfz41_10 := blk_frozen BK301.out 10; have hcz42_0 : w39.cell? ⟨gb302, 0, none⟩ = some (.string a1_0) := (blk_cell BK302.out 0).trans rfl; have hcz42_1 : w39.cell? ⟨gb302, 1, none⟩ = some (.int .i64 a1_1) := (blk_cell BK302.out 1).trans rfl; have hcz42_2 : w39.cell? ⟨gb302, 2, none⟩ = some (.int .i64 a1_2) := (blk_cell BK302.out 2).trans rfl; have hcz42_3 : w39.cell? ⟨gb302, 3, none⟩ = some (.int .i64 a1_3) := (blk_cell BK302.out 3).trans rfl; have hcz42_4 : w39.cell? ⟨gb302, 4, none⟩ = some (.int .i64 a1_4) := (blk_cell BK302.out 4).trans rfl; have hcz42_5 : w39.cell? ⟨gb302, 5, none⟩ = some (.slice A1_5 l1_5.length c1_5) := (blk_cell BK302.out 5).trans rfl; have hcz42_6 : w39.cell? ⟨gb302, 6, none⟩ = some (.int .i64 a1_6) := (blk_cell BK302.out 6).trans rfl; have hcz42_7 : w39.cell? ⟨gb302, 7, none⟩ = some (.int .i64 a1_7) := (blk_cell BK302.out 7).trans rfl; have hcz42_8 : w39.cell? ⟨gb302, 8, none⟩ = some (.slice A1_8 l1_8.length c1_8) := (blk_cell BK302.out 8).trans rfl; have hcz42_9 : w39.cell? ⟨gb302, 9, none⟩ = some (.slice A1_9 l1_9.length c1_9) := (blk_cell BK302.out 9).trans rfl; have hcz42_10 : w39.cell? ⟨gb302, 10, none⟩ = some (.slice A1_10 l1_10.length c1_10) := (blk_cell BK302.out 10).trans rfl; have hfz42_0 := blk_frozen BK302.out 0; have hfz42_1 := blk_frozen BK302.out 1; have hfz42_2 := blk_frozen BK302.out 2; have hfz42_3 := blk_frozen BK302.out 3; have hfz42_4 := blk_frozen BK302.out 4; have hfz42_5 := blk_frozen BK302.out 5; have hfz42_6 := blk_frozen BK302.out 6; have hfz42_7 := blk_frozen BK302.out 7; have hfz42_8 := blk_frozen BK302.out 8; have hfz42_9 := blk_frozen BK302.out 9; have hfz42_10 := blk_frozen BK302.out 10) | ((with_reducible refine gate_callee (f := 78) rfl ?_); refine goesL_ (some 34) rfl rfl Try.func78 (by kernel_rfl) rfl #[.slice A0_5 l0_5.length c0_5, .slice A1_5 l1_5.length c1_5] rfl (by (try simp only [List.map_toArray, List.map_cons, List.map_nil]); first | done | rfl | (simp only [List.length_drop, List.length_take]; rfl)) ?_; (with_reducible refine (laws_eqHoldS.calls k _ _ l0_5 _ _ l1_5 true _ ?side1 ?side2 ?side3 ?side4 A8.out).mono ?_); (case side1 => repeat (first | exact (Kd.C_below HR0_5.out HB.out) | (with_reducible refine Kd.C_alloc ?_ _) | (with_reducible refine Kd.C_drewN ?_ _) | (with_reducible refine Kd.C_drew ?_))); (case side2 => exact HC0_5.out); (case side3 => repeat (first | exact (Kd.C_below HR1_5.out HB.out) | (with_reducible refine Kd.C_alloc ?_ _) | (with_reducible refine Kd.C_drewN ?_ _) | (with_reducible refine Kd.C_drew ?_))); (case side4 => exact HC1_5.out); rintro e w43 ⟨rfl, hb⟩; refine ⟨_, rfl, ?_⟩; have n0_ := Aside0.mk (blk_below (bk_ BK301) hb); have n1_ := Aside0.mk (blk_below (bk_ BK302) hb); have n2_ := Aside0.mk (below_step bl_ hb); clear BK301; clear BK302; clear HB; have BK301 := n0_; have BK302 := n1_; have HB := n2_; clear n0_ n1_ n2_; (try clear hb); (try clear hb2); (try clear hk); (try clear hi); have hcz44_0 : w43.cell? ⟨gb301, 0, none⟩ = some (.string a0_0) := (blk_cell BK301.out 0).trans rfl; have hcz44_1 : w43.cell? ⟨gb301, 1, none⟩ = some (.int .i64 a0_1) := (blk_cell BK301.out 1).trans rfl; have hcz44_2 : w43.cell? ⟨gb301, 2, none⟩ = some (.int .i64 a0_2) := (blk_cell BK301.out 2).trans rfl; have hcz44_3 : w43.cell? ⟨gb301, 3, none⟩ = some (.int .i64 a0_3) := (blk_cell BK301.out 3).trans rfl; have hcz44_4 : w43.cell? ⟨gb301, 4, none⟩ = some (.int .i64 a0_4) := (blk_cell BK301.out 4).trans rfl; have hcz44_5 : w43.cell? ⟨gb301, 5, none⟩ = some (.slice A0_5 l0_5.length c0_5) := (blk_cell BK301.out 5).trans rfl; have hcz44_6 : w43.cell? ⟨gb301, 6, none⟩ = some (.int .i64 a0_6) := (blk_cell BK301.out 6).trans rfl; have hcz44_7 : w43.cell? ⟨gb301, 7, none⟩ = some (.int .i64 a0_7) := (blk_cell BK301.out 7).trans rfl; have hcz44_8 : w43.cell? ⟨gb301, 8, none⟩ = some (.slice A0_8 l0_8.length c0_8) := (blk_cell BK301.out 8).trans rfl; have hcz44_9 : w43.cell? ⟨gb301, 9, none⟩ = some (.slice A0_9 l0_9.length c0_9) := (blk_cell BK301.out 9).trans rfl; have hcz44_10 : w43.cell? ⟨gb301, 10, none⟩ = some (.slice A0_10 l0_10.length c0_10) := (blk_cell BK301.out 10).trans rfl; have hfz44_0 := blk_frozen BK301.out 0; have hfz44_1 := blk_frozen BK301.out 1; have hfz44_2 := blk_frozen BK301.out 2; have hfz44_3 := blk_frozen BK301.out 3; have hfz44_4 := blk_frozen BK301.out 4; have hfz44_5 := blk_frozen BK301.out 5; have hfz44_6 := blk_frozen BK301.out 6; have hfz44_7 := blk_frozen BK301.out 7; have hfz44_8 := blk_frozen BK301.out 8; have hfz44_9 := blk_frozen BK301.out 9; have hfz44_10 := blk_frozen BK301.out 10; have hcz45_0 : w43.cell? ⟨gb302, 0, none⟩ = some (.string a1_0) := (blk_cell BK302.out 0).trans rfl; have hcz45_1 : w43.cell? ⟨gb302, 1, none⟩ = some (.int .i64 a1_1) := (blk_cell BK302.out 1).trans rfl; have hcz45_2 : w43.cell? ⟨gb302, 2, none⟩ = some (.int .i64 a1_2) := (blk_cell BK302.out 2).trans rfl; have hcz45_3 : w43.cell? ⟨gb302, 3, none⟩ = some (.int .i64 a1_3) := (blk_cell BK302.out 3).trans rfl; have hcz45_4 : w43.cell? ⟨gb302, 4, none⟩ = some (.int .i64 a1_4) := (blk_cell BK302.out 4).trans rfl; have hcz45_5 : w43.cell? ⟨gb302, 5, none⟩ = some (.slice A1_5 l1_5.length c1_5) := (blk_cell BK302.out 5).trans rfl; have hcz45_6 : w43.cell? ⟨gb302, 6, none⟩ = some (.int .i64 a1_6) := (blk_cell BK302.out 6).trans rfl; have hcz45_7 : w43.cell? ⟨gb302, 7, none⟩ = some (.int .i64 a1_7) := (blk_cell BK302.out 7).trans rfl; have hcz45_8 : w43.cell? ⟨gb302, 8, none⟩ = some (.slice A1_8 l1_8.length c1_8) := (blk_cell BK302.out 8).trans rfl; have hcz45_9 : w43.cell? ⟨gb302, 9, none⟩ = some (.slice A1_9 l1_9.length c1_9) := (blk_cell BK302.out 9).trans rfl; have hcz45_10 : w43.cell? ⟨gb302, 10, none⟩ = some (.slice A1_10 l1_10.length c1_10) := (blk_cell BK302.out 10).trans rfl; have hfz45_0 := blk_frozen BK302.out 0; have hfz45_1 := blk_frozen BK302.out 1; have hfz45_2 := blk_frozen BK302.out 2; have hfz45_3 := blk_frozen BK302.out 3; have hfz45_4 := blk_frozen BK302.out 4; have hfz45_5 := blk_frozen BK302.out 5; have hfz45_6 := blk_frozen BK302.out 6; have hfz45_7 := blk_frozen BK302.out 7; have hfz45_8 := blk_frozen BK302.out 8; have hfz45_9 := blk_frozen BK302.out 9; have hfz45_10 := blk_frozen BK302.out 10) | ((with_reducible refine gate_callee (f := 79) rfl ?_); refine goesL_ (some 40) rfl rfl Try.func79 (by kernel_rfl) rfl #[.agg #[.int .i64 a0_6, .int .i64 a0_7, .slice A0_8 l0_8.length c0_8, .slice A0_9 l0_9.length c0_9], .agg #[.int .i64 a1_6, .int .i64 a1_7, .slice A1_8 l1_8.length c1_8, .slice A1_9 l1_9.length c1_9]] rfl (by (try simp only [List.map_toArray, List.map_cons, List.map_nil]); first | done | rfl | (simp only [List.length_drop, List.length_take]; rfl)) ?_; (with_reducible refine (laws_eqRing.calls k a0_6 a0_7 _ _ l0_8 _ _ l0_9 a1_6 a1_7 _ _ l1_8 _ _ l1_9 false _ ?side1 ?side2 ?side3 ?side4 ?side5 ?side6 ?side7 ?side8 A10.out).mono ?_); (case side1 => repeat (first | exact (Kd.C_below HR0_8.out HB.out) | (with_reducible refine Kd.C_alloc ?_ _) | (with_reducible refine Kd.C_drewN ?_ _) | (with_reducible refine Kd.C_drew ?_))); (case side2 => exact HC0_8.out); (case side3 => repeat (first | exact (Kd.C_below HR0_9.out HB.out) | (with_reducible refine Kd.C_alloc ?_ _) | (with_reducible refine Kd.C_drewN ?_ _) | (with_reducible refine Kd.C_drew ?_))); (case side4 => exact HC0_9.out); (case side5 => repeat (first | exact (Kd.C_below HR1_8.out HB.out) | (with_reducible refine Kd.C_alloc ?_ _) | (with_reducible refine Kd.C_drewN ?_ _) | (with_reducible refine Kd.C_drew ?_))); (case side6 => exact HC1_8.out); (case side7 => repeat (first | exact (Kd.C_below HR1_9.out HB.out) | (with_reducible refine Kd.C_alloc ?_ _) | (with_reducible refine Kd.C_drewN ?_ _) | (with_reducible refine Kd.C_drew ?_))); (case side8 => exact HC1_9.out); rintro e w46 ⟨rfl, hb⟩; refine ⟨_, rfl, ?_⟩; have n0_ := Aside0.mk (blk_below (bk_ BK301) hb); have n1_ := Aside0.mk (blk_below (bk_ BK302) hb); have n2_ := Aside0.mk (below_step bl_ hb); clear BK301; clear BK302; clear HB; have BK301 := n0_; have BK302 := n1_; have HB := n2_; clear n0_ n1_ n2_; (try clear hb); (try clear hb2); (try clear hk); (try clear hi)))
                go_ret
                exact ⟨by first | rfl | (simp [errW_none, errW_some] <;> rfl) | (simp [*, errW_none, errW_some] <;> rfl), bl_⟩
            · replace c9 := Bool.eq_false_iff.mpr c9
              subst c9
              have H1 : (some false) = some r := by rw [if_neg (show ¬ (false = true) by decide)] at H; exact H
              clear H
              have H := H1
              clear H1
              obtain rfl := Option.some.inj H
              go_enter Try.func21, Try.ntmps21
              go_wp2_with (first | ((with_reducible refine gate_dst (N := 2) rfl ?_); refine box_event ?hg (N := 2) ?hd (cs := #[.string a0_0, .int .i64 a0_1, .int .i64 a0_2, .int .i64 a0_3, .int .i64 a0_4, .slice A0_5 l0_5.length c0_5, .int .i64 a0_6, .int .i64 a0_7, .slice A0_8 l0_8.length c0_8, .slice A0_9 l0_9.length c0_9, .slice A0_10 l0_10.length c0_10]) (t := 48) ?hr ?_; (case hd => rfl); (case hg => rfl); (case hr => first | (go_simp; done) | (go_simp; rfl)); intro gb301 hg w47 hbox hb; have n0_ := Aside0.mk (below_step bl_ hb); have n1_ := Aside0.mk (hbox); have n2_ := Aside0.mk ((by rw [hg]; exact (below_size bl_) : w.heap.size ≤ gb301)); have n3_ := Aside0.mk ((by rw [hg]; exact (below_size bl_) : w.heap.size ≤ gb301)); clear HB; have HB := n0_; have BK301 := n1_; have GW301 := n2_; have GE301 := n3_; clear n0_ n1_ n2_ n3_; clear hb hbox hg) | ((with_reducible refine gate_dst (N := 3) rfl ?_); refine box_event ?hg (N := 3) ?hd (cs := #[.string a1_0, .int .i64 a1_1, .int .i64 a1_2, .int .i64 a1_3, .int .i64 a1_4, .slice A1_5 l1_5.length c1_5, .int .i64 a1_6, .int .i64 a1_7, .slice A1_8 l1_8.length c1_8, .slice A1_9 l1_9.length c1_9, .slice A1_10 l1_10.length c1_10]) (t := 48) ?hr ?_; (case hd => rfl); (case hg => rfl); (case hr => first | (go_simp; done) | (go_simp; rfl)); intro gb302 hg w48 hbox hb; have n0_ := Aside0.mk (blk_below (bk_ BK301) hb); have n1_ := Aside0.mk (below_step bl_ hb); have n2_ := Aside0.mk (hbox); have n3_ := Aside0.mk ((by rw [hg]; exact (below_size bl_) : w.heap.size ≤ gb302)); have n4_ := Aside0.mk ((by rw [hg]; exact (below_size bl_) : w.heap.size ≤ gb302)); have n5_ := Aside0.mk ((by rw [hg]; exact Nat.ne_of_lt (blk_lt (bk_ BK301)) : gb301 ≠ gb302)); have n6_ := Aside0.mk ((by rw [hg]; exact Nat.ne_of_gt (blk_lt (bk_ BK301)) : gb302 ≠ gb301)); clear BK301; clear HB; have BK301 := n0_; have HB := n1_; have BK302 := n2_; have GW302 := n3_; have GE302 := n4_; have NB301_302 := n5_; have NB302_301 := n6_; clear n0_ n1_ n2_ n3_ n4_ n5_ n6_; clear hb hbox hg; have hnb49 := NB301_302.out; have hnc49 := NB302_301.out; have hcz50_0 : w48.cell? ⟨gb301, 0, none⟩ = some (.string a0_0) := (blk_cell BK301.out 0).trans rfl; have hcz50_1 : w48.cell? ⟨gb301, 1, none⟩ = some (.int .i64 a0_1) := (blk_cell BK301.out 1).trans rfl; have hcz50_2 : w48.cell? ⟨gb301, 2, none⟩ = some (.int .i64 a0_2) := (blk_cell BK301.out 2).trans rfl; have hcz50_3 : w48.cell? ⟨gb301, 3, none⟩ = some (.int .i64 a0_3) := (blk_cell BK301.out 3).trans rfl; have hcz50_4 : w48.cell? ⟨gb301, 4, none⟩ = some (.int .i64 a0_4) := (blk_cell BK301.out 4).trans rfl; have hcz50_5 : w48.cell? ⟨gb301, 5, none⟩ = some (.slice A0_5 l0_5.length c0_5) := (blk_cell BK301.out 5).trans rfl; have hcz50_6 : w48.cell? ⟨gb301, 6, none⟩ = some (.int .i64 a0_6) := (blk_cell BK301.out 6).trans rfl; have hcz50_7 : w48.cell? ⟨gb301, 7, none⟩ = some (.int .i64 a0_7) := (blk_cell BK301.out 7).trans rfl; have hcz50_8 : w48.cell? ⟨gb301, 8, none⟩ = some (.slice A0_8 l0_8.length c0_8) := (blk_cell BK301.out 8).trans rfl; have hcz50_9 : w48.cell? ⟨gb301, 9, none⟩ = some (.slice A0_9 l0_9.length c0_9) := (blk_cell BK301.out 9).trans rfl; have hcz50_10 : w48.cell? ⟨gb301, 10, none⟩ = some (.slice A0_10 l0_10.length c0_10) := (blk_cell BK301.out 10).trans rfl; have hfz50_0 := blk_frozen BK301.out 0; have hfz50_1 := blk_frozen BK301.out 1; have hfz50_2 := blk_frozen BK301.out 2; have hfz50_3 := blk_frozen BK301.out 3; have hfz50_4 := blk_frozen BK301.out 4; have hfz50_5 := blk_frozen BK301.out 5; have hfz50_6 := blk_frozen BK301.out 6; have hfz50_7 := blk_frozen BK301.out 7; have hfz50_8 := blk_frozen BK301.out 8; have hfz50_9 := blk_frozen BK301.out 9; have hfz50_10 := blk_frozen BK301.out 10; have hcz51_0 : w48.cell? ⟨gb302, 0, none⟩ = some (.string a1_0) := (blk_cell BK302.out 0).trans rfl; have hcz51_1 : w48.cell? ⟨gb302, 1, none⟩ = some (.int .i64 a1_1) := (blk_cell BK302.out 1).trans rfl; have hcz51_2 : w48.cell? ⟨gb302, 2, none⟩ = some (.int .i64 a1_2) := (blk_cell BK302.out 2).trans rfl; have hcz51_3 : w48.cell? ⟨gb302, 3, none⟩ = some (.int .i64 a1_3) := (blk_cell BK302.out 3).trans rfl; have hcz51_4 : w48.cell? ⟨gb302, 4, none⟩ = some (.int .i64 a1_4) := (blk_cell BK302.out 4).trans rfl; have hcz51_5 : w48.cell? ⟨gb302, 5, none⟩ = some (.slice A1_5 l1_5.length c1_5) := (blk_cell BK302.out 5).trans rfl; have hcz51_6 : w48.cell? ⟨gb302, 6, none⟩ = some (.int .i64 a1_6) := (blk_cell BK302.out 6).trans rfl; have hcz51_7 : w48.cell? ⟨gb302, 7, none⟩ = some (.int .i64 a1_7) := (blk_cell BK302.out 7).trans rfl; have hcz51_8 : w48.cell? ⟨gb302, 8, none⟩ = some (.slice A1_8 l1_8.length c1_8) := (blk_cell BK302.out 8).trans rfl; have hcz51_9 : w48.cell? ⟨gb302, 9, none⟩ = some (.slice A1_9 l1_9.length c1_9) := (blk_cell BK302.out 9).trans rfl; have hcz51_10 : w48.cell? ⟨gb302, 10, none⟩ = some (.slice A1_10 l1_10.length c1_10) := (blk_cell BK302.out 10).trans rfl; have hfz51_0 := blk_frozen BK302.out 0; have hfz51_1 := blk_frozen BK302.out 1; have hfz51_2 := blk_frozen BK302.out 2; have hfz51_3 := blk_frozen BK302.out 3; have hfz51_4 := blk_frozen BK302.out 4; have hfz51_5 := blk_frozen BK302.out 5; have hfz51_6 := blk_frozen BK302.out 6; have hfz51_7 := blk_frozen BK302.out 7; have hfz51_8 := blk_frozen BK302.out 8; have hfz51_9 := blk_frozen BK302.out 9; have hfz51_10 := blk_frozen BK302.out 10) | ((with_reducible refine gate_callee (f := 78) rfl ?_); refine goesL_ (some 34) rfl rfl Try.func78 (by kernel_rfl) rfl #[.slice A0_5 l0_5.length c0_5, .slice A1_5 l1_5.length c1_5] rfl (by (try simp only [List.map_toArray, List.map_cons, List.map_nil]); first | done | rfl | (simp only [List.length_drop, List.length_take]; rfl)) ?_; (with_reducible refine (laws_eqHoldS.calls k _ _ l0_5 _ _ l1_5 false _ ?side1 ?side2 ?side3 ?side4 A8.out).mono ?_); (case side1 => repeat (first | exact (Kd.C_below HR0_5.out HB.out) | (with_reducible refine Kd.C_alloc ?_ _) | (with_reducible refine Kd.C_drewN ?_ _) | (with_reducible refine Kd.C_drew ?_))); (case side2 => exact HC0_5.out); (case side3 => repeat (first | exact (Kd.C_below HR1_5.out HB.out) | (with_reducible refine Kd.C_alloc ?_ _) | (with_reducible refine Kd.C_drewN ?_ _) | (with_reducible refine Kd.C_drew ?_))); (case side4 => exact HC1_5.out); rintro e w52 ⟨rfl, hb⟩; refine ⟨_, rfl, ?_⟩; have n0_ := Aside0.mk (blk_below (bk_ BK301) hb); have n1_ := Aside0.mk (blk_below (bk_ BK302) hb); have n2_ := Aside0.mk (below_step bl_ hb); clear BK301; clear BK302; clear HB; have BK301 := n0_; have BK302 := n1_; have HB := n2_; clear n0_ n1_ n2_; (try clear hb); (try clear hb2); (try clear hk); (try clear hi)))
              go_ret
              exact ⟨by first | rfl | (simp [errW_none, errW_some] <;> rfl) | (simp [*, errW_none, errW_some] <;> rfl), bl_⟩
          · rw [if_neg c7] at H
            have c7b0 : (a0_4 == a1_4) = false := beq_eq_false_iff_ne.mpr c7
            have c7b1 : (a0_4 != a1_4) = true := bne_iff_ne.mpr c7
            obtain rfl := Option.some.inj H
            go_enter Try.func21, Try.ntmps21
            go_wp2_with (first | ((with_reducible refine gate_dst (N := 2) rfl ?_); refine box_event ?hg (N := 2) ?hd (cs := #[.string a0_0, .int .i64 a0_1, .int .i64 a0_2, .int .i64 a0_3, .int .i64 a0_4, .slice A0_5 l0_5.length c0_5, .int .i64 a0_6, .int .i64 a0_7, .slice A0_8 l0_8.length c0_8, .slice A0_9 l0_9.length c0_9, .slice A0_10 l0_10.length c0_10]) (t := 48) ?hr ?_; (case hd => rfl); (case hg => rfl); (case hr => first | (go_simp; done) | (go_simp; rfl)); intro gb301 hg w53 hbox hb; have n0_ := Aside0.mk (below_step bl_ hb); have n1_ := Aside0.mk (hbox); have n2_ := Aside0.mk ((by rw [hg]; exact (below_size bl_) : w.heap.size ≤ gb301)); have n3_ := Aside0.mk ((by rw [hg]; exact (below_size bl_) : w.heap.size ≤ gb301)); clear HB; have HB := n0_; have BK301 := n1_; have GW301 := n2_; have GE301 := n3_; clear n0_ n1_ n2_ n3_; clear hb hbox hg) | ((with_reducible refine gate_dst (N := 3) rfl ?_); refine box_event ?hg (N := 3) ?hd (cs := #[.string a1_0, .int .i64 a1_1, .int .i64 a1_2, .int .i64 a1_3, .int .i64 a1_4, .slice A1_5 l1_5.length c1_5, .int .i64 a1_6, .int .i64 a1_7, .slice A1_8 l1_8.length c1_8, .slice A1_9 l1_9.length c1_9, .slice A1_10 l1_10.length c1_10]) (t := 48) ?hr ?_; (case hd => rfl); (case hg => rfl); (case hr => first | (go_simp; done) | (go_simp; rfl)); intro gb302 hg w54 hbox hb; have n0_ := Aside0.mk (blk_below (bk_ BK301) hb); have n1_ := Aside0.mk (below_step bl_ hb); have n2_ := Aside0.mk (hbox); have n3_ := Aside0.mk ((by rw [hg]; exact (below_size bl_) : w.heap.size ≤ gb302)); have n4_ := Aside0.mk ((by rw [hg]; exact (below_size bl_) : w.heap.size ≤ gb302)); have n5_ := Aside0.mk ((by rw [hg]; exact Nat.ne_of_lt (blk_lt (bk_ BK301)) : gb301 ≠ gb302)); have n6_ := Aside0.mk ((by rw [hg]; exact Nat.ne_of_gt (blk_lt (bk_ BK301)) : gb302 ≠ gb301)); clear BK301; clear HB; have BK301 := n0_; have HB := n1_; have BK302 := n2_; have GW302 := n3_; have GE302 := n4_; have NB301_302 := n5_; have NB302_301 := n6_; clear n0_ n1_ n2_ n3_ n4_ n5_ n6_; clear hb hbox hg; have hnb55 := NB301_302.out; have hnc55 := NB302_301.out; have hcz56_0 : w54.cell? ⟨gb301, 0, none⟩ = some (.string a0_0) := (blk_cell BK301.out 0).trans rfl; have hcz56_1 : w54.cell? ⟨gb301, 1, none⟩ = some (.int .i64 a0_1) := (blk_cell BK301.out 1).trans rfl; have hcz56_2 : w54.cell? ⟨gb301, 2, none⟩ = some (.int .i64 a0_2) := (blk_cell BK301.out 2).trans rfl; have hcz56_3 : w54.cell? ⟨gb301, 3, none⟩ = some (.int .i64 a0_3) := (blk_cell BK301.out 3).trans rfl; have hcz56_4 : w54.cell? ⟨gb301, 4, none⟩ = some (.int .i64 a0_4) := (blk_cell BK301.out 4).trans rfl; have hcz56_5 : w54.cell? ⟨gb301, 5, none⟩ = some (.slice A0_5 l0_5.length c0_5) := (blk_cell BK301.out 5).trans rfl; have hcz56_6 : w54.cell? ⟨gb301, 6, none⟩ = some (.int .i64 a0_6) := (blk_cell BK301.out 6).trans rfl; have hcz56_7 : w54.cell? ⟨gb301, 7, none⟩ = some (.int .i64 a0_7) := (blk_cell BK301.out 7).trans rfl; have hcz56_8 : w54.cell? ⟨gb301, 8, none⟩ = some (.slice A0_8 l0_8.length c0_8) := (blk_cell BK301.out 8).trans rfl; have hcz56_9 : w54.cell? ⟨gb301, 9, none⟩ = some (.slice A0_9 l0_9.length c0_9) := (blk_cell BK301.out 9).trans rfl; have hcz56_10 : w54.cell? ⟨gb301, 10, none⟩ = some (.slice A0_10 l0_10.length c0_10) := (blk_cell BK301.out 10).trans rfl; have hfz56_0 := blk_frozen BK301.out 0; have hfz56_1 := blk_frozen BK301.out 1; have hfz56_2 := blk_frozen BK301.out 2; have hfz56_3 := blk_frozen BK301.out 3; have hfz56_4 := blk_frozen BK301.out 4; have hfz56_5 := blk_frozen BK301.out 5; have hfz56_6 := blk_frozen BK301.out 6; have hfz56_7 := blk_frozen BK301.out 7; have hfz56_8 := blk_frozen BK301.out 8; have hfz56_9 := blk_frozen BK301.out 9; have hfz56_10 := blk_frozen BK301.out 10; have hcz57_0 : w54.cell? ⟨gb302, 0, none⟩ = some (.string a1_0) := (blk_cell BK302.out 0).trans rfl; have hcz57_1 : w54.cell? ⟨gb302, 1, none⟩ = some (.int .i64 a1_1) := (blk_cell BK302.out 1).trans rfl; have hcz57_2 : w54.cell? ⟨gb302, 2, none⟩ = some (.int .i64 a1_2) := (blk_cell BK302.out 2).trans rfl; have hcz57_3 : w54.cell? ⟨gb302, 3, none⟩ = some (.int .i64 a1_3) := (blk_cell BK302.out 3).trans rfl; have hcz57_4 : w54.cell? ⟨gb302, 4, none⟩ = some (.int .i64 a1_4) := (blk_cell BK302.out 4).trans rfl; have hcz57_5 : w54.cell? ⟨gb302, 5, none⟩ = some (.slice A1_5 l1_5.length c1_5) := (blk_cell BK302.out 5).trans rfl; have hcz57_6 : w54.cell? ⟨gb302, 6, none⟩ = some (.int .i64 a1_6) := (blk_cell BK302.out 6).trans rfl; have hcz57_7 : w54.cell? ⟨gb302, 7, none⟩ = some (.int .i64 a1_7) := (blk_cell BK302.out 7).trans rfl; have hcz57_8 : w54.cell? ⟨gb302, 8, none⟩ = some (.slice A1_8 l1_8.length c1_8) := (blk_cell BK302.out 8).trans rfl; have hcz57_9 : w54.cell? ⟨gb302, 9, none⟩ = some (.slice A1_9 l1_9.length c1_9) := (blk_cell BK302.out 9).trans rfl; have hcz57_10 : w54.cell? ⟨gb302, 10, none⟩ = some (.slice A1_10 l1_10.length c1_10) := (blk_cell BK302.out 10).trans rfl; have hfz57_0 := blk_frozen BK302.out 0; have hfz57_1 := blk_frozen BK302.out 1; have hfz57_2 := blk_frozen BK302.out 2; have hfz57_3 := blk_frozen BK302.out 3; have hfz57_4 := blk_frozen BK302.out 4; have hfz57_5 := blk_frozen BK302.out 5; have hfz57_6 := blk_frozen BK302.out 6; have hfz57_7 := blk_frozen BK302.out 7; have hfz57_8 := blk_frozen BK302.out 8; have hfz57_9 := blk_frozen BK302.out 9; have hfz57_10 := blk_frozen BK302.out 10))
            go_ret
            exact ⟨by first | rfl | (simp [errW_none, errW_some] <;> rfl) | (simp [*, errW_none, errW_some] <;> rfl), bl_⟩
        · rw [if_neg c6] at H
          have c6b0 : (a0_3 == a1_3) = false := beq_eq_false_iff_ne.mpr c6
          have c6b1 : (a0_3 != a1_3) = true := bne_iff_ne.mpr c6
          obtain rfl := Option.some.inj H
          go_enter Try.func21, Try.ntmps21
          go_wp2_with (first | ((with_reducible refine gate_dst (N := 2) rfl ?_); refine box_event ?hg (N := 2) ?hd (cs := #[.string a0_0, .int .i64 a0_1, .int .i64 a0_2, .int .i64 a0_3, .int .i64 a0_4, .slice A0_5 l0_5.length c0_5, .int .i64 a0_6, .int .i64 a0_7, .slice A0_8 l0_8.length c0_8, .slice A0_9 l0_9.length c0_9, .slice A0_10 l0_10.length c0_10]) (t := 48) ?hr ?_; (case hd => rfl); (case hg => rfl); (case hr => first | (go_simp; done) | (go_simp; rfl)); intro gb301 hg w58 hbox hb; have n0_ := Aside0.mk (below_step bl_ hb); have n1_ := Aside0.mk (hbox); have n2_ := Aside0.mk ((by rw [hg]; exact (below_size bl_) : w.heap.size ≤ gb301)); have n3_ := Aside0.mk ((by rw [hg]; exact (below_size bl_) : w.heap.size ≤ gb301)); clear HB; have HB := n0_; have BK301 := n1_; have GW301 := n2_; have GE301 := n3_; clear n0_ n1_ n2_ n3_; clear hb hbox hg) | ((with_reducible refine gate_dst (N := 3) rfl ?_); refine box_event ?hg (N := 3) ?hd (cs := #[.string a1_0, .int .i64 a1_1, .int .i64 a1_2, .int .i64 a1_3, .int .i64 a1_4, .slice A1_5 l1_5.length c1_5, .int .i64 a1_6, .int .i64 a1_7, .slice A1_8 l1_8.length c1_8, .slice A1_9 l1_9.length c1_9, .slice A1_10 l1_10.length c1_10]) (t := 48) ?hr ?_; (case hd => rfl); (case hg => rfl); (case hr => first | (go_simp; done) | (go_simp; rfl)); intro gb302 hg w59 hbox hb; have n0_ := Aside0.mk (blk_below (bk_ BK301) hb); have n1_ := Aside0.mk (below_step bl_ hb); have n2_ := Aside0.mk (hbox); have n3_ := Aside0.mk ((by rw [hg]; exact (below_size bl_) : w.heap.size ≤ gb302)); have n4_ := Aside0.mk ((by rw [hg]; exact (below_size bl_) : w.heap.size ≤ gb302)); have n5_ := Aside0.mk ((by rw [hg]; exact Nat.ne_of_lt (blk_lt (bk_ BK301)) : gb301 ≠ gb302)); have n6_ := Aside0.mk ((by rw [hg]; exact Nat.ne_of_gt (blk_lt (bk_ BK301)) : gb302 ≠ gb301)); clear BK301; clear HB; have BK301 := n0_; have HB := n1_; have BK302 := n2_; have GW302 := n3_; have GE302 := n4_; have NB301_302 := n5_; have NB302_301 := n6_; clear n0_ n1_ n2_ n3_ n4_ n5_ n6_; clear hb hbox hg; have hnb60 := NB301_302.out; have hnc60 := NB302_301.out; have hcz61_0 : w59.cell? ⟨gb301, 0, none⟩ = some (.string a0_0) := (blk_cell BK301.out 0).trans rfl; have hcz61_1 : w59.cell? ⟨gb301, 1, none⟩ = some (.int .i64 a0_1) := (blk_cell BK301.out 1).trans rfl; have hcz61_2 : w59.cell? ⟨gb301, 2, none⟩ = some (.int .i64 a0_2) := (blk_cell BK301.out 2).trans rfl; have hcz61_3 : w59.cell? ⟨gb301, 3, none⟩ = some (.int .i64 a0_3) := (blk_cell BK301.out 3).trans rfl; have hcz61_4 : w59.cell? ⟨gb301, 4, none⟩ = some (.int .i64 a0_4) := (blk_cell BK301.out 4).trans rfl; have hcz61_5 : w59.cell? ⟨gb301, 5, none⟩ = some (.slice A0_5 l0_5.length c0_5) := (blk_cell BK301.out 5).trans rfl; have hcz61_6 : w59.cell? ⟨gb301, 6, none⟩ = some (.int .i64 a0_6) := (blk_cell BK301.out 6).trans rfl; have hcz61_7 : w59.cell? ⟨gb301, 7, none⟩ = some (.int .i64 a0_7) := (blk_cell BK301.out 7).trans rfl; have hcz61_8 : w59.cell? ⟨gb301, 8, none⟩ = some (.slice A0_8 l0_8.length c0_8) := (blk_cell BK301.out 8).trans rfl; have hcz61_9 : w59.cell? ⟨gb301, 9, none⟩ = some (.slice A0_9 l0_9.length c0_9) := (blk_cell BK301.out 9).trans rfl; have hcz61_10 : w59.cell? ⟨gb301, 10, none⟩ = some (.slice A0_10 l0_10.length c0_10) := (blk_cell BK301.out 10).trans rfl; have hfz61_0 := blk_frozen BK301.out 0; have hfz61_1 := blk_frozen BK301.out 1; have hfz61_2 := blk_frozen BK301.out 2; have hfz61_3 := blk_frozen BK301.out 3; have hfz61_4 := blk_frozen BK301.out 4; have hfz61_5 := blk_frozen BK301.out 5; have hfz61_6 := blk_frozen BK301.out 6; have hfz61_7 := blk_frozen BK301.out 7; have hfz61_8 := blk_frozen BK301.out 8; have hfz61_9 := blk_frozen BK301.out 9; have hfz61_10 := blk_frozen BK301.out 10; have hcz62_0 : w59.cell? ⟨gb302, 0, none⟩ = some (.string a1_0) := (blk_cell BK302.out 0).trans rfl; have hcz62_1 : w59.cell? ⟨gb302, 1, none⟩ = some (.int .i64 a1_1) := (blk_cell BK302.out 1).trans rfl; have hcz62_2 : w59.cell? ⟨gb302, 2, none⟩ = some (.int .i64 a1_2) := (blk_cell BK302.out 2).trans rfl; have hcz62_3 : w59.cell? ⟨gb302, 3, none⟩ = some (.int .i64 a1_3) := (blk_cell BK302.out 3).trans rfl; have hcz62_4 : w59.cell? ⟨gb302, 4, none⟩ = some (.int .i64 a1_4) := (blk_cell BK302.out 4).trans rfl; have hcz62_5 : w59.cell? ⟨gb302, 5, none⟩ = some (.slice A1_5 l1_5.length c1_5) := (blk_cell BK302.out 5).trans rfl; have hcz62_6 : w59.cell? ⟨gb302, 6, none⟩ = some (.int .i64 a1_6) := (blk_cell BK302.out 6).trans rfl; have hcz62_7 : w59.cell? ⟨gb302, 7, none⟩ = some (.int .i64 a1_7) := (blk_cell BK302.out 7).trans rfl; have hcz62_8 : w59.cell? ⟨gb302, 8, none⟩ = some (.slice A1_8 l1_8.length c1_8) := (blk_cell BK302.out 8).trans rfl; have hcz62_9 : w59.cell? ⟨gb302, 9, none⟩ = some (.slice A1_9 l1_9.length c1_9) := (blk_cell BK302.out 9).trans rfl; have hcz62_10 : w59.cell? ⟨gb302, 10, none⟩ = some (.slice A1_10 l1_10.length c1_10) := (blk_cell BK302.out 10).trans rfl; have hfz62_0 := blk_frozen BK302.out 0; have hfz62_1 := blk_frozen BK302.out 1; have hfz62_2 := blk_frozen BK302.out 2; have hfz62_3 := blk_frozen BK302.out 3; have hfz62_4 := blk_frozen BK302.out 4; have hfz62_5 := blk_frozen BK302.out 5; have hfz62_6 := blk_frozen BK302.out 6; have hfz62_7 := blk_frozen BK302.out 7; have hfz62_8 := blk_frozen BK302.out 8; have hfz62_9 := blk_frozen BK302.out 9; have hfz62_10 := blk_frozen BK302.out 10))
          go_ret
          exact ⟨by first | rfl | (simp [errW_none, errW_some] <;> rfl) | (simp [*, errW_none, errW_some] <;> rfl), bl_⟩
      · rw [if_neg c5] at H
        have c5b0 : (a0_2 == a1_2) = false := beq_eq_false_iff_ne.mpr c5
        have c5b1 : (a0_2 != a1_2) = true := bne_iff_ne.mpr c5
        obtain rfl := Option.some.inj H
        go_enter Try.func21, Try.ntmps21
        go_wp2_with (first | ((with_reducible refine gate_dst (N := 2) rfl ?_); refine box_event ?hg (N := 2) ?hd (cs := #[.string a0_0, .int .i64 a0_1, .int .i64 a0_2, .int .i64 a0_3, .int .i64 a0_4, .slice A0_5 l0_5.length c0_5, .int .i64 a0_6, .int .i64 a0_7, .slice A0_8 l0_8.length c0_8, .slice A0_9 l0_9.length c0_9, .slice A0_10 l0_10.length c0_10]) (t := 48) ?hr ?_; (case hd => rfl); (case hg => rfl); (case hr => first | (go_simp; done) | (go_simp; rfl)); intro gb301 hg w63 hbox hb; have n0_ := Aside0.mk (below_step bl_ hb); have n1_ := Aside0.mk (hbox); have n2_ := Aside0.mk ((by rw [hg]; exact (below_size bl_) : w.heap.size ≤ gb301)); have n3_ := Aside0.mk ((by rw [hg]; exact (below_size bl_) : w.heap.size ≤ gb301)); clear HB; have HB := n0_; have BK301 := n1_; have GW301 := n2_; have GE301 := n3_; clear n0_ n1_ n2_ n3_; clear hb hbox hg) | ((with_reducible refine gate_dst (N := 3) rfl ?_); refine box_event ?hg (N := 3) ?hd (cs := #[.string a1_0, .int .i64 a1_1, .int .i64 a1_2, .int .i64 a1_3, .int .i64 a1_4, .slice A1_5 l1_5.length c1_5, .int .i64 a1_6, .int .i64 a1_7, .slice A1_8 l1_8.length c1_8, .slice A1_9 l1_9.length c1_9, .slice A1_10 l1_10.length c1_10]) (t := 48) ?hr ?_; (case hd => rfl); (case hg => rfl); (case hr => first | (go_simp; done) | (go_simp; rfl)); intro gb302 hg w64 hbox hb; have n0_ := Aside0.mk (blk_below (bk_ BK301) hb); have n1_ := Aside0.mk (below_step bl_ hb); have n2_ := Aside0.mk (hbox); have n3_ := Aside0.mk ((by rw [hg]; exact (below_size bl_) : w.heap.size ≤ gb302)); have n4_ := Aside0.mk ((by rw [hg]; exact (below_size bl_) : w.heap.size ≤ gb302)); have n5_ := Aside0.mk ((by rw [hg]; exact Nat.ne_of_lt (blk_lt (bk_ BK301)) : gb301 ≠ gb302)); have n6_ := Aside0.mk ((by rw [hg]; exact Nat.ne_of_gt (blk_lt (bk_ BK301)) : gb302 ≠ gb301)); clear BK301; clear HB; have BK301 := n0_; have HB := n1_; have BK302 := n2_; have GW302 := n3_; have GE302 := n4_; have NB301_302 := n5_; have NB302_301 := n6_; clear n0_ n1_ n2_ n3_ n4_ n5_ n6_; clear hb hbox hg; have hnb65 := NB301_302.out; have hnc65 := NB302_301.out; have hcz66_0 : w64.cell? ⟨gb301, 0, none⟩ = some (.string a0_0) := (blk_cell BK301.out 0).trans rfl; have hcz66_1 : w64.cell? ⟨gb301, 1, none⟩ = some (.int .i64 a0_1) := (blk_cell BK301.out 1).trans rfl; have hcz66_2 : w64.cell? ⟨gb301, 2, none⟩ = some (.int .i64 a0_2) := (blk_cell BK301.out 2).trans rfl; have hcz66_3 : w64.cell? ⟨gb301, 3, none⟩ = some (.int .i64 a0_3) := (blk_cell BK301.out 3).trans rfl; have hcz66_4 : w64.cell? ⟨gb301, 4, none⟩ = some (.int .i64 a0_4) := (blk_cell BK301.out 4).trans rfl; have hcz66_5 : w64.cell? ⟨gb301, 5, none⟩ = some (.slice A0_5 l0_5.length c0_5) := (blk_cell BK301.out 5).trans rfl; have hcz66_6 : w64.cell? ⟨gb301, 6, none⟩ = some (.int .i64 a0_6) := (blk_cell BK301.out 6).trans rfl; have hcz66_7 : w64.cell? ⟨gb301, 7, none⟩ = some (.int .i64 a0_7) := (blk_cell BK301.out 7).trans rfl; have hcz66_8 : w64.cell? ⟨gb301, 8, none⟩ = some (.slice A0_8 l0_8.length c0_8) := (blk_cell BK301.out 8).trans rfl; have hcz66_9 : w64.cell? ⟨gb301, 9, none⟩ = some (.slice A0_9 l0_9.length c0_9) := (blk_cell BK301.out 9).trans rfl; have hcz66_10 : w64.cell? ⟨gb301, 10, none⟩ = some (.slice A0_10 l0_10.length c0_10) := (blk_cell BK301.out 10).trans rfl; have hfz66_0 := blk_frozen BK301.out 0; have hfz66_1 := blk_frozen BK301.out 1; have hfz66_2 := blk_frozen BK301.out 2; have hfz66_3 := blk_frozen BK301.out 3; have hfz66_4 := blk_frozen BK301.out 4; have hfz66_5 := blk_frozen BK301.out 5; have hfz66_6 := blk_frozen BK301.out 6; have hfz66_7 := blk_frozen BK301.out 7; have hfz66_8 := blk_frozen BK301.out 8; have hfz66_9 := blk_frozen BK301.out 9; have hfz66_10 := blk_frozen BK301.out 10; have hcz67_0 : w64.cell? ⟨gb302, 0, none⟩ = some (.string a1_0) := (blk_cell BK302.out 0).trans rfl; have hcz67_1 : w64.cell? ⟨gb302, 1, none⟩ = some (.int .i64 a1_1) := (blk_cell BK302.out 1).trans rfl; have hcz67_2 : w64.cell? ⟨gb302, 2, none⟩ = some (.int .i64 a1_2) := (blk_cell BK302.out 2).trans rfl; have hcz67_3 : w64.cell? ⟨gb302, 3, none⟩ = some (.int .i64 a1_3) := (blk_cell BK302.out 3).trans rfl; have hcz67_4 : w64.cell? ⟨gb302, 4, none⟩ = some (.int .i64 a1_4) := (blk_cell BK302.out 4).trans rfl; have hcz67_5 : w64.cell? ⟨gb302, 5, none⟩ = some (.slice A1_5 l1_5.length c1_5) := (blk_cell BK302.out 5).trans rfl; have hcz67_6 : w64.cell? ⟨gb302, 6, none⟩ = some (.int .i64 a1_6) := (blk_cell BK302.out 6).trans rfl; have hcz67_7 : w64.cell? ⟨gb302, 7, none⟩ = some (.int .i64 a1_7) := (blk_cell BK302.out 7).trans rfl; have hcz67_8 : w64.cell? ⟨gb302, 8, none⟩ = some (.slice A1_8 l1_8.length c1_8) := (blk_cell BK302.out 8).trans rfl; have hcz67_9 : w64.cell? ⟨gb302, 9, none⟩ = some (.slice A1_9 l1_9.length c1_9) := (blk_cell BK302.out 9).trans rfl; have hcz67_10 : w64.cell? ⟨gb302, 10, none⟩ = some (.slice A1_10 l1_10.length c1_10) := (blk_cell BK302.out 10).trans rfl; have hfz67_0 := blk_frozen BK302.out 0; have hfz67_1 := blk_frozen BK302.out 1; have hfz67_2 := blk_frozen BK302.out 2; have hfz67_3 := blk_frozen BK302.out 3; have hfz67_4 := blk_frozen BK302.out 4; have hfz67_5 := blk_frozen BK302.out 5; have hfz67_6 := blk_frozen BK302.out 6; have hfz67_7 := blk_frozen BK302.out 7; have hfz67_8 := blk_frozen BK302.out 8; have hfz67_9 := blk_frozen BK302.out 9; have hfz67_10 := blk_frozen BK302.out 10))
        go_ret
        exact ⟨by first | rfl | (simp [errW_none, errW_some] <;> rfl) | (simp [*, errW_none, errW_some] <;> rfl), bl_⟩
    · rw [if_neg c4] at H
      have c4b0 : (a0_1 == a1_1) = false := beq_eq_false_iff_ne.mpr c4
      have c4b1 : (a0_1 != a1_1) = true := bne_iff_ne.mpr c4
      obtain rfl := Option.some.inj H
      go_enter Try.func21, Try.ntmps21
      go_wp2_with (first | ((with_reducible refine gate_dst (N := 2) rfl ?_); refine box_event ?hg (N := 2) ?hd (cs := #[.string a0_0, .int .i64 a0_1, .int .i64 a0_2, .int .i64 a0_3, .int .i64 a0_4, .slice A0_5 l0_5.length c0_5, .int .i64 a0_6, .int .i64 a0_7, .slice A0_8 l0_8.length c0_8, .slice A0_9 l0_9.length c0_9, .slice A0_10 l0_10.length c0_10]) (t := 48) ?hr ?_; (case hd => rfl); (case hg => rfl); (case hr => first | (go_simp; done) | (go_simp; rfl)); intro gb301 hg w68 hbox hb; have n0_ := Aside0.mk (below_step bl_ hb); have n1_ := Aside0.mk (hbox); have n2_ := Aside0.mk ((by rw [hg]; exact (below_size bl_) : w.heap.size ≤ gb301)); have n3_ := Aside0.mk ((by rw [hg]; exact (below_size bl_) : w.heap.size ≤ gb301)); clear HB; have HB := n0_; have BK301 := n1_; have GW301 := n2_; have GE301 := n3_; clear n0_ n1_ n2_ n3_; clear hb hbox hg) | ((with_reducible refine gate_dst (N := 3) rfl ?_); refine box_event ?hg (N := 3) ?hd (cs := #[.string a1_0, .int .i64 a1_1, .int .i64 a1_2, .int .i64 a1_3, .int .i64 a1_4, .slice A1_5 l1_5.length c1_5, .int .i64 a1_6, .int .i64 a1_7, .slice A1_8 l1_8.length c1_8, .slice A1_9 l1_9.length c1_9, .slice A1_10 l1_10.length c1_10]) (t := 48) ?hr ?_; (case hd => rfl); (case hg => rfl); (case hr => first | (go_simp; done) | (go_simp; rfl)); intro gb302 hg w69 hbox hb; have n0_ := Aside0.mk (blk_below (bk_ BK301) hb); have n1_ := Aside0.mk (below_step bl_ hb); have n2_ := Aside0.mk (hbox); have n3_ := Aside0.mk ((by rw [hg]; exact (below_size bl_) : w.heap.size ≤ gb302)); have n4_ := Aside0.mk ((by rw [hg]; exact (below_size bl_) : w.heap.size ≤ gb302)); have n5_ := Aside0.mk ((by rw [hg]; exact Nat.ne_of_lt (blk_lt (bk_ BK301)) : gb301 ≠ gb302)); have n6_ := Aside0.mk ((by rw [hg]; exact Nat.ne_of_gt (blk_lt (bk_ BK301)) : gb302 ≠ gb301)); clear BK301; clear HB; have BK301 := n0_; have HB := n1_; have BK302 := n2_; have GW302 := n3_; have GE302 := n4_; have NB301_302 := n5_; have NB302_301 := n6_; clear n0_ n1_ n2_ n3_ n4_ n5_ n6_; clear hb hbox hg; have hnb70 := NB301_302.out; have hnc70 := NB302_301.out; have hcz71_0 : w69.cell? ⟨gb301, 0, none⟩ = some (.string a0_0) := (blk_cell BK301.out 0).trans rfl; have hcz71_1 : w69.cell? ⟨gb301, 1, none⟩ = some (.int .i64 a0_1) := (blk_cell BK301.out 1).trans rfl; have hcz71_2 : w69.cell? ⟨gb301, 2, none⟩ = some (.int .i64 a0_2) := (blk_cell BK301.out 2).trans rfl; have hcz71_3 : w69.cell? ⟨gb301, 3, none⟩ = some (.int .i64 a0_3) := (blk_cell BK301.out 3).trans rfl; have hcz71_4 : w69.cell? ⟨gb301, 4, none⟩ = some (.int .i64 a0_4) := (blk_cell BK301.out 4).trans rfl; have hcz71_5 : w69.cell? ⟨gb301, 5, none⟩ = some (.slice A0_5 l0_5.length c0_5) := (blk_cell BK301.out 5).trans rfl; have hcz71_6 : w69.cell? ⟨gb301, 6, none⟩ = some (.int .i64 a0_6) := (blk_cell BK301.out 6).trans rfl; have hcz71_7 : w69.cell? ⟨gb301, 7, none⟩ = some (.int .i64 a0_7) := (blk_cell BK301.out 7).trans rfl; have hcz71_8 : w69.cell? ⟨gb301, 8, none⟩ = some (.slice A0_8 l0_8.length c0_8) := (blk_cell BK301.out 8).trans rfl; have hcz71_9 : w69.cell? ⟨gb301, 9, none⟩ = some (.slice A0_9 l0_9.length c0_9) := (blk_cell BK301.out 9).trans rfl; have hcz71_10 : w69.cell? ⟨gb301, 10, none⟩ = some (.slice A0_10 l0_10.length c0_10) := (blk_cell BK301.out 10).trans rfl; have hfz71_0 := blk_frozen BK301.out 0; have hfz71_1 := blk_frozen BK301.out 1; have hfz71_2 := blk_frozen BK301.out 2; have hfz71_3 := blk_frozen BK301.out 3; have hfz71_4 := blk_frozen BK301.out 4; have hfz71_5 := blk_frozen BK301.out 5; have hfz71_6 := blk_frozen BK301.out 6; have hfz71_7 := blk_frozen BK301.out 7; have hfz71_8 := blk_frozen BK301.out 8; have hfz71_9 := blk_frozen BK301.out 9; have hfz71_10 := blk_frozen BK301.out 10; have hcz72_0 : w69.cell? ⟨gb302, 0, none⟩ = some (.string a1_0) := (blk_cell BK302.out 0).trans rfl; have hcz72_1 : w69.cell? ⟨gb302, 1, none⟩ = some (.int .i64 a1_1) := (blk_cell BK302.out 1).trans rfl; have hcz72_2 : w69.cell? ⟨gb302, 2, none⟩ = some (.int .i64 a1_2) := (blk_cell BK302.out 2).trans rfl; have hcz72_3 : w69.cell? ⟨gb302, 3, none⟩ = some (.int .i64 a1_3) := (blk_cell BK302.out 3).trans rfl; have hcz72_4 : w69.cell? ⟨gb302, 4, none⟩ = some (.int .i64 a1_4) := (blk_cell BK302.out 4).trans rfl; have hcz72_5 : w69.cell? ⟨gb302, 5, none⟩ = some (.slice A1_5 l1_5.length c1_5) := (blk_cell BK302.out 5).trans rfl; have hcz72_6 : w69.cell? ⟨gb302, 6, none⟩ = some (.int .i64 a1_6) := (blk_cell BK302.out 6).trans rfl; have hcz72_7 : w69.cell? ⟨gb302, 7, none⟩ = some (.int .i64 a1_7) := (blk_cell BK302.out 7).trans rfl; have hcz72_8 : w69.cell? ⟨gb302, 8, none⟩ = some (.slice A1_8 l1_8.length c1_8) := (blk_cell BK302.out 8).trans rfl; have hcz72_9 : w69.cell? ⟨gb302, 9, none⟩ = some (.slice A1_9 l1_9.length c1_9) := (blk_cell BK302.out 9).trans rfl; have hcz72_10 : w69.cell? ⟨gb302, 10, none⟩ = some (.slice A1_10 l1_10.length c1_10) := (blk_cell BK302.out 10).trans rfl; have hfz72_0 := blk_frozen BK302.out 0; have hfz72_1 := blk_frozen BK302.out 1; have hfz72_2 := blk_frozen BK302.out 2; have hfz72_3 := blk_frozen BK302.out 3; have hfz72_4 := blk_frozen BK302.out 4; have hfz72_5 := blk_frozen BK302.out 5; have hfz72_6 := blk_frozen BK302.out 6; have hfz72_7 := blk_frozen BK302.out 7; have hfz72_8 := blk_frozen BK302.out 8; have hfz72_9 := blk_frozen BK302.out 9; have hfz72_10 := blk_frozen BK302.out 10))
      go_ret
      exact ⟨by first | rfl | (simp [errW_none, errW_some] <;> rfl) | (simp [*, errW_none, errW_some] <;> rfl), bl_⟩
  · rw [if_neg c3] at H
    have c3b0 : (a0_0.toList == a1_0.toList) = false := beq_eq_false_iff_ne.mpr c3
    have c3b1 : (a0_0.toList != a1_0.toList) = true := bne_iff_ne.mpr c3
    obtain rfl := Option.some.inj H
    go_enter Try.func21, Try.ntmps21
    go_wp2_with (first | ((with_reducible refine gate_dst (N := 2) rfl ?_); refine box_event ?hg (N := 2) ?hd (cs := #[.string a0_0, .int .i64 a0_1, .int .i64 a0_2, .int .i64 a0_3, .int .i64 a0_4, .slice A0_5 l0_5.length c0_5, .int .i64 a0_6, .int .i64 a0_7, .slice A0_8 l0_8.length c0_8, .slice A0_9 l0_9.length c0_9, .slice A0_10 l0_10.length c0_10]) (t := 48) ?hr ?_; (case hd => rfl); (case hg => rfl); (case hr => first | (go_simp; done) | (go_simp; rfl)); intro gb301 hg w73 hbox hb; have n0_ := Aside0.mk (below_step bl_ hb); have n1_ := Aside0.mk (hbox); have n2_ := Aside0.mk ((by rw [hg]; exact (below_size bl_) : w.heap.size ≤ gb301)); have n3_ := Aside0.mk ((by rw [hg]; exact (below_size bl_) : w.heap.size ≤ gb301)); clear HB; have HB := n0_; have BK301 := n1_; have GW301 := n2_; have GE301 := n3_; clear n0_ n1_ n2_ n3_; clear hb hbox hg) | ((with_reducible refine gate_dst (N := 3) rfl ?_); refine box_event ?hg (N := 3) ?hd (cs := #[.string a1_0, .int .i64 a1_1, .int .i64 a1_2, .int .i64 a1_3, .int .i64 a1_4, .slice A1_5 l1_5.length c1_5, .int .i64 a1_6, .int .i64 a1_7, .slice A1_8 l1_8.length c1_8, .slice A1_9 l1_9.length c1_9, .slice A1_10 l1_10.length c1_10]) (t := 48) ?hr ?_; (case hd => rfl); (case hg => rfl); (case hr => first | (go_simp; done) | (go_simp; rfl)); intro gb302 hg w74 hbox hb; have n0_ := Aside0.mk (blk_below (bk_ BK301) hb); have n1_ := Aside0.mk (below_step bl_ hb); have n2_ := Aside0.mk (hbox); have n3_ := Aside0.mk ((by rw [hg]; exact (below_size bl_) : w.heap.size ≤ gb302)); have n4_ := Aside0.mk ((by rw [hg]; exact (below_size bl_) : w.heap.size ≤ gb302)); have n5_ := Aside0.mk ((by rw [hg]; exact Nat.ne_of_lt (blk_lt (bk_ BK301)) : gb301 ≠ gb302)); have n6_ := Aside0.mk ((by rw [hg]; exact Nat.ne_of_gt (blk_lt (bk_ BK301)) : gb302 ≠ gb301)); clear BK301; clear HB; have BK301 := n0_; have HB := n1_; have BK302 := n2_; have GW302 := n3_; have GE302 := n4_; have NB301_302 := n5_; have NB302_301 := n6_; clear n0_ n1_ n2_ n3_ n4_ n5_ n6_; clear hb hbox hg; have hnb75 := NB301_302.out; have hnc75 := NB302_301.out; have hcz76_0 : w74.cell? ⟨gb301, 0, none⟩ = some (.string a0_0) := (blk_cell BK301.out 0).trans rfl; have hcz76_1 : w74.cell? ⟨gb301, 1, none⟩ = some (.int .i64 a0_1) := (blk_cell BK301.out 1).trans rfl; have hcz76_2 : w74.cell? ⟨gb301, 2, none⟩ = some (.int .i64 a0_2) := (blk_cell BK301.out 2).trans rfl; have hcz76_3 : w74.cell? ⟨gb301, 3, none⟩ = some (.int .i64 a0_3) := (blk_cell BK301.out 3).trans rfl; have hcz76_4 : w74.cell? ⟨gb301, 4, none⟩ = some (.int .i64 a0_4) := (blk_cell BK301.out 4).trans rfl; have hcz76_5 : w74.cell? ⟨gb301, 5, none⟩ = some (.slice A0_5 l0_5.length c0_5) := (blk_cell BK301.out 5).trans rfl; have hcz76_6 : w74.cell? ⟨gb301, 6, none⟩ = some (.int .i64 a0_6) := (blk_cell BK301.out 6).trans rfl; have hcz76_7 : w74.cell? ⟨gb301, 7, none⟩ = some (.int .i64 a0_7) := (blk_cell BK301.out 7).trans rfl; have hcz76_8 : w74.cell? ⟨gb301, 8, none⟩ = some (.slice A0_8 l0_8.length c0_8) := (blk_cell BK301.out 8).trans rfl; have hcz76_9 : w74.cell? ⟨gb301, 9, none⟩ = some (.slice A0_9 l0_9.length c0_9) := (blk_cell BK301.out 9).trans rfl; have hcz76_10 : w74.cell? ⟨gb301, 10, none⟩ = some (.slice A0_10 l0_10.length c0_10) := (blk_cell BK301.out 10).trans rfl; have hfz76_0 := blk_frozen BK301.out 0; have hfz76_1 := blk_frozen BK301.out 1; have hfz76_2 := blk_frozen BK301.out 2; have hfz76_3 := blk_frozen BK301.out 3; have hfz76_4 := blk_frozen BK301.out 4; have hfz76_5 := blk_frozen BK301.out 5; have hfz76_6 := blk_frozen BK301.out 6; have hfz76_7 := blk_frozen BK301.out 7; have hfz76_8 := blk_frozen BK301.out 8; have hfz76_9 := blk_frozen BK301.out 9; have hfz76_10 := blk_frozen BK301.out 10; have hcz77_0 : w74.cell? ⟨gb302, 0, none⟩ = some (.string a1_0) := (blk_cell BK302.out 0).trans rfl; have hcz77_1 : w74.cell? ⟨gb302, 1, none⟩ = some (.int .i64 a1_1) := (blk_cell BK302.out 1).trans rfl; have hcz77_2 : w74.cell? ⟨gb302, 2, none⟩ = some (.int .i64 a1_2) := (blk_cell BK302.out 2).trans rfl; have hcz77_3 : w74.cell? ⟨gb302, 3, none⟩ = some (.int .i64 a1_3) := (blk_cell BK302.out 3).trans rfl; have hcz77_4 : w74.cell? ⟨gb302, 4, none⟩ = some (.int .i64 a1_4) := (blk_cell BK302.out 4).trans rfl; have hcz77_5 : w74.cell? ⟨gb302, 5, none⟩ = some (.slice A1_5 l1_5.length c1_5) := (blk_cell BK302.out 5).trans rfl; have hcz77_6 : w74.cell? ⟨gb302, 6, none⟩ = some (.int .i64 a1_6) := (blk_cell BK302.out 6).trans rfl; have hcz77_7 : w74.cell? ⟨gb302, 7, none⟩ = some (.int .i64 a1_7) := (blk_cell BK302.out 7).trans rfl; have hcz77_8 : w74.cell? ⟨gb302, 8, none⟩ = some (.slice A1_8 l1_8.length c1_8) := (blk_cell BK302.out 8).trans rfl; have hcz77_9 : w74.cell? ⟨gb302, 9, none⟩ = some (.slice A1_9 l1_9.length c1_9) := (blk_cell BK302.out 9).trans rfl; have hcz77_10 : w74.cell? ⟨gb302, 10, none⟩ = some (.slice A1_10 l1_10.length c1_10) := (blk_cell BK302.out 10).trans rfl; have hfz77_0 := blk_frozen BK302.out 0; have hfz77_1 := blk_frozen BK302.out 1; have hfz77_2 := blk_frozen BK302.out 2; have hfz77_3 := blk_frozen BK302.out 3; have hfz77_4 := blk_frozen BK302.out 4; have hfz77_5 := blk_frozen BK302.out 5; have hfz77_6 := blk_frozen BK302.out 6; have hfz77_7 := blk_frozen BK302.out 7; have hfz77_8 := blk_frozen BK302.out 8; have hfz77_9 := blk_frozen BK302.out 9; have hfz77_10 := blk_frozen BK302.out 10))
    go_ret
    exact ⟨by first | rfl | (simp [errW_none, errW_some] <;> rfl) | (simp [*, errW_none, errW_some] <;> rfl), bl_⟩

end Go.Proofs.Ytgcggfoailaalaa.QFnExactUnlocked
