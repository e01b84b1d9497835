-- by my own printer (myprint.py, over the kit's print.py)
import Derived.Test.YtepjnalkpfnmcaaQFnExactEventsOfx0
import Derived.Test.YtepjnalkpfnmcaaQFnExactEventsOfx5
namespace Go.Proofs.Ytepjnalkpfnmcaa.QFnExactEventsOf
open Go.RowKit Go.Proofs.YtepjnalkpfnmcaaW.PrintWords Go.Proofs.YtepjnalkpfnmcaaW.PrintLast Go.Proofs.YtepjnalkpfnmcaaW.PrintMore
attribute [local go_sem] max2_int min2_int max_two min_two max_three min_three max_four min_four   -- for this text's walks alone
set_option linter.unusedVariables false
set_option linter.unusedSimpArgs false
attribute [local go_sem] my_geq my_leq my_gtr
abbrev tb10_0_6 : Array Bool := #[b0, b0, b0, b0, b0, b0, b0, b0, b0, b0]
abbrev tb10_1_6 : Array Bool := #[b1, b0, b0, b0, b0, b0, b0, b0, b0, b0]
abbrev tb10_17_6 : Array Bool := #[b1, b1, b1, b0, b1, b0, b0, b0, b0, b0]
abbrev tb10_1ff_6 : Array Bool := #[b1, b1, b1, b1, b1, b1, b1, b1, b1, b0]
abbrev tb10_3_6 : Array Bool := #[b1, b1, b0, b0, b0, b0, b0, b0, b0, b0]
abbrev tb10_37_6 : Array Bool := #[b1, b1, b1, b0, b1, b1, b0, b0, b0, b0]
abbrev tb10_3ff_6 : Array Bool := #[b1, b1, b1, b1, b1, b1, b1, b1, b1, b1]
abbrev tb10_7_6 : Array Bool := #[b1, b1, b1, b0, b0, b0, b0, b0, b0, b0]
abbrev tb10_77_6 : Array Bool := #[b1, b1, b1, b0, b1, b1, b1, b0, b0, b0]
abbrev tb10_7f_6 : Array Bool := #[b1, b1, b1, b1, b1, b1, b1, b0, b0, b0]
abbrev tb10_ff_6 : Array Bool := #[b1, b1, b1, b1, b1, b1, b1, b1, b0, b0]
/-! ### laws_eqAcctS: function 187 -/
def laws_eqAcctS.l0 : Nat → List (S43) → List (S43) → Int → Option (Bool)
 | 0, _, _, _ => none
 | k + 1, x0, x1, x5 => if x5 < (x0.length : Int) then (if 0 ≤ x5 then (if x5 < (x1.length : Int) then ((laws_eqAcct.f k ((rd_T43 x0 x5).f0) ((rd_T43 x0 x5).f1) ((rd_T43 x0 x5).f2) ((rd_T43 x0 x5).f3) ((rd_T43 x0 x5).f4) ((rd_T43 x0 x5).f5) ((rd_T43 x0 x5).f6.f0) ((rd_T43 x0 x5).f6.f1) ((rd_T43 x0 x5).f6.f2) ((rd_T43 x0 x5).f6.f3) ((rd_T43 x0 x5).f7) ((rd_T43 x1 x5).f0) ((rd_T43 x1 x5).f1) ((rd_T43 x1 x5).f2) ((rd_T43 x1 x5).f3) ((rd_T43 x1 x5).f4) ((rd_T43 x1 x5).f5) ((rd_T43 x1 x5).f6.f0) ((rd_T43 x1 x5).f6.f1) ((rd_T43 x1 x5).f6.f2) ((rd_T43 x1 x5).f6.f3) ((rd_T43 x1 x5).f7)).bind fun t299 => (if t299 = true then (laws_eqAcctS.l0 k x0 x1 (wrap64 (x5 + 1))) else (some false))) else (none)) else (none)) else (some true)
def laws_eqAcctS.f (k : Nat) (l0 : List (S43)) (l1 : List (S43)) : Option (Bool) := if (l0.length : Int) = (l1.length : Int) then (laws_eqAcctS.l0 k l0 l1 0) else (some false)
def laws_eqAcctS.T6 : Bool × List (List Nat × List Nat) := (true, [([], []), ([], []), ([0, 1], [0, 1]), ([2], [2]), ([], []), ([], []), ([4, 5], [4, 5]), ([6], [6]), ([3, 7], [3, 7]), ([8], [8])])
def laws_eqAcctS.B6 : List Nat := [0, 0, 3, 7, 0, 0, 48, 112, 255, 511]
theorem laws_eqAcctS.tab6 : rtab .any (opsOf Try.f187 6) = laws_eqAcctS.T6 := by kernel_rfl
theorem laws_eqAcctS.bits6 : waitsOk laws_eqAcctS.T6.2 laws_eqAcctS.B6 = true := by kernel_rfl
set_option maxHeartbeats 8000000 in
set_option maxRecDepth 100000 in
theorem laws_eqAcctS.calls (k : Nat) (A0 : Option Addr) (c0 : Nat) (l0 : List (S43)) (A1 : Option Addr) (c1 : Nat) (l1 : List (S43)) (r : Bool) (w : World) (hr0 : Kd.C k43 w A0 l0.length l0) (hc0 : l0.length ≤ c0) (hr1 : Kd.C k43 w A1 l1.length l1) (hc1 : l1.length ≤ c1) (h : laws_eqAcctS.f k l0 l1 = some r) :
  Calls Try.prog 187 #[.slice A0 l0.length c0, .slice A1 l1.length c1] w fun e w' => e = .returned (.bool r) ∧ Below w.heap.size w w' := by
 have hu43 := Try.underlying43
 have HR0 := Aside0.mk hr0
 have HC0 := Aside0.mk hc0
 clear hr0 hc0
 have HR1 := Aside0.mk hr1
 have HC1 := Aside0.mk hc1
 clear hr1 hc1
 have HB := Aside0.mk (Below.refl w.heap.size w)
 have H : (if (l0.length : Int) = (l1.length : Int) then (laws_eqAcctS.l0 k l0 l1 0) else (some false)) = some r := h
 clear h
 by_cases c3 : (l0.length : Int) = (l1.length : Int)
 ·rw [if_pos c3] at H
  have c3b0 : ((l0.length : Int) == (l1.length : Int)) = true := beq_iff_eq.mpr c3
  have c3b1 : ((l0.length : Int) != (l1.length : Int)) = false := bne_eq_false_iff_eq.mpr c3
  have c3b2 : (l0.length == l1.length) = true := by first | simpa using c3 | (simp at c3 ⊢; omega)
  clear c3
  have H' := Aside0.mk H
  clear H
  go_enter Try.func187, Try.ntmps187
  go_wp2
  go_loopg [5] k (fun kq v5 w' => ∃ (x5_1 : Int), v5 = .int .i64 x5_1 ∧ Aside0 (laws_eqAcctS.l0 kq l0 l1 x5_1 = some r) ∧ Aside0 (kq ≤ k) ∧ Aside0 (Below w.heap.size w w'))
  case atStart => exact ⟨(0), sp_, H', ⟨Nat.le_refl _⟩, ⟨bl_⟩⟩
  case round =>
   clear H'
   try clear c1
   try clear p2
   try clear c3
   try clear c3b0
   try clear c3b1
   try clear c3b2
   obtain ⟨x5_1, rfl, HA, HK1, HB⟩ := hrel
   cases gk with
   | zero => exact absurd HA.out (by simp [laws_eqAcctS.l0])
   | succ k1 =>
    have H := HA.out
    clear HA
    simp only [laws_eqAcctS.l0] at H
    by_cases c4 : x5_1 < (l0.length : Int)
    ·rw [if_pos c4] at H
     have c4b0 : decide (x5_1 < (l0.length : Int)) = true := decide_eq_true c4
     clear c4
     by_cases c5 : 0 ≤ x5_1
     ·rw [if_pos c5] at H
      have c5b0 : decide (0 ≤ x5_1) = true := decide_eq_true c5
      clear c5
      by_cases c6 : x5_1 < (l1.length : Int)
      ·rw [if_pos c6] at H
       have c6b0 : decide (x5_1 < (l1.length : Int)) = true := decide_eq_true c6
       clear c6
       obtain ⟨t299, A7, H⟩ := ob_ H
       by_cases c8 : t299 = true
       ·subst c8
        replace H := ip_ H
        have H' := Aside0.mk H
        clear H
        try go_wp2
        have n0_ := Aside0.mk (below_drew1 HB.out)
        clear HB
        have HB := n0_
        clear n0_
        have p297 : 0 ≤ (x5_1 : Int) := od_
        have q297 : x5_1 < (l0.length : Int) := od_
        obtain ⟨ad297, A297_5, c297_5, A297_8, c297_8, A297_9, c297_9, A297_10, c297_10, e297, hx297_0, hx297_1, hx297_2, hx297_3, hx297_4, hx297_5, hx297_6, hx297_7, hx297_8, hx297_9, hx297_10, hl297_5, hi297_5, hl297_8, hi297_8, hl297_9, hi297_9, hl297_10, hi297_10⟩ := at_T43 HR0.out x5_1 p297 q297
        have hw297_10 := hx297_10
        have hw297_9 := hx297_9
        have hw297_8 := hx297_8
        have hw297_7 := hx297_7
        have hw297_6 := hx297_6
        have hw297_5 := hx297_5
        have hw297_4 := hx297_4
        have hw297_3 := hx297_3
        have hw297_2 := hx297_2
        have hw297_1 := hx297_1
        have hw297_0 := hx297_0
        cases e297
        replace hx297_0 := kc_ HB hx297_0
        replace hx297_1 := kc_ HB hx297_1
        replace hx297_2 := kc_ HB hx297_2
        replace hx297_3 := kc_ HB hx297_3
        replace hx297_4 := kc_ HB hx297_4
        replace hx297_5 := kc_ HB hx297_5
        replace hx297_6 := kc_ HB hx297_6
        replace hx297_7 := kc_ HB hx297_7
        replace hx297_8 := kc_ HB hx297_8
        replace hx297_9 := kc_ HB hx297_9
        replace hx297_10 := kc_ HB hx297_10
        have HR297_5 := Aside0.mk hi297_5
        have HC297_5 := Aside0.mk hl297_5
        clear hi297_5 hl297_5
        have HR297_8 := Aside0.mk hi297_8
        have HC297_8 := Aside0.mk hl297_8
        clear hi297_8 hl297_8
        have HR297_9 := Aside0.mk hi297_9
        have HC297_9 := Aside0.mk hl297_9
        clear hi297_9 hl297_9
        have HR297_10 := Aside0.mk hi297_10
        have HC297_10 := Aside0.mk hl297_10
        clear hi297_10 hl297_10
        replace p297 := eq_true p297
        replace q297 := eq_true q297
        have p298 : 0 ≤ (x5_1 : Int) := od_
        have q298 : x5_1 < (l1.length : Int) := od_
        obtain ⟨ad298, A298_5, c298_5, A298_8, c298_8, A298_9, c298_9, A298_10, c298_10, e298, hx298_0, hx298_1, hx298_2, hx298_3, hx298_4, hx298_5, hx298_6, hx298_7, hx298_8, hx298_9, hx298_10, hl298_5, hi298_5, hl298_8, hi298_8, hl298_9, hi298_9, hl298_10, hi298_10⟩ := at_T43 HR1.out x5_1 p298 q298
        have hw298_10 := hx298_10
        have hw298_9 := hx298_9
        have hw298_8 := hx298_8
        have hw298_7 := hx298_7
        have hw298_6 := hx298_6
        have hw298_5 := hx298_5
        have hw298_4 := hx298_4
        have hw298_3 := hx298_3
        have hw298_2 := hx298_2
        have hw298_1 := hx298_1
        have hw298_0 := hx298_0
        cases e298
        replace hx298_0 := kc_ HB hx298_0
        replace hx298_1 := kc_ HB hx298_1
        replace hx298_2 := kc_ HB hx298_2
        replace hx298_3 := kc_ HB hx298_3
        replace hx298_4 := kc_ HB hx298_4
        replace hx298_5 := kc_ HB hx298_5
        replace hx298_6 := kc_ HB hx298_6
        replace hx298_7 := kc_ HB hx298_7
        replace hx298_8 := kc_ HB hx298_8
        replace hx298_9 := kc_ HB hx298_9
        replace hx298_10 := kc_ HB hx298_10
        have HR298_5 := Aside0.mk hi298_5
        have HC298_5 := Aside0.mk hl298_5
        clear hi298_5 hl298_5
        have HR298_8 := Aside0.mk hi298_8
        have HC298_8 := Aside0.mk hl298_8
        clear hi298_8 hl298_8
        have HR298_9 := Aside0.mk hi298_9
        have HC298_9 := Aside0.mk hl298_9
        clear hi298_9 hl298_9
        have HR298_10 := Aside0.mk hi298_10
        have HC298_10 := Aside0.mk hl298_10
        clear hi298_10 hl298_10
        replace p298 := eq_true p298
        replace q298 := eq_true q298
        refine start_ (n := 10) (S := fun w' => w'.cell? (ad297.add ((x5_1).toNat * 11)) = some (.string ((rd_T43 l0 x5_1).f0)) ∧ w'.cell? ⟨(ad297.add ((x5_1).toNat * 11)).block, (ad297.add ((x5_1).toNat * 11)).off + 1, none⟩ = some (.int .i64 ((rd_T43 l0 x5_1).f1)) ∧ w'.cell? ⟨(ad297.add ((x5_1).toNat * 11)).block, (ad297.add ((x5_1).toNat * 11)).off + 2, none⟩ = some (.int .i64 ((rd_T43 l0 x5_1).f2)) ∧ w'.cell? ⟨(ad297.add ((x5_1).toNat * 11)).block, (ad297.add ((x5_1).toNat * 11)).off + 3, none⟩ = some (.int .i64 ((rd_T43 l0 x5_1).f3)) ∧ w'.cell? ⟨(ad297.add ((x5_1).toNat * 11)).block, (ad297.add ((x5_1).toNat * 11)).off + 4, none⟩ = some (.int .i64 ((rd_T43 l0 x5_1).f4)) ∧ w'.cell? ⟨(ad297.add ((x5_1).toNat * 11)).block, (ad297.add ((x5_1).toNat * 11)).off + 5, none⟩ = some (.slice A297_5 ((rd_T43 l0 x5_1).f5).length c297_5) ∧ w'.cell? ⟨(ad297.add ((x5_1).toNat * 11)).block, (ad297.add ((x5_1).toNat * 11)).off + 6, none⟩ = some (.int .i64 ((rd_T43 l0 x5_1).f6.f0)) ∧ w'.cell? ⟨(ad297.add ((x5_1).toNat * 11)).block, (ad297.add ((x5_1).toNat * 11)).off + 7, none⟩ = some (.int .i64 ((rd_T43 l0 x5_1).f6.f1)) ∧ w'.cell? ⟨(ad297.add ((x5_1).toNat * 11)).block, (ad297.add ((x5_1).toNat * 11)).off + 8, none⟩ = some (.slice A297_8 ((rd_T43 l0 x5_1).f6.f2).length c297_8) ∧ w'.cell? ⟨(ad297.add ((x5_1).toNat * 11)).block, (ad297.add ((x5_1).toNat * 11)).off + 9, none⟩ = some (.slice A297_9 ((rd_T43 l0 x5_1).f6.f3).length c297_9) ∧ w'.cell? ⟨(ad297.add ((x5_1).toNat * 11)).block, (ad297.add ((x5_1).toNat * 11)).off + 10, none⟩ = some (.slice A297_10 ((rd_T43 l0 x5_1).f7).length c297_10) ∧ w'.cell? (ad298.add ((x5_1).toNat * 11)) = some (.string ((rd_T43 l1 x5_1).f0)) ∧ w'.cell? ⟨(ad298.add ((x5_1).toNat * 11)).block, (ad298.add ((x5_1).toNat * 11)).off + 1, none⟩ = some (.int .i64 ((rd_T43 l1 x5_1).f1)) ∧ w'.cell? ⟨(ad298.add ((x5_1).toNat * 11)).block, (ad298.add ((x5_1).toNat * 11)).off + 2, none⟩ = some (.int .i64 ((rd_T43 l1 x5_1).f2)) ∧ w'.cell? ⟨(ad298.add ((x5_1).toNat * 11)).block, (ad298.add ((x5_1).toNat * 11)).off + 3, none⟩ = some (.int .i64 ((rd_T43 l1 x5_1).f3)) ∧ w'.cell? ⟨(ad298.add ((x5_1).toNat * 11)).block, (ad298.add ((x5_1).toNat * 11)).off + 4, none⟩ = some (.int .i64 ((rd_T43 l1 x5_1).f4)) ∧ w'.cell? ⟨(ad298.add ((x5_1).toNat * 11)).block, (ad298.add ((x5_1).toNat * 11)).off + 5, none⟩ = some (.slice A298_5 ((rd_T43 l1 x5_1).f5).length c298_5) ∧ w'.cell? ⟨(ad298.add ((x5_1).toNat * 11)).block, (ad298.add ((x5_1).toNat * 11)).off + 6, none⟩ = some (.int .i64 ((rd_T43 l1 x5_1).f6.f0)) ∧ w'.cell? ⟨(ad298.add ((x5_1).toNat * 11)).block, (ad298.add ((x5_1).toNat * 11)).off + 7, none⟩ = some (.int .i64 ((rd_T43 l1 x5_1).f6.f1)) ∧ w'.cell? ⟨(ad298.add ((x5_1).toNat * 11)).block, (ad298.add ((x5_1).toNat * 11)).off + 8, none⟩ = some (.slice A298_8 ((rd_T43 l1 x5_1).f6.f2).length c298_8) ∧ w'.cell? ⟨(ad298.add ((x5_1).toNat * 11)).block, (ad298.add ((x5_1).toNat * 11)).off + 9, none⟩ = some (.slice A298_9 ((rd_T43 l1 x5_1).f6.f3).length c298_9) ∧ w'.cell? ⟨(ad298.add ((x5_1).toNat * 11)).block, (ad298.add ((x5_1).toNat * 11)).off + 10, none⟩ = some (.slice A298_10 ((rd_T43 l1 x5_1).f7).length c298_10)) (ds := []) tb10_0_6 (by kernel_rfl) rfl rfl ⟨(kc_ HB hw297_0), (kc_ HB hw297_1), (kc_ HB hw297_2), (kc_ HB hw297_3), (kc_ HB hw297_4), (kc_ HB hw297_5), (kc_ HB hw297_6), (kc_ HB hw297_7), (kc_ HB hw297_8), (kc_ HB hw297_9), (kc_ HB hw297_10), (kc_ HB hw298_0), (kc_ HB hw298_1), (kc_ HB hw298_2), (kc_ HB hw298_3), (kc_ HB hw298_4), (kc_ HB hw298_5), (kc_ HB hw298_6), (kc_ HB hw298_7), (kc_ HB hw298_8), (kc_ HB hw298_9), (kc_ HB hw298_10)⟩ (fun hHeld => ?_); refine with_tabW laws_eqAcctS.tab6 laws_eqAcctS.bits6 (fun HT_ HW_ => ?_)
        generalize wr.drew = w9 at HB HR297_10 HR297_5 HR297_8 HR297_9 HR298_10 HR298_5 HR298_8 HR298_9 hx297_0 hx297_1 hx297_10 hx297_2 hx297_3 hx297_4 hx297_5 hx297_6 hx297_7 hx297_8 hx297_9 hx298_0 hx298_1 hx298_10 hx298_2 hx298_3 hx298_4 hx298_5 hx298_6 hx298_7 hx298_8 hx298_9 hHeld ⊢
        refine pl_ HT_ 0 17 tb10_1_6 ?_
        refine pl_ HT_ 1 18 tb10_3_6 ?_
        refine pl_ HT_ 2 19 tb10_7_6 ?_
        refine pl_ HT_ 4 21 tb10_17_6 ?_
        refine pl_ HT_ 5 22 tb10_37_6 ?_
        refine pl_ HT_ 6 23 tb10_77_6 ?_
        refine take_ (i := 3) (N := some 20) (v := ?_) (a' := ?_) tb10_7f_6 rfl rfl (take_ofW HT_.out HW_.out (by kernel_rfl)) (fun _ _ _ h => h) (Or.inl ⟨by rfl, ?_⟩) hHeld ?_ ?_
        rotate_left
        ·rintro w' ⟨s0, s1, s2, s3, s4, s5, s6, s7, s8, s9, s10, s11, s12, s13, s14, s15, s16, s17, s18, s19, s20, s21⟩
         go_simp
         with_reducible rfl
        rotate_left
        ·simp only [Act.put, q_]
         rfl
        refine take_ (i := 7) (N := some 24) (v := ?_) (a' := ?_) tb10_ff_6 rfl rfl (take_ofW HT_.out HW_.out (by kernel_rfl)) (fun _ _ _ h => h) (Or.inl ⟨by rfl, ?_⟩) hHeld ?_ ?_
        rotate_left
        ·rintro w' ⟨s0, s1, s2, s3, s4, s5, s6, s7, s8, s9, s10, s11, s12, s13, s14, s15, s16, s17, s18, s19, s20, s21⟩
         go_simp
         with_reducible rfl
        rotate_left
        ·simp only [Act.put, q_]
         rfl
        refine one_ (i := 8) (N := some 25) tb10_1ff_6 rfl rfl (one_of HT_.out (by kernel_rfl)) (by decide) (fun K hK => ?_)
        refine goes_ Try.func30 (by kernel_rfl) rfl #[.agg #[.string ((rd_T43 l0 x5_1).f0), .int .i64 ((rd_T43 l0 x5_1).f1), .int .i64 ((rd_T43 l0 x5_1).f2), .int .i64 ((rd_T43 l0 x5_1).f3), .int .i64 ((rd_T43 l0 x5_1).f4), .slice A297_5 ((rd_T43 l0 x5_1).f5).length c297_5, .int .i64 ((rd_T43 l0 x5_1).f6.f0), .int .i64 ((rd_T43 l0 x5_1).f6.f1), .slice A297_8 ((rd_T43 l0 x5_1).f6.f2).length c297_8, .slice A297_9 ((rd_T43 l0 x5_1).f6.f3).length c297_9, .slice A297_10 ((rd_T43 l0 x5_1).f7).length c297_10], .agg #[.string ((rd_T43 l1 x5_1).f0), .int .i64 ((rd_T43 l1 x5_1).f1), .int .i64 ((rd_T43 l1 x5_1).f2), .int .i64 ((rd_T43 l1 x5_1).f3), .int .i64 ((rd_T43 l1 x5_1).f4), .slice A298_5 ((rd_T43 l1 x5_1).f5).length c298_5, .int .i64 ((rd_T43 l1 x5_1).f6.f0), .int .i64 ((rd_T43 l1 x5_1).f6.f1), .slice A298_8 ((rd_T43 l1 x5_1).f6.f2).length c298_8, .slice A298_9 ((rd_T43 l1 x5_1).f6.f3).length c298_9, .slice A298_10 ((rd_T43 l1 x5_1).f7).length c298_10]] (by rfl) rfl rfl gl_ ?_
        with_reducible refine (laws_eqAcct.calls k1 ((rd_T43 l0 x5_1).f0) ((rd_T43 l0 x5_1).f1) ((rd_T43 l0 x5_1).f2) ((rd_T43 l0 x5_1).f3) ((rd_T43 l0 x5_1).f4) _ _ ((rd_T43 l0 x5_1).f5) ((rd_T43 l0 x5_1).f6.f0) ((rd_T43 l0 x5_1).f6.f1) _ _ ((rd_T43 l0 x5_1).f6.f2) _ _ ((rd_T43 l0 x5_1).f6.f3) _ _ ((rd_T43 l0 x5_1).f7) ((rd_T43 l1 x5_1).f0) ((rd_T43 l1 x5_1).f1) ((rd_T43 l1 x5_1).f2) ((rd_T43 l1 x5_1).f3) ((rd_T43 l1 x5_1).f4) _ _ ((rd_T43 l1 x5_1).f5) ((rd_T43 l1 x5_1).f6.f0) ((rd_T43 l1 x5_1).f6.f1) _ _ ((rd_T43 l1 x5_1).f6.f2) _ _ ((rd_T43 l1 x5_1).f6.f3) _ _ ((rd_T43 l1 x5_1).f7) true _ ?side1 ?side2 ?side3 ?side4 ?side5 ?side6 ?side7 ?side8 ?side9 ?side10 ?side11 ?side12 ?side13 ?side14 ?side15 ?side16 A7.out).mono ?_
        (case side1 => exact ca_ (Kd.C_below HR297_5.out HB.out))
        (case side2 => exact HC297_5.out)
        (case side3 => exact ca_ (Kd.C_below HR297_8.out HB.out))
        (case side4 => exact HC297_8.out)
        (case side5 => exact ca_ (Kd.C_below HR297_9.out HB.out))
        (case side6 => exact HC297_9.out)
        (case side7 => exact ca_ (Kd.C_below HR297_10.out HB.out))
        (case side8 => exact HC297_10.out)
        (case side9 => exact ca_ (Kd.C_below HR298_5.out HB.out))
        (case side10 => exact HC298_5.out)
        (case side11 => exact ca_ (Kd.C_below HR298_8.out HB.out))
        (case side12 => exact HC298_8.out)
        (case side13 => exact ca_ (Kd.C_below HR298_9.out HB.out))
        (case side14 => exact HC298_9.out)
        (case side15 => exact ca_ (Kd.C_below HR298_10.out HB.out))
        (case side16 => exact HC298_10.out)
        rintro e w10 ⟨rfl, hb⟩
        refine ⟨_, rfl, ?_⟩
        have n0_ := Aside0.mk (below_step bl_ hb)
        clear HB
        have HB := n0_
        clear n0_
        (try clear hb)
        (try clear hb2)
        (try clear hk)
        (try clear hi)
        refine hK.out _ _ ⟨(kc_ HB hw297_0), (kc_ HB hw297_1), (kc_ HB hw297_2), (kc_ HB hw297_3), (kc_ HB hw297_4), (kc_ HB hw297_5), (kc_ HB hw297_6), (kc_ HB hw297_7), (kc_ HB hw297_8), (kc_ HB hw297_9), (kc_ HB hw297_10), (kc_ HB hw298_0), (kc_ HB hw298_1), (kc_ HB hw298_2), (kc_ HB hw298_3), (kc_ HB hw298_4), (kc_ HB hw298_5), (kc_ HB hw298_6), (kc_ HB hw298_7), (kc_ HB hw298_8), (kc_ HB hw298_9), (kc_ HB hw298_10)⟩ (fun hHeld => ?_)
        clear hK K
        refine norm_ (a' := ?_) ?_ ?_
        rotate_left
        ·show Act.put _ (some 25) _ = _
         simp only [Act.put, q_]
         rfl
        refine pl_ HT_ 9 26 tb10_3ff_6 ?_
        refine done_ (done_of HT_.out (by kernel_rfl)) ?_
        try go_wp2
        go_roundg k1
        case measure => have := HK1.out; omega
        case rel => exact ⟨(wrap64 (x5_1 + 1)), sp_, H', ⟨by have := HK1.out; omega⟩, ⟨bl_⟩⟩
       ·replace c8 := Bool.eq_false_iff.mpr c8
        subst c8
        replace H := in_ H
        obtain rfl := Option.some.inj H
        try go_wp2
        have n0_ := Aside0.mk (below_drew1 HB.out)
        clear HB
        have HB := n0_
        clear n0_
        have p297 : 0 ≤ (x5_1 : Int) := od_
        have q297 : x5_1 < (l0.length : Int) := od_
        obtain ⟨ad297, A297_5, c297_5, A297_8, c297_8, A297_9, c297_9, A297_10, c297_10, e297, hx297_0, hx297_1, hx297_2, hx297_3, hx297_4, hx297_5, hx297_6, hx297_7, hx297_8, hx297_9, hx297_10, hl297_5, hi297_5, hl297_8, hi297_8, hl297_9, hi297_9, hl297_10, hi297_10⟩ := at_T43 HR0.out x5_1 p297 q297
        have hw297_10 := hx297_10
        have hw297_9 := hx297_9
        have hw297_8 := hx297_8
        have hw297_7 := hx297_7
        have hw297_6 := hx297_6
        have hw297_5 := hx297_5
        have hw297_4 := hx297_4
        have hw297_3 := hx297_3
        have hw297_2 := hx297_2
        have hw297_1 := hx297_1
        have hw297_0 := hx297_0
        cases e297
        replace hx297_0 := kc_ HB hx297_0
        replace hx297_1 := kc_ HB hx297_1
        replace hx297_2 := kc_ HB hx297_2
        replace hx297_3 := kc_ HB hx297_3
        replace hx297_4 := kc_ HB hx297_4
        replace hx297_5 := kc_ HB hx297_5
        replace hx297_6 := kc_ HB hx297_6
        replace hx297_7 := kc_ HB hx297_7
        replace hx297_8 := kc_ HB hx297_8
        replace hx297_9 := kc_ HB hx297_9
        replace hx297_10 := kc_ HB hx297_10
        have HR297_5 := Aside0.mk hi297_5
        have HC297_5 := Aside0.mk hl297_5
        clear hi297_5 hl297_5
        have HR297_8 := Aside0.mk hi297_8
        have HC297_8 := Aside0.mk hl297_8
        clear hi297_8 hl297_8
        have HR297_9 := Aside0.mk hi297_9
        have HC297_9 := Aside0.mk hl297_9
        clear hi297_9 hl297_9
        have HR297_10 := Aside0.mk hi297_10
        have HC297_10 := Aside0.mk hl297_10
        clear hi297_10 hl297_10
        replace p297 := eq_true p297
        replace q297 := eq_true q297
        have p298 : 0 ≤ (x5_1 : Int) := od_
        have q298 : x5_1 < (l1.length : Int) := od_
        obtain ⟨ad298, A298_5, c298_5, A298_8, c298_8, A298_9, c298_9, A298_10, c298_10, e298, hx298_0, hx298_1, hx298_2, hx298_3, hx298_4, hx298_5, hx298_6, hx298_7, hx298_8, hx298_9, hx298_10, hl298_5, hi298_5, hl298_8, hi298_8, hl298_9, hi298_9, hl298_10, hi298_10⟩ := at_T43 HR1.out x5_1 p298 q298
        have hw298_10 := hx298_10
        have hw298_9 := hx298_9
        have hw298_8 := hx298_8
        have hw298_7 := hx298_7
        have hw298_6 := hx298_6
        have hw298_5 := hx298_5
        have hw298_4 := hx298_4
        have hw298_3 := hx298_3
        have hw298_2 := hx298_2
        have hw298_1 := hx298_1
        have hw298_0 := hx298_0
        cases e298
        replace hx298_0 := kc_ HB hx298_0
        replace hx298_1 := kc_ HB hx298_1
        replace hx298_2 := kc_ HB hx298_2
        replace hx298_3 := kc_ HB hx298_3
        replace hx298_4 := kc_ HB hx298_4
        replace hx298_5 := kc_ HB hx298_5
        replace hx298_6 := kc_ HB hx298_6
        replace hx298_7 := kc_ HB hx298_7
        replace hx298_8 := kc_ HB hx298_8
        replace hx298_9 := kc_ HB hx298_9
        replace hx298_10 := kc_ HB hx298_10
        have HR298_5 := Aside0.mk hi298_5
        have HC298_5 := Aside0.mk hl298_5
        clear hi298_5 hl298_5
        have HR298_8 := Aside0.mk hi298_8
        have HC298_8 := Aside0.mk hl298_8
        clear hi298_8 hl298_8
        have HR298_9 := Aside0.mk hi298_9
        have HC298_9 := Aside0.mk hl298_9
        clear hi298_9 hl298_9
        have HR298_10 := Aside0.mk hi298_10
        have HC298_10 := Aside0.mk hl298_10
        clear hi298_10 hl298_10
        replace p298 := eq_true p298
        replace q298 := eq_true q298
        refine start_ (n := 10) (S := fun w' => w'.cell? (ad297.add ((x5_1).toNat * 11)) = some (.string ((rd_T43 l0 x5_1).f0)) ∧ w'.cell? ⟨(ad297.add ((x5_1).toNat * 11)).block, (ad297.add ((x5_1).toNat * 11)).off + 1, none⟩ = some (.int .i64 ((rd_T43 l0 x5_1).f1)) ∧ w'.cell? ⟨(ad297.add ((x5_1).toNat * 11)).block, (ad297.add ((x5_1).toNat * 11)).off + 2, none⟩ = some (.int .i64 ((rd_T43 l0 x5_1).f2)) ∧ w'.cell? ⟨(ad297.add ((x5_1).toNat * 11)).block, (ad297.add ((x5_1).toNat * 11)).off + 3, none⟩ = some (.int .i64 ((rd_T43 l0 x5_1).f3)) ∧ w'.cell? ⟨(ad297.add ((x5_1).toNat * 11)).block, (ad297.add ((x5_1).toNat * 11)).off + 4, none⟩ = some (.int .i64 ((rd_T43 l0 x5_1).f4)) ∧ w'.cell? ⟨(ad297.add ((x5_1).toNat * 11)).block, (ad297.add ((x5_1).toNat * 11)).off + 5, none⟩ = some (.slice A297_5 ((rd_T43 l0 x5_1).f5).length c297_5) ∧ w'.cell? ⟨(ad297.add ((x5_1).toNat * 11)).block, (ad297.add ((x5_1).toNat * 11)).off + 6, none⟩ = some (.int .i64 ((rd_T43 l0 x5_1).f6.f0)) ∧ w'.cell? ⟨(ad297.add ((x5_1).toNat * 11)).block, (ad297.add ((x5_1).toNat * 11)).off + 7, none⟩ = some (.int .i64 ((rd_T43 l0 x5_1).f6.f1)) ∧ w'.cell? ⟨(ad297.add ((x5_1).toNat * 11)).block, (ad297.add ((x5_1).toNat * 11)).off + 8, none⟩ = some (.slice A297_8 ((rd_T43 l0 x5_1).f6.f2).length c297_8) ∧ w'.cell? ⟨(ad297.add ((x5_1).toNat * 11)).block, (ad297.add ((x5_1).toNat * 11)).off + 9, none⟩ = some (.slice A297_9 ((rd_T43 l0 x5_1).f6.f3).length c297_9) ∧ w'.cell? ⟨(ad297.add ((x5_1).toNat * 11)).block, (ad297.add ((x5_1).toNat * 11)).off + 10, none⟩ = some (.slice A297_10 ((rd_T43 l0 x5_1).f7).length c297_10) ∧ w'.cell? (ad298.add ((x5_1).toNat * 11)) = some (.string ((rd_T43 l1 x5_1).f0)) ∧ w'.cell? ⟨(ad298.add ((x5_1).toNat * 11)).block, (ad298.add ((x5_1).toNat * 11)).off + 1, none⟩ = some (.int .i64 ((rd_T43 l1 x5_1).f1)) ∧ w'.cell? ⟨(ad298.add ((x5_1).toNat * 11)).block, (ad298.add ((x5_1).toNat * 11)).off + 2, none⟩ = some (.int .i64 ((rd_T43 l1 x5_1).f2)) ∧ w'.cell? ⟨(ad298.add ((x5_1).toNat * 11)).block, (ad298.add ((x5_1).toNat * 11)).off + 3, none⟩ = some (.int .i64 ((rd_T43 l1 x5_1).f3)) ∧ w'.cell? ⟨(ad298.add ((x5_1).toNat * 11)).block, (ad298.add ((x5_1).toNat * 11)).off + 4, none⟩ = some (.int .i64 ((rd_T43 l1 x5_1).f4)) ∧ w'.cell? ⟨(ad298.add ((x5_1).toNat * 11)).block, (ad298.add ((x5_1).toNat * 11)).off + 5, none⟩ = some (.slice A298_5 ((rd_T43 l1 x5_1).f5).length c298_5) ∧ w'.cell? ⟨(ad298.add ((x5_1).toNat * 11)).block, (ad298.add ((x5_1).toNat * 11)).off + 6, none⟩ = some (.int .i64 ((rd_T43 l1 x5_1).f6.f0)) ∧ w'.cell? ⟨(ad298.add ((x5_1).toNat * 11)).block, (ad298.add ((x5_1).toNat * 11)).off + 7, none⟩ = some (.int .i64 ((rd_T43 l1 x5_1).f6.f1)) ∧ w'.cell? ⟨(ad298.add ((x5_1).toNat * 11)).block, (ad298.add ((x5_1).toNat * 11)).off + 8, none⟩ = some (.slice A298_8 ((rd_T43 l1 x5_1).f6.f2).length c298_8) ∧ w'.cell? ⟨(ad298.add ((x5_1).toNat * 11)).block, (ad298.add ((x5_1).toNat * 11)).off + 9, none⟩ = some (.slice A298_9 ((rd_T43 l1 x5_1).f6.f3).length c298_9) ∧ w'.cell? ⟨(ad298.add ((x5_1).toNat * 11)).block, (ad298.add ((x5_1).toNat * 11)).off + 10, none⟩ = some (.slice A298_10 ((rd_T43 l1 x5_1).f7).length c298_10)) (ds := []) tb10_0_6 (by kernel_rfl) rfl rfl ⟨(kc_ HB hw297_0), (kc_ HB hw297_1), (kc_ HB hw297_2), (kc_ HB hw297_3), (kc_ HB hw297_4), (kc_ HB hw297_5), (kc_ HB hw297_6), (kc_ HB hw297_7), (kc_ HB hw297_8), (kc_ HB hw297_9), (kc_ HB hw297_10), (kc_ HB hw298_0), (kc_ HB hw298_1), (kc_ HB hw298_2), (kc_ HB hw298_3), (kc_ HB hw298_4), (kc_ HB hw298_5), (kc_ HB hw298_6), (kc_ HB hw298_7), (kc_ HB hw298_8), (kc_ HB hw298_9), (kc_ HB hw298_10)⟩ (fun hHeld => ?_); refine with_tabW laws_eqAcctS.tab6 laws_eqAcctS.bits6 (fun HT_ HW_ => ?_)
        generalize wr.drew = w11 at HB HR297_10 HR297_5 HR297_8 HR297_9 HR298_10 HR298_5 HR298_8 HR298_9 hx297_0 hx297_1 hx297_10 hx297_2 hx297_3 hx297_4 hx297_5 hx297_6 hx297_7 hx297_8 hx297_9 hx298_0 hx298_1 hx298_10 hx298_2 hx298_3 hx298_4 hx298_5 hx298_6 hx298_7 hx298_8 hx298_9 hHeld ⊢
        refine pl_ HT_ 0 17 tb10_1_6 ?_
        refine pl_ HT_ 1 18 tb10_3_6 ?_
        refine pl_ HT_ 2 19 tb10_7_6 ?_
        refine pl_ HT_ 4 21 tb10_17_6 ?_
        refine pl_ HT_ 5 22 tb10_37_6 ?_
        refine pl_ HT_ 6 23 tb10_77_6 ?_
        refine take_ (i := 3) (N := some 20) (v := ?_) (a' := ?_) tb10_7f_6 rfl rfl (take_ofW HT_.out HW_.out (by kernel_rfl)) (fun _ _ _ h => h) (Or.inl ⟨by rfl, ?_⟩) hHeld ?_ ?_
        rotate_left
        ·rintro w' ⟨s0, s1, s2, s3, s4, s5, s6, s7, s8, s9, s10, s11, s12, s13, s14, s15, s16, s17, s18, s19, s20, s21⟩
         go_simp
         with_reducible rfl
        rotate_left
        ·simp only [Act.put, q_]
         rfl
        refine take_ (i := 7) (N := some 24) (v := ?_) (a' := ?_) tb10_ff_6 rfl rfl (take_ofW HT_.out HW_.out (by kernel_rfl)) (fun _ _ _ h => h) (Or.inl ⟨by rfl, ?_⟩) hHeld ?_ ?_
        rotate_left
        ·rintro w' ⟨s0, s1, s2, s3, s4, s5, s6, s7, s8, s9, s10, s11, s12, s13, s14, s15, s16, s17, s18, s19, s20, s21⟩
         go_simp
         with_reducible rfl
        rotate_left
        ·simp only [Act.put, q_]
         rfl
        refine one_ (i := 8) (N := some 25) tb10_1ff_6 rfl rfl (one_of HT_.out (by kernel_rfl)) (by decide) (fun K hK => ?_)
        refine goes_ Try.func30 (by kernel_rfl) rfl #[.agg #[.string ((rd_T43 l0 x5_1).f0), .int .i64 ((rd_T43 l0 x5_1).f1), .int .i64 ((rd_T43 l0 x5_1).f2), .int .i64 ((rd_T43 l0 x5_1).f3), .int .i64 ((rd_T43 l0 x5_1).f4), .slice A297_5 ((rd_T43 l0 x5_1).f5).length c297_5, .int .i64 ((rd_T43 l0 x5_1).f6.f0), .int .i64 ((rd_T43 l0 x5_1).f6.f1), .slice A297_8 ((rd_T43 l0 x5_1).f6.f2).length c297_8, .slice A297_9 ((rd_T43 l0 x5_1).f6.f3).length c297_9, .slice A297_10 ((rd_T43 l0 x5_1).f7).length c297_10], .agg #[.string ((rd_T43 l1 x5_1).f0), .int .i64 ((rd_T43 l1 x5_1).f1), .int .i64 ((rd_T43 l1 x5_1).f2), .int .i64 ((rd_T43 l1 x5_1).f3), .int .i64 ((rd_T43 l1 x5_1).f4), .slice A298_5 ((rd_T43 l1 x5_1).f5).length c298_5, .int .i64 ((rd_T43 l1 x5_1).f6.f0), .int .i64 ((rd_T43 l1 x5_1).f6.f1), .slice A298_8 ((rd_T43 l1 x5_1).f6.f2).length c298_8, .slice A298_9 ((rd_T43 l1 x5_1).f6.f3).length c298_9, .slice A298_10 ((rd_T43 l1 x5_1).f7).length c298_10]] (by rfl) rfl rfl gl_ ?_
        with_reducible refine (laws_eqAcct.calls k1 ((rd_T43 l0 x5_1).f0) ((rd_T43 l0 x5_1).f1) ((rd_T43 l0 x5_1).f2) ((rd_T43 l0 x5_1).f3) ((rd_T43 l0 x5_1).f4) _ _ ((rd_T43 l0 x5_1).f5) ((rd_T43 l0 x5_1).f6.f0) ((rd_T43 l0 x5_1).f6.f1) _ _ ((rd_T43 l0 x5_1).f6.f2) _ _ ((rd_T43 l0 x5_1).f6.f3) _ _ ((rd_T43 l0 x5_1).f7) ((rd_T43 l1 x5_1).f0) ((rd_T43 l1 x5_1).f1) ((rd_T43 l1 x5_1).f2) ((rd_T43 l1 x5_1).f3) ((rd_T43 l1 x5_1).f4) _ _ ((rd_T43 l1 x5_1).f5) ((rd_T43 l1 x5_1).f6.f0) ((rd_T43 l1 x5_1).f6.f1) _ _ ((rd_T43 l1 x5_1).f6.f2) _ _ ((rd_T43 l1 x5_1).f6.f3) _ _ ((rd_T43 l1 x5_1).f7) false _ ?side1 ?side2 ?side3 ?side4 ?side5 ?side6 ?side7 ?side8 ?side9 ?side10 ?side11 ?side12 ?side13 ?side14 ?side15 ?side16 A7.out).mono ?_
        (case side1 => exact ca_ (Kd.C_below HR297_5.out HB.out))
        (case side2 => exact HC297_5.out)
        (case side3 => exact ca_ (Kd.C_below HR297_8.out HB.out))
        (case side4 => exact HC297_8.out)
        (case side5 => exact ca_ (Kd.C_below HR297_9.out HB.out))
        (case side6 => exact HC297_9.out)
        (case side7 => exact ca_ (Kd.C_below HR297_10.out HB.out))
        (case side8 => exact HC297_10.out)
        (case side9 => exact ca_ (Kd.C_below HR298_5.out HB.out))
        (case side10 => exact HC298_5.out)
        (case side11 => exact ca_ (Kd.C_below HR298_8.out HB.out))
        (case side12 => exact HC298_8.out)
        (case side13 => exact ca_ (Kd.C_below HR298_9.out HB.out))
        (case side14 => exact HC298_9.out)
        (case side15 => exact ca_ (Kd.C_below HR298_10.out HB.out))
        (case side16 => exact HC298_10.out)
        rintro e w12 ⟨rfl, hb⟩
        refine ⟨_, rfl, ?_⟩
        have n0_ := Aside0.mk (below_step bl_ hb)
        clear HB
        have HB := n0_
        clear n0_
        (try clear hb)
        (try clear hb2)
        (try clear hk)
        (try clear hi)
        refine hK.out _ _ ⟨(kc_ HB hw297_0), (kc_ HB hw297_1), (kc_ HB hw297_2), (kc_ HB hw297_3), (kc_ HB hw297_4), (kc_ HB hw297_5), (kc_ HB hw297_6), (kc_ HB hw297_7), (kc_ HB hw297_8), (kc_ HB hw297_9), (kc_ HB hw297_10), (kc_ HB hw298_0), (kc_ HB hw298_1), (kc_ HB hw298_2), (kc_ HB hw298_3), (kc_ HB hw298_4), (kc_ HB hw298_5), (kc_ HB hw298_6), (kc_ HB hw298_7), (kc_ HB hw298_8), (kc_ HB hw298_9), (kc_ HB hw298_10)⟩ (fun hHeld => ?_)
        clear hK K
        refine norm_ (a' := ?_) ?_ ?_
        rotate_left
        ·show Act.put _ (some 25) _ = _
         simp only [Act.put, q_]
         rfl
        refine pl_ HT_ 9 26 tb10_3ff_6 ?_
        refine done_ (done_of HT_.out (by kernel_rfl)) ?_
        try go_wp2
        go_ret
        exact ⟨sq_, bl_⟩
      ·rw [if_neg c6] at H
       exact absurd H (by simp)
     ·rw [if_neg c5] at H
      exact absurd H (by simp)
    ·rw [if_neg c4] at H
     have c4b0 : decide (x5_1 < (l0.length : Int)) = false := decide_eq_false c4
     clear c4
     obtain rfl := Option.some.inj H
     go_wp2
     go_ret
     exact ⟨sq_, bl_⟩
 ·rw [if_neg c3] at H
  have c3b0 : ((l0.length : Int) == (l1.length : Int)) = false := beq_eq_false_iff_ne.mpr c3
  have c3b1 : ((l0.length : Int) != (l1.length : Int)) = true := bne_iff_ne.mpr c3
  have c3b2 : (l0.length == l1.length) = false := by first | simpa using c3 | (simp at c3 ⊢; omega)
  obtain rfl := Option.some.inj H
  go_enter Try.func187, Try.ntmps187
  go_wp2
  go_ret
  exact ⟨sq_, bl_⟩
/-! ### laws_eqStripe: function 159 -/
def laws_eqStripe.f (k : Nat) (a0_0 : Int) (l0_1 : List (S43)) (a1_0 : Int) (l1_1 : List (S43)) : Option (Bool) := if a0_0 = a1_0 then ((laws_eqAcctS.f k l0_1 l1_1).bind fun t302 => (if t302 = true then (some true) else (some false))) else (some false)
set_option maxHeartbeats 8000000 in
set_option maxRecDepth 100000 in
theorem laws_eqStripe.calls (k : Nat) (a0_0 : Int) (A0_1 : Option Addr) (c0_1 : Nat) (l0_1 : List (S43)) (a1_0 : Int) (A1_1 : Option Addr) (c1_1 : Nat) (l1_1 : List (S43)) (r : Bool) (w : World) (hr0_1 : Kd.C k43 w A0_1 l0_1.length l0_1) (hc0_1 : l0_1.length ≤ c0_1) (hr1_1 : Kd.C k43 w A1_1 l1_1.length l1_1) (hc1_1 : l1_1.length ≤ c1_1) (h : laws_eqStripe.f k a0_0 l0_1 a1_0 l1_1 = some r) :
  Calls Try.prog 159 #[.agg #[.int .i64 a0_0, .slice A0_1 l0_1.length c0_1], .agg #[.int .i64 a1_0, .slice A1_1 l1_1.length c1_1]] w fun e w' => e = .returned (.bool r) ∧ Below w.heap.size w w' := by
 have hu121 := Try.underlying121
 have HR0_1 := Aside0.mk hr0_1
 have HC0_1 := Aside0.mk hc0_1
 clear hr0_1 hc0_1
 have HR1_1 := Aside0.mk hr1_1
 have HC1_1 := Aside0.mk hc1_1
 clear hr1_1 hc1_1
 have HB := Aside0.mk (Below.refl w.heap.size w)
 have H : (if a0_0 = a1_0 then ((laws_eqAcctS.f k l0_1 l1_1).bind fun t302 => (if t302 = true then (some true) else (some false))) else (some false)) = some r := h
 clear h
 by_cases c3 : a0_0 = a1_0
 ·rw [if_pos c3] at H
  have c3b0 : (a0_0 == a1_0) = true := beq_iff_eq.mpr c3
  have c3b1 : (a0_0 != a1_0) = false := bne_eq_false_iff_eq.mpr c3
  clear c3
  obtain ⟨t302, A4, H⟩ := ob_ H
  by_cases c5 : t302 = true
  ·subst c5
   replace H := ip_ H
   obtain rfl := Option.some.inj H
   go_enter Try.func159, Try.ntmps159
   go_wp2_with (first | ((with_reducible refine gate_dst (N := 2) rfl ?_); refine be_ (N := 2) (cs := #[.int .i64 a0_0, .slice A0_1 l0_1.length c0_1]) (t := 121) ?_; intro gb300 hg w6 hbox hb; have BK300 := Aside0.mk (hbox); have GW300 := gw_ (w := w) hg; have GE300 := gw_ (w := w) hg; replace HB := Aside0.mk (below_step bl_ hb); clear hb hbox hg) | ((with_reducible refine gate_dst (N := 3) rfl ?_); refine be_ (N := 3) (cs := #[.int .i64 a1_0, .slice A1_1 l1_1.length c1_1]) (t := 121) ?_; intro gb301 hg w7 hbox hb; have BK301 := Aside0.mk (hbox); have GW301 := gw_ (w := w) hg; have GE301 := gw_ (w := w) hg; replace HB := Aside0.mk (below_step bl_ hb); have NB300_301 := Aside0.mk ((by rw [hg]; exact Nat.ne_of_lt (blk_lt (bk_ BK300)) : gb300 ≠ gb301)); have NB301_300 := Aside0.mk ((by rw [hg]; exact Nat.ne_of_gt (blk_lt (bk_ BK300)) : gb301 ≠ gb300)); replace BK300 := Aside0.mk (blk_below (bk_ BK300) hb); clear hb hbox hg; have hnb8 := NB300_301.out; have hnc8 := NB301_300.out; obtain ⟨hcz9_0, hcz9_1, hfz9_0, hfz9_1⟩ := bx2_ BK300; obtain ⟨hcz10_0, hcz10_1, hfz10_0, hfz10_1⟩ := bx2_ BK301) | ((with_reducible refine gate_callee (f := 187) rfl ?_); refine goesL_ (some 14) rfl rfl Try.func187 (by kernel_rfl) rfl #[.slice A0_1 l0_1.length c0_1, .slice A1_1 l1_1.length c1_1] rfl gl_ ?_; (with_reducible refine (laws_eqAcctS.calls k _ _ l0_1 _ _ l1_1 true _ ?side1 ?side2 ?side3 ?side4 A4.out).mono ?_); (case side1 => exact ca_ (Kd.C_below HR0_1.out HB.out)); (case side2 => exact HC0_1.out); (case side3 => exact ca_ (Kd.C_below HR1_1.out HB.out)); (case side4 => exact HC1_1.out); rintro e w11 ⟨rfl, hb⟩; refine ⟨_, rfl, ?_⟩; replace BK300 := Aside0.mk (blk_below (bk_ BK300) hb); replace BK301 := Aside0.mk (blk_below (bk_ BK301) hb); replace HB := Aside0.mk (below_step bl_ hb); (try clear hb); (try clear hb2); (try clear hk); (try clear hi)))
   go_ret
   exact ⟨sq_, bl_⟩
  ·replace c5 := Bool.eq_false_iff.mpr c5
   subst c5
   replace H := in_ H
   obtain rfl := Option.some.inj H
   go_enter Try.func159, Try.ntmps159
   go_wp2_with (first | ((with_reducible refine gate_dst (N := 2) rfl ?_); refine be_ (N := 2) (cs := #[.int .i64 a0_0, .slice A0_1 l0_1.length c0_1]) (t := 121) ?_; intro gb300 hg w12 hbox hb; have BK300 := Aside0.mk (hbox); have GW300 := gw_ (w := w) hg; have GE300 := gw_ (w := w) hg; replace HB := Aside0.mk (below_step bl_ hb); clear hb hbox hg) | ((with_reducible refine gate_dst (N := 3) rfl ?_); refine be_ (N := 3) (cs := #[.int .i64 a1_0, .slice A1_1 l1_1.length c1_1]) (t := 121) ?_; intro gb301 hg w13 hbox hb; have BK301 := Aside0.mk (hbox); have GW301 := gw_ (w := w) hg; have GE301 := gw_ (w := w) hg; replace HB := Aside0.mk (below_step bl_ hb); have NB300_301 := Aside0.mk ((by rw [hg]; exact Nat.ne_of_lt (blk_lt (bk_ BK300)) : gb300 ≠ gb301)); have NB301_300 := Aside0.mk ((by rw [hg]; exact Nat.ne_of_gt (blk_lt (bk_ BK300)) : gb301 ≠ gb300)); replace BK300 := Aside0.mk (blk_below (bk_ BK300) hb); clear hb hbox hg; have hnb14 := NB300_301.out; have hnc14 := NB301_300.out; obtain ⟨hcz15_0, hcz15_1, hfz15_0, hfz15_1⟩ := bx2_ BK300; obtain ⟨hcz16_0, hcz16_1, hfz16_0, hfz16_1⟩ := bx2_ BK301) | ((with_reducible refine gate_callee (f := 187) rfl ?_); refine goesL_ (some 14) rfl rfl Try.func187 (by kernel_rfl) rfl #[.slice A0_1 l0_1.length c0_1, .slice A1_1 l1_1.length c1_1] rfl gl_ ?_; (with_reducible refine (laws_eqAcctS.calls k _ _ l0_1 _ _ l1_1 false _ ?side1 ?side2 ?side3 ?side4 A4.out).mono ?_); (case side1 => exact ca_ (Kd.C_below HR0_1.out HB.out)); (case side2 => exact HC0_1.out); (case side3 => exact ca_ (Kd.C_below HR1_1.out HB.out)); (case side4 => exact HC1_1.out); rintro e w17 ⟨rfl, hb⟩; refine ⟨_, rfl, ?_⟩; replace BK300 := Aside0.mk (blk_below (bk_ BK300) hb); replace BK301 := Aside0.mk (blk_below (bk_ BK301) hb); replace HB := Aside0.mk (below_step bl_ hb); (try clear hb); (try clear hb2); (try clear hk); (try clear hi)))
   go_ret
   exact ⟨sq_, bl_⟩
 ·rw [if_neg c3] at H
  have c3b0 : (a0_0 == a1_0) = false := beq_eq_false_iff_ne.mpr c3
  have c3b1 : (a0_0 != a1_0) = true := bne_iff_ne.mpr c3
  obtain rfl := Option.some.inj H
  go_enter Try.func159, Try.ntmps159
  go_wp2_with (first | ((with_reducible refine gate_dst (N := 2) rfl ?_); refine be_ (N := 2) (cs := #[.int .i64 a0_0, .slice A0_1 l0_1.length c0_1]) (t := 121) ?_; intro gb300 hg w18 hbox hb; have BK300 := Aside0.mk (hbox); have GW300 := gw_ (w := w) hg; have GE300 := gw_ (w := w) hg; replace HB := Aside0.mk (below_step bl_ hb); clear hb hbox hg) | ((with_reducible refine gate_dst (N := 3) rfl ?_); refine be_ (N := 3) (cs := #[.int .i64 a1_0, .slice A1_1 l1_1.length c1_1]) (t := 121) ?_; intro gb301 hg w19 hbox hb; have BK301 := Aside0.mk (hbox); have GW301 := gw_ (w := w) hg; have GE301 := gw_ (w := w) hg; replace HB := Aside0.mk (below_step bl_ hb); have NB300_301 := Aside0.mk ((by rw [hg]; exact Nat.ne_of_lt (blk_lt (bk_ BK300)) : gb300 ≠ gb301)); have NB301_300 := Aside0.mk ((by rw [hg]; exact Nat.ne_of_gt (blk_lt (bk_ BK300)) : gb301 ≠ gb300)); replace BK300 := Aside0.mk (blk_below (bk_ BK300) hb); clear hb hbox hg; have hnb20 := NB300_301.out; have hnc20 := NB301_300.out; obtain ⟨hcz21_0, hcz21_1, hfz21_0, hfz21_1⟩ := bx2_ BK300; obtain ⟨hcz22_0, hcz22_1, hfz22_0, hfz22_1⟩ := bx2_ BK301))
  go_ret
  exact ⟨sq_, bl_⟩
end Go.Proofs.Ytepjnalkpfnmcaa.QFnExactEventsOf
