-- by my own printer (myprint.py, over the kit's print.py)
import Derived.Test.YtbjpfknmkpnhjaaQFnExactOrderOfx0
import Derived.Test.YtbjpfknmkpnhjaaQFnExactOrderOfx7
namespace Go.Proofs.Ytbjpfknmkpnhjaa.QFnExactOrderOf
open Go.RowKit Go.Proofs.YtbjpfknmkpnhjaaW.PrintWords Go.Proofs.YtbjpfknmkpnhjaaW.PrintLast Go.Proofs.YtbjpfknmkpnhjaaW.PrintMore
attribute [local go_sem] max2_int min2_int max_two min_two max_three min_three max_four min_four   -- for this text's walks alone
set_option linter.unusedVariables false
set_option linter.unusedSimpArgs false
attribute [local go_sem] my_geq my_leq my_gtr
abbrev tb10_0_8 : Array Bool := #[b0, b0, b0, b0, b0, b0, b0, b0, b0, b0]
abbrev tb10_1_8 : Array Bool := #[b1, b0, b0, b0, b0, b0, b0, b0, b0, b0]
abbrev tb10_17_8 : Array Bool := #[b1, b1, b1, b0, b1, b0, b0, b0, b0, b0]
abbrev tb10_1ff_8 : Array Bool := #[b1, b1, b1, b1, b1, b1, b1, b1, b1, b0]
abbrev tb10_3_8 : Array Bool := #[b1, b1, b0, b0, b0, b0, b0, b0, b0, b0]
abbrev tb10_37_8 : Array Bool := #[b1, b1, b1, b0, b1, b1, b0, b0, b0, b0]
abbrev tb10_3ff_8 : Array Bool := #[b1, b1, b1, b1, b1, b1, b1, b1, b1, b1]
abbrev tb10_7_8 : Array Bool := #[b1, b1, b1, b0, b0, b0, b0, b0, b0, b0]
abbrev tb10_77_8 : Array Bool := #[b1, b1, b1, b0, b1, b1, b1, b0, b0, b0]
abbrev tb10_7f_8 : Array Bool := #[b1, b1, b1, b1, b1, b1, b1, b0, b0, b0]
abbrev tb10_ff_8 : Array Bool := #[b1, b1, b1, b1, b1, b1, b1, b1, b0, b0]
/-! ### laws_eqAcctS: function 40 -/
def laws_eqAcctS.l0 : Nat → List (S82) → List (S82) → Int → Option (Bool)
 | 0, _, _, _ => none
 | k + 1, x0, x1, x5 => if x5 < (x0.length : Int) then (if 0 ≤ x5 then (if x5 < (x1.length : Int) then ((laws_eqAcct.f k ((rd_T82 x0 x5).f0) ((rd_T82 x0 x5).f1) ((rd_T82 x0 x5).f2) ((rd_T82 x0 x5).f3) ((rd_T82 x0 x5).f4) ((rd_T82 x0 x5).f5) ((rd_T82 x0 x5).f6.f0) ((rd_T82 x0 x5).f6.f1) ((rd_T82 x0 x5).f6.f2) ((rd_T82 x0 x5).f6.f3) ((rd_T82 x0 x5).f7) ((rd_T82 x1 x5).f0) ((rd_T82 x1 x5).f1) ((rd_T82 x1 x5).f2) ((rd_T82 x1 x5).f3) ((rd_T82 x1 x5).f4) ((rd_T82 x1 x5).f5) ((rd_T82 x1 x5).f6.f0) ((rd_T82 x1 x5).f6.f1) ((rd_T82 x1 x5).f6.f2) ((rd_T82 x1 x5).f6.f3) ((rd_T82 x1 x5).f7)).bind fun t356 => (if t356 = true then (laws_eqAcctS.l0 k x0 x1 (wrap64 (x5 + 1))) else (some false))) else (none)) else (none)) else (some true)
def laws_eqAcctS.f (k : Nat) (l0 : List (S82)) (l1 : List (S82)) : Option (Bool) := if (l0.length : Int) = (l1.length : Int) then (laws_eqAcctS.l0 k l0 l1 0) else (some false)
def laws_eqAcctS.T6 : Bool × List (List Nat × List Nat) := (true, [([], []), ([], []), ([0, 1], [0, 1]), ([2], [2]), ([], []), ([], []), ([4, 5], [4, 5]), ([6], [6]), ([3, 7], [3, 7]), ([8], [8])])
def laws_eqAcctS.B6 : List Nat := [0, 0, 3, 7, 0, 0, 48, 112, 255, 511]
theorem laws_eqAcctS.tab6 : rtab .any (opsOf Try.f40 6) = laws_eqAcctS.T6 := by kernel_rfl
theorem laws_eqAcctS.bits6 : waitsOk laws_eqAcctS.T6.2 laws_eqAcctS.B6 = true := by kernel_rfl
set_option maxHeartbeats 8000000 in
set_option maxRecDepth 100000 in
theorem laws_eqAcctS.calls (k : Nat) (A0 : Option Addr) (c0 : Nat) (l0 : List (S82)) (A1 : Option Addr) (c1 : Nat) (l1 : List (S82)) (r : Bool) (w : World) (hr0 : Kd.C k82 w A0 l0.length l0) (hc0 : l0.length ≤ c0) (hr1 : Kd.C k82 w A1 l1.length l1) (hc1 : l1.length ≤ c1) (h : laws_eqAcctS.f k l0 l1 = some r) :
  Calls Try.prog 40 #[.slice A0 l0.length c0, .slice A1 l1.length c1] w fun e w' => e = .returned (.bool r) ∧ Below w.heap.size w w' := by
 have hu82 := Try.underlying82
 have HR0 := Aside0.mk hr0
 have HC0 := Aside0.mk hc0
 clear hr0 hc0
 have HR1 := Aside0.mk hr1
 have HC1 := Aside0.mk hc1
 clear hr1 hc1
 have HB := Aside0.mk (Below.refl w.heap.size w)
 have H : (if (l0.length : Int) = (l1.length : Int) then (laws_eqAcctS.l0 k l0 l1 0) else (some false)) = some r := h
 clear h
 by_cases c3 : (l0.length : Int) = (l1.length : Int)
 ·rw [if_pos c3] at H
  have c3b0 : ((l0.length : Int) == (l1.length : Int)) = true := beq_iff_eq.mpr c3
  have c3b1 : ((l0.length : Int) != (l1.length : Int)) = false := bne_eq_false_iff_eq.mpr c3
  have c3b2 : (l0.length == l1.length) = true := by first | simpa using c3 | (simp at c3 ⊢; omega)
  clear c3
  have H' := Aside0.mk H
  clear H
  go_enter Try.func40, Try.ntmps40
  go_wp2
  go_loopg [5] k (fun kq v5 w' => ∃ (x5_1 : Int), v5 = .int .i64 x5_1 ∧ Aside0 (laws_eqAcctS.l0 kq l0 l1 x5_1 = some r) ∧ Aside0 (kq ≤ k) ∧ Aside0 (Below w.heap.size w w'))
  case atStart => exact ⟨(0), sp_, H', ⟨Nat.le_refl _⟩, ⟨bl_⟩⟩
  case round =>
   clear H'
   try clear c1
   try clear p2
   try clear c3
   try clear c3b0
   try clear c3b1
   try clear c3b2
   obtain ⟨x5_1, rfl, HA, HK1, HB⟩ := hrel
   cases gk with
   | zero => exact absurd HA.out (by simp [laws_eqAcctS.l0])
   | succ k1 =>
    have H := HA.out
    clear HA
    simp only [laws_eqAcctS.l0] at H
    by_cases c4 : x5_1 < (l0.length : Int)
    ·rw [if_pos c4] at H
     have c4b0 : decide (x5_1 < (l0.length : Int)) = true := decide_eq_true c4
     clear c4
     by_cases c5 : 0 ≤ x5_1
     ·rw [if_pos c5] at H
      have c5b0 : decide (0 ≤ x5_1) = true := decide_eq_true c5
      clear c5
      by_cases c6 : x5_1 < (l1.length : Int)
      ·rw [if_pos c6] at H
       have c6b0 : decide (x5_1 < (l1.length : Int)) = true := decide_eq_true c6
       clear c6
       obtain ⟨t356, A7, H⟩ := ob_ H
       by_cases c8 : t356 = true
       ·subst c8
        replace H := ip_ H
        have H' := Aside0.mk H
        clear H
        try go_wp2
        have n0_ := Aside0.mk (below_drew1 HB.out)
        clear HB
        have HB := n0_
        clear n0_
        have p354 : 0 ≤ (x5_1 : Int) := od_
        have q354 : x5_1 < (l0.length : Int) := od_
        obtain ⟨ad354, A354_5, c354_5, A354_8, c354_8, A354_9, c354_9, A354_10, c354_10, e354, hx354_0, hx354_1, hx354_2, hx354_3, hx354_4, hx354_5, hx354_6, hx354_7, hx354_8, hx354_9, hx354_10, hl354_5, hi354_5, hl354_8, hi354_8, hl354_9, hi354_9, hl354_10, hi354_10⟩ := at_T82 HR0.out x5_1 p354 q354
        have hw354_10 := hx354_10
        have hw354_9 := hx354_9
        have hw354_8 := hx354_8
        have hw354_7 := hx354_7
        have hw354_6 := hx354_6
        have hw354_5 := hx354_5
        have hw354_4 := hx354_4
        have hw354_3 := hx354_3
        have hw354_2 := hx354_2
        have hw354_1 := hx354_1
        have hw354_0 := hx354_0
        cases e354
        replace hx354_0 := kc_ HB hx354_0
        replace hx354_1 := kc_ HB hx354_1
        replace hx354_2 := kc_ HB hx354_2
        replace hx354_3 := kc_ HB hx354_3
        replace hx354_4 := kc_ HB hx354_4
        replace hx354_5 := kc_ HB hx354_5
        replace hx354_6 := kc_ HB hx354_6
        replace hx354_7 := kc_ HB hx354_7
        replace hx354_8 := kc_ HB hx354_8
        replace hx354_9 := kc_ HB hx354_9
        replace hx354_10 := kc_ HB hx354_10
        have HR354_5 := Aside0.mk hi354_5
        have HC354_5 := Aside0.mk hl354_5
        clear hi354_5 hl354_5
        have HR354_8 := Aside0.mk hi354_8
        have HC354_8 := Aside0.mk hl354_8
        clear hi354_8 hl354_8
        have HR354_9 := Aside0.mk hi354_9
        have HC354_9 := Aside0.mk hl354_9
        clear hi354_9 hl354_9
        have HR354_10 := Aside0.mk hi354_10
        have HC354_10 := Aside0.mk hl354_10
        clear hi354_10 hl354_10
        replace p354 := eq_true p354
        replace q354 := eq_true q354
        have p355 : 0 ≤ (x5_1 : Int) := od_
        have q355 : x5_1 < (l1.length : Int) := od_
        obtain ⟨ad355, A355_5, c355_5, A355_8, c355_8, A355_9, c355_9, A355_10, c355_10, e355, hx355_0, hx355_1, hx355_2, hx355_3, hx355_4, hx355_5, hx355_6, hx355_7, hx355_8, hx355_9, hx355_10, hl355_5, hi355_5, hl355_8, hi355_8, hl355_9, hi355_9, hl355_10, hi355_10⟩ := at_T82 HR1.out x5_1 p355 q355
        have hw355_10 := hx355_10
        have hw355_9 := hx355_9
        have hw355_8 := hx355_8
        have hw355_7 := hx355_7
        have hw355_6 := hx355_6
        have hw355_5 := hx355_5
        have hw355_4 := hx355_4
        have hw355_3 := hx355_3
        have hw355_2 := hx355_2
        have hw355_1 := hx355_1
        have hw355_0 := hx355_0
        cases e355
        replace hx355_0 := kc_ HB hx355_0
        replace hx355_1 := kc_ HB hx355_1
        replace hx355_2 := kc_ HB hx355_2
        replace hx355_3 := kc_ HB hx355_3
        replace hx355_4 := kc_ HB hx355_4
        replace hx355_5 := kc_ HB hx355_5
        replace hx355_6 := kc_ HB hx355_6
        replace hx355_7 := kc_ HB hx355_7
        replace hx355_8 := kc_ HB hx355_8
        replace hx355_9 := kc_ HB hx355_9
        replace hx355_10 := kc_ HB hx355_10
        have HR355_5 := Aside0.mk hi355_5
        have HC355_5 := Aside0.mk hl355_5
        clear hi355_5 hl355_5
        have HR355_8 := Aside0.mk hi355_8
        have HC355_8 := Aside0.mk hl355_8
        clear hi355_8 hl355_8
        have HR355_9 := Aside0.mk hi355_9
        have HC355_9 := Aside0.mk hl355_9
        clear hi355_9 hl355_9
        have HR355_10 := Aside0.mk hi355_10
        have HC355_10 := Aside0.mk hl355_10
        clear hi355_10 hl355_10
        replace p355 := eq_true p355
        replace q355 := eq_true q355
        refine start_ (n := 10) (S := fun w' => w'.cell? (ad354.add ((x5_1).toNat * 11)) = some (.string ((rd_T82 l0 x5_1).f0)) ∧ w'.cell? ⟨(ad354.add ((x5_1).toNat * 11)).block, (ad354.add ((x5_1).toNat * 11)).off + 1, none⟩ = some (.int .i64 ((rd_T82 l0 x5_1).f1)) ∧ w'.cell? ⟨(ad354.add ((x5_1).toNat * 11)).block, (ad354.add ((x5_1).toNat * 11)).off + 2, none⟩ = some (.int .i64 ((rd_T82 l0 x5_1).f2)) ∧ w'.cell? ⟨(ad354.add ((x5_1).toNat * 11)).block, (ad354.add ((x5_1).toNat * 11)).off + 3, none⟩ = some (.int .i64 ((rd_T82 l0 x5_1).f3)) ∧ w'.cell? ⟨(ad354.add ((x5_1).toNat * 11)).block, (ad354.add ((x5_1).toNat * 11)).off + 4, none⟩ = some (.int .i64 ((rd_T82 l0 x5_1).f4)) ∧ w'.cell? ⟨(ad354.add ((x5_1).toNat * 11)).block, (ad354.add ((x5_1).toNat * 11)).off + 5, none⟩ = some (.slice A354_5 ((rd_T82 l0 x5_1).f5).length c354_5) ∧ w'.cell? ⟨(ad354.add ((x5_1).toNat * 11)).block, (ad354.add ((x5_1).toNat * 11)).off + 6, none⟩ = some (.int .i64 ((rd_T82 l0 x5_1).f6.f0)) ∧ w'.cell? ⟨(ad354.add ((x5_1).toNat * 11)).block, (ad354.add ((x5_1).toNat * 11)).off + 7, none⟩ = some (.int .i64 ((rd_T82 l0 x5_1).f6.f1)) ∧ w'.cell? ⟨(ad354.add ((x5_1).toNat * 11)).block, (ad354.add ((x5_1).toNat * 11)).off + 8, none⟩ = some (.slice A354_8 ((rd_T82 l0 x5_1).f6.f2).length c354_8) ∧ w'.cell? ⟨(ad354.add ((x5_1).toNat * 11)).block, (ad354.add ((x5_1).toNat * 11)).off + 9, none⟩ = some (.slice A354_9 ((rd_T82 l0 x5_1).f6.f3).length c354_9) ∧ w'.cell? ⟨(ad354.add ((x5_1).toNat * 11)).block, (ad354.add ((x5_1).toNat * 11)).off + 10, none⟩ = some (.slice A354_10 ((rd_T82 l0 x5_1).f7).length c354_10) ∧ w'.cell? (ad355.add ((x5_1).toNat * 11)) = some (.string ((rd_T82 l1 x5_1).f0)) ∧ w'.cell? ⟨(ad355.add ((x5_1).toNat * 11)).block, (ad355.add ((x5_1).toNat * 11)).off + 1, none⟩ = some (.int .i64 ((rd_T82 l1 x5_1).f1)) ∧ w'.cell? ⟨(ad355.add ((x5_1).toNat * 11)).block, (ad355.add ((x5_1).toNat * 11)).off + 2, none⟩ = some (.int .i64 ((rd_T82 l1 x5_1).f2)) ∧ w'.cell? ⟨(ad355.add ((x5_1).toNat * 11)).block, (ad355.add ((x5_1).toNat * 11)).off + 3, none⟩ = some (.int .i64 ((rd_T82 l1 x5_1).f3)) ∧ w'.cell? ⟨(ad355.add ((x5_1).toNat * 11)).block, (ad355.add ((x5_1).toNat * 11)).off + 4, none⟩ = some (.int .i64 ((rd_T82 l1 x5_1).f4)) ∧ w'.cell? ⟨(ad355.add ((x5_1).toNat * 11)).block, (ad355.add ((x5_1).toNat * 11)).off + 5, none⟩ = some (.slice A355_5 ((rd_T82 l1 x5_1).f5).length c355_5) ∧ w'.cell? ⟨(ad355.add ((x5_1).toNat * 11)).block, (ad355.add ((x5_1).toNat * 11)).off + 6, none⟩ = some (.int .i64 ((rd_T82 l1 x5_1).f6.f0)) ∧ w'.cell? ⟨(ad355.add ((x5_1).toNat * 11)).block, (ad355.add ((x5_1).toNat * 11)).off + 7, none⟩ = some (.int .i64 ((rd_T82 l1 x5_1).f6.f1)) ∧ w'.cell? ⟨(ad355.add ((x5_1).toNat * 11)).block, (ad355.add ((x5_1).toNat * 11)).off + 8, none⟩ = some (.slice A355_8 ((rd_T82 l1 x5_1).f6.f2).length c355_8) ∧ w'.cell? ⟨(ad355.add ((x5_1).toNat * 11)).block, (ad355.add ((x5_1).toNat * 11)).off + 9, none⟩ = some (.slice A355_9 ((rd_T82 l1 x5_1).f6.f3).length c355_9) ∧ w'.cell? ⟨(ad355.add ((x5_1).toNat * 11)).block, (ad355.add ((x5_1).toNat * 11)).off + 10, none⟩ = some (.slice A355_10 ((rd_T82 l1 x5_1).f7).length c355_10)) (ds := []) tb10_0_8 (by kernel_rfl) rfl rfl ⟨(kc_ HB hw354_0), (kc_ HB hw354_1), (kc_ HB hw354_2), (kc_ HB hw354_3), (kc_ HB hw354_4), (kc_ HB hw354_5), (kc_ HB hw354_6), (kc_ HB hw354_7), (kc_ HB hw354_8), (kc_ HB hw354_9), (kc_ HB hw354_10), (kc_ HB hw355_0), (kc_ HB hw355_1), (kc_ HB hw355_2), (kc_ HB hw355_3), (kc_ HB hw355_4), (kc_ HB hw355_5), (kc_ HB hw355_6), (kc_ HB hw355_7), (kc_ HB hw355_8), (kc_ HB hw355_9), (kc_ HB hw355_10)⟩ (fun hHeld => ?_); refine with_tabW laws_eqAcctS.tab6 laws_eqAcctS.bits6 (fun HT_ HW_ => ?_)
        generalize wr.drew = w9 at HB HR354_10 HR354_5 HR354_8 HR354_9 HR355_10 HR355_5 HR355_8 HR355_9 hx354_0 hx354_1 hx354_10 hx354_2 hx354_3 hx354_4 hx354_5 hx354_6 hx354_7 hx354_8 hx354_9 hx355_0 hx355_1 hx355_10 hx355_2 hx355_3 hx355_4 hx355_5 hx355_6 hx355_7 hx355_8 hx355_9 hHeld ⊢
        refine pl_ HT_ 0 17 tb10_1_8 ?_
        refine pl_ HT_ 1 18 tb10_3_8 ?_
        refine pl_ HT_ 2 19 tb10_7_8 ?_
        refine pl_ HT_ 4 21 tb10_17_8 ?_
        refine pl_ HT_ 5 22 tb10_37_8 ?_
        refine pl_ HT_ 6 23 tb10_77_8 ?_
        refine take_ (i := 3) (N := some 20) (v := ?_) (a' := ?_) tb10_7f_8 rfl rfl (take_ofW HT_.out HW_.out (by kernel_rfl)) (fun _ _ _ h => h) (Or.inl ⟨by rfl, ?_⟩) hHeld ?_ ?_
        rotate_left
        ·rintro w' ⟨s0, s1, s2, s3, s4, s5, s6, s7, s8, s9, s10, s11, s12, s13, s14, s15, s16, s17, s18, s19, s20, s21⟩
         go_simp
         with_reducible rfl
        rotate_left
        ·simp only [Act.put, q_]
         rfl
        refine take_ (i := 7) (N := some 24) (v := ?_) (a' := ?_) tb10_ff_8 rfl rfl (take_ofW HT_.out HW_.out (by kernel_rfl)) (fun _ _ _ h => h) (Or.inl ⟨by rfl, ?_⟩) hHeld ?_ ?_
        rotate_left
        ·rintro w' ⟨s0, s1, s2, s3, s4, s5, s6, s7, s8, s9, s10, s11, s12, s13, s14, s15, s16, s17, s18, s19, s20, s21⟩
         go_simp
         with_reducible rfl
        rotate_left
        ·simp only [Act.put, q_]
         rfl
        refine one_ (i := 8) (N := some 25) tb10_1ff_8 rfl rfl (one_of HT_.out (by kernel_rfl)) (by decide) (fun K hK => ?_)
        refine goes_ Try.func48 (by kernel_rfl) rfl #[.agg #[.string ((rd_T82 l0 x5_1).f0), .int .i64 ((rd_T82 l0 x5_1).f1), .int .i64 ((rd_T82 l0 x5_1).f2), .int .i64 ((rd_T82 l0 x5_1).f3), .int .i64 ((rd_T82 l0 x5_1).f4), .slice A354_5 ((rd_T82 l0 x5_1).f5).length c354_5, .int .i64 ((rd_T82 l0 x5_1).f6.f0), .int .i64 ((rd_T82 l0 x5_1).f6.f1), .slice A354_8 ((rd_T82 l0 x5_1).f6.f2).length c354_8, .slice A354_9 ((rd_T82 l0 x5_1).f6.f3).length c354_9, .slice A354_10 ((rd_T82 l0 x5_1).f7).length c354_10], .agg #[.string ((rd_T82 l1 x5_1).f0), .int .i64 ((rd_T82 l1 x5_1).f1), .int .i64 ((rd_T82 l1 x5_1).f2), .int .i64 ((rd_T82 l1 x5_1).f3), .int .i64 ((rd_T82 l1 x5_1).f4), .slice A355_5 ((rd_T82 l1 x5_1).f5).length c355_5, .int .i64 ((rd_T82 l1 x5_1).f6.f0), .int .i64 ((rd_T82 l1 x5_1).f6.f1), .slice A355_8 ((rd_T82 l1 x5_1).f6.f2).length c355_8, .slice A355_9 ((rd_T82 l1 x5_1).f6.f3).length c355_9, .slice A355_10 ((rd_T82 l1 x5_1).f7).length c355_10]] (by rfl) rfl rfl gl_ ?_
        with_reducible refine (laws_eqAcct.calls k1 ((rd_T82 l0 x5_1).f0) ((rd_T82 l0 x5_1).f1) ((rd_T82 l0 x5_1).f2) ((rd_T82 l0 x5_1).f3) ((rd_T82 l0 x5_1).f4) _ _ ((rd_T82 l0 x5_1).f5) ((rd_T82 l0 x5_1).f6.f0) ((rd_T82 l0 x5_1).f6.f1) _ _ ((rd_T82 l0 x5_1).f6.f2) _ _ ((rd_T82 l0 x5_1).f6.f3) _ _ ((rd_T82 l0 x5_1).f7) ((rd_T82 l1 x5_1).f0) ((rd_T82 l1 x5_1).f1) ((rd_T82 l1 x5_1).f2) ((rd_T82 l1 x5_1).f3) ((rd_T82 l1 x5_1).f4) _ _ ((rd_T82 l1 x5_1).f5) ((rd_T82 l1 x5_1).f6.f0) ((rd_T82 l1 x5_1).f6.f1) _ _ ((rd_T82 l1 x5_1).f6.f2) _ _ ((rd_T82 l1 x5_1).f6.f3) _ _ ((rd_T82 l1 x5_1).f7) true _ ?side1 ?side2 ?side3 ?side4 ?side5 ?side6 ?side7 ?side8 ?side9 ?side10 ?side11 ?side12 ?side13 ?side14 ?side15 ?side16 A7.out).mono ?_
        (case side1 => exact ca_ (Kd.C_below HR354_5.out HB.out))
        (case side2 => exact HC354_5.out)
        (case side3 => exact ca_ (Kd.C_below HR354_8.out HB.out))
        (case side4 => exact HC354_8.out)
        (case side5 => exact ca_ (Kd.C_below HR354_9.out HB.out))
        (case side6 => exact HC354_9.out)
        (case side7 => exact ca_ (Kd.C_below HR354_10.out HB.out))
        (case side8 => exact HC354_10.out)
        (case side9 => exact ca_ (Kd.C_below HR355_5.out HB.out))
        (case side10 => exact HC355_5.out)
        (case side11 => exact ca_ (Kd.C_below HR355_8.out HB.out))
        (case side12 => exact HC355_8.out)
        (case side13 => exact ca_ (Kd.C_below HR355_9.out HB.out))
        (case side14 => exact HC355_9.out)
        (case side15 => exact ca_ (Kd.C_below HR355_10.out HB.out))
        (case side16 => exact HC355_10.out)
        rintro e w10 ⟨rfl, hb⟩
        refine ⟨_, rfl, ?_⟩
        have n0_ := Aside0.mk (below_step bl_ hb)
        clear HB
        have HB := n0_
        clear n0_
        (try clear hb)
        (try clear hb2)
        (try clear hk)
        (try clear hi)
        refine hK.out _ _ ⟨(kc_ HB hw354_0), (kc_ HB hw354_1), (kc_ HB hw354_2), (kc_ HB hw354_3), (kc_ HB hw354_4), (kc_ HB hw354_5), (kc_ HB hw354_6), (kc_ HB hw354_7), (kc_ HB hw354_8), (kc_ HB hw354_9), (kc_ HB hw354_10), (kc_ HB hw355_0), (kc_ HB hw355_1), (kc_ HB hw355_2), (kc_ HB hw355_3), (kc_ HB hw355_4), (kc_ HB hw355_5), (kc_ HB hw355_6), (kc_ HB hw355_7), (kc_ HB hw355_8), (kc_ HB hw355_9), (kc_ HB hw355_10)⟩ (fun hHeld => ?_)
        clear hK K
        refine norm_ (a' := ?_) ?_ ?_
        rotate_left
        ·show Act.put _ (some 25) _ = _
         simp only [Act.put, q_]
         rfl
        refine pl_ HT_ 9 26 tb10_3ff_8 ?_
        refine done_ (done_of HT_.out (by kernel_rfl)) ?_
        try go_wp2
        go_roundg k1
        case measure => have := HK1.out; omega
        case rel => exact ⟨(wrap64 (x5_1 + 1)), sp_, H', ⟨by have := HK1.out; omega⟩, ⟨bl_⟩⟩
       ·replace c8 := Bool.eq_false_iff.mpr c8
        subst c8
        replace H := in_ H
        obtain rfl := Option.some.inj H
        try go_wp2
        have n0_ := Aside0.mk (below_drew1 HB.out)
        clear HB
        have HB := n0_
        clear n0_
        have p354 : 0 ≤ (x5_1 : Int) := od_
        have q354 : x5_1 < (l0.length : Int) := od_
        obtain ⟨ad354, A354_5, c354_5, A354_8, c354_8, A354_9, c354_9, A354_10, c354_10, e354, hx354_0, hx354_1, hx354_2, hx354_3, hx354_4, hx354_5, hx354_6, hx354_7, hx354_8, hx354_9, hx354_10, hl354_5, hi354_5, hl354_8, hi354_8, hl354_9, hi354_9, hl354_10, hi354_10⟩ := at_T82 HR0.out x5_1 p354 q354
        have hw354_10 := hx354_10
        have hw354_9 := hx354_9
        have hw354_8 := hx354_8
        have hw354_7 := hx354_7
        have hw354_6 := hx354_6
        have hw354_5 := hx354_5
        have hw354_4 := hx354_4
        have hw354_3 := hx354_3
        have hw354_2 := hx354_2
        have hw354_1 := hx354_1
        have hw354_0 := hx354_0
        cases e354
        replace hx354_0 := kc_ HB hx354_0
        replace hx354_1 := kc_ HB hx354_1
        replace hx354_2 := kc_ HB hx354_2
        replace hx354_3 := kc_ HB hx354_3
        replace hx354_4 := kc_ HB hx354_4
        replace hx354_5 := kc_ HB hx354_5
        replace hx354_6 := kc_ HB hx354_6
        replace hx354_7 := kc_ HB hx354_7
        replace hx354_8 := kc_ HB hx354_8
        replace hx354_9 := kc_ HB hx354_9
        replace hx354_10 := kc_ HB hx354_10
        have HR354_5 := Aside0.mk hi354_5
        have HC354_5 := Aside0.mk hl354_5
        clear hi354_5 hl354_5
        have HR354_8 := Aside0.mk hi354_8
        have HC354_8 := Aside0.mk hl354_8
        clear hi354_8 hl354_8
        have HR354_9 := Aside0.mk hi354_9
        have HC354_9 := Aside0.mk hl354_9
        clear hi354_9 hl354_9
        have HR354_10 := Aside0.mk hi354_10
        have HC354_10 := Aside0.mk hl354_10
        clear hi354_10 hl354_10
        replace p354 := eq_true p354
        replace q354 := eq_true q354
        have p355 : 0 ≤ (x5_1 : Int) := od_
        have q355 : x5_1 < (l1.length : Int) := od_
        obtain ⟨ad355, A355_5, c355_5, A355_8, c355_8, A355_9, c355_9, A355_10, c355_10, e355, hx355_0, hx355_1, hx355_2, hx355_3, hx355_4, hx355_5, hx355_6, hx355_7, hx355_8, hx355_9, hx355_10, hl355_5, hi355_5, hl355_8, hi355_8, hl355_9, hi355_9, hl355_10, hi355_10⟩ := at_T82 HR1.out x5_1 p355 q355
        have hw355_10 := hx355_10
        have hw355_9 := hx355_9
        have hw355_8 := hx355_8
        have hw355_7 := hx355_7
        have hw355_6 := hx355_6
        have hw355_5 := hx355_5
        have hw355_4 := hx355_4
        have hw355_3 := hx355_3
        have hw355_2 := hx355_2
        have hw355_1 := hx355_1
        have hw355_0 := hx355_0
        cases e355
        replace hx355_0 := kc_ HB hx355_0
        replace hx355_1 := kc_ HB hx355_1
        replace hx355_2 := kc_ HB hx355_2
        replace hx355_3 := kc_ HB hx355_3
        replace hx355_4 := kc_ HB hx355_4
        replace hx355_5 := kc_ HB hx355_5
        replace hx355_6 := kc_ HB hx355_6
        replace hx355_7 := kc_ HB hx355_7
        replace hx355_8 := kc_ HB hx355_8
        replace hx355_9 := kc_ HB hx355_9
        replace hx355_10 := kc_ HB hx355_10
        have HR355_5 := Aside0.mk hi355_5
        have HC355_5 := Aside0.mk hl355_5
        clear hi355_5 hl355_5
        have HR355_8 := Aside0.mk hi355_8
        have HC355_8 := Aside0.mk hl355_8
        clear hi355_8 hl355_8
        have HR355_9 := Aside0.mk hi355_9
        have HC355_9 := Aside0.mk hl355_9
        clear hi355_9 hl355_9
        have HR355_10 := Aside0.mk hi355_10
        have HC355_10 := Aside0.mk hl355_10
        clear hi355_10 hl355_10
        replace p355 := eq_true p355
        replace q355 := eq_true q355
        refine start_ (n := 10) (S := fun w' => w'.cell? (ad354.add ((x5_1).toNat * 11)) = some (.string ((rd_T82 l0 x5_1).f0)) ∧ w'.cell? ⟨(ad354.add ((x5_1).toNat * 11)).block, (ad354.add ((x5_1).toNat * 11)).off + 1, none⟩ = some (.int .i64 ((rd_T82 l0 x5_1).f1)) ∧ w'.cell? ⟨(ad354.add ((x5_1).toNat * 11)).block, (ad354.add ((x5_1).toNat * 11)).off + 2, none⟩ = some (.int .i64 ((rd_T82 l0 x5_1).f2)) ∧ w'.cell? ⟨(ad354.add ((x5_1).toNat * 11)).block, (ad354.add ((x5_1).toNat * 11)).off + 3, none⟩ = some (.int .i64 ((rd_T82 l0 x5_1).f3)) ∧ w'.cell? ⟨(ad354.add ((x5_1).toNat * 11)).block, (ad354.add ((x5_1).toNat * 11)).off + 4, none⟩ = some (.int .i64 ((rd_T82 l0 x5_1).f4)) ∧ w'.cell? ⟨(ad354.add ((x5_1).toNat * 11)).block, (ad354.add ((x5_1).toNat * 11)).off + 5, none⟩ = some (.slice A354_5 ((rd_T82 l0 x5_1).f5).length c354_5) ∧ w'.cell? ⟨(ad354.add ((x5_1).toNat * 11)).block, (ad354.add ((x5_1).toNat * 11)).off + 6, none⟩ = some (.int .i64 ((rd_T82 l0 x5_1).f6.f0)) ∧ w'.cell? ⟨(ad354.add ((x5_1).toNat * 11)).block, (ad354.add ((x5_1).toNat * 11)).off + 7, none⟩ = some (.int .i64 ((rd_T82 l0 x5_1).f6.f1)) ∧ w'.cell? ⟨(ad354.add ((x5_1).toNat * 11)).block, (ad354.add ((x5_1).toNat * 11)).off + 8, none⟩ = some (.slice A354_8 ((rd_T82 l0 x5_1).f6.f2).length c354_8) ∧ w'.cell? ⟨(ad354.add ((x5_1).toNat * 11)).block, (ad354.add ((x5_1).toNat * 11)).off + 9, none⟩ = some (.slice A354_9 ((rd_T82 l0 x5_1).f6.f3).length c354_9) ∧ w'.cell? ⟨(ad354.add ((x5_1).toNat * 11)).block, (ad354.add ((x5_1).toNat * 11)).off + 10, none⟩ = some (.slice A354_10 ((rd_T82 l0 x5_1).f7).length c354_10) ∧ w'.cell? (ad355.add ((x5_1).toNat * 11)) = some (.string ((rd_T82 l1 x5_1).f0)) ∧ w'.cell? ⟨(ad355.add ((x5_1).toNat * 11)).block, (ad355.add ((x5_1).toNat * 11)).off + 1, none⟩ = some (.int .i64 ((rd_T82 l1 x5_1).f1)) ∧ w'.cell? ⟨(ad355.add ((x5_1).toNat * 11)).block, (ad355.add ((x5_1).toNat * 11)).off + 2, none⟩ = some (.int .i64 ((rd_T82 l1 x5_1).f2)) ∧ w'.cell? ⟨(ad355.add ((x5_1).toNat * 11)).block, (ad355.add ((x5_1).toNat * 11)).off + 3, none⟩ = some (.int .i64 ((rd_T82 l1 x5_1).f3)) ∧ w'.cell? ⟨(ad355.add ((x5_1).toNat * 11)).block, (ad355.add ((x5_1).toNat * 11)).off + 4, none⟩ = some (.int .i64 ((rd_T82 l1 x5_1).f4)) ∧ w'.cell? ⟨(ad355.add ((x5_1).toNat * 11)).block, (ad355.add ((x5_1).toNat * 11)).off + 5, none⟩ = some (.slice A355_5 ((rd_T82 l1 x5_1).f5).length c355_5) ∧ w'.cell? ⟨(ad355.add ((x5_1).toNat * 11)).block, (ad355.add ((x5_1).toNat * 11)).off + 6, none⟩ = some (.int .i64 ((rd_T82 l1 x5_1).f6.f0)) ∧ w'.cell? ⟨(ad355.add ((x5_1).toNat * 11)).block, (ad355.add ((x5_1).toNat * 11)).off + 7, none⟩ = some (.int .i64 ((rd_T82 l1 x5_1).f6.f1)) ∧ w'.cell? ⟨(ad355.add ((x5_1).toNat * 11)).block, (ad355.add ((x5_1).toNat * 11)).off + 8, none⟩ = some (.slice A355_8 ((rd_T82 l1 x5_1).f6.f2).length c355_8) ∧ w'.cell? ⟨(ad355.add ((x5_1).toNat * 11)).block, (ad355.add ((x5_1).toNat * 11)).off + 9, none⟩ = some (.slice A355_9 ((rd_T82 l1 x5_1).f6.f3).length c355_9) ∧ w'.cell? ⟨(ad355.add ((x5_1).toNat * 11)).block, (ad355.add ((x5_1).toNat * 11)).off + 10, none⟩ = some (.slice A355_10 ((rd_T82 l1 x5_1).f7).length c355_10)) (ds := []) tb10_0_8 (by kernel_rfl) rfl rfl ⟨(kc_ HB hw354_0), (kc_ HB hw354_1), (kc_ HB hw354_2), (kc_ HB hw354_3), (kc_ HB hw354_4), (kc_ HB hw354_5), (kc_ HB hw354_6), (kc_ HB hw354_7), (kc_ HB hw354_8), (kc_ HB hw354_9), (kc_ HB hw354_10), (kc_ HB hw355_0), (kc_ HB hw355_1), (kc_ HB hw355_2), (kc_ HB hw355_3), (kc_ HB hw355_4), (kc_ HB hw355_5), (kc_ HB hw355_6), (kc_ HB hw355_7), (kc_ HB hw355_8), (kc_ HB hw355_9), (kc_ HB hw355_10)⟩ (fun hHeld => ?_); refine with_tabW laws_eqAcctS.tab6 laws_eqAcctS.bits6 (fun HT_ HW_ => ?_)
        generalize wr.drew = w11 at HB HR354_10 HR354_5 HR354_8 HR354_9 HR355_10 HR355_5 HR355_8 HR355_9 hx354_0 hx354_1 hx354_10 hx354_2 hx354_3 hx354_4 hx354_5 hx354_6 hx354_7 hx354_8 hx354_9 hx355_0 hx355_1 hx355_10 hx355_2 hx355_3 hx355_4 hx355_5 hx355_6 hx355_7 hx355_8 hx355_9 hHeld ⊢
        refine pl_ HT_ 0 17 tb10_1_8 ?_
        refine pl_ HT_ 1 18 tb10_3_8 ?_
        refine pl_ HT_ 2 19 tb10_7_8 ?_
        refine pl_ HT_ 4 21 tb10_17_8 ?_
        refine pl_ HT_ 5 22 tb10_37_8 ?_
        refine pl_ HT_ 6 23 tb10_77_8 ?_
        refine take_ (i := 3) (N := some 20) (v := ?_) (a' := ?_) tb10_7f_8 rfl rfl (take_ofW HT_.out HW_.out (by kernel_rfl)) (fun _ _ _ h => h) (Or.inl ⟨by rfl, ?_⟩) hHeld ?_ ?_
        rotate_left
        ·rintro w' ⟨s0, s1, s2, s3, s4, s5, s6, s7, s8, s9, s10, s11, s12, s13, s14, s15, s16, s17, s18, s19, s20, s21⟩
         go_simp
         with_reducible rfl
        rotate_left
        ·simp only [Act.put, q_]
         rfl
        refine take_ (i := 7) (N := some 24) (v := ?_) (a' := ?_) tb10_ff_8 rfl rfl (take_ofW HT_.out HW_.out (by kernel_rfl)) (fun _ _ _ h => h) (Or.inl ⟨by rfl, ?_⟩) hHeld ?_ ?_
        rotate_left
        ·rintro w' ⟨s0, s1, s2, s3, s4, s5, s6, s7, s8, s9, s10, s11, s12, s13, s14, s15, s16, s17, s18, s19, s20, s21⟩
         go_simp
         with_reducible rfl
        rotate_left
        ·simp only [Act.put, q_]
         rfl
        refine one_ (i := 8) (N := some 25) tb10_1ff_8 rfl rfl (one_of HT_.out (by kernel_rfl)) (by decide) (fun K hK => ?_)
        refine goes_ Try.func48 (by kernel_rfl) rfl #[.agg #[.string ((rd_T82 l0 x5_1).f0), .int .i64 ((rd_T82 l0 x5_1).f1), .int .i64 ((rd_T82 l0 x5_1).f2), .int .i64 ((rd_T82 l0 x5_1).f3), .int .i64 ((rd_T82 l0 x5_1).f4), .slice A354_5 ((rd_T82 l0 x5_1).f5).length c354_5, .int .i64 ((rd_T82 l0 x5_1).f6.f0), .int .i64 ((rd_T82 l0 x5_1).f6.f1), .slice A354_8 ((rd_T82 l0 x5_1).f6.f2).length c354_8, .slice A354_9 ((rd_T82 l0 x5_1).f6.f3).length c354_9, .slice A354_10 ((rd_T82 l0 x5_1).f7).length c354_10], .agg #[.string ((rd_T82 l1 x5_1).f0), .int .i64 ((rd_T82 l1 x5_1).f1), .int .i64 ((rd_T82 l1 x5_1).f2), .int .i64 ((rd_T82 l1 x5_1).f3), .int .i64 ((rd_T82 l1 x5_1).f4), .slice A355_5 ((rd_T82 l1 x5_1).f5).length c355_5, .int .i64 ((rd_T82 l1 x5_1).f6.f0), .int .i64 ((rd_T82 l1 x5_1).f6.f1), .slice A355_8 ((rd_T82 l1 x5_1).f6.f2).length c355_8, .slice A355_9 ((rd_T82 l1 x5_1).f6.f3).length c355_9, .slice A355_10 ((rd_T82 l1 x5_1).f7).length c355_10]] (by rfl) rfl rfl gl_ ?_
        with_reducible refine (laws_eqAcct.calls k1 ((rd_T82 l0 x5_1).f0) ((rd_T82 l0 x5_1).f1) ((rd_T82 l0 x5_1).f2) ((rd_T82 l0 x5_1).f3) ((rd_T82 l0 x5_1).f4) _ _ ((rd_T82 l0 x5_1).f5) ((rd_T82 l0 x5_1).f6.f0) ((rd_T82 l0 x5_1).f6.f1) _ _ ((rd_T82 l0 x5_1).f6.f2) _ _ ((rd_T82 l0 x5_1).f6.f3) _ _ ((rd_T82 l0 x5_1).f7) ((rd_T82 l1 x5_1).f0) ((rd_T82 l1 x5_1).f1) ((rd_T82 l1 x5_1).f2) ((rd_T82 l1 x5_1).f3) ((rd_T82 l1 x5_1).f4) _ _ ((rd_T82 l1 x5_1).f5) ((rd_T82 l1 x5_1).f6.f0) ((rd_T82 l1 x5_1).f6.f1) _ _ ((rd_T82 l1 x5_1).f6.f2) _ _ ((rd_T82 l1 x5_1).f6.f3) _ _ ((rd_T82 l1 x5_1).f7) false _ ?side1 ?side2 ?side3 ?side4 ?side5 ?side6 ?side7 ?side8 ?side9 ?side10 ?side11 ?side12 ?side13 ?side14 ?side15 ?side16 A7.out).mono ?_
        (case side1 => exact ca_ (Kd.C_below HR354_5.out HB.out))
        (case side2 => exact HC354_5.out)
        (case side3 => exact ca_ (Kd.C_below HR354_8.out HB.out))
        (case side4 => exact HC354_8.out)
        (case side5 => exact ca_ (Kd.C_below HR354_9.out HB.out))
        (case side6 => exact HC354_9.out)
        (case side7 => exact ca_ (Kd.C_below HR354_10.out HB.out))
        (case side8 => exact HC354_10.out)
        (case side9 => exact ca_ (Kd.C_below HR355_5.out HB.out))
        (case side10 => exact HC355_5.out)
        (case side11 => exact ca_ (Kd.C_below HR355_8.out HB.out))
        (case side12 => exact HC355_8.out)
        (case side13 => exact ca_ (Kd.C_below HR355_9.out HB.out))
        (case side14 => exact HC355_9.out)
        (case side15 => exact ca_ (Kd.C_below HR355_10.out HB.out))
        (case side16 => exact HC355_10.out)
        rintro e w12 ⟨rfl, hb⟩
        refine ⟨_, rfl, ?_⟩
        have n0_ := Aside0.mk (below_step bl_ hb)
        clear HB
        have HB := n0_
        clear n0_
        (try clear hb)
        (try clear hb2)
        (try clear hk)
        (try clear hi)
        refine hK.out _ _ ⟨(kc_ HB hw354_0), (kc_ HB hw354_1), (kc_ HB hw354_2), (kc_ HB hw354_3), (kc_ HB hw354_4), (kc_ HB hw354_5), (kc_ HB hw354_6), (kc_ HB hw354_7), (kc_ HB hw354_8), (kc_ HB hw354_9), (kc_ HB hw354_10), (kc_ HB hw355_0), (kc_ HB hw355_1), (kc_ HB hw355_2), (kc_ HB hw355_3), (kc_ HB hw355_4), (kc_ HB hw355_5), (kc_ HB hw355_6), (kc_ HB hw355_7), (kc_ HB hw355_8), (kc_ HB hw355_9), (kc_ HB hw355_10)⟩ (fun hHeld => ?_)
        clear hK K
        refine norm_ (a' := ?_) ?_ ?_
        rotate_left
        ·show Act.put _ (some 25) _ = _
         simp only [Act.put, q_]
         rfl
        refine pl_ HT_ 9 26 tb10_3ff_8 ?_
        refine done_ (done_of HT_.out (by kernel_rfl)) ?_
        try go_wp2
        go_ret
        exact ⟨sq_, bl_⟩
      ·rw [if_neg c6] at H
       exact absurd H (by simp)
     ·rw [if_neg c5] at H
      exact absurd H (by simp)
    ·rw [if_neg c4] at H
     have c4b0 : decide (x5_1 < (l0.length : Int)) = false := decide_eq_false c4
     clear c4
     obtain rfl := Option.some.inj H
     go_wp2
     go_ret
     exact ⟨sq_, bl_⟩
 ·rw [if_neg c3] at H
  have c3b0 : ((l0.length : Int) == (l1.length : Int)) = false := beq_eq_false_iff_ne.mpr c3
  have c3b1 : ((l0.length : Int) != (l1.length : Int)) = true := bne_iff_ne.mpr c3
  have c3b2 : (l0.length == l1.length) = false := by first | simpa using c3 | (simp at c3 ⊢; omega)
  obtain rfl := Option.some.inj H
  go_enter Try.func40, Try.ntmps40
  go_wp2
  go_ret
  exact ⟨sq_, bl_⟩
/-! ### laws_eqStripe: function 28 -/
def laws_eqStripe.f (k : Nat) (a0_0 : Int) (l0_1 : List (S82)) (a1_0 : Int) (l1_1 : List (S82)) : Option (Bool) := if a0_0 = a1_0 then ((laws_eqAcctS.f k l0_1 l1_1).bind fun t359 => (if t359 = true then (some true) else (some false))) else (some false)
set_option maxHeartbeats 8000000 in
set_option maxRecDepth 100000 in
theorem laws_eqStripe.calls (k : Nat) (a0_0 : Int) (A0_1 : Option Addr) (c0_1 : Nat) (l0_1 : List (S82)) (a1_0 : Int) (A1_1 : Option Addr) (c1_1 : Nat) (l1_1 : List (S82)) (r : Bool) (w : World) (hr0_1 : Kd.C k82 w A0_1 l0_1.length l0_1) (hc0_1 : l0_1.length ≤ c0_1) (hr1_1 : Kd.C k82 w A1_1 l1_1.length l1_1) (hc1_1 : l1_1.length ≤ c1_1) (h : laws_eqStripe.f k a0_0 l0_1 a1_0 l1_1 = some r) :
  Calls Try.prog 28 #[.agg #[.int .i64 a0_0, .slice A0_1 l0_1.length c0_1], .agg #[.int .i64 a1_0, .slice A1_1 l1_1.length c1_1]] w fun e w' => e = .returned (.bool r) ∧ Below w.heap.size w w' := by
 have hu60 := Try.underlying60
 have HR0_1 := Aside0.mk hr0_1
 have HC0_1 := Aside0.mk hc0_1
 clear hr0_1 hc0_1
 have HR1_1 := Aside0.mk hr1_1
 have HC1_1 := Aside0.mk hc1_1
 clear hr1_1 hc1_1
 have HB := Aside0.mk (Below.refl w.heap.size w)
 have H : (if a0_0 = a1_0 then ((laws_eqAcctS.f k l0_1 l1_1).bind fun t359 => (if t359 = true then (some true) else (some false))) else (some false)) = some r := h
 clear h
 by_cases c3 : a0_0 = a1_0
 ·rw [if_pos c3] at H
  have c3b0 : (a0_0 == a1_0) = true := beq_iff_eq.mpr c3
  have c3b1 : (a0_0 != a1_0) = false := bne_eq_false_iff_eq.mpr c3
  clear c3
  obtain ⟨t359, A4, H⟩ := ob_ H
  by_cases c5 : t359 = true
  ·subst c5
   replace H := ip_ H
   obtain rfl := Option.some.inj H
   go_enter Try.func28, Try.ntmps28
   go_wp2_with (first | ((with_reducible refine gate_dst (N := 2) rfl ?_); refine be_ (N := 2) (cs := #[.int .i64 a0_0, .slice A0_1 l0_1.length c0_1]) (t := 60) ?_; intro gb357 hg w6 hbox hb; have BK357 := Aside0.mk (hbox); have GW357 := gw_ (w := w) hg; have GE357 := gw_ (w := w) hg; replace HB := Aside0.mk (below_step bl_ hb); clear hb hbox hg) | ((with_reducible refine gate_dst (N := 3) rfl ?_); refine be_ (N := 3) (cs := #[.int .i64 a1_0, .slice A1_1 l1_1.length c1_1]) (t := 60) ?_; intro gb358 hg w7 hbox hb; have BK358 := Aside0.mk (hbox); have GW358 := gw_ (w := w) hg; have GE358 := gw_ (w := w) hg; replace HB := Aside0.mk (below_step bl_ hb); have NB357_358 := Aside0.mk ((by rw [hg]; exact Nat.ne_of_lt (blk_lt (bk_ BK357)) : gb357 ≠ gb358)); have NB358_357 := Aside0.mk ((by rw [hg]; exact Nat.ne_of_gt (blk_lt (bk_ BK357)) : gb358 ≠ gb357)); replace BK357 := Aside0.mk (blk_below (bk_ BK357) hb); clear hb hbox hg; have hnb8 := NB357_358.out; have hnc8 := NB358_357.out; obtain ⟨hcz9_0, hcz9_1, hfz9_0, hfz9_1⟩ := bx2_ BK357; obtain ⟨hcz10_0, hcz10_1, hfz10_0, hfz10_1⟩ := bx2_ BK358) | ((with_reducible refine gate_callee (f := 40) rfl ?_); refine goesL_ (some 14) rfl rfl Try.func40 (by kernel_rfl) rfl #[.slice A0_1 l0_1.length c0_1, .slice A1_1 l1_1.length c1_1] rfl gl_ ?_; (with_reducible refine (laws_eqAcctS.calls k _ _ l0_1 _ _ l1_1 true _ ?side1 ?side2 ?side3 ?side4 A4.out).mono ?_); (case side1 => exact ca_ (Kd.C_below HR0_1.out HB.out)); (case side2 => exact HC0_1.out); (case side3 => exact ca_ (Kd.C_below HR1_1.out HB.out)); (case side4 => exact HC1_1.out); rintro e w11 ⟨rfl, hb⟩; refine ⟨_, rfl, ?_⟩; replace BK357 := Aside0.mk (blk_below (bk_ BK357) hb); replace BK358 := Aside0.mk (blk_below (bk_ BK358) hb); replace HB := Aside0.mk (below_step bl_ hb); (try clear hb); (try clear hb2); (try clear hk); (try clear hi)))
   go_ret
   exact ⟨sq_, bl_⟩
  ·replace c5 := Bool.eq_false_iff.mpr c5
   subst c5
   replace H := in_ H
   obtain rfl := Option.some.inj H
   go_enter Try.func28, Try.ntmps28
   go_wp2_with (first | ((with_reducible refine gate_dst (N := 2) rfl ?_); refine be_ (N := 2) (cs := #[.int .i64 a0_0, .slice A0_1 l0_1.length c0_1]) (t := 60) ?_; intro gb357 hg w12 hbox hb; have BK357 := Aside0.mk (hbox); have GW357 := gw_ (w := w) hg; have GE357 := gw_ (w := w) hg; replace HB := Aside0.mk (below_step bl_ hb); clear hb hbox hg) | ((with_reducible refine gate_dst (N := 3) rfl ?_); refine be_ (N := 3) (cs := #[.int .i64 a1_0, .slice A1_1 l1_1.length c1_1]) (t := 60) ?_; intro gb358 hg w13 hbox hb; have BK358 := Aside0.mk (hbox); have GW358 := gw_ (w := w) hg; have GE358 := gw_ (w := w) hg; replace HB := Aside0.mk (below_step bl_ hb); have NB357_358 := Aside0.mk ((by rw [hg]; exact Nat.ne_of_lt (blk_lt (bk_ BK357)) : gb357 ≠ gb358)); have NB358_357 := Aside0.mk ((by rw [hg]; exact Nat.ne_of_gt (blk_lt (bk_ BK357)) : gb358 ≠ gb357)); replace BK357 := Aside0.mk (blk_below (bk_ BK357) hb); clear hb hbox hg; have hnb14 := NB357_358.out; have hnc14 := NB358_357.out; obtain ⟨hcz15_0, hcz15_1, hfz15_0, hfz15_1⟩ := bx2_ BK357; obtain ⟨hcz16_0, hcz16_1, hfz16_0, hfz16_1⟩ := bx2_ BK358) | ((with_reducible refine gate_callee (f := 40) rfl ?_); refine goesL_ (some 14) rfl rfl Try.func40 (by kernel_rfl) rfl #[.slice A0_1 l0_1.length c0_1, .slice A1_1 l1_1.length c1_1] rfl gl_ ?_; (with_reducible refine (laws_eqAcctS.calls k _ _ l0_1 _ _ l1_1 false _ ?side1 ?side2 ?side3 ?side4 A4.out).mono ?_); (case side1 => exact ca_ (Kd.C_below HR0_1.out HB.out)); (case side2 => exact HC0_1.out); (case side3 => exact ca_ (Kd.C_below HR1_1.out HB.out)); (case side4 => exact HC1_1.out); rintro e w17 ⟨rfl, hb⟩; refine ⟨_, rfl, ?_⟩; replace BK357 := Aside0.mk (blk_below (bk_ BK357) hb); replace BK358 := Aside0.mk (blk_below (bk_ BK358) hb); replace HB := Aside0.mk (below_step bl_ hb); (try clear hb); (try clear hb2); (try clear hk); (try clear hi)))
   go_ret
   exact ⟨sq_, bl_⟩
 ·rw [if_neg c3] at H
  have c3b0 : (a0_0 == a1_0) = false := beq_eq_false_iff_ne.mpr c3
  have c3b1 : (a0_0 != a1_0) = true := bne_iff_ne.mpr c3
  obtain rfl := Option.some.inj H
  go_enter Try.func28, Try.ntmps28
  go_wp2_with (first | ((with_reducible refine gate_dst (N := 2) rfl ?_); refine be_ (N := 2) (cs := #[.int .i64 a0_0, .slice A0_1 l0_1.length c0_1]) (t := 60) ?_; intro gb357 hg w18 hbox hb; have BK357 := Aside0.mk (hbox); have GW357 := gw_ (w := w) hg; have GE357 := gw_ (w := w) hg; replace HB := Aside0.mk (below_step bl_ hb); clear hb hbox hg) | ((with_reducible refine gate_dst (N := 3) rfl ?_); refine be_ (N := 3) (cs := #[.int .i64 a1_0, .slice A1_1 l1_1.length c1_1]) (t := 60) ?_; intro gb358 hg w19 hbox hb; have BK358 := Aside0.mk (hbox); have GW358 := gw_ (w := w) hg; have GE358 := gw_ (w := w) hg; replace HB := Aside0.mk (below_step bl_ hb); have NB357_358 := Aside0.mk ((by rw [hg]; exact Nat.ne_of_lt (blk_lt (bk_ BK357)) : gb357 ≠ gb358)); have NB358_357 := Aside0.mk ((by rw [hg]; exact Nat.ne_of_gt (blk_lt (bk_ BK357)) : gb358 ≠ gb357)); replace BK357 := Aside0.mk (blk_below (bk_ BK357) hb); clear hb hbox hg; have hnb20 := NB357_358.out; have hnc20 := NB358_357.out; obtain ⟨hcz21_0, hcz21_1, hfz21_0, hfz21_1⟩ := bx2_ BK357; obtain ⟨hcz22_0, hcz22_1, hfz22_0, hfz22_1⟩ := bx2_ BK358))
  go_ret
  exact ⟨sq_, bl_⟩
end Go.Proofs.Ytbjpfknmkpnhjaa.QFnExactOrderOf
