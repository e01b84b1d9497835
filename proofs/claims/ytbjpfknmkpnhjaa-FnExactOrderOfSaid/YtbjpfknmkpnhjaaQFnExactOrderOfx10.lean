-- by my own printer (myprint.py, over the kit's print.py)
import Derived.Test.YtbjpfknmkpnhjaaQFnExactOrderOfx0
import Derived.Test.YtbjpfknmkpnhjaaQFnExactOrderOfx9
namespace Go.Proofs.Ytbjpfknmkpnhjaa.QFnExactOrderOf
open Go.RowKit Go.Proofs.YtbjpfknmkpnhjaaW.PrintWords Go.Proofs.YtbjpfknmkpnhjaaW.PrintLast Go.Proofs.YtbjpfknmkpnhjaaW.PrintMore
attribute [local go_sem] max2_int min2_int max_two min_two max_three min_three max_four min_four   -- for this text's walks alone
set_option linter.unusedVariables false
set_option linter.unusedSimpArgs false
attribute [local go_sem] my_geq my_leq my_gtr
abbrev tb10_0_10 : Array Bool := #[b0, b0, b0, b0, b0, b0, b0, b0, b0, b0]
abbrev tb10_1_10 : Array Bool := #[b1, b0, b0, b0, b0, b0, b0, b0, b0, b0]
abbrev tb10_17_10 : Array Bool := #[b1, b1, b1, b0, b1, b0, b0, b0, b0, b0]
abbrev tb10_1ff_10 : Array Bool := #[b1, b1, b1, b1, b1, b1, b1, b1, b1, b0]
abbrev tb10_3_10 : Array Bool := #[b1, b1, b0, b0, b0, b0, b0, b0, b0, b0]
abbrev tb10_37_10 : Array Bool := #[b1, b1, b1, b0, b1, b1, b0, b0, b0, b0]
abbrev tb10_3ff_10 : Array Bool := #[b1, b1, b1, b1, b1, b1, b1, b1, b1, b1]
abbrev tb10_7_10 : Array Bool := #[b1, b1, b1, b0, b0, b0, b0, b0, b0, b0]
abbrev tb10_77_10 : Array Bool := #[b1, b1, b1, b0, b1, b1, b1, b0, b0, b0]
abbrev tb10_7f_10 : Array Bool := #[b1, b1, b1, b1, b1, b1, b1, b0, b0, b0]
abbrev tb10_ff_10 : Array Bool := #[b1, b1, b1, b1, b1, b1, b1, b1, b0, b0]
/-! ### laws_eqTaskS: function 20 -/
def laws_eqTaskS.l0 : Nat → List (S43) → List (S43) → Int → Option (Bool)
 | 0, _, _, _ => none
 | k + 1, x0, x1, x5 => if x5 < (x0.length : Int) then (if 0 ≤ x5 then (if x5 < (x1.length : Int) then ((laws_eqTask.f k ((rd_T43 x0 x5).f0) ((rd_T43 x0 x5).f1) ((rd_T43 x0 x5).f2) ((rd_T43 x0 x5).f3) ((rd_T43 x0 x5).f4) ((rd_T43 x0 x5).f5) ((rd_T43 x0 x5).f6) ((rd_T43 x0 x5).f7) ((rd_T43 x0 x5).f8) ((rd_T43 x1 x5).f0) ((rd_T43 x1 x5).f1) ((rd_T43 x1 x5).f2) ((rd_T43 x1 x5).f3) ((rd_T43 x1 x5).f4) ((rd_T43 x1 x5).f5) ((rd_T43 x1 x5).f6) ((rd_T43 x1 x5).f7) ((rd_T43 x1 x5).f8)).bind fun t370 => (if t370 = true then (laws_eqTaskS.l0 k x0 x1 (wrap64 (x5 + 1))) else (some false))) else (none)) else (none)) else (some true)
def laws_eqTaskS.f (k : Nat) (l0 : List (S43)) (l1 : List (S43)) : Option (Bool) := if (l0.length : Int) = (l1.length : Int) then (laws_eqTaskS.l0 k l0 l1 0) else (some false)
def laws_eqTaskS.T6 : Bool × List (List Nat × List Nat) := (true, [([], []), ([], []), ([0, 1], [0, 1]), ([2], [2]), ([], []), ([], []), ([4, 5], [4, 5]), ([6], [6]), ([3, 7], [3, 7]), ([8], [8])])
def laws_eqTaskS.B6 : List Nat := [0, 0, 3, 7, 0, 0, 48, 112, 255, 511]
theorem laws_eqTaskS.tab6 : rtab .any (opsOf Try.f20 6) = laws_eqTaskS.T6 := by kernel_rfl
theorem laws_eqTaskS.bits6 : waitsOk laws_eqTaskS.T6.2 laws_eqTaskS.B6 = true := by kernel_rfl
set_option maxHeartbeats 8000000 in
set_option maxRecDepth 100000 in
theorem laws_eqTaskS.calls (k : Nat) (A0 : Option Addr) (c0 : Nat) (l0 : List (S43)) (A1 : Option Addr) (c1 : Nat) (l1 : List (S43)) (r : Bool) (w : World) (hr0 : Kd.C k43 w A0 l0.length l0) (hc0 : l0.length ≤ c0) (hr1 : Kd.C k43 w A1 l1.length l1) (hc1 : l1.length ≤ c1) (h : laws_eqTaskS.f k l0 l1 = some r) :
  Calls Try.prog 20 #[.slice A0 l0.length c0, .slice A1 l1.length c1] w fun e w' => e = .returned (.bool r) ∧ Below w.heap.size w w' := by
 have hu43 := Try.underlying43
 have HR0 := Aside0.mk hr0
 have HC0 := Aside0.mk hc0
 clear hr0 hc0
 have HR1 := Aside0.mk hr1
 have HC1 := Aside0.mk hc1
 clear hr1 hc1
 have HB := Aside0.mk (Below.refl w.heap.size w)
 have H : (if (l0.length : Int) = (l1.length : Int) then (laws_eqTaskS.l0 k l0 l1 0) else (some false)) = some r := h
 clear h
 by_cases c3 : (l0.length : Int) = (l1.length : Int)
 ·rw [if_pos c3] at H
  have c3b0 : ((l0.length : Int) == (l1.length : Int)) = true := beq_iff_eq.mpr c3
  have c3b1 : ((l0.length : Int) != (l1.length : Int)) = false := bne_eq_false_iff_eq.mpr c3
  have c3b2 : (l0.length == l1.length) = true := by first | simpa using c3 | (simp at c3 ⊢; omega)
  clear c3
  have H' := Aside0.mk H
  clear H
  go_enter Try.func20, Try.ntmps20
  go_wp2
  go_loopg [5] k (fun kq v5 w' => ∃ (x5_1 : Int), v5 = .int .i64 x5_1 ∧ Aside0 (laws_eqTaskS.l0 kq l0 l1 x5_1 = some r) ∧ Aside0 (kq ≤ k) ∧ Aside0 (Below w.heap.size w w'))
  case atStart => exact ⟨(0), sp_, H', ⟨Nat.le_refl _⟩, ⟨bl_⟩⟩
  case round =>
   clear H'
   try clear c1
   try clear c2
   try clear p2
   try clear c3
   try clear c3b0
   try clear c3b1
   try clear c3b2
   obtain ⟨x5_1, rfl, HA, HK1, HB⟩ := hrel
   cases gk with
   | zero => exact absurd HA.out (by simp [laws_eqTaskS.l0])
   | succ k1 =>
    have H := HA.out
    clear HA
    simp only [laws_eqTaskS.l0] at H
    by_cases c4 : x5_1 < (l0.length : Int)
    ·rw [if_pos c4] at H
     have c4b0 : decide (x5_1 < (l0.length : Int)) = true := decide_eq_true c4
     clear c4
     by_cases c5 : 0 ≤ x5_1
     ·rw [if_pos c5] at H
      have c5b0 : decide (0 ≤ x5_1) = true := decide_eq_true c5
      clear c5
      by_cases c6 : x5_1 < (l1.length : Int)
      ·rw [if_pos c6] at H
       have c6b0 : decide (x5_1 < (l1.length : Int)) = true := decide_eq_true c6
       clear c6
       obtain ⟨t370, A7, H⟩ := ob_ H
       by_cases c8 : t370 = true
       ·subst c8
        replace H := ip_ H
        have H' := Aside0.mk H
        clear H
        try go_wp2
        have n0_ := Aside0.mk (below_drew1 HB.out)
        clear HB
        have HB := n0_
        clear n0_
        have p368 : 0 ≤ (x5_1 : Int) := od_
        have q368 : x5_1 < (l0.length : Int) := od_
        obtain ⟨ad368, A368_0, c368_0, A368_2, c368_2, A368_8, c368_8, e368, hx368_0, hx368_1, hx368_2, hx368_3, hx368_4, hx368_5, hx368_6, hx368_7, hx368_8, hl368_0, hi368_0, hl368_2, hi368_2, hl368_8, hi368_8⟩ := at_T43 HR0.out x5_1 p368 q368
        have hw368_8 := hx368_8
        have hw368_7 := hx368_7
        have hw368_6 := hx368_6
        have hw368_5 := hx368_5
        have hw368_4 := hx368_4
        have hw368_3 := hx368_3
        have hw368_2 := hx368_2
        have hw368_1 := hx368_1
        have hw368_0 := hx368_0
        cases e368
        replace hx368_0 := kc_ HB hx368_0
        replace hx368_1 := kc_ HB hx368_1
        replace hx368_2 := kc_ HB hx368_2
        replace hx368_3 := kc_ HB hx368_3
        replace hx368_4 := kc_ HB hx368_4
        replace hx368_5 := kc_ HB hx368_5
        replace hx368_6 := kc_ HB hx368_6
        replace hx368_7 := kc_ HB hx368_7
        replace hx368_8 := kc_ HB hx368_8
        have HR368_0 := Aside0.mk hi368_0
        have HC368_0 := Aside0.mk hl368_0
        clear hi368_0 hl368_0
        have HR368_2 := Aside0.mk hi368_2
        have HC368_2 := Aside0.mk hl368_2
        clear hi368_2 hl368_2
        have HR368_8 := Aside0.mk hi368_8
        have HC368_8 := Aside0.mk hl368_8
        clear hi368_8 hl368_8
        replace p368 := eq_true p368
        replace q368 := eq_true q368
        have p369 : 0 ≤ (x5_1 : Int) := od_
        have q369 : x5_1 < (l1.length : Int) := od_
        obtain ⟨ad369, A369_0, c369_0, A369_2, c369_2, A369_8, c369_8, e369, hx369_0, hx369_1, hx369_2, hx369_3, hx369_4, hx369_5, hx369_6, hx369_7, hx369_8, hl369_0, hi369_0, hl369_2, hi369_2, hl369_8, hi369_8⟩ := at_T43 HR1.out x5_1 p369 q369
        have hw369_8 := hx369_8
        have hw369_7 := hx369_7
        have hw369_6 := hx369_6
        have hw369_5 := hx369_5
        have hw369_4 := hx369_4
        have hw369_3 := hx369_3
        have hw369_2 := hx369_2
        have hw369_1 := hx369_1
        have hw369_0 := hx369_0
        cases e369
        replace hx369_0 := kc_ HB hx369_0
        replace hx369_1 := kc_ HB hx369_1
        replace hx369_2 := kc_ HB hx369_2
        replace hx369_3 := kc_ HB hx369_3
        replace hx369_4 := kc_ HB hx369_4
        replace hx369_5 := kc_ HB hx369_5
        replace hx369_6 := kc_ HB hx369_6
        replace hx369_7 := kc_ HB hx369_7
        replace hx369_8 := kc_ HB hx369_8
        have HR369_0 := Aside0.mk hi369_0
        have HC369_0 := Aside0.mk hl369_0
        clear hi369_0 hl369_0
        have HR369_2 := Aside0.mk hi369_2
        have HC369_2 := Aside0.mk hl369_2
        clear hi369_2 hl369_2
        have HR369_8 := Aside0.mk hi369_8
        have HC369_8 := Aside0.mk hl369_8
        clear hi369_8 hl369_8
        replace p369 := eq_true p369
        replace q369 := eq_true q369
        refine start_ (n := 10) (S := fun w' => w'.cell? (ad368.add ((x5_1).toNat * 9)) = some (.slice A368_0 ((rd_T43 l0 x5_1).f0).length c368_0) ∧ w'.cell? ⟨(ad368.add ((x5_1).toNat * 9)).block, (ad368.add ((x5_1).toNat * 9)).off + 1, none⟩ = some (.int .i64 ((rd_T43 l0 x5_1).f1)) ∧ w'.cell? ⟨(ad368.add ((x5_1).toNat * 9)).block, (ad368.add ((x5_1).toNat * 9)).off + 2, none⟩ = some (.slice A368_2 ((rd_T43 l0 x5_1).f2).length c368_2) ∧ w'.cell? ⟨(ad368.add ((x5_1).toNat * 9)).block, (ad368.add ((x5_1).toNat * 9)).off + 3, none⟩ = some (.int .i64 ((rd_T43 l0 x5_1).f3)) ∧ w'.cell? ⟨(ad368.add ((x5_1).toNat * 9)).block, (ad368.add ((x5_1).toNat * 9)).off + 4, none⟩ = some (.int .i64 ((rd_T43 l0 x5_1).f4)) ∧ w'.cell? ⟨(ad368.add ((x5_1).toNat * 9)).block, (ad368.add ((x5_1).toNat * 9)).off + 5, none⟩ = some (.int .i64 ((rd_T43 l0 x5_1).f5)) ∧ w'.cell? ⟨(ad368.add ((x5_1).toNat * 9)).block, (ad368.add ((x5_1).toNat * 9)).off + 6, none⟩ = some (.int .i64 ((rd_T43 l0 x5_1).f6)) ∧ w'.cell? ⟨(ad368.add ((x5_1).toNat * 9)).block, (ad368.add ((x5_1).toNat * 9)).off + 7, none⟩ = some (.int .i64 ((rd_T43 l0 x5_1).f7)) ∧ w'.cell? ⟨(ad368.add ((x5_1).toNat * 9)).block, (ad368.add ((x5_1).toNat * 9)).off + 8, none⟩ = some (.slice A368_8 ((rd_T43 l0 x5_1).f8).length c368_8) ∧ w'.cell? (ad369.add ((x5_1).toNat * 9)) = some (.slice A369_0 ((rd_T43 l1 x5_1).f0).length c369_0) ∧ w'.cell? ⟨(ad369.add ((x5_1).toNat * 9)).block, (ad369.add ((x5_1).toNat * 9)).off + 1, none⟩ = some (.int .i64 ((rd_T43 l1 x5_1).f1)) ∧ w'.cell? ⟨(ad369.add ((x5_1).toNat * 9)).block, (ad369.add ((x5_1).toNat * 9)).off + 2, none⟩ = some (.slice A369_2 ((rd_T43 l1 x5_1).f2).length c369_2) ∧ w'.cell? ⟨(ad369.add ((x5_1).toNat * 9)).block, (ad369.add ((x5_1).toNat * 9)).off + 3, none⟩ = some (.int .i64 ((rd_T43 l1 x5_1).f3)) ∧ w'.cell? ⟨(ad369.add ((x5_1).toNat * 9)).block, (ad369.add ((x5_1).toNat * 9)).off + 4, none⟩ = some (.int .i64 ((rd_T43 l1 x5_1).f4)) ∧ w'.cell? ⟨(ad369.add ((x5_1).toNat * 9)).block, (ad369.add ((x5_1).toNat * 9)).off + 5, none⟩ = some (.int .i64 ((rd_T43 l1 x5_1).f5)) ∧ w'.cell? ⟨(ad369.add ((x5_1).toNat * 9)).block, (ad369.add ((x5_1).toNat * 9)).off + 6, none⟩ = some (.int .i64 ((rd_T43 l1 x5_1).f6)) ∧ w'.cell? ⟨(ad369.add ((x5_1).toNat * 9)).block, (ad369.add ((x5_1).toNat * 9)).off + 7, none⟩ = some (.int .i64 ((rd_T43 l1 x5_1).f7)) ∧ w'.cell? ⟨(ad369.add ((x5_1).toNat * 9)).block, (ad369.add ((x5_1).toNat * 9)).off + 8, none⟩ = some (.slice A369_8 ((rd_T43 l1 x5_1).f8).length c369_8)) (ds := []) tb10_0_10 (by kernel_rfl) rfl rfl ⟨(kc_ HB hw368_0), (kc_ HB hw368_1), (kc_ HB hw368_2), (kc_ HB hw368_3), (kc_ HB hw368_4), (kc_ HB hw368_5), (kc_ HB hw368_6), (kc_ HB hw368_7), (kc_ HB hw368_8), (kc_ HB hw369_0), (kc_ HB hw369_1), (kc_ HB hw369_2), (kc_ HB hw369_3), (kc_ HB hw369_4), (kc_ HB hw369_5), (kc_ HB hw369_6), (kc_ HB hw369_7), (kc_ HB hw369_8)⟩ (fun hHeld => ?_); refine with_tabW laws_eqTaskS.tab6 laws_eqTaskS.bits6 (fun HT_ HW_ => ?_)
        generalize wr.drew = w9 at HB HR368_0 HR368_2 HR368_8 HR369_0 HR369_2 HR369_8 hx368_0 hx368_1 hx368_2 hx368_3 hx368_4 hx368_5 hx368_6 hx368_7 hx368_8 hx369_0 hx369_1 hx369_2 hx369_3 hx369_4 hx369_5 hx369_6 hx369_7 hx369_8 hHeld ⊢
        refine pl_ HT_ 0 17 tb10_1_10 ?_
        refine pl_ HT_ 1 18 tb10_3_10 ?_
        refine pl_ HT_ 2 19 tb10_7_10 ?_
        refine pl_ HT_ 4 21 tb10_17_10 ?_
        refine pl_ HT_ 5 22 tb10_37_10 ?_
        refine pl_ HT_ 6 23 tb10_77_10 ?_
        refine take_ (i := 3) (N := some 20) (v := ?_) (a' := ?_) tb10_7f_10 rfl rfl (take_ofW HT_.out HW_.out (by kernel_rfl)) (fun _ _ _ h => h) (Or.inl ⟨by rfl, ?_⟩) hHeld ?_ ?_
        rotate_left
        ·rintro w' ⟨s0, s1, s2, s3, s4, s5, s6, s7, s8, s9, s10, s11, s12, s13, s14, s15, s16, s17⟩
         go_simp
         with_reducible rfl
        rotate_left
        ·simp only [Act.put, q_]
         rfl
        refine take_ (i := 7) (N := some 24) (v := ?_) (a' := ?_) tb10_ff_10 rfl rfl (take_ofW HT_.out HW_.out (by kernel_rfl)) (fun _ _ _ h => h) (Or.inl ⟨by rfl, ?_⟩) hHeld ?_ ?_
        rotate_left
        ·rintro w' ⟨s0, s1, s2, s3, s4, s5, s6, s7, s8, s9, s10, s11, s12, s13, s14, s15, s16, s17⟩
         go_simp
         with_reducible rfl
        rotate_left
        ·simp only [Act.put, q_]
         rfl
        refine one_ (i := 8) (N := some 25) tb10_1ff_10 rfl rfl (one_of HT_.out (by kernel_rfl)) (by decide) (fun K hK => ?_)
        refine goes_ Try.func29 (by kernel_rfl) rfl #[.agg #[.slice A368_0 ((rd_T43 l0 x5_1).f0).length c368_0, .int .i64 ((rd_T43 l0 x5_1).f1), .slice A368_2 ((rd_T43 l0 x5_1).f2).length c368_2, .int .i64 ((rd_T43 l0 x5_1).f3), .int .i64 ((rd_T43 l0 x5_1).f4), .int .i64 ((rd_T43 l0 x5_1).f5), .int .i64 ((rd_T43 l0 x5_1).f6), .int .i64 ((rd_T43 l0 x5_1).f7), .slice A368_8 ((rd_T43 l0 x5_1).f8).length c368_8], .agg #[.slice A369_0 ((rd_T43 l1 x5_1).f0).length c369_0, .int .i64 ((rd_T43 l1 x5_1).f1), .slice A369_2 ((rd_T43 l1 x5_1).f2).length c369_2, .int .i64 ((rd_T43 l1 x5_1).f3), .int .i64 ((rd_T43 l1 x5_1).f4), .int .i64 ((rd_T43 l1 x5_1).f5), .int .i64 ((rd_T43 l1 x5_1).f6), .int .i64 ((rd_T43 l1 x5_1).f7), .slice A369_8 ((rd_T43 l1 x5_1).f8).length c369_8]] (by rfl) rfl rfl gl_ ?_
        with_reducible refine (laws_eqTask.calls k1 _ _ ((rd_T43 l0 x5_1).f0) ((rd_T43 l0 x5_1).f1) _ _ ((rd_T43 l0 x5_1).f2) ((rd_T43 l0 x5_1).f3) ((rd_T43 l0 x5_1).f4) ((rd_T43 l0 x5_1).f5) ((rd_T43 l0 x5_1).f6) ((rd_T43 l0 x5_1).f7) _ _ ((rd_T43 l0 x5_1).f8) _ _ ((rd_T43 l1 x5_1).f0) ((rd_T43 l1 x5_1).f1) _ _ ((rd_T43 l1 x5_1).f2) ((rd_T43 l1 x5_1).f3) ((rd_T43 l1 x5_1).f4) ((rd_T43 l1 x5_1).f5) ((rd_T43 l1 x5_1).f6) ((rd_T43 l1 x5_1).f7) _ _ ((rd_T43 l1 x5_1).f8) true _ ?side1 ?side2 ?side3 ?side4 ?side5 ?side6 ?side7 ?side8 ?side9 ?side10 ?side11 ?side12 A7.out).mono ?_
        (case side1 => exact ca_ (Kd.C_below HR368_0.out HB.out))
        (case side2 => exact HC368_0.out)
        (case side3 => exact ca_ (Kd.C_below HR368_2.out HB.out))
        (case side4 => exact HC368_2.out)
        (case side5 => exact ca_ (Kd.C_below HR368_8.out HB.out))
        (case side6 => exact HC368_8.out)
        (case side7 => exact ca_ (Kd.C_below HR369_0.out HB.out))
        (case side8 => exact HC369_0.out)
        (case side9 => exact ca_ (Kd.C_below HR369_2.out HB.out))
        (case side10 => exact HC369_2.out)
        (case side11 => exact ca_ (Kd.C_below HR369_8.out HB.out))
        (case side12 => exact HC369_8.out)
        rintro e w10 ⟨rfl, hb⟩
        refine ⟨_, rfl, ?_⟩
        have n0_ := Aside0.mk (below_step bl_ hb)
        clear HB
        have HB := n0_
        clear n0_
        (try clear hb)
        (try clear hb2)
        (try clear hk)
        (try clear hi)
        refine hK.out _ _ ⟨(kc_ HB hw368_0), (kc_ HB hw368_1), (kc_ HB hw368_2), (kc_ HB hw368_3), (kc_ HB hw368_4), (kc_ HB hw368_5), (kc_ HB hw368_6), (kc_ HB hw368_7), (kc_ HB hw368_8), (kc_ HB hw369_0), (kc_ HB hw369_1), (kc_ HB hw369_2), (kc_ HB hw369_3), (kc_ HB hw369_4), (kc_ HB hw369_5), (kc_ HB hw369_6), (kc_ HB hw369_7), (kc_ HB hw369_8)⟩ (fun hHeld => ?_)
        clear hK K
        refine norm_ (a' := ?_) ?_ ?_
        rotate_left
        ·show Act.put _ (some 25) _ = _
         simp only [Act.put, q_]
         rfl
        refine pl_ HT_ 9 26 tb10_3ff_10 ?_
        refine done_ (done_of HT_.out (by kernel_rfl)) ?_
        try go_wp2
        go_roundg k1
        case measure => have := HK1.out; omega
        case rel => exact ⟨(wrap64 (x5_1 + 1)), sp_, H', ⟨by have := HK1.out; omega⟩, ⟨bl_⟩⟩
       ·replace c8 := Bool.eq_false_iff.mpr c8
        subst c8
        replace H := in_ H
        obtain rfl := Option.some.inj H
        try go_wp2
        have n0_ := Aside0.mk (below_drew1 HB.out)
        clear HB
        have HB := n0_
        clear n0_
        have p368 : 0 ≤ (x5_1 : Int) := od_
        have q368 : x5_1 < (l0.length : Int) := od_
        obtain ⟨ad368, A368_0, c368_0, A368_2, c368_2, A368_8, c368_8, e368, hx368_0, hx368_1, hx368_2, hx368_3, hx368_4, hx368_5, hx368_6, hx368_7, hx368_8, hl368_0, hi368_0, hl368_2, hi368_2, hl368_8, hi368_8⟩ := at_T43 HR0.out x5_1 p368 q368
        have hw368_8 := hx368_8
        have hw368_7 := hx368_7
        have hw368_6 := hx368_6
        have hw368_5 := hx368_5
        have hw368_4 := hx368_4
        have hw368_3 := hx368_3
        have hw368_2 := hx368_2
        have hw368_1 := hx368_1
        have hw368_0 := hx368_0
        cases e368
        replace hx368_0 := kc_ HB hx368_0
        replace hx368_1 := kc_ HB hx368_1
        replace hx368_2 := kc_ HB hx368_2
        replace hx368_3 := kc_ HB hx368_3
        replace hx368_4 := kc_ HB hx368_4
        replace hx368_5 := kc_ HB hx368_5
        replace hx368_6 := kc_ HB hx368_6
        replace hx368_7 := kc_ HB hx368_7
        replace hx368_8 := kc_ HB hx368_8
        have HR368_0 := Aside0.mk hi368_0
        have HC368_0 := Aside0.mk hl368_0
        clear hi368_0 hl368_0
        have HR368_2 := Aside0.mk hi368_2
        have HC368_2 := Aside0.mk hl368_2
        clear hi368_2 hl368_2
        have HR368_8 := Aside0.mk hi368_8
        have HC368_8 := Aside0.mk hl368_8
        clear hi368_8 hl368_8
        replace p368 := eq_true p368
        replace q368 := eq_true q368
        have p369 : 0 ≤ (x5_1 : Int) := od_
        have q369 : x5_1 < (l1.length : Int) := od_
        obtain ⟨ad369, A369_0, c369_0, A369_2, c369_2, A369_8, c369_8, e369, hx369_0, hx369_1, hx369_2, hx369_3, hx369_4, hx369_5, hx369_6, hx369_7, hx369_8, hl369_0, hi369_0, hl369_2, hi369_2, hl369_8, hi369_8⟩ := at_T43 HR1.out x5_1 p369 q369
        have hw369_8 := hx369_8
        have hw369_7 := hx369_7
        have hw369_6 := hx369_6
        have hw369_5 := hx369_5
        have hw369_4 := hx369_4
        have hw369_3 := hx369_3
        have hw369_2 := hx369_2
        have hw369_1 := hx369_1
        have hw369_0 := hx369_0
        cases e369
        replace hx369_0 := kc_ HB hx369_0
        replace hx369_1 := kc_ HB hx369_1
        replace hx369_2 := kc_ HB hx369_2
        replace hx369_3 := kc_ HB hx369_3
        replace hx369_4 := kc_ HB hx369_4
        replace hx369_5 := kc_ HB hx369_5
        replace hx369_6 := kc_ HB hx369_6
        replace hx369_7 := kc_ HB hx369_7
        replace hx369_8 := kc_ HB hx369_8
        have HR369_0 := Aside0.mk hi369_0
        have HC369_0 := Aside0.mk hl369_0
        clear hi369_0 hl369_0
        have HR369_2 := Aside0.mk hi369_2
        have HC369_2 := Aside0.mk hl369_2
        clear hi369_2 hl369_2
        have HR369_8 := Aside0.mk hi369_8
        have HC369_8 := Aside0.mk hl369_8
        clear hi369_8 hl369_8
        replace p369 := eq_true p369
        replace q369 := eq_true q369
        refine start_ (n := 10) (S := fun w' => w'.cell? (ad368.add ((x5_1).toNat * 9)) = some (.slice A368_0 ((rd_T43 l0 x5_1).f0).length c368_0) ∧ w'.cell? ⟨(ad368.add ((x5_1).toNat * 9)).block, (ad368.add ((x5_1).toNat * 9)).off + 1, none⟩ = some (.int .i64 ((rd_T43 l0 x5_1).f1)) ∧ w'.cell? ⟨(ad368.add ((x5_1).toNat * 9)).block, (ad368.add ((x5_1).toNat * 9)).off + 2, none⟩ = some (.slice A368_2 ((rd_T43 l0 x5_1).f2).length c368_2) ∧ w'.cell? ⟨(ad368.add ((x5_1).toNat * 9)).block, (ad368.add ((x5_1).toNat * 9)).off + 3, none⟩ = some (.int .i64 ((rd_T43 l0 x5_1).f3)) ∧ w'.cell? ⟨(ad368.add ((x5_1).toNat * 9)).block, (ad368.add ((x5_1).toNat * 9)).off + 4, none⟩ = some (.int .i64 ((rd_T43 l0 x5_1).f4)) ∧ w'.cell? ⟨(ad368.add ((x5_1).toNat * 9)).block, (ad368.add ((x5_1).toNat * 9)).off + 5, none⟩ = some (.int .i64 ((rd_T43 l0 x5_1).f5)) ∧ w'.cell? ⟨(ad368.add ((x5_1).toNat * 9)).block, (ad368.add ((x5_1).toNat * 9)).off + 6, none⟩ = some (.int .i64 ((rd_T43 l0 x5_1).f6)) ∧ w'.cell? ⟨(ad368.add ((x5_1).toNat * 9)).block, (ad368.add ((x5_1).toNat * 9)).off + 7, none⟩ = some (.int .i64 ((rd_T43 l0 x5_1).f7)) ∧ w'.cell? ⟨(ad368.add ((x5_1).toNat * 9)).block, (ad368.add ((x5_1).toNat * 9)).off + 8, none⟩ = some (.slice A368_8 ((rd_T43 l0 x5_1).f8).length c368_8) ∧ w'.cell? (ad369.add ((x5_1).toNat * 9)) = some (.slice A369_0 ((rd_T43 l1 x5_1).f0).length c369_0) ∧ w'.cell? ⟨(ad369.add ((x5_1).toNat * 9)).block, (ad369.add ((x5_1).toNat * 9)).off + 1, none⟩ = some (.int .i64 ((rd_T43 l1 x5_1).f1)) ∧ w'.cell? ⟨(ad369.add ((x5_1).toNat * 9)).block, (ad369.add ((x5_1).toNat * 9)).off + 2, none⟩ = some (.slice A369_2 ((rd_T43 l1 x5_1).f2).length c369_2) ∧ w'.cell? ⟨(ad369.add ((x5_1).toNat * 9)).block, (ad369.add ((x5_1).toNat * 9)).off + 3, none⟩ = some (.int .i64 ((rd_T43 l1 x5_1).f3)) ∧ w'.cell? ⟨(ad369.add ((x5_1).toNat * 9)).block, (ad369.add ((x5_1).toNat * 9)).off + 4, none⟩ = some (.int .i64 ((rd_T43 l1 x5_1).f4)) ∧ w'.cell? ⟨(ad369.add ((x5_1).toNat * 9)).block, (ad369.add ((x5_1).toNat * 9)).off + 5, none⟩ = some (.int .i64 ((rd_T43 l1 x5_1).f5)) ∧ w'.cell? ⟨(ad369.add ((x5_1).toNat * 9)).block, (ad369.add ((x5_1).toNat * 9)).off + 6, none⟩ = some (.int .i64 ((rd_T43 l1 x5_1).f6)) ∧ w'.cell? ⟨(ad369.add ((x5_1).toNat * 9)).block, (ad369.add ((x5_1).toNat * 9)).off + 7, none⟩ = some (.int .i64 ((rd_T43 l1 x5_1).f7)) ∧ w'.cell? ⟨(ad369.add ((x5_1).toNat * 9)).block, (ad369.add ((x5_1).toNat * 9)).off + 8, none⟩ = some (.slice A369_8 ((rd_T43 l1 x5_1).f8).length c369_8)) (ds := []) tb10_0_10 (by kernel_rfl) rfl rfl ⟨(kc_ HB hw368_0), (kc_ HB hw368_1), (kc_ HB hw368_2), (kc_ HB hw368_3), (kc_ HB hw368_4), (kc_ HB hw368_5), (kc_ HB hw368_6), (kc_ HB hw368_7), (kc_ HB hw368_8), (kc_ HB hw369_0), (kc_ HB hw369_1), (kc_ HB hw369_2), (kc_ HB hw369_3), (kc_ HB hw369_4), (kc_ HB hw369_5), (kc_ HB hw369_6), (kc_ HB hw369_7), (kc_ HB hw369_8)⟩ (fun hHeld => ?_); refine with_tabW laws_eqTaskS.tab6 laws_eqTaskS.bits6 (fun HT_ HW_ => ?_)
        generalize wr.drew = w11 at HB HR368_0 HR368_2 HR368_8 HR369_0 HR369_2 HR369_8 hx368_0 hx368_1 hx368_2 hx368_3 hx368_4 hx368_5 hx368_6 hx368_7 hx368_8 hx369_0 hx369_1 hx369_2 hx369_3 hx369_4 hx369_5 hx369_6 hx369_7 hx369_8 hHeld ⊢
        refine pl_ HT_ 0 17 tb10_1_10 ?_
        refine pl_ HT_ 1 18 tb10_3_10 ?_
        refine pl_ HT_ 2 19 tb10_7_10 ?_
        refine pl_ HT_ 4 21 tb10_17_10 ?_
        refine pl_ HT_ 5 22 tb10_37_10 ?_
        refine pl_ HT_ 6 23 tb10_77_10 ?_
        refine take_ (i := 3) (N := some 20) (v := ?_) (a' := ?_) tb10_7f_10 rfl rfl (take_ofW HT_.out HW_.out (by kernel_rfl)) (fun _ _ _ h => h) (Or.inl ⟨by rfl, ?_⟩) hHeld ?_ ?_
        rotate_left
        ·rintro w' ⟨s0, s1, s2, s3, s4, s5, s6, s7, s8, s9, s10, s11, s12, s13, s14, s15, s16, s17⟩
         go_simp
         with_reducible rfl
        rotate_left
        ·simp only [Act.put, q_]
         rfl
        refine take_ (i := 7) (N := some 24) (v := ?_) (a' := ?_) tb10_ff_10 rfl rfl (take_ofW HT_.out HW_.out (by kernel_rfl)) (fun _ _ _ h => h) (Or.inl ⟨by rfl, ?_⟩) hHeld ?_ ?_
        rotate_left
        ·rintro w' ⟨s0, s1, s2, s3, s4, s5, s6, s7, s8, s9, s10, s11, s12, s13, s14, s15, s16, s17⟩
         go_simp
         with_reducible rfl
        rotate_left
        ·simp only [Act.put, q_]
         rfl
        refine one_ (i := 8) (N := some 25) tb10_1ff_10 rfl rfl (one_of HT_.out (by kernel_rfl)) (by decide) (fun K hK => ?_)
        refine goes_ Try.func29 (by kernel_rfl) rfl #[.agg #[.slice A368_0 ((rd_T43 l0 x5_1).f0).length c368_0, .int .i64 ((rd_T43 l0 x5_1).f1), .slice A368_2 ((rd_T43 l0 x5_1).f2).length c368_2, .int .i64 ((rd_T43 l0 x5_1).f3), .int .i64 ((rd_T43 l0 x5_1).f4), .int .i64 ((rd_T43 l0 x5_1).f5), .int .i64 ((rd_T43 l0 x5_1).f6), .int .i64 ((rd_T43 l0 x5_1).f7), .slice A368_8 ((rd_T43 l0 x5_1).f8).length c368_8], .agg #[.slice A369_0 ((rd_T43 l1 x5_1).f0).length c369_0, .int .i64 ((rd_T43 l1 x5_1).f1), .slice A369_2 ((rd_T43 l1 x5_1).f2).length c369_2, .int .i64 ((rd_T43 l1 x5_1).f3), .int .i64 ((rd_T43 l1 x5_1).f4), .int .i64 ((rd_T43 l1 x5_1).f5), .int .i64 ((rd_T43 l1 x5_1).f6), .int .i64 ((rd_T43 l1 x5_1).f7), .slice A369_8 ((rd_T43 l1 x5_1).f8).length c369_8]] (by rfl) rfl rfl gl_ ?_
        with_reducible refine (laws_eqTask.calls k1 _ _ ((rd_T43 l0 x5_1).f0) ((rd_T43 l0 x5_1).f1) _ _ ((rd_T43 l0 x5_1).f2) ((rd_T43 l0 x5_1).f3) ((rd_T43 l0 x5_1).f4) ((rd_T43 l0 x5_1).f5) ((rd_T43 l0 x5_1).f6) ((rd_T43 l0 x5_1).f7) _ _ ((rd_T43 l0 x5_1).f8) _ _ ((rd_T43 l1 x5_1).f0) ((rd_T43 l1 x5_1).f1) _ _ ((rd_T43 l1 x5_1).f2) ((rd_T43 l1 x5_1).f3) ((rd_T43 l1 x5_1).f4) ((rd_T43 l1 x5_1).f5) ((rd_T43 l1 x5_1).f6) ((rd_T43 l1 x5_1).f7) _ _ ((rd_T43 l1 x5_1).f8) false _ ?side1 ?side2 ?side3 ?side4 ?side5 ?side6 ?side7 ?side8 ?side9 ?side10 ?side11 ?side12 A7.out).mono ?_
        (case side1 => exact ca_ (Kd.C_below HR368_0.out HB.out))
        (case side2 => exact HC368_0.out)
        (case side3 => exact ca_ (Kd.C_below HR368_2.out HB.out))
        (case side4 => exact HC368_2.out)
        (case side5 => exact ca_ (Kd.C_below HR368_8.out HB.out))
        (case side6 => exact HC368_8.out)
        (case side7 => exact ca_ (Kd.C_below HR369_0.out HB.out))
        (case side8 => exact HC369_0.out)
        (case side9 => exact ca_ (Kd.C_below HR369_2.out HB.out))
        (case side10 => exact HC369_2.out)
        (case side11 => exact ca_ (Kd.C_below HR369_8.out HB.out))
        (case side12 => exact HC369_8.out)
        rintro e w12 ⟨rfl, hb⟩
        refine ⟨_, rfl, ?_⟩
        have n0_ := Aside0.mk (below_step bl_ hb)
        clear HB
        have HB := n0_
        clear n0_
        (try clear hb)
        (try clear hb2)
        (try clear hk)
        (try clear hi)
        refine hK.out _ _ ⟨(kc_ HB hw368_0), (kc_ HB hw368_1), (kc_ HB hw368_2), (kc_ HB hw368_3), (kc_ HB hw368_4), (kc_ HB hw368_5), (kc_ HB hw368_6), (kc_ HB hw368_7), (kc_ HB hw368_8), (kc_ HB hw369_0), (kc_ HB hw369_1), (kc_ HB hw369_2), (kc_ HB hw369_3), (kc_ HB hw369_4), (kc_ HB hw369_5), (kc_ HB hw369_6), (kc_ HB hw369_7), (kc_ HB hw369_8)⟩ (fun hHeld => ?_)
        clear hK K
        refine norm_ (a' := ?_) ?_ ?_
        rotate_left
        ·show Act.put _ (some 25) _ = _
         simp only [Act.put, q_]
         rfl
        refine pl_ HT_ 9 26 tb10_3ff_10 ?_
        refine done_ (done_of HT_.out (by kernel_rfl)) ?_
        try go_wp2
        go_ret
        exact ⟨sq_, bl_⟩
      ·rw [if_neg c6] at H
       exact absurd H (by simp)
     ·rw [if_neg c5] at H
      exact absurd H (by simp)
    ·rw [if_neg c4] at H
     have c4b0 : decide (x5_1 < (l0.length : Int)) = false := decide_eq_false c4
     clear c4
     obtain rfl := Option.some.inj H
     go_wp2
     go_ret
     exact ⟨sq_, bl_⟩
 ·rw [if_neg c3] at H
  have c3b0 : ((l0.length : Int) == (l1.length : Int)) = false := beq_eq_false_iff_ne.mpr c3
  have c3b1 : ((l0.length : Int) != (l1.length : Int)) = true := bne_iff_ne.mpr c3
  have c3b2 : (l0.length == l1.length) = false := by first | simpa using c3 | (simp at c3 ⊢; omega)
  obtain rfl := Option.some.inj H
  go_enter Try.func20, Try.ntmps20
  go_wp2
  go_ret
  exact ⟨sq_, bl_⟩
/-! ### laws_eqWorld: function 9 -/
def laws_eqWorld.f (k : Nat) (l0_0 : List (S60)) (a0_1 : Int) (a0_2 : Int) (l0_3 : List (S43)) (l1_0 : List (S60)) (a1_1 : Int) (a1_2 : Int) (l1_3 : List (S43)) : Option (Bool) := (laws_eqStripeS.f k l0_0 l1_0).bind fun t373 => (if t373 = true then (if a0_1 = a1_1 then (if a0_2 = a1_2 then ((laws_eqTaskS.f k l0_3 l1_3).bind fun t374 => (if t374 = true then (some true) else (some false))) else (some false)) else (some false)) else (some false))
set_option maxHeartbeats 8000000 in
set_option maxRecDepth 100000 in
theorem laws_eqWorld.calls (k : Nat) (A0_0 : Option Addr) (c0_0 : Nat) (l0_0 : List (S60)) (a0_1 : Int) (a0_2 : Int) (A0_3 : Option Addr) (c0_3 : Nat) (l0_3 : List (S43)) (A1_0 : Option Addr) (c1_0 : Nat) (l1_0 : List (S60)) (a1_1 : Int) (a1_2 : Int) (A1_3 : Option Addr) (c1_3 : Nat) (l1_3 : List (S43)) (r : Bool) (w : World) (hr0_0 : Kd.C k60 w A0_0 l0_0.length l0_0) (hc0_0 : l0_0.length ≤ c0_0) (hr0_3 : Kd.C k43 w A0_3 l0_3.length l0_3) (hc0_3 : l0_3.length ≤ c0_3) (hr1_0 : Kd.C k60 w A1_0 l1_0.length l1_0) (hc1_0 : l1_0.length ≤ c1_0) (hr1_3 : Kd.C k43 w A1_3 l1_3.length l1_3) (hc1_3 : l1_3.length ≤ c1_3) (h : laws_eqWorld.f k l0_0 a0_1 a0_2 l0_3 l1_0 a1_1 a1_2 l1_3 = some r) :
  Calls Try.prog 9 #[.agg #[.slice A0_0 l0_0.length c0_0, .int .i64 a0_1, .int .i64 a0_2, .slice A0_3 l0_3.length c0_3], .agg #[.slice A1_0 l1_0.length c1_0, .int .i64 a1_1, .int .i64 a1_2, .slice A1_3 l1_3.length c1_3]] w fun e w' => e = .returned (.bool r) ∧ Below w.heap.size w w' := by
 have hu32 := Try.underlying32
 have HR0_0 := Aside0.mk hr0_0
 have HC0_0 := Aside0.mk hc0_0
 clear hr0_0 hc0_0
 have HR0_3 := Aside0.mk hr0_3
 have HC0_3 := Aside0.mk hc0_3
 clear hr0_3 hc0_3
 have HR1_0 := Aside0.mk hr1_0
 have HC1_0 := Aside0.mk hc1_0
 clear hr1_0 hc1_0
 have HR1_3 := Aside0.mk hr1_3
 have HC1_3 := Aside0.mk hc1_3
 clear hr1_3 hc1_3
 have HB := Aside0.mk (Below.refl w.heap.size w)
 have H : ((laws_eqStripeS.f k l0_0 l1_0).bind fun t373 => (if t373 = true then (if a0_1 = a1_1 then (if a0_2 = a1_2 then ((laws_eqTaskS.f k l0_3 l1_3).bind fun t374 => (if t374 = true then (some true) else (some false))) else (some false)) else (some false)) else (some false))) = some r := h
 clear h
 obtain ⟨t373, A3, H⟩ := ob_ H
 by_cases c4 : t373 = true
 ·subst c4
  replace H := ip_ H
  by_cases c5 : a0_1 = a1_1
  ·rw [if_pos c5] at H
   have c5b0 : (a0_1 == a1_1) = true := beq_iff_eq.mpr c5
   have c5b1 : (a0_1 != a1_1) = false := bne_eq_false_iff_eq.mpr c5
   clear c5
   by_cases c6 : a0_2 = a1_2
   ·rw [if_pos c6] at H
    have c6b0 : (a0_2 == a1_2) = true := beq_iff_eq.mpr c6
    have c6b1 : (a0_2 != a1_2) = false := bne_eq_false_iff_eq.mpr c6
    clear c6
    obtain ⟨t374, A7, H⟩ := ob_ H
    by_cases c8 : t374 = true
    ·subst c8
     replace H := ip_ H
     obtain rfl := Option.some.inj H
     go_enter Try.func9, Try.ntmps9
     go_wp2_with (first | ((with_reducible refine gate_dst (N := 2) rfl ?_); refine be_ (N := 2) (cs := #[.slice A0_0 l0_0.length c0_0, .int .i64 a0_1, .int .i64 a0_2, .slice A0_3 l0_3.length c0_3]) (t := 32) ?_; intro gb371 hg w9 hbox hb; have BK371 := Aside0.mk (hbox); have GW371 := gw_ (w := w) hg; have GE371 := gw_ (w := w) hg; replace HB := Aside0.mk (below_step bl_ hb); clear hb hbox hg) | ((with_reducible refine gate_dst (N := 3) rfl ?_); refine be_ (N := 3) (cs := #[.slice A1_0 l1_0.length c1_0, .int .i64 a1_1, .int .i64 a1_2, .slice A1_3 l1_3.length c1_3]) (t := 32) ?_; intro gb372 hg w10 hbox hb; have BK372 := Aside0.mk (hbox); have GW372 := gw_ (w := w) hg; have GE372 := gw_ (w := w) hg; replace HB := Aside0.mk (below_step bl_ hb); have NB371_372 := Aside0.mk ((by rw [hg]; exact Nat.ne_of_lt (blk_lt (bk_ BK371)) : gb371 ≠ gb372)); have NB372_371 := Aside0.mk ((by rw [hg]; exact Nat.ne_of_gt (blk_lt (bk_ BK371)) : gb372 ≠ gb371)); replace BK371 := Aside0.mk (blk_below (bk_ BK371) hb); clear hb hbox hg; have hnb11 := NB371_372.out; have hnc11 := NB372_371.out; obtain ⟨hcz12_0, hcz12_1, hcz12_2, hcz12_3, hfz12_0, hfz12_1, hfz12_2, hfz12_3⟩ := bx4_ BK371; obtain ⟨hcz13_0, hcz13_1, hcz13_2, hcz13_3, hfz13_0, hfz13_1, hfz13_2, hfz13_3⟩ := bx4_ BK372) | ((with_reducible refine gate_callee (f := 19) rfl ?_); refine goesL_ (some 9) rfl rfl Try.func19 (by kernel_rfl) rfl #[.slice A0_0 l0_0.length c0_0, .slice A1_0 l1_0.length c1_0] rfl gl_ ?_; (with_reducible refine (laws_eqStripeS.calls k _ _ l0_0 _ _ l1_0 true _ ?side1 ?side2 ?side3 ?side4 A3.out).mono ?_); (case side1 => exact ca_ (Kd.C_below HR0_0.out HB.out)); (case side2 => exact HC0_0.out); (case side3 => exact ca_ (Kd.C_below HR1_0.out HB.out)); (case side4 => exact HC1_0.out); rintro e w14 ⟨rfl, hb⟩; refine ⟨_, rfl, ?_⟩; replace BK371 := Aside0.mk (blk_below (bk_ BK371) hb); replace BK372 := Aside0.mk (blk_below (bk_ BK372) hb); replace HB := Aside0.mk (below_step bl_ hb); (try clear hb); (try clear hb2); (try clear hk); (try clear hi); obtain ⟨hcz15_0, hcz15_1, hcz15_2, hcz15_3, hfz15_0, hfz15_1, hfz15_2, hfz15_3⟩ := bx4_ BK371; obtain ⟨hcz16_0, hcz16_1, hcz16_2, hcz16_3, hfz16_0, hfz16_1, hfz16_2, hfz16_3⟩ := bx4_ BK372) | ((with_reducible refine gate_callee (f := 20) rfl ?_); refine goesL_ (some 25) rfl rfl Try.func20 (by kernel_rfl) rfl #[.slice A0_3 l0_3.length c0_3, .slice A1_3 l1_3.length c1_3] rfl gl_ ?_; (with_reducible refine (laws_eqTaskS.calls k _ _ l0_3 _ _ l1_3 true _ ?side1 ?side2 ?side3 ?side4 A7.out).mono ?_); (case side1 => exact ca_ (Kd.C_below HR0_3.out HB.out)); (case side2 => exact HC0_3.out); (case side3 => exact ca_ (Kd.C_below HR1_3.out HB.out)); (case side4 => exact HC1_3.out); rintro e w17 ⟨rfl, hb⟩; refine ⟨_, rfl, ?_⟩; replace BK371 := Aside0.mk (blk_below (bk_ BK371) hb); replace BK372 := Aside0.mk (blk_below (bk_ BK372) hb); replace HB := Aside0.mk (below_step bl_ hb); (try clear hb); (try clear hb2); (try clear hk); (try clear hi)))
     go_ret
     exact ⟨sq_, bl_⟩
    ·replace c8 := Bool.eq_false_iff.mpr c8
     subst c8
     replace H := in_ H
     obtain rfl := Option.some.inj H
     go_enter Try.func9, Try.ntmps9
     go_wp2_with (first | ((with_reducible refine gate_dst (N := 2) rfl ?_); refine be_ (N := 2) (cs := #[.slice A0_0 l0_0.length c0_0, .int .i64 a0_1, .int .i64 a0_2, .slice A0_3 l0_3.length c0_3]) (t := 32) ?_; intro gb371 hg w18 hbox hb; have BK371 := Aside0.mk (hbox); have GW371 := gw_ (w := w) hg; have GE371 := gw_ (w := w) hg; replace HB := Aside0.mk (below_step bl_ hb); clear hb hbox hg) | ((with_reducible refine gate_dst (N := 3) rfl ?_); refine be_ (N := 3) (cs := #[.slice A1_0 l1_0.length c1_0, .int .i64 a1_1, .int .i64 a1_2, .slice A1_3 l1_3.length c1_3]) (t := 32) ?_; intro gb372 hg w19 hbox hb; have BK372 := Aside0.mk (hbox); have GW372 := gw_ (w := w) hg; have GE372 := gw_ (w := w) hg; replace HB := Aside0.mk (below_step bl_ hb); have NB371_372 := Aside0.mk ((by rw [hg]; exact Nat.ne_of_lt (blk_lt (bk_ BK371)) : gb371 ≠ gb372)); have NB372_371 := Aside0.mk ((by rw [hg]; exact Nat.ne_of_gt (blk_lt (bk_ BK371)) : gb372 ≠ gb371)); replace BK371 := Aside0.mk (blk_below (bk_ BK371) hb); clear hb hbox hg; have hnb20 := NB371_372.out; have hnc20 := NB372_371.out; obtain ⟨hcz21_0, hcz21_1, hcz21_2, hcz21_3, hfz21_0, hfz21_1, hfz21_2, hfz21_3⟩ := bx4_ BK371; obtain ⟨hcz22_0, hcz22_1, hcz22_2, hcz22_3, hfz22_0, hfz22_1, hfz22_2, hfz22_3⟩ := bx4_ BK372) | ((with_reducible refine gate_callee (f := 19) rfl ?_); refine goesL_ (some 9) rfl rfl Try.func19 (by kernel_rfl) rfl #[.slice A0_0 l0_0.length c0_0, .slice A1_0 l1_0.length c1_0] rfl gl_ ?_; (with_reducible refine (laws_eqStripeS.calls k _ _ l0_0 _ _ l1_0 true _ ?side1 ?side2 ?side3 ?side4 A3.out).mono ?_); (case side1 => exact ca_ (Kd.C_below HR0_0.out HB.out)); (case side2 => exact HC0_0.out); (case side3 => exact ca_ (Kd.C_below HR1_0.out HB.out)); (case side4 => exact HC1_0.out); rintro e w23 ⟨rfl, hb⟩; refine ⟨_, rfl, ?_⟩; replace BK371 := Aside0.mk (blk_below (bk_ BK371) hb); replace BK372 := Aside0.mk (blk_below (bk_ BK372) hb); replace HB := Aside0.mk (below_step bl_ hb); (try clear hb); (try clear hb2); (try clear hk); (try clear hi); obtain ⟨hcz24_0, hcz24_1, hcz24_2, hcz24_3, hfz24_0, hfz24_1, hfz24_2, hfz24_3⟩ := bx4_ BK371; obtain ⟨hcz25_0, hcz25_1, hcz25_2, hcz25_3, hfz25_0, hfz25_1, hfz25_2, hfz25_3⟩ := bx4_ BK372) | ((with_reducible refine gate_callee (f := 20) rfl ?_); refine goesL_ (some 25) rfl rfl Try.func20 (by kernel_rfl) rfl #[.slice A0_3 l0_3.length c0_3, .slice A1_3 l1_3.length c1_3] rfl gl_ ?_; (with_reducible refine (laws_eqTaskS.calls k _ _ l0_3 _ _ l1_3 false _ ?side1 ?side2 ?side3 ?side4 A7.out).mono ?_); (case side1 => exact ca_ (Kd.C_below HR0_3.out HB.out)); (case side2 => exact HC0_3.out); (case side3 => exact ca_ (Kd.C_below HR1_3.out HB.out)); (case side4 => exact HC1_3.out); rintro e w26 ⟨rfl, hb⟩; refine ⟨_, rfl, ?_⟩; replace BK371 := Aside0.mk (blk_below (bk_ BK371) hb); replace BK372 := Aside0.mk (blk_below (bk_ BK372) hb); replace HB := Aside0.mk (below_step bl_ hb); (try clear hb); (try clear hb2); (try clear hk); (try clear hi)))
     go_ret
     exact ⟨sq_, bl_⟩
   ·rw [if_neg c6] at H
    have c6b0 : (a0_2 == a1_2) = false := beq_eq_false_iff_ne.mpr c6
    have c6b1 : (a0_2 != a1_2) = true := bne_iff_ne.mpr c6
    obtain rfl := Option.some.inj H
    go_enter Try.func9, Try.ntmps9
    go_wp2_with (first | ((with_reducible refine gate_dst (N := 2) rfl ?_); refine be_ (N := 2) (cs := #[.slice A0_0 l0_0.length c0_0, .int .i64 a0_1, .int .i64 a0_2, .slice A0_3 l0_3.length c0_3]) (t := 32) ?_; intro gb371 hg w27 hbox hb; have BK371 := Aside0.mk (hbox); have GW371 := gw_ (w := w) hg; have GE371 := gw_ (w := w) hg; replace HB := Aside0.mk (below_step bl_ hb); clear hb hbox hg) | ((with_reducible refine gate_dst (N := 3) rfl ?_); refine be_ (N := 3) (cs := #[.slice A1_0 l1_0.length c1_0, .int .i64 a1_1, .int .i64 a1_2, .slice A1_3 l1_3.length c1_3]) (t := 32) ?_; intro gb372 hg w28 hbox hb; have BK372 := Aside0.mk (hbox); have GW372 := gw_ (w := w) hg; have GE372 := gw_ (w := w) hg; replace HB := Aside0.mk (below_step bl_ hb); have NB371_372 := Aside0.mk ((by rw [hg]; exact Nat.ne_of_lt (blk_lt (bk_ BK371)) : gb371 ≠ gb372)); have NB372_371 := Aside0.mk ((by rw [hg]; exact Nat.ne_of_gt (blk_lt (bk_ BK371)) : gb372 ≠ gb371)); replace BK371 := Aside0.mk (blk_below (bk_ BK371) hb); clear hb hbox hg; have hnb29 := NB371_372.out; have hnc29 := NB372_371.out; obtain ⟨hcz30_0, hcz30_1, hcz30_2, hcz30_3, hfz30_0, hfz30_1, hfz30_2, hfz30_3⟩ := bx4_ BK371; obtain ⟨hcz31_0, hcz31_1, hcz31_2, hcz31_3, hfz31_0, hfz31_1, hfz31_2, hfz31_3⟩ := bx4_ BK372) | ((with_reducible refine gate_callee (f := 19) rfl ?_); refine goesL_ (some 9) rfl rfl Try.func19 (by kernel_rfl) rfl #[.slice A0_0 l0_0.length c0_0, .slice A1_0 l1_0.length c1_0] rfl gl_ ?_; (with_reducible refine (laws_eqStripeS.calls k _ _ l0_0 _ _ l1_0 true _ ?side1 ?side2 ?side3 ?side4 A3.out).mono ?_); (case side1 => exact ca_ (Kd.C_below HR0_0.out HB.out)); (case side2 => exact HC0_0.out); (case side3 => exact ca_ (Kd.C_below HR1_0.out HB.out)); (case side4 => exact HC1_0.out); rintro e w32 ⟨rfl, hb⟩; refine ⟨_, rfl, ?_⟩; replace BK371 := Aside0.mk (blk_below (bk_ BK371) hb); replace BK372 := Aside0.mk (blk_below (bk_ BK372) hb); replace HB := Aside0.mk (below_step bl_ hb); (try clear hb); (try clear hb2); (try clear hk); (try clear hi); obtain ⟨hcz33_0, hcz33_1, hcz33_2, hcz33_3, hfz33_0, hfz33_1, hfz33_2, hfz33_3⟩ := bx4_ BK371; obtain ⟨hcz34_0, hcz34_1, hcz34_2, hcz34_3, hfz34_0, hfz34_1, hfz34_2, hfz34_3⟩ := bx4_ BK372))
    go_ret
    exact ⟨sq_, bl_⟩
  ·rw [if_neg c5] at H
   have c5b0 : (a0_1 == a1_1) = false := beq_eq_false_iff_ne.mpr c5
   have c5b1 : (a0_1 != a1_1) = true := bne_iff_ne.mpr c5
   obtain rfl := Option.some.inj H
   go_enter Try.func9, Try.ntmps9
   go_wp2_with (first | ((with_reducible refine gate_dst (N := 2) rfl ?_); refine be_ (N := 2) (cs := #[.slice A0_0 l0_0.length c0_0, .int .i64 a0_1, .int .i64 a0_2, .slice A0_3 l0_3.length c0_3]) (t := 32) ?_; intro gb371 hg w35 hbox hb; have BK371 := Aside0.mk (hbox); have GW371 := gw_ (w := w) hg; have GE371 := gw_ (w := w) hg; replace HB := Aside0.mk (below_step bl_ hb); clear hb hbox hg) | ((with_reducible refine gate_dst (N := 3) rfl ?_); refine be_ (N := 3) (cs := #[.slice A1_0 l1_0.length c1_0, .int .i64 a1_1, .int .i64 a1_2, .slice A1_3 l1_3.length c1_3]) (t := 32) ?_; intro gb372 hg w36 hbox hb; have BK372 := Aside0.mk (hbox); have GW372 := gw_ (w := w) hg; have GE372 := gw_ (w := w) hg; replace HB := Aside0.mk (below_step bl_ hb); have NB371_372 := Aside0.mk ((by rw [hg]; exact Nat.ne_of_lt (blk_lt (bk_ BK371)) : gb371 ≠ gb372)); have NB372_371 := Aside0.mk ((by rw [hg]; exact Nat.ne_of_gt (blk_lt (bk_ BK371)) : gb372 ≠ gb371)); replace BK371 := Aside0.mk (blk_below (bk_ BK371) hb); clear hb hbox hg; have hnb37 := NB371_372.out; have hnc37 := NB372_371.out; obtain ⟨hcz38_0, hcz38_1, hcz38_2, hcz38_3, hfz38_0, hfz38_1, hfz38_2, hfz38_3⟩ := bx4_ BK371; obtain ⟨hcz39_0, hcz39_1, hcz39_2, hcz39_3, hfz39_0, hfz39_1, hfz39_2, hfz39_3⟩ := bx4_ BK372) | ((with_reducible refine gate_callee (f := 19) rfl ?_); refine goesL_ (some 9) rfl rfl Try.func19 (by kernel_rfl) rfl #[.slice A0_0 l0_0.length c0_0, .slice A1_0 l1_0.length c1_0] rfl gl_ ?_; (with_reducible refine (laws_eqStripeS.calls k _ _ l0_0 _ _ l1_0 true _ ?side1 ?side2 ?side3 ?side4 A3.out).mono ?_); (case side1 => exact ca_ (Kd.C_below HR0_0.out HB.out)); (case side2 => exact HC0_0.out); (case side3 => exact ca_ (Kd.C_below HR1_0.out HB.out)); (case side4 => exact HC1_0.out); rintro e w40 ⟨rfl, hb⟩; refine ⟨_, rfl, ?_⟩; replace BK371 := Aside0.mk (blk_below (bk_ BK371) hb); replace BK372 := Aside0.mk (blk_below (bk_ BK372) hb); replace HB := Aside0.mk (below_step bl_ hb); (try clear hb); (try clear hb2); (try clear hk); (try clear hi); obtain ⟨hcz41_0, hcz41_1, hcz41_2, hcz41_3, hfz41_0, hfz41_1, hfz41_2, hfz41_3⟩ := bx4_ BK371; obtain ⟨hcz42_0, hcz42_1, hcz42_2, hcz42_3, hfz42_0, hfz42_1, hfz42_2, hfz42_3⟩ := bx4_ BK372))
   go_ret
   exact ⟨sq_, bl_⟩
 ·replace c4 := Bool.eq_false_iff.mpr c4
  subst c4
  replace H := in_ H
  obtain rfl := Option.some.inj H
  go_enter Try.func9, Try.ntmps9
  go_wp2_with (first | ((with_reducible refine gate_dst (N := 2) rfl ?_); refine be_ (N := 2) (cs := #[.slice A0_0 l0_0.length c0_0, .int .i64 a0_1, .int .i64 a0_2, .slice A0_3 l0_3.length c0_3]) (t := 32) ?_; intro gb371 hg w43 hbox hb; have BK371 := Aside0.mk (hbox); have GW371 := gw_ (w := w) hg; have GE371 := gw_ (w := w) hg; replace HB := Aside0.mk (below_step bl_ hb); clear hb hbox hg) | ((with_reducible refine gate_dst (N := 3) rfl ?_); refine be_ (N := 3) (cs := #[.slice A1_0 l1_0.length c1_0, .int .i64 a1_1, .int .i64 a1_2, .slice A1_3 l1_3.length c1_3]) (t := 32) ?_; intro gb372 hg w44 hbox hb; have BK372 := Aside0.mk (hbox); have GW372 := gw_ (w := w) hg; have GE372 := gw_ (w := w) hg; replace HB := Aside0.mk (below_step bl_ hb); have NB371_372 := Aside0.mk ((by rw [hg]; exact Nat.ne_of_lt (blk_lt (bk_ BK371)) : gb371 ≠ gb372)); have NB372_371 := Aside0.mk ((by rw [hg]; exact Nat.ne_of_gt (blk_lt (bk_ BK371)) : gb372 ≠ gb371)); replace BK371 := Aside0.mk (blk_below (bk_ BK371) hb); clear hb hbox hg; have hnb45 := NB371_372.out; have hnc45 := NB372_371.out; obtain ⟨hcz46_0, hcz46_1, hcz46_2, hcz46_3, hfz46_0, hfz46_1, hfz46_2, hfz46_3⟩ := bx4_ BK371; obtain ⟨hcz47_0, hcz47_1, hcz47_2, hcz47_3, hfz47_0, hfz47_1, hfz47_2, hfz47_3⟩ := bx4_ BK372) | ((with_reducible refine gate_callee (f := 19) rfl ?_); refine goesL_ (some 9) rfl rfl Try.func19 (by kernel_rfl) rfl #[.slice A0_0 l0_0.length c0_0, .slice A1_0 l1_0.length c1_0] rfl gl_ ?_; (with_reducible refine (laws_eqStripeS.calls k _ _ l0_0 _ _ l1_0 false _ ?side1 ?side2 ?side3 ?side4 A3.out).mono ?_); (case side1 => exact ca_ (Kd.C_below HR0_0.out HB.out)); (case side2 => exact HC0_0.out); (case side3 => exact ca_ (Kd.C_below HR1_0.out HB.out)); (case side4 => exact HC1_0.out); rintro e w48 ⟨rfl, hb⟩; refine ⟨_, rfl, ?_⟩; replace BK371 := Aside0.mk (blk_below (bk_ BK371) hb); replace BK372 := Aside0.mk (blk_below (bk_ BK372) hb); replace HB := Aside0.mk (below_step bl_ hb); (try clear hb); (try clear hb2); (try clear hk); (try clear hi)))
  go_ret
  exact ⟨sq_, bl_⟩
/-! ### laws_markIntS: function 11 -/
def laws_markIntS.l0 : Nat → List Int → Int → Int → Option (Int × List Int)
 | 0, _, _, _ => none
 | k + 1, x0, x1, x5 => if x5 < (x0.length : Int) then (if 0 ≤ x5 then (laws_markIntS.l0 k (x0.set (x5 : Int).toNat x1) (wrap64 (x1 + 1)) (wrap64 (x5 + 1))) else (none)) else (some (x1, x0))
def laws_markIntS.f (k : Nat) (l0 : List Int) (a1 : Int) : Option (Int × List Int) := laws_markIntS.l0 k l0 a1 0
set_option maxHeartbeats 8000000 in
set_option maxRecDepth 100000 in
theorem laws_markIntS.calls (k : Nat) (P0_ : Nat → Prop) (u9000_ : Value) (l0 : List Int) (a1 : Int) (r1 : Int) (r2 : List Int) (w0 w : World) (hB : Below w0.heap.size w0 w) (ho0 : Kd.R (Kd.int .i64) 3 w w0.heap.size P0_ u9000_ l0) (h : laws_markIntS.f k l0 a1 = some (r1, r2)) :
  Calls Try.prog 11 #[u9000_, .int .i64 a1] w fun e w' => e = .returned (.int .i64 r1) ∧ Kd.R (Kd.int .i64) 3 w' w0.heap.size (fun k_ => (P0_ k_ ∨ w.heap.size ≤ k_)) u9000_ r2 ∧ Below w0.heap.size w0 w' ∧ Kept w w' (fun k_ => P0_ k_) := by
 have HO0 := Aside0.mk (show Kd.R (Kd.int .i64) 3 w w0.heap.size (fun k_ => (P0_ k_ ∨ w.heap.size ≤ k_)) u9000_ l0 from Kd.R_mono ho0 (fun k_ hk => (.inl hk)))
 have HK := Aside0.mk (Kept.refl w (fun k_ => P0_ k_))
 have HW0 := Aside0.mk hB.size
 have HB := Aside0.mk hB
 clear hB
 have H : (laws_markIntS.l0 k l0 a1 0) = some (r1, r2) := h
 clear h
 have H' := Aside0.mk H
 clear H
 go_enter Try.func11, Try.ntmps11
 go_wp2
 go_loopg [1, 5] k (fun kq v1 v5 w' => ∃ (x0_1 : List Int) (x1_1 : Int) (x5_1 : Int), v1 = .int .i64 x1_1 ∧ v5 = .int .i64 x5_1 ∧ Aside0 (laws_markIntS.l0 kq x0_1 x1_1 x5_1 = some (r1, r2)) ∧ Aside0 (kq ≤ k) ∧ Aside0 (Kd.R (Kd.int .i64) 3 w' w0.heap.size (fun k_ => (P0_ k_ ∨ w.heap.size ≤ k_)) u9000_ x0_1) ∧ Aside0 (Kept w w' (fun k_ => P0_ k_)) ∧ Aside0 (Below w0.heap.size w0 w'))
 case atStart => exact ⟨(l0), (a1), (0), sp_, sp_, H', ⟨Nat.le_refl _⟩, ⟨ra_ HO0⟩, ⟨by repeat (first | (with_reducible first | exact HK.out | apply Kept.alloc | apply Kept.drewN | apply Kept.drew) | exact HK.out)⟩, ⟨bl_⟩⟩
 case round =>
  clear H'
  try clear c1
  try clear p2
  obtain ⟨x0_1, x1_1, x5_1, rfl, rfl, HA, HK1, HO_0, HK, HB⟩ := hrel
  cases gk with
  | zero => exact absurd HA.out (by simp [laws_markIntS.l0])
  | succ k1 =>
   have H := HA.out
   clear HA
   simp only [laws_markIntS.l0] at H
   by_cases c3 : x5_1 < (x0_1.length : Int)
   ·rw [if_pos c3] at H
    have c3b0 : decide (x5_1 < (x0_1.length : Int)) = true := decide_eq_true c3
    clear c3
    by_cases c4 : 0 ≤ x5_1
    ·rw [if_pos c4] at H
     have c4b0 : decide (0 ≤ x5_1) = true := decide_eq_true c4
     clear c4
     obtain ⟨y375, hy375⟩ : ∃ y_ : List Int, y_ = (x0_1.set (x5_1 : Int).toNat x1_1) := ⟨_, rfl⟩
     replace H : (laws_markIntS.l0 k1 y375 (wrap64 (x1_1 + 1)) (wrap64 (x5_1 + 1))) = some (r1, r2) := by first | (rw [hy375]; with_reducible exact H) | (have H2_ := (Option.bind_some _ _).symm.trans H; rw [hy375]; with_reducible exact H2_) | (have H2_ := (Option.bind_some _ _).symm.trans H; with_reducible exact H2_) | with_reducible exact H | (rw [hy375]; exact H) | exact H
     have Ny375 := Aside0.mk hy375
     clear hy375
     have H' := Aside0.mk H
     clear H
     obtain ⟨Ao6, co6, eo6⟩ := Kd.R_slice HO_0.out
     subst eo6
     have p5 : 0 ≤ (x5_1 : Int) := od_
     have q5 : (x5_1 : Int) < ((x0_1.length : Int) : Int) := od_
     obtain ⟨go5, co5, eo5, gb5, gl5, cl5, HG5⟩ := Kd.R_form HO_0.out (by omega)
     (first | cases eo5 | (injection eo5 with ea_ en_ ec_; (first | subst ea_ | (injection ea_ with ea_; subst ea_)); subst ec_; clear en_))
     have GB5 := Aside0.mk gb5
     have GG5 := Aside0.mk HG5
     clear gb5 gl5 HG5
     have HMgo5 := Aside0.mk (show (P0_ go5 ∨ w.heap.size ≤ go5) from (HO_0.out.1 _ rfl))
     obtain ⟨hx5_0, hf5_0⟩ := Kd.R_celln 0 HO_0.out (x5_1 : Int) p5 q5
     replace p5 := eq_true p5
     replace q5 := eq_true q5
     have HP7 := Kd.R_putg HO_0.out (x5_1 : Int) x1_1
     go_wp2_with (first | ((with_reducible refine gate_store (t := 3) (p := 15) rfl ?_); refine store_event (t := 3) (p := 15) (v := ?vo_w8) (w1 := (wr.setCell ⟨go5, (x5_1 : Int).toNat, none⟩ (.int .i64 x1_1))) ?hg ?ho ?hn ?hr ?_; (case ho => rfl); (case hg => rfl); (case hn => rfl); (case hr => first | (go_simp; done) | (go_simp; rfl)); intro w8 hw; have hg : wr.grownBy w8 (some go5) := (by rw [hw]; exact HP7.2); have hp_ : Kd.R (Kd.int .i64) 3 w8 w0.heap.size (fun k_ => (P0_ k_ ∨ w.heap.size ≤ k_)) (.slice (some ⟨go5, 0, none⟩) x0_1.length co6) y375 := (by rw [hw, Ny375.out]; exact HP7.1); clear HP7; replace HB := Aside0.mk ((by rw [hw]; exact below_set (HB.out) GB5.out : Below w0.heap.size w0 w8)); replace HK := Aside0.mk (Kept.of_grown (S := (fun k_ => P0_ k_)) hg (by repeat (first | (with_reducible first | exact HK.out | apply Kept.alloc | apply Kept.drewN | apply Kept.drew) | exact HK.out)) (fun k_ e_ => (HO_0.out.1 k_ e_))); replace HO_0 := Aside0.mk (hp_); clear hg hw hp_))
     go_roundg k1
     case measure => have := HK1.out; omega
     case rel => exact ⟨(y375), (wrap64 (x1_1 + 1)), (wrap64 (x5_1 + 1)), sp_, sp_, H', ⟨by have := HK1.out; omega⟩, ⟨ra_ HO_0⟩, ⟨by repeat (first | (with_reducible first | exact HK.out | apply Kept.alloc | apply Kept.drewN | apply Kept.drew) | exact HK.out)⟩, ⟨bl_⟩⟩
    ·rw [if_neg c4] at H
     exact absurd H (by simp)
   ·rw [if_neg c3] at H
    have c3b0 : decide (x5_1 < (x0_1.length : Int)) = false := decide_eq_false c3
    clear c3
    simp only [Option.some.injEq, Prod.mk.injEq] at H
    obtain ⟨rfl, rfl⟩ := H
    obtain ⟨Ao9, co9, eo9⟩ := Kd.R_slice HO_0.out
    subst eo9
    go_wp2
    go_ret
    exact ⟨by first | rfl | (simp [errW_none, errW_some] <;> rfl) | (simp [*, errW_none, errW_some] <;> rfl), ra_ HO_0, bl_, by repeat (first | (with_reducible first | exact HK.out | apply Kept.alloc | apply Kept.drewN | apply Kept.drew) | exact HK.out)⟩
/-! ### laws_markText: function 42 -/
def laws_markText.l0 : Nat → Int → ByteArray → Option (ByteArray)
 | 0, _, _ => none
 | k + 1, x0, x3 => if x0 > 0 then ((some (([(wrap64 (48 + (Int.tmod x0 10))) % 256] : List Int) : List Int)).bind fun y376 => (if (strOfNums y376).size + x3.size ≤ 9223372036854775807 then (laws_markText.l0 k (wrap64 (Int.tdiv x0 10)) ((strOfNums y376) ++ x3)) else (none))) else (if 1 + x3.size ≤ 9223372036854775807 then (some ((⟨#[109]⟩ : ByteArray) ++ x3)) else (none))
def laws_markText.f (k : Nat) (a0 : Int) : Option (ByteArray) := if a0 ≤ 0 then (some (⟨#[109, 48]⟩ : ByteArray)) else (laws_markText.l0 k a0 (⟨#[]⟩ : ByteArray))
set_option maxHeartbeats 8000000 in
set_option maxRecDepth 100000 in
theorem laws_markText.calls (k : Nat) (a0 : Int) (r : ByteArray) (w : World) (h : laws_markText.f k a0 = some r) :
  Calls Try.prog 42 #[.int .i64 a0] w fun e w' => e = .returned (.string r) ∧ Below w.heap.size w w' := by
 have HB := Aside0.mk (Below.refl w.heap.size w)
 have H : (if a0 ≤ 0 then (some (⟨#[109, 48]⟩ : ByteArray)) else (laws_markText.l0 k a0 (⟨#[]⟩ : ByteArray))) = some r := h
 clear h
 by_cases c2 : a0 ≤ 0
 ·rw [if_pos c2] at H
  have c2b0 : decide (a0 ≤ 0) = true := decide_eq_true c2
  clear c2
  obtain rfl := Option.some.inj H
  go_enter Try.func42, Try.ntmps42
  go_wp2
  go_ret
  exact ⟨sq_, bl_⟩
 ·rw [if_neg c2] at H
  have c2b0 : decide (a0 ≤ 0) = false := decide_eq_false c2
  clear c2
  have H' := Aside0.mk H
  clear H
  go_enter Try.func42, Try.ntmps42
  go_wp2
  go_loopg [0, 3] k (fun kq v0 v3 w' => ∃ (x0_1 : Int) (x3_1 : ByteArray), v0 = .int .i64 x0_1 ∧ v3 = .string x3_1 ∧ Aside0 (laws_markText.l0 kq x0_1 x3_1 = some r) ∧ Aside0 (kq ≤ k) ∧ Aside0 (Below w.heap.size w w'))
  case atStart => exact ⟨(a0), ((⟨#[]⟩ : ByteArray)), sp_, sp_, H', ⟨Nat.le_refl _⟩, ⟨bl_⟩⟩
  case round =>
   clear H'
   try clear c2
   try clear c2b0
   try clear p2
   obtain ⟨x0_1, x3_1, rfl, rfl, HA, HK1, HB⟩ := hrel
   cases gk with
   | zero => exact absurd HA.out (by simp [laws_markText.l0])
   | succ k1 =>
    have H := HA.out
    clear HA
    simp only [laws_markText.l0] at H
    by_cases c3 : x0_1 > 0
    ·rw [if_pos c3] at H
     have c3b0 : decide (0 < x0_1) = true := decide_eq_true c3
     clear c3
     obtain ⟨y376, hy376⟩ : ∃ y_ : List Int, y_ = (([(wrap64 (48 + (Int.tmod x0_1 10))) % 256] : List Int)) := ⟨_, rfl⟩
     replace H : (if (strOfNums y376).size + x3_1.size ≤ 9223372036854775807 then (laws_markText.l0 k1 (wrap64 (Int.tdiv x0_1 10)) ((strOfNums y376) ++ x3_1)) else (none)) = some r := by first | (rw [hy376]; with_reducible exact H) | (have H2_ := (Option.bind_some _ _).symm.trans H; rw [hy376]; with_reducible exact H2_) | (have H2_ := (Option.bind_some _ _).symm.trans H; with_reducible exact H2_) | with_reducible exact H | (rw [hy376]; exact H) | exact H
     have Ny376 := Aside0.mk hy376
     clear hy376
     by_cases c4 : (strOfNums y376).size + x3_1.size ≤ 9223372036854775807
     ·rw [if_pos c4] at H
      have c4b0 := eq_true c4
      have c4b1 : decide ((strOfNums y376).size + x3_1.size ≤ 9223372036854775807) = true := decide_eq_true c4
      try have c4b2 : (9223372036854775807 < (strOfNums y376).size + x3_1.size) = False := eq_false (Nat.not_lt.2 c4)
      have H' := Aside0.mk H
      clear H
      go_wp2_with (first | ((with_reducible refine gate_dst (N := 12) rfl ?_); refine Kd.R_lit (Kd.int .u8) _ 5 ?hg (N := 12) ?hd (xs := ([(wrap64 (48 + (Int.tmod x0_1 10))) % 256] : List Int)) (inner := [.int .u8 ((wrap64 (48 + (Int.tmod x0_1 10))) % 256)]) (ok := fun _ => True) (okp := fun _ => True) ?hr ?hp (fun _ hk => hk) trivial (Below.refl _ _) (Nat.le_refl _) (by simp) ?_; (case hd => rfl); (case hg => rfl); (case hr => first | (go_simp; done) | (go_simp; rfl)); (case hp => exact (Reps.one (show Kd.M (Kd.int .u8) _ _ _ ((wrap64 (48 + (Int.tmod x0_1 10))) % 256) [.int .u8 ((wrap64 (48 + (Int.tmod x0_1 10))) % 256)] from rfl) (Reps.none _ _))); intro v377 w5 ho6 hb hg_ hnew_; clear hg_ hnew_; (first | rw [← Ny376.out] at ho6 | (simp only [Int.reduceToNat] at ho6; rw [← Ny376.out] at ho6)); have HO378 := Aside0.mk (Kd.R_lower ho6 (below_size bl_)); replace HB := Aside0.mk (below_step bl_ hb); clear hb ho6; have hcv7 := own_string (P := Try.prog) Try.underlying41 Try.underlying5 Try.underlying9 (Kd.own_of_R HO378.out)))
      go_roundg k1
      case measure => have := HK1.out; omega
      case rel => exact ⟨(wrap64 (Int.tdiv x0_1 10)), ((strOfNums y376) ++ x3_1), sp_, sp_, H', ⟨by have := HK1.out; omega⟩, ⟨bl_⟩⟩
     ·rw [if_neg c4] at H
      exact absurd H (by simp)
    ·rw [if_neg c3] at H
     have c3b0 : decide (0 < x0_1) = false := decide_eq_false c3
     clear c3
     by_cases c8 : 1 + x3_1.size ≤ 9223372036854775807
     ·rw [if_pos c8] at H
      have c8b0 := eq_true c8
      have c8b1 : decide (1 + x3_1.size ≤ 9223372036854775807) = true := decide_eq_true c8
      try have c8b2 : (9223372036854775807 < 1 + x3_1.size) = False := eq_false (Nat.not_lt.2 c8)
      obtain rfl := Option.some.inj H
      go_wp2
      go_ret
      exact ⟨sq_, bl_⟩
     ·rw [if_neg c8] at H
      exact absurd H (by simp)
end Go.Proofs.Ytbjpfknmkpnhjaa.QFnExactOrderOf
