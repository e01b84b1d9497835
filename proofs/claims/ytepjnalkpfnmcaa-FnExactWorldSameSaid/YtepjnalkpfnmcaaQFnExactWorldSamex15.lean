-- by my own printer (myprint.py, over the kit's print.py)
import Derived.Test.YtepjnalkpfnmcaaQFnExactWorldSamex0
import Derived.Test.YtepjnalkpfnmcaaQFnExactWorldSamex13
import Derived.Test.YtepjnalkpfnmcaaQFnExactWorldSamex14
namespace Go.Proofs.Ytepjnalkpfnmcaa.QFnExactWorldSame
open Go.RowKit Go.Proofs.YtepjnalkpfnmcaaW.PrintWords Go.Proofs.YtepjnalkpfnmcaaW.PrintLast Go.Proofs.YtepjnalkpfnmcaaW.PrintMore
attribute [local go_sem] max2_int min2_int max_two min_two max_three min_three max_four min_four   -- for this text's walks alone
set_option linter.unusedVariables false
set_option linter.unusedSimpArgs false
attribute [local go_sem] my_geq my_leq my_gtr
abbrev tb10_0_15 : Array Bool := #[b0, b0, b0, b0, b0, b0, b0, b0, b0, b0]
abbrev tb10_1_15 : Array Bool := #[b1, b0, b0, b0, b0, b0, b0, b0, b0, b0]
abbrev tb10_17_15 : Array Bool := #[b1, b1, b1, b0, b1, b0, b0, b0, b0, b0]
abbrev tb10_1ff_15 : Array Bool := #[b1, b1, b1, b1, b1, b1, b1, b1, b1, b0]
abbrev tb10_3_15 : Array Bool := #[b1, b1, b0, b0, b0, b0, b0, b0, b0, b0]
abbrev tb10_37_15 : Array Bool := #[b1, b1, b1, b0, b1, b1, b0, b0, b0, b0]
abbrev tb10_3ff_15 : Array Bool := #[b1, b1, b1, b1, b1, b1, b1, b1, b1, b1]
abbrev tb10_7_15 : Array Bool := #[b1, b1, b1, b0, b0, b0, b0, b0, b0, b0]
abbrev tb10_77_15 : Array Bool := #[b1, b1, b1, b0, b1, b1, b1, b0, b0, b0]
abbrev tb10_7f_15 : Array Bool := #[b1, b1, b1, b1, b1, b1, b1, b0, b0, b0]
abbrev tb10_ff_15 : Array Bool := #[b1, b1, b1, b1, b1, b1, b1, b1, b0, b0]
/-! ### laws_eqStripeS: function 106 -/
def laws_eqStripeS.l0 : Nat → List (S121) → List (S121) → Int → Option (Bool)
 | 0, _, _, _ => none
 | k + 1, x0, x1, x5 => if x5 < (x0.length : Int) then (if 0 ≤ x5 then (if x5 < (x1.length : Int) then ((laws_eqStripe.f k ((rd_T121 x0 x5).f0) ((rd_T121 x0 x5).f1) ((rd_T121 x1 x5).f0) ((rd_T121 x1 x5).f1)).bind fun t391 => (if t391 = true then (laws_eqStripeS.l0 k x0 x1 (wrap64 (x5 + 1))) else (some false))) else (none)) else (none)) else (some true)
def laws_eqStripeS.f (k : Nat) (l0 : List (S121)) (l1 : List (S121)) : Option (Bool) := if (l0.length : Int) = (l1.length : Int) then (laws_eqStripeS.l0 k l0 l1 0) else (some false)
def laws_eqStripeS.T6 : Bool × List (List Nat × List Nat) := (true, [([], []), ([], []), ([0, 1], [0, 1]), ([2], [2]), ([], []), ([], []), ([4, 5], [4, 5]), ([6], [6]), ([3, 7], [3, 7]), ([8], [8])])
def laws_eqStripeS.B6 : List Nat := [0, 0, 3, 7, 0, 0, 48, 112, 255, 511]
theorem laws_eqStripeS.tab6 : rtab .any (opsOf Try.f106 6) = laws_eqStripeS.T6 := by kernel_rfl
theorem laws_eqStripeS.bits6 : waitsOk laws_eqStripeS.T6.2 laws_eqStripeS.B6 = true := by kernel_rfl
set_option maxHeartbeats 8000000 in
set_option maxRecDepth 100000 in
theorem laws_eqStripeS.calls (k : Nat) (A0 : Option Addr) (c0 : Nat) (l0 : List (S121)) (A1 : Option Addr) (c1 : Nat) (l1 : List (S121)) (r : Bool) (w : World) (hr0 : Kd.C k121 w A0 l0.length l0) (hc0 : l0.length ≤ c0) (hr1 : Kd.C k121 w A1 l1.length l1) (hc1 : l1.length ≤ c1) (h : laws_eqStripeS.f k l0 l1 = some true) :
  Calls Try.prog 106 #[.slice A0 l0.length c0, .slice A1 l1.length c1] w fun e w' => e = .returned (.bool true) ∧ Below w.heap.size w w' := by
 have hu121 := Try.underlying121
 have HR0 := Aside0.mk hr0
 have HC0 := Aside0.mk hc0
 clear hr0 hc0
 have HR1 := Aside0.mk hr1
 have HC1 := Aside0.mk hc1
 clear hr1 hc1
 have HB := Aside0.mk (Below.refl w.heap.size w)
 have H : (if (l0.length : Int) = (l1.length : Int) then (laws_eqStripeS.l0 k l0 l1 0) else (some false)) = some true := h
 clear h
 by_cases c3 : (l0.length : Int) = (l1.length : Int)
 ·rw [if_pos c3] at H
  have c3b0 : ((l0.length : Int) == (l1.length : Int)) = true := beq_iff_eq.mpr c3
  have c3b1 : ((l0.length : Int) != (l1.length : Int)) = false := bne_eq_false_iff_eq.mpr c3
  have c3b2 : (l0.length == l1.length) = true := by first | simpa using c3 | (simp at c3 ⊢; omega)
  clear c3
  have H' := Aside0.mk H
  clear H
  go_enter Try.func106, Try.ntmps106
  go_wp2
  go_loopg [5] k (fun kq v5 w' => ∃ (x5_1 : Int), v5 = .int .i64 x5_1 ∧ Aside0 (laws_eqStripeS.l0 kq l0 l1 x5_1 = some true) ∧ Aside0 (kq ≤ k) ∧ Aside0 (Below w.heap.size w w'))
  case atStart => exact ⟨(0), sp_, H', ⟨Nat.le_refl _⟩, ⟨bl_⟩⟩
  case round =>
   clear H'
   try clear c1
   try clear p2
   try clear c3
   try clear c3b0
   try clear c3b1
   try clear c3b2
   obtain ⟨x5_1, rfl, HA, HK1, HB⟩ := hrel
   cases gk with
   | zero => exact absurd HA.out (by simp [laws_eqStripeS.l0])
   | succ k1 =>
    have H := HA.out
    clear HA
    simp only [laws_eqStripeS.l0] at H
    by_cases c4 : x5_1 < (l0.length : Int)
    ·rw [if_pos c4] at H
     have c4b0 : decide (x5_1 < (l0.length : Int)) = true := decide_eq_true c4
     clear c4
     by_cases c5 : 0 ≤ x5_1
     ·rw [if_pos c5] at H
      have c5b0 : decide (0 ≤ x5_1) = true := decide_eq_true c5
      clear c5
      by_cases c6 : x5_1 < (l1.length : Int)
      ·rw [if_pos c6] at H
       have c6b0 : decide (x5_1 < (l1.length : Int)) = true := decide_eq_true c6
       clear c6
       obtain ⟨t391, A7, H⟩ := ob_ H
       by_cases c8 : t391 = true
       ·subst c8
        replace H := ip_ H
        have H' := Aside0.mk H
        clear H
        try go_wp2
        have n0_ := Aside0.mk (below_drew1 HB.out)
        clear HB
        have HB := n0_
        clear n0_
        have p389 : 0 ≤ (x5_1 : Int) := od_
        have q389 : x5_1 < (l0.length : Int) := od_
        obtain ⟨ad389, A389_1, c389_1, e389, hx389_0, hx389_1, hl389_1, hi389_1⟩ := at_T121 HR0.out x5_1 p389 q389
        have hw389_1 := hx389_1
        have hw389_0 := hx389_0
        cases e389
        replace hx389_0 := kc_ HB hx389_0
        replace hx389_1 := kc_ HB hx389_1
        have HR389_1 := Aside0.mk hi389_1
        have HC389_1 := Aside0.mk hl389_1
        clear hi389_1 hl389_1
        replace p389 := eq_true p389
        replace q389 := eq_true q389
        have p390 : 0 ≤ (x5_1 : Int) := od_
        have q390 : x5_1 < (l1.length : Int) := od_
        obtain ⟨ad390, A390_1, c390_1, e390, hx390_0, hx390_1, hl390_1, hi390_1⟩ := at_T121 HR1.out x5_1 p390 q390
        have hw390_1 := hx390_1
        have hw390_0 := hx390_0
        cases e390
        replace hx390_0 := kc_ HB hx390_0
        replace hx390_1 := kc_ HB hx390_1
        have HR390_1 := Aside0.mk hi390_1
        have HC390_1 := Aside0.mk hl390_1
        clear hi390_1 hl390_1
        replace p390 := eq_true p390
        replace q390 := eq_true q390
        refine start_ (n := 10) (S := fun w' => w'.cell? (ad389.add ((x5_1).toNat * 2)) = some (.int .i64 ((rd_T121 l0 x5_1).f0)) ∧ w'.cell? ⟨(ad389.add ((x5_1).toNat * 2)).block, (ad389.add ((x5_1).toNat * 2)).off + 1, none⟩ = some (.slice A389_1 ((rd_T121 l0 x5_1).f1).length c389_1) ∧ w'.cell? (ad390.add ((x5_1).toNat * 2)) = some (.int .i64 ((rd_T121 l1 x5_1).f0)) ∧ w'.cell? ⟨(ad390.add ((x5_1).toNat * 2)).block, (ad390.add ((x5_1).toNat * 2)).off + 1, none⟩ = some (.slice A390_1 ((rd_T121 l1 x5_1).f1).length c390_1)) (ds := []) tb10_0_15 (by kernel_rfl) rfl rfl ⟨(kc_ HB hw389_0), (kc_ HB hw389_1), (kc_ HB hw390_0), (kc_ HB hw390_1)⟩ (fun hHeld => ?_); refine with_tabW laws_eqStripeS.tab6 laws_eqStripeS.bits6 (fun HT_ HW_ => ?_)
        generalize wr.drew = w9 at HB HR389_1 HR390_1 hx389_0 hx389_1 hx390_0 hx390_1 hHeld ⊢
        refine pl_ HT_ 0 17 tb10_1_15 ?_
        refine pl_ HT_ 1 18 tb10_3_15 ?_
        refine pl_ HT_ 2 19 tb10_7_15 ?_
        refine pl_ HT_ 4 21 tb10_17_15 ?_
        refine pl_ HT_ 5 22 tb10_37_15 ?_
        refine pl_ HT_ 6 23 tb10_77_15 ?_
        refine take_ (i := 3) (N := some 20) (v := ?_) (a' := ?_) tb10_7f_15 rfl rfl (take_ofW HT_.out HW_.out (by kernel_rfl)) (fun _ _ _ h => h) (Or.inl ⟨by rfl, ?_⟩) hHeld ?_ ?_
        rotate_left
        ·rintro w' ⟨s0, s1, s2, s3⟩
         go_simp
         with_reducible rfl
        rotate_left
        ·simp only [Act.put, q_]
         rfl
        refine take_ (i := 7) (N := some 24) (v := ?_) (a' := ?_) tb10_ff_15 rfl rfl (take_ofW HT_.out HW_.out (by kernel_rfl)) (fun _ _ _ h => h) (Or.inl ⟨by rfl, ?_⟩) hHeld ?_ ?_
        rotate_left
        ·rintro w' ⟨s0, s1, s2, s3⟩
         go_simp
         with_reducible rfl
        rotate_left
        ·simp only [Act.put, q_]
         rfl
        refine one_ (i := 8) (N := some 25) tb10_1ff_15 rfl rfl (one_of HT_.out (by kernel_rfl)) (by decide) (fun K hK => ?_)
        refine goes_ Try.func159 (by kernel_rfl) rfl #[.agg #[.int .i64 ((rd_T121 l0 x5_1).f0), .slice A389_1 ((rd_T121 l0 x5_1).f1).length c389_1], .agg #[.int .i64 ((rd_T121 l1 x5_1).f0), .slice A390_1 ((rd_T121 l1 x5_1).f1).length c390_1]] (by rfl) rfl rfl gl_ ?_
        with_reducible refine (laws_eqStripe.calls k1 ((rd_T121 l0 x5_1).f0) _ _ ((rd_T121 l0 x5_1).f1) ((rd_T121 l1 x5_1).f0) _ _ ((rd_T121 l1 x5_1).f1) true _ ?side1 ?side2 ?side3 ?side4 A7.out).mono ?_
        (case side1 => exact ca_ (Kd.C_below HR389_1.out HB.out))
        (case side2 => exact HC389_1.out)
        (case side3 => exact ca_ (Kd.C_below HR390_1.out HB.out))
        (case side4 => exact HC390_1.out)
        rintro e w10 ⟨rfl, hb⟩
        refine ⟨_, rfl, ?_⟩
        have n0_ := Aside0.mk (below_step bl_ hb)
        clear HB
        have HB := n0_
        clear n0_
        (try clear hb)
        (try clear hb2)
        (try clear hk)
        (try clear hi)
        refine hK.out _ _ ⟨(kc_ HB hw389_0), (kc_ HB hw389_1), (kc_ HB hw390_0), (kc_ HB hw390_1)⟩ (fun hHeld => ?_)
        clear hK K
        refine norm_ (a' := ?_) ?_ ?_
        rotate_left
        ·show Act.put _ (some 25) _ = _
         simp only [Act.put, q_]
         rfl
        refine pl_ HT_ 9 26 tb10_3ff_15 ?_
        refine done_ (done_of HT_.out (by kernel_rfl)) ?_
        try go_wp2
        go_roundg k1
        case measure => have := HK1.out; omega
        case rel => exact ⟨(wrap64 (x5_1 + 1)), sp_, H', ⟨by have := HK1.out; omega⟩, ⟨bl_⟩⟩
       ·replace c8 := Bool.eq_false_iff.mpr c8
        subst c8
        replace H := in_ H
        exact absurd H (by simp)
      ·rw [if_neg c6] at H
       exact absurd H (by simp)
     ·rw [if_neg c5] at H
      exact absurd H (by simp)
    ·rw [if_neg c4] at H
     have c4b0 : decide (x5_1 < (l0.length : Int)) = false := decide_eq_false c4
     clear c4
     clear H
     go_wp2
     go_ret
     exact ⟨sq_, bl_⟩
 ·rw [if_neg c3] at H
  have c3b0 : ((l0.length : Int) == (l1.length : Int)) = false := beq_eq_false_iff_ne.mpr c3
  have c3b1 : ((l0.length : Int) != (l1.length : Int)) = true := bne_iff_ne.mpr c3
  have c3b2 : (l0.length == l1.length) = false := by first | simpa using c3 | (simp at c3 ⊢; omega)
  exact absurd H (by simp)
/-! ### laws_eqTask: function 160 -/
def laws_eqTask.f (k : Nat) (l0_0 : List Int) (a0_1 : Int) (l0_2 : List Int) (a0_3 : Int) (a0_4 : Int) (a0_5 : Int) (a0_6 : Int) (a0_7 : Int) (l0_8 : List Int) (l1_0 : List Int) (a1_1 : Int) (l1_2 : List Int) (a1_3 : Int) (a1_4 : Int) (a1_5 : Int) (a1_6 : Int) (a1_7 : Int) (l1_8 : List Int) : Option (Bool) := (laws_eqByteS.f k l0_0 l1_0).bind fun t394 => (if t394 = true then (if a0_1 = a1_1 then ((laws_eqIntS.f k l0_2 l1_2).bind fun t395 => (if t395 = true then (if a0_3 = a1_3 then (if a0_4 = a1_4 then (if a0_5 = a1_5 then (if a0_6 = a1_6 then (if a0_7 = a1_7 then ((laws_eqByteS.f k l0_8 l1_8).bind fun t396 => (if t396 = true then (some true) else (some false))) else (some false)) else (some false)) else (some false)) else (some false)) else (some false)) else (some false))) else (some false)) else (some false))
set_option maxHeartbeats 8000000 in
set_option maxRecDepth 100000 in
theorem laws_eqTask.calls (k : Nat) (A0_0 : Option Addr) (c0_0 : Nat) (l0_0 : List Int) (a0_1 : Int) (A0_2 : Option Addr) (c0_2 : Nat) (l0_2 : List Int) (a0_3 : Int) (a0_4 : Int) (a0_5 : Int) (a0_6 : Int) (a0_7 : Int) (A0_8 : Option Addr) (c0_8 : Nat) (l0_8 : List Int) (A1_0 : Option Addr) (c1_0 : Nat) (l1_0 : List Int) (a1_1 : Int) (A1_2 : Option Addr) (c1_2 : Nat) (l1_2 : List Int) (a1_3 : Int) (a1_4 : Int) (a1_5 : Int) (a1_6 : Int) (a1_7 : Int) (A1_8 : Option Addr) (c1_8 : Nat) (l1_8 : List Int) (r : Bool) (w : World) (hr0_0 : Kd.C (Kd.int .u8) w A0_0 l0_0.length l0_0) (hc0_0 : l0_0.length ≤ c0_0) (hr0_2 : Kd.C (Kd.int .i64) w A0_2 l0_2.length l0_2) (hc0_2 : l0_2.length ≤ c0_2) (hr0_8 : Kd.C (Kd.int .u8) w A0_8 l0_8.length l0_8) (hc0_8 : l0_8.length ≤ c0_8) (hr1_0 : Kd.C (Kd.int .u8) w A1_0 l1_0.length l1_0) (hc1_0 : l1_0.length ≤ c1_0) (hr1_2 : Kd.C (Kd.int .i64) w A1_2 l1_2.length l1_2) (hc1_2 : l1_2.length ≤ c1_2) (hr1_8 : Kd.C (Kd.int .u8) w A1_8 l1_8.length l1_8) (hc1_8 : l1_8.length ≤ c1_8) (h : laws_eqTask.f k l0_0 a0_1 l0_2 a0_3 a0_4 a0_5 a0_6 a0_7 l0_8 l1_0 a1_1 l1_2 a1_3 a1_4 a1_5 a1_6 a1_7 l1_8 = some true) :
  Calls Try.prog 160 #[.agg #[.slice A0_0 l0_0.length c0_0, .int .i64 a0_1, .slice A0_2 l0_2.length c0_2, .int .i64 a0_3, .int .i64 a0_4, .int .i64 a0_5, .int .i64 a0_6, .int .i64 a0_7, .slice A0_8 l0_8.length c0_8], .agg #[.slice A1_0 l1_0.length c1_0, .int .i64 a1_1, .slice A1_2 l1_2.length c1_2, .int .i64 a1_3, .int .i64 a1_4, .int .i64 a1_5, .int .i64 a1_6, .int .i64 a1_7, .slice A1_8 l1_8.length c1_8]] w fun e w' => e = .returned (.bool true) ∧ Below w.heap.size w w' := by
 have hu126 := Try.underlying126
 have HR0_0 := Aside0.mk hr0_0
 have HC0_0 := Aside0.mk hc0_0
 clear hr0_0 hc0_0
 have HR0_2 := Aside0.mk hr0_2
 have HC0_2 := Aside0.mk hc0_2
 clear hr0_2 hc0_2
 have HR0_8 := Aside0.mk hr0_8
 have HC0_8 := Aside0.mk hc0_8
 clear hr0_8 hc0_8
 have HR1_0 := Aside0.mk hr1_0
 have HC1_0 := Aside0.mk hc1_0
 clear hr1_0 hc1_0
 have HR1_2 := Aside0.mk hr1_2
 have HC1_2 := Aside0.mk hc1_2
 clear hr1_2 hc1_2
 have HR1_8 := Aside0.mk hr1_8
 have HC1_8 := Aside0.mk hc1_8
 clear hr1_8 hc1_8
 have HB := Aside0.mk (Below.refl w.heap.size w)
 have H : ((laws_eqByteS.f k l0_0 l1_0).bind fun t394 => (if t394 = true then (if a0_1 = a1_1 then ((laws_eqIntS.f k l0_2 l1_2).bind fun t395 => (if t395 = true then (if a0_3 = a1_3 then (if a0_4 = a1_4 then (if a0_5 = a1_5 then (if a0_6 = a1_6 then (if a0_7 = a1_7 then ((laws_eqByteS.f k l0_8 l1_8).bind fun t396 => (if t396 = true then (some true) else (some false))) else (some false)) else (some false)) else (some false)) else (some false)) else (some false)) else (some false))) else (some false)) else (some false))) = some true := h
 clear h
 obtain ⟨t394, A3, H⟩ := ob_ H
 by_cases c4 : t394 = true
 ·subst c4
  replace H := ip_ H
  by_cases c5 : a0_1 = a1_1
  ·rw [if_pos c5] at H
   have c5b0 : (a0_1 == a1_1) = true := beq_iff_eq.mpr c5
   have c5b1 : (a0_1 != a1_1) = false := bne_eq_false_iff_eq.mpr c5
   clear c5
   obtain ⟨t395, A6, H⟩ := ob_ H
   by_cases c7 : t395 = true
   ·subst c7
    replace H := ip_ H
    by_cases c8 : a0_3 = a1_3
    ·rw [if_pos c8] at H
     have c8b0 : (a0_3 == a1_3) = true := beq_iff_eq.mpr c8
     have c8b1 : (a0_3 != a1_3) = false := bne_eq_false_iff_eq.mpr c8
     clear c8
     by_cases c9 : a0_4 = a1_4
     ·rw [if_pos c9] at H
      have c9b0 : (a0_4 == a1_4) = true := beq_iff_eq.mpr c9
      have c9b1 : (a0_4 != a1_4) = false := bne_eq_false_iff_eq.mpr c9
      clear c9
      by_cases c10 : a0_5 = a1_5
      ·rw [if_pos c10] at H
       have c10b0 : (a0_5 == a1_5) = true := beq_iff_eq.mpr c10
       have c10b1 : (a0_5 != a1_5) = false := bne_eq_false_iff_eq.mpr c10
       clear c10
       by_cases c11 : a0_6 = a1_6
       ·rw [if_pos c11] at H
        have c11b0 : (a0_6 == a1_6) = true := beq_iff_eq.mpr c11
        have c11b1 : (a0_6 != a1_6) = false := bne_eq_false_iff_eq.mpr c11
        clear c11
        by_cases c12 : a0_7 = a1_7
        ·rw [if_pos c12] at H
         have c12b0 : (a0_7 == a1_7) = true := beq_iff_eq.mpr c12
         have c12b1 : (a0_7 != a1_7) = false := bne_eq_false_iff_eq.mpr c12
         clear c12
         obtain ⟨t396, A13, H⟩ := ob_ H
         by_cases c14 : t396 = true
         ·subst c14
          have H1 : (some true) = some true := rfl
          clear H
          have H := H1
          clear H1
          clear H
          go_enter Try.func160, Try.ntmps160
          go_wp2_with (first | ((with_reducible refine gate_dst (N := 2) rfl ?_); refine be_ (N := 2) (cs := #[.slice A0_0 l0_0.length c0_0, .int .i64 a0_1, .slice A0_2 l0_2.length c0_2, .int .i64 a0_3, .int .i64 a0_4, .int .i64 a0_5, .int .i64 a0_6, .int .i64 a0_7, .slice A0_8 l0_8.length c0_8]) (t := 126) ?_; intro gb392 hg w15 hbox hb; have BK392 := Aside0.mk (hbox); have GW392 := gw_ (w := w) hg; have GE392 := gw_ (w := w) hg; replace HB := Aside0.mk (below_step bl_ hb); clear hb hbox hg) | ((with_reducible refine gate_dst (N := 3) rfl ?_); refine be_ (N := 3) (cs := #[.slice A1_0 l1_0.length c1_0, .int .i64 a1_1, .slice A1_2 l1_2.length c1_2, .int .i64 a1_3, .int .i64 a1_4, .int .i64 a1_5, .int .i64 a1_6, .int .i64 a1_7, .slice A1_8 l1_8.length c1_8]) (t := 126) ?_; intro gb393 hg w16 hbox hb; have BK393 := Aside0.mk (hbox); have GW393 := gw_ (w := w) hg; have GE393 := gw_ (w := w) hg; replace HB := Aside0.mk (below_step bl_ hb); have NB392_393 := Aside0.mk ((by rw [hg]; exact Nat.ne_of_lt (blk_lt (bk_ BK392)) : gb392 ≠ gb393)); have NB393_392 := Aside0.mk ((by rw [hg]; exact Nat.ne_of_gt (blk_lt (bk_ BK392)) : gb393 ≠ gb392)); replace BK392 := Aside0.mk (blk_below (bk_ BK392) hb); clear hb hbox hg; have hnb17 := NB392_393.out; have hnc17 := NB393_392.out; obtain ⟨hcz18_0, hcz18_1, hcz18_2, hcz18_3, hcz18_4, hcz18_5, hcz18_6, hcz18_7, hcz18_8, hfz18_0, hfz18_1, hfz18_2, hfz18_3, hfz18_4, hfz18_5, hfz18_6, hfz18_7, hfz18_8⟩ := bx9_ BK392; obtain ⟨hcz19_0, hcz19_1, hcz19_2, hcz19_3, hcz19_4, hcz19_5, hcz19_6, hcz19_7, hcz19_8, hfz19_0, hfz19_1, hfz19_2, hfz19_3, hfz19_4, hfz19_5, hfz19_6, hfz19_7, hfz19_8⟩ := bx9_ BK393) | ((with_reducible refine gate_callee (f := 40) rfl ?_); refine goesL_ (some 9) rfl rfl Try.func40 (by kernel_rfl) rfl #[.slice A0_0 l0_0.length c0_0, .slice A1_0 l1_0.length c1_0] rfl gl_ ?_; (with_reducible refine (laws_eqByteS.calls k _ _ l0_0 _ _ l1_0 true _ ?side1 ?side2 ?side3 ?side4 A3.out).mono ?_); (case side1 => exact ca_ (Kd.C_below HR0_0.out HB.out)); (case side2 => exact HC0_0.out); (case side3 => exact ca_ (Kd.C_below HR1_0.out HB.out)); (case side4 => exact HC1_0.out); rintro e w' ⟨rfl, ⟨nd, rfl⟩⟩; refine ⟨_, rfl, ?_⟩) | ((with_reducible refine gate_callee (f := 70) rfl ?_); refine goesL_ (some 20) rfl rfl Try.func70 (by kernel_rfl) rfl #[.slice A0_2 l0_2.length c0_2, .slice A1_2 l1_2.length c1_2] rfl gl_ ?_; (with_reducible refine (laws_eqIntS.calls k _ _ l0_2 _ _ l1_2 true _ ?side1 ?side2 ?side3 ?side4 A6.out).mono ?_); (case side1 => exact ca_ (Kd.C_below HR0_2.out bl_)); (case side2 => exact HC0_2.out); (case side3 => exact ca_ (Kd.C_below HR1_2.out bl_)); (case side4 => exact HC1_2.out); rintro e w' ⟨rfl, ⟨nd, rfl⟩⟩; refine ⟨_, rfl, ?_⟩) | ((with_reducible refine gate_callee (f := 40) rfl ?_); refine goesL_ (some 51) rfl rfl Try.func40 (by kernel_rfl) rfl #[.slice A0_8 l0_8.length c0_8, .slice A1_8 l1_8.length c1_8] rfl gl_ ?_; (with_reducible refine (laws_eqByteS.calls k _ _ l0_8 _ _ l1_8 true _ ?side1 ?side2 ?side3 ?side4 A13.out).mono ?_); (case side1 => exact ca_ (Kd.C_below HR0_8.out bl_)); (case side2 => exact HC0_8.out); (case side3 => exact ca_ (Kd.C_below HR1_8.out bl_)); (case side4 => exact HC1_8.out); rintro e w' ⟨rfl, ⟨nd, rfl⟩⟩; refine ⟨_, rfl, ?_⟩))
          go_ret
          exact ⟨sq_, bl_⟩
         ·replace c14 := Bool.eq_false_iff.mpr c14
          subst c14
          replace H := in_ H
          exact absurd H (by simp)
        ·rw [if_neg c12] at H
         have c12b0 : (a0_7 == a1_7) = false := beq_eq_false_iff_ne.mpr c12
         have c12b1 : (a0_7 != a1_7) = true := bne_iff_ne.mpr c12
         exact absurd H (by simp)
       ·rw [if_neg c11] at H
        have c11b0 : (a0_6 == a1_6) = false := beq_eq_false_iff_ne.mpr c11
        have c11b1 : (a0_6 != a1_6) = true := bne_iff_ne.mpr c11
        exact absurd H (by simp)
      ·rw [if_neg c10] at H
       have c10b0 : (a0_5 == a1_5) = false := beq_eq_false_iff_ne.mpr c10
       have c10b1 : (a0_5 != a1_5) = true := bne_iff_ne.mpr c10
       exact absurd H (by simp)
     ·rw [if_neg c9] at H
      have c9b0 : (a0_4 == a1_4) = false := beq_eq_false_iff_ne.mpr c9
      have c9b1 : (a0_4 != a1_4) = true := bne_iff_ne.mpr c9
      exact absurd H (by simp)
    ·rw [if_neg c8] at H
     have c8b0 : (a0_3 == a1_3) = false := beq_eq_false_iff_ne.mpr c8
     have c8b1 : (a0_3 != a1_3) = true := bne_iff_ne.mpr c8
     exact absurd H (by simp)
   ·replace c7 := Bool.eq_false_iff.mpr c7
    subst c7
    replace H := in_ H
    exact absurd H (by simp)
  ·rw [if_neg c5] at H
   have c5b0 : (a0_1 == a1_1) = false := beq_eq_false_iff_ne.mpr c5
   have c5b1 : (a0_1 != a1_1) = true := bne_iff_ne.mpr c5
   exact absurd H (by simp)
 ·replace c4 := Bool.eq_false_iff.mpr c4
  subst c4
  replace H := in_ H
  exact absurd H (by simp)
/-! ### laws_eqTaskS: function 107 -/
def laws_eqTaskS.l0 : Nat → List (S126) → List (S126) → Int → Option (Bool)
 | 0, _, _, _ => none
 | k + 1, x0, x1, x5 => if x5 < (x0.length : Int) then (if 0 ≤ x5 then (if x5 < (x1.length : Int) then ((laws_eqTask.f k ((rd_T126 x0 x5).f0) ((rd_T126 x0 x5).f1) ((rd_T126 x0 x5).f2) ((rd_T126 x0 x5).f3) ((rd_T126 x0 x5).f4) ((rd_T126 x0 x5).f5) ((rd_T126 x0 x5).f6) ((rd_T126 x0 x5).f7) ((rd_T126 x0 x5).f8) ((rd_T126 x1 x5).f0) ((rd_T126 x1 x5).f1) ((rd_T126 x1 x5).f2) ((rd_T126 x1 x5).f3) ((rd_T126 x1 x5).f4) ((rd_T126 x1 x5).f5) ((rd_T126 x1 x5).f6) ((rd_T126 x1 x5).f7) ((rd_T126 x1 x5).f8)).bind fun t399 => (if t399 = true then (laws_eqTaskS.l0 k x0 x1 (wrap64 (x5 + 1))) else (some false))) else (none)) else (none)) else (some true)
def laws_eqTaskS.f (k : Nat) (l0 : List (S126)) (l1 : List (S126)) : Option (Bool) := if (l0.length : Int) = (l1.length : Int) then (laws_eqTaskS.l0 k l0 l1 0) else (some false)
def laws_eqTaskS.T6 : Bool × List (List Nat × List Nat) := (true, [([], []), ([], []), ([0, 1], [0, 1]), ([2], [2]), ([], []), ([], []), ([4, 5], [4, 5]), ([6], [6]), ([3, 7], [3, 7]), ([8], [8])])
def laws_eqTaskS.B6 : List Nat := [0, 0, 3, 7, 0, 0, 48, 112, 255, 511]
theorem laws_eqTaskS.tab6 : rtab .any (opsOf Try.f107 6) = laws_eqTaskS.T6 := by kernel_rfl
theorem laws_eqTaskS.bits6 : waitsOk laws_eqTaskS.T6.2 laws_eqTaskS.B6 = true := by kernel_rfl
set_option maxHeartbeats 8000000 in
set_option maxRecDepth 100000 in
theorem laws_eqTaskS.calls (k : Nat) (A0 : Option Addr) (c0 : Nat) (l0 : List (S126)) (A1 : Option Addr) (c1 : Nat) (l1 : List (S126)) (r : Bool) (w : World) (hr0 : Kd.C k126 w A0 l0.length l0) (hc0 : l0.length ≤ c0) (hr1 : Kd.C k126 w A1 l1.length l1) (hc1 : l1.length ≤ c1) (h : laws_eqTaskS.f k l0 l1 = some true) :
  Calls Try.prog 107 #[.slice A0 l0.length c0, .slice A1 l1.length c1] w fun e w' => e = .returned (.bool true) ∧ Below w.heap.size w w' := by
 have hu126 := Try.underlying126
 have HR0 := Aside0.mk hr0
 have HC0 := Aside0.mk hc0
 clear hr0 hc0
 have HR1 := Aside0.mk hr1
 have HC1 := Aside0.mk hc1
 clear hr1 hc1
 have HB := Aside0.mk (Below.refl w.heap.size w)
 have H : (if (l0.length : Int) = (l1.length : Int) then (laws_eqTaskS.l0 k l0 l1 0) else (some false)) = some true := h
 clear h
 by_cases c3 : (l0.length : Int) = (l1.length : Int)
 ·rw [if_pos c3] at H
  have c3b0 : ((l0.length : Int) == (l1.length : Int)) = true := beq_iff_eq.mpr c3
  have c3b1 : ((l0.length : Int) != (l1.length : Int)) = false := bne_eq_false_iff_eq.mpr c3
  have c3b2 : (l0.length == l1.length) = true := by first | simpa using c3 | (simp at c3 ⊢; omega)
  clear c3
  have H' := Aside0.mk H
  clear H
  go_enter Try.func107, Try.ntmps107
  go_wp2
  go_loopg [5] k (fun kq v5 w' => ∃ (x5_1 : Int), v5 = .int .i64 x5_1 ∧ Aside0 (laws_eqTaskS.l0 kq l0 l1 x5_1 = some true) ∧ Aside0 (kq ≤ k) ∧ Aside0 (Below w.heap.size w w'))
  case atStart => exact ⟨(0), sp_, H', ⟨Nat.le_refl _⟩, ⟨bl_⟩⟩
  case round =>
   clear H'
   try clear c1
   try clear p2
   try clear c3
   try clear c3b0
   try clear c3b1
   try clear c3b2
   obtain ⟨x5_1, rfl, HA, HK1, HB⟩ := hrel
   cases gk with
   | zero => exact absurd HA.out (by simp [laws_eqTaskS.l0])
   | succ k1 =>
    have H := HA.out
    clear HA
    simp only [laws_eqTaskS.l0] at H
    by_cases c4 : x5_1 < (l0.length : Int)
    ·rw [if_pos c4] at H
     have c4b0 : decide (x5_1 < (l0.length : Int)) = true := decide_eq_true c4
     clear c4
     by_cases c5 : 0 ≤ x5_1
     ·rw [if_pos c5] at H
      have c5b0 : decide (0 ≤ x5_1) = true := decide_eq_true c5
      clear c5
      by_cases c6 : x5_1 < (l1.length : Int)
      ·rw [if_pos c6] at H
       have c6b0 : decide (x5_1 < (l1.length : Int)) = true := decide_eq_true c6
       clear c6
       obtain ⟨t399, A7, H⟩ := ob_ H
       by_cases c8 : t399 = true
       ·subst c8
        replace H := ip_ H
        have H' := Aside0.mk H
        clear H
        try go_wp2
        have n0_ := Aside0.mk (below_drew1 HB.out)
        clear HB
        have HB := n0_
        clear n0_
        have p397 : 0 ≤ (x5_1 : Int) := od_
        have q397 : x5_1 < (l0.length : Int) := od_
        obtain ⟨ad397, A397_0, c397_0, A397_2, c397_2, A397_8, c397_8, e397, hx397_0, hx397_1, hx397_2, hx397_3, hx397_4, hx397_5, hx397_6, hx397_7, hx397_8, hl397_0, hi397_0, hl397_2, hi397_2, hl397_8, hi397_8⟩ := at_T126 HR0.out x5_1 p397 q397
        have hw397_8 := hx397_8
        have hw397_7 := hx397_7
        have hw397_6 := hx397_6
        have hw397_5 := hx397_5
        have hw397_4 := hx397_4
        have hw397_3 := hx397_3
        have hw397_2 := hx397_2
        have hw397_1 := hx397_1
        have hw397_0 := hx397_0
        cases e397
        replace hx397_0 := kc_ HB hx397_0
        replace hx397_1 := kc_ HB hx397_1
        replace hx397_2 := kc_ HB hx397_2
        replace hx397_3 := kc_ HB hx397_3
        replace hx397_4 := kc_ HB hx397_4
        replace hx397_5 := kc_ HB hx397_5
        replace hx397_6 := kc_ HB hx397_6
        replace hx397_7 := kc_ HB hx397_7
        replace hx397_8 := kc_ HB hx397_8
        have HR397_0 := Aside0.mk hi397_0
        have HC397_0 := Aside0.mk hl397_0
        clear hi397_0 hl397_0
        have HR397_2 := Aside0.mk hi397_2
        have HC397_2 := Aside0.mk hl397_2
        clear hi397_2 hl397_2
        have HR397_8 := Aside0.mk hi397_8
        have HC397_8 := Aside0.mk hl397_8
        clear hi397_8 hl397_8
        replace p397 := eq_true p397
        replace q397 := eq_true q397
        have p398 : 0 ≤ (x5_1 : Int) := od_
        have q398 : x5_1 < (l1.length : Int) := od_
        obtain ⟨ad398, A398_0, c398_0, A398_2, c398_2, A398_8, c398_8, e398, hx398_0, hx398_1, hx398_2, hx398_3, hx398_4, hx398_5, hx398_6, hx398_7, hx398_8, hl398_0, hi398_0, hl398_2, hi398_2, hl398_8, hi398_8⟩ := at_T126 HR1.out x5_1 p398 q398
        have hw398_8 := hx398_8
        have hw398_7 := hx398_7
        have hw398_6 := hx398_6
        have hw398_5 := hx398_5
        have hw398_4 := hx398_4
        have hw398_3 := hx398_3
        have hw398_2 := hx398_2
        have hw398_1 := hx398_1
        have hw398_0 := hx398_0
        cases e398
        replace hx398_0 := kc_ HB hx398_0
        replace hx398_1 := kc_ HB hx398_1
        replace hx398_2 := kc_ HB hx398_2
        replace hx398_3 := kc_ HB hx398_3
        replace hx398_4 := kc_ HB hx398_4
        replace hx398_5 := kc_ HB hx398_5
        replace hx398_6 := kc_ HB hx398_6
        replace hx398_7 := kc_ HB hx398_7
        replace hx398_8 := kc_ HB hx398_8
        have HR398_0 := Aside0.mk hi398_0
        have HC398_0 := Aside0.mk hl398_0
        clear hi398_0 hl398_0
        have HR398_2 := Aside0.mk hi398_2
        have HC398_2 := Aside0.mk hl398_2
        clear hi398_2 hl398_2
        have HR398_8 := Aside0.mk hi398_8
        have HC398_8 := Aside0.mk hl398_8
        clear hi398_8 hl398_8
        replace p398 := eq_true p398
        replace q398 := eq_true q398
        refine start_ (n := 10) (S := fun w' => w'.cell? (ad397.add ((x5_1).toNat * 9)) = some (.slice A397_0 ((rd_T126 l0 x5_1).f0).length c397_0) ∧ w'.cell? ⟨(ad397.add ((x5_1).toNat * 9)).block, (ad397.add ((x5_1).toNat * 9)).off + 1, none⟩ = some (.int .i64 ((rd_T126 l0 x5_1).f1)) ∧ w'.cell? ⟨(ad397.add ((x5_1).toNat * 9)).block, (ad397.add ((x5_1).toNat * 9)).off + 2, none⟩ = some (.slice A397_2 ((rd_T126 l0 x5_1).f2).length c397_2) ∧ w'.cell? ⟨(ad397.add ((x5_1).toNat * 9)).block, (ad397.add ((x5_1).toNat * 9)).off + 3, none⟩ = some (.int .i64 ((rd_T126 l0 x5_1).f3)) ∧ w'.cell? ⟨(ad397.add ((x5_1).toNat * 9)).block, (ad397.add ((x5_1).toNat * 9)).off + 4, none⟩ = some (.int .i64 ((rd_T126 l0 x5_1).f4)) ∧ w'.cell? ⟨(ad397.add ((x5_1).toNat * 9)).block, (ad397.add ((x5_1).toNat * 9)).off + 5, none⟩ = some (.int .i64 ((rd_T126 l0 x5_1).f5)) ∧ w'.cell? ⟨(ad397.add ((x5_1).toNat * 9)).block, (ad397.add ((x5_1).toNat * 9)).off + 6, none⟩ = some (.int .i64 ((rd_T126 l0 x5_1).f6)) ∧ w'.cell? ⟨(ad397.add ((x5_1).toNat * 9)).block, (ad397.add ((x5_1).toNat * 9)).off + 7, none⟩ = some (.int .i64 ((rd_T126 l0 x5_1).f7)) ∧ w'.cell? ⟨(ad397.add ((x5_1).toNat * 9)).block, (ad397.add ((x5_1).toNat * 9)).off + 8, none⟩ = some (.slice A397_8 ((rd_T126 l0 x5_1).f8).length c397_8) ∧ w'.cell? (ad398.add ((x5_1).toNat * 9)) = some (.slice A398_0 ((rd_T126 l1 x5_1).f0).length c398_0) ∧ w'.cell? ⟨(ad398.add ((x5_1).toNat * 9)).block, (ad398.add ((x5_1).toNat * 9)).off + 1, none⟩ = some (.int .i64 ((rd_T126 l1 x5_1).f1)) ∧ w'.cell? ⟨(ad398.add ((x5_1).toNat * 9)).block, (ad398.add ((x5_1).toNat * 9)).off + 2, none⟩ = some (.slice A398_2 ((rd_T126 l1 x5_1).f2).length c398_2) ∧ w'.cell? ⟨(ad398.add ((x5_1).toNat * 9)).block, (ad398.add ((x5_1).toNat * 9)).off + 3, none⟩ = some (.int .i64 ((rd_T126 l1 x5_1).f3)) ∧ w'.cell? ⟨(ad398.add ((x5_1).toNat * 9)).block, (ad398.add ((x5_1).toNat * 9)).off + 4, none⟩ = some (.int .i64 ((rd_T126 l1 x5_1).f4)) ∧ w'.cell? ⟨(ad398.add ((x5_1).toNat * 9)).block, (ad398.add ((x5_1).toNat * 9)).off + 5, none⟩ = some (.int .i64 ((rd_T126 l1 x5_1).f5)) ∧ w'.cell? ⟨(ad398.add ((x5_1).toNat * 9)).block, (ad398.add ((x5_1).toNat * 9)).off + 6, none⟩ = some (.int .i64 ((rd_T126 l1 x5_1).f6)) ∧ w'.cell? ⟨(ad398.add ((x5_1).toNat * 9)).block, (ad398.add ((x5_1).toNat * 9)).off + 7, none⟩ = some (.int .i64 ((rd_T126 l1 x5_1).f7)) ∧ w'.cell? ⟨(ad398.add ((x5_1).toNat * 9)).block, (ad398.add ((x5_1).toNat * 9)).off + 8, none⟩ = some (.slice A398_8 ((rd_T126 l1 x5_1).f8).length c398_8)) (ds := []) tb10_0_15 (by kernel_rfl) rfl rfl ⟨(kc_ HB hw397_0), (kc_ HB hw397_1), (kc_ HB hw397_2), (kc_ HB hw397_3), (kc_ HB hw397_4), (kc_ HB hw397_5), (kc_ HB hw397_6), (kc_ HB hw397_7), (kc_ HB hw397_8), (kc_ HB hw398_0), (kc_ HB hw398_1), (kc_ HB hw398_2), (kc_ HB hw398_3), (kc_ HB hw398_4), (kc_ HB hw398_5), (kc_ HB hw398_6), (kc_ HB hw398_7), (kc_ HB hw398_8)⟩ (fun hHeld => ?_); refine with_tabW laws_eqTaskS.tab6 laws_eqTaskS.bits6 (fun HT_ HW_ => ?_)
        generalize wr.drew = w9 at HB HR397_0 HR397_2 HR397_8 HR398_0 HR398_2 HR398_8 hx397_0 hx397_1 hx397_2 hx397_3 hx397_4 hx397_5 hx397_6 hx397_7 hx397_8 hx398_0 hx398_1 hx398_2 hx398_3 hx398_4 hx398_5 hx398_6 hx398_7 hx398_8 hHeld ⊢
        refine pl_ HT_ 0 17 tb10_1_15 ?_
        refine pl_ HT_ 1 18 tb10_3_15 ?_
        refine pl_ HT_ 2 19 tb10_7_15 ?_
        refine pl_ HT_ 4 21 tb10_17_15 ?_
        refine pl_ HT_ 5 22 tb10_37_15 ?_
        refine pl_ HT_ 6 23 tb10_77_15 ?_
        refine take_ (i := 3) (N := some 20) (v := ?_) (a' := ?_) tb10_7f_15 rfl rfl (take_ofW HT_.out HW_.out (by kernel_rfl)) (fun _ _ _ h => h) (Or.inl ⟨by rfl, ?_⟩) hHeld ?_ ?_
        rotate_left
        ·rintro w' ⟨s0, s1, s2, s3, s4, s5, s6, s7, s8, s9, s10, s11, s12, s13, s14, s15, s16, s17⟩
         go_simp
         with_reducible rfl
        rotate_left
        ·simp only [Act.put, q_]
         rfl
        refine take_ (i := 7) (N := some 24) (v := ?_) (a' := ?_) tb10_ff_15 rfl rfl (take_ofW HT_.out HW_.out (by kernel_rfl)) (fun _ _ _ h => h) (Or.inl ⟨by rfl, ?_⟩) hHeld ?_ ?_
        rotate_left
        ·rintro w' ⟨s0, s1, s2, s3, s4, s5, s6, s7, s8, s9, s10, s11, s12, s13, s14, s15, s16, s17⟩
         go_simp
         with_reducible rfl
        rotate_left
        ·simp only [Act.put, q_]
         rfl
        refine one_ (i := 8) (N := some 25) tb10_1ff_15 rfl rfl (one_of HT_.out (by kernel_rfl)) (by decide) (fun K hK => ?_)
        refine goes_ Try.func160 (by kernel_rfl) rfl #[.agg #[.slice A397_0 ((rd_T126 l0 x5_1).f0).length c397_0, .int .i64 ((rd_T126 l0 x5_1).f1), .slice A397_2 ((rd_T126 l0 x5_1).f2).length c397_2, .int .i64 ((rd_T126 l0 x5_1).f3), .int .i64 ((rd_T126 l0 x5_1).f4), .int .i64 ((rd_T126 l0 x5_1).f5), .int .i64 ((rd_T126 l0 x5_1).f6), .int .i64 ((rd_T126 l0 x5_1).f7), .slice A397_8 ((rd_T126 l0 x5_1).f8).length c397_8], .agg #[.slice A398_0 ((rd_T126 l1 x5_1).f0).length c398_0, .int .i64 ((rd_T126 l1 x5_1).f1), .slice A398_2 ((rd_T126 l1 x5_1).f2).length c398_2, .int .i64 ((rd_T126 l1 x5_1).f3), .int .i64 ((rd_T126 l1 x5_1).f4), .int .i64 ((rd_T126 l1 x5_1).f5), .int .i64 ((rd_T126 l1 x5_1).f6), .int .i64 ((rd_T126 l1 x5_1).f7), .slice A398_8 ((rd_T126 l1 x5_1).f8).length c398_8]] (by rfl) rfl rfl gl_ ?_
        with_reducible refine (laws_eqTask.calls k1 _ _ ((rd_T126 l0 x5_1).f0) ((rd_T126 l0 x5_1).f1) _ _ ((rd_T126 l0 x5_1).f2) ((rd_T126 l0 x5_1).f3) ((rd_T126 l0 x5_1).f4) ((rd_T126 l0 x5_1).f5) ((rd_T126 l0 x5_1).f6) ((rd_T126 l0 x5_1).f7) _ _ ((rd_T126 l0 x5_1).f8) _ _ ((rd_T126 l1 x5_1).f0) ((rd_T126 l1 x5_1).f1) _ _ ((rd_T126 l1 x5_1).f2) ((rd_T126 l1 x5_1).f3) ((rd_T126 l1 x5_1).f4) ((rd_T126 l1 x5_1).f5) ((rd_T126 l1 x5_1).f6) ((rd_T126 l1 x5_1).f7) _ _ ((rd_T126 l1 x5_1).f8) true _ ?side1 ?side2 ?side3 ?side4 ?side5 ?side6 ?side7 ?side8 ?side9 ?side10 ?side11 ?side12 A7.out).mono ?_
        (case side1 => exact ca_ (Kd.C_below HR397_0.out HB.out))
        (case side2 => exact HC397_0.out)
        (case side3 => exact ca_ (Kd.C_below HR397_2.out HB.out))
        (case side4 => exact HC397_2.out)
        (case side5 => exact ca_ (Kd.C_below HR397_8.out HB.out))
        (case side6 => exact HC397_8.out)
        (case side7 => exact ca_ (Kd.C_below HR398_0.out HB.out))
        (case side8 => exact HC398_0.out)
        (case side9 => exact ca_ (Kd.C_below HR398_2.out HB.out))
        (case side10 => exact HC398_2.out)
        (case side11 => exact ca_ (Kd.C_below HR398_8.out HB.out))
        (case side12 => exact HC398_8.out)
        rintro e w10 ⟨rfl, hb⟩
        refine ⟨_, rfl, ?_⟩
        have n0_ := Aside0.mk (below_step bl_ hb)
        clear HB
        have HB := n0_
        clear n0_
        (try clear hb)
        (try clear hb2)
        (try clear hk)
        (try clear hi)
        refine hK.out _ _ ⟨(kc_ HB hw397_0), (kc_ HB hw397_1), (kc_ HB hw397_2), (kc_ HB hw397_3), (kc_ HB hw397_4), (kc_ HB hw397_5), (kc_ HB hw397_6), (kc_ HB hw397_7), (kc_ HB hw397_8), (kc_ HB hw398_0), (kc_ HB hw398_1), (kc_ HB hw398_2), (kc_ HB hw398_3), (kc_ HB hw398_4), (kc_ HB hw398_5), (kc_ HB hw398_6), (kc_ HB hw398_7), (kc_ HB hw398_8)⟩ (fun hHeld => ?_)
        clear hK K
        refine norm_ (a' := ?_) ?_ ?_
        rotate_left
        ·show Act.put _ (some 25) _ = _
         simp only [Act.put, q_]
         rfl
        refine pl_ HT_ 9 26 tb10_3ff_15 ?_
        refine done_ (done_of HT_.out (by kernel_rfl)) ?_
        try go_wp2
        go_roundg k1
        case measure => have := HK1.out; omega
        case rel => exact ⟨(wrap64 (x5_1 + 1)), sp_, H', ⟨by have := HK1.out; omega⟩, ⟨bl_⟩⟩
       ·replace c8 := Bool.eq_false_iff.mpr c8
        subst c8
        replace H := in_ H
        exact absurd H (by simp)
      ·rw [if_neg c6] at H
       exact absurd H (by simp)
     ·rw [if_neg c5] at H
      exact absurd H (by simp)
    ·rw [if_neg c4] at H
     have c4b0 : decide (x5_1 < (l0.length : Int)) = false := decide_eq_false c4
     clear c4
     clear H
     go_wp2
     go_ret
     exact ⟨sq_, bl_⟩
 ·rw [if_neg c3] at H
  have c3b0 : ((l0.length : Int) == (l1.length : Int)) = false := beq_eq_false_iff_ne.mpr c3
  have c3b1 : ((l0.length : Int) != (l1.length : Int)) = true := bne_iff_ne.mpr c3
  have c3b2 : (l0.length == l1.length) = false := by first | simpa using c3 | (simp at c3 ⊢; omega)
  exact absurd H (by simp)
/-! ### laws_eqWorld: function 35 -/
def laws_eqWorld.f (k : Nat) (l0_0 : List (S121)) (a0_1 : Int) (a0_2 : Int) (l0_3 : List (S126)) (l1_0 : List (S121)) (a1_1 : Int) (a1_2 : Int) (l1_3 : List (S126)) : Option (Bool) := (laws_eqStripeS.f k l0_0 l1_0).bind fun t402 => (if t402 = true then (if a0_1 = a1_1 then (if a0_2 = a1_2 then ((laws_eqTaskS.f k l0_3 l1_3).bind fun t403 => (if t403 = true then (some true) else (some false))) else (some false)) else (some false)) else (some false))
set_option maxHeartbeats 8000000 in
set_option maxRecDepth 100000 in
theorem laws_eqWorld.calls (k : Nat) (A0_0 : Option Addr) (c0_0 : Nat) (l0_0 : List (S121)) (a0_1 : Int) (a0_2 : Int) (A0_3 : Option Addr) (c0_3 : Nat) (l0_3 : List (S126)) (A1_0 : Option Addr) (c1_0 : Nat) (l1_0 : List (S121)) (a1_1 : Int) (a1_2 : Int) (A1_3 : Option Addr) (c1_3 : Nat) (l1_3 : List (S126)) (r : Bool) (w : World) (hr0_0 : Kd.C k121 w A0_0 l0_0.length l0_0) (hc0_0 : l0_0.length ≤ c0_0) (hr0_3 : Kd.C k126 w A0_3 l0_3.length l0_3) (hc0_3 : l0_3.length ≤ c0_3) (hr1_0 : Kd.C k121 w A1_0 l1_0.length l1_0) (hc1_0 : l1_0.length ≤ c1_0) (hr1_3 : Kd.C k126 w A1_3 l1_3.length l1_3) (hc1_3 : l1_3.length ≤ c1_3) (h : laws_eqWorld.f k l0_0 a0_1 a0_2 l0_3 l1_0 a1_1 a1_2 l1_3 = some true) :
  Calls Try.prog 35 #[.agg #[.slice A0_0 l0_0.length c0_0, .int .i64 a0_1, .int .i64 a0_2, .slice A0_3 l0_3.length c0_3], .agg #[.slice A1_0 l1_0.length c1_0, .int .i64 a1_1, .int .i64 a1_2, .slice A1_3 l1_3.length c1_3]] w fun e w' => e = .returned (.bool true) ∧ Below w.heap.size w w' := by
 have hu56 := Try.underlying56
 have HR0_0 := Aside0.mk hr0_0
 have HC0_0 := Aside0.mk hc0_0
 clear hr0_0 hc0_0
 have HR0_3 := Aside0.mk hr0_3
 have HC0_3 := Aside0.mk hc0_3
 clear hr0_3 hc0_3
 have HR1_0 := Aside0.mk hr1_0
 have HC1_0 := Aside0.mk hc1_0
 clear hr1_0 hc1_0
 have HR1_3 := Aside0.mk hr1_3
 have HC1_3 := Aside0.mk hc1_3
 clear hr1_3 hc1_3
 have HB := Aside0.mk (Below.refl w.heap.size w)
 have H : ((laws_eqStripeS.f k l0_0 l1_0).bind fun t402 => (if t402 = true then (if a0_1 = a1_1 then (if a0_2 = a1_2 then ((laws_eqTaskS.f k l0_3 l1_3).bind fun t403 => (if t403 = true then (some true) else (some false))) else (some false)) else (some false)) else (some false))) = some true := h
 clear h
 obtain ⟨t402, A3, H⟩ := ob_ H
 by_cases c4 : t402 = true
 ·subst c4
  replace H := ip_ H
  by_cases c5 : a0_1 = a1_1
  ·rw [if_pos c5] at H
   have c5b0 : (a0_1 == a1_1) = true := beq_iff_eq.mpr c5
   have c5b1 : (a0_1 != a1_1) = false := bne_eq_false_iff_eq.mpr c5
   clear c5
   by_cases c6 : a0_2 = a1_2
   ·rw [if_pos c6] at H
    have c6b0 : (a0_2 == a1_2) = true := beq_iff_eq.mpr c6
    have c6b1 : (a0_2 != a1_2) = false := bne_eq_false_iff_eq.mpr c6
    clear c6
    obtain ⟨t403, A7, H⟩ := ob_ H
    by_cases c8 : t403 = true
    ·subst c8
     have H1 : (some true) = some true := rfl
     clear H
     have H := H1
     clear H1
     clear H
     go_enter Try.func35, Try.ntmps35
     go_wp2_with (first | ((with_reducible refine gate_dst (N := 2) rfl ?_); refine be_ (N := 2) (cs := #[.slice A0_0 l0_0.length c0_0, .int .i64 a0_1, .int .i64 a0_2, .slice A0_3 l0_3.length c0_3]) (t := 56) ?_; intro gb400 hg w9 hbox hb; have BK400 := Aside0.mk (hbox); have GW400 := gw_ (w := w) hg; have GE400 := gw_ (w := w) hg; replace HB := Aside0.mk (below_step bl_ hb); clear hb hbox hg) | ((with_reducible refine gate_dst (N := 3) rfl ?_); refine be_ (N := 3) (cs := #[.slice A1_0 l1_0.length c1_0, .int .i64 a1_1, .int .i64 a1_2, .slice A1_3 l1_3.length c1_3]) (t := 56) ?_; intro gb401 hg w10 hbox hb; have BK401 := Aside0.mk (hbox); have GW401 := gw_ (w := w) hg; have GE401 := gw_ (w := w) hg; replace HB := Aside0.mk (below_step bl_ hb); have NB400_401 := Aside0.mk ((by rw [hg]; exact Nat.ne_of_lt (blk_lt (bk_ BK400)) : gb400 ≠ gb401)); have NB401_400 := Aside0.mk ((by rw [hg]; exact Nat.ne_of_gt (blk_lt (bk_ BK400)) : gb401 ≠ gb400)); replace BK400 := Aside0.mk (blk_below (bk_ BK400) hb); clear hb hbox hg; have hnb11 := NB400_401.out; have hnc11 := NB401_400.out; obtain ⟨hcz12_0, hcz12_1, hcz12_2, hcz12_3, hfz12_0, hfz12_1, hfz12_2, hfz12_3⟩ := bx4_ BK400; obtain ⟨hcz13_0, hcz13_1, hcz13_2, hcz13_3, hfz13_0, hfz13_1, hfz13_2, hfz13_3⟩ := bx4_ BK401) | ((with_reducible refine gate_callee (f := 106) rfl ?_); refine goesL_ (some 9) rfl rfl Try.func106 (by kernel_rfl) rfl #[.slice A0_0 l0_0.length c0_0, .slice A1_0 l1_0.length c1_0] rfl gl_ ?_; (with_reducible refine (laws_eqStripeS.calls k _ _ l0_0 _ _ l1_0 true _ ?side1 ?side2 ?side3 ?side4 A3.out).mono ?_); (case side1 => exact ca_ (Kd.C_below HR0_0.out HB.out)); (case side2 => exact HC0_0.out); (case side3 => exact ca_ (Kd.C_below HR1_0.out HB.out)); (case side4 => exact HC1_0.out); rintro e w14 ⟨rfl, hb⟩; refine ⟨_, rfl, ?_⟩; replace BK400 := Aside0.mk (blk_below (bk_ BK400) hb); replace BK401 := Aside0.mk (blk_below (bk_ BK401) hb); replace HB := Aside0.mk (below_step bl_ hb); (try clear hb); (try clear hb2); (try clear hk); (try clear hi); obtain ⟨hcz15_0, hcz15_1, hcz15_2, hcz15_3, hfz15_0, hfz15_1, hfz15_2, hfz15_3⟩ := bx4_ BK400; obtain ⟨hcz16_0, hcz16_1, hcz16_2, hcz16_3, hfz16_0, hfz16_1, hfz16_2, hfz16_3⟩ := bx4_ BK401) | ((with_reducible refine gate_callee (f := 107) rfl ?_); refine goesL_ (some 25) rfl rfl Try.func107 (by kernel_rfl) rfl #[.slice A0_3 l0_3.length c0_3, .slice A1_3 l1_3.length c1_3] rfl gl_ ?_; (with_reducible refine (laws_eqTaskS.calls k _ _ l0_3 _ _ l1_3 true _ ?side1 ?side2 ?side3 ?side4 A7.out).mono ?_); (case side1 => exact ca_ (Kd.C_below HR0_3.out HB.out)); (case side2 => exact HC0_3.out); (case side3 => exact ca_ (Kd.C_below HR1_3.out HB.out)); (case side4 => exact HC1_3.out); rintro e w17 ⟨rfl, hb⟩; refine ⟨_, rfl, ?_⟩; replace BK400 := Aside0.mk (blk_below (bk_ BK400) hb); replace BK401 := Aside0.mk (blk_below (bk_ BK401) hb); replace HB := Aside0.mk (below_step bl_ hb); (try clear hb); (try clear hb2); (try clear hk); (try clear hi)))
     go_ret
     exact ⟨sq_, bl_⟩
    ·replace c8 := Bool.eq_false_iff.mpr c8
     subst c8
     replace H := in_ H
     exact absurd H (by simp)
   ·rw [if_neg c6] at H
    have c6b0 : (a0_2 == a1_2) = false := beq_eq_false_iff_ne.mpr c6
    have c6b1 : (a0_2 != a1_2) = true := bne_iff_ne.mpr c6
    exact absurd H (by simp)
  ·rw [if_neg c5] at H
   have c5b0 : (a0_1 == a1_1) = false := beq_eq_false_iff_ne.mpr c5
   have c5b1 : (a0_1 != a1_1) = true := bne_iff_ne.mpr c5
   exact absurd H (by simp)
 ·replace c4 := Bool.eq_false_iff.mpr c4
  subst c4
  replace H := in_ H
  exact absurd H (by simp)
end Go.Proofs.Ytepjnalkpfnmcaa.QFnExactWorldSame
