-- by my own printer (myprint.py, over the kit's print.py)
import Derived.Test.YtepjnalkpfnmcaaQFnExactEventsOfx0
import Derived.Test.YtepjnalkpfnmcaaQFnExactEventsOfx7
namespace Go.Proofs.Ytepjnalkpfnmcaa.QFnExactEventsOf
open Go.RowKit Go.Proofs.YtepjnalkpfnmcaaW.PrintWords Go.Proofs.YtepjnalkpfnmcaaW.PrintLast Go.Proofs.YtepjnalkpfnmcaaW.PrintMore
attribute [local go_sem] max2_int min2_int max_two min_two max_three min_three max_four min_four   -- for this text's walks alone
set_option linter.unusedVariables false
set_option linter.unusedSimpArgs false
attribute [local go_sem] my_geq my_leq my_gtr
abbrev tb10_0_8 : Array Bool := #[b0, b0, b0, b0, b0, b0, b0, b0, b0, b0]
abbrev tb10_1_8 : Array Bool := #[b1, b0, b0, b0, b0, b0, b0, b0, b0, b0]
abbrev tb10_17_8 : Array Bool := #[b1, b1, b1, b0, b1, b0, b0, b0, b0, b0]
abbrev tb10_1ff_8 : Array Bool := #[b1, b1, b1, b1, b1, b1, b1, b1, b1, b0]
abbrev tb10_3_8 : Array Bool := #[b1, b1, b0, b0, b0, b0, b0, b0, b0, b0]
abbrev tb10_37_8 : Array Bool := #[b1, b1, b1, b0, b1, b1, b0, b0, b0, b0]
abbrev tb10_3ff_8 : Array Bool := #[b1, b1, b1, b1, b1, b1, b1, b1, b1, b1]
abbrev tb10_7_8 : Array Bool := #[b1, b1, b1, b0, b0, b0, b0, b0, b0, b0]
abbrev tb10_77_8 : Array Bool := #[b1, b1, b1, b0, b1, b1, b1, b0, b0, b0]
abbrev tb10_7f_8 : Array Bool := #[b1, b1, b1, b1, b1, b1, b1, b0, b0, b0]
abbrev tb10_ff_8 : Array Bool := #[b1, b1, b1, b1, b1, b1, b1, b1, b0, b0]
/-! ### laws_eqTaskS: function 107 -/
def laws_eqTaskS.l0 : Nat → List (S126) → List (S126) → Int → Option (Bool)
 | 0, _, _, _ => none
 | k + 1, x0, x1, x5 => if x5 < (x0.length : Int) then (if 0 ≤ x5 then (if x5 < (x1.length : Int) then ((laws_eqTask.f k ((rd_T126 x0 x5).f0) ((rd_T126 x0 x5).f1) ((rd_T126 x0 x5).f2) ((rd_T126 x0 x5).f3) ((rd_T126 x0 x5).f4) ((rd_T126 x0 x5).f5) ((rd_T126 x0 x5).f6) ((rd_T126 x0 x5).f7) ((rd_T126 x0 x5).f8) ((rd_T126 x1 x5).f0) ((rd_T126 x1 x5).f1) ((rd_T126 x1 x5).f2) ((rd_T126 x1 x5).f3) ((rd_T126 x1 x5).f4) ((rd_T126 x1 x5).f5) ((rd_T126 x1 x5).f6) ((rd_T126 x1 x5).f7) ((rd_T126 x1 x5).f8)).bind fun t313 => (if t313 = true then (laws_eqTaskS.l0 k x0 x1 (wrap64 (x5 + 1))) else (some false))) else (none)) else (none)) else (some true)
def laws_eqTaskS.f (k : Nat) (l0 : List (S126)) (l1 : List (S126)) : Option (Bool) := if (l0.length : Int) = (l1.length : Int) then (laws_eqTaskS.l0 k l0 l1 0) else (some false)
def laws_eqTaskS.T6 : Bool × List (List Nat × List Nat) := (true, [([], []), ([], []), ([0, 1], [0, 1]), ([2], [2]), ([], []), ([], []), ([4, 5], [4, 5]), ([6], [6]), ([3, 7], [3, 7]), ([8], [8])])
def laws_eqTaskS.B6 : List Nat := [0, 0, 3, 7, 0, 0, 48, 112, 255, 511]
theorem laws_eqTaskS.tab6 : rtab .any (opsOf Try.f107 6) = laws_eqTaskS.T6 := by kernel_rfl
theorem laws_eqTaskS.bits6 : waitsOk laws_eqTaskS.T6.2 laws_eqTaskS.B6 = true := by kernel_rfl
set_option maxHeartbeats 8000000 in
set_option maxRecDepth 100000 in
theorem laws_eqTaskS.calls (k : Nat) (A0 : Option Addr) (c0 : Nat) (l0 : List (S126)) (A1 : Option Addr) (c1 : Nat) (l1 : List (S126)) (r : Bool) (w : World) (hr0 : Kd.C k126 w A0 l0.length l0) (hc0 : l0.length ≤ c0) (hr1 : Kd.C k126 w A1 l1.length l1) (hc1 : l1.length ≤ c1) (h : laws_eqTaskS.f k l0 l1 = some r) :
  Calls Try.prog 107 #[.slice A0 l0.length c0, .slice A1 l1.length c1] w fun e w' => e = .returned (.bool r) ∧ Below w.heap.size w w' := by
 have hu126 := Try.underlying126
 have HR0 := Aside0.mk hr0
 have HC0 := Aside0.mk hc0
 clear hr0 hc0
 have HR1 := Aside0.mk hr1
 have HC1 := Aside0.mk hc1
 clear hr1 hc1
 have HB := Aside0.mk (Below.refl w.heap.size w)
 have H : (if (l0.length : Int) = (l1.length : Int) then (laws_eqTaskS.l0 k l0 l1 0) else (some false)) = some r := h
 clear h
 by_cases c3 : (l0.length : Int) = (l1.length : Int)
 ·rw [if_pos c3] at H
  have c3b0 : ((l0.length : Int) == (l1.length : Int)) = true := beq_iff_eq.mpr c3
  have c3b1 : ((l0.length : Int) != (l1.length : Int)) = false := bne_eq_false_iff_eq.mpr c3
  have c3b2 : (l0.length == l1.length) = true := by first | simpa using c3 | (simp at c3 ⊢; omega)
  clear c3
  have H' := Aside0.mk H
  clear H
  go_enter Try.func107, Try.ntmps107
  go_wp2
  go_loopg [5] k (fun kq v5 w' => ∃ (x5_1 : Int), v5 = .int .i64 x5_1 ∧ Aside0 (laws_eqTaskS.l0 kq l0 l1 x5_1 = some r) ∧ Aside0 (kq ≤ k) ∧ Aside0 (Below w.heap.size w w'))
  case atStart => exact ⟨(0), sp_, H', ⟨Nat.le_refl _⟩, ⟨bl_⟩⟩
  case round =>
   clear H'
   try clear c1
   try clear p2
   try clear c3
   try clear c3b0
   try clear c3b1
   try clear c3b2
   obtain ⟨x5_1, rfl, HA, HK1, HB⟩ := hrel
   cases gk with
   | zero => exact absurd HA.out (by simp [laws_eqTaskS.l0])
   | succ k1 =>
    have H := HA.out
    clear HA
    simp only [laws_eqTaskS.l0] at H
    by_cases c4 : x5_1 < (l0.length : Int)
    ·rw [if_pos c4] at H
     have c4b0 : decide (x5_1 < (l0.length : Int)) = true := decide_eq_true c4
     clear c4
     by_cases c5 : 0 ≤ x5_1
     ·rw [if_pos c5] at H
      have c5b0 : decide (0 ≤ x5_1) = true := decide_eq_true c5
      clear c5
      by_cases c6 : x5_1 < (l1.length : Int)
      ·rw [if_pos c6] at H
       have c6b0 : decide (x5_1 < (l1.length : Int)) = true := decide_eq_true c6
       clear c6
       obtain ⟨t313, A7, H⟩ := ob_ H
       by_cases c8 : t313 = true
       ·subst c8
        replace H := ip_ H
        have H' := Aside0.mk H
        clear H
        try go_wp2
        have n0_ := Aside0.mk (below_drew1 HB.out)
        clear HB
        have HB := n0_
        clear n0_
        have p311 : 0 ≤ (x5_1 : Int) := od_
        have q311 : x5_1 < (l0.length : Int) := od_
        obtain ⟨ad311, A311_0, c311_0, A311_2, c311_2, A311_8, c311_8, e311, hx311_0, hx311_1, hx311_2, hx311_3, hx311_4, hx311_5, hx311_6, hx311_7, hx311_8, hl311_0, hi311_0, hl311_2, hi311_2, hl311_8, hi311_8⟩ := at_T126 HR0.out x5_1 p311 q311
        have hw311_8 := hx311_8
        have hw311_7 := hx311_7
        have hw311_6 := hx311_6
        have hw311_5 := hx311_5
        have hw311_4 := hx311_4
        have hw311_3 := hx311_3
        have hw311_2 := hx311_2
        have hw311_1 := hx311_1
        have hw311_0 := hx311_0
        cases e311
        replace hx311_0 := kc_ HB hx311_0
        replace hx311_1 := kc_ HB hx311_1
        replace hx311_2 := kc_ HB hx311_2
        replace hx311_3 := kc_ HB hx311_3
        replace hx311_4 := kc_ HB hx311_4
        replace hx311_5 := kc_ HB hx311_5
        replace hx311_6 := kc_ HB hx311_6
        replace hx311_7 := kc_ HB hx311_7
        replace hx311_8 := kc_ HB hx311_8
        have HR311_0 := Aside0.mk hi311_0
        have HC311_0 := Aside0.mk hl311_0
        clear hi311_0 hl311_0
        have HR311_2 := Aside0.mk hi311_2
        have HC311_2 := Aside0.mk hl311_2
        clear hi311_2 hl311_2
        have HR311_8 := Aside0.mk hi311_8
        have HC311_8 := Aside0.mk hl311_8
        clear hi311_8 hl311_8
        replace p311 := eq_true p311
        replace q311 := eq_true q311
        have p312 : 0 ≤ (x5_1 : Int) := od_
        have q312 : x5_1 < (l1.length : Int) := od_
        obtain ⟨ad312, A312_0, c312_0, A312_2, c312_2, A312_8, c312_8, e312, hx312_0, hx312_1, hx312_2, hx312_3, hx312_4, hx312_5, hx312_6, hx312_7, hx312_8, hl312_0, hi312_0, hl312_2, hi312_2, hl312_8, hi312_8⟩ := at_T126 HR1.out x5_1 p312 q312
        have hw312_8 := hx312_8
        have hw312_7 := hx312_7
        have hw312_6 := hx312_6
        have hw312_5 := hx312_5
        have hw312_4 := hx312_4
        have hw312_3 := hx312_3
        have hw312_2 := hx312_2
        have hw312_1 := hx312_1
        have hw312_0 := hx312_0
        cases e312
        replace hx312_0 := kc_ HB hx312_0
        replace hx312_1 := kc_ HB hx312_1
        replace hx312_2 := kc_ HB hx312_2
        replace hx312_3 := kc_ HB hx312_3
        replace hx312_4 := kc_ HB hx312_4
        replace hx312_5 := kc_ HB hx312_5
        replace hx312_6 := kc_ HB hx312_6
        replace hx312_7 := kc_ HB hx312_7
        replace hx312_8 := kc_ HB hx312_8
        have HR312_0 := Aside0.mk hi312_0
        have HC312_0 := Aside0.mk hl312_0
        clear hi312_0 hl312_0
        have HR312_2 := Aside0.mk hi312_2
        have HC312_2 := Aside0.mk hl312_2
        clear hi312_2 hl312_2
        have HR312_8 := Aside0.mk hi312_8
        have HC312_8 := Aside0.mk hl312_8
        clear hi312_8 hl312_8
        replace p312 := eq_true p312
        replace q312 := eq_true q312
        refine start_ (n := 10) (S := fun w' => w'.cell? (ad311.add ((x5_1).toNat * 9)) = some (.slice A311_0 ((rd_T126 l0 x5_1).f0).length c311_0) ∧ w'.cell? ⟨(ad311.add ((x5_1).toNat * 9)).block, (ad311.add ((x5_1).toNat * 9)).off + 1, none⟩ = some (.int .i64 ((rd_T126 l0 x5_1).f1)) ∧ w'.cell? ⟨(ad311.add ((x5_1).toNat * 9)).block, (ad311.add ((x5_1).toNat * 9)).off + 2, none⟩ = some (.slice A311_2 ((rd_T126 l0 x5_1).f2).length c311_2) ∧ w'.cell? ⟨(ad311.add ((x5_1).toNat * 9)).block, (ad311.add ((x5_1).toNat * 9)).off + 3, none⟩ = some (.int .i64 ((rd_T126 l0 x5_1).f3)) ∧ w'.cell? ⟨(ad311.add ((x5_1).toNat * 9)).block, (ad311.add ((x5_1).toNat * 9)).off + 4, none⟩ = some (.int .i64 ((rd_T126 l0 x5_1).f4)) ∧ w'.cell? ⟨(ad311.add ((x5_1).toNat * 9)).block, (ad311.add ((x5_1).toNat * 9)).off + 5, none⟩ = some (.int .i64 ((rd_T126 l0 x5_1).f5)) ∧ w'.cell? ⟨(ad311.add ((x5_1).toNat * 9)).block, (ad311.add ((x5_1).toNat * 9)).off + 6, none⟩ = some (.int .i64 ((rd_T126 l0 x5_1).f6)) ∧ w'.cell? ⟨(ad311.add ((x5_1).toNat * 9)).block, (ad311.add ((x5_1).toNat * 9)).off + 7, none⟩ = some (.int .i64 ((rd_T126 l0 x5_1).f7)) ∧ w'.cell? ⟨(ad311.add ((x5_1).toNat * 9)).block, (ad311.add ((x5_1).toNat * 9)).off + 8, none⟩ = some (.slice A311_8 ((rd_T126 l0 x5_1).f8).length c311_8) ∧ w'.cell? (ad312.add ((x5_1).toNat * 9)) = some (.slice A312_0 ((rd_T126 l1 x5_1).f0).length c312_0) ∧ w'.cell? ⟨(ad312.add ((x5_1).toNat * 9)).block, (ad312.add ((x5_1).toNat * 9)).off + 1, none⟩ = some (.int .i64 ((rd_T126 l1 x5_1).f1)) ∧ w'.cell? ⟨(ad312.add ((x5_1).toNat * 9)).block, (ad312.add ((x5_1).toNat * 9)).off + 2, none⟩ = some (.slice A312_2 ((rd_T126 l1 x5_1).f2).length c312_2) ∧ w'.cell? ⟨(ad312.add ((x5_1).toNat * 9)).block, (ad312.add ((x5_1).toNat * 9)).off + 3, none⟩ = some (.int .i64 ((rd_T126 l1 x5_1).f3)) ∧ w'.cell? ⟨(ad312.add ((x5_1).toNat * 9)).block, (ad312.add ((x5_1).toNat * 9)).off + 4, none⟩ = some (.int .i64 ((rd_T126 l1 x5_1).f4)) ∧ w'.cell? ⟨(ad312.add ((x5_1).toNat * 9)).block, (ad312.add ((x5_1).toNat * 9)).off + 5, none⟩ = some (.int .i64 ((rd_T126 l1 x5_1).f5)) ∧ w'.cell? ⟨(ad312.add ((x5_1).toNat * 9)).block, (ad312.add ((x5_1).toNat * 9)).off + 6, none⟩ = some (.int .i64 ((rd_T126 l1 x5_1).f6)) ∧ w'.cell? ⟨(ad312.add ((x5_1).toNat * 9)).block, (ad312.add ((x5_1).toNat * 9)).off + 7, none⟩ = some (.int .i64 ((rd_T126 l1 x5_1).f7)) ∧ w'.cell? ⟨(ad312.add ((x5_1).toNat * 9)).block, (ad312.add ((x5_1).toNat * 9)).off + 8, none⟩ = some (.slice A312_8 ((rd_T126 l1 x5_1).f8).length c312_8)) (ds := []) tb10_0_8 (by kernel_rfl) rfl rfl ⟨(kc_ HB hw311_0), (kc_ HB hw311_1), (kc_ HB hw311_2), (kc_ HB hw311_3), (kc_ HB hw311_4), (kc_ HB hw311_5), (kc_ HB hw311_6), (kc_ HB hw311_7), (kc_ HB hw311_8), (kc_ HB hw312_0), (kc_ HB hw312_1), (kc_ HB hw312_2), (kc_ HB hw312_3), (kc_ HB hw312_4), (kc_ HB hw312_5), (kc_ HB hw312_6), (kc_ HB hw312_7), (kc_ HB hw312_8)⟩ (fun hHeld => ?_); refine with_tabW laws_eqTaskS.tab6 laws_eqTaskS.bits6 (fun HT_ HW_ => ?_)
        generalize wr.drew = w9 at HB HR311_0 HR311_2 HR311_8 HR312_0 HR312_2 HR312_8 hx311_0 hx311_1 hx311_2 hx311_3 hx311_4 hx311_5 hx311_6 hx311_7 hx311_8 hx312_0 hx312_1 hx312_2 hx312_3 hx312_4 hx312_5 hx312_6 hx312_7 hx312_8 hHeld ⊢
        refine pl_ HT_ 0 17 tb10_1_8 ?_
        refine pl_ HT_ 1 18 tb10_3_8 ?_
        refine pl_ HT_ 2 19 tb10_7_8 ?_
        refine pl_ HT_ 4 21 tb10_17_8 ?_
        refine pl_ HT_ 5 22 tb10_37_8 ?_
        refine pl_ HT_ 6 23 tb10_77_8 ?_
        refine take_ (i := 3) (N := some 20) (v := ?_) (a' := ?_) tb10_7f_8 rfl rfl (take_ofW HT_.out HW_.out (by kernel_rfl)) (fun _ _ _ h => h) (Or.inl ⟨by rfl, ?_⟩) hHeld ?_ ?_
        rotate_left
        ·rintro w' ⟨s0, s1, s2, s3, s4, s5, s6, s7, s8, s9, s10, s11, s12, s13, s14, s15, s16, s17⟩
         go_simp
         with_reducible rfl
        rotate_left
        ·simp only [Act.put, q_]
         rfl
        refine take_ (i := 7) (N := some 24) (v := ?_) (a' := ?_) tb10_ff_8 rfl rfl (take_ofW HT_.out HW_.out (by kernel_rfl)) (fun _ _ _ h => h) (Or.inl ⟨by rfl, ?_⟩) hHeld ?_ ?_
        rotate_left
        ·rintro w' ⟨s0, s1, s2, s3, s4, s5, s6, s7, s8, s9, s10, s11, s12, s13, s14, s15, s16, s17⟩
         go_simp
         with_reducible rfl
        rotate_left
        ·simp only [Act.put, q_]
         rfl
        refine one_ (i := 8) (N := some 25) tb10_1ff_8 rfl rfl (one_of HT_.out (by kernel_rfl)) (by decide) (fun K hK => ?_)
        refine goes_ Try.func160 (by kernel_rfl) rfl #[.agg #[.slice A311_0 ((rd_T126 l0 x5_1).f0).length c311_0, .int .i64 ((rd_T126 l0 x5_1).f1), .slice A311_2 ((rd_T126 l0 x5_1).f2).length c311_2, .int .i64 ((rd_T126 l0 x5_1).f3), .int .i64 ((rd_T126 l0 x5_1).f4), .int .i64 ((rd_T126 l0 x5_1).f5), .int .i64 ((rd_T126 l0 x5_1).f6), .int .i64 ((rd_T126 l0 x5_1).f7), .slice A311_8 ((rd_T126 l0 x5_1).f8).length c311_8], .agg #[.slice A312_0 ((rd_T126 l1 x5_1).f0).length c312_0, .int .i64 ((rd_T126 l1 x5_1).f1), .slice A312_2 ((rd_T126 l1 x5_1).f2).length c312_2, .int .i64 ((rd_T126 l1 x5_1).f3), .int .i64 ((rd_T126 l1 x5_1).f4), .int .i64 ((rd_T126 l1 x5_1).f5), .int .i64 ((rd_T126 l1 x5_1).f6), .int .i64 ((rd_T126 l1 x5_1).f7), .slice A312_8 ((rd_T126 l1 x5_1).f8).length c312_8]] (by rfl) rfl rfl gl_ ?_
        with_reducible refine (laws_eqTask.calls k1 _ _ ((rd_T126 l0 x5_1).f0) ((rd_T126 l0 x5_1).f1) _ _ ((rd_T126 l0 x5_1).f2) ((rd_T126 l0 x5_1).f3) ((rd_T126 l0 x5_1).f4) ((rd_T126 l0 x5_1).f5) ((rd_T126 l0 x5_1).f6) ((rd_T126 l0 x5_1).f7) _ _ ((rd_T126 l0 x5_1).f8) _ _ ((rd_T126 l1 x5_1).f0) ((rd_T126 l1 x5_1).f1) _ _ ((rd_T126 l1 x5_1).f2) ((rd_T126 l1 x5_1).f3) ((rd_T126 l1 x5_1).f4) ((rd_T126 l1 x5_1).f5) ((rd_T126 l1 x5_1).f6) ((rd_T126 l1 x5_1).f7) _ _ ((rd_T126 l1 x5_1).f8) true _ ?side1 ?side2 ?side3 ?side4 ?side5 ?side6 ?side7 ?side8 ?side9 ?side10 ?side11 ?side12 A7.out).mono ?_
        (case side1 => exact ca_ (Kd.C_below HR311_0.out HB.out))
        (case side2 => exact HC311_0.out)
        (case side3 => exact ca_ (Kd.C_below HR311_2.out HB.out))
        (case side4 => exact HC311_2.out)
        (case side5 => exact ca_ (Kd.C_below HR311_8.out HB.out))
        (case side6 => exact HC311_8.out)
        (case side7 => exact ca_ (Kd.C_below HR312_0.out HB.out))
        (case side8 => exact HC312_0.out)
        (case side9 => exact ca_ (Kd.C_below HR312_2.out HB.out))
        (case side10 => exact HC312_2.out)
        (case side11 => exact ca_ (Kd.C_below HR312_8.out HB.out))
        (case side12 => exact HC312_8.out)
        rintro e w10 ⟨rfl, hb⟩
        refine ⟨_, rfl, ?_⟩
        have n0_ := Aside0.mk (below_step bl_ hb)
        clear HB
        have HB := n0_
        clear n0_
        (try clear hb)
        (try clear hb2)
        (try clear hk)
        (try clear hi)
        refine hK.out _ _ ⟨(kc_ HB hw311_0), (kc_ HB hw311_1), (kc_ HB hw311_2), (kc_ HB hw311_3), (kc_ HB hw311_4), (kc_ HB hw311_5), (kc_ HB hw311_6), (kc_ HB hw311_7), (kc_ HB hw311_8), (kc_ HB hw312_0), (kc_ HB hw312_1), (kc_ HB hw312_2), (kc_ HB hw312_3), (kc_ HB hw312_4), (kc_ HB hw312_5), (kc_ HB hw312_6), (kc_ HB hw312_7), (kc_ HB hw312_8)⟩ (fun hHeld => ?_)
        clear hK K
        refine norm_ (a' := ?_) ?_ ?_
        rotate_left
        ·show Act.put _ (some 25) _ = _
         simp only [Act.put, q_]
         rfl
        refine pl_ HT_ 9 26 tb10_3ff_8 ?_
        refine done_ (done_of HT_.out (by kernel_rfl)) ?_
        try go_wp2
        go_roundg k1
        case measure => have := HK1.out; omega
        case rel => exact ⟨(wrap64 (x5_1 + 1)), sp_, H', ⟨by have := HK1.out; omega⟩, ⟨bl_⟩⟩
       ·replace c8 := Bool.eq_false_iff.mpr c8
        subst c8
        replace H := in_ H
        obtain rfl := Option.some.inj H
        try go_wp2
        have n0_ := Aside0.mk (below_drew1 HB.out)
        clear HB
        have HB := n0_
        clear n0_
        have p311 : 0 ≤ (x5_1 : Int) := od_
        have q311 : x5_1 < (l0.length : Int) := od_
        obtain ⟨ad311, A311_0, c311_0, A311_2, c311_2, A311_8, c311_8, e311, hx311_0, hx311_1, hx311_2, hx311_3, hx311_4, hx311_5, hx311_6, hx311_7, hx311_8, hl311_0, hi311_0, hl311_2, hi311_2, hl311_8, hi311_8⟩ := at_T126 HR0.out x5_1 p311 q311
        have hw311_8 := hx311_8
        have hw311_7 := hx311_7
        have hw311_6 := hx311_6
        have hw311_5 := hx311_5
        have hw311_4 := hx311_4
        have hw311_3 := hx311_3
        have hw311_2 := hx311_2
        have hw311_1 := hx311_1
        have hw311_0 := hx311_0
        cases e311
        replace hx311_0 := kc_ HB hx311_0
        replace hx311_1 := kc_ HB hx311_1
        replace hx311_2 := kc_ HB hx311_2
        replace hx311_3 := kc_ HB hx311_3
        replace hx311_4 := kc_ HB hx311_4
        replace hx311_5 := kc_ HB hx311_5
        replace hx311_6 := kc_ HB hx311_6
        replace hx311_7 := kc_ HB hx311_7
        replace hx311_8 := kc_ HB hx311_8
        have HR311_0 := Aside0.mk hi311_0
        have HC311_0 := Aside0.mk hl311_0
        clear hi311_0 hl311_0
        have HR311_2 := Aside0.mk hi311_2
        have HC311_2 := Aside0.mk hl311_2
        clear hi311_2 hl311_2
        have HR311_8 := Aside0.mk hi311_8
        have HC311_8 := Aside0.mk hl311_8
        clear hi311_8 hl311_8
        replace p311 := eq_true p311
        replace q311 := eq_true q311
        have p312 : 0 ≤ (x5_1 : Int) := od_
        have q312 : x5_1 < (l1.length : Int) := od_
        obtain ⟨ad312, A312_0, c312_0, A312_2, c312_2, A312_8, c312_8, e312, hx312_0, hx312_1, hx312_2, hx312_3, hx312_4, hx312_5, hx312_6, hx312_7, hx312_8, hl312_0, hi312_0, hl312_2, hi312_2, hl312_8, hi312_8⟩ := at_T126 HR1.out x5_1 p312 q312
        have hw312_8 := hx312_8
        have hw312_7 := hx312_7
        have hw312_6 := hx312_6
        have hw312_5 := hx312_5
        have hw312_4 := hx312_4
        have hw312_3 := hx312_3
        have hw312_2 := hx312_2
        have hw312_1 := hx312_1
        have hw312_0 := hx312_0
        cases e312
        replace hx312_0 := kc_ HB hx312_0
        replace hx312_1 := kc_ HB hx312_1
        replace hx312_2 := kc_ HB hx312_2
        replace hx312_3 := kc_ HB hx312_3
        replace hx312_4 := kc_ HB hx312_4
        replace hx312_5 := kc_ HB hx312_5
        replace hx312_6 := kc_ HB hx312_6
        replace hx312_7 := kc_ HB hx312_7
        replace hx312_8 := kc_ HB hx312_8
        have HR312_0 := Aside0.mk hi312_0
        have HC312_0 := Aside0.mk hl312_0
        clear hi312_0 hl312_0
        have HR312_2 := Aside0.mk hi312_2
        have HC312_2 := Aside0.mk hl312_2
        clear hi312_2 hl312_2
        have HR312_8 := Aside0.mk hi312_8
        have HC312_8 := Aside0.mk hl312_8
        clear hi312_8 hl312_8
        replace p312 := eq_true p312
        replace q312 := eq_true q312
        refine start_ (n := 10) (S := fun w' => w'.cell? (ad311.add ((x5_1).toNat * 9)) = some (.slice A311_0 ((rd_T126 l0 x5_1).f0).length c311_0) ∧ w'.cell? ⟨(ad311.add ((x5_1).toNat * 9)).block, (ad311.add ((x5_1).toNat * 9)).off + 1, none⟩ = some (.int .i64 ((rd_T126 l0 x5_1).f1)) ∧ w'.cell? ⟨(ad311.add ((x5_1).toNat * 9)).block, (ad311.add ((x5_1).toNat * 9)).off + 2, none⟩ = some (.slice A311_2 ((rd_T126 l0 x5_1).f2).length c311_2) ∧ w'.cell? ⟨(ad311.add ((x5_1).toNat * 9)).block, (ad311.add ((x5_1).toNat * 9)).off + 3, none⟩ = some (.int .i64 ((rd_T126 l0 x5_1).f3)) ∧ w'.cell? ⟨(ad311.add ((x5_1).toNat * 9)).block, (ad311.add ((x5_1).toNat * 9)).off + 4, none⟩ = some (.int .i64 ((rd_T126 l0 x5_1).f4)) ∧ w'.cell? ⟨(ad311.add ((x5_1).toNat * 9)).block, (ad311.add ((x5_1).toNat * 9)).off + 5, none⟩ = some (.int .i64 ((rd_T126 l0 x5_1).f5)) ∧ w'.cell? ⟨(ad311.add ((x5_1).toNat * 9)).block, (ad311.add ((x5_1).toNat * 9)).off + 6, none⟩ = some (.int .i64 ((rd_T126 l0 x5_1).f6)) ∧ w'.cell? ⟨(ad311.add ((x5_1).toNat * 9)).block, (ad311.add ((x5_1).toNat * 9)).off + 7, none⟩ = some (.int .i64 ((rd_T126 l0 x5_1).f7)) ∧ w'.cell? ⟨(ad311.add ((x5_1).toNat * 9)).block, (ad311.add ((x5_1).toNat * 9)).off + 8, none⟩ = some (.slice A311_8 ((rd_T126 l0 x5_1).f8).length c311_8) ∧ w'.cell? (ad312.add ((x5_1).toNat * 9)) = some (.slice A312_0 ((rd_T126 l1 x5_1).f0).length c312_0) ∧ w'.cell? ⟨(ad312.add ((x5_1).toNat * 9)).block, (ad312.add ((x5_1).toNat * 9)).off + 1, none⟩ = some (.int .i64 ((rd_T126 l1 x5_1).f1)) ∧ w'.cell? ⟨(ad312.add ((x5_1).toNat * 9)).block, (ad312.add ((x5_1).toNat * 9)).off + 2, none⟩ = some (.slice A312_2 ((rd_T126 l1 x5_1).f2).length c312_2) ∧ w'.cell? ⟨(ad312.add ((x5_1).toNat * 9)).block, (ad312.add ((x5_1).toNat * 9)).off + 3, none⟩ = some (.int .i64 ((rd_T126 l1 x5_1).f3)) ∧ w'.cell? ⟨(ad312.add ((x5_1).toNat * 9)).block, (ad312.add ((x5_1).toNat * 9)).off + 4, none⟩ = some (.int .i64 ((rd_T126 l1 x5_1).f4)) ∧ w'.cell? ⟨(ad312.add ((x5_1).toNat * 9)).block, (ad312.add ((x5_1).toNat * 9)).off + 5, none⟩ = some (.int .i64 ((rd_T126 l1 x5_1).f5)) ∧ w'.cell? ⟨(ad312.add ((x5_1).toNat * 9)).block, (ad312.add ((x5_1).toNat * 9)).off + 6, none⟩ = some (.int .i64 ((rd_T126 l1 x5_1).f6)) ∧ w'.cell? ⟨(ad312.add ((x5_1).toNat * 9)).block, (ad312.add ((x5_1).toNat * 9)).off + 7, none⟩ = some (.int .i64 ((rd_T126 l1 x5_1).f7)) ∧ w'.cell? ⟨(ad312.add ((x5_1).toNat * 9)).block, (ad312.add ((x5_1).toNat * 9)).off + 8, none⟩ = some (.slice A312_8 ((rd_T126 l1 x5_1).f8).length c312_8)) (ds := []) tb10_0_8 (by kernel_rfl) rfl rfl ⟨(kc_ HB hw311_0), (kc_ HB hw311_1), (kc_ HB hw311_2), (kc_ HB hw311_3), (kc_ HB hw311_4), (kc_ HB hw311_5), (kc_ HB hw311_6), (kc_ HB hw311_7), (kc_ HB hw311_8), (kc_ HB hw312_0), (kc_ HB hw312_1), (kc_ HB hw312_2), (kc_ HB hw312_3), (kc_ HB hw312_4), (kc_ HB hw312_5), (kc_ HB hw312_6), (kc_ HB hw312_7), (kc_ HB hw312_8)⟩ (fun hHeld => ?_); refine with_tabW laws_eqTaskS.tab6 laws_eqTaskS.bits6 (fun HT_ HW_ => ?_)
        generalize wr.drew = w11 at HB HR311_0 HR311_2 HR311_8 HR312_0 HR312_2 HR312_8 hx311_0 hx311_1 hx311_2 hx311_3 hx311_4 hx311_5 hx311_6 hx311_7 hx311_8 hx312_0 hx312_1 hx312_2 hx312_3 hx312_4 hx312_5 hx312_6 hx312_7 hx312_8 hHeld ⊢
        refine pl_ HT_ 0 17 tb10_1_8 ?_
        refine pl_ HT_ 1 18 tb10_3_8 ?_
        refine pl_ HT_ 2 19 tb10_7_8 ?_
        refine pl_ HT_ 4 21 tb10_17_8 ?_
        refine pl_ HT_ 5 22 tb10_37_8 ?_
        refine pl_ HT_ 6 23 tb10_77_8 ?_
        refine take_ (i := 3) (N := some 20) (v := ?_) (a' := ?_) tb10_7f_8 rfl rfl (take_ofW HT_.out HW_.out (by kernel_rfl)) (fun _ _ _ h => h) (Or.inl ⟨by rfl, ?_⟩) hHeld ?_ ?_
        rotate_left
        ·rintro w' ⟨s0, s1, s2, s3, s4, s5, s6, s7, s8, s9, s10, s11, s12, s13, s14, s15, s16, s17⟩
         go_simp
         with_reducible rfl
        rotate_left
        ·simp only [Act.put, q_]
         rfl
        refine take_ (i := 7) (N := some 24) (v := ?_) (a' := ?_) tb10_ff_8 rfl rfl (take_ofW HT_.out HW_.out (by kernel_rfl)) (fun _ _ _ h => h) (Or.inl ⟨by rfl, ?_⟩) hHeld ?_ ?_
        rotate_left
        ·rintro w' ⟨s0, s1, s2, s3, s4, s5, s6, s7, s8, s9, s10, s11, s12, s13, s14, s15, s16, s17⟩
         go_simp
         with_reducible rfl
        rotate_left
        ·simp only [Act.put, q_]
         rfl
        refine one_ (i := 8) (N := some 25) tb10_1ff_8 rfl rfl (one_of HT_.out (by kernel_rfl)) (by decide) (fun K hK => ?_)
        refine goes_ Try.func160 (by kernel_rfl) rfl #[.agg #[.slice A311_0 ((rd_T126 l0 x5_1).f0).length c311_0, .int .i64 ((rd_T126 l0 x5_1).f1), .slice A311_2 ((rd_T126 l0 x5_1).f2).length c311_2, .int .i64 ((rd_T126 l0 x5_1).f3), .int .i64 ((rd_T126 l0 x5_1).f4), .int .i64 ((rd_T126 l0 x5_1).f5), .int .i64 ((rd_T126 l0 x5_1).f6), .int .i64 ((rd_T126 l0 x5_1).f7), .slice A311_8 ((rd_T126 l0 x5_1).f8).length c311_8], .agg #[.slice A312_0 ((rd_T126 l1 x5_1).f0).length c312_0, .int .i64 ((rd_T126 l1 x5_1).f1), .slice A312_2 ((rd_T126 l1 x5_1).f2).length c312_2, .int .i64 ((rd_T126 l1 x5_1).f3), .int .i64 ((rd_T126 l1 x5_1).f4), .int .i64 ((rd_T126 l1 x5_1).f5), .int .i64 ((rd_T126 l1 x5_1).f6), .int .i64 ((rd_T126 l1 x5_1).f7), .slice A312_8 ((rd_T126 l1 x5_1).f8).length c312_8]] (by rfl) rfl rfl gl_ ?_
        with_reducible refine (laws_eqTask.calls k1 _ _ ((rd_T126 l0 x5_1).f0) ((rd_T126 l0 x5_1).f1) _ _ ((rd_T126 l0 x5_1).f2) ((rd_T126 l0 x5_1).f3) ((rd_T126 l0 x5_1).f4) ((rd_T126 l0 x5_1).f5) ((rd_T126 l0 x5_1).f6) ((rd_T126 l0 x5_1).f7) _ _ ((rd_T126 l0 x5_1).f8) _ _ ((rd_T126 l1 x5_1).f0) ((rd_T126 l1 x5_1).f1) _ _ ((rd_T126 l1 x5_1).f2) ((rd_T126 l1 x5_1).f3) ((rd_T126 l1 x5_1).f4) ((rd_T126 l1 x5_1).f5) ((rd_T126 l1 x5_1).f6) ((rd_T126 l1 x5_1).f7) _ _ ((rd_T126 l1 x5_1).f8) false _ ?side1 ?side2 ?side3 ?side4 ?side5 ?side6 ?side7 ?side8 ?side9 ?side10 ?side11 ?side12 A7.out).mono ?_
        (case side1 => exact ca_ (Kd.C_below HR311_0.out HB.out))
        (case side2 => exact HC311_0.out)
        (case side3 => exact ca_ (Kd.C_below HR311_2.out HB.out))
        (case side4 => exact HC311_2.out)
        (case side5 => exact ca_ (Kd.C_below HR311_8.out HB.out))
        (case side6 => exact HC311_8.out)
        (case side7 => exact ca_ (Kd.C_below HR312_0.out HB.out))
        (case side8 => exact HC312_0.out)
        (case side9 => exact ca_ (Kd.C_below HR312_2.out HB.out))
        (case side10 => exact HC312_2.out)
        (case side11 => exact ca_ (Kd.C_below HR312_8.out HB.out))
        (case side12 => exact HC312_8.out)
        rintro e w12 ⟨rfl, hb⟩
        refine ⟨_, rfl, ?_⟩
        have n0_ := Aside0.mk (below_step bl_ hb)
        clear HB
        have HB := n0_
        clear n0_
        (try clear hb)
        (try clear hb2)
        (try clear hk)
        (try clear hi)
        refine hK.out _ _ ⟨(kc_ HB hw311_0), (kc_ HB hw311_1), (kc_ HB hw311_2), (kc_ HB hw311_3), (kc_ HB hw311_4), (kc_ HB hw311_5), (kc_ HB hw311_6), (kc_ HB hw311_7), (kc_ HB hw311_8), (kc_ HB hw312_0), (kc_ HB hw312_1), (kc_ HB hw312_2), (kc_ HB hw312_3), (kc_ HB hw312_4), (kc_ HB hw312_5), (kc_ HB hw312_6), (kc_ HB hw312_7), (kc_ HB hw312_8)⟩ (fun hHeld => ?_)
        clear hK K
        refine norm_ (a' := ?_) ?_ ?_
        rotate_left
        ·show Act.put _ (some 25) _ = _
         simp only [Act.put, q_]
         rfl
        refine pl_ HT_ 9 26 tb10_3ff_8 ?_
        refine done_ (done_of HT_.out (by kernel_rfl)) ?_
        try go_wp2
        go_ret
        exact ⟨sq_, bl_⟩
      ·rw [if_neg c6] at H
       exact absurd H (by simp)
     ·rw [if_neg c5] at H
      exact absurd H (by simp)
    ·rw [if_neg c4] at H
     have c4b0 : decide (x5_1 < (l0.length : Int)) = false := decide_eq_false c4
     clear c4
     obtain rfl := Option.some.inj H
     go_wp2
     go_ret
     exact ⟨sq_, bl_⟩
 ·rw [if_neg c3] at H
  have c3b0 : ((l0.length : Int) == (l1.length : Int)) = false := beq_eq_false_iff_ne.mpr c3
  have c3b1 : ((l0.length : Int) != (l1.length : Int)) = true := bne_iff_ne.mpr c3
  have c3b2 : (l0.length == l1.length) = false := by first | simpa using c3 | (simp at c3 ⊢; omega)
  obtain rfl := Option.some.inj H
  go_enter Try.func107, Try.ntmps107
  go_wp2
  go_ret
  exact ⟨sq_, bl_⟩
/-! ### laws_eqWorld: function 35 -/
def laws_eqWorld.f (k : Nat) (l0_0 : List (S121)) (a0_1 : Int) (a0_2 : Int) (l0_3 : List (S126)) (l1_0 : List (S121)) (a1_1 : Int) (a1_2 : Int) (l1_3 : List (S126)) : Option (Bool) := (laws_eqStripeS.f k l0_0 l1_0).bind fun t316 => (if t316 = true then (if a0_1 = a1_1 then (if a0_2 = a1_2 then ((laws_eqTaskS.f k l0_3 l1_3).bind fun t317 => (if t317 = true then (some true) else (some false))) else (some false)) else (some false)) else (some false))
set_option maxHeartbeats 8000000 in
set_option maxRecDepth 100000 in
theorem laws_eqWorld.calls (k : Nat) (A0_0 : Option Addr) (c0_0 : Nat) (l0_0 : List (S121)) (a0_1 : Int) (a0_2 : Int) (A0_3 : Option Addr) (c0_3 : Nat) (l0_3 : List (S126)) (A1_0 : Option Addr) (c1_0 : Nat) (l1_0 : List (S121)) (a1_1 : Int) (a1_2 : Int) (A1_3 : Option Addr) (c1_3 : Nat) (l1_3 : List (S126)) (r : Bool) (w : World) (hr0_0 : Kd.C k121 w A0_0 l0_0.length l0_0) (hc0_0 : l0_0.length ≤ c0_0) (hr0_3 : Kd.C k126 w A0_3 l0_3.length l0_3) (hc0_3 : l0_3.length ≤ c0_3) (hr1_0 : Kd.C k121 w A1_0 l1_0.length l1_0) (hc1_0 : l1_0.length ≤ c1_0) (hr1_3 : Kd.C k126 w A1_3 l1_3.length l1_3) (hc1_3 : l1_3.length ≤ c1_3) (h : laws_eqWorld.f k l0_0 a0_1 a0_2 l0_3 l1_0 a1_1 a1_2 l1_3 = some r) :
  Calls Try.prog 35 #[.agg #[.slice A0_0 l0_0.length c0_0, .int .i64 a0_1, .int .i64 a0_2, .slice A0_3 l0_3.length c0_3], .agg #[.slice A1_0 l1_0.length c1_0, .int .i64 a1_1, .int .i64 a1_2, .slice A1_3 l1_3.length c1_3]] w fun e w' => e = .returned (.bool r) ∧ Below w.heap.size w w' := by
 have hu56 := Try.underlying56
 have HR0_0 := Aside0.mk hr0_0
 have HC0_0 := Aside0.mk hc0_0
 clear hr0_0 hc0_0
 have HR0_3 := Aside0.mk hr0_3
 have HC0_3 := Aside0.mk hc0_3
 clear hr0_3 hc0_3
 have HR1_0 := Aside0.mk hr1_0
 have HC1_0 := Aside0.mk hc1_0
 clear hr1_0 hc1_0
 have HR1_3 := Aside0.mk hr1_3
 have HC1_3 := Aside0.mk hc1_3
 clear hr1_3 hc1_3
 have HB := Aside0.mk (Below.refl w.heap.size w)
 have H : ((laws_eqStripeS.f k l0_0 l1_0).bind fun t316 => (if t316 = true then (if a0_1 = a1_1 then (if a0_2 = a1_2 then ((laws_eqTaskS.f k l0_3 l1_3).bind fun t317 => (if t317 = true then (some true) else (some false))) else (some false)) else (some false)) else (some false))) = some r := h
 clear h
 obtain ⟨t316, A3, H⟩ := ob_ H
 by_cases c4 : t316 = true
 ·subst c4
  replace H := ip_ H
  by_cases c5 : a0_1 = a1_1
  ·rw [if_pos c5] at H
   have c5b0 : (a0_1 == a1_1) = true := beq_iff_eq.mpr c5
   have c5b1 : (a0_1 != a1_1) = false := bne_eq_false_iff_eq.mpr c5
   clear c5
   by_cases c6 : a0_2 = a1_2
   ·rw [if_pos c6] at H
    have c6b0 : (a0_2 == a1_2) = true := beq_iff_eq.mpr c6
    have c6b1 : (a0_2 != a1_2) = false := bne_eq_false_iff_eq.mpr c6
    clear c6
    obtain ⟨t317, A7, H⟩ := ob_ H
    by_cases c8 : t317 = true
    ·subst c8
     replace H := ip_ H
     obtain rfl := Option.some.inj H
     go_enter Try.func35, Try.ntmps35
     go_wp2_with (first | ((with_reducible refine gate_dst (N := 2) rfl ?_); refine be_ (N := 2) (cs := #[.slice A0_0 l0_0.length c0_0, .int .i64 a0_1, .int .i64 a0_2, .slice A0_3 l0_3.length c0_3]) (t := 56) ?_; intro gb314 hg w9 hbox hb; have BK314 := Aside0.mk (hbox); have GW314 := gw_ (w := w) hg; have GE314 := gw_ (w := w) hg; replace HB := Aside0.mk (below_step bl_ hb); clear hb hbox hg) | ((with_reducible refine gate_dst (N := 3) rfl ?_); refine be_ (N := 3) (cs := #[.slice A1_0 l1_0.length c1_0, .int .i64 a1_1, .int .i64 a1_2, .slice A1_3 l1_3.length c1_3]) (t := 56) ?_; intro gb315 hg w10 hbox hb; have BK315 := Aside0.mk (hbox); have GW315 := gw_ (w := w) hg; have GE315 := gw_ (w := w) hg; replace HB := Aside0.mk (below_step bl_ hb); have NB314_315 := Aside0.mk ((by rw [hg]; exact Nat.ne_of_lt (blk_lt (bk_ BK314)) : gb314 ≠ gb315)); have NB315_314 := Aside0.mk ((by rw [hg]; exact Nat.ne_of_gt (blk_lt (bk_ BK314)) : gb315 ≠ gb314)); replace BK314 := Aside0.mk (blk_below (bk_ BK314) hb); clear hb hbox hg; have hnb11 := NB314_315.out; have hnc11 := NB315_314.out; obtain ⟨hcz12_0, hcz12_1, hcz12_2, hcz12_3, hfz12_0, hfz12_1, hfz12_2, hfz12_3⟩ := bx4_ BK314; obtain ⟨hcz13_0, hcz13_1, hcz13_2, hcz13_3, hfz13_0, hfz13_1, hfz13_2, hfz13_3⟩ := bx4_ BK315) | ((with_reducible refine gate_callee (f := 106) rfl ?_); refine goesL_ (some 9) rfl rfl Try.func106 (by kernel_rfl) rfl #[.slice A0_0 l0_0.length c0_0, .slice A1_0 l1_0.length c1_0] rfl gl_ ?_; (with_reducible refine (laws_eqStripeS.calls k _ _ l0_0 _ _ l1_0 true _ ?side1 ?side2 ?side3 ?side4 A3.out).mono ?_); (case side1 => exact ca_ (Kd.C_below HR0_0.out HB.out)); (case side2 => exact HC0_0.out); (case side3 => exact ca_ (Kd.C_below HR1_0.out HB.out)); (case side4 => exact HC1_0.out); rintro e w14 ⟨rfl, hb⟩; refine ⟨_, rfl, ?_⟩; replace BK314 := Aside0.mk (blk_below (bk_ BK314) hb); replace BK315 := Aside0.mk (blk_below (bk_ BK315) hb); replace HB := Aside0.mk (below_step bl_ hb); (try clear hb); (try clear hb2); (try clear hk); (try clear hi); obtain ⟨hcz15_0, hcz15_1, hcz15_2, hcz15_3, hfz15_0, hfz15_1, hfz15_2, hfz15_3⟩ := bx4_ BK314; obtain ⟨hcz16_0, hcz16_1, hcz16_2, hcz16_3, hfz16_0, hfz16_1, hfz16_2, hfz16_3⟩ := bx4_ BK315) | ((with_reducible refine gate_callee (f := 107) rfl ?_); refine goesL_ (some 25) rfl rfl Try.func107 (by kernel_rfl) rfl #[.slice A0_3 l0_3.length c0_3, .slice A1_3 l1_3.length c1_3] rfl gl_ ?_; (with_reducible refine (laws_eqTaskS.calls k _ _ l0_3 _ _ l1_3 true _ ?side1 ?side2 ?side3 ?side4 A7.out).mono ?_); (case side1 => exact ca_ (Kd.C_below HR0_3.out HB.out)); (case side2 => exact HC0_3.out); (case side3 => exact ca_ (Kd.C_below HR1_3.out HB.out)); (case side4 => exact HC1_3.out); rintro e w17 ⟨rfl, hb⟩; refine ⟨_, rfl, ?_⟩; replace BK314 := Aside0.mk (blk_below (bk_ BK314) hb); replace BK315 := Aside0.mk (blk_below (bk_ BK315) hb); replace HB := Aside0.mk (below_step bl_ hb); (try clear hb); (try clear hb2); (try clear hk); (try clear hi)))
     go_ret
     exact ⟨sq_, bl_⟩
    ·replace c8 := Bool.eq_false_iff.mpr c8
     subst c8
     replace H := in_ H
     obtain rfl := Option.some.inj H
     go_enter Try.func35, Try.ntmps35
     go_wp2_with (first | ((with_reducible refine gate_dst (N := 2) rfl ?_); refine be_ (N := 2) (cs := #[.slice A0_0 l0_0.length c0_0, .int .i64 a0_1, .int .i64 a0_2, .slice A0_3 l0_3.length c0_3]) (t := 56) ?_; intro gb314 hg w18 hbox hb; have BK314 := Aside0.mk (hbox); have GW314 := gw_ (w := w) hg; have GE314 := gw_ (w := w) hg; replace HB := Aside0.mk (below_step bl_ hb); clear hb hbox hg) | ((with_reducible refine gate_dst (N := 3) rfl ?_); refine be_ (N := 3) (cs := #[.slice A1_0 l1_0.length c1_0, .int .i64 a1_1, .int .i64 a1_2, .slice A1_3 l1_3.length c1_3]) (t := 56) ?_; intro gb315 hg w19 hbox hb; have BK315 := Aside0.mk (hbox); have GW315 := gw_ (w := w) hg; have GE315 := gw_ (w := w) hg; replace HB := Aside0.mk (below_step bl_ hb); have NB314_315 := Aside0.mk ((by rw [hg]; exact Nat.ne_of_lt (blk_lt (bk_ BK314)) : gb314 ≠ gb315)); have NB315_314 := Aside0.mk ((by rw [hg]; exact Nat.ne_of_gt (blk_lt (bk_ BK314)) : gb315 ≠ gb314)); replace BK314 := Aside0.mk (blk_below (bk_ BK314) hb); clear hb hbox hg; have hnb20 := NB314_315.out; have hnc20 := NB315_314.out; obtain ⟨hcz21_0, hcz21_1, hcz21_2, hcz21_3, hfz21_0, hfz21_1, hfz21_2, hfz21_3⟩ := bx4_ BK314; obtain ⟨hcz22_0, hcz22_1, hcz22_2, hcz22_3, hfz22_0, hfz22_1, hfz22_2, hfz22_3⟩ := bx4_ BK315) | ((with_reducible refine gate_callee (f := 106) rfl ?_); refine goesL_ (some 9) rfl rfl Try.func106 (by kernel_rfl) rfl #[.slice A0_0 l0_0.length c0_0, .slice A1_0 l1_0.length c1_0] rfl gl_ ?_; (with_reducible refine (laws_eqStripeS.calls k _ _ l0_0 _ _ l1_0 true _ ?side1 ?side2 ?side3 ?side4 A3.out).mono ?_); (case side1 => exact ca_ (Kd.C_below HR0_0.out HB.out)); (case side2 => exact HC0_0.out); (case side3 => exact ca_ (Kd.C_below HR1_0.out HB.out)); (case side4 => exact HC1_0.out); rintro e w23 ⟨rfl, hb⟩; refine ⟨_, rfl, ?_⟩; replace BK314 := Aside0.mk (blk_below (bk_ BK314) hb); replace BK315 := Aside0.mk (blk_below (bk_ BK315) hb); replace HB := Aside0.mk (below_step bl_ hb); (try clear hb); (try clear hb2); (try clear hk); (try clear hi); obtain ⟨hcz24_0, hcz24_1, hcz24_2, hcz24_3, hfz24_0, hfz24_1, hfz24_2, hfz24_3⟩ := bx4_ BK314; obtain ⟨hcz25_0, hcz25_1, hcz25_2, hcz25_3, hfz25_0, hfz25_1, hfz25_2, hfz25_3⟩ := bx4_ BK315) | ((with_reducible refine gate_callee (f := 107) rfl ?_); refine goesL_ (some 25) rfl rfl Try.func107 (by kernel_rfl) rfl #[.slice A0_3 l0_3.length c0_3, .slice A1_3 l1_3.length c1_3] rfl gl_ ?_; (with_reducible refine (laws_eqTaskS.calls k _ _ l0_3 _ _ l1_3 false _ ?side1 ?side2 ?side3 ?side4 A7.out).mono ?_); (case side1 => exact ca_ (Kd.C_below HR0_3.out HB.out)); (case side2 => exact HC0_3.out); (case side3 => exact ca_ (Kd.C_below HR1_3.out HB.out)); (case side4 => exact HC1_3.out); rintro e w26 ⟨rfl, hb⟩; refine ⟨_, rfl, ?_⟩; replace BK314 := Aside0.mk (blk_below (bk_ BK314) hb); replace BK315 := Aside0.mk (blk_below (bk_ BK315) hb); replace HB := Aside0.mk (below_step bl_ hb); (try clear hb); (try clear hb2); (try clear hk); (try clear hi)))
     go_ret
     exact ⟨sq_, bl_⟩
   ·rw [if_neg c6] at H
    have c6b0 : (a0_2 == a1_2) = false := beq_eq_false_iff_ne.mpr c6
    have c6b1 : (a0_2 != a1_2) = true := bne_iff_ne.mpr c6
    obtain rfl := Option.some.inj H
    go_enter Try.func35, Try.ntmps35
    go_wp2_with (first | ((with_reducible refine gate_dst (N := 2) rfl ?_); refine be_ (N := 2) (cs := #[.slice A0_0 l0_0.length c0_0, .int .i64 a0_1, .int .i64 a0_2, .slice A0_3 l0_3.length c0_3]) (t := 56) ?_; intro gb314 hg w27 hbox hb; have BK314 := Aside0.mk (hbox); have GW314 := gw_ (w := w) hg; have GE314 := gw_ (w := w) hg; replace HB := Aside0.mk (below_step bl_ hb); clear hb hbox hg) | ((with_reducible refine gate_dst (N := 3) rfl ?_); refine be_ (N := 3) (cs := #[.slice A1_0 l1_0.length c1_0, .int .i64 a1_1, .int .i64 a1_2, .slice A1_3 l1_3.length c1_3]) (t := 56) ?_; intro gb315 hg w28 hbox hb; have BK315 := Aside0.mk (hbox); have GW315 := gw_ (w := w) hg; have GE315 := gw_ (w := w) hg; replace HB := Aside0.mk (below_step bl_ hb); have NB314_315 := Aside0.mk ((by rw [hg]; exact Nat.ne_of_lt (blk_lt (bk_ BK314)) : gb314 ≠ gb315)); have NB315_314 := Aside0.mk ((by rw [hg]; exact Nat.ne_of_gt (blk_lt (bk_ BK314)) : gb315 ≠ gb314)); replace BK314 := Aside0.mk (blk_below (bk_ BK314) hb); clear hb hbox hg; have hnb29 := NB314_315.out; have hnc29 := NB315_314.out; obtain ⟨hcz30_0, hcz30_1, hcz30_2, hcz30_3, hfz30_0, hfz30_1, hfz30_2, hfz30_3⟩ := bx4_ BK314; obtain ⟨hcz31_0, hcz31_1, hcz31_2, hcz31_3, hfz31_0, hfz31_1, hfz31_2, hfz31_3⟩ := bx4_ BK315) | ((with_reducible refine gate_callee (f := 106) rfl ?_); refine goesL_ (some 9) rfl rfl Try.func106 (by kernel_rfl) rfl #[.slice A0_0 l0_0.length c0_0, .slice A1_0 l1_0.length c1_0] rfl gl_ ?_; (with_reducible refine (laws_eqStripeS.calls k _ _ l0_0 _ _ l1_0 true _ ?side1 ?side2 ?side3 ?side4 A3.out).mono ?_); (case side1 => exact ca_ (Kd.C_below HR0_0.out HB.out)); (case side2 => exact HC0_0.out); (case side3 => exact ca_ (Kd.C_below HR1_0.out HB.out)); (case side4 => exact HC1_0.out); rintro e w32 ⟨rfl, hb⟩; refine ⟨_, rfl, ?_⟩; replace BK314 := Aside0.mk (blk_below (bk_ BK314) hb); replace BK315 := Aside0.mk (blk_below (bk_ BK315) hb); replace HB := Aside0.mk (below_step bl_ hb); (try clear hb); (try clear hb2); (try clear hk); (try clear hi); obtain ⟨hcz33_0, hcz33_1, hcz33_2, hcz33_3, hfz33_0, hfz33_1, hfz33_2, hfz33_3⟩ := bx4_ BK314; obtain ⟨hcz34_0, hcz34_1, hcz34_2, hcz34_3, hfz34_0, hfz34_1, hfz34_2, hfz34_3⟩ := bx4_ BK315))
    go_ret
    exact ⟨sq_, bl_⟩
  ·rw [if_neg c5] at H
   have c5b0 : (a0_1 == a1_1) = false := beq_eq_false_iff_ne.mpr c5
   have c5b1 : (a0_1 != a1_1) = true := bne_iff_ne.mpr c5
   obtain rfl := Option.some.inj H
   go_enter Try.func35, Try.ntmps35
   go_wp2_with (first | ((with_reducible refine gate_dst (N := 2) rfl ?_); refine be_ (N := 2) (cs := #[.slice A0_0 l0_0.length c0_0, .int .i64 a0_1, .int .i64 a0_2, .slice A0_3 l0_3.length c0_3]) (t := 56) ?_; intro gb314 hg w35 hbox hb; have BK314 := Aside0.mk (hbox); have GW314 := gw_ (w := w) hg; have GE314 := gw_ (w := w) hg; replace HB := Aside0.mk (below_step bl_ hb); clear hb hbox hg) | ((with_reducible refine gate_dst (N := 3) rfl ?_); refine be_ (N := 3) (cs := #[.slice A1_0 l1_0.length c1_0, .int .i64 a1_1, .int .i64 a1_2, .slice A1_3 l1_3.length c1_3]) (t := 56) ?_; intro gb315 hg w36 hbox hb; have BK315 := Aside0.mk (hbox); have GW315 := gw_ (w := w) hg; have GE315 := gw_ (w := w) hg; replace HB := Aside0.mk (below_step bl_ hb); have NB314_315 := Aside0.mk ((by rw [hg]; exact Nat.ne_of_lt (blk_lt (bk_ BK314)) : gb314 ≠ gb315)); have NB315_314 := Aside0.mk ((by rw [hg]; exact Nat.ne_of_gt (blk_lt (bk_ BK314)) : gb315 ≠ gb314)); replace BK314 := Aside0.mk (blk_below (bk_ BK314) hb); clear hb hbox hg; have hnb37 := NB314_315.out; have hnc37 := NB315_314.out; obtain ⟨hcz38_0, hcz38_1, hcz38_2, hcz38_3, hfz38_0, hfz38_1, hfz38_2, hfz38_3⟩ := bx4_ BK314; obtain ⟨hcz39_0, hcz39_1, hcz39_2, hcz39_3, hfz39_0, hfz39_1, hfz39_2, hfz39_3⟩ := bx4_ BK315) | ((with_reducible refine gate_callee (f := 106) rfl ?_); refine goesL_ (some 9) rfl rfl Try.func106 (by kernel_rfl) rfl #[.slice A0_0 l0_0.length c0_0, .slice A1_0 l1_0.length c1_0] rfl gl_ ?_; (with_reducible refine (laws_eqStripeS.calls k _ _ l0_0 _ _ l1_0 true _ ?side1 ?side2 ?side3 ?side4 A3.out).mono ?_); (case side1 => exact ca_ (Kd.C_below HR0_0.out HB.out)); (case side2 => exact HC0_0.out); (case side3 => exact ca_ (Kd.C_below HR1_0.out HB.out)); (case side4 => exact HC1_0.out); rintro e w40 ⟨rfl, hb⟩; refine ⟨_, rfl, ?_⟩; replace BK314 := Aside0.mk (blk_below (bk_ BK314) hb); replace BK315 := Aside0.mk (blk_below (bk_ BK315) hb); replace HB := Aside0.mk (below_step bl_ hb); (try clear hb); (try clear hb2); (try clear hk); (try clear hi); obtain ⟨hcz41_0, hcz41_1, hcz41_2, hcz41_3, hfz41_0, hfz41_1, hfz41_2, hfz41_3⟩ := bx4_ BK314; obtain ⟨hcz42_0, hcz42_1, hcz42_2, hcz42_3, hfz42_0, hfz42_1, hfz42_2, hfz42_3⟩ := bx4_ BK315))
   go_ret
   exact ⟨sq_, bl_⟩
 ·replace c4 := Bool.eq_false_iff.mpr c4
  subst c4
  replace H := in_ H
  obtain rfl := Option.some.inj H
  go_enter Try.func35, Try.ntmps35
  go_wp2_with (first | ((with_reducible refine gate_dst (N := 2) rfl ?_); refine be_ (N := 2) (cs := #[.slice A0_0 l0_0.length c0_0, .int .i64 a0_1, .int .i64 a0_2, .slice A0_3 l0_3.length c0_3]) (t := 56) ?_; intro gb314 hg w43 hbox hb; have BK314 := Aside0.mk (hbox); have GW314 := gw_ (w := w) hg; have GE314 := gw_ (w := w) hg; replace HB := Aside0.mk (below_step bl_ hb); clear hb hbox hg) | ((with_reducible refine gate_dst (N := 3) rfl ?_); refine be_ (N := 3) (cs := #[.slice A1_0 l1_0.length c1_0, .int .i64 a1_1, .int .i64 a1_2, .slice A1_3 l1_3.length c1_3]) (t := 56) ?_; intro gb315 hg w44 hbox hb; have BK315 := Aside0.mk (hbox); have GW315 := gw_ (w := w) hg; have GE315 := gw_ (w := w) hg; replace HB := Aside0.mk (below_step bl_ hb); have NB314_315 := Aside0.mk ((by rw [hg]; exact Nat.ne_of_lt (blk_lt (bk_ BK314)) : gb314 ≠ gb315)); have NB315_314 := Aside0.mk ((by rw [hg]; exact Nat.ne_of_gt (blk_lt (bk_ BK314)) : gb315 ≠ gb314)); replace BK314 := Aside0.mk (blk_below (bk_ BK314) hb); clear hb hbox hg; have hnb45 := NB314_315.out; have hnc45 := NB315_314.out; obtain ⟨hcz46_0, hcz46_1, hcz46_2, hcz46_3, hfz46_0, hfz46_1, hfz46_2, hfz46_3⟩ := bx4_ BK314; obtain ⟨hcz47_0, hcz47_1, hcz47_2, hcz47_3, hfz47_0, hfz47_1, hfz47_2, hfz47_3⟩ := bx4_ BK315) | ((with_reducible refine gate_callee (f := 106) rfl ?_); refine goesL_ (some 9) rfl rfl Try.func106 (by kernel_rfl) rfl #[.slice A0_0 l0_0.length c0_0, .slice A1_0 l1_0.length c1_0] rfl gl_ ?_; (with_reducible refine (laws_eqStripeS.calls k _ _ l0_0 _ _ l1_0 false _ ?side1 ?side2 ?side3 ?side4 A3.out).mono ?_); (case side1 => exact ca_ (Kd.C_below HR0_0.out HB.out)); (case side2 => exact HC0_0.out); (case side3 => exact ca_ (Kd.C_below HR1_0.out HB.out)); (case side4 => exact HC1_0.out); rintro e w48 ⟨rfl, hb⟩; refine ⟨_, rfl, ?_⟩; replace BK314 := Aside0.mk (blk_below (bk_ BK314) hb); replace BK315 := Aside0.mk (blk_below (bk_ BK315) hb); replace HB := Aside0.mk (below_step bl_ hb); (try clear hb); (try clear hb2); (try clear hk); (try clear hi)))
  go_ret
  exact ⟨sq_, bl_⟩
/-! ### spec_EventsOf: function 56 -/
def spec_EventsOf.l0 : Nat → List (S144) → List (S126) → Int → Int → Option ((List (S144)))
 | 0, _, _, _, _ => none
 | k + 1, x3, x8, x9, x10 => if x10 < x9 then (if 0 ≤ x10 then (if x10 < (x8.length : Int) then ((some (([] : List Int) : List Int)).bind fun y324 => (if y324.length + ((rd_T126 x8 x10).f0).length < 140737488355328 then (if x3.length < 3518437208883 then (spec_EventsOf.l0 k (x3 ++ [(⟨1, 0, (y324 ++ ((rd_T126 x8 x10).f0))⟩ : S144)]) x8 x9 (wrap64 (x10 + 1))) else (none)) else (none))) else (none)) else (none)) else (some x3)
def spec_EventsOf.f (k : Nat) (l0_0 : List (S121)) (a0_1 : Int) (a0_2 : Int) (l0_3 : List (S126)) : Option ((List (S144))) := spec_EventsOf.l0 k (([] : List (S144))) l0_3 (l0_3.length : Int) 0
set_option maxHeartbeats 8000000 in
set_option maxRecDepth 100000 in
theorem spec_EventsOf.calls (k : Nat) (A0_0 : Option Addr) (c0_0 : Nat) (l0_0 : List (S121)) (a0_1 : Int) (a0_2 : Int) (A0_3 : Option Addr) (c0_3 : Nat) (l0_3 : List (S126)) (r : List (S144)) (w : World) (hr0_0 : Kd.C k121 w A0_0 l0_0.length l0_0) (hc0_0 : l0_0.length ≤ c0_0) (hr0_3 : Kd.C k126 w A0_3 l0_3.length l0_3) (hc0_3 : l0_3.length ≤ c0_3) (h : spec_EventsOf.f k l0_0 a0_1 a0_2 l0_3 = some r) :
  Calls Try.prog 56 #[.agg #[.slice A0_0 l0_0.length c0_0, .int .i64 a0_1, .int .i64 a0_2, .slice A0_3 l0_3.length c0_3]] w fun e w' => ∃ v0_ : Value, e = .returned (v0_) ∧ Kd.S k144 144 w' w.heap.size (fun _ => True) v0_ r ∧ Below w.heap.size w w' := by
 have hu56 := Try.underlying56
 have hu126 := Try.underlying126
 have hu144 := Try.underlying144
 have HR0_0 := Aside0.mk hr0_0
 have HC0_0 := Aside0.mk hc0_0
 clear hr0_0 hc0_0
 have HR0_3 := Aside0.mk hr0_3
 have HC0_3 := Aside0.mk hc0_3
 clear hr0_3 hc0_3
 have HB := Aside0.mk (Below.refl w.heap.size w)
 have H : (spec_EventsOf.l0 k (([] : List (S144))) l0_3 (l0_3.length : Int) 0) = some r := h
 clear h
 obtain ⟨y319, hy319⟩ : ∃ y_ : List (S144), y_ = (([] : List (S144))) := ⟨_, rfl⟩
 replace H : (spec_EventsOf.l0 k y319 l0_3 (l0_3.length : Int) 0) = some r := by first | (rw [hy319]; with_reducible exact H) | (have H2_ := (Option.bind_some _ _).symm.trans H; rw [hy319]; with_reducible exact H2_) | (have H2_ := (Option.bind_some _ _).symm.trans H; with_reducible exact H2_) | with_reducible exact H | (rw [hy319]; exact H) | exact H
 have Ny319 := Aside0.mk hy319
 clear hy319
 have H' := Aside0.mk H
 clear H
 go_enter Try.func56, Try.ntmps56
 go_wp2_with (first | ((with_reducible refine gate_dst (N := 1) rfl ?_); refine be_ (N := 1) (cs := #[.slice A0_0 l0_0.length c0_0, .int .i64 a0_1, .int .i64 a0_2, .slice A0_3 l0_3.length c0_3]) (t := 56) ?_; intro gb318 hg w2 hbox hb; have BK318 := Aside0.mk (hbox); have GW318 := gw_ (w := w) hg; have GE318 := gw_ (w := w) hg; replace HB := Aside0.mk (below_step bl_ hb); clear hb hbox hg) | ((with_reducible refine gate_dst (N := 6) rfl ?_); refine Kd.S_lit k144 _ 144 ?hg (N := 6) ?hd (xs := ([] : List (S144))) (inner := []) (ok := fun _ => True) (okp := fun _ => True) ?hr ?hp (fun _ hk => hk) trivial (Below.refl _ _) (Nat.le_refl _) (by simp) ?_; (case hd => rfl); (case hg => rfl); (case hr => first | (go_simp; done) | (go_simp; rfl)); (case hp => exact (Reps.none _ _)); intro v320 w3 ho4 hb hg_ hnew_; clear hg_ hnew_; (first | rw [← Ny319.out] at ho4 | (simp only [Int.reduceToNat] at ho4; rw [← Ny319.out] at ho4)); have HO321 := Aside0.mk (Kd.S_lower ho4 (below_size bl_)); replace BK318 := Aside0.mk (blk_below (bk_ BK318) hb); replace HB := Aside0.mk (below_step bl_ hb); clear hb ho4; obtain ⟨hcz5_0, hcz5_1, hcz5_2, hcz5_3, hfz5_0, hfz5_1, hfz5_2, hfz5_3⟩ := bx4_ BK318))
 go_loopg [3, 10] k (fun kq v3 v10 w' => ∃ (x3_1 : List (S144)) (x10_1 : Int), v10 = .int .i64 x10_1 ∧ Aside0 (spec_EventsOf.l0 kq x3_1 l0_3 (l0_3.length : Int) x10_1 = some r) ∧ Aside0 (kq ≤ k) ∧ Aside0 (Kd.S k144 144 w' w.heap.size (fun _ => True) v3 x3_1) ∧ Aside0 (w'.heap[gb318]? = some (.cells #[(.slice A0_0 l0_0.length c0_0), .int .i64 a0_1, .int .i64 a0_2, (.slice A0_3 l0_3.length c0_3)] 56 (0, 0))) ∧ Aside0 (Below w.heap.size w w'))
 case atStart => exact ⟨(y319), (0), sp_, H', ⟨Nat.le_refl _⟩, ⟨by (with_reducible repeat (first | apply Kd.S_alloc | apply Kd.S_drewN | apply Kd.S_drew)); exact HO321.out⟩, ⟨by (with_reducible repeat (first | refine blk_drewN ?_ _ | refine blk_drew ?_ | refine blk_alloc ?_ _)); exact BK318.out⟩, ⟨bl_⟩⟩
 case round =>
  clear H'
  try clear p2
  try clear c5
  try clear hcz5_0
  try clear hcz5_1
  try clear hcz5_2
  try clear hcz5_3
  try clear hfz5_0
  try clear hfz5_1
  try clear hfz5_2
  try clear hfz5_3
  obtain ⟨x3_1, x10_1, rfl, HA, HK1, HO_3, BK318, HB⟩ := hrel
  cases gk with
  | zero => exact absurd HA.out (by simp [spec_EventsOf.l0])
  | succ k1 =>
   have H := HA.out
   clear HA
   simp only [spec_EventsOf.l0] at H
   by_cases c6 : x10_1 < (l0_3.length : Int)
   ·rw [if_pos c6] at H
    have c6b0 : decide (x10_1 < (l0_3.length : Int)) = true := decide_eq_true c6
    clear c6
    by_cases c7 : 0 ≤ x10_1
    ·rw [if_pos c7] at H
     have c7b0 : decide (0 ≤ x10_1) = true := decide_eq_true c7
     clear c7
     by_cases c8 : x10_1 < (l0_3.length : Int)
     ·rw [if_pos c8] at H
      have c8b0 : decide (x10_1 < (l0_3.length : Int)) = true := decide_eq_true c8
      clear c8
      obtain ⟨y324, hy324⟩ : ∃ y_ : List Int, y_ = (([] : List Int)) := ⟨_, rfl⟩
      replace H : (if y324.length + ((rd_T126 l0_3 x10_1).f0).length < 140737488355328 then (if x3_1.length < 3518437208883 then (spec_EventsOf.l0 k1 (x3_1 ++ [(⟨1, 0, (y324 ++ ((rd_T126 l0_3 x10_1).f0))⟩ : S144)]) l0_3 (l0_3.length : Int) (wrap64 (x10_1 + 1))) else (none)) else (none)) = some r := by first | (rw [hy324]; with_reducible exact H) | (have H2_ := (Option.bind_some _ _).symm.trans H; rw [hy324]; with_reducible exact H2_) | (have H2_ := (Option.bind_some _ _).symm.trans H; with_reducible exact H2_) | with_reducible exact H | (rw [hy324]; exact H) | exact H
      have Ny324 := Aside0.mk hy324
      clear hy324
      by_cases c9 : y324.length + ((rd_T126 l0_3 x10_1).f0).length < 140737488355328
      ·rw [if_pos c9] at H
       have LMc9 := Aside0.mk c9
       clear c9
       obtain ⟨y327, hy327⟩ : ∃ y_ : List Int, y_ = (y324 ++ ((rd_T126 l0_3 x10_1).f0)) := ⟨_, rfl⟩
       replace H : (if x3_1.length < 3518437208883 then (spec_EventsOf.l0 k1 (x3_1 ++ [(⟨1, 0, y327⟩ : S144)]) l0_3 (l0_3.length : Int) (wrap64 (x10_1 + 1))) else (none)) = some r := by first | (rw [hy327]; with_reducible exact H) | (have H2_ := (Option.bind_some _ _).symm.trans H; rw [hy327]; with_reducible exact H2_) | (have H2_ := (Option.bind_some _ _).symm.trans H; with_reducible exact H2_) | with_reducible exact H | (rw [hy327]; exact H) | exact H
       have Ny327 := Aside0.mk hy327
       clear hy327
       by_cases c10 : x3_1.length < 3518437208883
       ·rw [if_pos c10] at H
        have LMc10 := Aside0.mk c10
        clear c10
        obtain ⟨y330, hy330⟩ : ∃ y_ : List (S144), y_ = (x3_1 ++ [(⟨1, 0, y327⟩ : S144)]) := ⟨_, rfl⟩
        replace H : (spec_EventsOf.l0 k1 y330 l0_3 (l0_3.length : Int) (wrap64 (x10_1 + 1))) = some r := by first | (rw [hy330]; with_reducible exact H) | (have H2_ := (Option.bind_some _ _).symm.trans H; rw [hy330]; with_reducible exact H2_) | (have H2_ := (Option.bind_some _ _).symm.trans H; with_reducible exact H2_) | with_reducible exact H | (rw [hy330]; exact H) | exact H
        have Ny330 := Aside0.mk hy330
        clear hy330
        have H' := Aside0.mk H
        clear H
        have p322 : 0 ≤ (x10_1 : Int) := od_
        have q322 : x10_1 < (l0_3.length : Int) := od_
        obtain ⟨ad322, A322_0, c322_0, A322_2, c322_2, A322_8, c322_8, e322, hx322_0, hx322_1, hx322_2, hx322_3, hx322_4, hx322_5, hx322_6, hx322_7, hx322_8, hl322_0, hi322_0, hl322_2, hi322_2, hl322_8, hi322_8⟩ := at_T126 HR0_3.out x10_1 p322 q322
        cases e322
        replace hx322_0 := kc_ HB hx322_0
        replace hx322_1 := kc_ HB hx322_1
        replace hx322_2 := kc_ HB hx322_2
        replace hx322_3 := kc_ HB hx322_3
        replace hx322_4 := kc_ HB hx322_4
        replace hx322_5 := kc_ HB hx322_5
        replace hx322_6 := kc_ HB hx322_6
        replace hx322_7 := kc_ HB hx322_7
        replace hx322_8 := kc_ HB hx322_8
        have HR322_0 := Aside0.mk hi322_0
        have HC322_0 := Aside0.mk hl322_0
        clear hi322_0 hl322_0
        have HR322_2 := Aside0.mk hi322_2
        have HC322_2 := Aside0.mk hl322_2
        clear hi322_2 hl322_2
        have HR322_8 := Aside0.mk hi322_8
        have HC322_8 := Aside0.mk hl322_8
        clear hi322_8 hl322_8
        replace p322 := eq_true p322
        replace q322 := eq_true q322
        go_wp2_with (first | ((with_reducible refine gate_dst (N := 5) rfl ?_); refine be_ (N := 5) (cs := #[.slice none 0 0, .int .i64 0, .slice none 0 0, .int .i64 0, .int .i64 0, .int .i64 0, .int .i64 0, .int .i64 0, .slice none 0 0]) (t := 126) ?_; intro gb323 hg w11 hbox hb; replace HO_3 := Aside0.mk (Kd.S_below (by (with_reducible repeat (first | apply Kd.S_alloc | apply Kd.S_drewN | apply Kd.S_drew)); exact HO_3.out) hb); have BK323 := Aside0.mk (hbox); have GW323 := gw_ (w := w) hg; have GE323 := gw_ (w := w) hg; replace HB := Aside0.mk (below_step bl_ hb); have NB318_323 := Aside0.mk ((by rw [hg]; exact Nat.ne_of_lt (blk_lt (bk_ BK318)) : gb318 ≠ gb323)); have NB323_318 := Aside0.mk ((by rw [hg]; exact Nat.ne_of_gt (blk_lt (bk_ BK318)) : gb323 ≠ gb318)); replace BK318 := Aside0.mk (blk_below (bk_ BK318) hb); clear hb hbox hg; have hnb12 := NB323_318.out; have hnc12 := NB318_323.out; obtain ⟨hcz13_0, hcz13_1, hcz13_2, hcz13_3, hcz13_4, hcz13_5, hcz13_6, hcz13_7, hcz13_8, hfz13_0, hfz13_1, hfz13_2, hfz13_3, hfz13_4, hfz13_5, hfz13_6, hfz13_7, hfz13_8⟩ := bx9_ BK323) | ((with_reducible refine gate_dst (N := 15) rfl ?_); refine Kd.R_lit (Kd.int .u8) _ 5 ?hg (N := 15) ?hd (xs := ([] : List Int)) (inner := []) (ok := fun _ => True) (okp := fun _ => True) ?hr ?hp (fun _ hk => hk) trivial (Below.refl _ _) (Nat.le_refl _) (by simp) ?_; (case hd => rfl); (case hg => rfl); (case hr => first | (go_simp; done) | (go_simp; rfl)); (case hp => exact (Reps.none _ _)); intro v325 w14 ho15 hb hg_ hnew_; clear hg_ hnew_; (first | rw [← Ny324.out] at ho15 | (simp only [Int.reduceToNat] at ho15; rw [← Ny324.out] at ho15)); replace HO_3 := Aside0.mk (Kd.S_elder' (by (with_reducible repeat (first | apply Kd.S_alloc | apply Kd.S_drewN | apply Kd.S_drew)); exact (Kd.S_mono (Kd.S_far (p := ⟨gb323, 8, none⟩) (Kd.S_far (p := ⟨gb323, 7, none⟩) (Kd.S_far (p := ⟨gb323, 6, none⟩) (Kd.S_far (p := ⟨gb323, 5, none⟩) (Kd.S_far (p := ⟨gb323, 4, none⟩) (Kd.S_far (p := ⟨gb323, 3, none⟩) (Kd.S_far (p := ⟨gb323, 2, none⟩) (Kd.S_far (p := ⟨gb323, 1, none⟩) (Kd.S_far (p := ⟨gb323, 0, none⟩) (Kd.S_types HO_3.out BK323.out (by decide)) (fun _ hk => hk.2) (.slice A322_0 ((rd_T126 l0_3 x10_1).f0).length c322_0)) (fun _ hk => hk.2) (.int .i64 ((rd_T126 l0_3 x10_1).f1))) (fun _ hk => hk.2) (.slice A322_2 ((rd_T126 l0_3 x10_1).f2).length c322_2)) (fun _ hk => hk.2) (.int .i64 ((rd_T126 l0_3 x10_1).f3))) (fun _ hk => hk.2) (.int .i64 ((rd_T126 l0_3 x10_1).f4))) (fun _ hk => hk.2) (.int .i64 ((rd_T126 l0_3 x10_1).f5))) (fun _ hk => hk.2) (.int .i64 ((rd_T126 l0_3 x10_1).f6))) (fun _ hk => hk.2) (.int .i64 ((rd_T126 l0_3 x10_1).f7))) (fun _ hk => hk.2) (.slice A322_8 ((rd_T126 l0_3 x10_1).f8).length c322_8)) (fun _ h_ => h_.1))) (Kd.R_base ho15) hb); have HO326 := Aside0.mk (Kd.R_lower ho15 (below_size bl_)); replace BK318 := Aside0.mk (blk_below (g := gb318) (o := .cells #[.slice A0_0 l0_0.length c0_0, .int .i64 a0_1, .int .i64 a0_2, .slice (some ad322) l0_3.length c0_3] 56 (0, 0)) (by (with_reducible repeat (first | refine blk_drewN ?_ _ | refine blk_drew ?_ | refine blk_alloc ?_ _)); refine blk_far ?_ NB318_323.out _; (with_reducible repeat (first | refine blk_drewN ?_ _ | refine blk_drew ?_ | refine blk_alloc ?_ _)); refine blk_far ?_ NB318_323.out _; (with_reducible repeat (first | refine blk_drewN ?_ _ | refine blk_drew ?_ | refine blk_alloc ?_ _)); refine blk_far ?_ NB318_323.out _; (with_reducible repeat (first | refine blk_drewN ?_ _ | refine blk_drew ?_ | refine blk_alloc ?_ _)); refine blk_far ?_ NB318_323.out _; (with_reducible repeat (first | refine blk_drewN ?_ _ | refine blk_drew ?_ | refine blk_alloc ?_ _)); refine blk_far ?_ NB318_323.out _; (with_reducible repeat (first | refine blk_drewN ?_ _ | refine blk_drew ?_ | refine blk_alloc ?_ _)); refine blk_far ?_ NB318_323.out _; (with_reducible repeat (first | refine blk_drewN ?_ _ | refine blk_drew ?_ | refine blk_alloc ?_ _)); refine blk_far ?_ NB318_323.out _; (with_reducible repeat (first | refine blk_drewN ?_ _ | refine blk_drew ?_ | refine blk_alloc ?_ _)); refine blk_far ?_ NB318_323.out _; (with_reducible repeat (first | refine blk_drewN ?_ _ | refine blk_drew ?_ | refine blk_alloc ?_ _)); refine blk_far ?_ NB318_323.out _; (with_reducible repeat (first | refine blk_drewN ?_ _ | refine blk_drew ?_ | refine blk_alloc ?_ _)); exact BK318.out) hb); replace BK323 := Aside0.mk (blk_below (g := gb323) (o := .cells #[.slice A322_0 ((rd_T126 l0_3 x10_1).f0).length c322_0, .int .i64 ((rd_T126 l0_3 x10_1).f1), .slice A322_2 ((rd_T126 l0_3 x10_1).f2).length c322_2, .int .i64 ((rd_T126 l0_3 x10_1).f3), .int .i64 ((rd_T126 l0_3 x10_1).f4), .int .i64 ((rd_T126 l0_3 x10_1).f5), .int .i64 ((rd_T126 l0_3 x10_1).f6), .int .i64 ((rd_T126 l0_3 x10_1).f7), .slice A322_8 ((rd_T126 l0_3 x10_1).f8).length c322_8] 126 (0, 0)) (by (with_reducible repeat (first | refine blk_drewN ?_ _ | refine blk_drew ?_ | refine blk_alloc ?_ _)); apply bq9_8_7_6_5_4_3_2_1_0_; (with_reducible repeat (first | refine blk_drewN ?_ _ | refine blk_drew ?_ | refine blk_alloc ?_ _)); exact BK323.out) hb); replace HB := Aside0.mk (below_step bl_ hb); clear hb ho15; obtain ⟨hcz16_0, hcz16_1, hcz16_2, hcz16_3, hcz16_4, hcz16_5, hcz16_6, hcz16_7, hcz16_8, hfz16_0, hfz16_1, hfz16_2, hfz16_3, hfz16_4, hfz16_5, hfz16_6, hfz16_7, hfz16_8⟩ := bx9_ BK323) | ((with_reducible refine gate_builtin (b := .append) (xs := #[.tmp 15, .tmp 17]) rfl ?_); at_builtin; refine Kd.R_append_rows (Kd.int .u8) (w0 := w) w.heap.size rfl (.tmp 15) (.tmp 17) 60 5 (.int .u8 0) 1 rfl Try.underlying60 info5 rfl (by decide) (by omega) v325 y324 ((rd_T126 l0_3 x10_1).f0) _ _ _ (fun _ => True) (fun _ => False) rfl rfl ?aO ?aR (fun _ _ h => h) (fun _ h => h.elim) ?aF ?aB ?aS ?aL ?_; (case aR => exact ca_ (Kd.C_below HR322_0.out HB.out)); (case aB => exact bl_); (case aF => exact (fun _ _ => trivial)); (case aO => exact (ra_ HO326)); (case aS => exact (below_size bl_)); (case aL => have := LMc9.out; omega); intro v328 w17 ho hb hg hat; rw [← Ny327.out] at ho; have n0_ := Aside0.mk (Kd.S_after (ok := (fun _ => True)) (by (with_reducible repeat (first | apply Kd.S_alloc | apply Kd.S_drewN | apply Kd.S_drew)); exact HO_3.out) hg hat); have n1_ := Aside0.mk (blk_grown (bk_ BK318) hg (Kd.R_ne HO326.out BK318.out (by decide))); have n2_ := Aside0.mk (blk_grown (bk_ BK323) hg (Kd.R_ne HO326.out BK323.out (by decide))); have n3_ := Aside0.mk (hb); have n4_ := Aside0.mk (ho); clear HO_3; clear BK318; clear BK323; clear HB; clear HO326; have HO_3 := n0_; have BK318 := n1_; have BK323 := n2_; have HB := n3_; have HO329 := n4_; clear n0_ n1_ n2_ n3_ n4_; clear ho hb hg hat; obtain ⟨Ao18, co18, eo18⟩ := Kd.R_slice HO329.out; subst eo18) | ((with_reducible refine gate_builtin (b := .append) (xs := #[.tmp 14, .tmp 20]) rfl ?_); at_builtin; refine Kd.S_append k144 (w0 := w) w.heap.size rfl (.tmp 14) (.tmp 20) 82 144 (.agg #[(.int .i64 0), (.int .i64 0), (.slice none 0 0)]) 40 rfl Try.underlying82 info144 rfl (by decide) (by omega) u3 x3_1 (⟨1, 0, y327⟩ : S144) [.int .i64 1, .int .i64 0, .slice Ao18 y327.length co18] (fun _ => True) (fun k_ => some k_ = (.slice Ao18 y327.length co18 : Value).ownBlock) rfl rfl ?aP (fun k_ hk_ => ((Kd.R_mono (ok' := fun k_ => ((fun _ => True)) k_ ∧ some k_ ≠ (u3 : Value).ownBlock) (Kd.R_apart' (HO329.out) (Kd.S_typed HO_3.out) (by decide)) (fun k_ hk => ⟨trivial, hk.2⟩))).1 k_ hk_.symm) ?aF ?aO ?aB ?aS ?aL ?_; (case aP => exact k144_mkM _ _ _ (⟨1, 0, y327⟩ : S144) (Kd.R_mono (Kd.R_tight rfl (Kd.R_mono (ok' := fun k_ => ((fun _ => True)) k_ ∧ some k_ ≠ (u3 : Value).ownBlock) (Kd.R_apart' (HO329.out) (Kd.S_typed HO_3.out) (by decide)) (fun k_ hk => ⟨trivial, hk.2⟩))) (fun _ h_ => h_))); (case aB => exact bl_); (case aF => exact (fun _ _ => trivial)); (case aO => exact (by (with_reducible repeat (first | apply Kd.S_alloc | apply Kd.S_drewN | apply Kd.S_drew)); exact Kd.S_mono HO_3.out (fun k_ hk => ⟨trivial, fun e_ => hk.2 e_⟩))); (case aS => exact (below_size bl_)); (case aL => have := LMc10.out; omega); intro v331 w19 ho hb hg hat; rw [← Ny330.out] at ho; have n0_ := Aside0.mk (blk_grown (bk_ BK318) hg (Kd.S_ne HO_3.out BK318.out (by decide))); have n1_ := Aside0.mk (blk_grown (bk_ BK323) hg (Kd.S_ne HO_3.out BK323.out (by decide))); have n2_ := Aside0.mk (hb); have n3_ := Aside0.mk (ho); clear BK318; clear BK323; clear HB; clear HO_3; clear HO329; have BK318 := n0_; have BK323 := n1_; have HB := n2_; have HO332 := n3_; clear n0_ n1_ n2_ n3_; clear ho hb hg hat))
        go_roundg k1
        case measure => have := HK1.out; omega
        case rel => exact ⟨(y330), (wrap64 (x10_1 + 1)), sp_, H', ⟨by have := HK1.out; omega⟩, ⟨by (with_reducible repeat (first | apply Kd.S_alloc | apply Kd.S_drewN | apply Kd.S_drew)); exact HO332.out⟩, ⟨by (with_reducible repeat (first | refine blk_drewN ?_ _ | refine blk_drew ?_ | refine blk_alloc ?_ _)); exact BK318.out⟩, ⟨bl_⟩⟩
       ·rw [if_neg c10] at H
        exact absurd H (by simp)
      ·rw [if_neg c9] at H
       exact absurd H (by simp)
     ·rw [if_neg c8] at H
      exact absurd H (by simp)
    ·rw [if_neg c7] at H
     exact absurd H (by simp)
   ·rw [if_neg c6] at H
    have c6b0 : decide (x10_1 < (l0_3.length : Int)) = false := decide_eq_false c6
    clear c6
    obtain rfl := Option.some.inj H
    go_wp2
    go_ret
    exact ⟨_, by first | rfl | (simp [errW_none, errW_some] <;> rfl) | (simp [*, errW_none, errW_some] <;> rfl), by (with_reducible repeat (first | apply Kd.S_alloc | apply Kd.S_drewN | apply Kd.S_drew)); exact HO_3.out, bl_⟩
/-! ### slices_Clone_byte_byte: function 109 -/
def slices_Clone_byte_byte.f (l0 : List Int) : Option (List Int) := (some (([] : List Int) : List Int)).bind fun y333 => (if y333.length + l0.length < 140737488355328 then (some (y333 ++ l0)) else (none))
set_option maxHeartbeats 8000000 in
set_option maxRecDepth 100000 in
theorem slices_Clone_byte_byte.calls_some (ad0 : Addr) (c0 : Nat) (l0 : List Int) (r : List Int) (w : World) (hr0 : Kd.C (Kd.int .u8) w (some ad0) l0.length l0) (hc0 : l0.length ≤ c0) (h : slices_Clone_byte_byte.f l0 = some r) :
  Calls Try.prog 109 #[.slice (some ad0) l0.length c0] w fun e w' => ∃ v0_ : Value, e = .returned (v0_) ∧ Kd.R (Kd.int .u8) 5 w' w.heap.size (fun _ => True) v0_ r ∧ Below w.heap.size w w' := by
 have q0_ : ∀ (n c : Nat) (W : World), (binOp .eql 60 (.slice (some ad0) n c) (.slice none 0 0)).run Try.prog W = .ok (.bool false) W := fun n c W => Lib.run_eql_slice_nil W _ _ (some ad0) n c 0 0 Try.underlying60
 have HR0 := Aside0.mk hr0
 have HC0 := Aside0.mk hc0
 clear hr0 hc0
 have HB := Aside0.mk (Below.refl w.heap.size w)
 have H : ((some (([] : List Int) : List Int)).bind fun y333 => (if y333.length + l0.length < 140737488355328 then (some (y333 ++ l0)) else (none))) = some r := h
 clear h
 obtain ⟨y333, hy333⟩ : ∃ y_ : List Int, y_ = (([] : List Int)) := ⟨_, rfl⟩
 replace H : (if y333.length + l0.length < 140737488355328 then (some (y333 ++ l0)) else (none)) = some r := by first | (rw [hy333]; with_reducible exact H) | (have H2_ := (Option.bind_some _ _).symm.trans H; rw [hy333]; with_reducible exact H2_) | (have H2_ := (Option.bind_some _ _).symm.trans H; with_reducible exact H2_) | with_reducible exact H | (rw [hy333]; exact H) | exact H
 have Ny333 := Aside0.mk hy333
 clear hy333
 by_cases c2 : y333.length + l0.length < 140737488355328
 ·rw [if_pos c2] at H
  have LMc2 := Aside0.mk c2
  clear c2
  obtain ⟨y336, hy336⟩ : ∃ y_ : List Int, y_ = (y333 ++ l0) := ⟨_, rfl⟩
  replace H : (some y336) = some r := by first | (rw [hy336]; with_reducible exact H) | (have H2_ := (Option.bind_some _ _).symm.trans H; rw [hy336]; with_reducible exact H2_) | (have H2_ := (Option.bind_some _ _).symm.trans H; with_reducible exact H2_) | with_reducible exact H | (rw [hy336]; exact H) | exact H
  have Ny336 := Aside0.mk hy336
  clear hy336
  obtain rfl := Option.some.inj H
  go_enter Try.func109, Try.ntmps109
  go_wp2_with (first | ((with_reducible refine gate_dst (N := 5) rfl ?_); refine Kd.R_lit (Kd.int .u8) _ 5 ?hg (N := 5) ?hd (xs := ([] : List Int)) (inner := []) (ok := fun _ => True) (okp := fun _ => True) ?hr ?hp (fun _ hk => hk) trivial (Below.refl _ _) (Nat.le_refl _) (by simp) ?_; (case hd => rfl); (case hg => rfl); (case hr => first | (go_simp; done) | (go_simp; rfl)); (case hp => exact (Reps.none _ _)); intro v334 w3 ho4 hb hg_ hnew_; clear hg_ hnew_; (first | rw [← Ny333.out] at ho4 | (simp only [Int.reduceToNat] at ho4; rw [← Ny333.out] at ho4)); have HO335 := Aside0.mk (Kd.R_lower ho4 (below_size bl_)); replace HB := Aside0.mk (below_step bl_ hb); clear hb ho4) | ((with_reducible refine gate_builtin (b := .append) (xs := #[.tmp 5, .tmp 6]) rfl ?_); at_builtin; refine Kd.R_append_rows (Kd.int .u8) (w0 := w) w.heap.size rfl (.tmp 5) (.tmp 6) 60 5 (.int .u8 0) 1 rfl Try.underlying60 info5 rfl (by decide) (by omega) v334 y333 l0 _ _ _ (fun _ => True) (fun _ => False) rfl rfl ?aO ?aR (fun _ _ h => h) (fun _ h => h.elim) ?aF ?aB ?aS ?aL ?_; (case aR => exact ca_ (Kd.C_below HR0.out HB.out)); (case aB => exact bl_); (case aF => exact (fun _ _ => trivial)); (case aO => exact (ra_ HO335)); (case aS => exact (below_size bl_)); (case aL => have := LMc2.out; omega); intro v337 w5 ho hb hg hat; rw [← Ny336.out] at ho; have n0_ := Aside0.mk (hb); have n1_ := Aside0.mk (ho); clear HB; clear HO335; have HB := n0_; have HO338 := n1_; clear n0_ n1_; clear ho hb hg hat))
  go_ret
  exact ⟨_, by first | rfl | (simp [errW_none, errW_some] <;> rfl) | (simp [*, errW_none, errW_some] <;> rfl), ra_ HO338, bl_⟩
 ·rw [if_neg c2] at H
  exact absurd H (by simp)
set_option maxHeartbeats 8000000 in
set_option maxRecDepth 100000 in
theorem slices_Clone_byte_byte.calls_none (c0 : Nat) (l0 : List Int) (r : List Int) (w : World) (hr0 : Kd.C (Kd.int .u8) w none l0.length l0) (hc0 : l0.length ≤ c0) (h : slices_Clone_byte_byte.f l0 = some r) :
  Calls Try.prog 109 #[.slice none l0.length c0] w fun e w' => ∃ v0_ : Value, e = .returned (v0_) ∧ Kd.R (Kd.int .u8) 5 w' w.heap.size (fun _ => True) v0_ r ∧ Below w.heap.size w w' := by
 have q0_ : ∀ (n c : Nat) (W : World), (binOp .eql 60 (.slice none n c) (.slice none 0 0)).run Try.prog W = .ok (.bool true) W := fun n c W => Lib.run_eql_slice_nil W _ _ none n c 0 0 Try.underlying60
 have hn : l0 = [] := List.eq_nil_of_length_eq_zero (Nat.eq_zero_of_not_pos (fun hp => by obtain ⟨a, ha, _⟩ := hr0.2.2 hp; cases ha))
 subst hn
 have hr : r = [] := by simp [slices_Clone_byte_byte.f] at h; first | exact h | exact h.symm
 subst hr
 clear hr0 hc0 h
 go_enter Try.func109, Try.ntmps109
 go_wp2
 go_ret
 exact ⟨_, rfl, Kd.R_nil _ _ _ _ _, by repeat (first | exact Below.refl _ _ | apply below_alloc | apply pw_below_drewN | apply below_drew1)⟩
set_option maxHeartbeats 8000000 in
set_option maxRecDepth 100000 in
theorem slices_Clone_byte_byte.calls (A0 : Option Addr) (c0 : Nat) (l0 : List Int) (r : List Int) (w : World) (hr0 : Kd.C (Kd.int .u8) w A0 l0.length l0) (hc0 : l0.length ≤ c0) (h : slices_Clone_byte_byte.f l0 = some r) :
  Calls Try.prog 109 #[.slice A0 l0.length c0] w fun e w' => ∃ v0_ : Value, e = .returned (v0_) ∧ Kd.R (Kd.int .u8) 5 w' w.heap.size (fun _ => True) v0_ r ∧ Below w.heap.size w w' := by
 cases A0 with
 | none => exact slices_Clone_byte_byte.calls_none c0 l0 r w hr0 hc0 h
 | some ad0 => exact slices_Clone_byte_byte.calls_some ad0 c0 l0 r w hr0 hc0 h
end Go.Proofs.Ytepjnalkpfnmcaa.QFnExactEventsOf
