-- by my own printer (myprint.py, over the kit's print.py)
import Derived.Test.YtepjnalkpfnmcaaQFnExactInOrderx0
import Derived.Test.YtepjnalkpfnmcaaQFnExactInOrderx6
namespace Go.Proofs.Ytepjnalkpfnmcaa.QFnExactInOrder
open Go.RowKit Go.Proofs.YtepjnalkpfnmcaaW.PrintWords Go.Proofs.YtepjnalkpfnmcaaW.PrintLast Go.Proofs.YtepjnalkpfnmcaaW.PrintMore
attribute [local go_sem] max2_int min2_int max_two min_two max_three min_three max_four min_four   -- for this text's walks alone
set_option linter.unusedVariables false
set_option linter.unusedSimpArgs false
attribute [local go_sem] my_geq my_leq my_gtr
abbrev tb10_0_7 : Array Bool := #[b0, b0, b0, b0, b0, b0, b0, b0, b0, b0]
abbrev tb10_1_7 : Array Bool := #[b1, b0, b0, b0, b0, b0, b0, b0, b0, b0]
abbrev tb10_17_7 : Array Bool := #[b1, b1, b1, b0, b1, b0, b0, b0, b0, b0]
abbrev tb10_1ff_7 : Array Bool := #[b1, b1, b1, b1, b1, b1, b1, b1, b1, b0]
abbrev tb10_3_7 : Array Bool := #[b1, b1, b0, b0, b0, b0, b0, b0, b0, b0]
abbrev tb10_37_7 : Array Bool := #[b1, b1, b1, b0, b1, b1, b0, b0, b0, b0]
abbrev tb10_3ff_7 : Array Bool := #[b1, b1, b1, b1, b1, b1, b1, b1, b1, b1]
abbrev tb10_7_7 : Array Bool := #[b1, b1, b1, b0, b0, b0, b0, b0, b0, b0]
abbrev tb10_77_7 : Array Bool := #[b1, b1, b1, b0, b1, b1, b1, b0, b0, b0]
abbrev tb10_7f_7 : Array Bool := #[b1, b1, b1, b1, b1, b1, b1, b0, b0, b0]
abbrev tb10_ff_7 : Array Bool := #[b1, b1, b1, b1, b1, b1, b1, b1, b0, b0]
/-! ### laws_eqTaskS: function 107 -/
def laws_eqTaskS.l0 : Nat → List (S126) → List (S126) → Int → Option (Bool)
 | 0, _, _, _ => none
 | k + 1, x0, x1, x5 => if x5 < (x0.length : Int) then (if 0 ≤ x5 then (if x5 < (x1.length : Int) then ((laws_eqTask.f k ((rd_T126 x0 x5).f0) ((rd_T126 x0 x5).f1) ((rd_T126 x0 x5).f2) ((rd_T126 x0 x5).f3) ((rd_T126 x0 x5).f4) ((rd_T126 x0 x5).f5) ((rd_T126 x0 x5).f6) ((rd_T126 x0 x5).f7) ((rd_T126 x0 x5).f8) ((rd_T126 x1 x5).f0) ((rd_T126 x1 x5).f1) ((rd_T126 x1 x5).f2) ((rd_T126 x1 x5).f3) ((rd_T126 x1 x5).f4) ((rd_T126 x1 x5).f5) ((rd_T126 x1 x5).f6) ((rd_T126 x1 x5).f7) ((rd_T126 x1 x5).f8)).bind fun t313 => (if t313 = true then (laws_eqTaskS.l0 k x0 x1 (wrap64 (x5 + 1))) else (some false))) else (none)) else (none)) else (some true)
def laws_eqTaskS.f (k : Nat) (l0 : List (S126)) (l1 : List (S126)) : Option (Bool) := if (l0.length : Int) = (l1.length : Int) then (laws_eqTaskS.l0 k l0 l1 0) else (some false)
def laws_eqTaskS.T6 : Bool × List (List Nat × List Nat) := (true, [([], []), ([], []), ([0, 1], [0, 1]), ([2], [2]), ([], []), ([], []), ([4, 5], [4, 5]), ([6], [6]), ([3, 7], [3, 7]), ([8], [8])])
def laws_eqTaskS.B6 : List Nat := [0, 0, 3, 7, 0, 0, 48, 112, 255, 511]
theorem laws_eqTaskS.tab6 : rtab .any (opsOf Try.f107 6) = laws_eqTaskS.T6 := by kernel_rfl
theorem laws_eqTaskS.bits6 : waitsOk laws_eqTaskS.T6.2 laws_eqTaskS.B6 = true := by kernel_rfl
set_option maxHeartbeats 8000000 in
set_option maxRecDepth 100000 in
theorem laws_eqTaskS.calls (k : Nat) (A0 : Option Addr) (c0 : Nat) (l0 : List (S126)) (A1 : Option Addr) (c1 : Nat) (l1 : List (S126)) (r : Bool) (w : World) (hr0 : Kd.C k126 w A0 l0.length l0) (hc0 : l0.length ≤ c0) (hr1 : Kd.C k126 w A1 l1.length l1) (hc1 : l1.length ≤ c1) (h : laws_eqTaskS.f k l0 l1 = some true) :
  Calls Try.prog 107 #[.slice A0 l0.length c0, .slice A1 l1.length c1] w fun e w' => e = .returned (.bool true) ∧ Below w.heap.size w w' := by
 have hu126 := Try.underlying126
 have HR0 := Aside0.mk hr0
 have HC0 := Aside0.mk hc0
 clear hr0 hc0
 have HR1 := Aside0.mk hr1
 have HC1 := Aside0.mk hc1
 clear hr1 hc1
 have HB := Aside0.mk (Below.refl w.heap.size w)
 have H : (if (l0.length : Int) = (l1.length : Int) then (laws_eqTaskS.l0 k l0 l1 0) else (some false)) = some true := h
 clear h
 by_cases c3 : (l0.length : Int) = (l1.length : Int)
 ·rw [if_pos c3] at H
  have c3b0 : ((l0.length : Int) == (l1.length : Int)) = true := beq_iff_eq.mpr c3
  have c3b1 : ((l0.length : Int) != (l1.length : Int)) = false := bne_eq_false_iff_eq.mpr c3
  have c3b2 : (l0.length == l1.length) = true := by first | simpa using c3 | (simp at c3 ⊢; omega)
  clear c3
  have H' := Aside0.mk H
  clear H
  go_enter Try.func107, Try.ntmps107
  go_wp2
  go_loopg [5] k (fun kq v5 w' => ∃ (x5_1 : Int), v5 = .int .i64 x5_1 ∧ Aside0 (laws_eqTaskS.l0 kq l0 l1 x5_1 = some true) ∧ Aside0 (kq ≤ k) ∧ Aside0 (Below w.heap.size w w'))
  case atStart => exact ⟨(0), sp_, H', ⟨Nat.le_refl _⟩, ⟨bl_⟩⟩
  case round =>
   clear H'
   try clear c1
   try clear p2
   try clear c3
   try clear c3b0
   try clear c3b1
   try clear c3b2
   obtain ⟨x5_1, rfl, HA, HK1, HB⟩ := hrel
   cases gk with
   | zero => exact absurd HA.out (by simp [laws_eqTaskS.l0])
   | succ k1 =>
    have H := HA.out
    clear HA
    simp only [laws_eqTaskS.l0] at H
    by_cases c4 : x5_1 < (l0.length : Int)
    ·rw [if_pos c4] at H
     have c4b0 : decide (x5_1 < (l0.length : Int)) = true := decide_eq_true c4
     clear c4
     by_cases c5 : 0 ≤ x5_1
     ·rw [if_pos c5] at H
      have c5b0 : decide (0 ≤ x5_1) = true := decide_eq_true c5
      clear c5
      by_cases c6 : x5_1 < (l1.length : Int)
      ·rw [if_pos c6] at H
       have c6b0 : decide (x5_1 < (l1.length : Int)) = true := decide_eq_true c6
       clear c6
       obtain ⟨t313, A7, H⟩ := ob_ H
       by_cases c8 : t313 = true
       ·subst c8
        replace H := ip_ H
        have H' := Aside0.mk H
        clear H
        try go_wp2
        have n0_ := Aside0.mk (below_drew1 HB.out)
        clear HB
        have HB := n0_
        clear n0_
        have p311 : 0 ≤ (x5_1 : Int) := od_
        have q311 : x5_1 < (l0.length : Int) := od_
        obtain ⟨ad311, A311_0, c311_0, A311_2, c311_2, A311_8, c311_8, e311, hx311_0, hx311_1, hx311_2, hx311_3, hx311_4, hx311_5, hx311_6, hx311_7, hx311_8, hl311_0, hi311_0, hl311_2, hi311_2, hl311_8, hi311_8⟩ := at_T126 HR0.out x5_1 p311 q311
        have hw311_8 := hx311_8
        have hw311_7 := hx311_7
        have hw311_6 := hx311_6
        have hw311_5 := hx311_5
        have hw311_4 := hx311_4
        have hw311_3 := hx311_3
        have hw311_2 := hx311_2
        have hw311_1 := hx311_1
        have hw311_0 := hx311_0
        cases e311
        replace hx311_0 := kc_ HB hx311_0
        replace hx311_1 := kc_ HB hx311_1
        replace hx311_2 := kc_ HB hx311_2
        replace hx311_3 := kc_ HB hx311_3
        replace hx311_4 := kc_ HB hx311_4
        replace hx311_5 := kc_ HB hx311_5
        replace hx311_6 := kc_ HB hx311_6
        replace hx311_7 := kc_ HB hx311_7
        replace hx311_8 := kc_ HB hx311_8
        have HR311_0 := Aside0.mk hi311_0
        have HC311_0 := Aside0.mk hl311_0
        clear hi311_0 hl311_0
        have HR311_2 := Aside0.mk hi311_2
        have HC311_2 := Aside0.mk hl311_2
        clear hi311_2 hl311_2
        have HR311_8 := Aside0.mk hi311_8
        have HC311_8 := Aside0.mk hl311_8
        clear hi311_8 hl311_8
        replace p311 := eq_true p311
        replace q311 := eq_true q311
        have p312 : 0 ≤ (x5_1 : Int) := od_
        have q312 : x5_1 < (l1.length : Int) := od_
        obtain ⟨ad312, A312_0, c312_0, A312_2, c312_2, A312_8, c312_8, e312, hx312_0, hx312_1, hx312_2, hx312_3, hx312_4, hx312_5, hx312_6, hx312_7, hx312_8, hl312_0, hi312_0, hl312_2, hi312_2, hl312_8, hi312_8⟩ := at_T126 HR1.out x5_1 p312 q312
        have hw312_8 := hx312_8
        have hw312_7 := hx312_7
        have hw312_6 := hx312_6
        have hw312_5 := hx312_5
        have hw312_4 := hx312_4
        have hw312_3 := hx312_3
        have hw312_2 := hx312_2
        have hw312_1 := hx312_1
        have hw312_0 := hx312_0
        cases e312
        replace hx312_0 := kc_ HB hx312_0
        replace hx312_1 := kc_ HB hx312_1
        replace hx312_2 := kc_ HB hx312_2
        replace hx312_3 := kc_ HB hx312_3
        replace hx312_4 := kc_ HB hx312_4
        replace hx312_5 := kc_ HB hx312_5
        replace hx312_6 := kc_ HB hx312_6
        replace hx312_7 := kc_ HB hx312_7
        replace hx312_8 := kc_ HB hx312_8
        have HR312_0 := Aside0.mk hi312_0
        have HC312_0 := Aside0.mk hl312_0
        clear hi312_0 hl312_0
        have HR312_2 := Aside0.mk hi312_2
        have HC312_2 := Aside0.mk hl312_2
        clear hi312_2 hl312_2
        have HR312_8 := Aside0.mk hi312_8
        have HC312_8 := Aside0.mk hl312_8
        clear hi312_8 hl312_8
        replace p312 := eq_true p312
        replace q312 := eq_true q312
        refine start_ (n := 10) (S := fun w' => w'.cell? (ad311.add ((x5_1).toNat * 9)) = some (.slice A311_0 ((rd_T126 l0 x5_1).f0).length c311_0) ∧ w'.cell? ⟨(ad311.add ((x5_1).toNat * 9)).block, (ad311.add ((x5_1).toNat * 9)).off + 1, none⟩ = some (.int .i64 ((rd_T126 l0 x5_1).f1)) ∧ w'.cell? ⟨(ad311.add ((x5_1).toNat * 9)).block, (ad311.add ((x5_1).toNat * 9)).off + 2, none⟩ = some (.slice A311_2 ((rd_T126 l0 x5_1).f2).length c311_2) ∧ w'.cell? ⟨(ad311.add ((x5_1).toNat * 9)).block, (ad311.add ((x5_1).toNat * 9)).off + 3, none⟩ = some (.int .i64 ((rd_T126 l0 x5_1).f3)) ∧ w'.cell? ⟨(ad311.add ((x5_1).toNat * 9)).block, (ad311.add ((x5_1).toNat * 9)).off + 4, none⟩ = some (.int .i64 ((rd_T126 l0 x5_1).f4)) ∧ w'.cell? ⟨(ad311.add ((x5_1).toNat * 9)).block, (ad311.add ((x5_1).toNat * 9)).off + 5, none⟩ = some (.int .i64 ((rd_T126 l0 x5_1).f5)) ∧ w'.cell? ⟨(ad311.add ((x5_1).toNat * 9)).block, (ad311.add ((x5_1).toNat * 9)).off + 6, none⟩ = some (.int .i64 ((rd_T126 l0 x5_1).f6)) ∧ w'.cell? ⟨(ad311.add ((x5_1).toNat * 9)).block, (ad311.add ((x5_1).toNat * 9)).off + 7, none⟩ = some (.int .i64 ((rd_T126 l0 x5_1).f7)) ∧ w'.cell? ⟨(ad311.add ((x5_1).toNat * 9)).block, (ad311.add ((x5_1).toNat * 9)).off + 8, none⟩ = some (.slice A311_8 ((rd_T126 l0 x5_1).f8).length c311_8) ∧ w'.cell? (ad312.add ((x5_1).toNat * 9)) = some (.slice A312_0 ((rd_T126 l1 x5_1).f0).length c312_0) ∧ w'.cell? ⟨(ad312.add ((x5_1).toNat * 9)).block, (ad312.add ((x5_1).toNat * 9)).off + 1, none⟩ = some (.int .i64 ((rd_T126 l1 x5_1).f1)) ∧ w'.cell? ⟨(ad312.add ((x5_1).toNat * 9)).block, (ad312.add ((x5_1).toNat * 9)).off + 2, none⟩ = some (.slice A312_2 ((rd_T126 l1 x5_1).f2).length c312_2) ∧ w'.cell? ⟨(ad312.add ((x5_1).toNat * 9)).block, (ad312.add ((x5_1).toNat * 9)).off + 3, none⟩ = some (.int .i64 ((rd_T126 l1 x5_1).f3)) ∧ w'.cell? ⟨(ad312.add ((x5_1).toNat * 9)).block, (ad312.add ((x5_1).toNat * 9)).off + 4, none⟩ = some (.int .i64 ((rd_T126 l1 x5_1).f4)) ∧ w'.cell? ⟨(ad312.add ((x5_1).toNat * 9)).block, (ad312.add ((x5_1).toNat * 9)).off + 5, none⟩ = some (.int .i64 ((rd_T126 l1 x5_1).f5)) ∧ w'.cell? ⟨(ad312.add ((x5_1).toNat * 9)).block, (ad312.add ((x5_1).toNat * 9)).off + 6, none⟩ = some (.int .i64 ((rd_T126 l1 x5_1).f6)) ∧ w'.cell? ⟨(ad312.add ((x5_1).toNat * 9)).block, (ad312.add ((x5_1).toNat * 9)).off + 7, none⟩ = some (.int .i64 ((rd_T126 l1 x5_1).f7)) ∧ w'.cell? ⟨(ad312.add ((x5_1).toNat * 9)).block, (ad312.add ((x5_1).toNat * 9)).off + 8, none⟩ = some (.slice A312_8 ((rd_T126 l1 x5_1).f8).length c312_8)) (ds := []) tb10_0_7 (by kernel_rfl) rfl rfl ⟨(kc_ HB hw311_0), (kc_ HB hw311_1), (kc_ HB hw311_2), (kc_ HB hw311_3), (kc_ HB hw311_4), (kc_ HB hw311_5), (kc_ HB hw311_6), (kc_ HB hw311_7), (kc_ HB hw311_8), (kc_ HB hw312_0), (kc_ HB hw312_1), (kc_ HB hw312_2), (kc_ HB hw312_3), (kc_ HB hw312_4), (kc_ HB hw312_5), (kc_ HB hw312_6), (kc_ HB hw312_7), (kc_ HB hw312_8)⟩ (fun hHeld => ?_); refine with_tabW laws_eqTaskS.tab6 laws_eqTaskS.bits6 (fun HT_ HW_ => ?_)
        generalize wr.drew = w9 at HB HR311_0 HR311_2 HR311_8 HR312_0 HR312_2 HR312_8 hx311_0 hx311_1 hx311_2 hx311_3 hx311_4 hx311_5 hx311_6 hx311_7 hx311_8 hx312_0 hx312_1 hx312_2 hx312_3 hx312_4 hx312_5 hx312_6 hx312_7 hx312_8 hHeld ⊢
        refine pl_ HT_ 0 17 tb10_1_7 ?_
        refine pl_ HT_ 1 18 tb10_3_7 ?_
        refine pl_ HT_ 2 19 tb10_7_7 ?_
        refine pl_ HT_ 4 21 tb10_17_7 ?_
        refine pl_ HT_ 5 22 tb10_37_7 ?_
        refine pl_ HT_ 6 23 tb10_77_7 ?_
        refine take_ (i := 3) (N := some 20) (v := ?_) (a' := ?_) tb10_7f_7 rfl rfl (take_ofW HT_.out HW_.out (by kernel_rfl)) (fun _ _ _ h => h) (Or.inl ⟨by rfl, ?_⟩) hHeld ?_ ?_
        rotate_left
        ·rintro w' ⟨s0, s1, s2, s3, s4, s5, s6, s7, s8, s9, s10, s11, s12, s13, s14, s15, s16, s17⟩
         go_simp
         with_reducible rfl
        rotate_left
        ·simp only [Act.put, q_]
         rfl
        refine take_ (i := 7) (N := some 24) (v := ?_) (a' := ?_) tb10_ff_7 rfl rfl (take_ofW HT_.out HW_.out (by kernel_rfl)) (fun _ _ _ h => h) (Or.inl ⟨by rfl, ?_⟩) hHeld ?_ ?_
        rotate_left
        ·rintro w' ⟨s0, s1, s2, s3, s4, s5, s6, s7, s8, s9, s10, s11, s12, s13, s14, s15, s16, s17⟩
         go_simp
         with_reducible rfl
        rotate_left
        ·simp only [Act.put, q_]
         rfl
        refine one_ (i := 8) (N := some 25) tb10_1ff_7 rfl rfl (one_of HT_.out (by kernel_rfl)) (by decide) (fun K hK => ?_)
        refine goes_ Try.func160 (by kernel_rfl) rfl #[.agg #[.slice A311_0 ((rd_T126 l0 x5_1).f0).length c311_0, .int .i64 ((rd_T126 l0 x5_1).f1), .slice A311_2 ((rd_T126 l0 x5_1).f2).length c311_2, .int .i64 ((rd_T126 l0 x5_1).f3), .int .i64 ((rd_T126 l0 x5_1).f4), .int .i64 ((rd_T126 l0 x5_1).f5), .int .i64 ((rd_T126 l0 x5_1).f6), .int .i64 ((rd_T126 l0 x5_1).f7), .slice A311_8 ((rd_T126 l0 x5_1).f8).length c311_8], .agg #[.slice A312_0 ((rd_T126 l1 x5_1).f0).length c312_0, .int .i64 ((rd_T126 l1 x5_1).f1), .slice A312_2 ((rd_T126 l1 x5_1).f2).length c312_2, .int .i64 ((rd_T126 l1 x5_1).f3), .int .i64 ((rd_T126 l1 x5_1).f4), .int .i64 ((rd_T126 l1 x5_1).f5), .int .i64 ((rd_T126 l1 x5_1).f6), .int .i64 ((rd_T126 l1 x5_1).f7), .slice A312_8 ((rd_T126 l1 x5_1).f8).length c312_8]] (by rfl) rfl rfl gl_ ?_
        with_reducible refine (laws_eqTask.calls k1 _ _ ((rd_T126 l0 x5_1).f0) ((rd_T126 l0 x5_1).f1) _ _ ((rd_T126 l0 x5_1).f2) ((rd_T126 l0 x5_1).f3) ((rd_T126 l0 x5_1).f4) ((rd_T126 l0 x5_1).f5) ((rd_T126 l0 x5_1).f6) ((rd_T126 l0 x5_1).f7) _ _ ((rd_T126 l0 x5_1).f8) _ _ ((rd_T126 l1 x5_1).f0) ((rd_T126 l1 x5_1).f1) _ _ ((rd_T126 l1 x5_1).f2) ((rd_T126 l1 x5_1).f3) ((rd_T126 l1 x5_1).f4) ((rd_T126 l1 x5_1).f5) ((rd_T126 l1 x5_1).f6) ((rd_T126 l1 x5_1).f7) _ _ ((rd_T126 l1 x5_1).f8) true _ ?side1 ?side2 ?side3 ?side4 ?side5 ?side6 ?side7 ?side8 ?side9 ?side10 ?side11 ?side12 A7.out).mono ?_
        (case side1 => exact ca_ (Kd.C_below HR311_0.out HB.out))
        (case side2 => exact HC311_0.out)
        (case side3 => exact ca_ (Kd.C_below HR311_2.out HB.out))
        (case side4 => exact HC311_2.out)
        (case side5 => exact ca_ (Kd.C_below HR311_8.out HB.out))
        (case side6 => exact HC311_8.out)
        (case side7 => exact ca_ (Kd.C_below HR312_0.out HB.out))
        (case side8 => exact HC312_0.out)
        (case side9 => exact ca_ (Kd.C_below HR312_2.out HB.out))
        (case side10 => exact HC312_2.out)
        (case side11 => exact ca_ (Kd.C_below HR312_8.out HB.out))
        (case side12 => exact HC312_8.out)
        rintro e w10 ⟨rfl, hb⟩
        refine ⟨_, rfl, ?_⟩
        have n0_ := Aside0.mk (below_step bl_ hb)
        clear HB
        have HB := n0_
        clear n0_
        (try clear hb)
        (try clear hb2)
        (try clear hk)
        (try clear hi)
        refine hK.out _ _ ⟨(kc_ HB hw311_0), (kc_ HB hw311_1), (kc_ HB hw311_2), (kc_ HB hw311_3), (kc_ HB hw311_4), (kc_ HB hw311_5), (kc_ HB hw311_6), (kc_ HB hw311_7), (kc_ HB hw311_8), (kc_ HB hw312_0), (kc_ HB hw312_1), (kc_ HB hw312_2), (kc_ HB hw312_3), (kc_ HB hw312_4), (kc_ HB hw312_5), (kc_ HB hw312_6), (kc_ HB hw312_7), (kc_ HB hw312_8)⟩ (fun hHeld => ?_)
        clear hK K
        refine norm_ (a' := ?_) ?_ ?_
        rotate_left
        ·show Act.put _ (some 25) _ = _
         simp only [Act.put, q_]
         rfl
        refine pl_ HT_ 9 26 tb10_3ff_7 ?_
        refine done_ (done_of HT_.out (by kernel_rfl)) ?_
        try go_wp2
        go_roundg k1
        case measure => have := HK1.out; omega
        case rel => exact ⟨(wrap64 (x5_1 + 1)), sp_, H', ⟨by have := HK1.out; omega⟩, ⟨bl_⟩⟩
       ·replace c8 := Bool.eq_false_iff.mpr c8
        subst c8
        replace H := in_ H
        exact absurd H (by simp)
      ·rw [if_neg c6] at H
       exact absurd H (by simp)
     ·rw [if_neg c5] at H
      exact absurd H (by simp)
    ·rw [if_neg c4] at H
     have c4b0 : decide (x5_1 < (l0.length : Int)) = false := decide_eq_false c4
     clear c4
     clear H
     go_wp2
     go_ret
     exact ⟨sq_, bl_⟩
 ·rw [if_neg c3] at H
  have c3b0 : ((l0.length : Int) == (l1.length : Int)) = false := beq_eq_false_iff_ne.mpr c3
  have c3b1 : ((l0.length : Int) != (l1.length : Int)) = true := bne_iff_ne.mpr c3
  have c3b2 : (l0.length == l1.length) = false := by first | simpa using c3 | (simp at c3 ⊢; omega)
  exact absurd H (by simp)
/-! ### laws_eqWorld: function 35 -/
def laws_eqWorld.f (k : Nat) (l0_0 : List (S121)) (a0_1 : Int) (a0_2 : Int) (l0_3 : List (S126)) (l1_0 : List (S121)) (a1_1 : Int) (a1_2 : Int) (l1_3 : List (S126)) : Option (Bool) := (laws_eqStripeS.f k l0_0 l1_0).bind fun t316 => (if t316 = true then (if a0_1 = a1_1 then (if a0_2 = a1_2 then ((laws_eqTaskS.f k l0_3 l1_3).bind fun t317 => (if t317 = true then (some true) else (some false))) else (some false)) else (some false)) else (some false))
set_option maxHeartbeats 8000000 in
set_option maxRecDepth 100000 in
theorem laws_eqWorld.calls (k : Nat) (A0_0 : Option Addr) (c0_0 : Nat) (l0_0 : List (S121)) (a0_1 : Int) (a0_2 : Int) (A0_3 : Option Addr) (c0_3 : Nat) (l0_3 : List (S126)) (A1_0 : Option Addr) (c1_0 : Nat) (l1_0 : List (S121)) (a1_1 : Int) (a1_2 : Int) (A1_3 : Option Addr) (c1_3 : Nat) (l1_3 : List (S126)) (r : Bool) (w : World) (hr0_0 : Kd.C k121 w A0_0 l0_0.length l0_0) (hc0_0 : l0_0.length ≤ c0_0) (hr0_3 : Kd.C k126 w A0_3 l0_3.length l0_3) (hc0_3 : l0_3.length ≤ c0_3) (hr1_0 : Kd.C k121 w A1_0 l1_0.length l1_0) (hc1_0 : l1_0.length ≤ c1_0) (hr1_3 : Kd.C k126 w A1_3 l1_3.length l1_3) (hc1_3 : l1_3.length ≤ c1_3) (h : laws_eqWorld.f k l0_0 a0_1 a0_2 l0_3 l1_0 a1_1 a1_2 l1_3 = some true) :
  Calls Try.prog 35 #[.agg #[.slice A0_0 l0_0.length c0_0, .int .i64 a0_1, .int .i64 a0_2, .slice A0_3 l0_3.length c0_3], .agg #[.slice A1_0 l1_0.length c1_0, .int .i64 a1_1, .int .i64 a1_2, .slice A1_3 l1_3.length c1_3]] w fun e w' => e = .returned (.bool true) ∧ Below w.heap.size w w' := by
 have hu56 := Try.underlying56
 have HR0_0 := Aside0.mk hr0_0
 have HC0_0 := Aside0.mk hc0_0
 clear hr0_0 hc0_0
 have HR0_3 := Aside0.mk hr0_3
 have HC0_3 := Aside0.mk hc0_3
 clear hr0_3 hc0_3
 have HR1_0 := Aside0.mk hr1_0
 have HC1_0 := Aside0.mk hc1_0
 clear hr1_0 hc1_0
 have HR1_3 := Aside0.mk hr1_3
 have HC1_3 := Aside0.mk hc1_3
 clear hr1_3 hc1_3
 have HB := Aside0.mk (Below.refl w.heap.size w)
 have H : ((laws_eqStripeS.f k l0_0 l1_0).bind fun t316 => (if t316 = true then (if a0_1 = a1_1 then (if a0_2 = a1_2 then ((laws_eqTaskS.f k l0_3 l1_3).bind fun t317 => (if t317 = true then (some true) else (some false))) else (some false)) else (some false)) else (some false))) = some true := h
 clear h
 obtain ⟨t316, A3, H⟩ := ob_ H
 by_cases c4 : t316 = true
 ·subst c4
  replace H := ip_ H
  by_cases c5 : a0_1 = a1_1
  ·rw [if_pos c5] at H
   have c5b0 : (a0_1 == a1_1) = true := beq_iff_eq.mpr c5
   have c5b1 : (a0_1 != a1_1) = false := bne_eq_false_iff_eq.mpr c5
   clear c5
   by_cases c6 : a0_2 = a1_2
   ·rw [if_pos c6] at H
    have c6b0 : (a0_2 == a1_2) = true := beq_iff_eq.mpr c6
    have c6b1 : (a0_2 != a1_2) = false := bne_eq_false_iff_eq.mpr c6
    clear c6
    obtain ⟨t317, A7, H⟩ := ob_ H
    by_cases c8 : t317 = true
    ·subst c8
     have H1 : (some true) = some true := rfl
     clear H
     have H := H1
     clear H1
     clear H
     go_enter Try.func35, Try.ntmps35
     go_wp2_with (first | ((with_reducible refine gate_dst (N := 2) rfl ?_); refine be_ (N := 2) (cs := #[.slice A0_0 l0_0.length c0_0, .int .i64 a0_1, .int .i64 a0_2, .slice A0_3 l0_3.length c0_3]) (t := 56) ?_; intro gb314 hg w9 hbox hb; have BK314 := Aside0.mk (hbox); have GW314 := gw_ (w := w) hg; have GE314 := gw_ (w := w) hg; replace HB := Aside0.mk (below_step bl_ hb); clear hb hbox hg) | ((with_reducible refine gate_dst (N := 3) rfl ?_); refine be_ (N := 3) (cs := #[.slice A1_0 l1_0.length c1_0, .int .i64 a1_1, .int .i64 a1_2, .slice A1_3 l1_3.length c1_3]) (t := 56) ?_; intro gb315 hg w10 hbox hb; have BK315 := Aside0.mk (hbox); have GW315 := gw_ (w := w) hg; have GE315 := gw_ (w := w) hg; replace HB := Aside0.mk (below_step bl_ hb); have NB314_315 := Aside0.mk ((by rw [hg]; exact Nat.ne_of_lt (blk_lt (bk_ BK314)) : gb314 ≠ gb315)); have NB315_314 := Aside0.mk ((by rw [hg]; exact Nat.ne_of_gt (blk_lt (bk_ BK314)) : gb315 ≠ gb314)); replace BK314 := Aside0.mk (blk_below (bk_ BK314) hb); clear hb hbox hg; have hnb11 := NB314_315.out; have hnc11 := NB315_314.out; obtain ⟨hcz12_0, hcz12_1, hcz12_2, hcz12_3, hfz12_0, hfz12_1, hfz12_2, hfz12_3⟩ := bx4_ BK314; obtain ⟨hcz13_0, hcz13_1, hcz13_2, hcz13_3, hfz13_0, hfz13_1, hfz13_2, hfz13_3⟩ := bx4_ BK315) | ((with_reducible refine gate_callee (f := 106) rfl ?_); refine goesL_ (some 9) rfl rfl Try.func106 (by kernel_rfl) rfl #[.slice A0_0 l0_0.length c0_0, .slice A1_0 l1_0.length c1_0] rfl gl_ ?_; (with_reducible refine (laws_eqStripeS.calls k _ _ l0_0 _ _ l1_0 true _ ?side1 ?side2 ?side3 ?side4 A3.out).mono ?_); (case side1 => exact ca_ (Kd.C_below HR0_0.out HB.out)); (case side2 => exact HC0_0.out); (case side3 => exact ca_ (Kd.C_below HR1_0.out HB.out)); (case side4 => exact HC1_0.out); rintro e w14 ⟨rfl, hb⟩; refine ⟨_, rfl, ?_⟩; replace BK314 := Aside0.mk (blk_below (bk_ BK314) hb); replace BK315 := Aside0.mk (blk_below (bk_ BK315) hb); replace HB := Aside0.mk (below_step bl_ hb); (try clear hb); (try clear hb2); (try clear hk); (try clear hi); obtain ⟨hcz15_0, hcz15_1, hcz15_2, hcz15_3, hfz15_0, hfz15_1, hfz15_2, hfz15_3⟩ := bx4_ BK314; obtain ⟨hcz16_0, hcz16_1, hcz16_2, hcz16_3, hfz16_0, hfz16_1, hfz16_2, hfz16_3⟩ := bx4_ BK315) | ((with_reducible refine gate_callee (f := 107) rfl ?_); refine goesL_ (some 25) rfl rfl Try.func107 (by kernel_rfl) rfl #[.slice A0_3 l0_3.length c0_3, .slice A1_3 l1_3.length c1_3] rfl gl_ ?_; (with_reducible refine (laws_eqTaskS.calls k _ _ l0_3 _ _ l1_3 true _ ?side1 ?side2 ?side3 ?side4 A7.out).mono ?_); (case side1 => exact ca_ (Kd.C_below HR0_3.out HB.out)); (case side2 => exact HC0_3.out); (case side3 => exact ca_ (Kd.C_below HR1_3.out HB.out)); (case side4 => exact HC1_3.out); rintro e w17 ⟨rfl, hb⟩; refine ⟨_, rfl, ?_⟩; replace BK314 := Aside0.mk (blk_below (bk_ BK314) hb); replace BK315 := Aside0.mk (blk_below (bk_ BK315) hb); replace HB := Aside0.mk (below_step bl_ hb); (try clear hb); (try clear hb2); (try clear hk); (try clear hi)))
     go_ret
     exact ⟨sq_, bl_⟩
    ·replace c8 := Bool.eq_false_iff.mpr c8
     subst c8
     replace H := in_ H
     exact absurd H (by simp)
   ·rw [if_neg c6] at H
    have c6b0 : (a0_2 == a1_2) = false := beq_eq_false_iff_ne.mpr c6
    have c6b1 : (a0_2 != a1_2) = true := bne_iff_ne.mpr c6
    exact absurd H (by simp)
  ·rw [if_neg c5] at H
   have c5b0 : (a0_1 == a1_1) = false := beq_eq_false_iff_ne.mpr c5
   have c5b1 : (a0_1 != a1_1) = true := bne_iff_ne.mpr c5
   exact absurd H (by simp)
 ·replace c4 := Bool.eq_false_iff.mpr c4
  subst c4
  replace H := in_ H
  exact absurd H (by simp)
end Go.Proofs.Ytepjnalkpfnmcaa.QFnExactInOrder
