-- by my own printer (myprint.py, over the kit's print.py)
import Derived.Test.YtepjnalkpfnmcaaQFnExactRoomx0
import Derived.Test.YtepjnalkpfnmcaaQFnExactRoomx13
namespace Go.Proofs.Ytepjnalkpfnmcaa.QFnExactRoom
open Go.RowKit Go.Proofs.YtepjnalkpfnmcaaW.PrintWords Go.Proofs.YtepjnalkpfnmcaaW.PrintLast Go.Proofs.YtepjnalkpfnmcaaW.PrintMore
attribute [local go_sem] max2_int min2_int max_two min_two max_three min_three max_four min_four   -- for this text's walks alone
set_option linter.unusedVariables false
set_option linter.unusedSimpArgs false

attribute [local go_sem] my_geq my_leq my_gtr
abbrev tb10_0_14 : Array Bool := #[b0, b0, b0, b0, b0, b0, b0, b0, b0, b0]
abbrev tb10_1_14 : Array Bool := #[b1, b0, b0, b0, b0, b0, b0, b0, b0, b0]
abbrev tb10_17_14 : Array Bool := #[b1, b1, b1, b0, b1, b0, b0, b0, b0, b0]
abbrev tb10_1ff_14 : Array Bool := #[b1, b1, b1, b1, b1, b1, b1, b1, b1, b0]
abbrev tb10_3_14 : Array Bool := #[b1, b1, b0, b0, b0, b0, b0, b0, b0, b0]
abbrev tb10_37_14 : Array Bool := #[b1, b1, b1, b0, b1, b1, b0, b0, b0, b0]
abbrev tb10_3ff_14 : Array Bool := #[b1, b1, b1, b1, b1, b1, b1, b1, b1, b1]
abbrev tb10_7_14 : Array Bool := #[b1, b1, b1, b0, b0, b0, b0, b0, b0, b0]
abbrev tb10_77_14 : Array Bool := #[b1, b1, b1, b0, b1, b1, b1, b0, b0, b0]
abbrev tb10_7f_14 : Array Bool := #[b1, b1, b1, b1, b1, b1, b1, b0, b0, b0]
abbrev tb10_ff_14 : Array Bool := #[b1, b1, b1, b1, b1, b1, b1, b1, b0, b0]
/-! ### laws_eqSlotS: function 41 -/
def laws_eqSlotS.l0 : Nat → List (S74) → List (S74) → Int → Option (Bool)
 | 0, _, _, _ => none
 | k + 1, x0, x1, x5 => if x5 < (x0.length : Int) then (if 0 ≤ x5 then (if x5 < (x1.length : Int) then ((laws_eqSlot.f k ((rd_T74 x0 x5).f0) ((rd_T74 x0 x5).f1) ((rd_T74 x0 x5).f2) ((rd_T74 x1 x5).f0) ((rd_T74 x1 x5).f1) ((rd_T74 x1 x5).f2)).bind fun t344 => (if t344 = true then (laws_eqSlotS.l0 k x0 x1 (wrap64 (x5 + 1))) else (some false))) else (none)) else (none)) else (some true)
def laws_eqSlotS.f (k : Nat) (l0 : List (S74)) (l1 : List (S74)) : Option (Bool) := if (l0.length : Int) = (l1.length : Int) then (laws_eqSlotS.l0 k l0 l1 0) else (some false)
theorem laws_eqSlotS.mono_l : ∀ k, (∀ y0 y1 y2, LeO (laws_eqSlotS.l0 k y0 y1 y2) (laws_eqSlotS.l0 (k + 1) y0 y1 y2))
 | 0 => fun _ _ _ r h => by simp [laws_eqSlotS.l0] at h
 | k + 1 => by
  have ih0 := laws_eqSlotS.mono_l k
  ·intro y0 y1 y2
   unfold laws_eqSlotS.l0
   repeat' first
   | (with_reducible exact ih0 _ _ _)
   | (with_reducible exact laws_eqSlot.mono _ _ _ _ _ _ _)
   | (with_reducible exact LeO.refl _)
   | (with_reducible exact LeO.none _)
   | (with_reducible refine LeO.ite ?_ ?_)
   | (with_reducible refine LeO.bind ?_ (fun _ => ?_))
   | exact ih0 _ _ _
   | exact laws_eqSlot.mono _ _ _ _ _ _ _
   | exact LeO.none _
   | refine LeO.ite ?_ ?_
   | refine LeO.bind ?_ (fun _ => ?_)
theorem laws_eqSlotS.mono : ∀ a0 a1 k, LeO (laws_eqSlotS.f k a0 a1) (laws_eqSlotS.f (k + 1) a0 a1) := by
 intro a0 a1 k
 have ih0 := laws_eqSlotS.mono_l k
 unfold laws_eqSlotS.f
 repeat' first
   | (with_reducible exact ih0 _ _ _)
   | (with_reducible exact laws_eqSlot.mono _ _ _ _ _ _ _)
   | (with_reducible exact LeO.refl _)
   | (with_reducible exact LeO.none _)
   | (with_reducible refine LeO.ite ?_ ?_)
   | (with_reducible refine LeO.bind ?_ (fun _ => ?_))
   | exact ih0 _ _ _
   | exact laws_eqSlot.mono _ _ _ _ _ _ _
   | exact LeO.none _
   | refine LeO.ite ?_ ?_
   | refine LeO.bind ?_ (fun _ => ?_)
def laws_eqSlotS.T6 : Bool × List (List Nat × List Nat) := (true, [([], []), ([], []), ([0, 1], [0, 1]), ([2], [2]), ([], []), ([], []), ([4, 5], [4, 5]), ([6], [6]), ([3, 7], [3, 7]), ([8], [8])])
def laws_eqSlotS.B6 : List Nat := [0, 0, 3, 7, 0, 0, 48, 112, 255, 511]
theorem laws_eqSlotS.tab6 : rtab .any (opsOf Try.f41 6) = laws_eqSlotS.T6 := by kernel_rfl
theorem laws_eqSlotS.bits6 : waitsOk laws_eqSlotS.T6.2 laws_eqSlotS.B6 = true := by kernel_rfl
set_option maxHeartbeats 8000000 in
set_option maxRecDepth 100000 in
theorem laws_eqSlotS.calls (k : Nat) (A0 : Option Addr) (c0 : Nat) (l0 : List (S74)) (A1 : Option Addr) (c1 : Nat) (l1 : List (S74)) (r : Bool) (w : World) (hr0 : Kd.C k74 w A0 l0.length l0) (hc0 : l0.length ≤ c0) (hr1 : Kd.C k74 w A1 l1.length l1) (hc1 : l1.length ≤ c1) (h : laws_eqSlotS.f k l0 l1 = some r) :
  Calls Try.prog 41 #[.slice A0 l0.length c0, .slice A1 l1.length c1] w fun e w' => e = .returned (.bool r) ∧ Below w.heap.size w w' := by
 have hu74 := Try.underlying74
 have HR0 := Aside0.mk hr0
 have HC0 := Aside0.mk hc0
 clear hr0 hc0
 have HR1 := Aside0.mk hr1
 have HC1 := Aside0.mk hc1
 clear hr1 hc1
 have HB := Aside0.mk (Below.refl w.heap.size w)
 have H : (if (l0.length : Int) = (l1.length : Int) then (laws_eqSlotS.l0 k l0 l1 0) else (some false)) = some r := h
 clear h
 by_cases c3 : (l0.length : Int) = (l1.length : Int)
 ·rw [if_pos c3] at H
  have c3b0 : ((l0.length : Int) == (l1.length : Int)) = true := beq_iff_eq.mpr c3
  have c3b1 : ((l0.length : Int) != (l1.length : Int)) = false := bne_eq_false_iff_eq.mpr c3
  have c3b2 : (l0.length == l1.length) = true := by first | simpa using c3 | (simp at c3 ⊢; omega)
  clear c3
  have H' := Aside0.mk H
  clear H
  go_enter Try.func41, Try.ntmps41
  go_wp2
  go_loopg [5] k (fun kq v5 w' => ∃ (x5_1 : Int), v5 = .int .i64 x5_1 ∧ Aside0 (laws_eqSlotS.l0 kq l0 l1 x5_1 = some r) ∧ Aside0 (kq ≤ k) ∧ Aside0 (Below w.heap.size w w'))
  case atStart => exact ⟨(0), sp_, H', ⟨Nat.le_refl _⟩, ⟨bl_⟩⟩
  case round =>
   clear H'
   try clear c1
   try clear p2
   try clear c3
   try clear c3b0
   try clear c3b1
   try clear c3b2
   obtain ⟨x5_1, rfl, HA, HK1, HB⟩ := hrel
   cases gk with
   | zero => exact absurd HA.out (by simp [laws_eqSlotS.l0])
   | succ k1 =>
    have H := HA.out
    clear HA
    simp only [laws_eqSlotS.l0] at H
    by_cases c4 : x5_1 < (l0.length : Int)
    ·rw [if_pos c4] at H
     have c4b0 : decide (x5_1 < (l0.length : Int)) = true := decide_eq_true c4
     clear c4
     by_cases c5 : 0 ≤ x5_1
     ·rw [if_pos c5] at H
      have c5b0 : decide (0 ≤ x5_1) = true := decide_eq_true c5
      clear c5
      by_cases c6 : x5_1 < (l1.length : Int)
      ·rw [if_pos c6] at H
       have c6b0 : decide (x5_1 < (l1.length : Int)) = true := decide_eq_true c6
       clear c6
       replace H := Option.bind_eq_some_iff.mp H
       obtain ⟨t344, A70, H⟩ := H
       replace H : (if t344 = true then (laws_eqSlotS.l0 k1 l0 l1 (wrap64 (x5_1 + 1))) else (some false)) = some r := H
       have A7 := Aside0.mk A70
       clear A70
       by_cases c8 : t344 = true
       ·subst c8
        have H1 : (laws_eqSlotS.l0 k1 l0 l1 (wrap64 (x5_1 + 1))) = some r := by rw [if_pos rfl] at H; exact H
        clear H
        have H := H1
        clear H1
        have H' := Aside0.mk H
        clear H
        try go_wp2
        have n0_ := Aside0.mk (below_drew1 HB.out)
        clear HB
        have HB := n0_
        clear n0_
        have p342 : 0 ≤ (x5_1 : Int) := od_
        have q342 : x5_1 < (l0.length : Int) := od_
        obtain ⟨ad342, A342_2, c342_2, e342, hx342_0, hx342_1, hx342_2, hl342_2, hi342_2⟩ := at_T74 HR0.out x5_1 p342 q342
        have hw342_2 := hx342_2
        have hw342_1 := hx342_1
        have hw342_0 := hx342_0
        cases e342
        replace hx342_0 := kc_ HB hx342_0
        replace hx342_1 := kc_ HB hx342_1
        replace hx342_2 := kc_ HB hx342_2
        have HR342_2 := Aside0.mk hi342_2
        have HC342_2 := Aside0.mk hl342_2
        clear hi342_2 hl342_2
        replace p342 := eq_true p342
        replace q342 := eq_true q342
        have p343 : 0 ≤ (x5_1 : Int) := od_
        have q343 : x5_1 < (l1.length : Int) := od_
        obtain ⟨ad343, A343_2, c343_2, e343, hx343_0, hx343_1, hx343_2, hl343_2, hi343_2⟩ := at_T74 HR1.out x5_1 p343 q343
        have hw343_2 := hx343_2
        have hw343_1 := hx343_1
        have hw343_0 := hx343_0
        cases e343
        replace hx343_0 := kc_ HB hx343_0
        replace hx343_1 := kc_ HB hx343_1
        replace hx343_2 := kc_ HB hx343_2
        have HR343_2 := Aside0.mk hi343_2
        have HC343_2 := Aside0.mk hl343_2
        clear hi343_2 hl343_2
        replace p343 := eq_true p343
        replace q343 := eq_true q343
        refine start_ (n := 10) (S := fun w' => w'.cell? (ad342.add ((x5_1).toNat * 3)) = some (.string ((rd_T74 l0 x5_1).f0)) ∧ w'.cell? ⟨(ad342.add ((x5_1).toNat * 3)).block, (ad342.add ((x5_1).toNat * 3)).off + 1, none⟩ = some (.string ((rd_T74 l0 x5_1).f1)) ∧ w'.cell? ⟨(ad342.add ((x5_1).toNat * 3)).block, (ad342.add ((x5_1).toNat * 3)).off + 2, none⟩ = some (.slice A342_2 ((rd_T74 l0 x5_1).f2).length c342_2) ∧ w'.cell? (ad343.add ((x5_1).toNat * 3)) = some (.string ((rd_T74 l1 x5_1).f0)) ∧ w'.cell? ⟨(ad343.add ((x5_1).toNat * 3)).block, (ad343.add ((x5_1).toNat * 3)).off + 1, none⟩ = some (.string ((rd_T74 l1 x5_1).f1)) ∧ w'.cell? ⟨(ad343.add ((x5_1).toNat * 3)).block, (ad343.add ((x5_1).toNat * 3)).off + 2, none⟩ = some (.slice A343_2 ((rd_T74 l1 x5_1).f2).length c343_2)) (ds := []) tb10_0_14 (by kernel_rfl) rfl rfl ⟨(kc_ HB hw342_0), (kc_ HB hw342_1), (kc_ HB hw342_2), (kc_ HB hw343_0), (kc_ HB hw343_1), (kc_ HB hw343_2)⟩ (fun hHeld => ?_); refine with_tabW laws_eqSlotS.tab6 laws_eqSlotS.bits6 (fun HT_ HW_ => ?_)
        generalize wr.drew = w9 at HB HR342_2 HR343_2 hx342_0 hx342_1 hx342_2 hx343_0 hx343_1 hx343_2 hHeld ⊢
        refine pl_ HT_ 0 17 tb10_1_14 ?_
        refine pl_ HT_ 1 18 tb10_3_14 ?_
        refine pl_ HT_ 2 19 tb10_7_14 ?_
        refine pl_ HT_ 4 21 tb10_17_14 ?_
        refine pl_ HT_ 5 22 tb10_37_14 ?_
        refine pl_ HT_ 6 23 tb10_77_14 ?_
        refine take_ (i := 3) (N := some 20) (v := ?_) (a' := ?_) tb10_7f_14 rfl rfl (take_ofW HT_.out HW_.out (by kernel_rfl)) (fun _ _ _ h => h) (Or.inl ⟨by rfl, ?_⟩) hHeld ?_ ?_
        rotate_left
        ·rintro w' ⟨s0, s1, s2, s3, s4, s5⟩
         go_simp
         with_reducible rfl
        rotate_left
        ·simp only [Act.put, q_]
         rfl
        refine take_ (i := 7) (N := some 24) (v := ?_) (a' := ?_) tb10_ff_14 rfl rfl (take_ofW HT_.out HW_.out (by kernel_rfl)) (fun _ _ _ h => h) (Or.inl ⟨by rfl, ?_⟩) hHeld ?_ ?_
        rotate_left
        ·rintro w' ⟨s0, s1, s2, s3, s4, s5⟩
         go_simp
         with_reducible rfl
        rotate_left
        ·simp only [Act.put, q_]
         rfl
        refine one_ (i := 8) (N := some 25) tb10_1ff_14 rfl rfl (one_of HT_.out (by kernel_rfl)) (by decide) (fun K hK => ?_)
        refine goes_ Try.func49 (by kernel_rfl) rfl #[.agg #[.string ((rd_T74 l0 x5_1).f0), .string ((rd_T74 l0 x5_1).f1), .slice A342_2 ((rd_T74 l0 x5_1).f2).length c342_2], .agg #[.string ((rd_T74 l1 x5_1).f0), .string ((rd_T74 l1 x5_1).f1), .slice A343_2 ((rd_T74 l1 x5_1).f2).length c343_2]] (by rfl) rfl rfl gl_ ?_
        with_reducible refine (laws_eqSlot.calls k1 ((rd_T74 l0 x5_1).f0) ((rd_T74 l0 x5_1).f1) _ _ ((rd_T74 l0 x5_1).f2) ((rd_T74 l1 x5_1).f0) ((rd_T74 l1 x5_1).f1) _ _ ((rd_T74 l1 x5_1).f2) true _ ?side1 ?side2 ?side3 ?side4 A7.out).mono ?_
        (case side1 => exact ca_ (Kd.C_below HR342_2.out HB.out))
        (case side2 => exact HC342_2.out)
        (case side3 => exact ca_ (Kd.C_below HR343_2.out HB.out))
        (case side4 => exact HC343_2.out)
        rintro e w10 ⟨rfl, hb⟩
        refine ⟨_, rfl, ?_⟩
        have n0_ := Aside0.mk (below_step bl_ hb)
        clear HB
        have HB := n0_
        clear n0_
        (try clear hb)
        (try clear hb2)
        (try clear hk)
        (try clear hi)
        refine hK.out _ _ ⟨(kc_ HB hw342_0), (kc_ HB hw342_1), (kc_ HB hw342_2), (kc_ HB hw343_0), (kc_ HB hw343_1), (kc_ HB hw343_2)⟩ (fun hHeld => ?_)
        clear hK K
        refine norm_ (a' := ?_) ?_ ?_
        rotate_left
        ·show Act.put _ (some 25) _ = _
         simp only [Act.put, q_]
         rfl
        refine pl_ HT_ 9 26 tb10_3ff_14 ?_
        refine done_ (done_of HT_.out (by kernel_rfl)) ?_
        try go_wp2
        go_roundg k1
        case measure => have := HK1.out; omega
        case rel => exact ⟨(wrap64 (x5_1 + 1)), sp_, H', ⟨by have := HK1.out; omega⟩, ⟨bl_⟩⟩
       ·replace c8 := Bool.eq_false_iff.mpr c8
        subst c8
        have H1 : (some false) = some r := by rw [if_neg (show ¬ (false = true) by decide)] at H; exact H
        clear H
        have H := H1
        clear H1
        obtain rfl := Option.some.inj H
        try go_wp2
        have n0_ := Aside0.mk (below_drew1 HB.out)
        clear HB
        have HB := n0_
        clear n0_
        have p342 : 0 ≤ (x5_1 : Int) := od_
        have q342 : x5_1 < (l0.length : Int) := od_
        obtain ⟨ad342, A342_2, c342_2, e342, hx342_0, hx342_1, hx342_2, hl342_2, hi342_2⟩ := at_T74 HR0.out x5_1 p342 q342
        have hw342_2 := hx342_2
        have hw342_1 := hx342_1
        have hw342_0 := hx342_0
        cases e342
        replace hx342_0 := kc_ HB hx342_0
        replace hx342_1 := kc_ HB hx342_1
        replace hx342_2 := kc_ HB hx342_2
        have HR342_2 := Aside0.mk hi342_2
        have HC342_2 := Aside0.mk hl342_2
        clear hi342_2 hl342_2
        replace p342 := eq_true p342
        replace q342 := eq_true q342
        have p343 : 0 ≤ (x5_1 : Int) := od_
        have q343 : x5_1 < (l1.length : Int) := od_
        obtain ⟨ad343, A343_2, c343_2, e343, hx343_0, hx343_1, hx343_2, hl343_2, hi343_2⟩ := at_T74 HR1.out x5_1 p343 q343
        have hw343_2 := hx343_2
        have hw343_1 := hx343_1
        have hw343_0 := hx343_0
        cases e343
        replace hx343_0 := kc_ HB hx343_0
        replace hx343_1 := kc_ HB hx343_1
        replace hx343_2 := kc_ HB hx343_2
        have HR343_2 := Aside0.mk hi343_2
        have HC343_2 := Aside0.mk hl343_2
        clear hi343_2 hl343_2
        replace p343 := eq_true p343
        replace q343 := eq_true q343
        refine start_ (n := 10) (S := fun w' => w'.cell? (ad342.add ((x5_1).toNat * 3)) = some (.string ((rd_T74 l0 x5_1).f0)) ∧ w'.cell? ⟨(ad342.add ((x5_1).toNat * 3)).block, (ad342.add ((x5_1).toNat * 3)).off + 1, none⟩ = some (.string ((rd_T74 l0 x5_1).f1)) ∧ w'.cell? ⟨(ad342.add ((x5_1).toNat * 3)).block, (ad342.add ((x5_1).toNat * 3)).off + 2, none⟩ = some (.slice A342_2 ((rd_T74 l0 x5_1).f2).length c342_2) ∧ w'.cell? (ad343.add ((x5_1).toNat * 3)) = some (.string ((rd_T74 l1 x5_1).f0)) ∧ w'.cell? ⟨(ad343.add ((x5_1).toNat * 3)).block, (ad343.add ((x5_1).toNat * 3)).off + 1, none⟩ = some (.string ((rd_T74 l1 x5_1).f1)) ∧ w'.cell? ⟨(ad343.add ((x5_1).toNat * 3)).block, (ad343.add ((x5_1).toNat * 3)).off + 2, none⟩ = some (.slice A343_2 ((rd_T74 l1 x5_1).f2).length c343_2)) (ds := []) tb10_0_14 (by kernel_rfl) rfl rfl ⟨(kc_ HB hw342_0), (kc_ HB hw342_1), (kc_ HB hw342_2), (kc_ HB hw343_0), (kc_ HB hw343_1), (kc_ HB hw343_2)⟩ (fun hHeld => ?_); refine with_tabW laws_eqSlotS.tab6 laws_eqSlotS.bits6 (fun HT_ HW_ => ?_)
        generalize wr.drew = w11 at HB HR342_2 HR343_2 hx342_0 hx342_1 hx342_2 hx343_0 hx343_1 hx343_2 hHeld ⊢
        refine pl_ HT_ 0 17 tb10_1_14 ?_
        refine pl_ HT_ 1 18 tb10_3_14 ?_
        refine pl_ HT_ 2 19 tb10_7_14 ?_
        refine pl_ HT_ 4 21 tb10_17_14 ?_
        refine pl_ HT_ 5 22 tb10_37_14 ?_
        refine pl_ HT_ 6 23 tb10_77_14 ?_
        refine take_ (i := 3) (N := some 20) (v := ?_) (a' := ?_) tb10_7f_14 rfl rfl (take_ofW HT_.out HW_.out (by kernel_rfl)) (fun _ _ _ h => h) (Or.inl ⟨by rfl, ?_⟩) hHeld ?_ ?_
        rotate_left
        ·rintro w' ⟨s0, s1, s2, s3, s4, s5⟩
         go_simp
         with_reducible rfl
        rotate_left
        ·simp only [Act.put, q_]
         rfl
        refine take_ (i := 7) (N := some 24) (v := ?_) (a' := ?_) tb10_ff_14 rfl rfl (take_ofW HT_.out HW_.out (by kernel_rfl)) (fun _ _ _ h => h) (Or.inl ⟨by rfl, ?_⟩) hHeld ?_ ?_
        rotate_left
        ·rintro w' ⟨s0, s1, s2, s3, s4, s5⟩
         go_simp
         with_reducible rfl
        rotate_left
        ·simp only [Act.put, q_]
         rfl
        refine one_ (i := 8) (N := some 25) tb10_1ff_14 rfl rfl (one_of HT_.out (by kernel_rfl)) (by decide) (fun K hK => ?_)
        refine goes_ Try.func49 (by kernel_rfl) rfl #[.agg #[.string ((rd_T74 l0 x5_1).f0), .string ((rd_T74 l0 x5_1).f1), .slice A342_2 ((rd_T74 l0 x5_1).f2).length c342_2], .agg #[.string ((rd_T74 l1 x5_1).f0), .string ((rd_T74 l1 x5_1).f1), .slice A343_2 ((rd_T74 l1 x5_1).f2).length c343_2]] (by rfl) rfl rfl gl_ ?_
        with_reducible refine (laws_eqSlot.calls k1 ((rd_T74 l0 x5_1).f0) ((rd_T74 l0 x5_1).f1) _ _ ((rd_T74 l0 x5_1).f2) ((rd_T74 l1 x5_1).f0) ((rd_T74 l1 x5_1).f1) _ _ ((rd_T74 l1 x5_1).f2) false _ ?side1 ?side2 ?side3 ?side4 A7.out).mono ?_
        (case side1 => exact ca_ (Kd.C_below HR342_2.out HB.out))
        (case side2 => exact HC342_2.out)
        (case side3 => exact ca_ (Kd.C_below HR343_2.out HB.out))
        (case side4 => exact HC343_2.out)
        rintro e w12 ⟨rfl, hb⟩
        refine ⟨_, rfl, ?_⟩
        have n0_ := Aside0.mk (below_step bl_ hb)
        clear HB
        have HB := n0_
        clear n0_
        (try clear hb)
        (try clear hb2)
        (try clear hk)
        (try clear hi)
        refine hK.out _ _ ⟨(kc_ HB hw342_0), (kc_ HB hw342_1), (kc_ HB hw342_2), (kc_ HB hw343_0), (kc_ HB hw343_1), (kc_ HB hw343_2)⟩ (fun hHeld => ?_)
        clear hK K
        refine norm_ (a' := ?_) ?_ ?_
        rotate_left
        ·show Act.put _ (some 25) _ = _
         simp only [Act.put, q_]
         rfl
        refine pl_ HT_ 9 26 tb10_3ff_14 ?_
        refine done_ (done_of HT_.out (by kernel_rfl)) ?_
        try go_wp2
        go_ret
        exact ⟨sq_, bl_⟩
      ·rw [if_neg c6] at H
       exact absurd H (by simp)
     ·rw [if_neg c5] at H
      exact absurd H (by simp)
    ·rw [if_neg c4] at H
     have c4b0 : decide (x5_1 < (l0.length : Int)) = false := decide_eq_false c4
     clear c4
     obtain rfl := Option.some.inj H
     go_wp2
     go_ret
     exact ⟨sq_, bl_⟩
 ·rw [if_neg c3] at H
  have c3b0 : ((l0.length : Int) == (l1.length : Int)) = false := beq_eq_false_iff_ne.mpr c3
  have c3b1 : ((l0.length : Int) != (l1.length : Int)) = true := bne_iff_ne.mpr c3
  have c3b2 : (l0.length == l1.length) = false := by first | simpa using c3 | (simp at c3 ⊢; omega)
  obtain rfl := Option.some.inj H
  go_enter Try.func41, Try.ntmps41
  go_wp2
  go_ret
  exact ⟨sq_, bl_⟩

/-! ### laws_eqIntS: function 70 -/
def laws_eqIntS.l0 : Nat → List Int → List Int → Int → Option (Bool)
 | 0, _, _, _ => none
 | k + 1, x0, x1, x5 => if x5 < (x0.length : Int) then (if 0 ≤ x5 then (if x5 < (x1.length : Int) then (if (rd x0 x5) = (rd x1 x5) then (laws_eqIntS.l0 k x0 x1 (wrap64 (x5 + 1))) else (some false)) else (none)) else (none)) else (some true)
def laws_eqIntS.f (k : Nat) (l0 : List Int) (l1 : List Int) : Option (Bool) := if (l0.length : Int) = (l1.length : Int) then (laws_eqIntS.l0 k l0 l1 0) else (some false)
theorem laws_eqIntS.mono_l : ∀ k, (∀ y0 y1 y2, LeO (laws_eqIntS.l0 k y0 y1 y2) (laws_eqIntS.l0 (k + 1) y0 y1 y2))
 | 0 => fun _ _ _ r h => by simp [laws_eqIntS.l0] at h
 | k + 1 => by
  have ih0 := laws_eqIntS.mono_l k
  ·intro y0 y1 y2
   unfold laws_eqIntS.l0
   repeat' first
   | (with_reducible exact ih0 _ _ _)
   | (with_reducible exact LeO.refl _)
   | (with_reducible exact LeO.none _)
   | (with_reducible refine LeO.ite ?_ ?_)
   | (with_reducible refine LeO.bind ?_ (fun _ => ?_))
   | exact ih0 _ _ _
   | exact LeO.none _
   | refine LeO.ite ?_ ?_
   | refine LeO.bind ?_ (fun _ => ?_)
theorem laws_eqIntS.mono : ∀ a0 a1 k, LeO (laws_eqIntS.f k a0 a1) (laws_eqIntS.f (k + 1) a0 a1) := by
 intro a0 a1 k
 have ih0 := laws_eqIntS.mono_l k
 unfold laws_eqIntS.f
 repeat' first
   | (with_reducible exact ih0 _ _ _)
   | (with_reducible exact LeO.refl _)
   | (with_reducible exact LeO.none _)
   | (with_reducible refine LeO.ite ?_ ?_)
   | (with_reducible refine LeO.bind ?_ (fun _ => ?_))
   | exact ih0 _ _ _
   | exact LeO.none _
   | refine LeO.ite ?_ ?_
   | refine LeO.bind ?_ (fun _ => ?_)
set_option maxHeartbeats 8000000 in
set_option maxRecDepth 100000 in
theorem laws_eqIntS.calls (k : Nat) (A0 : Option Addr) (c0 : Nat) (l0 : List Int) (A1 : Option Addr) (c1 : Nat) (l1 : List Int) (r : Bool) (w : World) (hr0 : Kd.C (Kd.int .i64) w A0 l0.length l0) (hc0 : l0.length ≤ c0) (hr1 : Kd.C (Kd.int .i64) w A1 l1.length l1) (hc1 : l1.length ≤ c1) (h : laws_eqIntS.f k l0 l1 = some r) :
  Calls Try.prog 70 #[.slice A0 l0.length c0, .slice A1 l1.length c1] w fun e w' => e = .returned (.bool r) ∧ Drawn0 w w' := by
 have HR0 := Aside0.mk hr0
 have HC0 := Aside0.mk hc0
 clear hr0 hc0
 have HR1 := Aside0.mk hr1
 have HC1 := Aside0.mk hc1
 clear hr1 hc1
 have H : (if (l0.length : Int) = (l1.length : Int) then (laws_eqIntS.l0 k l0 l1 0) else (some false)) = some r := h
 clear h
 by_cases c3 : (l0.length : Int) = (l1.length : Int)
 ·rw [if_pos c3] at H
  have c3b0 : ((l0.length : Int) == (l1.length : Int)) = true := beq_iff_eq.mpr c3
  have c3b1 : ((l0.length : Int) != (l1.length : Int)) = false := bne_eq_false_iff_eq.mpr c3
  have c3b2 : (l0.length == l1.length) = true := by first | simpa using c3 | (simp at c3 ⊢; omega)
  clear c3
  have H' := Aside0.mk H
  clear H
  go_enter Try.func70, Try.ntmps70
  go_wp2
  repeat (go_quiet (fail); try go_wp2)
  go_loopg [5] k (fun kq v5 w' => ∃ (x5_1 : Int), v5 = .int .i64 x5_1 ∧ Aside0 (laws_eqIntS.l0 kq l0 l1 x5_1 = some r) ∧ Aside0 (kq ≤ k) ∧ Drawn0 w w')
  case atStart => exact ⟨(0), sp_, H', ⟨Nat.le_refl _⟩, by repeat (first | exact Drawn0.refl _ | apply Drawn0.step)⟩
  case round =>
   clear H'
   try clear c1
   try clear p2
   try clear c3
   try clear c3b0
   try clear c3b1
   try clear c3b2
   obtain ⟨x5_1, rfl, HA, HK1, ⟨m1, rfl⟩⟩ := hrel
   cases gk with
   | zero => exact absurd HA.out (by simp [laws_eqIntS.l0])
   | succ k1 =>
    have H := HA.out
    clear HA
    simp only [laws_eqIntS.l0] at H
    by_cases c4 : x5_1 < (l0.length : Int)
    ·rw [if_pos c4] at H
     have c4b0 : decide (x5_1 < (l0.length : Int)) = true := decide_eq_true c4
     clear c4
     by_cases c5 : 0 ≤ x5_1
     ·rw [if_pos c5] at H
      have c5b0 : decide (0 ≤ x5_1) = true := decide_eq_true c5
      clear c5
      by_cases c6 : x5_1 < (l1.length : Int)
      ·rw [if_pos c6] at H
       have c6b0 : decide (x5_1 < (l1.length : Int)) = true := decide_eq_true c6
       clear c6
       by_cases c7 : (rd l0 x5_1) = (rd l1 x5_1)
       ·rw [if_pos c7] at H
        have c7b0 : ((rd l0 x5_1) == (rd l1 x5_1)) = true := beq_iff_eq.mpr c7
        have c7b1 : ((rd l0 x5_1) != (rd l1 x5_1)) = false := bne_eq_false_iff_eq.mpr c7
        clear c7
        have H' := Aside0.mk H
        clear H
        have p345 : 0 ≤ (x5_1 : Int) := od_
        have q345 : x5_1 < (l0.length : Int) := od_
        obtain ⟨ad345, e345, hx345_0⟩ := Kd.at_int HR0.out x5_1 p345 q345
        cases e345
        replace p345 := eq_true p345
        replace q345 := eq_true q345
        have p346 : 0 ≤ (x5_1 : Int) := od_
        have q346 : x5_1 < (l1.length : Int) := od_
        obtain ⟨ad346, e346, hx346_0⟩ := Kd.at_int HR1.out x5_1 p346 q346
        cases e346
        replace p346 := eq_true p346
        replace q346 := eq_true q346
        go_wp2
        repeat (go_quiet (fail); try go_wp2)
        go_roundg k1
        case measure => have := HK1.out; omega
        case rel => exact ⟨(wrap64 (x5_1 + 1)), sp_, H', ⟨by have := HK1.out; omega⟩, by repeat (first | exact Drawn0.refl _ | apply Drawn0.step)⟩
       ·rw [if_neg c7] at H
        have c7b0 : ((rd l0 x5_1) == (rd l1 x5_1)) = false := beq_eq_false_iff_ne.mpr c7
        have c7b1 : ((rd l0 x5_1) != (rd l1 x5_1)) = true := bne_iff_ne.mpr c7
        obtain rfl := Option.some.inj H
        have p345 : 0 ≤ (x5_1 : Int) := od_
        have q345 : x5_1 < (l0.length : Int) := od_
        obtain ⟨ad345, e345, hx345_0⟩ := Kd.at_int HR0.out x5_1 p345 q345
        cases e345
        replace p345 := eq_true p345
        replace q345 := eq_true q345
        have p346 : 0 ≤ (x5_1 : Int) := od_
        have q346 : x5_1 < (l1.length : Int) := od_
        obtain ⟨ad346, e346, hx346_0⟩ := Kd.at_int HR1.out x5_1 p346 q346
        cases e346
        replace p346 := eq_true p346
        replace q346 := eq_true q346
        go_wp2
        repeat (go_quiet (fail); try go_wp2)
        go_ret
        exact ⟨sp_, by repeat (first | exact Drawn0.refl _ | apply Drawn0.step)⟩
      ·rw [if_neg c6] at H
       exact absurd H (by simp)
     ·rw [if_neg c5] at H
      exact absurd H (by simp)
    ·rw [if_neg c4] at H
     have c4b0 : decide (x5_1 < (l0.length : Int)) = false := decide_eq_false c4
     clear c4
     obtain rfl := Option.some.inj H
     go_wp2
     repeat (go_quiet (fail); try go_wp2)
     go_ret
     exact ⟨sp_, by repeat (first | exact Drawn0.refl _ | apply Drawn0.step)⟩
 ·rw [if_neg c3] at H
  have c3b0 : ((l0.length : Int) == (l1.length : Int)) = false := beq_eq_false_iff_ne.mpr c3
  have c3b1 : ((l0.length : Int) != (l1.length : Int)) = true := bne_iff_ne.mpr c3
  have c3b2 : (l0.length == l1.length) = false := by first | simpa using c3 | (simp at c3 ⊢; omega)
  obtain rfl := Option.some.inj H
  go_enter Try.func70, Try.ntmps70
  go_wp2
  repeat (go_quiet (fail); try go_wp2)
  go_ret
  exact ⟨sp_, by repeat (first | exact Drawn0.refl _ | apply Drawn0.step)⟩

/-! ### laws_eqRing: function 93 -/
def laws_eqRing.f (k : Nat) (a0_0 : Int) (a0_1 : Int) (l0_2 : List Int) (l0_3 : List Int) (a1_0 : Int) (a1_1 : Int) (l1_2 : List Int) (l1_3 : List Int) : Option (Bool) := if a0_0 = a1_0 then (if a0_1 = a1_1 then ((laws_eqIntS.f k l0_2 l1_2).bind fun t349 => (if t349 = true then ((laws_eqIntS.f k l0_3 l1_3).bind fun t350 => (if t350 = true then (some true) else (some false))) else (some false))) else (some false)) else (some false)
theorem laws_eqRing.mono : ∀ a0 a1 a2 a3 a4 a5 a6 a7 k, LeO (laws_eqRing.f k a0 a1 a2 a3 a4 a5 a6 a7) (laws_eqRing.f (k + 1) a0 a1 a2 a3 a4 a5 a6 a7) := by
 intro a0 a1 a2 a3 a4 a5 a6 a7 k
 unfold laws_eqRing.f
 repeat' first
   | (with_reducible exact laws_eqIntS.mono _ _ _)
   | (with_reducible exact LeO.refl _)
   | (with_reducible exact LeO.none _)
   | (with_reducible refine LeO.ite ?_ ?_)
   | (with_reducible refine LeO.bind ?_ (fun _ => ?_))
   | exact laws_eqIntS.mono _ _ _
   | exact LeO.none _
   | refine LeO.ite ?_ ?_
   | refine LeO.bind ?_ (fun _ => ?_)
set_option maxHeartbeats 8000000 in
set_option maxRecDepth 100000 in
theorem laws_eqRing.calls (k : Nat) (a0_0 : Int) (a0_1 : Int) (A0_2 : Option Addr) (c0_2 : Nat) (l0_2 : List Int) (A0_3 : Option Addr) (c0_3 : Nat) (l0_3 : List Int) (a1_0 : Int) (a1_1 : Int) (A1_2 : Option Addr) (c1_2 : Nat) (l1_2 : List Int) (A1_3 : Option Addr) (c1_3 : Nat) (l1_3 : List Int) (r : Bool) (w : World) (hr0_2 : Kd.C (Kd.int .i64) w A0_2 l0_2.length l0_2) (hc0_2 : l0_2.length ≤ c0_2) (hr0_3 : Kd.C (Kd.int .i64) w A0_3 l0_3.length l0_3) (hc0_3 : l0_3.length ≤ c0_3) (hr1_2 : Kd.C (Kd.int .i64) w A1_2 l1_2.length l1_2) (hc1_2 : l1_2.length ≤ c1_2) (hr1_3 : Kd.C (Kd.int .i64) w A1_3 l1_3.length l1_3) (hc1_3 : l1_3.length ≤ c1_3) (h : laws_eqRing.f k a0_0 a0_1 l0_2 l0_3 a1_0 a1_1 l1_2 l1_3 = some r) :
  Calls Try.prog 93 #[.agg #[.int .i64 a0_0, .int .i64 a0_1, .slice A0_2 l0_2.length c0_2, .slice A0_3 l0_3.length c0_3], .agg #[.int .i64 a1_0, .int .i64 a1_1, .slice A1_2 l1_2.length c1_2, .slice A1_3 l1_3.length c1_3]] w fun e w' => e = .returned (.bool r) ∧ Below w.heap.size w w' := by
 have hu40 := Try.underlying40
 have HR0_2 := Aside0.mk hr0_2
 have HC0_2 := Aside0.mk hc0_2
 clear hr0_2 hc0_2
 have HR0_3 := Aside0.mk hr0_3
 have HC0_3 := Aside0.mk hc0_3
 clear hr0_3 hc0_3
 have HR1_2 := Aside0.mk hr1_2
 have HC1_2 := Aside0.mk hc1_2
 clear hr1_2 hc1_2
 have HR1_3 := Aside0.mk hr1_3
 have HC1_3 := Aside0.mk hc1_3
 clear hr1_3 hc1_3
 have HB := Aside0.mk (Below.refl w.heap.size w)
 have H : (if a0_0 = a1_0 then (if a0_1 = a1_1 then ((laws_eqIntS.f k l0_2 l1_2).bind fun t349 => (if t349 = true then ((laws_eqIntS.f k l0_3 l1_3).bind fun t350 => (if t350 = true then (some true) else (some false))) else (some false))) else (some false)) else (some false)) = some r := h
 clear h
 by_cases c3 : a0_0 = a1_0
 ·rw [if_pos c3] at H
  have c3b0 : (a0_0 == a1_0) = true := beq_iff_eq.mpr c3
  have c3b1 : (a0_0 != a1_0) = false := bne_eq_false_iff_eq.mpr c3
  clear c3
  by_cases c4 : a0_1 = a1_1
  ·rw [if_pos c4] at H
   have c4b0 : (a0_1 == a1_1) = true := beq_iff_eq.mpr c4
   have c4b1 : (a0_1 != a1_1) = false := bne_eq_false_iff_eq.mpr c4
   clear c4
   replace H := Option.bind_eq_some_iff.mp H
   obtain ⟨t349, A50, H⟩ := H
   replace H : (if t349 = true then ((laws_eqIntS.f k l0_3 l1_3).bind fun t350 => (if t350 = true then (some true) else (some false))) else (some false)) = some r := H
   have A5 := Aside0.mk A50
   clear A50
   by_cases c6 : t349 = true
   ·subst c6
    have H1 : ((laws_eqIntS.f k l0_3 l1_3).bind fun t350 => (if t350 = true then (some true) else (some false))) = some r := by rw [if_pos rfl] at H; exact H
    clear H
    have H := H1
    clear H1
    replace H := Option.bind_eq_some_iff.mp H
    obtain ⟨t350, A70, H⟩ := H
    replace H : (if t350 = true then (some true) else (some false)) = some r := H
    have A7 := Aside0.mk A70
    clear A70
    by_cases c8 : t350 = true
    ·subst c8
     have H1 : (some true) = some r := by rw [if_pos rfl] at H; exact H
     clear H
     have H := H1
     clear H1
     obtain rfl := Option.some.inj H
     go_enter Try.func93, Try.ntmps93
     go_wp2_with (first | ((with_reducible refine gate_dst (N := 2) rfl ?_); refine box_event ?hg (N := 2) ?hd (cs := #[.int .i64 a0_0, .int .i64 a0_1, .slice A0_2 l0_2.length c0_2, .slice A0_3 l0_3.length c0_3]) (t := 40) ?hr ?_; (case hd => rfl); (case hg => rfl); (case hr => first | (go_simp; done) | (go_simp; rfl)); intro gb347 hg w9 hbox hb; have n0_ := Aside0.mk (below_step bl_ hb); have n1_ := Aside0.mk (hbox); have n2_ := gw_ (w := w) hg; have n3_ := gw_ (w := w) hg; clear HB; have HB := n0_; have BK347 := n1_; have GW347 := n2_; have GE347 := n3_; clear n0_ n1_ n2_ n3_; clear hb hbox hg) | ((with_reducible refine gate_dst (N := 3) rfl ?_); refine box_event ?hg (N := 3) ?hd (cs := #[.int .i64 a1_0, .int .i64 a1_1, .slice A1_2 l1_2.length c1_2, .slice A1_3 l1_3.length c1_3]) (t := 40) ?hr ?_; (case hd => rfl); (case hg => rfl); (case hr => first | (go_simp; done) | (go_simp; rfl)); intro gb348 hg w10 hbox hb; have n0_ := Aside0.mk (blk_below (bk_ BK347) hb); have n1_ := Aside0.mk (below_step bl_ hb); have n2_ := Aside0.mk (hbox); have n3_ := gw_ (w := w) hg; have n4_ := gw_ (w := w) hg; have n5_ := Aside0.mk ((by rw [hg]; exact Nat.ne_of_lt (blk_lt (bk_ BK347)) : gb347 ≠ gb348)); have n6_ := Aside0.mk ((by rw [hg]; exact Nat.ne_of_gt (blk_lt (bk_ BK347)) : gb348 ≠ gb347)); clear BK347; clear HB; have BK347 := n0_; have HB := n1_; have BK348 := n2_; have GW348 := n3_; have GE348 := n4_; have NB347_348 := n5_; have NB348_347 := n6_; clear n0_ n1_ n2_ n3_ n4_ n5_ n6_; clear hb hbox hg; have hnb11 := NB347_348.out; have hnc11 := NB348_347.out; have hcz12_0 := cz_ BK347 0 (.int .i64 a0_0); have hcz12_1 := cz_ BK347 1 (.int .i64 a0_1); have hcz12_2 := cz_ BK347 2 (.slice A0_2 l0_2.length c0_2); have hcz12_3 := cz_ BK347 3 (.slice A0_3 l0_3.length c0_3); have hfz12_0 := fz_ BK347 0; have hfz12_1 := fz_ BK347 1; have hfz12_2 := fz_ BK347 2; have hfz12_3 := fz_ BK347 3; have hcz13_0 := cz_ BK348 0 (.int .i64 a1_0); have hcz13_1 := cz_ BK348 1 (.int .i64 a1_1); have hcz13_2 := cz_ BK348 2 (.slice A1_2 l1_2.length c1_2); have hcz13_3 := cz_ BK348 3 (.slice A1_3 l1_3.length c1_3); have hfz13_0 := fz_ BK348 0; have hfz13_1 := fz_ BK348 1; have hfz13_2 := fz_ BK348 2; have hfz13_3 := fz_ BK348 3) | ((with_reducible refine gate_callee (f := 70) rfl ?_); refine goesL_ (some 19) rfl rfl Try.func70 (by kernel_rfl) rfl #[.slice A0_2 l0_2.length c0_2, .slice A1_2 l1_2.length c1_2] rfl gl_ ?_; (with_reducible refine (laws_eqIntS.calls k _ _ l0_2 _ _ l1_2 true _ ?side1 ?side2 ?side3 ?side4 A5.out).mono ?_); (case side1 => exact ca_ (Kd.C_below HR0_2.out HB.out)); (case side2 => exact HC0_2.out); (case side3 => exact ca_ (Kd.C_below HR1_2.out HB.out)); (case side4 => exact HC1_2.out); rintro e w' ⟨rfl, ⟨nd, rfl⟩⟩; refine ⟨_, rfl, ?_⟩) | ((with_reducible refine gate_callee (f := 70) rfl ?_); refine goesL_ (some 25) rfl rfl Try.func70 (by kernel_rfl) rfl #[.slice A0_3 l0_3.length c0_3, .slice A1_3 l1_3.length c1_3] rfl gl_ ?_; (with_reducible refine (laws_eqIntS.calls k _ _ l0_3 _ _ l1_3 true _ ?side1 ?side2 ?side3 ?side4 A7.out).mono ?_); (case side1 => exact ca_ (Kd.C_below HR0_3.out bl_)); (case side2 => exact HC0_3.out); (case side3 => exact ca_ (Kd.C_below HR1_3.out bl_)); (case side4 => exact HC1_3.out); rintro e w' ⟨rfl, ⟨nd, rfl⟩⟩; refine ⟨_, rfl, ?_⟩))
     go_ret
     exact ⟨sq_, bl_⟩
    ·replace c8 := Bool.eq_false_iff.mpr c8
     subst c8
     have H1 : (some false) = some r := by rw [if_neg (show ¬ (false = true) by decide)] at H; exact H
     clear H
     have H := H1
     clear H1
     obtain rfl := Option.some.inj H
     go_enter Try.func93, Try.ntmps93
     go_wp2_with (first | ((with_reducible refine gate_dst (N := 2) rfl ?_); refine box_event ?hg (N := 2) ?hd (cs := #[.int .i64 a0_0, .int .i64 a0_1, .slice A0_2 l0_2.length c0_2, .slice A0_3 l0_3.length c0_3]) (t := 40) ?hr ?_; (case hd => rfl); (case hg => rfl); (case hr => first | (go_simp; done) | (go_simp; rfl)); intro gb347 hg w14 hbox hb; have n0_ := Aside0.mk (below_step bl_ hb); have n1_ := Aside0.mk (hbox); have n2_ := gw_ (w := w) hg; have n3_ := gw_ (w := w) hg; clear HB; have HB := n0_; have BK347 := n1_; have GW347 := n2_; have GE347 := n3_; clear n0_ n1_ n2_ n3_; clear hb hbox hg) | ((with_reducible refine gate_dst (N := 3) rfl ?_); refine box_event ?hg (N := 3) ?hd (cs := #[.int .i64 a1_0, .int .i64 a1_1, .slice A1_2 l1_2.length c1_2, .slice A1_3 l1_3.length c1_3]) (t := 40) ?hr ?_; (case hd => rfl); (case hg => rfl); (case hr => first | (go_simp; done) | (go_simp; rfl)); intro gb348 hg w15 hbox hb; have n0_ := Aside0.mk (blk_below (bk_ BK347) hb); have n1_ := Aside0.mk (below_step bl_ hb); have n2_ := Aside0.mk (hbox); have n3_ := gw_ (w := w) hg; have n4_ := gw_ (w := w) hg; have n5_ := Aside0.mk ((by rw [hg]; exact Nat.ne_of_lt (blk_lt (bk_ BK347)) : gb347 ≠ gb348)); have n6_ := Aside0.mk ((by rw [hg]; exact Nat.ne_of_gt (blk_lt (bk_ BK347)) : gb348 ≠ gb347)); clear BK347; clear HB; have BK347 := n0_; have HB := n1_; have BK348 := n2_; have GW348 := n3_; have GE348 := n4_; have NB347_348 := n5_; have NB348_347 := n6_; clear n0_ n1_ n2_ n3_ n4_ n5_ n6_; clear hb hbox hg; have hnb16 := NB347_348.out; have hnc16 := NB348_347.out; have hcz17_0 := cz_ BK347 0 (.int .i64 a0_0); have hcz17_1 := cz_ BK347 1 (.int .i64 a0_1); have hcz17_2 := cz_ BK347 2 (.slice A0_2 l0_2.length c0_2); have hcz17_3 := cz_ BK347 3 (.slice A0_3 l0_3.length c0_3); have hfz17_0 := fz_ BK347 0; have hfz17_1 := fz_ BK347 1; have hfz17_2 := fz_ BK347 2; have hfz17_3 := fz_ BK347 3; have hcz18_0 := cz_ BK348 0 (.int .i64 a1_0); have hcz18_1 := cz_ BK348 1 (.int .i64 a1_1); have hcz18_2 := cz_ BK348 2 (.slice A1_2 l1_2.length c1_2); have hcz18_3 := cz_ BK348 3 (.slice A1_3 l1_3.length c1_3); have hfz18_0 := fz_ BK348 0; have hfz18_1 := fz_ BK348 1; have hfz18_2 := fz_ BK348 2; have hfz18_3 := fz_ BK348 3) | ((with_reducible refine gate_callee (f := 70) rfl ?_); refine goesL_ (some 19) rfl rfl Try.func70 (by kernel_rfl) rfl #[.slice A0_2 l0_2.length c0_2, .slice A1_2 l1_2.length c1_2] rfl gl_ ?_; (with_reducible refine (laws_eqIntS.calls k _ _ l0_2 _ _ l1_2 true _ ?side1 ?side2 ?side3 ?side4 A5.out).mono ?_); (case side1 => exact ca_ (Kd.C_below HR0_2.out HB.out)); (case side2 => exact HC0_2.out); (case side3 => exact ca_ (Kd.C_below HR1_2.out HB.out)); (case side4 => exact HC1_2.out); rintro e w' ⟨rfl, ⟨nd, rfl⟩⟩; refine ⟨_, rfl, ?_⟩) | ((with_reducible refine gate_callee (f := 70) rfl ?_); refine goesL_ (some 25) rfl rfl Try.func70 (by kernel_rfl) rfl #[.slice A0_3 l0_3.length c0_3, .slice A1_3 l1_3.length c1_3] rfl gl_ ?_; (with_reducible refine (laws_eqIntS.calls k _ _ l0_3 _ _ l1_3 false _ ?side1 ?side2 ?side3 ?side4 A7.out).mono ?_); (case side1 => exact ca_ (Kd.C_below HR0_3.out bl_)); (case side2 => exact HC0_3.out); (case side3 => exact ca_ (Kd.C_below HR1_3.out bl_)); (case side4 => exact HC1_3.out); rintro e w' ⟨rfl, ⟨nd, rfl⟩⟩; refine ⟨_, rfl, ?_⟩))
     go_ret
     exact ⟨sq_, bl_⟩
   ·replace c6 := Bool.eq_false_iff.mpr c6
    subst c6
    have H1 : (some false) = some r := by rw [if_neg (show ¬ (false = true) by decide)] at H; exact H
    clear H
    have H := H1
    clear H1
    obtain rfl := Option.some.inj H
    go_enter Try.func93, Try.ntmps93
    go_wp2_with (first | ((with_reducible refine gate_dst (N := 2) rfl ?_); refine box_event ?hg (N := 2) ?hd (cs := #[.int .i64 a0_0, .int .i64 a0_1, .slice A0_2 l0_2.length c0_2, .slice A0_3 l0_3.length c0_3]) (t := 40) ?hr ?_; (case hd => rfl); (case hg => rfl); (case hr => first | (go_simp; done) | (go_simp; rfl)); intro gb347 hg w19 hbox hb; have n0_ := Aside0.mk (below_step bl_ hb); have n1_ := Aside0.mk (hbox); have n2_ := gw_ (w := w) hg; have n3_ := gw_ (w := w) hg; clear HB; have HB := n0_; have BK347 := n1_; have GW347 := n2_; have GE347 := n3_; clear n0_ n1_ n2_ n3_; clear hb hbox hg) | ((with_reducible refine gate_dst (N := 3) rfl ?_); refine box_event ?hg (N := 3) ?hd (cs := #[.int .i64 a1_0, .int .i64 a1_1, .slice A1_2 l1_2.length c1_2, .slice A1_3 l1_3.length c1_3]) (t := 40) ?hr ?_; (case hd => rfl); (case hg => rfl); (case hr => first | (go_simp; done) | (go_simp; rfl)); intro gb348 hg w20 hbox hb; have n0_ := Aside0.mk (blk_below (bk_ BK347) hb); have n1_ := Aside0.mk (below_step bl_ hb); have n2_ := Aside0.mk (hbox); have n3_ := gw_ (w := w) hg; have n4_ := gw_ (w := w) hg; have n5_ := Aside0.mk ((by rw [hg]; exact Nat.ne_of_lt (blk_lt (bk_ BK347)) : gb347 ≠ gb348)); have n6_ := Aside0.mk ((by rw [hg]; exact Nat.ne_of_gt (blk_lt (bk_ BK347)) : gb348 ≠ gb347)); clear BK347; clear HB; have BK347 := n0_; have HB := n1_; have BK348 := n2_; have GW348 := n3_; have GE348 := n4_; have NB347_348 := n5_; have NB348_347 := n6_; clear n0_ n1_ n2_ n3_ n4_ n5_ n6_; clear hb hbox hg; have hnb21 := NB347_348.out; have hnc21 := NB348_347.out; have hcz22_0 := cz_ BK347 0 (.int .i64 a0_0); have hcz22_1 := cz_ BK347 1 (.int .i64 a0_1); have hcz22_2 := cz_ BK347 2 (.slice A0_2 l0_2.length c0_2); have hcz22_3 := cz_ BK347 3 (.slice A0_3 l0_3.length c0_3); have hfz22_0 := fz_ BK347 0; have hfz22_1 := fz_ BK347 1; have hfz22_2 := fz_ BK347 2; have hfz22_3 := fz_ BK347 3; have hcz23_0 := cz_ BK348 0 (.int .i64 a1_0); have hcz23_1 := cz_ BK348 1 (.int .i64 a1_1); have hcz23_2 := cz_ BK348 2 (.slice A1_2 l1_2.length c1_2); have hcz23_3 := cz_ BK348 3 (.slice A1_3 l1_3.length c1_3); have hfz23_0 := fz_ BK348 0; have hfz23_1 := fz_ BK348 1; have hfz23_2 := fz_ BK348 2; have hfz23_3 := fz_ BK348 3) | ((with_reducible refine gate_callee (f := 70) rfl ?_); refine goesL_ (some 19) rfl rfl Try.func70 (by kernel_rfl) rfl #[.slice A0_2 l0_2.length c0_2, .slice A1_2 l1_2.length c1_2] rfl gl_ ?_; (with_reducible refine (laws_eqIntS.calls k _ _ l0_2 _ _ l1_2 false _ ?side1 ?side2 ?side3 ?side4 A5.out).mono ?_); (case side1 => exact ca_ (Kd.C_below HR0_2.out HB.out)); (case side2 => exact HC0_2.out); (case side3 => exact ca_ (Kd.C_below HR1_2.out HB.out)); (case side4 => exact HC1_2.out); rintro e w' ⟨rfl, ⟨nd, rfl⟩⟩; refine ⟨_, rfl, ?_⟩))
    go_ret
    exact ⟨sq_, bl_⟩
  ·rw [if_neg c4] at H
   have c4b0 : (a0_1 == a1_1) = false := beq_eq_false_iff_ne.mpr c4
   have c4b1 : (a0_1 != a1_1) = true := bne_iff_ne.mpr c4
   obtain rfl := Option.some.inj H
   go_enter Try.func93, Try.ntmps93
   go_wp2_with (first | ((with_reducible refine gate_dst (N := 2) rfl ?_); refine box_event ?hg (N := 2) ?hd (cs := #[.int .i64 a0_0, .int .i64 a0_1, .slice A0_2 l0_2.length c0_2, .slice A0_3 l0_3.length c0_3]) (t := 40) ?hr ?_; (case hd => rfl); (case hg => rfl); (case hr => first | (go_simp; done) | (go_simp; rfl)); intro gb347 hg w24 hbox hb; have n0_ := Aside0.mk (below_step bl_ hb); have n1_ := Aside0.mk (hbox); have n2_ := gw_ (w := w) hg; have n3_ := gw_ (w := w) hg; clear HB; have HB := n0_; have BK347 := n1_; have GW347 := n2_; have GE347 := n3_; clear n0_ n1_ n2_ n3_; clear hb hbox hg) | ((with_reducible refine gate_dst (N := 3) rfl ?_); refine box_event ?hg (N := 3) ?hd (cs := #[.int .i64 a1_0, .int .i64 a1_1, .slice A1_2 l1_2.length c1_2, .slice A1_3 l1_3.length c1_3]) (t := 40) ?hr ?_; (case hd => rfl); (case hg => rfl); (case hr => first | (go_simp; done) | (go_simp; rfl)); intro gb348 hg w25 hbox hb; have n0_ := Aside0.mk (blk_below (bk_ BK347) hb); have n1_ := Aside0.mk (below_step bl_ hb); have n2_ := Aside0.mk (hbox); have n3_ := gw_ (w := w) hg; have n4_ := gw_ (w := w) hg; have n5_ := Aside0.mk ((by rw [hg]; exact Nat.ne_of_lt (blk_lt (bk_ BK347)) : gb347 ≠ gb348)); have n6_ := Aside0.mk ((by rw [hg]; exact Nat.ne_of_gt (blk_lt (bk_ BK347)) : gb348 ≠ gb347)); clear BK347; clear HB; have BK347 := n0_; have HB := n1_; have BK348 := n2_; have GW348 := n3_; have GE348 := n4_; have NB347_348 := n5_; have NB348_347 := n6_; clear n0_ n1_ n2_ n3_ n4_ n5_ n6_; clear hb hbox hg; have hnb26 := NB347_348.out; have hnc26 := NB348_347.out; have hcz27_0 := cz_ BK347 0 (.int .i64 a0_0); have hcz27_1 := cz_ BK347 1 (.int .i64 a0_1); have hcz27_2 := cz_ BK347 2 (.slice A0_2 l0_2.length c0_2); have hcz27_3 := cz_ BK347 3 (.slice A0_3 l0_3.length c0_3); have hfz27_0 := fz_ BK347 0; have hfz27_1 := fz_ BK347 1; have hfz27_2 := fz_ BK347 2; have hfz27_3 := fz_ BK347 3; have hcz28_0 := cz_ BK348 0 (.int .i64 a1_0); have hcz28_1 := cz_ BK348 1 (.int .i64 a1_1); have hcz28_2 := cz_ BK348 2 (.slice A1_2 l1_2.length c1_2); have hcz28_3 := cz_ BK348 3 (.slice A1_3 l1_3.length c1_3); have hfz28_0 := fz_ BK348 0; have hfz28_1 := fz_ BK348 1; have hfz28_2 := fz_ BK348 2; have hfz28_3 := fz_ BK348 3))
   go_ret
   exact ⟨sq_, bl_⟩
 ·rw [if_neg c3] at H
  have c3b0 : (a0_0 == a1_0) = false := beq_eq_false_iff_ne.mpr c3
  have c3b1 : (a0_0 != a1_0) = true := bne_iff_ne.mpr c3
  obtain rfl := Option.some.inj H
  go_enter Try.func93, Try.ntmps93
  go_wp2_with (first | ((with_reducible refine gate_dst (N := 2) rfl ?_); refine box_event ?hg (N := 2) ?hd (cs := #[.int .i64 a0_0, .int .i64 a0_1, .slice A0_2 l0_2.length c0_2, .slice A0_3 l0_3.length c0_3]) (t := 40) ?hr ?_; (case hd => rfl); (case hg => rfl); (case hr => first | (go_simp; done) | (go_simp; rfl)); intro gb347 hg w29 hbox hb; have n0_ := Aside0.mk (below_step bl_ hb); have n1_ := Aside0.mk (hbox); have n2_ := gw_ (w := w) hg; have n3_ := gw_ (w := w) hg; clear HB; have HB := n0_; have BK347 := n1_; have GW347 := n2_; have GE347 := n3_; clear n0_ n1_ n2_ n3_; clear hb hbox hg) | ((with_reducible refine gate_dst (N := 3) rfl ?_); refine box_event ?hg (N := 3) ?hd (cs := #[.int .i64 a1_0, .int .i64 a1_1, .slice A1_2 l1_2.length c1_2, .slice A1_3 l1_3.length c1_3]) (t := 40) ?hr ?_; (case hd => rfl); (case hg => rfl); (case hr => first | (go_simp; done) | (go_simp; rfl)); intro gb348 hg w30 hbox hb; have n0_ := Aside0.mk (blk_below (bk_ BK347) hb); have n1_ := Aside0.mk (below_step bl_ hb); have n2_ := Aside0.mk (hbox); have n3_ := gw_ (w := w) hg; have n4_ := gw_ (w := w) hg; have n5_ := Aside0.mk ((by rw [hg]; exact Nat.ne_of_lt (blk_lt (bk_ BK347)) : gb347 ≠ gb348)); have n6_ := Aside0.mk ((by rw [hg]; exact Nat.ne_of_gt (blk_lt (bk_ BK347)) : gb348 ≠ gb347)); clear BK347; clear HB; have BK347 := n0_; have HB := n1_; have BK348 := n2_; have GW348 := n3_; have GE348 := n4_; have NB347_348 := n5_; have NB348_347 := n6_; clear n0_ n1_ n2_ n3_ n4_ n5_ n6_; clear hb hbox hg; have hnb31 := NB347_348.out; have hnc31 := NB348_347.out; have hcz32_0 := cz_ BK347 0 (.int .i64 a0_0); have hcz32_1 := cz_ BK347 1 (.int .i64 a0_1); have hcz32_2 := cz_ BK347 2 (.slice A0_2 l0_2.length c0_2); have hcz32_3 := cz_ BK347 3 (.slice A0_3 l0_3.length c0_3); have hfz32_0 := fz_ BK347 0; have hfz32_1 := fz_ BK347 1; have hfz32_2 := fz_ BK347 2; have hfz32_3 := fz_ BK347 3; have hcz33_0 := cz_ BK348 0 (.int .i64 a1_0); have hcz33_1 := cz_ BK348 1 (.int .i64 a1_1); have hcz33_2 := cz_ BK348 2 (.slice A1_2 l1_2.length c1_2); have hcz33_3 := cz_ BK348 3 (.slice A1_3 l1_3.length c1_3); have hfz33_0 := fz_ BK348 0; have hfz33_1 := fz_ BK348 1; have hfz33_2 := fz_ BK348 2; have hfz33_3 := fz_ BK348 3))
  go_ret
  exact ⟨sq_, bl_⟩

/-! ### laws_eqAcct: function 30 -/
def laws_eqAcct.f (k : Nat) (a0_0 : ByteArray) (a0_1 : Int) (a0_2 : Int) (a0_3 : Int) (a0_4 : Int) (l0_5 : List (S93)) (a0_6 : Int) (a0_7 : Int) (l0_8 : List Int) (l0_9 : List Int) (l0_10 : List (S74)) (a1_0 : ByteArray) (a1_1 : Int) (a1_2 : Int) (a1_3 : Int) (a1_4 : Int) (l1_5 : List (S93)) (a1_6 : Int) (a1_7 : Int) (l1_8 : List Int) (l1_9 : List Int) (l1_10 : List (S74)) : Option (Bool) := if a0_0.toList = a1_0.toList then (if a0_1 = a1_1 then (if a0_2 = a1_2 then (if a0_3 = a1_3 then (if a0_4 = a1_4 then ((laws_eqHoldS.f k l0_5 l1_5).bind fun t353 => (if t353 = true then ((laws_eqRing.f k a0_6 a0_7 l0_8 l0_9 a1_6 a1_7 l1_8 l1_9).bind fun t354 => (if t354 = true then ((laws_eqSlotS.f k l0_10 l1_10).bind fun t355 => (if t355 = true then (some true) else (some false))) else (some false))) else (some false))) else (some false)) else (some false)) else (some false)) else (some false)) else (some false)
theorem laws_eqAcct.mono : ∀ a0 a1 a2 a3 a4 a5 a6 a7 a8 a9 a10 a11 a12 a13 a14 a15 a16 a17 a18 a19 a20 a21 k, LeO (laws_eqAcct.f k a0 a1 a2 a3 a4 a5 a6 a7 a8 a9 a10 a11 a12 a13 a14 a15 a16 a17 a18 a19 a20 a21) (laws_eqAcct.f (k + 1) a0 a1 a2 a3 a4 a5 a6 a7 a8 a9 a10 a11 a12 a13 a14 a15 a16 a17 a18 a19 a20 a21) := by
 intro a0 a1 a2 a3 a4 a5 a6 a7 a8 a9 a10 a11 a12 a13 a14 a15 a16 a17 a18 a19 a20 a21 k
 unfold laws_eqAcct.f
 repeat' first
   | (with_reducible exact laws_eqHoldS.mono _ _ _)
   | (with_reducible exact laws_eqRing.mono _ _ _ _ _ _ _ _ _)
   | (with_reducible exact laws_eqSlotS.mono _ _ _)
   | (with_reducible exact LeO.refl _)
   | (with_reducible exact LeO.none _)
   | (with_reducible refine LeO.ite ?_ ?_)
   | (with_reducible refine LeO.bind ?_ (fun _ => ?_))
   | exact laws_eqHoldS.mono _ _ _
   | exact laws_eqRing.mono _ _ _ _ _ _ _ _ _
   | exact laws_eqSlotS.mono _ _ _
   | exact LeO.none _
   | refine LeO.ite ?_ ?_
   | refine LeO.bind ?_ (fun _ => ?_)
set_option maxHeartbeats 8000000 in
set_option maxRecDepth 100000 in
theorem laws_eqAcct.calls (k : Nat) (a0_0 : ByteArray) (a0_1 : Int) (a0_2 : Int) (a0_3 : Int) (a0_4 : Int) (A0_5 : Option Addr) (c0_5 : Nat) (l0_5 : List (S93)) (a0_6 : Int) (a0_7 : Int) (A0_8 : Option Addr) (c0_8 : Nat) (l0_8 : List Int) (A0_9 : Option Addr) (c0_9 : Nat) (l0_9 : List Int) (A0_10 : Option Addr) (c0_10 : Nat) (l0_10 : List (S74)) (a1_0 : ByteArray) (a1_1 : Int) (a1_2 : Int) (a1_3 : Int) (a1_4 : Int) (A1_5 : Option Addr) (c1_5 : Nat) (l1_5 : List (S93)) (a1_6 : Int) (a1_7 : Int) (A1_8 : Option Addr) (c1_8 : Nat) (l1_8 : List Int) (A1_9 : Option Addr) (c1_9 : Nat) (l1_9 : List Int) (A1_10 : Option Addr) (c1_10 : Nat) (l1_10 : List (S74)) (r : Bool) (w : World) (hr0_5 : Kd.C k93 w A0_5 l0_5.length l0_5) (hc0_5 : l0_5.length ≤ c0_5) (hr0_8 : Kd.C (Kd.int .i64) w A0_8 l0_8.length l0_8) (hc0_8 : l0_8.length ≤ c0_8) (hr0_9 : Kd.C (Kd.int .i64) w A0_9 l0_9.length l0_9) (hc0_9 : l0_9.length ≤ c0_9) (hr0_10 : Kd.C k74 w A0_10 l0_10.length l0_10) (hc0_10 : l0_10.length ≤ c0_10) (hr1_5 : Kd.C k93 w A1_5 l1_5.length l1_5) (hc1_5 : l1_5.length ≤ c1_5) (hr1_8 : Kd.C (Kd.int .i64) w A1_8 l1_8.length l1_8) (hc1_8 : l1_8.length ≤ c1_8) (hr1_9 : Kd.C (Kd.int .i64) w A1_9 l1_9.length l1_9) (hc1_9 : l1_9.length ≤ c1_9) (hr1_10 : Kd.C k74 w A1_10 l1_10.length l1_10) (hc1_10 : l1_10.length ≤ c1_10) (h : laws_eqAcct.f k a0_0 a0_1 a0_2 a0_3 a0_4 l0_5 a0_6 a0_7 l0_8 l0_9 l0_10 a1_0 a1_1 a1_2 a1_3 a1_4 l1_5 a1_6 a1_7 l1_8 l1_9 l1_10 = some r) :
  Calls Try.prog 30 #[.agg #[.string a0_0, .int .i64 a0_1, .int .i64 a0_2, .int .i64 a0_3, .int .i64 a0_4, .slice A0_5 l0_5.length c0_5, .int .i64 a0_6, .int .i64 a0_7, .slice A0_8 l0_8.length c0_8, .slice A0_9 l0_9.length c0_9, .slice A0_10 l0_10.length c0_10], .agg #[.string a1_0, .int .i64 a1_1, .int .i64 a1_2, .int .i64 a1_3, .int .i64 a1_4, .slice A1_5 l1_5.length c1_5, .int .i64 a1_6, .int .i64 a1_7, .slice A1_8 l1_8.length c1_8, .slice A1_9 l1_9.length c1_9, .slice A1_10 l1_10.length c1_10]] w fun e w' => e = .returned (.bool r) ∧ Below w.heap.size w w' := by
 have hu43 := Try.underlying43
 have hu40 := Try.underlying40
 have HR0_5 := Aside0.mk hr0_5
 have HC0_5 := Aside0.mk hc0_5
 clear hr0_5 hc0_5
 have HR0_8 := Aside0.mk hr0_8
 have HC0_8 := Aside0.mk hc0_8
 clear hr0_8 hc0_8
 have HR0_9 := Aside0.mk hr0_9
 have HC0_9 := Aside0.mk hc0_9
 clear hr0_9 hc0_9
 have HR0_10 := Aside0.mk hr0_10
 have HC0_10 := Aside0.mk hc0_10
 clear hr0_10 hc0_10
 have HR1_5 := Aside0.mk hr1_5
 have HC1_5 := Aside0.mk hc1_5
 clear hr1_5 hc1_5
 have HR1_8 := Aside0.mk hr1_8
 have HC1_8 := Aside0.mk hc1_8
 clear hr1_8 hc1_8
 have HR1_9 := Aside0.mk hr1_9
 have HC1_9 := Aside0.mk hc1_9
 clear hr1_9 hc1_9
 have HR1_10 := Aside0.mk hr1_10
 have HC1_10 := Aside0.mk hc1_10
 clear hr1_10 hc1_10
 have HB := Aside0.mk (Below.refl w.heap.size w)
 have H : (if a0_0.toList = a1_0.toList then (if a0_1 = a1_1 then (if a0_2 = a1_2 then (if a0_3 = a1_3 then (if a0_4 = a1_4 then ((laws_eqHoldS.f k l0_5 l1_5).bind fun t353 => (if t353 = true then ((laws_eqRing.f k a0_6 a0_7 l0_8 l0_9 a1_6 a1_7 l1_8 l1_9).bind fun t354 => (if t354 = true then ((laws_eqSlotS.f k l0_10 l1_10).bind fun t355 => (if t355 = true then (some true) else (some false))) else (some false))) else (some false))) else (some false)) else (some false)) else (some false)) else (some false)) else (some false)) = some r := h
 clear h
 by_cases c3 : a0_0.toList = a1_0.toList
 ·rw [if_pos c3] at H
  have c3b0 : (a0_0.toList == a1_0.toList) = true := beq_iff_eq.mpr c3
  have c3b1 : (a0_0.toList != a1_0.toList) = false := bne_eq_false_iff_eq.mpr c3
  clear c3
  by_cases c4 : a0_1 = a1_1
  ·rw [if_pos c4] at H
   have c4b0 : (a0_1 == a1_1) = true := beq_iff_eq.mpr c4
   have c4b1 : (a0_1 != a1_1) = false := bne_eq_false_iff_eq.mpr c4
   clear c4
   by_cases c5 : a0_2 = a1_2
   ·rw [if_pos c5] at H
    have c5b0 : (a0_2 == a1_2) = true := beq_iff_eq.mpr c5
    have c5b1 : (a0_2 != a1_2) = false := bne_eq_false_iff_eq.mpr c5
    clear c5
    by_cases c6 : a0_3 = a1_3
    ·rw [if_pos c6] at H
     have c6b0 : (a0_3 == a1_3) = true := beq_iff_eq.mpr c6
     have c6b1 : (a0_3 != a1_3) = false := bne_eq_false_iff_eq.mpr c6
     clear c6
     by_cases c7 : a0_4 = a1_4
     ·rw [if_pos c7] at H
      have c7b0 : (a0_4 == a1_4) = true := beq_iff_eq.mpr c7
      have c7b1 : (a0_4 != a1_4) = false := bne_eq_false_iff_eq.mpr c7
      clear c7
      replace H := Option.bind_eq_some_iff.mp H
      obtain ⟨t353, A80, H⟩ := H
      replace H : (if t353 = true then ((laws_eqRing.f k a0_6 a0_7 l0_8 l0_9 a1_6 a1_7 l1_8 l1_9).bind fun t354 => (if t354 = true then ((laws_eqSlotS.f k l0_10 l1_10).bind fun t355 => (if t355 = true then (some true) else (some false))) else (some false))) else (some false)) = some r := H
      have A8 := Aside0.mk A80
      clear A80
      by_cases c9 : t353 = true
      ·subst c9
       have H1 : ((laws_eqRing.f k a0_6 a0_7 l0_8 l0_9 a1_6 a1_7 l1_8 l1_9).bind fun t354 => (if t354 = true then ((laws_eqSlotS.f k l0_10 l1_10).bind fun t355 => (if t355 = true then (some true) else (some false))) else (some false))) = some r := by rw [if_pos rfl] at H; exact H
       clear H
       have H := H1
       clear H1
       replace H := Option.bind_eq_some_iff.mp H
       obtain ⟨t354, A100, H⟩ := H
       replace H : (if t354 = true then ((laws_eqSlotS.f k l0_10 l1_10).bind fun t355 => (if t355 = true then (some true) else (some false))) else (some false)) = some r := H
       have A10 := Aside0.mk A100
       clear A100
       by_cases c11 : t354 = true
       ·subst c11
        have H1 : ((laws_eqSlotS.f k l0_10 l1_10).bind fun t355 => (if t355 = true then (some true) else (some false))) = some r := by rw [if_pos rfl] at H; exact H
        clear H
        have H := H1
        clear H1
        replace H := Option.bind_eq_some_iff.mp H
        obtain ⟨t355, A120, H⟩ := H
        replace H : (if t355 = true then (some true) else (some false)) = some r := H
        have A12 := Aside0.mk A120
        clear A120
        by_cases c13 : t355 = true
        ·subst c13
         have H1 : (some true) = some r := by rw [if_pos rfl] at H; exact H
         clear H
         have H := H1
         clear H1
         obtain rfl := Option.some.inj H
         go_enter Try.func30, Try.ntmps30
         go_wp2_with (first | ((with_reducible refine gate_dst (N := 2) rfl ?_); refine box_event ?hg (N := 2) ?hd (cs := #[.string a0_0, .int .i64 a0_1, .int .i64 a0_2, .int .i64 a0_3, .int .i64 a0_4, .slice A0_5 l0_5.length c0_5, .int .i64 a0_6, .int .i64 a0_7, .slice A0_8 l0_8.length c0_8, .slice A0_9 l0_9.length c0_9, .slice A0_10 l0_10.length c0_10]) (t := 43) ?hr ?_; (case hd => rfl); (case hg => rfl); (case hr => first | (go_simp; done) | (go_simp; rfl)); intro gb351 hg w14 hbox hb; have n0_ := Aside0.mk (below_step bl_ hb); have n1_ := Aside0.mk (hbox); have n2_ := gw_ (w := w) hg; have n3_ := gw_ (w := w) hg; clear HB; have HB := n0_; have BK351 := n1_; have GW351 := n2_; have GE351 := n3_; clear n0_ n1_ n2_ n3_; clear hb hbox hg) | ((with_reducible refine gate_dst (N := 3) rfl ?_); refine box_event ?hg (N := 3) ?hd (cs := #[.string a1_0, .int .i64 a1_1, .int .i64 a1_2, .int .i64 a1_3, .int .i64 a1_4, .slice A1_5 l1_5.length c1_5, .int .i64 a1_6, .int .i64 a1_7, .slice A1_8 l1_8.length c1_8, .slice A1_9 l1_9.length c1_9, .slice A1_10 l1_10.length c1_10]) (t := 43) ?hr ?_; (case hd => rfl); (case hg => rfl); (case hr => first | (go_simp; done) | (go_simp; rfl)); intro gb352 hg w15 hbox hb; have n0_ := Aside0.mk (blk_below (bk_ BK351) hb); have n1_ := Aside0.mk (below_step bl_ hb); have n2_ := Aside0.mk (hbox); have n3_ := gw_ (w := w) hg; have n4_ := gw_ (w := w) hg; have n5_ := Aside0.mk ((by rw [hg]; exact Nat.ne_of_lt (blk_lt (bk_ BK351)) : gb351 ≠ gb352)); have n6_ := Aside0.mk ((by rw [hg]; exact Nat.ne_of_gt (blk_lt (bk_ BK351)) : gb352 ≠ gb351)); clear BK351; clear HB; have BK351 := n0_; have HB := n1_; have BK352 := n2_; have GW352 := n3_; have GE352 := n4_; have NB351_352 := n5_; have NB352_351 := n6_; clear n0_ n1_ n2_ n3_ n4_ n5_ n6_; clear hb hbox hg; have hnb16 := NB351_352.out; have hnc16 := NB352_351.out; have hcz17_0 := cz_ BK351 0 (.string a0_0); have hcz17_1 := cz_ BK351 1 (.int .i64 a0_1); have hcz17_2 := cz_ BK351 2 (.int .i64 a0_2); have hcz17_3 := cz_ BK351 3 (.int .i64 a0_3); have hcz17_4 := cz_ BK351 4 (.int .i64 a0_4); have hcz17_5 := cz_ BK351 5 (.slice A0_5 l0_5.length c0_5); have hcz17_6 := cz_ BK351 6 (.int .i64 a0_6); have hcz17_7 := cz_ BK351 7 (.int .i64 a0_7); have hcz17_8 := cz_ BK351 8 (.slice A0_8 l0_8.length c0_8); have hcz17_9 := cz_ BK351 9 (.slice A0_9 l0_9.length c0_9); have hcz17_10 := cz_ BK351 10 (.slice A0_10 l0_10.length c0_10); have hfz17_0 := fz_ BK351 0; have hfz17_1 := fz_ BK351 1; have hfz17_2 := fz_ BK351 2; have hfz17_3 := fz_ BK351 3; have hfz17_4 := fz_ BK351 4; have hfz17_5 := fz_ BK351 5; have hfz17_6 := fz_ BK351 6; have hfz17_7 := fz_ BK351 7; have hfz17_8 := fz_ BK351 8; have hfz17_9 := fz_ BK351 9; have hfz17_10 := fz_ BK351 10; have hcz18_0 := cz_ BK352 0 (.string a1_0); have hcz18_1 := cz_ BK352 1 (.int .i64 a1_1); have hcz18_2 := cz_ BK352 2 (.int .i64 a1_2); have hcz18_3 := cz_ BK352 3 (.int .i64 a1_3); have hcz18_4 := cz_ BK352 4 (.int .i64 a1_4); have hcz18_5 := cz_ BK352 5 (.slice A1_5 l1_5.length c1_5); have hcz18_6 := cz_ BK352 6 (.int .i64 a1_6); have hcz18_7 := cz_ BK352 7 (.int .i64 a1_7); have hcz18_8 := cz_ BK352 8 (.slice A1_8 l1_8.length c1_8); have hcz18_9 := cz_ BK352 9 (.slice A1_9 l1_9.length c1_9); have hcz18_10 := cz_ BK352 10 (.slice A1_10 l1_10.length c1_10); have hfz18_0 := fz_ BK352 0; have hfz18_1 := fz_ BK352 1; have hfz18_2 := fz_ BK352 2; have hfz18_3 := fz_ BK352 3; have hfz18_4 := fz_ BK352 4; have hfz18_5 := fz_ BK352 5; have hfz18_6 := fz_ BK352 6; have hfz18_7 := fz_ BK352 7; have hfz18_8 := fz_ BK352 8; have hfz18_9 := fz_ BK352 9; have hfz18_10 := fz_ BK352 10) | ((with_reducible refine gate_callee (f := 19) rfl ?_); refine goesL_ (some 34) rfl rfl Try.func19 (by kernel_rfl) rfl #[.slice A0_5 l0_5.length c0_5, .slice A1_5 l1_5.length c1_5] rfl gl_ ?_; (with_reducible refine (laws_eqHoldS.calls k _ _ l0_5 _ _ l1_5 true _ ?side1 ?side2 ?side3 ?side4 A8.out).mono ?_); (case side1 => exact ca_ (Kd.C_below HR0_5.out HB.out)); (case side2 => exact HC0_5.out); (case side3 => exact ca_ (Kd.C_below HR1_5.out HB.out)); (case side4 => exact HC1_5.out); rintro e w19 ⟨rfl, hb⟩; refine ⟨_, rfl, ?_⟩; have n0_ := Aside0.mk (blk_below (bk_ BK351) hb); have n1_ := Aside0.mk (blk_below (bk_ BK352) hb); have n2_ := Aside0.mk (below_step bl_ hb); clear BK351; clear BK352; clear HB; have BK351 := n0_; have BK352 := n1_; have HB := n2_; clear n0_ n1_ n2_; (try clear hb); (try clear hb2); (try clear hk); (try clear hi); have hcz20_0 := cz_ BK351 0 (.string a0_0); have hcz20_1 := cz_ BK351 1 (.int .i64 a0_1); have hcz20_2 := cz_ BK351 2 (.int .i64 a0_2); have hcz20_3 := cz_ BK351 3 (.int .i64 a0_3); have hcz20_4 := cz_ BK351 4 (.int .i64 a0_4); have hcz20_5 := cz_ BK351 5 (.slice A0_5 l0_5.length c0_5); have hcz20_6 := cz_ BK351 6 (.int .i64 a0_6); have hcz20_7 := cz_ BK351 7 (.int .i64 a0_7); have hcz20_8 := cz_ BK351 8 (.slice A0_8 l0_8.length c0_8); have hcz20_9 := cz_ BK351 9 (.slice A0_9 l0_9.length c0_9); have hcz20_10 := cz_ BK351 10 (.slice A0_10 l0_10.length c0_10); have hfz20_0 := fz_ BK351 0; have hfz20_1 := fz_ BK351 1; have hfz20_2 := fz_ BK351 2; have hfz20_3 := fz_ BK351 3; have hfz20_4 := fz_ BK351 4; have hfz20_5 := fz_ BK351 5; have hfz20_6 := fz_ BK351 6; have hfz20_7 := fz_ BK351 7; have hfz20_8 := fz_ BK351 8; have hfz20_9 := fz_ BK351 9; have hfz20_10 := fz_ BK351 10; have hcz21_0 := cz_ BK352 0 (.string a1_0); have hcz21_1 := cz_ BK352 1 (.int .i64 a1_1); have hcz21_2 := cz_ BK352 2 (.int .i64 a1_2); have hcz21_3 := cz_ BK352 3 (.int .i64 a1_3); have hcz21_4 := cz_ BK352 4 (.int .i64 a1_4); have hcz21_5 := cz_ BK352 5 (.slice A1_5 l1_5.length c1_5); have hcz21_6 := cz_ BK352 6 (.int .i64 a1_6); have hcz21_7 := cz_ BK352 7 (.int .i64 a1_7); have hcz21_8 := cz_ BK352 8 (.slice A1_8 l1_8.length c1_8); have hcz21_9 := cz_ BK352 9 (.slice A1_9 l1_9.length c1_9); have hcz21_10 := cz_ BK352 10 (.slice A1_10 l1_10.length c1_10); have hfz21_0 := fz_ BK352 0; have hfz21_1 := fz_ BK352 1; have hfz21_2 := fz_ BK352 2; have hfz21_3 := fz_ BK352 3; have hfz21_4 := fz_ BK352 4; have hfz21_5 := fz_ BK352 5; have hfz21_6 := fz_ BK352 6; have hfz21_7 := fz_ BK352 7; have hfz21_8 := fz_ BK352 8; have hfz21_9 := fz_ BK352 9; have hfz21_10 := fz_ BK352 10) | ((with_reducible refine gate_callee (f := 93) rfl ?_); refine goesL_ (some 40) rfl rfl Try.func93 (by kernel_rfl) rfl #[.agg #[.int .i64 a0_6, .int .i64 a0_7, .slice A0_8 l0_8.length c0_8, .slice A0_9 l0_9.length c0_9], .agg #[.int .i64 a1_6, .int .i64 a1_7, .slice A1_8 l1_8.length c1_8, .slice A1_9 l1_9.length c1_9]] rfl gl_ ?_; (with_reducible refine (laws_eqRing.calls k a0_6 a0_7 _ _ l0_8 _ _ l0_9 a1_6 a1_7 _ _ l1_8 _ _ l1_9 true _ ?side1 ?side2 ?side3 ?side4 ?side5 ?side6 ?side7 ?side8 A10.out).mono ?_); (case side1 => exact ca_ (Kd.C_below HR0_8.out HB.out)); (case side2 => exact HC0_8.out); (case side3 => exact ca_ (Kd.C_below HR0_9.out HB.out)); (case side4 => exact HC0_9.out); (case side5 => exact ca_ (Kd.C_below HR1_8.out HB.out)); (case side6 => exact HC1_8.out); (case side7 => exact ca_ (Kd.C_below HR1_9.out HB.out)); (case side8 => exact HC1_9.out); rintro e w22 ⟨rfl, hb⟩; refine ⟨_, rfl, ?_⟩; have n0_ := Aside0.mk (blk_below (bk_ BK351) hb); have n1_ := Aside0.mk (blk_below (bk_ BK352) hb); have n2_ := Aside0.mk (below_step bl_ hb); clear BK351; clear BK352; clear HB; have BK351 := n0_; have BK352 := n1_; have HB := n2_; clear n0_ n1_ n2_; (try clear hb); (try clear hb2); (try clear hk); (try clear hi); have hcz23_0 := cz_ BK351 0 (.string a0_0); have hcz23_1 := cz_ BK351 1 (.int .i64 a0_1); have hcz23_2 := cz_ BK351 2 (.int .i64 a0_2); have hcz23_3 := cz_ BK351 3 (.int .i64 a0_3); have hcz23_4 := cz_ BK351 4 (.int .i64 a0_4); have hcz23_5 := cz_ BK351 5 (.slice A0_5 l0_5.length c0_5); have hcz23_6 := cz_ BK351 6 (.int .i64 a0_6); have hcz23_7 := cz_ BK351 7 (.int .i64 a0_7); have hcz23_8 := cz_ BK351 8 (.slice A0_8 l0_8.length c0_8); have hcz23_9 := cz_ BK351 9 (.slice A0_9 l0_9.length c0_9); have hcz23_10 := cz_ BK351 10 (.slice A0_10 l0_10.length c0_10); have hfz23_0 := fz_ BK351 0; have hfz23_1 := fz_ BK351 1; have hfz23_2 := fz_ BK351 2; have hfz23_3 := fz_ BK351 3; have hfz23_4 := fz_ BK351 4; have hfz23_5 := fz_ BK351 5; have hfz23_6 := fz_ BK351 6; have hfz23_7 := fz_ BK351 7; have hfz23_8 := fz_ BK351 8; have hfz23_9 := fz_ BK351 9; have hfz23_10 := fz_ BK351 10; have hcz24_0 := cz_ BK352 0 (.string a1_0); have hcz24_1 := cz_ BK352 1 (.int .i64 a1_1); have hcz24_2 := cz_ BK352 2 (.int .i64 a1_2); have hcz24_3 := cz_ BK352 3 (.int .i64 a1_3); have hcz24_4 := cz_ BK352 4 (.int .i64 a1_4); have hcz24_5 := cz_ BK352 5 (.slice A1_5 l1_5.length c1_5); have hcz24_6 := cz_ BK352 6 (.int .i64 a1_6); have hcz24_7 := cz_ BK352 7 (.int .i64 a1_7); have hcz24_8 := cz_ BK352 8 (.slice A1_8 l1_8.length c1_8); have hcz24_9 := cz_ BK352 9 (.slice A1_9 l1_9.length c1_9); have hcz24_10 := cz_ BK352 10 (.slice A1_10 l1_10.length c1_10); have hfz24_0 := fz_ BK352 0; have hfz24_1 := fz_ BK352 1; have hfz24_2 := fz_ BK352 2; have hfz24_3 := fz_ BK352 3; have hfz24_4 := fz_ BK352 4; have hfz24_5 := fz_ BK352 5; have hfz24_6 := fz_ BK352 6; have hfz24_7 := fz_ BK352 7; have hfz24_8 := fz_ BK352 8; have hfz24_9 := fz_ BK352 9; have hfz24_10 := fz_ BK352 10) | ((with_reducible refine gate_callee (f := 41) rfl ?_); refine goesL_ (some 46) rfl rfl Try.func41 (by kernel_rfl) rfl #[.slice A0_10 l0_10.length c0_10, .slice A1_10 l1_10.length c1_10] rfl gl_ ?_; (with_reducible refine (laws_eqSlotS.calls k _ _ l0_10 _ _ l1_10 true _ ?side1 ?side2 ?side3 ?side4 A12.out).mono ?_); (case side1 => exact ca_ (Kd.C_below HR0_10.out HB.out)); (case side2 => exact HC0_10.out); (case side3 => exact ca_ (Kd.C_below HR1_10.out HB.out)); (case side4 => exact HC1_10.out); rintro e w25 ⟨rfl, hb⟩; refine ⟨_, rfl, ?_⟩; have n0_ := Aside0.mk (blk_below (bk_ BK351) hb); have n1_ := Aside0.mk (blk_below (bk_ BK352) hb); have n2_ := Aside0.mk (below_step bl_ hb); clear BK351; clear BK352; clear HB; have BK351 := n0_; have BK352 := n1_; have HB := n2_; clear n0_ n1_ n2_; (try clear hb); (try clear hb2); (try clear hk); (try clear hi)))
         go_ret
         exact ⟨sq_, bl_⟩
        ·replace c13 := Bool.eq_false_iff.mpr c13
         subst c13
         have H1 : (some false) = some r := by rw [if_neg (show ¬ (false = true) by decide)] at H; exact H
         clear H
         have H := H1
         clear H1
         obtain rfl := Option.some.inj H
         go_enter Try.func30, Try.ntmps30
         go_wp2_with (first | ((with_reducible refine gate_dst (N := 2) rfl ?_); refine box_event ?hg (N := 2) ?hd (cs := #[.string a0_0, .int .i64 a0_1, .int .i64 a0_2, .int .i64 a0_3, .int .i64 a0_4, .slice A0_5 l0_5.length c0_5, .int .i64 a0_6, .int .i64 a0_7, .slice A0_8 l0_8.length c0_8, .slice A0_9 l0_9.length c0_9, .slice A0_10 l0_10.length c0_10]) (t := 43) ?hr ?_; (case hd => rfl); (case hg => rfl); (case hr => first | (go_simp; done) | (go_simp; rfl)); intro gb351 hg w26 hbox hb; have n0_ := Aside0.mk (below_step bl_ hb); have n1_ := Aside0.mk (hbox); have n2_ := gw_ (w := w) hg; have n3_ := gw_ (w := w) hg; clear HB; have HB := n0_; have BK351 := n1_; have GW351 := n2_; have GE351 := n3_; clear n0_ n1_ n2_ n3_; clear hb hbox hg) | ((with_reducible refine gate_dst (N := 3) rfl ?_); refine box_event ?hg (N := 3) ?hd (cs := #[.string a1_0, .int .i64 a1_1, .int .i64 a1_2, .int .i64 a1_3, .int .i64 a1_4, .slice A1_5 l1_5.length c1_5, .int .i64 a1_6, .int .i64 a1_7, .slice A1_8 l1_8.length c1_8, .slice A1_9 l1_9.length c1_9, .slice A1_10 l1_10.length c1_10]) (t := 43) ?hr ?_; (case hd => rfl); (case hg => rfl); (case hr => first | (go_simp; done) | (go_simp; rfl)); intro gb352 hg w27 hbox hb; have n0_ := Aside0.mk (blk_below (bk_ BK351) hb); have n1_ := Aside0.mk (below_step bl_ hb); have n2_ := Aside0.mk (hbox); have n3_ := gw_ (w := w) hg; have n4_ := gw_ (w := w) hg; have n5_ := Aside0.mk ((by rw [hg]; exact Nat.ne_of_lt (blk_lt (bk_ BK351)) : gb351 ≠ gb352)); have n6_ := Aside0.mk ((by rw [hg]; exact Nat.ne_of_gt (blk_lt (bk_ BK351)) : gb352 ≠ gb351)); clear BK351; clear HB; have BK351 := n0_; have HB := n1_; have BK352 := n2_; have GW352 := n3_; have GE352 := n4_; have NB351_352 := n5_; have NB352_351 := n6_; clear n0_ n1_ n2_ n3_ n4_ n5_ n6_; clear hb hbox hg; have hnb28 := NB351_352.out; have hnc28 := NB352_351.out; have hcz29_0 := cz_ BK351 0 (.string a0_0); have hcz29_1 := cz_ BK351 1 (.int .i64 a0_1); have hcz29_2 := cz_ BK351 2 (.int .i64 a0_2); have hcz29_3 := cz_ BK351 3 (.int .i64 a0_3); have hcz29_4 := cz_ BK351 4 (.int .i64 a0_4); have hcz29_5 := cz_ BK351 5 (.slice A0_5 l0_5.length c0_5); have hcz29_6 := cz_ BK351 6 (.int .i64 a0_6); have hcz29_7 := cz_ BK351 7 (.int .i64 a0_7); have hcz29_8 := cz_ BK351 8 (.slice A0_8 l0_8.length c0_8); have hcz29_9 := cz_ BK351 9 (.slice A0_9 l0_9.length c0_9); have hcz29_10 := cz_ BK351 10 (.slice A0_10 l0_10.length c0_10); have hfz29_0 := fz_ BK351 0; have hfz29_1 := fz_ BK351 1; have hfz29_2 := fz_ BK351 2; have hfz29_3 := fz_ BK351 3; have hfz29_4 := fz_ BK351 4; have hfz29_5 := fz_ BK351 5; have hfz29_6 := fz_ BK351 6; have hfz29_7 := fz_ BK351 7; have hfz29_8 := fz_ BK351 8; have hfz29_9 := fz_ BK351 9; have hfz29_10 := fz_ BK351 10; have hcz30_0 := cz_ BK352 0 (.string a1_0); have hcz30_1 := cz_ BK352 1 (.int .i64 a1_1); have hcz30_2 := cz_ BK352 2 (.int .i64 a1_2); have hcz30_3 := cz_ BK352 3 (.int .i64 a1_3); have hcz30_4 := cz_ BK352 4 (.int .i64 a1_4); have hcz30_5 := cz_ BK352 5 (.slice A1_5 l1_5.length c1_5); have hcz30_6 := cz_ BK352 6 (.int .i64 a1_6); have hcz30_7 := cz_ BK352 7 (.int .i64 a1_7); have hcz30_8 := cz_ BK352 8 (.slice A1_8 l1_8.length c1_8); have hcz30_9 := cz_ BK352 9 (.slice A1_9 l1_9.length c1_9); have hcz30_10 := cz_ BK352 10 (.slice A1_10 l1_10.length c1_10); have hfz30_0 := fz_ BK352 0; have hfz30_1 := fz_ BK352 1; have hfz30_2 := fz_ BK352 2; have hfz30_3 := fz_ BK352 3; have hfz30_4 := fz_ BK352 4; have hfz30_5 := fz_ BK352 5; have hfz30_6 := fz_ BK352 6; have hfz30_7 := fz_ BK352 7; have hfz30_8 := fz_ BK352 8; have hfz30_9 := fz_ BK352 9; have hfz30_10 := fz_ BK352 10) | ((with_reducible refine gate_callee (f := 19) rfl ?_); refine goesL_ (some 34) rfl rfl Try.func19 (by kernel_rfl) rfl #[.slice A0_5 l0_5.length c0_5, .slice A1_5 l1_5.length c1_5] rfl gl_ ?_; (with_reducible refine (laws_eqHoldS.calls k _ _ l0_5 _ _ l1_5 true _ ?side1 ?side2 ?side3 ?side4 A8.out).mono ?_); (case side1 => exact ca_ (Kd.C_below HR0_5.out HB.out)); (case side2 => exact HC0_5.out); (case side3 => exact ca_ (Kd.C_below HR1_5.out HB.out)); (case side4 => exact HC1_5.out); rintro e w31 ⟨rfl, hb⟩; refine ⟨_, rfl, ?_⟩; have n0_ := Aside0.mk (blk_below (bk_ BK351) hb); have n1_ := Aside0.mk (blk_below (bk_ BK352) hb); have n2_ := Aside0.mk (below_step bl_ hb); clear BK351; clear BK352; clear HB; have BK351 := n0_; have BK352 := n1_; have HB := n2_; clear n0_ n1_ n2_; (try clear hb); (try clear hb2); (try clear hk); (try clear hi); have hcz32_0 := cz_ BK351 0 (.string a0_0); have hcz32_1 := cz_ BK351 1 (.int .i64 a0_1); have hcz32_2 := cz_ BK351 2 (.int .i64 a0_2); have hcz32_3 := cz_ BK351 3 (.int .i64 a0_3); have hcz32_4 := cz_ BK351 4 (.int .i64 a0_4); have hcz32_5 := cz_ BK351 5 (.slice A0_5 l0_5.length c0_5); have hcz32_6 := cz_ BK351 6 (.int .i64 a0_6); have hcz32_7 := cz_ BK351 7 (.int .i64 a0_7); have hcz32_8 := cz_ BK351 8 (.slice A0_8 l0_8.length c0_8); have hcz32_9 := cz_ BK351 9 (.slice A0_9 l0_9.length c0_9); have hcz32_10 := cz_ BK351 10 (.slice A0_10 l0_10.length c0_10); have hfz32_0 := fz_ BK351 0; have hfz32_1 := fz_ BK351 1; have hfz32_2 := fz_ BK351 2; have hfz32_3 := fz_ BK351 3; have hfz32_4 := fz_ BK351 4; have hfz32_5 := fz_ BK351 5; have hfz32_6 := fz_ BK351 6; have hfz32_7 := fz_ BK351 7; have hfz32_8 := fz_ BK351 8; have hfz32_9 := fz_ BK351 9; have hfz32_10 := fz_ BK351 10; have hcz33_0 := cz_ BK352 0 (.string a1_0); have hcz33_1 := cz_ BK352 1 (.int .i64 a1_1); have hcz33_2 := cz_ BK352 2 (.int .i64 a1_2); have hcz33_3 := cz_ BK352 3 (.int .i64 a1_3); have hcz33_4 := cz_ BK352 4 (.int .i64 a1_4); have hcz33_5 := cz_ BK352 5 (.slice A1_5 l1_5.length c1_5); have hcz33_6 := cz_ BK352 6 (.int .i64 a1_6); have hcz33_7 := cz_ BK352 7 (.int .i64 a1_7); have hcz33_8 := cz_ BK352 8 (.slice A1_8 l1_8.length c1_8); have hcz33_9 := cz_ BK352 9 (.slice A1_9 l1_9.length c1_9); have hcz33_10 := cz_ BK352 10 (.slice A1_10 l1_10.length c1_10); have hfz33_0 := fz_ BK352 0; have hfz33_1 := fz_ BK352 1; have hfz33_2 := fz_ BK352 2; have hfz33_3 := fz_ BK352 3; have hfz33_4 := fz_ BK352 4; have hfz33_5 := fz_ BK352 5; have hfz33_6 := fz_ BK352 6; have hfz33_7 := fz_ BK352 7; have hfz33_8 := fz_ BK352 8; have hfz33_9 := fz_ BK352 9; have hfz33_10 := fz_ BK352 10) | ((with_reducible refine gate_callee (f := 93) rfl ?_); refine goesL_ (some 40) rfl rfl Try.func93 (by kernel_rfl) rfl #[.agg #[.int .i64 a0_6, .int .i64 a0_7, .slice A0_8 l0_8.length c0_8, .slice A0_9 l0_9.length c0_9], .agg #[.int .i64 a1_6, .int .i64 a1_7, .slice A1_8 l1_8.length c1_8, .slice A1_9 l1_9.length c1_9]] rfl gl_ ?_; (with_reducible refine (laws_eqRing.calls k a0_6 a0_7 _ _ l0_8 _ _ l0_9 a1_6 a1_7 _ _ l1_8 _ _ l1_9 true _ ?side1 ?side2 ?side3 ?side4 ?side5 ?side6 ?side7 ?side8 A10.out).mono ?_); (case side1 => exact ca_ (Kd.C_below HR0_8.out HB.out)); (case side2 => exact HC0_8.out); (case side3 => exact ca_ (Kd.C_below HR0_9.out HB.out)); (case side4 => exact HC0_9.out); (case side5 => exact ca_ (Kd.C_below HR1_8.out HB.out)); (case side6 => exact HC1_8.out); (case side7 => exact ca_ (Kd.C_below HR1_9.out HB.out)); (case side8 => exact HC1_9.out); rintro e w34 ⟨rfl, hb⟩; refine ⟨_, rfl, ?_⟩; have n0_ := Aside0.mk (blk_below (bk_ BK351) hb); have n1_ := Aside0.mk (blk_below (bk_ BK352) hb); have n2_ := Aside0.mk (below_step bl_ hb); clear BK351; clear BK352; clear HB; have BK351 := n0_; have BK352 := n1_; have HB := n2_; clear n0_ n1_ n2_; (try clear hb); (try clear hb2); (try clear hk); (try clear hi); have hcz35_0 := cz_ BK351 0 (.string a0_0); have hcz35_1 := cz_ BK351 1 (.int .i64 a0_1); have hcz35_2 := cz_ BK351 2 (.int .i64 a0_2); have hcz35_3 := cz_ BK351 3 (.int .i64 a0_3); have hcz35_4 := cz_ BK351 4 (.int .i64 a0_4); have hcz35_5 := cz_ BK351 5 (.slice A0_5 l0_5.length c0_5); have hcz35_6 := cz_ BK351 6 (.int .i64 a0_6); have hcz35_7 := cz_ BK351 7 (.int .i64 a0_7); have hcz35_8 := cz_ BK351 8 (.slice A0_8 l0_8.length c0_8); have hcz35_9 := cz_ BK351 9 (.slice A0_9 l0_9.length c0_9); have hcz35_10 := cz_ BK351 10 (.slice A0_10 l0_10.length c0_10); have hfz35_0 := fz_ BK351 0; have hfz35_1 := fz_ BK351 1; have hfz35_2 := fz_ BK351 2; have hfz35_3 := fz_ BK351 3; have hfz35_4 := fz_ BK351 4; have hfz35_5 := fz_ BK351 5; have hfz35_6 := fz_ BK351 6; have hfz35_7 := fz_ BK351 7; have hfz35_8 := fz_ BK351 8; have hfz35_9 := fz_ BK351 9; have hfz35_10 := fz_ BK351 10; have hcz36_0 := cz_ BK352 0 (.string a1_0); have hcz36_1 := cz_ BK352 1 (.int .i64 a1_1); have hcz36_2 := cz_ BK352 2 (.int .i64 a1_2); have hcz36_3 := cz_ BK352 3 (.int .i64 a1_3); have hcz36_4 := cz_ BK352 4 (.int .i64 a1_4); have hcz36_5 := cz_ BK352 5 (.slice A1_5 l1_5.length c1_5); have hcz36_6 := cz_ BK352 6 (.int .i64 a1_6); have hcz36_7 := cz_ BK352 7 (.int .i64 a1_7); have hcz36_8 := cz_ BK352 8 (.slice A1_8 l1_8.length c1_8); have hcz36_9 := cz_ BK352 9 (.slice A1_9 l1_9.length c1_9); have hcz36_10 := cz_ BK352 10 (.slice A1_10 l1_10.length c1_10); have hfz36_0 := fz_ BK352 0; have hfz36_1 := fz_ BK352 1; have hfz36_2 := fz_ BK352 2; have hfz36_3 := fz_ BK352 3; have hfz36_4 := fz_ BK352 4; have hfz36_5 := fz_ BK352 5; have hfz36_6 := fz_ BK352 6; have hfz36_7 := fz_ BK352 7; have hfz36_8 := fz_ BK352 8; have hfz36_9 := fz_ BK352 9; have hfz36_10 := fz_ BK352 10) | ((with_reducible refine gate_callee (f := 41) rfl ?_); refine goesL_ (some 46) rfl rfl Try.func41 (by kernel_rfl) rfl #[.slice A0_10 l0_10.length c0_10, .slice A1_10 l1_10.length c1_10] rfl gl_ ?_; (with_reducible refine (laws_eqSlotS.calls k _ _ l0_10 _ _ l1_10 false _ ?side1 ?side2 ?side3 ?side4 A12.out).mono ?_); (case side1 => exact ca_ (Kd.C_below HR0_10.out HB.out)); (case side2 => exact HC0_10.out); (case side3 => exact ca_ (Kd.C_below HR1_10.out HB.out)); (case side4 => exact HC1_10.out); rintro e w37 ⟨rfl, hb⟩; refine ⟨_, rfl, ?_⟩; have n0_ := Aside0.mk (blk_below (bk_ BK351) hb); have n1_ := Aside0.mk (blk_below (bk_ BK352) hb); have n2_ := Aside0.mk (below_step bl_ hb); clear BK351; clear BK352; clear HB; have BK351 := n0_; have BK352 := n1_; have HB := n2_; clear n0_ n1_ n2_; (try clear hb); (try clear hb2); (try clear hk); (try clear hi)))
         go_ret
         exact ⟨sq_, bl_⟩
       ·replace c11 := Bool.eq_false_iff.mpr c11
        subst c11
        have H1 : (some false) = some r := by rw [if_neg (show ¬ (false = true) by decide)] at H; exact H
        clear H
        have H := H1
        clear H1
        obtain rfl := Option.some.inj H
        go_enter Try.func30, Try.ntmps30
        go_wp2_with (first | ((with_reducible refine gate_dst (N := 2) rfl ?_); refine box_event ?hg (N := 2) ?hd (cs := #[.string a0_0, .int .i64 a0_1, .int .i64 a0_2, .int .i64 a0_3, .int .i64 a0_4, .slice A0_5 l0_5.length c0_5, .int .i64 a0_6, .int .i64 a0_7, .slice A0_8 l0_8.length c0_8, .slice A0_9 l0_9.length c0_9, .slice A0_10 l0_10.length c0_10]) (t := 43) ?hr ?_; (case hd => rfl); (case hg => rfl); (case hr => first | (go_simp; done) | (go_simp; rfl)); intro gb351 hg w38 hbox hb; have n0_ := Aside0.mk (below_step bl_ hb); have n1_ := Aside0.mk (hbox); have n2_ := gw_ (w := w) hg; have n3_ := gw_ (w := w) hg; clear HB; have HB := n0_; have BK351 := n1_; have GW351 := n2_; have GE351 := n3_; clear n0_ n1_ n2_ n3_; clear hb hbox hg) | ((with_reducible refine gate_dst (N := 3) rfl ?_); refine box_event ?hg (N := 3) ?hd (cs := #[.string a1_0, .int .i64 a1_1, .int .i64 a1_2, .int .i64 a1_3, .int .i64 a1_4, .slice A1_5 l1_5.length c1_5, .int .i64 a1_6, .int .i64 a1_7, .slice A1_8 l1_8.length c1_8, .slice A1_9 l1_9.length c1_9, .slice A1_10 l1_10.length c1_10]) (t := 43) ?hr ?_; (case hd => rfl); (case hg => rfl); (case hr => first | (go_simp; done) | (go_simp; rfl)); intro gb352 hg w39 hbox hb; have n0_ := Aside0.mk (blk_below (bk_ BK351) hb); have n1_ := Aside0.mk (below_step bl_ hb); have n2_ := Aside0.mk (hbox); have n3_ := gw_ (w := w) hg; have n4_ := gw_ (w := w) hg; have n5_ := Aside0.mk ((by rw [hg]; exact Nat.ne_of_lt (blk_lt (bk_ BK351)) : gb351 ≠ gb352)); have n6_ := Aside0.mk ((by rw [hg]; exact Nat.ne_of_gt (blk_lt (bk_ BK351)) : gb352 ≠ gb351)); clear BK351; clear HB; have BK351 := n0_; have HB := n1_; have BK352 := n2_; have GW352 := n3_; have GE352 := n4_; have NB351_352 := n5_; have NB352_351 := n6_; clear n0_ n1_ n2_ n3_ n4_ n5_ n6_; clear hb hbox hg; have hnb40 := NB351_352.out; have hnc40 := NB352_351.out; have hcz41_0 := cz_ BK351 0 (.string a0_0); have hcz41_1 := cz_ BK351 1 (.int .i64 a0_1); have hcz41_2 := cz_ BK351 2 (.int .i64 a0_2); have hcz41_3 := cz_ BK351 3 (.int .i64 a0_3); have hcz41_4 := cz_ BK351 4 (.int .i64 a0_4); have hcz41_5 := cz_ BK351 5 (.slice A0_5 l0_5.length c0_5); have hcz41_6 := cz_ BK351 6 (.int .i64 a0_6); have hcz41_7 := cz_ BK351 7 (.int .i64 a0_7); have hcz41_8 := cz_ BK351 8 (.slice A0_8 l0_8.length c0_8); have hcz41_9 := cz_ BK351 9 (.slice A0_9 l0_9.length c0_9); have hcz41_10 := cz_ BK351 10 (.slice A0_10 l0_10.length c0_10); have hfz41_0 := fz_ BK351 0; have hfz41_1 := fz_ BK351 1; have hfz41_2 := fz_ BK351 2; have hfz41_3 := fz_ BK351 3; have hfz41_4 := fz_ BK351 4; have hfz41_5 := fz_ BK351 5; have hfz41_6 := fz_ BK351 6; have hfz41_7 := fz_ BK351 7; have hfz41_8 := fz_ BK351 8; have hfz41_9 := fz_ BK351 9; have hfz41_10 := fz_ BK351 10; have hcz42_0 := cz_ BK352 0 (.string a1_0); have hcz42_1 := cz_ BK352 1 (.int .i64 a1_1); have hcz42_2 := cz_ BK352 2 (.int .i64 a1_2); have hcz42_3 := cz_ BK352 3 (.int .i64 a1_3); have hcz42_4 := cz_ BK352 4 (.int .i64 a1_4); have hcz42_5 := cz_ BK352 5 (.slice A1_5 l1_5.length c1_5); have hcz42_6 := cz_ BK352 6 (.int .i64 a1_6); have hcz42_7 := cz_ BK352 7 (.int .i64 a1_7); have hcz42_8 := cz_ BK352 8 (.slice A1_8 l1_8.length c1_8); have hcz42_9 := cz_ BK352 9 (.slice A1_9 l1_9.length c1_9); have hcz42_10 := cz_ BK352 10 (.slice A1_10 l1_10.length c1_10); have hfz42_0 := fz_ BK352 0; have hfz42_1 := fz_ BK352 1; have hfz42_2 := fz_ BK352 2; have hfz42_3 := fz_ BK352 3; have hfz42_4 := fz_ BK352 4; have hfz42_5 := fz_ BK352 5; have hfz42_6 := fz_ BK352 6; have hfz42_7 := fz_ BK352 7; have hfz42_8 := fz_ BK352 8; have hfz42_9 := fz_ BK352 9; have hfz42_10 := fz_ BK352 10) | ((with_reducible refine gate_callee (f := 19) rfl ?_); refine goesL_ (some 34) rfl rfl Try.func19 (by kernel_rfl) rfl #[.slice A0_5 l0_5.length c0_5, .slice A1_5 l1_5.length c1_5] rfl gl_ ?_; (with_reducible refine (laws_eqHoldS.calls k _ _ l0_5 _ _ l1_5 true _ ?side1 ?side2 ?side3 ?side4 A8.out).mono ?_); (case side1 => exact ca_ (Kd.C_below HR0_5.out HB.out)); (case side2 => exact HC0_5.out); (case side3 => exact ca_ (Kd.C_below HR1_5.out HB.out)); (case side4 => exact HC1_5.out); rintro e w43 ⟨rfl, hb⟩; refine ⟨_, rfl, ?_⟩; have n0_ := Aside0.mk (blk_below (bk_ BK351) hb); have n1_ := Aside0.mk (blk_below (bk_ BK352) hb); have n2_ := Aside0.mk (below_step bl_ hb); clear BK351; clear BK352; clear HB; have BK351 := n0_; have BK352 := n1_; have HB := n2_; clear n0_ n1_ n2_; (try clear hb); (try clear hb2); (try clear hk); (try clear hi); have hcz44_0 := cz_ BK351 0 (.string a0_0); have hcz44_1 := cz_ BK351 1 (.int .i64 a0_1); have hcz44_2 := cz_ BK351 2 (.int .i64 a0_2); have hcz44_3 := cz_ BK351 3 (.int .i64 a0_3); have hcz44_4 := cz_ BK351 4 (.int .i64 a0_4); have hcz44_5 := cz_ BK351 5 (.slice A0_5 l0_5.length c0_5); have hcz44_6 := cz_ BK351 6 (.int .i64 a0_6); have hcz44_7 := cz_ BK351 7 (.int .i64 a0_7); have hcz44_8 := cz_ BK351 8 (.slice A0_8 l0_8.length c0_8); have hcz44_9 := cz_ BK351 9 (.slice A0_9 l0_9.length c0_9); have hcz44_10 := cz_ BK351 10 (.slice A0_10 l0_10.length c0_10); have hfz44_0 := fz_ BK351 0; have hfz44_1 := fz_ BK351 1; have hfz44_2 := fz_ BK351 2; have hfz44_3 := fz_ BK351 3; have hfz44_4 := fz_ BK351 4; have hfz44_5 := fz_ BK351 5; have hfz44_6 := fz_ BK351 6; have hfz44_7 := fz_ BK351 7; have hfz44_8 := fz_ BK351 8; have hfz44_9 := fz_ BK351 9; have hfz44_10 := fz_ BK351 10; have hcz45_0 := cz_ BK352 0 (.string a1_0); have hcz45_1 := cz_ BK352 1 (.int .i64 a1_1); have hcz45_2 := cz_ BK352 2 (.int .i64 a1_2); have hcz45_3 := cz_ BK352 3 (.int .i64 a1_3); have hcz45_4 := cz_ BK352 4 (.int .i64 a1_4); have hcz45_5 := cz_ BK352 5 (.slice A1_5 l1_5.length c1_5); have hcz45_6 := cz_ BK352 6 (.int .i64 a1_6); have hcz45_7 := cz_ BK352 7 (.int .i64 a1_7); have hcz45_8 := cz_ BK352 8 (.slice A1_8 l1_8.length c1_8); have hcz45_9 := cz_ BK352 9 (.slice A1_9 l1_9.length c1_9); have hcz45_10 := cz_ BK352 10 (.slice A1_10 l1_10.length c1_10); have hfz45_0 := fz_ BK352 0; have hfz45_1 := fz_ BK352 1; have hfz45_2 := fz_ BK352 2; have hfz45_3 := fz_ BK352 3; have hfz45_4 := fz_ BK352 4; have hfz45_5 := fz_ BK352 5; have hfz45_6 := fz_ BK352 6; have hfz45_7 := fz_ BK352 7; have hfz45_8 := fz_ BK352 8; have hfz45_9 := fz_ BK352 9; have hfz45_10 := fz_ BK352 10) | ((with_reducible refine gate_callee (f := 93) rfl ?_); refine goesL_ (some 40) rfl rfl Try.func93 (by kernel_rfl) rfl #[.agg #[.int .i64 a0_6, .int .i64 a0_7, .slice A0_8 l0_8.length c0_8, .slice A0_9 l0_9.length c0_9], .agg #[.int .i64 a1_6, .int .i64 a1_7, .slice A1_8 l1_8.length c1_8, .slice A1_9 l1_9.length c1_9]] rfl gl_ ?_; (with_reducible refine (laws_eqRing.calls k a0_6 a0_7 _ _ l0_8 _ _ l0_9 a1_6 a1_7 _ _ l1_8 _ _ l1_9 false _ ?side1 ?side2 ?side3 ?side4 ?side5 ?side6 ?side7 ?side8 A10.out).mono ?_); (case side1 => exact ca_ (Kd.C_below HR0_8.out HB.out)); (case side2 => exact HC0_8.out); (case side3 => exact ca_ (Kd.C_below HR0_9.out HB.out)); (case side4 => exact HC0_9.out); (case side5 => exact ca_ (Kd.C_below HR1_8.out HB.out)); (case side6 => exact HC1_8.out); (case side7 => exact ca_ (Kd.C_below HR1_9.out HB.out)); (case side8 => exact HC1_9.out); rintro e w46 ⟨rfl, hb⟩; refine ⟨_, rfl, ?_⟩; have n0_ := Aside0.mk (blk_below (bk_ BK351) hb); have n1_ := Aside0.mk (blk_below (bk_ BK352) hb); have n2_ := Aside0.mk (below_step bl_ hb); clear BK351; clear BK352; clear HB; have BK351 := n0_; have BK352 := n1_; have HB := n2_; clear n0_ n1_ n2_; (try clear hb); (try clear hb2); (try clear hk); (try clear hi)))
        go_ret
        exact ⟨sq_, bl_⟩
      ·replace c9 := Bool.eq_false_iff.mpr c9
       subst c9
       have H1 : (some false) = some r := by rw [if_neg (show ¬ (false = true) by decide)] at H; exact H
       clear H
       have H := H1
       clear H1
       obtain rfl := Option.some.inj H
       go_enter Try.func30, Try.ntmps30
       go_wp2_with (first | ((with_reducible refine gate_dst (N := 2) rfl ?_); refine box_event ?hg (N := 2) ?hd (cs := #[.string a0_0, .int .i64 a0_1, .int .i64 a0_2, .int .i64 a0_3, .int .i64 a0_4, .slice A0_5 l0_5.length c0_5, .int .i64 a0_6, .int .i64 a0_7, .slice A0_8 l0_8.length c0_8, .slice A0_9 l0_9.length c0_9, .slice A0_10 l0_10.length c0_10]) (t := 43) ?hr ?_; (case hd => rfl); (case hg => rfl); (case hr => first | (go_simp; done) | (go_simp; rfl)); intro gb351 hg w47 hbox hb; have n0_ := Aside0.mk (below_step bl_ hb); have n1_ := Aside0.mk (hbox); have n2_ := gw_ (w := w) hg; have n3_ := gw_ (w := w) hg; clear HB; have HB := n0_; have BK351 := n1_; have GW351 := n2_; have GE351 := n3_; clear n0_ n1_ n2_ n3_; clear hb hbox hg) | ((with_reducible refine gate_dst (N := 3) rfl ?_); refine box_event ?hg (N := 3) ?hd (cs := #[.string a1_0, .int .i64 a1_1, .int .i64 a1_2, .int .i64 a1_3, .int .i64 a1_4, .slice A1_5 l1_5.length c1_5, .int .i64 a1_6, .int .i64 a1_7, .slice A1_8 l1_8.length c1_8, .slice A1_9 l1_9.length c1_9, .slice A1_10 l1_10.length c1_10]) (t := 43) ?hr ?_; (case hd => rfl); (case hg => rfl); (case hr => first | (go_simp; done) | (go_simp; rfl)); intro gb352 hg w48 hbox hb; have n0_ := Aside0.mk (blk_below (bk_ BK351) hb); have n1_ := Aside0.mk (below_step bl_ hb); have n2_ := Aside0.mk (hbox); have n3_ := gw_ (w := w) hg; have n4_ := gw_ (w := w) hg; have n5_ := Aside0.mk ((by rw [hg]; exact Nat.ne_of_lt (blk_lt (bk_ BK351)) : gb351 ≠ gb352)); have n6_ := Aside0.mk ((by rw [hg]; exact Nat.ne_of_gt (blk_lt (bk_ BK351)) : gb352 ≠ gb351)); clear BK351; clear HB; have BK351 := n0_; have HB := n1_; have BK352 := n2_; have GW352 := n3_; have GE352 := n4_; have NB351_352 := n5_; have NB352_351 := n6_; clear n0_ n1_ n2_ n3_ n4_ n5_ n6_; clear hb hbox hg; have hnb49 := NB351_352.out; have hnc49 := NB352_351.out; have hcz50_0 := cz_ BK351 0 (.string a0_0); have hcz50_1 := cz_ BK351 1 (.int .i64 a0_1); have hcz50_2 := cz_ BK351 2 (.int .i64 a0_2); have hcz50_3 := cz_ BK351 3 (.int .i64 a0_3); have hcz50_4 := cz_ BK351 4 (.int .i64 a0_4); have hcz50_5 := cz_ BK351 5 (.slice A0_5 l0_5.length c0_5); have hcz50_6 := cz_ BK351 6 (.int .i64 a0_6); have hcz50_7 := cz_ BK351 7 (.int .i64 a0_7); have hcz50_8 := cz_ BK351 8 (.slice A0_8 l0_8.length c0_8); have hcz50_9 := cz_ BK351 9 (.slice A0_9 l0_9.length c0_9); have hcz50_10 := cz_ BK351 10 (.slice A0_10 l0_10.length c0_10); have hfz50_0 := fz_ BK351 0; have hfz50_1 := fz_ BK351 1; have hfz50_2 := fz_ BK351 2; have hfz50_3 := fz_ BK351 3; have hfz50_4 := fz_ BK351 4; have hfz50_5 := fz_ BK351 5; have hfz50_6 := fz_ BK351 6; have hfz50_7 := fz_ BK351 7; have hfz50_8 := fz_ BK351 8; have hfz50_9 := fz_ BK351 9; have hfz50_10 := fz_ BK351 10; have hcz51_0 := cz_ BK352 0 (.string a1_0); have hcz51_1 := cz_ BK352 1 (.int .i64 a1_1); have hcz51_2 := cz_ BK352 2 (.int .i64 a1_2); have hcz51_3 := cz_ BK352 3 (.int .i64 a1_3); have hcz51_4 := cz_ BK352 4 (.int .i64 a1_4); have hcz51_5 := cz_ BK352 5 (.slice A1_5 l1_5.length c1_5); have hcz51_6 := cz_ BK352 6 (.int .i64 a1_6); have hcz51_7 := cz_ BK352 7 (.int .i64 a1_7); have hcz51_8 := cz_ BK352 8 (.slice A1_8 l1_8.length c1_8); have hcz51_9 := cz_ BK352 9 (.slice A1_9 l1_9.length c1_9); have hcz51_10 := cz_ BK352 10 (.slice A1_10 l1_10.length c1_10); have hfz51_0 := fz_ BK352 0; have hfz51_1 := fz_ BK352 1; have hfz51_2 := fz_ BK352 2; have hfz51_3 := fz_ BK352 3; have hfz51_4 := fz_ BK352 4; have hfz51_5 := fz_ BK352 5; have hfz51_6 := fz_ BK352 6; have hfz51_7 := fz_ BK352 7; have hfz51_8 := fz_ BK352 8; have hfz51_9 := fz_ BK352 9; have hfz51_10 := fz_ BK352 10) | ((with_reducible refine gate_callee (f := 19) rfl ?_); refine goesL_ (some 34) rfl rfl Try.func19 (by kernel_rfl) rfl #[.slice A0_5 l0_5.length c0_5, .slice A1_5 l1_5.length c1_5] rfl gl_ ?_; (with_reducible refine (laws_eqHoldS.calls k _ _ l0_5 _ _ l1_5 false _ ?side1 ?side2 ?side3 ?side4 A8.out).mono ?_); (case side1 => exact ca_ (Kd.C_below HR0_5.out HB.out)); (case side2 => exact HC0_5.out); (case side3 => exact ca_ (Kd.C_below HR1_5.out HB.out)); (case side4 => exact HC1_5.out); rintro e w52 ⟨rfl, hb⟩; refine ⟨_, rfl, ?_⟩; have n0_ := Aside0.mk (blk_below (bk_ BK351) hb); have n1_ := Aside0.mk (blk_below (bk_ BK352) hb); have n2_ := Aside0.mk (below_step bl_ hb); clear BK351; clear BK352; clear HB; have BK351 := n0_; have BK352 := n1_; have HB := n2_; clear n0_ n1_ n2_; (try clear hb); (try clear hb2); (try clear hk); (try clear hi)))
       go_ret
       exact ⟨sq_, bl_⟩
     ·rw [if_neg c7] at H
      have c7b0 : (a0_4 == a1_4) = false := beq_eq_false_iff_ne.mpr c7
      have c7b1 : (a0_4 != a1_4) = true := bne_iff_ne.mpr c7
      obtain rfl := Option.some.inj H
      go_enter Try.func30, Try.ntmps30
      go_wp2_with (first | ((with_reducible refine gate_dst (N := 2) rfl ?_); refine box_event ?hg (N := 2) ?hd (cs := #[.string a0_0, .int .i64 a0_1, .int .i64 a0_2, .int .i64 a0_3, .int .i64 a0_4, .slice A0_5 l0_5.length c0_5, .int .i64 a0_6, .int .i64 a0_7, .slice A0_8 l0_8.length c0_8, .slice A0_9 l0_9.length c0_9, .slice A0_10 l0_10.length c0_10]) (t := 43) ?hr ?_; (case hd => rfl); (case hg => rfl); (case hr => first | (go_simp; done) | (go_simp; rfl)); intro gb351 hg w53 hbox hb; have n0_ := Aside0.mk (below_step bl_ hb); have n1_ := Aside0.mk (hbox); have n2_ := gw_ (w := w) hg; have n3_ := gw_ (w := w) hg; clear HB; have HB := n0_; have BK351 := n1_; have GW351 := n2_; have GE351 := n3_; clear n0_ n1_ n2_ n3_; clear hb hbox hg) | ((with_reducible refine gate_dst (N := 3) rfl ?_); refine box_event ?hg (N := 3) ?hd (cs := #[.string a1_0, .int .i64 a1_1, .int .i64 a1_2, .int .i64 a1_3, .int .i64 a1_4, .slice A1_5 l1_5.length c1_5, .int .i64 a1_6, .int .i64 a1_7, .slice A1_8 l1_8.length c1_8, .slice A1_9 l1_9.length c1_9, .slice A1_10 l1_10.length c1_10]) (t := 43) ?hr ?_; (case hd => rfl); (case hg => rfl); (case hr => first | (go_simp; done) | (go_simp; rfl)); intro gb352 hg w54 hbox hb; have n0_ := Aside0.mk (blk_below (bk_ BK351) hb); have n1_ := Aside0.mk (below_step bl_ hb); have n2_ := Aside0.mk (hbox); have n3_ := gw_ (w := w) hg; have n4_ := gw_ (w := w) hg; have n5_ := Aside0.mk ((by rw [hg]; exact Nat.ne_of_lt (blk_lt (bk_ BK351)) : gb351 ≠ gb352)); have n6_ := Aside0.mk ((by rw [hg]; exact Nat.ne_of_gt (blk_lt (bk_ BK351)) : gb352 ≠ gb351)); clear BK351; clear HB; have BK351 := n0_; have HB := n1_; have BK352 := n2_; have GW352 := n3_; have GE352 := n4_; have NB351_352 := n5_; have NB352_351 := n6_; clear n0_ n1_ n2_ n3_ n4_ n5_ n6_; clear hb hbox hg; have hnb55 := NB351_352.out; have hnc55 := NB352_351.out; have hcz56_0 := cz_ BK351 0 (.string a0_0); have hcz56_1 := cz_ BK351 1 (.int .i64 a0_1); have hcz56_2 := cz_ BK351 2 (.int .i64 a0_2); have hcz56_3 := cz_ BK351 3 (.int .i64 a0_3); have hcz56_4 := cz_ BK351 4 (.int .i64 a0_4); have hcz56_5 := cz_ BK351 5 (.slice A0_5 l0_5.length c0_5); have hcz56_6 := cz_ BK351 6 (.int .i64 a0_6); have hcz56_7 := cz_ BK351 7 (.int .i64 a0_7); have hcz56_8 := cz_ BK351 8 (.slice A0_8 l0_8.length c0_8); have hcz56_9 := cz_ BK351 9 (.slice A0_9 l0_9.length c0_9); have hcz56_10 := cz_ BK351 10 (.slice A0_10 l0_10.length c0_10); have hfz56_0 := fz_ BK351 0; have hfz56_1 := fz_ BK351 1; have hfz56_2 := fz_ BK351 2; have hfz56_3 := fz_ BK351 3; have hfz56_4 := fz_ BK351 4; have hfz56_5 := fz_ BK351 5; have hfz56_6 := fz_ BK351 6; have hfz56_7 := fz_ BK351 7; have hfz56_8 := fz_ BK351 8; have hfz56_9 := fz_ BK351 9; have hfz56_10 := fz_ BK351 10; have hcz57_0 := cz_ BK352 0 (.string a1_0); have hcz57_1 := cz_ BK352 1 (.int .i64 a1_1); have hcz57_2 := cz_ BK352 2 (.int .i64 a1_2); have hcz57_3 := cz_ BK352 3 (.int .i64 a1_3); have hcz57_4 := cz_ BK352 4 (.int .i64 a1_4); have hcz57_5 := cz_ BK352 5 (.slice A1_5 l1_5.length c1_5); have hcz57_6 := cz_ BK352 6 (.int .i64 a1_6); have hcz57_7 := cz_ BK352 7 (.int .i64 a1_7); have hcz57_8 := cz_ BK352 8 (.slice A1_8 l1_8.length c1_8); have hcz57_9 := cz_ BK352 9 (.slice A1_9 l1_9.length c1_9); have hcz57_10 := cz_ BK352 10 (.slice A1_10 l1_10.length c1_10); have hfz57_0 := fz_ BK352 0; have hfz57_1 := fz_ BK352 1; have hfz57_2 := fz_ BK352 2; have hfz57_3 := fz_ BK352 3; have hfz57_4 := fz_ BK352 4; have hfz57_5 := fz_ BK352 5; have hfz57_6 := fz_ BK352 6; have hfz57_7 := fz_ BK352 7; have hfz57_8 := fz_ BK352 8; have hfz57_9 := fz_ BK352 9; have hfz57_10 := fz_ BK352 10))
      go_ret
      exact ⟨sq_, bl_⟩
    ·rw [if_neg c6] at H
     have c6b0 : (a0_3 == a1_3) = false := beq_eq_false_iff_ne.mpr c6
     have c6b1 : (a0_3 != a1_3) = true := bne_iff_ne.mpr c6
     obtain rfl := Option.some.inj H
     go_enter Try.func30, Try.ntmps30
     go_wp2_with (first | ((with_reducible refine gate_dst (N := 2) rfl ?_); refine box_event ?hg (N := 2) ?hd (cs := #[.string a0_0, .int .i64 a0_1, .int .i64 a0_2, .int .i64 a0_3, .int .i64 a0_4, .slice A0_5 l0_5.length c0_5, .int .i64 a0_6, .int .i64 a0_7, .slice A0_8 l0_8.length c0_8, .slice A0_9 l0_9.length c0_9, .slice A0_10 l0_10.length c0_10]) (t := 43) ?hr ?_; (case hd => rfl); (case hg => rfl); (case hr => first | (go_simp; done) | (go_simp; rfl)); intro gb351 hg w58 hbox hb; have n0_ := Aside0.mk (below_step bl_ hb); have n1_ := Aside0.mk (hbox); have n2_ := gw_ (w := w) hg; have n3_ := gw_ (w := w) hg; clear HB; have HB := n0_; have BK351 := n1_; have GW351 := n2_; have GE351 := n3_; clear n0_ n1_ n2_ n3_; clear hb hbox hg) | ((with_reducible refine gate_dst (N := 3) rfl ?_); refine box_event ?hg (N := 3) ?hd (cs := #[.string a1_0, .int .i64 a1_1, .int .i64 a1_2, .int .i64 a1_3, .int .i64 a1_4, .slice A1_5 l1_5.length c1_5, .int .i64 a1_6, .int .i64 a1_7, .slice A1_8 l1_8.length c1_8, .slice A1_9 l1_9.length c1_9, .slice A1_10 l1_10.length c1_10]) (t := 43) ?hr ?_; (case hd => rfl); (case hg => rfl); (case hr => first | (go_simp; done) | (go_simp; rfl)); intro gb352 hg w59 hbox hb; have n0_ := Aside0.mk (blk_below (bk_ BK351) hb); have n1_ := Aside0.mk (below_step bl_ hb); have n2_ := Aside0.mk (hbox); have n3_ := gw_ (w := w) hg; have n4_ := gw_ (w := w) hg; have n5_ := Aside0.mk ((by rw [hg]; exact Nat.ne_of_lt (blk_lt (bk_ BK351)) : gb351 ≠ gb352)); have n6_ := Aside0.mk ((by rw [hg]; exact Nat.ne_of_gt (blk_lt (bk_ BK351)) : gb352 ≠ gb351)); clear BK351; clear HB; have BK351 := n0_; have HB := n1_; have BK352 := n2_; have GW352 := n3_; have GE352 := n4_; have NB351_352 := n5_; have NB352_351 := n6_; clear n0_ n1_ n2_ n3_ n4_ n5_ n6_; clear hb hbox hg; have hnb60 := NB351_352.out; have hnc60 := NB352_351.out; have hcz61_0 := cz_ BK351 0 (.string a0_0); have hcz61_1 := cz_ BK351 1 (.int .i64 a0_1); have hcz61_2 := cz_ BK351 2 (.int .i64 a0_2); have hcz61_3 := cz_ BK351 3 (.int .i64 a0_3); have hcz61_4 := cz_ BK351 4 (.int .i64 a0_4); have hcz61_5 := cz_ BK351 5 (.slice A0_5 l0_5.length c0_5); have hcz61_6 := cz_ BK351 6 (.int .i64 a0_6); have hcz61_7 := cz_ BK351 7 (.int .i64 a0_7); have hcz61_8 := cz_ BK351 8 (.slice A0_8 l0_8.length c0_8); have hcz61_9 := cz_ BK351 9 (.slice A0_9 l0_9.length c0_9); have hcz61_10 := cz_ BK351 10 (.slice A0_10 l0_10.length c0_10); have hfz61_0 := fz_ BK351 0; have hfz61_1 := fz_ BK351 1; have hfz61_2 := fz_ BK351 2; have hfz61_3 := fz_ BK351 3; have hfz61_4 := fz_ BK351 4; have hfz61_5 := fz_ BK351 5; have hfz61_6 := fz_ BK351 6; have hfz61_7 := fz_ BK351 7; have hfz61_8 := fz_ BK351 8; have hfz61_9 := fz_ BK351 9; have hfz61_10 := fz_ BK351 10; have hcz62_0 := cz_ BK352 0 (.string a1_0); have hcz62_1 := cz_ BK352 1 (.int .i64 a1_1); have hcz62_2 := cz_ BK352 2 (.int .i64 a1_2); have hcz62_3 := cz_ BK352 3 (.int .i64 a1_3); have hcz62_4 := cz_ BK352 4 (.int .i64 a1_4); have hcz62_5 := cz_ BK352 5 (.slice A1_5 l1_5.length c1_5); have hcz62_6 := cz_ BK352 6 (.int .i64 a1_6); have hcz62_7 := cz_ BK352 7 (.int .i64 a1_7); have hcz62_8 := cz_ BK352 8 (.slice A1_8 l1_8.length c1_8); have hcz62_9 := cz_ BK352 9 (.slice A1_9 l1_9.length c1_9); have hcz62_10 := cz_ BK352 10 (.slice A1_10 l1_10.length c1_10); have hfz62_0 := fz_ BK352 0; have hfz62_1 := fz_ BK352 1; have hfz62_2 := fz_ BK352 2; have hfz62_3 := fz_ BK352 3; have hfz62_4 := fz_ BK352 4; have hfz62_5 := fz_ BK352 5; have hfz62_6 := fz_ BK352 6; have hfz62_7 := fz_ BK352 7; have hfz62_8 := fz_ BK352 8; have hfz62_9 := fz_ BK352 9; have hfz62_10 := fz_ BK352 10))
     go_ret
     exact ⟨sq_, bl_⟩
   ·rw [if_neg c5] at H
    have c5b0 : (a0_2 == a1_2) = false := beq_eq_false_iff_ne.mpr c5
    have c5b1 : (a0_2 != a1_2) = true := bne_iff_ne.mpr c5
    obtain rfl := Option.some.inj H
    go_enter Try.func30, Try.ntmps30
    go_wp2_with (first | ((with_reducible refine gate_dst (N := 2) rfl ?_); refine box_event ?hg (N := 2) ?hd (cs := #[.string a0_0, .int .i64 a0_1, .int .i64 a0_2, .int .i64 a0_3, .int .i64 a0_4, .slice A0_5 l0_5.length c0_5, .int .i64 a0_6, .int .i64 a0_7, .slice A0_8 l0_8.length c0_8, .slice A0_9 l0_9.length c0_9, .slice A0_10 l0_10.length c0_10]) (t := 43) ?hr ?_; (case hd => rfl); (case hg => rfl); (case hr => first | (go_simp; done) | (go_simp; rfl)); intro gb351 hg w63 hbox hb; have n0_ := Aside0.mk (below_step bl_ hb); have n1_ := Aside0.mk (hbox); have n2_ := gw_ (w := w) hg; have n3_ := gw_ (w := w) hg; clear HB; have HB := n0_; have BK351 := n1_; have GW351 := n2_; have GE351 := n3_; clear n0_ n1_ n2_ n3_; clear hb hbox hg) | ((with_reducible refine gate_dst (N := 3) rfl ?_); refine box_event ?hg (N := 3) ?hd (cs := #[.string a1_0, .int .i64 a1_1, .int .i64 a1_2, .int .i64 a1_3, .int .i64 a1_4, .slice A1_5 l1_5.length c1_5, .int .i64 a1_6, .int .i64 a1_7, .slice A1_8 l1_8.length c1_8, .slice A1_9 l1_9.length c1_9, .slice A1_10 l1_10.length c1_10]) (t := 43) ?hr ?_; (case hd => rfl); (case hg => rfl); (case hr => first | (go_simp; done) | (go_simp; rfl)); intro gb352 hg w64 hbox hb; have n0_ := Aside0.mk (blk_below (bk_ BK351) hb); have n1_ := Aside0.mk (below_step bl_ hb); have n2_ := Aside0.mk (hbox); have n3_ := gw_ (w := w) hg; have n4_ := gw_ (w := w) hg; have n5_ := Aside0.mk ((by rw [hg]; exact Nat.ne_of_lt (blk_lt (bk_ BK351)) : gb351 ≠ gb352)); have n6_ := Aside0.mk ((by rw [hg]; exact Nat.ne_of_gt (blk_lt (bk_ BK351)) : gb352 ≠ gb351)); clear BK351; clear HB; have BK351 := n0_; have HB := n1_; have BK352 := n2_; have GW352 := n3_; have GE352 := n4_; have NB351_352 := n5_; have NB352_351 := n6_; clear n0_ n1_ n2_ n3_ n4_ n5_ n6_; clear hb hbox hg; have hnb65 := NB351_352.out; have hnc65 := NB352_351.out; have hcz66_0 := cz_ BK351 0 (.string a0_0); have hcz66_1 := cz_ BK351 1 (.int .i64 a0_1); have hcz66_2 := cz_ BK351 2 (.int .i64 a0_2); have hcz66_3 := cz_ BK351 3 (.int .i64 a0_3); have hcz66_4 := cz_ BK351 4 (.int .i64 a0_4); have hcz66_5 := cz_ BK351 5 (.slice A0_5 l0_5.length c0_5); have hcz66_6 := cz_ BK351 6 (.int .i64 a0_6); have hcz66_7 := cz_ BK351 7 (.int .i64 a0_7); have hcz66_8 := cz_ BK351 8 (.slice A0_8 l0_8.length c0_8); have hcz66_9 := cz_ BK351 9 (.slice A0_9 l0_9.length c0_9); have hcz66_10 := cz_ BK351 10 (.slice A0_10 l0_10.length c0_10); have hfz66_0 := fz_ BK351 0; have hfz66_1 := fz_ BK351 1; have hfz66_2 := fz_ BK351 2; have hfz66_3 := fz_ BK351 3; have hfz66_4 := fz_ BK351 4; have hfz66_5 := fz_ BK351 5; have hfz66_6 := fz_ BK351 6; have hfz66_7 := fz_ BK351 7; have hfz66_8 := fz_ BK351 8; have hfz66_9 := fz_ BK351 9; have hfz66_10 := fz_ BK351 10; have hcz67_0 := cz_ BK352 0 (.string a1_0); have hcz67_1 := cz_ BK352 1 (.int .i64 a1_1); have hcz67_2 := cz_ BK352 2 (.int .i64 a1_2); have hcz67_3 := cz_ BK352 3 (.int .i64 a1_3); have hcz67_4 := cz_ BK352 4 (.int .i64 a1_4); have hcz67_5 := cz_ BK352 5 (.slice A1_5 l1_5.length c1_5); have hcz67_6 := cz_ BK352 6 (.int .i64 a1_6); have hcz67_7 := cz_ BK352 7 (.int .i64 a1_7); have hcz67_8 := cz_ BK352 8 (.slice A1_8 l1_8.length c1_8); have hcz67_9 := cz_ BK352 9 (.slice A1_9 l1_9.length c1_9); have hcz67_10 := cz_ BK352 10 (.slice A1_10 l1_10.length c1_10); have hfz67_0 := fz_ BK352 0; have hfz67_1 := fz_ BK352 1; have hfz67_2 := fz_ BK352 2; have hfz67_3 := fz_ BK352 3; have hfz67_4 := fz_ BK352 4; have hfz67_5 := fz_ BK352 5; have hfz67_6 := fz_ BK352 6; have hfz67_7 := fz_ BK352 7; have hfz67_8 := fz_ BK352 8; have hfz67_9 := fz_ BK352 9; have hfz67_10 := fz_ BK352 10))
    go_ret
    exact ⟨sq_, bl_⟩
  ·rw [if_neg c4] at H
   have c4b0 : (a0_1 == a1_1) = false := beq_eq_false_iff_ne.mpr c4
   have c4b1 : (a0_1 != a1_1) = true := bne_iff_ne.mpr c4
   obtain rfl := Option.some.inj H
   go_enter Try.func30, Try.ntmps30
   go_wp2_with (first | ((with_reducible refine gate_dst (N := 2) rfl ?_); refine box_event ?hg (N := 2) ?hd (cs := #[.string a0_0, .int .i64 a0_1, .int .i64 a0_2, .int .i64 a0_3, .int .i64 a0_4, .slice A0_5 l0_5.length c0_5, .int .i64 a0_6, .int .i64 a0_7, .slice A0_8 l0_8.length c0_8, .slice A0_9 l0_9.length c0_9, .slice A0_10 l0_10.length c0_10]) (t := 43) ?hr ?_; (case hd => rfl); (case hg => rfl); (case hr => first | (go_simp; done) | (go_simp; rfl)); intro gb351 hg w68 hbox hb; have n0_ := Aside0.mk (below_step bl_ hb); have n1_ := Aside0.mk (hbox); have n2_ := gw_ (w := w) hg; have n3_ := gw_ (w := w) hg; clear HB; have HB := n0_; have BK351 := n1_; have GW351 := n2_; have GE351 := n3_; clear n0_ n1_ n2_ n3_; clear hb hbox hg) | ((with_reducible refine gate_dst (N := 3) rfl ?_); refine box_event ?hg (N := 3) ?hd (cs := #[.string a1_0, .int .i64 a1_1, .int .i64 a1_2, .int .i64 a1_3, .int .i64 a1_4, .slice A1_5 l1_5.length c1_5, .int .i64 a1_6, .int .i64 a1_7, .slice A1_8 l1_8.length c1_8, .slice A1_9 l1_9.length c1_9, .slice A1_10 l1_10.length c1_10]) (t := 43) ?hr ?_; (case hd => rfl); (case hg => rfl); (case hr => first | (go_simp; done) | (go_simp; rfl)); intro gb352 hg w69 hbox hb; have n0_ := Aside0.mk (blk_below (bk_ BK351) hb); have n1_ := Aside0.mk (below_step bl_ hb); have n2_ := Aside0.mk (hbox); have n3_ := gw_ (w := w) hg; have n4_ := gw_ (w := w) hg; have n5_ := Aside0.mk ((by rw [hg]; exact Nat.ne_of_lt (blk_lt (bk_ BK351)) : gb351 ≠ gb352)); have n6_ := Aside0.mk ((by rw [hg]; exact Nat.ne_of_gt (blk_lt (bk_ BK351)) : gb352 ≠ gb351)); clear BK351; clear HB; have BK351 := n0_; have HB := n1_; have BK352 := n2_; have GW352 := n3_; have GE352 := n4_; have NB351_352 := n5_; have NB352_351 := n6_; clear n0_ n1_ n2_ n3_ n4_ n5_ n6_; clear hb hbox hg; have hnb70 := NB351_352.out; have hnc70 := NB352_351.out; have hcz71_0 := cz_ BK351 0 (.string a0_0); have hcz71_1 := cz_ BK351 1 (.int .i64 a0_1); have hcz71_2 := cz_ BK351 2 (.int .i64 a0_2); have hcz71_3 := cz_ BK351 3 (.int .i64 a0_3); have hcz71_4 := cz_ BK351 4 (.int .i64 a0_4); have hcz71_5 := cz_ BK351 5 (.slice A0_5 l0_5.length c0_5); have hcz71_6 := cz_ BK351 6 (.int .i64 a0_6); have hcz71_7 := cz_ BK351 7 (.int .i64 a0_7); have hcz71_8 := cz_ BK351 8 (.slice A0_8 l0_8.length c0_8); have hcz71_9 := cz_ BK351 9 (.slice A0_9 l0_9.length c0_9); have hcz71_10 := cz_ BK351 10 (.slice A0_10 l0_10.length c0_10); have hfz71_0 := fz_ BK351 0; have hfz71_1 := fz_ BK351 1; have hfz71_2 := fz_ BK351 2; have hfz71_3 := fz_ BK351 3; have hfz71_4 := fz_ BK351 4; have hfz71_5 := fz_ BK351 5; have hfz71_6 := fz_ BK351 6; have hfz71_7 := fz_ BK351 7; have hfz71_8 := fz_ BK351 8; have hfz71_9 := fz_ BK351 9; have hfz71_10 := fz_ BK351 10; have hcz72_0 := cz_ BK352 0 (.string a1_0); have hcz72_1 := cz_ BK352 1 (.int .i64 a1_1); have hcz72_2 := cz_ BK352 2 (.int .i64 a1_2); have hcz72_3 := cz_ BK352 3 (.int .i64 a1_3); have hcz72_4 := cz_ BK352 4 (.int .i64 a1_4); have hcz72_5 := cz_ BK352 5 (.slice A1_5 l1_5.length c1_5); have hcz72_6 := cz_ BK352 6 (.int .i64 a1_6); have hcz72_7 := cz_ BK352 7 (.int .i64 a1_7); have hcz72_8 := cz_ BK352 8 (.slice A1_8 l1_8.length c1_8); have hcz72_9 := cz_ BK352 9 (.slice A1_9 l1_9.length c1_9); have hcz72_10 := cz_ BK352 10 (.slice A1_10 l1_10.length c1_10); have hfz72_0 := fz_ BK352 0; have hfz72_1 := fz_ BK352 1; have hfz72_2 := fz_ BK352 2; have hfz72_3 := fz_ BK352 3; have hfz72_4 := fz_ BK352 4; have hfz72_5 := fz_ BK352 5; have hfz72_6 := fz_ BK352 6; have hfz72_7 := fz_ BK352 7; have hfz72_8 := fz_ BK352 8; have hfz72_9 := fz_ BK352 9; have hfz72_10 := fz_ BK352 10))
   go_ret
   exact ⟨sq_, bl_⟩
 ·rw [if_neg c3] at H
  have c3b0 : (a0_0.toList == a1_0.toList) = false := beq_eq_false_iff_ne.mpr c3
  have c3b1 : (a0_0.toList != a1_0.toList) = true := bne_iff_ne.mpr c3
  obtain rfl := Option.some.inj H
  go_enter Try.func30, Try.ntmps30
  go_wp2_with (first | ((with_reducible refine gate_dst (N := 2) rfl ?_); refine box_event ?hg (N := 2) ?hd (cs := #[.string a0_0, .int .i64 a0_1, .int .i64 a0_2, .int .i64 a0_3, .int .i64 a0_4, .slice A0_5 l0_5.length c0_5, .int .i64 a0_6, .int .i64 a0_7, .slice A0_8 l0_8.length c0_8, .slice A0_9 l0_9.length c0_9, .slice A0_10 l0_10.length c0_10]) (t := 43) ?hr ?_; (case hd => rfl); (case hg => rfl); (case hr => first | (go_simp; done) | (go_simp; rfl)); intro gb351 hg w73 hbox hb; have n0_ := Aside0.mk (below_step bl_ hb); have n1_ := Aside0.mk (hbox); have n2_ := gw_ (w := w) hg; have n3_ := gw_ (w := w) hg; clear HB; have HB := n0_; have BK351 := n1_; have GW351 := n2_; have GE351 := n3_; clear n0_ n1_ n2_ n3_; clear hb hbox hg) | ((with_reducible refine gate_dst (N := 3) rfl ?_); refine box_event ?hg (N := 3) ?hd (cs := #[.string a1_0, .int .i64 a1_1, .int .i64 a1_2, .int .i64 a1_3, .int .i64 a1_4, .slice A1_5 l1_5.length c1_5, .int .i64 a1_6, .int .i64 a1_7, .slice A1_8 l1_8.length c1_8, .slice A1_9 l1_9.length c1_9, .slice A1_10 l1_10.length c1_10]) (t := 43) ?hr ?_; (case hd => rfl); (case hg => rfl); (case hr => first | (go_simp; done) | (go_simp; rfl)); intro gb352 hg w74 hbox hb; have n0_ := Aside0.mk (blk_below (bk_ BK351) hb); have n1_ := Aside0.mk (below_step bl_ hb); have n2_ := Aside0.mk (hbox); have n3_ := gw_ (w := w) hg; have n4_ := gw_ (w := w) hg; have n5_ := Aside0.mk ((by rw [hg]; exact Nat.ne_of_lt (blk_lt (bk_ BK351)) : gb351 ≠ gb352)); have n6_ := Aside0.mk ((by rw [hg]; exact Nat.ne_of_gt (blk_lt (bk_ BK351)) : gb352 ≠ gb351)); clear BK351; clear HB; have BK351 := n0_; have HB := n1_; have BK352 := n2_; have GW352 := n3_; have GE352 := n4_; have NB351_352 := n5_; have NB352_351 := n6_; clear n0_ n1_ n2_ n3_ n4_ n5_ n6_; clear hb hbox hg; have hnb75 := NB351_352.out; have hnc75 := NB352_351.out; have hcz76_0 := cz_ BK351 0 (.string a0_0); have hcz76_1 := cz_ BK351 1 (.int .i64 a0_1); have hcz76_2 := cz_ BK351 2 (.int .i64 a0_2); have hcz76_3 := cz_ BK351 3 (.int .i64 a0_3); have hcz76_4 := cz_ BK351 4 (.int .i64 a0_4); have hcz76_5 := cz_ BK351 5 (.slice A0_5 l0_5.length c0_5); have hcz76_6 := cz_ BK351 6 (.int .i64 a0_6); have hcz76_7 := cz_ BK351 7 (.int .i64 a0_7); have hcz76_8 := cz_ BK351 8 (.slice A0_8 l0_8.length c0_8); have hcz76_9 := cz_ BK351 9 (.slice A0_9 l0_9.length c0_9); have hcz76_10 := cz_ BK351 10 (.slice A0_10 l0_10.length c0_10); have hfz76_0 := fz_ BK351 0; have hfz76_1 := fz_ BK351 1; have hfz76_2 := fz_ BK351 2; have hfz76_3 := fz_ BK351 3; have hfz76_4 := fz_ BK351 4; have hfz76_5 := fz_ BK351 5; have hfz76_6 := fz_ BK351 6; have hfz76_7 := fz_ BK351 7; have hfz76_8 := fz_ BK351 8; have hfz76_9 := fz_ BK351 9; have hfz76_10 := fz_ BK351 10; have hcz77_0 := cz_ BK352 0 (.string a1_0); have hcz77_1 := cz_ BK352 1 (.int .i64 a1_1); have hcz77_2 := cz_ BK352 2 (.int .i64 a1_2); have hcz77_3 := cz_ BK352 3 (.int .i64 a1_3); have hcz77_4 := cz_ BK352 4 (.int .i64 a1_4); have hcz77_5 := cz_ BK352 5 (.slice A1_5 l1_5.length c1_5); have hcz77_6 := cz_ BK352 6 (.int .i64 a1_6); have hcz77_7 := cz_ BK352 7 (.int .i64 a1_7); have hcz77_8 := cz_ BK352 8 (.slice A1_8 l1_8.length c1_8); have hcz77_9 := cz_ BK352 9 (.slice A1_9 l1_9.length c1_9); have hcz77_10 := cz_ BK352 10 (.slice A1_10 l1_10.length c1_10); have hfz77_0 := fz_ BK352 0; have hfz77_1 := fz_ BK352 1; have hfz77_2 := fz_ BK352 2; have hfz77_3 := fz_ BK352 3; have hfz77_4 := fz_ BK352 4; have hfz77_5 := fz_ BK352 5; have hfz77_6 := fz_ BK352 6; have hfz77_7 := fz_ BK352 7; have hfz77_8 := fz_ BK352 8; have hfz77_9 := fz_ BK352 9; have hfz77_10 := fz_ BK352 10))
  go_ret
  exact ⟨sq_, bl_⟩

end Go.Proofs.Ytepjnalkpfnmcaa.QFnExactRoom
