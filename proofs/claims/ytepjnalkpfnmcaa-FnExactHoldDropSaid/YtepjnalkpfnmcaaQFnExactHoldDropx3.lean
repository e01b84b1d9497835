-- by my own printer (myprint.py, over the kit's print.py)
import Derived.Test.YtepjnalkpfnmcaaQFnExactHoldDropx0
import Derived.Test.YtepjnalkpfnmcaaQFnExactHoldDropx1
import Derived.Test.YtepjnalkpfnmcaaQFnExactHoldDropx2
namespace Go.Proofs.Ytepjnalkpfnmcaa.QFnExactHoldDrop
open Go.RowKit Go.Proofs.YtepjnalkpfnmcaaW.PrintWords Go.Proofs.YtepjnalkpfnmcaaW.PrintLast Go.Proofs.YtepjnalkpfnmcaaW.PrintMore
attribute [local go_sem] max2_int min2_int max_two min_two max_three min_three max_four min_four   -- for this text's walks alone
set_option linter.unusedVariables false
set_option linter.unusedSimpArgs false

attribute [local go_sem] my_geq my_leq my_gtr
abbrev tb8_0_3 : Array Bool := #[b0, b0, b0, b0, b0, b0, b0, b0]
abbrev tb8_1_3 : Array Bool := #[b1, b0, b0, b0, b0, b0, b0, b0]
abbrev tb8_2f_3 : Array Bool := #[b1, b1, b1, b1, b0, b1, b0, b0]
abbrev tb8_3_3 : Array Bool := #[b1, b1, b0, b0, b0, b0, b0, b0]
abbrev tb8_3f_3 : Array Bool := #[b1, b1, b1, b1, b1, b1, b0, b0]
abbrev tb8_7_3 : Array Bool := #[b1, b1, b1, b0, b0, b0, b0, b0]
abbrev tb8_7f_3 : Array Bool := #[b1, b1, b1, b1, b1, b1, b1, b0]
abbrev tb8_f_3 : Array Bool := #[b1, b1, b1, b1, b0, b0, b0, b0]
abbrev tb8_ff_3 : Array Bool := #[b1, b1, b1, b1, b1, b1, b1, b1]
/-! ### laws_heldHoldS: function 21 -/
def laws_heldHoldS.l0 : Nat → List (S93) → Int → Int → Option (Int)
 | 0, _, _, _ => none
 | k + 1, x0, x1, x5 => if x5 < (x0.length : Int) then (if 0 ≤ x5 then ((laws_markText.f k x1).bind fun t143 => (if ((rd_T93 x0 x5).f0).toList = t143.toList then (if ((rd_T93 x0 x5).f1) = (wrap64 (x1 + 1)) then (if ((rd_T93 x0 x5).f2) = (wrap64 ((wrap64 (x1 + 1)) + 1)) then (laws_heldHoldS.l0 k x0 (wrap64 ((wrap64 ((wrap64 (x1 + 1)) + 1)) + 1)) (wrap64 (x5 + 1))) else (some (-1))) else (some (-1))) else (some (-1)))) else (none)) else (some x1)
def laws_heldHoldS.f (k : Nat) (l0 : List (S93)) (a1 : Int) : Option (Int) := laws_heldHoldS.l0 k l0 a1 0
theorem laws_heldHoldS.mono_l : ∀ k, (∀ y0 y1 y2, LeO (laws_heldHoldS.l0 k y0 y1 y2) (laws_heldHoldS.l0 (k + 1) y0 y1 y2))
 | 0 => fun _ _ _ r h => by simp [laws_heldHoldS.l0] at h
 | k + 1 => by
  have ih0 := laws_heldHoldS.mono_l k
  ·intro y0 y1 y2
   unfold laws_heldHoldS.l0
   repeat' first
   | (with_reducible exact ih0 _ _ _)
   | (with_reducible exact laws_markText.mono _ _)
   | (with_reducible exact LeO.refl _)
   | (with_reducible exact LeO.none _)
   | (with_reducible refine LeO.ite ?_ ?_)
   | (with_reducible refine LeO.bind ?_ (fun _ => ?_))
   | exact ih0 _ _ _
   | exact laws_markText.mono _ _
   | exact LeO.none _
   | refine LeO.ite ?_ ?_
   | refine LeO.bind ?_ (fun _ => ?_)
theorem laws_heldHoldS.mono : ∀ a0 a1 k, LeO (laws_heldHoldS.f k a0 a1) (laws_heldHoldS.f (k + 1) a0 a1) := by
 intro a0 a1 k
 have ih0 := laws_heldHoldS.mono_l k
 unfold laws_heldHoldS.f
 repeat' first
   | (with_reducible exact ih0 _ _ _)
   | (with_reducible exact laws_markText.mono _ _)
   | (with_reducible exact LeO.refl _)
   | (with_reducible exact LeO.none _)
   | (with_reducible refine LeO.ite ?_ ?_)
   | (with_reducible refine LeO.bind ?_ (fun _ => ?_))
   | exact ih0 _ _ _
   | exact laws_markText.mono _ _
   | exact LeO.none _
   | refine LeO.ite ?_ ?_
   | refine LeO.bind ?_ (fun _ => ?_)
def laws_heldHoldS.T4 : Bool × List (List Nat × List Nat) := (true, [([], []), ([], []), ([0, 1], [0, 1]), ([2], [2]), ([3], [3]), ([], []), ([5], [5]), ([4, 6], [4, 6])])
def laws_heldHoldS.B4 : List Nat := [0, 0, 3, 7, 15, 0, 32, 127]
theorem laws_heldHoldS.tab4 : rtab .any (opsOf Try.f21 4) = laws_heldHoldS.T4 := by kernel_rfl
theorem laws_heldHoldS.bits4 : waitsOk laws_heldHoldS.T4.2 laws_heldHoldS.B4 = true := by kernel_rfl
set_option maxHeartbeats 8000000 in
set_option maxRecDepth 100000 in
theorem laws_heldHoldS.calls (k : Nat) (A0 : Option Addr) (c0 : Nat) (l0 : List (S93)) (a1 : Int) (r : Int) (w : World) (hr0 : Kd.C k93 w A0 l0.length l0) (hc0 : l0.length ≤ c0) (h : laws_heldHoldS.f k l0 a1 = some r) :
  Calls Try.prog 21 #[.slice A0 l0.length c0, .int .i64 a1] w fun e w' => e = .returned (.int .i64 r) ∧ Below w.heap.size w w' := by
 have HR0 := Aside0.mk hr0
 have HC0 := Aside0.mk hc0
 clear hr0 hc0
 have HB := Aside0.mk (Below.refl w.heap.size w)
 have H : (laws_heldHoldS.l0 k l0 a1 0) = some r := h
 clear h
 have H' := Aside0.mk H
 clear H
 go_enter Try.func21, Try.ntmps21
 go_wp2
 go_loopg [1, 5] k (fun kq v1 v5 w' => ∃ (x1_1 : Int) (x5_1 : Int), v1 = .int .i64 x1_1 ∧ v5 = .int .i64 x5_1 ∧ Aside0 (laws_heldHoldS.l0 kq l0 x1_1 x5_1 = some r) ∧ Aside0 (kq ≤ k) ∧ Aside0 (Below w.heap.size w w'))
 case atStart => exact ⟨(a1), (0), sp_, sp_, H', ⟨Nat.le_refl _⟩, ⟨bl_⟩⟩
 case round =>
  clear H'
  try clear c2
  try clear p2
  obtain ⟨x1_1, x5_1, rfl, rfl, HA, HK1, HB⟩ := hrel
  cases gk with
  | zero => exact absurd HA.out (by simp [laws_heldHoldS.l0])
  | succ k1 =>
   have H := HA.out
   clear HA
   simp only [laws_heldHoldS.l0] at H
   by_cases c3 : x5_1 < (l0.length : Int)
   ·rw [if_pos c3] at H
    have c3b0 : decide (x5_1 < (l0.length : Int)) = true := decide_eq_true c3
    clear c3
    by_cases c4 : 0 ≤ x5_1
    ·rw [if_pos c4] at H
     have c4b0 : decide (0 ≤ x5_1) = true := decide_eq_true c4
     clear c4
     replace H := Option.bind_eq_some_iff.mp H
     obtain ⟨t143, A50, H⟩ := H
     replace H : (if ((rd_T93 l0 x5_1).f0).toList = t143.toList then (if ((rd_T93 l0 x5_1).f1) = (wrap64 (x1_1 + 1)) then (if ((rd_T93 l0 x5_1).f2) = (wrap64 ((wrap64 (x1_1 + 1)) + 1)) then (laws_heldHoldS.l0 k1 l0 (wrap64 ((wrap64 ((wrap64 (x1_1 + 1)) + 1)) + 1)) (wrap64 (x5_1 + 1))) else (some (-1))) else (some (-1))) else (some (-1))) = some r := H
     have A5 := Aside0.mk A50
     clear A50
     by_cases c6 : ((rd_T93 l0 x5_1).f0).toList = t143.toList
     ·rw [if_pos c6] at H
      have c6b0 : (((rd_T93 l0 x5_1).f0).toList == t143.toList) = true := beq_iff_eq.mpr c6
      have c6b1 : (((rd_T93 l0 x5_1).f0).toList != t143.toList) = false := bne_eq_false_iff_eq.mpr c6
      clear c6
      by_cases c7 : ((rd_T93 l0 x5_1).f1) = (wrap64 (x1_1 + 1))
      ·rw [if_pos c7] at H
       have c7b0 : (((rd_T93 l0 x5_1).f1) == (wrap64 (x1_1 + 1))) = true := beq_iff_eq.mpr c7
       have c7b1 : (((rd_T93 l0 x5_1).f1) != (wrap64 (x1_1 + 1))) = false := bne_eq_false_iff_eq.mpr c7
       clear c7
       by_cases c8 : ((rd_T93 l0 x5_1).f2) = (wrap64 ((wrap64 (x1_1 + 1)) + 1))
       ·rw [if_pos c8] at H
        have c8b0 : (((rd_T93 l0 x5_1).f2) == (wrap64 ((wrap64 (x1_1 + 1)) + 1))) = true := beq_iff_eq.mpr c8
        have c8b1 : (((rd_T93 l0 x5_1).f2) != (wrap64 ((wrap64 (x1_1 + 1)) + 1))) = false := bne_eq_false_iff_eq.mpr c8
        clear c8
        have H' := Aside0.mk H
        clear H
        try go_wp2
        have n0_ := Aside0.mk (below_drew1 HB.out)
        clear HB
        have HB := n0_
        clear n0_
        have p142 : 0 ≤ (x5_1 : Int) := od_
        have q142 : x5_1 < (l0.length : Int) := od_
        obtain ⟨ad142, e142, hx142_0, hx142_1, hx142_2⟩ := at_T93 HR0.out x5_1 p142 q142
        have hw142_2 := hx142_2
        have hw142_1 := hx142_1
        have hw142_0 := hx142_0
        cases e142
        replace hx142_0 := kc_ HB hx142_0
        replace hx142_1 := kc_ HB hx142_1
        replace hx142_2 := kc_ HB hx142_2
        replace p142 := eq_true p142
        replace q142 := eq_true q142
        refine start_ (n := 8) (S := fun w' => w'.cell? (ad142.add ((x5_1).toNat * 3)) = some (.string ((rd_T93 l0 x5_1).f0)) ∧ w'.cell? ⟨(ad142.add ((x5_1).toNat * 3)).block, (ad142.add ((x5_1).toNat * 3)).off + 1, none⟩ = some (.int .i64 ((rd_T93 l0 x5_1).f1)) ∧ w'.cell? ⟨(ad142.add ((x5_1).toNat * 3)).block, (ad142.add ((x5_1).toNat * 3)).off + 2, none⟩ = some (.int .i64 ((rd_T93 l0 x5_1).f2))) (ds := []) tb8_0_3 (by kernel_rfl) rfl rfl ⟨(kc_ HB hw142_0), (kc_ HB hw142_1), (kc_ HB hw142_2)⟩ (fun hHeld => ?_); refine with_tabW laws_heldHoldS.tab4 laws_heldHoldS.bits4 (fun HT_ HW_ => ?_)
        generalize wr.drew = w9 at HB hx142_0 hx142_1 hx142_2 hHeld ⊢
        refine pl_ HT_ 0 12 tb8_1_3 ?_
        refine pl_ HT_ 1 13 tb8_3_3 ?_
        refine pl_ HT_ 2 14 tb8_7_3 ?_
        refine pl_ HT_ 3 15 tb8_f_3 ?_
        refine pl_ HT_ 5 17 tb8_2f_3 ?_
        refine take_ (i := 4) (N := some 16) (v := ?_) (a' := ?_) tb8_3f_3 rfl rfl (take_ofW HT_.out HW_.out (by kernel_rfl)) (fun _ _ _ h => h) (Or.inl ⟨by rfl, ?_⟩) hHeld ?_ ?_
        rotate_left
        ·rintro w' ⟨s0, s1, s2⟩
         go_simp
         with_reducible rfl
        rotate_left
        ·simp only [Act.put, q_]
         rfl
        refine one_ (i := 6) (N := some 18) tb8_7f_3 rfl rfl (one_of HT_.out (by kernel_rfl)) (by decide) (fun K hK => ?_)
        refine goes_ Try.func81 (by kernel_rfl) rfl #[.int .i64 x1_1] (by rfl) rfl rfl gl_ ?_
        with_reducible refine (laws_markText.calls k1 x1_1 t143 _ A5.out).mono ?_
        rintro e w10 ⟨rfl, hb⟩
        refine ⟨_, rfl, ?_⟩
        have n0_ := Aside0.mk (below_step bl_ hb)
        clear HB
        have HB := n0_
        clear n0_
        (try clear hb)
        (try clear hb2)
        (try clear hk)
        (try clear hi)
        refine hK.out _ _ ⟨(kc_ HB hw142_0), (kc_ HB hw142_1), (kc_ HB hw142_2)⟩ (fun hHeld => ?_)
        clear hK K
        refine norm_ (a' := ?_) ?_ ?_
        rotate_left
        ·show Act.put _ (some 18) _ = _
         simp only [Act.put, q_]
         rfl
        refine pl_ HT_ 7 19 tb8_ff_3 ?_
        refine done_ (done_of HT_.out (by kernel_rfl)) ?_
        have p144 : 0 ≤ (x5_1 : Int) := od_
        have q144 : x5_1 < (l0.length : Int) := od_
        obtain ⟨ad144, e144, hx144_0, hx144_1, hx144_2⟩ := at_T93 HR0.out x5_1 p144 q144
        obtain rfl : ad142 = ad144 := (by injection e144)
        replace hx144_0 := kc_ HB hx144_0
        replace hx144_1 := kc_ HB hx144_1
        replace hx144_2 := kc_ HB hx144_2
        replace p144 := eq_true p144
        replace q144 := eq_true q144
        have p145 : 0 ≤ (x5_1 : Int) := od_
        have q145 : x5_1 < (l0.length : Int) := od_
        obtain ⟨ad145, e145, hx145_0, hx145_1, hx145_2⟩ := at_T93 HR0.out x5_1 p145 q145
        obtain rfl : ad142 = ad145 := (by injection e145)
        replace hx145_0 := kc_ HB hx145_0
        replace hx145_1 := kc_ HB hx145_1
        replace hx145_2 := kc_ HB hx145_2
        replace p145 := eq_true p145
        replace q145 := eq_true q145
        try go_wp2
        go_roundg k1
        case measure => have := HK1.out; omega
        case rel => exact ⟨(wrap64 ((wrap64 ((wrap64 (x1_1 + 1)) + 1)) + 1)), (wrap64 (x5_1 + 1)), sp_, sp_, H', ⟨by have := HK1.out; omega⟩, ⟨bl_⟩⟩
       ·rw [if_neg c8] at H
        have c8b0 : (((rd_T93 l0 x5_1).f2) == (wrap64 ((wrap64 (x1_1 + 1)) + 1))) = false := beq_eq_false_iff_ne.mpr c8
        have c8b1 : (((rd_T93 l0 x5_1).f2) != (wrap64 ((wrap64 (x1_1 + 1)) + 1))) = true := bne_iff_ne.mpr c8
        obtain rfl := Option.some.inj H
        try go_wp2
        have n0_ := Aside0.mk (below_drew1 HB.out)
        clear HB
        have HB := n0_
        clear n0_
        have p142 : 0 ≤ (x5_1 : Int) := od_
        have q142 : x5_1 < (l0.length : Int) := od_
        obtain ⟨ad142, e142, hx142_0, hx142_1, hx142_2⟩ := at_T93 HR0.out x5_1 p142 q142
        have hw142_2 := hx142_2
        have hw142_1 := hx142_1
        have hw142_0 := hx142_0
        cases e142
        replace hx142_0 := kc_ HB hx142_0
        replace hx142_1 := kc_ HB hx142_1
        replace hx142_2 := kc_ HB hx142_2
        replace p142 := eq_true p142
        replace q142 := eq_true q142
        refine start_ (n := 8) (S := fun w' => w'.cell? (ad142.add ((x5_1).toNat * 3)) = some (.string ((rd_T93 l0 x5_1).f0)) ∧ w'.cell? ⟨(ad142.add ((x5_1).toNat * 3)).block, (ad142.add ((x5_1).toNat * 3)).off + 1, none⟩ = some (.int .i64 ((rd_T93 l0 x5_1).f1)) ∧ w'.cell? ⟨(ad142.add ((x5_1).toNat * 3)).block, (ad142.add ((x5_1).toNat * 3)).off + 2, none⟩ = some (.int .i64 ((rd_T93 l0 x5_1).f2))) (ds := []) tb8_0_3 (by kernel_rfl) rfl rfl ⟨(kc_ HB hw142_0), (kc_ HB hw142_1), (kc_ HB hw142_2)⟩ (fun hHeld => ?_); refine with_tabW laws_heldHoldS.tab4 laws_heldHoldS.bits4 (fun HT_ HW_ => ?_)
        generalize wr.drew = w11 at HB hx142_0 hx142_1 hx142_2 hHeld ⊢
        refine pl_ HT_ 0 12 tb8_1_3 ?_
        refine pl_ HT_ 1 13 tb8_3_3 ?_
        refine pl_ HT_ 2 14 tb8_7_3 ?_
        refine pl_ HT_ 3 15 tb8_f_3 ?_
        refine pl_ HT_ 5 17 tb8_2f_3 ?_
        refine take_ (i := 4) (N := some 16) (v := ?_) (a' := ?_) tb8_3f_3 rfl rfl (take_ofW HT_.out HW_.out (by kernel_rfl)) (fun _ _ _ h => h) (Or.inl ⟨by rfl, ?_⟩) hHeld ?_ ?_
        rotate_left
        ·rintro w' ⟨s0, s1, s2⟩
         go_simp
         with_reducible rfl
        rotate_left
        ·simp only [Act.put, q_]
         rfl
        refine one_ (i := 6) (N := some 18) tb8_7f_3 rfl rfl (one_of HT_.out (by kernel_rfl)) (by decide) (fun K hK => ?_)
        refine goes_ Try.func81 (by kernel_rfl) rfl #[.int .i64 x1_1] (by rfl) rfl rfl gl_ ?_
        with_reducible refine (laws_markText.calls k1 x1_1 t143 _ A5.out).mono ?_
        rintro e w12 ⟨rfl, hb⟩
        refine ⟨_, rfl, ?_⟩
        have n0_ := Aside0.mk (below_step bl_ hb)
        clear HB
        have HB := n0_
        clear n0_
        (try clear hb)
        (try clear hb2)
        (try clear hk)
        (try clear hi)
        refine hK.out _ _ ⟨(kc_ HB hw142_0), (kc_ HB hw142_1), (kc_ HB hw142_2)⟩ (fun hHeld => ?_)
        clear hK K
        refine norm_ (a' := ?_) ?_ ?_
        rotate_left
        ·show Act.put _ (some 18) _ = _
         simp only [Act.put, q_]
         rfl
        refine pl_ HT_ 7 19 tb8_ff_3 ?_
        refine done_ (done_of HT_.out (by kernel_rfl)) ?_
        have p144 : 0 ≤ (x5_1 : Int) := od_
        have q144 : x5_1 < (l0.length : Int) := od_
        obtain ⟨ad144, e144, hx144_0, hx144_1, hx144_2⟩ := at_T93 HR0.out x5_1 p144 q144
        obtain rfl : ad142 = ad144 := (by injection e144)
        replace hx144_0 := kc_ HB hx144_0
        replace hx144_1 := kc_ HB hx144_1
        replace hx144_2 := kc_ HB hx144_2
        replace p144 := eq_true p144
        replace q144 := eq_true q144
        have p145 : 0 ≤ (x5_1 : Int) := od_
        have q145 : x5_1 < (l0.length : Int) := od_
        obtain ⟨ad145, e145, hx145_0, hx145_1, hx145_2⟩ := at_T93 HR0.out x5_1 p145 q145
        obtain rfl : ad142 = ad145 := (by injection e145)
        replace hx145_0 := kc_ HB hx145_0
        replace hx145_1 := kc_ HB hx145_1
        replace hx145_2 := kc_ HB hx145_2
        replace p145 := eq_true p145
        replace q145 := eq_true q145
        try go_wp2
        go_ret
        exact ⟨sq_, bl_⟩
      ·rw [if_neg c7] at H
       have c7b0 : (((rd_T93 l0 x5_1).f1) == (wrap64 (x1_1 + 1))) = false := beq_eq_false_iff_ne.mpr c7
       have c7b1 : (((rd_T93 l0 x5_1).f1) != (wrap64 (x1_1 + 1))) = true := bne_iff_ne.mpr c7
       obtain rfl := Option.some.inj H
       try go_wp2
       have n0_ := Aside0.mk (below_drew1 HB.out)
       clear HB
       have HB := n0_
       clear n0_
       have p142 : 0 ≤ (x5_1 : Int) := od_
       have q142 : x5_1 < (l0.length : Int) := od_
       obtain ⟨ad142, e142, hx142_0, hx142_1, hx142_2⟩ := at_T93 HR0.out x5_1 p142 q142
       have hw142_2 := hx142_2
       have hw142_1 := hx142_1
       have hw142_0 := hx142_0
       cases e142
       replace hx142_0 := kc_ HB hx142_0
       replace hx142_1 := kc_ HB hx142_1
       replace hx142_2 := kc_ HB hx142_2
       replace p142 := eq_true p142
       replace q142 := eq_true q142
       refine start_ (n := 8) (S := fun w' => w'.cell? (ad142.add ((x5_1).toNat * 3)) = some (.string ((rd_T93 l0 x5_1).f0)) ∧ w'.cell? ⟨(ad142.add ((x5_1).toNat * 3)).block, (ad142.add ((x5_1).toNat * 3)).off + 1, none⟩ = some (.int .i64 ((rd_T93 l0 x5_1).f1)) ∧ w'.cell? ⟨(ad142.add ((x5_1).toNat * 3)).block, (ad142.add ((x5_1).toNat * 3)).off + 2, none⟩ = some (.int .i64 ((rd_T93 l0 x5_1).f2))) (ds := []) tb8_0_3 (by kernel_rfl) rfl rfl ⟨(kc_ HB hw142_0), (kc_ HB hw142_1), (kc_ HB hw142_2)⟩ (fun hHeld => ?_); refine with_tabW laws_heldHoldS.tab4 laws_heldHoldS.bits4 (fun HT_ HW_ => ?_)
       generalize wr.drew = w13 at HB hx142_0 hx142_1 hx142_2 hHeld ⊢
       refine pl_ HT_ 0 12 tb8_1_3 ?_
       refine pl_ HT_ 1 13 tb8_3_3 ?_
       refine pl_ HT_ 2 14 tb8_7_3 ?_
       refine pl_ HT_ 3 15 tb8_f_3 ?_
       refine pl_ HT_ 5 17 tb8_2f_3 ?_
       refine take_ (i := 4) (N := some 16) (v := ?_) (a' := ?_) tb8_3f_3 rfl rfl (take_ofW HT_.out HW_.out (by kernel_rfl)) (fun _ _ _ h => h) (Or.inl ⟨by rfl, ?_⟩) hHeld ?_ ?_
       rotate_left
       ·rintro w' ⟨s0, s1, s2⟩
        go_simp
        with_reducible rfl
       rotate_left
       ·simp only [Act.put, q_]
        rfl
       refine one_ (i := 6) (N := some 18) tb8_7f_3 rfl rfl (one_of HT_.out (by kernel_rfl)) (by decide) (fun K hK => ?_)
       refine goes_ Try.func81 (by kernel_rfl) rfl #[.int .i64 x1_1] (by rfl) rfl rfl gl_ ?_
       with_reducible refine (laws_markText.calls k1 x1_1 t143 _ A5.out).mono ?_
       rintro e w14 ⟨rfl, hb⟩
       refine ⟨_, rfl, ?_⟩
       have n0_ := Aside0.mk (below_step bl_ hb)
       clear HB
       have HB := n0_
       clear n0_
       (try clear hb)
       (try clear hb2)
       (try clear hk)
       (try clear hi)
       refine hK.out _ _ ⟨(kc_ HB hw142_0), (kc_ HB hw142_1), (kc_ HB hw142_2)⟩ (fun hHeld => ?_)
       clear hK K
       refine norm_ (a' := ?_) ?_ ?_
       rotate_left
       ·show Act.put _ (some 18) _ = _
        simp only [Act.put, q_]
        rfl
       refine pl_ HT_ 7 19 tb8_ff_3 ?_
       refine done_ (done_of HT_.out (by kernel_rfl)) ?_
       have p144 : 0 ≤ (x5_1 : Int) := od_
       have q144 : x5_1 < (l0.length : Int) := od_
       obtain ⟨ad144, e144, hx144_0, hx144_1, hx144_2⟩ := at_T93 HR0.out x5_1 p144 q144
       obtain rfl : ad142 = ad144 := (by injection e144)
       replace hx144_0 := kc_ HB hx144_0
       replace hx144_1 := kc_ HB hx144_1
       replace hx144_2 := kc_ HB hx144_2
       replace p144 := eq_true p144
       replace q144 := eq_true q144
       try go_wp2
       go_ret
       exact ⟨sq_, bl_⟩
     ·rw [if_neg c6] at H
      have c6b0 : (((rd_T93 l0 x5_1).f0).toList == t143.toList) = false := beq_eq_false_iff_ne.mpr c6
      have c6b1 : (((rd_T93 l0 x5_1).f0).toList != t143.toList) = true := bne_iff_ne.mpr c6
      obtain rfl := Option.some.inj H
      try go_wp2
      have n0_ := Aside0.mk (below_drew1 HB.out)
      clear HB
      have HB := n0_
      clear n0_
      have p142 : 0 ≤ (x5_1 : Int) := od_
      have q142 : x5_1 < (l0.length : Int) := od_
      obtain ⟨ad142, e142, hx142_0, hx142_1, hx142_2⟩ := at_T93 HR0.out x5_1 p142 q142
      have hw142_2 := hx142_2
      have hw142_1 := hx142_1
      have hw142_0 := hx142_0
      cases e142
      replace hx142_0 := kc_ HB hx142_0
      replace hx142_1 := kc_ HB hx142_1
      replace hx142_2 := kc_ HB hx142_2
      replace p142 := eq_true p142
      replace q142 := eq_true q142
      refine start_ (n := 8) (S := fun w' => w'.cell? (ad142.add ((x5_1).toNat * 3)) = some (.string ((rd_T93 l0 x5_1).f0)) ∧ w'.cell? ⟨(ad142.add ((x5_1).toNat * 3)).block, (ad142.add ((x5_1).toNat * 3)).off + 1, none⟩ = some (.int .i64 ((rd_T93 l0 x5_1).f1)) ∧ w'.cell? ⟨(ad142.add ((x5_1).toNat * 3)).block, (ad142.add ((x5_1).toNat * 3)).off + 2, none⟩ = some (.int .i64 ((rd_T93 l0 x5_1).f2))) (ds := []) tb8_0_3 (by kernel_rfl) rfl rfl ⟨(kc_ HB hw142_0), (kc_ HB hw142_1), (kc_ HB hw142_2)⟩ (fun hHeld => ?_); refine with_tabW laws_heldHoldS.tab4 laws_heldHoldS.bits4 (fun HT_ HW_ => ?_)
      generalize wr.drew = w15 at HB hx142_0 hx142_1 hx142_2 hHeld ⊢
      refine pl_ HT_ 0 12 tb8_1_3 ?_
      refine pl_ HT_ 1 13 tb8_3_3 ?_
      refine pl_ HT_ 2 14 tb8_7_3 ?_
      refine pl_ HT_ 3 15 tb8_f_3 ?_
      refine pl_ HT_ 5 17 tb8_2f_3 ?_
      refine take_ (i := 4) (N := some 16) (v := ?_) (a' := ?_) tb8_3f_3 rfl rfl (take_ofW HT_.out HW_.out (by kernel_rfl)) (fun _ _ _ h => h) (Or.inl ⟨by rfl, ?_⟩) hHeld ?_ ?_
      rotate_left
      ·rintro w' ⟨s0, s1, s2⟩
       go_simp
       with_reducible rfl
      rotate_left
      ·simp only [Act.put, q_]
       rfl
      refine one_ (i := 6) (N := some 18) tb8_7f_3 rfl rfl (one_of HT_.out (by kernel_rfl)) (by decide) (fun K hK => ?_)
      refine goes_ Try.func81 (by kernel_rfl) rfl #[.int .i64 x1_1] (by rfl) rfl rfl gl_ ?_
      with_reducible refine (laws_markText.calls k1 x1_1 t143 _ A5.out).mono ?_
      rintro e w16 ⟨rfl, hb⟩
      refine ⟨_, rfl, ?_⟩
      have n0_ := Aside0.mk (below_step bl_ hb)
      clear HB
      have HB := n0_
      clear n0_
      (try clear hb)
      (try clear hb2)
      (try clear hk)
      (try clear hi)
      refine hK.out _ _ ⟨(kc_ HB hw142_0), (kc_ HB hw142_1), (kc_ HB hw142_2)⟩ (fun hHeld => ?_)
      clear hK K
      refine norm_ (a' := ?_) ?_ ?_
      rotate_left
      ·show Act.put _ (some 18) _ = _
       simp only [Act.put, q_]
       rfl
      refine pl_ HT_ 7 19 tb8_ff_3 ?_
      refine done_ (done_of HT_.out (by kernel_rfl)) ?_
      try go_wp2
      go_ret
      exact ⟨sq_, bl_⟩
    ·rw [if_neg c4] at H
     exact absurd H (by simp)
   ·rw [if_neg c3] at H
    have c3b0 : decide (x5_1 < (l0.length : Int)) = false := decide_eq_false c3
    clear c3
    obtain rfl := Option.some.inj H
    go_wp2
    go_ret
    exact ⟨sq_, bl_⟩

/-! ### laws_FnExactHoldDrop: function 3 -/
def laws_FnExactHoldDrop.j0 : Nat → List (S89) → ByteArray → List (S93) → List (S93) → Bool → Option (Bool)
 | 0, _, _, _, _, _ => none
 | k + 1, x0, x1, x6, x8, x49 => if x49 = true then (some false) else ((laws_markHoldS.f k x8 1).bind fun bt167 => ((laws_heldHoldS.f k bt167.2 1).bind fun t169 => (if t169 < 0 then (some false) else (if t169 = bt167.1 then ((laws_toHoldS.f k x0).bind fun t170 => ((impl_HoldDrop.f t170 x1).bind fun t173 => ((laws_eqHoldS.f k t173 x6).bind fun t176 => (if t176 = true then ((laws_heldHoldS.f k bt167.2 1).bind fun t177 => (if t177 < 0 then (some false) else (if t177 = bt167.1 then (some true) else (some false)))) else (some false))))) else (some false)))))
def laws_FnExactHoldDrop.f (k : Nat) (l0 : List (S89)) (a1 : ByteArray) : Option (Bool) := if (a1.size : Int) > 1048576 then (some true) else ((laws_szHoldS.f k l0 1048576).bind fun t146 => (if t146 < 0 then (some true) else ((laws_toHoldS.f k l0).bind fun t147 => ((spec_HoldDrop.f k t147 a1).bind fun t150 => ((laws_toHoldS.f k l0).bind fun t153 => ((impl_HoldDrop.f t153 a1).bind fun t156 => ((laws_eqHoldS.f k t156 t150).bind fun t159 => (if t159 = true then ((laws_toHoldS.f k l0).bind fun t160 => ((laws_eqHoldS.f k t153 t160).bind fun t163 => (if t163 = true then ((laws_markHoldS.f k t153 1).bind fun bt164 => (if bt164.1 < 0 then (laws_FnExactHoldDrop.j0 k l0 a1 t150 t156 true) else ((laws_eqHoldS.f k t156 t150).bind fun t166 => (laws_FnExactHoldDrop.j0 k l0 a1 t150 t156 (!t166))))) else (some false)))) else (some false)))))))))
theorem laws_FnExactHoldDrop.mono_l : ∀ k, (∀ y0 y1 y2 y3 y4, LeO (laws_FnExactHoldDrop.j0 k y0 y1 y2 y3 y4) (laws_FnExactHoldDrop.j0 (k + 1) y0 y1 y2 y3 y4))
 | 0 => fun _ _ _ _ _ r h => by simp [laws_FnExactHoldDrop.j0] at h
 | k + 1 => by
  have ih0 := laws_FnExactHoldDrop.mono_l k
  ·intro y0 y1 y2 y3 y4
   unfold laws_FnExactHoldDrop.j0
   repeat' first
   | (with_reducible exact ih0 _ _ _ _ _)
   | (with_reducible exact laws_eqHoldS.mono _ _ _)
   | (with_reducible exact laws_heldHoldS.mono _ _ _)
   | (with_reducible exact laws_markHoldS.mono _ _ _)
   | (with_reducible exact laws_szHoldS.mono _ _ _)
   | (with_reducible exact laws_toHoldS.mono _ _)
   | (with_reducible exact spec_HoldDrop.mono _ _ _)
   | (with_reducible exact LeO.refl _)
   | (with_reducible exact LeO.none _)
   | (with_reducible refine LeO.ite ?_ ?_)
   | (with_reducible refine LeO.bind ?_ (fun _ => ?_))
   | exact ih0 _ _ _ _ _
   | exact laws_eqHoldS.mono _ _ _
   | exact laws_heldHoldS.mono _ _ _
   | exact laws_markHoldS.mono _ _ _
   | exact laws_szHoldS.mono _ _ _
   | exact laws_toHoldS.mono _ _
   | exact spec_HoldDrop.mono _ _ _
   | exact LeO.none _
   | refine LeO.ite ?_ ?_
   | refine LeO.bind ?_ (fun _ => ?_)
theorem laws_FnExactHoldDrop.mono : ∀ a0 a1 k, LeO (laws_FnExactHoldDrop.f k a0 a1) (laws_FnExactHoldDrop.f (k + 1) a0 a1) := by
 intro a0 a1 k
 have ih0 := laws_FnExactHoldDrop.mono_l k
 unfold laws_FnExactHoldDrop.f
 repeat' first
   | (with_reducible exact ih0 _ _ _ _ _)
   | (with_reducible exact laws_eqHoldS.mono _ _ _)
   | (with_reducible exact laws_heldHoldS.mono _ _ _)
   | (with_reducible exact laws_markHoldS.mono _ _ _)
   | (with_reducible exact laws_szHoldS.mono _ _ _)
   | (with_reducible exact laws_toHoldS.mono _ _)
   | (with_reducible exact spec_HoldDrop.mono _ _ _)
   | (with_reducible exact LeO.refl _)
   | (with_reducible exact LeO.none _)
   | (with_reducible refine LeO.ite ?_ ?_)
   | (with_reducible refine LeO.bind ?_ (fun _ => ?_))
   | exact ih0 _ _ _ _ _
   | exact laws_eqHoldS.mono _ _ _
   | exact laws_heldHoldS.mono _ _ _
   | exact laws_markHoldS.mono _ _ _
   | exact laws_szHoldS.mono _ _ _
   | exact laws_toHoldS.mono _ _
   | exact spec_HoldDrop.mono _ _ _
   | exact LeO.none _
   | refine LeO.ite ?_ ?_
   | refine LeO.bind ?_ (fun _ => ?_)
set_option maxHeartbeats 8000000 in
set_option maxRecDepth 100000 in
theorem laws_FnExactHoldDrop.calls (k : Nat) (A0 : Option Addr) (c0 : Nat) (l0 : List (S89)) (a1 : ByteArray) (r : Bool) (w : World) (hr0 : Kd.C k89 w A0 l0.length l0) (hc0 : l0.length ≤ c0) (h : laws_FnExactHoldDrop.f k l0 a1 = some true) :
  Calls Try.prog 3 #[.slice A0 l0.length c0, .string a1] w fun e w' => e = .returned (.bool true) ∧ Below w.heap.size w w' := by
 have HR0 := Aside0.mk hr0
 have HC0 := Aside0.mk hc0
 clear hr0 hc0
 have HB := Aside0.mk (Below.refl w.heap.size w)
 have H : (if (a1.size : Int) > 1048576 then (some true) else ((laws_szHoldS.f k l0 1048576).bind fun t146 => (if t146 < 0 then (some true) else ((laws_toHoldS.f k l0).bind fun t147 => ((spec_HoldDrop.f k t147 a1).bind fun t150 => ((laws_toHoldS.f k l0).bind fun t153 => ((impl_HoldDrop.f t153 a1).bind fun t156 => ((laws_eqHoldS.f k t156 t150).bind fun t159 => (if t159 = true then ((laws_toHoldS.f k l0).bind fun t160 => ((laws_eqHoldS.f k t153 t160).bind fun t163 => (if t163 = true then ((laws_markHoldS.f k t153 1).bind fun bt164 => (if bt164.1 < 0 then (laws_FnExactHoldDrop.j0 k l0 a1 t150 t156 true) else ((laws_eqHoldS.f k t156 t150).bind fun t166 => (laws_FnExactHoldDrop.j0 k l0 a1 t150 t156 (!t166))))) else (some false)))) else (some false)))))))))) = some true := h
 clear h
 by_cases c3 : (a1.size : Int) > 1048576
 ·rw [if_pos c3] at H
  have c3b0 : decide (1048576 < (a1.size : Int)) = true := decide_eq_true c3
  have c3b1 : decide (1048576 < a1.size) = true := decide_eq_true (by omega)
  clear c3
  clear H
  go_enter Try.func3, Try.ntmps3
  go_wp2
  go_ret
  exact ⟨sq_, bl_⟩
 ·rw [if_neg c3] at H
  have c3b0 : decide (1048576 < (a1.size : Int)) = false := decide_eq_false c3
  have c3b1 : decide (1048576 < a1.size) = false := decide_eq_false (by omega)
  clear c3
  replace H := Option.bind_eq_some_iff.mp H
  obtain ⟨t146, A40, H⟩ := H
  replace H : (if t146 < 0 then (some true) else ((laws_toHoldS.f k l0).bind fun t147 => ((spec_HoldDrop.f k t147 a1).bind fun t150 => ((laws_toHoldS.f k l0).bind fun t153 => ((impl_HoldDrop.f t153 a1).bind fun t156 => ((laws_eqHoldS.f k t156 t150).bind fun t159 => (if t159 = true then ((laws_toHoldS.f k l0).bind fun t160 => ((laws_eqHoldS.f k t153 t160).bind fun t163 => (if t163 = true then ((laws_markHoldS.f k t153 1).bind fun bt164 => (if bt164.1 < 0 then (laws_FnExactHoldDrop.j0 k l0 a1 t150 t156 true) else ((laws_eqHoldS.f k t156 t150).bind fun t166 => (laws_FnExactHoldDrop.j0 k l0 a1 t150 t156 (!t166))))) else (some false)))) else (some false)))))))) = some true := H
  have A4 := Aside0.mk A40
  clear A40
  by_cases c5 : t146 < 0
  ·rw [if_pos c5] at H
   have c5b0 : decide (t146 < 0) = true := decide_eq_true c5
   clear c5
   clear H
   go_enter Try.func3, Try.ntmps3
   go_wp2_with (first | ((with_reducible refine gate_callee (f := 15) rfl ?_); refine goesL_ (some 18) rfl rfl Try.func15 (by kernel_rfl) rfl #[.slice A0 l0.length c0, .int .i64 1048576] rfl gl_ ?_; (with_reducible refine (laws_szHoldS.calls k _ _ l0 1048576 t146 _ ?side1 ?side2 A4.out).mono ?_); (case side1 => exact ca_ (HR0.out)); (case side2 => exact HC0.out); rintro e w6 ⟨rfl, hb⟩; refine ⟨_, rfl, ?_⟩; have n0_ := Aside0.mk (below_step bl_ hb); clear HB; have HB := n0_; clear n0_; (try clear hb); (try clear hb2); (try clear hk); (try clear hi)))
   go_ret
   exact ⟨sq_, bl_⟩
  ·rw [if_neg c5] at H
   have c5b0 : decide (t146 < 0) = false := decide_eq_false c5
   clear c5
   replace H := Option.bind_eq_some_iff.mp H
   obtain ⟨t147, A70, H⟩ := H
   replace H : ((spec_HoldDrop.f k t147 a1).bind fun t150 => ((laws_toHoldS.f k l0).bind fun t153 => ((impl_HoldDrop.f t153 a1).bind fun t156 => ((laws_eqHoldS.f k t156 t150).bind fun t159 => (if t159 = true then ((laws_toHoldS.f k l0).bind fun t160 => ((laws_eqHoldS.f k t153 t160).bind fun t163 => (if t163 = true then ((laws_markHoldS.f k t153 1).bind fun bt164 => (if bt164.1 < 0 then (laws_FnExactHoldDrop.j0 k l0 a1 t150 t156 true) else ((laws_eqHoldS.f k t156 t150).bind fun t166 => (laws_FnExactHoldDrop.j0 k l0 a1 t150 t156 (!t166))))) else (some false)))) else (some false)))))) = some true := H
   have A7 := Aside0.mk A70
   clear A70
   replace H := Option.bind_eq_some_iff.mp H
   obtain ⟨t150, A80, H⟩ := H
   replace H : ((laws_toHoldS.f k l0).bind fun t153 => ((impl_HoldDrop.f t153 a1).bind fun t156 => ((laws_eqHoldS.f k t156 t150).bind fun t159 => (if t159 = true then ((laws_toHoldS.f k l0).bind fun t160 => ((laws_eqHoldS.f k t153 t160).bind fun t163 => (if t163 = true then ((laws_markHoldS.f k t153 1).bind fun bt164 => (if bt164.1 < 0 then (laws_FnExactHoldDrop.j0 k l0 a1 t150 t156 true) else ((laws_eqHoldS.f k t156 t150).bind fun t166 => (laws_FnExactHoldDrop.j0 k l0 a1 t150 t156 (!t166))))) else (some false)))) else (some false))))) = some true := H
   have A8 := Aside0.mk A80
   clear A80
   replace H := Option.bind_eq_some_iff.mp H
   obtain ⟨t153, A90, H⟩ := H
   replace H : ((impl_HoldDrop.f t153 a1).bind fun t156 => ((laws_eqHoldS.f k t156 t150).bind fun t159 => (if t159 = true then ((laws_toHoldS.f k l0).bind fun t160 => ((laws_eqHoldS.f k t153 t160).bind fun t163 => (if t163 = true then ((laws_markHoldS.f k t153 1).bind fun bt164 => (if bt164.1 < 0 then (laws_FnExactHoldDrop.j0 k l0 a1 t150 t156 true) else ((laws_eqHoldS.f k t156 t150).bind fun t166 => (laws_FnExactHoldDrop.j0 k l0 a1 t150 t156 (!t166))))) else (some false)))) else (some false)))) = some true := H
   have A9 := Aside0.mk A90
   clear A90
   replace H := Option.bind_eq_some_iff.mp H
   obtain ⟨t156, A100, H⟩ := H
   replace H : ((laws_eqHoldS.f k t156 t150).bind fun t159 => (if t159 = true then ((laws_toHoldS.f k l0).bind fun t160 => ((laws_eqHoldS.f k t153 t160).bind fun t163 => (if t163 = true then ((laws_markHoldS.f k t153 1).bind fun bt164 => (if bt164.1 < 0 then (laws_FnExactHoldDrop.j0 k l0 a1 t150 t156 true) else ((laws_eqHoldS.f k t156 t150).bind fun t166 => (laws_FnExactHoldDrop.j0 k l0 a1 t150 t156 (!t166))))) else (some false)))) else (some false))) = some true := H
   have A10 := Aside0.mk A100
   clear A100
   replace H := Option.bind_eq_some_iff.mp H
   obtain ⟨t159, A110, H⟩ := H
   replace H : (if t159 = true then ((laws_toHoldS.f k l0).bind fun t160 => ((laws_eqHoldS.f k t153 t160).bind fun t163 => (if t163 = true then ((laws_markHoldS.f k t153 1).bind fun bt164 => (if bt164.1 < 0 then (laws_FnExactHoldDrop.j0 k l0 a1 t150 t156 true) else ((laws_eqHoldS.f k t156 t150).bind fun t166 => (laws_FnExactHoldDrop.j0 k l0 a1 t150 t156 (!t166))))) else (some false)))) else (some false)) = some true := H
   have A11 := Aside0.mk A110
   clear A110
   by_cases c12 : t159 = true
   ·subst c12
    have H1 : ((laws_toHoldS.f k l0).bind fun t160 => ((laws_eqHoldS.f k t153 t160).bind fun t163 => (if t163 = true then ((laws_markHoldS.f k t153 1).bind fun bt164 => (if bt164.1 < 0 then (laws_FnExactHoldDrop.j0 k l0 a1 t150 t156 true) else ((laws_eqHoldS.f k t156 t150).bind fun t166 => (laws_FnExactHoldDrop.j0 k l0 a1 t150 t156 (!t166))))) else (some false)))) = some true := by rw [if_pos rfl] at H; exact H
    clear H
    have H := H1
    clear H1
    replace H := Option.bind_eq_some_iff.mp H
    obtain ⟨t160, A130, H⟩ := H
    replace H : ((laws_eqHoldS.f k t153 t160).bind fun t163 => (if t163 = true then ((laws_markHoldS.f k t153 1).bind fun bt164 => (if bt164.1 < 0 then (laws_FnExactHoldDrop.j0 k l0 a1 t150 t156 true) else ((laws_eqHoldS.f k t156 t150).bind fun t166 => (laws_FnExactHoldDrop.j0 k l0 a1 t150 t156 (!t166))))) else (some false))) = some true := H
    have A13 := Aside0.mk A130
    clear A130
    replace H := Option.bind_eq_some_iff.mp H
    obtain ⟨t163, A140, H⟩ := H
    replace H : (if t163 = true then ((laws_markHoldS.f k t153 1).bind fun bt164 => (if bt164.1 < 0 then (laws_FnExactHoldDrop.j0 k l0 a1 t150 t156 true) else ((laws_eqHoldS.f k t156 t150).bind fun t166 => (laws_FnExactHoldDrop.j0 k l0 a1 t150 t156 (!t166))))) else (some false)) = some true := H
    have A14 := Aside0.mk A140
    clear A140
    by_cases c15 : t163 = true
    ·subst c15
     have H1 : ((laws_markHoldS.f k t153 1).bind fun bt164 => (if bt164.1 < 0 then (laws_FnExactHoldDrop.j0 k l0 a1 t150 t156 true) else ((laws_eqHoldS.f k t156 t150).bind fun t166 => (laws_FnExactHoldDrop.j0 k l0 a1 t150 t156 (!t166))))) = some true := by rw [if_pos rfl] at H; exact H
     clear H
     have H := H1
     clear H1
     replace H := Option.bind_eq_some_iff.mp H
     obtain ⟨⟨t164, t165⟩, A160, H⟩ := H
     replace H : (if t164 < 0 then (laws_FnExactHoldDrop.j0 k l0 a1 t150 t156 true) else ((laws_eqHoldS.f k t156 t150).bind fun t166 => (laws_FnExactHoldDrop.j0 k l0 a1 t150 t156 (!t166)))) = some true := H
     have A16 := Aside0.mk A160
     clear A160
     have HC17 := Aside0.mk H
     clear H
     go_enter Try.func3, Try.ntmps3
     go_upto_region 16 with (first | ((with_reducible refine gate_callee (f := 15) rfl ?_); refine goesL_ (some 18) rfl rfl Try.func15 (by kernel_rfl) rfl #[.slice A0 l0.length c0, .int .i64 1048576] rfl gl_ ?_; (with_reducible refine (laws_szHoldS.calls k _ _ l0 1048576 t146 _ ?side1 ?side2 A4.out).mono ?_); (case side1 => exact ca_ (HR0.out)); (case side2 => exact HC0.out); rintro e w18 ⟨rfl, hb⟩; refine ⟨_, rfl, ?_⟩; have n0_ := Aside0.mk (below_step bl_ hb); clear HB; have HB := n0_; clear n0_; (try clear hb); (try clear hb2); (try clear hk); (try clear hi)) | ((with_reducible refine gate_callee (f := 17) rfl ?_); refine goesL_ (some 22) rfl rfl Try.func17 (by kernel_rfl) rfl #[.slice A0 l0.length c0] rfl gl_ ?_; (with_reducible refine (laws_toHoldS.calls k _ _ l0 t147 _ ?side1 ?side2 A7.out).mono ?_); (case side1 => exact ca_ (Kd.C_below HR0.out HB.out)); (case side2 => exact HC0.out); rintro e w19 ⟨v148, rfl, ho0, hb⟩; refine ⟨_, rfl, ?_⟩; have n0_ := Aside0.mk (Kd.R_lower ho0 (below_size bl_)); have n1_ := Aside0.mk (below_step bl_ hb); clear HB; have HO149 := n0_; have HB := n1_; clear n0_ n1_; (try clear hb); (try clear hb2); (try clear hk); (try clear hi); (try clear ho0); obtain ⟨Ao20, co20, eo20⟩ := Kd.R_slice HO149.out; subst eo20) | ((with_reducible refine gate_callee (f := 16) rfl ?_); refine goesL_ (some 24) rfl rfl Try.func16 (by kernel_rfl) rfl #[.slice Ao20 t147.length co20, .string a1] rfl gl_ ?_; (with_reducible refine (spec_HoldDrop.calls k _ _ t147 a1 t150 _ ?side1 ?side2 A8.out).mono ?_); (case side1 => exact ca_ ((Kd.R_reads' HO149.out).2.2)); (case side2 => exact (Kd.R_reads' HO149.out).2.1); rintro e w21 ⟨v151, rfl, ho0, hb⟩; refine ⟨_, rfl, ?_⟩; have n0_ := Aside0.mk (Kd.R_elder' (ra_ HO149) (Kd.R_base ho0) hb); have n1_ := Aside0.mk (Kd.R_lower (Kd.R_new' ho0 (Kd.R_lt (ra_ HO149))) (below_size bl_)); have n2_ := Aside0.mk (below_step bl_ hb); clear HO149; clear HB; have HO149 := n0_; have HO152 := n1_; have HB := n2_; clear n0_ n1_ n2_; (try clear hb); (try clear hb2); (try clear hk); (try clear hi); (try clear ho0)) | ((with_reducible refine gate_callee (f := 17) rfl ?_); refine goesL_ (some 26) rfl rfl Try.func17 (by kernel_rfl) rfl #[.slice A0 l0.length c0] rfl gl_ ?_; (with_reducible refine (laws_toHoldS.calls k _ _ l0 t153 _ ?side1 ?side2 A9.out).mono ?_); (case side1 => exact ca_ (Kd.C_below HR0.out HB.out)); (case side2 => exact HC0.out); rintro e w22 ⟨v154, rfl, ho0, hb⟩; refine ⟨_, rfl, ?_⟩; have n0_ := Aside0.mk (Kd.R_elder' (ra_ HO149) (Kd.R_base ho0) hb); have n1_ := Aside0.mk (Kd.R_elder' (ra_ HO152) (Kd.R_base ho0) hb); have n2_ := Aside0.mk (Kd.R_lower (Kd.R_new' (Kd.R_new' ho0 (Kd.R_lt (ra_ HO149))) (Kd.R_lt (ra_ HO152))) (below_size bl_)); have n3_ := Aside0.mk (below_step bl_ hb); clear HO149; clear HO152; clear HB; have HO149 := n0_; have HO152 := n1_; have HO155 := n2_; have HB := n3_; clear n0_ n1_ n2_ n3_; (try clear hb); (try clear hb2); (try clear hk); (try clear hi); (try clear ho0); obtain ⟨Ao23, co23, eo23⟩ := Kd.R_slice HO155.out; subst eo23) | ((with_reducible refine gate_callee (f := 18) rfl ?_); refine goesL_ (some 29) rfl rfl Try.func18 (by kernel_rfl) rfl #[.slice Ao23 t153.length co23, .string a1] rfl gl_ ?_; (with_reducible refine (impl_HoldDrop.calls _ _ t153 a1 t156 _ ?side1 ?side2 A10.out).mono ?_); (case side1 => exact ca_ ((Kd.R_reads' HO155.out).2.2)); (case side2 => exact (Kd.R_reads' HO155.out).2.1); rintro e w24 ⟨v157, rfl, ho0, hb⟩; refine ⟨_, rfl, ?_⟩; have n0_ := Aside0.mk (Kd.R_elder' (ra_ HO149) (Kd.R_base ho0) hb); have n1_ := Aside0.mk (Kd.R_elder' (ra_ HO152) (Kd.R_base ho0) hb); have n2_ := Aside0.mk (Kd.R_elder' (ra_ HO155) (Kd.R_base ho0) hb); have n3_ := Aside0.mk (Kd.R_lower (Kd.R_new' (Kd.R_new' (Kd.R_new' ho0 (Kd.R_lt (ra_ HO149))) (Kd.R_lt (ra_ HO152))) (Kd.R_lt (ra_ HO155))) (below_size bl_)); have n4_ := Aside0.mk (below_step bl_ hb); clear HO149; clear HO152; clear HO155; clear HB; have HO149 := n0_; have HO152 := n1_; have HO155 := n2_; have HO158 := n3_; have HB := n4_; clear n0_ n1_ n2_ n3_ n4_; (try clear hb); (try clear hb2); (try clear hk); (try clear hi); (try clear ho0); obtain ⟨Ao25, co25, eo25⟩ := Kd.R_slice HO158.out; subst eo25; obtain ⟨Ao26, co26, eo26⟩ := Kd.R_slice HO152.out; subst eo26) | ((with_reducible refine gate_callee (f := 19) rfl ?_); refine goesL_ (some 32) rfl rfl Try.func19 (by kernel_rfl) rfl #[.slice Ao25 t156.length co25, .slice Ao26 t150.length co26] rfl gl_ ?_; (with_reducible refine (laws_eqHoldS.calls k _ _ t156 _ _ t150 true _ ?side1 ?side2 ?side3 ?side4 A11.out).mono ?_); (case side1 => exact ca_ ((Kd.R_reads' HO158.out).2.2)); (case side2 => exact (Kd.R_reads' HO158.out).2.1); (case side3 => exact ca_ ((Kd.R_reads' HO152.out).2.2)); (case side4 => exact (Kd.R_reads' HO152.out).2.1); rintro e w27 ⟨rfl, hb⟩; refine ⟨_, rfl, ?_⟩; have n0_ := Aside0.mk (Kd.R_below (ra_ HO149) hb); have n1_ := Aside0.mk (Kd.R_below (ra_ HO152) hb); have n2_ := Aside0.mk (Kd.R_below (ra_ HO155) hb); have n3_ := Aside0.mk (Kd.R_below (ra_ HO158) hb); have n4_ := Aside0.mk (below_step bl_ hb); clear HO149; clear HO152; clear HO155; clear HO158; clear HB; have HO149 := n0_; have HO152 := n1_; have HO155 := n2_; have HO158 := n3_; have HB := n4_; clear n0_ n1_ n2_ n3_ n4_; (try clear hb); (try clear hb2); (try clear hk); (try clear hi)) | ((with_reducible refine gate_callee (f := 17) rfl ?_); refine goesL_ (some 36) rfl rfl Try.func17 (by kernel_rfl) rfl #[.slice A0 l0.length c0] rfl gl_ ?_; (with_reducible refine (laws_toHoldS.calls k _ _ l0 t160 _ ?side1 ?side2 A13.out).mono ?_); (case side1 => exact ca_ (Kd.C_below HR0.out HB.out)); (case side2 => exact HC0.out); rintro e w28 ⟨v161, rfl, ho0, hb⟩; refine ⟨_, rfl, ?_⟩; have n0_ := Aside0.mk (Kd.R_elder' (ra_ HO149) (Kd.R_base ho0) hb); have n1_ := Aside0.mk (Kd.R_elder' (ra_ HO152) (Kd.R_base ho0) hb); have n2_ := Aside0.mk (Kd.R_elder' (ra_ HO155) (Kd.R_base ho0) hb); have n3_ := Aside0.mk (Kd.R_elder' (ra_ HO158) (Kd.R_base ho0) hb); have n4_ := Aside0.mk (Kd.R_lower (Kd.R_new' (Kd.R_new' (Kd.R_new' (Kd.R_new' ho0 (Kd.R_lt (ra_ HO149))) (Kd.R_lt (ra_ HO152))) (Kd.R_lt (ra_ HO155))) (Kd.R_lt (ra_ HO158))) (below_size bl_)); have n5_ := Aside0.mk (below_step bl_ hb); clear HO149; clear HO152; clear HO155; clear HO158; clear HB; have HO149 := n0_; have HO152 := n1_; have HO155 := n2_; have HO158 := n3_; have HO162 := n4_; have HB := n5_; clear n0_ n1_ n2_ n3_ n4_ n5_; (try clear hb); (try clear hb2); (try clear hk); (try clear hi); (try clear ho0); obtain ⟨Ao29, co29, eo29⟩ := Kd.R_slice HO162.out; subst eo29) | ((with_reducible refine gate_callee (f := 19) rfl ?_); refine goesL_ (some 37) rfl rfl Try.func19 (by kernel_rfl) rfl #[.slice Ao23 t153.length co23, .slice Ao29 t160.length co29] rfl gl_ ?_; (with_reducible refine (laws_eqHoldS.calls k _ _ t153 _ _ t160 true _ ?side1 ?side2 ?side3 ?side4 A14.out).mono ?_); (case side1 => exact ca_ ((Kd.R_reads' HO155.out).2.2)); (case side2 => exact (Kd.R_reads' HO155.out).2.1); (case side3 => exact ca_ ((Kd.R_reads' HO162.out).2.2)); (case side4 => exact (Kd.R_reads' HO162.out).2.1); rintro e w30 ⟨rfl, hb⟩; refine ⟨_, rfl, ?_⟩; have n0_ := Aside0.mk (Kd.R_below (ra_ HO149) hb); have n1_ := Aside0.mk (Kd.R_below (ra_ HO152) hb); have n2_ := Aside0.mk (Kd.R_below (ra_ HO155) hb); have n3_ := Aside0.mk (Kd.R_below (ra_ HO158) hb); have n4_ := Aside0.mk (Kd.R_below (ra_ HO162) hb); have n5_ := Aside0.mk (below_step bl_ hb); clear HO149; clear HO152; clear HO155; clear HO158; clear HO162; clear HB; have HO149 := n0_; have HO152 := n1_; have HO155 := n2_; have HO158 := n3_; have HO162 := n4_; have HB := n5_; clear n0_ n1_ n2_ n3_ n4_ n5_; (try clear hb); (try clear hb2); (try clear hk); (try clear hi)) | ((with_reducible refine gate_callee (f := 20) rfl ?_); refine goesL_ (some 41) rfl rfl Try.func20 (by kernel_rfl) rfl #[.slice Ao23 t153.length co23, .int .i64 1] rfl gl_ ?_; (with_reducible refine (laws_markHoldS.calls k (fun k_ => some k_ = (.slice Ao23 t153.length co23 : Value).ownBlock) (.slice Ao23 t153.length co23) t153 1 t164 t165 w _ ?side1 ?side2 A16.out).mono ?_); (case side1 => repeat (first | (with_reducible first | exact HB.out | apply below_alloc | apply pw_below_drewN | apply below_drew1) | exact HB.out)); (case side2 => exact Kd.R_tight rfl HO155.out); rintro e w31 ⟨rfl, hy0, hb, hkp⟩; refine ⟨_, rfl, ?_⟩; have n0_ := Aside0.mk (Kd.R_mono (ok' := fun k_ => some k_ ≠ (.slice Ao26 t150.length co26 : Value).ownBlock ∧ some k_ ≠ (.slice Ao23 t153.length co23 : Value).ownBlock ∧ some k_ ≠ (.slice Ao25 t156.length co25 : Value).ownBlock ∧ some k_ ≠ (.slice Ao29 t160.length co29 : Value).ownBlock) (Kd.R_keptB (HO149.out) hkp (fun k_ hk_ hs_ => (hk_.1.1.2) hs_)) (fun k_ hk_ => ⟨hk_.1.1.1.1.2, hk_.1.1.1.2, hk_.1.1.2, hk_.1.2⟩)); have n1_ := Aside0.mk (Kd.R_mono (ok' := fun k_ => some k_ ≠ (.slice Ao20 t147.length co20 : Value).ownBlock ∧ some k_ ≠ (.slice Ao23 t153.length co23 : Value).ownBlock ∧ some k_ ≠ (.slice Ao25 t156.length co25 : Value).ownBlock ∧ some k_ ≠ (.slice Ao29 t160.length co29 : Value).ownBlock) (Kd.R_keptB (HO152.out) hkp (fun k_ hk_ hs_ => (hk_.1.1.2) hs_)) (fun k_ hk_ => ⟨hk_.1.1.1.1.2, hk_.1.1.1.2, hk_.1.1.2, hk_.1.2⟩)); have n2_ := Aside0.mk (Kd.R_reok rfl hy0 (fun k_ e_ => HO155.out.1 k_ e_)); have n3_ := Aside0.mk (Kd.R_mono (ok' := fun k_ => some k_ ≠ (.slice Ao20 t147.length co20 : Value).ownBlock ∧ some k_ ≠ (.slice Ao26 t150.length co26 : Value).ownBlock ∧ some k_ ≠ (.slice Ao23 t153.length co23 : Value).ownBlock ∧ some k_ ≠ (.slice Ao29 t160.length co29 : Value).ownBlock) (Kd.R_keptB (HO158.out) hkp (fun k_ hk_ hs_ => (hk_.1.2) hs_)) (fun k_ hk_ => ⟨hk_.1.1.1.1.2, hk_.1.1.1.2, hk_.1.1.2, hk_.1.2⟩)); have n4_ := Aside0.mk (Kd.R_mono (ok' := fun k_ => some k_ ≠ (.slice Ao20 t147.length co20 : Value).ownBlock ∧ some k_ ≠ (.slice Ao26 t150.length co26 : Value).ownBlock ∧ some k_ ≠ (.slice Ao23 t153.length co23 : Value).ownBlock ∧ some k_ ≠ (.slice Ao25 t156.length co25 : Value).ownBlock) (Kd.R_keptB (HO162.out) hkp (fun k_ hk_ hs_ => (hk_.1.2) hs_)) (fun k_ hk_ => ⟨hk_.1.1.1.1.2, hk_.1.1.1.2, hk_.1.1.2, hk_.1.2⟩)); have n5_ := Aside0.mk (hb); clear HO149; clear HO152; clear HO155; clear HO158; clear HO162; clear HB; have HO149 := n0_; have HO152 := n1_; have HO155 := n2_; have HO158 := n3_; have HO162 := n4_; have HB := n5_; clear n0_ n1_ n2_ n3_ n4_ n5_; (try clear hb); (try clear hkp); (try clear hy0)))
     (try simp only [Act.put, List.setIfInBounds_toArray, List.set_cons_zero, List.set_cons_succ])
     go_cut [49] (fun v49 wc => ∃ (kq : Nat) (x49_16 : Bool), v49 = .bool x49_16 ∧ Aside0 (laws_FnExactHoldDrop.j0 kq l0 a1 t150 t156 x49_16 = some true) ∧ Aside0 (kq ≤ k) ∧ Aside0 (Kd.R k93 93 wc w.heap.size (fun k_ => some k_ ≠ ((.slice Ao25 t156.length co25) : Value).ownBlock) (.slice Ao26 t150.length co26) t150) ∧ Aside0 (Kd.R k93 93 wc w.heap.size (fun k_ => some k_ ≠ ((.slice Ao26 t150.length co26) : Value).ownBlock) (.slice Ao25 t156.length co25) t156) ∧ Aside0 (Below w.heap.size w wc))
     case first =>
      have H := HC17.out
      clear HC17
      by_cases c32 : t164 < 0
      ·rw [if_pos c32] at H
       have c32b0 : decide (t164 < 0) = true := decide_eq_true c32
       clear c32
       (first | rw [c32b0] | (simp only [i64_w, i32_w]; rw [c32b0]) | skip)
       have H' := Aside0.mk H
       clear H
       go_wp2
       go_meet
       case rel => exact ⟨_, (true), sp_, H', ⟨by first | omega | exact Nat.le_refl _⟩, ⟨by (with_reducible repeat (first | apply Kd.R_alloc | apply Kd.R_drewN | apply Kd.R_drew)); exact Kd.R_mono HO152.out (fun _ hk => hk.2.2.1)⟩, ⟨by (with_reducible repeat (first | apply Kd.R_alloc | apply Kd.R_drewN | apply Kd.R_drew)); exact Kd.R_mono HO158.out (fun _ hk => hk.2.1)⟩, ⟨bl_⟩⟩
      ·rw [if_neg c32] at H
       have c32b0 : decide (t164 < 0) = false := decide_eq_false c32
       clear c32
       (first | rw [c32b0] | (simp only [i64_w, i32_w]; rw [c32b0]) | skip)
       replace H := Option.bind_eq_some_iff.mp H
       obtain ⟨t166, A330, H⟩ := H
       replace H : (laws_FnExactHoldDrop.j0 k l0 a1 t150 t156 (!t166)) = some true := H
       have A33 := Aside0.mk A330
       clear A330
       have H' := Aside0.mk H
       clear H
       go_wp2_with (first | (go_at_call 19; (with_reducible refine (laws_eqHoldS.calls k _ _ t156 _ _ t150 t166 _ ?side1 ?side2 ?side3 ?side4 A33.out).mono ?_); (case side1 => exact ca_ ((Kd.R_reads' HO158.out).2.2)); (case side2 => exact (Kd.R_reads' HO158.out).2.1); (case side3 => exact ca_ ((Kd.R_reads' HO152.out).2.2)); (case side4 => exact (Kd.R_reads' HO152.out).2.1); rintro e w34 ⟨rfl, hb⟩; have n0_ := Aside0.mk (Kd.R_below (ra_ HO149) hb); have n1_ := Aside0.mk (Kd.R_below (ra_ HO152) hb); have n2_ := Aside0.mk (Kd.R_below (ra_ HO155) hb); have n3_ := Aside0.mk (Kd.R_below (ra_ HO158) hb); have n4_ := Aside0.mk (Kd.R_below (ra_ HO162) hb); have n5_ := Aside0.mk (below_step bl_ hb); clear HO149; clear HO152; clear HO155; clear HO158; clear HO162; clear HB; have HO149 := n0_; have HO152 := n1_; have HO155 := n2_; have HO158 := n3_; have HO162 := n4_; have HB := n5_; clear n0_ n1_ n2_ n3_ n4_ n5_; (try clear hb); (try clear hb2); (try clear hk); (try clear hi)))
       go_meet
       case rel => exact ⟨_, (!t166), sp_, H', ⟨by first | omega | exact Nat.le_refl _⟩, ⟨by (with_reducible repeat (first | apply Kd.R_alloc | apply Kd.R_drewN | apply Kd.R_drew)); exact Kd.R_mono HO152.out (fun _ hk => hk.2.2.1)⟩, ⟨by (with_reducible repeat (first | apply Kd.R_alloc | apply Kd.R_drewN | apply Kd.R_drew)); exact Kd.R_mono HO158.out (fun _ hk => hk.2.1)⟩, ⟨bl_⟩⟩
     case rest =>
      clear HC17
      try clear c1
      try clear c2
      try clear p2
      try clear c3
      try clear c3b0
      try clear c3b1
      try clear c5
      try clear c5b0
      try clear c12
      try clear c15
      try clear c16
      try clear c17
      try clear c18
      try clear c19
      try clear c20
      try clear c32
      try clear c32b0
      obtain ⟨kq, x49_16, rfl, HA, HJ16, HO_6, HO_8, HB⟩ := hcut
      cases kq with
      | zero => exact absurd HA.out (by simp [laws_FnExactHoldDrop.j0])
      | succ kj16 =>
       have H := HA.out
       clear HA
       simp only [laws_FnExactHoldDrop.j0] at H
       by_cases c35 : x49_16 = true
       ·subst c35
        have H1 : (some false) = some true := by rw [if_pos rfl] at H; exact H
        clear H
        have H := H1
        clear H1
        exact absurd H (by simp)
       ·replace c35 := Bool.eq_false_iff.mpr c35
        subst c35
        have H1 : ((laws_markHoldS.f kj16 t156 1).bind fun bt167 => ((laws_heldHoldS.f kj16 bt167.2 1).bind fun t169 => (if t169 < 0 then (some false) else (if t169 = bt167.1 then ((laws_toHoldS.f kj16 l0).bind fun t170 => ((impl_HoldDrop.f t170 a1).bind fun t173 => ((laws_eqHoldS.f kj16 t173 t150).bind fun t176 => (if t176 = true then ((laws_heldHoldS.f kj16 bt167.2 1).bind fun t177 => (if t177 < 0 then (some false) else (if t177 = bt167.1 then (some true) else (some false)))) else (some false))))) else (some false))))) = some true := by rw [if_neg (show ¬ (false = true) by decide)] at H; exact H
        clear H
        have H := H1
        clear H1
        replace H := Option.bind_eq_some_iff.mp H
        obtain ⟨⟨t167, t168⟩, A360, H⟩ := H
        replace H : ((laws_heldHoldS.f kj16 t168 1).bind fun t169 => (if t169 < 0 then (some false) else (if t169 = t167 then ((laws_toHoldS.f kj16 l0).bind fun t170 => ((impl_HoldDrop.f t170 a1).bind fun t173 => ((laws_eqHoldS.f kj16 t173 t150).bind fun t176 => (if t176 = true then ((laws_heldHoldS.f kj16 t168 1).bind fun t177 => (if t177 < 0 then (some false) else (if t177 = t167 then (some true) else (some false)))) else (some false))))) else (some false)))) = some true := H
        have A36 := Aside0.mk A360
        clear A360
        replace H := Option.bind_eq_some_iff.mp H
        obtain ⟨t169, A370, H⟩ := H
        replace H : (if t169 < 0 then (some false) else (if t169 = t167 then ((laws_toHoldS.f kj16 l0).bind fun t170 => ((impl_HoldDrop.f t170 a1).bind fun t173 => ((laws_eqHoldS.f kj16 t173 t150).bind fun t176 => (if t176 = true then ((laws_heldHoldS.f kj16 t168 1).bind fun t177 => (if t177 < 0 then (some false) else (if t177 = t167 then (some true) else (some false)))) else (some false))))) else (some false))) = some true := H
        have A37 := Aside0.mk A370
        clear A370
        by_cases c38 : t169 < 0
        ·rw [if_pos c38] at H
         have c38b0 : decide (t169 < 0) = true := decide_eq_true c38
         clear c38
         exact absurd H (by simp)
        ·rw [if_neg c38] at H
         have c38b0 : decide (t169 < 0) = false := decide_eq_false c38
         clear c38
         by_cases c39 : t169 = t167
         ·rw [if_pos c39] at H
          have c39b0 : (t169 == t167) = true := beq_iff_eq.mpr c39
          have c39b1 : (t169 != t167) = false := bne_eq_false_iff_eq.mpr c39
          clear c39
          replace H := Option.bind_eq_some_iff.mp H
          obtain ⟨t170, A400, H⟩ := H
          replace H : ((impl_HoldDrop.f t170 a1).bind fun t173 => ((laws_eqHoldS.f kj16 t173 t150).bind fun t176 => (if t176 = true then ((laws_heldHoldS.f kj16 t168 1).bind fun t177 => (if t177 < 0 then (some false) else (if t177 = t167 then (some true) else (some false)))) else (some false)))) = some true := H
          have A40 := Aside0.mk A400
          clear A400
          replace H := Option.bind_eq_some_iff.mp H
          obtain ⟨t173, A410, H⟩ := H
          replace H : ((laws_eqHoldS.f kj16 t173 t150).bind fun t176 => (if t176 = true then ((laws_heldHoldS.f kj16 t168 1).bind fun t177 => (if t177 < 0 then (some false) else (if t177 = t167 then (some true) else (some false)))) else (some false))) = some true := H
          have A41 := Aside0.mk A410
          clear A410
          replace H := Option.bind_eq_some_iff.mp H
          obtain ⟨t176, A420, H⟩ := H
          replace H : (if t176 = true then ((laws_heldHoldS.f kj16 t168 1).bind fun t177 => (if t177 < 0 then (some false) else (if t177 = t167 then (some true) else (some false)))) else (some false)) = some true := H
          have A42 := Aside0.mk A420
          clear A420
          by_cases c43 : t176 = true
          ·subst c43
           have H1 : ((laws_heldHoldS.f kj16 t168 1).bind fun t177 => (if t177 < 0 then (some false) else (if t177 = t167 then (some true) else (some false)))) = some true := by rw [if_pos rfl] at H; exact H
           clear H
           have H := H1
           clear H1
           replace H := Option.bind_eq_some_iff.mp H
           obtain ⟨t177, A440, H⟩ := H
           replace H : (if t177 < 0 then (some false) else (if t177 = t167 then (some true) else (some false))) = some true := H
           have A44 := Aside0.mk A440
           clear A440
           by_cases c45 : t177 < 0
           ·rw [if_pos c45] at H
            have c45b0 : decide (t177 < 0) = true := decide_eq_true c45
            clear c45
            exact absurd H (by simp)
           ·rw [if_neg c45] at H
            have c45b0 : decide (t177 < 0) = false := decide_eq_false c45
            clear c45
            by_cases c46 : t177 = t167
            ·rw [if_pos c46] at H
             have c46b0 : (t177 == t167) = true := beq_iff_eq.mpr c46
             have c46b1 : (t177 != t167) = false := bne_eq_false_iff_eq.mpr c46
             clear c46
             clear H
             go_wp2_with (first | ((with_reducible refine gate_callee (f := 20) rfl ?_); refine goesL_ (some 52) rfl rfl Try.func20 (by kernel_rfl) rfl #[.slice Ao25 t156.length co25, .int .i64 1] rfl gl_ ?_; (with_reducible refine (laws_markHoldS.calls kj16 (fun k_ => some k_ = (.slice Ao25 t156.length co25 : Value).ownBlock) (.slice Ao25 t156.length co25) t156 1 t167 t168 w _ ?side1 ?side2 A36.out).mono ?_); (case side1 => repeat (first | (with_reducible first | exact HB.out | apply below_alloc | apply pw_below_drewN | apply below_drew1) | exact HB.out)); (case side2 => exact Kd.R_tight rfl HO_8.out); rintro e w47 ⟨rfl, hy0, hb, hkp⟩; refine ⟨_, rfl, ?_⟩; have n0_ := Aside0.mk (Kd.R_mono (ok' := fun k_ => some k_ ≠ (.slice Ao25 t156.length co25 : Value).ownBlock) (Kd.R_keptB (HO_6.out) hkp (fun k_ hk_ hs_ => (hk_) hs_)) (fun k_ hk_ => hk_.1)); have n1_ := Aside0.mk (Kd.R_reok rfl hy0 (fun k_ e_ => HO_8.out.1 k_ e_)); have n2_ := Aside0.mk (hb); clear HO_6; clear HO_8; clear HB; have HO_6 := n0_; have HO_8 := n1_; have HB := n2_; clear n0_ n1_ n2_; (try clear hb); (try clear hkp); (try clear hy0)) | ((with_reducible refine gate_callee (f := 21) rfl ?_); refine goesL_ (some 55) rfl rfl Try.func21 (by kernel_rfl) rfl #[.slice Ao25 t168.length co25, .int .i64 1] rfl (by (try simp only [List.map_toArray, List.map_cons, List.map_nil]); first | done | (rw [show t168.length = t156.length from (Kd.R_reads' HO_8.out).1.symm] <;> rfl) | rfl | (simp only [List.length_drop, List.length_take]; rfl)) ?_; (with_reducible refine (laws_heldHoldS.calls kj16 _ _ t168 1 t169 _ ?side1 ?side2 A37.out).mono ?_); (case side1 => exact ca_ ((Kd.R_reads' HO_8.out).2.2)); (case side2 => rw [show t168.length = t156.length from (Kd.R_reads' HO_8.out).1.symm]; exact (Kd.R_reads' HO_8.out).2.1); rintro e w48 ⟨rfl, hb⟩; refine ⟨_, rfl, ?_⟩; have n0_ := Aside0.mk (Kd.R_below (ra_ HO_6) hb); have n1_ := Aside0.mk (Kd.R_below (ra_ HO_8) hb); have n2_ := Aside0.mk (below_step bl_ hb); clear HO_6; clear HO_8; clear HB; have HO_6 := n0_; have HO_8 := n1_; have HB := n2_; clear n0_ n1_ n2_; (try clear hb); (try clear hb2); (try clear hk); (try clear hi)) | ((with_reducible refine gate_callee (f := 17) rfl ?_); refine goesL_ (some 62) rfl rfl Try.func17 (by kernel_rfl) rfl #[.slice A0 l0.length c0] rfl gl_ ?_; (with_reducible refine (laws_toHoldS.calls kj16 _ _ l0 t170 _ ?side1 ?side2 A40.out).mono ?_); (case side1 => exact ca_ (Kd.C_below HR0.out HB.out)); (case side2 => exact HC0.out); rintro e w49 ⟨v171, rfl, ho0, hb⟩; refine ⟨_, rfl, ?_⟩; have n0_ := Aside0.mk (Kd.R_elder' (ra_ HO_6) (Kd.R_base ho0) hb); have n1_ := Aside0.mk (Kd.R_elder' (ra_ HO_8) (Kd.R_base ho0) hb); have n2_ := Aside0.mk (Kd.R_lower (Kd.R_new' (Kd.R_new' ho0 (Kd.R_lt (ra_ HO_6))) (Kd.R_lt (ra_ HO_8))) (below_size bl_)); have n3_ := Aside0.mk (below_step bl_ hb); clear HO_6; clear HO_8; clear HB; have HO_6 := n0_; have HO_8 := n1_; have HO172 := n2_; have HB := n3_; clear n0_ n1_ n2_ n3_; (try clear hb); (try clear hb2); (try clear hk); (try clear hi); (try clear ho0); obtain ⟨Ao50, co50, eo50⟩ := Kd.R_slice HO172.out; subst eo50) | ((with_reducible refine gate_callee (f := 18) rfl ?_); refine goesL_ (some 64) rfl rfl Try.func18 (by kernel_rfl) rfl #[.slice Ao50 t170.length co50, .string a1] rfl gl_ ?_; (with_reducible refine (impl_HoldDrop.calls _ _ t170 a1 t173 _ ?side1 ?side2 A41.out).mono ?_); (case side1 => exact ca_ ((Kd.R_reads' HO172.out).2.2)); (case side2 => exact (Kd.R_reads' HO172.out).2.1); rintro e w51 ⟨v174, rfl, ho0, hb⟩; refine ⟨_, rfl, ?_⟩; have n0_ := Aside0.mk (Kd.R_elder' (ra_ HO_6) (Kd.R_base ho0) hb); have n1_ := Aside0.mk (Kd.R_elder' (ra_ HO_8) (Kd.R_base ho0) hb); have n2_ := Aside0.mk (Kd.R_elder' (ra_ HO172) (Kd.R_base ho0) hb); have n3_ := Aside0.mk (Kd.R_lower (Kd.R_new' (Kd.R_new' (Kd.R_new' ho0 (Kd.R_lt (ra_ HO_6))) (Kd.R_lt (ra_ HO_8))) (Kd.R_lt (ra_ HO172))) (below_size bl_)); have n4_ := Aside0.mk (below_step bl_ hb); clear HO_6; clear HO_8; clear HO172; clear HB; have HO_6 := n0_; have HO_8 := n1_; have HO172 := n2_; have HO175 := n3_; have HB := n4_; clear n0_ n1_ n2_ n3_ n4_; (try clear hb); (try clear hb2); (try clear hk); (try clear hi); (try clear ho0); obtain ⟨Ao52, co52, eo52⟩ := Kd.R_slice HO175.out; subst eo52) | ((with_reducible refine gate_callee (f := 19) rfl ?_); refine goesL_ (some 67) rfl rfl Try.func19 (by kernel_rfl) rfl #[.slice Ao52 t173.length co52, .slice Ao26 t150.length co26] rfl gl_ ?_; (with_reducible refine (laws_eqHoldS.calls kj16 _ _ t173 _ _ t150 true _ ?side1 ?side2 ?side3 ?side4 A42.out).mono ?_); (case side1 => exact ca_ ((Kd.R_reads' HO175.out).2.2)); (case side2 => exact (Kd.R_reads' HO175.out).2.1); (case side3 => exact ca_ ((Kd.R_reads' HO_6.out).2.2)); (case side4 => exact (Kd.R_reads' HO_6.out).2.1); rintro e w53 ⟨rfl, hb⟩; refine ⟨_, rfl, ?_⟩; have n0_ := Aside0.mk (Kd.R_below (ra_ HO_6) hb); have n1_ := Aside0.mk (Kd.R_below (ra_ HO_8) hb); have n2_ := Aside0.mk (Kd.R_below (ra_ HO172) hb); have n3_ := Aside0.mk (Kd.R_below (ra_ HO175) hb); have n4_ := Aside0.mk (below_step bl_ hb); clear HO_6; clear HO_8; clear HO172; clear HO175; clear HB; have HO_6 := n0_; have HO_8 := n1_; have HO172 := n2_; have HO175 := n3_; have HB := n4_; clear n0_ n1_ n2_ n3_ n4_; (try clear hb); (try clear hb2); (try clear hk); (try clear hi)) | ((with_reducible refine gate_callee (f := 21) rfl ?_); refine goesL_ (some 71) rfl rfl Try.func21 (by kernel_rfl) rfl #[.slice Ao25 t168.length co25, .int .i64 1] rfl (by (try simp only [List.map_toArray, List.map_cons, List.map_nil]); first | done | (rw [show t168.length = t156.length from (Kd.R_reads' HO_8.out).1.symm] <;> rfl) | rfl | (simp only [List.length_drop, List.length_take]; rfl)) ?_; (with_reducible refine (laws_heldHoldS.calls kj16 _ _ t168 1 t177 _ ?side1 ?side2 A44.out).mono ?_); (case side1 => exact ca_ ((Kd.R_reads' HO_8.out).2.2)); (case side2 => rw [show t168.length = t156.length from (Kd.R_reads' HO_8.out).1.symm]; exact (Kd.R_reads' HO_8.out).2.1); rintro e w54 ⟨rfl, hb⟩; refine ⟨_, rfl, ?_⟩; have n0_ := Aside0.mk (Kd.R_below (ra_ HO_6) hb); have n1_ := Aside0.mk (Kd.R_below (ra_ HO_8) hb); have n2_ := Aside0.mk (Kd.R_below (ra_ HO172) hb); have n3_ := Aside0.mk (Kd.R_below (ra_ HO175) hb); have n4_ := Aside0.mk (below_step bl_ hb); clear HO_6; clear HO_8; clear HO172; clear HO175; clear HB; have HO_6 := n0_; have HO_8 := n1_; have HO172 := n2_; have HO175 := n3_; have HB := n4_; clear n0_ n1_ n2_ n3_ n4_; (try clear hb); (try clear hb2); (try clear hk); (try clear hi)))
             go_ret
             exact ⟨sq_, bl_⟩
            ·rw [if_neg c46] at H
             have c46b0 : (t177 == t167) = false := beq_eq_false_iff_ne.mpr c46
             have c46b1 : (t177 != t167) = true := bne_iff_ne.mpr c46
             exact absurd H (by simp)
          ·replace c43 := Bool.eq_false_iff.mpr c43
           subst c43
           have H1 : (some false) = some true := by rw [if_neg (show ¬ (false = true) by decide)] at H; exact H
           clear H
           have H := H1
           clear H1
           exact absurd H (by simp)
         ·rw [if_neg c39] at H
          have c39b0 : (t169 == t167) = false := beq_eq_false_iff_ne.mpr c39
          have c39b1 : (t169 != t167) = true := bne_iff_ne.mpr c39
          exact absurd H (by simp)
    ·replace c15 := Bool.eq_false_iff.mpr c15
     subst c15
     have H1 : (some false) = some true := by rw [if_neg (show ¬ (false = true) by decide)] at H; exact H
     clear H
     have H := H1
     clear H1
     exact absurd H (by simp)
   ·replace c12 := Bool.eq_false_iff.mpr c12
    subst c12
    have H1 : (some false) = some true := by rw [if_neg (show ¬ (false = true) by decide)] at H; exact H
    clear H
    have H := H1
    clear H1
    exact absurd H (by simp)

def ok89 (x : S89) : Prop := (x.f0.size ≤ maxLen) ∧ ((Lit.int .i64 x.f1).wf = true) ∧ ((Lit.int .i64 x.f2).wf = true)
/-- THE ONE PURE STATEMENT of laws_FnExactHoldDrop. -/
def laws_FnExactHoldDrop.Pure : Prop := ∀ (l0 : List (S89)) (a1 : ByteArray), (l0.length ≤ maxLen ∧ ∀ y0 ∈ l0, ok89 y0) → (a1.size ≤ maxLen) → ∃ k, laws_FnExactHoldDrop.f k l0 a1 = some true

end Go.Proofs.Ytepjnalkpfnmcaa.QFnExactHoldDrop
