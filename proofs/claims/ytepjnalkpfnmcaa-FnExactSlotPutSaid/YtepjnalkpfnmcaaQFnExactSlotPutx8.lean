-- by my own printer (myprint.py, over the kit's print.py)
import Derived.Test.YtepjnalkpfnmcaaQFnExactSlotPutx0
import Derived.Test.YtepjnalkpfnmcaaQFnExactSlotPutx2
import Derived.Test.YtepjnalkpfnmcaaQFnExactSlotPutx7
namespace Go.Proofs.Ytepjnalkpfnmcaa.QFnExactSlotPut
open Go.RowKit Go.Proofs.YtepjnalkpfnmcaaW.PrintWords Go.Proofs.YtepjnalkpfnmcaaW.PrintLast Go.Proofs.YtepjnalkpfnmcaaW.PrintMore
attribute [local go_sem] max2_int min2_int max_two min_two max_three min_three max_four min_four   -- for this text's walks alone
set_option linter.unusedVariables false
set_option linter.unusedSimpArgs false
attribute [local go_sem] my_geq my_leq my_gtr
abbrev tb8_0_8 : Array Bool := #[b0, b0, b0, b0, b0, b0, b0, b0]
abbrev tb8_1_8 : Array Bool := #[b1, b0, b0, b0, b0, b0, b0, b0]
abbrev tb8_2f_8 : Array Bool := #[b1, b1, b1, b1, b0, b1, b0, b0]
abbrev tb8_3_8 : Array Bool := #[b1, b1, b0, b0, b0, b0, b0, b0]
abbrev tb8_3f_8 : Array Bool := #[b1, b1, b1, b1, b1, b1, b0, b0]
abbrev tb8_7_8 : Array Bool := #[b1, b1, b1, b0, b0, b0, b0, b0]
abbrev tb8_7f_8 : Array Bool := #[b1, b1, b1, b1, b1, b1, b1, b0]
abbrev tb8_f_8 : Array Bool := #[b1, b1, b1, b1, b0, b0, b0, b0]
abbrev tb8_ff_8 : Array Bool := #[b1, b1, b1, b1, b1, b1, b1, b1]
/-! ### laws_heldSlotS: function 51 -/
def laws_heldSlotS.l0 : Nat → List (S74) → Int → Int → Option (Int)
 | 0, _, _, _ => none
 | k + 1, x0, x1, x5 => if x5 < (x0.length : Int) then (if 0 ≤ x5 then ((laws_markText.f k x1).bind fun t231 => (if ((rd_T74 x0 x5).f0).toList = t231.toList then ((laws_markText.f k (wrap64 (x1 + 1))).bind fun t233 => (if ((rd_T74 x0 x5).f1).toList = t233.toList then ((laws_heldByteS.f k ((rd_T74 x0 x5).f2) (wrap64 ((wrap64 (x1 + 1)) + 1))).bind fun t235 => (if t235 < 0 then (some (-1)) else (laws_heldSlotS.l0 k x0 t235 (wrap64 (x5 + 1))))) else (some (-1)))) else (some (-1)))) else (none)) else (some x1)
def laws_heldSlotS.f (k : Nat) (l0 : List (S74)) (a1 : Int) : Option (Int) := laws_heldSlotS.l0 k l0 a1 0
def laws_heldSlotS.T4 : Bool × List (List Nat × List Nat) := (true, [([], []), ([], []), ([0, 1], [0, 1]), ([2], [2]), ([3], [3]), ([], []), ([5], [5]), ([4, 6], [4, 6])])
def laws_heldSlotS.B4 : List Nat := [0, 0, 3, 7, 15, 0, 32, 127]
theorem laws_heldSlotS.tab4 : rtab .any (opsOf Try.f51 4) = laws_heldSlotS.T4 := by kernel_rfl
theorem laws_heldSlotS.bits4 : waitsOk laws_heldSlotS.T4.2 laws_heldSlotS.B4 = true := by kernel_rfl
def laws_heldSlotS.T7 : Bool × List (List Nat × List Nat) := (true, [([], []), ([], []), ([0, 1], [0, 1]), ([2], [2]), ([3], [3]), ([], []), ([5], [5]), ([4, 6], [4, 6])])
def laws_heldSlotS.B7 : List Nat := [0, 0, 3, 7, 15, 0, 32, 127]
theorem laws_heldSlotS.tab7 : rtab .any (opsOf Try.f51 7) = laws_heldSlotS.T7 := by kernel_rfl
theorem laws_heldSlotS.bits7 : waitsOk laws_heldSlotS.T7.2 laws_heldSlotS.B7 = true := by kernel_rfl
set_option maxHeartbeats 8000000 in
set_option maxRecDepth 100000 in
theorem laws_heldSlotS.calls (k : Nat) (A0 : Option Addr) (c0 : Nat) (l0 : List (S74)) (a1 : Int) (r : Int) (w : World) (hr0 : Kd.C k74 w A0 l0.length l0) (hc0 : l0.length ≤ c0) (h : laws_heldSlotS.f k l0 a1 = some r) :
  Calls Try.prog 51 #[.slice A0 l0.length c0, .int .i64 a1] w fun e w' => e = .returned (.int .i64 r) ∧ Below w.heap.size w w' := by
 have HR0 := Aside0.mk hr0
 have HC0 := Aside0.mk hc0
 clear hr0 hc0
 have HB := Aside0.mk (Below.refl w.heap.size w)
 have H : (laws_heldSlotS.l0 k l0 a1 0) = some r := h
 clear h
 have H' := Aside0.mk H
 clear H
 go_enter Try.func51, Try.ntmps51
 go_wp2
 go_loopg [1, 5] k (fun kq v1 v5 w' => ∃ (x1_1 : Int) (x5_1 : Int), v1 = .int .i64 x1_1 ∧ v5 = .int .i64 x5_1 ∧ Aside0 (laws_heldSlotS.l0 kq l0 x1_1 x5_1 = some r) ∧ Aside0 (kq ≤ k) ∧ Aside0 (Below w.heap.size w w'))
 case atStart => exact ⟨(a1), (0), sp_, sp_, H', ⟨Nat.le_refl _⟩, ⟨bl_⟩⟩
 case round =>
  clear H'
  try clear p2
  obtain ⟨x1_1, x5_1, rfl, rfl, HA, HK1, HB⟩ := hrel
  cases gk with
  | zero => exact absurd HA.out (by simp [laws_heldSlotS.l0])
  | succ k1 =>
   have H := HA.out
   clear HA
   simp only [laws_heldSlotS.l0] at H
   by_cases c3 : x5_1 < (l0.length : Int)
   ·rw [if_pos c3] at H
    have c3b0 : decide (x5_1 < (l0.length : Int)) = true := decide_eq_true c3
    clear c3
    by_cases c4 : 0 ≤ x5_1
    ·rw [if_pos c4] at H
     have c4b0 : decide (0 ≤ x5_1) = true := decide_eq_true c4
     clear c4
     obtain ⟨t231, A5, H⟩ := ob_ H
     by_cases c6 : ((rd_T74 l0 x5_1).f0).toList = t231.toList
     ·rw [if_pos c6] at H
      have c6b0 : (((rd_T74 l0 x5_1).f0).toList == t231.toList) = true := beq_iff_eq.mpr c6
      have c6b1 : (((rd_T74 l0 x5_1).f0).toList != t231.toList) = false := bne_eq_false_iff_eq.mpr c6
      clear c6
      obtain ⟨t233, A7, H⟩ := ob_ H
      by_cases c8 : ((rd_T74 l0 x5_1).f1).toList = t233.toList
      ·rw [if_pos c8] at H
       have c8b0 : (((rd_T74 l0 x5_1).f1).toList == t233.toList) = true := beq_iff_eq.mpr c8
       have c8b1 : (((rd_T74 l0 x5_1).f1).toList != t233.toList) = false := bne_eq_false_iff_eq.mpr c8
       clear c8
       obtain ⟨t235, A9, H⟩ := ob_ H
       by_cases c10 : t235 < 0
       ·rw [if_pos c10] at H
        have c10b0 : decide (t235 < 0) = true := decide_eq_true c10
        clear c10
        obtain rfl := Option.some.inj H
        try go_wp2
        have n0_ := Aside0.mk (below_drew1 HB.out)
        clear HB
        have HB := n0_
        clear n0_
        (try clear hHeld)
        have p230 : 0 ≤ (x5_1 : Int) := od_
        have q230 : x5_1 < (l0.length : Int) := od_
        obtain ⟨ad230, A230_2, c230_2, e230, hx230_0, hx230_1, hx230_2, hl230_2, hi230_2⟩ := at_T74 HR0.out x5_1 p230 q230
        have hw230_2 := hx230_2
        have hw230_1 := hx230_1
        have hw230_0 := hx230_0
        cases e230
        replace hx230_0 := kc_ HB hx230_0
        replace hx230_1 := kc_ HB hx230_1
        replace hx230_2 := kc_ HB hx230_2
        have HR230_2 := Aside0.mk hi230_2
        have HC230_2 := Aside0.mk hl230_2
        clear hi230_2 hl230_2
        replace p230 := eq_true p230
        replace q230 := eq_true q230
        refine start_ (n := 8) (S := fun w' => w'.cell? (ad230.add ((x5_1).toNat * 3)) = some (.string ((rd_T74 l0 x5_1).f0)) ∧ w'.cell? ⟨(ad230.add ((x5_1).toNat * 3)).block, (ad230.add ((x5_1).toNat * 3)).off + 1, none⟩ = some (.string ((rd_T74 l0 x5_1).f1)) ∧ w'.cell? ⟨(ad230.add ((x5_1).toNat * 3)).block, (ad230.add ((x5_1).toNat * 3)).off + 2, none⟩ = some (.slice A230_2 ((rd_T74 l0 x5_1).f2).length c230_2)) (ds := []) tb8_0_8 (by kernel_rfl) rfl rfl ⟨(kc_ HB hw230_0), (kc_ HB hw230_1), (kc_ HB hw230_2)⟩ (fun hHeld => ?_); refine with_tabW laws_heldSlotS.tab4 laws_heldSlotS.bits4 (fun HT_ HW_ => ?_)
        generalize wr.drew = w11 at HB HR230_2 hx230_0 hx230_1 hx230_2 hHeld ⊢
        refine pl_ HT_ 0 12 tb8_1_8 ?_
        refine pl_ HT_ 1 13 tb8_3_8 ?_
        refine pl_ HT_ 2 14 tb8_7_8 ?_
        refine pl_ HT_ 3 15 tb8_f_8 ?_
        refine pl_ HT_ 5 17 tb8_2f_8 ?_
        refine take_ (i := 4) (N := some 16) (v := ?_) (a' := ?_) tb8_3f_8 rfl rfl (take_ofW HT_.out HW_.out (by kernel_rfl)) (fun _ _ _ h => h) (Or.inl ⟨by rfl, ?_⟩) hHeld ?_ ?_
        rotate_left
        ·rintro w' ⟨s0, s1, s2⟩
         go_simp
         with_reducible rfl
        rotate_left
        ·simp only [Act.put, q_]
         rfl
        refine one_ (i := 6) (N := some 18) tb8_7f_8 rfl rfl (one_of HT_.out (by kernel_rfl)) (by decide) (fun K hK => ?_)
        refine goes_ Try.func81 (by kernel_rfl) rfl #[.int .i64 x1_1] (by rfl) rfl rfl gl_ ?_
        with_reducible refine (laws_markText.calls k1 x1_1 t231 _ A5.out).mono ?_
        rintro e w12 ⟨rfl, hb⟩
        refine ⟨_, rfl, ?_⟩
        have n0_ := Aside0.mk (below_step bl_ hb)
        clear HB
        have HB := n0_
        clear n0_
        (try clear hb)
        (try clear hb2)
        (try clear hk)
        (try clear hi)
        refine hK.out _ _ ⟨(kc_ HB hw230_0), (kc_ HB hw230_1), (kc_ HB hw230_2)⟩ (fun hHeld => ?_)
        clear hK K
        refine norm_ (a' := ?_) ?_ ?_
        rotate_left
        ·show Act.put _ (some 18) _ = _
         simp only [Act.put, q_]
         rfl
        refine pl_ HT_ 7 19 tb8_ff_8 ?_
        refine done_ (done_of HT_.out (by kernel_rfl)) ?_
        try go_wp2
        have n0_ := Aside0.mk (below_drew1 HB.out)
        clear HB
        have HB := n0_
        clear n0_
        (try clear hHeld)
        have p232 : 0 ≤ (x5_1 : Int) := od_
        have q232 : x5_1 < (l0.length : Int) := od_
        obtain ⟨ad232, A232_2, c232_2, e232, hx232_0, hx232_1, hx232_2, hl232_2, hi232_2⟩ := at_T74 HR0.out x5_1 p232 q232
        have hw232_2 := hx232_2
        have hw232_1 := hx232_1
        have hw232_0 := hx232_0
        obtain rfl : ad230 = ad232 := (by injection e232)
        replace hx232_0 := kc_ HB hx232_0
        replace hx232_1 := kc_ HB hx232_1
        replace hx232_2 := kc_ HB hx232_2
        have HR232_2 := Aside0.mk hi232_2
        have HC232_2 := Aside0.mk hl232_2
        clear hi232_2 hl232_2
        replace p232 := eq_true p232
        replace q232 := eq_true q232
        refine start_ (n := 8) (S := fun w' => w'.cell? (ad230.add ((x5_1).toNat * 3)) = some (.string ((rd_T74 l0 x5_1).f0)) ∧ w'.cell? ⟨(ad230.add ((x5_1).toNat * 3)).block, (ad230.add ((x5_1).toNat * 3)).off + 1, none⟩ = some (.string ((rd_T74 l0 x5_1).f1)) ∧ w'.cell? ⟨(ad230.add ((x5_1).toNat * 3)).block, (ad230.add ((x5_1).toNat * 3)).off + 2, none⟩ = some (.slice A232_2 ((rd_T74 l0 x5_1).f2).length c232_2)) (ds := []) tb8_0_8 (by kernel_rfl) rfl rfl ⟨(kc_ HB hw232_0), (kc_ HB hw232_1), (kc_ HB hw232_2)⟩ (fun hHeld => ?_); refine with_tabW laws_heldSlotS.tab7 laws_heldSlotS.bits7 (fun HT_ HW_ => ?_)
        generalize w12.drew = w13 at HB HR232_2 hx232_0 hx232_1 hx232_2 hHeld ⊢
        refine pl_ HT_ 0 22 tb8_1_8 ?_
        refine pl_ HT_ 1 23 tb8_3_8 ?_
        refine pl_ HT_ 2 24 tb8_7_8 ?_
        refine pl_ HT_ 3 25 tb8_f_8 ?_
        refine pl_ HT_ 5 27 tb8_2f_8 ?_
        refine take_ (i := 4) (N := some 26) (v := ?_) (a' := ?_) tb8_3f_8 rfl rfl (take_ofW HT_.out HW_.out (by kernel_rfl)) (fun _ _ _ h => h) (Or.inl ⟨by rfl, ?_⟩) hHeld ?_ ?_
        rotate_left
        ·rintro w' ⟨s0, s1, s2⟩
         go_simp
         with_reducible rfl
        rotate_left
        ·simp only [Act.put, q_]
         rfl
        refine one_ (i := 6) (N := some 28) tb8_7f_8 rfl rfl (one_of HT_.out (by kernel_rfl)) (by decide) (fun K hK => ?_)
        refine goes_ Try.func81 (by kernel_rfl) rfl #[.int .i64 (wrap64 (x1_1 + 1))] (by rfl) rfl rfl gl_ ?_
        with_reducible refine (laws_markText.calls k1 (wrap64 (x1_1 + 1)) t233 _ A7.out).mono ?_
        rintro e w14 ⟨rfl, hb⟩
        refine ⟨_, rfl, ?_⟩
        have n0_ := Aside0.mk (below_step bl_ hb)
        clear HB
        have HB := n0_
        clear n0_
        (try clear hb)
        (try clear hb2)
        (try clear hk)
        (try clear hi)
        refine hK.out _ _ ⟨(kc_ HB hw232_0), (kc_ HB hw232_1), (kc_ HB hw232_2)⟩ (fun hHeld => ?_)
        clear hK K
        refine norm_ (a' := ?_) ?_ ?_
        rotate_left
        ·show Act.put _ (some 28) _ = _
         simp only [Act.put, q_]
         rfl
        refine pl_ HT_ 7 29 tb8_ff_8 ?_
        refine done_ (done_of HT_.out (by kernel_rfl)) ?_
        (try clear hHeld)
        have p234 : 0 ≤ (x5_1 : Int) := od_
        have q234 : x5_1 < (l0.length : Int) := od_
        obtain ⟨ad234, A234_2, c234_2, e234, hx234_0, hx234_1, hx234_2, hl234_2, hi234_2⟩ := at_T74 HR0.out x5_1 p234 q234
        obtain rfl : ad230 = ad234 := (by injection e234)
        replace hx234_0 := kc_ HB hx234_0
        replace hx234_1 := kc_ HB hx234_1
        replace hx234_2 := kc_ HB hx234_2
        have HR234_2 := Aside0.mk hi234_2
        have HC234_2 := Aside0.mk hl234_2
        clear hi234_2 hl234_2
        replace p234 := eq_true p234
        replace q234 := eq_true q234
        try go_wp2_with (first | ((with_reducible refine gate_callee (f := 44) rfl ?_); refine goesL_ (some 38) rfl rfl Try.func44 (by kernel_rfl) rfl #[.slice A234_2 ((rd_T74 l0 x5_1).f2).length c234_2, .int .i64 (wrap64 ((wrap64 (x1_1 + 1)) + 1))] rfl gl_ ?_; (with_reducible refine (laws_heldByteS.calls k1 _ _ ((rd_T74 l0 x5_1).f2) (wrap64 ((wrap64 (x1_1 + 1)) + 1)) t235 _ ?side1 ?side2 A9.out).mono ?_); (case side1 => exact ca_ (Kd.C_below HR234_2.out HB.out)); (case side2 => exact HC234_2.out); rintro e w' ⟨rfl, ⟨nd, rfl⟩⟩; refine ⟨_, rfl, ?_⟩))
        go_ret
        exact ⟨sq_, bl_⟩
       ·rw [if_neg c10] at H
        have c10b0 : decide (t235 < 0) = false := decide_eq_false c10
        clear c10
        have H' := Aside0.mk H
        clear H
        try go_wp2
        have n0_ := Aside0.mk (below_drew1 HB.out)
        clear HB
        have HB := n0_
        clear n0_
        (try clear hHeld)
        have p230 : 0 ≤ (x5_1 : Int) := od_
        have q230 : x5_1 < (l0.length : Int) := od_
        obtain ⟨ad230, A230_2, c230_2, e230, hx230_0, hx230_1, hx230_2, hl230_2, hi230_2⟩ := at_T74 HR0.out x5_1 p230 q230
        have hw230_2 := hx230_2
        have hw230_1 := hx230_1
        have hw230_0 := hx230_0
        cases e230
        replace hx230_0 := kc_ HB hx230_0
        replace hx230_1 := kc_ HB hx230_1
        replace hx230_2 := kc_ HB hx230_2
        have HR230_2 := Aside0.mk hi230_2
        have HC230_2 := Aside0.mk hl230_2
        clear hi230_2 hl230_2
        replace p230 := eq_true p230
        replace q230 := eq_true q230
        refine start_ (n := 8) (S := fun w' => w'.cell? (ad230.add ((x5_1).toNat * 3)) = some (.string ((rd_T74 l0 x5_1).f0)) ∧ w'.cell? ⟨(ad230.add ((x5_1).toNat * 3)).block, (ad230.add ((x5_1).toNat * 3)).off + 1, none⟩ = some (.string ((rd_T74 l0 x5_1).f1)) ∧ w'.cell? ⟨(ad230.add ((x5_1).toNat * 3)).block, (ad230.add ((x5_1).toNat * 3)).off + 2, none⟩ = some (.slice A230_2 ((rd_T74 l0 x5_1).f2).length c230_2)) (ds := []) tb8_0_8 (by kernel_rfl) rfl rfl ⟨(kc_ HB hw230_0), (kc_ HB hw230_1), (kc_ HB hw230_2)⟩ (fun hHeld => ?_); refine with_tabW laws_heldSlotS.tab4 laws_heldSlotS.bits4 (fun HT_ HW_ => ?_)
        generalize wr.drew = w15 at HB HR230_2 hx230_0 hx230_1 hx230_2 hHeld ⊢
        refine pl_ HT_ 0 12 tb8_1_8 ?_
        refine pl_ HT_ 1 13 tb8_3_8 ?_
        refine pl_ HT_ 2 14 tb8_7_8 ?_
        refine pl_ HT_ 3 15 tb8_f_8 ?_
        refine pl_ HT_ 5 17 tb8_2f_8 ?_
        refine take_ (i := 4) (N := some 16) (v := ?_) (a' := ?_) tb8_3f_8 rfl rfl (take_ofW HT_.out HW_.out (by kernel_rfl)) (fun _ _ _ h => h) (Or.inl ⟨by rfl, ?_⟩) hHeld ?_ ?_
        rotate_left
        ·rintro w' ⟨s0, s1, s2⟩
         go_simp
         with_reducible rfl
        rotate_left
        ·simp only [Act.put, q_]
         rfl
        refine one_ (i := 6) (N := some 18) tb8_7f_8 rfl rfl (one_of HT_.out (by kernel_rfl)) (by decide) (fun K hK => ?_)
        refine goes_ Try.func81 (by kernel_rfl) rfl #[.int .i64 x1_1] (by rfl) rfl rfl gl_ ?_
        with_reducible refine (laws_markText.calls k1 x1_1 t231 _ A5.out).mono ?_
        rintro e w16 ⟨rfl, hb⟩
        refine ⟨_, rfl, ?_⟩
        have n0_ := Aside0.mk (below_step bl_ hb)
        clear HB
        have HB := n0_
        clear n0_
        (try clear hb)
        (try clear hb2)
        (try clear hk)
        (try clear hi)
        refine hK.out _ _ ⟨(kc_ HB hw230_0), (kc_ HB hw230_1), (kc_ HB hw230_2)⟩ (fun hHeld => ?_)
        clear hK K
        refine norm_ (a' := ?_) ?_ ?_
        rotate_left
        ·show Act.put _ (some 18) _ = _
         simp only [Act.put, q_]
         rfl
        refine pl_ HT_ 7 19 tb8_ff_8 ?_
        refine done_ (done_of HT_.out (by kernel_rfl)) ?_
        try go_wp2
        have n0_ := Aside0.mk (below_drew1 HB.out)
        clear HB
        have HB := n0_
        clear n0_
        (try clear hHeld)
        have p232 : 0 ≤ (x5_1 : Int) := od_
        have q232 : x5_1 < (l0.length : Int) := od_
        obtain ⟨ad232, A232_2, c232_2, e232, hx232_0, hx232_1, hx232_2, hl232_2, hi232_2⟩ := at_T74 HR0.out x5_1 p232 q232
        have hw232_2 := hx232_2
        have hw232_1 := hx232_1
        have hw232_0 := hx232_0
        obtain rfl : ad230 = ad232 := (by injection e232)
        replace hx232_0 := kc_ HB hx232_0
        replace hx232_1 := kc_ HB hx232_1
        replace hx232_2 := kc_ HB hx232_2
        have HR232_2 := Aside0.mk hi232_2
        have HC232_2 := Aside0.mk hl232_2
        clear hi232_2 hl232_2
        replace p232 := eq_true p232
        replace q232 := eq_true q232
        refine start_ (n := 8) (S := fun w' => w'.cell? (ad230.add ((x5_1).toNat * 3)) = some (.string ((rd_T74 l0 x5_1).f0)) ∧ w'.cell? ⟨(ad230.add ((x5_1).toNat * 3)).block, (ad230.add ((x5_1).toNat * 3)).off + 1, none⟩ = some (.string ((rd_T74 l0 x5_1).f1)) ∧ w'.cell? ⟨(ad230.add ((x5_1).toNat * 3)).block, (ad230.add ((x5_1).toNat * 3)).off + 2, none⟩ = some (.slice A232_2 ((rd_T74 l0 x5_1).f2).length c232_2)) (ds := []) tb8_0_8 (by kernel_rfl) rfl rfl ⟨(kc_ HB hw232_0), (kc_ HB hw232_1), (kc_ HB hw232_2)⟩ (fun hHeld => ?_); refine with_tabW laws_heldSlotS.tab7 laws_heldSlotS.bits7 (fun HT_ HW_ => ?_)
        generalize w16.drew = w17 at HB HR232_2 hx232_0 hx232_1 hx232_2 hHeld ⊢
        refine pl_ HT_ 0 22 tb8_1_8 ?_
        refine pl_ HT_ 1 23 tb8_3_8 ?_
        refine pl_ HT_ 2 24 tb8_7_8 ?_
        refine pl_ HT_ 3 25 tb8_f_8 ?_
        refine pl_ HT_ 5 27 tb8_2f_8 ?_
        refine take_ (i := 4) (N := some 26) (v := ?_) (a' := ?_) tb8_3f_8 rfl rfl (take_ofW HT_.out HW_.out (by kernel_rfl)) (fun _ _ _ h => h) (Or.inl ⟨by rfl, ?_⟩) hHeld ?_ ?_
        rotate_left
        ·rintro w' ⟨s0, s1, s2⟩
         go_simp
         with_reducible rfl
        rotate_left
        ·simp only [Act.put, q_]
         rfl
        refine one_ (i := 6) (N := some 28) tb8_7f_8 rfl rfl (one_of HT_.out (by kernel_rfl)) (by decide) (fun K hK => ?_)
        refine goes_ Try.func81 (by kernel_rfl) rfl #[.int .i64 (wrap64 (x1_1 + 1))] (by rfl) rfl rfl gl_ ?_
        with_reducible refine (laws_markText.calls k1 (wrap64 (x1_1 + 1)) t233 _ A7.out).mono ?_
        rintro e w18 ⟨rfl, hb⟩
        refine ⟨_, rfl, ?_⟩
        have n0_ := Aside0.mk (below_step bl_ hb)
        clear HB
        have HB := n0_
        clear n0_
        (try clear hb)
        (try clear hb2)
        (try clear hk)
        (try clear hi)
        refine hK.out _ _ ⟨(kc_ HB hw232_0), (kc_ HB hw232_1), (kc_ HB hw232_2)⟩ (fun hHeld => ?_)
        clear hK K
        refine norm_ (a' := ?_) ?_ ?_
        rotate_left
        ·show Act.put _ (some 28) _ = _
         simp only [Act.put, q_]
         rfl
        refine pl_ HT_ 7 29 tb8_ff_8 ?_
        refine done_ (done_of HT_.out (by kernel_rfl)) ?_
        (try clear hHeld)
        have p234 : 0 ≤ (x5_1 : Int) := od_
        have q234 : x5_1 < (l0.length : Int) := od_
        obtain ⟨ad234, A234_2, c234_2, e234, hx234_0, hx234_1, hx234_2, hl234_2, hi234_2⟩ := at_T74 HR0.out x5_1 p234 q234
        obtain rfl : ad230 = ad234 := (by injection e234)
        replace hx234_0 := kc_ HB hx234_0
        replace hx234_1 := kc_ HB hx234_1
        replace hx234_2 := kc_ HB hx234_2
        have HR234_2 := Aside0.mk hi234_2
        have HC234_2 := Aside0.mk hl234_2
        clear hi234_2 hl234_2
        replace p234 := eq_true p234
        replace q234 := eq_true q234
        try go_wp2_with (first | ((with_reducible refine gate_callee (f := 44) rfl ?_); refine goesL_ (some 38) rfl rfl Try.func44 (by kernel_rfl) rfl #[.slice A234_2 ((rd_T74 l0 x5_1).f2).length c234_2, .int .i64 (wrap64 ((wrap64 (x1_1 + 1)) + 1))] rfl gl_ ?_; (with_reducible refine (laws_heldByteS.calls k1 _ _ ((rd_T74 l0 x5_1).f2) (wrap64 ((wrap64 (x1_1 + 1)) + 1)) t235 _ ?side1 ?side2 A9.out).mono ?_); (case side1 => exact ca_ (Kd.C_below HR234_2.out HB.out)); (case side2 => exact HC234_2.out); rintro e w' ⟨rfl, ⟨nd, rfl⟩⟩; refine ⟨_, rfl, ?_⟩))
        go_roundg k1
        case measure => have := HK1.out; omega
        case rel => exact ⟨(t235), (wrap64 (x5_1 + 1)), sp_, sp_, H', ⟨by have := HK1.out; omega⟩, ⟨bl_⟩⟩
      ·rw [if_neg c8] at H
       have c8b0 : (((rd_T74 l0 x5_1).f1).toList == t233.toList) = false := beq_eq_false_iff_ne.mpr c8
       have c8b1 : (((rd_T74 l0 x5_1).f1).toList != t233.toList) = true := bne_iff_ne.mpr c8
       obtain rfl := Option.some.inj H
       try go_wp2
       have n0_ := Aside0.mk (below_drew1 HB.out)
       clear HB
       have HB := n0_
       clear n0_
       (try clear hHeld)
       have p230 : 0 ≤ (x5_1 : Int) := od_
       have q230 : x5_1 < (l0.length : Int) := od_
       obtain ⟨ad230, A230_2, c230_2, e230, hx230_0, hx230_1, hx230_2, hl230_2, hi230_2⟩ := at_T74 HR0.out x5_1 p230 q230
       have hw230_2 := hx230_2
       have hw230_1 := hx230_1
       have hw230_0 := hx230_0
       cases e230
       replace hx230_0 := kc_ HB hx230_0
       replace hx230_1 := kc_ HB hx230_1
       replace hx230_2 := kc_ HB hx230_2
       have HR230_2 := Aside0.mk hi230_2
       have HC230_2 := Aside0.mk hl230_2
       clear hi230_2 hl230_2
       replace p230 := eq_true p230
       replace q230 := eq_true q230
       refine start_ (n := 8) (S := fun w' => w'.cell? (ad230.add ((x5_1).toNat * 3)) = some (.string ((rd_T74 l0 x5_1).f0)) ∧ w'.cell? ⟨(ad230.add ((x5_1).toNat * 3)).block, (ad230.add ((x5_1).toNat * 3)).off + 1, none⟩ = some (.string ((rd_T74 l0 x5_1).f1)) ∧ w'.cell? ⟨(ad230.add ((x5_1).toNat * 3)).block, (ad230.add ((x5_1).toNat * 3)).off + 2, none⟩ = some (.slice A230_2 ((rd_T74 l0 x5_1).f2).length c230_2)) (ds := []) tb8_0_8 (by kernel_rfl) rfl rfl ⟨(kc_ HB hw230_0), (kc_ HB hw230_1), (kc_ HB hw230_2)⟩ (fun hHeld => ?_); refine with_tabW laws_heldSlotS.tab4 laws_heldSlotS.bits4 (fun HT_ HW_ => ?_)
       generalize wr.drew = w19 at HB HR230_2 hx230_0 hx230_1 hx230_2 hHeld ⊢
       refine pl_ HT_ 0 12 tb8_1_8 ?_
       refine pl_ HT_ 1 13 tb8_3_8 ?_
       refine pl_ HT_ 2 14 tb8_7_8 ?_
       refine pl_ HT_ 3 15 tb8_f_8 ?_
       refine pl_ HT_ 5 17 tb8_2f_8 ?_
       refine take_ (i := 4) (N := some 16) (v := ?_) (a' := ?_) tb8_3f_8 rfl rfl (take_ofW HT_.out HW_.out (by kernel_rfl)) (fun _ _ _ h => h) (Or.inl ⟨by rfl, ?_⟩) hHeld ?_ ?_
       rotate_left
       ·rintro w' ⟨s0, s1, s2⟩
        go_simp
        with_reducible rfl
       rotate_left
       ·simp only [Act.put, q_]
        rfl
       refine one_ (i := 6) (N := some 18) tb8_7f_8 rfl rfl (one_of HT_.out (by kernel_rfl)) (by decide) (fun K hK => ?_)
       refine goes_ Try.func81 (by kernel_rfl) rfl #[.int .i64 x1_1] (by rfl) rfl rfl gl_ ?_
       with_reducible refine (laws_markText.calls k1 x1_1 t231 _ A5.out).mono ?_
       rintro e w20 ⟨rfl, hb⟩
       refine ⟨_, rfl, ?_⟩
       have n0_ := Aside0.mk (below_step bl_ hb)
       clear HB
       have HB := n0_
       clear n0_
       (try clear hb)
       (try clear hb2)
       (try clear hk)
       (try clear hi)
       refine hK.out _ _ ⟨(kc_ HB hw230_0), (kc_ HB hw230_1), (kc_ HB hw230_2)⟩ (fun hHeld => ?_)
       clear hK K
       refine norm_ (a' := ?_) ?_ ?_
       rotate_left
       ·show Act.put _ (some 18) _ = _
        simp only [Act.put, q_]
        rfl
       refine pl_ HT_ 7 19 tb8_ff_8 ?_
       refine done_ (done_of HT_.out (by kernel_rfl)) ?_
       try go_wp2
       have n0_ := Aside0.mk (below_drew1 HB.out)
       clear HB
       have HB := n0_
       clear n0_
       (try clear hHeld)
       have p232 : 0 ≤ (x5_1 : Int) := od_
       have q232 : x5_1 < (l0.length : Int) := od_
       obtain ⟨ad232, A232_2, c232_2, e232, hx232_0, hx232_1, hx232_2, hl232_2, hi232_2⟩ := at_T74 HR0.out x5_1 p232 q232
       have hw232_2 := hx232_2
       have hw232_1 := hx232_1
       have hw232_0 := hx232_0
       obtain rfl : ad230 = ad232 := (by injection e232)
       replace hx232_0 := kc_ HB hx232_0
       replace hx232_1 := kc_ HB hx232_1
       replace hx232_2 := kc_ HB hx232_2
       have HR232_2 := Aside0.mk hi232_2
       have HC232_2 := Aside0.mk hl232_2
       clear hi232_2 hl232_2
       replace p232 := eq_true p232
       replace q232 := eq_true q232
       refine start_ (n := 8) (S := fun w' => w'.cell? (ad230.add ((x5_1).toNat * 3)) = some (.string ((rd_T74 l0 x5_1).f0)) ∧ w'.cell? ⟨(ad230.add ((x5_1).toNat * 3)).block, (ad230.add ((x5_1).toNat * 3)).off + 1, none⟩ = some (.string ((rd_T74 l0 x5_1).f1)) ∧ w'.cell? ⟨(ad230.add ((x5_1).toNat * 3)).block, (ad230.add ((x5_1).toNat * 3)).off + 2, none⟩ = some (.slice A232_2 ((rd_T74 l0 x5_1).f2).length c232_2)) (ds := []) tb8_0_8 (by kernel_rfl) rfl rfl ⟨(kc_ HB hw232_0), (kc_ HB hw232_1), (kc_ HB hw232_2)⟩ (fun hHeld => ?_); refine with_tabW laws_heldSlotS.tab7 laws_heldSlotS.bits7 (fun HT_ HW_ => ?_)
       generalize w20.drew = w21 at HB HR232_2 hx232_0 hx232_1 hx232_2 hHeld ⊢
       refine pl_ HT_ 0 22 tb8_1_8 ?_
       refine pl_ HT_ 1 23 tb8_3_8 ?_
       refine pl_ HT_ 2 24 tb8_7_8 ?_
       refine pl_ HT_ 3 25 tb8_f_8 ?_
       refine pl_ HT_ 5 27 tb8_2f_8 ?_
       refine take_ (i := 4) (N := some 26) (v := ?_) (a' := ?_) tb8_3f_8 rfl rfl (take_ofW HT_.out HW_.out (by kernel_rfl)) (fun _ _ _ h => h) (Or.inl ⟨by rfl, ?_⟩) hHeld ?_ ?_
       rotate_left
       ·rintro w' ⟨s0, s1, s2⟩
        go_simp
        with_reducible rfl
       rotate_left
       ·simp only [Act.put, q_]
        rfl
       refine one_ (i := 6) (N := some 28) tb8_7f_8 rfl rfl (one_of HT_.out (by kernel_rfl)) (by decide) (fun K hK => ?_)
       refine goes_ Try.func81 (by kernel_rfl) rfl #[.int .i64 (wrap64 (x1_1 + 1))] (by rfl) rfl rfl gl_ ?_
       with_reducible refine (laws_markText.calls k1 (wrap64 (x1_1 + 1)) t233 _ A7.out).mono ?_
       rintro e w22 ⟨rfl, hb⟩
       refine ⟨_, rfl, ?_⟩
       have n0_ := Aside0.mk (below_step bl_ hb)
       clear HB
       have HB := n0_
       clear n0_
       (try clear hb)
       (try clear hb2)
       (try clear hk)
       (try clear hi)
       refine hK.out _ _ ⟨(kc_ HB hw232_0), (kc_ HB hw232_1), (kc_ HB hw232_2)⟩ (fun hHeld => ?_)
       clear hK K
       refine norm_ (a' := ?_) ?_ ?_
       rotate_left
       ·show Act.put _ (some 28) _ = _
        simp only [Act.put, q_]
        rfl
       refine pl_ HT_ 7 29 tb8_ff_8 ?_
       refine done_ (done_of HT_.out (by kernel_rfl)) ?_
       try go_wp2
       go_ret
       exact ⟨sq_, bl_⟩
     ·rw [if_neg c6] at H
      have c6b0 : (((rd_T74 l0 x5_1).f0).toList == t231.toList) = false := beq_eq_false_iff_ne.mpr c6
      have c6b1 : (((rd_T74 l0 x5_1).f0).toList != t231.toList) = true := bne_iff_ne.mpr c6
      obtain rfl := Option.some.inj H
      try go_wp2
      have n0_ := Aside0.mk (below_drew1 HB.out)
      clear HB
      have HB := n0_
      clear n0_
      (try clear hHeld)
      have p230 : 0 ≤ (x5_1 : Int) := od_
      have q230 : x5_1 < (l0.length : Int) := od_
      obtain ⟨ad230, A230_2, c230_2, e230, hx230_0, hx230_1, hx230_2, hl230_2, hi230_2⟩ := at_T74 HR0.out x5_1 p230 q230
      have hw230_2 := hx230_2
      have hw230_1 := hx230_1
      have hw230_0 := hx230_0
      cases e230
      replace hx230_0 := kc_ HB hx230_0
      replace hx230_1 := kc_ HB hx230_1
      replace hx230_2 := kc_ HB hx230_2
      have HR230_2 := Aside0.mk hi230_2
      have HC230_2 := Aside0.mk hl230_2
      clear hi230_2 hl230_2
      replace p230 := eq_true p230
      replace q230 := eq_true q230
      refine start_ (n := 8) (S := fun w' => w'.cell? (ad230.add ((x5_1).toNat * 3)) = some (.string ((rd_T74 l0 x5_1).f0)) ∧ w'.cell? ⟨(ad230.add ((x5_1).toNat * 3)).block, (ad230.add ((x5_1).toNat * 3)).off + 1, none⟩ = some (.string ((rd_T74 l0 x5_1).f1)) ∧ w'.cell? ⟨(ad230.add ((x5_1).toNat * 3)).block, (ad230.add ((x5_1).toNat * 3)).off + 2, none⟩ = some (.slice A230_2 ((rd_T74 l0 x5_1).f2).length c230_2)) (ds := []) tb8_0_8 (by kernel_rfl) rfl rfl ⟨(kc_ HB hw230_0), (kc_ HB hw230_1), (kc_ HB hw230_2)⟩ (fun hHeld => ?_); refine with_tabW laws_heldSlotS.tab4 laws_heldSlotS.bits4 (fun HT_ HW_ => ?_)
      generalize wr.drew = w23 at HB HR230_2 hx230_0 hx230_1 hx230_2 hHeld ⊢
      refine pl_ HT_ 0 12 tb8_1_8 ?_
      refine pl_ HT_ 1 13 tb8_3_8 ?_
      refine pl_ HT_ 2 14 tb8_7_8 ?_
      refine pl_ HT_ 3 15 tb8_f_8 ?_
      refine pl_ HT_ 5 17 tb8_2f_8 ?_
      refine take_ (i := 4) (N := some 16) (v := ?_) (a' := ?_) tb8_3f_8 rfl rfl (take_ofW HT_.out HW_.out (by kernel_rfl)) (fun _ _ _ h => h) (Or.inl ⟨by rfl, ?_⟩) hHeld ?_ ?_
      rotate_left
      ·rintro w' ⟨s0, s1, s2⟩
       go_simp
       with_reducible rfl
      rotate_left
      ·simp only [Act.put, q_]
       rfl
      refine one_ (i := 6) (N := some 18) tb8_7f_8 rfl rfl (one_of HT_.out (by kernel_rfl)) (by decide) (fun K hK => ?_)
      refine goes_ Try.func81 (by kernel_rfl) rfl #[.int .i64 x1_1] (by rfl) rfl rfl gl_ ?_
      with_reducible refine (laws_markText.calls k1 x1_1 t231 _ A5.out).mono ?_
      rintro e w24 ⟨rfl, hb⟩
      refine ⟨_, rfl, ?_⟩
      have n0_ := Aside0.mk (below_step bl_ hb)
      clear HB
      have HB := n0_
      clear n0_
      (try clear hb)
      (try clear hb2)
      (try clear hk)
      (try clear hi)
      refine hK.out _ _ ⟨(kc_ HB hw230_0), (kc_ HB hw230_1), (kc_ HB hw230_2)⟩ (fun hHeld => ?_)
      clear hK K
      refine norm_ (a' := ?_) ?_ ?_
      rotate_left
      ·show Act.put _ (some 18) _ = _
       simp only [Act.put, q_]
       rfl
      refine pl_ HT_ 7 19 tb8_ff_8 ?_
      refine done_ (done_of HT_.out (by kernel_rfl)) ?_
      try go_wp2
      go_ret
      exact ⟨sq_, bl_⟩
    ·rw [if_neg c4] at H
     exact absurd H (by simp)
   ·rw [if_neg c3] at H
    have c3b0 : decide (x5_1 < (l0.length : Int)) = false := decide_eq_false c3
    clear c3
    obtain rfl := Option.some.inj H
    go_wp2
    go_ret
    exact ⟨sq_, bl_⟩
end Go.Proofs.Ytepjnalkpfnmcaa.QFnExactSlotPut
