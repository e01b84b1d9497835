-- by my own printer (myprint.py, over the kit's print.py)
import Derived.Test.YtgcggfoailaalaaQFnExactBookOkx0
import Derived.Test.YtgcggfoailaalaaQFnExactBookOkx1
import Derived.Test.YtgcggfoailaalaaQFnExactBookOkx7
import Derived.Test.YtgcggfoailaalaaQFnExactBookOkx9
import Derived.Test.YtgcggfoailaalaaQFnExactBookOkx14
import Derived.Test.YtgcggfoailaalaaQFnExactBookOkx16
namespace Go.Proofs.Ytgcggfoailaalaa.QFnExactBookOk
open Go.RowKit Go.Proofs.YtgcggfoailaalaaW.PrintWords Go.Proofs.YtgcggfoailaalaaW.PrintLast Go.Proofs.YtgcggfoailaalaaW.PrintMore
attribute [local go_sem] max2_int min2_int max_two min_two max_three min_three max_four min_four   -- for this text's walks alone
set_option linter.unusedVariables false
set_option linter.unusedSimpArgs false
attribute [local go_sem] my_geq my_leq my_gtr
abbrev tb10_0_17 : Array Bool := #[b0, b0, b0, b0, b0, b0, b0, b0, b0, b0]
abbrev tb10_1_17 : Array Bool := #[b1, b0, b0, b0, b0, b0, b0, b0, b0, b0]
abbrev tb10_17_17 : Array Bool := #[b1, b1, b1, b0, b1, b0, b0, b0, b0, b0]
abbrev tb10_1ff_17 : Array Bool := #[b1, b1, b1, b1, b1, b1, b1, b1, b1, b0]
abbrev tb10_3_17 : Array Bool := #[b1, b1, b0, b0, b0, b0, b0, b0, b0, b0]
abbrev tb10_37_17 : Array Bool := #[b1, b1, b1, b0, b1, b1, b0, b0, b0, b0]
abbrev tb10_3ff_17 : Array Bool := #[b1, b1, b1, b1, b1, b1, b1, b1, b1, b1]
abbrev tb10_7_17 : Array Bool := #[b1, b1, b1, b0, b0, b0, b0, b0, b0, b0]
abbrev tb10_77_17 : Array Bool := #[b1, b1, b1, b0, b1, b1, b1, b0, b0, b0]
abbrev tb10_7f_17 : Array Bool := #[b1, b1, b1, b1, b1, b1, b1, b0, b0, b0]
abbrev tb10_ff_17 : Array Bool := #[b1, b1, b1, b1, b1, b1, b1, b1, b0, b0]
/-! ### laws_eqAcctS: function 95 -/
def laws_eqAcctS.l0 : Nat → List (S48) → List (S48) → Int → Option (Bool)
 | 0, _, _, _ => none
 | k + 1, x0, x1, x5 => if x5 < (x0.length : Int) then (if 0 ≤ x5 then (if x5 < (x1.length : Int) then ((laws_eqAcct.f k ((rd_T48 x0 x5).f0) ((rd_T48 x0 x5).f1) ((rd_T48 x0 x5).f2) ((rd_T48 x0 x5).f3) ((rd_T48 x0 x5).f4) ((rd_T48 x0 x5).f5) ((rd_T48 x0 x5).f6.f0) ((rd_T48 x0 x5).f6.f1) ((rd_T48 x0 x5).f6.f2) ((rd_T48 x0 x5).f6.f3) ((rd_T48 x0 x5).f7) ((rd_T48 x1 x5).f0) ((rd_T48 x1 x5).f1) ((rd_T48 x1 x5).f2) ((rd_T48 x1 x5).f3) ((rd_T48 x1 x5).f4) ((rd_T48 x1 x5).f5) ((rd_T48 x1 x5).f6.f0) ((rd_T48 x1 x5).f6.f1) ((rd_T48 x1 x5).f6.f2) ((rd_T48 x1 x5).f6.f3) ((rd_T48 x1 x5).f7)).bind fun t368 => (if t368 = true then (laws_eqAcctS.l0 k x0 x1 (wrap64 (x5 + 1))) else (some false))) else (none)) else (none)) else (some true)
def laws_eqAcctS.f (k : Nat) (l0 : List (S48)) (l1 : List (S48)) : Option (Bool) := if (l0.length : Int) = (l1.length : Int) then (laws_eqAcctS.l0 k l0 l1 0) else (some false)
theorem laws_eqAcctS.mono_l : ∀ k, (∀ y0 y1 y2, LeO (laws_eqAcctS.l0 k y0 y1 y2) (laws_eqAcctS.l0 (k + 1) y0 y1 y2))
 | 0 => fun _ _ _ r h => by simp [laws_eqAcctS.l0] at h
 | k + 1 => by
  have ih0 := laws_eqAcctS.mono_l k
  ·intro y0 y1 y2
   unfold laws_eqAcctS.l0
   repeat' first
   | (with_reducible exact ih0 _ _ _)
   | (with_reducible exact laws_eqAcct.mono _ _ _ _ _ _ _ _ _ _ _ _ _ _ _ _ _ _ _ _ _ _ _)
   | (with_reducible exact LeO.refl _)
   | (with_reducible exact LeO.none _)
   | (with_reducible refine LeO.ite ?_ ?_)
   | (with_reducible refine LeO.bind ?_ (fun _ => ?_))
theorem laws_eqAcctS.mono : ∀ a0 a1 k, LeO (laws_eqAcctS.f k a0 a1) (laws_eqAcctS.f (k + 1) a0 a1) := by
 intro a0 a1 k
 have ih0 := laws_eqAcctS.mono_l k
 unfold laws_eqAcctS.f
 repeat' first
   | (with_reducible exact ih0 _ _ _)
   | (with_reducible exact laws_eqAcct.mono _ _ _ _ _ _ _ _ _ _ _ _ _ _ _ _ _ _ _ _ _ _ _)
   | (with_reducible exact LeO.refl _)
   | (with_reducible exact LeO.none _)
   | (with_reducible refine LeO.ite ?_ ?_)
   | (with_reducible refine LeO.bind ?_ (fun _ => ?_))
def laws_eqAcctS.T6 : Bool × List (List Nat × List Nat) := (true, [([], []), ([], []), ([0, 1], [0, 1]), ([2], [2]), ([], []), ([], []), ([4, 5], [4, 5]), ([6], [6]), ([3, 7], [3, 7]), ([8], [8])])
def laws_eqAcctS.B6 : List Nat := [0, 0, 3, 7, 0, 0, 48, 112, 255, 511]
theorem laws_eqAcctS.tab6 : rtab .any (opsOf Try.f95 6) = laws_eqAcctS.T6 := by kernel_rfl
theorem laws_eqAcctS.bits6 : waitsOk laws_eqAcctS.T6.2 laws_eqAcctS.B6 = true := by kernel_rfl
set_option maxHeartbeats 8000000 in
set_option maxRecDepth 100000 in
theorem laws_eqAcctS.calls (k : Nat) (A0 : Option Addr) (c0 : Nat) (l0 : List (S48)) (A1 : Option Addr) (c1 : Nat) (l1 : List (S48)) (r : Bool) (w : World) (hr0 : Kd.C k48 w A0 l0.length l0) (hc0 : l0.length ≤ c0) (hr1 : Kd.C k48 w A1 l1.length l1) (hc1 : l1.length ≤ c1) (h : laws_eqAcctS.f k l0 l1 = some r) :
  Calls Try.prog 95 #[.slice A0 l0.length c0, .slice A1 l1.length c1] w fun e w' => e = .returned (.bool r) ∧ Below w.heap.size w w' := by
 have hu48 := Try.underlying48
 have HR0 := Aside0.mk hr0
 have HC0 := Aside0.mk hc0
 clear hr0 hc0
 have HR1 := Aside0.mk hr1
 have HC1 := Aside0.mk hc1
 clear hr1 hc1
 have HB := Aside0.mk (Below.refl w.heap.size w)
 have H : (if (l0.length : Int) = (l1.length : Int) then (laws_eqAcctS.l0 k l0 l1 0) else (some false)) = some r := h
 clear h
 by_cases c3 : (l0.length : Int) = (l1.length : Int)
 ·rw [if_pos c3] at H
  have c3b0 : ((l0.length : Int) == (l1.length : Int)) = true := beq_iff_eq.mpr c3
  have c3b1 : ((l0.length : Int) != (l1.length : Int)) = false := bne_eq_false_iff_eq.mpr c3
  have c3b2 : (l0.length == l1.length) = true := by first | simpa using c3 | (simp at c3 ⊢; omega)
  clear c3
  have H' := Aside0.mk H
  clear H
  go_enter Try.func95, Try.ntmps95
  go_wp2
  go_loopg [5] k (fun kq v5 w' => ∃ (x5_1 : Int), v5 = .int .i64 x5_1 ∧ Aside0 (laws_eqAcctS.l0 kq l0 l1 x5_1 = some r) ∧ Aside0 (kq ≤ k) ∧ Aside0 (Below w.heap.size w w'))
  case atStart => exact ⟨(0), sp_, H', ⟨Nat.le_refl _⟩, ⟨bl_⟩⟩
  case round =>
   clear H'
   try clear c1
   try clear p2
   try clear c3
   try clear c3b0
   try clear c3b1
   try clear c3b2
   obtain ⟨x5_1, rfl, HA, HK1, HB⟩ := hrel
   cases gk with
   | zero => exact absurd HA.out (by simp [laws_eqAcctS.l0])
   | succ k1 =>
    have H := HA.out
    clear HA
    simp only [laws_eqAcctS.l0] at H
    by_cases c4 : x5_1 < (l0.length : Int)
    ·rw [if_pos c4] at H
     have c4b0 : decide (x5_1 < (l0.length : Int)) = true := decide_eq_true c4
     clear c4
     by_cases c5 : 0 ≤ x5_1
     ·rw [if_pos c5] at H
      have c5b0 : decide (0 ≤ x5_1) = true := decide_eq_true c5
      clear c5
      by_cases c6 : x5_1 < (l1.length : Int)
      ·rw [if_pos c6] at H
       have c6b0 : decide (x5_1 < (l1.length : Int)) = true := decide_eq_true c6
       clear c6
       replace H := Option.bind_eq_some_iff.mp H
       obtain ⟨t368, A70, H⟩ := H
       replace H : (if t368 = true then (laws_eqAcctS.l0 k1 l0 l1 (wrap64 (x5_1 + 1))) else (some false)) = some r := H
       have A7 := Aside0.mk A70
       clear A70
       by_cases c8 : t368 = true
       ·subst c8
        have H1 : (laws_eqAcctS.l0 k1 l0 l1 (wrap64 (x5_1 + 1))) = some r := by rw [if_pos rfl] at H; exact H
        clear H
        have H := H1
        clear H1
        have H' := Aside0.mk H
        clear H
        try go_wp2
        have n0_ := Aside0.mk (below_drew1 HB.out)
        clear HB
        have HB := n0_
        clear n0_
        have p366 : 0 ≤ (x5_1 : Int) := od_
        have q366 : x5_1 < (l0.length : Int) := od_
        obtain ⟨ad366, A366_5, c366_5, A366_8, c366_8, A366_9, c366_9, A366_10, c366_10, e366, hx366_0, hx366_1, hx366_2, hx366_3, hx366_4, hx366_5, hx366_6, hx366_7, hx366_8, hx366_9, hx366_10, hl366_5, hi366_5, hl366_8, hi366_8, hl366_9, hi366_9, hl366_10, hi366_10⟩ := at_T48 HR0.out x5_1 p366 q366
        have hw366_10 := hx366_10
        have hw366_9 := hx366_9
        have hw366_8 := hx366_8
        have hw366_7 := hx366_7
        have hw366_6 := hx366_6
        have hw366_5 := hx366_5
        have hw366_4 := hx366_4
        have hw366_3 := hx366_3
        have hw366_2 := hx366_2
        have hw366_1 := hx366_1
        have hw366_0 := hx366_0
        cases e366
        replace hx366_0 := kc_ HB hx366_0
        replace hx366_1 := kc_ HB hx366_1
        replace hx366_2 := kc_ HB hx366_2
        replace hx366_3 := kc_ HB hx366_3
        replace hx366_4 := kc_ HB hx366_4
        replace hx366_5 := kc_ HB hx366_5
        replace hx366_6 := kc_ HB hx366_6
        replace hx366_7 := kc_ HB hx366_7
        replace hx366_8 := kc_ HB hx366_8
        replace hx366_9 := kc_ HB hx366_9
        replace hx366_10 := kc_ HB hx366_10
        have HR366_5 := Aside0.mk hi366_5
        have HC366_5 := Aside0.mk hl366_5
        clear hi366_5 hl366_5
        have HR366_8 := Aside0.mk hi366_8
        have HC366_8 := Aside0.mk hl366_8
        clear hi366_8 hl366_8
        have HR366_9 := Aside0.mk hi366_9
        have HC366_9 := Aside0.mk hl366_9
        clear hi366_9 hl366_9
        have HR366_10 := Aside0.mk hi366_10
        have HC366_10 := Aside0.mk hl366_10
        clear hi366_10 hl366_10
        replace p366 := eq_true p366
        replace q366 := eq_true q366
        have p367 : 0 ≤ (x5_1 : Int) := od_
        have q367 : x5_1 < (l1.length : Int) := od_
        obtain ⟨ad367, A367_5, c367_5, A367_8, c367_8, A367_9, c367_9, A367_10, c367_10, e367, hx367_0, hx367_1, hx367_2, hx367_3, hx367_4, hx367_5, hx367_6, hx367_7, hx367_8, hx367_9, hx367_10, hl367_5, hi367_5, hl367_8, hi367_8, hl367_9, hi367_9, hl367_10, hi367_10⟩ := at_T48 HR1.out x5_1 p367 q367
        have hw367_10 := hx367_10
        have hw367_9 := hx367_9
        have hw367_8 := hx367_8
        have hw367_7 := hx367_7
        have hw367_6 := hx367_6
        have hw367_5 := hx367_5
        have hw367_4 := hx367_4
        have hw367_3 := hx367_3
        have hw367_2 := hx367_2
        have hw367_1 := hx367_1
        have hw367_0 := hx367_0
        cases e367
        replace hx367_0 := kc_ HB hx367_0
        replace hx367_1 := kc_ HB hx367_1
        replace hx367_2 := kc_ HB hx367_2
        replace hx367_3 := kc_ HB hx367_3
        replace hx367_4 := kc_ HB hx367_4
        replace hx367_5 := kc_ HB hx367_5
        replace hx367_6 := kc_ HB hx367_6
        replace hx367_7 := kc_ HB hx367_7
        replace hx367_8 := kc_ HB hx367_8
        replace hx367_9 := kc_ HB hx367_9
        replace hx367_10 := kc_ HB hx367_10
        have HR367_5 := Aside0.mk hi367_5
        have HC367_5 := Aside0.mk hl367_5
        clear hi367_5 hl367_5
        have HR367_8 := Aside0.mk hi367_8
        have HC367_8 := Aside0.mk hl367_8
        clear hi367_8 hl367_8
        have HR367_9 := Aside0.mk hi367_9
        have HC367_9 := Aside0.mk hl367_9
        clear hi367_9 hl367_9
        have HR367_10 := Aside0.mk hi367_10
        have HC367_10 := Aside0.mk hl367_10
        clear hi367_10 hl367_10
        replace p367 := eq_true p367
        replace q367 := eq_true q367
        refine start_ (n := 10) (S := fun w' => w'.cell? (ad366.add ((x5_1).toNat * 11)) = some (.string ((rd_T48 l0 x5_1).f0)) ∧ w'.cell? ⟨(ad366.add ((x5_1).toNat * 11)).block, (ad366.add ((x5_1).toNat * 11)).off + 1, none⟩ = some (.int .i64 ((rd_T48 l0 x5_1).f1)) ∧ w'.cell? ⟨(ad366.add ((x5_1).toNat * 11)).block, (ad366.add ((x5_1).toNat * 11)).off + 2, none⟩ = some (.int .i64 ((rd_T48 l0 x5_1).f2)) ∧ w'.cell? ⟨(ad366.add ((x5_1).toNat * 11)).block, (ad366.add ((x5_1).toNat * 11)).off + 3, none⟩ = some (.int .i64 ((rd_T48 l0 x5_1).f3)) ∧ w'.cell? ⟨(ad366.add ((x5_1).toNat * 11)).block, (ad366.add ((x5_1).toNat * 11)).off + 4, none⟩ = some (.int .i64 ((rd_T48 l0 x5_1).f4)) ∧ w'.cell? ⟨(ad366.add ((x5_1).toNat * 11)).block, (ad366.add ((x5_1).toNat * 11)).off + 5, none⟩ = some (.slice A366_5 ((rd_T48 l0 x5_1).f5).length c366_5) ∧ w'.cell? ⟨(ad366.add ((x5_1).toNat * 11)).block, (ad366.add ((x5_1).toNat * 11)).off + 6, none⟩ = some (.int .i64 ((rd_T48 l0 x5_1).f6.f0)) ∧ w'.cell? ⟨(ad366.add ((x5_1).toNat * 11)).block, (ad366.add ((x5_1).toNat * 11)).off + 7, none⟩ = some (.int .i64 ((rd_T48 l0 x5_1).f6.f1)) ∧ w'.cell? ⟨(ad366.add ((x5_1).toNat * 11)).block, (ad366.add ((x5_1).toNat * 11)).off + 8, none⟩ = some (.slice A366_8 ((rd_T48 l0 x5_1).f6.f2).length c366_8) ∧ w'.cell? ⟨(ad366.add ((x5_1).toNat * 11)).block, (ad366.add ((x5_1).toNat * 11)).off + 9, none⟩ = some (.slice A366_9 ((rd_T48 l0 x5_1).f6.f3).length c366_9) ∧ w'.cell? ⟨(ad366.add ((x5_1).toNat * 11)).block, (ad366.add ((x5_1).toNat * 11)).off + 10, none⟩ = some (.slice A366_10 ((rd_T48 l0 x5_1).f7).length c366_10) ∧ w'.cell? (ad367.add ((x5_1).toNat * 11)) = some (.string ((rd_T48 l1 x5_1).f0)) ∧ w'.cell? ⟨(ad367.add ((x5_1).toNat * 11)).block, (ad367.add ((x5_1).toNat * 11)).off + 1, none⟩ = some (.int .i64 ((rd_T48 l1 x5_1).f1)) ∧ w'.cell? ⟨(ad367.add ((x5_1).toNat * 11)).block, (ad367.add ((x5_1).toNat * 11)).off + 2, none⟩ = some (.int .i64 ((rd_T48 l1 x5_1).f2)) ∧ w'.cell? ⟨(ad367.add ((x5_1).toNat * 11)).block, (ad367.add ((x5_1).toNat * 11)).off + 3, none⟩ = some (.int .i64 ((rd_T48 l1 x5_1).f3)) ∧ w'.cell? ⟨(ad367.add ((x5_1).toNat * 11)).block, (ad367.add ((x5_1).toNat * 11)).off + 4, none⟩ = some (.int .i64 ((rd_T48 l1 x5_1).f4)) ∧ w'.cell? ⟨(ad367.add ((x5_1).toNat * 11)).block, (ad367.add ((x5_1).toNat * 11)).off + 5, none⟩ = some (.slice A367_5 ((rd_T48 l1 x5_1).f5).length c367_5) ∧ w'.cell? ⟨(ad367.add ((x5_1).toNat * 11)).block, (ad367.add ((x5_1).toNat * 11)).off + 6, none⟩ = some (.int .i64 ((rd_T48 l1 x5_1).f6.f0)) ∧ w'.cell? ⟨(ad367.add ((x5_1).toNat * 11)).block, (ad367.add ((x5_1).toNat * 11)).off + 7, none⟩ = some (.int .i64 ((rd_T48 l1 x5_1).f6.f1)) ∧ w'.cell? ⟨(ad367.add ((x5_1).toNat * 11)).block, (ad367.add ((x5_1).toNat * 11)).off + 8, none⟩ = some (.slice A367_8 ((rd_T48 l1 x5_1).f6.f2).length c367_8) ∧ w'.cell? ⟨(ad367.add ((x5_1).toNat * 11)).block, (ad367.add ((x5_1).toNat * 11)).off + 9, none⟩ = some (.slice A367_9 ((rd_T48 l1 x5_1).f6.f3).length c367_9) ∧ w'.cell? ⟨(ad367.add ((x5_1).toNat * 11)).block, (ad367.add ((x5_1).toNat * 11)).off + 10, none⟩ = some (.slice A367_10 ((rd_T48 l1 x5_1).f7).length c367_10)) (ds := []) tb10_0_17 (by kernel_rfl) rfl rfl ⟨(kc_ HB hw366_0), (kc_ HB hw366_1), (kc_ HB hw366_2), (kc_ HB hw366_3), (kc_ HB hw366_4), (kc_ HB hw366_5), (kc_ HB hw366_6), (kc_ HB hw366_7), (kc_ HB hw366_8), (kc_ HB hw366_9), (kc_ HB hw366_10), (kc_ HB hw367_0), (kc_ HB hw367_1), (kc_ HB hw367_2), (kc_ HB hw367_3), (kc_ HB hw367_4), (kc_ HB hw367_5), (kc_ HB hw367_6), (kc_ HB hw367_7), (kc_ HB hw367_8), (kc_ HB hw367_9), (kc_ HB hw367_10)⟩ (fun hHeld => ?_); refine with_tabW laws_eqAcctS.tab6 laws_eqAcctS.bits6 (fun HT_ HW_ => ?_)
        generalize wr.drew = w9 at HB HR366_10 HR366_5 HR366_8 HR366_9 HR367_10 HR367_5 HR367_8 HR367_9 hx366_0 hx366_1 hx366_10 hx366_2 hx366_3 hx366_4 hx366_5 hx366_6 hx366_7 hx366_8 hx366_9 hx367_0 hx367_1 hx367_10 hx367_2 hx367_3 hx367_4 hx367_5 hx367_6 hx367_7 hx367_8 hx367_9 hHeld ⊢
        refine pl_ HT_ 0 17 tb10_1_17 ?_
        refine pl_ HT_ 1 18 tb10_3_17 ?_
        refine pl_ HT_ 2 19 tb10_7_17 ?_
        refine pl_ HT_ 4 21 tb10_17_17 ?_
        refine pl_ HT_ 5 22 tb10_37_17 ?_
        refine pl_ HT_ 6 23 tb10_77_17 ?_
        refine take_ (i := 3) (N := some 20) (v := ?_) (a' := ?_) tb10_7f_17 rfl rfl (take_ofW HT_.out HW_.out (by kernel_rfl)) (fun _ _ _ h => h) (Or.inl ⟨by rfl, ?_⟩) hHeld ?_ ?_
        rotate_left
        ·rintro w' ⟨s0, s1, s2, s3, s4, s5, s6, s7, s8, s9, s10, s11, s12, s13, s14, s15, s16, s17, s18, s19, s20, s21⟩
         go_simp
         with_reducible rfl
        rotate_left
        ·simp only [Act.put, q_]
         rfl
        refine take_ (i := 7) (N := some 24) (v := ?_) (a' := ?_) tb10_ff_17 rfl rfl (take_ofW HT_.out HW_.out (by kernel_rfl)) (fun _ _ _ h => h) (Or.inl ⟨by rfl, ?_⟩) hHeld ?_ ?_
        rotate_left
        ·rintro w' ⟨s0, s1, s2, s3, s4, s5, s6, s7, s8, s9, s10, s11, s12, s13, s14, s15, s16, s17, s18, s19, s20, s21⟩
         go_simp
         with_reducible rfl
        rotate_left
        ·simp only [Act.put, q_]
         rfl
        refine one_ (i := 8) (N := some 25) tb10_1ff_17 rfl rfl (one_of HT_.out (by kernel_rfl)) (by decide) (fun K hK => ?_)
        refine goes_ Try.func21 (by kernel_rfl) rfl #[.agg #[.string ((rd_T48 l0 x5_1).f0), .int .i64 ((rd_T48 l0 x5_1).f1), .int .i64 ((rd_T48 l0 x5_1).f2), .int .i64 ((rd_T48 l0 x5_1).f3), .int .i64 ((rd_T48 l0 x5_1).f4), .slice A366_5 ((rd_T48 l0 x5_1).f5).length c366_5, .int .i64 ((rd_T48 l0 x5_1).f6.f0), .int .i64 ((rd_T48 l0 x5_1).f6.f1), .slice A366_8 ((rd_T48 l0 x5_1).f6.f2).length c366_8, .slice A366_9 ((rd_T48 l0 x5_1).f6.f3).length c366_9, .slice A366_10 ((rd_T48 l0 x5_1).f7).length c366_10], .agg #[.string ((rd_T48 l1 x5_1).f0), .int .i64 ((rd_T48 l1 x5_1).f1), .int .i64 ((rd_T48 l1 x5_1).f2), .int .i64 ((rd_T48 l1 x5_1).f3), .int .i64 ((rd_T48 l1 x5_1).f4), .slice A367_5 ((rd_T48 l1 x5_1).f5).length c367_5, .int .i64 ((rd_T48 l1 x5_1).f6.f0), .int .i64 ((rd_T48 l1 x5_1).f6.f1), .slice A367_8 ((rd_T48 l1 x5_1).f6.f2).length c367_8, .slice A367_9 ((rd_T48 l1 x5_1).f6.f3).length c367_9, .slice A367_10 ((rd_T48 l1 x5_1).f7).length c367_10]] (by rfl) rfl rfl gl_ ?_
        with_reducible refine (laws_eqAcct.calls k1 ((rd_T48 l0 x5_1).f0) ((rd_T48 l0 x5_1).f1) ((rd_T48 l0 x5_1).f2) ((rd_T48 l0 x5_1).f3) ((rd_T48 l0 x5_1).f4) _ _ ((rd_T48 l0 x5_1).f5) ((rd_T48 l0 x5_1).f6.f0) ((rd_T48 l0 x5_1).f6.f1) _ _ ((rd_T48 l0 x5_1).f6.f2) _ _ ((rd_T48 l0 x5_1).f6.f3) _ _ ((rd_T48 l0 x5_1).f7) ((rd_T48 l1 x5_1).f0) ((rd_T48 l1 x5_1).f1) ((rd_T48 l1 x5_1).f2) ((rd_T48 l1 x5_1).f3) ((rd_T48 l1 x5_1).f4) _ _ ((rd_T48 l1 x5_1).f5) ((rd_T48 l1 x5_1).f6.f0) ((rd_T48 l1 x5_1).f6.f1) _ _ ((rd_T48 l1 x5_1).f6.f2) _ _ ((rd_T48 l1 x5_1).f6.f3) _ _ ((rd_T48 l1 x5_1).f7) true _ ?side1 ?side2 ?side3 ?side4 ?side5 ?side6 ?side7 ?side8 ?side9 ?side10 ?side11 ?side12 ?side13 ?side14 ?side15 ?side16 A7.out).mono ?_
        (case side1 => exact ca_ (Kd.C_below HR366_5.out HB.out))
        (case side2 => exact HC366_5.out)
        (case side3 => exact ca_ (Kd.C_below HR366_8.out HB.out))
        (case side4 => exact HC366_8.out)
        (case side5 => exact ca_ (Kd.C_below HR366_9.out HB.out))
        (case side6 => exact HC366_9.out)
        (case side7 => exact ca_ (Kd.C_below HR366_10.out HB.out))
        (case side8 => exact HC366_10.out)
        (case side9 => exact ca_ (Kd.C_below HR367_5.out HB.out))
        (case side10 => exact HC367_5.out)
        (case side11 => exact ca_ (Kd.C_below HR367_8.out HB.out))
        (case side12 => exact HC367_8.out)
        (case side13 => exact ca_ (Kd.C_below HR367_9.out HB.out))
        (case side14 => exact HC367_9.out)
        (case side15 => exact ca_ (Kd.C_below HR367_10.out HB.out))
        (case side16 => exact HC367_10.out)
        rintro e w10 ⟨rfl, hb⟩
        refine ⟨_, rfl, ?_⟩
        have n0_ := Aside0.mk (below_step bl_ hb)
        clear HB
        have HB := n0_
        clear n0_
        (try clear hb)
        (try clear hb2)
        (try clear hk)
        (try clear hi)
        refine hK.out _ _ ⟨(kc_ HB hw366_0), (kc_ HB hw366_1), (kc_ HB hw366_2), (kc_ HB hw366_3), (kc_ HB hw366_4), (kc_ HB hw366_5), (kc_ HB hw366_6), (kc_ HB hw366_7), (kc_ HB hw366_8), (kc_ HB hw366_9), (kc_ HB hw366_10), (kc_ HB hw367_0), (kc_ HB hw367_1), (kc_ HB hw367_2), (kc_ HB hw367_3), (kc_ HB hw367_4), (kc_ HB hw367_5), (kc_ HB hw367_6), (kc_ HB hw367_7), (kc_ HB hw367_8), (kc_ HB hw367_9), (kc_ HB hw367_10)⟩ (fun hHeld => ?_)
        clear hK K
        refine norm_ (a' := ?_) ?_ ?_
        rotate_left
        ·show Act.put _ (some 25) _ = _
         simp only [Act.put, q_]
         rfl
        refine pl_ HT_ 9 26 tb10_3ff_17 ?_
        refine done_ (done_of HT_.out (by kernel_rfl)) ?_
        try go_wp2
        go_roundg k1
        case measure => have := HK1.out; omega
        case rel => exact ⟨(wrap64 (x5_1 + 1)), sp_, H', ⟨by have := HK1.out; omega⟩, ⟨bl_⟩⟩
       ·replace c8 := Bool.eq_false_iff.mpr c8
        subst c8
        have H1 : (some false) = some r := by rw [if_neg (show ¬ (false = true) by decide)] at H; exact H
        clear H
        have H := H1
        clear H1
        obtain rfl := Option.some.inj H
        try go_wp2
        have n0_ := Aside0.mk (below_drew1 HB.out)
        clear HB
        have HB := n0_
        clear n0_
        have p366 : 0 ≤ (x5_1 : Int) := od_
        have q366 : x5_1 < (l0.length : Int) := od_
        obtain ⟨ad366, A366_5, c366_5, A366_8, c366_8, A366_9, c366_9, A366_10, c366_10, e366, hx366_0, hx366_1, hx366_2, hx366_3, hx366_4, hx366_5, hx366_6, hx366_7, hx366_8, hx366_9, hx366_10, hl366_5, hi366_5, hl366_8, hi366_8, hl366_9, hi366_9, hl366_10, hi366_10⟩ := at_T48 HR0.out x5_1 p366 q366
        have hw366_10 := hx366_10
        have hw366_9 := hx366_9
        have hw366_8 := hx366_8
        have hw366_7 := hx366_7
        have hw366_6 := hx366_6
        have hw366_5 := hx366_5
        have hw366_4 := hx366_4
        have hw366_3 := hx366_3
        have hw366_2 := hx366_2
        have hw366_1 := hx366_1
        have hw366_0 := hx366_0
        cases e366
        replace hx366_0 := kc_ HB hx366_0
        replace hx366_1 := kc_ HB hx366_1
        replace hx366_2 := kc_ HB hx366_2
        replace hx366_3 := kc_ HB hx366_3
        replace hx366_4 := kc_ HB hx366_4
        replace hx366_5 := kc_ HB hx366_5
        replace hx366_6 := kc_ HB hx366_6
        replace hx366_7 := kc_ HB hx366_7
        replace hx366_8 := kc_ HB hx366_8
        replace hx366_9 := kc_ HB hx366_9
        replace hx366_10 := kc_ HB hx366_10
        have HR366_5 := Aside0.mk hi366_5
        have HC366_5 := Aside0.mk hl366_5
        clear hi366_5 hl366_5
        have HR366_8 := Aside0.mk hi366_8
        have HC366_8 := Aside0.mk hl366_8
        clear hi366_8 hl366_8
        have HR366_9 := Aside0.mk hi366_9
        have HC366_9 := Aside0.mk hl366_9
        clear hi366_9 hl366_9
        have HR366_10 := Aside0.mk hi366_10
        have HC366_10 := Aside0.mk hl366_10
        clear hi366_10 hl366_10
        replace p366 := eq_true p366
        replace q366 := eq_true q366
        have p367 : 0 ≤ (x5_1 : Int) := od_
        have q367 : x5_1 < (l1.length : Int) := od_
        obtain ⟨ad367, A367_5, c367_5, A367_8, c367_8, A367_9, c367_9, A367_10, c367_10, e367, hx367_0, hx367_1, hx367_2, hx367_3, hx367_4, hx367_5, hx367_6, hx367_7, hx367_8, hx367_9, hx367_10, hl367_5, hi367_5, hl367_8, hi367_8, hl367_9, hi367_9, hl367_10, hi367_10⟩ := at_T48 HR1.out x5_1 p367 q367
        have hw367_10 := hx367_10
        have hw367_9 := hx367_9
        have hw367_8 := hx367_8
        have hw367_7 := hx367_7
        have hw367_6 := hx367_6
        have hw367_5 := hx367_5
        have hw367_4 := hx367_4
        have hw367_3 := hx367_3
        have hw367_2 := hx367_2
        have hw367_1 := hx367_1
        have hw367_0 := hx367_0
        cases e367
        replace hx367_0 := kc_ HB hx367_0
        replace hx367_1 := kc_ HB hx367_1
        replace hx367_2 := kc_ HB hx367_2
        replace hx367_3 := kc_ HB hx367_3
        replace hx367_4 := kc_ HB hx367_4
        replace hx367_5 := kc_ HB hx367_5
        replace hx367_6 := kc_ HB hx367_6
        replace hx367_7 := kc_ HB hx367_7
        replace hx367_8 := kc_ HB hx367_8
        replace hx367_9 := kc_ HB hx367_9
        replace hx367_10 := kc_ HB hx367_10
        have HR367_5 := Aside0.mk hi367_5
        have HC367_5 := Aside0.mk hl367_5
        clear hi367_5 hl367_5
        have HR367_8 := Aside0.mk hi367_8
        have HC367_8 := Aside0.mk hl367_8
        clear hi367_8 hl367_8
        have HR367_9 := Aside0.mk hi367_9
        have HC367_9 := Aside0.mk hl367_9
        clear hi367_9 hl367_9
        have HR367_10 := Aside0.mk hi367_10
        have HC367_10 := Aside0.mk hl367_10
        clear hi367_10 hl367_10
        replace p367 := eq_true p367
        replace q367 := eq_true q367
        refine start_ (n := 10) (S := fun w' => w'.cell? (ad366.add ((x5_1).toNat * 11)) = some (.string ((rd_T48 l0 x5_1).f0)) ∧ w'.cell? ⟨(ad366.add ((x5_1).toNat * 11)).block, (ad366.add ((x5_1).toNat * 11)).off + 1, none⟩ = some (.int .i64 ((rd_T48 l0 x5_1).f1)) ∧ w'.cell? ⟨(ad366.add ((x5_1).toNat * 11)).block, (ad366.add ((x5_1).toNat * 11)).off + 2, none⟩ = some (.int .i64 ((rd_T48 l0 x5_1).f2)) ∧ w'.cell? ⟨(ad366.add ((x5_1).toNat * 11)).block, (ad366.add ((x5_1).toNat * 11)).off + 3, none⟩ = some (.int .i64 ((rd_T48 l0 x5_1).f3)) ∧ w'.cell? ⟨(ad366.add ((x5_1).toNat * 11)).block, (ad366.add ((x5_1).toNat * 11)).off + 4, none⟩ = some (.int .i64 ((rd_T48 l0 x5_1).f4)) ∧ w'.cell? ⟨(ad366.add ((x5_1).toNat * 11)).block, (ad366.add ((x5_1).toNat * 11)).off + 5, none⟩ = some (.slice A366_5 ((rd_T48 l0 x5_1).f5).length c366_5) ∧ w'.cell? ⟨(ad366.add ((x5_1).toNat * 11)).block, (ad366.add ((x5_1).toNat * 11)).off + 6, none⟩ = some (.int .i64 ((rd_T48 l0 x5_1).f6.f0)) ∧ w'.cell? ⟨(ad366.add ((x5_1).toNat * 11)).block, (ad366.add ((x5_1).toNat * 11)).off + 7, none⟩ = some (.int .i64 ((rd_T48 l0 x5_1).f6.f1)) ∧ w'.cell? ⟨(ad366.add ((x5_1).toNat * 11)).block, (ad366.add ((x5_1).toNat * 11)).off + 8, none⟩ = some (.slice A366_8 ((rd_T48 l0 x5_1).f6.f2).length c366_8) ∧ w'.cell? ⟨(ad366.add ((x5_1).toNat * 11)).block, (ad366.add ((x5_1).toNat * 11)).off + 9, none⟩ = some (.slice A366_9 ((rd_T48 l0 x5_1).f6.f3).length c366_9) ∧ w'.cell? ⟨(ad366.add ((x5_1).toNat * 11)).block, (ad366.add ((x5_1).toNat * 11)).off + 10, none⟩ = some (.slice A366_10 ((rd_T48 l0 x5_1).f7).length c366_10) ∧ w'.cell? (ad367.add ((x5_1).toNat * 11)) = some (.string ((rd_T48 l1 x5_1).f0)) ∧ w'.cell? ⟨(ad367.add ((x5_1).toNat * 11)).block, (ad367.add ((x5_1).toNat * 11)).off + 1, none⟩ = some (.int .i64 ((rd_T48 l1 x5_1).f1)) ∧ w'.cell? ⟨(ad367.add ((x5_1).toNat * 11)).block, (ad367.add ((x5_1).toNat * 11)).off + 2, none⟩ = some (.int .i64 ((rd_T48 l1 x5_1).f2)) ∧ w'.cell? ⟨(ad367.add ((x5_1).toNat * 11)).block, (ad367.add ((x5_1).toNat * 11)).off + 3, none⟩ = some (.int .i64 ((rd_T48 l1 x5_1).f3)) ∧ w'.cell? ⟨(ad367.add ((x5_1).toNat * 11)).block, (ad367.add ((x5_1).toNat * 11)).off + 4, none⟩ = some (.int .i64 ((rd_T48 l1 x5_1).f4)) ∧ w'.cell? ⟨(ad367.add ((x5_1).toNat * 11)).block, (ad367.add ((x5_1).toNat * 11)).off + 5, none⟩ = some (.slice A367_5 ((rd_T48 l1 x5_1).f5).length c367_5) ∧ w'.cell? ⟨(ad367.add ((x5_1).toNat * 11)).block, (ad367.add ((x5_1).toNat * 11)).off + 6, none⟩ = some (.int .i64 ((rd_T48 l1 x5_1).f6.f0)) ∧ w'.cell? ⟨(ad367.add ((x5_1).toNat * 11)).block, (ad367.add ((x5_1).toNat * 11)).off + 7, none⟩ = some (.int .i64 ((rd_T48 l1 x5_1).f6.f1)) ∧ w'.cell? ⟨(ad367.add ((x5_1).toNat * 11)).block, (ad367.add ((x5_1).toNat * 11)).off + 8, none⟩ = some (.slice A367_8 ((rd_T48 l1 x5_1).f6.f2).length c367_8) ∧ w'.cell? ⟨(ad367.add ((x5_1).toNat * 11)).block, (ad367.add ((x5_1).toNat * 11)).off + 9, none⟩ = some (.slice A367_9 ((rd_T48 l1 x5_1).f6.f3).length c367_9) ∧ w'.cell? ⟨(ad367.add ((x5_1).toNat * 11)).block, (ad367.add ((x5_1).toNat * 11)).off + 10, none⟩ = some (.slice A367_10 ((rd_T48 l1 x5_1).f7).length c367_10)) (ds := []) tb10_0_17 (by kernel_rfl) rfl rfl ⟨(kc_ HB hw366_0), (kc_ HB hw366_1), (kc_ HB hw366_2), (kc_ HB hw366_3), (kc_ HB hw366_4), (kc_ HB hw366_5), (kc_ HB hw366_6), (kc_ HB hw366_7), (kc_ HB hw366_8), (kc_ HB hw366_9), (kc_ HB hw366_10), (kc_ HB hw367_0), (kc_ HB hw367_1), (kc_ HB hw367_2), (kc_ HB hw367_3), (kc_ HB hw367_4), (kc_ HB hw367_5), (kc_ HB hw367_6), (kc_ HB hw367_7), (kc_ HB hw367_8), (kc_ HB hw367_9), (kc_ HB hw367_10)⟩ (fun hHeld => ?_); refine with_tabW laws_eqAcctS.tab6 laws_eqAcctS.bits6 (fun HT_ HW_ => ?_)
        generalize wr.drew = w11 at HB HR366_10 HR366_5 HR366_8 HR366_9 HR367_10 HR367_5 HR367_8 HR367_9 hx366_0 hx366_1 hx366_10 hx366_2 hx366_3 hx366_4 hx366_5 hx366_6 hx366_7 hx366_8 hx366_9 hx367_0 hx367_1 hx367_10 hx367_2 hx367_3 hx367_4 hx367_5 hx367_6 hx367_7 hx367_8 hx367_9 hHeld ⊢
        refine pl_ HT_ 0 17 tb10_1_17 ?_
        refine pl_ HT_ 1 18 tb10_3_17 ?_
        refine pl_ HT_ 2 19 tb10_7_17 ?_
        refine pl_ HT_ 4 21 tb10_17_17 ?_
        refine pl_ HT_ 5 22 tb10_37_17 ?_
        refine pl_ HT_ 6 23 tb10_77_17 ?_
        refine take_ (i := 3) (N := some 20) (v := ?_) (a' := ?_) tb10_7f_17 rfl rfl (take_ofW HT_.out HW_.out (by kernel_rfl)) (fun _ _ _ h => h) (Or.inl ⟨by rfl, ?_⟩) hHeld ?_ ?_
        rotate_left
        ·rintro w' ⟨s0, s1, s2, s3, s4, s5, s6, s7, s8, s9, s10, s11, s12, s13, s14, s15, s16, s17, s18, s19, s20, s21⟩
         go_simp
         with_reducible rfl
        rotate_left
        ·simp only [Act.put, q_]
         rfl
        refine take_ (i := 7) (N := some 24) (v := ?_) (a' := ?_) tb10_ff_17 rfl rfl (take_ofW HT_.out HW_.out (by kernel_rfl)) (fun _ _ _ h => h) (Or.inl ⟨by rfl, ?_⟩) hHeld ?_ ?_
        rotate_left
        ·rintro w' ⟨s0, s1, s2, s3, s4, s5, s6, s7, s8, s9, s10, s11, s12, s13, s14, s15, s16, s17, s18, s19, s20, s21⟩
         go_simp
         with_reducible rfl
        rotate_left
        ·simp only [Act.put, q_]
         rfl
        refine one_ (i := 8) (N := some 25) tb10_1ff_17 rfl rfl (one_of HT_.out (by kernel_rfl)) (by decide) (fun K hK => ?_)
        refine goes_ Try.func21 (by kernel_rfl) rfl #[.agg #[.string ((rd_T48 l0 x5_1).f0), .int .i64 ((rd_T48 l0 x5_1).f1), .int .i64 ((rd_T48 l0 x5_1).f2), .int .i64 ((rd_T48 l0 x5_1).f3), .int .i64 ((rd_T48 l0 x5_1).f4), .slice A366_5 ((rd_T48 l0 x5_1).f5).length c366_5, .int .i64 ((rd_T48 l0 x5_1).f6.f0), .int .i64 ((rd_T48 l0 x5_1).f6.f1), .slice A366_8 ((rd_T48 l0 x5_1).f6.f2).length c366_8, .slice A366_9 ((rd_T48 l0 x5_1).f6.f3).length c366_9, .slice A366_10 ((rd_T48 l0 x5_1).f7).length c366_10], .agg #[.string ((rd_T48 l1 x5_1).f0), .int .i64 ((rd_T48 l1 x5_1).f1), .int .i64 ((rd_T48 l1 x5_1).f2), .int .i64 ((rd_T48 l1 x5_1).f3), .int .i64 ((rd_T48 l1 x5_1).f4), .slice A367_5 ((rd_T48 l1 x5_1).f5).length c367_5, .int .i64 ((rd_T48 l1 x5_1).f6.f0), .int .i64 ((rd_T48 l1 x5_1).f6.f1), .slice A367_8 ((rd_T48 l1 x5_1).f6.f2).length c367_8, .slice A367_9 ((rd_T48 l1 x5_1).f6.f3).length c367_9, .slice A367_10 ((rd_T48 l1 x5_1).f7).length c367_10]] (by rfl) rfl rfl gl_ ?_
        with_reducible refine (laws_eqAcct.calls k1 ((rd_T48 l0 x5_1).f0) ((rd_T48 l0 x5_1).f1) ((rd_T48 l0 x5_1).f2) ((rd_T48 l0 x5_1).f3) ((rd_T48 l0 x5_1).f4) _ _ ((rd_T48 l0 x5_1).f5) ((rd_T48 l0 x5_1).f6.f0) ((rd_T48 l0 x5_1).f6.f1) _ _ ((rd_T48 l0 x5_1).f6.f2) _ _ ((rd_T48 l0 x5_1).f6.f3) _ _ ((rd_T48 l0 x5_1).f7) ((rd_T48 l1 x5_1).f0) ((rd_T48 l1 x5_1).f1) ((rd_T48 l1 x5_1).f2) ((rd_T48 l1 x5_1).f3) ((rd_T48 l1 x5_1).f4) _ _ ((rd_T48 l1 x5_1).f5) ((rd_T48 l1 x5_1).f6.f0) ((rd_T48 l1 x5_1).f6.f1) _ _ ((rd_T48 l1 x5_1).f6.f2) _ _ ((rd_T48 l1 x5_1).f6.f3) _ _ ((rd_T48 l1 x5_1).f7) false _ ?side1 ?side2 ?side3 ?side4 ?side5 ?side6 ?side7 ?side8 ?side9 ?side10 ?side11 ?side12 ?side13 ?side14 ?side15 ?side16 A7.out).mono ?_
        (case side1 => exact ca_ (Kd.C_below HR366_5.out HB.out))
        (case side2 => exact HC366_5.out)
        (case side3 => exact ca_ (Kd.C_below HR366_8.out HB.out))
        (case side4 => exact HC366_8.out)
        (case side5 => exact ca_ (Kd.C_below HR366_9.out HB.out))
        (case side6 => exact HC366_9.out)
        (case side7 => exact ca_ (Kd.C_below HR366_10.out HB.out))
        (case side8 => exact HC366_10.out)
        (case side9 => exact ca_ (Kd.C_below HR367_5.out HB.out))
        (case side10 => exact HC367_5.out)
        (case side11 => exact ca_ (Kd.C_below HR367_8.out HB.out))
        (case side12 => exact HC367_8.out)
        (case side13 => exact ca_ (Kd.C_below HR367_9.out HB.out))
        (case side14 => exact HC367_9.out)
        (case side15 => exact ca_ (Kd.C_below HR367_10.out HB.out))
        (case side16 => exact HC367_10.out)
        rintro e w12 ⟨rfl, hb⟩
        refine ⟨_, rfl, ?_⟩
        have n0_ := Aside0.mk (below_step bl_ hb)
        clear HB
        have HB := n0_
        clear n0_
        (try clear hb)
        (try clear hb2)
        (try clear hk)
        (try clear hi)
        refine hK.out _ _ ⟨(kc_ HB hw366_0), (kc_ HB hw366_1), (kc_ HB hw366_2), (kc_ HB hw366_3), (kc_ HB hw366_4), (kc_ HB hw366_5), (kc_ HB hw366_6), (kc_ HB hw366_7), (kc_ HB hw366_8), (kc_ HB hw366_9), (kc_ HB hw366_10), (kc_ HB hw367_0), (kc_ HB hw367_1), (kc_ HB hw367_2), (kc_ HB hw367_3), (kc_ HB hw367_4), (kc_ HB hw367_5), (kc_ HB hw367_6), (kc_ HB hw367_7), (kc_ HB hw367_8), (kc_ HB hw367_9), (kc_ HB hw367_10)⟩ (fun hHeld => ?_)
        clear hK K
        refine norm_ (a' := ?_) ?_ ?_
        rotate_left
        ·show Act.put _ (some 25) _ = _
         simp only [Act.put, q_]
         rfl
        refine pl_ HT_ 9 26 tb10_3ff_17 ?_
        refine done_ (done_of HT_.out (by kernel_rfl)) ?_
        try go_wp2
        go_ret
        exact ⟨sq_, bl_⟩
      ·rw [if_neg c6] at H
       exact absurd H (by simp)
     ·rw [if_neg c5] at H
      exact absurd H (by simp)
    ·rw [if_neg c4] at H
     have c4b0 : decide (x5_1 < (l0.length : Int)) = false := decide_eq_false c4
     clear c4
     obtain rfl := Option.some.inj H
     go_wp2
     go_ret
     exact ⟨sq_, bl_⟩
 ·rw [if_neg c3] at H
  have c3b0 : ((l0.length : Int) == (l1.length : Int)) = false := beq_eq_false_iff_ne.mpr c3
  have c3b1 : ((l0.length : Int) != (l1.length : Int)) = true := bne_iff_ne.mpr c3
  have c3b2 : (l0.length == l1.length) = false := by first | simpa using c3 | (simp at c3 ⊢; omega)
  obtain rfl := Option.some.inj H
  go_enter Try.func95, Try.ntmps95
  go_wp2
  go_ret
  exact ⟨sq_, bl_⟩

/-! ### laws_eqBook: function 32 -/
def laws_eqBook.f (k : Nat) (l0_0 : List (S48)) (l1_0 : List (S48)) : Option (Bool) := (laws_eqAcctS.f k l0_0 l1_0).bind fun t371 => (if t371 = true then (some true) else (some false))
theorem laws_eqBook.mono : ∀ a0 a1 k, LeO (laws_eqBook.f k a0 a1) (laws_eqBook.f (k + 1) a0 a1) := by
 intro a0 a1 k
 unfold laws_eqBook.f
 repeat' first
   | (with_reducible exact laws_eqAcctS.mono _ _ _)
   | (with_reducible exact LeO.refl _)
   | (with_reducible exact LeO.none _)
   | (with_reducible refine LeO.ite ?_ ?_)
   | (with_reducible refine LeO.bind ?_ (fun _ => ?_))
set_option maxHeartbeats 8000000 in
set_option maxRecDepth 100000 in
theorem laws_eqBook.calls (k : Nat) (A0_0 : Option Addr) (c0_0 : Nat) (l0_0 : List (S48)) (A1_0 : Option Addr) (c1_0 : Nat) (l1_0 : List (S48)) (r : Bool) (w : World) (hr0_0 : Kd.C k48 w A0_0 l0_0.length l0_0) (hc0_0 : l0_0.length ≤ c0_0) (hr1_0 : Kd.C k48 w A1_0 l1_0.length l1_0) (hc1_0 : l1_0.length ≤ c1_0) (h : laws_eqBook.f k l0_0 l1_0 = some r) :
  Calls Try.prog 32 #[.agg #[.slice A0_0 l0_0.length c0_0], .agg #[.slice A1_0 l1_0.length c1_0]] w fun e w' => e = .returned (.bool r) ∧ Below w.heap.size w w' := by
 have hu64 := Try.underlying64
 have HR0_0 := Aside0.mk hr0_0
 have HC0_0 := Aside0.mk hc0_0
 clear hr0_0 hc0_0
 have HR1_0 := Aside0.mk hr1_0
 have HC1_0 := Aside0.mk hc1_0
 clear hr1_0 hc1_0
 have HB := Aside0.mk (Below.refl w.heap.size w)
 have H : ((laws_eqAcctS.f k l0_0 l1_0).bind fun t371 => (if t371 = true then (some true) else (some false))) = some r := h
 clear h
 replace H := Option.bind_eq_some_iff.mp H
 obtain ⟨t371, A30, H⟩ := H
 replace H : (if t371 = true then (some true) else (some false)) = some r := H
 have A3 := Aside0.mk A30
 clear A30
 by_cases c4 : t371 = true
 ·subst c4
  have H1 : (some true) = some r := by rw [if_pos rfl] at H; exact H
  clear H
  have H := H1
  clear H1
  obtain rfl := Option.some.inj H
  go_enter Try.func32, Try.ntmps32
  go_wp2_with (first | ((with_reducible refine gate_dst (N := 2) rfl ?_); refine box_event ?hg (N := 2) ?hd (cs := #[.slice A0_0 l0_0.length c0_0]) (t := 64) ?hr ?_; (case hd => rfl); (case hg => rfl); (case hr => first | (go_simp; done) | (go_simp; rfl)); intro gb369 hg w5 hbox hb; have n0_ := Aside0.mk (below_step bl_ hb); have n1_ := Aside0.mk (hbox); have n2_ := gw_ (w := w) hg; have n3_ := gw_ (w := w) hg; clear HB; have HB := n0_; have BK369 := n1_; have GW369 := n2_; have GE369 := n3_; clear n0_ n1_ n2_ n3_; clear hb hbox hg) | ((with_reducible refine gate_dst (N := 3) rfl ?_); refine box_event ?hg (N := 3) ?hd (cs := #[.slice A1_0 l1_0.length c1_0]) (t := 64) ?hr ?_; (case hd => rfl); (case hg => rfl); (case hr => first | (go_simp; done) | (go_simp; rfl)); intro gb370 hg w6 hbox hb; have n0_ := Aside0.mk (blk_below (bk_ BK369) hb); have n1_ := Aside0.mk (below_step bl_ hb); have n2_ := Aside0.mk (hbox); have n3_ := gw_ (w := w) hg; have n4_ := gw_ (w := w) hg; have n5_ := Aside0.mk ((by rw [hg]; exact Nat.ne_of_lt (blk_lt (bk_ BK369)) : gb369 ≠ gb370)); have n6_ := Aside0.mk ((by rw [hg]; exact Nat.ne_of_gt (blk_lt (bk_ BK369)) : gb370 ≠ gb369)); clear BK369; clear HB; have BK369 := n0_; have HB := n1_; have BK370 := n2_; have GW370 := n3_; have GE370 := n4_; have NB369_370 := n5_; have NB370_369 := n6_; clear n0_ n1_ n2_ n3_ n4_ n5_ n6_; clear hb hbox hg; have hnb7 := NB369_370.out; have hnc7 := NB370_369.out; have hcz8_0 := cz_ BK369 0 (.slice A0_0 l0_0.length c0_0); have hcz9_0 := cz_ BK370 0 (.slice A1_0 l1_0.length c1_0)) | ((with_reducible refine gate_callee (f := 95) rfl ?_); refine goesL_ (some 9) rfl rfl Try.func95 (by kernel_rfl) rfl #[.slice A0_0 l0_0.length c0_0, .slice A1_0 l1_0.length c1_0] rfl gl_ ?_; (with_reducible refine (laws_eqAcctS.calls k _ _ l0_0 _ _ l1_0 true _ ?side1 ?side2 ?side3 ?side4 A3.out).mono ?_); (case side1 => exact ca_ (Kd.C_below HR0_0.out HB.out)); (case side2 => exact HC0_0.out); (case side3 => exact ca_ (Kd.C_below HR1_0.out HB.out)); (case side4 => exact HC1_0.out); rintro e w10 ⟨rfl, hb⟩; refine ⟨_, rfl, ?_⟩; have n0_ := Aside0.mk (blk_below (bk_ BK369) hb); have n1_ := Aside0.mk (blk_below (bk_ BK370) hb); have n2_ := Aside0.mk (below_step bl_ hb); clear BK369; clear BK370; clear HB; have BK369 := n0_; have BK370 := n1_; have HB := n2_; clear n0_ n1_ n2_; (try clear hb); (try clear hb2); (try clear hk); (try clear hi)))
  go_ret
  exact ⟨sq_, bl_⟩
 ·replace c4 := Bool.eq_false_iff.mpr c4
  subst c4
  have H1 : (some false) = some r := by rw [if_neg (show ¬ (false = true) by decide)] at H; exact H
  clear H
  have H := H1
  clear H1
  obtain rfl := Option.some.inj H
  go_enter Try.func32, Try.ntmps32
  go_wp2_with (first | ((with_reducible refine gate_dst (N := 2) rfl ?_); refine box_event ?hg (N := 2) ?hd (cs := #[.slice A0_0 l0_0.length c0_0]) (t := 64) ?hr ?_; (case hd => rfl); (case hg => rfl); (case hr => first | (go_simp; done) | (go_simp; rfl)); intro gb369 hg w11 hbox hb; have n0_ := Aside0.mk (below_step bl_ hb); have n1_ := Aside0.mk (hbox); have n2_ := gw_ (w := w) hg; have n3_ := gw_ (w := w) hg; clear HB; have HB := n0_; have BK369 := n1_; have GW369 := n2_; have GE369 := n3_; clear n0_ n1_ n2_ n3_; clear hb hbox hg) | ((with_reducible refine gate_dst (N := 3) rfl ?_); refine box_event ?hg (N := 3) ?hd (cs := #[.slice A1_0 l1_0.length c1_0]) (t := 64) ?hr ?_; (case hd => rfl); (case hg => rfl); (case hr => first | (go_simp; done) | (go_simp; rfl)); intro gb370 hg w12 hbox hb; have n0_ := Aside0.mk (blk_below (bk_ BK369) hb); have n1_ := Aside0.mk (below_step bl_ hb); have n2_ := Aside0.mk (hbox); have n3_ := gw_ (w := w) hg; have n4_ := gw_ (w := w) hg; have n5_ := Aside0.mk ((by rw [hg]; exact Nat.ne_of_lt (blk_lt (bk_ BK369)) : gb369 ≠ gb370)); have n6_ := Aside0.mk ((by rw [hg]; exact Nat.ne_of_gt (blk_lt (bk_ BK369)) : gb370 ≠ gb369)); clear BK369; clear HB; have BK369 := n0_; have HB := n1_; have BK370 := n2_; have GW370 := n3_; have GE370 := n4_; have NB369_370 := n5_; have NB370_369 := n6_; clear n0_ n1_ n2_ n3_ n4_ n5_ n6_; clear hb hbox hg; have hnb13 := NB369_370.out; have hnc13 := NB370_369.out; have hcz14_0 := cz_ BK369 0 (.slice A0_0 l0_0.length c0_0); have hcz15_0 := cz_ BK370 0 (.slice A1_0 l1_0.length c1_0)) | ((with_reducible refine gate_callee (f := 95) rfl ?_); refine goesL_ (some 9) rfl rfl Try.func95 (by kernel_rfl) rfl #[.slice A0_0 l0_0.length c0_0, .slice A1_0 l1_0.length c1_0] rfl gl_ ?_; (with_reducible refine (laws_eqAcctS.calls k _ _ l0_0 _ _ l1_0 false _ ?side1 ?side2 ?side3 ?side4 A3.out).mono ?_); (case side1 => exact ca_ (Kd.C_below HR0_0.out HB.out)); (case side2 => exact HC0_0.out); (case side3 => exact ca_ (Kd.C_below HR1_0.out HB.out)); (case side4 => exact HC1_0.out); rintro e w16 ⟨rfl, hb⟩; refine ⟨_, rfl, ?_⟩; have n0_ := Aside0.mk (blk_below (bk_ BK369) hb); have n1_ := Aside0.mk (blk_below (bk_ BK370) hb); have n2_ := Aside0.mk (below_step bl_ hb); clear BK369; clear BK370; clear HB; have BK369 := n0_; have BK370 := n1_; have HB := n2_; clear n0_ n1_ n2_; (try clear hb); (try clear hb2); (try clear hk); (try clear hi)))
  go_ret
  exact ⟨sq_, bl_⟩

/-! ### laws_FnExactBookOk: function 7 -/
def laws_FnExactBookOk.f (k : Nat) (l0_0 : List (S41)) : Option (Bool) := (laws_szBook.f k l0_0 1048576).bind fun t373 => (if t373 < 0 then (some true) else ((laws_toBook.f k l0_0).bind fun t374 => ((spec_BookOk.f k t374).bind fun t377 => ((laws_toBook.f k l0_0).bind fun t378 => ((impl_BookOk.f k t378).bind fun t382 => (if (t382 != t377) = true then (some false) else ((laws_toBook.f k l0_0).bind fun t383 => ((laws_eqBook.f k t378 t383).bind fun t386 => (if t386 = true then (some true) else (some false))))))))))
theorem laws_FnExactBookOk.mono : ∀ a0 k, LeO (laws_FnExactBookOk.f k a0) (laws_FnExactBookOk.f (k + 1) a0) := by
 intro a0 k
 unfold laws_FnExactBookOk.f
 repeat' first
   | (with_reducible exact impl_BookOk.mono _ _)
   | (with_reducible exact laws_eqBook.mono _ _ _)
   | (with_reducible exact laws_szBook.mono _ _ _)
   | (with_reducible exact laws_toBook.mono _ _)
   | (with_reducible exact spec_BookOk.mono _ _)
   | (with_reducible exact LeO.refl _)
   | (with_reducible exact LeO.none _)
   | (with_reducible refine LeO.ite ?_ ?_)
   | (with_reducible refine LeO.bind ?_ (fun _ => ?_))
set_option maxHeartbeats 8000000 in
set_option maxRecDepth 100000 in
theorem laws_FnExactBookOk.calls (k : Nat) (A0_0 : Option Addr) (c0_0 : Nat) (l0_0 : List (S41)) (r : Bool) (w : World) (hr0_0 : Kd.C k41 w A0_0 l0_0.length l0_0) (hc0_0 : l0_0.length ≤ c0_0) (h : laws_FnExactBookOk.f k l0_0 = some true) :
  Calls Try.prog 7 #[.agg #[.slice A0_0 l0_0.length c0_0]] w fun e w' => e = .returned (.bool true) ∧ Below w.heap.size w w' := by
 have hu59 := Try.underlying59
 have hu64 := Try.underlying64
 have HR0_0 := Aside0.mk hr0_0
 have HC0_0 := Aside0.mk hc0_0
 clear hr0_0 hc0_0
 have HB := Aside0.mk (Below.refl w.heap.size w)
 have H : ((laws_szBook.f k l0_0 1048576).bind fun t373 => (if t373 < 0 then (some true) else ((laws_toBook.f k l0_0).bind fun t374 => ((spec_BookOk.f k t374).bind fun t377 => ((laws_toBook.f k l0_0).bind fun t378 => ((impl_BookOk.f k t378).bind fun t382 => (if (t382 != t377) = true then (some false) else ((laws_toBook.f k l0_0).bind fun t383 => ((laws_eqBook.f k t378 t383).bind fun t386 => (if t386 = true then (some true) else (some false))))))))))) = some true := h
 clear h
 replace H := Option.bind_eq_some_iff.mp H
 obtain ⟨t373, A20, H⟩ := H
 replace H : (if t373 < 0 then (some true) else ((laws_toBook.f k l0_0).bind fun t374 => ((spec_BookOk.f k t374).bind fun t377 => ((laws_toBook.f k l0_0).bind fun t378 => ((impl_BookOk.f k t378).bind fun t382 => (if (t382 != t377) = true then (some false) else ((laws_toBook.f k l0_0).bind fun t383 => ((laws_eqBook.f k t378 t383).bind fun t386 => (if t386 = true then (some true) else (some false)))))))))) = some true := H
 have A2 := Aside0.mk A20
 clear A20
 by_cases c3 : t373 < 0
 ·rw [if_pos c3] at H
  have c3b0 : decide (t373 < 0) = true := decide_eq_true c3
  clear c3
  clear H
  go_enter Try.func7, Try.ntmps7
  go_wp2_with (first | ((with_reducible refine gate_dst (N := 1) rfl ?_); refine box_event ?hg (N := 1) ?hd (cs := #[.slice A0_0 l0_0.length c0_0]) (t := 59) ?hr ?_; (case hd => rfl); (case hg => rfl); (case hr => first | (go_simp; done) | (go_simp; rfl)); intro gb372 hg w4 hbox hb; have n0_ := Aside0.mk (below_step bl_ hb); have n1_ := Aside0.mk (hbox); have n2_ := gw_ (w := w) hg; have n3_ := gw_ (w := w) hg; clear HB; have HB := n0_; have BK372 := n1_; have GW372 := n2_; have GE372 := n3_; clear n0_ n1_ n2_ n3_; clear hb hbox hg; have hcz5_0 := cz_ BK372 0 (.slice A0_0 l0_0.length c0_0); have hfz5_0 := fz_ BK372 0) | ((with_reducible refine gate_callee (f := 28) rfl ?_); refine goesL_ (some 9) rfl rfl Try.func28 (by kernel_rfl) rfl #[.agg #[.slice A0_0 l0_0.length c0_0], .int .i64 1048576] rfl gl_ ?_; (with_reducible refine (laws_szBook.calls k _ _ l0_0 1048576 t373 _ ?side1 ?side2 A2.out).mono ?_); (case side1 => exact ca_ (Kd.C_below HR0_0.out HB.out)); (case side2 => exact HC0_0.out); rintro e w6 ⟨rfl, hb⟩; refine ⟨_, rfl, ?_⟩; have n0_ := Aside0.mk (blk_below (bk_ BK372) hb); have n1_ := Aside0.mk (below_step bl_ hb); clear BK372; clear HB; have BK372 := n0_; have HB := n1_; clear n0_ n1_; (try clear hb); (try clear hb2); (try clear hk); (try clear hi)))
  go_ret
  exact ⟨sq_, bl_⟩
 ·rw [if_neg c3] at H
  have c3b0 : decide (t373 < 0) = false := decide_eq_false c3
  clear c3
  replace H := Option.bind_eq_some_iff.mp H
  obtain ⟨t374, A70, H⟩ := H
  replace H : ((spec_BookOk.f k t374).bind fun t377 => ((laws_toBook.f k l0_0).bind fun t378 => ((impl_BookOk.f k t378).bind fun t382 => (if (t382 != t377) = true then (some false) else ((laws_toBook.f k l0_0).bind fun t383 => ((laws_eqBook.f k t378 t383).bind fun t386 => (if t386 = true then (some true) else (some false)))))))) = some true := H
  have A7 := Aside0.mk A70
  clear A70
  replace H := Option.bind_eq_some_iff.mp H
  obtain ⟨t377, A80, H⟩ := H
  replace H : ((laws_toBook.f k l0_0).bind fun t378 => ((impl_BookOk.f k t378).bind fun t382 => (if (t382 != t377) = true then (some false) else ((laws_toBook.f k l0_0).bind fun t383 => ((laws_eqBook.f k t378 t383).bind fun t386 => (if t386 = true then (some true) else (some false))))))) = some true := H
  have A8 := Aside0.mk A80
  clear A80
  replace H := Option.bind_eq_some_iff.mp H
  obtain ⟨t378, A90, H⟩ := H
  replace H : ((impl_BookOk.f k t378).bind fun t382 => (if (t382 != t377) = true then (some false) else ((laws_toBook.f k l0_0).bind fun t383 => ((laws_eqBook.f k t378 t383).bind fun t386 => (if t386 = true then (some true) else (some false)))))) = some true := H
  have A9 := Aside0.mk A90
  clear A90
  replace H := Option.bind_eq_some_iff.mp H
  obtain ⟨t382, A100, H⟩ := H
  replace H : (if (t382 != t377) = true then (some false) else ((laws_toBook.f k l0_0).bind fun t383 => ((laws_eqBook.f k t378 t383).bind fun t386 => (if t386 = true then (some true) else (some false))))) = some true := H
  have A10 := Aside0.mk A100
  clear A100
  by_cases c11 : (t382 != t377) = true
  ·rw [if_pos c11] at H
   have c11b0 : (t382 != t377) = true := c11
   (try (have c11b1 : decide (t382 = t377) = false := by simpa using c11))
   (try (have c11b2 : (t382 == t377) = false := by simpa using c11))
   (try (have c11b3 : ¬ (t382 = t377) := by simpa using c11))
   clear c11
   exact absurd H (by simp)
  ·rw [if_neg c11] at H
   have c11b0 : (t382 != t377) = false := by simpa using c11
   (try (have c11b1 : decide (t382 = t377) = true := by simpa using c11))
   (try (have c11b2 : (t382 == t377) = true := by simpa using c11))
   clear c11
   replace H := Option.bind_eq_some_iff.mp H
   obtain ⟨t383, A120, H⟩ := H
   replace H : ((laws_eqBook.f k t378 t383).bind fun t386 => (if t386 = true then (some true) else (some false))) = some true := H
   have A12 := Aside0.mk A120
   clear A120
   replace H := Option.bind_eq_some_iff.mp H
   obtain ⟨t386, A130, H⟩ := H
   replace H : (if t386 = true then (some true) else (some false)) = some true := H
   have A13 := Aside0.mk A130
   clear A130
   by_cases c14 : t386 = true
   ·subst c14
    have H1 : (some true) = some true := rfl
    clear H
    have H := H1
    clear H1
    clear H
    go_enter Try.func7, Try.ntmps7
    try go_wp2_with (first | ((with_reducible refine gate_dst (N := 1) rfl ?_); refine box_event ?hg (N := 1) ?hd (cs := #[.slice A0_0 l0_0.length c0_0]) (t := 59) ?hr ?_; (case hd => rfl); (case hg => rfl); (case hr => first | (go_simp; done) | (go_simp; rfl)); intro gb372 hg w15 hbox hb; have n0_ := Aside0.mk (below_step bl_ hb); have n1_ := Aside0.mk (hbox); have n2_ := gw_ (w := w) hg; have n3_ := gw_ (w := w) hg; clear HB; have HB := n0_; have BK372 := n1_; have GW372 := n2_; have GE372 := n3_; clear n0_ n1_ n2_ n3_; clear hb hbox hg; have hcz16_0 := cz_ BK372 0 (.slice A0_0 l0_0.length c0_0); have hfz16_0 := fz_ BK372 0) | ((with_reducible refine gate_callee (f := 28) rfl ?_); refine goesL_ (some 9) rfl rfl Try.func28 (by kernel_rfl) rfl #[.agg #[.slice A0_0 l0_0.length c0_0], .int .i64 1048576] rfl gl_ ?_; (with_reducible refine (laws_szBook.calls k _ _ l0_0 1048576 t373 _ ?side1 ?side2 A2.out).mono ?_); (case side1 => exact ca_ (Kd.C_below HR0_0.out HB.out)); (case side2 => exact HC0_0.out); rintro e w17 ⟨rfl, hb⟩; refine ⟨_, rfl, ?_⟩; have n0_ := Aside0.mk (blk_below (bk_ BK372) hb); have n1_ := Aside0.mk (below_step bl_ hb); clear BK372; clear HB; have BK372 := n0_; have HB := n1_; clear n0_ n1_; (try clear hb); (try clear hb2); (try clear hk); (try clear hi); have hcz18_0 := cz_ BK372 0 (.slice A0_0 l0_0.length c0_0); have hfz18_0 := fz_ BK372 0) | ((with_reducible refine gate_callee (f := 30) rfl ?_); refine goesL_ (some 13) rfl rfl Try.func30 (by kernel_rfl) rfl #[.agg #[.slice A0_0 l0_0.length c0_0]] rfl gl_ ?_; (with_reducible refine (laws_toBook.calls k _ _ l0_0 t374 _ ?side1 ?side2 A7.out).mono ?_); (case side1 => exact ca_ (Kd.C_below HR0_0.out HB.out)); (case side2 => exact HC0_0.out); rintro e w19 ⟨v375, rfl, ho0, hb⟩; refine ⟨_, rfl, ?_⟩; have n0_ := Aside0.mk (Kd.R_lower ho0 (below_size bl_)); have n1_ := Aside0.mk (blk_below (bk_ BK372) hb); have n2_ := Aside0.mk (below_step bl_ hb); clear BK372; clear HB; have HO376 := n0_; have BK372 := n1_; have HB := n2_; clear n0_ n1_ n2_; (try clear hb); (try clear hb2); (try clear hk); (try clear hi); (try clear ho0); obtain ⟨Ao20, co20, eo20⟩ := Kd.R_slice HO376.out; subst eo20) | ((with_reducible refine gate_callee (f := 29) rfl ?_); refine goesL_ (some 14) rfl rfl Try.func29 (by kernel_rfl) rfl #[.agg #[.slice Ao20 t374.length co20]] rfl gl_ ?_; (with_reducible refine (spec_BookOk.calls k _ _ t374 t377 _ ?side1 ?side2 A8.out).mono ?_); (case side1 => exact ca_ ((Kd.R_reads' HO376.out).2.2)); (case side2 => exact (Kd.R_reads' HO376.out).2.1); rintro e w21 ⟨rfl, hb⟩; refine ⟨_, rfl, ?_⟩; have n0_ := Aside0.mk (Kd.R_below (ra_ HO376) hb); have n1_ := Aside0.mk (blk_below (bk_ BK372) hb); have n2_ := Aside0.mk (below_step bl_ hb); clear HO376; clear BK372; clear HB; have HO376 := n0_; have BK372 := n1_; have HB := n2_; clear n0_ n1_ n2_; (try clear hb); (try clear hb2); (try clear hk); (try clear hi); have hcz22_0 := cz_ BK372 0 (.slice A0_0 l0_0.length c0_0); have hfz22_0 := fz_ BK372 0) | ((with_reducible refine gate_callee (f := 30) rfl ?_); refine goesL_ (some 16) rfl rfl Try.func30 (by kernel_rfl) rfl #[.agg #[.slice A0_0 l0_0.length c0_0]] rfl gl_ ?_; (with_reducible refine (laws_toBook.calls k _ _ l0_0 t378 _ ?side1 ?side2 A9.out).mono ?_); (case side1 => exact ca_ (Kd.C_below HR0_0.out HB.out)); (case side2 => exact HC0_0.out); rintro e w23 ⟨v379, rfl, ho0, hb⟩; refine ⟨_, rfl, ?_⟩; have n0_ := Aside0.mk (Kd.R_elder' (ra_ HO376) (Kd.R_base ho0) hb); have n1_ := Aside0.mk (Kd.R_lower (Kd.R_new' ho0 (Kd.R_lt (ra_ HO376))) (below_size bl_)); have n2_ := Aside0.mk (blk_below (bk_ BK372) hb); have n3_ := Aside0.mk (below_step bl_ hb); clear HO376; clear BK372; clear HB; have HO376 := n0_; have HO380 := n1_; have BK372 := n2_; have HB := n3_; clear n0_ n1_ n2_ n3_; (try clear hb); (try clear hb2); (try clear hk); (try clear hi); (try clear ho0)) | ((with_reducible refine gate_dst (N := 5) rfl ?_); refine box_event ?hg (N := 5) ?hd (cs := #[.slice none 0 0]) (t := 64) ?hr ?_; (case hd => rfl); (case hg => rfl); (case hr => first | (go_simp; done) | (go_simp; rfl)); intro gb381 hg w24 hbox hb; have n0_ := Aside0.mk (Kd.R_below (ra_ HO376) hb); have n1_ := Aside0.mk (Kd.R_below (ra_ HO380) hb); have n2_ := Aside0.mk (blk_below (bk_ BK372) hb); have n3_ := Aside0.mk (below_step bl_ hb); have n4_ := Aside0.mk (hbox); have n5_ := gw_ (w := w) hg; have n6_ := gw_ (w := w) hg; have n7_ := Aside0.mk ((by rw [hg]; exact Nat.ne_of_lt (blk_lt (bk_ BK372)) : gb372 ≠ gb381)); have n8_ := Aside0.mk ((by rw [hg]; exact Nat.ne_of_gt (blk_lt (bk_ BK372)) : gb381 ≠ gb372)); clear HO376; clear HO380; clear BK372; clear HB; have HO376 := n0_; have HO380 := n1_; have BK372 := n2_; have HB := n3_; have BK381 := n4_; have GW381 := n5_; have GE381 := n6_; have NB372_381 := n7_; have NB381_372 := n8_; clear n0_ n1_ n2_ n3_ n4_ n5_ n6_ n7_ n8_; clear hb hbox hg; obtain ⟨Ao25, co25, eo25⟩ := Kd.R_slice HO380.out; subst eo25; have hnb26 := NB381_372.out; have hnc26 := NB372_381.out; have hcz27_0 := cz_ BK381 0 (.slice none 0 0); have hfz27_0 := fz_ BK381 0) | ((with_reducible refine gate_callee (f := 31) rfl ?_); refine goesL_ (some 18) rfl rfl Try.func31 (by kernel_rfl) rfl #[.agg #[.slice Ao25 t378.length co25]] rfl gl_ ?_; (with_reducible refine (impl_BookOk.calls k _ _ t378 t382 _ ?side1 ?side2 A10.out).mono ?_); (case side1 => refine (Kd.R_reads' (e := 48) (base := w.heap.size) (ok := fun k_ => (True ∧ some k_ ≠ (.slice Ao20 t374.length co20 : Value).ownBlock)) (n := t378.length) (c := co25) ?_).2.2; exact (by (with_reducible repeat (first | apply Kd.R_alloc | apply Kd.R_drewN | apply Kd.R_drew)); exact (Kd.R_mono (Kd.R_far (p := ⟨gb381, 0, none⟩) (Kd.R_types HO380.out BK381.out (by decide)) (fun _ hk => hk.2) (.slice Ao25 t378.length co25)) (fun _ h_ => h_.1)))); (case side2 => exact (Kd.R_reads' HO380.out).2.1); rintro e w28 ⟨rfl, hb⟩; refine ⟨_, rfl, ?_⟩; have n0_ := Aside0.mk (Kd.R_below (by (with_reducible repeat (first | apply Kd.R_alloc | apply Kd.R_drewN | apply Kd.R_drew)); exact (Kd.R_mono (Kd.R_far (p := ⟨gb381, 0, none⟩) (Kd.R_types HO376.out BK381.out (by decide)) (fun _ hk => hk.2) (.slice Ao25 t378.length co25)) (fun _ h_ => h_.1))) hb); have n1_ := Aside0.mk (Kd.R_below (by (with_reducible repeat (first | apply Kd.R_alloc | apply Kd.R_drewN | apply Kd.R_drew)); exact (Kd.R_mono (Kd.R_far (p := ⟨gb381, 0, none⟩) (Kd.R_types HO380.out BK381.out (by decide)) (fun _ hk => hk.2) (.slice Ao25 t378.length co25)) (fun _ h_ => h_.1))) hb); have n2_ := Aside0.mk (blk_below (g := gb372) (o := .cells #[.slice A0_0 l0_0.length c0_0] 59 (0, 0)) (by (with_reducible repeat (first | refine blk_drewN ?_ _ | refine blk_drew ?_ | refine blk_alloc ?_ _)); refine blk_far ?_ NB372_381.out _; (with_reducible repeat (first | refine blk_drewN ?_ _ | refine blk_drew ?_ | refine blk_alloc ?_ _)); exact BK372.out) hb); have n3_ := Aside0.mk (blk_below (g := gb381) (o := .cells #[.slice Ao25 t378.length co25] 64 (0, 0)) (by (with_reducible repeat (first | refine blk_drewN ?_ _ | refine blk_drew ?_ | refine blk_alloc ?_ _)); refine blk_put (cs := #[.slice none 0 0]) ?_ 0 _ rfl; (with_reducible repeat (first | refine blk_drewN ?_ _ | refine blk_drew ?_ | refine blk_alloc ?_ _)); exact BK381.out) hb); have n4_ := Aside0.mk (below_step bl_ hb); clear HO376; clear HO380; clear BK372; clear BK381; clear HB; have HO376 := n0_; have HO380 := n1_; have BK372 := n2_; have BK381 := n3_; have HB := n4_; clear n0_ n1_ n2_ n3_ n4_; (try clear hb); (try clear hb2); (try clear hk); (try clear hi)))
    have n0_ := Aside0.mk (Kd.R_drew HO376.out)
    have n1_ := Aside0.mk (Kd.R_drew HO380.out)
    have n2_ := Aside0.mk (blk_drew BK372.out)
    have n3_ := Aside0.mk (blk_drew BK381.out)
    have n4_ := Aside0.mk (below_drew1 HB.out)
    clear HO376
    clear HO380
    clear BK372
    clear BK381
    clear HB
    have HO376 := n0_
    have HO380 := n1_
    have BK372 := n2_
    have BK381 := n3_
    have HB := n4_
    clear n0_ n1_ n2_ n3_ n4_
    refine start_ (n := 5) (S := fun w' => w'.cell? ⟨gb381, 0, none⟩ = some (.slice Ao25 t378.length co25) ∧ w'.cell? ⟨gb372, 0, none⟩ = some (.slice A0_0 l0_0.length c0_0)) (ds := []) #[false, false, false, false, false] (by kernel_rfl) rfl rfl ⟨cy_ BK381 0, cy_ BK372 0⟩ (fun hHeld => ?_)
    generalize w28.drew = w29 at HO376 HO380 BK372 BK381 HB hHeld ⊢
    refine take_ (i := 0) (N := some 22) (v := ?_) (a' := ?_) #[true, false, false, false, false] rfl rfl (by kernel_rfl) (fun _ _ _ h => h) (Or.inl ⟨by rfl, ?_⟩) hHeld ?_ ?_
    rotate_left
    ·rintro w' ⟨s0, s1⟩
     go_simp
     with_reducible rfl
    rotate_left
    ·simp only [Act.put, q_]
     rfl
    refine take_ (i := 1) (N := some 23) (v := ?_) (a' := ?_) #[true, true, false, false, false] rfl rfl (by kernel_rfl) (fun _ _ _ h => h) (Or.inl ⟨by rfl, ?_⟩) hHeld ?_ ?_
    rotate_left
    ·rintro w' ⟨s0, s1⟩
     go_simp
     with_reducible rfl
    rotate_left
    ·simp only [Act.put, q_]
     rfl
    refine one_ (i := 2) (N := some 24) #[true, true, true, false, false] rfl rfl (by kernel_rfl) (by decide) (fun K hK => ?_)
    refine goes_ Try.func30 (by kernel_rfl) rfl #[.agg #[.slice A0_0 l0_0.length c0_0]] (by rfl) rfl rfl gl_ ?_
    with_reducible refine (laws_toBook.calls k _ _ l0_0 t383 _ ?side1 ?side2 A12.out).mono ?_
    (case side1 => exact ca_ (Kd.C_below HR0_0.out HB.out))
    (case side2 => exact HC0_0.out)
    rintro e w30 ⟨v384, rfl, ho0, hb⟩
    refine ⟨_, rfl, ?_⟩
    have n0_ := Aside0.mk (Kd.R_elder' (ra_ HO376) (Kd.R_base ho0) hb)
    have n1_ := Aside0.mk (Kd.R_elder' (ra_ HO380) (Kd.R_base ho0) hb)
    have n2_ := Aside0.mk (Kd.R_lower (Kd.R_new' (Kd.R_new' ho0 (Kd.R_lt (ra_ HO376))) (Kd.R_lt (ra_ HO380))) (below_size bl_))
    have n3_ := Aside0.mk (blk_below (bk_ BK372) hb)
    have n4_ := Aside0.mk (blk_below (bk_ BK381) hb)
    have n5_ := Aside0.mk (below_step bl_ hb)
    clear HO376
    clear HO380
    clear BK372
    clear BK381
    clear HB
    have HO376 := n0_
    have HO380 := n1_
    have HO385 := n2_
    have BK372 := n3_
    have BK381 := n4_
    have HB := n5_
    clear n0_ n1_ n2_ n3_ n4_ n5_
    (try clear hb)
    (try clear hb2)
    (try clear hk)
    (try clear hi)
    (try clear ho0)
    obtain ⟨Ao31, co31, eo31⟩ := Kd.R_slice HO385.out
    (first | subst eo31 | (injection eo31 with f1_ f2_ f3_; have f4_ := f1_.symm; have f5_ := f3_.symm; clear f1_ f2_ f3_; subst f4_; subst f5_))
    refine hK.out _ _ ⟨cy_ BK381 0, cy_ BK372 0⟩ (fun hHeld => ?_)
    clear hK K
    refine norm_ (a' := ?_) ?_ ?_
    rotate_left
    ·show Act.put _ (some 24) _ = _
     simp only [Act.put, q_]
     rfl
    refine one_ (i := 3) (N := some 25) #[true, true, true, true, false] rfl rfl (by kernel_rfl) (by decide) (fun K hK => ?_)
    refine goes_ Try.func32 (by kernel_rfl) rfl #[.agg #[.slice Ao25 t378.length co25], .agg #[.slice Ao31 t383.length co31]] (by rfl) rfl rfl gl_ ?_
    with_reducible refine (laws_eqBook.calls k _ _ t378 _ _ t383 true _ ?side1 ?side2 ?side3 ?side4 A13.out).mono ?_
    (case side1 => exact ca_ ((Kd.R_reads' HO380.out).2.2))
    (case side2 => exact (Kd.R_reads' HO380.out).2.1)
    (case side3 => exact ca_ ((Kd.R_reads' HO385.out).2.2))
    (case side4 => exact (Kd.R_reads' HO385.out).2.1)
    rintro e w32 ⟨rfl, hb⟩
    refine ⟨_, rfl, ?_⟩
    have n0_ := Aside0.mk (Kd.R_below (ra_ HO376) hb)
    have n1_ := Aside0.mk (Kd.R_below (ra_ HO380) hb)
    have n2_ := Aside0.mk (Kd.R_below (ra_ HO385) hb)
    have n3_ := Aside0.mk (blk_below (bk_ BK372) hb)
    have n4_ := Aside0.mk (blk_below (bk_ BK381) hb)
    have n5_ := Aside0.mk (below_step bl_ hb)
    clear HO376
    clear HO380
    clear HO385
    clear BK372
    clear BK381
    clear HB
    have HO376 := n0_
    have HO380 := n1_
    have HO385 := n2_
    have BK372 := n3_
    have BK381 := n4_
    have HB := n5_
    clear n0_ n1_ n2_ n3_ n4_ n5_
    (try clear hb)
    (try clear hb2)
    (try clear hk)
    (try clear hi)
    refine hK.out _ _ ⟨cy_ BK381 0, cy_ BK372 0⟩ (fun hHeld => ?_)
    clear hK K
    refine norm_ (a' := ?_) ?_ ?_
    rotate_left
    ·show Act.put _ (some 25) _ = _
     simp only [Act.put, q_]
     rfl
    refine pure_ (i := 4) (N := some 26) (v := ?_) (a' := ?_) #[true, true, true, true, true] rfl rfl (by kernel_rfl) (fun _ _ _ h => h) (Or.inl ⟨by rfl, ?_⟩) ?_ ?_
    rotate_left
    ·intro w'
     go_simp
     with_reducible rfl
    rotate_left
    ·simp only [Act.put, q_]
     rfl
    refine done_ (by kernel_rfl) ?_
    try go_wp2
    go_ret
    exact ⟨sq_, bl_⟩
   ·replace c14 := Bool.eq_false_iff.mpr c14
    subst c14
    have H1 : (some false) = some true := by rw [if_neg (show ¬ (false = true) by decide)] at H; exact H
    clear H
    have H := H1
    clear H1
    exact absurd H (by simp)
def ok138 (x : S138) : Prop := (x.f0.size ≤ maxLen) ∧ ((Lit.int .i64 x.f1).wf = true) ∧ ((Lit.int .i64 x.f2).wf = true)
def ok38 (x : S38) : Prop := ((Lit.int .i64 x.f0).wf = true) ∧ ((Lit.int .i64 x.f1).wf = true) ∧ (x.f2.length ≤ maxLen ∧ ∀ y0 ∈ x.f2, (Lit.int .i64 y0).wf = true) ∧ (x.f3.length ≤ maxLen ∧ ∀ y0 ∈ x.f3, (Lit.int .i64 y0).wf = true)
def ok141 (x : S141) : Prop := (x.f0.size ≤ maxLen) ∧ (x.f1.size ≤ maxLen) ∧ (x.f2.length ≤ maxLen ∧ ∀ y0 ∈ x.f2, (Lit.int .u8 y0).wf = true)
def ok41 (x : S41) : Prop := (x.f0.size ≤ maxLen) ∧ ((Lit.int .i64 x.f1).wf = true) ∧ ((Lit.int .i64 x.f2).wf = true) ∧ ((Lit.int .i64 x.f3).wf = true) ∧ ((Lit.int .i64 x.f4).wf = true) ∧ (x.f5.length ≤ maxLen ∧ ∀ y0 ∈ x.f5, ok138 y0) ∧ (ok38 x.f6) ∧ (x.f7.length ≤ maxLen ∧ ∀ y0 ∈ x.f7, ok141 y0)
def ok59 (x : S59) : Prop := (x.f0.length ≤ maxLen ∧ ∀ y0 ∈ x.f0, ok41 y0)
/-- THE ONE PURE STATEMENT of laws_FnExactBookOk. -/
def laws_FnExactBookOk.Pure : Prop := ∀ (s0 : S59), (ok59 s0) → ∃ k, laws_FnExactBookOk.f k s0.f0 = some true
end Go.Proofs.Ytgcggfoailaalaa.QFnExactBookOk
