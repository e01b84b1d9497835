-- by my own printer (myprint.py, over the kit's print.py)
import Derived.Test.YtcojjdfbdgpajaaQFnExactBookSamex0
import Derived.Test.YtcojjdfbdgpajaaQFnExactBookSamex5
namespace Go.Proofs.Ytcojjdfbdgpajaa.QFnExactBookSame
open Go.RowKit Go.Proofs.YtcojjdfbdgpajaaW.PrintWords Go.Proofs.YtcojjdfbdgpajaaW.PrintLast Go.Proofs.YtcojjdfbdgpajaaW.PrintMore
attribute [local go_sem] max2_int min2_int max_two min_two max_three min_three max_four min_four   -- for this text's walks alone
set_option linter.unusedVariables false
set_option linter.unusedSimpArgs false

attribute [local go_sem] my_geq my_leq my_gtr
/-! ### laws_eqAcctS: function 109 -/
def laws_eqAcctS.l0 : Nat → List (S85) → List (S85) → Int → Option (Bool)
  | 0, _, _, _ => none
  | k + 1, x0, x1, x5 => if x5 < (x0.length : Int) then (if 0 ≤ x5 then (if x5 < (x1.length : Int) then ((laws_eqAcct.f k ((rd_T85 x0 x5).f0) ((rd_T85 x0 x5).f1) ((rd_T85 x0 x5).f2) ((rd_T85 x0 x5).f3) ((rd_T85 x0 x5).f4) ((rd_T85 x0 x5).f5) ((rd_T85 x0 x5).f6.f0) ((rd_T85 x0 x5).f6.f1) ((rd_T85 x0 x5).f6.f2) ((rd_T85 x0 x5).f6.f3) ((rd_T85 x0 x5).f7) ((rd_T85 x1 x5).f0) ((rd_T85 x1 x5).f1) ((rd_T85 x1 x5).f2) ((rd_T85 x1 x5).f3) ((rd_T85 x1 x5).f4) ((rd_T85 x1 x5).f5) ((rd_T85 x1 x5).f6.f0) ((rd_T85 x1 x5).f6.f1) ((rd_T85 x1 x5).f6.f2) ((rd_T85 x1 x5).f6.f3) ((rd_T85 x1 x5).f7)).bind fun t238 => (if t238 = true then (laws_eqAcctS.l0 k x0 x1 (wrap64 (x5 + 1))) else (some false))) else (none)) else (none)) else (some true)
def laws_eqAcctS.f (k : Nat) (l0 : List (S85)) (l1 : List (S85)) : Option (Bool) := if (l0.length : Int) = (l1.length : Int) then (laws_eqAcctS.l0 k l0 l1 0) else (some false)
theorem laws_eqAcctS.mono_l : ∀ k, (∀ y0 y1 y2, LeO (laws_eqAcctS.l0 k y0 y1 y2) (laws_eqAcctS.l0 (k + 1) y0 y1 y2))
  | 0 => fun _ _ _ r h => by simp [laws_eqAcctS.l0] at h
  | k + 1 => by
    have ih0 := laws_eqAcctS.mono_l k
    · intro y0 y1 y2
      unfold laws_eqAcctS.l0
      repeat' first
      | (with_reducible exact ih0 _ _ _)
      | (with_reducible exact laws_eqAcct.mono _ _ _ _ _ _ _ _ _ _ _ _ _ _ _ _ _ _ _ _ _ _ _)
      | (with_reducible exact LeO.refl _)
      | (with_reducible exact LeO.none _)
      | (with_reducible refine LeO.ite ?_ ?_)
      | (with_reducible refine LeO.bind ?_ (fun _ => ?_))
      | exact ih0 _ _ _
      | exact laws_eqAcct.mono _ _ _ _ _ _ _ _ _ _ _ _ _ _ _ _ _ _ _ _ _ _ _
      | exact LeO.none _
      | refine LeO.ite ?_ ?_
      | refine LeO.bind ?_ (fun _ => ?_)
theorem laws_eqAcctS.mono : ∀ a0 a1 k, LeO (laws_eqAcctS.f k a0 a1) (laws_eqAcctS.f (k + 1) a0 a1) := by
  intro a0 a1 k
  have ih0 := laws_eqAcctS.mono_l k
  unfold laws_eqAcctS.f
  repeat' first
      | (with_reducible exact ih0 _ _ _)
      | (with_reducible exact laws_eqAcct.mono _ _ _ _ _ _ _ _ _ _ _ _ _ _ _ _ _ _ _ _ _ _ _)
      | (with_reducible exact LeO.refl _)
      | (with_reducible exact LeO.none _)
      | (with_reducible refine LeO.ite ?_ ?_)
      | (with_reducible refine LeO.bind ?_ (fun _ => ?_))
      | exact ih0 _ _ _
      | exact laws_eqAcct.mono _ _ _ _ _ _ _ _ _ _ _ _ _ _ _ _ _ _ _ _ _ _ _
      | exact LeO.none _
      | refine LeO.ite ?_ ?_
      | refine LeO.bind ?_ (fun _ => ?_)
def laws_eqAcctS.T6 : Bool × List (List Nat × List Nat) := (true, [([], []), ([], []), ([0, 1], [0, 1]), ([2], [2]), ([], []), ([], []), ([4, 5], [4, 5]), ([6], [6]), ([3, 7], [3, 7]), ([8], [8])])
def laws_eqAcctS.B6 : List Nat := [0, 0, 3, 7, 0, 0, 48, 112, 255, 511]
theorem laws_eqAcctS.tab6 : rtab .any (opsOf Try.f109 6) = laws_eqAcctS.T6 := by kernel_rfl
theorem laws_eqAcctS.bits6 : waitsOk laws_eqAcctS.T6.2 laws_eqAcctS.B6 = true := by kernel_rfl
set_option maxHeartbeats 8000000 in
set_option maxRecDepth 100000 in
theorem laws_eqAcctS.calls (k : Nat) (A0 : Option Addr) (c0 : Nat) (l0 : List (S85)) (A1 : Option Addr) (c1 : Nat) (l1 : List (S85)) (r : Bool) (w : World) (hr0 : Kd.C k85 w A0 l0.length l0) (hc0 : l0.length ≤ c0) (hr1 : Kd.C k85 w A1 l1.length l1) (hc1 : l1.length ≤ c1) (h : laws_eqAcctS.f k l0 l1 = some r) :
    Calls Try.prog 109 #[.slice A0 l0.length c0, .slice A1 l1.length c1] w fun e w' => e = .returned (.bool r) ∧ Below w.heap.size w w' := by
  have hu85 := Try.underlying85
  have HR0 := Aside0.mk hr0
  have HC0 := Aside0.mk hc0
  clear hr0 hc0
  have HR1 := Aside0.mk hr1
  have HC1 := Aside0.mk hc1
  clear hr1 hc1
  have HB := Aside0.mk (Below.refl w.heap.size w)
  have H : (if (l0.length : Int) = (l1.length : Int) then (laws_eqAcctS.l0 k l0 l1 0) else (some false)) = some r := h
  clear h
  by_cases c3 : (l0.length : Int) = (l1.length : Int)
  · rw [if_pos c3] at H
    have c3b0 : ((l0.length : Int) == (l1.length : Int)) = true := beq_iff_eq.mpr c3
    have c3b1 : ((l0.length : Int) != (l1.length : Int)) = false := bne_eq_false_iff_eq.mpr c3
    have c3b2 : (l0.length == l1.length) = true := by first | simpa using c3 | (simp at c3 ⊢; omega)
    clear c3
    have H' := Aside0.mk H
    clear H
    go_enter Try.func109, Try.ntmps109
    go_wp2
    go_loopg [5] k (fun kq v5 w' => ∃ (x5_1 : Int), v5 = .int .i64 x5_1 ∧ Aside0 (laws_eqAcctS.l0 kq l0 l1 x5_1 = some r) ∧ Aside0 (kq ≤ k) ∧ Aside0 (Below w.heap.size w w'))
    case atStart => exact ⟨(0), sp_, H', ⟨Nat.le_refl _⟩, ⟨bl_⟩⟩
    case round =>
      clear H'
      try clear c1
      try clear p2
      try clear c3
      try clear c3b0
      try clear c3b1
      try clear c3b2
      obtain ⟨x5_1, rfl, HA, HK1, HB⟩ := hrel
      cases gk with
      | zero => exact absurd HA.out (by simp [laws_eqAcctS.l0])
      | succ k1 =>
        have H := HA.out
        clear HA
        simp only [laws_eqAcctS.l0] at H
        by_cases c4 : x5_1 < (l0.length : Int)
        · rw [if_pos c4] at H
          have c4b0 : decide (x5_1 < (l0.length : Int)) = true := decide_eq_true c4
          clear c4
          by_cases c5 : 0 ≤ x5_1
          · rw [if_pos c5] at H
            have c5b0 : decide (0 ≤ x5_1) = true := decide_eq_true c5
            clear c5
            by_cases c6 : x5_1 < (l1.length : Int)
            · rw [if_pos c6] at H
              have c6b0 : decide (x5_1 < (l1.length : Int)) = true := decide_eq_true c6
              clear c6
              replace H := Option.bind_eq_some_iff.mp H
              obtain ⟨t238, A70, H⟩ := H
              replace H : (if t238 = true then (laws_eqAcctS.l0 k1 l0 l1 (wrap64 (x5_1 + 1))) else (some false)) = some r := H
              have A7 := Aside0.mk A70
              clear A70
              by_cases c8 : t238 = true
              · subst c8
                have H1 : (laws_eqAcctS.l0 k1 l0 l1 (wrap64 (x5_1 + 1))) = some r := by rw [if_pos rfl] at H; exact H
                clear H
                have H := H1
                clear H1
                have H' := Aside0.mk H
                clear H
                try go_wp2
                have n0_ := Aside0.mk (below_drew1 HB.out)
                clear HB
                have HB := n0_
                clear n0_
                have p236 : 0 ≤ (x5_1 : Int) := od_
                have q236 : x5_1 < (l0.length : Int) := od_
                obtain ⟨ad236, A236_5, c236_5, A236_8, c236_8, A236_9, c236_9, A236_10, c236_10, e236, hx236_0, hx236_1, hx236_2, hx236_3, hx236_4, hx236_5, hx236_6, hx236_7, hx236_8, hx236_9, hx236_10, hl236_5, hi236_5, hl236_8, hi236_8, hl236_9, hi236_9, hl236_10, hi236_10⟩ := at_T85 HR0.out x5_1 p236 q236
                have hw236_10 := hx236_10
                have hw236_9 := hx236_9
                have hw236_8 := hx236_8
                have hw236_7 := hx236_7
                have hw236_6 := hx236_6
                have hw236_5 := hx236_5
                have hw236_4 := hx236_4
                have hw236_3 := hx236_3
                have hw236_2 := hx236_2
                have hw236_1 := hx236_1
                have hw236_0 := hx236_0
                cases e236
                replace hx236_0 := kc_ HB hx236_0
                replace hx236_1 := kc_ HB hx236_1
                replace hx236_2 := kc_ HB hx236_2
                replace hx236_3 := kc_ HB hx236_3
                replace hx236_4 := kc_ HB hx236_4
                replace hx236_5 := kc_ HB hx236_5
                replace hx236_6 := kc_ HB hx236_6
                replace hx236_7 := kc_ HB hx236_7
                replace hx236_8 := kc_ HB hx236_8
                replace hx236_9 := kc_ HB hx236_9
                replace hx236_10 := kc_ HB hx236_10
                have HR236_5 := Aside0.mk hi236_5
                have HC236_5 := Aside0.mk hl236_5
                clear hi236_5 hl236_5
                have HR236_8 := Aside0.mk hi236_8
                have HC236_8 := Aside0.mk hl236_8
                clear hi236_8 hl236_8
                have HR236_9 := Aside0.mk hi236_9
                have HC236_9 := Aside0.mk hl236_9
                clear hi236_9 hl236_9
                have HR236_10 := Aside0.mk hi236_10
                have HC236_10 := Aside0.mk hl236_10
                clear hi236_10 hl236_10
                replace p236 := eq_true p236
                replace q236 := eq_true q236
                have p237 : 0 ≤ (x5_1 : Int) := od_
                have q237 : x5_1 < (l1.length : Int) := od_
                obtain ⟨ad237, A237_5, c237_5, A237_8, c237_8, A237_9, c237_9, A237_10, c237_10, e237, hx237_0, hx237_1, hx237_2, hx237_3, hx237_4, hx237_5, hx237_6, hx237_7, hx237_8, hx237_9, hx237_10, hl237_5, hi237_5, hl237_8, hi237_8, hl237_9, hi237_9, hl237_10, hi237_10⟩ := at_T85 HR1.out x5_1 p237 q237
                have hw237_10 := hx237_10
                have hw237_9 := hx237_9
                have hw237_8 := hx237_8
                have hw237_7 := hx237_7
                have hw237_6 := hx237_6
                have hw237_5 := hx237_5
                have hw237_4 := hx237_4
                have hw237_3 := hx237_3
                have hw237_2 := hx237_2
                have hw237_1 := hx237_1
                have hw237_0 := hx237_0
                cases e237
                replace hx237_0 := kc_ HB hx237_0
                replace hx237_1 := kc_ HB hx237_1
                replace hx237_2 := kc_ HB hx237_2
                replace hx237_3 := kc_ HB hx237_3
                replace hx237_4 := kc_ HB hx237_4
                replace hx237_5 := kc_ HB hx237_5
                replace hx237_6 := kc_ HB hx237_6
                replace hx237_7 := kc_ HB hx237_7
                replace hx237_8 := kc_ HB hx237_8
                replace hx237_9 := kc_ HB hx237_9
                replace hx237_10 := kc_ HB hx237_10
                have HR237_5 := Aside0.mk hi237_5
                have HC237_5 := Aside0.mk hl237_5
                clear hi237_5 hl237_5
                have HR237_8 := Aside0.mk hi237_8
                have HC237_8 := Aside0.mk hl237_8
                clear hi237_8 hl237_8
                have HR237_9 := Aside0.mk hi237_9
                have HC237_9 := Aside0.mk hl237_9
                clear hi237_9 hl237_9
                have HR237_10 := Aside0.mk hi237_10
                have HC237_10 := Aside0.mk hl237_10
                clear hi237_10 hl237_10
                replace p237 := eq_true p237
                replace q237 := eq_true q237
                refine start_ (n := 10) (S := fun w' => w'.cell? (ad236.add ((x5_1).toNat * 11)) = some (.string ((rd_T85 l0 x5_1).f0)) ∧ w'.cell? ⟨(ad236.add ((x5_1).toNat * 11)).block, (ad236.add ((x5_1).toNat * 11)).off + 1, none⟩ = some (.int .i64 ((rd_T85 l0 x5_1).f1)) ∧ w'.cell? ⟨(ad236.add ((x5_1).toNat * 11)).block, (ad236.add ((x5_1).toNat * 11)).off + 2, none⟩ = some (.int .i64 ((rd_T85 l0 x5_1).f2)) ∧ w'.cell? ⟨(ad236.add ((x5_1).toNat * 11)).block, (ad236.add ((x5_1).toNat * 11)).off + 3, none⟩ = some (.int .i64 ((rd_T85 l0 x5_1).f3)) ∧ w'.cell? ⟨(ad236.add ((x5_1).toNat * 11)).block, (ad236.add ((x5_1).toNat * 11)).off + 4, none⟩ = some (.int .i64 ((rd_T85 l0 x5_1).f4)) ∧ w'.cell? ⟨(ad236.add ((x5_1).toNat * 11)).block, (ad236.add ((x5_1).toNat * 11)).off + 5, none⟩ = some (.slice A236_5 ((rd_T85 l0 x5_1).f5).length c236_5) ∧ w'.cell? ⟨(ad236.add ((x5_1).toNat * 11)).block, (ad236.add ((x5_1).toNat * 11)).off + 6, none⟩ = some (.int .i64 ((rd_T85 l0 x5_1).f6.f0)) ∧ w'.cell? ⟨(ad236.add ((x5_1).toNat * 11)).block, (ad236.add ((x5_1).toNat * 11)).off + 7, none⟩ = some (.int .i64 ((rd_T85 l0 x5_1).f6.f1)) ∧ w'.cell? ⟨(ad236.add ((x5_1).toNat * 11)).block, (ad236.add ((x5_1).toNat * 11)).off + 8, none⟩ = some (.slice A236_8 ((rd_T85 l0 x5_1).f6.f2).length c236_8) ∧ w'.cell? ⟨(ad236.add ((x5_1).toNat * 11)).block, (ad236.add ((x5_1).toNat * 11)).off + 9, none⟩ = some (.slice A236_9 ((rd_T85 l0 x5_1).f6.f3).length c236_9) ∧ w'.cell? ⟨(ad236.add ((x5_1).toNat * 11)).block, (ad236.add ((x5_1).toNat * 11)).off + 10, none⟩ = some (.slice A236_10 ((rd_T85 l0 x5_1).f7).length c236_10) ∧ w'.cell? (ad237.add ((x5_1).toNat * 11)) = some (.string ((rd_T85 l1 x5_1).f0)) ∧ w'.cell? ⟨(ad237.add ((x5_1).toNat * 11)).block, (ad237.add ((x5_1).toNat * 11)).off + 1, none⟩ = some (.int .i64 ((rd_T85 l1 x5_1).f1)) ∧ w'.cell? ⟨(ad237.add ((x5_1).toNat * 11)).block, (ad237.add ((x5_1).toNat * 11)).off + 2, none⟩ = some (.int .i64 ((rd_T85 l1 x5_1).f2)) ∧ w'.cell? ⟨(ad237.add ((x5_1).toNat * 11)).block, (ad237.add ((x5_1).toNat * 11)).off + 3, none⟩ = some (.int .i64 ((rd_T85 l1 x5_1).f3)) ∧ w'.cell? ⟨(ad237.add ((x5_1).toNat * 11)).block, (ad237.add ((x5_1).toNat * 11)).off + 4, none⟩ = some (.int .i64 ((rd_T85 l1 x5_1).f4)) ∧ w'.cell? ⟨(ad237.add ((x5_1).toNat * 11)).block, (ad237.add ((x5_1).toNat * 11)).off + 5, none⟩ = some (.slice A237_5 ((rd_T85 l1 x5_1).f5).length c237_5) ∧ w'.cell? ⟨(ad237.add ((x5_1).toNat * 11)).block, (ad237.add ((x5_1).toNat * 11)).off + 6, none⟩ = some (.int .i64 ((rd_T85 l1 x5_1).f6.f0)) ∧ w'.cell? ⟨(ad237.add ((x5_1).toNat * 11)).block, (ad237.add ((x5_1).toNat * 11)).off + 7, none⟩ = some (.int .i64 ((rd_T85 l1 x5_1).f6.f1)) ∧ w'.cell? ⟨(ad237.add ((x5_1).toNat * 11)).block, (ad237.add ((x5_1).toNat * 11)).off + 8, none⟩ = some (.slice A237_8 ((rd_T85 l1 x5_1).f6.f2).length c237_8) ∧ w'.cell? ⟨(ad237.add ((x5_1).toNat * 11)).block, (ad237.add ((x5_1).toNat * 11)).off + 9, none⟩ = some (.slice A237_9 ((rd_T85 l1 x5_1).f6.f3).length c237_9) ∧ w'.cell? ⟨(ad237.add ((x5_1).toNat * 11)).block, (ad237.add ((x5_1).toNat * 11)).off + 10, none⟩ = some (.slice A237_10 ((rd_T85 l1 x5_1).f7).length c237_10)) (ds := []) #[false, false, false, false, false, false, false, false, false, false] (by kernel_rfl) rfl rfl ⟨(kc_ HB hw236_0), (kc_ HB hw236_1), (kc_ HB hw236_2), (kc_ HB hw236_3), (kc_ HB hw236_4), (kc_ HB hw236_5), (kc_ HB hw236_6), (kc_ HB hw236_7), (kc_ HB hw236_8), (kc_ HB hw236_9), (kc_ HB hw236_10), (kc_ HB hw237_0), (kc_ HB hw237_1), (kc_ HB hw237_2), (kc_ HB hw237_3), (kc_ HB hw237_4), (kc_ HB hw237_5), (kc_ HB hw237_6), (kc_ HB hw237_7), (kc_ HB hw237_8), (kc_ HB hw237_9), (kc_ HB hw237_10)⟩ (fun hHeld => ?_); refine with_tabW laws_eqAcctS.tab6 laws_eqAcctS.bits6 (fun HT_ HW_ => ?_)
                generalize wr.drew = w9 at HB HR236_10 HR236_5 HR236_8 HR236_9 HR237_10 HR237_5 HR237_8 HR237_9 hx236_0 hx236_1 hx236_10 hx236_2 hx236_3 hx236_4 hx236_5 hx236_6 hx236_7 hx236_8 hx236_9 hx237_0 hx237_1 hx237_10 hx237_2 hx237_3 hx237_4 hx237_5 hx237_6 hx237_7 hx237_8 hx237_9 hHeld ⊢
                refine pure_ (i := 0) (N := some 17) (v := ?_) (a' := ?_) #[true, false, false, false, false, false, false, false, false, false] rfl rfl (any_of HT_.out (by kernel_rfl)) (fun _ _ _ h => h) (Or.inl ⟨by rfl, ?_⟩) ?_ ?_
                rotate_left
                · intro w'
                  go_simp
                  with_reducible rfl
                rotate_left
                · simp only [Act.put, List.setIfInBounds_toArray, List.set_cons_zero, List.set_cons_succ, i64_w, i32_w]
                  rfl
                refine pure_ (i := 1) (N := some 18) (v := ?_) (a' := ?_) #[true, true, false, false, false, false, false, false, false, false] rfl rfl (any_of HT_.out (by kernel_rfl)) (fun _ _ _ h => h) (Or.inl ⟨by rfl, ?_⟩) ?_ ?_
                rotate_left
                · intro w'
                  go_simp
                  with_reducible rfl
                rotate_left
                · simp only [Act.put, List.setIfInBounds_toArray, List.set_cons_zero, List.set_cons_succ, i64_w, i32_w]
                  rfl
                refine pure_ (i := 2) (N := some 19) (v := ?_) (a' := ?_) #[true, true, true, false, false, false, false, false, false, false] rfl rfl (any_of HT_.out (by kernel_rfl)) (fun _ _ _ h => h) (Or.inl ⟨by rfl, ?_⟩) ?_ ?_
                rotate_left
                · intro w'
                  go_simp
                  with_reducible rfl
                rotate_left
                · simp only [Act.put, List.setIfInBounds_toArray, List.set_cons_zero, List.set_cons_succ, i64_w, i32_w]
                  rfl
                refine pure_ (i := 4) (N := some 21) (v := ?_) (a' := ?_) #[true, true, true, false, true, false, false, false, false, false] rfl rfl (any_of HT_.out (by kernel_rfl)) (fun _ _ _ h => h) (Or.inl ⟨by rfl, ?_⟩) ?_ ?_
                rotate_left
                · intro w'
                  go_simp
                  with_reducible rfl
                rotate_left
                · simp only [Act.put, List.setIfInBounds_toArray, List.set_cons_zero, List.set_cons_succ, i64_w, i32_w]
                  rfl
                refine pure_ (i := 5) (N := some 22) (v := ?_) (a' := ?_) #[true, true, true, false, true, true, false, false, false, false] rfl rfl (any_of HT_.out (by kernel_rfl)) (fun _ _ _ h => h) (Or.inl ⟨by rfl, ?_⟩) ?_ ?_
                rotate_left
                · intro w'
                  go_simp
                  with_reducible rfl
                rotate_left
                · simp only [Act.put, List.setIfInBounds_toArray, List.set_cons_zero, List.set_cons_succ, i64_w, i32_w]
                  rfl
                refine pure_ (i := 6) (N := some 23) (v := ?_) (a' := ?_) #[true, true, true, false, true, true, true, false, false, false] rfl rfl (any_of HT_.out (by kernel_rfl)) (fun _ _ _ h => h) (Or.inl ⟨by rfl, ?_⟩) ?_ ?_
                rotate_left
                · intro w'
                  go_simp
                  with_reducible rfl
                rotate_left
                · simp only [Act.put, List.setIfInBounds_toArray, List.set_cons_zero, List.set_cons_succ, i64_w, i32_w]
                  rfl
                refine take_ (i := 3) (N := some 20) (v := ?_) (a' := ?_) #[true, true, true, true, true, true, true, false, false, false] rfl rfl (take_ofW HT_.out HW_.out (by kernel_rfl)) (fun _ _ _ h => h) (Or.inl ⟨by rfl, ?_⟩) hHeld ?_ ?_
                rotate_left
                · rintro w' ⟨s0, s1, s2, s3, s4, s5, s6, s7, s8, s9, s10, s11, s12, s13, s14, s15, s16, s17, s18, s19, s20, s21⟩
                  go_simp
                  with_reducible rfl
                rotate_left
                · simp only [Act.put, List.setIfInBounds_toArray, List.set_cons_zero, List.set_cons_succ, i64_w, i32_w]
                  rfl
                refine take_ (i := 7) (N := some 24) (v := ?_) (a' := ?_) #[true, true, true, true, true, true, true, true, false, false] rfl rfl (take_ofW HT_.out HW_.out (by kernel_rfl)) (fun _ _ _ h => h) (Or.inl ⟨by rfl, ?_⟩) hHeld ?_ ?_
                rotate_left
                · rintro w' ⟨s0, s1, s2, s3, s4, s5, s6, s7, s8, s9, s10, s11, s12, s13, s14, s15, s16, s17, s18, s19, s20, s21⟩
                  go_simp
                  with_reducible rfl
                rotate_left
                · simp only [Act.put, List.setIfInBounds_toArray, List.set_cons_zero, List.set_cons_succ, i64_w, i32_w]
                  rfl
                refine one_ (i := 8) (N := some 25) #[true, true, true, true, true, true, true, true, true, false] rfl rfl (one_of HT_.out (by kernel_rfl)) (by decide) (fun K hK => ?_)
                refine goes_ Try.func53 (by kernel_rfl) rfl #[.agg #[.string ((rd_T85 l0 x5_1).f0), .int .i64 ((rd_T85 l0 x5_1).f1), .int .i64 ((rd_T85 l0 x5_1).f2), .int .i64 ((rd_T85 l0 x5_1).f3), .int .i64 ((rd_T85 l0 x5_1).f4), .slice A236_5 ((rd_T85 l0 x5_1).f5).length c236_5, .int .i64 ((rd_T85 l0 x5_1).f6.f0), .int .i64 ((rd_T85 l0 x5_1).f6.f1), .slice A236_8 ((rd_T85 l0 x5_1).f6.f2).length c236_8, .slice A236_9 ((rd_T85 l0 x5_1).f6.f3).length c236_9, .slice A236_10 ((rd_T85 l0 x5_1).f7).length c236_10], .agg #[.string ((rd_T85 l1 x5_1).f0), .int .i64 ((rd_T85 l1 x5_1).f1), .int .i64 ((rd_T85 l1 x5_1).f2), .int .i64 ((rd_T85 l1 x5_1).f3), .int .i64 ((rd_T85 l1 x5_1).f4), .slice A237_5 ((rd_T85 l1 x5_1).f5).length c237_5, .int .i64 ((rd_T85 l1 x5_1).f6.f0), .int .i64 ((rd_T85 l1 x5_1).f6.f1), .slice A237_8 ((rd_T85 l1 x5_1).f6.f2).length c237_8, .slice A237_9 ((rd_T85 l1 x5_1).f6.f3).length c237_9, .slice A237_10 ((rd_T85 l1 x5_1).f7).length c237_10]] (by rfl) rfl rfl gl_ ?_
                with_reducible refine (laws_eqAcct.calls k1 ((rd_T85 l0 x5_1).f0) ((rd_T85 l0 x5_1).f1) ((rd_T85 l0 x5_1).f2) ((rd_T85 l0 x5_1).f3) ((rd_T85 l0 x5_1).f4) _ _ ((rd_T85 l0 x5_1).f5) ((rd_T85 l0 x5_1).f6.f0) ((rd_T85 l0 x5_1).f6.f1) _ _ ((rd_T85 l0 x5_1).f6.f2) _ _ ((rd_T85 l0 x5_1).f6.f3) _ _ ((rd_T85 l0 x5_1).f7) ((rd_T85 l1 x5_1).f0) ((rd_T85 l1 x5_1).f1) ((rd_T85 l1 x5_1).f2) ((rd_T85 l1 x5_1).f3) ((rd_T85 l1 x5_1).f4) _ _ ((rd_T85 l1 x5_1).f5) ((rd_T85 l1 x5_1).f6.f0) ((rd_T85 l1 x5_1).f6.f1) _ _ ((rd_T85 l1 x5_1).f6.f2) _ _ ((rd_T85 l1 x5_1).f6.f3) _ _ ((rd_T85 l1 x5_1).f7) true _ ?side1 ?side2 ?side3 ?side4 ?side5 ?side6 ?side7 ?side8 ?side9 ?side10 ?side11 ?side12 ?side13 ?side14 ?side15 ?side16 A7.out).mono ?_
                (case side1 => exact ca_ (Kd.C_below HR236_5.out HB.out))
                (case side2 => exact HC236_5.out)
                (case side3 => exact ca_ (Kd.C_below HR236_8.out HB.out))
                (case side4 => exact HC236_8.out)
                (case side5 => exact ca_ (Kd.C_below HR236_9.out HB.out))
                (case side6 => exact HC236_9.out)
                (case side7 => exact ca_ (Kd.C_below HR236_10.out HB.out))
                (case side8 => exact HC236_10.out)
                (case side9 => exact ca_ (Kd.C_below HR237_5.out HB.out))
                (case side10 => exact HC237_5.out)
                (case side11 => exact ca_ (Kd.C_below HR237_8.out HB.out))
                (case side12 => exact HC237_8.out)
                (case side13 => exact ca_ (Kd.C_below HR237_9.out HB.out))
                (case side14 => exact HC237_9.out)
                (case side15 => exact ca_ (Kd.C_below HR237_10.out HB.out))
                (case side16 => exact HC237_10.out)
                rintro e w10 ⟨rfl, hb⟩
                refine ⟨_, rfl, ?_⟩
                have n0_ := Aside0.mk (below_step bl_ hb)
                clear HB
                have HB := n0_
                clear n0_
                (try clear hb)
                (try clear hb2)
                (try clear hk)
                (try clear hi)
                refine hK.out _ _ ⟨(kc_ HB hw236_0), (kc_ HB hw236_1), (kc_ HB hw236_2), (kc_ HB hw236_3), (kc_ HB hw236_4), (kc_ HB hw236_5), (kc_ HB hw236_6), (kc_ HB hw236_7), (kc_ HB hw236_8), (kc_ HB hw236_9), (kc_ HB hw236_10), (kc_ HB hw237_0), (kc_ HB hw237_1), (kc_ HB hw237_2), (kc_ HB hw237_3), (kc_ HB hw237_4), (kc_ HB hw237_5), (kc_ HB hw237_6), (kc_ HB hw237_7), (kc_ HB hw237_8), (kc_ HB hw237_9), (kc_ HB hw237_10)⟩ (fun hHeld => ?_)
                clear hK K
                refine norm_ (a' := ?_) ?_ ?_
                rotate_left
                · show Act.put _ (some 25) _ = _
                  simp only [Act.put, List.setIfInBounds_toArray, List.set_cons_zero, List.set_cons_succ, i64_w, i32_w]
                  rfl
                refine pure_ (i := 9) (N := some 26) (v := ?_) (a' := ?_) #[true, true, true, true, true, true, true, true, true, true] rfl rfl (any_of HT_.out (by kernel_rfl)) (fun _ _ _ h => h) (Or.inl ⟨by rfl, ?_⟩) ?_ ?_
                rotate_left
                · intro w'
                  go_simp
                  with_reducible rfl
                rotate_left
                · simp only [Act.put, List.setIfInBounds_toArray, List.set_cons_zero, List.set_cons_succ, i64_w, i32_w]
                  rfl
                refine done_ (done_of HT_.out (by kernel_rfl)) ?_
                try go_wp2
                go_roundg k1
                case measure => have := HK1.out; omega
                case rel => exact ⟨(wrap64 (x5_1 + 1)), sp_, H', ⟨by have := HK1.out; omega⟩, ⟨bl_⟩⟩
              · replace c8 := Bool.eq_false_iff.mpr c8
                subst c8
                have H1 : (some false) = some r := by rw [if_neg (show ¬ (false = true) by decide)] at H; exact H
                clear H
                have H := H1
                clear H1
                obtain rfl := Option.some.inj H
                try go_wp2
                have n0_ := Aside0.mk (below_drew1 HB.out)
                clear HB
                have HB := n0_
                clear n0_
                have p236 : 0 ≤ (x5_1 : Int) := od_
                have q236 : x5_1 < (l0.length : Int) := od_
                obtain ⟨ad236, A236_5, c236_5, A236_8, c236_8, A236_9, c236_9, A236_10, c236_10, e236, hx236_0, hx236_1, hx236_2, hx236_3, hx236_4, hx236_5, hx236_6, hx236_7, hx236_8, hx236_9, hx236_10, hl236_5, hi236_5, hl236_8, hi236_8, hl236_9, hi236_9, hl236_10, hi236_10⟩ := at_T85 HR0.out x5_1 p236 q236
                have hw236_10 := hx236_10
                have hw236_9 := hx236_9
                have hw236_8 := hx236_8
                have hw236_7 := hx236_7
                have hw236_6 := hx236_6
                have hw236_5 := hx236_5
                have hw236_4 := hx236_4
                have hw236_3 := hx236_3
                have hw236_2 := hx236_2
                have hw236_1 := hx236_1
                have hw236_0 := hx236_0
                cases e236
                replace hx236_0 := kc_ HB hx236_0
                replace hx236_1 := kc_ HB hx236_1
                replace hx236_2 := kc_ HB hx236_2
                replace hx236_3 := kc_ HB hx236_3
                replace hx236_4 := kc_ HB hx236_4
                replace hx236_5 := kc_ HB hx236_5
                replace hx236_6 := kc_ HB hx236_6
                replace hx236_7 := kc_ HB hx236_7
                replace hx236_8 := kc_ HB hx236_8
                replace hx236_9 := kc_ HB hx236_9
                replace hx236_10 := kc_ HB hx236_10
                have HR236_5 := Aside0.mk hi236_5
                have HC236_5 := Aside0.mk hl236_5
                clear hi236_5 hl236_5
                have HR236_8 := Aside0.mk hi236_8
                have HC236_8 := Aside0.mk hl236_8
                clear hi236_8 hl236_8
                have HR236_9 := Aside0.mk hi236_9
                have HC236_9 := Aside0.mk hl236_9
                clear hi236_9 hl236_9
                have HR236_10 := Aside0.mk hi236_10
                have HC236_10 := Aside0.mk hl236_10
                clear hi236_10 hl236_10
                replace p236 := eq_true p236
                replace q236 := eq_true q236
                have p237 : 0 ≤ (x5_1 : Int) := od_
                have q237 : x5_1 < (l1.length : Int) := od_
                obtain ⟨ad237, A237_5, c237_5, A237_8, c237_8, A237_9, c237_9, A237_10, c237_10, e237, hx237_0, hx237_1, hx237_2, hx237_3, hx237_4, hx237_5, hx237_6, hx237_7, hx237_8, hx237_9, hx237_10, hl237_5, hi237_5, hl237_8, hi237_8, hl237_9, hi237_9, hl237_10, hi237_10⟩ := at_T85 HR1.out x5_1 p237 q237
                have hw237_10 := hx237_10
                have hw237_9 := hx237_9
                have hw237_8 := hx237_8
                have hw237_7 := hx237_7
                have hw237_6 := hx237_6
                have hw237_5 := hx237_5
                have hw237_4 := hx237_4
                have hw237_3 := hx237_3
                have hw237_2 := hx237_2
                have hw237_1 := hx237_1
                have hw237_0 := hx237_0
                cases e237
                replace hx237_0 := kc_ HB hx237_0
                replace hx237_1 := kc_ HB hx237_1
                replace hx237_2 := kc_ HB hx237_2
                replace hx237_3 := kc_ HB hx237_3
                replace hx237_4 := kc_ HB hx237_4
                replace hx237_5 := kc_ HB hx237_5
                replace hx237_6 := kc_ HB hx237_6
                replace hx237_7 := kc_ HB hx237_7
                replace hx237_8 := kc_ HB hx237_8
                replace hx237_9 := kc_ HB hx237_9
                replace hx237_10 := kc_ HB hx237_10
                have HR237_5 := Aside0.mk hi237_5
                have HC237_5 := Aside0.mk hl237_5
                clear hi237_5 hl237_5
                have HR237_8 := Aside0.mk hi237_8
                have HC237_8 := Aside0.mk hl237_8
                clear hi237_8 hl237_8
                have HR237_9 := Aside0.mk hi237_9
                have HC237_9 := Aside0.mk hl237_9
                clear hi237_9 hl237_9
                have HR237_10 := Aside0.mk hi237_10
                have HC237_10 := Aside0.mk hl237_10
                clear hi237_10 hl237_10
                replace p237 := eq_true p237
                replace q237 := eq_true q237
                refine start_ (n := 10) (S := fun w' => w'.cell? (ad236.add ((x5_1).toNat * 11)) = some (.string ((rd_T85 l0 x5_1).f0)) ∧ w'.cell? ⟨(ad236.add ((x5_1).toNat * 11)).block, (ad236.add ((x5_1).toNat * 11)).off + 1, none⟩ = some (.int .i64 ((rd_T85 l0 x5_1).f1)) ∧ w'.cell? ⟨(ad236.add ((x5_1).toNat * 11)).block, (ad236.add ((x5_1).toNat * 11)).off + 2, none⟩ = some (.int .i64 ((rd_T85 l0 x5_1).f2)) ∧ w'.cell? ⟨(ad236.add ((x5_1).toNat * 11)).block, (ad236.add ((x5_1).toNat * 11)).off + 3, none⟩ = some (.int .i64 ((rd_T85 l0 x5_1).f3)) ∧ w'.cell? ⟨(ad236.add ((x5_1).toNat * 11)).block, (ad236.add ((x5_1).toNat * 11)).off + 4, none⟩ = some (.int .i64 ((rd_T85 l0 x5_1).f4)) ∧ w'.cell? ⟨(ad236.add ((x5_1).toNat * 11)).block, (ad236.add ((x5_1).toNat * 11)).off + 5, none⟩ = some (.slice A236_5 ((rd_T85 l0 x5_1).f5).length c236_5) ∧ w'.cell? ⟨(ad236.add ((x5_1).toNat * 11)).block, (ad236.add ((x5_1).toNat * 11)).off + 6, none⟩ = some (.int .i64 ((rd_T85 l0 x5_1).f6.f0)) ∧ w'.cell? ⟨(ad236.add ((x5_1).toNat * 11)).block, (ad236.add ((x5_1).toNat * 11)).off + 7, none⟩ = some (.int .i64 ((rd_T85 l0 x5_1).f6.f1)) ∧ w'.cell? ⟨(ad236.add ((x5_1).toNat * 11)).block, (ad236.add ((x5_1).toNat * 11)).off + 8, none⟩ = some (.slice A236_8 ((rd_T85 l0 x5_1).f6.f2).length c236_8) ∧ w'.cell? ⟨(ad236.add ((x5_1).toNat * 11)).block, (ad236.add ((x5_1).toNat * 11)).off + 9, none⟩ = some (.slice A236_9 ((rd_T85 l0 x5_1).f6.f3).length c236_9) ∧ w'.cell? ⟨(ad236.add ((x5_1).toNat * 11)).block, (ad236.add ((x5_1).toNat * 11)).off + 10, none⟩ = some (.slice A236_10 ((rd_T85 l0 x5_1).f7).length c236_10) ∧ w'.cell? (ad237.add ((x5_1).toNat * 11)) = some (.string ((rd_T85 l1 x5_1).f0)) ∧ w'.cell? ⟨(ad237.add ((x5_1).toNat * 11)).block, (ad237.add ((x5_1).toNat * 11)).off + 1, none⟩ = some (.int .i64 ((rd_T85 l1 x5_1).f1)) ∧ w'.cell? ⟨(ad237.add ((x5_1).toNat * 11)).block, (ad237.add ((x5_1).toNat * 11)).off + 2, none⟩ = some (.int .i64 ((rd_T85 l1 x5_1).f2)) ∧ w'.cell? ⟨(ad237.add ((x5_1).toNat * 11)).block, (ad237.add ((x5_1).toNat * 11)).off + 3, none⟩ = some (.int .i64 ((rd_T85 l1 x5_1).f3)) ∧ w'.cell? ⟨(ad237.add ((x5_1).toNat * 11)).block, (ad237.add ((x5_1).toNat * 11)).off + 4, none⟩ = some (.int .i64 ((rd_T85 l1 x5_1).f4)) ∧ w'.cell? ⟨(ad237.add ((x5_1).toNat * 11)).block, (ad237.add ((x5_1).toNat * 11)).off + 5, none⟩ = some (.slice A237_5 ((rd_T85 l1 x5_1).f5).length c237_5) ∧ w'.cell? ⟨(ad237.add ((x5_1).toNat * 11)).block, (ad237.add ((x5_1).toNat * 11)).off + 6, none⟩ = some (.int .i64 ((rd_T85 l1 x5_1).f6.f0)) ∧ w'.cell? ⟨(ad237.add ((x5_1).toNat * 11)).block, (ad237.add ((x5_1).toNat * 11)).off + 7, none⟩ = some (.int .i64 ((rd_T85 l1 x5_1).f6.f1)) ∧ w'.cell? ⟨(ad237.add ((x5_1).toNat * 11)).block, (ad237.add ((x5_1).toNat * 11)).off + 8, none⟩ = some (.slice A237_8 ((rd_T85 l1 x5_1).f6.f2).length c237_8) ∧ w'.cell? ⟨(ad237.add ((x5_1).toNat * 11)).block, (ad237.add ((x5_1).toNat * 11)).off + 9, none⟩ = some (.slice A237_9 ((rd_T85 l1 x5_1).f6.f3).length c237_9) ∧ w'.cell? ⟨(ad237.add ((x5_1).toNat * 11)).block, (ad237.add ((x5_1).toNat * 11)).off + 10, none⟩ = some (.slice A237_10 ((rd_T85 l1 x5_1).f7).length c237_10)) (ds := []) #[false, false, false, false, false, false, false, false, false, false] (by kernel_rfl) rfl rfl ⟨(kc_ HB hw236_0), (kc_ HB hw236_1), (kc_ HB hw236_2), (kc_ HB hw236_3), (kc_ HB hw236_4), (kc_ HB hw236_5), (kc_ HB hw236_6), (kc_ HB hw236_7), (kc_ HB hw236_8), (kc_ HB hw236_9), (kc_ HB hw236_10), (kc_ HB hw237_0), (kc_ HB hw237_1), (kc_ HB hw237_2), (kc_ HB hw237_3), (kc_ HB hw237_4), (kc_ HB hw237_5), (kc_ HB hw237_6), (kc_ HB hw237_7), (kc_ HB hw237_8), (kc_ HB hw237_9), (kc_ HB hw237_10)⟩ (fun hHeld => ?_); refine with_tabW laws_eqAcctS.tab6 laws_eqAcctS.bits6 (fun HT_ HW_ => ?_)
                generalize wr.drew = w11 at HB HR236_10 HR236_5 HR236_8 HR236_9 HR237_10 HR237_5 HR237_8 HR237_9 hx236_0 hx236_1 hx236_10 hx236_2 hx236_3 hx236_4 hx236_5 hx236_6 hx236_7 hx236_8 hx236_9 hx237_0 hx237_1 hx237_10 hx237_2 hx237_3 hx237_4 hx237_5 hx237_6 hx237_7 hx237_8 hx237_9 hHeld ⊢
                refine pure_ (i := 0) (N := some 17) (v := ?_) (a' := ?_) #[true, false, false, false, false, false, false, false, false, false] rfl rfl (any_of HT_.out (by kernel_rfl)) (fun _ _ _ h => h) (Or.inl ⟨by rfl, ?_⟩) ?_ ?_
                rotate_left
                · intro w'
                  go_simp
                  with_reducible rfl
                rotate_left
                · simp only [Act.put, List.setIfInBounds_toArray, List.set_cons_zero, List.set_cons_succ, i64_w, i32_w]
                  rfl
                refine pure_ (i := 1) (N := some 18) (v := ?_) (a' := ?_) #[true, true, false, false, false, false, false, false, false, false] rfl rfl (any_of HT_.out (by kernel_rfl)) (fun _ _ _ h => h) (Or.inl ⟨by rfl, ?_⟩) ?_ ?_
                rotate_left
                · intro w'
                  go_simp
                  with_reducible rfl
                rotate_left
                · simp only [Act.put, List.setIfInBounds_toArray, List.set_cons_zero, List.set_cons_succ, i64_w, i32_w]
                  rfl
                refine pure_ (i := 2) (N := some 19) (v := ?_) (a' := ?_) #[true, true, true, false, false, false, false, false, false, false] rfl rfl (any_of HT_.out (by kernel_rfl)) (fun _ _ _ h => h) (Or.inl ⟨by rfl, ?_⟩) ?_ ?_
                rotate_left
                · intro w'
                  go_simp
                  with_reducible rfl
                rotate_left
                · simp only [Act.put, List.setIfInBounds_toArray, List.set_cons_zero, List.set_cons_succ, i64_w, i32_w]
                  rfl
                refine pure_ (i := 4) (N := some 21) (v := ?_) (a' := ?_) #[true, true, true, false, true, false, false, false, false, false] rfl rfl (any_of HT_.out (by kernel_rfl)) (fun _ _ _ h => h) (Or.inl ⟨by rfl, ?_⟩) ?_ ?_
                rotate_left
                · intro w'
                  go_simp
                  with_reducible rfl
                rotate_left
                · simp only [Act.put, List.setIfInBounds_toArray, List.set_cons_zero, List.set_cons_succ, i64_w, i32_w]
                  rfl
                refine pure_ (i := 5) (N := some 22) (v := ?_) (a' := ?_) #[true, true, true, false, true, true, false, false, false, false] rfl rfl (any_of HT_.out (by kernel_rfl)) (fun _ _ _ h => h) (Or.inl ⟨by rfl, ?_⟩) ?_ ?_
                rotate_left
                · intro w'
                  go_simp
                  with_reducible rfl
                rotate_left
                · simp only [Act.put, List.setIfInBounds_toArray, List.set_cons_zero, List.set_cons_succ, i64_w, i32_w]
                  rfl
                refine pure_ (i := 6) (N := some 23) (v := ?_) (a' := ?_) #[true, true, true, false, true, true, true, false, false, false] rfl rfl (any_of HT_.out (by kernel_rfl)) (fun _ _ _ h => h) (Or.inl ⟨by rfl, ?_⟩) ?_ ?_
                rotate_left
                · intro w'
                  go_simp
                  with_reducible rfl
                rotate_left
                · simp only [Act.put, List.setIfInBounds_toArray, List.set_cons_zero, List.set_cons_succ, i64_w, i32_w]
                  rfl
                refine take_ (i := 3) (N := some 20) (v := ?_) (a' := ?_) #[true, true, true, true, true, true, true, false, false, false] rfl rfl (take_ofW HT_.out HW_.out (by kernel_rfl)) (fun _ _ _ h => h) (Or.inl ⟨by rfl, ?_⟩) hHeld ?_ ?_
                rotate_left
                · rintro w' ⟨s0, s1, s2, s3, s4, s5, s6, s7, s8, s9, s10, s11, s12, s13, s14, s15, s16, s17, s18, s19, s20, s21⟩
                  go_simp
                  with_reducible rfl
                rotate_left
                · simp only [Act.put, List.setIfInBounds_toArray, List.set_cons_zero, List.set_cons_succ, i64_w, i32_w]
                  rfl
                refine take_ (i := 7) (N := some 24) (v := ?_) (a' := ?_) #[true, true, true, true, true, true, true, true, false, false] rfl rfl (take_ofW HT_.out HW_.out (by kernel_rfl)) (fun _ _ _ h => h) (Or.inl ⟨by rfl, ?_⟩) hHeld ?_ ?_
                rotate_left
                · rintro w' ⟨s0, s1, s2, s3, s4, s5, s6, s7, s8, s9, s10, s11, s12, s13, s14, s15, s16, s17, s18, s19, s20, s21⟩
                  go_simp
                  with_reducible rfl
                rotate_left
                · simp only [Act.put, List.setIfInBounds_toArray, List.set_cons_zero, List.set_cons_succ, i64_w, i32_w]
                  rfl
                refine one_ (i := 8) (N := some 25) #[true, true, true, true, true, true, true, true, true, false] rfl rfl (one_of HT_.out (by kernel_rfl)) (by decide) (fun K hK => ?_)
                refine goes_ Try.func53 (by kernel_rfl) rfl #[.agg #[.string ((rd_T85 l0 x5_1).f0), .int .i64 ((rd_T85 l0 x5_1).f1), .int .i64 ((rd_T85 l0 x5_1).f2), .int .i64 ((rd_T85 l0 x5_1).f3), .int .i64 ((rd_T85 l0 x5_1).f4), .slice A236_5 ((rd_T85 l0 x5_1).f5).length c236_5, .int .i64 ((rd_T85 l0 x5_1).f6.f0), .int .i64 ((rd_T85 l0 x5_1).f6.f1), .slice A236_8 ((rd_T85 l0 x5_1).f6.f2).length c236_8, .slice A236_9 ((rd_T85 l0 x5_1).f6.f3).length c236_9, .slice A236_10 ((rd_T85 l0 x5_1).f7).length c236_10], .agg #[.string ((rd_T85 l1 x5_1).f0), .int .i64 ((rd_T85 l1 x5_1).f1), .int .i64 ((rd_T85 l1 x5_1).f2), .int .i64 ((rd_T85 l1 x5_1).f3), .int .i64 ((rd_T85 l1 x5_1).f4), .slice A237_5 ((rd_T85 l1 x5_1).f5).length c237_5, .int .i64 ((rd_T85 l1 x5_1).f6.f0), .int .i64 ((rd_T85 l1 x5_1).f6.f1), .slice A237_8 ((rd_T85 l1 x5_1).f6.f2).length c237_8, .slice A237_9 ((rd_T85 l1 x5_1).f6.f3).length c237_9, .slice A237_10 ((rd_T85 l1 x5_1).f7).length c237_10]] (by rfl) rfl rfl gl_ ?_
                with_reducible refine (laws_eqAcct.calls k1 ((rd_T85 l0 x5_1).f0) ((rd_T85 l0 x5_1).f1) ((rd_T85 l0 x5_1).f2) ((rd_T85 l0 x5_1).f3) ((rd_T85 l0 x5_1).f4) _ _ ((rd_T85 l0 x5_1).f5) ((rd_T85 l0 x5_1).f6.f0) ((rd_T85 l0 x5_1).f6.f1) _ _ ((rd_T85 l0 x5_1).f6.f2) _ _ ((rd_T85 l0 x5_1).f6.f3) _ _ ((rd_T85 l0 x5_1).f7) ((rd_T85 l1 x5_1).f0) ((rd_T85 l1 x5_1).f1) ((rd_T85 l1 x5_1).f2) ((rd_T85 l1 x5_1).f3) ((rd_T85 l1 x5_1).f4) _ _ ((rd_T85 l1 x5_1).f5) ((rd_T85 l1 x5_1).f6.f0) ((rd_T85 l1 x5_1).f6.f1) _ _ ((rd_T85 l1 x5_1).f6.f2) _ _ ((rd_T85 l1 x5_1).f6.f3) _ _ ((rd_T85 l1 x5_1).f7) false _ ?side1 ?side2 ?side3 ?side4 ?side5 ?side6 ?side7 ?side8 ?side9 ?side10 ?side11 ?side12 ?side13 ?side14 ?side15 ?side16 A7.out).mono ?_
                (case side1 => exact ca_ (Kd.C_below HR236_5.out HB.out))
                (case side2 => exact HC236_5.out)
                (case side3 => exact ca_ (Kd.C_below HR236_8.out HB.out))
                (case side4 => exact HC236_8.out)
                (case side5 => exact ca_ (Kd.C_below HR236_9.out HB.out))
                (case side6 => exact HC236_9.out)
                (case side7 => exact ca_ (Kd.C_below HR236_10.out HB.out))
                (case side8 => exact HC236_10.out)
                (case side9 => exact ca_ (Kd.C_below HR237_5.out HB.out))
                (case side10 => exact HC237_5.out)
                (case side11 => exact ca_ (Kd.C_below HR237_8.out HB.out))
                (case side12 => exact HC237_8.out)
                (case side13 => exact ca_ (Kd.C_below HR237_9.out HB.out))
                (case side14 => exact HC237_9.out)
                (case side15 => exact ca_ (Kd.C_below HR237_10.out HB.out))
                (case side16 => exact HC237_10.out)
                rintro e w12 ⟨rfl, hb⟩
                refine ⟨_, rfl, ?_⟩
                have n0_ := Aside0.mk (below_step bl_ hb)
                clear HB
                have HB := n0_
                clear n0_
                (try clear hb)
                (try clear hb2)
                (try clear hk)
                (try clear hi)
                refine hK.out _ _ ⟨(kc_ HB hw236_0), (kc_ HB hw236_1), (kc_ HB hw236_2), (kc_ HB hw236_3), (kc_ HB hw236_4), (kc_ HB hw236_5), (kc_ HB hw236_6), (kc_ HB hw236_7), (kc_ HB hw236_8), (kc_ HB hw236_9), (kc_ HB hw236_10), (kc_ HB hw237_0), (kc_ HB hw237_1), (kc_ HB hw237_2), (kc_ HB hw237_3), (kc_ HB hw237_4), (kc_ HB hw237_5), (kc_ HB hw237_6), (kc_ HB hw237_7), (kc_ HB hw237_8), (kc_ HB hw237_9), (kc_ HB hw237_10)⟩ (fun hHeld => ?_)
                clear hK K
                refine norm_ (a' := ?_) ?_ ?_
                rotate_left
                · show Act.put _ (some 25) _ = _
                  simp only [Act.put, List.setIfInBounds_toArray, List.set_cons_zero, List.set_cons_succ, i64_w, i32_w]
                  rfl
                refine pure_ (i := 9) (N := some 26) (v := ?_) (a' := ?_) #[true, true, true, true, true, true, true, true, true, true] rfl rfl (any_of HT_.out (by kernel_rfl)) (fun _ _ _ h => h) (Or.inl ⟨by rfl, ?_⟩) ?_ ?_
                rotate_left
                · intro w'
                  go_simp
                  with_reducible rfl
                rotate_left
                · simp only [Act.put, List.setIfInBounds_toArray, List.set_cons_zero, List.set_cons_succ, i64_w, i32_w]
                  rfl
                refine done_ (done_of HT_.out (by kernel_rfl)) ?_
                try go_wp2
                go_ret
                exact ⟨by first | rfl | (simp [errW_none, errW_some] <;> rfl) | (simp [*, errW_none, errW_some] <;> rfl), bl_⟩
            · rw [if_neg c6] at H
              exact absurd H (by simp)
          · rw [if_neg c5] at H
            exact absurd H (by simp)
        · rw [if_neg c4] at H
          have c4b0 : decide (x5_1 < (l0.length : Int)) = false := decide_eq_false c4
          clear c4
          obtain rfl := Option.some.inj H
          go_wp2
          go_ret
          exact ⟨by first | rfl | (simp [errW_none, errW_some] <;> rfl) | (simp [*, errW_none, errW_some] <;> rfl), bl_⟩
  · rw [if_neg c3] at H
    have c3b0 : ((l0.length : Int) == (l1.length : Int)) = false := beq_eq_false_iff_ne.mpr c3
    have c3b1 : ((l0.length : Int) != (l1.length : Int)) = true := bne_iff_ne.mpr c3
    have c3b2 : (l0.length == l1.length) = false := by first | simpa using c3 | (simp at c3 ⊢; omega)
    obtain rfl := Option.some.inj H
    go_enter Try.func109, Try.ntmps109
    go_wp2
    go_ret
    exact ⟨by first | rfl | (simp [errW_none, errW_some] <;> rfl) | (simp [*, errW_none, errW_some] <;> rfl), bl_⟩

/-! ### laws_eqBook: function 48 -/
def laws_eqBook.f (k : Nat) (l0_0 : List (S85)) (l1_0 : List (S85)) : Option (Bool) := (laws_eqAcctS.f k l0_0 l1_0).bind fun t241 => (if t241 = true then (some true) else (some false))
theorem laws_eqBook.mono : ∀ a0 a1 k, LeO (laws_eqBook.f k a0 a1) (laws_eqBook.f (k + 1) a0 a1) := by
  intro a0 a1 k
  unfold laws_eqBook.f
  repeat' first
      | (with_reducible exact laws_eqAcctS.mono _ _ _)
      | (with_reducible exact LeO.refl _)
      | (with_reducible exact LeO.none _)
      | (with_reducible refine LeO.ite ?_ ?_)
      | (with_reducible refine LeO.bind ?_ (fun _ => ?_))
      | exact laws_eqAcctS.mono _ _ _
      | exact LeO.none _
      | refine LeO.ite ?_ ?_
      | refine LeO.bind ?_ (fun _ => ?_)
set_option maxHeartbeats 8000000 in
set_option maxRecDepth 100000 in
theorem laws_eqBook.calls (k : Nat) (A0_0 : Option Addr) (c0_0 : Nat) (l0_0 : List (S85)) (A1_0 : Option Addr) (c1_0 : Nat) (l1_0 : List (S85)) (r : Bool) (w : World) (hr0_0 : Kd.C k85 w A0_0 l0_0.length l0_0) (hc0_0 : l0_0.length ≤ c0_0) (hr1_0 : Kd.C k85 w A1_0 l1_0.length l1_0) (hc1_0 : l1_0.length ≤ c1_0) (h : laws_eqBook.f k l0_0 l1_0 = some r) :
    Calls Try.prog 48 #[.agg #[.slice A0_0 l0_0.length c0_0], .agg #[.slice A1_0 l1_0.length c1_0]] w fun e w' => e = .returned (.bool r) ∧ Below w.heap.size w w' := by
  have hu72 := Try.underlying72
  have HR0_0 := Aside0.mk hr0_0
  have HC0_0 := Aside0.mk hc0_0
  clear hr0_0 hc0_0
  have HR1_0 := Aside0.mk hr1_0
  have HC1_0 := Aside0.mk hc1_0
  clear hr1_0 hc1_0
  have HB := Aside0.mk (Below.refl w.heap.size w)
  have H : ((laws_eqAcctS.f k l0_0 l1_0).bind fun t241 => (if t241 = true then (some true) else (some false))) = some r := h
  clear h
  replace H := Option.bind_eq_some_iff.mp H
  obtain ⟨t241, A30, H⟩ := H
  replace H : (if t241 = true then (some true) else (some false)) = some r := H
  have A3 := Aside0.mk A30
  clear A30
  by_cases c4 : t241 = true
  · subst c4
    have H1 : (some true) = some r := by rw [if_pos rfl] at H; exact H
    clear H
    have H := H1
    clear H1
    obtain rfl := Option.some.inj H
    go_enter Try.func48, Try.ntmps48
    go_wp2_with (first | ((with_reducible refine gate_dst (N := 2) rfl ?_); refine box_event ?hg (N := 2) ?hd (cs := #[.slice A0_0 l0_0.length c0_0]) (t := 72) ?hr ?_; (case hd => rfl); (case hg => rfl); (case hr => first | (go_simp; done) | (go_simp; rfl)); intro gb239 hg w5 hbox hb; have n0_ := Aside0.mk (below_step bl_ hb); have n1_ := Aside0.mk (hbox); have n2_ := Aside0.mk ((by rw [hg]; exact (below_size bl_) : w.heap.size ≤ gb239)); have n3_ := Aside0.mk ((by rw [hg]; exact (below_size bl_) : w.heap.size ≤ gb239)); clear HB; have HB := n0_; have BK239 := n1_; have GW239 := n2_; have GE239 := n3_; clear n0_ n1_ n2_ n3_; clear hb hbox hg) | ((with_reducible refine gate_dst (N := 3) rfl ?_); refine box_event ?hg (N := 3) ?hd (cs := #[.slice A1_0 l1_0.length c1_0]) (t := 72) ?hr ?_; (case hd => rfl); (case hg => rfl); (case hr => first | (go_simp; done) | (go_simp; rfl)); intro gb240 hg w6 hbox hb; have n0_ := Aside0.mk (blk_below (bk_ BK239) hb); have n1_ := Aside0.mk (below_step bl_ hb); have n2_ := Aside0.mk (hbox); have n3_ := Aside0.mk ((by rw [hg]; exact (below_size bl_) : w.heap.size ≤ gb240)); have n4_ := Aside0.mk ((by rw [hg]; exact (below_size bl_) : w.heap.size ≤ gb240)); have n5_ := Aside0.mk ((by rw [hg]; exact Nat.ne_of_lt (blk_lt (bk_ BK239)) : gb239 ≠ gb240)); have n6_ := Aside0.mk ((by rw [hg]; exact Nat.ne_of_gt (blk_lt (bk_ BK239)) : gb240 ≠ gb239)); clear BK239; clear HB; have BK239 := n0_; have HB := n1_; have BK240 := n2_; have GW240 := n3_; have GE240 := n4_; have NB239_240 := n5_; have NB240_239 := n6_; clear n0_ n1_ n2_ n3_ n4_ n5_ n6_; clear hb hbox hg; have hnb7 := NB239_240.out; have hnc7 := NB240_239.out; have hcz8_0 := cz_ BK239 0 (.slice A0_0 l0_0.length c0_0); have hfz8_0 := fz_ BK239 0; have hcz9_0 := cz_ BK240 0 (.slice A1_0 l1_0.length c1_0); have hfz9_0 := fz_ BK240 0) | ((with_reducible refine gate_callee (f := 109) rfl ?_); refine goesL_ (some 9) rfl rfl Try.func109 (by kernel_rfl) rfl #[.slice A0_0 l0_0.length c0_0, .slice A1_0 l1_0.length c1_0] rfl gl_ ?_; (with_reducible refine (laws_eqAcctS.calls k _ _ l0_0 _ _ l1_0 true _ ?side1 ?side2 ?side3 ?side4 A3.out).mono ?_); (case side1 => exact ca_ (Kd.C_below HR0_0.out HB.out)); (case side2 => exact HC0_0.out); (case side3 => exact ca_ (Kd.C_below HR1_0.out HB.out)); (case side4 => exact HC1_0.out); rintro e w10 ⟨rfl, hb⟩; refine ⟨_, rfl, ?_⟩; have n0_ := Aside0.mk (blk_below (bk_ BK239) hb); have n1_ := Aside0.mk (blk_below (bk_ BK240) hb); have n2_ := Aside0.mk (below_step bl_ hb); clear BK239; clear BK240; clear HB; have BK239 := n0_; have BK240 := n1_; have HB := n2_; clear n0_ n1_ n2_; (try clear hb); (try clear hb2); (try clear hk); (try clear hi)))
    go_ret
    exact ⟨by first | rfl | (simp [errW_none, errW_some] <;> rfl) | (simp [*, errW_none, errW_some] <;> rfl), bl_⟩
  · replace c4 := Bool.eq_false_iff.mpr c4
    subst c4
    have H1 : (some false) = some r := by rw [if_neg (show ¬ (false = true) by decide)] at H; exact H
    clear H
    have H := H1
    clear H1
    obtain rfl := Option.some.inj H
    go_enter Try.func48, Try.ntmps48
    go_wp2_with (first | ((with_reducible refine gate_dst (N := 2) rfl ?_); refine box_event ?hg (N := 2) ?hd (cs := #[.slice A0_0 l0_0.length c0_0]) (t := 72) ?hr ?_; (case hd => rfl); (case hg => rfl); (case hr => first | (go_simp; done) | (go_simp; rfl)); intro gb239 hg w11 hbox hb; have n0_ := Aside0.mk (below_step bl_ hb); have n1_ := Aside0.mk (hbox); have n2_ := Aside0.mk ((by rw [hg]; exact (below_size bl_) : w.heap.size ≤ gb239)); have n3_ := Aside0.mk ((by rw [hg]; exact (below_size bl_) : w.heap.size ≤ gb239)); clear HB; have HB := n0_; have BK239 := n1_; have GW239 := n2_; have GE239 := n3_; clear n0_ n1_ n2_ n3_; clear hb hbox hg) | ((with_reducible refine gate_dst (N := 3) rfl ?_); refine box_event ?hg (N := 3) ?hd (cs := #[.slice A1_0 l1_0.length c1_0]) (t := 72) ?hr ?_; (case hd => rfl); (case hg => rfl); (case hr => first | (go_simp; done) | (go_simp; rfl)); intro gb240 hg w12 hbox hb; have n0_ := Aside0.mk (blk_below (bk_ BK239) hb); have n1_ := Aside0.mk (below_step bl_ hb); have n2_ := Aside0.mk (hbox); have n3_ := Aside0.mk ((by rw [hg]; exact (below_size bl_) : w.heap.size ≤ gb240)); have n4_ := Aside0.mk ((by rw [hg]; exact (below_size bl_) : w.heap.size ≤ gb240)); have n5_ := Aside0.mk ((by rw [hg]; exact Nat.ne_of_lt (blk_lt (bk_ BK239)) : gb239 ≠ gb240)); have n6_ := Aside0.mk ((by rw [hg]; exact Nat.ne_of_gt (blk_lt (bk_ BK239)) : gb240 ≠ gb239)); clear BK239; clear HB; have BK239 := n0_; have HB := n1_; have BK240 := n2_; have GW240 := n3_; have GE240 := n4_; have NB239_240 := n5_; have NB240_239 := n6_; clear n0_ n1_ n2_ n3_ n4_ n5_ n6_; clear hb hbox hg; have hnb13 := NB239_240.out; have hnc13 := NB240_239.out; have hcz14_0 := cz_ BK239 0 (.slice A0_0 l0_0.length c0_0); have hfz14_0 := fz_ BK239 0; have hcz15_0 := cz_ BK240 0 (.slice A1_0 l1_0.length c1_0); have hfz15_0 := fz_ BK240 0) | ((with_reducible refine gate_callee (f := 109) rfl ?_); refine goesL_ (some 9) rfl rfl Try.func109 (by kernel_rfl) rfl #[.slice A0_0 l0_0.length c0_0, .slice A1_0 l1_0.length c1_0] rfl gl_ ?_; (with_reducible refine (laws_eqAcctS.calls k _ _ l0_0 _ _ l1_0 false _ ?side1 ?side2 ?side3 ?side4 A3.out).mono ?_); (case side1 => exact ca_ (Kd.C_below HR0_0.out HB.out)); (case side2 => exact HC0_0.out); (case side3 => exact ca_ (Kd.C_below HR1_0.out HB.out)); (case side4 => exact HC1_0.out); rintro e w16 ⟨rfl, hb⟩; refine ⟨_, rfl, ?_⟩; have n0_ := Aside0.mk (blk_below (bk_ BK239) hb); have n1_ := Aside0.mk (blk_below (bk_ BK240) hb); have n2_ := Aside0.mk (below_step bl_ hb); clear BK239; clear BK240; clear HB; have BK239 := n0_; have BK240 := n1_; have HB := n2_; clear n0_ n1_ n2_; (try clear hb); (try clear hb2); (try clear hk); (try clear hi)))
    go_ret
    exact ⟨by first | rfl | (simp [errW_none, errW_some] <;> rfl) | (simp [*, errW_none, errW_some] <;> rfl), bl_⟩

end Go.Proofs.Ytcojjdfbdgpajaa.QFnExactBookSame
