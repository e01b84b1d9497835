-- by my own printer (myprint.py, over the kit's print.py)
import Derived.Test.YtohfefkjcnbejaaGreatDoorQFnExactAsksx1
namespace Go.Proofs.YtohfefkjcnbejaaGreatDoor.QFnExactAsks
open Go.RowKit Go.Proofs.YtohfefkjcnbejaaGreatDoorW.PrintWords Go.Proofs.YtohfefkjcnbejaaGreatDoorW.PrintLast Go.Proofs.YtohfefkjcnbejaaGreatDoorW.PrintMore
attribute [local go_sem] max2_int min2_int max_two min_two max_three min_three max_four min_four
set_option linter.unusedVariables false
set_option linter.unusedSimpArgs false
attribute [local go_sem] my_geq my_leq my_gtr
/-! ### spec_GetBcd: function 93 -/
mutual
def spec_GetBcd.j0 : Nat → List Int → Int → Int → Bool → Option (ByteArray × Int × Bool)
 | 0, _, _, _, _ => none
 | k + 1, x0, x1, x2, x36 => if x36 = true then (some ((⟨#[]⟩ : ByteArray), 0, false)) else (spec_GetBcd.l0 k x0 x1 x2 (⟨#[]⟩ : ByteArray) x1)
def spec_GetBcd.l0 : Nat → List Int → Int → Int → ByteArray → Int → Option (ByteArray × Int × Bool)
 | 0, _, _, _, _, _ => none
 | k + 1, x0, x1, x2, x9, x10 => if x10 < (wrap64 (x1 + (wrap64 (Int.tdiv (wrap64 (x2 + 1)) 2)))) then (if 0 ≤ x10 then (if x10 < (x0.length : Int) then ((some (([(wrap64 (48 + (wrap64 (Int.tdiv (wrap64 (rd x0 x10)) 16)))) % 256, (wrap64 (48 + (Int.tmod (wrap64 (rd x0 x10)) 16))) % 256] : List Int) : List Int)).bind fun y191 => (if x9.size + (strOfNums y191).size ≤ 9223372036854775807 then (spec_GetBcd.l0 k x0 x1 x2 (x9 ++ (strOfNums y191)) (wrap64 (x10 + 1))) else (none))) else (none)) else (none)) else (if (Int.tmod x2 2) = 1 then (if 0 < (x9.size : Int) then (if (bt x9 0) = 48 then (if 1 ≤ (x9.size : Int) then ((spec_Digits.f k (x9.extract 1 x9.size)).bind fun t194 => (if t194 = true then (some (x9.extract 1 x9.size, wrap64 (x1 + (wrap64 (Int.tdiv (wrap64 (x2 + 1)) 2))), true)) else (some ((⟨#[]⟩ : ByteArray), 0, false)))) else (none)) else (some ((⟨#[]⟩ : ByteArray), 0, false))) else (none)) else ((spec_Digits.f k x9).bind fun t195 => (if t195 = true then (some (x9, wrap64 (x1 + (wrap64 (Int.tdiv (wrap64 (x2 + 1)) 2))), true)) else (some ((⟨#[]⟩ : ByteArray), 0, false)))))
end
def spec_GetBcd.f (k : Nat) (l0 : List Int) (a1 : Int) (a2 : Int) : Option (ByteArray × Int × Bool) := if a2 < 1 then (spec_GetBcd.j0 k l0 a1 a2 true) else (if a2 > 38 then (spec_GetBcd.j0 k l0 a1 a2 true) else (if a1 < 0 then (spec_GetBcd.j0 k l0 a1 a2 true) else (if a1 > (l0.length : Int) then (spec_GetBcd.j0 k l0 a1 a2 true) else (spec_GetBcd.j0 k l0 a1 a2 (decide ((wrap64 (Int.tdiv (wrap64 (a2 + 1)) 2)) > (wrap64 ((l0.length : Int) - a1))))))))
def spec_GetBcd.T7 : Bool × List (List Nat × List Nat) := (true, [([], []), ([], []), ([], []), ([1, 2], [1, 2]), ([3], [3]), ([4], [4]), ([5], [5]), ([6], [6]), ([7], [7]), ([], []), ([], []), ([9, 10], [9, 10]), ([11], [11]), ([12], [12]), ([13], [13]), ([14], [14]), ([15], [15]), ([8, 16], [8, 16]), ([17], [17]), ([0, 18], [0, 18]), ([19, 0, 1, 2, 3, 4, 5, 6, 7, 8, 9, 10, 11, 12, 13, 14, 15, 16, 17, 18, 19], [0, 19])])
def spec_GetBcd.B7 : List Nat := [0, 0, 0, 6, 14, 30, 62, 126, 254, 0, 0, 1536, 3584, 7680, 15872, 32256, 65024, 131070, 262142, 524287, 1048575]
theorem spec_GetBcd.tab7 : rtab .any (opsOf Tryz.f93 7) = spec_GetBcd.T7 := by kernel_rfl
theorem spec_GetBcd.bits7 : waitsOk spec_GetBcd.T7.2 spec_GetBcd.B7 = true := by kernel_rfl
set_option maxHeartbeats 8000000 in
set_option maxRecDepth 100000 in
theorem spec_GetBcd.calls (k : Nat) (A0 : Option Addr) (c0 : Nat) (l0 : List Int) (a1 : Int) (a2 : Int) (r1 : ByteArray) (r2 : Int) (r3 : Bool) (w : World) (hr0 : Kd.C (Kd.int .u8) w A0 l0.length l0) (hc0 : l0.length ≤ c0) (h : spec_GetBcd.f k l0 a1 a2 = some (r1, r2, r3)) :
  Calls Tryz.prog 93 #[.slice A0 l0.length c0, .int .i64 a1, .int .i64 a2] w fun e w' => e = .returned (.tuple #[.string r1, .int .i64 r2, .bool r3]) ∧ Below w.heap.size w w' := by
 have HR0 := Aside0.mk hr0
 have HC0 := Aside0.mk hc0
 clear hr0 hc0
 have HB := Aside0.mk (Below.refl w.heap.size w)
 have H : (if a2 < 1 then (spec_GetBcd.j0 k l0 a1 a2 true) else (if a2 > 38 then (spec_GetBcd.j0 k l0 a1 a2 true) else (if a1 < 0 then (spec_GetBcd.j0 k l0 a1 a2 true) else (if a1 > (l0.length : Int) then (spec_GetBcd.j0 k l0 a1 a2 true) else (spec_GetBcd.j0 k l0 a1 a2 (decide ((wrap64 (Int.tdiv (wrap64 (a2 + 1)) 2)) > (wrap64 ((l0.length : Int) - a1))))))))) = some (r1, r2, r3) := h
 clear h
 have HC4 := Aside0.mk H
 clear H
 go_enter Tryz.func93, Tryz.ntmps93
 go_upto_region 1 with (fail)
 go_cut [36] (fun v36 wc => ∃ (kq : Nat) (x36_3 : Bool), v36 = .bool x36_3 ∧ Aside0 (spec_GetBcd.j0 kq l0 a1 a2 x36_3 = some (r1, r2, r3)) ∧ Aside0 (kq ≤ k) ∧ Aside0 (Below w.heap.size w wc))
 case first =>
  have H := HC4.out
  clear HC4
  by_cases c5 : a2 < 1
  ·rw [if_pos c5] at H
   have c5b0 := decide_eq_true c5
   clear c5
   (first | rw [c5b0] | (simp only [i64_w, i32_w]; rw [c5b0]) | skip)
   have H' := Aside0.mk H
   clear H
   go_wp2
   go_meet
   case rel => exact ⟨_, (true), sp_, H', ⟨by first | omega | exact Nat.le_refl _⟩, ⟨bl_⟩⟩
  rw [if_neg c5] at H
  have c5b0 := decide_eq_false c5
  clear c5
  (first | rw [c5b0] | (simp only [i64_w, i32_w]; rw [c5b0]) | skip)
  by_cases c6 : a2 > 38
  ·rw [if_pos c6] at H
   have c6b0 := decide_eq_true c6
   clear c6
   have H' := Aside0.mk H
   clear H
   go_wp2
   go_meet
   case rel => exact ⟨_, (true), sp_, H', ⟨by first | omega | exact Nat.le_refl _⟩, ⟨bl_⟩⟩
  rw [if_neg c6] at H
  have c6b0 := decide_eq_false c6
  clear c6
  by_cases c7 : a1 < 0
  ·rw [if_pos c7] at H
   have c7b0 := decide_eq_true c7
   clear c7
   have H' := Aside0.mk H
   clear H
   go_wp2
   go_meet
   case rel => exact ⟨_, (true), sp_, H', ⟨by first | omega | exact Nat.le_refl _⟩, ⟨bl_⟩⟩
  rw [if_neg c7] at H
  have c7b0 := decide_eq_false c7
  clear c7
  by_cases c8 : a1 > (l0.length : Int)
  ·rw [if_pos c8] at H
   have c8b0 := decide_eq_true c8
   clear c8
   have H' := Aside0.mk H
   clear H
   go_wp2
   go_meet
   case rel => exact ⟨_, (true), sp_, H', ⟨by first | omega | exact Nat.le_refl _⟩, ⟨bl_⟩⟩
  rw [if_neg c8] at H
  have c8b0 := decide_eq_false c8
  clear c8
  have H' := Aside0.mk H
  clear H
  go_wp2
  go_meet
  case rel => exact ⟨_, (decide ((wrap64 (Int.tdiv (wrap64 (a2 + 1)) 2)) > (wrap64 ((l0.length : Int) - a1)))), sp_, H', ⟨by first | omega | exact Nat.le_refl _⟩, ⟨bl_⟩⟩
 case rest =>
  clear HC4
  obtain ⟨kq, x36_3, rfl, HA, HJ3, HB⟩ := hcut
  cases kq with
  | zero => exact absurd HA.out (by simp [spec_GetBcd.j0])
  | succ kj3 =>
   have H := HA.out
   clear HA
   simp only [spec_GetBcd.j0] at H
   by_cases c9 : x36_3 = true
   ·subst c9
    replace H := ip_ H
    simp only [Option.some.injEq, Prod.mk.injEq] at H
    obtain ⟨rfl, rfl, rfl⟩ := H
    go_wp2
    go_ret3
    exact ⟨sq_, bl_⟩
   replace c9 := Bool.eq_false_iff.mpr c9
   subst c9
   replace H := in_ H
   have H' := Aside0.mk H
   clear H
   go_wp2
   go_loopg [9, 10] kj3 (fun kq v9 v10 w' => ∃ (x9_2 : ByteArray) (x10_2 : Int), v9 = .string x9_2 ∧ v10 = .int .i64 x10_2 ∧ Aside0 (spec_GetBcd.l0 kq l0 a1 a2 x9_2 x10_2 = some (r1, r2, r3)) ∧ Aside0 (kq ≤ kj3) ∧ Aside0 (Below w.heap.size w w'))
   case atStart => exact ⟨((⟨#[]⟩ : ByteArray)), (a1), sp_, sp_, H', ⟨Nat.le_refl _⟩, ⟨bl_⟩⟩
   case round =>
    clear H'
    obtain ⟨x9_2, x10_2, rfl, rfl, HA, HK2, HB⟩ := hrel
    cases gk with
    | zero => exact absurd HA.out (by simp [spec_GetBcd.l0])
    | succ k2 =>
     have H := HA.out
     clear HA
     simp only [spec_GetBcd.l0] at H
     by_cases c10 : x10_2 < (wrap64 (a1 + (wrap64 (Int.tdiv (wrap64 (a2 + 1)) 2))))
     rotate_left
     ·rw [if_neg c10] at H
      have c10b0 := decide_eq_false c10
      clear c10
      by_cases c18 : (Int.tmod a2 2) = 1
      rotate_left
      ·rw [if_neg c18] at H
       have c18b0 := beq_eq_false_iff_ne.mpr c18
       have c18b1 := bne_iff_ne.mpr c18
       obtain ⟨t195, A25, H⟩ := ob_ H
       by_cases c26 : t195 = true
       ·subst c26
        replace H := ip_ H
        simp only [Option.some.injEq, Prod.mk.injEq] at H
        obtain ⟨rfl, rfl, rfl⟩ := H
        go_wp2_with (first | ((with_reducible refine gc_ 76 76 Tryz.func76 #[.string x9_2] ?_); (with_reducible refine (spec_Digits.calls k2 x9_2 true _ A25.out).mono ?_); rintro e w' ⟨rfl, ⟨nd, rfl⟩⟩; refine ⟨_, rfl, ?_⟩))
        go_ret3
        exact ⟨sq_, bl_⟩
       replace c26 := Bool.eq_false_iff.mpr c26
       subst c26
       replace H := in_ H
       simp only [Option.some.injEq, Prod.mk.injEq] at H
       obtain ⟨rfl, rfl, rfl⟩ := H
       go_wp2_with (first | ((with_reducible refine gc_ 76 76 Tryz.func76 #[.string x9_2] ?_); (with_reducible refine (spec_Digits.calls k2 x9_2 false _ A25.out).mono ?_); rintro e w' ⟨rfl, ⟨nd, rfl⟩⟩; refine ⟨_, rfl, ?_⟩))
       go_ret3
       exact ⟨sq_, bl_⟩
      rw [if_pos c18] at H
      have c18b0 := beq_iff_eq.mpr c18
      have c18b1 := bne_eq_false_iff_eq.mpr c18
      clear c18
      by_cases c19 : 0 < (x9_2.size : Int)
      rotate_left
      ·rw [if_neg c19] at H
       exact absurd H (by simp)
      rw [if_pos c19] at H
      have c19b0 := decide_eq_true c19
      have c19b1 : decide (0 < x9_2.size) = true := decide_eq_true (by omega)
      clear c19
      by_cases c21 : (bt x9_2 0) = 48
      rotate_left
      ·rw [if_neg c21] at H
       have c21b0 := beq_eq_false_iff_ne.mpr c21
       have c21b1 := bne_iff_ne.mpr c21
       simp only [Option.some.injEq, Prod.mk.injEq] at H
       obtain ⟨rfl, rfl, rfl⟩ := H
       have p20 : 0 ≤ (0 : Int) := (by omega)
       have q20 : 0 < x9_2.size := (by have : (0 : Int) < (x9_2.size : Int) := od_; omega)
       have hx20 : ∀ h : 0 < x9_2.size, ((x9_2[0]'h).toNat : Int) = bt x9_2 0 := bt_at x9_2 0
       clear p20
       have qi20 : (0 < (x9_2.size : Int)) = True := eq_true od_
       replace q20 := eq_true q20
       go_wp2
       go_ret3
       exact ⟨sq_, bl_⟩
      rw [if_pos c21] at H
      have c21b0 := beq_iff_eq.mpr c21
      have c21b1 := bne_eq_false_iff_eq.mpr c21
      clear c21
      by_cases c22 : 1 ≤ (x9_2.size : Int)
      rotate_left
      ·rw [if_neg c22] at H
       exact absurd H (by simp)
      rw [if_pos c22] at H
      have c22b0 := eq_true c22
      have c22b1 := decide_eq_true c22
      clear c22
      obtain ⟨t194, A23, H⟩ := ob_ H
      by_cases c24 : t194 = true
      ·subst c24
       replace H := ip_ H
       simp only [Option.some.injEq, Prod.mk.injEq] at H
       obtain ⟨rfl, rfl, rfl⟩ := H
       have p20 : 0 ≤ (0 : Int) := (by omega)
       have q20 : 0 < x9_2.size := (by have : (0 : Int) < (x9_2.size : Int) := od_; omega)
       have hx20 : ∀ h : 0 < x9_2.size, ((x9_2[0]'h).toNat : Int) = bt x9_2 0 := bt_at x9_2 0
       clear p20
       have qi20 : (0 < (x9_2.size : Int)) = True := eq_true od_
       replace q20 := eq_true q20
       go_wp2_with (first | ((with_reducible refine gc_ 76 76 Tryz.func76 #[.string (x9_2.extract 1 x9_2.size)] ?_); (with_reducible refine (spec_Digits.calls k2 (x9_2.extract 1 x9_2.size) true _ A23.out).mono ?_); rintro e w' ⟨rfl, ⟨nd, rfl⟩⟩; refine ⟨_, rfl, ?_⟩))
       go_ret3
       exact ⟨sq_, bl_⟩
      replace c24 := Bool.eq_false_iff.mpr c24
      subst c24
      replace H := in_ H
      simp only [Option.some.injEq, Prod.mk.injEq] at H
      obtain ⟨rfl, rfl, rfl⟩ := H
      have p20 : 0 ≤ (0 : Int) := (by omega)
      have q20 : 0 < x9_2.size := (by have : (0 : Int) < (x9_2.size : Int) := od_; omega)
      have hx20 : ∀ h : 0 < x9_2.size, ((x9_2[0]'h).toNat : Int) = bt x9_2 0 := bt_at x9_2 0
      clear p20
      have qi20 : (0 < (x9_2.size : Int)) = True := eq_true od_
      replace q20 := eq_true q20
      go_wp2_with (first | ((with_reducible refine gc_ 76 76 Tryz.func76 #[.string (x9_2.extract 1 x9_2.size)] ?_); (with_reducible refine (spec_Digits.calls k2 (x9_2.extract 1 x9_2.size) false _ A23.out).mono ?_); rintro e w' ⟨rfl, ⟨nd, rfl⟩⟩; refine ⟨_, rfl, ?_⟩))
      go_ret3
      exact ⟨sq_, bl_⟩
     rw [if_pos c10] at H
     have c10b0 := decide_eq_true c10
     clear c10
     by_cases c11 : 0 ≤ x10_2
     rotate_left
     ·rw [if_neg c11] at H
      exact absurd H (by simp)
     rw [if_pos c11] at H
     have c11b0 := decide_eq_true c11
     clear c11
     by_cases c12 : x10_2 < (l0.length : Int)
     rotate_left
     ·rw [if_neg c12] at H
      exact absurd H (by simp)
     rw [if_pos c12] at H
     have c12b0 := decide_eq_true c12
     clear c12
     obtain ⟨y191, hy191⟩ : ∃ y_ : List Int, y_ = (([(wrap64 (48 + (wrap64 (Int.tdiv (wrap64 (rd l0 x10_2)) 16)))) % 256, (wrap64 (48 + (Int.tmod (wrap64 (rd l0 x10_2)) 16))) % 256] : List Int)) := ⟨_, rfl⟩
     replace H : (if x9_2.size + (strOfNums y191).size ≤ 9223372036854775807 then (spec_GetBcd.l0 k2 l0 a1 a2 (x9_2 ++ (strOfNums y191)) (wrap64 (x10_2 + 1))) else (none)) = some (r1, r2, r3) := by first | (rw [hy191]; with_reducible exact H) | (have H2_ := (Option.bind_some _ _).symm.trans H; rw [hy191]; with_reducible exact H2_) | (have H2_ := (Option.bind_some _ _).symm.trans H; with_reducible exact H2_) | with_reducible exact H | (rw [hy191]; exact H) | exact H
     have Ny191 := Aside0.mk hy191
     clear hy191
     by_cases c13 : x9_2.size + (strOfNums y191).size ≤ 9223372036854775807
     rotate_left
     ·rw [if_neg c13] at H
      exact absurd H (by simp)
     rw [if_pos c13] at H
     have c13b0 := eq_true c13
     have c13b1 := decide_eq_true c13
     try have c13b2 : (9223372036854775807 < x9_2.size + (strOfNums y191).size) = False := eq_false (Nat.not_lt.2 c13)
     have H' := Aside0.mk H
     clear H
     try go_wp2
     have n0_ := Aside0.mk (below_drew1 HB.out)
     clear HB
     have HB := n0_
     clear n0_
     have p189 : 0 ≤ (x10_2 : Int) := od_
     have q189 : x10_2 < (l0.length : Int) := od_
     obtain ⟨ad189, e189, hx189_0⟩ := Kd.at_int HR0.out x10_2 p189 q189
     have hw189_0 := hx189_0
     cases e189
     replace hx189_0 := kc_ HB hx189_0
     replace p189 := eq_true p189
     replace q189 := eq_true q189
     have p190 : 0 ≤ (x10_2 : Int) := od_
     have q190 : x10_2 < (l0.length : Int) := od_
     obtain ⟨ad190, e190, hx190_0⟩ := Kd.at_int HR0.out x10_2 p190 q190
     have hw190_0 := hx190_0
     obtain rfl : ad189 = ad190 := (by injection e190)
     replace hx190_0 := kc_ HB hx190_0
     replace p190 := eq_true p190
     replace q190 := eq_true q190
     refine start_ (n := 21) (S := fun w' => w'.cell? (ad189.add (x10_2).toNat) = some (.int .u8 (rd l0 x10_2)) ∧ w'.cell? (ad189.add (x10_2).toNat) = some (.int .u8 (rd l0 x10_2))) (ds := []) tb21_0 (by kernel_rfl) rfl rfl ⟨(kc_ HB hw189_0), (kc_ HB hw190_0)⟩ (fun hHeld => ?_); refine with_tabW spec_GetBcd.tab7 spec_GetBcd.bits7 (fun HT_ HW_ => ?_)
     generalize wr.drew = w14 at HB hx189_0 hx190_0 hHeld ⊢
     refine pl_ HT_ 0 47 tb21_1 ?_
     refine pl_ HT_ 1 48 tb21_3 ?_
     refine pl_ HT_ 2 49 tb21_7 ?_
     refine pl_ HT_ 3 50 tb21_f ?_
     refine pl_ HT_ 9 56 tb21_20f ?_
     refine pl_ HT_ 10 57 tb21_60f ?_
     refine pl_ HT_ 11 58 tb21_e0f ?_
     refine take_ (i := 4) (N := some 51) (v := ?_) (a' := ?_) tb21_e1f rfl rfl (take_ofW HT_.out HW_.out (by kernel_rfl)) (fun _ _ _ h => h) (Or.inl ⟨by rfl, ?_⟩) hHeld ?_ ?_
     rotate_left
     ·rintro w' ⟨s0, s1⟩
      go_simp
      with_reducible rfl
     rotate_left
     ·simp only [Act.put, q_]
      rfl
     refine pl_ HT_ 5 52 tb21_e3f ?_
     refine pl_ HT_ 6 53 tb21_e7f ?_
     refine pl_ HT_ 7 54 tb21_eff ?_
     refine pl_ HT_ 8 55 tb21_fff ?_
     refine take_ (i := 12) (N := some 59) (v := ?_) (a' := ?_) tb21_1fff rfl rfl (take_ofW HT_.out HW_.out (by kernel_rfl)) (fun _ _ _ h => h) (Or.inl ⟨by rfl, ?_⟩) hHeld ?_ ?_
     rotate_left
     ·rintro w' ⟨s0, s1⟩
      go_simp
      with_reducible rfl
     rotate_left
     ·simp only [Act.put, q_]
      rfl
     refine pl_ HT_ 13 60 tb21_3fff ?_
     refine pl_ HT_ 14 61 tb21_7fff ?_
     refine pl_ HT_ 15 62 tb21_ffff ?_
     refine pl_ HT_ 16 63 tb21_1ffff ?_
     refine one_ (i := 17) (N := some 64) tb21_3ffff rfl rfl (one_of HT_.out (by kernel_rfl)) (by decide) (fun K hK => ?_)
     refine Kd.R_lit_step (Kd.int .u8) _ 5 ?hg (N := 64) ?hd (xs := ([(wrap64 (48 + (wrap64 (Int.tdiv (wrap64 (rd l0 x10_2)) 16)))) % 256, (wrap64 (48 + (Int.tmod (wrap64 (rd l0 x10_2)) 16))) % 256] : List Int)) (inner := [.int .u8 ((wrap64 (48 + (wrap64 (Int.tdiv (wrap64 (rd l0 x10_2)) 16)))) % 256), .int .u8 ((wrap64 (48 + (Int.tmod (wrap64 (rd l0 x10_2)) 16))) % 256)]) (ok := fun _ => True) (okp := fun _ => True) ?hr ?hp (fun _ hk => hk) trivial (Below.refl _ _) (Nat.le_refl _) (by simp) ?_; (case hd => rfl); (case hg => rfl); (case hr => first | (go_simp; done) | (go_simp; rfl)); (case hp => exact (Reps.one (show Kd.M (Kd.int .u8) _ _ _ ((wrap64 (48 + (wrap64 (Int.tdiv (wrap64 (rd l0 x10_2)) 16)))) % 256) [.int .u8 ((wrap64 (48 + (wrap64 (Int.tdiv (wrap64 (rd l0 x10_2)) 16)))) % 256)] from rfl) (Reps.one (show Kd.M (Kd.int .u8) _ _ _ ((wrap64 (48 + (Int.tmod (wrap64 (rd l0 x10_2)) 16))) % 256) [.int .u8 ((wrap64 (48 + (Int.tmod (wrap64 (rd l0 x10_2)) 16))) % 256)] from rfl) (Reps.none _ _))))
     intro v192 w15 ho16 hb hg_ hnew_
     clear hg_ hnew_
     (first | rw [← Ny191.out] at ho16 | (simp only [Int.reduceToNat] at ho16; rw [← Ny191.out] at ho16))
     have n0_ := Aside0.mk (Kd.R_lower ho16 (below_size bl_))
     have n1_ := Aside0.mk (below_step bl_ hb)
     clear HB
     have HO193 := n0_
     have HB := n1_
     clear n0_ n1_
     clear hb ho16
     refine hK.out _ _ ⟨(kc_ HB hw189_0), (kc_ HB hw190_0)⟩ (fun hHeld => ?_)
     clear hK K
     refine norm_ (a' := ?_) ?_ ?_
     rotate_left
     ·show Act.put _ (some 64) _ = _
      simp only [Act.put, q_]
      rfl
     refine one_ (i := 18) (N := some 65) tb21_7ffff rfl rfl (one_of HT_.out (by kernel_rfl)) (by decide) (fun K hK => ?_)
     have hcv17 := own_string (P := Tryz.prog) Tryz.underlying37 Tryz.underlying5 Tryz.underlying9 (Kd.own_of_R HO193.out)
     refine value_ (w1 := ?_) (v := ?_) (by rfl) rfl ?_ ?_
     rotate_left 2
     ·go_simp
      constructor
      ·rfl
      ·rfl
     clear hcv17
     refine hK.out _ _ ⟨(kc_ HB hw189_0), (kc_ HB hw190_0)⟩ (fun hHeld => ?_)
     clear hK K
     refine norm_ (a' := ?_) ?_ ?_
     rotate_left
     ·show Act.put _ (some 65) _ = _
      simp only [Act.put, q_]
      rfl
     refine pl_ HT_ 19 66 tb21_fffff ?_
     refine pl_ HT_ 20 9 tb21_1fffff ?_
     refine done_ (done_of HT_.out (by kernel_rfl)) ?_
     try go_wp2
     go_roundg k2
     case measure => have := HJ3.out; have := HK2.out; omega
     case rel => exact ⟨(x9_2 ++ (strOfNums y191)), (wrap64 (x10_2 + 1)), sp_, sp_, H', ⟨by have := HJ3.out; have := HK2.out; omega⟩, ⟨bl_⟩⟩
/-! ### spec_GetBits: function 122 -/
mutual
def spec_GetBits.j0 : Nat → List Int → Int → Bool → Option (List Int × Int × Bool)
 | 0, _, _, _ => none
 | k + 1, x0, x1, x17 => if x17 = true then (some (([] : List Int), 0, false)) else (spec_GetBits.l0 k x0 x1 (([] : List Int)) 1)
def spec_GetBits.l0 : Nat → List Int → Int → List Int → Int → Option (List Int × Int × Bool)
 | 0, _, _, _, _ => none
 | k + 1, x0, x1, x7, x8 => if x8 ≤ 64 then (if 0 ≤ (wrap64 (x1 + (wrap64 (Int.tdiv (wrap64 (x8 - 1)) 8)))) then (if (wrap64 (x1 + (wrap64 (Int.tdiv (wrap64 (x8 - 1)) 8)))) < (x0.length : Int) then (if 0 ≤ (wrap64 (7 - (Int.tmod (wrap64 (x8 - 1)) 8))) then (if (Int.tmod (shr .i64 (wrap64 (rd x0 (wrap64 (x1 + (wrap64 (Int.tdiv (wrap64 (x8 - 1)) 8)))))) (wrap64 (7 - (Int.tmod (wrap64 (x8 - 1)) 8)))) 2) = 1 then (if x7.length < 17592186044416 then (spec_GetBits.l0 k x0 x1 (x7 ++ [x8]) (wrap64 (x8 + 1))) else (none)) else (spec_GetBits.l0 k x0 x1 x7 (wrap64 (x8 + 1)))) else (none)) else (none)) else (none)) else (some (x7, wrap64 (x1 + 8), true))
end
def spec_GetBits.f (k : Nat) (l0 : List Int) (a1 : Int) : Option (List Int × Int × Bool) := if a1 < 0 then (spec_GetBits.j0 k l0 a1 true) else (spec_GetBits.j0 k l0 a1 (decide (a1 > (wrap64 ((l0.length : Int) - 8)))))
set_option maxHeartbeats 8000000 in
set_option maxRecDepth 100000 in
theorem spec_GetBits.calls (k : Nat) (A0 : Option Addr) (c0 : Nat) (l0 : List Int) (a1 : Int) (r1 : List Int) (r2 : Int) (r3 : Bool) (w : World) (hr0 : Kd.C (Kd.int .u8) w A0 l0.length l0) (hc0 : l0.length ≤ c0) (h : spec_GetBits.f k l0 a1 = some (r1, r2, r3)) :
  Calls Tryz.prog 122 #[.slice A0 l0.length c0, .int .i64 a1] w fun e w' => ∃ v0_ : Value, e = .returned (.tuple #[v0_, .int .i64 r2, .bool r3]) ∧ Kd.R (Kd.int .i64) 3 w' w.heap.size (fun _ => True) v0_ r1 ∧ Below w.heap.size w w' := by
 have HR0 := Aside0.mk hr0
 have HC0 := Aside0.mk hc0
 clear hr0 hc0
 have HB := Aside0.mk (Below.refl w.heap.size w)
 have H : (if a1 < 0 then (spec_GetBits.j0 k l0 a1 true) else (spec_GetBits.j0 k l0 a1 (decide (a1 > (wrap64 ((l0.length : Int) - 8)))))) = some (r1, r2, r3) := h
 clear h
 have HC3 := Aside0.mk H
 clear H
 go_enter Tryz.func122, Tryz.ntmps122
 go_upto_region 1 with (fail)
 go_cut [17] (fun v17 wc => ∃ (kq : Nat) (x17_2 : Bool), v17 = .bool x17_2 ∧ Aside0 (spec_GetBits.j0 kq l0 a1 x17_2 = some (r1, r2, r3)) ∧ Aside0 (kq ≤ k) ∧ Aside0 (Below w.heap.size w wc))
 case first =>
  have H := HC3.out
  clear HC3
  by_cases c4 : a1 < 0
  ·rw [if_pos c4] at H
   have c4b0 := decide_eq_true c4
   clear c4
   (first | rw [c4b0] | (simp only [i64_w, i32_w]; rw [c4b0]) | skip)
   have H' := Aside0.mk H
   clear H
   go_wp2
   go_meet
   case rel => exact ⟨_, (true), sp_, H', ⟨by first | omega | exact Nat.le_refl _⟩, ⟨bl_⟩⟩
  rw [if_neg c4] at H
  have c4b0 := decide_eq_false c4
  clear c4
  (first | rw [c4b0] | (simp only [i64_w, i32_w]; rw [c4b0]) | skip)
  have H' := Aside0.mk H
  clear H
  go_wp2
  go_meet
  case rel => exact ⟨_, (decide (a1 > (wrap64 ((l0.length : Int) - 8)))), sp_, H', ⟨by first | omega | exact Nat.le_refl _⟩, ⟨bl_⟩⟩
 case rest =>
  clear HC3
  obtain ⟨kq, x17_2, rfl, HA, HJ2, HB⟩ := hcut
  cases kq with
  | zero => exact absurd HA.out (by simp [spec_GetBits.j0])
  | succ kj2 =>
   have H := HA.out
   clear HA
   simp only [spec_GetBits.j0] at H
   by_cases c5 : x17_2 = true
   ·subst c5
    replace H := ip_ H
    simp only [Option.some.injEq, Prod.mk.injEq] at H
    obtain ⟨rfl, rfl, rfl⟩ := H
    go_wp2
    go_ret3
    exact ⟨_, by first | rfl | (simp [errW_none, errW_some] <;> rfl) | (simp [*, errW_none, errW_some] <;> rfl), by first | exact Kd.R_nil _ _ _ _ _ | exact Kd.N_nil _ _ _ _ _ | exact Kd.V_nil _ _ _ _ _ | exact Kd.Q_nil _ _ _ _ _ | exact Kd.S_nil _ _ _ _ _, bl_⟩
   replace c5 := Bool.eq_false_iff.mpr c5
   subst c5
   replace H := in_ H
   obtain ⟨y196, hy196⟩ : ∃ y_ : List Int, y_ = (([] : List Int)) := ⟨_, rfl⟩
   replace H : (spec_GetBits.l0 kj2 l0 a1 y196 1) = some (r1, r2, r3) := by first | (rw [hy196]; with_reducible exact H) | (have H2_ := (Option.bind_some _ _).symm.trans H; rw [hy196]; with_reducible exact H2_) | (have H2_ := (Option.bind_some _ _).symm.trans H; with_reducible exact H2_) | with_reducible exact H | (rw [hy196]; exact H) | exact H
   have Ny196 := Aside0.mk hy196
   clear hy196
   have H' := Aside0.mk H
   clear H
   go_wp2_with (first | ((with_reducible refine gate_dst (N := 18) rfl ?_); (try (refine gate_guard (by rfl) ?_; dsimp only)); refine Kd.R_lit (Kd.int .i64) _ 3 ?hg (N := 18) ?hd (xs := ([] : List Int)) (inner := []) (ok := fun _ => True) (okp := fun _ => True) ?hr ?hp (fun _ hk => hk) trivial (Below.refl _ _) (Nat.le_refl _) (by simp) ?_; (case hd => rfl); (case hg => rfl); (case hr => first | (go_simp; done) | (go_simp; rfl)); (case hp => exact (Reps.none _ _)); intro v197 w6 ho7 hb hg_ hnew_; clear hg_ hnew_; (first | rw [← Ny196.out] at ho7 | (simp only [Int.reduceToNat] at ho7; rw [← Ny196.out] at ho7)); have HO198 := Aside0.mk (Kd.R_lower ho7 (below_size bl_)); replace HB := hs_ hb; clear hb ho7))
   go_loopg [7, 8] kj2 (fun kq v7 v8 w' => ∃ (x7_2 : List Int) (x8_2 : Int), v8 = .int .i64 x8_2 ∧ Aside0 (spec_GetBits.l0 kq l0 a1 x7_2 x8_2 = some (r1, r2, r3)) ∧ Aside0 (kq ≤ kj2) ∧ Aside0 (Kd.R (Kd.int .i64) 3 w' w.heap.size (fun _ => True) v7 x7_2) ∧ Aside0 (Below w.heap.size w w'))
   case atStart => exact ⟨(y196), (1), sp_, H', ⟨Nat.le_refl _⟩, ⟨ra_ HO198⟩, ⟨bl_⟩⟩
   case round =>
    clear H'
    obtain ⟨x7_2, x8_2, rfl, HA, HK2, HO_7, HB⟩ := hrel
    cases gk with
    | zero => exact absurd HA.out (by simp [spec_GetBits.l0])
    | succ k2 =>
     have H := HA.out
     clear HA
     simp only [spec_GetBits.l0] at H
     by_cases c8 : x8_2 ≤ 64
     rotate_left
     ·rw [if_neg c8] at H
      have c8b0 := decide_eq_false c8
      clear c8
      simp only [Option.some.injEq, Prod.mk.injEq] at H
      obtain ⟨rfl, rfl, rfl⟩ := H
      go_wp2
      go_ret3
      exact ⟨_, by first | rfl | (simp [errW_none, errW_some] <;> rfl) | (simp [*, errW_none, errW_some] <;> rfl), ra_ HO_7, bl_⟩
     rw [if_pos c8] at H
     have c8b0 := decide_eq_true c8
     clear c8
     obtain ⟨ji9, hji9⟩ : ∃ j_ : Int, (wrap64 (a1 + (wrap64 (Int.tdiv (wrap64 (x8_2 - 1)) 8)))) = j_ := ⟨_, rfl⟩
     replace H : (if 0 ≤ (ji9) then (if (ji9) < (l0.length : Int) then (if 0 ≤ (wrap64 (7 - (Int.tmod (wrap64 (x8_2 - 1)) 8))) then (if (Int.tmod (shr .i64 (wrap64 (rd l0 (ji9))) (wrap64 (7 - (Int.tmod (wrap64 (x8_2 - 1)) 8)))) 2) = 1 then (if x7_2.length < 17592186044416 then (spec_GetBits.l0 k2 l0 a1 (x7_2 ++ [x8_2]) (wrap64 (x8_2 + 1))) else (none)) else (spec_GetBits.l0 k2 l0 a1 x7_2 (wrap64 (x8_2 + 1)))) else (none)) else (none)) else (none)) = some (r1, r2, r3) := by first | (rw [hji9] at H; exact H) | (simp only [hji9] at H ⊢; exact H)
     have hji9w : (IntKind.i64.wrap (a1 + (wrap64 (Int.tdiv (wrap64 (x8_2 - 1)) 8)))) = ji9 := (i64_w _).trans hji9
     by_cases c10 : 0 ≤ (ji9)
     rotate_left
     ·rw [if_neg c10] at H
      exact absurd H (by simp)
     rw [if_pos c10] at H
     have c10b0 := decide_eq_true c10
     clear c10
     by_cases c11 : (ji9) < (l0.length : Int)
     rotate_left
     ·rw [if_neg c11] at H
      exact absurd H (by simp)
     rw [if_pos c11] at H
     have c11b0 := decide_eq_true c11
     clear c11
     obtain ⟨ji12, hji12⟩ : ∃ j_ : Int, (wrap64 (7 - (Int.tmod (wrap64 (x8_2 - 1)) 8))) = j_ := ⟨_, rfl⟩
     replace H : (if 0 ≤ (ji12) then (if (Int.tmod (shr .i64 (wrap64 (rd l0 (ji9))) (ji12)) 2) = 1 then (if x7_2.length < 17592186044416 then (spec_GetBits.l0 k2 l0 a1 (x7_2 ++ [x8_2]) (wrap64 (x8_2 + 1))) else (none)) else (spec_GetBits.l0 k2 l0 a1 x7_2 (wrap64 (x8_2 + 1)))) else (none)) = some (r1, r2, r3) := by first | (rw [hji12] at H; exact H) | (simp only [hji12] at H ⊢; exact H)
     have hji12w : (IntKind.i64.wrap (7 - (Int.tmod (wrap64 (x8_2 - 1)) 8))) = ji12 := (i64_w _).trans hji12
     by_cases c13 : 0 ≤ (ji12)
     rotate_left
     ·rw [if_neg c13] at H
      exact absurd H (by simp)
     rw [if_pos c13] at H
     have c13b0 := eq_true c13
     have c13b1 := decide_eq_true c13
     clear c13
     obtain ⟨ji14, hji14⟩ : ∃ j_ : Int, (shr .i64 (wrap64 (rd l0 (ji9))) (ji12)) = j_ := ⟨_, rfl⟩
     replace H : (if (Int.tmod (ji14) 2) = 1 then (if x7_2.length < 17592186044416 then (spec_GetBits.l0 k2 l0 a1 (x7_2 ++ [x8_2]) (wrap64 (x8_2 + 1))) else (none)) else (spec_GetBits.l0 k2 l0 a1 x7_2 (wrap64 (x8_2 + 1)))) = some (r1, r2, r3) := by first | (rw [hji14] at H; exact H) | (simp only [hji14] at H ⊢; exact H)
     have hji14_ : ((wrap64 (rd l0 (ji9))) / 2 ^ min (ji12).toNat 64) = ji14 := hji14
     have hji14z : (ji12) ≤ 64 → ((wrap64 (rd l0 (ji9))) / 2 ^ (ji12).toNat) = ji14 := shr_small hji14
     by_cases c15 : (Int.tmod (ji14) 2) = 1
     ·rw [if_pos c15] at H
      have c15b0 := beq_iff_eq.mpr c15
      have c15b1 := bne_eq_false_iff_eq.mpr c15
      clear c15
      by_cases c16 : x7_2.length < 17592186044416
      ·rw [if_pos c16] at H
       have LMc16 := Aside0.mk c16
       clear c16
       obtain ⟨y200, hy200⟩ : ∃ y_ : List Int, y_ = (x7_2 ++ [x8_2]) := ⟨_, rfl⟩
       replace H : (spec_GetBits.l0 k2 l0 a1 y200 (wrap64 (x8_2 + 1))) = some (r1, r2, r3) := by first | (rw [hy200]; with_reducible exact H) | (have H2_ := (Option.bind_some _ _).symm.trans H; rw [hy200]; with_reducible exact H2_) | (have H2_ := (Option.bind_some _ _).symm.trans H; with_reducible exact H2_) | with_reducible exact H | (rw [hy200]; exact H) | exact H
       have Ny200 := Aside0.mk hy200
       clear hy200
       have H' := Aside0.mk H
       clear H
       have p199 : 0 ≤ ((ji9) : Int) := od_
       have q199 : (ji9) < (l0.length : Int) := od_
       obtain ⟨ad199, e199, hx199_0⟩ := Kd.at_int HR0.out (ji9) p199 q199
       cases e199
       replace hx199_0 := kc_ HB hx199_0
       replace p199 := eq_true p199
       replace q199 := eq_true q199
       go_wp2_with (first | ((with_reducible refine gate_builtin (b := .append) (xs := #[.tmp 39, .tmp 41]) rfl ?_); (try (refine gate_guard (by rfl) ?_; dsimp only)); at_builtin; refine Kd.R_append (Kd.int .i64) (w0 := w) w.heap.size rfl (.tmp 39) (.tmp 41) 46 3 (.int .i64 0) 8 rfl Tryz.underlying46 info3 rfl (by decide) (by omega) u7 x7_2 x8_2 [.int .i64 x8_2] (fun _ => True) (fun _ => False) rfl rfl ?aP (fun _ hk => hk.elim) ?aF ?aO ?aB ?aS ?aL ?_; (case aP => exact rfl); (case aB => exact bl_); (case aF => exact (fun _ _ => trivial)); (case aO => exact (ra_ HO_7)); (case aS => exact (below_size bl_)); (case aL => have := LMc16.out; omega); intro v201 w17 ho hb hg hat; rw [← Ny200.out] at ho; have n0_ := Aside0.mk (hb); have n1_ := Aside0.mk (ho); clear HB; clear HO_7; have HB := n0_; have HO202 := n1_; clear n0_ n1_; clear ho hb hg hat))
       go_roundg k2
       case measure => have := HJ2.out; have := HK2.out; omega
       case rel => exact ⟨(y200), (wrap64 (x8_2 + 1)), sp_, H', ⟨by have := HJ2.out; have := HK2.out; omega⟩, ⟨ra_ HO202⟩, ⟨bl_⟩⟩
      ·rw [if_neg c16] at H
       exact absurd H (by simp)
     ·rw [if_neg c15] at H
      have c15b0 := beq_eq_false_iff_ne.mpr c15
      have c15b1 := bne_iff_ne.mpr c15
      have H' := Aside0.mk H
      clear H
      have p199 : 0 ≤ ((ji9) : Int) := od_
      have q199 : (ji9) < (l0.length : Int) := od_
      obtain ⟨ad199, e199, hx199_0⟩ := Kd.at_int HR0.out (ji9) p199 q199
      cases e199
      replace hx199_0 := kc_ HB hx199_0
      replace p199 := eq_true p199
      replace q199 := eq_true q199
      go_wp2
      go_roundg k2
      case measure => have := HJ2.out; have := HK2.out; omega
      case rel => exact ⟨(x7_2), (wrap64 (x8_2 + 1)), sp_, H', ⟨by have := HJ2.out; have := HK2.out; omega⟩, ⟨ra_ HO_7⟩, ⟨bl_⟩⟩
/-! ### spec_l04Nos: function 94 -/
mutual
def spec_l04Nos.l0 : Nat → List Int → Int → List Int → Bool → List Int → Int → Int → Option (List Int × Int × Bool)
 | 0, _, _, _, _, _, _, _ => none
 | k + 1, x0, x6, x8, x9, x28, x29, x30 => if x30 < x29 then (if 0 ≤ x30 then (if x30 < (x28.length : Int) then (if (rd x28 x30) = 1 then (spec_l04Nos.l0 k x0 x6 x8 true x28 x29 (wrap64 (x30 + 1))) else (if x8.length < 17592186044416 then (spec_l04Nos.l0 k x0 x6 (x8 ++ [rd x28 x30]) x9 x28 x29 (wrap64 (x30 + 1))) else (none))) else (none)) else (none)) else (if x9 = true then ((spec_GetBits.f k x0 x6).bind fun bt215 => (if bt215.2.2 = true then (spec_l04Nos.j1 k x8 bt215.1 bt215.2.1 ((bt215.1.length : Int) == 0)) else (spec_l04Nos.j1 k x8 bt215.1 bt215.2.1 true))) else (spec_l04Nos.j3 k x6 x8))
def spec_l04Nos.j3 : Nat → Int → List Int → Option (List Int × Int × Bool)
 | 0, _, _ => none
 | k + 1, x6, x8 => spec_l04Nos.l2 k x6 x8 x8 (x8.length : Int) 0
def spec_l04Nos.l2 : Nat → Int → List Int → List Int → Int → Int → Option (List Int × Int × Bool)
 | 0, _, _, _, _, _ => none
 | k + 1, x6, x8, x69, x70, x71 => if x71 < x70 then (if 0 ≤ x71 then (if x71 < (x69.length : Int) then ((spec_FieldKind.f k (rd x69 x71)).bind fun t225 => (if t225 = 0 then (some (([] : List Int), 0, false)) else (spec_l04Nos.l2 k x6 x8 x69 x70 (wrap64 (x71 + 1))))) else (none)) else (none)) else (some (x8, x6, true))
def spec_l04Nos.j1 : Nat → List Int → List Int → Int → Bool → Option (List Int × Int × Bool)
 | 0, _, _, _, _ => none
 | k + 1, x8, x12, x13, x55 => if x55 = true then (some (([] : List Int), 0, false)) else (spec_l04Nos.l1 k x8 x13 x12 (x12.length : Int) 0)
def spec_l04Nos.l1 : Nat → List Int → Int → List Int → Int → Int → Option (List Int × Int × Bool)
 | 0, _, _, _, _, _ => none
 | k + 1, x8, x13, x56, x57, x58 => if x58 < x57 then (if 0 ≤ x58 then (if x58 < (x56.length : Int) then (if x8.length < 17592186044416 then (spec_l04Nos.l1 k (x8 ++ [wrap64 ((rd x56 x58) + 64)]) x13 x56 x57 (wrap64 (x58 + 1))) else (none)) else (none)) else (none)) else (spec_l04Nos.j3 k x13 x8)
end
def spec_l04Nos.f (k : Nat) (l0 : List Int) : Option (List Int × Int × Bool) := (spec_GetBits.f k l0 2).bind fun bt203 => (if bt203.2.2 = true then (spec_l04Nos.l0 k l0 bt203.2.1 (([] : List Int)) false bt203.1 (bt203.1.length : Int) 0) else (some (([] : List Int), 0, false)))
set_option maxHeartbeats 8000000 in
set_option maxRecDepth 100000 in
theorem spec_l04Nos.calls (k : Nat) (A0 : Option Addr) (c0 : Nat) (l0 : List Int) (r1 : List Int) (r2 : Int) (r3 : Bool) (w : World) (hr0 : Kd.C (Kd.int .u8) w A0 l0.length l0) (hc0 : l0.length ≤ c0) (h : spec_l04Nos.f k l0 = some (r1, r2, r3)) :
  Calls Tryz.prog 94 #[.slice A0 l0.length c0] w fun e w' => ∃ v0_ : Value, e = .returned (.tuple #[v0_, .int .i64 r2, .bool r3]) ∧ Kd.R (Kd.int .i64) 3 w' w.heap.size (fun _ => True) v0_ r1 ∧ Below w.heap.size w w' := by
 have HR0 := Aside0.mk hr0
 have HC0 := Aside0.mk hc0
 clear hr0 hc0
 have HB := Aside0.mk (Below.refl w.heap.size w)
 have H : ((spec_GetBits.f k l0 2).bind fun bt203 => (if bt203.2.2 = true then (spec_l04Nos.l0 k l0 bt203.2.1 (([] : List Int)) false bt203.1 (bt203.1.length : Int) 0) else (some (([] : List Int), 0, false)))) = some (r1, r2, r3) := h
 clear h
 obtain ⟨⟨t203, t204, t205⟩, A2, H⟩ := ob_ H
 (try dsimp only at H)
 by_cases c3 : t205 = true
 rotate_left
 ·replace c3 := Bool.eq_false_iff.mpr c3
  subst c3
  replace H := in_ H
  simp only [Option.some.injEq, Prod.mk.injEq] at H
  obtain ⟨rfl, rfl, rfl⟩ := H
  go_enter Tryz.func94, Tryz.ntmps94
  go_wp2_with (first | ((with_reducible refine gc_ 122 21 Tryz.func122 #[.slice A0 l0.length c0, .int .i64 2] ?_); (with_reducible refine (spec_GetBits.calls k _ _ l0 2 t203 t204 false _ ?side1 ?side2 A2.out).mono ?_); (case side1 => exact ca_ (HR0.out)); (case side2 => exact HC0.out); rintro e w34 ⟨v206, rfl, ho0, hb⟩; refine ⟨_, rfl, ?_⟩; have HO207 := Aside0.mk (Kd.R_lower ho0 (below_size bl_)); replace HB := hs_ hb; clear hb; (try clear ho0)))
  go_ret3
  exact ⟨_, by first | rfl | (simp [errW_none, errW_some] <;> rfl) | (simp [*, errW_none, errW_some] <;> rfl), by first | exact Kd.R_nil _ _ _ _ _ | exact Kd.N_nil _ _ _ _ _ | exact Kd.V_nil _ _ _ _ _ | exact Kd.Q_nil _ _ _ _ _ | exact Kd.S_nil _ _ _ _ _, bl_⟩
 subst c3
 replace H := ip_ H
 obtain ⟨y208, hy208⟩ : ∃ y_ : List Int, y_ = (([] : List Int)) := ⟨_, rfl⟩
 replace H : (spec_l04Nos.l0 k l0 t204 y208 false t203 (t203.length : Int) 0) = some (r1, r2, r3) := by first | (rw [hy208]; with_reducible exact H) | (have H2_ := (Option.bind_some _ _).symm.trans H; rw [hy208]; with_reducible exact H2_) | (have H2_ := (Option.bind_some _ _).symm.trans H; with_reducible exact H2_) | with_reducible exact H | (rw [hy208]; exact H) | exact H
 have Ny208 := Aside0.mk hy208
 clear hy208
 have H' := Aside0.mk H
 clear H
 go_enter Tryz.func94, Tryz.ntmps94
 go_wp2_with (first | ((with_reducible refine gc_ 122 21 Tryz.func122 #[.slice A0 l0.length c0, .int .i64 2] ?_); (with_reducible refine (spec_GetBits.calls k _ _ l0 2 t203 t204 true _ ?side1 ?side2 A2.out).mono ?_); (case side1 => exact ca_ (HR0.out)); (case side2 => exact HC0.out); rintro e w4 ⟨v206, rfl, ho0, hb⟩; refine ⟨_, rfl, ?_⟩; have HO207 := Aside0.mk (Kd.R_lower ho0 (below_size bl_)); replace HB := hs_ hb; clear hb; (try clear ho0)) | ((with_reducible refine gate_dst (N := 27) rfl ?_); (try (refine gate_guard (by rfl) ?_; dsimp only)); refine Kd.R_lit (Kd.int .i64) _ 3 ?hg (N := 27) ?hd (xs := ([] : List Int)) (inner := []) (ok := fun _ => True) (okp := fun _ => True) ?hr ?hp (fun _ hk => hk) trivial (Below.refl _ _) (Nat.le_refl _) (by simp) ?_; (case hd => rfl); (case hg => rfl); (case hr => first | (go_simp; done) | (go_simp; rfl)); (case hp => exact (Reps.none _ _)); intro v209 w5 ho6 hb hg_ hnew_; clear hg_ hnew_; (first | rw [← Ny208.out] at ho6 | (simp only [Int.reduceToNat] at ho6; rw [← Ny208.out] at ho6)); have HO210 := Aside0.mk (Kd.R_lower (Kd.R_new' ho6 (Kd.R_lt (ra_ HO207))) (below_size bl_)); replace HO207 := Aside0.mk (Kd.R_elder' (ra_ HO207) (Kd.R_base ho6) hb); replace HB := hs_ hb; clear hb ho6; obtain ⟨Ao7, co7, eo7⟩ := Kd.R_slice HO207.out; subst eo7))
 go_loopg [8, 9, 30] k (fun kq v8 v9 v30 w' => ∃ (x8_1 : List Int) (x9_1 : Bool) (x30_1 : Int), v9 = .bool x9_1 ∧ v30 = .int .i64 x30_1 ∧ Aside0 (spec_l04Nos.l0 kq l0 t204 x8_1 x9_1 t203 (t203.length : Int) x30_1 = some (r1, r2, r3)) ∧ Aside0 (kq ≤ k) ∧ Aside0 (Kd.R (Kd.int .i64) 3 w' w.heap.size (fun k_ => some k_ ≠ ((.slice Ao7 t203.length co7) : Value).ownBlock) v8 x8_1) ∧ Aside0 (Kd.R (Kd.int .i64) 3 w' w.heap.size (fun k_ => some k_ ≠ (v8 : Value).ownBlock) (.slice Ao7 t203.length co7) t203) ∧ Aside0 (Below w.heap.size w w'))
 case atStart => exact ⟨(y208), (false), (0), sp_, sp_, H', ⟨Nat.le_refl _⟩, ⟨by (with_reducible repeat (first | apply Kd.R_alloc | apply Kd.R_drewN | apply Kd.R_drew)); exact Kd.R_mono HO210.out (fun _ hk => hk.2)⟩, ⟨by (with_reducible repeat (first | apply Kd.R_alloc | apply Kd.R_drewN | apply Kd.R_drew)); exact Kd.R_mono HO207.out (fun _ hk => hk.2)⟩, ⟨bl_⟩⟩
 case round =>
  clear H'
  obtain ⟨x8_1, x9_1, x30_1, rfl, rfl, HA, HK1, HO_8, HO_28, HB⟩ := hrel
  cases gk with
  | zero => exact absurd HA.out (by simp [spec_l04Nos.l0])
  | succ k1 =>
   have H := HA.out
   clear HA
   simp only [spec_l04Nos.l0] at H
   by_cases c8 : x30_1 < (t203.length : Int)
   ·rw [if_pos c8] at H
    have c8b0 := decide_eq_true c8
    clear c8
    by_cases c9 : 0 ≤ x30_1
    rotate_left
    ·rw [if_neg c9] at H
     exact absurd H (by simp)
    rw [if_pos c9] at H
    have c9b0 := decide_eq_true c9
    clear c9
    by_cases c10 : x30_1 < (t203.length : Int)
    rotate_left
    ·rw [if_neg c10] at H
     exact absurd H (by simp)
    rw [if_pos c10] at H
    have c10b0 := decide_eq_true c10
    clear c10
    by_cases c11 : (rd t203 x30_1) = 1
    ·rw [if_pos c11] at H
     have c11b0 := beq_iff_eq.mpr c11
     have c11b1 := bne_eq_false_iff_eq.mpr c11
     clear c11
     have H' := Aside0.mk H
     clear H
     have p211 : 0 ≤ (x30_1 : Int) := od_
     have q211 : x30_1 < (t203.length : Int) := od_
     obtain ⟨ad211, e211, hx211_0⟩ := Kd.at_int (Kd.R_reads' HO_28.out).2.2 x30_1 p211 q211
     cases e211
     replace p211 := eq_true p211
     replace q211 := eq_true q211
     go_wp2
     go_roundg k1
     case measure => have := HK1.out; omega
     case rel => exact ⟨(x8_1), (true), (wrap64 (x30_1 + 1)), sp_, sp_, H', ⟨by have := HK1.out; omega⟩, ⟨ra_ HO_8⟩, ⟨ra_ HO_28⟩, ⟨bl_⟩⟩
    rw [if_neg c11] at H
    have c11b0 := beq_eq_false_iff_ne.mpr c11
    have c11b1 := bne_iff_ne.mpr c11
    by_cases c12 : x8_1.length < 17592186044416
    ·rw [if_pos c12] at H
     have LMc12 := Aside0.mk c12
     clear c12
     obtain ⟨y212, hy212⟩ : ∃ y_ : List Int, y_ = (x8_1 ++ [rd t203 x30_1]) := ⟨_, rfl⟩
     replace H : (spec_l04Nos.l0 k1 l0 t204 y212 x9_1 t203 (t203.length : Int) (wrap64 (x30_1 + 1))) = some (r1, r2, r3) := by first | (rw [hy212]; with_reducible exact H) | (have H2_ := (Option.bind_some _ _).symm.trans H; rw [hy212]; with_reducible exact H2_) | (have H2_ := (Option.bind_some _ _).symm.trans H; with_reducible exact H2_) | with_reducible exact H | (rw [hy212]; exact H) | exact H
     have Ny212 := Aside0.mk hy212
     clear hy212
     have H' := Aside0.mk H
     clear H
     have p211 : 0 ≤ (x30_1 : Int) := od_
     have q211 : x30_1 < (t203.length : Int) := od_
     obtain ⟨ad211, e211, hx211_0⟩ := Kd.at_int (Kd.R_reads' HO_28.out).2.2 x30_1 p211 q211
     cases e211
     replace p211 := eq_true p211
     replace q211 := eq_true q211
     go_wp2_with (first | ((with_reducible refine gate_builtin (b := .append) (xs := #[.tmp 36, .tmp 38]) rfl ?_); (try (refine gate_guard (by rfl) ?_; dsimp only)); at_builtin; refine Kd.R_append (Kd.int .i64) (w0 := w) w.heap.size rfl (.tmp 36) (.tmp 38) 46 3 (.int .i64 0) 8 rfl Tryz.underlying46 info3 rfl (by decide) (by omega) u8 x8_1 (rd t203 x30_1) [.int .i64 (rd t203 x30_1)] (fun k_ => some k_ ≠ (.slice (some ad211) t203.length co7 : Value).ownBlock) (fun _ => False) rfl rfl ?aP (fun _ hk => hk.elim) ?aF ?aO ?aB ?aS ?aL ?_; (case aP => exact rfl); (case aB => exact bl_); (case aF => exact (fun k_ hk => Kd.fresh' (Kd.R_lt (ra_ HO_28)) k_ hk)); (case aO => exact (ra_ HO_8)); (case aS => exact (below_size bl_)); (case aL => have := LMc12.out; omega); intro v213 w13 ho hb hg hat; rw [← Ny212.out] at ho; have n0_ := Aside0.mk (Kd.R_after (ok := (fun _ => True)) (by (with_reducible repeat (first | apply Kd.R_alloc | apply Kd.R_drewN | apply Kd.R_drew)); exact Kd.R_mono HO_28.out (fun _ hk => ⟨trivial, hk⟩)) hg hat); have n1_ := Aside0.mk (hb); have n2_ := Aside0.mk (ho); clear HO_28; clear HB; clear HO_8; have HO_28 := n0_; have HB := n1_; have HO214 := n2_; clear n0_ n1_ n2_; clear ho hb hg hat))
     go_roundg k1
     case measure => have := HK1.out; omega
     case rel => exact ⟨(y212), (x9_1), (wrap64 (x30_1 + 1)), sp_, sp_, H', ⟨by have := HK1.out; omega⟩, ⟨ra_ HO214⟩, ⟨by (with_reducible repeat (first | apply Kd.R_alloc | apply Kd.R_drewN | apply Kd.R_drew)); exact Kd.R_mono HO_28.out (fun _ hk => hk.2)⟩, ⟨bl_⟩⟩
    ·rw [if_neg c12] at H
     exact absurd H (by simp)
   rw [if_neg c8] at H
   have c8b0 := decide_eq_false c8
   clear c8
   have HC14 := Aside0.mk H
   clear H
   go_upto_if 41 with (fail)
   go_cut [6, 8] (fun v6 v8 wc => ∃ (kq : Nat) (x6_13 : Int) (x8_13 : List Int), v6 = .int .i64 x6_13 ∧ Aside0 (spec_l04Nos.j3 kq x6_13 x8_13 = some (r1, r2, r3)) ∧ Aside0 (kq ≤ k1) ∧ Aside0 (Kd.R (Kd.int .i64) 3 wc w.heap.size (fun _ => True) v8 x8_13) ∧ Aside0 (Below w.heap.size w wc))
   case first =>
    have H := HC14.out
    clear HC14
    by_cases c15 : x9_1 = true
    rotate_left
    ·replace c15 := Bool.eq_false_iff.mpr c15
     subst c15
     replace H := in_ H
     have H' := Aside0.mk H
     clear H
     go_wp2
     go_meet
     case rel => exact ⟨_, (t204), (x8_1), sp_, H', ⟨by have := HK1.out; first | omega | exact Nat.le_refl _⟩, ⟨by (with_reducible repeat (first | apply Kd.R_alloc | apply Kd.R_drewN | apply Kd.R_drew)); exact Kd.R_mono HO_8.out (fun _ hk => trivial)⟩, ⟨bl_⟩⟩
    subst c15
    replace H := ip_ H
    obtain ⟨⟨t215, t216, t217⟩, A16, H⟩ := ob_ H
    (try dsimp only at H)
    have HC17 := Aside0.mk H
    clear H
    go_upto_region 15 with (first | ((with_reducible refine gc_ 122 45 Tryz.func122 #[.slice A0 l0.length c0, .int .i64 t204] ?_); (with_reducible refine (spec_GetBits.calls k1 _ _ l0 t204 t215 t216 t217 _ ?side1 ?side2 A16.out).mono ?_); (case side1 => exact ca_ (Kd.C_below HR0.out HB.out)); (case side2 => exact HC0.out); rintro e w18 ⟨v218, rfl, ho0, hb⟩; refine ⟨_, rfl, ?_⟩; have HO219 := Aside0.mk (Kd.R_lower (Kd.R_new' (Kd.R_new' ho0 (Kd.R_lt (ra_ HO_8))) (Kd.R_lt (ra_ HO_28))) (below_size bl_)); replace HO_8 := Aside0.mk (Kd.R_elder' (ra_ HO_8) (Kd.R_base ho0) hb); replace HO_28 := Aside0.mk (Kd.R_elder' (ra_ HO_28) (Kd.R_base ho0) hb); replace HB := hs_ hb; clear hb; (try clear ho0)))
    (try simp only [Act.put, List.setIfInBounds_toArray, List.set_cons_zero, List.set_cons_succ])
    go_cut [55] (fun v55 wc => ∃ (kq : Nat) (x55_16 : Bool), v55 = .bool x55_16 ∧ Aside0 (spec_l04Nos.j1 kq x8_1 t215 t216 x55_16 = some (r1, r2, r3)) ∧ Aside0 (kq ≤ k1) ∧ Aside0 (Kd.R (Kd.int .i64) 3 wc w.heap.size (fun k_ => some k_ ≠ (v218 : Value).ownBlock) u8 x8_1) ∧ Aside0 (Kd.R (Kd.int .i64) 3 wc w.heap.size (fun k_ => some k_ ≠ (u8 : Value).ownBlock) v218 t215) ∧ Aside0 (Below w.heap.size w wc))
    case first =>
     have H := HC17.out
     clear HC17
     by_cases c19 : t217 = true
     ·subst c19
      replace H := ip_ H
      have H' := Aside0.mk H
      clear H
      obtain ⟨Ao20, co20, eo20⟩ := Kd.R_slice HO219.out
      subst eo20
      go_wp2
      go_meet
      case rel => exact ⟨_, (((t215.length : Int) == 0)), sp_, H', ⟨by have := HK1.out; first | omega | exact Nat.le_refl _⟩, ⟨by (with_reducible repeat (first | apply Kd.R_alloc | apply Kd.R_drewN | apply Kd.R_drew)); exact Kd.R_mono HO_8.out (fun _ hk => hk.2)⟩, ⟨by (with_reducible repeat (first | apply Kd.R_alloc | apply Kd.R_drewN | apply Kd.R_drew)); exact Kd.R_mono HO219.out (fun _ hk => hk.1.2)⟩, ⟨bl_⟩⟩
     ·replace c19 := Bool.eq_false_iff.mpr c19
      subst c19
      replace H := in_ H
      have H' := Aside0.mk H
      clear H
      go_wp2
      go_meet
      case rel => exact ⟨_, (true), sp_, H', ⟨by have := HK1.out; first | omega | exact Nat.le_refl _⟩, ⟨by (with_reducible repeat (first | apply Kd.R_alloc | apply Kd.R_drewN | apply Kd.R_drew)); exact Kd.R_mono HO_8.out (fun _ hk => hk.2)⟩, ⟨by (with_reducible repeat (first | apply Kd.R_alloc | apply Kd.R_drewN | apply Kd.R_drew)); exact Kd.R_mono HO219.out (fun _ hk => hk.1.2)⟩, ⟨bl_⟩⟩
    case rest =>
     clear HC17
     obtain ⟨kq, x55_16, rfl, HA, HJ16, HO_8, HO_12, HB⟩ := hcut
     cases kq with
     | zero => exact absurd HA.out (by simp [spec_l04Nos.j1])
     | succ kj16 =>
      have H := HA.out
      clear HA
      simp only [spec_l04Nos.j1] at H
      by_cases c21 : x55_16 = true
      ·subst c21
       replace H := ip_ H
       simp only [Option.some.injEq, Prod.mk.injEq] at H
       obtain ⟨rfl, rfl, rfl⟩ := H
       go_wp2
       go_ret3
       exact ⟨_, by first | rfl | (simp [errW_none, errW_some] <;> rfl) | (simp [*, errW_none, errW_some] <;> rfl), by first | exact Kd.R_nil _ _ _ _ _ | exact Kd.N_nil _ _ _ _ _ | exact Kd.V_nil _ _ _ _ _ | exact Kd.Q_nil _ _ _ _ _ | exact Kd.S_nil _ _ _ _ _, bl_⟩
      replace c21 := Bool.eq_false_iff.mpr c21
      subst c21
      replace H := in_ H
      have H' := Aside0.mk H
      clear H
      obtain ⟨Ao22, co22, eo22⟩ := Kd.R_slice HO_12.out
      subst eo22
      go_wp2
      go_loopg [8, 58] kj16 (fun kq v8 v58 w' => ∃ (x8_3 : List Int) (x58_3 : Int), v58 = .int .i64 x58_3 ∧ Aside0 (spec_l04Nos.l1 kq x8_3 t216 t215 (t215.length : Int) x58_3 = some (r1, r2, r3)) ∧ Aside0 (kq ≤ kj16) ∧ Aside0 (Kd.R (Kd.int .i64) 3 w' w.heap.size (fun k_ => some k_ ≠ ((.slice Ao22 t215.length co22) : Value).ownBlock) v8 x8_3) ∧ Aside0 (Kd.R (Kd.int .i64) 3 w' w.heap.size (fun k_ => some k_ ≠ (v8 : Value).ownBlock) (.slice Ao22 t215.length co22) t215) ∧ Aside0 (Below w.heap.size w w'))
      case atStart => exact ⟨(x8_1), (0), sp_, H', ⟨Nat.le_refl _⟩, ⟨ra_ HO_8⟩, ⟨ra_ HO_12⟩, ⟨bl_⟩⟩
      case round =>
       clear H'
       obtain ⟨x8_3, x58_3, rfl, HA, HK3, HO_8, HO_56, HB⟩ := hrel
       cases gk with
       | zero => exact absurd HA.out (by simp [spec_l04Nos.l1])
       | succ k3 =>
        have H := HA.out
        clear HA
        simp only [spec_l04Nos.l1] at H
        by_cases c23 : x58_3 < (t215.length : Int)
        rotate_left
        ·rw [if_neg c23] at H
         have c23b0 := decide_eq_false c23
         clear c23
         have H' := Aside0.mk H
         clear H
         go_wp2
         go_meet
         case rel => exact ⟨_, (t216), (x8_3), sp_, H', ⟨by have := HK1.out; have := HJ16.out; have := HK3.out; first | omega | exact Nat.le_refl _⟩, ⟨by (with_reducible repeat (first | apply Kd.R_alloc | apply Kd.R_drewN | apply Kd.R_drew)); exact Kd.R_mono HO_8.out (fun _ hk => trivial)⟩, ⟨bl_⟩⟩
        rw [if_pos c23] at H
        have c23b0 := decide_eq_true c23
        clear c23
        by_cases c24 : 0 ≤ x58_3
        rotate_left
        ·rw [if_neg c24] at H
         exact absurd H (by simp)
        rw [if_pos c24] at H
        have c24b0 := decide_eq_true c24
        clear c24
        by_cases c25 : x58_3 < (t215.length : Int)
        ·rw [if_pos c25] at H
         have c25b0 := decide_eq_true c25
         clear c25
         by_cases c26 : x8_3.length < 17592186044416
         ·rw [if_pos c26] at H
          have LMc26 := Aside0.mk c26
          clear c26
          obtain ⟨y221, hy221⟩ : ∃ y_ : List Int, y_ = (x8_3 ++ [wrap64 ((rd t215 x58_3) + 64)]) := ⟨_, rfl⟩
          replace H : (spec_l04Nos.l1 k3 y221 t216 t215 (t215.length : Int) (wrap64 (x58_3 + 1))) = some (r1, r2, r3) := by first | (rw [hy221]; with_reducible exact H) | (have H2_ := (Option.bind_some _ _).symm.trans H; rw [hy221]; with_reducible exact H2_) | (have H2_ := (Option.bind_some _ _).symm.trans H; with_reducible exact H2_) | with_reducible exact H | (rw [hy221]; exact H) | exact H
          have Ny221 := Aside0.mk hy221
          clear hy221
          have H' := Aside0.mk H
          clear H
          have p220 : 0 ≤ (x58_3 : Int) := od_
          have q220 : x58_3 < (t215.length : Int) := od_
          obtain ⟨ad220, e220, hx220_0⟩ := Kd.at_int (Kd.R_reads' HO_56.out).2.2 x58_3 p220 q220
          cases e220
          replace p220 := eq_true p220
          replace q220 := eq_true q220
          go_wp2_with (first | ((with_reducible refine gate_builtin (b := .append) (xs := #[.tmp 62, .tmp 65]) rfl ?_); (try (refine gate_guard (by rfl) ?_; dsimp only)); at_builtin; refine Kd.R_append (Kd.int .i64) (w0 := w) w.heap.size rfl (.tmp 62) (.tmp 65) 46 3 (.int .i64 0) 8 rfl Tryz.underlying46 info3 rfl (by decide) (by omega) u8 x8_3 (wrap64 ((rd t215 x58_3) + 64)) [.int .i64 (wrap64 ((rd t215 x58_3) + 64))] (fun k_ => some k_ ≠ (.slice (some ad220) t215.length co22 : Value).ownBlock) (fun _ => False) rfl rfl ?aP (fun _ hk => hk.elim) ?aF ?aO ?aB ?aS ?aL ?_; (case aP => exact rfl); (case aB => exact bl_); (case aF => exact (fun k_ hk => Kd.fresh' (Kd.R_lt (ra_ HO_56)) k_ hk)); (case aO => exact (ra_ HO_8)); (case aS => exact (below_size bl_)); (case aL => have := LMc26.out; omega); intro v222 w27 ho hb hg hat; rw [← Ny221.out] at ho; have n0_ := Aside0.mk (Kd.R_after (ok := (fun _ => True)) (by (with_reducible repeat (first | apply Kd.R_alloc | apply Kd.R_drewN | apply Kd.R_drew)); exact Kd.R_mono HO_56.out (fun _ hk => ⟨trivial, hk⟩)) hg hat); have n1_ := Aside0.mk (hb); have n2_ := Aside0.mk (ho); clear HO_56; clear HB; clear HO_8; have HO_56 := n0_; have HB := n1_; have HO223 := n2_; clear n0_ n1_ n2_; clear ho hb hg hat))
          go_roundg k3
          case measure => have := HK1.out; have := HJ16.out; have := HK3.out; omega
          case rel => exact ⟨(y221), (wrap64 (x58_3 + 1)), sp_, H', ⟨by have := HK1.out; have := HJ16.out; have := HK3.out; omega⟩, ⟨ra_ HO223⟩, ⟨by (with_reducible repeat (first | apply Kd.R_alloc | apply Kd.R_drewN | apply Kd.R_drew)); exact Kd.R_mono HO_56.out (fun _ hk => hk.2)⟩, ⟨bl_⟩⟩
         ·rw [if_neg c26] at H
          exact absurd H (by simp)
        ·rw [if_neg c25] at H
         exact absurd H (by simp)
   case rest =>
    clear HC14
    obtain ⟨kq, x6_13, x8_13, rfl, HA, HJ13, HO_8, HB⟩ := hcut
    cases kq with
    | zero => exact absurd HA.out (by simp [spec_l04Nos.j3])
    | succ kj13 =>
     have H := HA.out
     clear HA
     simp only [spec_l04Nos.j3] at H
     have H' := Aside0.mk H
     clear H
     obtain ⟨Ao28, co28, eo28⟩ := Kd.R_slice HO_8.out
     subst eo28
     go_wp2
     go_loopg [71] kj13 (fun kq v71 w' => ∃ (x71_3 : Int), v71 = .int .i64 x71_3 ∧ Aside0 (spec_l04Nos.l2 kq x6_13 x8_13 x8_13 (x8_13.length : Int) x71_3 = some (r1, r2, r3)) ∧ Aside0 (kq ≤ kj13) ∧ Aside0 (Kd.R (Kd.int .i64) 3 w' w.heap.size (fun _ => True) (.slice Ao28 x8_13.length co28) x8_13) ∧ Aside0 (Kd.R (Kd.int .i64) 3 w' w.heap.size (fun _ => True) (.slice Ao28 x8_13.length co28) x8_13) ∧ Aside0 (Below w.heap.size w w'))
     case atStart => exact ⟨(0), sp_, H', ⟨Nat.le_refl _⟩, ⟨ra_ HO_8⟩, ⟨ra_ HO_8⟩, ⟨bl_⟩⟩
     case round =>
      clear H'
      obtain ⟨x71_3, rfl, HA, HK3, HO_8, HO_69, HB⟩ := hrel
      cases gk with
      | zero => exact absurd HA.out (by simp [spec_l04Nos.l2])
      | succ k3 =>
       have H := HA.out
       clear HA
       simp only [spec_l04Nos.l2] at H
       by_cases c29 : x71_3 < (x8_13.length : Int)
       rotate_left
       ·rw [if_neg c29] at H
        have c29b0 := decide_eq_false c29
        clear c29
        simp only [Option.some.injEq, Prod.mk.injEq] at H
        obtain ⟨rfl, rfl, rfl⟩ := H
        go_wp2
        go_ret3
        exact ⟨_, by first | rfl | (simp [errW_none, errW_some] <;> rfl) | (simp [*, errW_none, errW_some] <;> rfl), ra_ HO_8, bl_⟩
       rw [if_pos c29] at H
       have c29b0 := decide_eq_true c29
       clear c29
       by_cases c30 : 0 ≤ x71_3
       rotate_left
       ·rw [if_neg c30] at H
        exact absurd H (by simp)
       rw [if_pos c30] at H
       have c30b0 := decide_eq_true c30
       clear c30
       by_cases c31 : x71_3 < (x8_13.length : Int)
       rotate_left
       ·rw [if_neg c31] at H
        exact absurd H (by simp)
       rw [if_pos c31] at H
       have c31b0 := decide_eq_true c31
       clear c31
       obtain ⟨t225, A32, H⟩ := ob_ H
       by_cases c33 : t225 = 0
       ·rw [if_pos c33] at H
        have c33b0 := beq_iff_eq.mpr c33
        have c33b1 := bne_eq_false_iff_eq.mpr c33
        clear c33
        simp only [Option.some.injEq, Prod.mk.injEq] at H
        obtain ⟨rfl, rfl, rfl⟩ := H
        have p224 : 0 ≤ (x71_3 : Int) := od_
        have q224 : x71_3 < (x8_13.length : Int) := od_
        obtain ⟨ad224, e224, hx224_0⟩ := Kd.at_int (Kd.R_reads' HO_69.out).2.2 x71_3 p224 q224
        cases e224
        replace p224 := eq_true p224
        replace q224 := eq_true q224
        go_wp2_with (first | ((with_reducible refine gc_ 107 76 Tryz.func107 #[.int .i64 (rd x8_13 x71_3)] ?_); (with_reducible refine (spec_FieldKind.calls k3 (rd x8_13 x71_3) t225 _ A32.out).mono ?_); rintro e w' ⟨rfl, ⟨nd, rfl⟩⟩; refine ⟨_, rfl, ?_⟩))
        go_ret3
        exact ⟨_, by first | rfl | (simp [errW_none, errW_some] <;> rfl) | (simp [*, errW_none, errW_some] <;> rfl), by first | exact Kd.R_nil _ _ _ _ _ | exact Kd.N_nil _ _ _ _ _ | exact Kd.V_nil _ _ _ _ _ | exact Kd.Q_nil _ _ _ _ _ | exact Kd.S_nil _ _ _ _ _, bl_⟩
       rw [if_neg c33] at H
       have c33b0 := beq_eq_false_iff_ne.mpr c33
       have c33b1 := bne_iff_ne.mpr c33
       have H' := Aside0.mk H
       clear H
       have p224 : 0 ≤ (x71_3 : Int) := od_
       have q224 : x71_3 < (x8_13.length : Int) := od_
       obtain ⟨ad224, e224, hx224_0⟩ := Kd.at_int (Kd.R_reads' HO_69.out).2.2 x71_3 p224 q224
       cases e224
       replace p224 := eq_true p224
       replace q224 := eq_true q224
       go_wp2_with (first | ((with_reducible refine gc_ 107 76 Tryz.func107 #[.int .i64 (rd x8_13 x71_3)] ?_); (with_reducible refine (spec_FieldKind.calls k3 (rd x8_13 x71_3) t225 _ A32.out).mono ?_); rintro e w' ⟨rfl, ⟨nd, rfl⟩⟩; refine ⟨_, rfl, ?_⟩))
       go_roundg k3
       case measure => have := HK1.out; have := HJ13.out; have := HK3.out; omega
       case rel => exact ⟨(wrap64 (x71_3 + 1)), sp_, H', ⟨by have := HK1.out; have := HJ13.out; have := HK3.out; omega⟩, ⟨ra_ HO_8⟩, ⟨ra_ HO_69⟩, ⟨bl_⟩⟩
/-! ### spec_l03Width: function 123 -/
def spec_l03Width.j0 : Nat → Int → Bool → Option (Int)
 | 0, _, _ => none
 | k + 1, x3, x4 => if x4 = true then (some 2) else (if x3 = 5 then (some 3) else (some 0))
def spec_l03Width.f (k : Nat) (a0 : Int) : Option (Int) := if a0 = 3 then (spec_l03Width.j0 k a0 (a0 == 3)) else (spec_l03Width.j0 k a0 (a0 == 4))
set_option maxHeartbeats 8000000 in
set_option maxRecDepth 100000 in
theorem spec_l03Width.calls (k : Nat) (a0 : Int) (r : Int) (w : World) (h : spec_l03Width.f k a0 = some r) :
  Calls Tryz.prog 123 #[.int .i64 a0] w fun e w' => e = .returned (.int .i64 r) ∧ Drawn0 w w' := by
 have H : (if a0 = 3 then (spec_l03Width.j0 k a0 (a0 == 3)) else (spec_l03Width.j0 k a0 (a0 == 4))) = some r := h
 clear h
 have HC2 := Aside0.mk H
 clear H
 go_enter Tryz.func123, Tryz.ntmps123
 go_upto_if 4 with (fail)
 go_cut [4] (fun v4 wc => ∃ (kq : Nat) (x4_1 : Bool), v4 = .bool x4_1 ∧ Aside0 (spec_l03Width.j0 kq a0 x4_1 = some r) ∧ Aside0 (kq ≤ k) ∧ Drawn0 w wc)
 case first =>
  have H := HC2.out
  clear HC2
  by_cases c3 : a0 = 3
  ·rw [if_pos c3] at H
   have c3b0 := beq_iff_eq.mpr c3
   have c3b1 := bne_eq_false_iff_eq.mpr c3
   clear c3
   (first | rw [c3b0] | (simp only [i64_w, i32_w]; rw [c3b0]) | skip)
   have H' := Aside0.mk H
   clear H
   go_wp2
   go_meet
   case rel => exact ⟨_, ((a0 == 3)), sp_, H', ⟨by first | omega | exact Nat.le_refl _⟩, by repeat (first | exact Drawn0.refl _ | apply Drawn0.step)⟩
  ·rw [if_neg c3] at H
   have c3b0 := beq_eq_false_iff_ne.mpr c3
   have c3b1 := bne_iff_ne.mpr c3
   (first | rw [c3b0] | (simp only [i64_w, i32_w]; rw [c3b0]) | skip)
   have H' := Aside0.mk H
   clear H
   go_wp2
   go_meet
   case rel => exact ⟨_, ((a0 == 4)), sp_, H', ⟨by first | omega | exact Nat.le_refl _⟩, by repeat (first | exact Drawn0.refl _ | apply Drawn0.step)⟩
 case rest =>
  clear HC2
  obtain ⟨kq, x4_1, rfl, HA, HJ1, ⟨mc1, rfl⟩⟩ := hcut
  cases kq with
  | zero => exact absurd HA.out (by simp [spec_l03Width.j0])
  | succ kj1 =>
   have H := HA.out
   clear HA
   simp only [spec_l03Width.j0] at H
   by_cases c4 : x4_1 = true
   ·subst c4
    replace H := ip_ H
    obtain rfl := Option.some.inj H
    go_wp2
    go_ret
    exact ⟨sp_, by repeat (first | exact Drawn0.refl _ | apply Drawn0.step)⟩
   replace c4 := Bool.eq_false_iff.mpr c4
   subst c4
   replace H := in_ H
   by_cases c5 : a0 = 5
   ·rw [if_pos c5] at H
    have c5b0 := beq_iff_eq.mpr c5
    have c5b1 := bne_eq_false_iff_eq.mpr c5
    clear c5
    obtain rfl := Option.some.inj H
    go_wp2
    go_ret
    exact ⟨sp_, by repeat (first | exact Drawn0.refl _ | apply Drawn0.step)⟩
   rw [if_neg c5] at H
   have c5b0 := beq_eq_false_iff_ne.mpr c5
   have c5b1 := bne_iff_ne.mpr c5
   obtain rfl := Option.some.inj H
   go_wp2
   go_ret
   exact ⟨sp_, by repeat (first | exact Drawn0.refl _ | apply Drawn0.step)⟩
/-! ### spec_GetLen: function 124 -/
def spec_GetLen.j0 : Nat → List Int → Int → Int → Bool → Option (Int × Int × Bool)
 | 0, _, _, _, _ => none
 | k + 1, x0, x1, x2, x19 => if x19 = true then (some (0, 0, false)) else ((spec_GetBcd.f k x0 x1 x2).bind fun bt226 => ((spec_Narrow.f k bt226.1).bind fun bt229 => (some (bt229.1, bt226.2.1, bt226.2.2))))
def spec_GetLen.f (k : Nat) (l0 : List Int) (a1 : Int) (a2 : Int) : Option (Int × Int × Bool) := if a2 = 2 then (spec_GetLen.j0 k l0 a1 a2 false) else (spec_GetLen.j0 k l0 a1 a2 (a2 != 3))
set_option maxHeartbeats 8000000 in
set_option maxRecDepth 100000 in
theorem spec_GetLen.calls (k : Nat) (A0 : Option Addr) (c0 : Nat) (l0 : List Int) (a1 : Int) (a2 : Int) (r1 : Int) (r2 : Int) (r3 : Bool) (w : World) (hr0 : Kd.C (Kd.int .u8) w A0 l0.length l0) (hc0 : l0.length ≤ c0) (h : spec_GetLen.f k l0 a1 a2 = some (r1, r2, r3)) :
  Calls Tryz.prog 124 #[.slice A0 l0.length c0, .int .i64 a1, .int .i64 a2] w fun e w' => e = .returned (.tuple #[.int .i64 r1, .int .i64 r2, .bool r3]) ∧ Below w.heap.size w w' := by
 have HR0 := Aside0.mk hr0
 have HC0 := Aside0.mk hc0
 clear hr0 hc0
 have HB := Aside0.mk (Below.refl w.heap.size w)
 have H : (if a2 = 2 then (spec_GetLen.j0 k l0 a1 a2 false) else (spec_GetLen.j0 k l0 a1 a2 (a2 != 3))) = some (r1, r2, r3) := h
 clear h
 have HC4 := Aside0.mk H
 clear H
 go_enter Tryz.func124, Tryz.ntmps124
 go_upto_region 1 with (fail)
 go_cut [19] (fun v19 wc => ∃ (kq : Nat) (x19_3 : Bool), v19 = .bool x19_3 ∧ Aside0 (spec_GetLen.j0 kq l0 a1 a2 x19_3 = some (r1, r2, r3)) ∧ Aside0 (kq ≤ k) ∧ Aside0 (Below w.heap.size w wc))
 case first =>
  have H := HC4.out
  clear HC4
  by_cases c5 : a2 = 2
  ·rw [if_pos c5] at H
   have c5b0 := beq_iff_eq.mpr c5
   have c5b1 := bne_eq_false_iff_eq.mpr c5
   clear c5
   (first | rw [c5b0] | (simp only [i64_w, i32_w]; rw [c5b0]) | skip)
   have H' := Aside0.mk H
   clear H
   go_wp2
   go_meet
   case rel => exact ⟨_, (false), sp_, H', ⟨by first | omega | exact Nat.le_refl _⟩, ⟨bl_⟩⟩
  ·rw [if_neg c5] at H
   have c5b0 := beq_eq_false_iff_ne.mpr c5
   have c5b1 := bne_iff_ne.mpr c5
   (first | rw [c5b0] | (simp only [i64_w, i32_w]; rw [c5b0]) | skip)
   have H' := Aside0.mk H
   clear H
   go_wp2
   go_meet
   case rel => exact ⟨_, ((a2 != 3)), sp_, H', ⟨by first | omega | exact Nat.le_refl _⟩, ⟨bl_⟩⟩
 case rest =>
  clear HC4
  obtain ⟨kq, x19_3, rfl, HA, HJ3, HB⟩ := hcut
  cases kq with
  | zero => exact absurd HA.out (by simp [spec_GetLen.j0])
  | succ kj3 =>
   have H := HA.out
   clear HA
   simp only [spec_GetLen.j0] at H
   by_cases c6 : x19_3 = true
   ·subst c6
    replace H := ip_ H
    simp only [Option.some.injEq, Prod.mk.injEq] at H
    obtain ⟨rfl, rfl, rfl⟩ := H
    go_wp2
    go_ret3
    exact ⟨sq_, bl_⟩
   replace c6 := Bool.eq_false_iff.mpr c6
   subst c6
   replace H := in_ H
   obtain ⟨⟨t226, t227, t228⟩, A7, H⟩ := ob_ H
   (try dsimp only at H)
   obtain ⟨⟨t229, t230⟩, A8, H⟩ := ob_ H
   (try dsimp only at H)
   simp only [Option.some.injEq, Prod.mk.injEq] at H
   obtain ⟨rfl, rfl, rfl⟩ := H
   go_wp2_with (first | ((with_reducible refine gc_ 93 24 Tryz.func93 #[.slice A0 l0.length c0, .int .i64 a1, .int .i64 a2] ?_); (with_reducible refine (spec_GetBcd.calls kj3 _ _ l0 a1 a2 t226 t227 t228 _ ?side1 ?side2 A7.out).mono ?_); (case side1 => exact ca_ (Kd.C_below HR0.out HB.out)); (case side2 => exact HC0.out); rintro e w9 ⟨rfl, hb⟩; refine ⟨_, rfl, ?_⟩; replace HB := hs_ hb; clear hb) | ((with_reducible refine gc_ 43 30 Tryz.func43 #[.string t226] ?_); (with_reducible refine (spec_Narrow.calls kj3 t226 t229 t230 _ A8.out).mono ?_); rintro e w' ⟨rfl, ⟨nd, rfl⟩⟩; refine ⟨_, rfl, ?_⟩))
   go_ret3
   exact ⟨sq_, bl_⟩
/-! ### spec_GetField: function 95 -/
mutual
def spec_GetField.j0 : Nat → List Int → Int → Int → Int → Bool → Option (ByteArray × Int × Bool)
 | 0, _, _, _, _, _ => none
 | k + 1, x0, x1, x9, x10, x23 => if x23 = true then (some ((⟨#[]⟩ : ByteArray), 0, false)) else ((spec_l03Width.f k x9).bind fun t233 => (if t233 > 0 then ((spec_l03Width.f k x9).bind fun t234 => ((spec_GetLen.f k x0 x1 t234).bind fun bt235 => (if bt235.2.2 = true then ((spec_l01In.f bt235.1 1 x10).bind fun t238 => (if t238 = true then (spec_GetField.j1 k x0 bt235.2.1 x9 bt235.1) else (some ((⟨#[]⟩ : ByteArray), 0, false)))) else (some ((⟨#[]⟩ : ByteArray), 0, false))))) else (spec_GetField.j1 k x0 x1 x9 x10)))
def spec_GetField.j1 : Nat → List Int → Int → Int → Int → Option (ByteArray × Int × Bool)
 | 0, _, _, _, _ => none
 | k + 1, x0, x1, x9, x10 => if x9 = 1 then (spec_GetField.j2 k x0 x1 x10 true) else (spec_GetField.j2 k x0 x1 x10 (x9 == 3))
def spec_GetField.j2 : Nat → List Int → Int → Int → Bool → Option (ByteArray × Int × Bool)
 | 0, _, _, _, _ => none
 | k + 1, x0, x1, x10, x51 => if x51 = true then ((spec_GetBcd.f k x0 x1 x10).bind fun bt239 => (some (bt239.1, bt239.2.1, bt239.2.2))) else (if x1 > (x0.length : Int) then (some ((⟨#[]⟩ : ByteArray), 0, false)) else (if x10 > (wrap64 ((x0.length : Int) - x1)) then (some ((⟨#[]⟩ : ByteArray), 0, false)) else (if 0 ≤ x1 then (if x1 ≤ (wrap64 (x1 + x10)) then (if (wrap64 (x1 + x10)) ≤ (x0.length : Int) then ((spec_Printable.f k (strOfNums ((x0.take ((wrap64 (x1 + x10)) : Int).toNat).drop (x1 : Int).toNat))).bind fun t243 => (if t243 = true then (some (strOfNums ((x0.take ((wrap64 (x1 + x10)) : Int).toNat).drop (x1 : Int).toNat), wrap64 (x1 + x10), true)) else (some ((⟨#[]⟩ : ByteArray), 0, false)))) else (none)) else (none)) else (none))))
end
def spec_GetField.f (k : Nat) (l0 : List Int) (a1 : Int) (a2 : Int) : Option (ByteArray × Int × Bool) := (spec_FieldKind.f k a2).bind fun t231 => ((spec_FieldSize.f k a2).bind fun t232 => (if t231 = 0 then (spec_GetField.j0 k l0 a1 t231 t232 true) else (spec_GetField.j0 k l0 a1 t231 t232 (decide (a1 < 0)))))
set_option maxHeartbeats 8000000 in
set_option maxRecDepth 100000 in
theorem spec_GetField.calls (k : Nat) (A0 : Option Addr) (c0 : Nat) (l0 : List Int) (a1 : Int) (a2 : Int) (r1 : ByteArray) (r2 : Int) (r3 : Bool) (w : World) (hr0 : Kd.C (Kd.int .u8) w A0 l0.length l0) (hc0 : l0.length ≤ c0) (h : spec_GetField.f k l0 a1 a2 = some (r1, r2, r3)) :
  Calls Tryz.prog 95 #[.slice A0 l0.length c0, .int .i64 a1, .int .i64 a2] w fun e w' => e = .returned (.tuple #[.string r1, .int .i64 r2, .bool r3]) ∧ Below w.heap.size w w' := by
 have HR0 := Aside0.mk hr0
 have HC0 := Aside0.mk hc0
 clear hr0 hc0
 have HB := Aside0.mk (Below.refl w.heap.size w)
 have H : ((spec_FieldKind.f k a2).bind fun t231 => ((spec_FieldSize.f k a2).bind fun t232 => (if t231 = 0 then (spec_GetField.j0 k l0 a1 t231 t232 true) else (spec_GetField.j0 k l0 a1 t231 t232 (decide (a1 < 0)))))) = some (r1, r2, r3) := h
 clear h
 obtain ⟨t231, A4, H⟩ := ob_ H
 obtain ⟨t232, A5, H⟩ := ob_ H
 have HC6 := Aside0.mk H
 clear H
 go_enter Tryz.func95, Tryz.ntmps95
 go_upto_region 3 with (first | ((with_reducible refine gc_ 107 15 Tryz.func107 #[.int .i64 a2] ?_); (with_reducible refine (spec_FieldKind.calls k a2 t231 _ A4.out).mono ?_); rintro e w' ⟨rfl, ⟨nd, rfl⟩⟩; refine ⟨_, rfl, ?_⟩) | ((with_reducible refine gc_ 106 17 Tryz.func106 #[.int .i64 a2] ?_); (with_reducible refine (spec_FieldSize.calls k a2 t232 _ A5.out).mono ?_); rintro e w' ⟨rfl, ⟨nd, rfl⟩⟩; refine ⟨_, rfl, ?_⟩))
 (try simp only [Act.put, List.setIfInBounds_toArray, List.set_cons_zero, List.set_cons_succ])
 go_cut [23] (fun v23 wc => ∃ (kq : Nat) (x23_5 : Bool), v23 = .bool x23_5 ∧ Aside0 (spec_GetField.j0 kq l0 a1 t231 t232 x23_5 = some (r1, r2, r3)) ∧ Aside0 (kq ≤ k) ∧ Aside0 (Below w.heap.size w wc))
 case first =>
  have H := HC6.out
  clear HC6
  by_cases c7 : t231 = 0
  ·rw [if_pos c7] at H
   have c7b0 := beq_iff_eq.mpr c7
   have c7b1 := bne_eq_false_iff_eq.mpr c7
   clear c7
   (first | rw [c7b0] | (simp only [i64_w, i32_w]; rw [c7b0]) | skip)
   have H' := Aside0.mk H
   clear H
   go_wp2
   go_meet
   case rel => exact ⟨_, (true), sp_, H', ⟨by first | omega | exact Nat.le_refl _⟩, ⟨bl_⟩⟩
  ·rw [if_neg c7] at H
   have c7b0 := beq_eq_false_iff_ne.mpr c7
   have c7b1 := bne_iff_ne.mpr c7
   (first | rw [c7b0] | (simp only [i64_w, i32_w]; rw [c7b0]) | skip)
   have H' := Aside0.mk H
   clear H
   go_wp2
   go_meet
   case rel => exact ⟨_, (decide (a1 < 0)), sp_, H', ⟨by first | omega | exact Nat.le_refl _⟩, ⟨bl_⟩⟩
 case rest =>
  clear HC6
  obtain ⟨kq, x23_5, rfl, HA, HJ5, HB⟩ := hcut
  cases kq with
  | zero => exact absurd HA.out (by simp [spec_GetField.j0])
  | succ kj5 =>
   have H := HA.out
   clear HA
   simp only [spec_GetField.j0] at H
   by_cases c8 : x23_5 = true
   ·subst c8
    replace H := ip_ H
    simp only [Option.some.injEq, Prod.mk.injEq] at H
    obtain ⟨rfl, rfl, rfl⟩ := H
    go_wp2
    go_ret3
    exact ⟨sq_, bl_⟩
   replace c8 := Bool.eq_false_iff.mpr c8
   subst c8
   replace H := in_ H
   obtain ⟨t233, A9, H⟩ := ob_ H
   have HC10 := Aside0.mk H
   clear H
   go_upto_if 26 with (first | ((with_reducible refine gc_ 123 25 Tryz.func123 #[.int .i64 t231] ?_); (with_reducible refine (spec_l03Width.calls kj5 t231 t233 _ A9.out).mono ?_); rintro e w' ⟨rfl, ⟨nd, rfl⟩⟩; refine ⟨_, rfl, ?_⟩))
   (try simp only [Act.put, List.setIfInBounds_toArray, List.set_cons_zero, List.set_cons_succ])
   go_cut [1, 10] (fun v1 v10 wc => ∃ (kq : Nat) (x1_9 : Int) (x10_9 : Int), v1 = .int .i64 x1_9 ∧ v10 = .int .i64 x10_9 ∧ Aside0 (spec_GetField.j1 kq l0 x1_9 t231 x10_9 = some (r1, r2, r3)) ∧ Aside0 (kq ≤ kj5) ∧ Aside0 (Below w.heap.size w wc))
   case first =>
    have H := HC10.out
    clear HC10
    by_cases c11 : t233 > 0
    rotate_left
    ·rw [if_neg c11] at H
     have c11b0 := decide_eq_false c11
     clear c11
     (first | rw [c11b0] | (simp only [i64_w, i32_w]; rw [c11b0]) | skip)
     have H' := Aside0.mk H
     clear H
     go_wp2
     go_meet
     case rel => exact ⟨_, (a1), (t232), sp_, sp_, H', ⟨by have := HJ5.out; first | omega | exact Nat.le_refl _⟩, ⟨bl_⟩⟩
    rw [if_pos c11] at H
    have c11b0 := decide_eq_true c11
    clear c11
    (first | rw [c11b0] | (simp only [i64_w, i32_w]; rw [c11b0]) | skip)
    obtain ⟨t234, A12, H⟩ := ob_ H
    obtain ⟨⟨t235, t236, t237⟩, A13, H⟩ := ob_ H
    (try dsimp only at H)
    by_cases c14 : t237 = true
    ·subst c14
     replace H := ip_ H
     obtain ⟨t238, A15, H⟩ := ob_ H
     by_cases c16 : t238 = true
     ·subst c16
      replace H := ip_ H
      have H' := Aside0.mk H
      clear H
      go_wp2_with (first | ((with_reducible refine gc_ 123 31 Tryz.func123 #[.int .i64 t231] ?_); (with_reducible refine (spec_l03Width.calls kj5 t231 t234 _ A12.out).mono ?_); rintro e w' ⟨rfl, ⟨nd, rfl⟩⟩; refine ⟨_, rfl, ?_⟩) | ((with_reducible refine gc_ 124 32 Tryz.func124 #[.slice A0 l0.length c0, .int .i64 a1, .int .i64 t234] ?_); (with_reducible refine (spec_GetLen.calls kj5 _ _ l0 a1 t234 t235 t236 true _ ?side1 ?side2 A13.out).mono ?_); (case side1 => exact ca_ (Kd.C_below HR0.out bl_)); (case side2 => exact HC0.out); rintro e w17 ⟨rfl, hb⟩; refine ⟨_, rfl, ?_⟩; replace HB := hs_ hb; clear hb) | (go_at_call 67; (with_reducible refine (spec_l01In.calls t235 1 t232 true _ A15.out).mono ?_); rintro e w' ⟨rfl, ⟨nd, rfl⟩⟩))
      go_meet
      case rel => exact ⟨_, (t236), (t235), sp_, sp_, H', ⟨by have := HJ5.out; first | omega | exact Nat.le_refl _⟩, ⟨bl_⟩⟩
     replace c16 := Bool.eq_false_iff.mpr c16
     subst c16
     replace H := in_ H
     simp only [Option.some.injEq, Prod.mk.injEq] at H
     obtain ⟨rfl, rfl, rfl⟩ := H
     go_wp2_with (first | ((with_reducible refine gc_ 123 31 Tryz.func123 #[.int .i64 t231] ?_); (with_reducible refine (spec_l03Width.calls kj5 t231 t234 _ A12.out).mono ?_); rintro e w' ⟨rfl, ⟨nd, rfl⟩⟩; refine ⟨_, rfl, ?_⟩) | ((with_reducible refine gc_ 124 32 Tryz.func124 #[.slice A0 l0.length c0, .int .i64 a1, .int .i64 t234] ?_); (with_reducible refine (spec_GetLen.calls kj5 _ _ l0 a1 t234 t235 t236 true _ ?side1 ?side2 A13.out).mono ?_); (case side1 => exact ca_ (Kd.C_below HR0.out bl_)); (case side2 => exact HC0.out); rintro e w18 ⟨rfl, hb⟩; refine ⟨_, rfl, ?_⟩; replace HB := hs_ hb; clear hb) | (go_at_call 67; (with_reducible refine (spec_l01In.calls t235 1 t232 false _ A15.out).mono ?_); rintro e w' ⟨rfl, ⟨nd, rfl⟩⟩))
     go_ret3
     exact ⟨sq_, bl_⟩
    ·replace c14 := Bool.eq_false_iff.mpr c14
     subst c14
     replace H := in_ H
     simp only [Option.some.injEq, Prod.mk.injEq] at H
     obtain ⟨rfl, rfl, rfl⟩ := H
     go_wp2_with (first | ((with_reducible refine gc_ 123 31 Tryz.func123 #[.int .i64 t231] ?_); (with_reducible refine (spec_l03Width.calls kj5 t231 t234 _ A12.out).mono ?_); rintro e w' ⟨rfl, ⟨nd, rfl⟩⟩; refine ⟨_, rfl, ?_⟩) | ((with_reducible refine gc_ 124 32 Tryz.func124 #[.slice A0 l0.length c0, .int .i64 a1, .int .i64 t234] ?_); (with_reducible refine (spec_GetLen.calls kj5 _ _ l0 a1 t234 t235 t236 false _ ?side1 ?side2 A13.out).mono ?_); (case side1 => exact ca_ (Kd.C_below HR0.out bl_)); (case side2 => exact HC0.out); rintro e w19 ⟨rfl, hb⟩; refine ⟨_, rfl, ?_⟩; replace HB := hs_ hb; clear hb))
     go_ret3
     exact ⟨sq_, bl_⟩
   case rest =>
    clear HC10
    obtain ⟨kq, x1_9, x10_9, rfl, rfl, HA, HJ9, HB⟩ := hcut
    cases kq with
    | zero => exact absurd HA.out (by simp [spec_GetField.j1])
    | succ kj9 =>
     have H := HA.out
     clear HA
     simp only [spec_GetField.j1] at H
     have HC20 := Aside0.mk H
     clear H
     go_upto_region 11 with (fail)
     go_cut [51] (fun v51 wc => ∃ (kq : Nat) (x51_19 : Bool), v51 = .bool x51_19 ∧ Aside0 (spec_GetField.j2 kq l0 x1_9 x10_9 x51_19 = some (r1, r2, r3)) ∧ Aside0 (kq ≤ kj9) ∧ Aside0 (Below w.heap.size w wc))
     case first =>
      have H := HC20.out
      clear HC20
      by_cases c21 : t231 = 1
      ·rw [if_pos c21] at H
       have c21b0 := beq_iff_eq.mpr c21
       have c21b1 := bne_eq_false_iff_eq.mpr c21
       clear c21
       (first | rw [c21b0] | (simp only [i64_w, i32_w]; rw [c21b0]) | skip)
       have H' := Aside0.mk H
       clear H
       go_wp2
       go_meet
       case rel => exact ⟨_, (true), sp_, H', ⟨by have := HJ5.out; have := HJ9.out; first | omega | exact Nat.le_refl _⟩, ⟨bl_⟩⟩
      ·rw [if_neg c21] at H
       have c21b0 := beq_eq_false_iff_ne.mpr c21
       have c21b1 := bne_iff_ne.mpr c21
       (first | rw [c21b0] | (simp only [i64_w, i32_w]; rw [c21b0]) | skip)
       have H' := Aside0.mk H
       clear H
       go_wp2
       go_meet
       case rel => exact ⟨_, ((t231 == 3)), sp_, H', ⟨by have := HJ5.out; have := HJ9.out; first | omega | exact Nat.le_refl _⟩, ⟨bl_⟩⟩
     case rest =>
      clear HC20
      obtain ⟨kq, x51_19, rfl, HA, HJ19, HB⟩ := hcut
      cases kq with
      | zero => exact absurd HA.out (by simp [spec_GetField.j2])
      | succ kj19 =>
       have H := HA.out
       clear HA
       simp only [spec_GetField.j2] at H
       by_cases c22 : x51_19 = true
       ·subst c22
        replace H := ip_ H
        obtain ⟨⟨t239, t240, t241⟩, A23, H⟩ := ob_ H
        (try dsimp only at H)
        simp only [Option.some.injEq, Prod.mk.injEq] at H
        obtain ⟨rfl, rfl, rfl⟩ := H
        go_wp2_with (first | ((with_reducible refine gc_ 93 55 Tryz.func93 #[.slice A0 l0.length c0, .int .i64 x1_9, .int .i64 x10_9] ?_); (with_reducible refine (spec_GetBcd.calls kj19 _ _ l0 x1_9 x10_9 t239 t240 t241 _ ?side1 ?side2 A23.out).mono ?_); (case side1 => exact ca_ (Kd.C_below HR0.out HB.out)); (case side2 => exact HC0.out); rintro e w24 ⟨rfl, hb⟩; refine ⟨_, rfl, ?_⟩; replace HB := hs_ hb; clear hb))
        go_ret3
        exact ⟨sq_, bl_⟩
       replace c22 := Bool.eq_false_iff.mpr c22
       subst c22
       replace H := in_ H
       by_cases c25 : x1_9 > (l0.length : Int)
       ·rw [if_pos c25] at H
        have c25b0 := decide_eq_true c25
        clear c25
        simp only [Option.some.injEq, Prod.mk.injEq] at H
        obtain ⟨rfl, rfl, rfl⟩ := H
        go_wp2
        go_ret3
        exact ⟨sq_, bl_⟩
       rw [if_neg c25] at H
       have c25b0 := decide_eq_false c25
       clear c25
       by_cases c26 : x10_9 > (wrap64 ((l0.length : Int) - x1_9))
       ·rw [if_pos c26] at H
        have c26b0 := decide_eq_true c26
        clear c26
        simp only [Option.some.injEq, Prod.mk.injEq] at H
        obtain ⟨rfl, rfl, rfl⟩ := H
        go_wp2
        go_ret3
        exact ⟨sq_, bl_⟩
       rw [if_neg c26] at H
       have c26b0 := decide_eq_false c26
       clear c26
       by_cases c27 : 0 ≤ x1_9
       rotate_left
       ·rw [if_neg c27] at H
        exact absurd H (by simp)
       rw [if_pos c27] at H
       have c27b0 := eq_true c27
       have c27b1 := decide_eq_true c27
       clear c27
       by_cases c28 : x1_9 ≤ (wrap64 (x1_9 + x10_9))
       rotate_left
       ·rw [if_neg c28] at H
        exact absurd H (by simp)
       rw [if_pos c28] at H
       have c28b0 := eq_true c28
       have c28b1 := decide_eq_true c28
       by_cases c29 : (wrap64 (x1_9 + x10_9)) ≤ (l0.length : Int)
       rotate_left
       ·rw [if_neg c29] at H
        exact absurd H (by simp)
       rw [if_pos c29] at H
       have c29b0 := eq_true c29
       have c29b1 := decide_eq_true c29
       obtain ⟨t243, A30, H⟩ := ob_ H
       by_cases c31 : t243 = true
       ·subst c31
        replace H := ip_ H
        have c32b0 := eq_true (od_ : 0 ≤ x1_9)
        have c33b0 := eq_true (od_ : x1_9 ≤ (wrap64 (x1_9 + x10_9)))
        have c34b0 := eq_true (od_ : (wrap64 (x1_9 + x10_9)) ≤ (l0.length : Int))
        simp only [Option.some.injEq, Prod.mk.injEq] at H
        obtain ⟨rfl, rfl, rfl⟩ := H
        obtain ⟨i035, hi035, _, hsz35, _⟩ := info_parts info5
        obtain ⟨A35, hcut35, hA35, hC35⟩ := print_mid_of (P := Tryz.prog) (Value.int .u8) 0 37 5 .i64 .i64 Tryz.underlying37 hi035 hsz35 A0 c0 l0 x1_9 (wrap64 (x1_9 + x10_9)) od_ (by first | omega | exact od_) od_ HC0.out
        have HR242 := Aside0.mk (Kd.C_of_reads (h1 := fun _ => rfl) (hA35 _ (Kd.reads_of_C HR0.out)))
        have HC242 := Aside0.mk hC35
        clear hA35 hC35 hi035 hsz35
        (try have hcu36 := fun (n_ : Nat) => Kd.C_string (P := Tryz.prog) (A := A35) (c := (c0 - x1_9.toNat)) Tryz.underlying37 Tryz.underlying5 Tryz.underlying9 (Kd.C_below HR242.out (pw_below_drewN HB.out n_))); (try (have hclu36 := hcu36; simp only [show ((l0.take ((wrap64 (x1_9 + x10_9)) : Int).toNat).drop (x1_9 : Int).toNat).length = ((wrap64 (x1_9 + x10_9)) : Int).toNat - (x1_9 : Int).toNat from by have q_ : (wrap64 (x1_9 + x10_9)) ≤ (l0.length : Int) := od_; rw [List.length_drop, List.length_take]; omega] at hclu36))
        have hcv37 := Kd.C_string (P := Tryz.prog) (A := A35) (c := (c0 - x1_9.toNat)) Tryz.underlying37 Tryz.underlying5 Tryz.underlying9 (Kd.C_below HR242.out HB.out); have hcl37 := hcv37; (try rw [show ((l0.take ((wrap64 (x1_9 + x10_9)) : Int).toNat).drop (x1_9 : Int).toNat).length = ((wrap64 (x1_9 + x10_9)) : Int).toNat - (x1_9 : Int).toNat from by have q_ : (wrap64 (x1_9 + x10_9)) ≤ (l0.length : Int) := od_; rw [List.length_drop, List.length_take]; omega] at hcl37)
        go_wp2_with (first | (go_at_call 108; (with_reducible refine (spec_Printable.calls kj19 (strOfNums ((l0.take ((wrap64 (x1_9 + x10_9)) : Int).toNat).drop (x1_9 : Int).toNat)) true _ A30.out).mono ?_); rintro e w' ⟨rfl, ⟨nd, rfl⟩⟩; obtain ⟨i038, hi038, _, hsz38, _⟩ := info_parts info5; obtain ⟨A38, hcut38, hA38, hC38⟩ := print_mid_of (P := Tryz.prog) (Value.int .u8) 0 37 5 .i64 .i64 Tryz.underlying37 hi038 hsz38 A0 c0 l0 x1_9 (wrap64 (x1_9 + x10_9)) od_ (by first | omega | exact od_) od_ HC0.out; have HR244 := Aside0.mk (Kd.C_of_reads (h1 := fun _ => rfl) (hA38 _ (Kd.reads_of_C HR0.out))); have HC244 := Aside0.mk hC38; clear hA38 hC38 hi038 hsz38; (try have hcu39 := fun (n_ : Nat) => Kd.C_string (P := Tryz.prog) (A := A38) (c := (c0 - x1_9.toNat)) Tryz.underlying37 Tryz.underlying5 Tryz.underlying9 (Kd.C_below HR244.out (pw_below_drewN HB.out n_))); (try (have hclu39 := hcu39; simp only [show ((l0.take ((wrap64 (x1_9 + x10_9)) : Int).toNat).drop (x1_9 : Int).toNat).length = ((wrap64 (x1_9 + x10_9)) : Int).toNat - (x1_9 : Int).toNat from by have q_ : (wrap64 (x1_9 + x10_9)) ≤ (l0.length : Int) := od_; rw [List.length_drop, List.length_take]; omega] at hclu39)); have hcv40 := Kd.C_string (P := Tryz.prog) (A := A38) (c := (c0 - x1_9.toNat)) Tryz.underlying37 Tryz.underlying5 Tryz.underlying9 (Kd.C_below HR244.out HB.out); have hcl40 := hcv40; (try rw [show ((l0.take ((wrap64 (x1_9 + x10_9)) : Int).toNat).drop (x1_9 : Int).toNat).length = ((wrap64 (x1_9 + x10_9)) : Int).toNat - (x1_9 : Int).toNat from by have q_ : (wrap64 (x1_9 + x10_9)) ≤ (l0.length : Int) := od_; rw [List.length_drop, List.length_take]; omega] at hcl40)))
        go_ret3
        exact ⟨sq_, bl_⟩
       ·replace c31 := Bool.eq_false_iff.mpr c31
        subst c31
        replace H := in_ H
        simp only [Option.some.injEq, Prod.mk.injEq] at H
        obtain ⟨rfl, rfl, rfl⟩ := H
        obtain ⟨i041, hi041, _, hsz41, _⟩ := info_parts info5
        obtain ⟨A41, hcut41, hA41, hC41⟩ := print_mid_of (P := Tryz.prog) (Value.int .u8) 0 37 5 .i64 .i64 Tryz.underlying37 hi041 hsz41 A0 c0 l0 x1_9 (wrap64 (x1_9 + x10_9)) od_ (by first | omega | exact od_) od_ HC0.out
        have HR242 := Aside0.mk (Kd.C_of_reads (h1 := fun _ => rfl) (hA41 _ (Kd.reads_of_C HR0.out)))
        have HC242 := Aside0.mk hC41
        clear hA41 hC41 hi041 hsz41
        (try have hcu42 := fun (n_ : Nat) => Kd.C_string (P := Tryz.prog) (A := A41) (c := (c0 - x1_9.toNat)) Tryz.underlying37 Tryz.underlying5 Tryz.underlying9 (Kd.C_below HR242.out (pw_below_drewN HB.out n_))); (try (have hclu42 := hcu42; simp only [show ((l0.take ((wrap64 (x1_9 + x10_9)) : Int).toNat).drop (x1_9 : Int).toNat).length = ((wrap64 (x1_9 + x10_9)) : Int).toNat - (x1_9 : Int).toNat from by have q_ : (wrap64 (x1_9 + x10_9)) ≤ (l0.length : Int) := od_; rw [List.length_drop, List.length_take]; omega] at hclu42))
        have hcv43 := Kd.C_string (P := Tryz.prog) (A := A41) (c := (c0 - x1_9.toNat)) Tryz.underlying37 Tryz.underlying5 Tryz.underlying9 (Kd.C_below HR242.out HB.out); have hcl43 := hcv43; (try rw [show ((l0.take ((wrap64 (x1_9 + x10_9)) : Int).toNat).drop (x1_9 : Int).toNat).length = ((wrap64 (x1_9 + x10_9)) : Int).toNat - (x1_9 : Int).toNat from by have q_ : (wrap64 (x1_9 + x10_9)) ≤ (l0.length : Int) := od_; rw [List.length_drop, List.length_take]; omega] at hcl43)
        go_wp2_with (first | (go_at_call 108; (with_reducible refine (spec_Printable.calls kj19 (strOfNums ((l0.take ((wrap64 (x1_9 + x10_9)) : Int).toNat).drop (x1_9 : Int).toNat)) false _ A30.out).mono ?_); rintro e w' ⟨rfl, ⟨nd, rfl⟩⟩))
        go_ret3
        exact ⟨sq_, bl_⟩
/-! ### spec_Parse: function 57 -/
def spec_Parse.l0 : Nat → List Int → Int → List Int → Int → Int → ByteArray → List (S91) → Option (ByteArray × (List (S91)) × Int)
 | 0, _, _, _, _, _, _, _ => none
 | k + 1, x0, x8, x35, x36, x37, x255000, x255001 => if x37 < x36 then (if 0 ≤ x37 then (if x37 < (x35.length : Int) then ((spec_GetField.f k x0 x8 (rd x35 x37)).bind fun bt256 => (if bt256.2.2 = true then (if x255001.length < 5864062014805 then (spec_Parse.l0 k x0 bt256.2.1 x35 x36 (wrap64 (x37 + 1)) x255000 (x255001 ++ [(⟨rd x35 x37, bt256.1⟩ : S91)])) else (none)) else (some ((⟨#[]⟩ : ByteArray), ([] : List (S91)), 3)))) else (none)) else (none)) else (if x8 = (x0.length : Int) then (some (x255000, x255001, 0)) else (some ((⟨#[]⟩ : ByteArray), ([] : List (S91)), 4)))
def spec_Parse.f (k : Nat) (l0 : List Int) : Option (ByteArray × (List (S91)) × Int) := (spec_GetBcd.f k l0 0 4).bind fun bt246 => (if bt246.2.2 = true then ((spec_l04Nos.f k l0).bind fun bt249 => (if bt249.2.2 = true then (spec_Parse.l0 k l0 bt249.2.1 bt249.1 (bt249.1.length : Int) 0 bt246.1 ([] : List (S91))) else (some ((⟨#[]⟩ : ByteArray), ([] : List (S91)), 2)))) else (some ((⟨#[]⟩ : ByteArray), ([] : List (S91)), 1)))
set_option maxHeartbeats 8000000 in
set_option maxRecDepth 100000 in
theorem spec_Parse.calls (k : Nat) (A0 : Option Addr) (c0 : Nat) (l0 : List Int) (r1 : ByteArray) (r2 : List (S91)) (r3 : Int) (w : World) (hr0 : Kd.C (Kd.int .u8) w A0 l0.length l0) (hc0 : l0.length ≤ c0) (h : spec_Parse.f k l0 = some (r1, r2, r3)) :
  Calls Tryz.prog 57 #[.slice A0 l0.length c0] w fun e w' => ∃ v1_ : Value, e = .returned (.tuple #[.agg #[.string r1, v1_], .int .i64 r3]) ∧ Kd.R k91 91 w' w.heap.size (fun _ => True) v1_ r2 ∧ Below w.heap.size w w' := by
 have hu32 := Tryz.underlying32
 have hu91 := Tryz.underlying91
 have HR0 := Aside0.mk hr0
 have HC0 := Aside0.mk hc0
 clear hr0 hc0
 have HB := Aside0.mk (Below.refl w.heap.size w)
 have H : ((spec_GetBcd.f k l0 0 4).bind fun bt246 => (if bt246.2.2 = true then ((spec_l04Nos.f k l0).bind fun bt249 => (if bt249.2.2 = true then (spec_Parse.l0 k l0 bt249.2.1 bt249.1 (bt249.1.length : Int) 0 bt246.1 ([] : List (S91))) else (some ((⟨#[]⟩ : ByteArray), ([] : List (S91)), 2)))) else (some ((⟨#[]⟩ : ByteArray), ([] : List (S91)), 1)))) = some (r1, r2, r3) := h
 clear h
 obtain ⟨⟨t246, t247, t248⟩, A2, H⟩ := ob_ H
 (try dsimp only at H)
 by_cases c3 : t248 = true
 rotate_left
 ·replace c3 := Bool.eq_false_iff.mpr c3
  subst c3
  replace H := in_ H
  simp only [Option.some.injEq, Prod.mk.injEq] at H
  obtain ⟨rfl, rfl, rfl⟩ := H
  go_enter Tryz.func57, Tryz.ntmps57
  go_wp2_with (first | ((with_reducible refine gate_dst (N := 2) rfl ?_); refine be_ (N := 2) (cs := #[.string (⟨#[]⟩ : ByteArray), .slice none 0 0]) (t := 32) ?_; intro gb245 hg w39 hbox hb; have BK245 := Aside0.mk (hbox); have GW245 := gw_ (w := w) hg; have GE245 := gw_ (w := w) hg; replace HB := hs_ hb; clear hb hbox hg) | ((with_reducible refine gc_ 93 17 Tryz.func93 #[.slice A0 l0.length c0, .int .i64 0, .int .i64 4] ?_); (with_reducible refine (spec_GetBcd.calls k _ _ l0 0 4 t246 t247 false _ ?side1 ?side2 A2.out).mono ?_); (case side1 => exact ca_ (Kd.C_below HR0.out HB.out)); (case side2 => exact HC0.out); rintro e w40 ⟨rfl, hb⟩; refine ⟨_, rfl, ?_⟩; replace BK245 := kb_ BK245 hb; replace HB := hs_ hb; clear hb; obtain ⟨hcz41_0, hcz41_1, hfz41_0, hfz41_1⟩ := bx2_ BK245))
  refine bodyPost_ret (results_ct rfl _ _ gb245 32 #[.string (⟨#[]⟩ : ByteArray), .slice none 0 0] (0, 0) _ rfl (by (with_reducible repeat (first | refine blk_drewN ?_ _ | refine blk_drew ?_ | refine blk_alloc ?_ _)); apply bq2_1_0_; (with_reducible repeat (first | refine blk_drewN ?_ _ | refine blk_drew ?_ | refine blk_alloc ?_ _)); exact BK245.out) Tryz.underlying32 rfl (by kernel_rfl)) rfl ?_
  exact ⟨_, by first | rfl | (simp [errW_none, errW_some] <;> rfl) | (simp [*, errW_none, errW_some] <;> rfl), by first | exact Kd.R_nil _ _ _ _ _ | exact Kd.N_nil _ _ _ _ _ | exact Kd.V_nil _ _ _ _ _ | exact Kd.Q_nil _ _ _ _ _ | exact Kd.S_nil _ _ _ _ _, bl_⟩
 subst c3
 replace H := ip_ H
 obtain ⟨⟨t249, t250, t251⟩, A4, H⟩ := ob_ H
 (try dsimp only at H)
 by_cases c5 : t251 = true
 rotate_left
 ·replace c5 := Bool.eq_false_iff.mpr c5
  subst c5
  replace H := in_ H
  simp only [Option.some.injEq, Prod.mk.injEq] at H
  obtain ⟨rfl, rfl, rfl⟩ := H
  go_enter Tryz.func57, Tryz.ntmps57
  go_wp2_with (first | ((with_reducible refine gate_dst (N := 2) rfl ?_); refine be_ (N := 2) (cs := #[.string (⟨#[]⟩ : ByteArray), .slice none 0 0]) (t := 32) ?_; intro gb245 hg w35 hbox hb; have BK245 := Aside0.mk (hbox); have GW245 := gw_ (w := w) hg; have GE245 := gw_ (w := w) hg; replace HB := hs_ hb; clear hb hbox hg) | ((with_reducible refine gc_ 93 17 Tryz.func93 #[.slice A0 l0.length c0, .int .i64 0, .int .i64 4] ?_); (with_reducible refine (spec_GetBcd.calls k _ _ l0 0 4 t246 t247 true _ ?side1 ?side2 A2.out).mono ?_); (case side1 => exact ca_ (Kd.C_below HR0.out HB.out)); (case side2 => exact HC0.out); rintro e w36 ⟨rfl, hb⟩; refine ⟨_, rfl, ?_⟩; replace BK245 := kb_ BK245 hb; replace HB := hs_ hb; clear hb) | ((with_reducible refine gc_ 94 26 Tryz.func94 #[.slice A0 l0.length c0] ?_); (with_reducible refine (spec_l04Nos.calls k _ _ l0 t249 t250 false _ ?side1 ?side2 A4.out).mono ?_); (case side1 => exact ca_ (Kd.C_below HR0.out HB.out)); (case side2 => exact HC0.out); rintro e w37 ⟨v252, rfl, ho0, hb⟩; refine ⟨_, rfl, ?_⟩; have HO253 := Aside0.mk (Kd.R_lower ho0 (below_size bl_)); replace BK245 := kb_ BK245 hb; replace HB := hs_ hb; clear hb; (try clear ho0); obtain ⟨hcz38_0, hcz38_1, hfz38_0, hfz38_1⟩ := bx2_ BK245))
  refine bodyPost_ret (results_ct rfl _ _ gb245 32 #[.string (⟨#[]⟩ : ByteArray), .slice none 0 0] (0, 0) _ rfl (by (with_reducible repeat (first | refine blk_drewN ?_ _ | refine blk_drew ?_ | refine blk_alloc ?_ _)); apply bq2_1_0_; (with_reducible repeat (first | refine blk_drewN ?_ _ | refine blk_drew ?_ | refine blk_alloc ?_ _)); exact BK245.out) Tryz.underlying32 rfl (by kernel_rfl)) rfl ?_
  exact ⟨_, by first | rfl | (simp [errW_none, errW_some] <;> rfl) | (simp [*, errW_none, errW_some] <;> rfl), by first | exact Kd.R_nil _ _ _ _ _ | exact Kd.N_nil _ _ _ _ _ | exact Kd.V_nil _ _ _ _ _ | exact Kd.Q_nil _ _ _ _ _ | exact Kd.S_nil _ _ _ _ _, bl_⟩
 subst c5
 replace H := ip_ H
 have H' := Aside0.mk H
 clear H
 go_enter Tryz.func57, Tryz.ntmps57
 go_wp2_with (first | ((with_reducible refine gate_dst (N := 2) rfl ?_); refine be_ (N := 2) (cs := #[.string (⟨#[]⟩ : ByteArray), .slice none 0 0]) (t := 32) ?_; intro gb245 hg w6 hbox hb; have BK245 := Aside0.mk (hbox); have GW245 := gw_ (w := w) hg; have GE245 := gw_ (w := w) hg; replace HB := hs_ hb; clear hb hbox hg) | ((with_reducible refine gc_ 93 17 Tryz.func93 #[.slice A0 l0.length c0, .int .i64 0, .int .i64 4] ?_); (with_reducible refine (spec_GetBcd.calls k _ _ l0 0 4 t246 t247 true _ ?side1 ?side2 A2.out).mono ?_); (case side1 => exact ca_ (Kd.C_below HR0.out HB.out)); (case side2 => exact HC0.out); rintro e w7 ⟨rfl, hb⟩; refine ⟨_, rfl, ?_⟩; replace BK245 := kb_ BK245 hb; replace HB := hs_ hb; clear hb) | ((with_reducible refine gc_ 94 26 Tryz.func94 #[.slice A0 l0.length c0] ?_); (with_reducible refine (spec_l04Nos.calls k _ _ l0 t249 t250 true _ ?side1 ?side2 A4.out).mono ?_); (case side1 => exact ca_ (Kd.C_below HR0.out HB.out)); (case side2 => exact HC0.out); rintro e w8 ⟨v252, rfl, ho0, hb⟩; refine ⟨_, rfl, ?_⟩; have HO253 := Aside0.mk (Kd.R_lower ho0 (below_size bl_)); replace BK245 := kb_ BK245 hb; replace HB := hs_ hb; clear hb; (try clear ho0)) | ((with_reducible refine gate_dst (N := 9) rfl ?_); refine be_ (N := 9) (cs := #[.string (⟨#[]⟩ : ByteArray), .slice none 0 0]) (t := 32) ?_; intro gb254 hg w9 hbox hb; replace HO253 := Aside0.mk (Kd.R_below (ra_ HO253) hb); have BK254 := Aside0.mk (hbox); have GW254 := gw_ (w := w) hg; have GE254 := gw_ (w := w) hg; replace HB := hs_ hb; have NB245_254 := Aside0.mk ((by rw [hg]; exact Nat.ne_of_lt (blk_lt (bk_ BK245)) : gb245 ≠ gb254)); have NB254_245 := Aside0.mk ((by rw [hg]; exact Nat.ne_of_gt (blk_lt (bk_ BK245)) : gb254 ≠ gb245)); replace BK245 := kb_ BK245 hb; clear hb hbox hg; have hnb10 := NB254_245.out; have hnc10 := NB245_254.out; obtain ⟨hcz11_0, hcz11_1, hfz11_0, hfz11_1⟩ := bx2_ BK254; obtain ⟨Ao12, co12, eo12⟩ := Kd.R_slice HO253.out; subst eo12))
 go_loopg [8, 37] k (fun kq v8 v37 w' => ∃ (x8_1 : Int) (x37_1 : Int) (x246000_1 : ByteArray) (x255001_1 : List (S91)) (u255001 : Value), v8 = .int .i64 x8_1 ∧ v37 = .int .i64 x37_1 ∧ Aside0 (spec_Parse.l0 kq l0 x8_1 t249 (t249.length : Int) x37_1 t246 x255001_1 = some (r1, r2, r3)) ∧ Aside0 (kq ≤ k) ∧ Aside0 (Kd.R (Kd.int .i64) 3 w' w.heap.size (fun _ => True) (.slice Ao12 t249.length co12) t249) ∧ Aside0 (Kd.R k91 91 w' w.heap.size (fun _ => True) u255001 x255001_1) ∧ Aside0 (w'.heap[gb245]? = some (.cells #[.string x246000_1, (.slice none 0 0)] 32 (0, 0))) ∧ Aside0 (w'.heap[gb254]? = some (.cells #[.string t246, u255001] 32 (0, 0))) ∧ Aside0 (Below w.heap.size w w'))
 case atStart => exact ⟨(t250), (0), ((⟨#[]⟩ : ByteArray)), (([] : List (S91))), (.slice none 0 0), sp_, sp_, H', ⟨Nat.le_refl _⟩, ⟨by (with_reducible repeat (first | apply Kd.R_alloc | apply Kd.R_drewN | apply Kd.R_drew)); exact Kd.R_mono (Kd.R_far (p := ⟨gb254, 1, none⟩) (Kd.R_far (p := ⟨gb254, 0, none⟩) (Kd.R_types HO253.out BK254.out (by decide)) (fun _ hk => hk.2) (.string t246)) (fun _ hk => hk.2) (.slice none 0 0)) (fun _ hk => trivial)⟩, ⟨by first | exact Kd.R_nil _ _ _ _ _ | exact Kd.N_nil _ _ _ _ _ | exact Kd.V_nil _ _ _ _ _ | exact Kd.Q_nil _ _ _ _ _ | exact Kd.S_nil _ _ _ _ _⟩, ⟨by (with_reducible repeat (first | refine blk_drewN ?_ _ | refine blk_drew ?_ | refine blk_alloc ?_ _)); refine blk_far ?_ NB245_254.out _; (with_reducible repeat (first | refine blk_drewN ?_ _ | refine blk_drew ?_ | refine blk_alloc ?_ _)); refine blk_far ?_ NB245_254.out _; (with_reducible repeat (first | refine blk_drewN ?_ _ | refine blk_drew ?_ | refine blk_alloc ?_ _)); exact BK245.out⟩, ⟨by (with_reducible repeat (first | refine blk_drewN ?_ _ | refine blk_drew ?_ | refine blk_alloc ?_ _)); apply bq2_1_0_; (with_reducible repeat (first | refine blk_drewN ?_ _ | refine blk_drew ?_ | refine blk_alloc ?_ _)); exact BK254.out⟩, ⟨bl_⟩⟩
 case round =>
  clear H'
  obtain ⟨x8_1, x37_1, x246000_1, x255001_1, u255001, rfl, rfl, HA, HK1, HO_35, HO_255001, BK245, BK254, HB⟩ := hrel
  cases gk with
  | zero => exact absurd HA.out (by simp [spec_Parse.l0])
  | succ k1 =>
   have H := HA.out
   clear HA
   simp only [spec_Parse.l0] at H
   by_cases c13 : x37_1 < (t249.length : Int)
   rotate_left
   ·rw [if_neg c13] at H
    have c13b0 := decide_eq_false c13
    clear c13
    by_cases c28 : x8_1 = (l0.length : Int)
    ·rw [if_pos c28] at H
     have c28b0 := beq_iff_eq.mpr c28
     have c28b1 := bne_eq_false_iff_eq.mpr c28
     clear c28
     simp only [Option.some.injEq, Prod.mk.injEq] at H
     obtain ⟨rfl, rfl, rfl⟩ := H
     have hnb29 := NB254_245.out
     have hnc29 := NB245_254.out
     obtain ⟨hcz30_0, hcz30_1, hfz30_0, hfz30_1⟩ := bx2_ BK254
     obtain ⟨hcz31_0, hcz31_1, hfz31_0, hfz31_1⟩ := bx2_ BK245
     obtain ⟨Ao32, co32, eo32⟩ := Kd.R_slice HO_255001.out
     subst eo32
     go_wp2
     refine bodyPost_ret (results_ct rfl _ _ gb245 32 #[.string t246, .slice Ao32 x255001_1.length co32] (0, 0) _ rfl (by (with_reducible repeat (first | refine blk_drewN ?_ _ | refine blk_drew ?_ | refine blk_alloc ?_ _)); apply bq2_1_0_; (with_reducible repeat (first | refine blk_drewN ?_ _ | refine blk_drew ?_ | refine blk_alloc ?_ _)); exact BK245.out) Tryz.underlying32 rfl (by kernel_rfl)) rfl ?_
     exact ⟨_, by first | rfl | (simp [errW_none, errW_some] <;> rfl) | (simp [*, errW_none, errW_some] <;> rfl), by (with_reducible repeat (first | apply Kd.R_alloc | apply Kd.R_drewN | apply Kd.R_drew)); exact Kd.R_mono (Kd.R_far (p := ⟨gb245, 1, none⟩) (Kd.R_far (p := ⟨gb245, 0, none⟩) (Kd.R_types HO_255001.out BK245.out (by decide)) (fun _ hk => hk.2) (.string t246)) (fun _ hk => hk.2) (.slice Ao32 x255001_1.length co32)) (fun _ hk => trivial), bl_⟩
    ·rw [if_neg c28] at H
     have c28b0 := beq_eq_false_iff_ne.mpr c28
     have c28b1 := bne_iff_ne.mpr c28
     simp only [Option.some.injEq, Prod.mk.injEq] at H
     obtain ⟨rfl, rfl, rfl⟩ := H
     have hnb33 := NB245_254.out
     have hnc33 := NB254_245.out
     obtain ⟨hcz34_0, hcz34_1, hfz34_0, hfz34_1⟩ := bx2_ BK245
     go_wp2
     refine bodyPost_ret (results_ct rfl _ _ gb245 32 #[.string (⟨#[]⟩ : ByteArray), .slice none 0 0] (0, 0) _ rfl (by (with_reducible repeat (first | refine blk_drewN ?_ _ | refine blk_drew ?_ | refine blk_alloc ?_ _)); apply bq2_1_0_; (with_reducible repeat (first | refine blk_drewN ?_ _ | refine blk_drew ?_ | refine blk_alloc ?_ _)); exact BK245.out) Tryz.underlying32 rfl (by kernel_rfl)) rfl ?_
     exact ⟨_, by first | rfl | (simp [errW_none, errW_some] <;> rfl) | (simp [*, errW_none, errW_some] <;> rfl), by first | exact Kd.R_nil _ _ _ _ _ | exact Kd.N_nil _ _ _ _ _ | exact Kd.V_nil _ _ _ _ _ | exact Kd.Q_nil _ _ _ _ _ | exact Kd.S_nil _ _ _ _ _, bl_⟩
   rw [if_pos c13] at H
   have c13b0 := decide_eq_true c13
   clear c13
   by_cases c14 : 0 ≤ x37_1
   rotate_left
   ·rw [if_neg c14] at H
    exact absurd H (by simp)
   rw [if_pos c14] at H
   have c14b0 := decide_eq_true c14
   clear c14
   by_cases c15 : x37_1 < (t249.length : Int)
   rotate_left
   ·rw [if_neg c15] at H
    exact absurd H (by simp)
   rw [if_pos c15] at H
   have c15b0 := decide_eq_true c15
   clear c15
   obtain ⟨⟨t256, t257, t258⟩, A16, H⟩ := ob_ H
   (try dsimp only at H)
   by_cases c17 : t258 = true
   ·subst c17
    replace H := ip_ H
    by_cases c18 : x255001_1.length < 5864062014805
    ·rw [if_pos c18] at H
     have LMc18 := Aside0.mk c18
     clear c18
     obtain ⟨y259, hy259⟩ : ∃ y_ : List (S91), y_ = (x255001_1 ++ [(⟨rd t249 x37_1, t256⟩ : S91)]) := ⟨_, rfl⟩
     replace H : (spec_Parse.l0 k1 l0 t257 t249 (t249.length : Int) (wrap64 (x37_1 + 1)) t246 y259) = some (r1, r2, r3) := by first | (rw [hy259]; with_reducible exact H) | (have H2_ := (Option.bind_some _ _).symm.trans H; rw [hy259]; with_reducible exact H2_) | (have H2_ := (Option.bind_some _ _).symm.trans H; with_reducible exact H2_) | with_reducible exact H | (rw [hy259]; exact H) | exact H
     have Ny259 := Aside0.mk hy259
     clear hy259
     have H' := Aside0.mk H
     clear H
     have p255 : 0 ≤ (x37_1 : Int) := od_
     have q255 : x37_1 < (t249.length : Int) := od_
     obtain ⟨ad255, e255, hx255_0⟩ := Kd.at_int (Kd.R_reads' HO_35.out).2.2 x37_1 p255 q255
     cases e255
     replace p255 := eq_true p255
     replace q255 := eq_true q255
     go_wp2_with (first | ((with_reducible refine gc_ 95 45 Tryz.func95 #[.slice A0 l0.length c0, .int .i64 x8_1, .int .i64 (rd t249 x37_1)] ?_); (with_reducible refine (spec_GetField.calls k1 _ _ l0 x8_1 (rd t249 x37_1) t256 t257 true _ ?side1 ?side2 A16.out).mono ?_); (case side1 => exact ca_ (Kd.C_below HR0.out HB.out)); (case side2 => exact HC0.out); rintro e w19 ⟨rfl, hb⟩; refine ⟨_, rfl, ?_⟩; replace HO_35 := Aside0.mk (Kd.R_below (ra_ HO_35) hb); replace HO_255001 := Aside0.mk (Kd.R_below (ra_ HO_255001) hb); replace BK245 := kb_ BK245 hb; replace BK254 := kb_ BK254 hb; replace HB := hs_ hb; clear hb; have hnb20 := NB254_245.out; have hnc20 := NB245_254.out; obtain ⟨hcz21_0, hcz21_1, hfz21_0, hfz21_1⟩ := bx2_ BK254) | ((with_reducible refine gate_builtin (b := .append) (xs := #[.tmp 53, .tmp 57]) rfl ?_); at_builtin; refine Kd.R_append k91 (w0 := w) w.heap.size rfl (.tmp 53) (.tmp 57) 30 91 (.agg #[(.int .i64 0), (.string ⟨#[]⟩)]) 24 rfl Tryz.underlying30 info91 rfl (by decide) (by omega) u255001 x255001_1 (⟨rd t249 x37_1, t256⟩ : S91) [.int .i64 (rd t249 x37_1), .string t256] (fun _ => True) (fun _ => False) rfl rfl ?aP (fun _ hk => hk.elim) ?aF ?aO ?aB ?aS ?aL ?_; (case aP => exact k91_mkM _ _ _ (⟨rd t249 x37_1, t256⟩ : S91)); (case aB => exact bl_); (case aF => exact (fun _ _ => trivial)); (case aO => exact (ra_ HO_255001)); (case aS => exact (below_size bl_)); (case aL => have := LMc18.out; omega); intro v260 w22 ho hb hg hat; rw [← Ny259.out] at ho; have n0_ := Aside0.mk (Kd.R_over' (ra_ HO_35) (Kd.R_typed (ra_ HO_255001)) (by decide) hg); have n1_ := Aside0.mk (blk_grown (bk_ BK245) hg (Kd.R_ne HO_255001.out BK245.out (by decide))); have n2_ := Aside0.mk (blk_grown (bk_ BK254) hg (Kd.R_ne HO_255001.out BK254.out (by decide))); have n3_ := Aside0.mk (hb); have n4_ := Aside0.mk (ho); clear HO_35; clear BK245; clear BK254; clear HB; clear HO_255001; have HO_35 := n0_; have BK245 := n1_; have BK254 := n2_; have HB := n3_; have HO261 := n4_; clear n0_ n1_ n2_ n3_ n4_; clear ho hb hg hat; obtain ⟨Ao23, co23, eo23⟩ := Kd.R_slice HO261.out; subst eo23; obtain ⟨hcz24_0, hcz24_1, hfz24_0, hfz24_1⟩ := bx2_ BK254))
     go_roundg k1
     case measure => have := HK1.out; omega
     case rel => exact ⟨(t257), (wrap64 (x37_1 + 1)), (x246000_1), (y259), (.slice Ao23 y259.length co23), sp_, sp_, H', ⟨by have := HK1.out; omega⟩, ⟨by (with_reducible repeat (first | apply Kd.R_alloc | apply Kd.R_drewN | apply Kd.R_drew)); exact Kd.R_mono (Kd.R_far (p := ⟨gb254, 1, none⟩) (Kd.R_types HO_35.out BK254.out (by decide)) (fun _ hk => hk.2) (.slice Ao23 y259.length co23)) (fun _ hk => trivial)⟩, ⟨by (with_reducible repeat (first | apply Kd.R_alloc | apply Kd.R_drewN | apply Kd.R_drew)); exact Kd.R_mono (Kd.R_far (p := ⟨gb254, 1, none⟩) (Kd.R_types HO261.out BK254.out (by decide)) (fun _ hk => hk.2) (.slice Ao23 y259.length co23)) (fun _ hk => trivial)⟩, ⟨by (with_reducible repeat (first | refine blk_drewN ?_ _ | refine blk_drew ?_ | refine blk_alloc ?_ _)); refine blk_far ?_ NB245_254.out _; (with_reducible repeat (first | refine blk_drewN ?_ _ | refine blk_drew ?_ | refine blk_alloc ?_ _)); exact BK245.out⟩, ⟨by (with_reducible repeat (first | refine blk_drewN ?_ _ | refine blk_drew ?_ | refine blk_alloc ?_ _)); apply bq2_1_; (with_reducible repeat (first | refine blk_drewN ?_ _ | refine blk_drew ?_ | refine blk_alloc ?_ _)); exact BK254.out⟩, ⟨bl_⟩⟩
    ·rw [if_neg c18] at H
     exact absurd H (by simp)
   ·replace c17 := Bool.eq_false_iff.mpr c17
    subst c17
    replace H := in_ H
    simp only [Option.some.injEq, Prod.mk.injEq] at H
    obtain ⟨rfl, rfl, rfl⟩ := H
    have p255 : 0 ≤ (x37_1 : Int) := od_
    have q255 : x37_1 < (t249.length : Int) := od_
    obtain ⟨ad255, e255, hx255_0⟩ := Kd.at_int (Kd.R_reads' HO_35.out).2.2 x37_1 p255 q255
    cases e255
    replace p255 := eq_true p255
    replace q255 := eq_true q255
    go_wp2_with (first | ((with_reducible refine gc_ 95 45 Tryz.func95 #[.slice A0 l0.length c0, .int .i64 x8_1, .int .i64 (rd t249 x37_1)] ?_); (with_reducible refine (spec_GetField.calls k1 _ _ l0 x8_1 (rd t249 x37_1) t256 t257 false _ ?side1 ?side2 A16.out).mono ?_); (case side1 => exact ca_ (Kd.C_below HR0.out HB.out)); (case side2 => exact HC0.out); rintro e w25 ⟨rfl, hb⟩; refine ⟨_, rfl, ?_⟩; replace HO_35 := Aside0.mk (Kd.R_below (ra_ HO_35) hb); replace HO_255001 := Aside0.mk (Kd.R_below (ra_ HO_255001) hb); replace BK245 := kb_ BK245 hb; replace BK254 := kb_ BK254 hb; replace HB := hs_ hb; clear hb; have hnb26 := NB245_254.out; have hnc26 := NB254_245.out; obtain ⟨hcz27_0, hcz27_1, hfz27_0, hfz27_1⟩ := bx2_ BK245))
    refine bodyPost_ret (results_ct rfl _ _ gb245 32 #[.string (⟨#[]⟩ : ByteArray), .slice none 0 0] (0, 0) _ rfl (by (with_reducible repeat (first | refine blk_drewN ?_ _ | refine blk_drew ?_ | refine blk_alloc ?_ _)); apply bq2_1_0_; (with_reducible repeat (first | refine blk_drewN ?_ _ | refine blk_drew ?_ | refine blk_alloc ?_ _)); exact BK245.out) Tryz.underlying32 rfl (by kernel_rfl)) rfl ?_
    exact ⟨_, by first | rfl | (simp [errW_none, errW_some] <;> rfl) | (simp [*, errW_none, errW_some] <;> rfl), by first | exact Kd.R_nil _ _ _ _ _ | exact Kd.N_nil _ _ _ _ _ | exact Kd.V_nil _ _ _ _ _ | exact Kd.Q_nil _ _ _ _ _ | exact Kd.S_nil _ _ _ _ _, bl_⟩
/-! ### spec_Asks: function 14 -/
def spec_Asks.j0 : Nat → Bool → Int → ByteArray → ByteArray → ByteArray → ByteArray → ByteArray → Int → Int → Option (List ByteArray)
 | 0, _, _, _, _, _, _, _, _, _ => none
 | k + 1, x32, x281000, x281001, x281002, x281003, x281004, x281005, x281006, x281007 => if x32 = true then (some (([x281001] : List ByteArray))) else (if (Op.bytesLess x281002.toList x281001.toList) = true then (some (([x281002, x281001] : List ByteArray))) else (some (([x281001, x281002] : List ByteArray))))
def spec_Asks.f (k : Nat) (l0 : List Int) : Option (List ByteArray) := (spec_Parse.f k l0).bind fun bt262 => (if bt262.2.2 = 0 then ((spec_ReqOf.f k bt262.1 bt262.2.1).bind fun bt271 => (if bt271.2.2.2.2.2.2.2.2 = 0 then (if bt271.1 = 6 then (spec_Asks.j0 k (bt271.2.2.1.toList == bt271.2.1.toList) bt271.1 bt271.2.1 bt271.2.2.1 bt271.2.2.2.1 bt271.2.2.2.2.1 bt271.2.2.2.2.2.1 bt271.2.2.2.2.2.2.1 bt271.2.2.2.2.2.2.2.1) else (spec_Asks.j0 k true bt271.1 bt271.2.1 bt271.2.2.1 bt271.2.2.2.1 bt271.2.2.2.2.1 bt271.2.2.2.2.2.1 bt271.2.2.2.2.2.2.1 bt271.2.2.2.2.2.2.2.1)) else (some (([] : List ByteArray))))) else (some (([] : List ByteArray))))
set_option maxHeartbeats 8000000 in
set_option maxRecDepth 100000 in
theorem spec_Asks.calls (k : Nat) (A0 : Option Addr) (c0 : Nat) (l0 : List Int) (r : List ByteArray) (w : World) (hr0 : Kd.C (Kd.int .u8) w A0 l0.length l0) (hc0 : l0.length ≤ c0) (h : spec_Asks.f k l0 = some r) :
  Calls Tryz.prog 14 #[.slice A0 l0.length c0] w fun e w' => ∃ v0_ : Value, e = .returned (v0_) ∧ Kd.R Kd.string 9 w' w.heap.size (fun _ => True) v0_ r ∧ Below w.heap.size w w' := by
 have hu32 := Tryz.underlying32
 have hu27 := Tryz.underlying27
 have HR0 := Aside0.mk hr0
 have HC0 := Aside0.mk hc0
 clear hr0 hc0
 have HB := Aside0.mk (Below.refl w.heap.size w)
 have H : ((spec_Parse.f k l0).bind fun bt262 => (if bt262.2.2 = 0 then ((spec_ReqOf.f k bt262.1 bt262.2.1).bind fun bt271 => (if bt271.2.2.2.2.2.2.2.2 = 0 then (if bt271.1 = 6 then (spec_Asks.j0 k (bt271.2.2.1.toList == bt271.2.1.toList) bt271.1 bt271.2.1 bt271.2.2.1 bt271.2.2.2.1 bt271.2.2.2.2.1 bt271.2.2.2.2.2.1 bt271.2.2.2.2.2.2.1 bt271.2.2.2.2.2.2.2.1) else (spec_Asks.j0 k true bt271.1 bt271.2.1 bt271.2.2.1 bt271.2.2.2.1 bt271.2.2.2.2.1 bt271.2.2.2.2.2.1 bt271.2.2.2.2.2.2.1 bt271.2.2.2.2.2.2.2.1)) else (some (([] : List ByteArray))))) else (some (([] : List ByteArray))))) = some r := h
 clear h
 obtain ⟨⟨t262, t263, t266⟩, A2, H⟩ := ob_ H
 (try dsimp only at H)
 by_cases c3 : t266 = 0
 rotate_left
 ·rw [if_neg c3] at H
  have c3b0 := beq_eq_false_iff_ne.mpr c3
  have c3b1 := bne_iff_ne.mpr c3
  obtain ⟨y268, hy268⟩ : ∃ y_ : List ByteArray, y_ = (([] : List ByteArray)) := ⟨_, rfl⟩
  replace H : (some y268) = some r := by first | (rw [hy268]; with_reducible exact H) | (have H2_ := (Option.bind_some _ _).symm.trans H; rw [hy268]; with_reducible exact H2_) | (have H2_ := (Option.bind_some _ _).symm.trans H; with_reducible exact H2_) | with_reducible exact H | (rw [hy268]; exact H) | exact H
  have Ny268 := Aside0.mk hy268
  clear hy268
  obtain rfl := Option.some.inj H
  go_enter Tryz.func14, Tryz.ntmps14
  go_wp2_with (first | ((with_reducible refine gc_ 57 9 Tryz.func57 #[.slice A0 l0.length c0] ?_); (with_reducible refine (spec_Parse.calls k _ _ l0 t262 t263 t266 _ ?side1 ?side2 A2.out).mono ?_); (case side1 => exact ca_ (HR0.out)); (case side2 => exact HC0.out); rintro e w44 ⟨v264, rfl, ho0, hb⟩; refine ⟨_, rfl, ?_⟩; have HO265 := Aside0.mk (Kd.R_lower ho0 (below_size bl_)); replace HB := hs_ hb; clear hb; (try clear ho0)) | ((with_reducible refine gate_dst (N := 3) rfl ?_); refine be_ (N := 3) (cs := #[.string (⟨#[]⟩ : ByteArray), .slice none 0 0]) (t := 32) ?_; intro gb267 hg w45 hbox hb; replace HO265 := Aside0.mk (Kd.R_below (ra_ HO265) hb); have BK267 := Aside0.mk (hbox); have GW267 := gw_ (w := w) hg; have GE267 := gw_ (w := w) hg; replace HB := hs_ hb; clear hb hbox hg; obtain ⟨hcz46_0, hcz46_1, hfz46_0, hfz46_1⟩ := bx2_ BK267; obtain ⟨Ao47, co47, eo47⟩ := Kd.R_slice HO265.out; subst eo47) | ((with_reducible refine gate_dst (N := 14) rfl ?_); refine Kd.R_lit Kd.string _ 9 ?hg (N := 14) ?hd (xs := ([] : List ByteArray)) (inner := []) (ok := fun _ => True) (okp := fun _ => True) ?hr ?hp (fun _ hk => hk) trivial (Below.refl _ _) (Nat.le_refl _) (by simp) ?_; (case hd => rfl); (case hg => rfl); (case hr => first | (go_simp; done) | (go_simp; rfl)); (case hp => exact (Reps.none _ _)); intro v269 w48 ho49 hb hg_ hnew_; clear hg_ hnew_; (first | rw [← Ny268.out] at ho49 | (simp only [Int.reduceToNat] at ho49; rw [← Ny268.out] at ho49)); replace HO265 := Aside0.mk (Kd.R_below (by (with_reducible repeat (first | apply Kd.R_alloc | apply Kd.R_drewN | apply Kd.R_drew)); exact (Kd.R_mono (Kd.R_far (p := ⟨gb267, 1, none⟩) (Kd.R_far (p := ⟨gb267, 0, none⟩) (Kd.R_types HO265.out BK267.out (by decide)) (fun _ hk => hk.2) (.string t262)) (fun _ hk => hk.2) (.slice Ao47 t263.length co47)) (fun _ h_ => h_.1))) hb); have HO270 := Aside0.mk (Kd.R_lower ho49 (below_size bl_)); replace BK267 := Aside0.mk (blk_below (g := gb267) (o := .cells #[.string t262, .slice Ao47 t263.length co47] 32 (0, 0)) (by (with_reducible repeat (first | refine blk_drewN ?_ _ | refine blk_drew ?_ | refine blk_alloc ?_ _)); apply bq2_1_0_; (with_reducible repeat (first | refine blk_drewN ?_ _ | refine blk_drew ?_ | refine blk_alloc ?_ _)); exact BK267.out) hb); replace HB := hs_ hb; clear hb ho49))
  go_ret
  exact ⟨_, by first | rfl | (simp [errW_none, errW_some] <;> rfl) | (simp [*, errW_none, errW_some] <;> rfl), ra_ HO270, bl_⟩
 rw [if_pos c3] at H
 have c3b0 := beq_iff_eq.mpr c3
 have c3b1 := bne_eq_false_iff_eq.mpr c3
 clear c3
 obtain ⟨⟨t271, t272, t273, t274, t275, t276, t277, t278, t279⟩, A4, H⟩ := ob_ H
 (try dsimp only at H)
 by_cases c5 : t279 = 0
 rotate_left
 ·rw [if_neg c5] at H
  have c5b0 := beq_eq_false_iff_ne.mpr c5
  have c5b1 := bne_iff_ne.mpr c5
  obtain ⟨y281, hy281⟩ : ∃ y_ : List ByteArray, y_ = (([] : List ByteArray)) := ⟨_, rfl⟩
  replace H : (some y281) = some r := by first | (rw [hy281]; with_reducible exact H) | (have H2_ := (Option.bind_some _ _).symm.trans H; rw [hy281]; with_reducible exact H2_) | (have H2_ := (Option.bind_some _ _).symm.trans H; with_reducible exact H2_) | with_reducible exact H | (rw [hy281]; exact H) | exact H
  have Ny281 := Aside0.mk hy281
  clear hy281
  obtain rfl := Option.some.inj H
  go_enter Tryz.func14, Tryz.ntmps14
  go_wp2_with (first | ((with_reducible refine gc_ 57 9 Tryz.func57 #[.slice A0 l0.length c0] ?_); (with_reducible refine (spec_Parse.calls k _ _ l0 t262 t263 t266 _ ?side1 ?side2 A2.out).mono ?_); (case side1 => exact ca_ (HR0.out)); (case side2 => exact HC0.out); rintro e w34 ⟨v264, rfl, ho0, hb⟩; refine ⟨_, rfl, ?_⟩; have HO265 := Aside0.mk (Kd.R_lower ho0 (below_size bl_)); replace HB := hs_ hb; clear hb; (try clear ho0)) | ((with_reducible refine gate_dst (N := 3) rfl ?_); refine be_ (N := 3) (cs := #[.string (⟨#[]⟩ : ByteArray), .slice none 0 0]) (t := 32) ?_; intro gb267 hg w35 hbox hb; replace HO265 := Aside0.mk (Kd.R_below (ra_ HO265) hb); have BK267 := Aside0.mk (hbox); have GW267 := gw_ (w := w) hg; have GE267 := gw_ (w := w) hg; replace HB := hs_ hb; clear hb hbox hg; obtain ⟨hcz36_0, hcz36_1, hfz36_0, hfz36_1⟩ := bx2_ BK267; obtain ⟨Ao37, co37, eo37⟩ := Kd.R_slice HO265.out; subst eo37) | ((with_reducible refine gc_ 9 17 Tryz.func9 #[.agg #[.string t262, .slice Ao37 t263.length co37]] ?_); (with_reducible refine (spec_ReqOf.calls k t262 _ _ t263 t271 t272 t273 t274 t275 t276 t277 t278 t279 _ ?side1 ?side2 A4.out).mono ?_); (case side1 => refine (Kd.R_reads' (e := 91) (base := w.heap.size) (ok := fun k_ => True) (n := t263.length) (c := co37) ?_).2.2; exact (by (with_reducible repeat (first | apply Kd.R_alloc | apply Kd.R_drewN | apply Kd.R_drew)); exact (Kd.R_mono (Kd.R_far (p := ⟨gb267, 1, none⟩) (Kd.R_far (p := ⟨gb267, 0, none⟩) (Kd.R_types HO265.out BK267.out (by decide)) (fun _ hk => hk.2) (.string t262)) (fun _ hk => hk.2) (.slice Ao37 t263.length co37)) (fun _ h_ => h_.1)))); (case side2 => exact (Kd.R_reads' HO265.out).2.1); rintro e w38 ⟨rfl, hb⟩; refine ⟨_, rfl, ?_⟩; replace HO265 := Aside0.mk (Kd.R_below (by (with_reducible repeat (first | apply Kd.R_alloc | apply Kd.R_drewN | apply Kd.R_drew)); exact (Kd.R_mono (Kd.R_far (p := ⟨gb267, 1, none⟩) (Kd.R_far (p := ⟨gb267, 0, none⟩) (Kd.R_types HO265.out BK267.out (by decide)) (fun _ hk => hk.2) (.string t262)) (fun _ hk => hk.2) (.slice Ao37 t263.length co37)) (fun _ h_ => h_.1))) hb); replace BK267 := Aside0.mk (blk_below (g := gb267) (o := .cells #[.string t262, .slice Ao37 t263.length co37] 32 (0, 0)) (by (with_reducible repeat (first | refine blk_drewN ?_ _ | refine blk_drew ?_ | refine blk_alloc ?_ _)); apply bq2_1_0_; (with_reducible repeat (first | refine blk_drewN ?_ _ | refine blk_drew ?_ | refine blk_alloc ?_ _)); exact BK267.out) hb); replace HB := hs_ hb; clear hb) | ((with_reducible refine gate_dst (N := 5) rfl ?_); refine be_ (N := 5) (cs := #[.int .i64 0, .string (⟨#[]⟩ : ByteArray), .string (⟨#[]⟩ : ByteArray), .string (⟨#[]⟩ : ByteArray), .string (⟨#[]⟩ : ByteArray), .string (⟨#[]⟩ : ByteArray), .int .i64 0, .int .i64 0]) (t := 27) ?_; intro gb280 hg w39 hbox hb; replace HO265 := Aside0.mk (Kd.R_below (ra_ HO265) hb); have BK280 := Aside0.mk (hbox); have GW280 := gw_ (w := w) hg; have GE280 := gw_ (w := w) hg; replace HB := hs_ hb; have NB267_280 := Aside0.mk ((by rw [hg]; exact Nat.ne_of_lt (blk_lt (bk_ BK267)) : gb267 ≠ gb280)); have NB280_267 := Aside0.mk ((by rw [hg]; exact Nat.ne_of_gt (blk_lt (bk_ BK267)) : gb280 ≠ gb267)); replace BK267 := kb_ BK267 hb; clear hb hbox hg; have hnb40 := NB280_267.out; have hnc40 := NB267_280.out; obtain ⟨hcz41_0, hcz41_1, hcz41_2, hcz41_3, hcz41_4, hcz41_5, hcz41_6, hcz41_7, hfz41_0, hfz41_1, hfz41_2, hfz41_3, hfz41_4, hfz41_5, hfz41_6, hfz41_7⟩ := bx8_ BK280) | ((with_reducible refine gate_dst (N := 22) rfl ?_); refine Kd.R_lit Kd.string _ 9 ?hg (N := 22) ?hd (xs := ([] : List ByteArray)) (inner := []) (ok := fun _ => True) (okp := fun _ => True) ?hr ?hp (fun _ hk => hk) trivial (Below.refl _ _) (Nat.le_refl _) (by simp) ?_; (case hd => rfl); (case hg => rfl); (case hr => first | (go_simp; done) | (go_simp; rfl)); (case hp => exact (Reps.none _ _)); intro v282 w42 ho43 hb hg_ hnew_; clear hg_ hnew_; (first | rw [← Ny281.out] at ho43 | (simp only [Int.reduceToNat] at ho43; rw [← Ny281.out] at ho43)); replace HO265 := Aside0.mk (Kd.R_below (by (with_reducible repeat (first | apply Kd.R_alloc | apply Kd.R_drewN | apply Kd.R_drew)); exact (Kd.R_mono (Kd.R_far (p := ⟨gb280, 7, none⟩) (Kd.R_far (p := ⟨gb280, 6, none⟩) (Kd.R_far (p := ⟨gb280, 5, none⟩) (Kd.R_far (p := ⟨gb280, 4, none⟩) (Kd.R_far (p := ⟨gb280, 3, none⟩) (Kd.R_far (p := ⟨gb280, 2, none⟩) (Kd.R_far (p := ⟨gb280, 1, none⟩) (Kd.R_far (p := ⟨gb280, 0, none⟩) (Kd.R_types HO265.out BK280.out (by decide)) (fun _ hk => hk.2) (.int .i64 t271)) (fun _ hk => hk.2) (.string t272)) (fun _ hk => hk.2) (.string t273)) (fun _ hk => hk.2) (.string t274)) (fun _ hk => hk.2) (.string t275)) (fun _ hk => hk.2) (.string t276)) (fun _ hk => hk.2) (.int .i64 t277)) (fun _ hk => hk.2) (.int .i64 t278)) (fun _ h_ => h_.1))) hb); have HO283 := Aside0.mk (Kd.R_lower ho43 (below_size bl_)); replace BK267 := Aside0.mk (blk_below (g := gb267) (o := .cells #[.string t262, .slice Ao37 t263.length co37] 32 (0, 0)) (by (with_reducible repeat (first | refine blk_drewN ?_ _ | refine blk_drew ?_ | refine blk_alloc ?_ _)); refine blk_far ?_ NB267_280.out _; (with_reducible repeat (first | refine blk_drewN ?_ _ | refine blk_drew ?_ | refine blk_alloc ?_ _)); refine blk_far ?_ NB267_280.out _; (with_reducible repeat (first | refine blk_drewN ?_ _ | refine blk_drew ?_ | refine blk_alloc ?_ _)); refine blk_far ?_ NB267_280.out _; (with_reducible repeat (first | refine blk_drewN ?_ _ | refine blk_drew ?_ | refine blk_alloc ?_ _)); refine blk_far ?_ NB267_280.out _; (with_reducible repeat (first | refine blk_drewN ?_ _ | refine blk_drew ?_ | refine blk_alloc ?_ _)); refine blk_far ?_ NB267_280.out _; (with_reducible repeat (first | refine blk_drewN ?_ _ | refine blk_drew ?_ | refine blk_alloc ?_ _)); refine blk_far ?_ NB267_280.out _; (with_reducible repeat (first | refine blk_drewN ?_ _ | refine blk_drew ?_ | refine blk_alloc ?_ _)); refine blk_far ?_ NB267_280.out _; (with_reducible repeat (first | refine blk_drewN ?_ _ | refine blk_drew ?_ | refine blk_alloc ?_ _)); refine blk_far ?_ NB267_280.out _; (with_reducible repeat (first | refine blk_drewN ?_ _ | refine blk_drew ?_ | refine blk_alloc ?_ _)); exact BK267.out) hb); replace BK280 := Aside0.mk (blk_below (g := gb280) (o := .cells #[.int .i64 t271, .string t272, .string t273, .string t274, .string t275, .string t276, .int .i64 t277, .int .i64 t278] 27 (0, 0)) (by (with_reducible repeat (first | refine blk_drewN ?_ _ | refine blk_drew ?_ | refine blk_alloc ?_ _)); apply bq8_7_6_5_4_3_2_1_0_; (with_reducible repeat (first | refine blk_drewN ?_ _ | refine blk_drew ?_ | refine blk_alloc ?_ _)); exact BK280.out) hb); replace HB := hs_ hb; clear hb ho43))
  go_ret
  exact ⟨_, by first | rfl | (simp [errW_none, errW_some] <;> rfl) | (simp [*, errW_none, errW_some] <;> rfl), ra_ HO283, bl_⟩
 rw [if_pos c5] at H
 have c5b0 := beq_iff_eq.mpr c5
 have c5b1 := bne_eq_false_iff_eq.mpr c5
 clear c5
 have HC6 := Aside0.mk H
 clear H
 go_enter Tryz.func14, Tryz.ntmps14
 go_upto_region 7 with (first | ((with_reducible refine gc_ 57 9 Tryz.func57 #[.slice A0 l0.length c0] ?_); (with_reducible refine (spec_Parse.calls k _ _ l0 t262 t263 t266 _ ?side1 ?side2 A2.out).mono ?_); (case side1 => exact ca_ (HR0.out)); (case side2 => exact HC0.out); rintro e w7 ⟨v264, rfl, ho0, hb⟩; refine ⟨_, rfl, ?_⟩; have HO265 := Aside0.mk (Kd.R_lower ho0 (below_size bl_)); replace HB := hs_ hb; clear hb; (try clear ho0)) | ((with_reducible refine gate_dst (N := 3) rfl ?_); refine be_ (N := 3) (cs := #[.string (⟨#[]⟩ : ByteArray), .slice none 0 0]) (t := 32) ?_; intro gb267 hg w8 hbox hb; replace HO265 := Aside0.mk (Kd.R_below (ra_ HO265) hb); have BK267 := Aside0.mk (hbox); have GW267 := gw_ (w := w) hg; have GE267 := gw_ (w := w) hg; replace HB := hs_ hb; clear hb hbox hg; obtain ⟨hcz9_0, hcz9_1, hfz9_0, hfz9_1⟩ := bx2_ BK267; obtain ⟨Ao10, co10, eo10⟩ := Kd.R_slice HO265.out; subst eo10) | ((with_reducible refine gc_ 9 17 Tryz.func9 #[.agg #[.string t262, .slice Ao10 t263.length co10]] ?_); (with_reducible refine (spec_ReqOf.calls k t262 _ _ t263 t271 t272 t273 t274 t275 t276 t277 t278 t279 _ ?side1 ?side2 A4.out).mono ?_); (case side1 => refine (Kd.R_reads' (e := 91) (base := w.heap.size) (ok := fun k_ => True) (n := t263.length) (c := co10) ?_).2.2; exact (by (with_reducible repeat (first | apply Kd.R_alloc | apply Kd.R_drewN | apply Kd.R_drew)); exact (Kd.R_mono (Kd.R_far (p := ⟨gb267, 1, none⟩) (Kd.R_far (p := ⟨gb267, 0, none⟩) (Kd.R_types HO265.out BK267.out (by decide)) (fun _ hk => hk.2) (.string t262)) (fun _ hk => hk.2) (.slice Ao10 t263.length co10)) (fun _ h_ => h_.1)))); (case side2 => exact (Kd.R_reads' HO265.out).2.1); rintro e w11 ⟨rfl, hb⟩; refine ⟨_, rfl, ?_⟩; replace HO265 := Aside0.mk (Kd.R_below (by (with_reducible repeat (first | apply Kd.R_alloc | apply Kd.R_drewN | apply Kd.R_drew)); exact (Kd.R_mono (Kd.R_far (p := ⟨gb267, 1, none⟩) (Kd.R_far (p := ⟨gb267, 0, none⟩) (Kd.R_types HO265.out BK267.out (by decide)) (fun _ hk => hk.2) (.string t262)) (fun _ hk => hk.2) (.slice Ao10 t263.length co10)) (fun _ h_ => h_.1))) hb); replace BK267 := Aside0.mk (blk_below (g := gb267) (o := .cells #[.string t262, .slice Ao10 t263.length co10] 32 (0, 0)) (by (with_reducible repeat (first | refine blk_drewN ?_ _ | refine blk_drew ?_ | refine blk_alloc ?_ _)); apply bq2_1_0_; (with_reducible repeat (first | refine blk_drewN ?_ _ | refine blk_drew ?_ | refine blk_alloc ?_ _)); exact BK267.out) hb); replace HB := hs_ hb; clear hb) | ((with_reducible refine gate_dst (N := 5) rfl ?_); refine be_ (N := 5) (cs := #[.int .i64 0, .string (⟨#[]⟩ : ByteArray), .string (⟨#[]⟩ : ByteArray), .string (⟨#[]⟩ : ByteArray), .string (⟨#[]⟩ : ByteArray), .string (⟨#[]⟩ : ByteArray), .int .i64 0, .int .i64 0]) (t := 27) ?_; intro gb280 hg w12 hbox hb; replace HO265 := Aside0.mk (Kd.R_below (ra_ HO265) hb); have BK280 := Aside0.mk (hbox); have GW280 := gw_ (w := w) hg; have GE280 := gw_ (w := w) hg; replace HB := hs_ hb; have NB267_280 := Aside0.mk ((by rw [hg]; exact Nat.ne_of_lt (blk_lt (bk_ BK267)) : gb267 ≠ gb280)); have NB280_267 := Aside0.mk ((by rw [hg]; exact Nat.ne_of_gt (blk_lt (bk_ BK267)) : gb280 ≠ gb267)); replace BK267 := kb_ BK267 hb; clear hb hbox hg; have hnb13 := NB280_267.out; have hnc13 := NB267_280.out; obtain ⟨hcz14_0, hcz14_1, hcz14_2, hcz14_3, hcz14_4, hcz14_5, hcz14_6, hcz14_7, hfz14_0, hfz14_1, hfz14_2, hfz14_3, hfz14_4, hfz14_5, hfz14_6, hfz14_7⟩ := bx8_ BK280))
 (try simp only [Act.put, List.setIfInBounds_toArray, List.set_cons_zero, List.set_cons_succ])
 go_cut [32] (fun v32 wc => ∃ (kq : Nat) (x32_5 : Bool), v32 = .bool x32_5 ∧ Aside0 (spec_Asks.j0 kq x32_5 t271 t272 t273 t274 t275 t276 t277 t278 = some r) ∧ Aside0 (kq ≤ k) ∧ Aside0 (Kd.R k91 91 wc w.heap.size (fun _ => True) (.slice Ao10 t263.length co10) t263) ∧ Aside0 (wc.heap[gb267]? = some (.cells #[.string t262, (.slice Ao10 t263.length co10)] 32 (0, 0))) ∧ Aside0 (wc.heap[gb280]? = some (.cells #[.int .i64 t271, .string t272, .string t273, .string t274, .string t275, .string t276, .int .i64 t277, .int .i64 t278] 27 (0, 0))) ∧ Aside0 (Below w.heap.size w wc))
 case first =>
  have H := HC6.out
  clear HC6
  by_cases c15 : t271 = 6
  ·rw [if_pos c15] at H
   have c15b0 := beq_iff_eq.mpr c15
   have c15b1 := bne_eq_false_iff_eq.mpr c15
   clear c15
   (first | rw [c15b0] | (simp only [i64_w, i32_w]; rw [c15b0]) | skip)
   have H' := Aside0.mk H
   clear H
   have hnb16 := NB280_267.out
   have hnc16 := NB267_280.out
   obtain ⟨hcz17_0, hcz17_1, hcz17_2, hcz17_3, hcz17_4, hcz17_5, hcz17_6, hcz17_7, hfz17_0, hfz17_1, hfz17_2, hfz17_3, hfz17_4, hfz17_5, hfz17_6, hfz17_7⟩ := bx8_ BK280
   go_wp2
   go_meet
   case rel => exact ⟨_, ((t273.toList == t272.toList)), sp_, H', ⟨by first | omega | exact Nat.le_refl _⟩, ⟨by (with_reducible repeat (first | apply Kd.R_alloc | apply Kd.R_drewN | apply Kd.R_drew)); exact Kd.R_mono (Kd.R_far (p := ⟨gb280, 7, none⟩) (Kd.R_far (p := ⟨gb280, 6, none⟩) (Kd.R_far (p := ⟨gb280, 5, none⟩) (Kd.R_far (p := ⟨gb280, 4, none⟩) (Kd.R_far (p := ⟨gb280, 3, none⟩) (Kd.R_far (p := ⟨gb280, 2, none⟩) (Kd.R_far (p := ⟨gb280, 1, none⟩) (Kd.R_far (p := ⟨gb280, 0, none⟩) (Kd.R_types HO265.out BK280.out (by decide)) (fun _ hk => hk.2) (.int .i64 t271)) (fun _ hk => hk.2) (.string t272)) (fun _ hk => hk.2) (.string t273)) (fun _ hk => hk.2) (.string t274)) (fun _ hk => hk.2) (.string t275)) (fun _ hk => hk.2) (.string t276)) (fun _ hk => hk.2) (.int .i64 t277)) (fun _ hk => hk.2) (.int .i64 t278)) (fun _ hk => trivial)⟩, ⟨by (with_reducible repeat (first | refine blk_drewN ?_ _ | refine blk_drew ?_ | refine blk_alloc ?_ _)); refine blk_far ?_ NB267_280.out _; (with_reducible repeat (first | refine blk_drewN ?_ _ | refine blk_drew ?_ | refine blk_alloc ?_ _)); refine blk_far ?_ NB267_280.out _; (with_reducible repeat (first | refine blk_drewN ?_ _ | refine blk_drew ?_ | refine blk_alloc ?_ _)); refine blk_far ?_ NB267_280.out _; (with_reducible repeat (first | refine blk_drewN ?_ _ | refine blk_drew ?_ | refine blk_alloc ?_ _)); refine blk_far ?_ NB267_280.out _; (with_reducible repeat (first | refine blk_drewN ?_ _ | refine blk_drew ?_ | refine blk_alloc ?_ _)); refine blk_far ?_ NB267_280.out _; (with_reducible repeat (first | refine blk_drewN ?_ _ | refine blk_drew ?_ | refine blk_alloc ?_ _)); refine blk_far ?_ NB267_280.out _; (with_reducible repeat (first | refine blk_drewN ?_ _ | refine blk_drew ?_ | refine blk_alloc ?_ _)); refine blk_far ?_ NB267_280.out _; (with_reducible repeat (first | refine blk_drewN ?_ _ | refine blk_drew ?_ | refine blk_alloc ?_ _)); refine blk_far ?_ NB267_280.out _; (with_reducible repeat (first | refine blk_drewN ?_ _ | refine blk_drew ?_ | refine blk_alloc ?_ _)); exact BK267.out⟩, ⟨by (with_reducible repeat (first | refine blk_drewN ?_ _ | refine blk_drew ?_ | refine blk_alloc ?_ _)); apply bq8_7_6_5_4_3_2_1_0_; (with_reducible repeat (first | refine blk_drewN ?_ _ | refine blk_drew ?_ | refine blk_alloc ?_ _)); exact BK280.out⟩, ⟨bl_⟩⟩
  ·rw [if_neg c15] at H
   have c15b0 := beq_eq_false_iff_ne.mpr c15
   have c15b1 := bne_iff_ne.mpr c15
   (first | rw [c15b0] | (simp only [i64_w, i32_w]; rw [c15b0]) | skip)
   have H' := Aside0.mk H
   clear H
   have hnb18 := NB280_267.out
   have hnc18 := NB267_280.out
   obtain ⟨hcz19_0, hcz19_1, hcz19_2, hcz19_3, hcz19_4, hcz19_5, hcz19_6, hcz19_7, hfz19_0, hfz19_1, hfz19_2, hfz19_3, hfz19_4, hfz19_5, hfz19_6, hfz19_7⟩ := bx8_ BK280
   go_wp2
   go_meet
   case rel => exact ⟨_, (true), sp_, H', ⟨by first | omega | exact Nat.le_refl _⟩, ⟨by (with_reducible repeat (first | apply Kd.R_alloc | apply Kd.R_drewN | apply Kd.R_drew)); exact Kd.R_mono (Kd.R_far (p := ⟨gb280, 7, none⟩) (Kd.R_far (p := ⟨gb280, 6, none⟩) (Kd.R_far (p := ⟨gb280, 5, none⟩) (Kd.R_far (p := ⟨gb280, 4, none⟩) (Kd.R_far (p := ⟨gb280, 3, none⟩) (Kd.R_far (p := ⟨gb280, 2, none⟩) (Kd.R_far (p := ⟨gb280, 1, none⟩) (Kd.R_far (p := ⟨gb280, 0, none⟩) (Kd.R_types HO265.out BK280.out (by decide)) (fun _ hk => hk.2) (.int .i64 t271)) (fun _ hk => hk.2) (.string t272)) (fun _ hk => hk.2) (.string t273)) (fun _ hk => hk.2) (.string t274)) (fun _ hk => hk.2) (.string t275)) (fun _ hk => hk.2) (.string t276)) (fun _ hk => hk.2) (.int .i64 t277)) (fun _ hk => hk.2) (.int .i64 t278)) (fun _ hk => trivial)⟩, ⟨by (with_reducible repeat (first | refine blk_drewN ?_ _ | refine blk_drew ?_ | refine blk_alloc ?_ _)); refine blk_far ?_ NB267_280.out _; (with_reducible repeat (first | refine blk_drewN ?_ _ | refine blk_drew ?_ | refine blk_alloc ?_ _)); refine blk_far ?_ NB267_280.out _; (with_reducible repeat (first | refine blk_drewN ?_ _ | refine blk_drew ?_ | refine blk_alloc ?_ _)); refine blk_far ?_ NB267_280.out _; (with_reducible repeat (first | refine blk_drewN ?_ _ | refine blk_drew ?_ | refine blk_alloc ?_ _)); refine blk_far ?_ NB267_280.out _; (with_reducible repeat (first | refine blk_drewN ?_ _ | refine blk_drew ?_ | refine blk_alloc ?_ _)); refine blk_far ?_ NB267_280.out _; (with_reducible repeat (first | refine blk_drewN ?_ _ | refine blk_drew ?_ | refine blk_alloc ?_ _)); refine blk_far ?_ NB267_280.out _; (with_reducible repeat (first | refine blk_drewN ?_ _ | refine blk_drew ?_ | refine blk_alloc ?_ _)); refine blk_far ?_ NB267_280.out _; (with_reducible repeat (first | refine blk_drewN ?_ _ | refine blk_drew ?_ | refine blk_alloc ?_ _)); refine blk_far ?_ NB267_280.out _; (with_reducible repeat (first | refine blk_drewN ?_ _ | refine blk_drew ?_ | refine blk_alloc ?_ _)); exact BK267.out⟩, ⟨by (with_reducible repeat (first | refine blk_drewN ?_ _ | refine blk_drew ?_ | refine blk_alloc ?_ _)); apply bq8_7_6_5_4_3_2_1_0_; (with_reducible repeat (first | refine blk_drewN ?_ _ | refine blk_drew ?_ | refine blk_alloc ?_ _)); exact BK280.out⟩, ⟨bl_⟩⟩
 case rest =>
  clear HC6
  obtain ⟨kq, x32_5, rfl, HA, HJ5, HO_268001, BK267, BK280, HB⟩ := hcut
  cases kq with
  | zero => exact absurd HA.out (by simp [spec_Asks.j0])
  | succ kj5 =>
   have H := HA.out
   clear HA
   simp only [spec_Asks.j0] at H
   by_cases c20 : x32_5 = true
   ·subst c20
    replace H := ip_ H
    obtain ⟨y284, hy284⟩ : ∃ y_ : List ByteArray, y_ = (([t272] : List ByteArray)) := ⟨_, rfl⟩
    replace H : (some y284) = some r := by first | (rw [hy284]; with_reducible exact H) | (have H2_ := (Option.bind_some _ _).symm.trans H; rw [hy284]; with_reducible exact H2_) | (have H2_ := (Option.bind_some _ _).symm.trans H; with_reducible exact H2_) | with_reducible exact H | (rw [hy284]; exact H) | exact H
    have Ny284 := Aside0.mk hy284
    clear hy284
    obtain rfl := Option.some.inj H
    have hnb21 := NB280_267.out
    have hnc21 := NB267_280.out
    obtain ⟨hcz22_0, hcz22_1, hcz22_2, hcz22_3, hcz22_4, hcz22_5, hcz22_6, hcz22_7, hfz22_0, hfz22_1, hfz22_2, hfz22_3, hfz22_4, hfz22_5, hfz22_6, hfz22_7⟩ := bx8_ BK280
    go_wp2_with (first | ((with_reducible refine gate_dst (N := 35) rfl ?_); refine Kd.R_lit Kd.string _ 9 ?hg (N := 35) ?hd (xs := ([t272] : List ByteArray)) (inner := [.string t272]) (ok := fun _ => True) (okp := fun _ => True) ?hr ?hp (fun _ hk => hk) trivial (Below.refl _ _) (Nat.le_refl _) (by simp) ?_; (case hd => rfl); (case hg => rfl); (case hr => first | (go_simp; done) | (go_simp; rfl)); (case hp => exact (Reps.one (show Kd.M Kd.string _ _ _ t272 [.string t272] from rfl) (Reps.none _ _))); intro v285 w23 ho24 hb hg_ hnew_; clear hg_ hnew_; (first | rw [← Ny284.out] at ho24 | (simp only [Int.reduceToNat] at ho24; rw [← Ny284.out] at ho24)); replace HO_268001 := Aside0.mk (Kd.R_below (ra_ HO_268001) hb); have HO286 := Aside0.mk (Kd.R_lower ho24 (below_size bl_)); replace BK267 := kb_ BK267 hb; replace BK280 := kb_ BK280 hb; replace HB := hs_ hb; clear hb ho24))
    go_ret
    exact ⟨_, by first | rfl | (simp [errW_none, errW_some] <;> rfl) | (simp [*, errW_none, errW_some] <;> rfl), ra_ HO286, bl_⟩
   replace c20 := Bool.eq_false_iff.mpr c20
   subst c20
   replace H := in_ H
   by_cases c25 : (Op.bytesLess t273.toList t272.toList) = true
   ·rw [if_pos c25] at H
    have c25b0 : (Op.bytesLess t273.toList t272.toList) = true := c25
    clear c25
    obtain ⟨y287, hy287⟩ : ∃ y_ : List ByteArray, y_ = (([t273, t272] : List ByteArray)) := ⟨_, rfl⟩
    replace H : (some y287) = some r := by first | (rw [hy287]; with_reducible exact H) | (have H2_ := (Option.bind_some _ _).symm.trans H; rw [hy287]; with_reducible exact H2_) | (have H2_ := (Option.bind_some _ _).symm.trans H; with_reducible exact H2_) | with_reducible exact H | (rw [hy287]; exact H) | exact H
    have Ny287 := Aside0.mk hy287
    clear hy287
    obtain rfl := Option.some.inj H
    have hnb26 := NB280_267.out
    have hnc26 := NB267_280.out
    obtain ⟨hcz27_0, hcz27_1, hcz27_2, hcz27_3, hcz27_4, hcz27_5, hcz27_6, hcz27_7, hfz27_0, hfz27_1, hfz27_2, hfz27_3, hfz27_4, hfz27_5, hfz27_6, hfz27_7⟩ := bx8_ BK280
    go_wp2_with (first | ((with_reducible refine gate_dst (N := 45) rfl ?_); refine Kd.R_lit Kd.string _ 9 ?hg (N := 45) ?hd (xs := ([t273, t272] : List ByteArray)) (inner := [.string t273, .string t272]) (ok := fun _ => True) (okp := fun _ => True) ?hr ?hp (fun _ hk => hk) trivial (Below.refl _ _) (Nat.le_refl _) (by simp) ?_; (case hd => rfl); (case hg => rfl); (case hr => first | (go_simp; done) | (go_simp; rfl)); (case hp => exact (Reps.one (show Kd.M Kd.string _ _ _ t273 [.string t273] from rfl) (Reps.one (show Kd.M Kd.string _ _ _ t272 [.string t272] from rfl) (Reps.none _ _)))); intro v288 w28 ho29 hb hg_ hnew_; clear hg_ hnew_; (first | rw [← Ny287.out] at ho29 | (simp only [Int.reduceToNat] at ho29; rw [← Ny287.out] at ho29)); replace HO_268001 := Aside0.mk (Kd.R_below (ra_ HO_268001) hb); have HO289 := Aside0.mk (Kd.R_lower ho29 (below_size bl_)); replace BK267 := kb_ BK267 hb; replace BK280 := kb_ BK280 hb; replace HB := hs_ hb; clear hb ho29))
    go_ret
    exact ⟨_, by first | rfl | (simp [errW_none, errW_some] <;> rfl) | (simp [*, errW_none, errW_some] <;> rfl), ra_ HO289, bl_⟩
   rw [if_neg c25] at H
   have c25b0 : (Op.bytesLess t273.toList t272.toList) = false := by simpa using c25
   clear c25
   obtain ⟨y290, hy290⟩ : ∃ y_ : List ByteArray, y_ = (([t272, t273] : List ByteArray)) := ⟨_, rfl⟩
   replace H : (some y290) = some r := by first | (rw [hy290]; with_reducible exact H) | (have H2_ := (Option.bind_some _ _).symm.trans H; rw [hy290]; with_reducible exact H2_) | (have H2_ := (Option.bind_some _ _).symm.trans H; with_reducible exact H2_) | with_reducible exact H | (rw [hy290]; exact H) | exact H
   have Ny290 := Aside0.mk hy290
   clear hy290
   obtain rfl := Option.some.inj H
   have hnb30 := NB280_267.out
   have hnc30 := NB267_280.out
   obtain ⟨hcz31_0, hcz31_1, hcz31_2, hcz31_3, hcz31_4, hcz31_5, hcz31_6, hcz31_7, hfz31_0, hfz31_1, hfz31_2, hfz31_3, hfz31_4, hfz31_5, hfz31_6, hfz31_7⟩ := bx8_ BK280
   go_wp2_with (first | ((with_reducible refine gate_dst (N := 50) rfl ?_); refine Kd.R_lit Kd.string _ 9 ?hg (N := 50) ?hd (xs := ([t272, t273] : List ByteArray)) (inner := [.string t272, .string t273]) (ok := fun _ => True) (okp := fun _ => True) ?hr ?hp (fun _ hk => hk) trivial (Below.refl _ _) (Nat.le_refl _) (by simp) ?_; (case hd => rfl); (case hg => rfl); (case hr => first | (go_simp; done) | (go_simp; rfl)); (case hp => exact (Reps.one (show Kd.M Kd.string _ _ _ t272 [.string t272] from rfl) (Reps.one (show Kd.M Kd.string _ _ _ t273 [.string t273] from rfl) (Reps.none _ _)))); intro v291 w32 ho33 hb hg_ hnew_; clear hg_ hnew_; (first | rw [← Ny290.out] at ho33 | (simp only [Int.reduceToNat] at ho33; rw [← Ny290.out] at ho33)); replace HO_268001 := Aside0.mk (Kd.R_below (ra_ HO_268001) hb); have HO292 := Aside0.mk (Kd.R_lower ho33 (below_size bl_)); replace BK267 := kb_ BK267 hb; replace BK280 := kb_ BK280 hb; replace HB := hs_ hb; clear hb ho33))
   go_ret
   exact ⟨_, by first | rfl | (simp [errW_none, errW_some] <;> rfl) | (simp [*, errW_none, errW_some] <;> rfl), ra_ HO292, bl_⟩
end Go.Proofs.YtohfefkjcnbejaaGreatDoor.QFnExactAsks
