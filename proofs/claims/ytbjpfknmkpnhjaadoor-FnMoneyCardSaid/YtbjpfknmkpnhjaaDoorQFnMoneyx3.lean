-- by my own printer (myprint.py, over the kit's print.py)
import Derived.Test.YtbjpfknmkpnhjaaDoorQFnMoneyx0
import Derived.Test.YtbjpfknmkpnhjaaDoorQFnMoneyx2
namespace Go.Proofs.YtbjpfknmkpnhjaaDoor.QFnMoney
open Go.RowKit Go.Proofs.YtbjpfknmkpnhjaaDoorW.PrintWords Go.Proofs.YtbjpfknmkpnhjaaDoorW.PrintLast Go.Proofs.YtbjpfknmkpnhjaaDoorW.PrintMore
attribute [local go_sem] max2_int min2_int max_two min_two max_three min_three max_four min_four   -- for this text's walks alone
set_option linter.unusedVariables false
set_option linter.unusedSimpArgs false
attribute [local go_sem] my_geq my_leq my_gtr
abbrev tb18_0_3 : Array Bool := #[b0, b0, b0, b0, b0, b0, b0, b0, b0, b0, b0, b0, b0, b0, b0, b0, b0, b0]
abbrev tb18_1_3 : Array Bool := #[b1, b0, b0, b0, b0, b0, b0, b0, b0, b0, b0, b0, b0, b0, b0, b0, b0, b0]
abbrev tb18_1f_3 : Array Bool := #[b1, b1, b1, b1, b1, b0, b0, b0, b0, b0, b0, b0, b0, b0, b0, b0, b0, b0]
abbrev tb18_1ff_3 : Array Bool := #[b1, b1, b1, b1, b1, b1, b1, b1, b1, b0, b0, b0, b0, b0, b0, b0, b0, b0]
abbrev tb18_1fff_3 : Array Bool := #[b1, b1, b1, b1, b1, b1, b1, b1, b1, b1, b1, b1, b1, b0, b0, b0, b0, b0]
abbrev tb18_1ffff_3 : Array Bool := #[b1, b1, b1, b1, b1, b1, b1, b1, b1, b1, b1, b1, b1, b1, b1, b1, b1, b0]
abbrev tb18_2fff_3 : Array Bool := #[b1, b1, b1, b1, b1, b1, b1, b1, b1, b1, b1, b1, b0, b1, b0, b0, b0, b0]
abbrev tb18_3_3 : Array Bool := #[b1, b1, b0, b0, b0, b0, b0, b0, b0, b0, b0, b0, b0, b0, b0, b0, b0, b0]
abbrev tb18_3f_3 : Array Bool := #[b1, b1, b1, b1, b1, b1, b0, b0, b0, b0, b0, b0, b0, b0, b0, b0, b0, b0]
abbrev tb18_3ff_3 : Array Bool := #[b1, b1, b1, b1, b1, b1, b1, b1, b1, b1, b0, b0, b0, b0, b0, b0, b0, b0]
abbrev tb18_3fff_3 : Array Bool := #[b1, b1, b1, b1, b1, b1, b1, b1, b1, b1, b1, b1, b1, b1, b0, b0, b0, b0]
abbrev tb18_3ffff_3 : Array Bool := #[b1, b1, b1, b1, b1, b1, b1, b1, b1, b1, b1, b1, b1, b1, b1, b1, b1, b1]
abbrev tb18_7_3 : Array Bool := #[b1, b1, b1, b0, b0, b0, b0, b0, b0, b0, b0, b0, b0, b0, b0, b0, b0, b0]
abbrev tb18_7f_3 : Array Bool := #[b1, b1, b1, b1, b1, b1, b1, b0, b0, b0, b0, b0, b0, b0, b0, b0, b0, b0]
abbrev tb18_7ff_3 : Array Bool := #[b1, b1, b1, b1, b1, b1, b1, b1, b1, b1, b1, b0, b0, b0, b0, b0, b0, b0]
abbrev tb18_7fff_3 : Array Bool := #[b1, b1, b1, b1, b1, b1, b1, b1, b1, b1, b1, b1, b1, b1, b1, b0, b0, b0]
abbrev tb18_f_3 : Array Bool := #[b1, b1, b1, b1, b0, b0, b0, b0, b0, b0, b0, b0, b0, b0, b0, b0, b0, b0]
abbrev tb18_ff_3 : Array Bool := #[b1, b1, b1, b1, b1, b1, b1, b1, b0, b0, b0, b0, b0, b0, b0, b0, b0, b0]
abbrev tb18_fff_3 : Array Bool := #[b1, b1, b1, b1, b1, b1, b1, b1, b1, b1, b1, b1, b0, b0, b0, b0, b0, b0]
abbrev tb18_ffff_3 : Array Bool := #[b1, b1, b1, b1, b1, b1, b1, b1, b1, b1, b1, b1, b1, b1, b1, b1, b0, b0]
/-! ### spec_HoldsOk: function 134 -/
def spec_HoldsOk.l0 : Nat → List (S116) → List (S116) → Int → Int → Option (Bool)
 | 0, _, _, _, _ => none
 | k + 1, x0, x5, x6, x7 => if x7 < x6 then (if 0 ≤ x7 then (if x7 < (x5.length : Int) then ((spec_HoldOk.f k ((rd_T116 x5 x7).f0) ((rd_T116 x5 x7).f1) ((rd_T116 x5 x7).f2)).bind fun t134 => (if t134 = true then (if x7 > 0 then (if 0 ≤ (wrap64 (x7 - 1)) then (if (wrap64 (x7 - 1)) < (x0.length : Int) then (if ((Op.bytesLess (((rd_T116 x0 (wrap64 (x7 - 1))).f0).toList) (((rd_T116 x5 x7).f0).toList)) = true) then (spec_HoldsOk.l0 k x0 x5 x6 (wrap64 (x7 + 1))) else (some false)) else (none)) else (none)) else (spec_HoldsOk.l0 k x0 x5 x6 (wrap64 (x7 + 1)))) else (some false))) else (none)) else (none)) else (some (decide ((x0.length : Int) ≤ 4)))
def spec_HoldsOk.f (k : Nat) (l0 : List (S116)) : Option (Bool) := spec_HoldsOk.l0 k l0 l0 (l0.length : Int) 0
def spec_HoldsOk.T4 : Bool × List (List Nat × List Nat) := (true, [([], []), ([0], [0]), ([1], [1]), ([2, 1], [2]), ([3], [3]), ([4, 3], [3, 4]), ([5, 3, 3], [3, 5]), ([6], [6]), ([6], [6]), ([8, 6], [6, 8]), ([7, 9, 6], [6, 7, 9]), ([10, 6], [6, 10]), ([11, 6], [6, 11]), ([6], [6]), ([13, 6], [6, 13]), ([12, 14, 6], [6, 12, 14]), ([6, 15, 3], [3, 6, 15]), ([3, 16], [3, 16])])
def spec_HoldsOk.B4 : List Nat := [0, 1, 3, 7, 15, 31, 63, 127, 127, 383, 1023, 2047, 4095, 127, 8319, 32767, 65535, 131071]
theorem spec_HoldsOk.tab4 : rtab .any (opsOf Tryd.f134 4) = spec_HoldsOk.T4 := by kernel_rfl
theorem spec_HoldsOk.bits4 : waitsOk spec_HoldsOk.T4.2 spec_HoldsOk.B4 = true := by kernel_rfl
set_option maxHeartbeats 8000000 in
set_option maxRecDepth 100000 in
theorem spec_HoldsOk.calls (k : Nat) (A0 : Option Addr) (c0 : Nat) (l0 : List (S116)) (r : Bool) (w : World) (hr0 : Kd.C k116 w A0 l0.length l0) (hc0 : l0.length ≤ c0) (h : spec_HoldsOk.f k l0 = some r) :
  Calls Tryd.prog 134 #[.slice A0 l0.length c0] w fun e w' => e = .returned (.bool r) ∧ Below w.heap.size w w' := by
 have hu116 := Tryd.underlying116
 have HR0 := Aside0.mk hr0
 have HC0 := Aside0.mk hc0
 clear hr0 hc0
 have HB := Aside0.mk (Below.refl w.heap.size w)
 have H : (spec_HoldsOk.l0 k l0 l0 (l0.length : Int) 0) = some r := h
 clear h
 have H' := Aside0.mk H
 clear H
 go_enter Tryd.func134, Tryd.ntmps134
 go_wp2
 go_loopg [7] k (fun kq v7 w' => ∃ (x7_1 : Int), v7 = .int .i64 x7_1 ∧ Aside0 (spec_HoldsOk.l0 kq l0 l0 (l0.length : Int) x7_1 = some r) ∧ Aside0 (kq ≤ k) ∧ Aside0 (Below w.heap.size w w'))
 case atStart => exact ⟨(0), sp_, H', ⟨Nat.le_refl _⟩, ⟨bl_⟩⟩
 case round =>
  clear H'
  try clear c1
  obtain ⟨x7_1, rfl, HA, HK1, HB⟩ := hrel
  cases gk with
  | zero => exact absurd HA.out (by simp [spec_HoldsOk.l0])
  | succ k1 =>
   have H := HA.out
   clear HA
   simp only [spec_HoldsOk.l0] at H
   by_cases c2 : x7_1 < (l0.length : Int)
   ·rw [if_pos c2] at H
    have c2b0 : decide (x7_1 < (l0.length : Int)) = true := decide_eq_true c2
    clear c2
    by_cases c3 : 0 ≤ x7_1
    ·rw [if_pos c3] at H
     have c3b0 : decide (0 ≤ x7_1) = true := decide_eq_true c3
     clear c3
     by_cases c4 : x7_1 < (l0.length : Int)
     ·rw [if_pos c4] at H
      have c4b0 : decide (x7_1 < (l0.length : Int)) = true := decide_eq_true c4
      clear c4
      obtain ⟨t134, A5, H⟩ := ob_ H
      by_cases c6 : t134 = true
      ·subst c6
       replace H := ip_ H
       by_cases c7 : x7_1 > 0
       ·rw [if_pos c7] at H
        have c7b0 : decide (0 < x7_1) = true := decide_eq_true c7
        clear c7
        obtain ⟨ji8, hji8⟩ : ∃ j_ : Int, (wrap64 (x7_1 - 1)) = j_ := ⟨_, rfl⟩
        replace H : (if 0 ≤ (ji8) then (if (ji8) < (l0.length : Int) then (if ((Op.bytesLess (((rd_T116 l0 (ji8)).f0).toList) (((rd_T116 l0 x7_1).f0).toList)) = true) then (spec_HoldsOk.l0 k1 l0 l0 (l0.length : Int) (wrap64 (x7_1 + 1))) else (some false)) else (none)) else (none)) = some r := by first | (rw [hji8] at H; exact H) | (simp only [hji8] at H ⊢; exact H)
        (try rw [hji8] at A5)
        have hji8w : (IntKind.i64.wrap (x7_1 - 1)) = ji8 := (i64_w _).trans hji8
        by_cases c9 : 0 ≤ (ji8)
        ·rw [if_pos c9] at H
         have c9b0 : decide (0 ≤ (ji8)) = true := decide_eq_true c9
         clear c9
         by_cases c10 : (ji8) < (l0.length : Int)
         ·rw [if_pos c10] at H
          have c10b0 : decide ((ji8) < (l0.length : Int)) = true := decide_eq_true c10
          clear c10
          by_cases c11 : ((Op.bytesLess (((rd_T116 l0 (ji8)).f0).toList) (((rd_T116 l0 x7_1).f0).toList)) = true)
          ·rw [if_pos c11] at H
           have c11b0 : (Op.bytesLess (((rd_T116 l0 (ji8)).f0).toList) (((rd_T116 l0 x7_1).f0).toList)) = true := c11
           clear c11
           have H' := Aside0.mk H
           clear H
           have p132 : 0 ≤ (x7_1 : Int) := od_
           have q132 : x7_1 < (l0.length : Int) := od_
           obtain ⟨ad132, e132, hx132_0, hx132_1, hx132_2⟩ := at_T116 HR0.out x7_1 p132 q132
           cases e132
           replace hx132_0 := kc_ HB hx132_0
           replace hx132_1 := kc_ HB hx132_1
           replace hx132_2 := kc_ HB hx132_2
           replace p132 := eq_true p132
           replace q132 := eq_true q132
           try go_wp2_with (first | ((with_reducible refine gate_dst (N := 4) rfl ?_); refine be_ (N := 4) (cs := #[.string (⟨#[]⟩ : ByteArray), .int .i64 0, .int .i64 0]) (t := 116) ?_; intro gb133 hg w12 hbox hb; have BK133 := Aside0.mk (hbox); have GW133 := gw_ (w := w) hg; have GE133 := gw_ (w := w) hg; replace HB := Aside0.mk (below_step bl_ hb); clear hb hbox hg; obtain ⟨hcz13_0, hcz13_1, hcz13_2, hfz13_0, hfz13_1, hfz13_2⟩ := bx3_ BK133))
           have n0_ : Aside0 ((((w12.setCell ⟨gb133, 0, none⟩ (.string ((rd_T116 l0 x7_1).f0))).setCell ⟨gb133, 1, none⟩ (.int .i64 ((rd_T116 l0 x7_1).f1))).setCell ⟨gb133, 2, none⟩ (.int .i64 ((rd_T116 l0 x7_1).f2))).heap[gb133]? = some (.cells #[.string ((rd_T116 l0 x7_1).f0), .int .i64 ((rd_T116 l0 x7_1).f1), .int .i64 ((rd_T116 l0 x7_1).f2)] 116 (0, 0))) := ⟨by (with_reducible repeat (first | refine blk_drewN ?_ _ | refine blk_drew ?_ | refine blk_alloc ?_ _)); apply bq3_2_1_0_; (with_reducible repeat (first | refine blk_drewN ?_ _ | refine blk_drew ?_ | refine blk_alloc ?_ _)); exact BK133.out⟩
           have n1_ : Aside0 (Below w.heap.size w (((w12.setCell ⟨gb133, 0, none⟩ (.string ((rd_T116 l0 x7_1).f0))).setCell ⟨gb133, 1, none⟩ (.int .i64 ((rd_T116 l0 x7_1).f1))).setCell ⟨gb133, 2, none⟩ (.int .i64 ((rd_T116 l0 x7_1).f2)))) := ⟨bl_⟩
           (try clear BK133)
           (try clear HB)
           generalize (((w12.setCell ⟨gb133, 0, none⟩ (.string ((rd_T116 l0 x7_1).f0))).setCell ⟨gb133, 1, none⟩ (.int .i64 ((rd_T116 l0 x7_1).f1))).setCell ⟨gb133, 2, none⟩ (.int .i64 ((rd_T116 l0 x7_1).f2))) = w14 at n0_ n1_ ⊢
           have BK133 := n0_
           have HB := n1_
           clear n0_ n1_
           have n0_ := Aside0.mk (blk_drew BK133.out)
           have n1_ := Aside0.mk (below_drew1 HB.out)
           clear BK133
           clear HB
           have BK133 := n0_
           have HB := n1_
           clear n0_ n1_
           have p135 : 0 ≤ ((ji8) : Int) := od_
           have q135 : (ji8) < (l0.length : Int) := od_
           obtain ⟨ad135, e135, hx135_0, hx135_1, hx135_2⟩ := at_T116 HR0.out (ji8) p135 q135
           have hw135_2 := hx135_2
           have hw135_1 := hx135_1
           have hw135_0 := hx135_0
           obtain rfl : ad132 = ad135 := (by injection e135)
           replace hx135_0 := kc_ HB hx135_0
           replace hx135_1 := kc_ HB hx135_1
           replace hx135_2 := kc_ HB hx135_2
           replace p135 := eq_true p135
           replace q135 := eq_true q135
           refine start_ (n := 18) (S := fun w' => w'.cell? ⟨gb133, 0, none⟩ = some (.string ((rd_T116 l0 x7_1).f0)) ∧ w'.cell? ⟨gb133, 1, none⟩ = some (.int .i64 ((rd_T116 l0 x7_1).f1)) ∧ w'.cell? ⟨gb133, 2, none⟩ = some (.int .i64 ((rd_T116 l0 x7_1).f2)) ∧ w'.cell? (ad132.add (((ji8)).toNat * 3)) = some (.string ((rd_T116 l0 (ji8)).f0)) ∧ w'.cell? ⟨(ad132.add (((ji8)).toNat * 3)).block, (ad132.add (((ji8)).toNat * 3)).off + 1, none⟩ = some (.int .i64 ((rd_T116 l0 (ji8)).f1)) ∧ w'.cell? ⟨(ad132.add (((ji8)).toNat * 3)).block, (ad132.add (((ji8)).toNat * 3)).off + 2, none⟩ = some (.int .i64 ((rd_T116 l0 (ji8)).f2))) (ds := []) tb18_0_3 (by kernel_rfl) rfl rfl ⟨cy_ BK133 0, cy_ BK133 1, cy_ BK133 2, (kc_ HB hw135_0), (kc_ HB hw135_1), (kc_ HB hw135_2)⟩ (fun hHeld => ?_); refine with_tabW spec_HoldsOk.tab4 spec_HoldsOk.bits4 (fun HT_ HW_ => ?_)
           generalize w14.drew = w15 at BK133 HB hx135_0 hx135_1 hx135_2 hHeld ⊢
           refine take_ (i := 0) (N := some 12) (v := ?_) (a' := ?_) tb18_1_3 rfl rfl (take_ofW HT_.out HW_.out (by kernel_rfl)) (fun _ _ _ h => h) (Or.inl ⟨by rfl, ?_⟩) hHeld ?_ ?_
           rotate_left
           ·rintro w' ⟨s0, s1, s2, s3, s4, s5⟩
            go_simp
            with_reducible rfl
           rotate_left
           ·simp only [Act.put, q_]
            rfl
           refine one_ (i := 1) (N := some 13) tb18_3_3 rfl rfl (one_of HT_.out (by kernel_rfl)) (by decide) (fun K hK => ?_)
           refine goes_ Tryd.func160 (by kernel_rfl) rfl #[.agg #[.string ((rd_T116 l0 x7_1).f0), .int .i64 ((rd_T116 l0 x7_1).f1), .int .i64 ((rd_T116 l0 x7_1).f2)]] (by rfl) rfl rfl gl_ ?_
           with_reducible refine (spec_HoldOk.calls k1 ((rd_T116 l0 x7_1).f0) ((rd_T116 l0 x7_1).f1) ((rd_T116 l0 x7_1).f2) true _ A5.out).mono ?_
           rintro e w16 ⟨rfl, hb⟩
           refine ⟨_, rfl, ?_⟩
           have n0_ := Aside0.mk (blk_below (bk_ BK133) hb)
           have n1_ := Aside0.mk (below_step bl_ hb)
           clear BK133
           clear HB
           have BK133 := n0_
           have HB := n1_
           clear n0_ n1_
           (try clear hb)
           (try clear hb2)
           (try clear hk)
           (try clear hi)
           refine hK.out _ _ ⟨cy_ BK133 0, cy_ BK133 1, cy_ BK133 2, (kc_ HB hw135_0), (kc_ HB hw135_1), (kc_ HB hw135_2)⟩ (fun hHeld => ?_)
           clear hK K
           refine norm_ (a' := ?_) ?_ ?_
           rotate_left
           ·show Act.put _ (some 13) _ = _
            simp only [Act.put, q_]
            rfl
           refine pl_ HT_ 2 14 tb18_7_3 ?_
           refine pl_ HT_ 3 15 tb18_f_3 ?_
           refine pl_ HT_ 4 16 tb18_1f_3 ?_
           refine pl_ HT_ 5 17 tb18_3f_3 ?_
           refine pl_ HT_ 6 18 tb18_7f_3 ?_
           refine pl_ HT_ 7 19 tb18_ff_3 ?_
           refine pl_ HT_ 8 20 tb18_1ff_3 ?_
           refine pl_ HT_ 9 21 tb18_3ff_3 ?_
           refine pl_ HT_ 10 22 tb18_7ff_3 ?_
           refine pl_ HT_ 11 23 tb18_fff_3 ?_
           refine pl_ HT_ 13 25 tb18_2fff_3 ?_
           refine take_ (i := 12) (N := some 24) (v := ?_) (a' := ?_) tb18_3fff_3 rfl rfl (take_ofW HT_.out HW_.out (by kernel_rfl)) (fun _ _ _ h => h) (Or.inl ⟨by rfl, ?_⟩) hHeld ?_ ?_
           rotate_left
           ·rintro w' ⟨s0, s1, s2, s3, s4, s5⟩
            go_simp
            with_reducible rfl
           rotate_left
           ·simp only [Act.put, q_]
            rfl
           refine take_ (i := 14) (N := some 26) (v := ?_) (a' := ?_) tb18_7fff_3 rfl rfl (take_ofW HT_.out HW_.out (by kernel_rfl)) (fun _ _ _ h => h) (Or.inl ⟨by rfl, ?_⟩) hHeld ?_ ?_
           rotate_left
           ·rintro w' ⟨s0, s1, s2, s3, s4, s5⟩
            go_simp
            with_reducible rfl
           rotate_left
           ·simp only [Act.put, q_]
            rfl
           refine pl_ HT_ 15 27 tb18_ffff_3 ?_
           refine pl_ HT_ 16 28 tb18_1ffff_3 ?_
           refine pl_ HT_ 17 29 tb18_3ffff_3 ?_
           refine done_ (done_of HT_.out (by kernel_rfl)) ?_
           try go_wp2
           go_roundg k1
           case measure => have := HK1.out; omega
           case rel => exact ⟨(wrap64 (x7_1 + 1)), sp_, H', ⟨by have := HK1.out; omega⟩, ⟨bl_⟩⟩
          ·rw [if_neg c11] at H
           have c11b0 : (Op.bytesLess (((rd_T116 l0 (ji8)).f0).toList) (((rd_T116 l0 x7_1).f0).toList)) = false := by simpa using c11
           clear c11
           obtain rfl := Option.some.inj H
           have p132 : 0 ≤ (x7_1 : Int) := od_
           have q132 : x7_1 < (l0.length : Int) := od_
           obtain ⟨ad132, e132, hx132_0, hx132_1, hx132_2⟩ := at_T116 HR0.out x7_1 p132 q132
           cases e132
           replace hx132_0 := kc_ HB hx132_0
           replace hx132_1 := kc_ HB hx132_1
           replace hx132_2 := kc_ HB hx132_2
           replace p132 := eq_true p132
           replace q132 := eq_true q132
           try go_wp2_with (first | ((with_reducible refine gate_dst (N := 4) rfl ?_); refine be_ (N := 4) (cs := #[.string (⟨#[]⟩ : ByteArray), .int .i64 0, .int .i64 0]) (t := 116) ?_; intro gb133 hg w17 hbox hb; have BK133 := Aside0.mk (hbox); have GW133 := gw_ (w := w) hg; have GE133 := gw_ (w := w) hg; replace HB := Aside0.mk (below_step bl_ hb); clear hb hbox hg; obtain ⟨hcz18_0, hcz18_1, hcz18_2, hfz18_0, hfz18_1, hfz18_2⟩ := bx3_ BK133))
           have n0_ : Aside0 ((((w17.setCell ⟨gb133, 0, none⟩ (.string ((rd_T116 l0 x7_1).f0))).setCell ⟨gb133, 1, none⟩ (.int .i64 ((rd_T116 l0 x7_1).f1))).setCell ⟨gb133, 2, none⟩ (.int .i64 ((rd_T116 l0 x7_1).f2))).heap[gb133]? = some (.cells #[.string ((rd_T116 l0 x7_1).f0), .int .i64 ((rd_T116 l0 x7_1).f1), .int .i64 ((rd_T116 l0 x7_1).f2)] 116 (0, 0))) := ⟨by (with_reducible repeat (first | refine blk_drewN ?_ _ | refine blk_drew ?_ | refine blk_alloc ?_ _)); apply bq3_2_1_0_; (with_reducible repeat (first | refine blk_drewN ?_ _ | refine blk_drew ?_ | refine blk_alloc ?_ _)); exact BK133.out⟩
           have n1_ : Aside0 (Below w.heap.size w (((w17.setCell ⟨gb133, 0, none⟩ (.string ((rd_T116 l0 x7_1).f0))).setCell ⟨gb133, 1, none⟩ (.int .i64 ((rd_T116 l0 x7_1).f1))).setCell ⟨gb133, 2, none⟩ (.int .i64 ((rd_T116 l0 x7_1).f2)))) := ⟨bl_⟩
           (try clear BK133)
           (try clear HB)
           generalize (((w17.setCell ⟨gb133, 0, none⟩ (.string ((rd_T116 l0 x7_1).f0))).setCell ⟨gb133, 1, none⟩ (.int .i64 ((rd_T116 l0 x7_1).f1))).setCell ⟨gb133, 2, none⟩ (.int .i64 ((rd_T116 l0 x7_1).f2))) = w19 at n0_ n1_ ⊢
           have BK133 := n0_
           have HB := n1_
           clear n0_ n1_
           have n0_ := Aside0.mk (blk_drew BK133.out)
           have n1_ := Aside0.mk (below_drew1 HB.out)
           clear BK133
           clear HB
           have BK133 := n0_
           have HB := n1_
           clear n0_ n1_
           have p135 : 0 ≤ ((ji8) : Int) := od_
           have q135 : (ji8) < (l0.length : Int) := od_
           obtain ⟨ad135, e135, hx135_0, hx135_1, hx135_2⟩ := at_T116 HR0.out (ji8) p135 q135
           have hw135_2 := hx135_2
           have hw135_1 := hx135_1
           have hw135_0 := hx135_0
           obtain rfl : ad132 = ad135 := (by injection e135)
           replace hx135_0 := kc_ HB hx135_0
           replace hx135_1 := kc_ HB hx135_1
           replace hx135_2 := kc_ HB hx135_2
           replace p135 := eq_true p135
           replace q135 := eq_true q135
           refine start_ (n := 18) (S := fun w' => w'.cell? ⟨gb133, 0, none⟩ = some (.string ((rd_T116 l0 x7_1).f0)) ∧ w'.cell? ⟨gb133, 1, none⟩ = some (.int .i64 ((rd_T116 l0 x7_1).f1)) ∧ w'.cell? ⟨gb133, 2, none⟩ = some (.int .i64 ((rd_T116 l0 x7_1).f2)) ∧ w'.cell? (ad132.add (((ji8)).toNat * 3)) = some (.string ((rd_T116 l0 (ji8)).f0)) ∧ w'.cell? ⟨(ad132.add (((ji8)).toNat * 3)).block, (ad132.add (((ji8)).toNat * 3)).off + 1, none⟩ = some (.int .i64 ((rd_T116 l0 (ji8)).f1)) ∧ w'.cell? ⟨(ad132.add (((ji8)).toNat * 3)).block, (ad132.add (((ji8)).toNat * 3)).off + 2, none⟩ = some (.int .i64 ((rd_T116 l0 (ji8)).f2))) (ds := []) tb18_0_3 (by kernel_rfl) rfl rfl ⟨cy_ BK133 0, cy_ BK133 1, cy_ BK133 2, (kc_ HB hw135_0), (kc_ HB hw135_1), (kc_ HB hw135_2)⟩ (fun hHeld => ?_); refine with_tabW spec_HoldsOk.tab4 spec_HoldsOk.bits4 (fun HT_ HW_ => ?_)
           generalize w19.drew = w20 at BK133 HB hx135_0 hx135_1 hx135_2 hHeld ⊢
           refine take_ (i := 0) (N := some 12) (v := ?_) (a' := ?_) tb18_1_3 rfl rfl (take_ofW HT_.out HW_.out (by kernel_rfl)) (fun _ _ _ h => h) (Or.inl ⟨by rfl, ?_⟩) hHeld ?_ ?_
           rotate_left
           ·rintro w' ⟨s0, s1, s2, s3, s4, s5⟩
            go_simp
            with_reducible rfl
           rotate_left
           ·simp only [Act.put, q_]
            rfl
           refine one_ (i := 1) (N := some 13) tb18_3_3 rfl rfl (one_of HT_.out (by kernel_rfl)) (by decide) (fun K hK => ?_)
           refine goes_ Tryd.func160 (by kernel_rfl) rfl #[.agg #[.string ((rd_T116 l0 x7_1).f0), .int .i64 ((rd_T116 l0 x7_1).f1), .int .i64 ((rd_T116 l0 x7_1).f2)]] (by rfl) rfl rfl gl_ ?_
           with_reducible refine (spec_HoldOk.calls k1 ((rd_T116 l0 x7_1).f0) ((rd_T116 l0 x7_1).f1) ((rd_T116 l0 x7_1).f2) true _ A5.out).mono ?_
           rintro e w21 ⟨rfl, hb⟩
           refine ⟨_, rfl, ?_⟩
           have n0_ := Aside0.mk (blk_below (bk_ BK133) hb)
           have n1_ := Aside0.mk (below_step bl_ hb)
           clear BK133
           clear HB
           have BK133 := n0_
           have HB := n1_
           clear n0_ n1_
           (try clear hb)
           (try clear hb2)
           (try clear hk)
           (try clear hi)
           refine hK.out _ _ ⟨cy_ BK133 0, cy_ BK133 1, cy_ BK133 2, (kc_ HB hw135_0), (kc_ HB hw135_1), (kc_ HB hw135_2)⟩ (fun hHeld => ?_)
           clear hK K
           refine norm_ (a' := ?_) ?_ ?_
           rotate_left
           ·show Act.put _ (some 13) _ = _
            simp only [Act.put, q_]
            rfl
           refine pl_ HT_ 2 14 tb18_7_3 ?_
           refine pl_ HT_ 3 15 tb18_f_3 ?_
           refine pl_ HT_ 4 16 tb18_1f_3 ?_
           refine pl_ HT_ 5 17 tb18_3f_3 ?_
           refine pl_ HT_ 6 18 tb18_7f_3 ?_
           refine pl_ HT_ 7 19 tb18_ff_3 ?_
           refine pl_ HT_ 8 20 tb18_1ff_3 ?_
           refine pl_ HT_ 9 21 tb18_3ff_3 ?_
           refine pl_ HT_ 10 22 tb18_7ff_3 ?_
           refine pl_ HT_ 11 23 tb18_fff_3 ?_
           refine pl_ HT_ 13 25 tb18_2fff_3 ?_
           refine take_ (i := 12) (N := some 24) (v := ?_) (a' := ?_) tb18_3fff_3 rfl rfl (take_ofW HT_.out HW_.out (by kernel_rfl)) (fun _ _ _ h => h) (Or.inl ⟨by rfl, ?_⟩) hHeld ?_ ?_
           rotate_left
           ·rintro w' ⟨s0, s1, s2, s3, s4, s5⟩
            go_simp
            with_reducible rfl
           rotate_left
           ·simp only [Act.put, q_]
            rfl
           refine take_ (i := 14) (N := some 26) (v := ?_) (a' := ?_) tb18_7fff_3 rfl rfl (take_ofW HT_.out HW_.out (by kernel_rfl)) (fun _ _ _ h => h) (Or.inl ⟨by rfl, ?_⟩) hHeld ?_ ?_
           rotate_left
           ·rintro w' ⟨s0, s1, s2, s3, s4, s5⟩
            go_simp
            with_reducible rfl
           rotate_left
           ·simp only [Act.put, q_]
            rfl
           refine pl_ HT_ 15 27 tb18_ffff_3 ?_
           refine pl_ HT_ 16 28 tb18_1ffff_3 ?_
           refine pl_ HT_ 17 29 tb18_3ffff_3 ?_
           refine done_ (done_of HT_.out (by kernel_rfl)) ?_
           try go_wp2
           go_ret
           exact ⟨by first | rfl | (simp [errW_none, errW_some] <;> rfl) | (simp only [← hji8]; first | rfl | (simp [errW_none, errW_some] <;> rfl)) | (simp [*, errW_none, errW_some] <;> rfl), bl_⟩
         ·rw [if_neg c10] at H
          exact absurd H (by simp)
        ·rw [if_neg c9] at H
         exact absurd H (by simp)
       ·rw [if_neg c7] at H
        have c7b0 : decide (0 < x7_1) = false := decide_eq_false c7
        clear c7
        have H' := Aside0.mk H
        clear H
        have p132 : 0 ≤ (x7_1 : Int) := od_
        have q132 : x7_1 < (l0.length : Int) := od_
        obtain ⟨ad132, e132, hx132_0, hx132_1, hx132_2⟩ := at_T116 HR0.out x7_1 p132 q132
        cases e132
        replace hx132_0 := kc_ HB hx132_0
        replace hx132_1 := kc_ HB hx132_1
        replace hx132_2 := kc_ HB hx132_2
        replace p132 := eq_true p132
        replace q132 := eq_true q132
        try go_wp2_with (first | ((with_reducible refine gate_dst (N := 4) rfl ?_); refine be_ (N := 4) (cs := #[.string (⟨#[]⟩ : ByteArray), .int .i64 0, .int .i64 0]) (t := 116) ?_; intro gb133 hg w22 hbox hb; have BK133 := Aside0.mk (hbox); have GW133 := gw_ (w := w) hg; have GE133 := gw_ (w := w) hg; replace HB := Aside0.mk (below_step bl_ hb); clear hb hbox hg; obtain ⟨hcz23_0, hcz23_1, hcz23_2, hfz23_0, hfz23_1, hfz23_2⟩ := bx3_ BK133))
        have n0_ : Aside0 ((((w22.setCell ⟨gb133, 0, none⟩ (.string ((rd_T116 l0 x7_1).f0))).setCell ⟨gb133, 1, none⟩ (.int .i64 ((rd_T116 l0 x7_1).f1))).setCell ⟨gb133, 2, none⟩ (.int .i64 ((rd_T116 l0 x7_1).f2))).heap[gb133]? = some (.cells #[.string ((rd_T116 l0 x7_1).f0), .int .i64 ((rd_T116 l0 x7_1).f1), .int .i64 ((rd_T116 l0 x7_1).f2)] 116 (0, 0))) := ⟨by (with_reducible repeat (first | refine blk_drewN ?_ _ | refine blk_drew ?_ | refine blk_alloc ?_ _)); apply bq3_2_1_0_; (with_reducible repeat (first | refine blk_drewN ?_ _ | refine blk_drew ?_ | refine blk_alloc ?_ _)); exact BK133.out⟩
        have n1_ : Aside0 (Below w.heap.size w (((w22.setCell ⟨gb133, 0, none⟩ (.string ((rd_T116 l0 x7_1).f0))).setCell ⟨gb133, 1, none⟩ (.int .i64 ((rd_T116 l0 x7_1).f1))).setCell ⟨gb133, 2, none⟩ (.int .i64 ((rd_T116 l0 x7_1).f2)))) := ⟨bl_⟩
        (try clear BK133)
        (try clear HB)
        generalize (((w22.setCell ⟨gb133, 0, none⟩ (.string ((rd_T116 l0 x7_1).f0))).setCell ⟨gb133, 1, none⟩ (.int .i64 ((rd_T116 l0 x7_1).f1))).setCell ⟨gb133, 2, none⟩ (.int .i64 ((rd_T116 l0 x7_1).f2))) = w24 at n0_ n1_ ⊢
        have BK133 := n0_
        have HB := n1_
        clear n0_ n1_
        have n0_ := Aside0.mk (blk_drew BK133.out)
        have n1_ := Aside0.mk (below_drew1 HB.out)
        clear BK133
        clear HB
        have BK133 := n0_
        have HB := n1_
        clear n0_ n1_
        refine start_ (n := 18) (S := fun w' => w'.cell? ⟨gb133, 0, none⟩ = some (.string ((rd_T116 l0 x7_1).f0)) ∧ w'.cell? ⟨gb133, 1, none⟩ = some (.int .i64 ((rd_T116 l0 x7_1).f1)) ∧ w'.cell? ⟨gb133, 2, none⟩ = some (.int .i64 ((rd_T116 l0 x7_1).f2))) (ds := []) tb18_0_3 (by kernel_rfl) rfl rfl ⟨cy_ BK133 0, cy_ BK133 1, cy_ BK133 2⟩ (fun hHeld => ?_); refine with_tabW spec_HoldsOk.tab4 spec_HoldsOk.bits4 (fun HT_ HW_ => ?_)
        generalize w24.drew = w25 at BK133 HB hHeld ⊢
        refine take_ (i := 0) (N := some 12) (v := ?_) (a' := ?_) tb18_1_3 rfl rfl (take_ofW HT_.out HW_.out (by kernel_rfl)) (fun _ _ _ h => h) (Or.inl ⟨by rfl, ?_⟩) hHeld ?_ ?_
        rotate_left
        ·rintro w' ⟨s0, s1, s2⟩
         go_simp
         with_reducible rfl
        rotate_left
        ·simp only [Act.put, q_]
         rfl
        refine one_ (i := 1) (N := some 13) tb18_3_3 rfl rfl (one_of HT_.out (by kernel_rfl)) (by decide) (fun K hK => ?_)
        refine goes_ Tryd.func160 (by kernel_rfl) rfl #[.agg #[.string ((rd_T116 l0 x7_1).f0), .int .i64 ((rd_T116 l0 x7_1).f1), .int .i64 ((rd_T116 l0 x7_1).f2)]] (by rfl) rfl rfl gl_ ?_
        with_reducible refine (spec_HoldOk.calls k1 ((rd_T116 l0 x7_1).f0) ((rd_T116 l0 x7_1).f1) ((rd_T116 l0 x7_1).f2) true _ A5.out).mono ?_
        rintro e w26 ⟨rfl, hb⟩
        refine ⟨_, rfl, ?_⟩
        have n0_ := Aside0.mk (blk_below (bk_ BK133) hb)
        have n1_ := Aside0.mk (below_step bl_ hb)
        clear BK133
        clear HB
        have BK133 := n0_
        have HB := n1_
        clear n0_ n1_
        (try clear hb)
        (try clear hb2)
        (try clear hk)
        (try clear hi)
        refine hK.out _ _ ⟨cy_ BK133 0, cy_ BK133 1, cy_ BK133 2⟩ (fun hHeld => ?_)
        clear hK K
        refine norm_ (a' := ?_) ?_ ?_
        rotate_left
        ·show Act.put _ (some 13) _ = _
         simp only [Act.put, q_]
         rfl
        refine pl_ HT_ 2 14 tb18_7_3 ?_
        refine pl_ HT_ 3 15 tb18_f_3 ?_
        refine pl_ HT_ 4 16 tb18_1f_3 ?_
        refine pl_ HT_ 5 17 tb18_3f_3 ?_
        refine pl_ HT_ 6 18 tb18_7f_3 ?_
        refine pr_ HT_ 7 19 tb18_ff_3 ?_
        refine pr_ HT_ 8 20 tb18_1ff_3 ?_
        refine pr_ HT_ 9 21 tb18_3ff_3 ?_
        refine pr_ HT_ 10 22 tb18_7ff_3 ?_
        refine pr_ HT_ 11 23 tb18_fff_3 ?_
        refine pr_ HT_ 12 24 tb18_1fff_3 ?_
        refine pr_ HT_ 13 25 tb18_3fff_3 ?_
        refine pr_ HT_ 14 26 tb18_7fff_3 ?_
        refine pr_ HT_ 15 27 tb18_ffff_3 ?_
        refine pl_ HT_ 16 28 tb18_1ffff_3 ?_
        refine pl_ HT_ 17 29 tb18_3ffff_3 ?_
        refine done_ (done_of HT_.out (by kernel_rfl)) ?_
        try go_wp2
        go_roundg k1
        case measure => have := HK1.out; omega
        case rel => exact ⟨(wrap64 (x7_1 + 1)), sp_, H', ⟨by have := HK1.out; omega⟩, ⟨bl_⟩⟩
      ·replace c6 := Bool.eq_false_iff.mpr c6
       subst c6
       replace H := in_ H
       obtain rfl := Option.some.inj H
       have p132 : 0 ≤ (x7_1 : Int) := od_
       have q132 : x7_1 < (l0.length : Int) := od_
       obtain ⟨ad132, e132, hx132_0, hx132_1, hx132_2⟩ := at_T116 HR0.out x7_1 p132 q132
       cases e132
       replace hx132_0 := kc_ HB hx132_0
       replace hx132_1 := kc_ HB hx132_1
       replace hx132_2 := kc_ HB hx132_2
       replace p132 := eq_true p132
       replace q132 := eq_true q132
       try go_wp2_with (first | ((with_reducible refine gate_dst (N := 4) rfl ?_); refine be_ (N := 4) (cs := #[.string (⟨#[]⟩ : ByteArray), .int .i64 0, .int .i64 0]) (t := 116) ?_; intro gb133 hg w27 hbox hb; have BK133 := Aside0.mk (hbox); have GW133 := gw_ (w := w) hg; have GE133 := gw_ (w := w) hg; replace HB := Aside0.mk (below_step bl_ hb); clear hb hbox hg; obtain ⟨hcz28_0, hcz28_1, hcz28_2, hfz28_0, hfz28_1, hfz28_2⟩ := bx3_ BK133))
       have n0_ : Aside0 ((((w27.setCell ⟨gb133, 0, none⟩ (.string ((rd_T116 l0 x7_1).f0))).setCell ⟨gb133, 1, none⟩ (.int .i64 ((rd_T116 l0 x7_1).f1))).setCell ⟨gb133, 2, none⟩ (.int .i64 ((rd_T116 l0 x7_1).f2))).heap[gb133]? = some (.cells #[.string ((rd_T116 l0 x7_1).f0), .int .i64 ((rd_T116 l0 x7_1).f1), .int .i64 ((rd_T116 l0 x7_1).f2)] 116 (0, 0))) := ⟨by (with_reducible repeat (first | refine blk_drewN ?_ _ | refine blk_drew ?_ | refine blk_alloc ?_ _)); apply bq3_2_1_0_; (with_reducible repeat (first | refine blk_drewN ?_ _ | refine blk_drew ?_ | refine blk_alloc ?_ _)); exact BK133.out⟩
       have n1_ : Aside0 (Below w.heap.size w (((w27.setCell ⟨gb133, 0, none⟩ (.string ((rd_T116 l0 x7_1).f0))).setCell ⟨gb133, 1, none⟩ (.int .i64 ((rd_T116 l0 x7_1).f1))).setCell ⟨gb133, 2, none⟩ (.int .i64 ((rd_T116 l0 x7_1).f2)))) := ⟨bl_⟩
       (try clear BK133)
       (try clear HB)
       generalize (((w27.setCell ⟨gb133, 0, none⟩ (.string ((rd_T116 l0 x7_1).f0))).setCell ⟨gb133, 1, none⟩ (.int .i64 ((rd_T116 l0 x7_1).f1))).setCell ⟨gb133, 2, none⟩ (.int .i64 ((rd_T116 l0 x7_1).f2))) = w29 at n0_ n1_ ⊢
       have BK133 := n0_
       have HB := n1_
       clear n0_ n1_
       have n0_ := Aside0.mk (blk_drew BK133.out)
       have n1_ := Aside0.mk (below_drew1 HB.out)
       clear BK133
       clear HB
       have BK133 := n0_
       have HB := n1_
       clear n0_ n1_
       refine start_ (n := 18) (S := fun w' => w'.cell? ⟨gb133, 0, none⟩ = some (.string ((rd_T116 l0 x7_1).f0)) ∧ w'.cell? ⟨gb133, 1, none⟩ = some (.int .i64 ((rd_T116 l0 x7_1).f1)) ∧ w'.cell? ⟨gb133, 2, none⟩ = some (.int .i64 ((rd_T116 l0 x7_1).f2))) (ds := []) tb18_0_3 (by kernel_rfl) rfl rfl ⟨cy_ BK133 0, cy_ BK133 1, cy_ BK133 2⟩ (fun hHeld => ?_); refine with_tabW spec_HoldsOk.tab4 spec_HoldsOk.bits4 (fun HT_ HW_ => ?_)
       generalize w29.drew = w30 at BK133 HB hHeld ⊢
       refine take_ (i := 0) (N := some 12) (v := ?_) (a' := ?_) tb18_1_3 rfl rfl (take_ofW HT_.out HW_.out (by kernel_rfl)) (fun _ _ _ h => h) (Or.inl ⟨by rfl, ?_⟩) hHeld ?_ ?_
       rotate_left
       ·rintro w' ⟨s0, s1, s2⟩
        go_simp
        with_reducible rfl
       rotate_left
       ·simp only [Act.put, q_]
        rfl
       refine one_ (i := 1) (N := some 13) tb18_3_3 rfl rfl (one_of HT_.out (by kernel_rfl)) (by decide) (fun K hK => ?_)
       refine goes_ Tryd.func160 (by kernel_rfl) rfl #[.agg #[.string ((rd_T116 l0 x7_1).f0), .int .i64 ((rd_T116 l0 x7_1).f1), .int .i64 ((rd_T116 l0 x7_1).f2)]] (by rfl) rfl rfl gl_ ?_
       with_reducible refine (spec_HoldOk.calls k1 ((rd_T116 l0 x7_1).f0) ((rd_T116 l0 x7_1).f1) ((rd_T116 l0 x7_1).f2) false _ A5.out).mono ?_
       rintro e w31 ⟨rfl, hb⟩
       refine ⟨_, rfl, ?_⟩
       have n0_ := Aside0.mk (blk_below (bk_ BK133) hb)
       have n1_ := Aside0.mk (below_step bl_ hb)
       clear BK133
       clear HB
       have BK133 := n0_
       have HB := n1_
       clear n0_ n1_
       (try clear hb)
       (try clear hb2)
       (try clear hk)
       (try clear hi)
       refine hK.out _ _ ⟨cy_ BK133 0, cy_ BK133 1, cy_ BK133 2⟩ (fun hHeld => ?_)
       clear hK K
       refine norm_ (a' := ?_) ?_ ?_
       rotate_left
       ·show Act.put _ (some 13) _ = _
        simp only [Act.put, q_]
        rfl
       refine pl_ HT_ 2 14 tb18_7_3 ?_
       refine pl_ HT_ 3 15 tb18_f_3 ?_
       refine pr_ HT_ 4 16 tb18_1f_3 ?_
       refine pr_ HT_ 5 17 tb18_3f_3 ?_
       refine pr_ HT_ 6 18 tb18_7f_3 ?_
       refine pr_ HT_ 7 19 tb18_ff_3 ?_
       refine pr_ HT_ 8 20 tb18_1ff_3 ?_
       refine pr_ HT_ 9 21 tb18_3ff_3 ?_
       refine pr_ HT_ 10 22 tb18_7ff_3 ?_
       refine pr_ HT_ 11 23 tb18_fff_3 ?_
       refine pr_ HT_ 12 24 tb18_1fff_3 ?_
       refine pr_ HT_ 13 25 tb18_3fff_3 ?_
       refine pr_ HT_ 14 26 tb18_7fff_3 ?_
       refine pr_ HT_ 15 27 tb18_ffff_3 ?_
       refine pr_ HT_ 16 28 tb18_1ffff_3 ?_
       refine pl_ HT_ 17 29 tb18_3ffff_3 ?_
       refine done_ (done_of HT_.out (by kernel_rfl)) ?_
       try go_wp2
       go_ret
       exact ⟨sq_, bl_⟩
     ·rw [if_neg c4] at H
      exact absurd H (by simp)
    ·rw [if_neg c3] at H
     exact absurd H (by simp)
   ·rw [if_neg c2] at H
    have c2b0 : decide (x7_1 < (l0.length : Int)) = false := decide_eq_false c2
    clear c2
    obtain rfl := Option.some.inj H
    go_wp2
    go_ret
    exact ⟨sq_, bl_⟩
end Go.Proofs.YtbjpfknmkpnhjaaDoor.QFnMoney
