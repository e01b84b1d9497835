-- by my own printer (myprint.py, over the kit's print.py)
import Derived.Test.YtepjnalkpfnmcaaQFnExactHoldPutx0
import Derived.Test.YtepjnalkpfnmcaaQFnExactHoldPutx6
namespace Go.Proofs.Ytepjnalkpfnmcaa.QFnExactHoldPut
open Go.RowKit Go.Proofs.YtepjnalkpfnmcaaW.PrintWords Go.Proofs.YtepjnalkpfnmcaaW.PrintLast Go.Proofs.YtepjnalkpfnmcaaW.PrintMore
attribute [local go_sem] max2_int min2_int max_two min_two max_three min_three max_four min_four   -- for this text's walks alone
set_option linter.unusedVariables false
set_option linter.unusedSimpArgs false
attribute [local go_sem] my_geq my_leq my_gtr
abbrev tb18_0_7 : Array Bool := #[b0, b0, b0, b0, b0, b0, b0, b0, b0, b0, b0, b0, b0, b0, b0, b0, b0, b0]
abbrev tb18_1_7 : Array Bool := #[b1, b0, b0, b0, b0, b0, b0, b0, b0, b0, b0, b0, b0, b0, b0, b0, b0, b0]
abbrev tb18_1eff_7 : Array Bool := #[b1, b1, b1, b1, b1, b1, b1, b1, b0, b1, b1, b1, b1, b0, b0, b0, b0, b0]
abbrev tb18_1f_7 : Array Bool := #[b1, b1, b1, b1, b1, b0, b0, b0, b0, b0, b0, b0, b0, b0, b0, b0, b0, b0]
abbrev tb18_1ff_7 : Array Bool := #[b1, b1, b1, b1, b1, b1, b1, b1, b1, b0, b0, b0, b0, b0, b0, b0, b0, b0]
abbrev tb18_1fff_7 : Array Bool := #[b1, b1, b1, b1, b1, b1, b1, b1, b1, b1, b1, b1, b1, b0, b0, b0, b0, b0]
abbrev tb18_1ffff_7 : Array Bool := #[b1, b1, b1, b1, b1, b1, b1, b1, b1, b1, b1, b1, b1, b1, b1, b1, b1, b0]
abbrev tb18_2ff_7 : Array Bool := #[b1, b1, b1, b1, b1, b1, b1, b1, b0, b1, b0, b0, b0, b0, b0, b0, b0, b0]
abbrev tb18_3_7 : Array Bool := #[b1, b1, b0, b0, b0, b0, b0, b0, b0, b0, b0, b0, b0, b0, b0, b0, b0, b0]
abbrev tb18_3eff_7 : Array Bool := #[b1, b1, b1, b1, b1, b1, b1, b1, b0, b1, b1, b1, b1, b1, b0, b0, b0, b0]
abbrev tb18_3f_7 : Array Bool := #[b1, b1, b1, b1, b1, b1, b0, b0, b0, b0, b0, b0, b0, b0, b0, b0, b0, b0]
abbrev tb18_3ff_7 : Array Bool := #[b1, b1, b1, b1, b1, b1, b1, b1, b1, b1, b0, b0, b0, b0, b0, b0, b0, b0]
abbrev tb18_3fff_7 : Array Bool := #[b1, b1, b1, b1, b1, b1, b1, b1, b1, b1, b1, b1, b1, b1, b0, b0, b0, b0]
abbrev tb18_3ffff_7 : Array Bool := #[b1, b1, b1, b1, b1, b1, b1, b1, b1, b1, b1, b1, b1, b1, b1, b1, b1, b1]
abbrev tb18_6ff_7 : Array Bool := #[b1, b1, b1, b1, b1, b1, b1, b1, b0, b1, b1, b0, b0, b0, b0, b0, b0, b0]
abbrev tb18_7_7 : Array Bool := #[b1, b1, b1, b0, b0, b0, b0, b0, b0, b0, b0, b0, b0, b0, b0, b0, b0, b0]
abbrev tb18_7f_7 : Array Bool := #[b1, b1, b1, b1, b1, b1, b1, b0, b0, b0, b0, b0, b0, b0, b0, b0, b0, b0]
abbrev tb18_7ff_7 : Array Bool := #[b1, b1, b1, b1, b1, b1, b1, b1, b1, b1, b1, b0, b0, b0, b0, b0, b0, b0]
abbrev tb18_7fff_7 : Array Bool := #[b1, b1, b1, b1, b1, b1, b1, b1, b1, b1, b1, b1, b1, b1, b1, b0, b0, b0]
abbrev tb18_eff_7 : Array Bool := #[b1, b1, b1, b1, b1, b1, b1, b1, b0, b1, b1, b1, b0, b0, b0, b0, b0, b0]
abbrev tb18_f_7 : Array Bool := #[b1, b1, b1, b1, b0, b0, b0, b0, b0, b0, b0, b0, b0, b0, b0, b0, b0, b0]
abbrev tb18_ff_7 : Array Bool := #[b1, b1, b1, b1, b1, b1, b1, b1, b0, b0, b0, b0, b0, b0, b0, b0, b0, b0]
abbrev tb18_fff_7 : Array Bool := #[b1, b1, b1, b1, b1, b1, b1, b1, b1, b1, b1, b1, b0, b0, b0, b0, b0, b0]
abbrev tb18_ffff_7 : Array Bool := #[b1, b1, b1, b1, b1, b1, b1, b1, b1, b1, b1, b1, b1, b1, b1, b1, b0, b0]
/-! ### impl_HoldsOk: function 125 -/
def impl_HoldsOk.l0 : Nat → List (S93) → List (S93) → Int → Int → Option (Bool)
 | 0, _, _, _, _ => none
 | k + 1, x0, x5, x6, x7 => if x7 < x6 then (if 0 ≤ x7 then (if x7 < (x5.length : Int) then ((impl_HoldOk.f k ((rd_T93 x5 x7).f0) ((rd_T93 x5 x7).f1) ((rd_T93 x5 x7).f2)).bind fun t177 => (if t177 = true then (if x7 > 0 then (if 0 ≤ (wrap64 (x7 - 1)) then (if (wrap64 (x7 - 1)) < (x0.length : Int) then (if ((Op.bytesLess (((rd_T93 x0 (wrap64 (x7 - 1))).f0).toList) (((rd_T93 x5 x7).f0).toList)) = true) then (impl_HoldsOk.l0 k x0 x5 x6 (wrap64 (x7 + 1))) else (some false)) else (none)) else (none)) else (impl_HoldsOk.l0 k x0 x5 x6 (wrap64 (x7 + 1)))) else (some false))) else (none)) else (none)) else (some (decide ((x0.length : Int) ≤ 4)))
def impl_HoldsOk.f (k : Nat) (l0 : List (S93)) : Option (Bool) := impl_HoldsOk.l0 k l0 l0 (l0.length : Int) 0
def impl_HoldsOk.T4 : Bool × List (List Nat × List Nat) := (true, [([], []), ([0], [0]), ([1], [1]), ([2, 1], [2]), ([3], [3]), ([4, 3], [3, 4]), ([5, 3, 3], [3, 5]), ([6], [6]), ([7, 6], [6, 7]), ([6], [6]), ([6], [6]), ([10, 6], [6, 10]), ([9, 11, 6], [6, 9, 11]), ([12, 6], [6, 12]), ([13, 6], [6, 13]), ([8, 14, 6], [6, 8, 14]), ([6, 15, 3], [3, 6, 15]), ([3, 16], [3, 16])])
def impl_HoldsOk.B4 : List Nat := [0, 1, 3, 7, 15, 31, 63, 127, 255, 127, 127, 1151, 3711, 7807, 15999, 32767, 65535, 131071]
theorem impl_HoldsOk.tab4 : rtab .any (opsOf Try.f125 4) = impl_HoldsOk.T4 := by kernel_rfl
theorem impl_HoldsOk.bits4 : waitsOk impl_HoldsOk.T4.2 impl_HoldsOk.B4 = true := by kernel_rfl
set_option maxHeartbeats 8000000 in
set_option maxRecDepth 100000 in
theorem impl_HoldsOk.calls (k : Nat) (A0 : Option Addr) (c0 : Nat) (l0 : List (S93)) (r : Bool) (w : World) (hr0 : Kd.C k93 w A0 l0.length l0) (hc0 : l0.length ≤ c0) (h : impl_HoldsOk.f k l0 = some r) :
  Calls Try.prog 125 #[.slice A0 l0.length c0] w fun e w' => e = .returned (.bool r) ∧ Below w.heap.size w w' := by
 have hu93 := Try.underlying93
 have HR0 := Aside0.mk hr0
 have HC0 := Aside0.mk hc0
 clear hr0 hc0
 have HB := Aside0.mk (Below.refl w.heap.size w)
 have H : (impl_HoldsOk.l0 k l0 l0 (l0.length : Int) 0) = some r := h
 clear h
 have H' := Aside0.mk H
 clear H
 go_enter Try.func125, Try.ntmps125
 go_wp2
 go_loopg [7] k (fun kq v7 w' => ∃ (x7_1 : Int), v7 = .int .i64 x7_1 ∧ Aside0 (impl_HoldsOk.l0 kq l0 l0 (l0.length : Int) x7_1 = some r) ∧ Aside0 (kq ≤ k) ∧ Aside0 (Below w.heap.size w w'))
 case atStart => exact ⟨(0), sp_, H', ⟨Nat.le_refl _⟩, ⟨bl_⟩⟩
 case round =>
  clear H'
  try clear c1
  obtain ⟨x7_1, rfl, HA, HK1, HB⟩ := hrel
  cases gk with
  | zero => exact absurd HA.out (by simp [impl_HoldsOk.l0])
  | succ k1 =>
   have H := HA.out
   clear HA
   simp only [impl_HoldsOk.l0] at H
   by_cases c2 : x7_1 < (l0.length : Int)
   ·rw [if_pos c2] at H
    have c2b0 : decide (x7_1 < (l0.length : Int)) = true := decide_eq_true c2
    clear c2
    by_cases c3 : 0 ≤ x7_1
    ·rw [if_pos c3] at H
     have c3b0 : decide (0 ≤ x7_1) = true := decide_eq_true c3
     clear c3
     by_cases c4 : x7_1 < (l0.length : Int)
     ·rw [if_pos c4] at H
      have c4b0 : decide (x7_1 < (l0.length : Int)) = true := decide_eq_true c4
      clear c4
      obtain ⟨t177, A5, H⟩ := ob_ H
      by_cases c6 : t177 = true
      ·subst c6
       replace H := ip_ H
       by_cases c7 : x7_1 > 0
       ·rw [if_pos c7] at H
        have c7b0 : decide (0 < x7_1) = true := decide_eq_true c7
        clear c7
        obtain ⟨ji8, hji8⟩ : ∃ j_ : Int, (wrap64 (x7_1 - 1)) = j_ := ⟨_, rfl⟩
        replace H : (if 0 ≤ (ji8) then (if (ji8) < (l0.length : Int) then (if ((Op.bytesLess (((rd_T93 l0 (ji8)).f0).toList) (((rd_T93 l0 x7_1).f0).toList)) = true) then (impl_HoldsOk.l0 k1 l0 l0 (l0.length : Int) (wrap64 (x7_1 + 1))) else (some false)) else (none)) else (none)) = some r := by first | (rw [hji8] at H; exact H) | (simp only [hji8] at H ⊢; exact H)
        (try rw [hji8] at A5)
        have hji8w : (IntKind.i64.wrap (x7_1 - 1)) = ji8 := (i64_w _).trans hji8
        by_cases c9 : 0 ≤ (ji8)
        ·rw [if_pos c9] at H
         have c9b0 : decide (0 ≤ (ji8)) = true := decide_eq_true c9
         clear c9
         by_cases c10 : (ji8) < (l0.length : Int)
         ·rw [if_pos c10] at H
          have c10b0 : decide ((ji8) < (l0.length : Int)) = true := decide_eq_true c10
          clear c10
          by_cases c11 : ((Op.bytesLess (((rd_T93 l0 (ji8)).f0).toList) (((rd_T93 l0 x7_1).f0).toList)) = true)
          ·rw [if_pos c11] at H
           have c11b0 : (Op.bytesLess (((rd_T93 l0 (ji8)).f0).toList) (((rd_T93 l0 x7_1).f0).toList)) = true := c11
           clear c11
           have H' := Aside0.mk H
           clear H
           have p175 : 0 ≤ (x7_1 : Int) := od_
           have q175 : x7_1 < (l0.length : Int) := od_
           obtain ⟨ad175, e175, hx175_0, hx175_1, hx175_2⟩ := at_T93 HR0.out x7_1 p175 q175
           cases e175
           replace hx175_0 := kc_ HB hx175_0
           replace hx175_1 := kc_ HB hx175_1
           replace hx175_2 := kc_ HB hx175_2
           replace p175 := eq_true p175
           replace q175 := eq_true q175
           try go_wp2_with (first | ((with_reducible refine gate_dst (N := 4) rfl ?_); refine be_ (N := 4) (cs := #[.string (⟨#[]⟩ : ByteArray), .int .i64 0, .int .i64 0]) (t := 93) ?_; intro gb176 hg w12 hbox hb; have BK176 := Aside0.mk (hbox); have GW176 := gw_ (w := w) hg; have GE176 := gw_ (w := w) hg; replace HB := Aside0.mk (below_step bl_ hb); clear hb hbox hg; obtain ⟨hcz13_0, hcz13_1, hcz13_2, hfz13_0, hfz13_1, hfz13_2⟩ := bx3_ BK176))
           have n0_ : Aside0 ((((w12.setCell ⟨gb176, 0, none⟩ (.string ((rd_T93 l0 x7_1).f0))).setCell ⟨gb176, 1, none⟩ (.int .i64 ((rd_T93 l0 x7_1).f1))).setCell ⟨gb176, 2, none⟩ (.int .i64 ((rd_T93 l0 x7_1).f2))).heap[gb176]? = some (.cells #[.string ((rd_T93 l0 x7_1).f0), .int .i64 ((rd_T93 l0 x7_1).f1), .int .i64 ((rd_T93 l0 x7_1).f2)] 93 (0, 0))) := ⟨by (with_reducible repeat (first | refine blk_drewN ?_ _ | refine blk_drew ?_ | refine blk_alloc ?_ _)); apply bq3_2_1_0_; (with_reducible repeat (first | refine blk_drewN ?_ _ | refine blk_drew ?_ | refine blk_alloc ?_ _)); exact BK176.out⟩
           have n1_ : Aside0 (Below w.heap.size w (((w12.setCell ⟨gb176, 0, none⟩ (.string ((rd_T93 l0 x7_1).f0))).setCell ⟨gb176, 1, none⟩ (.int .i64 ((rd_T93 l0 x7_1).f1))).setCell ⟨gb176, 2, none⟩ (.int .i64 ((rd_T93 l0 x7_1).f2)))) := ⟨bl_⟩
           (try clear BK176)
           (try clear HB)
           generalize (((w12.setCell ⟨gb176, 0, none⟩ (.string ((rd_T93 l0 x7_1).f0))).setCell ⟨gb176, 1, none⟩ (.int .i64 ((rd_T93 l0 x7_1).f1))).setCell ⟨gb176, 2, none⟩ (.int .i64 ((rd_T93 l0 x7_1).f2))) = w14 at n0_ n1_ ⊢
           have BK176 := n0_
           have HB := n1_
           clear n0_ n1_
           have n0_ := Aside0.mk (blk_drew BK176.out)
           have n1_ := Aside0.mk (below_drew1 HB.out)
           clear BK176
           clear HB
           have BK176 := n0_
           have HB := n1_
           clear n0_ n1_
           have p178 : 0 ≤ ((ji8) : Int) := od_
           have q178 : (ji8) < (l0.length : Int) := od_
           obtain ⟨ad178, e178, hx178_0, hx178_1, hx178_2⟩ := at_T93 HR0.out (ji8) p178 q178
           have hw178_2 := hx178_2
           have hw178_1 := hx178_1
           have hw178_0 := hx178_0
           obtain rfl : ad175 = ad178 := (by injection e178)
           replace hx178_0 := kc_ HB hx178_0
           replace hx178_1 := kc_ HB hx178_1
           replace hx178_2 := kc_ HB hx178_2
           replace p178 := eq_true p178
           replace q178 := eq_true q178
           refine start_ (n := 18) (S := fun w' => w'.cell? ⟨gb176, 0, none⟩ = some (.string ((rd_T93 l0 x7_1).f0)) ∧ w'.cell? ⟨gb176, 1, none⟩ = some (.int .i64 ((rd_T93 l0 x7_1).f1)) ∧ w'.cell? ⟨gb176, 2, none⟩ = some (.int .i64 ((rd_T93 l0 x7_1).f2)) ∧ w'.cell? (ad175.add (((ji8)).toNat * 3)) = some (.string ((rd_T93 l0 (ji8)).f0)) ∧ w'.cell? ⟨(ad175.add (((ji8)).toNat * 3)).block, (ad175.add (((ji8)).toNat * 3)).off + 1, none⟩ = some (.int .i64 ((rd_T93 l0 (ji8)).f1)) ∧ w'.cell? ⟨(ad175.add (((ji8)).toNat * 3)).block, (ad175.add (((ji8)).toNat * 3)).off + 2, none⟩ = some (.int .i64 ((rd_T93 l0 (ji8)).f2))) (ds := []) tb18_0_7 (by kernel_rfl) rfl rfl ⟨cy_ BK176 0, cy_ BK176 1, cy_ BK176 2, (kc_ HB hw178_0), (kc_ HB hw178_1), (kc_ HB hw178_2)⟩ (fun hHeld => ?_); refine with_tabW impl_HoldsOk.tab4 impl_HoldsOk.bits4 (fun HT_ HW_ => ?_)
           generalize w14.drew = w15 at BK176 HB hx178_0 hx178_1 hx178_2 hHeld ⊢
           refine take_ (i := 0) (N := some 12) (v := ?_) (a' := ?_) tb18_1_7 rfl rfl (take_ofW HT_.out HW_.out (by kernel_rfl)) (fun _ _ _ h => h) (Or.inl ⟨by rfl, ?_⟩) hHeld ?_ ?_
           rotate_left
           ·rintro w' ⟨s0, s1, s2, s3, s4, s5⟩
            go_simp
            with_reducible rfl
           rotate_left
           ·simp only [Act.put, q_]
            rfl
           refine one_ (i := 1) (N := some 13) tb18_3_7 rfl rfl (one_of HT_.out (by kernel_rfl)) (by decide) (fun K hK => ?_)
           refine goes_ Try.func167 (by kernel_rfl) rfl #[.agg #[.string ((rd_T93 l0 x7_1).f0), .int .i64 ((rd_T93 l0 x7_1).f1), .int .i64 ((rd_T93 l0 x7_1).f2)]] (by rfl) rfl rfl gl_ ?_
           with_reducible refine (impl_HoldOk.calls k1 ((rd_T93 l0 x7_1).f0) ((rd_T93 l0 x7_1).f1) ((rd_T93 l0 x7_1).f2) true _ A5.out).mono ?_
           rintro e w16 ⟨rfl, hb⟩
           refine ⟨_, rfl, ?_⟩
           have n0_ := Aside0.mk (blk_below (bk_ BK176) hb)
           have n1_ := Aside0.mk (below_step bl_ hb)
           clear BK176
           clear HB
           have BK176 := n0_
           have HB := n1_
           clear n0_ n1_
           (try clear hb)
           (try clear hb2)
           (try clear hk)
           (try clear hi)
           refine hK.out _ _ ⟨cy_ BK176 0, cy_ BK176 1, cy_ BK176 2, (kc_ HB hw178_0), (kc_ HB hw178_1), (kc_ HB hw178_2)⟩ (fun hHeld => ?_)
           clear hK K
           refine norm_ (a' := ?_) ?_ ?_
           rotate_left
           ·show Act.put _ (some 13) _ = _
            simp only [Act.put, q_]
            rfl
           refine pl_ HT_ 2 14 tb18_7_7 ?_
           refine pl_ HT_ 3 15 tb18_f_7 ?_
           refine pl_ HT_ 4 16 tb18_1f_7 ?_
           refine pl_ HT_ 5 17 tb18_3f_7 ?_
           refine pl_ HT_ 6 18 tb18_7f_7 ?_
           refine pl_ HT_ 7 19 tb18_ff_7 ?_
           refine pl_ HT_ 9 21 tb18_2ff_7 ?_
           refine pl_ HT_ 10 22 tb18_6ff_7 ?_
           refine pl_ HT_ 11 23 tb18_eff_7 ?_
           refine pl_ HT_ 12 24 tb18_1eff_7 ?_
           refine pl_ HT_ 13 25 tb18_3eff_7 ?_
           refine take_ (i := 8) (N := some 20) (v := ?_) (a' := ?_) tb18_3fff_7 rfl rfl (take_ofW HT_.out HW_.out (by kernel_rfl)) (fun _ _ _ h => h) (Or.inl ⟨by rfl, ?_⟩) hHeld ?_ ?_
           rotate_left
           ·rintro w' ⟨s0, s1, s2, s3, s4, s5⟩
            go_simp
            with_reducible rfl
           rotate_left
           ·simp only [Act.put, q_]
            rfl
           refine take_ (i := 14) (N := some 26) (v := ?_) (a' := ?_) tb18_7fff_7 rfl rfl (take_ofW HT_.out HW_.out (by kernel_rfl)) (fun _ _ _ h => h) (Or.inl ⟨by rfl, ?_⟩) hHeld ?_ ?_
           rotate_left
           ·rintro w' ⟨s0, s1, s2, s3, s4, s5⟩
            go_simp
            with_reducible rfl
           rotate_left
           ·simp only [Act.put, q_]
            rfl
           refine pl_ HT_ 15 27 tb18_ffff_7 ?_
           refine pl_ HT_ 16 28 tb18_1ffff_7 ?_
           refine pl_ HT_ 17 29 tb18_3ffff_7 ?_
           refine done_ (done_of HT_.out (by kernel_rfl)) ?_
           try go_wp2
           go_roundg k1
           case measure => have := HK1.out; omega
           case rel => exact ⟨(wrap64 (x7_1 + 1)), sp_, H', ⟨by have := HK1.out; omega⟩, ⟨bl_⟩⟩
          ·rw [if_neg c11] at H
           have c11b0 : (Op.bytesLess (((rd_T93 l0 (ji8)).f0).toList) (((rd_T93 l0 x7_1).f0).toList)) = false := by simpa using c11
           clear c11
           obtain rfl := Option.some.inj H
           have p175 : 0 ≤ (x7_1 : Int) := od_
           have q175 : x7_1 < (l0.length : Int) := od_
           obtain ⟨ad175, e175, hx175_0, hx175_1, hx175_2⟩ := at_T93 HR0.out x7_1 p175 q175
           cases e175
           replace hx175_0 := kc_ HB hx175_0
           replace hx175_1 := kc_ HB hx175_1
           replace hx175_2 := kc_ HB hx175_2
           replace p175 := eq_true p175
           replace q175 := eq_true q175
           try go_wp2_with (first | ((with_reducible refine gate_dst (N := 4) rfl ?_); refine be_ (N := 4) (cs := #[.string (⟨#[]⟩ : ByteArray), .int .i64 0, .int .i64 0]) (t := 93) ?_; intro gb176 hg w17 hbox hb; have BK176 := Aside0.mk (hbox); have GW176 := gw_ (w := w) hg; have GE176 := gw_ (w := w) hg; replace HB := Aside0.mk (below_step bl_ hb); clear hb hbox hg; obtain ⟨hcz18_0, hcz18_1, hcz18_2, hfz18_0, hfz18_1, hfz18_2⟩ := bx3_ BK176))
           have n0_ : Aside0 ((((w17.setCell ⟨gb176, 0, none⟩ (.string ((rd_T93 l0 x7_1).f0))).setCell ⟨gb176, 1, none⟩ (.int .i64 ((rd_T93 l0 x7_1).f1))).setCell ⟨gb176, 2, none⟩ (.int .i64 ((rd_T93 l0 x7_1).f2))).heap[gb176]? = some (.cells #[.string ((rd_T93 l0 x7_1).f0), .int .i64 ((rd_T93 l0 x7_1).f1), .int .i64 ((rd_T93 l0 x7_1).f2)] 93 (0, 0))) := ⟨by (with_reducible repeat (first | refine blk_drewN ?_ _ | refine blk_drew ?_ | refine blk_alloc ?_ _)); apply bq3_2_1_0_; (with_reducible repeat (first | refine blk_drewN ?_ _ | refine blk_drew ?_ | refine blk_alloc ?_ _)); exact BK176.out⟩
           have n1_ : Aside0 (Below w.heap.size w (((w17.setCell ⟨gb176, 0, none⟩ (.string ((rd_T93 l0 x7_1).f0))).setCell ⟨gb176, 1, none⟩ (.int .i64 ((rd_T93 l0 x7_1).f1))).setCell ⟨gb176, 2, none⟩ (.int .i64 ((rd_T93 l0 x7_1).f2)))) := ⟨bl_⟩
           (try clear BK176)
           (try clear HB)
           generalize (((w17.setCell ⟨gb176, 0, none⟩ (.string ((rd_T93 l0 x7_1).f0))).setCell ⟨gb176, 1, none⟩ (.int .i64 ((rd_T93 l0 x7_1).f1))).setCell ⟨gb176, 2, none⟩ (.int .i64 ((rd_T93 l0 x7_1).f2))) = w19 at n0_ n1_ ⊢
           have BK176 := n0_
           have HB := n1_
           clear n0_ n1_
           have n0_ := Aside0.mk (blk_drew BK176.out)
           have n1_ := Aside0.mk (below_drew1 HB.out)
           clear BK176
           clear HB
           have BK176 := n0_
           have HB := n1_
           clear n0_ n1_
           have p178 : 0 ≤ ((ji8) : Int) := od_
           have q178 : (ji8) < (l0.length : Int) := od_
           obtain ⟨ad178, e178, hx178_0, hx178_1, hx178_2⟩ := at_T93 HR0.out (ji8) p178 q178
           have hw178_2 := hx178_2
           have hw178_1 := hx178_1
           have hw178_0 := hx178_0
           obtain rfl : ad175 = ad178 := (by injection e178)
           replace hx178_0 := kc_ HB hx178_0
           replace hx178_1 := kc_ HB hx178_1
           replace hx178_2 := kc_ HB hx178_2
           replace p178 := eq_true p178
           replace q178 := eq_true q178
           refine start_ (n := 18) (S := fun w' => w'.cell? ⟨gb176, 0, none⟩ = some (.string ((rd_T93 l0 x7_1).f0)) ∧ w'.cell? ⟨gb176, 1, none⟩ = some (.int .i64 ((rd_T93 l0 x7_1).f1)) ∧ w'.cell? ⟨gb176, 2, none⟩ = some (.int .i64 ((rd_T93 l0 x7_1).f2)) ∧ w'.cell? (ad175.add (((ji8)).toNat * 3)) = some (.string ((rd_T93 l0 (ji8)).f0)) ∧ w'.cell? ⟨(ad175.add (((ji8)).toNat * 3)).block, (ad175.add (((ji8)).toNat * 3)).off + 1, none⟩ = some (.int .i64 ((rd_T93 l0 (ji8)).f1)) ∧ w'.cell? ⟨(ad175.add (((ji8)).toNat * 3)).block, (ad175.add (((ji8)).toNat * 3)).off + 2, none⟩ = some (.int .i64 ((rd_T93 l0 (ji8)).f2))) (ds := []) tb18_0_7 (by kernel_rfl) rfl rfl ⟨cy_ BK176 0, cy_ BK176 1, cy_ BK176 2, (kc_ HB hw178_0), (kc_ HB hw178_1), (kc_ HB hw178_2)⟩ (fun hHeld => ?_); refine with_tabW impl_HoldsOk.tab4 impl_HoldsOk.bits4 (fun HT_ HW_ => ?_)
           generalize w19.drew = w20 at BK176 HB hx178_0 hx178_1 hx178_2 hHeld ⊢
           refine take_ (i := 0) (N := some 12) (v := ?_) (a' := ?_) tb18_1_7 rfl rfl (take_ofW HT_.out HW_.out (by kernel_rfl)) (fun _ _ _ h => h) (Or.inl ⟨by rfl, ?_⟩) hHeld ?_ ?_
           rotate_left
           ·rintro w' ⟨s0, s1, s2, s3, s4, s5⟩
            go_simp
            with_reducible rfl
           rotate_left
           ·simp only [Act.put, q_]
            rfl
           refine one_ (i := 1) (N := some 13) tb18_3_7 rfl rfl (one_of HT_.out (by kernel_rfl)) (by decide) (fun K hK => ?_)
           refine goes_ Try.func167 (by kernel_rfl) rfl #[.agg #[.string ((rd_T93 l0 x7_1).f0), .int .i64 ((rd_T93 l0 x7_1).f1), .int .i64 ((rd_T93 l0 x7_1).f2)]] (by rfl) rfl rfl gl_ ?_
           with_reducible refine (impl_HoldOk.calls k1 ((rd_T93 l0 x7_1).f0) ((rd_T93 l0 x7_1).f1) ((rd_T93 l0 x7_1).f2) true _ A5.out).mono ?_
           rintro e w21 ⟨rfl, hb⟩
           refine ⟨_, rfl, ?_⟩
           have n0_ := Aside0.mk (blk_below (bk_ BK176) hb)
           have n1_ := Aside0.mk (below_step bl_ hb)
           clear BK176
           clear HB
           have BK176 := n0_
           have HB := n1_
           clear n0_ n1_
           (try clear hb)
           (try clear hb2)
           (try clear hk)
           (try clear hi)
           refine hK.out _ _ ⟨cy_ BK176 0, cy_ BK176 1, cy_ BK176 2, (kc_ HB hw178_0), (kc_ HB hw178_1), (kc_ HB hw178_2)⟩ (fun hHeld => ?_)
           clear hK K
           refine norm_ (a' := ?_) ?_ ?_
           rotate_left
           ·show Act.put _ (some 13) _ = _
            simp only [Act.put, q_]
            rfl
           refine pl_ HT_ 2 14 tb18_7_7 ?_
           refine pl_ HT_ 3 15 tb18_f_7 ?_
           refine pl_ HT_ 4 16 tb18_1f_7 ?_
           refine pl_ HT_ 5 17 tb18_3f_7 ?_
           refine pl_ HT_ 6 18 tb18_7f_7 ?_
           refine pl_ HT_ 7 19 tb18_ff_7 ?_
           refine pl_ HT_ 9 21 tb18_2ff_7 ?_
           refine pl_ HT_ 10 22 tb18_6ff_7 ?_
           refine pl_ HT_ 11 23 tb18_eff_7 ?_
           refine pl_ HT_ 12 24 tb18_1eff_7 ?_
           refine pl_ HT_ 13 25 tb18_3eff_7 ?_
           refine take_ (i := 8) (N := some 20) (v := ?_) (a' := ?_) tb18_3fff_7 rfl rfl (take_ofW HT_.out HW_.out (by kernel_rfl)) (fun _ _ _ h => h) (Or.inl ⟨by rfl, ?_⟩) hHeld ?_ ?_
           rotate_left
           ·rintro w' ⟨s0, s1, s2, s3, s4, s5⟩
            go_simp
            with_reducible rfl
           rotate_left
           ·simp only [Act.put, q_]
            rfl
           refine take_ (i := 14) (N := some 26) (v := ?_) (a' := ?_) tb18_7fff_7 rfl rfl (take_ofW HT_.out HW_.out (by kernel_rfl)) (fun _ _ _ h => h) (Or.inl ⟨by rfl, ?_⟩) hHeld ?_ ?_
           rotate_left
           ·rintro w' ⟨s0, s1, s2, s3, s4, s5⟩
            go_simp
            with_reducible rfl
           rotate_left
           ·simp only [Act.put, q_]
            rfl
           refine pl_ HT_ 15 27 tb18_ffff_7 ?_
           refine pl_ HT_ 16 28 tb18_1ffff_7 ?_
           refine pl_ HT_ 17 29 tb18_3ffff_7 ?_
           refine done_ (done_of HT_.out (by kernel_rfl)) ?_
           try go_wp2
           go_ret
           exact ⟨by first | rfl | (simp [errW_none, errW_some] <;> rfl) | (simp only [← hji8]; first | rfl | (simp [errW_none, errW_some] <;> rfl)) | (simp [*, errW_none, errW_some] <;> rfl), bl_⟩
         ·rw [if_neg c10] at H
          exact absurd H (by simp)
        ·rw [if_neg c9] at H
         exact absurd H (by simp)
       ·rw [if_neg c7] at H
        have c7b0 : decide (0 < x7_1) = false := decide_eq_false c7
        clear c7
        have H' := Aside0.mk H
        clear H
        have p175 : 0 ≤ (x7_1 : Int) := od_
        have q175 : x7_1 < (l0.length : Int) := od_
        obtain ⟨ad175, e175, hx175_0, hx175_1, hx175_2⟩ := at_T93 HR0.out x7_1 p175 q175
        cases e175
        replace hx175_0 := kc_ HB hx175_0
        replace hx175_1 := kc_ HB hx175_1
        replace hx175_2 := kc_ HB hx175_2
        replace p175 := eq_true p175
        replace q175 := eq_true q175
        try go_wp2_with (first | ((with_reducible refine gate_dst (N := 4) rfl ?_); refine be_ (N := 4) (cs := #[.string (⟨#[]⟩ : ByteArray), .int .i64 0, .int .i64 0]) (t := 93) ?_; intro gb176 hg w22 hbox hb; have BK176 := Aside0.mk (hbox); have GW176 := gw_ (w := w) hg; have GE176 := gw_ (w := w) hg; replace HB := Aside0.mk (below_step bl_ hb); clear hb hbox hg; obtain ⟨hcz23_0, hcz23_1, hcz23_2, hfz23_0, hfz23_1, hfz23_2⟩ := bx3_ BK176))
        have n0_ : Aside0 ((((w22.setCell ⟨gb176, 0, none⟩ (.string ((rd_T93 l0 x7_1).f0))).setCell ⟨gb176, 1, none⟩ (.int .i64 ((rd_T93 l0 x7_1).f1))).setCell ⟨gb176, 2, none⟩ (.int .i64 ((rd_T93 l0 x7_1).f2))).heap[gb176]? = some (.cells #[.string ((rd_T93 l0 x7_1).f0), .int .i64 ((rd_T93 l0 x7_1).f1), .int .i64 ((rd_T93 l0 x7_1).f2)] 93 (0, 0))) := ⟨by (with_reducible repeat (first | refine blk_drewN ?_ _ | refine blk_drew ?_ | refine blk_alloc ?_ _)); apply bq3_2_1_0_; (with_reducible repeat (first | refine blk_drewN ?_ _ | refine blk_drew ?_ | refine blk_alloc ?_ _)); exact BK176.out⟩
        have n1_ : Aside0 (Below w.heap.size w (((w22.setCell ⟨gb176, 0, none⟩ (.string ((rd_T93 l0 x7_1).f0))).setCell ⟨gb176, 1, none⟩ (.int .i64 ((rd_T93 l0 x7_1).f1))).setCell ⟨gb176, 2, none⟩ (.int .i64 ((rd_T93 l0 x7_1).f2)))) := ⟨bl_⟩
        (try clear BK176)
        (try clear HB)
        generalize (((w22.setCell ⟨gb176, 0, none⟩ (.string ((rd_T93 l0 x7_1).f0))).setCell ⟨gb176, 1, none⟩ (.int .i64 ((rd_T93 l0 x7_1).f1))).setCell ⟨gb176, 2, none⟩ (.int .i64 ((rd_T93 l0 x7_1).f2))) = w24 at n0_ n1_ ⊢
        have BK176 := n0_
        have HB := n1_
        clear n0_ n1_
        have n0_ := Aside0.mk (blk_drew BK176.out)
        have n1_ := Aside0.mk (below_drew1 HB.out)
        clear BK176
        clear HB
        have BK176 := n0_
        have HB := n1_
        clear n0_ n1_
        refine start_ (n := 18) (S := fun w' => w'.cell? ⟨gb176, 0, none⟩ = some (.string ((rd_T93 l0 x7_1).f0)) ∧ w'.cell? ⟨gb176, 1, none⟩ = some (.int .i64 ((rd_T93 l0 x7_1).f1)) ∧ w'.cell? ⟨gb176, 2, none⟩ = some (.int .i64 ((rd_T93 l0 x7_1).f2))) (ds := []) tb18_0_7 (by kernel_rfl) rfl rfl ⟨cy_ BK176 0, cy_ BK176 1, cy_ BK176 2⟩ (fun hHeld => ?_); refine with_tabW impl_HoldsOk.tab4 impl_HoldsOk.bits4 (fun HT_ HW_ => ?_)
        generalize w24.drew = w25 at BK176 HB hHeld ⊢
        refine take_ (i := 0) (N := some 12) (v := ?_) (a' := ?_) tb18_1_7 rfl rfl (take_ofW HT_.out HW_.out (by kernel_rfl)) (fun _ _ _ h => h) (Or.inl ⟨by rfl, ?_⟩) hHeld ?_ ?_
        rotate_left
        ·rintro w' ⟨s0, s1, s2⟩
         go_simp
         with_reducible rfl
        rotate_left
        ·simp only [Act.put, q_]
         rfl
        refine one_ (i := 1) (N := some 13) tb18_3_7 rfl rfl (one_of HT_.out (by kernel_rfl)) (by decide) (fun K hK => ?_)
        refine goes_ Try.func167 (by kernel_rfl) rfl #[.agg #[.string ((rd_T93 l0 x7_1).f0), .int .i64 ((rd_T93 l0 x7_1).f1), .int .i64 ((rd_T93 l0 x7_1).f2)]] (by rfl) rfl rfl gl_ ?_
        with_reducible refine (impl_HoldOk.calls k1 ((rd_T93 l0 x7_1).f0) ((rd_T93 l0 x7_1).f1) ((rd_T93 l0 x7_1).f2) true _ A5.out).mono ?_
        rintro e w26 ⟨rfl, hb⟩
        refine ⟨_, rfl, ?_⟩
        have n0_ := Aside0.mk (blk_below (bk_ BK176) hb)
        have n1_ := Aside0.mk (below_step bl_ hb)
        clear BK176
        clear HB
        have BK176 := n0_
        have HB := n1_
        clear n0_ n1_
        (try clear hb)
        (try clear hb2)
        (try clear hk)
        (try clear hi)
        refine hK.out _ _ ⟨cy_ BK176 0, cy_ BK176 1, cy_ BK176 2⟩ (fun hHeld => ?_)
        clear hK K
        refine norm_ (a' := ?_) ?_ ?_
        rotate_left
        ·show Act.put _ (some 13) _ = _
         simp only [Act.put, q_]
         rfl
        refine pl_ HT_ 2 14 tb18_7_7 ?_
        refine pl_ HT_ 3 15 tb18_f_7 ?_
        refine pl_ HT_ 4 16 tb18_1f_7 ?_
        refine pl_ HT_ 5 17 tb18_3f_7 ?_
        refine pl_ HT_ 6 18 tb18_7f_7 ?_
        refine pr_ HT_ 7 19 tb18_ff_7 ?_
        refine pr_ HT_ 8 20 tb18_1ff_7 ?_
        refine pr_ HT_ 9 21 tb18_3ff_7 ?_
        refine pr_ HT_ 10 22 tb18_7ff_7 ?_
        refine pr_ HT_ 11 23 tb18_fff_7 ?_
        refine pr_ HT_ 12 24 tb18_1fff_7 ?_
        refine pr_ HT_ 13 25 tb18_3fff_7 ?_
        refine pr_ HT_ 14 26 tb18_7fff_7 ?_
        refine pr_ HT_ 15 27 tb18_ffff_7 ?_
        refine pl_ HT_ 16 28 tb18_1ffff_7 ?_
        refine pl_ HT_ 17 29 tb18_3ffff_7 ?_
        refine done_ (done_of HT_.out (by kernel_rfl)) ?_
        try go_wp2
        go_roundg k1
        case measure => have := HK1.out; omega
        case rel => exact ⟨(wrap64 (x7_1 + 1)), sp_, H', ⟨by have := HK1.out; omega⟩, ⟨bl_⟩⟩
      ·replace c6 := Bool.eq_false_iff.mpr c6
       subst c6
       replace H := in_ H
       obtain rfl := Option.some.inj H
       have p175 : 0 ≤ (x7_1 : Int) := od_
       have q175 : x7_1 < (l0.length : Int) := od_
       obtain ⟨ad175, e175, hx175_0, hx175_1, hx175_2⟩ := at_T93 HR0.out x7_1 p175 q175
       cases e175
       replace hx175_0 := kc_ HB hx175_0
       replace hx175_1 := kc_ HB hx175_1
       replace hx175_2 := kc_ HB hx175_2
       replace p175 := eq_true p175
       replace q175 := eq_true q175
       try go_wp2_with (first | ((with_reducible refine gate_dst (N := 4) rfl ?_); refine be_ (N := 4) (cs := #[.string (⟨#[]⟩ : ByteArray), .int .i64 0, .int .i64 0]) (t := 93) ?_; intro gb176 hg w27 hbox hb; have BK176 := Aside0.mk (hbox); have GW176 := gw_ (w := w) hg; have GE176 := gw_ (w := w) hg; replace HB := Aside0.mk (below_step bl_ hb); clear hb hbox hg; obtain ⟨hcz28_0, hcz28_1, hcz28_2, hfz28_0, hfz28_1, hfz28_2⟩ := bx3_ BK176))
       have n0_ : Aside0 ((((w27.setCell ⟨gb176, 0, none⟩ (.string ((rd_T93 l0 x7_1).f0))).setCell ⟨gb176, 1, none⟩ (.int .i64 ((rd_T93 l0 x7_1).f1))).setCell ⟨gb176, 2, none⟩ (.int .i64 ((rd_T93 l0 x7_1).f2))).heap[gb176]? = some (.cells #[.string ((rd_T93 l0 x7_1).f0), .int .i64 ((rd_T93 l0 x7_1).f1), .int .i64 ((rd_T93 l0 x7_1).f2)] 93 (0, 0))) := ⟨by (with_reducible repeat (first | refine blk_drewN ?_ _ | refine blk_drew ?_ | refine blk_alloc ?_ _)); apply bq3_2_1_0_; (with_reducible repeat (first | refine blk_drewN ?_ _ | refine blk_drew ?_ | refine blk_alloc ?_ _)); exact BK176.out⟩
       have n1_ : Aside0 (Below w.heap.size w (((w27.setCell ⟨gb176, 0, none⟩ (.string ((rd_T93 l0 x7_1).f0))).setCell ⟨gb176, 1, none⟩ (.int .i64 ((rd_T93 l0 x7_1).f1))).setCell ⟨gb176, 2, none⟩ (.int .i64 ((rd_T93 l0 x7_1).f2)))) := ⟨bl_⟩
       (try clear BK176)
       (try clear HB)
       generalize (((w27.setCell ⟨gb176, 0, none⟩ (.string ((rd_T93 l0 x7_1).f0))).setCell ⟨gb176, 1, none⟩ (.int .i64 ((rd_T93 l0 x7_1).f1))).setCell ⟨gb176, 2, none⟩ (.int .i64 ((rd_T93 l0 x7_1).f2))) = w29 at n0_ n1_ ⊢
       have BK176 := n0_
       have HB := n1_
       clear n0_ n1_
       have n0_ := Aside0.mk (blk_drew BK176.out)
       have n1_ := Aside0.mk (below_drew1 HB.out)
       clear BK176
       clear HB
       have BK176 := n0_
       have HB := n1_
       clear n0_ n1_
       refine start_ (n := 18) (S := fun w' => w'.cell? ⟨gb176, 0, none⟩ = some (.string ((rd_T93 l0 x7_1).f0)) ∧ w'.cell? ⟨gb176, 1, none⟩ = some (.int .i64 ((rd_T93 l0 x7_1).f1)) ∧ w'.cell? ⟨gb176, 2, none⟩ = some (.int .i64 ((rd_T93 l0 x7_1).f2))) (ds := []) tb18_0_7 (by kernel_rfl) rfl rfl ⟨cy_ BK176 0, cy_ BK176 1, cy_ BK176 2⟩ (fun hHeld => ?_); refine with_tabW impl_HoldsOk.tab4 impl_HoldsOk.bits4 (fun HT_ HW_ => ?_)
       generalize w29.drew = w30 at BK176 HB hHeld ⊢
       refine take_ (i := 0) (N := some 12) (v := ?_) (a' := ?_) tb18_1_7 rfl rfl (take_ofW HT_.out HW_.out (by kernel_rfl)) (fun _ _ _ h => h) (Or.inl ⟨by rfl, ?_⟩) hHeld ?_ ?_
       rotate_left
       ·rintro w' ⟨s0, s1, s2⟩
        go_simp
        with_reducible rfl
       rotate_left
       ·simp only [Act.put, q_]
        rfl
       refine one_ (i := 1) (N := some 13) tb18_3_7 rfl rfl (one_of HT_.out (by kernel_rfl)) (by decide) (fun K hK => ?_)
       refine goes_ Try.func167 (by kernel_rfl) rfl #[.agg #[.string ((rd_T93 l0 x7_1).f0), .int .i64 ((rd_T93 l0 x7_1).f1), .int .i64 ((rd_T93 l0 x7_1).f2)]] (by rfl) rfl rfl gl_ ?_
       with_reducible refine (impl_HoldOk.calls k1 ((rd_T93 l0 x7_1).f0) ((rd_T93 l0 x7_1).f1) ((rd_T93 l0 x7_1).f2) false _ A5.out).mono ?_
       rintro e w31 ⟨rfl, hb⟩
       refine ⟨_, rfl, ?_⟩
       have n0_ := Aside0.mk (blk_below (bk_ BK176) hb)
       have n1_ := Aside0.mk (below_step bl_ hb)
       clear BK176
       clear HB
       have BK176 := n0_
       have HB := n1_
       clear n0_ n1_
       (try clear hb)
       (try clear hb2)
       (try clear hk)
       (try clear hi)
       refine hK.out _ _ ⟨cy_ BK176 0, cy_ BK176 1, cy_ BK176 2⟩ (fun hHeld => ?_)
       clear hK K
       refine norm_ (a' := ?_) ?_ ?_
       rotate_left
       ·show Act.put _ (some 13) _ = _
        simp only [Act.put, q_]
        rfl
       refine pl_ HT_ 2 14 tb18_7_7 ?_
       refine pl_ HT_ 3 15 tb18_f_7 ?_
       refine pr_ HT_ 4 16 tb18_1f_7 ?_
       refine pr_ HT_ 5 17 tb18_3f_7 ?_
       refine pr_ HT_ 6 18 tb18_7f_7 ?_
       refine pr_ HT_ 7 19 tb18_ff_7 ?_
       refine pr_ HT_ 8 20 tb18_1ff_7 ?_
       refine pr_ HT_ 9 21 tb18_3ff_7 ?_
       refine pr_ HT_ 10 22 tb18_7ff_7 ?_
       refine pr_ HT_ 11 23 tb18_fff_7 ?_
       refine pr_ HT_ 12 24 tb18_1fff_7 ?_
       refine pr_ HT_ 13 25 tb18_3fff_7 ?_
       refine pr_ HT_ 14 26 tb18_7fff_7 ?_
       refine pr_ HT_ 15 27 tb18_ffff_7 ?_
       refine pr_ HT_ 16 28 tb18_1ffff_7 ?_
       refine pl_ HT_ 17 29 tb18_3ffff_7 ?_
       refine done_ (done_of HT_.out (by kernel_rfl)) ?_
       try go_wp2
       go_ret
       exact ⟨sq_, bl_⟩
     ·rw [if_neg c4] at H
      exact absurd H (by simp)
    ·rw [if_neg c3] at H
     exact absurd H (by simp)
   ·rw [if_neg c2] at H
    have c2b0 : decide (x7_1 < (l0.length : Int)) = false := decide_eq_false c2
    clear c2
    obtain rfl := Option.some.inj H
    go_wp2
    go_ret
    exact ⟨sq_, bl_⟩
-- NOT PRINTED: function 168 (impl_Hold_168)
end Go.Proofs.Ytepjnalkpfnmcaa.QFnExactHoldPut
