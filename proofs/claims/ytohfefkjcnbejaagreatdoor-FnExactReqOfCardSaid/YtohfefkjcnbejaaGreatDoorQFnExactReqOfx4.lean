-- by my own printer (myprint.py, over the kit's print.py)
import Derived.Test.YtohfefkjcnbejaaGreatDoorQFnExactReqOfx0
import Derived.Test.YtohfefkjcnbejaaGreatDoorQFnExactReqOfx1
import Derived.Test.YtohfefkjcnbejaaGreatDoorQFnExactReqOfx3
namespace Go.Proofs.YtohfefkjcnbejaaGreatDoor.QFnExactReqOf
open Go.RowKit Go.Proofs.YtohfefkjcnbejaaGreatDoorW.PrintWords Go.Proofs.YtohfefkjcnbejaaGreatDoorW.PrintLast Go.Proofs.YtohfefkjcnbejaaGreatDoorW.PrintMore
attribute [local go_sem] max2_int min2_int max_two min_two max_three min_three max_four min_four   -- for this text's walks alone
set_option linter.unusedVariables false
set_option linter.unusedSimpArgs false
attribute [local go_sem] my_geq my_leq my_gtr
abbrev tb11_0_4 : Array Bool := #[b0, b0, b0, b0, b0, b0, b0, b0, b0, b0, b0]
abbrev tb11_1_4 : Array Bool := #[b1, b0, b0, b0, b0, b0, b0, b0, b0, b0, b0]
abbrev tb11_1bf_4 : Array Bool := #[b1, b1, b1, b1, b1, b1, b0, b1, b1, b0, b0]
abbrev tb11_1f_4 : Array Bool := #[b1, b1, b1, b1, b1, b0, b0, b0, b0, b0, b0]
abbrev tb11_1ff_4 : Array Bool := #[b1, b1, b1, b1, b1, b1, b1, b1, b1, b0, b0]
abbrev tb11_3f_4 : Array Bool := #[b1, b1, b1, b1, b1, b1, b0, b0, b0, b0, b0]
abbrev tb11_3ff_4 : Array Bool := #[b1, b1, b1, b1, b1, b1, b1, b1, b1, b1, b0]
abbrev tb11_5_4 : Array Bool := #[b1, b0, b1, b0, b0, b0, b0, b0, b0, b0, b0]
abbrev tb11_7_4 : Array Bool := #[b1, b1, b1, b0, b0, b0, b0, b0, b0, b0, b0]
abbrev tb11_7f_4 : Array Bool := #[b1, b1, b1, b1, b1, b1, b1, b0, b0, b0, b0]
abbrev tb11_7ff_4 : Array Bool := #[b1, b1, b1, b1, b1, b1, b1, b1, b1, b1, b1]
abbrev tb11_bf_4 : Array Bool := #[b1, b1, b1, b1, b1, b1, b0, b1, b0, b0, b0]
abbrev tb11_f_4 : Array Bool := #[b1, b1, b1, b1, b0, b0, b0, b0, b0, b0, b0]
abbrev tb11_ff_4 : Array Bool := #[b1, b1, b1, b1, b1, b1, b1, b1, b0, b0, b0]
/-! ### spec_l11Which: function 39 -/
def spec_l11Which.l0 : Nat → ByteArray → ByteArray → Int → Option (Int)
 | 0, _, _, _ => none
 | k + 1, x0, x1, x5 => if x5 ≤ 8 then ((spec_OpMti.f x5).bind fun t139 => (if t139.toList = x0.toList then ((spec_OpCode.f x5).bind fun t140 => (if 0 ≤ 2 then (if 2 ≤ (x1.size : Int) then (if t140.toList = (x1.extract 0 2).toList then (some x5) else (spec_l11Which.l0 k x0 x1 (wrap64 (x5 + 1)))) else (none)) else (none))) else (spec_l11Which.l0 k x0 x1 (wrap64 (x5 + 1))))) else (some 0)
def spec_l11Which.f (k : Nat) (a0 : ByteArray) (a1 : ByteArray) : Option (Int) := spec_l11Which.l0 k a0 a1 1
def spec_l11Which.T4 : Bool × List (List Nat × List Nat) := (true, [([], []), ([0], [0]), ([], []), ([1, 2], [1, 2]), ([3, 1], [3]), ([4], [4]), ([5, 4, 4], [4, 5]), ([4], [4]), ([7, 4], [4, 7]), ([6, 8, 4], [4, 6, 8]), ([4, 9], [4, 9])])
def spec_l11Which.B4 : List Nat := [0, 1, 0, 7, 15, 31, 63, 31, 159, 511, 1023]
theorem spec_l11Which.tab4 : rtab .any (opsOf Tryz.f39 4) = spec_l11Which.T4 := by kernel_rfl
theorem spec_l11Which.bits4 : waitsOk spec_l11Which.T4.2 spec_l11Which.B4 = true := by kernel_rfl
set_option maxHeartbeats 8000000 in
set_option maxRecDepth 100000 in
theorem spec_l11Which.calls (k : Nat) (a0 : ByteArray) (a1 : ByteArray) (r : Int) (w : World) (h : spec_l11Which.f k a0 a1 = some r) :
  Calls Tryz.prog 39 #[.string a0, .string a1] w fun e w' => e = .returned (.int .i64 r) ∧ Below w.heap.size w w' := by
 have HB := Aside0.mk (Below.refl w.heap.size w)
 have H : (spec_l11Which.l0 k a0 a1 1) = some r := h
 clear h
 have H' := Aside0.mk H
 clear H
 go_enter Tryz.func39, Tryz.ntmps39
 go_wp2
 go_loopg [5] k (fun kq v5 w' => ∃ (x5_1 : Int), v5 = .int .i64 x5_1 ∧ Aside0 (spec_l11Which.l0 kq a0 a1 x5_1 = some r) ∧ Aside0 (kq ≤ k) ∧ Aside0 (Below w.heap.size w w'))
 case atStart => exact ⟨(1), sp_, H', ⟨Nat.le_refl _⟩, ⟨bl_⟩⟩
 case round =>
  clear H'
  try clear p2
  obtain ⟨x5_1, rfl, HA, HK1, HB⟩ := hrel
  cases gk with
  | zero => exact absurd HA.out (by simp [spec_l11Which.l0])
  | succ k1 =>
   have H := HA.out
   clear HA
   simp only [spec_l11Which.l0] at H
   by_cases c3 : x5_1 ≤ 8
   ·rw [if_pos c3] at H
    have c3b0 : decide (x5_1 ≤ 8) = true := decide_eq_true c3
    clear c3
    obtain ⟨t139, A4, H⟩ := ob_ H
    by_cases c5 : t139.toList = a0.toList
    ·rw [if_pos c5] at H
     have c5b0 : (t139.toList == a0.toList) = true := beq_iff_eq.mpr c5
     have c5b1 : (t139.toList != a0.toList) = false := bne_eq_false_iff_eq.mpr c5
     clear c5
     obtain ⟨t140, A6, H⟩ := ob_ H
     by_cases c7 : 0 ≤ 2
     ·rw [if_pos c7] at H
      have c7b0 := eq_true c7
      have c7b1 : decide (0 ≤ 2) = true := decide_eq_true c7
      clear c7
      by_cases c8 : 2 ≤ (a1.size : Int)
      ·rw [if_pos c8] at H
       have c8b0 := eq_true c8
       have c8b1 : decide (2 ≤ (a1.size : Int)) = true := decide_eq_true c8
       clear c8
       by_cases c9 : t140.toList = (a1.extract 0 2).toList
       ·rw [if_pos c9] at H
        have c9b0 : (t140.toList == (a1.extract 0 2).toList) = true := beq_iff_eq.mpr c9
        have c9b1 : (t140.toList != (a1.extract 0 2).toList) = false := bne_eq_false_iff_eq.mpr c9
        clear c9
        obtain rfl := Option.some.inj H
        try go_wp2
        have n0_ := Aside0.mk (below_drew1 HB.out)
        clear HB
        have HB := n0_
        clear n0_
        refine start_ (n := 11) (S := fun w' => True) (ds := []) tb11_0_4 (by kernel_rfl) rfl rfl trivial (fun hHeld => ?_); refine with_tabW spec_l11Which.tab4 spec_l11Which.bits4 (fun HT_ HW_ => ?_)
        generalize wr.drew = w10 at HB hHeld ⊢
        refine pl_ HT_ 0 10 tb11_1_4 ?_
        refine pl_ HT_ 2 12 tb11_5_4 ?_
        refine one_ (i := 1) (N := some 11) tb11_7_4 rfl rfl (one_of HT_.out (by kernel_rfl)) (by decide) (fun K hK => ?_)
        refine goes_ Tryz.func78 (by kernel_rfl) rfl #[.int .i64 x5_1] (by rfl) rfl rfl gl_ ?_
        with_reducible refine (spec_OpMti.calls x5_1 t139 _ A4.out).mono ?_
        rintro e w11 ⟨rfl, hb⟩
        refine ⟨_, rfl, ?_⟩
        have n0_ := Aside0.mk (below_step bl_ hb)
        clear HB
        have HB := n0_
        clear n0_
        (try clear hb)
        (try clear hb2)
        (try clear hk)
        (try clear hi)
        refine hK.out _ _ trivial (fun hHeld => ?_)
        clear hK K
        refine norm_ (a' := ?_) ?_ ?_
        rotate_left
        ·show Act.put _ (some 11) _ = _
         simp only [Act.put, q_]
         rfl
        refine pl_ HT_ 3 13 tb11_f_4 ?_
        refine pl_ HT_ 4 14 tb11_1f_4 ?_
        refine pl_ HT_ 5 15 tb11_3f_4 ?_
        refine pl_ HT_ 7 17 tb11_bf_4 ?_
        refine pl_ HT_ 8 18 tb11_1bf_4 ?_
        refine one_ (i := 6) (N := some 16) tb11_1ff_4 rfl rfl (one_of HT_.out (by kernel_rfl)) (by decide) (fun K hK => ?_)
        refine goes_ Tryz.func79 (by kernel_rfl) rfl #[.int .i64 x5_1] (by rfl) rfl rfl gl_ ?_
        with_reducible refine (spec_OpCode.calls x5_1 t140 _ A6.out).mono ?_
        rintro e w12 ⟨rfl, hb⟩
        refine ⟨_, rfl, ?_⟩
        have n0_ := Aside0.mk (below_step bl_ hb)
        clear HB
        have HB := n0_
        clear n0_
        (try clear hb)
        (try clear hb2)
        (try clear hk)
        (try clear hi)
        refine hK.out _ _ trivial (fun hHeld => ?_)
        clear hK K
        refine norm_ (a' := ?_) ?_ ?_
        rotate_left
        ·show Act.put _ (some 16) _ = _
         simp only [Act.put, q_]
         rfl
        refine pl_ HT_ 9 19 tb11_3ff_4 ?_
        refine pl_ HT_ 10 20 tb11_7ff_4 ?_
        refine done_ (done_of HT_.out (by kernel_rfl)) ?_
        try go_wp2
        go_ret
        exact ⟨sq_, bl_⟩
       ·rw [if_neg c9] at H
        have c9b0 : (t140.toList == (a1.extract 0 2).toList) = false := beq_eq_false_iff_ne.mpr c9
        have c9b1 : (t140.toList != (a1.extract 0 2).toList) = true := bne_iff_ne.mpr c9
        have H' := Aside0.mk H
        clear H
        try go_wp2
        have n0_ := Aside0.mk (below_drew1 HB.out)
        clear HB
        have HB := n0_
        clear n0_
        refine start_ (n := 11) (S := fun w' => True) (ds := []) tb11_0_4 (by kernel_rfl) rfl rfl trivial (fun hHeld => ?_); refine with_tabW spec_l11Which.tab4 spec_l11Which.bits4 (fun HT_ HW_ => ?_)
        generalize wr.drew = w13 at HB hHeld ⊢
        refine pl_ HT_ 0 10 tb11_1_4 ?_
        refine pl_ HT_ 2 12 tb11_5_4 ?_
        refine one_ (i := 1) (N := some 11) tb11_7_4 rfl rfl (one_of HT_.out (by kernel_rfl)) (by decide) (fun K hK => ?_)
        refine goes_ Tryz.func78 (by kernel_rfl) rfl #[.int .i64 x5_1] (by rfl) rfl rfl gl_ ?_
        with_reducible refine (spec_OpMti.calls x5_1 t139 _ A4.out).mono ?_
        rintro e w14 ⟨rfl, hb⟩
        refine ⟨_, rfl, ?_⟩
        have n0_ := Aside0.mk (below_step bl_ hb)
        clear HB
        have HB := n0_
        clear n0_
        (try clear hb)
        (try clear hb2)
        (try clear hk)
        (try clear hi)
        refine hK.out _ _ trivial (fun hHeld => ?_)
        clear hK K
        refine norm_ (a' := ?_) ?_ ?_
        rotate_left
        ·show Act.put _ (some 11) _ = _
         simp only [Act.put, q_]
         rfl
        refine pl_ HT_ 3 13 tb11_f_4 ?_
        refine pl_ HT_ 4 14 tb11_1f_4 ?_
        refine pl_ HT_ 5 15 tb11_3f_4 ?_
        refine pl_ HT_ 7 17 tb11_bf_4 ?_
        refine pl_ HT_ 8 18 tb11_1bf_4 ?_
        refine one_ (i := 6) (N := some 16) tb11_1ff_4 rfl rfl (one_of HT_.out (by kernel_rfl)) (by decide) (fun K hK => ?_)
        refine goes_ Tryz.func79 (by kernel_rfl) rfl #[.int .i64 x5_1] (by rfl) rfl rfl gl_ ?_
        with_reducible refine (spec_OpCode.calls x5_1 t140 _ A6.out).mono ?_
        rintro e w15 ⟨rfl, hb⟩
        refine ⟨_, rfl, ?_⟩
        have n0_ := Aside0.mk (below_step bl_ hb)
        clear HB
        have HB := n0_
        clear n0_
        (try clear hb)
        (try clear hb2)
        (try clear hk)
        (try clear hi)
        refine hK.out _ _ trivial (fun hHeld => ?_)
        clear hK K
        refine norm_ (a' := ?_) ?_ ?_
        rotate_left
        ·show Act.put _ (some 16) _ = _
         simp only [Act.put, q_]
         rfl
        refine pl_ HT_ 9 19 tb11_3ff_4 ?_
        refine pl_ HT_ 10 20 tb11_7ff_4 ?_
        refine done_ (done_of HT_.out (by kernel_rfl)) ?_
        try go_wp2
        go_roundg k1
        case measure => have := HK1.out; omega
        case rel => exact ⟨(wrap64 (x5_1 + 1)), sp_, H', ⟨by have := HK1.out; omega⟩, ⟨bl_⟩⟩
      ·rw [if_neg c8] at H
       exact absurd H (by simp)
     ·rw [if_neg c7] at H
      exact absurd H (by simp)
    ·rw [if_neg c5] at H
     have c5b0 : (t139.toList == a0.toList) = false := beq_eq_false_iff_ne.mpr c5
     have c5b1 : (t139.toList != a0.toList) = true := bne_iff_ne.mpr c5
     have H' := Aside0.mk H
     clear H
     try go_wp2
     have n0_ := Aside0.mk (below_drew1 HB.out)
     clear HB
     have HB := n0_
     clear n0_
     refine start_ (n := 11) (S := fun w' => True) (ds := []) tb11_0_4 (by kernel_rfl) rfl rfl trivial (fun hHeld => ?_); refine with_tabW spec_l11Which.tab4 spec_l11Which.bits4 (fun HT_ HW_ => ?_)
     generalize wr.drew = w16 at HB hHeld ⊢
     refine pl_ HT_ 0 10 tb11_1_4 ?_
     refine pl_ HT_ 2 12 tb11_5_4 ?_
     refine one_ (i := 1) (N := some 11) tb11_7_4 rfl rfl (one_of HT_.out (by kernel_rfl)) (by decide) (fun K hK => ?_)
     refine goes_ Tryz.func78 (by kernel_rfl) rfl #[.int .i64 x5_1] (by rfl) rfl rfl gl_ ?_
     with_reducible refine (spec_OpMti.calls x5_1 t139 _ A4.out).mono ?_
     rintro e w17 ⟨rfl, hb⟩
     refine ⟨_, rfl, ?_⟩
     have n0_ := Aside0.mk (below_step bl_ hb)
     clear HB
     have HB := n0_
     clear n0_
     (try clear hb)
     (try clear hb2)
     (try clear hk)
     (try clear hi)
     refine hK.out _ _ trivial (fun hHeld => ?_)
     clear hK K
     refine norm_ (a' := ?_) ?_ ?_
     rotate_left
     ·show Act.put _ (some 11) _ = _
      simp only [Act.put, q_]
      rfl
     refine pl_ HT_ 3 13 tb11_f_4 ?_
     refine pl_ HT_ 4 14 tb11_1f_4 ?_
     refine pr_ HT_ 5 15 tb11_3f_4 ?_
     refine pr_ HT_ 6 16 tb11_7f_4 ?_
     refine pr_ HT_ 7 17 tb11_ff_4 ?_
     refine pr_ HT_ 8 18 tb11_1ff_4 ?_
     refine pr_ HT_ 9 19 tb11_3ff_4 ?_
     refine pl_ HT_ 10 20 tb11_7ff_4 ?_
     refine done_ (done_of HT_.out (by kernel_rfl)) ?_
     try go_wp2
     go_roundg k1
     case measure => have := HK1.out; omega
     case rel => exact ⟨(wrap64 (x5_1 + 1)), sp_, H', ⟨by have := HK1.out; omega⟩, ⟨bl_⟩⟩
   ·rw [if_neg c3] at H
    have c3b0 : decide (x5_1 ≤ 8) = false := decide_eq_false c3
    clear c3
    obtain rfl := Option.some.inj H
    go_wp2
    go_ret
    exact ⟨sq_, bl_⟩
/-! ### spec_l11Hold: function 40 -/
def spec_l11Hold.f (a0 : Int) : Option (Bool) := (spec_l11Op.f a0).bind fun t141 => (if t141 = true then (some (decide (a0 < 7))) else (some false))
set_option maxHeartbeats 8000000 in
set_option maxRecDepth 100000 in
theorem spec_l11Hold.calls (a0 : Int) (r : Bool) (w : World) (h : spec_l11Hold.f a0 = some r) :
  Calls Tryz.prog 40 #[.int .i64 a0] w fun e w' => e = .returned (.bool r) ∧ Drawn0 w w' := by
 have H : ((spec_l11Op.f a0).bind fun t141 => (if t141 = true then (some (decide (a0 < 7))) else (some false))) = some r := h
 clear h
 obtain ⟨t141, A2, H⟩ := ob_ H
 by_cases c3 : t141 = true
 ·subst c3
  replace H := ip_ H
  obtain rfl := Option.some.inj H
  go_enter Tryz.func40, Tryz.ntmps40
  go_wp2_with (first | ((with_reducible refine gate_callee (f := 80) rfl ?_); refine goesL_ (some 4) rfl rfl Tryz.func80 (by kernel_rfl) rfl #[.int .i64 a0] rfl gl_ ?_; (with_reducible refine (spec_l11Op.calls a0 true _ A2.out).mono ?_); rintro e w' ⟨rfl, ⟨nd, rfl⟩⟩; refine ⟨_, rfl, ?_⟩))
  go_ret
  exact ⟨sp_, by repeat (first | exact Drawn0.refl _ | apply Drawn0.step)⟩
 ·replace c3 := Bool.eq_false_iff.mpr c3
  subst c3
  replace H := in_ H
  obtain rfl := Option.some.inj H
  go_enter Tryz.func40, Tryz.ntmps40
  go_wp2_with (first | ((with_reducible refine gate_callee (f := 80) rfl ?_); refine goesL_ (some 4) rfl rfl Tryz.func80 (by kernel_rfl) rfl #[.int .i64 a0] rfl gl_ ?_; (with_reducible refine (spec_l11Op.calls a0 false _ A2.out).mono ?_); rintro e w' ⟨rfl, ⟨nd, rfl⟩⟩; refine ⟨_, rfl, ?_⟩))
  go_ret
  exact ⟨sp_, by repeat (first | exact Drawn0.refl _ | apply Drawn0.step)⟩
/-! ### spec_FieldBare: function 41 -/
def spec_FieldBare.l0 : Nat → ByteArray → Int → Option (ByteArray)
 | 0, _, _ => none
 | k + 1, x0, x3 => if x3 > 0 then (if 0 ≤ (wrap64 (x3 - 1)) then (if (wrap64 (x3 - 1)) < (x0.size : Int) then (if (bt x0 (wrap64 (x3 - 1))) = 32 then (spec_FieldBare.l0 k x0 (wrap64 (x3 - 1))) else (if 0 ≤ x3 then (if x3 ≤ (x0.size : Int) then (some (x0.extract 0 (x3 : Int).toNat)) else (none)) else (none))) else (none)) else (none)) else (if 0 ≤ x3 then (if x3 ≤ (x0.size : Int) then (some (x0.extract 0 (x3 : Int).toNat)) else (none)) else (none))
def spec_FieldBare.f (k : Nat) (a0 : ByteArray) : Option (ByteArray) := spec_FieldBare.l0 k a0 (a0.size : Int)
set_option maxHeartbeats 8000000 in
set_option maxRecDepth 100000 in
theorem spec_FieldBare.calls (k : Nat) (a0 : ByteArray) (r : ByteArray) (w : World) (h : spec_FieldBare.f k a0 = some r) :
  Calls Tryz.prog 41 #[.string a0] w fun e w' => e = .returned (.string r) ∧ Drawn0 w w' := by
 have H : (spec_FieldBare.l0 k a0 (a0.size : Int)) = some r := h
 clear h
 have H' := Aside0.mk H
 clear H
 go_enter Tryz.func41, Tryz.ntmps41
 go_wp2
 go_loopg [3] k (fun kq v3 w' => ∃ (x3_1 : Int), v3 = .int .i64 x3_1 ∧ Aside0 (spec_FieldBare.l0 kq a0 x3_1 = some r) ∧ Aside0 (kq ≤ k) ∧ Drawn0 w w')
 case atStart => exact ⟨((a0.size : Int)), sp_, H', ⟨Nat.le_refl _⟩, by repeat (first | exact Drawn0.refl _ | apply Drawn0.step)⟩
 case round =>
  clear H'
  obtain ⟨x3_1, rfl, HA, HK1, ⟨m1, rfl⟩⟩ := hrel
  cases gk with
  | zero => exact absurd HA.out (by simp [spec_FieldBare.l0])
  | succ k1 =>
   have H := HA.out
   clear HA
   simp only [spec_FieldBare.l0] at H
   by_cases c2 : x3_1 > 0
   ·rw [if_pos c2] at H
    have c2b0 : decide (0 < x3_1) = true := decide_eq_true c2
    clear c2
    obtain ⟨ji3, hji3⟩ : ∃ j_ : Int, (wrap64 (x3_1 - 1)) = j_ := ⟨_, rfl⟩
    replace H : (if 0 ≤ (ji3) then (if (ji3) < (a0.size : Int) then (if (bt a0 (ji3)) = 32 then (spec_FieldBare.l0 k1 a0 ji3) else (if 0 ≤ x3_1 then (if x3_1 ≤ (a0.size : Int) then (some (a0.extract 0 (x3_1 : Int).toNat)) else (none)) else (none))) else (none)) else (none)) = some r := by first | (rw [hji3] at H; exact H) | (simp only [hji3] at H ⊢; exact H)
    have hji3w : (IntKind.i64.wrap (x3_1 - 1)) = ji3 := (i64_w _).trans hji3
    by_cases c4 : 0 ≤ (ji3)
    ·rw [if_pos c4] at H
     have c4b0 : decide (0 ≤ (ji3)) = true := decide_eq_true c4
     clear c4
     by_cases c5 : (ji3) < (a0.size : Int)
     ·rw [if_pos c5] at H
      have c5b0 : decide ((ji3) < (a0.size : Int)) = true := decide_eq_true c5
      clear c5
      by_cases c7 : (bt a0 (ji3)) = 32
      ·rw [if_pos c7] at H
       have c7b0 : ((bt a0 (ji3)) == 32) = true := beq_iff_eq.mpr c7
       have c7b1 : ((bt a0 (ji3)) != 32) = false := bne_eq_false_iff_eq.mpr c7
       clear c7
       have H' := Aside0.mk H
       clear H
       have p6 : 0 ≤ ((ji3) : Int) := od_
       have q6 : (ji3) < (a0.size : Int) := od_
       have hx6 := bt_at a0 (ji3)
       replace p6 := eq_true p6
       replace q6 := eq_true q6
       go_wp2
       go_roundg k1
       case measure => have := HK1.out; omega
       case rel => exact ⟨(ji3), (by first | rfl | (simp; done) | (simp only [← hji3] <;> (first | rfl | (simp; done) | (simp [my_isEmpty, my_w256, Go.Proofs.YtohfefkjcnbejaaGreatDoorW.PrintLast.i64_w, Go.Proofs.YtohfefkjcnbejaaGreatDoorW.PrintLast.i32_w, Go.IntKind.wrap_u8, Go.IntKind.wrap_u32]; done))) | (simp [*]; done) | (simp [my_isEmpty, my_w256, Go.Proofs.YtohfefkjcnbejaaGreatDoorW.PrintLast.i64_w, Go.Proofs.YtohfefkjcnbejaaGreatDoorW.PrintLast.i32_w, Go.IntKind.wrap_u8, Go.IntKind.wrap_u32]; done)), H', ⟨by have := HK1.out; omega⟩, by repeat (first | exact Drawn0.refl _ | apply Drawn0.step)⟩
      ·rw [if_neg c7] at H
       have c7b0 : ((bt a0 (ji3)) == 32) = false := beq_eq_false_iff_ne.mpr c7
       have c7b1 : ((bt a0 (ji3)) != 32) = true := bne_iff_ne.mpr c7
       by_cases c8 : 0 ≤ x3_1
       ·rw [if_pos c8] at H
        have c8b0 := eq_true c8
        have c8b1 : decide (0 ≤ x3_1) = true := decide_eq_true c8
        clear c8
        by_cases c9 : x3_1 ≤ (a0.size : Int)
        ·rw [if_pos c9] at H
         have c9b0 := eq_true c9
         have c9b1 : decide (x3_1 ≤ (a0.size : Int)) = true := decide_eq_true c9
         clear c9
         obtain rfl := Option.some.inj H
         have p6 : 0 ≤ ((ji3) : Int) := od_
         have q6 : (ji3) < (a0.size : Int) := od_
         have hx6 := bt_at a0 (ji3)
         replace p6 := eq_true p6
         replace q6 := eq_true q6
         go_wp2
         go_ret
         exact ⟨by first | rfl | (simp; done) | (simp only [← hji3] <;> (first | rfl | (simp; done) | (simp [my_isEmpty, my_w256, Go.Proofs.YtohfefkjcnbejaaGreatDoorW.PrintLast.i64_w, Go.Proofs.YtohfefkjcnbejaaGreatDoorW.PrintLast.i32_w, Go.IntKind.wrap_u8, Go.IntKind.wrap_u32]; done))) | (simp [*]; done) | (simp [my_isEmpty, my_w256, Go.Proofs.YtohfefkjcnbejaaGreatDoorW.PrintLast.i64_w, Go.Proofs.YtohfefkjcnbejaaGreatDoorW.PrintLast.i32_w, Go.IntKind.wrap_u8, Go.IntKind.wrap_u32]; done), by repeat (first | exact Drawn0.refl _ | apply Drawn0.step)⟩
        ·rw [if_neg c9] at H
         exact absurd H (by simp)
       ·rw [if_neg c8] at H
        exact absurd H (by simp)
     ·rw [if_neg c5] at H
      exact absurd H (by simp)
    ·rw [if_neg c4] at H
     exact absurd H (by simp)
   ·rw [if_neg c2] at H
    have c2b0 : decide (0 < x3_1) = false := decide_eq_false c2
    clear c2
    by_cases c10 : 0 ≤ x3_1
    ·rw [if_pos c10] at H
     have c10b0 := eq_true c10
     have c10b1 : decide (0 ≤ x3_1) = true := decide_eq_true c10
     clear c10
     by_cases c11 : x3_1 ≤ (a0.size : Int)
     ·rw [if_pos c11] at H
      have c11b0 := eq_true c11
      have c11b1 : decide (x3_1 ≤ (a0.size : Int)) = true := decide_eq_true c11
      clear c11
      obtain rfl := Option.some.inj H
      go_wp2
      go_ret
      exact ⟨sp_, by repeat (first | exact Drawn0.refl _ | apply Drawn0.step)⟩
     ·rw [if_neg c11] at H
      exact absurd H (by simp)
    ·rw [if_neg c10] at H
     exact absurd H (by simp)
/-! ### spec_l11Amount: function 42 -/
def spec_l11Amount.f (a0 : Int) : Option (Bool) := (spec_l01In.f a0 1 4).bind fun t142 => (some t142)
set_option maxHeartbeats 8000000 in
set_option maxRecDepth 100000 in
theorem spec_l11Amount.calls (a0 : Int) (r : Bool) (w : World) (h : spec_l11Amount.f a0 = some r) :
  Calls Tryz.prog 42 #[.int .i64 a0] w fun e w' => e = .returned (.bool r) ∧ Drawn0 w w' := by
 have H : ((spec_l01In.f a0 1 4).bind fun t142 => (some t142)) = some r := h
 clear h
 obtain ⟨t142, A2, H⟩ := ob_ H
 obtain rfl := Option.some.inj H
 go_enter Tryz.func42, Tryz.ntmps42
 go_wp2_with (first | ((with_reducible refine gate_callee (f := 67) rfl ?_); refine goesL_ (some 4) rfl rfl Tryz.func67 (by kernel_rfl) rfl #[.int .i64 a0, .int .i64 1, .int .i64 4] rfl gl_ ?_; (with_reducible refine (spec_l01In.calls a0 1 4 t142 _ A2.out).mono ?_); rintro e w' ⟨rfl, ⟨nd, rfl⟩⟩; refine ⟨_, rfl, ?_⟩))
 go_ret
 exact ⟨sp_, by repeat (first | exact Drawn0.refl _ | apply Drawn0.step)⟩
/-! ### spec_Narrow: function 43 -/
mutual
def spec_Narrow.j0 : Nat → ByteArray → Bool → Option (Int × Bool)
 | 0, _, _ => none
 | k + 1, x0, x13 => if x13 = true then (some (0, false)) else (spec_Narrow.l0 k x0 0 0)
def spec_Narrow.l0 : Nat → ByteArray → Int → Int → Option (Int × Bool)
 | 0, _, _, _ => none
 | k + 1, x0, x4, x5 => if x5 < (x0.size : Int) then (if 0 ≤ x5 then (spec_Narrow.l0 k x0 (wrap64 ((wrap64 ((wrap64 (x4 * 10)) + (wrap64 (bt x0 x5)))) - 48)) (wrap64 (x5 + 1))) else (none)) else (some (x4, true))
end
def spec_Narrow.f (k : Nat) (a0 : ByteArray) : Option (Int × Bool) := (spec_Digits.f k a0).bind fun t143 => (if t143 = true then (spec_Narrow.j0 k a0 (decide ((a0.size : Int) > 18))) else (spec_Narrow.j0 k a0 true))
set_option maxHeartbeats 8000000 in
set_option maxRecDepth 100000 in
theorem spec_Narrow.calls (k : Nat) (a0 : ByteArray) (r1 : Int) (r2 : Bool) (w : World) (h : spec_Narrow.f k a0 = some (r1, r2)) :
  Calls Tryz.prog 43 #[.string a0] w fun e w' => e = .returned (.tuple #[.int .i64 r1, .bool r2]) ∧ Drawn0 w w' := by
 have H : ((spec_Digits.f k a0).bind fun t143 => (if t143 = true then (spec_Narrow.j0 k a0 (decide ((a0.size : Int) > 18))) else (spec_Narrow.j0 k a0 true))) = some (r1, r2) := h
 clear h
 have HC2 := Aside0.mk H
 clear H
 go_enter Tryz.func43, Tryz.ntmps43
 go_upto_region 1 with (fail)
 go_cut [13] (fun v13 wc => ∃ (kq : Nat) (x13_1 : Bool), v13 = .bool x13_1 ∧ Aside0 (spec_Narrow.j0 kq a0 x13_1 = some (r1, r2)) ∧ Aside0 (kq ≤ k) ∧ Drawn0 w wc)
 case first =>
  have H := HC2.out
  clear HC2
  obtain ⟨t143, A3, H⟩ := ob_ H
  by_cases c4 : t143 = true
  ·subst c4
   replace H := ip_ H
   have H' := Aside0.mk H
   clear H
   go_wp2_with (first | ((with_reducible refine gate_callee (f := 76) rfl ?_); refine goesL_ (some 7) rfl rfl Tryz.func76 (by kernel_rfl) rfl #[.string a0] rfl gl_ ?_; (with_reducible refine (spec_Digits.calls k a0 true _ A3.out).mono ?_); rintro e w' ⟨rfl, ⟨nd, rfl⟩⟩; refine ⟨_, rfl, ?_⟩))
   go_meet
   case rel => exact ⟨_, (decide ((a0.size : Int) > 18)), sp_, H', ⟨by first | omega | exact Nat.le_refl _⟩, by repeat (first | exact Drawn0.refl _ | apply Drawn0.step)⟩
  ·replace c4 := Bool.eq_false_iff.mpr c4
   subst c4
   replace H := in_ H
   have H' := Aside0.mk H
   clear H
   go_wp2_with (first | ((with_reducible refine gate_callee (f := 76) rfl ?_); refine goesL_ (some 7) rfl rfl Tryz.func76 (by kernel_rfl) rfl #[.string a0] rfl gl_ ?_; (with_reducible refine (spec_Digits.calls k a0 false _ A3.out).mono ?_); rintro e w' ⟨rfl, ⟨nd, rfl⟩⟩; refine ⟨_, rfl, ?_⟩))
   go_meet
   case rel => exact ⟨_, (true), sp_, H', ⟨by first | omega | exact Nat.le_refl _⟩, by repeat (first | exact Drawn0.refl _ | apply Drawn0.step)⟩
 case rest =>
  clear HC2
  try clear p2
  try clear c4
  obtain ⟨kq, x13_1, rfl, HA, HJ1, ⟨mc1, rfl⟩⟩ := hcut
  cases kq with
  | zero => exact absurd HA.out (by simp [spec_Narrow.j0])
  | succ kj1 =>
   have H := HA.out
   clear HA
   simp only [spec_Narrow.j0] at H
   by_cases c5 : x13_1 = true
   ·subst c5
    replace H := ip_ H
    simp only [Option.some.injEq, Prod.mk.injEq] at H
    obtain ⟨rfl, rfl⟩ := H
    go_wp2
    go_ret2
    exact ⟨sp_, by repeat (first | exact Drawn0.refl _ | apply Drawn0.step)⟩
   ·replace c5 := Bool.eq_false_iff.mpr c5
    subst c5
    replace H := in_ H
    have H' := Aside0.mk H
    clear H
    go_wp2
    go_loopg [4, 5] kj1 (fun kq v4 v5 w' => ∃ (x4_2 : Int) (x5_2 : Int), v4 = .int .i64 x4_2 ∧ v5 = .int .i64 x5_2 ∧ Aside0 (spec_Narrow.l0 kq a0 x4_2 x5_2 = some (r1, r2)) ∧ Aside0 (kq ≤ kj1) ∧ Drawn0 w w')
    case atStart => exact ⟨(0), (0), sp_, sp_, H', ⟨Nat.le_refl _⟩, by repeat (first | exact Drawn0.refl _ | apply Drawn0.step)⟩
    case round =>
     clear H'
     try clear c1
     try clear p2
     try clear c4
     try clear c5
     try clear p2
     obtain ⟨x4_2, x5_2, rfl, rfl, HA, HK2, ⟨m2, rfl⟩⟩ := hrel
     cases gk with
     | zero => exact absurd HA.out (by simp [spec_Narrow.l0])
     | succ k2 =>
      have H := HA.out
      clear HA
      simp only [spec_Narrow.l0] at H
      by_cases c6 : x5_2 < (a0.size : Int)
      ·rw [if_pos c6] at H
       have c6b0 : decide (x5_2 < (a0.size : Int)) = true := decide_eq_true c6
       clear c6
       by_cases c7 : 0 ≤ x5_2
       ·rw [if_pos c7] at H
        have c7b0 : decide (0 ≤ x5_2) = true := decide_eq_true c7
        clear c7
        have H' := Aside0.mk H
        clear H
        have p8 : 0 ≤ (x5_2 : Int) := od_
        have q8 : x5_2 < (a0.size : Int) := od_
        have hx8 := bt_at a0 x5_2
        replace p8 := eq_true p8
        replace q8 := eq_true q8
        go_wp2
        go_roundg k2
        case measure => have := HJ1.out; have := HK2.out; omega
        case rel => exact ⟨(wrap64 ((wrap64 ((wrap64 (x4_2 * 10)) + (wrap64 (bt a0 x5_2)))) - 48)), (wrap64 (x5_2 + 1)), sp_, sp_, H', ⟨by have := HJ1.out; have := HK2.out; omega⟩, by repeat (first | exact Drawn0.refl _ | apply Drawn0.step)⟩
       ·rw [if_neg c7] at H
        exact absurd H (by simp)
      ·rw [if_neg c6] at H
       have c6b0 : decide (x5_2 < (a0.size : Int)) = false := decide_eq_false c6
       clear c6
       simp only [Option.some.injEq, Prod.mk.injEq] at H
       obtain ⟨rfl, rfl⟩ := H
       go_wp2
       go_ret2
       exact ⟨sp_, by repeat (first | exact Drawn0.refl _ | apply Drawn0.step)⟩
end Go.Proofs.YtohfefkjcnbejaaGreatDoor.QFnExactReqOf
