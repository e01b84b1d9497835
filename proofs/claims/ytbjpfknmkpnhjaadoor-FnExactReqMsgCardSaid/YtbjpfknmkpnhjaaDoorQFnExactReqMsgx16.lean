-- by my own printer (myprint.py, over the kit's print.py)
import Derived.Test.YtbjpfknmkpnhjaaDoorQFnExactReqMsgx0
import Derived.Test.YtbjpfknmkpnhjaaDoorQFnExactReqMsgx15
namespace Go.Proofs.YtbjpfknmkpnhjaaDoor.QFnExactReqMsg
open Go.RowKit Go.Proofs.YtbjpfknmkpnhjaaDoorW.PrintWords Go.Proofs.YtbjpfknmkpnhjaaDoorW.PrintLast Go.Proofs.YtbjpfknmkpnhjaaDoorW.PrintMore
attribute [local go_sem] max2_int min2_int max_two min_two max_three min_three max_four min_four   -- for this text's walks alone
set_option linter.unusedVariables false
set_option linter.unusedSimpArgs false
attribute [local go_sem] my_geq my_leq my_gtr
abbrev tb8_0_16 : Array Bool := #[b0, b0, b0, b0, b0, b0, b0, b0]
abbrev tb8_1_16 : Array Bool := #[b1, b0, b0, b0, b0, b0, b0, b0]
abbrev tb8_2f_16 : Array Bool := #[b1, b1, b1, b1, b0, b1, b0, b0]
abbrev tb8_3_16 : Array Bool := #[b1, b1, b0, b0, b0, b0, b0, b0]
abbrev tb8_3f_16 : Array Bool := #[b1, b1, b1, b1, b1, b1, b0, b0]
abbrev tb8_7_16 : Array Bool := #[b1, b1, b1, b0, b0, b0, b0, b0]
abbrev tb8_7f_16 : Array Bool := #[b1, b1, b1, b1, b1, b1, b1, b0]
abbrev tb8_f_16 : Array Bool := #[b1, b1, b1, b1, b0, b0, b0, b0]
abbrev tb8_ff_16 : Array Bool := #[b1, b1, b1, b1, b1, b1, b1, b1]
/-! ### laws_heldFieldS: function 43 -/
def laws_heldFieldS.l0 : Nat → List (S67) → Int → Int → Option (Int)
 | 0, _, _, _ => none
 | k + 1, x0, x1, x5 => if x5 < (x0.length : Int) then (if 0 ≤ x5 then (if ((rd_T67 x0 x5).f0) = x1 then ((laws_markText.f k (wrap64 (x1 + 1))).bind fun t387 => (if ((rd_T67 x0 x5).f1).toList = t387.toList then (laws_heldFieldS.l0 k x0 (wrap64 ((wrap64 (x1 + 1)) + 1)) (wrap64 (x5 + 1))) else (some (-1)))) else (some (-1))) else (none)) else (some x1)
def laws_heldFieldS.f (k : Nat) (l0 : List (S67)) (a1 : Int) : Option (Int) := laws_heldFieldS.l0 k l0 a1 0
def laws_heldFieldS.T7 : Bool × List (List Nat × List Nat) := (true, [([], []), ([], []), ([0, 1], [0, 1]), ([2], [2]), ([3], [3]), ([], []), ([5], [5]), ([4, 6], [4, 6])])
def laws_heldFieldS.B7 : List Nat := [0, 0, 3, 7, 15, 0, 32, 127]
theorem laws_heldFieldS.tab7 : rtab .any (opsOf Tryd.f43 7) = laws_heldFieldS.T7 := by kernel_rfl
theorem laws_heldFieldS.bits7 : waitsOk laws_heldFieldS.T7.2 laws_heldFieldS.B7 = true := by kernel_rfl
set_option maxHeartbeats 8000000 in
set_option maxRecDepth 100000 in
theorem laws_heldFieldS.calls (k : Nat) (A0 : Option Addr) (c0 : Nat) (l0 : List (S67)) (a1 : Int) (r : Int) (w : World) (hr0 : Kd.C k67 w A0 l0.length l0) (hc0 : l0.length ≤ c0) (h : laws_heldFieldS.f k l0 a1 = some r) :
  Calls Tryd.prog 43 #[.slice A0 l0.length c0, .int .i64 a1] w fun e w' => e = .returned (.int .i64 r) ∧ Below w.heap.size w w' := by
 have HR0 := Aside0.mk hr0
 have HC0 := Aside0.mk hc0
 clear hr0 hc0
 have HB := Aside0.mk (Below.refl w.heap.size w)
 have H : (laws_heldFieldS.l0 k l0 a1 0) = some r := h
 clear h
 have H' := Aside0.mk H
 clear H
 go_enter Tryd.func43, Tryd.ntmps43
 go_wp2
 go_loopg [1, 5] k (fun kq v1 v5 w' => ∃ (x1_1 : Int) (x5_1 : Int), v1 = .int .i64 x1_1 ∧ v5 = .int .i64 x5_1 ∧ Aside0 (laws_heldFieldS.l0 kq l0 x1_1 x5_1 = some r) ∧ Aside0 (kq ≤ k) ∧ Aside0 (Below w.heap.size w w'))
 case atStart => exact ⟨(a1), (0), sp_, sp_, H', ⟨Nat.le_refl _⟩, ⟨bl_⟩⟩
 case round =>
  clear H'
  try clear p2
  obtain ⟨x1_1, x5_1, rfl, rfl, HA, HK1, HB⟩ := hrel
  cases gk with
  | zero => exact absurd HA.out (by simp [laws_heldFieldS.l0])
  | succ k1 =>
   have H := HA.out
   clear HA
   simp only [laws_heldFieldS.l0] at H
   by_cases c3 : x5_1 < (l0.length : Int)
   ·rw [if_pos c3] at H
    have c3b0 : decide (x5_1 < (l0.length : Int)) = true := decide_eq_true c3
    clear c3
    by_cases c4 : 0 ≤ x5_1
    ·rw [if_pos c4] at H
     have c4b0 : decide (0 ≤ x5_1) = true := decide_eq_true c4
     clear c4
     by_cases c5 : ((rd_T67 l0 x5_1).f0) = x1_1
     ·rw [if_pos c5] at H
      have c5b0 : (((rd_T67 l0 x5_1).f0) == x1_1) = true := beq_iff_eq.mpr c5
      have c5b1 : (((rd_T67 l0 x5_1).f0) != x1_1) = false := bne_eq_false_iff_eq.mpr c5
      clear c5
      obtain ⟨t387, A6, H⟩ := ob_ H
      by_cases c7 : ((rd_T67 l0 x5_1).f1).toList = t387.toList
      ·rw [if_pos c7] at H
       have c7b0 : (((rd_T67 l0 x5_1).f1).toList == t387.toList) = true := beq_iff_eq.mpr c7
       have c7b1 : (((rd_T67 l0 x5_1).f1).toList != t387.toList) = false := bne_eq_false_iff_eq.mpr c7
       clear c7
       have H' := Aside0.mk H
       clear H
       have p385 : 0 ≤ (x5_1 : Int) := od_
       have q385 : x5_1 < (l0.length : Int) := od_
       obtain ⟨ad385, e385, hx385_0, hx385_1⟩ := at_T67 HR0.out x5_1 p385 q385
       cases e385
       replace hx385_0 := kc_ HB hx385_0
       replace hx385_1 := kc_ HB hx385_1
       replace p385 := eq_true p385
       replace q385 := eq_true q385
       try go_wp2
       have n0_ := Aside0.mk (below_drew1 HB.out)
       clear HB
       have HB := n0_
       clear n0_
       have p386 : 0 ≤ (x5_1 : Int) := od_
       have q386 : x5_1 < (l0.length : Int) := od_
       obtain ⟨ad386, e386, hx386_0, hx386_1⟩ := at_T67 HR0.out x5_1 p386 q386
       have hw386_1 := hx386_1
       have hw386_0 := hx386_0
       obtain rfl : ad385 = ad386 := (by injection e386)
       replace hx386_0 := kc_ HB hx386_0
       replace hx386_1 := kc_ HB hx386_1
       replace p386 := eq_true p386
       replace q386 := eq_true q386
       refine start_ (n := 8) (S := fun w' => w'.cell? (ad385.add ((x5_1).toNat * 2)) = some (.int .i64 ((rd_T67 l0 x5_1).f0)) ∧ w'.cell? ⟨(ad385.add ((x5_1).toNat * 2)).block, (ad385.add ((x5_1).toNat * 2)).off + 1, none⟩ = some (.string ((rd_T67 l0 x5_1).f1))) (ds := []) tb8_0_16 (by kernel_rfl) rfl rfl ⟨(kc_ HB hw386_0), (kc_ HB hw386_1)⟩ (fun hHeld => ?_); refine with_tabW laws_heldFieldS.tab7 laws_heldFieldS.bits7 (fun HT_ HW_ => ?_)
       generalize wr.drew = w8 at HB hx386_0 hx386_1 hHeld ⊢
       refine pl_ HT_ 0 21 tb8_1_16 ?_
       refine pl_ HT_ 1 22 tb8_3_16 ?_
       refine pl_ HT_ 2 23 tb8_7_16 ?_
       refine pl_ HT_ 3 24 tb8_f_16 ?_
       refine pl_ HT_ 5 26 tb8_2f_16 ?_
       refine take_ (i := 4) (N := some 25) (v := ?_) (a' := ?_) tb8_3f_16 rfl rfl (take_ofW HT_.out HW_.out (by kernel_rfl)) (fun _ _ _ h => h) (Or.inl ⟨by rfl, ?_⟩) hHeld ?_ ?_
       rotate_left
       ·rintro w' ⟨s0, s1⟩
        go_simp
        with_reducible rfl
       rotate_left
       ·simp only [Act.put, q_]
        rfl
       refine one_ (i := 6) (N := some 27) tb8_7f_16 rfl rfl (one_of HT_.out (by kernel_rfl)) (by decide) (fun K hK => ?_)
       refine goes_ Tryd.func86 (by kernel_rfl) rfl #[.int .i64 (wrap64 (x1_1 + 1))] (by rfl) rfl rfl gl_ ?_
       with_reducible refine (laws_markText.calls k1 (wrap64 (x1_1 + 1)) t387 _ A6.out).mono ?_
       rintro e w9 ⟨rfl, hb⟩
       refine ⟨_, rfl, ?_⟩
       have n0_ := Aside0.mk (below_step bl_ hb)
       clear HB
       have HB := n0_
       clear n0_
       (try clear hb)
       (try clear hb2)
       (try clear hk)
       (try clear hi)
       refine hK.out _ _ ⟨(kc_ HB hw386_0), (kc_ HB hw386_1)⟩ (fun hHeld => ?_)
       clear hK K
       refine norm_ (a' := ?_) ?_ ?_
       rotate_left
       ·show Act.put _ (some 27) _ = _
        simp only [Act.put, q_]
        rfl
       refine pl_ HT_ 7 28 tb8_ff_16 ?_
       refine done_ (done_of HT_.out (by kernel_rfl)) ?_
       try go_wp2
       go_roundg k1
       case measure => have := HK1.out; omega
       case rel => exact ⟨(wrap64 ((wrap64 (x1_1 + 1)) + 1)), (wrap64 (x5_1 + 1)), sp_, sp_, H', ⟨by have := HK1.out; omega⟩, ⟨bl_⟩⟩
      ·rw [if_neg c7] at H
       have c7b0 : (((rd_T67 l0 x5_1).f1).toList == t387.toList) = false := beq_eq_false_iff_ne.mpr c7
       have c7b1 : (((rd_T67 l0 x5_1).f1).toList != t387.toList) = true := bne_iff_ne.mpr c7
       obtain rfl := Option.some.inj H
       have p385 : 0 ≤ (x5_1 : Int) := od_
       have q385 : x5_1 < (l0.length : Int) := od_
       obtain ⟨ad385, e385, hx385_0, hx385_1⟩ := at_T67 HR0.out x5_1 p385 q385
       cases e385
       replace hx385_0 := kc_ HB hx385_0
       replace hx385_1 := kc_ HB hx385_1
       replace p385 := eq_true p385
       replace q385 := eq_true q385
       try go_wp2
       have n0_ := Aside0.mk (below_drew1 HB.out)
       clear HB
       have HB := n0_
       clear n0_
       have p386 : 0 ≤ (x5_1 : Int) := od_
       have q386 : x5_1 < (l0.length : Int) := od_
       obtain ⟨ad386, e386, hx386_0, hx386_1⟩ := at_T67 HR0.out x5_1 p386 q386
       have hw386_1 := hx386_1
       have hw386_0 := hx386_0
       obtain rfl : ad385 = ad386 := (by injection e386)
       replace hx386_0 := kc_ HB hx386_0
       replace hx386_1 := kc_ HB hx386_1
       replace p386 := eq_true p386
       replace q386 := eq_true q386
       refine start_ (n := 8) (S := fun w' => w'.cell? (ad385.add ((x5_1).toNat * 2)) = some (.int .i64 ((rd_T67 l0 x5_1).f0)) ∧ w'.cell? ⟨(ad385.add ((x5_1).toNat * 2)).block, (ad385.add ((x5_1).toNat * 2)).off + 1, none⟩ = some (.string ((rd_T67 l0 x5_1).f1))) (ds := []) tb8_0_16 (by kernel_rfl) rfl rfl ⟨(kc_ HB hw386_0), (kc_ HB hw386_1)⟩ (fun hHeld => ?_); refine with_tabW laws_heldFieldS.tab7 laws_heldFieldS.bits7 (fun HT_ HW_ => ?_)
       generalize wr.drew = w10 at HB hx386_0 hx386_1 hHeld ⊢
       refine pl_ HT_ 0 21 tb8_1_16 ?_
       refine pl_ HT_ 1 22 tb8_3_16 ?_
       refine pl_ HT_ 2 23 tb8_7_16 ?_
       refine pl_ HT_ 3 24 tb8_f_16 ?_
       refine pl_ HT_ 5 26 tb8_2f_16 ?_
       refine take_ (i := 4) (N := some 25) (v := ?_) (a' := ?_) tb8_3f_16 rfl rfl (take_ofW HT_.out HW_.out (by kernel_rfl)) (fun _ _ _ h => h) (Or.inl ⟨by rfl, ?_⟩) hHeld ?_ ?_
       rotate_left
       ·rintro w' ⟨s0, s1⟩
        go_simp
        with_reducible rfl
       rotate_left
       ·simp only [Act.put, q_]
        rfl
       refine one_ (i := 6) (N := some 27) tb8_7f_16 rfl rfl (one_of HT_.out (by kernel_rfl)) (by decide) (fun K hK => ?_)
       refine goes_ Tryd.func86 (by kernel_rfl) rfl #[.int .i64 (wrap64 (x1_1 + 1))] (by rfl) rfl rfl gl_ ?_
       with_reducible refine (laws_markText.calls k1 (wrap64 (x1_1 + 1)) t387 _ A6.out).mono ?_
       rintro e w11 ⟨rfl, hb⟩
       refine ⟨_, rfl, ?_⟩
       have n0_ := Aside0.mk (below_step bl_ hb)
       clear HB
       have HB := n0_
       clear n0_
       (try clear hb)
       (try clear hb2)
       (try clear hk)
       (try clear hi)
       refine hK.out _ _ ⟨(kc_ HB hw386_0), (kc_ HB hw386_1)⟩ (fun hHeld => ?_)
       clear hK K
       refine norm_ (a' := ?_) ?_ ?_
       rotate_left
       ·show Act.put _ (some 27) _ = _
        simp only [Act.put, q_]
        rfl
       refine pl_ HT_ 7 28 tb8_ff_16 ?_
       refine done_ (done_of HT_.out (by kernel_rfl)) ?_
       try go_wp2
       go_ret
       exact ⟨sq_, bl_⟩
     ·rw [if_neg c5] at H
      have c5b0 : (((rd_T67 l0 x5_1).f0) == x1_1) = false := beq_eq_false_iff_ne.mpr c5
      have c5b1 : (((rd_T67 l0 x5_1).f0) != x1_1) = true := bne_iff_ne.mpr c5
      obtain rfl := Option.some.inj H
      have p385 : 0 ≤ (x5_1 : Int) := od_
      have q385 : x5_1 < (l0.length : Int) := od_
      obtain ⟨ad385, e385, hx385_0, hx385_1⟩ := at_T67 HR0.out x5_1 p385 q385
      cases e385
      replace hx385_0 := kc_ HB hx385_0
      replace hx385_1 := kc_ HB hx385_1
      replace p385 := eq_true p385
      replace q385 := eq_true q385
      go_wp2
      go_ret
      exact ⟨sq_, bl_⟩
    ·rw [if_neg c4] at H
     exact absurd H (by simp)
   ·rw [if_neg c3] at H
    have c3b0 : decide (x5_1 < (l0.length : Int)) = false := decide_eq_false c3
    clear c3
    obtain rfl := Option.some.inj H
    go_wp2
    go_ret
    exact ⟨sq_, bl_⟩
/-! ### laws_heldMsg: function 18 -/
def laws_heldMsg.f (k : Nat) (a0_0 : ByteArray) (l0_1 : List (S67)) (a1 : Int) : Option (Int) := (laws_heldFieldS.f k l0_1 a1).bind fun t389 => (if t389 < 0 then (some (-1)) else (some t389))
set_option maxHeartbeats 8000000 in
set_option maxRecDepth 100000 in
theorem laws_heldMsg.calls (k : Nat) (a0_0 : ByteArray) (A0_1 : Option Addr) (c0_1 : Nat) (l0_1 : List (S67)) (a1 : Int) (r : Int) (w : World) (hr0_1 : Kd.C k67 w A0_1 l0_1.length l0_1) (hc0_1 : l0_1.length ≤ c0_1) (h : laws_heldMsg.f k a0_0 l0_1 a1 = some r) :
  Calls Tryd.prog 18 #[.agg #[.string a0_0, .slice A0_1 l0_1.length c0_1], .int .i64 a1] w fun e w' => e = .returned (.int .i64 r) ∧ Below w.heap.size w w' := by
 have hu42 := Tryd.underlying42
 have HR0_1 := Aside0.mk hr0_1
 have HC0_1 := Aside0.mk hc0_1
 clear hr0_1 hc0_1
 have HB := Aside0.mk (Below.refl w.heap.size w)
 have H : ((laws_heldFieldS.f k l0_1 a1).bind fun t389 => (if t389 < 0 then (some (-1)) else (some t389))) = some r := h
 clear h
 obtain ⟨t389, A3, H⟩ := ob_ H
 by_cases c4 : t389 < 0
 ·rw [if_pos c4] at H
  have c4b0 : decide (t389 < 0) = true := decide_eq_true c4
  clear c4
  obtain rfl := Option.some.inj H
  go_enter Tryd.func18, Tryd.ntmps18
  go_wp2_with (first | ((with_reducible refine gate_dst (N := 2) rfl ?_); refine be_ (N := 2) (cs := #[.string a0_0, .slice A0_1 l0_1.length c0_1]) (t := 42) ?_; intro gb388 hg w5 hbox hb; have BK388 := Aside0.mk (hbox); have GW388 := gw_ (w := w) hg; have GE388 := gw_ (w := w) hg; replace HB := Aside0.mk (below_step bl_ hb); clear hb hbox hg; obtain ⟨hcz6_0, hcz6_1, hfz6_0, hfz6_1⟩ := bx2_ BK388) | ((with_reducible refine gate_callee (f := 43) rfl ?_); refine goesL_ (some 8) rfl rfl Tryd.func43 (by kernel_rfl) rfl #[.slice A0_1 l0_1.length c0_1, .int .i64 a1] rfl gl_ ?_; (with_reducible refine (laws_heldFieldS.calls k _ _ l0_1 a1 t389 _ ?side1 ?side2 A3.out).mono ?_); (case side1 => exact ca_ (Kd.C_below HR0_1.out HB.out)); (case side2 => exact HC0_1.out); rintro e w7 ⟨rfl, hb⟩; refine ⟨_, rfl, ?_⟩; replace BK388 := Aside0.mk (blk_below (bk_ BK388) hb); replace HB := Aside0.mk (below_step bl_ hb); (try clear hb); (try clear hb2); (try clear hk); (try clear hi)))
  go_ret
  exact ⟨sq_, bl_⟩
 ·rw [if_neg c4] at H
  have c4b0 : decide (t389 < 0) = false := decide_eq_false c4
  clear c4
  obtain rfl := Option.some.inj H
  go_enter Tryd.func18, Tryd.ntmps18
  go_wp2_with (first | ((with_reducible refine gate_dst (N := 2) rfl ?_); refine be_ (N := 2) (cs := #[.string a0_0, .slice A0_1 l0_1.length c0_1]) (t := 42) ?_; intro gb388 hg w8 hbox hb; have BK388 := Aside0.mk (hbox); have GW388 := gw_ (w := w) hg; have GE388 := gw_ (w := w) hg; replace HB := Aside0.mk (below_step bl_ hb); clear hb hbox hg; obtain ⟨hcz9_0, hcz9_1, hfz9_0, hfz9_1⟩ := bx2_ BK388) | ((with_reducible refine gate_callee (f := 43) rfl ?_); refine goesL_ (some 8) rfl rfl Tryd.func43 (by kernel_rfl) rfl #[.slice A0_1 l0_1.length c0_1, .int .i64 a1] rfl gl_ ?_; (with_reducible refine (laws_heldFieldS.calls k _ _ l0_1 a1 t389 _ ?side1 ?side2 A3.out).mono ?_); (case side1 => exact ca_ (Kd.C_below HR0_1.out HB.out)); (case side2 => exact HC0_1.out); rintro e w10 ⟨rfl, hb⟩; refine ⟨_, rfl, ?_⟩; replace BK388 := Aside0.mk (blk_below (bk_ BK388) hb); replace HB := Aside0.mk (below_step bl_ hb); (try clear hb); (try clear hb2); (try clear hk); (try clear hi)))
  go_ret
  exact ⟨sq_, bl_⟩
end Go.Proofs.YtbjpfknmkpnhjaaDoor.QFnExactReqMsg
