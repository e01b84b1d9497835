-- by my own printer (myprint.py, over the kit's print.py)
import Derived.Test.YtepjnalkpfnmcaaQFnExactHoldDropx0
namespace Go.Proofs.Ytepjnalkpfnmcaa.QFnExactHoldDrop
open Go.RowKit Go.Proofs.YtepjnalkpfnmcaaW.PrintWords Go.Proofs.YtepjnalkpfnmcaaW.PrintLast Go.Proofs.YtepjnalkpfnmcaaW.PrintMore
attribute [local go_sem] max2_int min2_int max_two min_two max_three min_three max_four min_four   -- for this text's walks alone
set_option linter.unusedVariables false
set_option linter.unusedSimpArgs false

attribute [local go_sem] my_geq my_leq my_gtr
/-! ### laws_szHold: function 62 -/
def laws_szHold.f (a0_0 : ByteArray) (a0_1 : Int) (a0_2 : Int) (a1 : Int) : Option (Int) := if (wrap64 (a1 - (a0_0.size : Int))) < 0 then (some (-1)) else (some (wrap64 (a1 - (a0_0.size : Int))))
set_option maxHeartbeats 8000000 in
set_option maxRecDepth 100000 in
theorem laws_szHold.calls (a0_0 : ByteArray) (a0_1 : Int) (a0_2 : Int) (a1 : Int) (r : Int) (w : World) (h : laws_szHold.f a0_0 a0_1 a0_2 a1 = some r) :
  Calls Try.prog 62 #[.agg #[.string a0_0, .int .i64 a0_1, .int .i64 a0_2], .int .i64 a1] w fun e w' => e = .returned (.int .i64 r) ∧ Below w.heap.size w w' := by
 have hu89 := Try.underlying89
 have HB := Aside0.mk (Below.refl w.heap.size w)
 have H : (if (wrap64 (a1 - (a0_0.size : Int))) < 0 then (some (-1)) else (some (wrap64 (a1 - (a0_0.size : Int))))) = some r := h
 clear h
 by_cases c3 : (wrap64 (a1 - (a0_0.size : Int))) < 0
 ·rw [if_pos c3] at H
  have c3b0 : decide ((wrap64 (a1 - (a0_0.size : Int))) < 0) = true := decide_eq_true c3
  clear c3
  obtain rfl := Option.some.inj H
  go_enter Try.func62, Try.ntmps62
  go_wp2_with (first | ((with_reducible refine gate_dst (N := 2) rfl ?_); refine box_event ?hg (N := 2) ?hd (cs := #[.string a0_0, .int .i64 a0_1, .int .i64 a0_2]) (t := 89) ?hr ?_; (case hd => rfl); (case hg => rfl); (case hr => first | (go_simp; done) | (go_simp; rfl)); intro gb101 hg w4 hbox hb; have n0_ := Aside0.mk (below_step bl_ hb); have n1_ := Aside0.mk (hbox); have n2_ := gw_ (w := w) hg; have n3_ := gw_ (w := w) hg; clear HB; have HB := n0_; have BK101 := n1_; have GW101 := n2_; have GE101 := n3_; clear n0_ n1_ n2_ n3_; clear hb hbox hg; have hcz5_0 := cz_ BK101 0 (.string a0_0); have hcz5_1 := cz_ BK101 1 (.int .i64 a0_1); have hcz5_2 := cz_ BK101 2 (.int .i64 a0_2); have hfz5_0 := fz_ BK101 0; have hfz5_1 := fz_ BK101 1; have hfz5_2 := fz_ BK101 2))
  go_ret
  exact ⟨sq_, bl_⟩
 ·rw [if_neg c3] at H
  have c3b0 : decide ((wrap64 (a1 - (a0_0.size : Int))) < 0) = false := decide_eq_false c3
  clear c3
  obtain rfl := Option.some.inj H
  go_enter Try.func62, Try.ntmps62
  go_wp2_with (first | ((with_reducible refine gate_dst (N := 2) rfl ?_); refine box_event ?hg (N := 2) ?hd (cs := #[.string a0_0, .int .i64 a0_1, .int .i64 a0_2]) (t := 89) ?hr ?_; (case hd => rfl); (case hg => rfl); (case hr => first | (go_simp; done) | (go_simp; rfl)); intro gb101 hg w6 hbox hb; have n0_ := Aside0.mk (below_step bl_ hb); have n1_ := Aside0.mk (hbox); have n2_ := gw_ (w := w) hg; have n3_ := gw_ (w := w) hg; clear HB; have HB := n0_; have BK101 := n1_; have GW101 := n2_; have GE101 := n3_; clear n0_ n1_ n2_ n3_; clear hb hbox hg; have hcz7_0 := cz_ BK101 0 (.string a0_0); have hcz7_1 := cz_ BK101 1 (.int .i64 a0_1); have hcz7_2 := cz_ BK101 2 (.int .i64 a0_2); have hfz7_0 := fz_ BK101 0; have hfz7_1 := fz_ BK101 1; have hfz7_2 := fz_ BK101 2))
  go_ret
  exact ⟨sq_, bl_⟩

/-! ### laws_szHoldS: function 15 -/
def laws_szHoldS.l0 : Nat → List (S89) → Int → Int → Option (Int)
 | 0, _, _, _ => none
 | k + 1, x0, x1, x5 => if x5 < (x0.length : Int) then (if 0 ≤ x5 then ((laws_szHold.f ((rd_T89 x0 x5).f0) ((rd_T89 x0 x5).f1) ((rd_T89 x0 x5).f2) x1).bind fun t103 => (if t103 < 0 then (some (-1)) else (laws_szHoldS.l0 k x0 t103 (wrap64 (x5 + 1))))) else (none)) else (some x1)
def laws_szHoldS.f (k : Nat) (l0 : List (S89)) (a1 : Int) : Option (Int) := if (wrap64 (a1 - (l0.length : Int))) < 0 then (some (-1)) else (laws_szHoldS.l0 k l0 (wrap64 (a1 - (l0.length : Int))) 0)
theorem laws_szHoldS.mono_l : ∀ k, (∀ y0 y1 y2, LeO (laws_szHoldS.l0 k y0 y1 y2) (laws_szHoldS.l0 (k + 1) y0 y1 y2))
 | 0 => fun _ _ _ r h => by simp [laws_szHoldS.l0] at h
 | k + 1 => by
  have ih0 := laws_szHoldS.mono_l k
  ·intro y0 y1 y2
   unfold laws_szHoldS.l0
   repeat' first
   | (with_reducible exact ih0 _ _ _)
   | (with_reducible exact LeO.refl _)
   | (with_reducible exact LeO.none _)
   | (with_reducible refine LeO.ite ?_ ?_)
   | (with_reducible refine LeO.bind ?_ (fun _ => ?_))
   | exact ih0 _ _ _
   | exact LeO.none _
   | refine LeO.ite ?_ ?_
   | refine LeO.bind ?_ (fun _ => ?_)
theorem laws_szHoldS.mono : ∀ a0 a1 k, LeO (laws_szHoldS.f k a0 a1) (laws_szHoldS.f (k + 1) a0 a1) := by
 intro a0 a1 k
 have ih0 := laws_szHoldS.mono_l k
 unfold laws_szHoldS.f
 repeat' first
   | (with_reducible exact ih0 _ _ _)
   | (with_reducible exact LeO.refl _)
   | (with_reducible exact LeO.none _)
   | (with_reducible refine LeO.ite ?_ ?_)
   | (with_reducible refine LeO.bind ?_ (fun _ => ?_))
   | exact ih0 _ _ _
   | exact LeO.none _
   | refine LeO.ite ?_ ?_
   | refine LeO.bind ?_ (fun _ => ?_)
set_option maxHeartbeats 8000000 in
set_option maxRecDepth 100000 in
theorem laws_szHoldS.calls (k : Nat) (A0 : Option Addr) (c0 : Nat) (l0 : List (S89)) (a1 : Int) (r : Int) (w : World) (hr0 : Kd.C k89 w A0 l0.length l0) (hc0 : l0.length ≤ c0) (h : laws_szHoldS.f k l0 a1 = some r) :
  Calls Try.prog 15 #[.slice A0 l0.length c0, .int .i64 a1] w fun e w' => e = .returned (.int .i64 r) ∧ Below w.heap.size w w' := by
 have hu89 := Try.underlying89
 have HR0 := Aside0.mk hr0
 have HC0 := Aside0.mk hc0
 clear hr0 hc0
 have HB := Aside0.mk (Below.refl w.heap.size w)
 have H : (if (wrap64 (a1 - (l0.length : Int))) < 0 then (some (-1)) else (laws_szHoldS.l0 k l0 (wrap64 (a1 - (l0.length : Int))) 0)) = some r := h
 clear h
 by_cases c3 : (wrap64 (a1 - (l0.length : Int))) < 0
 ·rw [if_pos c3] at H
  have c3b0 : decide ((wrap64 (a1 - (l0.length : Int))) < 0) = true := decide_eq_true c3
  clear c3
  obtain rfl := Option.some.inj H
  go_enter Try.func15, Try.ntmps15
  go_wp2
  go_ret
  exact ⟨sq_, bl_⟩
 ·rw [if_neg c3] at H
  have c3b0 : decide ((wrap64 (a1 - (l0.length : Int))) < 0) = false := decide_eq_false c3
  clear c3
  have H' := Aside0.mk H
  clear H
  go_enter Try.func15, Try.ntmps15
  go_wp2
  go_loopg [1, 5] k (fun kq v1 v5 w' => ∃ (x1_1 : Int) (x5_1 : Int), v1 = .int .i64 x1_1 ∧ v5 = .int .i64 x5_1 ∧ Aside0 (laws_szHoldS.l0 kq l0 x1_1 x5_1 = some r) ∧ Aside0 (kq ≤ k) ∧ Aside0 (Below w.heap.size w w'))
  case atStart => exact ⟨(wrap64 (a1 - (l0.length : Int))), (0), sp_, sp_, H', ⟨Nat.le_refl _⟩, ⟨bl_⟩⟩
  case round =>
   clear H'
   try clear c1
   try clear p2
   try clear c3
   try clear c3b0
   obtain ⟨x1_1, x5_1, rfl, rfl, HA, HK1, HB⟩ := hrel
   cases gk with
   | zero => exact absurd HA.out (by simp [laws_szHoldS.l0])
   | succ k1 =>
    have H := HA.out
    clear HA
    simp only [laws_szHoldS.l0] at H
    by_cases c4 : x5_1 < (l0.length : Int)
    ·rw [if_pos c4] at H
     have c4b0 : decide (x5_1 < (l0.length : Int)) = true := decide_eq_true c4
     clear c4
     by_cases c5 : 0 ≤ x5_1
     ·rw [if_pos c5] at H
      have c5b0 : decide (0 ≤ x5_1) = true := decide_eq_true c5
      clear c5
      replace H := Option.bind_eq_some_iff.mp H
      obtain ⟨t103, A60, H⟩ := H
      replace H : (if t103 < 0 then (some (-1)) else (laws_szHoldS.l0 k1 l0 t103 (wrap64 (x5_1 + 1)))) = some r := H
      have A6 := Aside0.mk A60
      clear A60
      by_cases c7 : t103 < 0
      ·rw [if_pos c7] at H
       have c7b0 : decide (t103 < 0) = true := decide_eq_true c7
       clear c7
       obtain rfl := Option.some.inj H
       have p102 : 0 ≤ (x5_1 : Int) := od_
       have q102 : x5_1 < (l0.length : Int) := od_
       obtain ⟨ad102, e102, hx102_0, hx102_1, hx102_2⟩ := at_T89 HR0.out x5_1 p102 q102
       cases e102
       replace hx102_0 := kc_ HB hx102_0
       replace hx102_1 := kc_ HB hx102_1
       replace hx102_2 := kc_ HB hx102_2
       replace p102 := eq_true p102
       replace q102 := eq_true q102
       go_wp2_with (first | ((with_reducible refine gate_callee (f := 62) rfl ?_); refine goesL_ (some 23) rfl rfl Try.func62 (by kernel_rfl) rfl #[.agg #[.string ((rd_T89 l0 x5_1).f0), .int .i64 ((rd_T89 l0 x5_1).f1), .int .i64 ((rd_T89 l0 x5_1).f2)], .int .i64 x1_1] rfl gl_ ?_; (with_reducible refine (laws_szHold.calls ((rd_T89 l0 x5_1).f0) ((rd_T89 l0 x5_1).f1) ((rd_T89 l0 x5_1).f2) x1_1 t103 _ A6.out).mono ?_); rintro e w8 ⟨rfl, hb⟩; refine ⟨_, rfl, ?_⟩; have n0_ := Aside0.mk (below_step bl_ hb); clear HB; have HB := n0_; clear n0_; (try clear hb); (try clear hb2); (try clear hk); (try clear hi)))
       go_ret
       exact ⟨sq_, bl_⟩
      ·rw [if_neg c7] at H
       have c7b0 : decide (t103 < 0) = false := decide_eq_false c7
       clear c7
       have H' := Aside0.mk H
       clear H
       have p102 : 0 ≤ (x5_1 : Int) := od_
       have q102 : x5_1 < (l0.length : Int) := od_
       obtain ⟨ad102, e102, hx102_0, hx102_1, hx102_2⟩ := at_T89 HR0.out x5_1 p102 q102
       cases e102
       replace hx102_0 := kc_ HB hx102_0
       replace hx102_1 := kc_ HB hx102_1
       replace hx102_2 := kc_ HB hx102_2
       replace p102 := eq_true p102
       replace q102 := eq_true q102
       go_wp2_with (first | ((with_reducible refine gate_callee (f := 62) rfl ?_); refine goesL_ (some 23) rfl rfl Try.func62 (by kernel_rfl) rfl #[.agg #[.string ((rd_T89 l0 x5_1).f0), .int .i64 ((rd_T89 l0 x5_1).f1), .int .i64 ((rd_T89 l0 x5_1).f2)], .int .i64 x1_1] rfl gl_ ?_; (with_reducible refine (laws_szHold.calls ((rd_T89 l0 x5_1).f0) ((rd_T89 l0 x5_1).f1) ((rd_T89 l0 x5_1).f2) x1_1 t103 _ A6.out).mono ?_); rintro e w9 ⟨rfl, hb⟩; refine ⟨_, rfl, ?_⟩; have n0_ := Aside0.mk (below_step bl_ hb); clear HB; have HB := n0_; clear n0_; (try clear hb); (try clear hb2); (try clear hk); (try clear hi)))
       go_roundg k1
       case measure => have := HK1.out; omega
       case rel => exact ⟨(t103), (wrap64 (x5_1 + 1)), sp_, sp_, H', ⟨by have := HK1.out; omega⟩, ⟨bl_⟩⟩
     ·rw [if_neg c5] at H
      exact absurd H (by simp)
    ·rw [if_neg c4] at H
     have c4b0 : decide (x5_1 < (l0.length : Int)) = false := decide_eq_false c4
     clear c4
     obtain rfl := Option.some.inj H
     go_wp2
     go_ret
     exact ⟨sq_, bl_⟩

/-! ### spec_HoldDrop: function 16 -/
def spec_HoldDrop.l0 : Nat → ByteArray → List (S93) → List (S93) → Int → Int → Option ((List (S93)))
 | 0, _, _, _, _, _ => none
 | k + 1, x1, x5, x9, x10, x11 => if x11 < x10 then (if 0 ≤ x11 then (if x11 < (x9.length : Int) then (if ((rd_T93 x9 x11).f0).toList = x1.toList then (spec_HoldDrop.l0 k x1 x5 x9 x10 (wrap64 (x11 + 1))) else (if x5.length < 4398046511104 then (spec_HoldDrop.l0 k x1 (x5 ++ [(⟨(rd_T93 x9 x11).f0, (rd_T93 x9 x11).f1, (rd_T93 x9 x11).f2⟩ : S93)]) x9 x10 (wrap64 (x11 + 1))) else (none))) else (none)) else (none)) else (some x5)
def spec_HoldDrop.f (k : Nat) (l0 : List (S93)) (a1 : ByteArray) : Option ((List (S93))) := spec_HoldDrop.l0 k a1 (([] : List (S93))) l0 (l0.length : Int) 0
theorem spec_HoldDrop.mono_l : ∀ k, (∀ y0 y1 y2 y3 y4, LeO (spec_HoldDrop.l0 k y0 y1 y2 y3 y4) (spec_HoldDrop.l0 (k + 1) y0 y1 y2 y3 y4))
 | 0 => fun _ _ _ _ _ r h => by simp [spec_HoldDrop.l0] at h
 | k + 1 => by
  have ih0 := spec_HoldDrop.mono_l k
  ·intro y0 y1 y2 y3 y4
   unfold spec_HoldDrop.l0
   repeat' first
   | (with_reducible exact ih0 _ _ _ _ _)
   | (with_reducible exact LeO.refl _)
   | (with_reducible exact LeO.none _)
   | (with_reducible refine LeO.ite ?_ ?_)
   | (with_reducible refine LeO.bind ?_ (fun _ => ?_))
   | exact ih0 _ _ _ _ _
   | exact LeO.none _
   | refine LeO.ite ?_ ?_
   | refine LeO.bind ?_ (fun _ => ?_)
theorem spec_HoldDrop.mono : ∀ a0 a1 k, LeO (spec_HoldDrop.f k a0 a1) (spec_HoldDrop.f (k + 1) a0 a1) := by
 intro a0 a1 k
 have ih0 := spec_HoldDrop.mono_l k
 unfold spec_HoldDrop.f
 repeat' first
   | (with_reducible exact ih0 _ _ _ _ _)
   | (with_reducible exact LeO.refl _)
   | (with_reducible exact LeO.none _)
   | (with_reducible refine LeO.ite ?_ ?_)
   | (with_reducible refine LeO.bind ?_ (fun _ => ?_))
   | exact ih0 _ _ _ _ _
   | exact LeO.none _
   | refine LeO.ite ?_ ?_
   | refine LeO.bind ?_ (fun _ => ?_)
set_option maxHeartbeats 8000000 in
set_option maxRecDepth 100000 in
theorem spec_HoldDrop.calls (k : Nat) (A0 : Option Addr) (c0 : Nat) (l0 : List (S93)) (a1 : ByteArray) (r : List (S93)) (w : World) (hr0 : Kd.C k93 w A0 l0.length l0) (hc0 : l0.length ≤ c0) (h : spec_HoldDrop.f k l0 a1 = some r) :
  Calls Try.prog 16 #[.slice A0 l0.length c0, .string a1] w fun e w' => ∃ v0_ : Value, e = .returned (v0_) ∧ Kd.R k93 93 w' w.heap.size (fun _ => True) v0_ r ∧ Below w.heap.size w w' := by
 have hu93 := Try.underlying93
 have HR0 := Aside0.mk hr0
 have HC0 := Aside0.mk hc0
 clear hr0 hc0
 have HB := Aside0.mk (Below.refl w.heap.size w)
 have H : (spec_HoldDrop.l0 k a1 (([] : List (S93))) l0 (l0.length : Int) 0) = some r := h
 clear h
 obtain ⟨y104, hy104⟩ : ∃ y_ : List (S93), y_ = (([] : List (S93))) := ⟨_, rfl⟩
 replace H : (spec_HoldDrop.l0 k a1 y104 l0 (l0.length : Int) 0) = some r := by first | (rw [hy104]; with_reducible exact H) | (have H2_ := (Option.bind_some _ _).symm.trans H; rw [hy104]; with_reducible exact H2_) | (have H2_ := (Option.bind_some _ _).symm.trans H; with_reducible exact H2_) | with_reducible exact H | (rw [hy104]; exact H) | exact H
 have Ny104 := Aside0.mk hy104
 clear hy104
 have H' := Aside0.mk H
 clear H
 go_enter Try.func16, Try.ntmps16
 go_wp2_with (first | ((with_reducible refine gate_dst (N := 8) rfl ?_); refine Kd.R_lit k93 _ 93 ?hg (N := 8) ?hd (xs := ([] : List (S93))) (inner := []) (ok := fun _ => True) (okp := fun _ => True) ?hr ?hp (fun _ hk => hk) trivial (Below.refl _ _) (Nat.le_refl _) (by simp) ?_; (case hd => rfl); (case hg => rfl); (case hr => first | (go_simp; done) | (go_simp; rfl)); (case hp => exact (Reps.none _ _)); intro v105 w3 ho4 hb hg_ hnew_; clear hg_ hnew_; (first | rw [← Ny104.out] at ho4 | (simp only [Int.reduceToNat] at ho4; rw [← Ny104.out] at ho4)); have n0_ := Aside0.mk (Kd.R_lower ho4 (below_size bl_)); have n1_ := Aside0.mk (below_step bl_ hb); clear HB; have HO106 := n0_; have HB := n1_; clear n0_ n1_; clear hb ho4))
 go_loopg [5, 11] k (fun kq v5 v11 w' => ∃ (x5_1 : List (S93)) (x11_1 : Int), v11 = .int .i64 x11_1 ∧ Aside0 (spec_HoldDrop.l0 kq a1 x5_1 l0 (l0.length : Int) x11_1 = some r) ∧ Aside0 (kq ≤ k) ∧ Aside0 (Kd.R k93 93 w' w.heap.size (fun _ => True) v5 x5_1) ∧ Aside0 (Below w.heap.size w w'))
 case atStart => exact ⟨(y104), (0), sp_, H', ⟨Nat.le_refl _⟩, ⟨ra_ HO106⟩, ⟨bl_⟩⟩
 case round =>
  clear H'
  try clear c1
  try clear p2
  obtain ⟨x5_1, x11_1, rfl, HA, HK1, HO_5, HB⟩ := hrel
  cases gk with
  | zero => exact absurd HA.out (by simp [spec_HoldDrop.l0])
  | succ k1 =>
   have H := HA.out
   clear HA
   simp only [spec_HoldDrop.l0] at H
   by_cases c5 : x11_1 < (l0.length : Int)
   ·rw [if_pos c5] at H
    have c5b0 : decide (x11_1 < (l0.length : Int)) = true := decide_eq_true c5
    clear c5
    by_cases c6 : 0 ≤ x11_1
    ·rw [if_pos c6] at H
     have c6b0 : decide (0 ≤ x11_1) = true := decide_eq_true c6
     clear c6
     by_cases c7 : x11_1 < (l0.length : Int)
     ·rw [if_pos c7] at H
      have c7b0 : decide (x11_1 < (l0.length : Int)) = true := decide_eq_true c7
      clear c7
      by_cases c8 : ((rd_T93 l0 x11_1).f0).toList = a1.toList
      ·rw [if_pos c8] at H
       have c8b0 : (((rd_T93 l0 x11_1).f0).toList == a1.toList) = true := beq_iff_eq.mpr c8
       have c8b1 : (((rd_T93 l0 x11_1).f0).toList != a1.toList) = false := bne_eq_false_iff_eq.mpr c8
       clear c8
       have H' := Aside0.mk H
       clear H
       have p107 : 0 ≤ (x11_1 : Int) := od_
       have q107 : x11_1 < (l0.length : Int) := od_
       obtain ⟨ad107, e107, hx107_0, hx107_1, hx107_2⟩ := at_T93 HR0.out x11_1 p107 q107
       cases e107
       replace hx107_0 := kc_ HB hx107_0
       replace hx107_1 := kc_ HB hx107_1
       replace hx107_2 := kc_ HB hx107_2
       replace p107 := eq_true p107
       replace q107 := eq_true q107
       go_wp2_with (first | ((with_reducible refine gate_dst (N := 7) rfl ?_); refine box_event ?hg (N := 7) ?hd (cs := #[.string (⟨#[]⟩ : ByteArray), .int .i64 0, .int .i64 0]) (t := 93) ?hr ?_; (case hd => rfl); (case hg => rfl); (case hr => first | (go_simp; done) | (go_simp; rfl)); intro gb108 hg w9 hbox hb; have n0_ := Aside0.mk (Kd.R_below (Kd.R_elderB (ra_ HO_5) gb108 (Nat.le_of_eq hg.symm)) hb); have n1_ := Aside0.mk (below_step bl_ hb); have n2_ := Aside0.mk (hbox); have n3_ := gw_ (w := w) hg; have n4_ := gw_ (w := w) hg; clear HO_5; clear HB; have HO_5 := n0_; have HB := n1_; have BK108 := n2_; have GW108 := n3_; have GE108 := n4_; clear n0_ n1_ n2_ n3_ n4_; clear hb hbox hg; have hcz10_0 := cz_ BK108 0 (.string (⟨#[]⟩ : ByteArray)); have hcz10_1 := cz_ BK108 1 (.int .i64 0); have hcz10_2 := cz_ BK108 2 (.int .i64 0); have hfz10_0 := fz_ BK108 0; have hfz10_1 := fz_ BK108 1; have hfz10_2 := fz_ BK108 2))
       go_roundg k1
       case measure => have := HK1.out; omega
       case rel => exact ⟨(x5_1), (wrap64 (x11_1 + 1)), sp_, H', ⟨by have := HK1.out; omega⟩, ⟨by (with_reducible repeat (first | apply Kd.R_alloc | apply Kd.R_drewN | apply Kd.R_drew)); exact Kd.R_mono (Kd.R_far (p := ⟨gb108, 2, none⟩) (Kd.R_far (p := ⟨gb108, 1, none⟩) (Kd.R_far (p := ⟨gb108, 0, none⟩) (Kd.R_mono HO_5.out (fun k_ hk => (⟨hk, hk.2⟩ : _ ∧ k_ ≠ gb108))) (fun _ hk => hk.2) (.string ((rd_T93 l0 x11_1).f0))) (fun _ hk => hk.2) (.int .i64 ((rd_T93 l0 x11_1).f1))) (fun _ hk => hk.2) (.int .i64 ((rd_T93 l0 x11_1).f2))) (fun _ hk => trivial)⟩, ⟨bl_⟩⟩
      ·rw [if_neg c8] at H
       have c8b0 : (((rd_T93 l0 x11_1).f0).toList == a1.toList) = false := beq_eq_false_iff_ne.mpr c8
       have c8b1 : (((rd_T93 l0 x11_1).f0).toList != a1.toList) = true := bne_iff_ne.mpr c8
       by_cases c11 : x5_1.length < 4398046511104
       ·rw [if_pos c11] at H
        have LMc11 := Aside0.mk c11
        clear c11
        obtain ⟨y109, hy109⟩ : ∃ y_ : List (S93), y_ = (x5_1 ++ [(⟨(rd_T93 l0 x11_1).f0, (rd_T93 l0 x11_1).f1, (rd_T93 l0 x11_1).f2⟩ : S93)]) := ⟨_, rfl⟩
        replace H : (spec_HoldDrop.l0 k1 a1 y109 l0 (l0.length : Int) (wrap64 (x11_1 + 1))) = some r := by first | (rw [hy109]; with_reducible exact H) | (have H2_ := (Option.bind_some _ _).symm.trans H; rw [hy109]; with_reducible exact H2_) | (have H2_ := (Option.bind_some _ _).symm.trans H; with_reducible exact H2_) | with_reducible exact H | (rw [hy109]; exact H) | exact H
        have Ny109 := Aside0.mk hy109
        clear hy109
        have H' := Aside0.mk H
        clear H
        have p107 : 0 ≤ (x11_1 : Int) := od_
        have q107 : x11_1 < (l0.length : Int) := od_
        obtain ⟨ad107, e107, hx107_0, hx107_1, hx107_2⟩ := at_T93 HR0.out x11_1 p107 q107
        cases e107
        replace hx107_0 := kc_ HB hx107_0
        replace hx107_1 := kc_ HB hx107_1
        replace hx107_2 := kc_ HB hx107_2
        replace p107 := eq_true p107
        replace q107 := eq_true q107
        go_wp2_with (first | ((with_reducible refine gate_dst (N := 7) rfl ?_); refine box_event ?hg (N := 7) ?hd (cs := #[.string (⟨#[]⟩ : ByteArray), .int .i64 0, .int .i64 0]) (t := 93) ?hr ?_; (case hd => rfl); (case hg => rfl); (case hr => first | (go_simp; done) | (go_simp; rfl)); intro gb108 hg w12 hbox hb; have n0_ := Aside0.mk (Kd.R_below (Kd.R_elderB (ra_ HO_5) gb108 (Nat.le_of_eq hg.symm)) hb); have n1_ := Aside0.mk (below_step bl_ hb); have n2_ := Aside0.mk (hbox); have n3_ := gw_ (w := w) hg; have n4_ := gw_ (w := w) hg; clear HO_5; clear HB; have HO_5 := n0_; have HB := n1_; have BK108 := n2_; have GW108 := n3_; have GE108 := n4_; clear n0_ n1_ n2_ n3_ n4_; clear hb hbox hg; have hcz13_0 := cz_ BK108 0 (.string (⟨#[]⟩ : ByteArray)); have hcz13_1 := cz_ BK108 1 (.int .i64 0); have hcz13_2 := cz_ BK108 2 (.int .i64 0); have hfz13_0 := fz_ BK108 0; have hfz13_1 := fz_ BK108 1; have hfz13_2 := fz_ BK108 2) | ((with_reducible refine gate_builtin (b := .append) (xs := #[.tmp 19, .tmp 21]) rfl ?_); at_builtin; refine Kd.R_append k93 (w0 := w) w.heap.size rfl (.tmp 19) (.tmp 21) 24 93 (.agg #[(.string ⟨#[]⟩), (.int .i64 0), (.int .i64 0)]) 32 rfl Try.underlying24 info93 rfl (by decide) (by omega) u5 x5_1 (⟨(rd_T93 l0 x11_1).f0, (rd_T93 l0 x11_1).f1, (rd_T93 l0 x11_1).f2⟩ : S93) [.string ((rd_T93 l0 x11_1).f0), .int .i64 ((rd_T93 l0 x11_1).f1), .int .i64 ((rd_T93 l0 x11_1).f2)] (fun k_ => k_ ≠ gb108) (fun _ => False) rfl (by first | (go_simp; done) | (go_simp; rfl)) ?aP (fun _ hk => hk.elim) ?aF ?aO ?aB ?aS ?aL ?_; (case aP => exact k93_mkM _ _ _ (⟨(rd_T93 l0 x11_1).f0, (rd_T93 l0 x11_1).f1, (rd_T93 l0 x11_1).f2⟩ : S93)); (case aB => exact bl_); (case aF => exact (fun k_ hk => Kd.freshB (g := gb108) (o := .cells #[.string ((rd_T93 l0 x11_1).f0), .int .i64 ((rd_T93 l0 x11_1).f1), .int .i64 ((rd_T93 l0 x11_1).f2)] 93 (0, 0)) (by (with_reducible repeat (first | refine blk_drewN ?_ _ | refine blk_drew ?_ | refine blk_alloc ?_ _)); refine blk_put (cs := #[.string ((rd_T93 l0 x11_1).f0), .int .i64 ((rd_T93 l0 x11_1).f1), .int .i64 0]) ?_ 2 _ rfl; refine blk_put (cs := #[.string ((rd_T93 l0 x11_1).f0), .int .i64 0, .int .i64 0]) ?_ 1 _ rfl; refine blk_put (cs := #[.string (⟨#[]⟩ : ByteArray), .int .i64 0, .int .i64 0]) ?_ 0 _ rfl; (with_reducible repeat (first | refine blk_drewN ?_ _ | refine blk_drew ?_ | refine blk_alloc ?_ _)); exact BK108.out) k_ hk)); (case aO => exact (by (with_reducible repeat (first | apply Kd.R_alloc | apply Kd.R_drewN | apply Kd.R_drew)); exact Kd.R_mono (Kd.R_far (p := ⟨gb108, 2, none⟩) (Kd.R_far (p := ⟨gb108, 1, none⟩) (Kd.R_far (p := ⟨gb108, 0, none⟩) (Kd.R_mono HO_5.out (fun k_ hk => (⟨hk, hk.2⟩ : _ ∧ k_ ≠ gb108))) (fun _ hk => hk.2) (.string ((rd_T93 l0 x11_1).f0))) (fun _ hk => hk.2) (.int .i64 ((rd_T93 l0 x11_1).f1))) (fun _ hk => hk.2) (.int .i64 ((rd_T93 l0 x11_1).f2))) (fun _ hk => hk.1.2))); (case aS => exact (below_size bl_)); (case aL => have := LMc11.out; omega); intro v110 w14 ho hb hg hat; rw [← Ny109.out] at ho; have n0_ := Aside0.mk (blk_grown (g := gb108) (o := .cells #[.string ((rd_T93 l0 x11_1).f0), .int .i64 ((rd_T93 l0 x11_1).f1), .int .i64 ((rd_T93 l0 x11_1).f2)] 93 (0, 0)) (by (with_reducible repeat (first | refine blk_drewN ?_ _ | refine blk_drew ?_ | refine blk_alloc ?_ _)); refine blk_put (cs := #[.string ((rd_T93 l0 x11_1).f0), .int .i64 ((rd_T93 l0 x11_1).f1), .int .i64 0]) ?_ 2 _ rfl; refine blk_put (cs := #[.string ((rd_T93 l0 x11_1).f0), .int .i64 0, .int .i64 0]) ?_ 1 _ rfl; refine blk_put (cs := #[.string (⟨#[]⟩ : ByteArray), .int .i64 0, .int .i64 0]) ?_ 0 _ rfl; (with_reducible repeat (first | refine blk_drewN ?_ _ | refine blk_drew ?_ | refine blk_alloc ?_ _)); exact BK108.out) hg (Kd.R_away HO_5.out (fun _ hk => hk.2))); have n1_ := Aside0.mk (hb); have n2_ := Aside0.mk (ho); clear BK108; clear HB; clear HO_5; have BK108 := n0_; have HB := n1_; have HO111 := n2_; clear n0_ n1_ n2_; clear ho hb hg hat))
        go_roundg k1
        case measure => have := HK1.out; omega
        case rel => exact ⟨(y109), (wrap64 (x11_1 + 1)), sp_, H', ⟨by have := HK1.out; omega⟩, ⟨by (with_reducible repeat (first | apply Kd.R_alloc | apply Kd.R_drewN | apply Kd.R_drew)); exact Kd.R_mono HO111.out (fun _ hk => trivial)⟩, ⟨bl_⟩⟩
       ·rw [if_neg c11] at H
        exact absurd H (by simp)
     ·rw [if_neg c7] at H
      exact absurd H (by simp)
    ·rw [if_neg c6] at H
     exact absurd H (by simp)
   ·rw [if_neg c5] at H
    have c5b0 : decide (x11_1 < (l0.length : Int)) = false := decide_eq_false c5
    clear c5
    obtain rfl := Option.some.inj H
    go_wp2
    go_ret
    exact ⟨_, by first | rfl | (simp [errW_none, errW_some] <;> rfl) | (simp [*, errW_none, errW_some] <;> rfl), ra_ HO_5, bl_⟩

/-! ### laws_toHold: function 64 -/
def laws_toHold.f (a0_0 : ByteArray) (a0_1 : Int) (a0_2 : Int) : Option (ByteArray × Int × Int) := some (a0_0, a0_1, a0_2)
set_option maxHeartbeats 8000000 in
set_option maxRecDepth 100000 in
theorem laws_toHold.calls (a0_0 : ByteArray) (a0_1 : Int) (a0_2 : Int) (r1 : ByteArray) (r2 : Int) (r3 : Int) (w : World) (h : laws_toHold.f a0_0 a0_1 a0_2 = some (r1, r2, r3)) :
  Calls Try.prog 64 #[.agg #[.string a0_0, .int .i64 a0_1, .int .i64 a0_2]] w fun e w' => e = .returned (.agg #[.string r1, .int .i64 r2, .int .i64 r3]) ∧ Below w.heap.size w w' := by
 have hu89 := Try.underlying89
 have hu93 := Try.underlying93
 have HB := Aside0.mk (Below.refl w.heap.size w)
 have H : (some (a0_0, a0_1, a0_2)) = some (r1, r2, r3) := h
 clear h
 simp only [Option.some.injEq, Prod.mk.injEq] at H
 obtain ⟨rfl, rfl, rfl⟩ := H
 go_enter Try.func64, Try.ntmps64
 go_wp2_with (first | ((with_reducible refine gate_dst (N := 1) rfl ?_); refine box_event ?hg (N := 1) ?hd (cs := #[.string a0_0, .int .i64 a0_1, .int .i64 a0_2]) (t := 89) ?hr ?_; (case hd => rfl); (case hg => rfl); (case hr => first | (go_simp; done) | (go_simp; rfl)); intro gb112 hg w2 hbox hb; have n0_ := Aside0.mk (below_step bl_ hb); have n1_ := Aside0.mk (hbox); have n2_ := gw_ (w := w) hg; have n3_ := gw_ (w := w) hg; clear HB; have HB := n0_; have BK112 := n1_; have GW112 := n2_; have GE112 := n3_; clear n0_ n1_ n2_ n3_; clear hb hbox hg) | ((with_reducible refine gate_dst (N := 2) rfl ?_); refine box_event ?hg (N := 2) ?hd (cs := #[.string (⟨#[]⟩ : ByteArray), .int .i64 0, .int .i64 0]) (t := 93) ?hr ?_; (case hd => rfl); (case hg => rfl); (case hr => first | (go_simp; done) | (go_simp; rfl)); intro gb113 hg w3 hbox hb; have n0_ := Aside0.mk (blk_below (bk_ BK112) hb); have n1_ := Aside0.mk (below_step bl_ hb); have n2_ := Aside0.mk (hbox); have n3_ := gw_ (w := w) hg; have n4_ := gw_ (w := w) hg; have n5_ := Aside0.mk ((by rw [hg]; exact Nat.ne_of_lt (blk_lt (bk_ BK112)) : gb112 ≠ gb113)); have n6_ := Aside0.mk ((by rw [hg]; exact Nat.ne_of_gt (blk_lt (bk_ BK112)) : gb113 ≠ gb112)); clear BK112; clear HB; have BK112 := n0_; have HB := n1_; have BK113 := n2_; have GW113 := n3_; have GE113 := n4_; have NB112_113 := n5_; have NB113_112 := n6_; clear n0_ n1_ n2_ n3_ n4_ n5_ n6_; clear hb hbox hg) | ((with_reducible refine gate_dst (N := 3) rfl ?_); refine box_event ?hg (N := 3) ?hd (cs := #[.string (⟨#[]⟩ : ByteArray), .int .i64 0, .int .i64 0]) (t := 93) ?hr ?_; (case hd => rfl); (case hg => rfl); (case hr => first | (go_simp; done) | (go_simp; rfl)); intro gb114 hg w4 hbox hb; have n0_ := Aside0.mk (blk_below (bk_ BK112) hb); have n1_ := Aside0.mk (blk_below (bk_ BK113) hb); have n2_ := Aside0.mk (below_step bl_ hb); have n3_ := Aside0.mk (hbox); have n4_ := gw_ (w := w) hg; have n5_ := gw_ (w := w) hg; have n6_ := Aside0.mk ((by rw [hg]; exact Nat.ne_of_lt (blk_lt (bk_ BK112)) : gb112 ≠ gb114)); have n7_ := Aside0.mk ((by rw [hg]; exact Nat.ne_of_gt (blk_lt (bk_ BK112)) : gb114 ≠ gb112)); have n8_ := Aside0.mk ((by rw [hg]; exact Nat.ne_of_lt (blk_lt (bk_ BK113)) : gb113 ≠ gb114)); have n9_ := Aside0.mk ((by rw [hg]; exact Nat.ne_of_gt (blk_lt (bk_ BK113)) : gb114 ≠ gb113)); clear BK112; clear BK113; clear HB; have BK112 := n0_; have BK113 := n1_; have HB := n2_; have BK114 := n3_; have GW114 := n4_; have GE114 := n5_; have NB112_114 := n6_; have NB114_112 := n7_; have NB113_114 := n8_; have NB114_113 := n9_; clear n0_ n1_ n2_ n3_ n4_ n5_ n6_ n7_ n8_ n9_; clear hb hbox hg; have hnb5 := NB112_113.out; have hnc5 := NB113_112.out; have hnb6 := NB112_114.out; have hnc6 := NB114_112.out; have hcz7_0 := cz_ BK112 0 (.string a0_0); have hcz7_1 := cz_ BK112 1 (.int .i64 a0_1); have hcz7_2 := cz_ BK112 2 (.int .i64 a0_2); have hfz7_0 := fz_ BK112 0; have hfz7_1 := fz_ BK112 1; have hfz7_2 := fz_ BK112 2; have hnb8 := NB114_113.out; have hnc8 := NB113_114.out; have hcz9_0 := cz_ BK114 0 (.string (⟨#[]⟩ : ByteArray)); have hcz9_1 := cz_ BK114 1 (.int .i64 0); have hcz9_2 := cz_ BK114 2 (.int .i64 0); have hfz9_0 := fz_ BK114 0; have hfz9_1 := fz_ BK114 1; have hfz9_2 := fz_ BK114 2; have hcz10_0 := cz_ BK113 0 (.string (⟨#[]⟩ : ByteArray)); have hcz10_1 := cz_ BK113 1 (.int .i64 0); have hcz10_2 := cz_ BK113 2 (.int .i64 0); have hfz10_0 := fz_ BK113 0; have hfz10_1 := fz_ BK113 1; have hfz10_2 := fz_ BK113 2))
 refine bodyPost_ret (results_cell_row rfl _ _ gb113 93 #[.string a0_0, .int .i64 a0_1, .int .i64 a0_2] (0, 0) _ rfl (by (with_reducible repeat (first | refine blk_drewN ?_ _ | refine blk_drew ?_ | refine blk_alloc ?_ _)); refine blk_put (cs := #[.string a0_0, .int .i64 a0_1, .int .i64 0]) ?_ 2 _ rfl; refine blk_put (cs := #[.string a0_0, .int .i64 0, .int .i64 0]) ?_ 1 _ rfl; refine blk_put (cs := #[.string (⟨#[]⟩ : ByteArray), .int .i64 0, .int .i64 0]) ?_ 0 _ rfl; (with_reducible repeat (first | refine blk_drewN ?_ _ | refine blk_drew ?_ | refine blk_alloc ?_ _)); refine blk_far ?_ NB113_114.out _; (with_reducible repeat (first | refine blk_drewN ?_ _ | refine blk_drew ?_ | refine blk_alloc ?_ _)); refine blk_far ?_ NB113_114.out _; (with_reducible repeat (first | refine blk_drewN ?_ _ | refine blk_drew ?_ | refine blk_alloc ?_ _)); refine blk_far ?_ NB113_114.out _; (with_reducible repeat (first | refine blk_drewN ?_ _ | refine blk_drew ?_ | refine blk_alloc ?_ _)); exact BK113.out) Try.underlying93 rfl (by kernel_rfl)) rfl ?_
 exact ⟨sq_, bl_⟩

/-! ### laws_toHoldS: function 17 -/
def laws_toHoldS.l0 : Nat → List (S89) → List (S93) → Int → Option ((List (S93)))
 | 0, _, _, _ => none
 | k + 1, x0, x3, x4 => if x4 < (x0.length : Int) then (if 0 ≤ x4 then ((laws_toHold.f ((rd_T89 x0 x4).f0) ((rd_T89 x0 x4).f1) ((rd_T89 x0 x4).f2)).bind fun bt119 => (if x4 < (x3.length : Int) then (laws_toHoldS.l0 k x0 (x3.set (x4 : Int).toNat (⟨bt119.1, bt119.2.1, bt119.2.2⟩ : S93)) (wrap64 (x4 + 1))) else (none))) else (none)) else (some x3)
def laws_toHoldS.f (k : Nat) (l0 : List (S89)) : Option ((List (S93))) := if 0 ≤ (l0.length : Int) then (if ((l0.length : Int) : Int).toNat ≤ 8796093022208 then (laws_toHoldS.l0 k l0 (List.replicate ((l0.length : Int) : Int).toNat z93) 0) else (none)) else (none)
theorem laws_toHoldS.mono_l : ∀ k, (∀ y0 y1 y2, LeO (laws_toHoldS.l0 k y0 y1 y2) (laws_toHoldS.l0 (k + 1) y0 y1 y2))
 | 0 => fun _ _ _ r h => by simp [laws_toHoldS.l0] at h
 | k + 1 => by
  have ih0 := laws_toHoldS.mono_l k
  ·intro y0 y1 y2
   unfold laws_toHoldS.l0
   repeat' first
   | (with_reducible exact ih0 _ _ _)
   | (with_reducible exact LeO.refl _)
   | (with_reducible exact LeO.none _)
   | (with_reducible refine LeO.ite ?_ ?_)
   | (with_reducible refine LeO.bind ?_ (fun _ => ?_))
   | exact ih0 _ _ _
   | exact LeO.none _
   | refine LeO.ite ?_ ?_
   | refine LeO.bind ?_ (fun _ => ?_)
theorem laws_toHoldS.mono : ∀ a0 k, LeO (laws_toHoldS.f k a0) (laws_toHoldS.f (k + 1) a0) := by
 intro a0 k
 have ih0 := laws_toHoldS.mono_l k
 unfold laws_toHoldS.f
 repeat' first
   | (with_reducible exact ih0 _ _ _)
   | (with_reducible exact LeO.refl _)
   | (with_reducible exact LeO.none _)
   | (with_reducible refine LeO.ite ?_ ?_)
   | (with_reducible refine LeO.bind ?_ (fun _ => ?_))
   | exact ih0 _ _ _
   | exact LeO.none _
   | refine LeO.ite ?_ ?_
   | refine LeO.bind ?_ (fun _ => ?_)
set_option maxHeartbeats 8000000 in
set_option maxRecDepth 100000 in
theorem laws_toHoldS.calls (k : Nat) (A0 : Option Addr) (c0 : Nat) (l0 : List (S89)) (r : List (S93)) (w : World) (hr0 : Kd.C k89 w A0 l0.length l0) (hc0 : l0.length ≤ c0) (h : laws_toHoldS.f k l0 = some r) :
  Calls Try.prog 17 #[.slice A0 l0.length c0] w fun e w' => ∃ v0_ : Value, e = .returned (v0_) ∧ Kd.R k93 93 w' w.heap.size (fun _ => True) v0_ r ∧ Below w.heap.size w w' := by
 have hu89 := Try.underlying89
 have hu93 := Try.underlying93
 have HR0 := Aside0.mk hr0
 have HC0 := Aside0.mk hc0
 clear hr0 hc0
 have HB := Aside0.mk (Below.refl w.heap.size w)
 have H : (if 0 ≤ (l0.length : Int) then (if ((l0.length : Int) : Int).toNat ≤ 8796093022208 then (laws_toHoldS.l0 k l0 (List.replicate ((l0.length : Int) : Int).toNat z93) 0) else (none)) else (none)) = some r := h
 clear h
 by_cases c2 : 0 ≤ (l0.length : Int)
 ·rw [if_pos c2] at H
  have c2b0 := eq_true c2
  have c2b1 : decide (0 ≤ (l0.length : Int)) = true := decide_eq_true c2
  clear c2
  by_cases c3 : ((l0.length : Int) : Int).toNat ≤ 8796093022208
  ·rw [if_pos c3] at H
   have c3b0 := eq_true c3
   have c3b1 : decide (((l0.length : Int) : Int).toNat ≤ 8796093022208) = true := decide_eq_true c3
   clear c3
   obtain ⟨y115, hy115⟩ : ∃ y_ : List (S93), y_ = (List.replicate ((l0.length : Int) : Int).toNat z93) := ⟨_, rfl⟩
   replace H : (laws_toHoldS.l0 k l0 y115 0) = some r := by first | (rw [hy115]; with_reducible exact H) | (have H2_ := (Option.bind_some _ _).symm.trans H; rw [hy115]; with_reducible exact H2_) | (have H2_ := (Option.bind_some _ _).symm.trans H; with_reducible exact H2_) | with_reducible exact H | (rw [hy115]; exact H) | exact H
   have Ny115 := Aside0.mk hy115
   clear hy115
   have H' := Aside0.mk H
   clear H
   go_enter Try.func17, Try.ntmps17
   go_wp2_with (first | ((with_reducible refine gate_dst (N := 7) rfl ?_); refine Kd.R_make k93 _ 93 rfl (N := 7) rfl 24 _ _ rfl (l0.length : Int) rfl rfl Try.underlying24 (.agg #[(.string ⟨#[]⟩), (.int .i64 0), (.int .i64 0)]) 32 info93 rfl (by decide) (by omega) z93 (ok := fun _ => True) (okp := fun _ => True) (k93_mkM _ _ _ z93 ) (fun _ hk => hk) trivial od_ (Nat.le_trans (Nat.mul_le_mul_right _ (od_ : (l0.length : Int).toNat ≤ 8796093022208)) (by omega)) (Below.refl _ _) (Nat.le_refl _) ?_; intro v116 w4 ho5 hb hg_ hnew_; clear hg_ hnew_; (first | rw [← Ny115.out] at ho5 | (simp only [Int.reduceToNat] at ho5; rw [← Ny115.out] at ho5)); have n0_ := Aside0.mk (Kd.R_lower ho5 (below_size bl_)); have n1_ := Aside0.mk (below_step bl_ hb); clear HB; have HO117 := n0_; have HB := n1_; clear n0_ n1_; clear hb ho5))
   go_loopg [4] k (fun kq v4 w' => ∃ (x3_1 : List (S93)) (x4_1 : Int), v4 = .int .i64 x4_1 ∧ Aside0 (laws_toHoldS.l0 kq l0 x3_1 x4_1 = some r) ∧ Aside0 (kq ≤ k) ∧ Aside0 (Kd.R k93 93 w' w.heap.size (fun _ => True) v116 x3_1) ∧ Aside0 (Below w.heap.size w w'))
   case atStart => exact ⟨(y115), (0), sp_, H', ⟨Nat.le_refl _⟩, ⟨ra_ HO117⟩, ⟨bl_⟩⟩
   case round =>
    clear H'
    try clear c1
    try clear c2
    try clear c2b0
    try clear c2b1
    try clear p2
    try clear c3
    try clear c3b0
    try clear c3b1
    obtain ⟨x3_1, x4_1, rfl, HA, HK1, HO_3, HB⟩ := hrel
    cases gk with
    | zero => exact absurd HA.out (by simp [laws_toHoldS.l0])
    | succ k1 =>
     have H := HA.out
     clear HA
     simp only [laws_toHoldS.l0] at H
     by_cases c6 : x4_1 < (l0.length : Int)
     ·rw [if_pos c6] at H
      have c6b0 : decide (x4_1 < (l0.length : Int)) = true := decide_eq_true c6
      clear c6
      by_cases c7 : 0 ≤ x4_1
      ·rw [if_pos c7] at H
       have c7b0 : decide (0 ≤ x4_1) = true := decide_eq_true c7
       clear c7
       replace H := Option.bind_eq_some_iff.mp H
       obtain ⟨⟨t119, t120, t121⟩, A80, H⟩ := H
       replace H : (if x4_1 < (x3_1.length : Int) then (laws_toHoldS.l0 k1 l0 (x3_1.set (x4_1 : Int).toNat (⟨t119, t120, t121⟩ : S93)) (wrap64 (x4_1 + 1))) else (none)) = some r := H
       have A8 := Aside0.mk A80
       clear A80
       by_cases c9 : x4_1 < (x3_1.length : Int)
       ·rw [if_pos c9] at H
        have c9b0 : decide (x4_1 < (x3_1.length : Int)) = true := decide_eq_true c9
        clear c9
        obtain ⟨y122, hy122⟩ : ∃ y_ : List (S93), y_ = (x3_1.set (x4_1 : Int).toNat (⟨t119, t120, t121⟩ : S93)) := ⟨_, rfl⟩
        replace H : (laws_toHoldS.l0 k1 l0 y122 (wrap64 (x4_1 + 1))) = some r := by first | (rw [hy122]; with_reducible exact H) | (have H2_ := (Option.bind_some _ _).symm.trans H; rw [hy122]; with_reducible exact H2_) | (have H2_ := (Option.bind_some _ _).symm.trans H; with_reducible exact H2_) | with_reducible exact H | (rw [hy122]; exact H) | exact H
        have Ny122 := Aside0.mk hy122
        clear hy122
        have H' := Aside0.mk H
        clear H
        have p118 : 0 ≤ (x4_1 : Int) := od_
        have q118 : x4_1 < (l0.length : Int) := od_
        obtain ⟨ad118, e118, hx118_0, hx118_1, hx118_2⟩ := at_T89 HR0.out x4_1 p118 q118
        cases e118
        replace hx118_0 := kc_ HB hx118_0
        replace hx118_1 := kc_ HB hx118_1
        replace hx118_2 := kc_ HB hx118_2
        replace p118 := eq_true p118
        replace q118 := eq_true q118
        go_wp2_with (first | ((with_reducible refine gate_callee (f := 64) rfl ?_); refine goesL_ (some 20) rfl rfl Try.func64 (by kernel_rfl) rfl #[.agg #[.string ((rd_T89 l0 x4_1).f0), .int .i64 ((rd_T89 l0 x4_1).f1), .int .i64 ((rd_T89 l0 x4_1).f2)]] rfl gl_ ?_; (with_reducible refine (laws_toHold.calls ((rd_T89 l0 x4_1).f0) ((rd_T89 l0 x4_1).f1) ((rd_T89 l0 x4_1).f2) t119 t120 t121 _ A8.out).mono ?_); rintro e w11 ⟨rfl, hb⟩; refine ⟨_, rfl, ?_⟩; have n0_ := Aside0.mk (Kd.R_below (ra_ HO_3) hb); have n1_ := Aside0.mk (below_step bl_ hb); clear HO_3; clear HB; have HO_3 := n0_; have HB := n1_; clear n0_ n1_; (try clear hb); (try clear hb2); (try clear hk); (try clear hi); have p10 : 0 ≤ (x4_1 : Int) := od_; have q10 : (x4_1 : Int) < ((x3_1.length : Int) : Int) := od_; obtain ⟨go10, co10, eo10, gb10, gl10, cl10, HG10⟩ := Kd.R_form HO_3.out (by omega); (first | cases eo10 | (injection eo10 with ea_ en_ ec_; (first | subst ea_ | (injection ea_ with ea_; subst ea_)); subst ec_; clear en_)); have GB10 := Aside0.mk gb10; have GG10 := Aside0.mk HG10; clear gb10 gl10 HG10; obtain ⟨ce10, hcl10, hM10, hcc10, hfr10⟩ := Kd.R_elem HO_3.out z93 (x4_1 : Int) p10 q10; obtain rfl := k93_openM hM10; have hx10_0 : w11.cell? ⟨go10, (x4_1 : Int).toNat * 3, none⟩ = some (.string ((rd_T93 x3_1 x4_1).f0)) := hcc10 0 _ rfl; have hx10_1 : w11.cell? ⟨go10, (x4_1 : Int).toNat * 3 + 1, none⟩ = some (.int .i64 ((rd_T93 x3_1 x4_1).f1)) := hcc10 1 _ rfl; have hx10_2 : w11.cell? ⟨go10, (x4_1 : Int).toNat * 3 + 2, none⟩ = some (.int .i64 ((rd_T93 x3_1 x4_1).f2)) := hcc10 2 _ rfl; have hf10_0 : w11.frozen? ⟨go10, (x4_1 : Int).toNat * 3, none⟩ = false := hfr10 0; have hf10_1 : w11.frozen? ⟨go10, (x4_1 : Int).toNat * 3 + 1, none⟩ = false := hfr10 1; have hf10_2 : w11.frozen? ⟨go10, (x4_1 : Int).toNat * 3 + 2, none⟩ = false := hfr10 2; clear hcl10 hcc10 hfr10 hM10; replace p10 := eq_true p10; replace q10 := eq_true q10; have HX12 := Aside0.mk (show Kd.R k93 93 w11 w.heap.size (fun _ => True) (.slice (some ⟨go10, 0, none⟩) x3_1.length co10) x3_1 from (ra_ HO_3)); obtain ⟨ce12, hcl12, hM12, hcc12, hfr12⟩ := Kd.R_elem HX12.out z93 (x4_1 : Int) od_ (by have h_ : (x4_1 : Int) < ((x3_1.length : Int) : Int) := od_; first | exact h_ | (have e_ := (Kd.R_reads' HO_3.out).1; omega) | simpa using h_); obtain rfl := k93_openM hM12; have HP12 := Kd.R_seg HX12.out (x4_1 : Int) od_ (by have h_ : (x4_1 : Int) < ((x3_1.length : Int) : Int) := od_; first | exact h_ | (have e_ := (Kd.R_reads' HO_3.out).1; omega) | simpa using h_) (seg := [.string t119, .int .i64 t120, .int .i64 t121]) (j := 0) hcl12 hcc12 (show 3 ≤ 3 from by decide) (x' := (⟨t119, t120, t121⟩ : S93)) (k93_mkM _ _ _ (⟨t119, t120, t121⟩ : S93) ) (fun _ hk => hk); have hx12_0 := hcc12 0 _ rfl; (try simp only [show (k93).sz = 3 from rfl, Nat.mul_one, Nat.add_zero] at hx12_0); have hf12_0 := hfr12 0; (try simp only [show (k93).sz = 3 from rfl, Nat.mul_one, Nat.add_zero] at hf12_0); have hx12_1 := hcc12 1 _ rfl; (try simp only [show (k93).sz = 3 from rfl, Nat.mul_one, Nat.add_zero] at hx12_1); have hf12_1 := hfr12 1; (try simp only [show (k93).sz = 3 from rfl, Nat.mul_one, Nat.add_zero] at hf12_1); have hx12_2 := hcc12 2 _ rfl; (try simp only [show (k93).sz = 3 from rfl, Nat.mul_one, Nat.add_zero] at hx12_2); have hf12_2 := hfr12 2; (try simp only [show (k93).sz = 3 from rfl, Nat.mul_one, Nat.add_zero] at hf12_2); clear hcl12 hcc12 hfr12 hM12) | ((with_reducible refine gate_store (t := 93) (p := 21) rfl ?_); refine store_event (t := 93) (p := 21) (v := ?vo_w13) (w1 := (((w11.setCell ⟨go10, (x4_1 : Int).toNat * 3, none⟩ (.string t119)).setCell ⟨go10, (x4_1 : Int).toNat * 3 + 1, none⟩ (.int .i64 t120)).setCell ⟨go10, (x4_1 : Int).toNat * 3 + 2, none⟩ (.int .i64 t121))) ?hg ?ho ?hn ?hr ?_; (case ho => rfl); (case hg => rfl); (case hn => rfl); (case hr => first | (go_simp; done) | (go_simp; rfl)); intro w13 hw; have hg : w11.grownBy w13 (some go10) := (by rw [hw]; exact HP12.2); have hp_ : Kd.R k93 93 w13 w.heap.size (fun _ => True) (.slice (some ⟨go10, 0, none⟩) x3_1.length co10) y122 := (by rw [hw, Ny122.out]; exact HP12.1); clear HP12; have n0_ := Aside0.mk (hp_); have n1_ := Aside0.mk ((by rw [hw]; exact below_set (below_set (below_set (HB.out) GB10.out) GB10.out) GB10.out : Below w.heap.size w w13)); clear HO_3; clear HB; have HO_3 := n0_; have HB := n1_; clear n0_ n1_; clear hg hw hp_))
        go_roundg k1
        case measure => have := HK1.out; omega
        case rel => exact ⟨(y122), (wrap64 (x4_1 + 1)), sp_, H', ⟨by have := HK1.out; omega⟩, ⟨ra_ HO_3⟩, ⟨bl_⟩⟩
       ·rw [if_neg c9] at H
        exact absurd H (by simp)
      ·rw [if_neg c7] at H
       exact absurd H (by simp)
     ·rw [if_neg c6] at H
      have c6b0 : decide (x4_1 < (l0.length : Int)) = false := decide_eq_false c6
      clear c6
      obtain rfl := Option.some.inj H
      go_wp2
      go_ret
      exact ⟨_, by first | rfl | (simp [errW_none, errW_some] <;> rfl) | (simp [*, errW_none, errW_some] <;> rfl), ra_ HO_3, bl_⟩
  ·rw [if_neg c3] at H
   exact absurd H (by simp)
 ·rw [if_neg c2] at H
  exact absurd H (by simp)

/-! ### impl_Hold_77: function 77 -/
section
variable {α : Type} {d : Kd α} {e base g n cap : Nat} {ok : Nat → Prop} {xs : List α}
theorem df_app (g : Nat) : ∀ (a b : List Value) (o : Nat) (w : World), w.setCells g o (a ++ b) = (w.setCells g o a).setCells g (o + a.length) b
 | [], b, o, w => by simp [World.setCells]
 | v :: a, b, o, w => by
  simp only [List.cons_append, World.setCells, List.length_cons]
  rw [df_app g a b, show o + 1 + a.length = o + (a.length + 1) by omega]
theorem df_store {W : World} (h : d.R e W base ok (.slice (some ⟨g, 0, none⟩) n cap) xs) (z : α) (i : Nat) (hi : i < n) (x : α) (c : List Value) (hc : c.length = d.sz) (hM : d.M W base (fun _ => False) x c) :
  d.R e (W.setCells g (i * d.sz) c) base ok (.slice (some ⟨g, 0, none⟩) n cap) (xs.set i x) ∧ W.grownBy (W.setCells g (i * d.sz) c) (some g) := by
 obtain ⟨c0, hl, _, hcc, _⟩ := Kd.R_elem h z (i : Int) (by omega) (by omega)
 have hq := Kd.R_seg (okp := fun _ => False) (x' := x) (seg := c) (j := 0) h (i : Int) (by omega) (by omega) hl hcc (by omega) (by rw [List.take_zero, List.nil_append, Nat.zero_add, List.drop_eq_nil_of_le (by omega), List.append_nil]; exact hM) (fun _ hk => hk.elim)
 simpa using hq
theorem df_zeros {α : Type} {d : Kd α} {e base g n cap : Nat} {ok : Nat → Prop} (z : α) (c : List Value) (hc : c.length = d.sz) (hM : ∀ W, d.M W base (fun _ => False) z c) : ∀ (m i : Nat) (xs : List α) (W : World), i + m = n →
  d.R e W base ok (.slice (some ⟨g, 0, none⟩) n cap) xs → ∃ ys, ys.take i = xs.take i ∧ d.R e (W.setCells g (i * d.sz) (List.replicate m c).flatten) base ok (.slice (some ⟨g, 0, none⟩) n cap) ys ∧ W.grownBy (W.setCells g (i * d.sz) (List.replicate m c).flatten) (some g)
 | 0, i, xs, W, _, h => ⟨xs, rfl, by simpa [World.setCells] using h, by simp [World.setCells]; exact World.grownBy.refl W _⟩
 | m + 1, i, xs, W, hi, h => by
  obtain ⟨h1, g1⟩ := df_store h z i (by omega) z c hc (hM W)
  obtain ⟨ys, ht, h2, g2⟩ := df_zeros z c hc hM m (i + 1) (xs.set i z) _ (by omega) h1
  have e1 : i * d.sz + c.length = (i + 1) * d.sz := by rw [hc, Nat.succ_mul]
  refine ⟨ys, ?_, ?_, ?_⟩
  ·have h3 := congrArg (List.take i) ht
   rw [List.take_take, List.take_take, Nat.min_eq_left (by omega)] at h3
   rw [h3, List.take_set_of_le (by omega)]
  ·rw [List.replicate_succ, List.flatten_cons, df_app, e1]; exact h2
  ·rw [List.replicate_succ, List.flatten_cons, df_app, e1]; exact g1.trans g2
theorem df_clear {P : Program} (w : World) (t e ty : TypeId) (z : Value) (ht : P.underlying t = some (.slice e)) (hv : ∀ w, (zeroValue e).run P w = .ok z w) (hz : 0 < z.cells.size) (h1 : ∀ u ∈ z.cells.toList, u.oneCell' = true) (b o n c : Nat) (hn : 0 < n)
  (hc : ∀ j, j < n * z.cells.size → (w.cell? ⟨b, o + j, none⟩).isSome = true) (hf : ∀ j, j < n * z.cells.size → w.frozen? ⟨b, o + j, none⟩ = false) :
  (Builtin.clear_ #[t] ty #[.slice (some ⟨b, o, none⟩) n c]).run P w = .ok (.tuple #[]) (w.setCells b o (List.replicate n z.cells.toList).flatten) := by
 have hzc : (Builtin.zeroCells z.cells n).toList = (List.replicate n z.cells.toList).flatten := by
  simp only [Builtin.zeroCells]
  apply List.ext_getElem
  ·simp
  ·intro i h1 h2
   have hi : i < n * z.cells.size := by simpa using h1
   have hm : i % z.cells.size < z.cells.size := Nat.mod_lt _ hz
   have key : ∀ (m i : Nat) (hi : i < m * z.cells.size) (h : i < (List.replicate m z.cells.toList).flatten.length), (List.replicate m z.cells.toList).flatten[i] = z.cells[i % z.cells.size]'(Nat.mod_lt _ hz) := by
    intro m
    induction m with
    | zero => intro i hi; simp at hi
    | succ m ih =>
     intro i hi h
     have e1 : (List.replicate (m + 1) z.cells.toList).flatten = z.cells.toList ++ (List.replicate m z.cells.toList).flatten := by rw [List.replicate_succ, List.flatten_cons]
     rw [List.getElem_of_eq e1]
     by_cases hlt : i < z.cells.size
     ·rw [List.getElem_append_left (by simpa using hlt)]
      simp [Nat.mod_eq_of_lt hlt]
     ·rw [List.getElem_append_right (by simpa using hlt), ih _ (by simp; rw [Nat.succ_mul] at hi; omega)]
      have e2 : i % z.cells.size = (i - z.cells.size) % z.cells.size := Nat.mod_eq_sub_mod (by omega)
      simp only [Array.length_toList, e2]
   rw [key n i hi h2]
   simp
   rw [getElem!_pos z.cells _ hm]
 have hst := run_storeCells_cells (P := P) b o (List.replicate n z.cells.toList).flatten 0 w (by simpa using hc) (by simpa using hf) (by
  intro v hv'
  obtain ⟨l, hl, hv2⟩ := List.mem_flatten.1 hv'
  rw [List.eq_of_mem_replicate hl] at hv2
  exact h1 v hv2)
 simp only [Nat.add_zero] at hst
 obtain ⟨m, rfl⟩ : ∃ m, n = m + 1 := ⟨n - 1, by omega⟩
 simp [Builtin.clear_, run_underlying ht, hv, hzc, hst]
end
theorem impl_Hold_77.rdN {xs : List S93} {x : Int} (h : x.toNat < xs.length) : rd_T93 xs x = xs[x.toNat] := by
 unfold rd_T93
 rw [List.getD_eq_getElem?_getD, List.getElem?_eq_getElem h]; rfl
def impl_Hold_77.idxF (p : S93 → Bool) (xs : List S93) : Int := match xs.findIdx? p with | some j => (j : Int) | none => -1
theorem impl_Hold_77.idxF_none (p : S93 → Bool) (xs : List S93) (h : ∀ j (hj : j < xs.length), p xs[j] = false) : impl_Hold_77.idxF p xs = -1 := by
 unfold impl_Hold_77.idxF
 have : xs.findIdx? p = none := by
  rw [List.findIdx?_eq_none_iff]
  intro x hx
  obtain ⟨j, hj, rfl⟩ := List.getElem_of_mem hx
  exact h j hj
 rw [this]
theorem impl_Hold_77.idxF_some (p : S93 → Bool) (xs : List S93) (i : Nat) (hi : i < xs.length) (hp : p xs[i] = true) (h : ∀ j (hj : j < i), p (xs[j]'(by omega)) = false) : impl_Hold_77.idxF p xs = (i : Int) := by
 unfold impl_Hold_77.idxF
 have : xs.findIdx? p = some i := by
  rw [List.findIdx?_eq_some_iff_getElem]
  exact ⟨hi, hp, fun j hj => by simpa using h j hj⟩
 rw [this]
set_option maxHeartbeats 2000000 in
set_option maxRecDepth 100000 in
theorem impl_Hold_77.idx (A0 : Option Addr) (c0 : Nat) (l0 : List S93) (g : Nat) (lb : Array Value) (p : S93 → Bool) (w : World) (hr0 : Kd.C k93 w A0 l0.length l0) (hc0 : l0.length ≤ c0)
  (eg : ∀ args w, (callFunc g args).run Try.prog w = .ok (.enter g args) w)
  (hp : ∀ (W : World) (x : S93), Below w.heap.size w W → Calls Try.prog g (#[.agg #[.string x.f0, .int .i64 x.f1, .int .i64 x.f2]] ++ lb) W fun e w' => e = .returned (.bool (p x)) ∧ Below W.heap.size W w') :
  Calls Try.prog 135 #[.slice A0 l0.length c0, .func (.func g) #[] lb] w fun e w' => e = .returned (.int .i64 (impl_Hold_77.idxF p l0)) ∧ Below w.heap.size w w' := by
 have hlen : l0.length ≤ 9223372036854775807 := hr0.2.1
 have HR0 := Aside0.mk hr0
 have HL := Aside0.mk hlen
 have HP := Aside0.mk hp
 clear hr0 hp
 have HB := Aside0.mk (Below.refl w.heap.size w)
 have hu93 := Try.underlying93
 clear hlen hc0
 go_enter Try.func135, Try.ntmps135
 go_wp2
 go_loopg [5, 8] l0.length (fun gg _ s8 wr => ∃ x : Int, s8 = .int .i64 x ∧ Aside0 (0 ≤ x) ∧ Aside0 (x ≤ l0.length) ∧ Aside0 (l0.length - x.toNat ≤ gg) ∧ Aside0 (∀ j (hj : j < l0.length), (j : Int) < x → p l0[j] = false) ∧ Aside0 (Below w.heap.size w wr))
 case atStart => exact ⟨0, rfl, ⟨by omega⟩, ⟨by omega⟩, ⟨by omega⟩, ⟨fun j hj h => by omega⟩, ⟨Below.refl _ w⟩⟩
 case round =>
  obtain ⟨x, rfl, H0, H1, HG, AF, HB⟩ := hrel
  by_cases hlt : x < (l0.length : Int)
  ·have hN : x.toNat < l0.length := by have := H0.out; omega
   have HN := Aside0.mk hN
   have c0 : decide (x < (l0.length : Int)) = true := decide_eq_true hlt
   obtain ⟨ad, e, hx0, hx1, hx2⟩ := at_T93 HR0.out x H0.out hlt
   cases e
   replace hx0 := kc_ HB hx0
   replace hx1 := kc_ HB hx1
   replace hx2 := kc_ HB hx2
   have p0 := eq_true H0.out
   have q0 := eq_true hlt
   clear hN hlt
   have HX := Aside0.mk (impl_Hold_77.rdN HN.out)
   cases hq : p (rd_T93 l0 x) with
   | true =>
    have HC := Aside0.mk (hq ▸ HP.out wr (rd_T93 l0 x) HB.out)
    have HQ := Aside0.mk hq
    clear hq
    go_wp2_with (go_at_fn g; refine HC.out.mono ?_; rintro e w' ⟨rfl, hb'⟩)
    go_ret
    exact ⟨by show Ending.returned (Value.int .i64 x) = _; rw [impl_Hold_77.idxF_some p l0 x.toNat HN.out (by rw [← HX.out]; exact HQ.out) (fun j hj => AF.out j (by have := HN.out; omega) (by omega)), Int.toNat_of_nonneg H0.out], below_step HB.out hb'⟩
   | false =>
    have HC := Aside0.mk (hq ▸ HP.out wr (rd_T93 l0 x) HB.out)
    have HQ := Aside0.mk hq
    clear hq
    go_wp2_with (go_at_fn g; refine HC.out.mono ?_; rintro e w' ⟨rfl, hb'⟩; have HB' := Aside0.mk hb'; clear hb')
    have hw := HL.out
    have e1 : wrap64 (x + 1) = x + 1 := by have := HN.out; have := H0.out; unfold wrap64; omega
    go_roundg (l0.length - (x.toNat + 1))
    case measure => have := HG.out; have := HN.out; omega
    case rel =>
     have hN := HN.out
     have h0 := H0.out
     refine ⟨wrap64 (x + 1), (by first | rfl | (simp; done) | (simp [*]; done)), ⟨by omega⟩, ⟨by omega⟩, ⟨by omega⟩, ⟨fun j hj h => ?_⟩, ⟨below_step HB.out HB'.out⟩⟩
     by_cases e : j = x.toNat
     ·subst e; rw [← HX.out]; exact HQ.out
     ·exact AF.out j hj (by omega)
  ·have c0 : decide (x < (l0.length : Int)) = false := decide_eq_false hlt
   have HN := Aside0.mk hlt
   clear hlt
   go_wp2
   go_ret
   exact ⟨by show Ending.returned (Value.int .i64 (-1)) = _; rw [impl_Hold_77.idxF_none p l0 (fun j hj => AF.out j hj (by have := HN.out; omega))], HB.out⟩
set_option maxHeartbeats 4000000 in
set_option maxRecDepth 100000 in
theorem impl_Hold_77.calls_none (v : Value) (xs : List S93) (gf : Nat) (lb : Array Value) (p : S93 → Bool) (ok : Nat → Prop) (w0 w : World) (hB : Below w0.heap.size w0 w) (hR : Kd.R k93 93 w w0.heap.size ok v xs)
  (eg : ∀ args w, (callFunc gf args).run Try.prog w = .ok (.enter gf args) w)
  (hp : ∀ (W : World) (x : S93), Kept w W (fun k => some k = v.ownBlock) → Calls Try.prog gf (#[.agg #[.string x.f0, .int .i64 x.f1, .int .i64 x.f2]] ++ lb) W fun e w' => e = .returned (.bool (p x)) ∧ Below W.heap.size W w')
  (ha : ∀ j (hj : j < xs.length), p xs[j] = false) :
  Calls Try.prog 77 #[v, .func (.func gf) #[] lb] w fun e w' => ∃ v', e = .returned v' ∧ Kd.R k93 93 w' w0.heap.size ok v' (xs.filter (fun x => !p x)) ∧ Below w0.heap.size w0 w' ∧ Kept w w' (fun k => some k = v.ownBlock) := by
 obtain ⟨A, c, rfl, hc, hC⟩ := Kd.R_reads hR
 have hf : xs.filter (fun x => !p x) = xs := List.filter_eq_self.2 fun x hx => by
  obtain ⟨j, hj, rfl⟩ := List.getElem_of_mem hx
  rw [ha j hj]; rfl
 have hi := impl_Hold_77.idx A c xs gf lb p w hC hc eg (fun W x hb => hp W x (Kept.of_below hb _))
 rw [impl_Hold_77.idxF_none p xs ha] at hi
 rw [hf]
 have HI := Aside0.mk hi
 have HR := Aside0.mk hR
 have HB := Aside0.mk hB
 clear hi hR hB hp ha hf hC
 have hu93 := Try.underlying93
 clear hc
 go_enter Try.func77, Try.ntmps77
 go_wp2_with (go_at_call 135; refine HI.out.mono ?_; rintro e w' ⟨rfl, hb'⟩)
 go_ret
 exact ⟨_, rfl, Kd.R_below HR.out hb', below_then HB.out HB.out.size hb', Kept.of_below hb' _⟩
set_option maxHeartbeats 4000000 in
set_option maxRecDepth 100000 in
theorem impl_Hold_77.calls_some (g cap : Nat) (xs : List S93) (gf : Nat) (lb : Array Value) (p : S93 → Bool) (ok : Nat → Prop) (w0 w : World) (hB : Below w0.heap.size w0 w) (hR : Kd.R k93 93 w w0.heap.size ok (.slice (some ⟨g, 0, none⟩) xs.length cap) xs)
  (eg : ∀ args w, (callFunc gf args).run Try.prog w = .ok (.enter gf args) w)
  (hp : ∀ (W : World) (x : S93), Kept w W (fun k => k = g) → Calls Try.prog gf (#[.agg #[.string x.f0, .int .i64 x.f1, .int .i64 x.f2]] ++ lb) W fun e w' => e = .returned (.bool (p x)) ∧ Below W.heap.size W w')
  (i0 : Nat) (hi0 : i0 < xs.length) (hpi : p (xs[i0]'hi0) = true) (ha : ∀ j (hj : j < i0), p (xs[j]'(Nat.lt_trans hj hi0)) = false) :
  Calls Try.prog 77 #[.slice (some ⟨g, 0, none⟩) xs.length cap, .func (.func gf) #[] lb] w fun e w' => ∃ v', e = .returned v' ∧ Kd.R k93 93 w' w0.heap.size ok v' (xs.filter (fun x => !p x)) ∧ Below w0.heap.size w0 w' ∧ Kept w w' (fun k => k = g) := by
 obtain ⟨hn, hc, hC⟩ := Kd.R_reads' hR
 have hlen : xs.length ≤ 9223372036854775807 := hC.2.1
 have hi := impl_Hold_77.idx (some ⟨g, 0, none⟩) cap xs gf lb p w hC hc eg (fun W x hb => hp W x (Kept.of_below hb _))
 rw [impl_Hold_77.idxF_some p xs i0 hi0 hpi ha] at hi
 have HI := Aside0.mk hi
 have HR := Aside0.mk hR
 have HB := Aside0.mk hB
 have HP := Aside0.mk hp
 have hst : xs.take (i0 + 1) = xs.take i0 ++ [xs[i0]] := by rw [List.take_succ_eq_append_getElem hi0]
 have hst0 : (xs.take i0).filter (fun x => !p x) = xs.take i0 := List.filter_eq_self.2 fun x hx => by
  obtain ⟨j, hj, rfl⟩ := List.getElem_of_mem hx
  rw [List.getElem_take, ha j (by rw [List.length_take] at hj; omega)]; rfl
 have hst1 : (xs.take (i0 + 1)).filter (fun x => !p x) = xs.take i0 := by rw [hst, List.filter_append, hst0]; simp [hpi]
 have HST := Aside0.mk hst1
 have HL := Aside0.mk hlen
 have HC := Aside0.mk hc
 have HI0 := Aside0.mk hi0
 have hg0 : w0.heap.size ≤ g := Kd.R_base hR g rfl
 have HG0 := Aside0.mk hg0
 clear hi hR hB hp hst hst0 hst1 ha hC hpi hg0
 have hu93 := Try.underlying93
 have c1 : (((i0 : Nat) : Int) == -1) = false := by first | (simp; done) | (simp; omega)
 have e1 : IntKind.i64.wrap ((i0 : Int) + 1) = (i0 : Int) + 1 := by rw [i64_w]; unfold wrap64; omega
 clear hlen hc hi0 hn
 go_enter Try.func77, Try.ntmps77
 go_wp2_with (go_at_call 135; refine HI.out.mono ?_; rintro e w' ⟨rfl, hb'⟩)
 go_loopg [5, 6] xs.length (fun gg s5 s6 wr => ∃ (i j : Int) (dk : List S93), s5 = .int .i64 i ∧ s6 = .int .i64 j ∧ Aside0 (0 ≤ i) ∧ Aside0 (i < j) ∧ Aside0 (0 ≤ j) ∧ Aside0 (j ≤ xs.length) ∧ Aside0 (xs.length - j.toNat ≤ gg) ∧ Aside0 (dk.take i.toNat = (xs.take j.toNat).filter (fun x => !p x) ∧ dk.drop j.toNat = xs.drop j.toNat ∧ ((xs.take j.toNat).filter (fun x => !p x)).length = i.toNat) ∧ Aside0 (Kd.R k93 93 wr w0.heap.size ok (.slice (some ⟨g, 0, none⟩) xs.length cap) dk) ∧ Aside0 (Below w0.heap.size w0 wr) ∧ Aside0 (Kept w wr (fun k => k = g)))
 case atStart => exact ⟨i0, i0 + 1, xs, rfl, by first | rfl | (simp; done), ⟨by omega⟩, ⟨by omega⟩, ⟨by omega⟩, ⟨by have := HI0.out; omega⟩, ⟨by omega⟩, ⟨by rw [show ((i0 : Int) + 1).toNat = i0 + 1 by omega, Int.toNat_natCast, HST.out]; exact ⟨rfl, rfl, by rw [List.length_take]; have := HI0.out; omega⟩⟩, ⟨Kd.R_below HR.out hb'⟩, ⟨below_then HB.out HB.out.size hb'⟩, ⟨Kept.of_below hb' _⟩⟩
 case round =>
  obtain ⟨i, j, dk, rfl, rfl, H0, H1, H2, H3, HG, HD, HR, HB, HK⟩ := hrel
  by_cases hlt : j < (xs.length : Int)
  ·obtain ⟨c, hcl, hM, hcc, hfr⟩ := Kd.R_elem HR.out z93 j H2.out hlt
   obtain rfl := k93_openM hM
   obtain ⟨x, hx⟩ : ∃ x, x = rd_T93 dk j := ⟨_, rfl⟩
   have hx0 : wr.cell? ⟨g, j.toNat * 3, none⟩ = some (.string x.f0) := by rw [hx]; exact hcc 0 _ rfl
   have hx1 : wr.cell? ⟨g, j.toNat * 3 + 1, none⟩ = some (.int .i64 x.f1) := by rw [hx]; exact hcc 1 _ rfl
   have hx2 : wr.cell? ⟨g, j.toNat * 3 + 2, none⟩ = some (.int .i64 x.f2) := by rw [hx]; exact hcc 2 _ rfl
   have hdl : dk.length = xs.length := (Kd.R_reads' HR.out).1.symm
   have hXX : x = xs[j.toNat]'(by have := H2.out; omega) := by
    have h1 := congrArg (fun l => l[0]?) HD.out.2.1
    have h0 := H2.out
    simp only [List.getElem?_drop, Nat.add_zero] at h1
    rw [hx]; unfold rd_T93
    rw [List.getD_eq_getElem?_getD, h1, List.getElem?_eq_getElem (by omega)]; rfl
   have hts : xs.take (j.toNat + 1) = xs.take j.toNat ++ [x] := by rw [hXX, List.take_succ_eq_append_getElem]
   have HDL := Aside0.mk hdl
   have HTS := Aside0.mk hts
   clear hcl hM hcc hfr hx hXX hdl hts
   have p0 := eq_true H2.out
   have q0 := eq_true hlt
   have HLT := Aside0.mk hlt
   have e2 : wrap64 (j + 1) = j + 1 := by have := HL.out; have := H2.out; unfold wrap64; omega
   have e3 : (j + 1).toNat = j.toNat + 1 := by have := H2.out; omega
   have E3 := Aside0.mk e3
   have E2 := Aside0.mk e2
   clear hlt e2 e3
   cases hq : p x with
   | true =>
    have HC := Aside0.mk (fun W => hq ▸ HP.out W x)
    have HQ := Aside0.mk hq
    clear hq
    go_wp2_with (go_at_fn gf; refine (HC.out _ (Kept.alloc HK.out _)).mono ?_; rintro e w2 ⟨rfl, hb2⟩; have HB2 := Aside0.mk hb2; clear hb2)
    go_roundg (xs.length - (j.toNat + 1))
    case measure => have := HG.out; have := HLT.out; have := H2.out; omega
    case rel =>
     have := HLT.out; have := H2.out; have := H1.out; have := H0.out
     refine ⟨i, wrap64 (j + 1), dk, rfl, by first | rfl | (simp; done), ⟨by omega⟩, ⟨by rw [E2.out]; omega⟩, ⟨by rw [E2.out]; omega⟩, ⟨by rw [E2.out]; omega⟩, ⟨by rw [E2.out]; omega⟩, ⟨?_⟩, ⟨Kd.R_below (Kd.R_alloc HR.out _) HB2.out⟩, ⟨below_then (HB.out.alloc HB.out.size _) (by simp; have := HB.out.size; omega) HB2.out⟩, ⟨Kept.below (Kept.alloc HK.out _) HB2.out⟩⟩
     rw [E2.out, E3.out, HTS.out, List.filter_append]
     simp only [List.filter_cons, HQ.out, Bool.not_true, List.filter_nil, List.append_nil, Bool.false_eq_true, if_false]
     refine ⟨HD.out.1, ?_, HD.out.2.2⟩
     have h1 := congrArg (List.drop 1) HD.out.2.1
     simpa [List.drop_drop] using h1
   | false =>
    have HC := Aside0.mk (fun W => hq ▸ HP.out W x)
    have HQ := Aside0.mk hq
    clear hq
    go_wp2_with (go_at_fn gf; refine (HC.out _ (Kept.alloc HK.out _)).mono ?_; rintro e w2 ⟨rfl, hb2⟩; have HB2 := Aside0.mk hb2; have hbv := (hb2.block wr.heap.size (by simp)).trans (heap_alloc_new wr _); have HBV := Aside0.mk hbv; have hv0 := (blk_cell hbv 0).trans (show _ = some (Value.string x.f0) from rfl); have hv1 := (blk_cell hbv 1).trans (show _ = some (Value.int .i64 x.f1) from rfl); have hv2 := (blk_cell hbv 2).trans (show _ = some (Value.int .i64 x.f2) from rfl); have HR2 := Aside0.mk (Kd.R_below (Kd.R_alloc HR.out _) hb2); obtain ⟨c, hcl, hM, hcc, hfr⟩ := Kd.R_elem HR2.out z93 i H0.out (by have := H1.out; have := HLT.out; omega); obtain rfl := k93_openM hM; have hi0 := hcc 0 _ rfl; have hf0 := hfr 0; have hi1 := hcc 1 _ rfl; have hf1 := hfr 1; have hi2 := hcc 2 _ rfl; have hf2 := hfr 2; simp only [show k93.sz = 3 from rfl, Nat.add_zero] at hi0 hf0 hi1 hf1 hi2 hf2; have p1 := eq_true H0.out; have q1 := eq_true (show i < (xs.length : Int) by have := H1.out; have := HLT.out; omega); clear hb2 hbv hcl hM hcc hfr)
    go_roundg (xs.length - (j.toNat + 1))
    case measure => have := HG.out; have := HLT.out; have := H2.out; omega
    case rel =>
     have := HLT.out; have := H2.out; have := H1.out; have := H0.out; have hdl := HDL.out; have hw := HL.out
     have hs := df_store HR2.out z93 i.toNat (by omega) x [.string x.f0, .int .i64 x.f1, .int .i64 x.f2] rfl (k93_mkM _ _ _ x)
     have e4 : wrap64 (i + 1) = i + 1 := by unfold wrap64; omega
     have e5 : (i + 1).toNat = i.toNat + 1 := by omega
     have ht1 : (dk.set i.toNat x).take (i.toNat + 1) = dk.take i.toNat ++ [x] := by
      rw [List.take_succ_eq_append_getElem (by rw [List.length_set]; omega), List.take_set_of_le (Nat.le_refl _), List.getElem_set_self]
     refine ⟨wrap64 (i + 1), wrap64 (j + 1), dk.set i.toNat x, rfl, rfl, ⟨by rw [e4]; omega⟩, ⟨by rw [E2.out, e4]; omega⟩, ⟨by rw [E2.out]; omega⟩, ⟨by rw [E2.out]; omega⟩, ⟨by rw [E2.out]; omega⟩, ⟨?_⟩, ⟨hs.1⟩, ⟨(below_then (HB.out.alloc HB.out.size _) (by simp; have := HB.out.size; omega) HB2.out).grown hs.2 (by have := HB2.out.size; have := HB.out.size; simp at *; omega) (fun k hk => by cases hk; exact HG0.out)⟩, ⟨Kept.of_grown hs.2 (Kept.below (Kept.alloc HK.out _) HB2.out) (fun k hk => by cases hk; exact .inl rfl)⟩⟩
     rw [E2.out, E3.out, e4, e5, HTS.out, List.filter_append, ht1]
     simp only [List.filter_cons, HQ.out, Bool.not_false, List.filter_nil, if_true]
     refine ⟨by rw [HD.out.1], ?_, by rw [List.length_append, HD.out.2.2]; rfl⟩
     have h1 := congrArg (List.drop 1) HD.out.2.1
     rw [List.drop_set_of_lt (by omega)]
     simpa [List.drop_drop] using h1
  ·have hje : j = (xs.length : Int) := by have := H3.out; omega
   have hfi : xs.filter (fun x => !p x) = dk.take i.toNat := by
    have h1 := HD.out.1
    rw [hje, Int.toNat_natCast, List.take_length] at h1
    exact h1.symm
   have HFI := Aside0.mk hfi
   have q0 : decide (j < (xs.length : Int)) = false := decide_eq_false hlt
   have p1 := eq_true H0.out
   have q1 := eq_true (show i ≤ (xs.length : Int) by have := H1.out; omega)
   have h0 := H0.out
   have h1 := H1.out
   have hcc := HC.out
   have q2 := eq_true (show i ≤ (cap : Int) by omega)
   have n1 := eq_false (show ¬ i.toNat = cap by omega)
   have n2 := eq_false (show ¬ cap = i.toNat by omega)
   have hcl : ∀ ty, (Builtin.clear_ #[24] ty #[.slice (some ⟨g, i.toNat * 3, none⟩) (xs.length - i.toNat) (cap - i.toNat)]).run Try.prog wr = .ok (.tuple #[]) (wr.setCells g (i.toNat * 3) (List.replicate (xs.length - i.toNat) [Value.string ⟨#[]⟩, Value.int .i64 0, Value.int .i64 0]).flatten) := fun ty =>
    df_clear wr 24 93 ty (.agg #[Value.string ⟨#[]⟩, Value.int .i64 0, Value.int .i64 0]) Try.underlying24 (fun w => by simp [go_sem]) (by decide) (by decide) g _ _ _ (by omega) (fun q hq => by
     replace hq : q < (xs.length - i.toNat) * 3 := hq
     obtain ⟨c, hcl, _, hcc, _⟩ := Kd.R_elem HR.out z93 ((i.toNat + q / 3 : Nat) : Int) (by omega) (by omega)
     have h3 := hcc (q % 3) _ (List.getElem?_eq_getElem (show q % 3 < c.length by rw [hcl]; show q % 3 < 3; omega))
     rw [show ((i.toNat + q / 3 : Nat) : Int).toNat * k93.sz + q % 3 = i.toNat * 3 + q from by show _ * 3 + _ = _; omega] at h3
     rw [h3]; rfl) (fun q hq => by
     replace hq : q < (xs.length - i.toNat) * 3 := hq
     obtain ⟨c, hcl, _, _, hfr⟩ := Kd.R_elem HR.out z93 ((i.toNat + q / 3 : Nat) : Int) (by omega) (by omega)
     have h3 := hfr (q % 3)
     rwa [show ((i.toNat + q / 3 : Nat) : Int).toNat * k93.sz + q % 3 = i.toNat * 3 + q from by show _ * 3 + _ = _; omega] at h3)
   have HZ := Aside0.mk (df_zeros (d := k93) z93 [Value.string ⟨#[]⟩, Value.int .i64 0, Value.int .i64 0] rfl (fun W => k93_mkM _ _ _ z93) (xs.length - i.toNat) i.toNat dk wr (by omega) HR.out)
   have HJ := Aside0.mk hje
   clear hlt hje hfi h0 h1 hcc
   go_wp2
   go_ret
   obtain ⟨ys, ht, hR', hg'⟩ := HZ.out
   have hyl := (Kd.R_reads' hR').1
   have hi := H0.out
   have hj := H1.out
   have hjj := HJ.out
   refine ⟨_, rfl, ?_, HB.out.grown hg' HB.out.size (fun k hk => by cases hk; exact HG0.out), Kept.of_grown hg' HK.out (fun k hk => by cases hk; exact .inl rfl)⟩
   rw [HFI.out, ← ht]
   exact Kd.R_take hR' (by omega)
theorem impl_Hold_77.calls (v : Value) (xs : List S93) (gf : Nat) (lb : Array Value) (p : S93 → Bool) (ok : Nat → Prop) (w0 w : World) (hB : Below w0.heap.size w0 w) (hR : Kd.R k93 93 w w0.heap.size ok v xs)
  (eg : ∀ args w, (callFunc gf args).run Try.prog w = .ok (.enter gf args) w)
  (hp : ∀ (W : World) (x : S93), Kept w W (fun k => some k = v.ownBlock) → Calls Try.prog gf (#[.agg #[.string x.f0, .int .i64 x.f1, .int .i64 x.f2]] ++ lb) W fun e w' => e = .returned (.bool (p x)) ∧ Below W.heap.size W w') :
  Calls Try.prog 77 #[v, .func (.func gf) #[] lb] w fun e w' => ∃ v', e = .returned v' ∧ Kd.R k93 93 w' w0.heap.size ok v' (xs.filter (fun x => !p x)) ∧ Below w0.heap.size w0 w' ∧ Kept w w' (fun k => some k = v.ownBlock) := by
 cases hf : xs.findIdx? p with
 | none =>
  rw [List.findIdx?_eq_none_iff] at hf
  exact impl_Hold_77.calls_none v xs gf lb p ok w0 w hB hR eg hp (fun j hj => hf _ (List.getElem_mem _))
 | some i =>
  rw [List.findIdx?_eq_some_iff_getElem] at hf
  obtain ⟨hi, h1, h2⟩ := hf
  obtain ⟨g, cap, rfl, _⟩ := Kd.R_form hR (by omega)
  refine (impl_Hold_77.calls_some g cap xs gf lb p ok w0 w hB hR eg (fun W x hk => hp W x (Kept.mono hk (fun k e => by subst e; rfl))) i hi h1 (fun j hj => by simpa using h2 j hj)).mono ?_
  rintro e w' ⟨v', rfl, hr, hb, hk⟩
  exact ⟨v', rfl, hr, hb, Kept.mono hk (fun k e => by subst e; rfl)⟩

/-! ### impl_Hold_78: function 78 -/
def impl_Hold_78.f (l0 : List (S93)) : Option ((List (S93))) := (some (([] : List (S93)) : List (S93))).bind fun y123 => (if y123.length + l0.length < 4398046511104 then (some (y123 ++ l0)) else (none))
set_option maxHeartbeats 8000000 in
set_option maxRecDepth 100000 in
theorem impl_Hold_78.calls_some (ad0 : Addr) (c0 : Nat) (l0 : List (S93)) (r : List (S93)) (w : World) (hr0 : Kd.C k93 w (some ad0) l0.length l0) (hc0 : l0.length ≤ c0) (h : impl_Hold_78.f l0 = some r) :
  Calls Try.prog 78 #[.slice (some ad0) l0.length c0] w fun e w' => ∃ v0_ : Value, e = .returned (v0_) ∧ Kd.R k93 93 w' w.heap.size (fun _ => True) v0_ r ∧ Below w.heap.size w w' := by
 have q0_ : ∀ (n c : Nat) (W : World), (binOp .eql 24 (.slice (some ad0) n c) (.slice none 0 0)).run Try.prog W = .ok (.bool false) W := fun n c W => Lib.run_eql_slice_nil W _ _ (some ad0) n c 0 0 Try.underlying24
 have HR0 := Aside0.mk hr0
 have HC0 := Aside0.mk hc0
 clear hr0 hc0
 have HB := Aside0.mk (Below.refl w.heap.size w)
 have H : ((some (([] : List (S93)) : List (S93))).bind fun y123 => (if y123.length + l0.length < 4398046511104 then (some (y123 ++ l0)) else (none))) = some r := h
 clear h
 obtain ⟨y123, hy123⟩ : ∃ y_ : List (S93), y_ = (([] : List (S93))) := ⟨_, rfl⟩
 replace H : (if y123.length + l0.length < 4398046511104 then (some (y123 ++ l0)) else (none)) = some r := by first | (rw [hy123]; with_reducible exact H) | (have H2_ := (Option.bind_some _ _).symm.trans H; rw [hy123]; with_reducible exact H2_) | (have H2_ := (Option.bind_some _ _).symm.trans H; with_reducible exact H2_) | with_reducible exact H | (rw [hy123]; exact H) | exact H
 have Ny123 := Aside0.mk hy123
 clear hy123
 by_cases c2 : y123.length + l0.length < 4398046511104
 ·rw [if_pos c2] at H
  have LMc2 := Aside0.mk c2
  clear c2
  obtain ⟨y126, hy126⟩ : ∃ y_ : List (S93), y_ = (y123 ++ l0) := ⟨_, rfl⟩
  replace H : (some y126) = some r := by first | (rw [hy126]; with_reducible exact H) | (have H2_ := (Option.bind_some _ _).symm.trans H; rw [hy126]; with_reducible exact H2_) | (have H2_ := (Option.bind_some _ _).symm.trans H; with_reducible exact H2_) | with_reducible exact H | (rw [hy126]; exact H) | exact H
  have Ny126 := Aside0.mk hy126
  clear hy126
  obtain rfl := Option.some.inj H
  go_enter Try.func78, Try.ntmps78
  go_wp2_with (first | ((with_reducible refine gate_dst (N := 5) rfl ?_); refine Kd.R_lit k93 _ 93 ?hg (N := 5) ?hd (xs := ([] : List (S93))) (inner := []) (ok := fun _ => True) (okp := fun _ => True) ?hr ?hp (fun _ hk => hk) trivial (Below.refl _ _) (Nat.le_refl _) (by simp) ?_; (case hd => rfl); (case hg => rfl); (case hr => first | (go_simp; done) | (go_simp; rfl)); (case hp => exact (Reps.none _ _)); intro v124 w3 ho4 hb hg_ hnew_; clear hg_ hnew_; (first | rw [← Ny123.out] at ho4 | (simp only [Int.reduceToNat] at ho4; rw [← Ny123.out] at ho4)); have n0_ := Aside0.mk (Kd.R_lower ho4 (below_size bl_)); have n1_ := Aside0.mk (below_step bl_ hb); clear HB; have HO125 := n0_; have HB := n1_; clear n0_ n1_; clear hb ho4) | ((with_reducible refine gate_builtin (b := .append) (xs := #[.tmp 5, .tmp 6]) rfl ?_); at_builtin; refine Kd.R_append_rows k93 (w0 := w) w.heap.size rfl (.tmp 5) (.tmp 6) 24 93 (.agg #[(.string ⟨#[]⟩), (.int .i64 0), (.int .i64 0)]) 32 rfl Try.underlying24 info93 rfl (by decide) (by omega) v124 y123 l0 _ _ _ (fun _ => True) (fun _ => False) rfl rfl ?aO ?aR (fun _ _ h => h) (fun _ h => h.elim) ?aF ?aB ?aS ?aL ?_; (case aR => exact ca_ (Kd.C_below HR0.out HB.out)); (case aB => exact bl_); (case aF => exact (fun _ _ => trivial)); (case aO => exact (ra_ HO125)); (case aS => exact (below_size bl_)); (case aL => have := LMc2.out; omega); intro v127 w5 ho hb hg hat; rw [← Ny126.out] at ho; have n0_ := Aside0.mk (hb); have n1_ := Aside0.mk (ho); clear HB; clear HO125; have HB := n0_; have HO128 := n1_; clear n0_ n1_; clear ho hb hg hat))
  go_ret
  exact ⟨_, by first | rfl | (simp [errW_none, errW_some] <;> rfl) | (simp [*, errW_none, errW_some] <;> rfl), ra_ HO128, bl_⟩
 ·rw [if_neg c2] at H
  exact absurd H (by simp)

set_option maxHeartbeats 8000000 in
set_option maxRecDepth 100000 in
theorem impl_Hold_78.calls_none (c0 : Nat) (l0 : List (S93)) (r : List (S93)) (w : World) (hr0 : Kd.C k93 w none l0.length l0) (hc0 : l0.length ≤ c0) (h : impl_Hold_78.f l0 = some r) :
  Calls Try.prog 78 #[.slice none l0.length c0] w fun e w' => ∃ v0_ : Value, e = .returned (v0_) ∧ Kd.R k93 93 w' w.heap.size (fun _ => True) v0_ r ∧ Below w.heap.size w w' := by
 have q0_ : ∀ (n c : Nat) (W : World), (binOp .eql 24 (.slice none n c) (.slice none 0 0)).run Try.prog W = .ok (.bool true) W := fun n c W => Lib.run_eql_slice_nil W _ _ none n c 0 0 Try.underlying24
 have hn : l0 = [] := List.eq_nil_of_length_eq_zero (Nat.eq_zero_of_not_pos (fun hp => by obtain ⟨a, ha, _⟩ := hr0.2.2 hp; cases ha))
 subst hn
 have hr : r = [] := by simp [impl_Hold_78.f] at h; first | exact h | exact h.symm
 subst hr
 clear hr0 hc0 h
 go_enter Try.func78, Try.ntmps78
 go_wp2
 go_ret
 exact ⟨_, rfl, Kd.R_nil _ _ _ _ _, by repeat (first | exact Below.refl _ _ | apply below_alloc | apply pw_below_drewN | apply below_drew1)⟩
set_option maxHeartbeats 8000000 in
set_option maxRecDepth 100000 in
theorem impl_Hold_78.calls (A0 : Option Addr) (c0 : Nat) (l0 : List (S93)) (r : List (S93)) (w : World) (hr0 : Kd.C k93 w A0 l0.length l0) (hc0 : l0.length ≤ c0) (h : impl_Hold_78.f l0 = some r) :
  Calls Try.prog 78 #[.slice A0 l0.length c0] w fun e w' => ∃ v0_ : Value, e = .returned (v0_) ∧ Kd.R k93 93 w' w.heap.size (fun _ => True) v0_ r ∧ Below w.heap.size w w' := by
 cases A0 with
 | none => exact impl_Hold_78.calls_none c0 l0 r w hr0 hc0 h
 | some ad0 => exact impl_Hold_78.calls_some ad0 c0 l0 r w hr0 hc0 h

-- NOT PRINTED: function 79 (impl_HoldDrop_1)

/-! ### impl_HoldDrop: function 18 -/
set_option maxRecDepth 100000 in
theorem impl_HoldDrop.clo (x : S93) (a1 : ByteArray) (B : Nat) (w : World) (ha : w.heap[B]? = some (.cells #[.string a1] 9 (0, 0))) :
  Calls Try.prog 79 #[.agg #[.string x.f0, .int .i64 x.f1, .int .i64 x.f2], .pointer (some ⟨B, 0, none⟩)] w fun e w' => e = .returned (.bool (x.f0.toList == a1.toList)) ∧ Below w.heap.size w w' := by
 have hu93 := Try.underlying93
 have hlta := blk_lt ha
 have hca := blk_cell ha 0
 have hfa := blk_frozen ha 0
 clear ha
 go_enter Try.func79, Try.ntmps79
 go_wp2
 go_ret
 exact ⟨by first | rfl | simp, by first | exact below_then (below_alloc (Below.refl _ _) _) (by simp) (by assumption) | (repeat (first | exact Below.refl _ _ | apply below_alloc | apply pw_below_drewN | apply below_drew1))⟩
def impl_HoldDrop.f (l0 : List S93) (a1 : ByteArray) : Option (List S93) := (impl_Hold_78.f l0).bind fun l => some (l.filter (fun x => !(x.f0.toList == a1.toList)))
set_option maxHeartbeats 2000000 in
set_option maxRecDepth 100000 in
theorem impl_HoldDrop.calls (A0 : Option Addr) (c0 : Nat) (l0 : List (S93)) (a1 : ByteArray) (r : List (S93)) (w : World) (hr0 : Kd.C k93 w A0 l0.length l0) (hc0 : l0.length ≤ c0) (h : impl_HoldDrop.f l0 a1 = some r) :
  Calls Try.prog 18 #[.slice A0 l0.length c0, .string a1] w fun e w' => ∃ v0_ : Value, e = .returned (v0_) ∧ Kd.R k93 93 w' w.heap.size (fun _ => True) v0_ r ∧ Below w.heap.size w w' := by
 obtain ⟨l, hl, h⟩ := Option.bind_eq_some_iff.1 h
 obtain rfl := Option.some.inj h
 clear h
 have HR0 := Aside0.mk hr0
 have HC0 := Aside0.mk hc0
 have HL := Aside0.mk hl
 clear hr0 hc0 hl
 go_enter Try.func18, Try.ntmps18
 go_wp2_with (first | (go_at_call 78; refine (impl_Hold_78.calls A0 c0 l0 l _ (Kd.C_alloc HR0.out _) HC0.out HL.out).mono ?_; rintro e w2 ⟨v, rfl, ho, hb⟩; have HO := Aside0.mk ho; have HB := Aside0.mk hb; clear ho hb) | (go_at_call 77; refine (impl_Hold_77.calls v l 79 #[.pointer (some ⟨w.heap.size, 0, none⟩)] (fun x => x.f0.toList == a1.toList) (fun _ => True) w _ (below_then (below_alloc (Below.refl _ _) _) (by simp) HB.out) (Kd.R_lower HO.out (by simp)) (fun _ _ => by kernel_rfl) (fun W x hk => impl_HoldDrop.clo x a1 w.heap.size W ((hk.2 w.heap.size (by have := HB.out.size; simp at this; omega) (fun e => by have := Kd.R_base HO.out _ e.symm; simp at this; omega)).trans ((HB.out.block _ (by simp)).trans (heap_alloc_new w _))))).mono ?_; rintro e w3 ⟨v', rfl, hr, hb, _⟩))
 go_ret
 exact ⟨v', rfl, hr, hb⟩

end Go.Proofs.Ytepjnalkpfnmcaa.QFnExactHoldDrop
