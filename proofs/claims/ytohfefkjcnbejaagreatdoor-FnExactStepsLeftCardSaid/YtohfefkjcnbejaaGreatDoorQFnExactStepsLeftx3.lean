-- by my own printer (myprint.py, over the kit's print.py)
import Derived.Test.YtohfefkjcnbejaaGreatDoorQFnExactStepsLeftx0
namespace Go.Proofs.YtohfefkjcnbejaaGreatDoor.QFnExactStepsLeft
open Go.RowKit Go.Proofs.YtohfefkjcnbejaaGreatDoorW.PrintWords Go.Proofs.YtohfefkjcnbejaaGreatDoorW.PrintLast Go.Proofs.YtohfefkjcnbejaaGreatDoorW.PrintMore Tryz
attribute [local go_sem] max2_int min2_int max_two min_two max_three min_three max_four min_four
set_option linter.unusedVariables false
set_option linter.unusedSimpArgs false
set_option maxHeartbeats 8000000
set_option maxRecDepth 100000
attribute [local go_sem] my_geq my_leq my_gtr
/-! ### impl_within: function 71 -/
def impl_within.f (a0 : Int) (a1 : Int) (a2 : Int) : Option (Bool) := if a1 ≤ a0 then (some (decide (a0 ≤ a2))) else (some false)
theorem impl_within.calls (a0 : Int) (a1 : Int) (a2 : Int) (r : Bool) (w : World) (h : impl_within.f a0 a1 a2 = some r) :
  Calls Tryz.prog 71 #[.int .i64 a0, .int .i64 a1, .int .i64 a2] w fun e w' => e = .returned (.bool r) ∧ Drawn0 w w' := by
 have H := h
 unfold impl_within.f at H
 clear h
 by_cases c4 : a1 ≤ a0
 ·rw [if_pos c4] at H
  replace c4 := dt_ c4
  obtain rfl := si_ H
  go_enter func71, ntmps71
  go_wp2
  go_ret
  exact ⟨sp_, dr_⟩
 rw [if_neg c4] at H
 replace c4 := df_ c4
 obtain rfl := si_ H
 go_enter func71, ntmps71
 go_wp2
 go_ret
 exact ⟨sp_, dr_⟩
/-! ### impl_Digits: function 86 -/
def impl_Digits.l0 : Nat → ByteArray → Int → Int → Option (Bool)
 | 0, _, _, _ => none
 | k + 1, x0, x5, x6 => if x6 < x5 then (if 0 ≤ x6 then (if x6 < (x0.size : Int) then (if (bt x0 x6) < 48 then (some false) else (if (bt x0 x6) > 57 then (some false) else (impl_Digits.l0 k x0 x5 (wrap64 (x6 + 1))))) else (none)) else (none)) else (some (x0.toList != ([] : List UInt8)))
def impl_Digits.f (k : Nat) (a0 : ByteArray) : Option (Bool) := impl_Digits.l0 k a0 (a0.size : Int) 0
theorem impl_Digits.calls (k : Nat) (a0 : ByteArray) (r : Bool) (w : World) (h : impl_Digits.f k a0 = some r) :
  Calls Tryz.prog 86 #[.string a0] w fun e w' => e = .returned (.bool r) ∧ Drawn0 w w' := by
 have H := h
 unfold impl_Digits.f at H
 clear h
 have H' := Aside0.mk H
 clear H
 go_enter func86, ntmps86
 go_wp2
 go_loopg [6] k (fun kq v6 w' => ∃ (x6_1 : Int), v6 = .int .i64 x6_1 ∧ Aside0 (impl_Digits.l0 kq a0 (a0.size : Int) x6_1 = some r) ∧ Aside0 (kq ≤ k) ∧ Drawn0 w w')
 case atStart => exact ⟨(0), sp_, H', ⟨Nat.le_refl _⟩, dr_⟩
 case round =>
  clear H'
  obtain ⟨x6_1, rfl, HA, HK1, ⟨m1, rfl⟩⟩ := hrel
  cases gk with
  | zero => exact absurd HA.out (by simp [impl_Digits.l0])
  | succ k1 =>
   have H := HA.out
   clear HA
   simp only [impl_Digits.l0] at H
   by_cases c2 : x6_1 < (a0.size : Int)
   rotate_left
   ·rw [if_neg c2] at H
    replace c2 := df_ c2
    obtain rfl := si_ H
    go_wp2
    go_ret
    exact ⟨sp_, dr_⟩
   rw [if_pos c2] at H
   replace c2 := dt_ c2
   obtain ⟨c3, H⟩ := og_ H
   replace c3 := dt_ c3
   obtain ⟨c4, H⟩ := og_ H
   replace c4 := dt_ c4
   by_cases c6 : (bt a0 x6_1) < 48
   ·rw [if_pos c6] at H
    replace c6 := dt_ c6
    obtain rfl := si_ H
    have p5 : 0 ≤ (x6_1 : Int) := od_
    have q5 : x6_1 < (a0.size : Int) := od_
    have hx5 := bt_at a0 x6_1
    replace p5 := eq_true p5
    replace q5 := eq_true q5
    go_wp2
    go_ret
    exact ⟨sp_, dr_⟩
   rw [if_neg c6] at H
   replace c6 := df_ c6
   by_cases c8 : (bt a0 x6_1) > 57
   ·rw [if_pos c8] at H
    replace c8 := dt_ c8
    obtain rfl := si_ H
    have p5 : 0 ≤ (x6_1 : Int) := od_
    have q5 : x6_1 < (a0.size : Int) := od_
    have hx5 := bt_at a0 x6_1
    replace p5 := eq_true p5
    replace q5 := eq_true q5
    have p7 : 0 ≤ (x6_1 : Int) := od_
    have q7 : x6_1 < (a0.size : Int) := od_
    have hx7 := bt_at a0 x6_1
    replace p7 := eq_true p7
    replace q7 := eq_true q7
    go_wp2
    go_ret
    exact ⟨sp_, dr_⟩
   rw [if_neg c8] at H
   replace c8 := df_ c8
   have H' := Aside0.mk H
   clear H
   have p5 : 0 ≤ (x6_1 : Int) := od_
   have q5 : x6_1 < (a0.size : Int) := od_
   have hx5 := bt_at a0 x6_1
   replace p5 := eq_true p5
   replace q5 := eq_true q5
   have p7 : 0 ≤ (x6_1 : Int) := od_
   have q7 : x6_1 < (a0.size : Int) := od_
   have hx7 := bt_at a0 x6_1
   replace p7 := eq_true p7
   replace q7 := eq_true q7
   go_wp2
   go_roundg k1
   case measure => have := HK1.out; omega
   case rel => exact ⟨(wrap64 (x6_1 + 1)), sp_, H', ⟨by have := HK1.out; omega⟩, dr_⟩
/-! ### impl_fieldRows: function 144 -/
def impl_fieldRows.f  : Option ((List (S115))) := some (([(⟨2, 3, 19⟩ : S115), (⟨3, 1, 6⟩ : S115), (⟨4, 1, 12⟩ : S115), (⟨7, 1, 10⟩ : S115), (⟨11, 1, 6⟩ : S115), (⟨14, 1, 4⟩ : S115), (⟨37, 2, 12⟩ : S115), (⟨38, 2, 6⟩ : S115), (⟨39, 2, 2⟩ : S115), (⟨41, 2, 8⟩ : S115), (⟨48, 5, 60⟩ : S115), (⟨49, 1, 3⟩ : S115), (⟨54, 5, 60⟩ : S115), (⟨95, 2, 12⟩ : S115), (⟨102, 4, 20⟩ : S115), (⟨103, 4, 20⟩ : S115)] : List (S115)))
theorem impl_fieldRows.calls  (r : List (S115)) (w : World) (h : impl_fieldRows.f  = some r) :
  Calls Tryz.prog 144 #[] w fun e w' => ∃ v0_ : Value, e = .returned (v0_) ∧ Kd.R k115 115 w' w.heap.size (fun _ => True) v0_ r ∧ Below w.heap.size w w' := by
 have hu115 := underlying115
 have HB := Aside0.mk (Below.refl w.heap.size w)
 have H := h
 unfold impl_fieldRows.f at H
 clear h
 obtain ⟨y3, hy3⟩ : ∃ y_ : List (S115), y_ = (([(⟨2, 3, 19⟩ : S115), (⟨3, 1, 6⟩ : S115), (⟨4, 1, 12⟩ : S115), (⟨7, 1, 10⟩ : S115), (⟨11, 1, 6⟩ : S115), (⟨14, 1, 4⟩ : S115), (⟨37, 2, 12⟩ : S115), (⟨38, 2, 6⟩ : S115), (⟨39, 2, 2⟩ : S115), (⟨41, 2, 8⟩ : S115), (⟨48, 5, 60⟩ : S115), (⟨49, 1, 3⟩ : S115), (⟨54, 5, 60⟩ : S115), (⟨95, 2, 12⟩ : S115), (⟨102, 4, 20⟩ : S115), (⟨103, 4, 20⟩ : S115)] : List (S115))) := ⟨_, rfl⟩
 replace H : (some y3) = some r := hh_ hy3 H
 have Ny3 := Aside0.mk hy3
 clear hy3
 obtain rfl := si_ H
 go_enter func144, ntmps144
 go_wp2_with (first | ((with_reducible refine gate_dst (N := 17) rfl ?_); refine Kd.R_lit k115 _ 115 ?hg (N := 17) ?hd (xs := ([(⟨2, 3, 19⟩ : S115), (⟨3, 1, 6⟩ : S115), (⟨4, 1, 12⟩ : S115), (⟨7, 1, 10⟩ : S115), (⟨11, 1, 6⟩ : S115), (⟨14, 1, 4⟩ : S115), (⟨37, 2, 12⟩ : S115), (⟨38, 2, 6⟩ : S115), (⟨39, 2, 2⟩ : S115), (⟨41, 2, 8⟩ : S115), (⟨48, 5, 60⟩ : S115), (⟨49, 1, 3⟩ : S115), (⟨54, 5, 60⟩ : S115), (⟨95, 2, 12⟩ : S115), (⟨102, 4, 20⟩ : S115), (⟨103, 4, 20⟩ : S115)] : List (S115))) (inner := [.int .i64 2, .int .i64 3, .int .i64 19, .int .i64 3, .int .i64 1, .int .i64 6, .int .i64 4, .int .i64 1, .int .i64 12, .int .i64 7, .int .i64 1, .int .i64 10, .int .i64 11, .int .i64 1, .int .i64 6, .int .i64 14, .int .i64 1, .int .i64 4, .int .i64 37, .int .i64 2, .int .i64 12, .int .i64 38, .int .i64 2, .int .i64 6, .int .i64 39, .int .i64 2, .int .i64 2, .int .i64 41, .int .i64 2, .int .i64 8, .int .i64 48, .int .i64 5, .int .i64 60, .int .i64 49, .int .i64 1, .int .i64 3, .int .i64 54, .int .i64 5, .int .i64 60, .int .i64 95, .int .i64 2, .int .i64 12, .int .i64 102, .int .i64 4, .int .i64 20, .int .i64 103, .int .i64 4, .int .i64 20]) (ok := fun _ => True) (okp := fun _ => True) ?hr ?hp (fun _ hk => hk) trivial (Below.refl _ _) (Nat.le_refl _) (by simp) ?_; (case hd => rfl); (case hg => rfl); (case hr => first | (go_simp; done) | (go_simp; rfl)); (case hp => exact (Reps.c3 (show Kd.M k115 _ _ _ (⟨2, 3, 19⟩ : S115) [.int .i64 2, .int .i64 3, .int .i64 19] from (k115_mkM _ _ _ (⟨2, 3, 19⟩ : S115) )) (Reps.c3 (show Kd.M k115 _ _ _ (⟨3, 1, 6⟩ : S115) [.int .i64 3, .int .i64 1, .int .i64 6] from (k115_mkM _ _ _ (⟨3, 1, 6⟩ : S115) )) (Reps.c3 (show Kd.M k115 _ _ _ (⟨4, 1, 12⟩ : S115) [.int .i64 4, .int .i64 1, .int .i64 12] from (k115_mkM _ _ _ (⟨4, 1, 12⟩ : S115) )) (Reps.c3 (show Kd.M k115 _ _ _ (⟨7, 1, 10⟩ : S115) [.int .i64 7, .int .i64 1, .int .i64 10] from (k115_mkM _ _ _ (⟨7, 1, 10⟩ : S115) )) (Reps.c3 (show Kd.M k115 _ _ _ (⟨11, 1, 6⟩ : S115) [.int .i64 11, .int .i64 1, .int .i64 6] from (k115_mkM _ _ _ (⟨11, 1, 6⟩ : S115) )) (Reps.c3 (show Kd.M k115 _ _ _ (⟨14, 1, 4⟩ : S115) [.int .i64 14, .int .i64 1, .int .i64 4] from (k115_mkM _ _ _ (⟨14, 1, 4⟩ : S115) )) (Reps.c3 (show Kd.M k115 _ _ _ (⟨37, 2, 12⟩ : S115) [.int .i64 37, .int .i64 2, .int .i64 12] from (k115_mkM _ _ _ (⟨37, 2, 12⟩ : S115) )) (Reps.c3 (show Kd.M k115 _ _ _ (⟨38, 2, 6⟩ : S115) [.int .i64 38, .int .i64 2, .int .i64 6] from (k115_mkM _ _ _ (⟨38, 2, 6⟩ : S115) )) (Reps.c3 (show Kd.M k115 _ _ _ (⟨39, 2, 2⟩ : S115) [.int .i64 39, .int .i64 2, .int .i64 2] from (k115_mkM _ _ _ (⟨39, 2, 2⟩ : S115) )) (Reps.c3 (show Kd.M k115 _ _ _ (⟨41, 2, 8⟩ : S115) [.int .i64 41, .int .i64 2, .int .i64 8] from (k115_mkM _ _ _ (⟨41, 2, 8⟩ : S115) )) (Reps.c3 (show Kd.M k115 _ _ _ (⟨48, 5, 60⟩ : S115) [.int .i64 48, .int .i64 5, .int .i64 60] from (k115_mkM _ _ _ (⟨48, 5, 60⟩ : S115) )) (Reps.c3 (show Kd.M k115 _ _ _ (⟨49, 1, 3⟩ : S115) [.int .i64 49, .int .i64 1, .int .i64 3] from (k115_mkM _ _ _ (⟨49, 1, 3⟩ : S115) )) (Reps.c3 (show Kd.M k115 _ _ _ (⟨54, 5, 60⟩ : S115) [.int .i64 54, .int .i64 5, .int .i64 60] from (k115_mkM _ _ _ (⟨54, 5, 60⟩ : S115) )) (Reps.c3 (show Kd.M k115 _ _ _ (⟨95, 2, 12⟩ : S115) [.int .i64 95, .int .i64 2, .int .i64 12] from (k115_mkM _ _ _ (⟨95, 2, 12⟩ : S115) )) (Reps.c3 (show Kd.M k115 _ _ _ (⟨102, 4, 20⟩ : S115) [.int .i64 102, .int .i64 4, .int .i64 20] from (k115_mkM _ _ _ (⟨102, 4, 20⟩ : S115) )) (Reps.c3 (show Kd.M k115 _ _ _ (⟨103, 4, 20⟩ : S115) [.int .i64 103, .int .i64 4, .int .i64 20] from (k115_mkM _ _ _ (⟨103, 4, 20⟩ : S115) )) (Reps.none _ _)))))))))))))))))); intro v5 w1 ho2 hb hg_ hnew_; clear hg_ hnew_; (first | rw [← Ny3.out] at ho2 | (simp only [Int.reduceToNat] at ho2; rw [← Ny3.out] at ho2)); have HO4 := Aside0.mk (Kd.R_lower ho2 (below_size bl_)); replace HB := hs_ hb; clear hb ho2))
 go_ret
 exact ⟨_, sq_, ra_ HO4, bl_⟩
/-! ### impl_rowOf: function 112 -/
def impl_rowOf.l0 : Nat → Int → List (S115) → Int → Int → Option (Int × Int × Int)
 | 0, _, _, _, _ => none
 | k + 1, x0, x5, x6, x7 => if x7 < x6 then (if 0 ≤ x7 then (if x7 < (x5.length : Int) then (if ((rd_T115 x5 x7).f0) = x0 then (some ((rd_T115 x5 x7).f0, (rd_T115 x5 x7).f1, (rd_T115 x5 x7).f2)) else (impl_rowOf.l0 k x0 x5 x6 (wrap64 (x7 + 1)))) else (none)) else (none)) else (some (0, 0, 0))
def impl_rowOf.f (k : Nat) (a0 : Int) : Option (Int × Int × Int) := (impl_fieldRows.f).bind fun t15 => (impl_rowOf.l0 k a0 t15 (t15.length : Int) 0)
theorem impl_rowOf.calls (k : Nat) (a0 : Int) (r1 : Int) (r2 : Int) (r3 : Int) (w : World) (h : impl_rowOf.f k a0 = some (r1, r2, r3)) :
  Calls Tryz.prog 112 #[.int .i64 a0] w fun e w' => e = .returned (.agg #[.int .i64 r1, .int .i64 r2, .int .i64 r3]) ∧ Below w.heap.size w w' := by
 have hu115 := underlying115
 have HB := Aside0.mk (Below.refl w.heap.size w)
 have H := h
 unfold impl_rowOf.f at H
 clear h
 obtain ⟨t15, A2, H⟩ := ob_ H
 have H' := Aside0.mk H
 clear H
 go_enter func112, ntmps112
 go_wp2_with (first | ((with_reducible refine gt_ 2 ?_); refine bo_ 2 #[.int .i64 0, .int .i64 0, .int .i64 0] 115 ?_; intro gb11 hg w3 BK11 hb; have GW11 := gw_ (w := w) hg; replace HB := hs_ hb; clear hb hg) | ((with_reducible refine gc_ 144 5 func144 #[] ?_); (with_reducible refine (impl_fieldRows.calls  t15 _ A2.out).mono ?_); rintro e w4 ⟨v20, rfl, ho0, hb⟩; refine ⟨_, rfl, ?_⟩; have HO19 := Aside0.mk (Kd.R_lower (Kd.R_newB ho0 (bk_ BK11)) (below_size bl_)); replace BK11 := kb_ BK11 hb; replace HB := hs_ hb; clear hb; (try clear ho0); obtain ⟨Ao5, co5, eo5⟩ := Kd.R_slice HO19.out; subst eo5))
 go_loopg [7] k (fun kq v7 w' => ∃ (x7_1 : Int) (x16_1 : Int) (x17_1 : Int) (x18_1 : Int), v7 = .int .i64 x7_1 ∧ Aside0 (impl_rowOf.l0 kq a0 t15 (t15.length : Int) x7_1 = some (r1, r2, r3)) ∧ Aside0 (kq ≤ k) ∧ Aside0 (Kd.R k115 115 w' w.heap.size (fun k_ => k_ ≠ gb11) (.slice Ao5 t15.length co5) t15) ∧ Aside0 (w'.heap[gb11]? = some (.cells #[.int .i64 x16_1, .int .i64 x17_1, .int .i64 x18_1] 115 (0, 0))) ∧ Aside0 (Below w.heap.size w w'))
 case atStart => exact ⟨(0), (0), (0), (0), sp_, H', ⟨Nat.le_refl _⟩, ⟨by refine cr_ ?_; exact Kd.R_mono HO19.out (fun _ hk => hk.2)⟩, ⟨ch_ BK11.out⟩, ⟨bl_⟩⟩
 case round =>
  clear H'
  obtain ⟨x7_1, x16_1, x17_1, x18_1, rfl, HA, HK1, HO_5, BK11, HB⟩ := hrel
  cases gk with
  | zero => exact absurd HA.out (by simp [impl_rowOf.l0])
  | succ k1 =>
   have H := HA.out
   clear HA
   simp only [impl_rowOf.l0] at H
   by_cases c6 : x7_1 < (t15.length : Int)
   rotate_left
   ·rw [if_neg c6] at H
    replace c6 := df_ c6
    simp only [Option.some.injEq, Prod.mk.injEq] at H
    obtain ⟨rfl, rfl, rfl⟩ := H
    refine by3_ BK11 ?_; intros
    go_wp2
    refine bodyPost_ret (results_cell_row rfl _ _ gb11 115 #[.int .i64 0, .int .i64 0, .int .i64 0] (0, 0) _ rfl (by refine ch_ ?_; apply bq3_2_1_0_; exact ch_ BK11.out) underlying115 rfl (by kernel_rfl)) rfl ?_
    exact ⟨sq_, bl_⟩
   rw [if_pos c6] at H
   replace c6 := dt_ c6
   obtain ⟨c7, H⟩ := og_ H
   replace c7 := dt_ c7
   obtain ⟨c8, H⟩ := og_ H
   replace c8 := dt_ c8
   by_cases c9 : ((rd_T115 t15 x7_1).f0) = a0
   ·rw [if_pos c9] at H
    have := et_ c9
    replace c9 := nf_ c9
    simp only [Option.some.injEq, Prod.mk.injEq] at H
    obtain ⟨rfl, rfl, rfl⟩ := H
    have p12 : 0 ≤ (x7_1 : Int) := od_
    have q12 : x7_1 < (t15.length : Int) := od_
    obtain ⟨ad12, e12, hx12_0, hx12_1, hx12_2⟩ := at_T115 (Kd.R_reads' HO_5.out).2.2 x7_1 p12 q12
    cases e12
    replace p12 := eq_true p12
    replace q12 := eq_true q12
    go_wp2_with (first | ((with_reducible refine gate_dst (N := 4) rfl ?_); refine be_ (N := 4) (cs := #[.int .i64 0, .int .i64 0, .int .i64 0]) (t := 115) ?_; intro gb13 hg w10 hbox hb; replace HO_5 := Aside0.mk (Kd.R_below (Kd.R_elderB (ra_ HO_5) gb13 (Nat.le_of_eq hg.symm)) hb); have BK13 := Aside0.mk (hbox); have GW13 := gw_ (w := w) hg; replace HB := hs_ hb; have ⟨NB11_13, NB13_11⟩ := nb_ hg BK11; replace BK11 := kb_ BK11 hb; clear hb hbox hg; have := NB13_11.out; have := NB11_13.out; refine by3_ BK13 ?_; intros; refine by3_ BK11 ?_; intros))
    refine bodyPost_ret (results_cell_row rfl _ _ gb11 115 #[.int .i64 ((rd_T115 t15 x7_1).f0), .int .i64 ((rd_T115 t15 x7_1).f1), .int .i64 ((rd_T115 t15 x7_1).f2)] (0, 0) _ rfl (by refine ch_ ?_; apply bq3_2_1_0_; refine ch_ ?_; refine bf_ NB11_13 ?_; refine bf_ NB11_13 ?_; exact bf_ NB11_13 BK11.out) underlying115 rfl (by kernel_rfl)) rfl ?_
    exact ⟨sq_, bl_⟩
   rw [if_neg c9] at H
   have c9b0 := ef_ c9
   have c9b1 := nt_ c9
   have H' := Aside0.mk H
   clear H
   have p12 : 0 ≤ (x7_1 : Int) := od_
   have q12 : x7_1 < (t15.length : Int) := od_
   obtain ⟨ad12, e12, hx12_0, hx12_1, hx12_2⟩ := at_T115 (Kd.R_reads' HO_5.out).2.2 x7_1 p12 q12
   cases e12
   replace p12 := eq_true p12
   replace q12 := eq_true q12
   go_wp2_with (first | ((with_reducible refine gate_dst (N := 4) rfl ?_); refine be_ (N := 4) (cs := #[.int .i64 0, .int .i64 0, .int .i64 0]) (t := 115) ?_; intro gb13 hg w14 hbox hb; replace HO_5 := Aside0.mk (Kd.R_below (Kd.R_elderB (ra_ HO_5) gb13 (Nat.le_of_eq hg.symm)) hb); have BK13 := Aside0.mk (hbox); have GW13 := gw_ (w := w) hg; replace HB := hs_ hb; have ⟨NB11_13, NB13_11⟩ := nb_ hg BK11; replace BK11 := kb_ BK11 hb; clear hb hbox hg; have := NB13_11.out; have := NB11_13.out; refine by3_ BK13 ?_; intros))
   go_roundg k1
   case measure => have := HK1.out; omega
   case rel => exact ⟨(wrap64 (x7_1 + 1)), (x16_1), (x17_1), (x18_1), sp_, H', ⟨by have := HK1.out; omega⟩, ⟨by refine cr_ ?_; exact Kd.R_mono (rf_ gb13 2 (rf_ gb13 1 (rf_ gb13 0 (Kd.R_mono HO_5.out (fun k_ hk => (⟨hk, hk.2⟩ : _ ∧ k_ ≠ gb13))) (.int .i64 ((rd_T115 t15 x7_1).f0))) (.int .i64 ((rd_T115 t15 x7_1).f1))) (.int .i64 ((rd_T115 t15 x7_1).f2))) (fun _ hk => hk.1.1)⟩, ⟨by refine ch_ ?_; refine bf_ NB11_13 ?_; refine bf_ NB11_13 ?_; exact bf_ NB11_13 BK11.out⟩, ⟨bl_⟩⟩
/-! ### impl_Printable: function 113 -/
def impl_Printable.l0 : Nat → ByteArray → Int → Int → Option (Bool)
 | 0, _, _, _ => none
 | k + 1, x0, x5, x6 => if x6 < x5 then (if 0 ≤ x6 then (if x6 < (x0.size : Int) then (if (bt x0 x6) < 32 then (some false) else (if (bt x0 x6) > 126 then (some false) else (impl_Printable.l0 k x0 x5 (wrap64 (x6 + 1))))) else (none)) else (none)) else (some true)
def impl_Printable.f (k : Nat) (a0 : ByteArray) : Option (Bool) := impl_Printable.l0 k a0 (a0.size : Int) 0
theorem impl_Printable.calls (k : Nat) (a0 : ByteArray) (r : Bool) (w : World) (h : impl_Printable.f k a0 = some r) :
  Calls Tryz.prog 113 #[.string a0] w fun e w' => e = .returned (.bool r) ∧ Drawn0 w w' := by
 have H := h
 unfold impl_Printable.f at H
 clear h
 have H' := Aside0.mk H
 clear H
 go_enter func113, ntmps113
 go_wp2
 go_loopg [6] k (fun kq v6 w' => ∃ (x6_1 : Int), v6 = .int .i64 x6_1 ∧ Aside0 (impl_Printable.l0 kq a0 (a0.size : Int) x6_1 = some r) ∧ Aside0 (kq ≤ k) ∧ Drawn0 w w')
 case atStart => exact ⟨(0), sp_, H', ⟨Nat.le_refl _⟩, dr_⟩
 case round =>
  clear H'
  obtain ⟨x6_1, rfl, HA, HK1, ⟨m1, rfl⟩⟩ := hrel
  cases gk with
  | zero => exact absurd HA.out (by simp [impl_Printable.l0])
  | succ k1 =>
   have H := HA.out
   clear HA
   simp only [impl_Printable.l0] at H
   by_cases c2 : x6_1 < (a0.size : Int)
   rotate_left
   ·rw [if_neg c2] at H
    replace c2 := df_ c2
    obtain rfl := si_ H
    go_wp2
    go_ret
    exact ⟨sp_, dr_⟩
   rw [if_pos c2] at H
   replace c2 := dt_ c2
   obtain ⟨c3, H⟩ := og_ H
   replace c3 := dt_ c3
   obtain ⟨c4, H⟩ := og_ H
   replace c4 := dt_ c4
   by_cases c6 : (bt a0 x6_1) < 32
   ·rw [if_pos c6] at H
    replace c6 := dt_ c6
    obtain rfl := si_ H
    have p5 : 0 ≤ (x6_1 : Int) := od_
    have q5 : x6_1 < (a0.size : Int) := od_
    have hx5 := bt_at a0 x6_1
    replace p5 := eq_true p5
    replace q5 := eq_true q5
    go_wp2
    go_ret
    exact ⟨sp_, dr_⟩
   rw [if_neg c6] at H
   replace c6 := df_ c6
   by_cases c8 : (bt a0 x6_1) > 126
   ·rw [if_pos c8] at H
    replace c8 := dt_ c8
    obtain rfl := si_ H
    have p5 : 0 ≤ (x6_1 : Int) := od_
    have q5 : x6_1 < (a0.size : Int) := od_
    have hx5 := bt_at a0 x6_1
    replace p5 := eq_true p5
    replace q5 := eq_true q5
    have p7 : 0 ≤ (x6_1 : Int) := od_
    have q7 : x6_1 < (a0.size : Int) := od_
    have hx7 := bt_at a0 x6_1
    replace p7 := eq_true p7
    replace q7 := eq_true q7
    go_wp2
    go_ret
    exact ⟨sp_, dr_⟩
   rw [if_neg c8] at H
   replace c8 := df_ c8
   have H' := Aside0.mk H
   clear H
   have p5 : 0 ≤ (x6_1 : Int) := od_
   have q5 : x6_1 < (a0.size : Int) := od_
   have hx5 := bt_at a0 x6_1
   replace p5 := eq_true p5
   replace q5 := eq_true q5
   have p7 : 0 ≤ (x6_1 : Int) := od_
   have q7 : x6_1 < (a0.size : Int) := od_
   have hx7 := bt_at a0 x6_1
   replace p7 := eq_true p7
   replace q7 := eq_true q7
   go_wp2
   go_roundg k1
   case measure => have := HK1.out; omega
   case rel => exact ⟨(wrap64 (x6_1 + 1)), sp_, H', ⟨by have := HK1.out; omega⟩, dr_⟩
/-! ### impl_FieldOk: function 84 -/
def impl_FieldOk.j0 : Nat → ByteArray → Bool → Int → Int → Int → Option (Bool)
 | 0, _, _, _, _, _ => none
 | k + 1, x1, x43, x46, x47, x45 => if x43 = true then ((impl_Printable.f k x1).bind fun t21 => (if t21 = true then ((impl_within.f (x1.size : Int) 1 x45).bind fun t28 => (some t28)) else (some false))) else (some false)
def impl_FieldOk.f (k : Nat) (a0 : Int) (a1 : ByteArray) : Option (Bool) := (impl_rowOf.f k a0).bind fun bt9 => (if bt9.2.1 = 1 then ((impl_Digits.f k a1).bind fun t35 => (if t35 = true then (some ((a1.size : Int) == bt9.2.2)) else (some false))) else (if bt9.2.1 = 2 then ((impl_Printable.f k a1).bind fun t41 => (if t41 = true then (some ((a1.size : Int) == bt9.2.2)) else (some false))) else (if bt9.2.1 = 3 then ((impl_Digits.f k a1).bind fun t42 => (if t42 = true then ((impl_within.f (a1.size : Int) 1 bt9.2.2).bind fun t44 => (some t44)) else (some false))) else (if bt9.2.1 = 4 then (impl_FieldOk.j0 k a1 (bt9.2.1 == 4) bt9.1 bt9.2.1 bt9.2.2) else (impl_FieldOk.j0 k a1 (bt9.2.1 == 5) bt9.1 bt9.2.1 bt9.2.2)))))
theorem impl_FieldOk.calls (k : Nat) (a0 : Int) (a1 : ByteArray) (r : Bool) (w : World) (h : impl_FieldOk.f k a0 a1 = some r) :
  Calls Tryz.prog 84 #[.int .i64 a0, .string a1] w fun e w' => e = .returned (.bool r) ∧ Below w.heap.size w w' := by
 have hu115 := underlying115
 have HB := Aside0.mk (Below.refl w.heap.size w)
 have H := h
 unfold impl_FieldOk.f at H
 clear h
 obtain ⟨⟨t9, t12, t18⟩, A3, H⟩ := ob_ H
 (try dsimp only at H)
 by_cases c4 : t12 = 1
 ·rw [if_pos c4] at H
  have := et_ c4
  replace c4 := nf_ c4
  obtain ⟨t35, A5, H⟩ := ob_ H
  by_cases c6 : t35 = true
  ·subst c6
   replace H := ip_ H
   obtain rfl := si_ H
   go_enter func84, ntmps84
   go_wp2_with (first | ((with_reducible refine gb_ 112 7 func112 #[.int .i64 a0] (impl_rowOf.calls k a0 t9 t12 t18 _ A3.out) fun w7 hb => ?_); replace HB := hs_ hb; clear hb) | ((with_reducible refine gt_ 5 ?_); (try (refine gate_guard (by rfl) ?_; dsimp only)); refine bo_ 5 #[.int .i64 0, .int .i64 0, .int .i64 0] 115 ?_; intro gb2 hg w8 BK2 hb; have GW2 := gw_ (w := w) hg; replace HB := hs_ hb; clear hb hg; refine by3_ BK2 ?_; intros) | ((with_reducible refine gd_ 86 13 func86 #[.string a1] (impl_Digits.calls k a1 true _ A5.out) fun nd => ?_)))
   go_ret
   exact ⟨sq_, bl_⟩
  replace c6 := gf_ c6
  subst c6
  replace H := in_ H
  obtain rfl := si_ H
  go_enter func84, ntmps84
  go_wp2_with (first | ((with_reducible refine gb_ 112 7 func112 #[.int .i64 a0] (impl_rowOf.calls k a0 t9 t12 t18 _ A3.out) fun w10 hb => ?_); replace HB := hs_ hb; clear hb) | ((with_reducible refine gt_ 5 ?_); (try (refine gate_guard (by rfl) ?_; dsimp only)); refine bo_ 5 #[.int .i64 0, .int .i64 0, .int .i64 0] 115 ?_; intro gb2 hg w11 BK2 hb; have GW2 := gw_ (w := w) hg; replace HB := hs_ hb; clear hb hg; refine by3_ BK2 ?_; intros) | ((with_reducible refine gd_ 86 13 func86 #[.string a1] (impl_Digits.calls k a1 false _ A5.out) fun nd => ?_)))
  go_ret
  exact ⟨sq_, bl_⟩
 rw [if_neg c4] at H
 have c4b0 := ef_ c4
 have c4b1 := nt_ c4
 by_cases c13 : t12 = 2
 ·rw [if_pos c13] at H
  have := et_ c13
  replace c13 := nf_ c13
  obtain ⟨t41, A14, H⟩ := ob_ H
  by_cases c15 : t41 = true
  ·subst c15
   replace H := ip_ H
   obtain rfl := si_ H
   go_enter func84, ntmps84
   go_wp2_with (first | ((with_reducible refine gb_ 112 7 func112 #[.int .i64 a0] (impl_rowOf.calls k a0 t9 t12 t18 _ A3.out) fun w16 hb => ?_); replace HB := hs_ hb; clear hb) | ((with_reducible refine gt_ 5 ?_); (try (refine gate_guard (by rfl) ?_; dsimp only)); refine bo_ 5 #[.int .i64 0, .int .i64 0, .int .i64 0] 115 ?_; intro gb2 hg w17 BK2 hb; have GW2 := gw_ (w := w) hg; replace HB := hs_ hb; clear hb hg; refine by3_ BK2 ?_; intros) | ((with_reducible refine gd_ 113 24 func113 #[.string a1] (impl_Printable.calls k a1 true _ A14.out) fun nd => ?_)))
   go_ret
   exact ⟨sq_, bl_⟩
  replace c15 := gf_ c15
  subst c15
  replace H := in_ H
  obtain rfl := si_ H
  go_enter func84, ntmps84
  go_wp2_with (first | ((with_reducible refine gb_ 112 7 func112 #[.int .i64 a0] (impl_rowOf.calls k a0 t9 t12 t18 _ A3.out) fun w19 hb => ?_); replace HB := hs_ hb; clear hb) | ((with_reducible refine gt_ 5 ?_); (try (refine gate_guard (by rfl) ?_; dsimp only)); refine bo_ 5 #[.int .i64 0, .int .i64 0, .int .i64 0] 115 ?_; intro gb2 hg w20 BK2 hb; have GW2 := gw_ (w := w) hg; replace HB := hs_ hb; clear hb hg; refine by3_ BK2 ?_; intros) | ((with_reducible refine gd_ 113 24 func113 #[.string a1] (impl_Printable.calls k a1 false _ A14.out) fun nd => ?_)))
  go_ret
  exact ⟨sq_, bl_⟩
 rw [if_neg c13] at H
 have c13b0 := ef_ c13
 have c13b1 := nt_ c13
 by_cases c22 : t12 = 3
 ·rw [if_pos c22] at H
  have := et_ c22
  replace c22 := nf_ c22
  obtain ⟨t42, A23, H⟩ := ob_ H
  by_cases c24 : t42 = true
  ·subst c24
   replace H := ip_ H
   obtain ⟨t44, A25, H⟩ := ob_ H
   obtain rfl := si_ H
   go_enter func84, ntmps84
   go_wp2_with (first | ((with_reducible refine gb_ 112 7 func112 #[.int .i64 a0] (impl_rowOf.calls k a0 t9 t12 t18 _ A3.out) fun w26 hb => ?_); replace HB := hs_ hb; clear hb) | ((with_reducible refine gt_ 5 ?_); (try (refine gate_guard (by rfl) ?_; dsimp only)); refine bo_ 5 #[.int .i64 0, .int .i64 0, .int .i64 0] 115 ?_; intro gb2 hg w27 BK2 hb; have GW2 := gw_ (w := w) hg; replace HB := hs_ hb; clear hb hg; refine by3_ BK2 ?_; intros) | ((with_reducible refine gd_ 86 35 func86 #[.string a1] (impl_Digits.calls k a1 true _ A23.out) fun nd => ?_)) | (go_at_call 71; (with_reducible refine (impl_within.calls (a1.size : Int) 1 t18 t44 _ A25.out).mono ?_); rintro e w' ⟨rfl, nd, rfl⟩))
   go_ret
   exact ⟨sq_, bl_⟩
  replace c24 := gf_ c24
  subst c24
  replace H := in_ H
  obtain rfl := si_ H
  go_enter func84, ntmps84
  go_wp2_with (first | ((with_reducible refine gb_ 112 7 func112 #[.int .i64 a0] (impl_rowOf.calls k a0 t9 t12 t18 _ A3.out) fun w29 hb => ?_); replace HB := hs_ hb; clear hb) | ((with_reducible refine gt_ 5 ?_); (try (refine gate_guard (by rfl) ?_; dsimp only)); refine bo_ 5 #[.int .i64 0, .int .i64 0, .int .i64 0] 115 ?_; intro gb2 hg w30 BK2 hb; have GW2 := gw_ (w := w) hg; replace HB := hs_ hb; clear hb hg; refine by3_ BK2 ?_; intros) | ((with_reducible refine gd_ 86 35 func86 #[.string a1] (impl_Digits.calls k a1 false _ A23.out) fun nd => ?_)))
  go_ret
  exact ⟨sq_, bl_⟩
 rw [if_neg c22] at H
 have c22b0 := ef_ c22
 have c22b1 := nt_ c22
 have HC32 := Aside0.mk H
 clear H
 go_enter func84, ntmps84
 go_upto_if 43 with (first | ((with_reducible refine gb_ 112 7 func112 #[.int .i64 a0] (impl_rowOf.calls k a0 t9 t12 t18 _ A3.out) fun w33 hb => ?_); replace HB := hs_ hb; clear hb) | ((with_reducible refine gt_ 5 ?_); (try (refine gate_guard (by rfl) ?_; dsimp only)); refine bo_ 5 #[.int .i64 0, .int .i64 0, .int .i64 0] 115 ?_; intro gb2 hg w34 BK2 hb; have GW2 := gw_ (w := w) hg; replace HB := hs_ hb; clear hb hg; refine by3_ BK2 ?_; intros))
 (try simp only [Act.put, List.setIfInBounds_toArray, List.set_cons_zero, List.set_cons_succ])
 go_cut [43] (fun v43 wc => ∃ (kq : Nat) (x43_31 : Bool), v43 = .bool x43_31 ∧ Aside0 (impl_FieldOk.j0 kq a1 x43_31 t9 t12 t18 = some r) ∧ Aside0 (kq ≤ k) ∧ Aside0 (wc.heap[gb2]? = some (.cells #[.int .i64 t9, .int .i64 t12, .int .i64 t18] 115 (0, 0))) ∧ Aside0 (Below w.heap.size w wc))
 case first =>
  have H := HC32.out
  clear HC32
  by_cases c36 : t12 = 4
  ·rw [if_pos c36] at H
   have c36b0 := et_ c36
   have c36b1 := nf_ c36
   clear c36
   (first | rw [c36b0] | (simp only [i64_w, i32_w]; rw [c36b0]) | skip)
   have H' := Aside0.mk H
   clear H
   go_wp2
   go_meet
   case rel => exact ⟨_, ((t12 == 4)), sp_, H', ⟨by first | omega | exact Nat.le_refl _⟩, ⟨by refine ch_ ?_; apply bq3_2_1_0_; exact ch_ BK2.out⟩, ⟨bl_⟩⟩
  ·rw [if_neg c36] at H
   have c36b0 := ef_ c36
   have c36b1 := nt_ c36
   (first | rw [c36b0] | (simp only [i64_w, i32_w]; rw [c36b0]) | skip)
   have H' := Aside0.mk H
   clear H
   go_wp2
   go_meet
   case rel => exact ⟨_, ((t12 == 5)), sp_, H', ⟨by first | omega | exact Nat.le_refl _⟩, ⟨by refine ch_ ?_; apply bq3_2_1_0_; exact ch_ BK2.out⟩, ⟨bl_⟩⟩
 case rest =>
  clear HC32
  obtain ⟨kq, x43_31, rfl, HA, HJ31, BK2, HB⟩ := hcut
  cases kq with
  | zero => exact absurd HA.out (by simp [impl_FieldOk.j0])
  | succ kj31 =>
   have H := HA.out
   clear HA
   simp only [impl_FieldOk.j0] at H
   by_cases c37 : x43_31 = true
   ·subst c37
    replace H := ip_ H
    obtain ⟨t21, A38, H⟩ := ob_ H
    by_cases c39 : t21 = true
    ·subst c39
     replace H := ip_ H
     obtain ⟨t28, A40, H⟩ := ob_ H
     obtain rfl := si_ H
     go_wp2_with (first | ((with_reducible refine gd_ 113 47 func113 #[.string a1] (impl_Printable.calls kj31 a1 true _ A38.out) fun nd => ?_); refine by3_ BK2 ?_; intros) | (go_at_call 71; (with_reducible refine (impl_within.calls (a1.size : Int) 1 t18 t28 _ A40.out).mono ?_); rintro e w' ⟨rfl, nd, rfl⟩))
     go_ret
     exact ⟨sq_, bl_⟩
    replace c39 := gf_ c39
    subst c39
    replace H := in_ H
    obtain rfl := si_ H
    go_wp2_with (first | ((with_reducible refine gd_ 113 47 func113 #[.string a1] (impl_Printable.calls kj31 a1 false _ A38.out) fun nd => ?_)))
    go_ret
    exact ⟨sq_, bl_⟩
   ·replace c37 := gf_ c37
    subst c37
    replace H := in_ H
    obtain rfl := si_ H
    go_wp2
    go_ret
    exact ⟨sq_, bl_⟩
/-! ### impl_isWide: function 85 -/
def impl_isWide.f (k : Nat) (a0 : ByteArray) (a1 : Int) : Option (Bool) := (impl_Digits.f k a0).bind fun t1 => (if t1 = true then (some ((a0.size : Int) == a1)) else (some false))
theorem impl_isWide.calls (k : Nat) (a0 : ByteArray) (a1 : Int) (r : Bool) (w : World) (h : impl_isWide.f k a0 a1 = some r) :
  Calls Tryz.prog 85 #[.string a0, .int .i64 a1] w fun e w' => e = .returned (.bool r) ∧ Drawn0 w w' := by
 have H := h
 unfold impl_isWide.f at H
 clear h
 obtain ⟨t1, A3, H⟩ := ob_ H
 by_cases c4 : t1 = true
 ·subst c4
  replace H := ip_ H
  obtain rfl := si_ H
  go_enter func85, ntmps85
  go_wp2_with (first | ((with_reducible refine gd_ 86 6 func86 #[.string a0] (impl_Digits.calls k a0 true _ A3.out) fun nd => ?_)))
  go_ret
  exact ⟨sp_, dr_⟩
 replace c4 := gf_ c4
 subst c4
 replace H := in_ H
 obtain rfl := si_ H
 go_enter func85, ntmps85
 go_wp2_with (first | ((with_reducible refine gd_ 86 6 func86 #[.string a0] (impl_Digits.calls k a0 false _ A3.out) fun nd => ?_)))
 go_ret
 exact ⟨sp_, dr_⟩
/-! ### impl_MsgOk: function 46 -/
def impl_MsgOk.l0 : Nat → List (S91) → Int → Int → ByteArray → List (S91) → Option (Bool)
 | 0, _, _, _, _, _ => none
 | k + 1, x6, x7, x8, x27, x22 => if x8 < x7 then (if 0 ≤ x8 then (if x8 < (x6.length : Int) then ((impl_FieldOk.f k ((rd_T91 x6 x8).f0) ((rd_T91 x6 x8).f1)).bind fun t28 => (if t28 = true then (if x8 > 0 then (if 0 ≤ (wrap64 (x8 - 1)) then (if (wrap64 (x8 - 1)) < (x22.length : Int) then (if ((rd_T91 x6 x8).f0) ≤ ((rd_T91 x22 (wrap64 (x8 - 1))).f0) then (some false) else (impl_MsgOk.l0 k x6 x7 (wrap64 (x8 + 1)) x27 x22)) else (none)) else (none)) else (impl_MsgOk.l0 k x6 x7 (wrap64 (x8 + 1)) x27 x22)) else (some false))) else (none)) else (none)) else ((impl_isWide.f k x27 4).bind fun t33 => (some t33))
def impl_MsgOk.f (k : Nat) (a0_0 : ByteArray) (l0_1 : List (S91)) : Option (Bool) := impl_MsgOk.l0 k l0_1 (l0_1.length : Int) 0 a0_0 l0_1
def impl_MsgOk.T4 : Bool × List (List Nat × List Nat) := (true, [([], []), ([0], [0]), ([], []), ([2], [2]), ([1, 3], [1, 3]), ([4], [4]), ([5, 4], [5]), ([6], [6]), ([7, 6], [6, 7]), ([8, 6, 6], [6, 8]), ([9], [9]), ([10, 9], [9, 10]), ([9], [9]), ([12, 9], [9, 12]), ([9], [9]), ([14, 9], [9, 14]), ([13, 15, 9], [9, 13, 15]), ([16, 9], [9, 16]), ([17, 9], [9, 17]), ([11, 18, 9], [9, 11, 18]), ([9, 19, 6], [6, 9, 19]), ([6, 20], [6, 20])])
def impl_MsgOk.B4 : List Nat := [0, 1, 0, 4, 15, 31, 63, 127, 255, 511, 1023, 2047, 1023, 5119, 1023, 17407, 62463, 127999, 259071, 524287, 1048575, 2097151]
theorem impl_MsgOk.tab4 : rtab .any (opsOf Tryz.f46 4) = impl_MsgOk.T4 := by kernel_rfl
theorem impl_MsgOk.bits4 : waitsOk impl_MsgOk.T4.2 impl_MsgOk.B4 = true := by kernel_rfl
theorem impl_MsgOk.calls (k : Nat) (a0_0 : ByteArray) (A0_1 : Option Addr) (c0_1 : Nat) (l0_1 : List (S91)) (r : Bool) (w : World) (hr0_1 : Kd.C k91 w A0_1 l0_1.length l0_1) (hc0_1 : l0_1.length ≤ c0_1) (h : impl_MsgOk.f k a0_0 l0_1 = some r) :
  Calls Tryz.prog 46 #[.agg #[.string a0_0, .slice A0_1 l0_1.length c0_1]] w fun e w' => e = .returned (.bool r) ∧ Below w.heap.size w w' := by
 have hu32 := underlying32
 have hu91 := underlying91
 have HR0_1 := Aside0.mk hr0_1
 have HC0_1 := Aside0.mk hc0_1
 clear hr0_1 hc0_1
 have HB := Aside0.mk (Below.refl w.heap.size w)
 have H := h
 unfold impl_MsgOk.f at H
 clear h
 have H' := Aside0.mk H
 clear H
 go_enter func46, ntmps46
 go_wp2_with (first | ((with_reducible refine gt_ 1 ?_); refine bo_ 1 #[.string a0_0, .slice A0_1 l0_1.length c0_1] 32 ?_; intro gb15 hg w2 BK15 hb; have GW15 := gw_ (w := w) hg; replace HB := hs_ hb; clear hb hg; refine by2_ BK15 ?_; intros))
 go_loopg [8] k (fun kq v8 w' => ∃ (x8_1 : Int), v8 = .int .i64 x8_1 ∧ Aside0 (impl_MsgOk.l0 kq l0_1 (l0_1.length : Int) x8_1 a0_0 l0_1 = some r) ∧ Aside0 (kq ≤ k) ∧ Aside0 (w'.heap[gb15]? = some (.cells #[.string a0_0, (.slice A0_1 l0_1.length c0_1)] 32 (0, 0))) ∧ Aside0 (Below w.heap.size w w'))
 case atStart => exact ⟨(0), sp_, H', ⟨Nat.le_refl _⟩, ⟨ch_ BK15.out⟩, ⟨bl_⟩⟩
 case round =>
  clear H'
  obtain ⟨x8_1, rfl, HA, HK1, BK15, HB⟩ := hrel
  cases gk with
  | zero => exact absurd HA.out (by simp [impl_MsgOk.l0])
  | succ k1 =>
   have H := HA.out
   clear HA
   simp only [impl_MsgOk.l0] at H
   by_cases c4 : x8_1 < (l0_1.length : Int)
   rotate_left
   ·rw [if_neg c4] at H
    replace c4 := df_ c4
    obtain ⟨t33, A38, H⟩ := ob_ H
    obtain rfl := si_ H
    refine by2_ BK15 ?_; intros
    go_wp2_with (first | ((with_reducible refine gd_ 85 38 func85 #[.string a0_0, .int .i64 4] (impl_isWide.calls k1 a0_0 4 t33 _ A38.out) fun nd => ?_)))
    go_ret
    exact ⟨sq_, bl_⟩
   rw [if_pos c4] at H
   replace c4 := dt_ c4
   obtain ⟨c5, H⟩ := og_ H
   replace c5 := dt_ c5
   obtain ⟨c6, H⟩ := og_ H
   replace c6 := dt_ c6
   obtain ⟨t28, A7, H⟩ := ob_ H
   by_cases c8 : t28 = true
   rotate_left
   ·replace c8 := gf_ c8
    subst c8
    replace H := in_ H
    obtain rfl := si_ H
    have p16 : 0 ≤ (x8_1 : Int) := od_
    have q16 : x8_1 < (l0_1.length : Int) := od_
    obtain ⟨ad16, e16, hx16_0, hx16_1⟩ := at_T91 HR0_1.out x8_1 p16 q16
    cases e16
    replace hx16_0 := kc_ HB hx16_0
    replace hx16_1 := kc_ HB hx16_1
    replace p16 := eq_true p16
    replace q16 := eq_true q16
    try go_wp2_with (first | ((with_reducible refine gt_ 4 ?_); refine bo_ 4 #[.int .i64 0, .string ⟨#[]⟩] 91 ?_; intro gb3 hg w32 BK3 hb; have GW3 := gw_ (w := w) hg; replace HB := hs_ hb; have ⟨NB15_3, NB3_15⟩ := nb_ hg BK15; replace BK15 := kb_ BK15 hb; clear hb hg; have := NB3_15.out; have := NB15_3.out; refine by2_ BK3 ?_; intros))
    have n0_ : Aside0 (((w32.setCell ⟨gb3, 0, none⟩ (.int .i64 ((rd_T91 l0_1 x8_1).f0))).setCell ⟨gb3, 1, none⟩ (.string ((rd_T91 l0_1 x8_1).f1))).heap[gb15]? = some (.cells #[.string a0_0, .slice (some ad16) l0_1.length c0_1] 32 (0, 0))) := ⟨by refine ch_ ?_; refine bf_ NB15_3 ?_; exact bf_ NB15_3 BK15.out⟩
    have n1_ : Aside0 (((w32.setCell ⟨gb3, 0, none⟩ (.int .i64 ((rd_T91 l0_1 x8_1).f0))).setCell ⟨gb3, 1, none⟩ (.string ((rd_T91 l0_1 x8_1).f1))).heap[gb3]? = some (.cells #[.int .i64 ((rd_T91 l0_1 x8_1).f0), .string ((rd_T91 l0_1 x8_1).f1)] 91 (0, 0))) := ⟨by refine ch_ ?_; apply bq2_1_0_; exact ch_ BK3.out⟩
    have n2_ : Aside0 (Below w.heap.size w ((w32.setCell ⟨gb3, 0, none⟩ (.int .i64 ((rd_T91 l0_1 x8_1).f0))).setCell ⟨gb3, 1, none⟩ (.string ((rd_T91 l0_1 x8_1).f1)))) := ⟨bl_⟩
    (try clear BK15)
    (try clear BK3)
    (try clear HB)
    generalize ((w32.setCell ⟨gb3, 0, none⟩ (.int .i64 ((rd_T91 l0_1 x8_1).f0))).setCell ⟨gb3, 1, none⟩ (.string ((rd_T91 l0_1 x8_1).f1))) = w35 at n0_ n1_ n2_ ⊢
    have BK15 := n0_
    have BK3 := n1_
    have HB := n2_
    clear n0_ n1_ n2_
    have n0_ := Aside0.mk (blk_drew BK15.out)
    have n1_ := Aside0.mk (blk_drew BK3.out)
    have n2_ := Aside0.mk (below_drew1 HB.out)
    clear BK15
    clear BK3
    clear HB
    have BK15 := n0_
    have BK3 := n1_
    have HB := n2_
    clear n0_ n1_ n2_
    refine start_ (n := 22) (S := fun w' => w'.cell? ⟨gb3, 0, none⟩ = some (.int .i64 ((rd_T91 l0_1 x8_1).f0)) ∧ w'.cell? ⟨gb3, 1, none⟩ = some (.string ((rd_T91 l0_1 x8_1).f1))) (ds := []) tb22_0 (by kernel_rfl) rfl rfl ⟨cy_ BK3 0, cy_ BK3 1⟩ (fun hHeld => ?_); refine with_tabW impl_MsgOk.tab4 impl_MsgOk.bits4 (fun HT_ HW_ => ?_)
    generalize w35.drew = w36 at BK15 BK3 HB hHeld ⊢
    refine pl_ HT_ 0 13 tb22_1 ?_
    refine pl_ HT_ 2 15 tb22_5 ?_
    refine take_ (i := 1) (N := some 14) (v := ?_) (a' := ?_) tb22_7 rfl rfl (take_ofW HT_.out HW_.out (by kernel_rfl)) (fun _ _ _ h => h) (Or.inl ⟨by rfl, ?_⟩) hHeld ?_ ?_
    rotate_left
    ·rintro w' ⟨s0, s1⟩
     go_simp
     with_reducible rfl
    rotate_left
    ·simp only [Act.put, q_]
     rfl
    refine take_ (i := 3) (N := some 16) (v := ?_) (a' := ?_) tb22_f rfl rfl (take_ofW HT_.out HW_.out (by kernel_rfl)) (fun _ _ _ h => h) (Or.inl ⟨by rfl, ?_⟩) hHeld ?_ ?_
    rotate_left
    ·rintro w' ⟨s0, s1⟩
     go_simp
     with_reducible rfl
    rotate_left
    ·simp only [Act.put, q_]
     rfl
    refine one_ (i := 4) (N := some 17) tb22_1f rfl rfl (one_of HT_.out (by kernel_rfl)) (by decide) (fun K hK => ?_)
    refine goes_ func84 (by kernel_rfl) rfl #[.int .i64 ((rd_T91 l0_1 x8_1).f0), .string ((rd_T91 l0_1 x8_1).f1)] (by rfl) rfl rfl gl_ ?_
    with_reducible refine (impl_FieldOk.calls k1 ((rd_T91 l0_1 x8_1).f0) ((rd_T91 l0_1 x8_1).f1) false _ A7.out).mono ?_
    rintro e w37 ⟨rfl, hb⟩
    refine ⟨_, rfl, ?_⟩
    have n0_ := Aside0.mk (blk_below (bk_ BK15) hb)
    have n1_ := Aside0.mk (blk_below (bk_ BK3) hb)
    have n2_ := Aside0.mk (below_step bl_ hb)
    clear BK15
    clear BK3
    clear HB
    have BK15 := n0_
    have BK3 := n1_
    have HB := n2_
    clear n0_ n1_ n2_
    (try clear hb)
    (try clear hb2)
    (try clear hk)
    (try clear hi)
    refine hK.out _ _ ⟨cy_ BK3 0, cy_ BK3 1⟩ (fun hHeld => ?_)
    clear hK K
    refine norm_ (a' := ?_) ?_ ?_
    rotate_left
    ·show Act.put _ (some 17) _ = _
     simp only [Act.put, q_]
     rfl
    refine pl_ HT_ 5 18 tb22_3f ?_
    refine pl_ HT_ 6 19 tb22_7f ?_
    refine pr_ HT_ 7 20 tb22_ff ?_
    refine pr_ HT_ 8 21 tb22_1ff ?_
    refine pr_ HT_ 9 22 tb22_3ff ?_
    refine pr_ HT_ 10 23 tb22_7ff ?_
    refine pr_ HT_ 11 24 tb22_fff ?_
    refine pr_ HT_ 12 25 tb22_1fff ?_
    refine pr_ HT_ 13 26 tb22_3fff ?_
    refine pr_ HT_ 14 27 tb22_7fff ?_
    refine pr_ HT_ 15 28 tb22_ffff ?_
    refine pr_ HT_ 16 29 tb22_1ffff ?_
    refine pr_ HT_ 17 30 tb22_3ffff ?_
    refine pr_ HT_ 18 31 tb22_7ffff ?_
    refine pr_ HT_ 19 32 tb22_fffff ?_
    refine pr_ HT_ 20 33 tb22_1fffff ?_
    refine pl_ HT_ 21 34 tb22_3fffff ?_
    refine done_ (done_of HT_.out (by kernel_rfl)) ?_
    try go_wp2
    go_ret
    exact ⟨sq_, bl_⟩
   subst c8
   replace H := ip_ H
   by_cases c9 : x8_1 > 0
   rotate_left
   ·rw [if_neg c9] at H
    replace c9 := df_ c9
    have H' := Aside0.mk H
    clear H
    have p16 : 0 ≤ (x8_1 : Int) := od_
    have q16 : x8_1 < (l0_1.length : Int) := od_
    obtain ⟨ad16, e16, hx16_0, hx16_1⟩ := at_T91 HR0_1.out x8_1 p16 q16
    cases e16
    replace hx16_0 := kc_ HB hx16_0
    replace hx16_1 := kc_ HB hx16_1
    replace p16 := eq_true p16
    replace q16 := eq_true q16
    try go_wp2_with (first | ((with_reducible refine gt_ 4 ?_); refine bo_ 4 #[.int .i64 0, .string ⟨#[]⟩] 91 ?_; intro gb3 hg w26 BK3 hb; have GW3 := gw_ (w := w) hg; replace HB := hs_ hb; have ⟨NB15_3, NB3_15⟩ := nb_ hg BK15; replace BK15 := kb_ BK15 hb; clear hb hg; have := NB3_15.out; have := NB15_3.out; refine by2_ BK3 ?_; intros))
    have n0_ : Aside0 (((w26.setCell ⟨gb3, 0, none⟩ (.int .i64 ((rd_T91 l0_1 x8_1).f0))).setCell ⟨gb3, 1, none⟩ (.string ((rd_T91 l0_1 x8_1).f1))).heap[gb15]? = some (.cells #[.string a0_0, .slice (some ad16) l0_1.length c0_1] 32 (0, 0))) := ⟨by refine ch_ ?_; refine bf_ NB15_3 ?_; exact bf_ NB15_3 BK15.out⟩
    have n1_ : Aside0 (((w26.setCell ⟨gb3, 0, none⟩ (.int .i64 ((rd_T91 l0_1 x8_1).f0))).setCell ⟨gb3, 1, none⟩ (.string ((rd_T91 l0_1 x8_1).f1))).heap[gb3]? = some (.cells #[.int .i64 ((rd_T91 l0_1 x8_1).f0), .string ((rd_T91 l0_1 x8_1).f1)] 91 (0, 0))) := ⟨by refine ch_ ?_; apply bq2_1_0_; exact ch_ BK3.out⟩
    have n2_ : Aside0 (Below w.heap.size w ((w26.setCell ⟨gb3, 0, none⟩ (.int .i64 ((rd_T91 l0_1 x8_1).f0))).setCell ⟨gb3, 1, none⟩ (.string ((rd_T91 l0_1 x8_1).f1)))) := ⟨bl_⟩
    (try clear BK15)
    (try clear BK3)
    (try clear HB)
    generalize ((w26.setCell ⟨gb3, 0, none⟩ (.int .i64 ((rd_T91 l0_1 x8_1).f0))).setCell ⟨gb3, 1, none⟩ (.string ((rd_T91 l0_1 x8_1).f1))) = w29 at n0_ n1_ n2_ ⊢
    have BK15 := n0_
    have BK3 := n1_
    have HB := n2_
    clear n0_ n1_ n2_
    have n0_ := Aside0.mk (blk_drew BK15.out)
    have n1_ := Aside0.mk (blk_drew BK3.out)
    have n2_ := Aside0.mk (below_drew1 HB.out)
    clear BK15
    clear BK3
    clear HB
    have BK15 := n0_
    have BK3 := n1_
    have HB := n2_
    clear n0_ n1_ n2_
    refine start_ (n := 22) (S := fun w' => w'.cell? ⟨gb3, 0, none⟩ = some (.int .i64 ((rd_T91 l0_1 x8_1).f0)) ∧ w'.cell? ⟨gb3, 1, none⟩ = some (.string ((rd_T91 l0_1 x8_1).f1))) (ds := []) tb22_0 (by kernel_rfl) rfl rfl ⟨cy_ BK3 0, cy_ BK3 1⟩ (fun hHeld => ?_); refine with_tabW impl_MsgOk.tab4 impl_MsgOk.bits4 (fun HT_ HW_ => ?_)
    generalize w29.drew = w30 at BK15 BK3 HB hHeld ⊢
    refine pl_ HT_ 0 13 tb22_1 ?_
    refine pl_ HT_ 2 15 tb22_5 ?_
    refine take_ (i := 1) (N := some 14) (v := ?_) (a' := ?_) tb22_7 rfl rfl (take_ofW HT_.out HW_.out (by kernel_rfl)) (fun _ _ _ h => h) (Or.inl ⟨by rfl, ?_⟩) hHeld ?_ ?_
    rotate_left
    ·rintro w' ⟨s0, s1⟩
     go_simp
     with_reducible rfl
    rotate_left
    ·simp only [Act.put, q_]
     rfl
    refine take_ (i := 3) (N := some 16) (v := ?_) (a' := ?_) tb22_f rfl rfl (take_ofW HT_.out HW_.out (by kernel_rfl)) (fun _ _ _ h => h) (Or.inl ⟨by rfl, ?_⟩) hHeld ?_ ?_
    rotate_left
    ·rintro w' ⟨s0, s1⟩
     go_simp
     with_reducible rfl
    rotate_left
    ·simp only [Act.put, q_]
     rfl
    refine one_ (i := 4) (N := some 17) tb22_1f rfl rfl (one_of HT_.out (by kernel_rfl)) (by decide) (fun K hK => ?_)
    refine goes_ func84 (by kernel_rfl) rfl #[.int .i64 ((rd_T91 l0_1 x8_1).f0), .string ((rd_T91 l0_1 x8_1).f1)] (by rfl) rfl rfl gl_ ?_
    with_reducible refine (impl_FieldOk.calls k1 ((rd_T91 l0_1 x8_1).f0) ((rd_T91 l0_1 x8_1).f1) true _ A7.out).mono ?_
    rintro e w31 ⟨rfl, hb⟩
    refine ⟨_, rfl, ?_⟩
    have n0_ := Aside0.mk (blk_below (bk_ BK15) hb)
    have n1_ := Aside0.mk (blk_below (bk_ BK3) hb)
    have n2_ := Aside0.mk (below_step bl_ hb)
    clear BK15
    clear BK3
    clear HB
    have BK15 := n0_
    have BK3 := n1_
    have HB := n2_
    clear n0_ n1_ n2_
    (try clear hb)
    (try clear hb2)
    (try clear hk)
    (try clear hi)
    refine hK.out _ _ ⟨cy_ BK3 0, cy_ BK3 1⟩ (fun hHeld => ?_)
    clear hK K
    refine norm_ (a' := ?_) ?_ ?_
    rotate_left
    ·show Act.put _ (some 17) _ = _
     simp only [Act.put, q_]
     rfl
    refine pl_ HT_ 5 18 tb22_3f ?_
    refine pl_ HT_ 6 19 tb22_7f ?_
    refine pl_ HT_ 7 20 tb22_ff ?_
    refine pl_ HT_ 8 21 tb22_1ff ?_
    refine pl_ HT_ 9 22 tb22_3ff ?_
    refine pr_ HT_ 10 23 tb22_7ff ?_
    refine pr_ HT_ 11 24 tb22_fff ?_
    refine pr_ HT_ 12 25 tb22_1fff ?_
    refine pr_ HT_ 13 26 tb22_3fff ?_
    refine pr_ HT_ 14 27 tb22_7fff ?_
    refine pr_ HT_ 15 28 tb22_ffff ?_
    refine pr_ HT_ 16 29 tb22_1ffff ?_
    refine pr_ HT_ 17 30 tb22_3ffff ?_
    refine pr_ HT_ 18 31 tb22_7ffff ?_
    refine pr_ HT_ 19 32 tb22_fffff ?_
    refine pl_ HT_ 20 33 tb22_1fffff ?_
    refine pl_ HT_ 21 34 tb22_3fffff ?_
    refine done_ (done_of HT_.out (by kernel_rfl)) ?_
    try go_wp2
    go_roundg k1
    case measure => have := HK1.out; omega
    case rel => exact ⟨(wrap64 (x8_1 + 1)), sp_, H', ⟨by have := HK1.out; omega⟩, ⟨ch_ BK15.out⟩, ⟨bl_⟩⟩
   rw [if_pos c9] at H
   replace c9 := dt_ c9
   obtain ⟨ji10, hji10⟩ : ∃ j_ : Int, (wrap64 (x8_1 - 1)) = j_ := ⟨_, rfl⟩
   replace H : (if 0 ≤ (ji10) then (if (ji10) < (l0_1.length : Int) then (if ((rd_T91 l0_1 x8_1).f0) ≤ ((rd_T91 l0_1 (ji10)).f0) then (some false) else (impl_MsgOk.l0 k1 l0_1 (l0_1.length : Int) (wrap64 (x8_1 + 1)) a0_0 l0_1)) else (none)) else (none)) = some r := by first | (rw [hji10] at H; exact H) | (simp only [hji10] at H ⊢; exact H)
   (try rw [hji10] at A7)
   have hji10w : (IntKind.i64.wrap (x8_1 - 1)) = ji10 := (i64_w _).trans hji10
   obtain ⟨c11, H⟩ := og_ H
   replace c11 := dt_ c11
   obtain ⟨c12, H⟩ := og_ H
   replace c12 := dt_ c12
   by_cases c13 : ((rd_T91 l0_1 x8_1).f0) ≤ ((rd_T91 l0_1 (ji10)).f0)
   ·rw [if_pos c13] at H
    replace c13 := dt_ c13
    obtain rfl := si_ H
    have p16 : 0 ≤ (x8_1 : Int) := od_
    have q16 : x8_1 < (l0_1.length : Int) := od_
    obtain ⟨ad16, e16, hx16_0, hx16_1⟩ := at_T91 HR0_1.out x8_1 p16 q16
    cases e16
    replace hx16_0 := kc_ HB hx16_0
    replace hx16_1 := kc_ HB hx16_1
    replace p16 := eq_true p16
    replace q16 := eq_true q16
    try go_wp2_with (first | ((with_reducible refine gt_ 4 ?_); refine bo_ 4 #[.int .i64 0, .string ⟨#[]⟩] 91 ?_; intro gb3 hg w14 BK3 hb; have GW3 := gw_ (w := w) hg; replace HB := hs_ hb; have ⟨NB15_3, NB3_15⟩ := nb_ hg BK15; replace BK15 := kb_ BK15 hb; clear hb hg; have := NB3_15.out; have := NB15_3.out; refine by2_ BK3 ?_; intros))
    have n0_ : Aside0 (((w14.setCell ⟨gb3, 0, none⟩ (.int .i64 ((rd_T91 l0_1 x8_1).f0))).setCell ⟨gb3, 1, none⟩ (.string ((rd_T91 l0_1 x8_1).f1))).heap[gb15]? = some (.cells #[.string a0_0, .slice (some ad16) l0_1.length c0_1] 32 (0, 0))) := ⟨by refine ch_ ?_; refine bf_ NB15_3 ?_; exact bf_ NB15_3 BK15.out⟩
    have n1_ : Aside0 (((w14.setCell ⟨gb3, 0, none⟩ (.int .i64 ((rd_T91 l0_1 x8_1).f0))).setCell ⟨gb3, 1, none⟩ (.string ((rd_T91 l0_1 x8_1).f1))).heap[gb3]? = some (.cells #[.int .i64 ((rd_T91 l0_1 x8_1).f0), .string ((rd_T91 l0_1 x8_1).f1)] 91 (0, 0))) := ⟨by refine ch_ ?_; apply bq2_1_0_; exact ch_ BK3.out⟩
    have n2_ : Aside0 (Below w.heap.size w ((w14.setCell ⟨gb3, 0, none⟩ (.int .i64 ((rd_T91 l0_1 x8_1).f0))).setCell ⟨gb3, 1, none⟩ (.string ((rd_T91 l0_1 x8_1).f1)))) := ⟨bl_⟩
    (try clear BK15)
    (try clear BK3)
    (try clear HB)
    generalize ((w14.setCell ⟨gb3, 0, none⟩ (.int .i64 ((rd_T91 l0_1 x8_1).f0))).setCell ⟨gb3, 1, none⟩ (.string ((rd_T91 l0_1 x8_1).f1))) = w17 at n0_ n1_ n2_ ⊢
    have BK15 := n0_
    have BK3 := n1_
    have HB := n2_
    clear n0_ n1_ n2_
    have n0_ := Aside0.mk (blk_drew BK15.out)
    have n1_ := Aside0.mk (blk_drew BK3.out)
    have n2_ := Aside0.mk (below_drew1 HB.out)
    clear BK15
    clear BK3
    clear HB
    have BK15 := n0_
    have BK3 := n1_
    have HB := n2_
    clear n0_ n1_ n2_
    have p21 : 0 ≤ ((ji10) : Int) := od_
    have q21 : (ji10) < (l0_1.length : Int) := od_
    obtain ⟨ad21, e21, hx21_0, hx21_1⟩ := at_T91 HR0_1.out (ji10) p21 q21
    have hw429_1 := hx21_1
    have hw429_0 := hx21_0
    obtain rfl : ad16 = ad21 := (by injection e21)
    replace hx21_0 := kc_ HB hx21_0
    replace hx21_1 := kc_ HB hx21_1
    replace p21 := eq_true p21
    replace q21 := eq_true q21
    refine start_ (n := 22) (S := fun w' => w'.cell? ⟨gb3, 0, none⟩ = some (.int .i64 ((rd_T91 l0_1 x8_1).f0)) ∧ w'.cell? ⟨gb3, 1, none⟩ = some (.string ((rd_T91 l0_1 x8_1).f1)) ∧ w'.cell? ⟨gb15, 0, none⟩ = some (.string a0_0) ∧ w'.cell? ⟨gb15, 1, none⟩ = some (.slice (some ad16) l0_1.length c0_1) ∧ w'.cell? (ad16.add (((ji10)).toNat * 2)) = some (.int .i64 ((rd_T91 l0_1 (ji10)).f0)) ∧ w'.cell? ⟨(ad16.add (((ji10)).toNat * 2)).block, (ad16.add (((ji10)).toNat * 2)).off + 1, none⟩ = some (.string ((rd_T91 l0_1 (ji10)).f1))) (ds := []) tb22_0 (by kernel_rfl) rfl rfl ⟨cy_ BK3 0, cy_ BK3 1, cy_ BK15 0, cy_ BK15 1, (kc_ HB hw429_0), (kc_ HB hw429_1)⟩ (fun hHeld => ?_); refine with_tabW impl_MsgOk.tab4 impl_MsgOk.bits4 (fun HT_ HW_ => ?_)
    generalize w17.drew = w18 at BK15 BK3 HB hx21_0 hx21_1 hHeld ⊢
    refine pl_ HT_ 0 13 tb22_1 ?_
    refine pl_ HT_ 2 15 tb22_5 ?_
    refine take_ (i := 1) (N := some 14) (v := ?_) (a' := ?_) tb22_7 rfl rfl (take_ofW HT_.out HW_.out (by kernel_rfl)) (fun _ _ _ h => h) (Or.inl ⟨by rfl, ?_⟩) hHeld ?_ ?_
    rotate_left
    ·rintro w' ⟨s0, s1, s2, s3, s4, s5⟩
     go_simp
     with_reducible rfl
    rotate_left
    ·simp only [Act.put, q_]
     rfl
    refine take_ (i := 3) (N := some 16) (v := ?_) (a' := ?_) tb22_f rfl rfl (take_ofW HT_.out HW_.out (by kernel_rfl)) (fun _ _ _ h => h) (Or.inl ⟨by rfl, ?_⟩) hHeld ?_ ?_
    rotate_left
    ·rintro w' ⟨s0, s1, s2, s3, s4, s5⟩
     go_simp
     with_reducible rfl
    rotate_left
    ·simp only [Act.put, q_]
     rfl
    refine one_ (i := 4) (N := some 17) tb22_1f rfl rfl (one_of HT_.out (by kernel_rfl)) (by decide) (fun K hK => ?_)
    refine goes_ func84 (by kernel_rfl) rfl #[.int .i64 ((rd_T91 l0_1 x8_1).f0), .string ((rd_T91 l0_1 x8_1).f1)] (by rfl) rfl rfl gl_ ?_
    with_reducible refine (impl_FieldOk.calls k1 ((rd_T91 l0_1 x8_1).f0) ((rd_T91 l0_1 x8_1).f1) true _ A7.out).mono ?_
    rintro e w19 ⟨rfl, hb⟩
    refine ⟨_, rfl, ?_⟩
    have n0_ := Aside0.mk (blk_below (bk_ BK15) hb)
    have n1_ := Aside0.mk (blk_below (bk_ BK3) hb)
    have n2_ := Aside0.mk (below_step bl_ hb)
    clear BK15
    clear BK3
    clear HB
    have BK15 := n0_
    have BK3 := n1_
    have HB := n2_
    clear n0_ n1_ n2_
    (try clear hb)
    (try clear hb2)
    (try clear hk)
    (try clear hi)
    refine hK.out _ _ ⟨cy_ BK3 0, cy_ BK3 1, cy_ BK15 0, cy_ BK15 1, (kc_ HB hw429_0), (kc_ HB hw429_1)⟩ (fun hHeld => ?_)
    clear hK K
    refine norm_ (a' := ?_) ?_ ?_
    rotate_left
    ·show Act.put _ (some 17) _ = _
     simp only [Act.put, q_]
     rfl
    refine pl_ HT_ 5 18 tb22_3f ?_
    refine pl_ HT_ 6 19 tb22_7f ?_
    refine pl_ HT_ 7 20 tb22_ff ?_
    refine pl_ HT_ 8 21 tb22_1ff ?_
    refine pl_ HT_ 9 22 tb22_3ff ?_
    refine pl_ HT_ 10 23 tb22_7ff ?_
    refine pl_ HT_ 12 25 tb22_17ff ?_
    refine pl_ HT_ 14 27 tb22_57ff ?_
    refine pl_ HT_ 15 28 tb22_d7ff ?_
    refine take_ (i := 11) (N := some 24) (v := ?_) (a' := ?_) tb22_dfff rfl rfl (take_ofW HT_.out HW_.out (by kernel_rfl)) (fun _ _ _ h => h) (Or.inl ⟨by rfl, ?_⟩) hHeld ?_ ?_
    rotate_left
    ·rintro w' ⟨s0, s1, s2, s3, s4, s5⟩
     go_simp
     with_reducible rfl
    rotate_left
    ·simp only [Act.put, q_]
     rfl
    refine take_ (i := 13) (N := some 26) (v := ?_) (a' := ?_) tb22_ffff rfl rfl (take_ofW HT_.out HW_.out (by kernel_rfl)) (fun _ _ _ h => h) (Or.inl ⟨by rfl, ?_⟩) hHeld ?_ ?_
    rotate_left
    ·rintro w' ⟨s0, s1, s2, s3, s4, s5⟩
     go_simp
     with_reducible rfl
    rotate_left
    ·simp only [Act.put, q_]
     rfl
    refine pl_ HT_ 16 29 tb22_1ffff ?_
    refine pl_ HT_ 17 30 tb22_3ffff ?_
    refine take_ (i := 18) (N := some 31) (v := ?_) (a' := ?_) tb22_7ffff rfl rfl (take_ofW HT_.out HW_.out (by kernel_rfl)) (fun _ _ _ h => h) (Or.inl ⟨by rfl, ?_⟩) hHeld ?_ ?_
    rotate_left
    ·rintro w' ⟨s0, s1, s2, s3, s4, s5⟩
     go_simp
     with_reducible rfl
    rotate_left
    ·simp only [Act.put, q_]
     rfl
    refine pl_ HT_ 19 32 tb22_fffff ?_
    refine pl_ HT_ 20 33 tb22_1fffff ?_
    refine pl_ HT_ 21 34 tb22_3fffff ?_
    refine done_ (done_of HT_.out (by kernel_rfl)) ?_
    try go_wp2
    go_ret
    exact ⟨by first | rfl | (simp [errW_none, errW_some] <;> rfl) | (simp only [← hji10]; first | rfl | (simp [errW_none, errW_some] <;> rfl)) | (simp [*, errW_none, errW_some] <;> rfl), bl_⟩
   rw [if_neg c13] at H
   replace c13 := df_ c13
   have H' := Aside0.mk H
   clear H
   have p16 : 0 ≤ (x8_1 : Int) := od_
   have q16 : x8_1 < (l0_1.length : Int) := od_
   obtain ⟨ad16, e16, hx16_0, hx16_1⟩ := at_T91 HR0_1.out x8_1 p16 q16
   cases e16
   replace hx16_0 := kc_ HB hx16_0
   replace hx16_1 := kc_ HB hx16_1
   replace p16 := eq_true p16
   replace q16 := eq_true q16
   try go_wp2_with (first | ((with_reducible refine gt_ 4 ?_); refine bo_ 4 #[.int .i64 0, .string ⟨#[]⟩] 91 ?_; intro gb3 hg w20 BK3 hb; have GW3 := gw_ (w := w) hg; replace HB := hs_ hb; have ⟨NB15_3, NB3_15⟩ := nb_ hg BK15; replace BK15 := kb_ BK15 hb; clear hb hg; have := NB3_15.out; have := NB15_3.out; refine by2_ BK3 ?_; intros))
   have n0_ : Aside0 (((w20.setCell ⟨gb3, 0, none⟩ (.int .i64 ((rd_T91 l0_1 x8_1).f0))).setCell ⟨gb3, 1, none⟩ (.string ((rd_T91 l0_1 x8_1).f1))).heap[gb15]? = some (.cells #[.string a0_0, .slice (some ad16) l0_1.length c0_1] 32 (0, 0))) := ⟨by refine ch_ ?_; refine bf_ NB15_3 ?_; exact bf_ NB15_3 BK15.out⟩
   have n1_ : Aside0 (((w20.setCell ⟨gb3, 0, none⟩ (.int .i64 ((rd_T91 l0_1 x8_1).f0))).setCell ⟨gb3, 1, none⟩ (.string ((rd_T91 l0_1 x8_1).f1))).heap[gb3]? = some (.cells #[.int .i64 ((rd_T91 l0_1 x8_1).f0), .string ((rd_T91 l0_1 x8_1).f1)] 91 (0, 0))) := ⟨by refine ch_ ?_; apply bq2_1_0_; exact ch_ BK3.out⟩
   have n2_ : Aside0 (Below w.heap.size w ((w20.setCell ⟨gb3, 0, none⟩ (.int .i64 ((rd_T91 l0_1 x8_1).f0))).setCell ⟨gb3, 1, none⟩ (.string ((rd_T91 l0_1 x8_1).f1)))) := ⟨bl_⟩
   (try clear BK15)
   (try clear BK3)
   (try clear HB)
   generalize ((w20.setCell ⟨gb3, 0, none⟩ (.int .i64 ((rd_T91 l0_1 x8_1).f0))).setCell ⟨gb3, 1, none⟩ (.string ((rd_T91 l0_1 x8_1).f1))) = w23 at n0_ n1_ n2_ ⊢
   have BK15 := n0_
   have BK3 := n1_
   have HB := n2_
   clear n0_ n1_ n2_
   have n0_ := Aside0.mk (blk_drew BK15.out)
   have n1_ := Aside0.mk (blk_drew BK3.out)
   have n2_ := Aside0.mk (below_drew1 HB.out)
   clear BK15
   clear BK3
   clear HB
   have BK15 := n0_
   have BK3 := n1_
   have HB := n2_
   clear n0_ n1_ n2_
   have p21 : 0 ≤ ((ji10) : Int) := od_
   have q21 : (ji10) < (l0_1.length : Int) := od_
   obtain ⟨ad21, e21, hx21_0, hx21_1⟩ := at_T91 HR0_1.out (ji10) p21 q21
   have hw429_1 := hx21_1
   have hw429_0 := hx21_0
   obtain rfl : ad16 = ad21 := (by injection e21)
   replace hx21_0 := kc_ HB hx21_0
   replace hx21_1 := kc_ HB hx21_1
   replace p21 := eq_true p21
   replace q21 := eq_true q21
   refine start_ (n := 22) (S := fun w' => w'.cell? ⟨gb3, 0, none⟩ = some (.int .i64 ((rd_T91 l0_1 x8_1).f0)) ∧ w'.cell? ⟨gb3, 1, none⟩ = some (.string ((rd_T91 l0_1 x8_1).f1)) ∧ w'.cell? ⟨gb15, 0, none⟩ = some (.string a0_0) ∧ w'.cell? ⟨gb15, 1, none⟩ = some (.slice (some ad16) l0_1.length c0_1) ∧ w'.cell? (ad16.add (((ji10)).toNat * 2)) = some (.int .i64 ((rd_T91 l0_1 (ji10)).f0)) ∧ w'.cell? ⟨(ad16.add (((ji10)).toNat * 2)).block, (ad16.add (((ji10)).toNat * 2)).off + 1, none⟩ = some (.string ((rd_T91 l0_1 (ji10)).f1))) (ds := []) tb22_0 (by kernel_rfl) rfl rfl ⟨cy_ BK3 0, cy_ BK3 1, cy_ BK15 0, cy_ BK15 1, (kc_ HB hw429_0), (kc_ HB hw429_1)⟩ (fun hHeld => ?_); refine with_tabW impl_MsgOk.tab4 impl_MsgOk.bits4 (fun HT_ HW_ => ?_)
   generalize w23.drew = w24 at BK15 BK3 HB hx21_0 hx21_1 hHeld ⊢
   refine pl_ HT_ 0 13 tb22_1 ?_
   refine pl_ HT_ 2 15 tb22_5 ?_
   refine take_ (i := 1) (N := some 14) (v := ?_) (a' := ?_) tb22_7 rfl rfl (take_ofW HT_.out HW_.out (by kernel_rfl)) (fun _ _ _ h => h) (Or.inl ⟨by rfl, ?_⟩) hHeld ?_ ?_
   rotate_left
   ·rintro w' ⟨s0, s1, s2, s3, s4, s5⟩
    go_simp
    with_reducible rfl
   rotate_left
   ·simp only [Act.put, q_]
    rfl
   refine take_ (i := 3) (N := some 16) (v := ?_) (a' := ?_) tb22_f rfl rfl (take_ofW HT_.out HW_.out (by kernel_rfl)) (fun _ _ _ h => h) (Or.inl ⟨by rfl, ?_⟩) hHeld ?_ ?_
   rotate_left
   ·rintro w' ⟨s0, s1, s2, s3, s4, s5⟩
    go_simp
    with_reducible rfl
   rotate_left
   ·simp only [Act.put, q_]
    rfl
   refine one_ (i := 4) (N := some 17) tb22_1f rfl rfl (one_of HT_.out (by kernel_rfl)) (by decide) (fun K hK => ?_)
   refine goes_ func84 (by kernel_rfl) rfl #[.int .i64 ((rd_T91 l0_1 x8_1).f0), .string ((rd_T91 l0_1 x8_1).f1)] (by rfl) rfl rfl gl_ ?_
   with_reducible refine (impl_FieldOk.calls k1 ((rd_T91 l0_1 x8_1).f0) ((rd_T91 l0_1 x8_1).f1) true _ A7.out).mono ?_
   rintro e w25 ⟨rfl, hb⟩
   refine ⟨_, rfl, ?_⟩
   have n0_ := Aside0.mk (blk_below (bk_ BK15) hb)
   have n1_ := Aside0.mk (blk_below (bk_ BK3) hb)
   have n2_ := Aside0.mk (below_step bl_ hb)
   clear BK15
   clear BK3
   clear HB
   have BK15 := n0_
   have BK3 := n1_
   have HB := n2_
   clear n0_ n1_ n2_
   (try clear hb)
   (try clear hb2)
   (try clear hk)
   (try clear hi)
   refine hK.out _ _ ⟨cy_ BK3 0, cy_ BK3 1, cy_ BK15 0, cy_ BK15 1, (kc_ HB hw429_0), (kc_ HB hw429_1)⟩ (fun hHeld => ?_)
   clear hK K
   refine norm_ (a' := ?_) ?_ ?_
   rotate_left
   ·show Act.put _ (some 17) _ = _
    simp only [Act.put, q_]
    rfl
   refine pl_ HT_ 5 18 tb22_3f ?_
   refine pl_ HT_ 6 19 tb22_7f ?_
   refine pl_ HT_ 7 20 tb22_ff ?_
   refine pl_ HT_ 8 21 tb22_1ff ?_
   refine pl_ HT_ 9 22 tb22_3ff ?_
   refine pl_ HT_ 10 23 tb22_7ff ?_
   refine pl_ HT_ 12 25 tb22_17ff ?_
   refine pl_ HT_ 14 27 tb22_57ff ?_
   refine pl_ HT_ 15 28 tb22_d7ff ?_
   refine take_ (i := 11) (N := some 24) (v := ?_) (a' := ?_) tb22_dfff rfl rfl (take_ofW HT_.out HW_.out (by kernel_rfl)) (fun _ _ _ h => h) (Or.inl ⟨by rfl, ?_⟩) hHeld ?_ ?_
   rotate_left
   ·rintro w' ⟨s0, s1, s2, s3, s4, s5⟩
    go_simp
    with_reducible rfl
   rotate_left
   ·simp only [Act.put, q_]
    rfl
   refine take_ (i := 13) (N := some 26) (v := ?_) (a' := ?_) tb22_ffff rfl rfl (take_ofW HT_.out HW_.out (by kernel_rfl)) (fun _ _ _ h => h) (Or.inl ⟨by rfl, ?_⟩) hHeld ?_ ?_
   rotate_left
   ·rintro w' ⟨s0, s1, s2, s3, s4, s5⟩
    go_simp
    with_reducible rfl
   rotate_left
   ·simp only [Act.put, q_]
    rfl
   refine pl_ HT_ 16 29 tb22_1ffff ?_
   refine pl_ HT_ 17 30 tb22_3ffff ?_
   refine take_ (i := 18) (N := some 31) (v := ?_) (a' := ?_) tb22_7ffff rfl rfl (take_ofW HT_.out HW_.out (by kernel_rfl)) (fun _ _ _ h => h) (Or.inl ⟨by rfl, ?_⟩) hHeld ?_ ?_
   rotate_left
   ·rintro w' ⟨s0, s1, s2, s3, s4, s5⟩
    go_simp
    with_reducible rfl
   rotate_left
   ·simp only [Act.put, q_]
    rfl
   refine pl_ HT_ 19 32 tb22_fffff ?_
   refine pl_ HT_ 20 33 tb22_1fffff ?_
   refine pl_ HT_ 21 34 tb22_3fffff ?_
   refine done_ (done_of HT_.out (by kernel_rfl)) ?_
   try go_wp2
   go_roundg k1
   case measure => have := HK1.out; omega
   case rel => exact ⟨(wrap64 (x8_1 + 1)), sp_, H', ⟨by have := HK1.out; omega⟩, ⟨ch_ BK15.out⟩, ⟨bl_⟩⟩
/-! ### impl_MtiKnown: function 47 -/
def impl_MtiKnown.f (a0 : ByteArray) : Option (Bool) := if a0.toList = ([48, 49, 48, 48] : List UInt8) then (some true) else (if a0.toList = ([48, 50, 48, 48] : List UInt8) then (some true) else (some (a0.toList == ([48, 50, 50, 48] : List UInt8))))
theorem impl_MtiKnown.calls (a0 : ByteArray) (r : Bool) (w : World) (h : impl_MtiKnown.f a0 = some r) :
  Calls Tryz.prog 47 #[.string a0] w fun e w' => e = .returned (.bool r) ∧ Drawn0 w w' := by
 have H := h
 unfold impl_MtiKnown.f at H
 clear h
 by_cases c2 : a0.toList = ([48, 49, 48, 48] : List UInt8)
 ·rw [if_pos c2] at H
  have := et_ c2
  replace c2 := nf_ c2
  obtain rfl := si_ H
  go_enter func47, ntmps47
  go_wp2
  go_ret
  exact ⟨sp_, dr_⟩
 rw [if_neg c2] at H
 have c2b0 := ef_ c2
 have c2b1 := nt_ c2
 by_cases c3 : a0.toList = ([48, 50, 48, 48] : List UInt8)
 ·rw [if_pos c3] at H
  have := et_ c3
  replace c3 := nf_ c3
  obtain rfl := si_ H
  go_enter func47, ntmps47
  go_wp2
  go_ret
  exact ⟨sp_, dr_⟩
 rw [if_neg c3] at H
 have c3b0 := ef_ c3
 have c3b1 := nt_ c3
 obtain rfl := si_ H
 go_enter func47, ntmps47
 go_wp2
 go_ret
 exact ⟨sp_, dr_⟩
/-! ### impl_FieldOf: function 48 -/
def impl_FieldOf.l0 : Nat → Int → List (S91) → Int → Int → Option (ByteArray × Bool)
 | 0, _, _, _, _ => none
 | k + 1, x1, x9, x10, x11 => if x11 < x10 then (if 0 ≤ x11 then (if x11 < (x9.length : Int) then (if ((rd_T91 x9 x11).f0) = x1 then (some ((rd_T91 x9 x11).f1, true)) else (impl_FieldOf.l0 k x1 x9 x10 (wrap64 (x11 + 1)))) else (none)) else (none)) else (some ((⟨#[]⟩ : ByteArray), false))
def impl_FieldOf.f (k : Nat) (a0_0 : ByteArray) (l0_1 : List (S91)) (a1 : Int) : Option (ByteArray × Bool) := impl_FieldOf.l0 k a1 l0_1 (l0_1.length : Int) 0
theorem impl_FieldOf.calls (k : Nat) (a0_0 : ByteArray) (A0_1 : Option Addr) (c0_1 : Nat) (l0_1 : List (S91)) (a1 : Int) (r1 : ByteArray) (r2 : Bool) (w : World) (hr0_1 : Kd.C k91 w A0_1 l0_1.length l0_1) (hc0_1 : l0_1.length ≤ c0_1) (h : impl_FieldOf.f k a0_0 l0_1 a1 = some (r1, r2)) :
  Calls Tryz.prog 48 #[.agg #[.string a0_0, .slice A0_1 l0_1.length c0_1], .int .i64 a1] w fun e w' => e = .returned (.tuple #[.string r1, .bool r2]) ∧ Below w.heap.size w w' := by
 have hu32 := underlying32
 have hu91 := underlying91
 have HR0_1 := Aside0.mk hr0_1
 have HC0_1 := Aside0.mk hc0_1
 clear hr0_1 hc0_1
 have HB := Aside0.mk (Below.refl w.heap.size w)
 have H := h
 unfold impl_FieldOf.f at H
 clear h
 have H' := Aside0.mk H
 clear H
 go_enter func48, ntmps48
 go_wp2_with (first | ((with_reducible refine gt_ 2 ?_); refine bo_ 2 #[.string a0_0, .slice A0_1 l0_1.length c0_1] 32 ?_; intro gb4 hg w3 BK4 hb; have GW4 := gw_ (w := w) hg; replace HB := hs_ hb; clear hb hg; refine by2_ BK4 ?_; intros))
 go_loopg [11] k (fun kq v11 w' => ∃ (x11_1 : Int), v11 = .int .i64 x11_1 ∧ Aside0 (impl_FieldOf.l0 kq a1 l0_1 (l0_1.length : Int) x11_1 = some (r1, r2)) ∧ Aside0 (kq ≤ k) ∧ Aside0 (w'.heap[gb4]? = some (.cells #[.string a0_0, (.slice A0_1 l0_1.length c0_1)] 32 (0, 0))) ∧ Aside0 (Below w.heap.size w w'))
 case atStart => exact ⟨(0), sp_, H', ⟨Nat.le_refl _⟩, ⟨ch_ BK4.out⟩, ⟨bl_⟩⟩
 case round =>
  clear H'
  obtain ⟨x11_1, rfl, HA, HK1, BK4, HB⟩ := hrel
  cases gk with
  | zero => exact absurd HA.out (by simp [impl_FieldOf.l0])
  | succ k1 =>
   have H := HA.out
   clear HA
   simp only [impl_FieldOf.l0] at H
   by_cases c5 : x11_1 < (l0_1.length : Int)
   rotate_left
   ·rw [if_neg c5] at H
    replace c5 := df_ c5
    simp only [Option.some.injEq, Prod.mk.injEq] at H
    obtain ⟨rfl, rfl⟩ := H
    go_wp2
    go_ret2
    exact ⟨sq_, bl_⟩
   rw [if_pos c5] at H
   replace c5 := dt_ c5
   obtain ⟨c6, H⟩ := og_ H
   replace c6 := dt_ c6
   obtain ⟨c7, H⟩ := og_ H
   replace c7 := dt_ c7
   by_cases c8 : ((rd_T91 l0_1 x11_1).f0) = a1
   ·rw [if_pos c8] at H
    have := et_ c8
    replace c8 := nf_ c8
    simp only [Option.some.injEq, Prod.mk.injEq] at H
    obtain ⟨rfl, rfl⟩ := H
    have p2 : 0 ≤ (x11_1 : Int) := od_
    have q2 : x11_1 < (l0_1.length : Int) := od_
    obtain ⟨ad2, e2, hx2_0, hx2_1⟩ := at_T91 HR0_1.out x11_1 p2 q2
    cases e2
    replace hx2_0 := kc_ HB hx2_0
    replace hx2_1 := kc_ HB hx2_1
    replace p2 := eq_true p2
    replace q2 := eq_true q2
    go_wp2_with (first | ((with_reducible refine gt_ 7 ?_); refine bo_ 7 #[.int .i64 0, .string ⟨#[]⟩] 91 ?_; intro gb13 hg w9 BK13 hb; have GW13 := gw_ (w := w) hg; replace HB := hs_ hb; have ⟨NB4_13, NB13_4⟩ := nb_ hg BK4; replace BK4 := kb_ BK4 hb; clear hb hg; have := NB13_4.out; have := NB4_13.out; refine by2_ BK13 ?_; intros))
    go_ret2
    exact ⟨sq_, bl_⟩
   rw [if_neg c8] at H
   have c8b0 := ef_ c8
   have c8b1 := nt_ c8
   have H' := Aside0.mk H
   clear H
   have p2 : 0 ≤ (x11_1 : Int) := od_
   have q2 : x11_1 < (l0_1.length : Int) := od_
   obtain ⟨ad2, e2, hx2_0, hx2_1⟩ := at_T91 HR0_1.out x11_1 p2 q2
   cases e2
   replace hx2_0 := kc_ HB hx2_0
   replace hx2_1 := kc_ HB hx2_1
   replace p2 := eq_true p2
   replace q2 := eq_true q2
   go_wp2_with (first | ((with_reducible refine gt_ 7 ?_); refine bo_ 7 #[.int .i64 0, .string ⟨#[]⟩] 91 ?_; intro gb13 hg w12 BK13 hb; have GW13 := gw_ (w := w) hg; replace HB := hs_ hb; have ⟨NB4_13, NB13_4⟩ := nb_ hg BK4; replace BK4 := kb_ BK4 hb; clear hb hg; have := NB13_4.out; have := NB4_13.out; refine by2_ BK13 ?_; intros))
   go_roundg k1
   case measure => have := HK1.out; omega
   case rel => exact ⟨(wrap64 (x11_1 + 1)), sp_, H', ⟨by have := HK1.out; omega⟩, ⟨by refine ch_ ?_; refine bf_ NB4_13 ?_; exact bf_ NB4_13 BK4.out⟩, ⟨bl_⟩⟩
/-! ### impl_opRows: function 50 -/
def impl_opRows.f  : Option ((List (S74))) := some (([(⟨(⟨#[48, 49, 48, 48]⟩ : ByteArray), (⟨#[48, 48]⟩ : ByteArray), (⟨#[97, 117, 116, 104]⟩ : ByteArray), (([4, 14, 38] : List Int))⟩ : S74), (⟨(⟨#[48, 49, 48, 48]⟩ : ByteArray), (⟨#[48, 50]⟩ : ByteArray), (⟨#[109, 111, 114, 101]⟩ : ByteArray), (([4, 38] : List Int))⟩ : S74), (⟨(⟨#[48, 50, 50, 48]⟩ : ByteArray), (⟨#[48, 49]⟩ : ByteArray), (⟨#[112, 97, 114, 116]⟩ : ByteArray), (([4, 38] : List Int))⟩ : S74), (⟨(⟨#[48, 50, 50, 48]⟩ : ByteArray), (⟨#[48, 48]⟩ : ByteArray), (⟨#[102, 105, 110, 97, 108]⟩ : ByteArray), (([4, 38] : List Int))⟩ : S74), (⟨(⟨#[48, 50, 50, 48]⟩ : ByteArray), (⟨#[50, 48]⟩ : ByteArray), (⟨#[102, 114, 101, 101]⟩ : ByteArray), (([38] : List Int))⟩ : S74), (⟨(⟨#[48, 50, 48, 48]⟩ : ByteArray), (⟨#[52, 48]⟩ : ByteArray), (⟨#[109, 111, 118, 101]⟩ : ByteArray), (([38, 103] : List Int))⟩ : S74), (⟨(⟨#[48, 49, 48, 48]⟩ : ByteArray), (⟨#[51, 49]⟩ : ByteArray), (⟨#[97, 115, 107]⟩ : ByteArray), ([] : List Int)⟩ : S74), (⟨(⟨#[48, 50, 48, 48]⟩ : ByteArray), (⟨#[57, 48]⟩ : ByteArray), (⟨#[115, 119, 101, 101, 112]⟩ : ByteArray), ([] : List Int)⟩ : S74)] : List (S74)))
theorem impl_opRows.calls  (r : List (S74)) (w : World) (h : impl_opRows.f  = some r) :
  Calls Tryz.prog 50 #[] w fun e w' => ∃ v0_ : Value, e = .returned (v0_) ∧ Kd.N k74 74 w' w.heap.size (fun k_ => (w.heap.size ≤ k_)) v0_ r ∧ Below w.heap.size w w' := by
 have hu74 := underlying74
 have HB := Aside0.mk (Below.refl w.heap.size w)
 have H := h
 unfold impl_opRows.f at H
 clear h
 obtain ⟨y21, hy21⟩ : ∃ y_ : List Int, y_ = (([4, 14, 38] : List Int)) := ⟨_, rfl⟩
 replace H : (some (([(⟨(⟨#[48, 49, 48, 48]⟩ : ByteArray), (⟨#[48, 48]⟩ : ByteArray), (⟨#[97, 117, 116, 104]⟩ : ByteArray), y21⟩ : S74), (⟨(⟨#[48, 49, 48, 48]⟩ : ByteArray), (⟨#[48, 50]⟩ : ByteArray), (⟨#[109, 111, 114, 101]⟩ : ByteArray), (([4, 38] : List Int))⟩ : S74), (⟨(⟨#[48, 50, 50, 48]⟩ : ByteArray), (⟨#[48, 49]⟩ : ByteArray), (⟨#[112, 97, 114, 116]⟩ : ByteArray), (([4, 38] : List Int))⟩ : S74), (⟨(⟨#[48, 50, 50, 48]⟩ : ByteArray), (⟨#[48, 48]⟩ : ByteArray), (⟨#[102, 105, 110, 97, 108]⟩ : ByteArray), (([4, 38] : List Int))⟩ : S74), (⟨(⟨#[48, 50, 50, 48]⟩ : ByteArray), (⟨#[50, 48]⟩ : ByteArray), (⟨#[102, 114, 101, 101]⟩ : ByteArray), (([38] : List Int))⟩ : S74), (⟨(⟨#[48, 50, 48, 48]⟩ : ByteArray), (⟨#[52, 48]⟩ : ByteArray), (⟨#[109, 111, 118, 101]⟩ : ByteArray), (([38, 103] : List Int))⟩ : S74), (⟨(⟨#[48, 49, 48, 48]⟩ : ByteArray), (⟨#[51, 49]⟩ : ByteArray), (⟨#[97, 115, 107]⟩ : ByteArray), ([] : List Int)⟩ : S74), (⟨(⟨#[48, 50, 48, 48]⟩ : ByteArray), (⟨#[57, 48]⟩ : ByteArray), (⟨#[115, 119, 101, 101, 112]⟩ : ByteArray), ([] : List Int)⟩ : S74)] : List (S74)))) = some r := hh_ hy21 H
 have Ny21 := Aside0.mk hy21
 clear hy21
 obtain ⟨y23, hy23⟩ : ∃ y_ : List Int, y_ = (([4, 38] : List Int)) := ⟨_, rfl⟩
 replace H : (some (([(⟨(⟨#[48, 49, 48, 48]⟩ : ByteArray), (⟨#[48, 48]⟩ : ByteArray), (⟨#[97, 117, 116, 104]⟩ : ByteArray), y21⟩ : S74), (⟨(⟨#[48, 49, 48, 48]⟩ : ByteArray), (⟨#[48, 50]⟩ : ByteArray), (⟨#[109, 111, 114, 101]⟩ : ByteArray), y23⟩ : S74), (⟨(⟨#[48, 50, 50, 48]⟩ : ByteArray), (⟨#[48, 49]⟩ : ByteArray), (⟨#[112, 97, 114, 116]⟩ : ByteArray), (([4, 38] : List Int))⟩ : S74), (⟨(⟨#[48, 50, 50, 48]⟩ : ByteArray), (⟨#[48, 48]⟩ : ByteArray), (⟨#[102, 105, 110, 97, 108]⟩ : ByteArray), (([4, 38] : List Int))⟩ : S74), (⟨(⟨#[48, 50, 50, 48]⟩ : ByteArray), (⟨#[50, 48]⟩ : ByteArray), (⟨#[102, 114, 101, 101]⟩ : ByteArray), (([38] : List Int))⟩ : S74), (⟨(⟨#[48, 50, 48, 48]⟩ : ByteArray), (⟨#[52, 48]⟩ : ByteArray), (⟨#[109, 111, 118, 101]⟩ : ByteArray), (([38, 103] : List Int))⟩ : S74), (⟨(⟨#[48, 49, 48, 48]⟩ : ByteArray), (⟨#[51, 49]⟩ : ByteArray), (⟨#[97, 115, 107]⟩ : ByteArray), ([] : List Int)⟩ : S74), (⟨(⟨#[48, 50, 48, 48]⟩ : ByteArray), (⟨#[57, 48]⟩ : ByteArray), (⟨#[115, 119, 101, 101, 112]⟩ : ByteArray), ([] : List Int)⟩ : S74)] : List (S74)))) = some r := hh_ hy23 H
 have Ny23 := Aside0.mk hy23
 clear hy23
 obtain ⟨y24, hy24⟩ : ∃ y_ : List Int, y_ = (([4, 38] : List Int)) := ⟨_, rfl⟩
 replace H : (some (([(⟨(⟨#[48, 49, 48, 48]⟩ : ByteArray), (⟨#[48, 48]⟩ : ByteArray), (⟨#[97, 117, 116, 104]⟩ : ByteArray), y21⟩ : S74), (⟨(⟨#[48, 49, 48, 48]⟩ : ByteArray), (⟨#[48, 50]⟩ : ByteArray), (⟨#[109, 111, 114, 101]⟩ : ByteArray), y23⟩ : S74), (⟨(⟨#[48, 50, 50, 48]⟩ : ByteArray), (⟨#[48, 49]⟩ : ByteArray), (⟨#[112, 97, 114, 116]⟩ : ByteArray), y24⟩ : S74), (⟨(⟨#[48, 50, 50, 48]⟩ : ByteArray), (⟨#[48, 48]⟩ : ByteArray), (⟨#[102, 105, 110, 97, 108]⟩ : ByteArray), (([4, 38] : List Int))⟩ : S74), (⟨(⟨#[48, 50, 50, 48]⟩ : ByteArray), (⟨#[50, 48]⟩ : ByteArray), (⟨#[102, 114, 101, 101]⟩ : ByteArray), (([38] : List Int))⟩ : S74), (⟨(⟨#[48, 50, 48, 48]⟩ : ByteArray), (⟨#[52, 48]⟩ : ByteArray), (⟨#[109, 111, 118, 101]⟩ : ByteArray), (([38, 103] : List Int))⟩ : S74), (⟨(⟨#[48, 49, 48, 48]⟩ : ByteArray), (⟨#[51, 49]⟩ : ByteArray), (⟨#[97, 115, 107]⟩ : ByteArray), ([] : List Int)⟩ : S74), (⟨(⟨#[48, 50, 48, 48]⟩ : ByteArray), (⟨#[57, 48]⟩ : ByteArray), (⟨#[115, 119, 101, 101, 112]⟩ : ByteArray), ([] : List Int)⟩ : S74)] : List (S74)))) = some r := hh_ hy24 H
 have Ny24 := Aside0.mk hy24
 clear hy24
 obtain ⟨y25, hy25⟩ : ∃ y_ : List Int, y_ = (([4, 38] : List Int)) := ⟨_, rfl⟩
 replace H : (some (([(⟨(⟨#[48, 49, 48, 48]⟩ : ByteArray), (⟨#[48, 48]⟩ : ByteArray), (⟨#[97, 117, 116, 104]⟩ : ByteArray), y21⟩ : S74), (⟨(⟨#[48, 49, 48, 48]⟩ : ByteArray), (⟨#[48, 50]⟩ : ByteArray), (⟨#[109, 111, 114, 101]⟩ : ByteArray), y23⟩ : S74), (⟨(⟨#[48, 50, 50, 48]⟩ : ByteArray), (⟨#[48, 49]⟩ : ByteArray), (⟨#[112, 97, 114, 116]⟩ : ByteArray), y24⟩ : S74), (⟨(⟨#[48, 50, 50, 48]⟩ : ByteArray), (⟨#[48, 48]⟩ : ByteArray), (⟨#[102, 105, 110, 97, 108]⟩ : ByteArray), y25⟩ : S74), (⟨(⟨#[48, 50, 50, 48]⟩ : ByteArray), (⟨#[50, 48]⟩ : ByteArray), (⟨#[102, 114, 101, 101]⟩ : ByteArray), (([38] : List Int))⟩ : S74), (⟨(⟨#[48, 50, 48, 48]⟩ : ByteArray), (⟨#[52, 48]⟩ : ByteArray), (⟨#[109, 111, 118, 101]⟩ : ByteArray), (([38, 103] : List Int))⟩ : S74), (⟨(⟨#[48, 49, 48, 48]⟩ : ByteArray), (⟨#[51, 49]⟩ : ByteArray), (⟨#[97, 115, 107]⟩ : ByteArray), ([] : List Int)⟩ : S74), (⟨(⟨#[48, 50, 48, 48]⟩ : ByteArray), (⟨#[57, 48]⟩ : ByteArray), (⟨#[115, 119, 101, 101, 112]⟩ : ByteArray), ([] : List Int)⟩ : S74)] : List (S74)))) = some r := hh_ hy25 H
 have Ny25 := Aside0.mk hy25
 clear hy25
 obtain ⟨y27, hy27⟩ : ∃ y_ : List Int, y_ = (([38] : List Int)) := ⟨_, rfl⟩
 replace H : (some (([(⟨(⟨#[48, 49, 48, 48]⟩ : ByteArray), (⟨#[48, 48]⟩ : ByteArray), (⟨#[97, 117, 116, 104]⟩ : ByteArray), y21⟩ : S74), (⟨(⟨#[48, 49, 48, 48]⟩ : ByteArray), (⟨#[48, 50]⟩ : ByteArray), (⟨#[109, 111, 114, 101]⟩ : ByteArray), y23⟩ : S74), (⟨(⟨#[48, 50, 50, 48]⟩ : ByteArray), (⟨#[48, 49]⟩ : ByteArray), (⟨#[112, 97, 114, 116]⟩ : ByteArray), y24⟩ : S74), (⟨(⟨#[48, 50, 50, 48]⟩ : ByteArray), (⟨#[48, 48]⟩ : ByteArray), (⟨#[102, 105, 110, 97, 108]⟩ : ByteArray), y25⟩ : S74), (⟨(⟨#[48, 50, 50, 48]⟩ : ByteArray), (⟨#[50, 48]⟩ : ByteArray), (⟨#[102, 114, 101, 101]⟩ : ByteArray), y27⟩ : S74), (⟨(⟨#[48, 50, 48, 48]⟩ : ByteArray), (⟨#[52, 48]⟩ : ByteArray), (⟨#[109, 111, 118, 101]⟩ : ByteArray), (([38, 103] : List Int))⟩ : S74), (⟨(⟨#[48, 49, 48, 48]⟩ : ByteArray), (⟨#[51, 49]⟩ : ByteArray), (⟨#[97, 115, 107]⟩ : ByteArray), ([] : List Int)⟩ : S74), (⟨(⟨#[48, 50, 48, 48]⟩ : ByteArray), (⟨#[57, 48]⟩ : ByteArray), (⟨#[115, 119, 101, 101, 112]⟩ : ByteArray), ([] : List Int)⟩ : S74)] : List (S74)))) = some r := hh_ hy27 H
 have Ny27 := Aside0.mk hy27
 clear hy27
 obtain ⟨y28, hy28⟩ : ∃ y_ : List Int, y_ = (([38, 103] : List Int)) := ⟨_, rfl⟩
 replace H : (some (([(⟨(⟨#[48, 49, 48, 48]⟩ : ByteArray), (⟨#[48, 48]⟩ : ByteArray), (⟨#[97, 117, 116, 104]⟩ : ByteArray), y21⟩ : S74), (⟨(⟨#[48, 49, 48, 48]⟩ : ByteArray), (⟨#[48, 50]⟩ : ByteArray), (⟨#[109, 111, 114, 101]⟩ : ByteArray), y23⟩ : S74), (⟨(⟨#[48, 50, 50, 48]⟩ : ByteArray), (⟨#[48, 49]⟩ : ByteArray), (⟨#[112, 97, 114, 116]⟩ : ByteArray), y24⟩ : S74), (⟨(⟨#[48, 50, 50, 48]⟩ : ByteArray), (⟨#[48, 48]⟩ : ByteArray), (⟨#[102, 105, 110, 97, 108]⟩ : ByteArray), y25⟩ : S74), (⟨(⟨#[48, 50, 50, 48]⟩ : ByteArray), (⟨#[50, 48]⟩ : ByteArray), (⟨#[102, 114, 101, 101]⟩ : ByteArray), y27⟩ : S74), (⟨(⟨#[48, 50, 48, 48]⟩ : ByteArray), (⟨#[52, 48]⟩ : ByteArray), (⟨#[109, 111, 118, 101]⟩ : ByteArray), y28⟩ : S74), (⟨(⟨#[48, 49, 48, 48]⟩ : ByteArray), (⟨#[51, 49]⟩ : ByteArray), (⟨#[97, 115, 107]⟩ : ByteArray), ([] : List Int)⟩ : S74), (⟨(⟨#[48, 50, 48, 48]⟩ : ByteArray), (⟨#[57, 48]⟩ : ByteArray), (⟨#[115, 119, 101, 101, 112]⟩ : ByteArray), ([] : List Int)⟩ : S74)] : List (S74)))) = some r := hh_ hy28 H
 have Ny28 := Aside0.mk hy28
 clear hy28
 obtain ⟨y31, hy31⟩ : ∃ y_ : List (S74), y_ = (([(⟨(⟨#[48, 49, 48, 48]⟩ : ByteArray), (⟨#[48, 48]⟩ : ByteArray), (⟨#[97, 117, 116, 104]⟩ : ByteArray), y21⟩ : S74), (⟨(⟨#[48, 49, 48, 48]⟩ : ByteArray), (⟨#[48, 50]⟩ : ByteArray), (⟨#[109, 111, 114, 101]⟩ : ByteArray), y23⟩ : S74), (⟨(⟨#[48, 50, 50, 48]⟩ : ByteArray), (⟨#[48, 49]⟩ : ByteArray), (⟨#[112, 97, 114, 116]⟩ : ByteArray), y24⟩ : S74), (⟨(⟨#[48, 50, 50, 48]⟩ : ByteArray), (⟨#[48, 48]⟩ : ByteArray), (⟨#[102, 105, 110, 97, 108]⟩ : ByteArray), y25⟩ : S74), (⟨(⟨#[48, 50, 50, 48]⟩ : ByteArray), (⟨#[50, 48]⟩ : ByteArray), (⟨#[102, 114, 101, 101]⟩ : ByteArray), y27⟩ : S74), (⟨(⟨#[48, 50, 48, 48]⟩ : ByteArray), (⟨#[52, 48]⟩ : ByteArray), (⟨#[109, 111, 118, 101]⟩ : ByteArray), y28⟩ : S74), (⟨(⟨#[48, 49, 48, 48]⟩ : ByteArray), (⟨#[51, 49]⟩ : ByteArray), (⟨#[97, 115, 107]⟩ : ByteArray), ([] : List Int)⟩ : S74), (⟨(⟨#[48, 50, 48, 48]⟩ : ByteArray), (⟨#[57, 48]⟩ : ByteArray), (⟨#[115, 119, 101, 101, 112]⟩ : ByteArray), ([] : List Int)⟩ : S74)] : List (S74))) := ⟨_, rfl⟩
 replace H : (some y31) = some r := hh_ hy31 H
 have Ny31 := Aside0.mk hy31
 clear hy31
 obtain rfl := si_ H
 go_enter func50, ntmps50
 go_wp2_with (first | ((with_reducible refine gate_dst (N := 1) rfl ?_); refine Kd.R_lit (Kd.int .i64) _ 3 ?hg (N := 1) ?hd (xs := ([4, 14, 38] : List Int)) (inner := [.int .i64 4, .int .i64 14, .int .i64 38]) (ok := fun _ => True) (okp := fun _ => True) ?hr ?hp (fun _ hk => hk) trivial (Below.refl _ _) (Nat.le_refl _) (by simp) ?_; (case hd => rfl); (case hg => rfl); (case hr => first | (go_simp; done) | (go_simp; rfl)); (case hp => exact (Reps.one (show Kd.M (Kd.int .i64) _ _ _ 4 [.int .i64 4] from rfl) (Reps.one (show Kd.M (Kd.int .i64) _ _ _ 14 [.int .i64 14] from rfl) (Reps.one (show Kd.M (Kd.int .i64) _ _ _ 38 [.int .i64 38] from rfl) (Reps.none _ _))))); intro v35 w1 ho2 hb hg_ hnew_; clear hg_ hnew_; (first | rw [← Ny21.out] at ho2 | (simp only [Int.reduceToNat] at ho2; rw [← Ny21.out] at ho2)); have HO22 := Aside0.mk (Kd.R_lower (Kd.R_newM (M := fun k_ => (w.heap.size ≤ k_)) ho2 (below_size bl_) (fun k_ h_ => h_)) (below_size bl_)); replace HB := hs_ hb; clear hb ho2; obtain ⟨Ao3, co3, eo3⟩ := Kd.R_slice HO22.out; subst eo3) | ((with_reducible refine gate_dst (N := 3) rfl ?_); refine Kd.R_lit (Kd.int .i64) _ 3 ?hg (N := 3) ?hd (xs := ([4, 38] : List Int)) (inner := [.int .i64 4, .int .i64 38]) (ok := fun _ => True) (okp := fun _ => True) ?hr ?hp (fun _ hk => hk) trivial (Below.refl _ _) (Nat.le_refl _) (by simp) ?_; (case hd => rfl); (case hg => rfl); (case hr => first | (go_simp; done) | (go_simp; rfl)); (case hp => exact (Reps.one (show Kd.M (Kd.int .i64) _ _ _ 4 [.int .i64 4] from rfl) (Reps.one (show Kd.M (Kd.int .i64) _ _ _ 38 [.int .i64 38] from rfl) (Reps.none _ _)))); intro v36 w4 ho5 hb hg_ hnew_; clear hg_ hnew_; (first | rw [← Ny23.out] at ho5 | (simp only [Int.reduceToNat] at ho5; rw [← Ny23.out] at ho5)); have HO26 := Aside0.mk (Kd.R_lower (Kd.R_new' (Kd.R_newM (M := fun k_ => (w.heap.size ≤ k_)) ho5 (below_size bl_) (fun k_ h_ => h_)) (Kd.R_lt (ra_ HO22))) (below_size bl_)); replace HO22 := Aside0.mk (Kd.R_elder' (ra_ HO22) (Kd.R_base ho5) hb); replace HB := hs_ hb; clear hb ho5; obtain ⟨Ao6, co6, eo6⟩ := Kd.R_slice HO26.out; subst eo6) | ((with_reducible refine gate_dst (N := 5) rfl ?_); refine Kd.R_lit (Kd.int .i64) _ 3 ?hg (N := 5) ?hd (xs := ([4, 38] : List Int)) (inner := [.int .i64 4, .int .i64 38]) (ok := fun _ => True) (okp := fun _ => True) ?hr ?hp (fun _ hk => hk) trivial (Below.refl _ _) (Nat.le_refl _) (by simp) ?_; (case hd => rfl); (case hg => rfl); (case hr => first | (go_simp; done) | (go_simp; rfl)); (case hp => exact (Reps.one (show Kd.M (Kd.int .i64) _ _ _ 4 [.int .i64 4] from rfl) (Reps.one (show Kd.M (Kd.int .i64) _ _ _ 38 [.int .i64 38] from rfl) (Reps.none _ _)))); intro v37 w7 ho8 hb hg_ hnew_; clear hg_ hnew_; (first | rw [← Ny24.out] at ho8 | (simp only [Int.reduceToNat] at ho8; rw [← Ny24.out] at ho8)); have HO29 := Aside0.mk (Kd.R_lower (Kd.R_new' (Kd.R_new' (Kd.R_newM (M := fun k_ => (w.heap.size ≤ k_)) ho8 (below_size bl_) (fun k_ h_ => h_)) (Kd.R_lt (ra_ HO22))) (Kd.R_lt (ra_ HO26))) (below_size bl_)); replace HO22 := Aside0.mk (Kd.R_elder' (ra_ HO22) (Kd.R_base ho8) hb); replace HO26 := Aside0.mk (Kd.R_elder' (ra_ HO26) (Kd.R_base ho8) hb); replace HB := hs_ hb; clear hb ho8; obtain ⟨Ao9, co9, eo9⟩ := Kd.R_slice HO29.out; subst eo9) | ((with_reducible refine gate_dst (N := 7) rfl ?_); refine Kd.R_lit (Kd.int .i64) _ 3 ?hg (N := 7) ?hd (xs := ([4, 38] : List Int)) (inner := [.int .i64 4, .int .i64 38]) (ok := fun _ => True) (okp := fun _ => True) ?hr ?hp (fun _ hk => hk) trivial (Below.refl _ _) (Nat.le_refl _) (by simp) ?_; (case hd => rfl); (case hg => rfl); (case hr => first | (go_simp; done) | (go_simp; rfl)); (case hp => exact (Reps.one (show Kd.M (Kd.int .i64) _ _ _ 4 [.int .i64 4] from rfl) (Reps.one (show Kd.M (Kd.int .i64) _ _ _ 38 [.int .i64 38] from rfl) (Reps.none _ _)))); intro v38 w10 ho11 hb hg_ hnew_; clear hg_ hnew_; (first | rw [← Ny25.out] at ho11 | (simp only [Int.reduceToNat] at ho11; rw [← Ny25.out] at ho11)); have HO30 := Aside0.mk (Kd.R_lower (Kd.R_new' (Kd.R_new' (Kd.R_new' (Kd.R_newM (M := fun k_ => (w.heap.size ≤ k_)) ho11 (below_size bl_) (fun k_ h_ => h_)) (Kd.R_lt (ra_ HO22))) (Kd.R_lt (ra_ HO26))) (Kd.R_lt (ra_ HO29))) (below_size bl_)); replace HO22 := Aside0.mk (Kd.R_elder' (ra_ HO22) (Kd.R_base ho11) hb); replace HO26 := Aside0.mk (Kd.R_elder' (ra_ HO26) (Kd.R_base ho11) hb); replace HO29 := Aside0.mk (Kd.R_elder' (ra_ HO29) (Kd.R_base ho11) hb); replace HB := hs_ hb; clear hb ho11; obtain ⟨Ao12, co12, eo12⟩ := Kd.R_slice HO30.out; subst eo12) | ((with_reducible refine gate_dst (N := 9) rfl ?_); refine Kd.R_lit (Kd.int .i64) _ 3 ?hg (N := 9) ?hd (xs := ([38] : List Int)) (inner := [.int .i64 38]) (ok := fun _ => True) (okp := fun _ => True) ?hr ?hp (fun _ hk => hk) trivial (Below.refl _ _) (Nat.le_refl _) (by simp) ?_; (case hd => rfl); (case hg => rfl); (case hr => first | (go_simp; done) | (go_simp; rfl)); (case hp => exact (Reps.one (show Kd.M (Kd.int .i64) _ _ _ 38 [.int .i64 38] from rfl) (Reps.none _ _))); intro v39 w13 ho14 hb hg_ hnew_; clear hg_ hnew_; (first | rw [← Ny27.out] at ho14 | (simp only [Int.reduceToNat] at ho14; rw [← Ny27.out] at ho14)); have HO32 := Aside0.mk (Kd.R_lower (Kd.R_new' (Kd.R_new' (Kd.R_new' (Kd.R_new' (Kd.R_newM (M := fun k_ => (w.heap.size ≤ k_)) ho14 (below_size bl_) (fun k_ h_ => h_)) (Kd.R_lt (ra_ HO22))) (Kd.R_lt (ra_ HO26))) (Kd.R_lt (ra_ HO29))) (Kd.R_lt (ra_ HO30))) (below_size bl_)); replace HO22 := Aside0.mk (Kd.R_elder' (ra_ HO22) (Kd.R_base ho14) hb); replace HO26 := Aside0.mk (Kd.R_elder' (ra_ HO26) (Kd.R_base ho14) hb); replace HO29 := Aside0.mk (Kd.R_elder' (ra_ HO29) (Kd.R_base ho14) hb); replace HO30 := Aside0.mk (Kd.R_elder' (ra_ HO30) (Kd.R_base ho14) hb); replace HB := hs_ hb; clear hb ho14; obtain ⟨Ao15, co15, eo15⟩ := Kd.R_slice HO32.out; subst eo15) | ((with_reducible refine gate_dst (N := 11) rfl ?_); refine Kd.R_lit (Kd.int .i64) _ 3 ?hg (N := 11) ?hd (xs := ([38, 103] : List Int)) (inner := [.int .i64 38, .int .i64 103]) (ok := fun _ => True) (okp := fun _ => True) ?hr ?hp (fun _ hk => hk) trivial (Below.refl _ _) (Nat.le_refl _) (by simp) ?_; (case hd => rfl); (case hg => rfl); (case hr => first | (go_simp; done) | (go_simp; rfl)); (case hp => exact (Reps.one (show Kd.M (Kd.int .i64) _ _ _ 38 [.int .i64 38] from rfl) (Reps.one (show Kd.M (Kd.int .i64) _ _ _ 103 [.int .i64 103] from rfl) (Reps.none _ _)))); intro v40 w16 ho17 hb hg_ hnew_; clear hg_ hnew_; (first | rw [← Ny28.out] at ho17 | (simp only [Int.reduceToNat] at ho17; rw [← Ny28.out] at ho17)); have HO33 := Aside0.mk (Kd.R_lower (Kd.R_new' (Kd.R_new' (Kd.R_new' (Kd.R_new' (Kd.R_new' (Kd.R_newM (M := fun k_ => (w.heap.size ≤ k_)) ho17 (below_size bl_) (fun k_ h_ => h_)) (Kd.R_lt (ra_ HO22))) (Kd.R_lt (ra_ HO26))) (Kd.R_lt (ra_ HO29))) (Kd.R_lt (ra_ HO30))) (Kd.R_lt (ra_ HO32))) (below_size bl_)); replace HO22 := Aside0.mk (Kd.R_elder' (ra_ HO22) (Kd.R_base ho17) hb); replace HO26 := Aside0.mk (Kd.R_elder' (ra_ HO26) (Kd.R_base ho17) hb); replace HO29 := Aside0.mk (Kd.R_elder' (ra_ HO29) (Kd.R_base ho17) hb); replace HO30 := Aside0.mk (Kd.R_elder' (ra_ HO30) (Kd.R_base ho17) hb); replace HO32 := Aside0.mk (Kd.R_elder' (ra_ HO32) (Kd.R_base ho17) hb); replace HB := hs_ hb; clear hb ho17; obtain ⟨Ao18, co18, eo18⟩ := Kd.R_slice HO33.out; subst eo18) | ((with_reducible refine gate_dst (N := 15) rfl ?_); refine Kd.N_lit k74 _ 74 ?hg (N' := 15) ?hd (xs := ([(⟨(⟨#[48, 49, 48, 48]⟩ : ByteArray), (⟨#[48, 48]⟩ : ByteArray), (⟨#[97, 117, 116, 104]⟩ : ByteArray), y21⟩ : S74), (⟨(⟨#[48, 49, 48, 48]⟩ : ByteArray), (⟨#[48, 50]⟩ : ByteArray), (⟨#[109, 111, 114, 101]⟩ : ByteArray), y23⟩ : S74), (⟨(⟨#[48, 50, 50, 48]⟩ : ByteArray), (⟨#[48, 49]⟩ : ByteArray), (⟨#[112, 97, 114, 116]⟩ : ByteArray), y24⟩ : S74), (⟨(⟨#[48, 50, 50, 48]⟩ : ByteArray), (⟨#[48, 48]⟩ : ByteArray), (⟨#[102, 105, 110, 97, 108]⟩ : ByteArray), y25⟩ : S74), (⟨(⟨#[48, 50, 50, 48]⟩ : ByteArray), (⟨#[50, 48]⟩ : ByteArray), (⟨#[102, 114, 101, 101]⟩ : ByteArray), y27⟩ : S74), (⟨(⟨#[48, 50, 48, 48]⟩ : ByteArray), (⟨#[52, 48]⟩ : ByteArray), (⟨#[109, 111, 118, 101]⟩ : ByteArray), y28⟩ : S74), (⟨(⟨#[48, 49, 48, 48]⟩ : ByteArray), (⟨#[51, 49]⟩ : ByteArray), (⟨#[97, 115, 107]⟩ : ByteArray), ([] : List Int)⟩ : S74), (⟨(⟨#[48, 50, 48, 48]⟩ : ByteArray), (⟨#[57, 48]⟩ : ByteArray), (⟨#[115, 119, 101, 101, 112]⟩ : ByteArray), ([] : List Int)⟩ : S74)] : List (S74))) (inner := [.string (⟨#[48, 49, 48, 48]⟩ : ByteArray), .string (⟨#[48, 48]⟩ : ByteArray), .string (⟨#[97, 117, 116, 104]⟩ : ByteArray), .slice Ao3 y21.length co3, .string (⟨#[48, 49, 48, 48]⟩ : ByteArray), .string (⟨#[48, 50]⟩ : ByteArray), .string (⟨#[109, 111, 114, 101]⟩ : ByteArray), .slice Ao6 y23.length co6, .string (⟨#[48, 50, 50, 48]⟩ : ByteArray), .string (⟨#[48, 49]⟩ : ByteArray), .string (⟨#[112, 97, 114, 116]⟩ : ByteArray), .slice Ao9 y24.length co9, .string (⟨#[48, 50, 50, 48]⟩ : ByteArray), .string (⟨#[48, 48]⟩ : ByteArray), .string (⟨#[102, 105, 110, 97, 108]⟩ : ByteArray), .slice Ao12 y25.length co12, .string (⟨#[48, 50, 50, 48]⟩ : ByteArray), .string (⟨#[50, 48]⟩ : ByteArray), .string (⟨#[102, 114, 101, 101]⟩ : ByteArray), .slice Ao15 y27.length co15, .string (⟨#[48, 50, 48, 48]⟩ : ByteArray), .string (⟨#[52, 48]⟩ : ByteArray), .string (⟨#[109, 111, 118, 101]⟩ : ByteArray), .slice Ao18 y28.length co18, .string (⟨#[48, 49, 48, 48]⟩ : ByteArray), .string (⟨#[51, 49]⟩ : ByteArray), .string (⟨#[97, 115, 107]⟩ : ByteArray), .slice none 0 0, .string (⟨#[48, 50, 48, 48]⟩ : ByteArray), .string (⟨#[57, 48]⟩ : ByteArray), .string (⟨#[115, 119, 101, 101, 112]⟩ : ByteArray), .slice none 0 0]) (ok := (fun k_ => (w.heap.size ≤ k_))) (okp := (fun k_ => (w.heap.size ≤ k_))) ?hr ?hp (fun _ hk => hk) ((show ∀ k_, w16.heap.size ≤ k_ → (fun k_ => (w.heap.size ≤ k_)) k_ from fun k_ hk => (Nat.le_trans (below_size bl_) hk)) _ (Nat.le_refl _)) (Below.refl _ _) (Nat.le_refl _) (by simp) ?_; (case hd => rfl); (case hg => rfl); (case hr => first | (go_simp; done) | (go_simp; rfl)); (case hp => exact (Reps.c4 (show Kd.FK k74 _ _ (⟨(⟨#[48, 49, 48, 48]⟩ : ByteArray), (⟨#[48, 48]⟩ : ByteArray), (⟨#[97, 117, 116, 104]⟩ : ByteArray), y21⟩ : S74) [.string (⟨#[48, 49, 48, 48]⟩ : ByteArray), .string (⟨#[48, 48]⟩ : ByteArray), .string (⟨#[97, 117, 116, 104]⟩ : ByteArray), .slice Ao3 y21.length co3] from (k74_mkF _ _ (⟨(⟨#[48, 49, 48, 48]⟩ : ByteArray), (⟨#[48, 48]⟩ : ByteArray), (⟨#[97, 117, 116, 104]⟩ : ByteArray), y21⟩ : S74) (Kd.R_reads' (Kd.R_mono (ok' := (fun k_ => (w.heap.size ≤ k_))) (HO22.out) (fun k_ hk => hk.1.1.1.1.1.1))).2.1 (Kd.R_F (Kd.R_mono (ok' := (fun k_ => (w.heap.size ≤ k_))) (HO22.out) (fun k_ hk => hk.1.1.1.1.1.1))))) (Reps.c4 (show Kd.FK k74 _ _ (⟨(⟨#[48, 49, 48, 48]⟩ : ByteArray), (⟨#[48, 50]⟩ : ByteArray), (⟨#[109, 111, 114, 101]⟩ : ByteArray), y23⟩ : S74) [.string (⟨#[48, 49, 48, 48]⟩ : ByteArray), .string (⟨#[48, 50]⟩ : ByteArray), .string (⟨#[109, 111, 114, 101]⟩ : ByteArray), .slice Ao6 y23.length co6] from (k74_mkF _ _ (⟨(⟨#[48, 49, 48, 48]⟩ : ByteArray), (⟨#[48, 50]⟩ : ByteArray), (⟨#[109, 111, 114, 101]⟩ : ByteArray), y23⟩ : S74) (Kd.R_reads' (Kd.R_mono (ok' := (fun k_ => (w.heap.size ≤ k_))) (HO26.out) (fun k_ hk => hk.1.1.1.1.1.1))).2.1 (Kd.R_F (Kd.R_mono (ok' := (fun k_ => (w.heap.size ≤ k_))) (HO26.out) (fun k_ hk => hk.1.1.1.1.1.1))))) (Reps.c4 (show Kd.FK k74 _ _ (⟨(⟨#[48, 50, 50, 48]⟩ : ByteArray), (⟨#[48, 49]⟩ : ByteArray), (⟨#[112, 97, 114, 116]⟩ : ByteArray), y24⟩ : S74) [.string (⟨#[48, 50, 50, 48]⟩ : ByteArray), .string (⟨#[48, 49]⟩ : ByteArray), .string (⟨#[112, 97, 114, 116]⟩ : ByteArray), .slice Ao9 y24.length co9] from (k74_mkF _ _ (⟨(⟨#[48, 50, 50, 48]⟩ : ByteArray), (⟨#[48, 49]⟩ : ByteArray), (⟨#[112, 97, 114, 116]⟩ : ByteArray), y24⟩ : S74) (Kd.R_reads' (Kd.R_mono (ok' := (fun k_ => (w.heap.size ≤ k_))) (HO29.out) (fun k_ hk => hk.1.1.1.1.1.1))).2.1 (Kd.R_F (Kd.R_mono (ok' := (fun k_ => (w.heap.size ≤ k_))) (HO29.out) (fun k_ hk => hk.1.1.1.1.1.1))))) (Reps.c4 (show Kd.FK k74 _ _ (⟨(⟨#[48, 50, 50, 48]⟩ : ByteArray), (⟨#[48, 48]⟩ : ByteArray), (⟨#[102, 105, 110, 97, 108]⟩ : ByteArray), y25⟩ : S74) [.string (⟨#[48, 50, 50, 48]⟩ : ByteArray), .string (⟨#[48, 48]⟩ : ByteArray), .string (⟨#[102, 105, 110, 97, 108]⟩ : ByteArray), .slice Ao12 y25.length co12] from (k74_mkF _ _ (⟨(⟨#[48, 50, 50, 48]⟩ : ByteArray), (⟨#[48, 48]⟩ : ByteArray), (⟨#[102, 105, 110, 97, 108]⟩ : ByteArray), y25⟩ : S74) (Kd.R_reads' (Kd.R_mono (ok' := (fun k_ => (w.heap.size ≤ k_))) (HO30.out) (fun k_ hk => hk.1.1.1.1.1.1))).2.1 (Kd.R_F (Kd.R_mono (ok' := (fun k_ => (w.heap.size ≤ k_))) (HO30.out) (fun k_ hk => hk.1.1.1.1.1.1))))) (Reps.c4 (show Kd.FK k74 _ _ (⟨(⟨#[48, 50, 50, 48]⟩ : ByteArray), (⟨#[50, 48]⟩ : ByteArray), (⟨#[102, 114, 101, 101]⟩ : ByteArray), y27⟩ : S74) [.string (⟨#[48, 50, 50, 48]⟩ : ByteArray), .string (⟨#[50, 48]⟩ : ByteArray), .string (⟨#[102, 114, 101, 101]⟩ : ByteArray), .slice Ao15 y27.length co15] from (k74_mkF _ _ (⟨(⟨#[48, 50, 50, 48]⟩ : ByteArray), (⟨#[50, 48]⟩ : ByteArray), (⟨#[102, 114, 101, 101]⟩ : ByteArray), y27⟩ : S74) (Kd.R_reads' (Kd.R_mono (ok' := (fun k_ => (w.heap.size ≤ k_))) (HO32.out) (fun k_ hk => hk.1.1.1.1.1.1))).2.1 (Kd.R_F (Kd.R_mono (ok' := (fun k_ => (w.heap.size ≤ k_))) (HO32.out) (fun k_ hk => hk.1.1.1.1.1.1))))) (Reps.c4 (show Kd.FK k74 _ _ (⟨(⟨#[48, 50, 48, 48]⟩ : ByteArray), (⟨#[52, 48]⟩ : ByteArray), (⟨#[109, 111, 118, 101]⟩ : ByteArray), y28⟩ : S74) [.string (⟨#[48, 50, 48, 48]⟩ : ByteArray), .string (⟨#[52, 48]⟩ : ByteArray), .string (⟨#[109, 111, 118, 101]⟩ : ByteArray), .slice Ao18 y28.length co18] from (k74_mkF _ _ (⟨(⟨#[48, 50, 48, 48]⟩ : ByteArray), (⟨#[52, 48]⟩ : ByteArray), (⟨#[109, 111, 118, 101]⟩ : ByteArray), y28⟩ : S74) (Kd.R_reads' (Kd.R_mono (ok' := (fun k_ => (w.heap.size ≤ k_))) (HO33.out) (fun k_ hk => hk.1.1.1.1.1.1))).2.1 (Kd.R_F (Kd.R_mono (ok' := (fun k_ => (w.heap.size ≤ k_))) (HO33.out) (fun k_ hk => hk.1.1.1.1.1.1))))) (Reps.c4 (show Kd.FK k74 _ _ (⟨(⟨#[48, 49, 48, 48]⟩ : ByteArray), (⟨#[51, 49]⟩ : ByteArray), (⟨#[97, 115, 107]⟩ : ByteArray), ([] : List Int)⟩ : S74) [.string (⟨#[48, 49, 48, 48]⟩ : ByteArray), .string (⟨#[51, 49]⟩ : ByteArray), .string (⟨#[97, 115, 107]⟩ : ByteArray), .slice none 0 0] from (k74_mkF _ _ (⟨(⟨#[48, 49, 48, 48]⟩ : ByteArray), (⟨#[51, 49]⟩ : ByteArray), (⟨#[97, 115, 107]⟩ : ByteArray), ([] : List Int)⟩ : S74) (Nat.le_refl _) (Kd.F_nil _ _ _))) (Reps.c4 (show Kd.FK k74 _ _ (⟨(⟨#[48, 50, 48, 48]⟩ : ByteArray), (⟨#[57, 48]⟩ : ByteArray), (⟨#[115, 119, 101, 101, 112]⟩ : ByteArray), ([] : List Int)⟩ : S74) [.string (⟨#[48, 50, 48, 48]⟩ : ByteArray), .string (⟨#[57, 48]⟩ : ByteArray), .string (⟨#[115, 119, 101, 101, 112]⟩ : ByteArray), .slice none 0 0] from (k74_mkF _ _ (⟨(⟨#[48, 50, 48, 48]⟩ : ByteArray), (⟨#[57, 48]⟩ : ByteArray), (⟨#[115, 119, 101, 101, 112]⟩ : ByteArray), ([] : List Int)⟩ : S74) (Nat.le_refl _) (Kd.F_nil _ _ _))) (Reps.none _ _)))))))))); intro v41 w19 ho20 hb hg_ hnew_; clear hg_ hnew_; (first | rw [← Ny31.out] at ho20 | (simp only [Int.reduceToNat] at ho20; rw [← Ny31.out] at ho20)); have n0_ := Aside0.mk (Kd.N_lower ho20 (below_size bl_)); have n1_ := Aside0.mk (below_step bl_ hb); clear HB; clear HO22; clear HO26; clear HO29; clear HO30; clear HO32; clear HO33; have HO34 := n0_; have HB := n1_; clear n0_ n1_; clear hb ho20))
 go_ret
 exact ⟨_, sq_, by (with_reducible repeat (first | apply Kd.N_alloc | apply Kd.N_drewN | apply Kd.N_drew)); exact HO34.out, bl_⟩
-- NOT PRINTED: function 51 (impl_ReqOf_1)
/-! ### impl_opOf: function 52 -/
def impl_opOf.f (a0 : Int) : Option (ByteArray × ByteArray × ByteArray × List Int) := (impl_within.f a0 1 8).bind fun t16 => (if t16 = true then ((impl_opRows.f).bind fun t14 => (if 0 ≤ (wrap64 (a0 - 1)) then (if (wrap64 (a0 - 1)) < (t14.length : Int) then (some ((rd_T74 t14 (wrap64 (a0 - 1))).f0, (rd_T74 t14 (wrap64 (a0 - 1))).f1, (rd_T74 t14 (wrap64 (a0 - 1))).f2, (rd_T74 t14 (wrap64 (a0 - 1))).f3)) else (none)) else (none))) else (some ((⟨#[]⟩ : ByteArray), (⟨#[]⟩ : ByteArray), (⟨#[]⟩ : ByteArray), ([] : List Int))))
theorem impl_opOf.calls (a0 : Int) (r1 : ByteArray) (r2 : ByteArray) (r3 : ByteArray) (r4 : List Int) (w : World) (h : impl_opOf.f a0 = some (r1, r2, r3, r4)) :
  Calls Tryz.prog 52 #[.int .i64 a0] w fun e w' => ∃ v3_ : Value, e = .returned (.agg #[.string r1, .string r2, .string r3, v3_]) ∧ Kd.V (Kd.int .i64) 3 w' w.heap.size (fun k_ => (w.heap.size ≤ k_)) v3_ r4 ∧ Below w.heap.size w w' := by
 have hu74 := underlying74
 have HB := Aside0.mk (Below.refl w.heap.size w)
 have H := h
 unfold impl_opOf.f at H
 clear h
 obtain ⟨t16, A2, H⟩ := ob_ H
 by_cases c3 : t16 = true
 rotate_left
 ·replace c3 := gf_ c3
  subst c3
  replace H := in_ H
  simp only [Option.some.injEq, Prod.mk.injEq] at H
  obtain ⟨rfl, rfl, rfl, rfl⟩ := H
  go_enter func52, ntmps52
  go_wp2_with (first | ((with_reducible refine gt_ 2 ?_); refine bo_ 2 #[.string ⟨#[]⟩, .string ⟨#[]⟩, .string ⟨#[]⟩, .slice none 0 0] 74 ?_; intro gb13 hg w12 BK13 hb; have GW13 := gw_ (w := w) hg; replace HB := hs_ hb; clear hb hg) | ((with_reducible refine gd_ 71 4 func71 #[.int .i64 a0, .int .i64 1, .int .i64 8] (impl_within.calls a0 1 8 false _ A2.out) fun nd => ?_); (try (rw [drewN_self w12]; generalize hq_ : World.drewN w12 _ = w12; have n0_ : Aside0 (w12.heap[gb13]? = some (.cells #[.string ⟨#[]⟩, .string ⟨#[]⟩, .string ⟨#[]⟩, .slice none 0 0] 74 (0, 0))) := ⟨by rw [← hq_]; exact (ch_ BK13.out)⟩; have n1_ : Aside0 (Below w.heap.size w w12) := ⟨by rw [← hq_]; exact bl_⟩; clear BK13 HB hq_; have BK13 := n0_; have HB := n1_; clear n0_ n1_)); refine by4_ BK13 ?_; intros))
  refine bodyPost_ret (results_cell_row rfl _ _ gb13 74 #[.string ⟨#[]⟩, .string ⟨#[]⟩, .string ⟨#[]⟩, .slice none 0 0] (0, 0) _ rfl (by refine ch_ ?_; apply bq4_3_2_1_0_; exact ch_ BK13.out) underlying74 rfl (by kernel_rfl)) rfl ?_
  exact ⟨_, sq_, (Kd.V_nil _ _ _ _ _), bl_⟩
 subst c3
 replace H := ip_ H
 obtain ⟨t14, A4, H⟩ := ob_ H
 obtain ⟨ji5, hji5⟩ : ∃ j_ : Int, (wrap64 (a0 - 1)) = j_ := ⟨_, rfl⟩
 replace H : (if 0 ≤ (ji5) then (if (ji5) < (t14.length : Int) then (some ((rd_T74 t14 (ji5)).f0, (rd_T74 t14 (ji5)).f1, (rd_T74 t14 (ji5)).f2, (rd_T74 t14 (ji5)).f3)) else (none)) else (none)) = some (r1, r2, r3, r4) := by first | (rw [hji5] at H; exact H) | (simp only [hji5] at H ⊢; exact H)
 (try rw [hji5] at A2)
 (try rw [hji5] at A4)
 have hji5w : (IntKind.i64.wrap (a0 - 1)) = ji5 := (i64_w _).trans hji5
 by_cases c6 : 0 ≤ (ji5)
 ·rw [if_pos c6] at H
  replace c6 := dt_ c6
  by_cases c7 : (ji5) < (t14.length : Int)
  ·rw [if_pos c7] at H
   replace c7 := dt_ c7
   simp only [Option.some.injEq, Prod.mk.injEq] at H
   obtain ⟨rfl, rfl, rfl, rfl⟩ := H
   go_enter func52, ntmps52
   go_wp2_with (first | ((with_reducible refine gt_ 2 ?_); refine bo_ 2 #[.string ⟨#[]⟩, .string ⟨#[]⟩, .string ⟨#[]⟩, .slice none 0 0] 74 ?_; intro gb13 hg w8 BK13 hb; have GW13 := gw_ (w := w) hg; replace HB := hs_ hb; clear hb hg) | ((with_reducible refine gd_ 71 4 func71 #[.int .i64 a0, .int .i64 1, .int .i64 8] (impl_within.calls a0 1 8 true _ A2.out) fun nd => ?_); (try (rw [drewN_self w8]; generalize hq_ : World.drewN w8 _ = w8; have n0_ : Aside0 (w8.heap[gb13]? = some (.cells #[.string ⟨#[]⟩, .string ⟨#[]⟩, .string ⟨#[]⟩, .slice none 0 0] 74 (0, 0))) := ⟨by rw [← hq_]; exact (ch_ BK13.out)⟩; have n1_ : Aside0 (Below w.heap.size w w8) := ⟨by rw [← hq_]; exact bl_⟩; clear BK13 HB hq_; have BK13 := n0_; have HB := n1_; clear n0_ n1_))) | ((with_reducible refine gc_ 50 7 func50 #[] ?_); (with_reducible refine (impl_opRows.calls  t14 _ A4.out).mono ?_); rintro e w9 ⟨v17, rfl, ho0, hb⟩; refine ⟨_, rfl, ?_⟩; have HO15 := Aside0.mk (Kd.N_lower (Kd.N_mono (ok' := fun k_ => (w.heap.size ≤ k_) ∧ k_ ≠ gb13) ho0 (fun k_ hk_ => ⟨(Nat.le_trans (below_size bl_) hk_), (Kd.freshB (bk_ BK13) k_ hk_)⟩)) (below_size bl_)); replace BK13 := kb_ BK13 hb; replace HB := hs_ hb; clear hb; (try clear ho0); obtain ⟨Ao10, co10, eo10⟩ := Kd.N_slice HO15.out; subst eo10; have p11 : 0 ≤ ((ji5) : Int) := od_; have q11 : (ji5) < (t14.length : Int) := od_; obtain ⟨ad11, A11_3, c11_3, e11, hx11_0, hx11_1, hx11_2, hx11_3, hl11_3, hi11_3⟩ := at_T74 (Kd.N_reads' HO15.out).2.2 (ji5) p11 q11; cases e11; obtain ⟨ce11, hce11, hMe11, hcc11⟩ := Kd.N_get HO15.out z74 (ji5) p11 (by first | exact q11 | exact od_ | (have e_ := (Kd.N_reads' HO15.out).1; omega)); obtain ⟨ua11_3, uc11_3, rfl, ul11_3, ge11_3⟩ := k74_openF hMe11; have hv11_3 := hcc11 3 _ rfl; rw [add_field _ _ 3 (by omega)] at hv11_3; replace hv11_3 := Option.some.inj (hv11_3.symm.trans hx11_3); injection hv11_3 with hva_ hvn_ hvc_; rw [hva_] at ge11_3; rw [hvc_] at ul11_3; have HL11_3 := Aside0.mk (show Kd.V (Kd.int .i64) 3 _ w.heap.size _ _ ((rd_T74 t14 (ji5)).f3) from Kd.V_mk ul11_3 ge11_3); clear hva_ hvn_ hvc_ ge11_3 ul11_3; clear hcc11 hce11; have HR11_3 := Aside0.mk hi11_3; have HC11_3 := Aside0.mk hl11_3; clear hi11_3 hl11_3; replace p11 := eq_true p11; replace q11 := eq_true q11; refine by4_ BK13 ?_; intros))
   refine bodyPost_ret (results_cell_row rfl _ _ gb13 74 #[.string ((rd_T74 t14 (ji5)).f0), .string ((rd_T74 t14 (ji5)).f1), .string ((rd_T74 t14 (ji5)).f2), .slice A11_3 ((rd_T74 t14 (ji5)).f3).length c11_3] (0, 0) _ rfl (by refine ch_ ?_; apply bq4_3_2_1_0_; exact ch_ BK13.out) underlying74 rfl (by kernel_rfl)) rfl ?_
   exact ⟨_, by first | rfl | (simp [errW_none, errW_some] <;> rfl) | (simp only [← hji5]; first | rfl | (simp [errW_none, errW_some] <;> rfl)) | (simp [*, errW_none, errW_some] <;> rfl), by refine cv_ ?_; exact Kd.V_mono (Kd.V_far (p := ⟨gb13, 3, none⟩) (Kd.V_far (p := ⟨gb13, 2, none⟩) (Kd.V_far (p := ⟨gb13, 1, none⟩) (Kd.V_far (p := ⟨gb13, 0, none⟩) (Kd.V_mono HL11_3.out (fun k_ hk => (⟨hk, hk.1.2⟩ : _ ∧ k_ ≠ gb13))) (fun _ hk => hk.2) (.string ((rd_T74 t14 (ji5)).f0))) (fun _ hk => hk.2) (.string ((rd_T74 t14 (ji5)).f1))) (fun _ hk => hk.2) (.string ((rd_T74 t14 (ji5)).f2))) (fun _ hk => hk.2) (.slice A11_3 ((rd_T74 t14 (ji5)).f3).length c11_3)) (fun _ hk => hk.1.1.1), bl_⟩
  ·rw [if_neg c7] at H
   exact absurd H (by simp)
 ·rw [if_neg c6] at H
  exact absurd H (by simp)
-- NOT PRINTED: function 182 (strconv_lower)
-- NOT PRINTED: function 183 (strconv_underscoreOK)
-- NOT PRINTED: function 170 (strconv_ParseUint)
-- NOT PRINTED: function 145 (strconv_ParseInt)
-- NOT PRINTED: function 114 (strconv_Atoi_114)
-- NOT PRINTED: function 171 (stringslite_Clone)
-- NOT PRINTED: function 146 (strconv_syntaxError)
-- NOT PRINTED: function 147 (strconv_rangeError)
-- NOT PRINTED: function 172 (errors_New)
-- NOT PRINTED: function 193 (strconv_small)
-- NOT PRINTED: function 139 (bits_Len64)
-- NOT PRINTED: function 198 (strconv_log10Pow2)
-- NOT PRINTED: function 199 (strconv_bool2_int)
-- NOT PRINTED: function 194 (strconv_numDigits)
-- NOT PRINTED: function 195 (strconv_formatBase10)
-- NOT PRINTED: function 200 (strconv_isPowerOfTwo)
-- NOT PRINTED: function 202 (bits_TrailingZeros32)
-- NOT PRINTED: function 203 (bits_TrailingZeros64)
-- NOT PRINTED: function 201 (bits_TrailingZeros)
-- NOT PRINTED: function 196 (strconv_formatBits)
-- NOT PRINTED: function 191 (strconv_FormatInt)
-- NOT PRINTED: function 184 (strconv_Itoa_184)
-- NOT PRINTED: function 173 (strconv_Itoa_173)
-- NOT PRINTED: function 148 (strconv_baseError)
-- NOT PRINTED: function 149 (strconv_bitSizeError)
-- NOT PRINTED: function 115 (strconv_toError)
/-! ### strconv_Atoi_87: function 87 -/
def strconv_Atoi_87.f (a0 : ByteArray) : Option (Int × Option Int) := if a0.size ≤ 18 then (Lib.atoi a0.data.toList).bind fun n => some (n, none) else none
theorem strconv_Atoi_87.calls (a0 : ByteArray) (r1 : Int) (r2 : Option Int) (w : World) (h : strconv_Atoi_87.f a0 = some (r1, r2)) :
  Calls Tryz.prog 87 #[.string a0] w fun e w' => e = .returned (.tuple #[.int .i64 r1, errW r2]) ∧ Below w.heap.size w w' := by
 unfold strconv_Atoi_87.f at h
 split at h
 case isFalse => cases h
 case isTrue hc =>
 cases hn : Lib.atoi a0.data.toList with
 | none => rw [hn] at h; cases h
 | some n =>
  rw [hn] at h
  cases h
  refine Calls.mono (Go.Proofs.YtohfefkjcnbejaaGreatDoor.Shelf.strconv_Atoi a0 _ hc hn w) ?_
  rintro e w' ⟨rfl, t, rfl⟩
  exact ⟨rfl, bytes_below (Below.refl _ _) (Nat.le_refl _) _ _⟩
/-! ### impl_Narrow: function 53 -/
def impl_Narrow.f (k : Nat) (a0 : ByteArray) : Option (Int × Bool) := (impl_Digits.f k a0).bind fun t1 => (if t1 = true then (if (a0.size : Int) > 18 then (some (0, false)) else ((strconv_Atoi_87.f a0).bind fun bt7 => (some (bt7.1, true)))) else (some (0, false)))
theorem impl_Narrow.calls (k : Nat) (a0 : ByteArray) (r1 : Int) (r2 : Bool) (w : World) (h : impl_Narrow.f k a0 = some (r1, r2)) :
  Calls Tryz.prog 53 #[.string a0] w fun e w' => e = .returned (.tuple #[.int .i64 r1, .bool r2]) ∧ Below w.heap.size w w' := by
 have HB := Aside0.mk (Below.refl w.heap.size w)
 have H := h
 unfold impl_Narrow.f at H
 clear h
 obtain ⟨t1, A2, H⟩ := ob_ H
 by_cases c3 : t1 = true
 ·subst c3
  replace H := ip_ H
  by_cases c4 : (a0.size : Int) > 18
  ·rw [if_pos c4] at H
   have c4b0 := dt_ c4
   have c4b1 : decide (18 < a0.size) = true := decide_eq_true (by omega)
   clear c4
   simp only [Option.some.injEq, Prod.mk.injEq] at H
   obtain ⟨rfl, rfl⟩ := H
   go_enter func53, ntmps53
   go_wp2_with (first | ((with_reducible refine gd_ 86 7 func86 #[.string a0] (impl_Digits.calls k a0 true _ A2.out) fun nd => ?_)))
   go_ret2
   exact ⟨sq_, bl_⟩
  rw [if_neg c4] at H
  have c4b0 := df_ c4
  have c4b1 : decide (18 < a0.size) = false := decide_eq_false (by omega)
  clear c4
  obtain ⟨⟨t7, t8⟩, A5, H⟩ := ob_ H
  (try dsimp only at H)
  simp only [Option.some.injEq, Prod.mk.injEq] at H
  obtain ⟨rfl, rfl⟩ := H
  go_enter func53, ntmps53
  go_wp2_with (first | ((with_reducible refine gd_ 86 7 func86 #[.string a0] (impl_Digits.calls k a0 true _ A2.out) fun nd => ?_)) | ((with_reducible refine gb_ 87 16 func87 #[.string a0] (strconv_Atoi_87.calls a0 t7 t8 _ A5.out) fun w6 hb => ?_); replace HB := hs_ hb; clear hb; (try simp only [errW_none, errW_some])))
  go_ret2
  exact ⟨sq_, bl_⟩
 ·replace c3 := gf_ c3
  subst c3
  replace H := in_ H
  simp only [Option.some.injEq, Prod.mk.injEq] at H
  obtain ⟨rfl, rfl⟩ := H
  go_enter func53, ntmps53
  go_wp2_with (first | ((with_reducible refine gd_ 86 7 func86 #[.string a0] (impl_Digits.calls k a0 false _ A2.out) fun nd => ?_)))
  go_ret2
  exact ⟨sq_, bl_⟩
/-! ### strings_TrimRight: function 88 -/
def strings_TrimRight.f (a0 : ByteArray) (a1 : ByteArray) : Option (ByteArray) := if a1 = (⟨#[32]⟩ : ByteArray) ∧ a0.size ≤ 9223372036854775807 then some ⟨(Lib.trimRightB a0.data.toList 32).toArray⟩ else none
theorem strings_TrimRight.calls (a0 : ByteArray) (a1 : ByteArray) (r : ByteArray) (w : World) (h : strings_TrimRight.f a0 a1 = some r) :
  Calls Tryz.prog 88 #[.string a0, .string a1] w fun e w' => e = .returned (.string r) ∧ Below w.heap.size w w' := by
 unfold strings_TrimRight.f at h
 split at h
 case isFalse => cases h
 case isTrue hc =>
 obtain ⟨rfl, hs⟩ := hc
 obtain rfl := Option.some.inj h
 refine Calls.mono (Go.Proofs.YtohfefkjcnbejaaGreatDoor.Shelf.strings_TrimRight_one a0 32 (by decide) w hs) ?_
 rintro e w' ⟨rfl, rfl⟩
 exact ⟨rfl, Below.refl _ _⟩
/-! ### impl_FieldBare: function 54 -/
def impl_FieldBare.f (a0 : ByteArray) : Option (ByteArray) := (strings_TrimRight.f a0 (⟨#[32]⟩ : ByteArray)).bind fun t1 => (some t1)
theorem impl_FieldBare.calls (a0 : ByteArray) (r : ByteArray) (w : World) (h : impl_FieldBare.f a0 = some r) :
  Calls Tryz.prog 54 #[.string a0] w fun e w' => e = .returned (.string r) ∧ Below w.heap.size w w' := by
 have HB := Aside0.mk (Below.refl w.heap.size w)
 have H := h
 unfold impl_FieldBare.f at H
 clear h
 obtain ⟨t1, A2, H⟩ := ob_ H
 obtain rfl := si_ H
 go_enter func54, ntmps54
 go_wp2_with (first | ((with_reducible refine gb_ 88 4 func88 #[.string a0, .string (⟨#[32]⟩ : ByteArray)] (strings_TrimRight.calls a0 (⟨#[32]⟩ : ByteArray) t1 _ A2.out) fun w3 hb => ?_); replace HB := hs_ hb; clear hb))
 go_ret
 exact ⟨sq_, bl_⟩
/-! ### impl_Luhn: function 153 -/
def impl_Luhn.l0 : Nat → ByteArray → Int → Bool → Int → Option (Int)
 | 0, _, _, _, _ => none
 | k + 1, x0, x3, x4, x5 => if x5 ≥ 0 then (if 0 ≤ x5 then (if x5 < (x0.size : Int) then (if x4 = true then (if ((((bt x0 x5) - 48) % 256) * 2) > 9 then (impl_Luhn.l0 k x0 (wrap64 (x3 + (((((bt x0 x5) - 48) % 256) * 2) - 9))) (!x4) (wrap64 (x5 - 1))) else (impl_Luhn.l0 k x0 (wrap64 (x3 + ((((bt x0 x5) - 48) % 256) * 2))) (!x4) (wrap64 (x5 - 1)))) else (impl_Luhn.l0 k x0 (wrap64 (x3 + (((bt x0 x5) - 48) % 256))) (!x4) (wrap64 (x5 - 1)))) else (none)) else (none)) else (some (Int.tmod (wrap64 (10 - (Int.tmod x3 10))) 10))
def impl_Luhn.f (k : Nat) (a0 : ByteArray) : Option (Int) := (impl_Digits.f k a0).bind fun t10 => (if t10 = true then (impl_Luhn.l0 k a0 0 true (wrap64 ((a0.size : Int) - 1))) else (some (-1)))
theorem impl_Luhn.calls (k : Nat) (a0 : ByteArray) (r : Int) (w : World) (h : impl_Luhn.f k a0 = some r) :
  Calls Tryz.prog 153 #[.string a0] w fun e w' => e = .returned (.int .i64 r) ∧ Drawn0 w w' := by
 have H := h
 unfold impl_Luhn.f at H
 clear h
 obtain ⟨t10, A2, H⟩ := ob_ H
 by_cases c3 : t10 = true
 rotate_left
 ·replace c3 := gf_ c3
  subst c3
  replace H := in_ H
  obtain rfl := si_ H
  go_enter func153, ntmps153
  go_wp2_with (first | ((with_reducible refine gd_ 86 8 func86 #[.string a0] (impl_Digits.calls k a0 false _ A2.out) fun nd => ?_)))
  go_ret
  exact ⟨sp_, dr_⟩
 subst c3
 replace H := ip_ H
 have H' := Aside0.mk H
 clear H
 go_enter func153, ntmps153
 go_wp2_with (first | ((with_reducible refine gd_ 86 8 func86 #[.string a0] (impl_Digits.calls k a0 true _ A2.out) fun nd => ?_)))
 go_loopg [3, 4, 5] k (fun kq v3 v4 v5 w' => ∃ (x3_1 : Int) (x4_1 : Bool) (x5_1 : Int), v3 = .int .i64 x3_1 ∧ v4 = .bool x4_1 ∧ v5 = .int .i64 x5_1 ∧ Aside0 (impl_Luhn.l0 kq a0 x3_1 x4_1 x5_1 = some r) ∧ Aside0 (kq ≤ k) ∧ Drawn0 w w')
 case atStart => exact ⟨(0), (true), (wrap64 ((a0.size : Int) - 1)), sp_, sp_, sp_, H', ⟨Nat.le_refl _⟩, dr_⟩
 case round =>
  clear H'
  obtain ⟨x3_1, x4_1, x5_1, rfl, rfl, rfl, HA, HK1, ⟨m1, rfl⟩⟩ := hrel
  cases gk with
  | zero => exact absurd HA.out (by simp [impl_Luhn.l0])
  | succ k1 =>
   have H := HA.out
   clear HA
   simp only [impl_Luhn.l0] at H
   by_cases c4 : x5_1 ≥ 0
   rotate_left
   ·rw [if_neg c4] at H
    replace c4 := df_ c4
    obtain rfl := si_ H
    go_wp2
    go_ret
    exact ⟨sp_, dr_⟩
   rw [if_pos c4] at H
   replace c4 := dt_ c4
   obtain ⟨c5, H⟩ := og_ H
   replace c5 := dt_ c5
   obtain ⟨c6, H⟩ := og_ H
   replace c6 := dt_ c6
   by_cases c8 : x4_1 = true
   ·subst c8
    replace H := ip_ H
    by_cases c9 : ((((bt a0 x5_1) - 48) % 256) * 2) > 9
    ·rw [if_pos c9] at H
     replace c9 := dt_ c9
     have H' := Aside0.mk H
     clear H
     have p7 : 0 ≤ (x5_1 : Int) := od_
     have q7 : x5_1 < (a0.size : Int) := od_
     have hx7 := bt_at a0 x5_1
     replace p7 := eq_true p7
     replace q7 := eq_true q7
     go_wp2
     go_roundg k1
     case measure => have := HK1.out; omega
     case rel => exact ⟨(wrap64 (x3_1 + (((((bt a0 x5_1) - 48) % 256) * 2) - 9))), (!true), (wrap64 (x5_1 - 1)), sp_, sp_, sp_, H', ⟨by have := HK1.out; omega⟩, dr_⟩
    rw [if_neg c9] at H
    replace c9 := df_ c9
    have H' := Aside0.mk H
    clear H
    have p7 : 0 ≤ (x5_1 : Int) := od_
    have q7 : x5_1 < (a0.size : Int) := od_
    have hx7 := bt_at a0 x5_1
    replace p7 := eq_true p7
    replace q7 := eq_true q7
    go_wp2
    go_roundg k1
    case measure => have := HK1.out; omega
    case rel => exact ⟨(wrap64 (x3_1 + ((((bt a0 x5_1) - 48) % 256) * 2))), (!true), (wrap64 (x5_1 - 1)), sp_, sp_, sp_, H', ⟨by have := HK1.out; omega⟩, dr_⟩
   ·replace c8 := gf_ c8
    subst c8
    replace H := in_ H
    have H' := Aside0.mk H
    clear H
    have p7 : 0 ≤ (x5_1 : Int) := od_
    have q7 : x5_1 < (a0.size : Int) := od_
    have hx7 := bt_at a0 x5_1
    replace p7 := eq_true p7
    replace q7 := eq_true q7
    go_wp2
    go_roundg k1
    case measure => have := HK1.out; omega
    case rel => exact ⟨(wrap64 (x3_1 + (((bt a0 x5_1) - 48) % 256))), (!false), (wrap64 (x5_1 - 1)), sp_, sp_, sp_, H', ⟨by have := HK1.out; omega⟩, dr_⟩
/-! ### impl_LuhnOk: function 120 -/
def impl_LuhnOk.f (k : Nat) (a0 : ByteArray) : Option (Bool) := if (wrap64 ((a0.size : Int) - 1)) ≥ 1 then ((impl_Digits.f k a0).bind fun t11 => (if t11 = true then (if 0 ≤ (wrap64 ((a0.size : Int) - 1)) then (if (wrap64 ((a0.size : Int) - 1)) ≤ (a0.size : Int) then ((impl_Luhn.f k (a0.extract 0 ((wrap64 ((a0.size : Int) - 1)) : Int).toNat)).bind fun t1 => (if (wrap64 ((a0.size : Int) - 1)) < (a0.size : Int) then (some (t1 == (((bt a0 (wrap64 ((a0.size : Int) - 1))) - 48) % 256))) else (none))) else (none)) else (none)) else (some false))) else (some false)
theorem impl_LuhnOk.calls (k : Nat) (a0 : ByteArray) (r : Bool) (w : World) (h : impl_LuhnOk.f k a0 = some r) :
  Calls Tryz.prog 120 #[.string a0] w fun e w' => e = .returned (.bool r) ∧ Drawn0 w w' := by
 have H := h
 unfold impl_LuhnOk.f at H
 clear h
 by_cases c2 : (wrap64 ((a0.size : Int) - 1)) ≥ 1
 rotate_left
 ·rw [if_neg c2] at H
  have c2b0 := df_ c2
  clear c2
  obtain rfl := si_ H
  go_enter func120, ntmps120
  go_wp2
  repeat (go_quiet (fail); try go_wp2)
  go_ret
  exact ⟨sp_, dr_⟩
 rw [if_pos c2] at H
 have c2b0 := dt_ c2
 clear c2
 obtain ⟨t11, A3, H⟩ := ob_ H
 by_cases c4 : t11 = true
 rotate_left
 ·replace c4 := gf_ c4
  subst c4
  replace H := in_ H
  obtain rfl := si_ H
  go_enter func120, ntmps120
  go_wp2_with (first | (go_at_call 86; (with_reducible refine (impl_Digits.calls k a0 false _ A3.out).mono ?_); rintro e w' ⟨rfl, nd, rfl⟩; (try exact dq_)))
  repeat (go_quiet (first | (go_at_call 86; (with_reducible refine (impl_Digits.calls k a0 false _ A3.out).mono ?_); rintro e w' ⟨rfl, nd, rfl⟩; (try exact dq_))); try go_wp2_with (first | (go_at_call 86; (with_reducible refine (impl_Digits.calls k a0 false _ A3.out).mono ?_); rintro e w' ⟨rfl, nd, rfl⟩; (try exact dq_))))
  go_ret
  exact ⟨sp_, dr_⟩
 subst c4
 replace H := ip_ H
 obtain ⟨ji5, hji5⟩ : ∃ j_ : Int, (wrap64 ((a0.size : Int) - 1)) = j_ := ⟨_, rfl⟩
 replace H : (if 0 ≤ (ji5) then (if (ji5) ≤ (a0.size : Int) then ((impl_Luhn.f k (a0.extract 0 ((ji5) : Int).toNat)).bind fun t1 => (if (ji5) < (a0.size : Int) then (some (t1 == (((bt a0 (ji5)) - 48) % 256))) else (none))) else (none)) else (none)) = some r := by first | (rw [hji5] at H; exact H) | (simp only [hji5] at H ⊢; exact H)
 (try rw [hji5] at c2b0)
 (try rw [hji5] at A3)
 have hji5w : (IntKind.i64.wrap ((a0.size : Int) - 1)) = ji5 := (i64_w _).trans hji5
 obtain ⟨c6, H⟩ := og_ H
 have := eq_true c6
 replace c6 := dt_ c6
 by_cases c7 : (ji5) ≤ (a0.size : Int)
 ·rw [if_pos c7] at H
  have := eq_true c7
  replace c7 := dt_ c7
  obtain ⟨t1, A8, H⟩ := ob_ H
  by_cases c9 : (ji5) < (a0.size : Int)
  ·rw [if_pos c9] at H
   replace c9 := dt_ c9
   obtain rfl := si_ H
   go_enter func120, ntmps120
   go_wp2_with (first | (go_at_call 86; (with_reducible refine (impl_Digits.calls k a0 true _ A3.out).mono ?_); rintro e w' ⟨rfl, nd, rfl⟩; (try exact dq_)) | (go_at_call 153; (with_reducible refine (impl_Luhn.calls k (a0.extract 0 ((ji5) : Int).toNat) t1 _ A8.out).mono ?_); rintro e w' ⟨rfl, nd, rfl⟩; (try exact dq_); have p10 : 0 ≤ ((ji5) : Int) := od_; have q10 : (ji5) < (a0.size : Int) := od_; have hx10 := bt_at a0 (ji5); replace p10 := eq_true p10; replace q10 := eq_true q10))
   repeat (go_quiet (first | (go_at_call 86; (with_reducible refine (impl_Digits.calls k a0 true _ A3.out).mono ?_); rintro e w' ⟨rfl, nd, rfl⟩; (try exact dq_)) | (go_at_call 153; (with_reducible refine (impl_Luhn.calls k (a0.extract 0 ((ji5) : Int).toNat) t1 _ A8.out).mono ?_); rintro e w' ⟨rfl, nd, rfl⟩; (try exact dq_); have p10 : 0 ≤ ((ji5) : Int) := od_; have q10 : (ji5) < (a0.size : Int) := od_; have hx10 := bt_at a0 (ji5); replace p10 := eq_true p10; replace q10 := eq_true q10)); try go_wp2_with (first | (go_at_call 86; (with_reducible refine (impl_Digits.calls k a0 true _ A3.out).mono ?_); rintro e w' ⟨rfl, nd, rfl⟩; (try exact dq_)) | (go_at_call 153; (with_reducible refine (impl_Luhn.calls k (a0.extract 0 ((ji5) : Int).toNat) t1 _ A8.out).mono ?_); rintro e w' ⟨rfl, nd, rfl⟩; (try exact dq_); have p10 : 0 ≤ ((ji5) : Int) := od_; have q10 : (ji5) < (a0.size : Int) := od_; have hx10 := bt_at a0 (ji5); replace p10 := eq_true p10; replace q10 := eq_true q10)))
   go_ret
   exact ⟨by first | rfl | (simp; done) | (simp only [← hji5] <;> (first | rfl | (simp; done) | (simp [my_isEmpty, my_w256, Go.Proofs.YtohfefkjcnbejaaGreatDoorW.PrintLast.i64_w, Go.Proofs.YtohfefkjcnbejaaGreatDoorW.PrintLast.i32_w, Go.IntKind.wrap_u8, Go.IntKind.wrap_u32]; done))) | (simp [*]; done) | (simp [my_isEmpty, my_w256, Go.Proofs.YtohfefkjcnbejaaGreatDoorW.PrintLast.i64_w, Go.Proofs.YtohfefkjcnbejaaGreatDoorW.PrintLast.i32_w, Go.IntKind.wrap_u8, Go.IntKind.wrap_u32]; done), dr_⟩
  ·rw [if_neg c9] at H
   exact absurd H (by simp)
 ·rw [if_neg c7] at H
  exact absurd H (by simp)
/-! ### impl_AcctIdOk: function 89 -/
def impl_AcctIdOk.f (k : Nat) (a0 : ByteArray) : Option (Bool) := if (a0.size : Int) ≤ 19 then ((impl_LuhnOk.f k a0).bind fun t1 => (some t1)) else (some false)
theorem impl_AcctIdOk.calls (k : Nat) (a0 : ByteArray) (r : Bool) (w : World) (h : impl_AcctIdOk.f k a0 = some r) :
  Calls Tryz.prog 89 #[.string a0] w fun e w' => e = .returned (.bool r) ∧ Drawn0 w w' := by
 have H := h
 unfold impl_AcctIdOk.f at H
 clear h
 by_cases c2 : (a0.size : Int) ≤ 19
 ·rw [if_pos c2] at H
  have c2b0 := dt_ c2
  have c2b1 : decide (a0.size ≤ 19) = true := decide_eq_true (by omega)
  clear c2
  obtain ⟨t1, A3, H⟩ := ob_ H
  obtain rfl := si_ H
  go_enter func89, ntmps89
  go_wp2_with (first | (go_at_call 120; (with_reducible refine (impl_LuhnOk.calls k a0 t1 _ A3.out).mono ?_); rintro e w' ⟨rfl, nd, rfl⟩))
  go_ret
  exact ⟨sp_, dr_⟩
 rw [if_neg c2] at H
 have c2b0 := df_ c2
 have c2b1 : decide (a0.size ≤ 19) = false := decide_eq_false (by omega)
 clear c2
 obtain rfl := si_ H
 go_enter func89, ntmps89
 go_wp2
 go_ret
 exact ⟨sp_, dr_⟩
/-! ### slices_Index_int_int: function 154 -/
def slices_Index_int_int.l0 : Nat → List Int → Int → Int → Int → Option (Int)
 | 0, _, _, _, _ => none
 | k + 1, x0, x1, x7, x8 => if x8 < x7 then (if 0 ≤ x8 then (if x8 < (x0.length : Int) then (if x1 = (rd x0 x8) then (some x8) else (slices_Index_int_int.l0 k x0 x1 x7 (wrap64 (x8 + 1)))) else (none)) else (none)) else (some (-1))
def slices_Index_int_int.f (k : Nat) (l0 : List Int) (a1 : Int) : Option (Int) := slices_Index_int_int.l0 k l0 a1 (l0.length : Int) 0
theorem slices_Index_int_int.calls (k : Nat) (A0 : Option Addr) (c0 : Nat) (l0 : List Int) (a1 : Int) (r : Int) (w : World) (hr0 : Kd.C (Kd.int .i64) w A0 l0.length l0) (hc0 : l0.length ≤ c0) (h : slices_Index_int_int.f k l0 a1 = some r) :
  Calls Tryz.prog 154 #[.slice A0 l0.length c0, .int .i64 a1] w fun e w' => e = .returned (.int .i64 r) ∧ Drawn0 w w' := by
 have HR0 := Aside0.mk hr0
 have HC0 := Aside0.mk hc0
 clear hr0 hc0
 have H := h
 unfold slices_Index_int_int.f at H
 clear h
 have H' := Aside0.mk H
 clear H
 go_enter func154, ntmps154
 go_wp2
 go_loopg [8] k (fun kq v8 w' => ∃ (x8_1 : Int), v8 = .int .i64 x8_1 ∧ Aside0 (slices_Index_int_int.l0 kq l0 a1 (l0.length : Int) x8_1 = some r) ∧ Aside0 (kq ≤ k) ∧ Drawn0 w w')
 case atStart => exact ⟨(0), sp_, H', ⟨Nat.le_refl _⟩, dr_⟩
 case round =>
  clear H'
  obtain ⟨x8_1, rfl, HA, HK1, ⟨m1, rfl⟩⟩ := hrel
  cases gk with
  | zero => exact absurd HA.out (by simp [slices_Index_int_int.l0])
  | succ k1 =>
   have H := HA.out
   clear HA
   simp only [slices_Index_int_int.l0] at H
   by_cases c3 : x8_1 < (l0.length : Int)
   rotate_left
   ·rw [if_neg c3] at H
    replace c3 := df_ c3
    obtain rfl := si_ H
    go_wp2
    go_ret
    exact ⟨sp_, dr_⟩
   rw [if_pos c3] at H
   replace c3 := dt_ c3
   obtain ⟨c4, H⟩ := og_ H
   replace c4 := dt_ c4
   obtain ⟨c5, H⟩ := og_ H
   replace c5 := dt_ c5
   by_cases c6 : a1 = (rd l0 x8_1)
   ·rw [if_pos c6] at H
    have := et_ c6
    replace c6 := nf_ c6
    obtain rfl := si_ H
    have p2 : 0 ≤ (x8_1 : Int) := od_
    have q2 : x8_1 < (l0.length : Int) := od_
    obtain ⟨ad2, e2, hx2_0⟩ := Kd.at_int HR0.out x8_1 p2 q2
    cases e2
    replace p2 := eq_true p2
    replace q2 := eq_true q2
    go_wp2
    go_ret
    exact ⟨sp_, dr_⟩
   rw [if_neg c6] at H
   have c6b0 := ef_ c6
   have c6b1 := nt_ c6
   have H' := Aside0.mk H
   clear H
   have p2 : 0 ≤ (x8_1 : Int) := od_
   have q2 : x8_1 < (l0.length : Int) := od_
   obtain ⟨ad2, e2, hx2_0⟩ := Kd.at_int HR0.out x8_1 p2 q2
   cases e2
   replace p2 := eq_true p2
   replace q2 := eq_true q2
   go_wp2
   go_roundg k1
   case measure => have := HK1.out; omega
   case rel => exact ⟨(wrap64 (x8_1 + 1)), sp_, H', ⟨by have := HK1.out; omega⟩, dr_⟩
/-! ### slices_Contains_int_int: function 121 -/
def slices_Contains_int_int.f (k : Nat) (l0 : List Int) (a1 : Int) : Option (Bool) := (slices_Index_int_int.f k l0 a1).bind fun t1 => (some (decide (t1 ≥ 0)))
theorem slices_Contains_int_int.calls (k : Nat) (A0 : Option Addr) (c0 : Nat) (l0 : List Int) (a1 : Int) (r : Bool) (w : World) (hr0 : Kd.C (Kd.int .i64) w A0 l0.length l0) (hc0 : l0.length ≤ c0) (h : slices_Contains_int_int.f k l0 a1 = some r) :
  Calls Tryz.prog 121 #[.slice A0 l0.length c0, .int .i64 a1] w fun e w' => e = .returned (.bool r) ∧ Drawn0 w w' := by
 have HR0 := Aside0.mk hr0
 have HC0 := Aside0.mk hc0
 clear hr0 hc0
 have H := h
 unfold slices_Contains_int_int.f at H
 clear h
 obtain ⟨t1, A3, H⟩ := ob_ H
 obtain rfl := si_ H
 go_enter func121, ntmps121
 go_wp2_with (first | ((with_reducible refine gd_ 154 7 func154 #[.slice A0 l0.length c0, .int .i64 a1] (slices_Index_int_int.calls k _ _ l0 a1 t1 _ (ca_ (HR0.out)) HC0.out A3.out) fun nd => ?_)))
 go_ret
 exact ⟨sp_, dr_⟩
/-! ### impl_uses: function 90 -/
def impl_uses.f (k : Nat) (a0 : Int) (a1 : Int) : Option (Bool) := (impl_opOf.f a0).bind fun bt1 => ((slices_Contains_int_int.f k bt1.2.2.2 a1).bind fun t2 => (some t2))
theorem impl_uses.calls (k : Nat) (a0 : Int) (a1 : Int) (r : Bool) (w : World) (h : impl_uses.f k a0 a1 = some r) :
  Calls Tryz.prog 90 #[.int .i64 a0, .int .i64 a1] w fun e w' => e = .returned (.bool r) ∧ Below w.heap.size w w' := by
 have hfl74_3 : ∀ (x0_ x1_ x2_ x3_ : Value) (w : World), (Instr.field 74 (.agg #[x0_, x1_, x2_, x3_]) 3).run Tryz.prog w = .ok x3_ w := by intros; kernel_rfl
 have HB := Aside0.mk (Below.refl w.heap.size w)
 have H := h
 unfold impl_uses.f at H
 clear h
 obtain ⟨⟨t1, t9, t10, t7⟩, A3, H⟩ := ob_ H
 (try dsimp only at H)
 obtain ⟨t2, A4, H⟩ := ob_ H
 obtain rfl := si_ H
 go_enter func90, ntmps90
 go_wp2_with (first | ((with_reducible refine gc_ 52 6 func52 #[.int .i64 a0] ?_); (with_reducible refine (impl_opOf.calls a0 t1 t9 t10 t7 _ A3.out).mono ?_); rintro e w5 ⟨v11, rfl, ho0, hb⟩; refine ⟨_, rfl, ?_⟩; have HO8 := Aside0.mk (Kd.V_lower (Kd.V_mono (ok' := fun k_ => True) ho0 (fun k_ hk_ => trivial)) (below_size bl_)); replace HB := hs_ hb; clear hb; (try clear ho0); obtain ⟨Ao6, co6, eo6⟩ := Kd.V_slice HO8.out; subst eo6) | ((with_reducible refine gd_ 121 9 func121 #[.slice Ao6 t7.length co6, .int .i64 a1] (slices_Contains_int_int.calls k _ _ t7 a1 t2 _ (ca_ ((Kd.V_reads' HO8.out).2.2)) ((Kd.V_reads' HO8.out).2.1) A4.out) fun nd => ?_)))
 go_ret
 exact ⟨sq_, bl_⟩
/-! ### impl_HoldIdOk: function 91 -/
def impl_HoldIdOk.l0 : Nat → ByteArray → Int → Int → Option (Bool)
 | 0, _, _, _ => none
 | k + 1, x0, x5, x6 => if x6 < x5 then (if 0 ≤ x6 then (if x6 < (x0.size : Int) then (if (bt x0 x6) < 48 then (if (bt x0 x6) < 97 then (some false) else (if (bt x0 x6) > 122 then (some false) else (impl_HoldIdOk.l0 k x0 x5 (wrap64 (x6 + 1))))) else (if (bt x0 x6) > 57 then (if (bt x0 x6) < 97 then (some false) else (if (bt x0 x6) > 122 then (some false) else (impl_HoldIdOk.l0 k x0 x5 (wrap64 (x6 + 1))))) else (impl_HoldIdOk.l0 k x0 x5 (wrap64 (x6 + 1))))) else (none)) else (none)) else ((impl_within.f (x0.size : Int) 1 6).bind fun t18 => (some t18))
def impl_HoldIdOk.f (k : Nat) (a0 : ByteArray) : Option (Bool) := impl_HoldIdOk.l0 k a0 (a0.size : Int) 0
theorem impl_HoldIdOk.calls (k : Nat) (a0 : ByteArray) (r : Bool) (w : World) (h : impl_HoldIdOk.f k a0 = some r) :
  Calls Tryz.prog 91 #[.string a0] w fun e w' => e = .returned (.bool r) ∧ Drawn0 w w' := by
 have H := h
 unfold impl_HoldIdOk.f at H
 clear h
 have H' := Aside0.mk H
 clear H
 go_enter func91, ntmps91
 go_wp2
 go_loopg [6] k (fun kq v6 w' => ∃ (x6_1 : Int), v6 = .int .i64 x6_1 ∧ Aside0 (impl_HoldIdOk.l0 kq a0 (a0.size : Int) x6_1 = some r) ∧ Aside0 (kq ≤ k) ∧ Drawn0 w w')
 case atStart => exact ⟨(0), sp_, H', ⟨Nat.le_refl _⟩, dr_⟩
 case round =>
  clear H'
  obtain ⟨x6_1, rfl, HA, HK1, ⟨m1, rfl⟩⟩ := hrel
  cases gk with
  | zero => exact absurd HA.out (by simp [impl_HoldIdOk.l0])
  | succ k1 =>
   have H := HA.out
   clear HA
   simp only [impl_HoldIdOk.l0] at H
   by_cases c2 : x6_1 < (a0.size : Int)
   rotate_left
   ·rw [if_neg c2] at H
    replace c2 := df_ c2
    obtain ⟨t18, A17, H⟩ := ob_ H
    obtain rfl := si_ H
    go_wp2_with (first | ((with_reducible refine gd_ 71 34 func71 #[.int .i64 (a0.size : Int), .int .i64 1, .int .i64 6] (impl_within.calls (a0.size : Int) 1 6 t18 _ A17.out) fun nd => ?_)))
    go_ret
    exact ⟨sp_, dr_⟩
   rw [if_pos c2] at H
   replace c2 := dt_ c2
   obtain ⟨c3, H⟩ := og_ H
   replace c3 := dt_ c3
   obtain ⟨c4, H⟩ := og_ H
   replace c4 := dt_ c4
   by_cases c6 : (bt a0 x6_1) < 48
   ·rw [if_pos c6] at H
    replace c6 := dt_ c6
    by_cases c8 : (bt a0 x6_1) < 97
    ·rw [if_pos c8] at H
     replace c8 := dt_ c8
     obtain rfl := si_ H
     have p5 : 0 ≤ (x6_1 : Int) := od_
     have q5 : x6_1 < (a0.size : Int) := od_
     have hx5 := bt_at a0 x6_1
     replace p5 := eq_true p5
     replace q5 := eq_true q5
     have p7 : 0 ≤ (x6_1 : Int) := od_
     have q7 : x6_1 < (a0.size : Int) := od_
     have hx7 := bt_at a0 x6_1
     replace p7 := eq_true p7
     replace q7 := eq_true q7
     go_wp2
     go_ret
     exact ⟨sp_, dr_⟩
    rw [if_neg c8] at H
    replace c8 := df_ c8
    by_cases c10 : (bt a0 x6_1) > 122
    ·rw [if_pos c10] at H
     replace c10 := dt_ c10
     obtain rfl := si_ H
     have p5 : 0 ≤ (x6_1 : Int) := od_
     have q5 : x6_1 < (a0.size : Int) := od_
     have hx5 := bt_at a0 x6_1
     replace p5 := eq_true p5
     replace q5 := eq_true q5
     have p7 : 0 ≤ (x6_1 : Int) := od_
     have q7 : x6_1 < (a0.size : Int) := od_
     have hx7 := bt_at a0 x6_1
     replace p7 := eq_true p7
     replace q7 := eq_true q7
     have p9 : 0 ≤ (x6_1 : Int) := od_
     have q9 : x6_1 < (a0.size : Int) := od_
     have hx9 := bt_at a0 x6_1
     replace p9 := eq_true p9
     replace q9 := eq_true q9
     go_wp2
     go_ret
     exact ⟨sp_, dr_⟩
    rw [if_neg c10] at H
    replace c10 := df_ c10
    have H' := Aside0.mk H
    clear H
    have p5 : 0 ≤ (x6_1 : Int) := od_
    have q5 : x6_1 < (a0.size : Int) := od_
    have hx5 := bt_at a0 x6_1
    replace p5 := eq_true p5
    replace q5 := eq_true q5
    have p7 : 0 ≤ (x6_1 : Int) := od_
    have q7 : x6_1 < (a0.size : Int) := od_
    have hx7 := bt_at a0 x6_1
    replace p7 := eq_true p7
    replace q7 := eq_true q7
    have p9 : 0 ≤ (x6_1 : Int) := od_
    have q9 : x6_1 < (a0.size : Int) := od_
    have hx9 := bt_at a0 x6_1
    replace p9 := eq_true p9
    replace q9 := eq_true q9
    go_wp2
    go_roundg k1
    case measure => have := HK1.out; omega
    case rel => exact ⟨(wrap64 (x6_1 + 1)), sp_, H', ⟨by have := HK1.out; omega⟩, dr_⟩
   rw [if_neg c6] at H
   replace c6 := df_ c6
   by_cases c12 : (bt a0 x6_1) > 57
   rotate_left
   ·rw [if_neg c12] at H
    replace c12 := df_ c12
    have H' := Aside0.mk H
    clear H
    have p5 : 0 ≤ (x6_1 : Int) := od_
    have q5 : x6_1 < (a0.size : Int) := od_
    have hx5 := bt_at a0 x6_1
    replace p5 := eq_true p5
    replace q5 := eq_true q5
    have p11 : 0 ≤ (x6_1 : Int) := od_
    have q11 : x6_1 < (a0.size : Int) := od_
    have hx11 := bt_at a0 x6_1
    replace p11 := eq_true p11
    replace q11 := eq_true q11
    go_wp2
    go_roundg k1
    case measure => have := HK1.out; omega
    case rel => exact ⟨(wrap64 (x6_1 + 1)), sp_, H', ⟨by have := HK1.out; omega⟩, dr_⟩
   rw [if_pos c12] at H
   replace c12 := dt_ c12
   by_cases c14 : (bt a0 x6_1) < 97
   ·rw [if_pos c14] at H
    replace c14 := dt_ c14
    obtain rfl := si_ H
    have p5 : 0 ≤ (x6_1 : Int) := od_
    have q5 : x6_1 < (a0.size : Int) := od_
    have hx5 := bt_at a0 x6_1
    replace p5 := eq_true p5
    replace q5 := eq_true q5
    have p11 : 0 ≤ (x6_1 : Int) := od_
    have q11 : x6_1 < (a0.size : Int) := od_
    have hx11 := bt_at a0 x6_1
    replace p11 := eq_true p11
    replace q11 := eq_true q11
    have p13 : 0 ≤ (x6_1 : Int) := od_
    have q13 : x6_1 < (a0.size : Int) := od_
    have hx13 := bt_at a0 x6_1
    replace p13 := eq_true p13
    replace q13 := eq_true q13
    go_wp2
    go_ret
    exact ⟨sp_, dr_⟩
   rw [if_neg c14] at H
   replace c14 := df_ c14
   by_cases c16 : (bt a0 x6_1) > 122
   ·rw [if_pos c16] at H
    replace c16 := dt_ c16
    obtain rfl := si_ H
    have p5 : 0 ≤ (x6_1 : Int) := od_
    have q5 : x6_1 < (a0.size : Int) := od_
    have hx5 := bt_at a0 x6_1
    replace p5 := eq_true p5
    replace q5 := eq_true q5
    have p11 : 0 ≤ (x6_1 : Int) := od_
    have q11 : x6_1 < (a0.size : Int) := od_
    have hx11 := bt_at a0 x6_1
    replace p11 := eq_true p11
    replace q11 := eq_true q11
    have p13 : 0 ≤ (x6_1 : Int) := od_
    have q13 : x6_1 < (a0.size : Int) := od_
    have hx13 := bt_at a0 x6_1
    replace p13 := eq_true p13
    replace q13 := eq_true q13
    have p15 : 0 ≤ (x6_1 : Int) := od_
    have q15 : x6_1 < (a0.size : Int) := od_
    have hx15 := bt_at a0 x6_1
    replace p15 := eq_true p15
    replace q15 := eq_true q15
    go_wp2
    go_ret
    exact ⟨sp_, dr_⟩
   rw [if_neg c16] at H
   replace c16 := df_ c16
   have H' := Aside0.mk H
   clear H
   have p5 : 0 ≤ (x6_1 : Int) := od_
   have q5 : x6_1 < (a0.size : Int) := od_
   have hx5 := bt_at a0 x6_1
   replace p5 := eq_true p5
   replace q5 := eq_true q5
   have p11 : 0 ≤ (x6_1 : Int) := od_
   have q11 : x6_1 < (a0.size : Int) := od_
   have hx11 := bt_at a0 x6_1
   replace p11 := eq_true p11
   replace q11 := eq_true q11
   have p13 : 0 ≤ (x6_1 : Int) := od_
   have q13 : x6_1 < (a0.size : Int) := od_
   have hx13 := bt_at a0 x6_1
   replace p13 := eq_true p13
   replace q13 := eq_true q13
   have p15 : 0 ≤ (x6_1 : Int) := od_
   have q15 : x6_1 < (a0.size : Int) := od_
   have hx15 := bt_at a0 x6_1
   replace p15 := eq_true p15
   replace q15 := eq_true q15
   go_wp2
   go_roundg k1
   case measure => have := HK1.out; omega
   case rel => exact ⟨(wrap64 (x6_1 + 1)), sp_, H', ⟨by have := HK1.out; omega⟩, dr_⟩
/-! ### impl_ReqOk: function 55 -/
mutual
def impl_ReqOk.j0 : Nat → Bool → Int → ByteArray → ByteArray → ByteArray → ByteArray → ByteArray → Int → Int → Option (Bool)
 | 0, _, _, _, _, _, _, _, _, _ => none
 | k + 1, x32, x20, x30, x21, x25, x31, x35, x22, x23 => if x32 = true then (some false) else ((impl_uses.f k x20 38).bind fun t36 => (if t36 = true then ((impl_HoldIdOk.f k x25).bind fun t39 => (impl_ReqOk.j1 k t39 (x22 == 0) (x23 == 0) (x21.toList == ([] : List UInt8)) x20 x30 x21 x25 x31 x35 x22 x23)) else (impl_ReqOk.j1 k (x25.toList == ([] : List UInt8)) (x22 == 0) (x23 == 0) (x21.toList == ([] : List UInt8)) x20 x30 x21 x25 x31 x35 x22 x23)))
def impl_ReqOk.j1 : Nat → Bool → Bool → Bool → Bool → Int → ByteArray → ByteArray → ByteArray → ByteArray → ByteArray → Int → Int → Option (Bool)
 | 0, _, _, _, _, _, _, _, _, _, _, _, _ => none
 | k + 1, x4, x5, x6, x7, x20, x30, x21, x25, x31, x35, x22, x23 => (impl_uses.f k x20 4).bind fun t40 => (if t40 = true then ((impl_within.f x22 0 999999999999).bind fun t44 => (impl_ReqOk.j2 k x4 t44 x6 x7 x20 x30 x21 x25 x31 x35 x22 x23)) else (impl_ReqOk.j2 k x4 x5 x6 x7 x20 x30 x21 x25 x31 x35 x22 x23))
def impl_ReqOk.j2 : Nat → Bool → Bool → Bool → Bool → Int → ByteArray → ByteArray → ByteArray → ByteArray → ByteArray → Int → Int → Option (Bool)
 | 0, _, _, _, _, _, _, _, _, _, _, _, _ => none
 | k + 1, x4, x5, x6, x7, x20, x30, x21, x25, x31, x35, x22, x23 => (impl_uses.f k x20 14).bind fun t45 => (if t45 = true then ((impl_within.f x23 0 9999).bind fun t48 => (impl_ReqOk.j3 k x4 x5 t48 x7 x20 x30 x21 x25 x31 x35 x22 x23)) else (impl_ReqOk.j3 k x4 x5 x6 x7 x20 x30 x21 x25 x31 x35 x22 x23))
def impl_ReqOk.j3 : Nat → Bool → Bool → Bool → Bool → Int → ByteArray → ByteArray → ByteArray → ByteArray → ByteArray → Int → Int → Option (Bool)
 | 0, _, _, _, _, _, _, _, _, _, _, _, _ => none
 | k + 1, x4, x5, x6, x7, x20, x30, x21, x25, x31, x35, x22, x23 => (impl_uses.f k x20 103).bind fun t53 => (if t53 = true then ((impl_AcctIdOk.f k x21).bind fun t19 => (if x4 = true then (if x5 = true then (if x6 = true then (some t19) else (some false)) else (some false)) else (some false))) else (if x4 = true then (if x5 = true then (if x6 = true then (some x7) else (some false)) else (some false)) else (some false)))
end
def impl_ReqOk.f (k : Nat) (a0_0 : Int) (a0_1 : ByteArray) (a0_2 : ByteArray) (a0_3 : ByteArray) (a0_4 : ByteArray) (a0_5 : ByteArray) (a0_6 : Int) (a0_7 : Int) : Option (Bool) := (impl_opOf.f a0_0).bind fun bt13 => (if bt13.2.2.1.toList = ([] : List UInt8) then (impl_ReqOk.j0 k true a0_0 a0_1 a0_2 a0_3 a0_4 a0_5 a0_6 a0_7) else (if a0_5.toList = bt13.1.toList then ((impl_AcctIdOk.f k a0_1).bind fun t54 => (if t54 = true then ((impl_isWide.f k a0_4 6).bind fun t49 => (impl_ReqOk.j0 k (!t49) a0_0 a0_1 a0_2 a0_3 a0_4 a0_5 a0_6 a0_7)) else (impl_ReqOk.j0 k true a0_0 a0_1 a0_2 a0_3 a0_4 a0_5 a0_6 a0_7))) else (impl_ReqOk.j0 k true a0_0 a0_1 a0_2 a0_3 a0_4 a0_5 a0_6 a0_7)))
theorem impl_ReqOk.calls (k : Nat) (a0_0 : Int) (a0_1 : ByteArray) (a0_2 : ByteArray) (a0_3 : ByteArray) (a0_4 : ByteArray) (a0_5 : ByteArray) (a0_6 : Int) (a0_7 : Int) (r : Bool) (w : World) (h : impl_ReqOk.f k a0_0 a0_1 a0_2 a0_3 a0_4 a0_5 a0_6 a0_7 = some r) :
  Calls Tryz.prog 55 #[.agg #[.int .i64 a0_0, .string a0_1, .string a0_2, .string a0_3, .string a0_4, .string a0_5, .int .i64 a0_6, .int .i64 a0_7]] w fun e w' => e = .returned (.bool r) ∧ Below w.heap.size w w' := by
 have hu27 := underlying27
 have hu74 := underlying74
 have HB := Aside0.mk (Below.refl w.heap.size w)
 have H := h
 unfold impl_ReqOk.f at H
 clear h
 obtain ⟨⟨t13, t26, t24, t12⟩, A2, H⟩ := ob_ H
 (try dsimp only at H)
 have HC3 := Aside0.mk H
 clear H
 go_enter func55, ntmps55
 go_upto_region 2 with (first | ((with_reducible refine gt_ 1 ?_); refine bo_ 1 #[.int .i64 a0_0, .string a0_1, .string a0_2, .string a0_3, .string a0_4, .string a0_5, .int .i64 a0_6, .int .i64 a0_7] 27 ?_; intro gb1 hg w4 BK1 hb; have GW1 := gw_ (w := w) hg; replace HB := hs_ hb; clear hb hg; refine by8_ BK1 ?_; intros) | (go_at_call 52; (with_reducible refine (impl_opOf.calls a0_0 t13 t26 t24 t12 _ A2.out).mono ?_); rintro e w6 ⟨v61, rfl, ho0, hb⟩; have HO18 := Aside0.mk (Kd.V_lower (Kd.V_mono (ok' := fun k_ => k_ ≠ gb1) ho0 (fun k_ hk_ => (Kd.freshB (bk_ BK1) k_ hk_))) (below_size bl_)); replace BK1 := kb_ BK1 hb; replace HB := hs_ hb; clear hb; (try clear ho0)) | ((with_reducible refine gate_dst (N := 3) rfl ?_); refine be_ (N := 3) (cs := #[.string ⟨#[]⟩, .string ⟨#[]⟩, .string ⟨#[]⟩, .slice none 0 0]) (t := 74) ?_; intro gb8 hg w7 hbox hb; replace HO18 := Aside0.mk (Kd.V_below (Kd.V_elderB (by refine cv_ ?_; exact HO18.out) gb8 (Nat.le_of_eq hg.symm)) hb); have BK8 := Aside0.mk (hbox); have GW8 := gw_ (w := w) hg; replace HB := hs_ hb; have ⟨NB1_8, NB8_1⟩ := nb_ hg BK1; replace BK1 := kb_ BK1 hb; clear hb hbox hg; have := NB8_1.out; have := NB1_8.out; refine by4_ BK8 ?_; intros; obtain ⟨Ao10, co10, eo10⟩ := Kd.V_slice HO18.out; subst eo10))
 repeat (go_quiet (first | ((with_reducible refine gt_ 1 ?_); refine bo_ 1 #[.int .i64 a0_0, .string a0_1, .string a0_2, .string a0_3, .string a0_4, .string a0_5, .int .i64 a0_6, .int .i64 a0_7] 27 ?_; intro gb1 hg w4 BK1 hb; have GW1 := gw_ (w := w) hg; replace HB := hs_ hb; clear hb hg; refine by8_ BK1 ?_; intros) | (go_at_call 52; (with_reducible refine (impl_opOf.calls a0_0 t13 t26 t24 t12 _ A2.out).mono ?_); rintro e w6 ⟨v61, rfl, ho0, hb⟩; have HO18 := Aside0.mk (Kd.V_lower (Kd.V_mono (ok' := fun k_ => k_ ≠ gb1) ho0 (fun k_ hk_ => (Kd.freshB (bk_ BK1) k_ hk_))) (below_size bl_)); replace BK1 := kb_ BK1 hb; replace HB := hs_ hb; clear hb; (try clear ho0)) | ((with_reducible refine gate_dst (N := 3) rfl ?_); refine be_ (N := 3) (cs := #[.string ⟨#[]⟩, .string ⟨#[]⟩, .string ⟨#[]⟩, .slice none 0 0]) (t := 74) ?_; intro gb8 hg w7 hbox hb; replace HO18 := Aside0.mk (Kd.V_below (Kd.V_elderB (by refine cv_ ?_; exact HO18.out) gb8 (Nat.le_of_eq hg.symm)) hb); have BK8 := Aside0.mk (hbox); have GW8 := gw_ (w := w) hg; replace HB := hs_ hb; have ⟨NB1_8, NB8_1⟩ := nb_ hg BK1; replace BK1 := kb_ BK1 hb; clear hb hbox hg; have := NB8_1.out; have := NB1_8.out; refine by4_ BK8 ?_; intros; obtain ⟨Ao10, co10, eo10⟩ := Kd.V_slice HO18.out; subst eo10)); go_upto_region 2 with (first | ((with_reducible refine gt_ 1 ?_); refine bo_ 1 #[.int .i64 a0_0, .string a0_1, .string a0_2, .string a0_3, .string a0_4, .string a0_5, .int .i64 a0_6, .int .i64 a0_7] 27 ?_; intro gb1 hg w4 BK1 hb; have GW1 := gw_ (w := w) hg; replace HB := hs_ hb; clear hb hg; refine by8_ BK1 ?_; intros) | (go_at_call 52; (with_reducible refine (impl_opOf.calls a0_0 t13 t26 t24 t12 _ A2.out).mono ?_); rintro e w6 ⟨v61, rfl, ho0, hb⟩; have HO18 := Aside0.mk (Kd.V_lower (Kd.V_mono (ok' := fun k_ => k_ ≠ gb1) ho0 (fun k_ hk_ => (Kd.freshB (bk_ BK1) k_ hk_))) (below_size bl_)); replace BK1 := kb_ BK1 hb; replace HB := hs_ hb; clear hb; (try clear ho0)) | ((with_reducible refine gate_dst (N := 3) rfl ?_); refine be_ (N := 3) (cs := #[.string ⟨#[]⟩, .string ⟨#[]⟩, .string ⟨#[]⟩, .slice none 0 0]) (t := 74) ?_; intro gb8 hg w7 hbox hb; replace HO18 := Aside0.mk (Kd.V_below (Kd.V_elderB (by refine cv_ ?_; exact HO18.out) gb8 (Nat.le_of_eq hg.symm)) hb); have BK8 := Aside0.mk (hbox); have GW8 := gw_ (w := w) hg; replace HB := hs_ hb; have ⟨NB1_8, NB8_1⟩ := nb_ hg BK1; replace BK1 := kb_ BK1 hb; clear hb hbox hg; have := NB8_1.out; have := NB1_8.out; refine by4_ BK8 ?_; intros; obtain ⟨Ao10, co10, eo10⟩ := Kd.V_slice HO18.out; subst eo10)))
 (try simp only [Act.put, List.setIfInBounds_toArray, List.set_cons_zero, List.set_cons_succ])
 go_cut [32] (fun v32 wc => ∃ (kq : Nat) (x32_2 : Bool), v32 = .bool x32_2 ∧ Aside0 (impl_ReqOk.j0 kq x32_2 a0_0 a0_1 a0_2 a0_3 a0_4 a0_5 a0_6 a0_7 = some r) ∧ Aside0 (kq ≤ k) ∧ Aside0 (Kd.V (Kd.int .i64) 3 wc w.heap.size (fun k_ => k_ ≠ gb1 ∧ k_ ≠ gb8) (.slice Ao10 t12.length co10) t12) ∧ Aside0 (wc.heap[gb1]? = some (.cells #[.int .i64 a0_0, .string a0_1, .string a0_2, .string a0_3, .string a0_4, .string a0_5, .int .i64 a0_6, .int .i64 a0_7] 27 (0, 0))) ∧ Aside0 (wc.heap[gb8]? = some (.cells #[.string t13, .string t26, .string t24, (.slice Ao10 t12.length co10)] 74 (0, 0))) ∧ Aside0 (Below w.heap.size w wc))
 case first =>
  have H := HC3.out
  clear HC3
  by_cases c11 : t24.toList = ([] : List UInt8)
  ·rw [if_pos c11] at H
   have c11b0 := et_ c11
   have c11b1 := nf_ c11
   clear c11
   (first | rw [c11b0] | (simp only [i64_w, i32_w]; rw [c11b0]) | skip)
   have H' := Aside0.mk H
   clear H
   have := NB8_1.out
   have := NB1_8.out
   refine by4_ BK8 ?_; intros
   go_wp2
   repeat (go_quiet (fail); try go_wp2)
   go_meet
   case rel => exact ⟨_, (true), sp_, H', ⟨by first | omega | exact Nat.le_refl _⟩, ⟨by refine cv_ ?_; exact Kd.V_mono (Kd.V_far (p := ⟨gb8, 3, none⟩) (Kd.V_far (p := ⟨gb8, 2, none⟩) (Kd.V_far (p := ⟨gb8, 1, none⟩) (Kd.V_far (p := ⟨gb8, 0, none⟩) (Kd.V_mono HO18.out (fun k_ hk => (⟨hk, hk.2⟩ : _ ∧ k_ ≠ gb8))) (fun _ hk => hk.2) (.string t13)) (fun _ hk => hk.2) (.string t26)) (fun _ hk => hk.2) (.string t24)) (fun _ hk => hk.2) (.slice Ao10 t12.length co10)) (fun _ hk => ⟨hk.1.1, hk.1.2⟩)⟩, ⟨by refine ch_ ?_; refine bf_ NB1_8 ?_; refine bf_ NB1_8 ?_; refine bf_ NB1_8 ?_; exact bf_ NB1_8 BK1.out⟩, ⟨by refine ch_ ?_; apply bq4_3_2_1_0_; exact ch_ BK8.out⟩, ⟨bl_⟩⟩
  rw [if_neg c11] at H
  have c11b0 := ef_ c11
  have c11b1 := nt_ c11
  (first | rw [c11b0] | (simp only [i64_w, i32_w]; rw [c11b0]) | skip)
  by_cases c14 : a0_5.toList = t13.toList
  rotate_left
  ·rw [if_neg c14] at H
   have c14b0 := ef_ c14
   have c14b1 := nt_ c14
   have H' := Aside0.mk H
   clear H
   have := NB8_1.out
   have := NB1_8.out
   refine by4_ BK8 ?_; intros
   refine by8_ BK1 ?_; intros
   go_wp2
   repeat (go_quiet (fail); try go_wp2)
   go_meet
   case rel => exact ⟨_, (true), sp_, H', ⟨by first | omega | exact Nat.le_refl _⟩, ⟨by refine cv_ ?_; exact Kd.V_mono (Kd.V_far (p := ⟨gb8, 3, none⟩) (Kd.V_far (p := ⟨gb8, 2, none⟩) (Kd.V_far (p := ⟨gb8, 1, none⟩) (Kd.V_far (p := ⟨gb8, 0, none⟩) (Kd.V_mono HO18.out (fun k_ hk => (⟨hk, hk.2⟩ : _ ∧ k_ ≠ gb8))) (fun _ hk => hk.2) (.string t13)) (fun _ hk => hk.2) (.string t26)) (fun _ hk => hk.2) (.string t24)) (fun _ hk => hk.2) (.slice Ao10 t12.length co10)) (fun _ hk => ⟨hk.1.1, hk.1.2⟩)⟩, ⟨by refine ch_ ?_; refine bf_ NB1_8 ?_; refine bf_ NB1_8 ?_; refine bf_ NB1_8 ?_; exact bf_ NB1_8 BK1.out⟩, ⟨by refine ch_ ?_; apply bq4_3_2_1_0_; exact ch_ BK8.out⟩, ⟨bl_⟩⟩
  rw [if_pos c14] at H
  have := et_ c14
  replace c14 := nf_ c14
  obtain ⟨t54, A15, H⟩ := ob_ H
  by_cases c16 : t54 = true
  ·subst c16
   replace H := ip_ H
   obtain ⟨t49, A17, H⟩ := ob_ H
   have H' := Aside0.mk H
   clear H
   have := NB8_1.out
   have := NB1_8.out
   refine by4_ BK8 ?_; intros
   refine by8_ BK1 ?_; intros
   go_wp2_with (first | (go_at_call 89; (with_reducible refine (impl_AcctIdOk.calls k a0_1 true _ A15.out).mono ?_); rintro e w' ⟨rfl, nd, rfl⟩; (try exact dq_)) | (go_at_call 85; (with_reducible refine (impl_isWide.calls k a0_4 6 t49 _ A17.out).mono ?_); rintro e w' ⟨rfl, nd, rfl⟩; (try exact dq_)))
   repeat (go_quiet (first | (go_at_call 89; (with_reducible refine (impl_AcctIdOk.calls k a0_1 true _ A15.out).mono ?_); rintro e w' ⟨rfl, nd, rfl⟩; (try exact dq_)) | (go_at_call 85; (with_reducible refine (impl_isWide.calls k a0_4 6 t49 _ A17.out).mono ?_); rintro e w' ⟨rfl, nd, rfl⟩; (try exact dq_))); try go_wp2_with (first | (go_at_call 89; (with_reducible refine (impl_AcctIdOk.calls k a0_1 true _ A15.out).mono ?_); rintro e w' ⟨rfl, nd, rfl⟩; (try exact dq_)) | (go_at_call 85; (with_reducible refine (impl_isWide.calls k a0_4 6 t49 _ A17.out).mono ?_); rintro e w' ⟨rfl, nd, rfl⟩; (try exact dq_))))
   go_meet
   case rel => exact ⟨_, (!t49), sp_, H', ⟨by first | omega | exact Nat.le_refl _⟩, ⟨by refine cv_ ?_; exact Kd.V_mono (Kd.V_far (p := ⟨gb8, 3, none⟩) (Kd.V_far (p := ⟨gb8, 2, none⟩) (Kd.V_far (p := ⟨gb8, 1, none⟩) (Kd.V_far (p := ⟨gb8, 0, none⟩) (Kd.V_mono HO18.out (fun k_ hk => (⟨hk, hk.2⟩ : _ ∧ k_ ≠ gb8))) (fun _ hk => hk.2) (.string t13)) (fun _ hk => hk.2) (.string t26)) (fun _ hk => hk.2) (.string t24)) (fun _ hk => hk.2) (.slice Ao10 t12.length co10)) (fun _ hk => ⟨hk.1.1, hk.1.2⟩)⟩, ⟨by refine ch_ ?_; refine bf_ NB1_8 ?_; refine bf_ NB1_8 ?_; refine bf_ NB1_8 ?_; exact bf_ NB1_8 BK1.out⟩, ⟨by refine ch_ ?_; apply bq4_3_2_1_0_; exact ch_ BK8.out⟩, ⟨bl_⟩⟩
  replace c16 := gf_ c16
  subst c16
  replace H := in_ H
  have H' := Aside0.mk H
  clear H
  have := NB8_1.out
  have := NB1_8.out
  refine by4_ BK8 ?_; intros
  refine by8_ BK1 ?_; intros
  go_wp2_with (first | (go_at_call 89; (with_reducible refine (impl_AcctIdOk.calls k a0_1 false _ A15.out).mono ?_); rintro e w' ⟨rfl, nd, rfl⟩; (try exact dq_)))
  repeat (go_quiet (first | (go_at_call 89; (with_reducible refine (impl_AcctIdOk.calls k a0_1 false _ A15.out).mono ?_); rintro e w' ⟨rfl, nd, rfl⟩; (try exact dq_))); try go_wp2_with (first | (go_at_call 89; (with_reducible refine (impl_AcctIdOk.calls k a0_1 false _ A15.out).mono ?_); rintro e w' ⟨rfl, nd, rfl⟩; (try exact dq_))))
  go_meet
  case rel => exact ⟨_, (true), sp_, H', ⟨by first | omega | exact Nat.le_refl _⟩, ⟨by refine cv_ ?_; exact Kd.V_mono (Kd.V_far (p := ⟨gb8, 3, none⟩) (Kd.V_far (p := ⟨gb8, 2, none⟩) (Kd.V_far (p := ⟨gb8, 1, none⟩) (Kd.V_far (p := ⟨gb8, 0, none⟩) (Kd.V_mono HO18.out (fun k_ hk => (⟨hk, hk.2⟩ : _ ∧ k_ ≠ gb8))) (fun _ hk => hk.2) (.string t13)) (fun _ hk => hk.2) (.string t26)) (fun _ hk => hk.2) (.string t24)) (fun _ hk => hk.2) (.slice Ao10 t12.length co10)) (fun _ hk => ⟨hk.1.1, hk.1.2⟩)⟩, ⟨by refine ch_ ?_; refine bf_ NB1_8 ?_; refine bf_ NB1_8 ?_; refine bf_ NB1_8 ?_; exact bf_ NB1_8 BK1.out⟩, ⟨by refine ch_ ?_; apply bq4_3_2_1_0_; exact ch_ BK8.out⟩, ⟨bl_⟩⟩
 case rest =>
  clear HC3
  obtain ⟨kq, x32_2, rfl, HA, HJ2, HO_9, BK1, BK8, HB⟩ := hcut
  cases kq with
  | zero => exact absurd HA.out (by simp [impl_ReqOk.j0])
  | succ kj2 =>
   have H := HA.out
   clear HA
   simp only [impl_ReqOk.j0] at H
   by_cases c27 : x32_2 = true
   ·subst c27
    replace H := ip_ H
    obtain rfl := si_ H
    go_wp2
    repeat (go_quiet (fail); try go_wp2)
    go_ret
    exact ⟨sq_, bl_⟩
   replace c27 := gf_ c27
   subst c27
   replace H := in_ H
   obtain ⟨t36, A28, H⟩ := ob_ H
   have HC29 := Aside0.mk H
   clear H
   have := NB1_8.out
   have := NB8_1.out
   refine by8_ BK1 ?_; intros
   go_upto_if 47 with (first | (go_at_call 90; (with_reducible refine (impl_uses.calls kj2 a0_0 38 t36 _ A28.out).mono ?_); rintro e w32 ⟨rfl, hb⟩; replace HO_9 := Aside0.mk (Kd.V_below (by refine cv_ ?_; exact HO_9.out) hb); replace BK1 := kb_ BK1 hb; replace BK8 := kb_ BK8 hb; replace HB := hs_ hb; clear hb))
   repeat (go_quiet (first | (go_at_call 90; (with_reducible refine (impl_uses.calls kj2 a0_0 38 t36 _ A28.out).mono ?_); rintro e w32 ⟨rfl, hb⟩; replace HO_9 := Aside0.mk (Kd.V_below (by refine cv_ ?_; exact HO_9.out) hb); replace BK1 := kb_ BK1 hb; replace BK8 := kb_ BK8 hb; replace HB := hs_ hb; clear hb)); go_upto_if 47 with (first | (go_at_call 90; (with_reducible refine (impl_uses.calls kj2 a0_0 38 t36 _ A28.out).mono ?_); rintro e w32 ⟨rfl, hb⟩; replace HO_9 := Aside0.mk (Kd.V_below (by refine cv_ ?_; exact HO_9.out) hb); replace BK1 := kb_ BK1 hb; replace BK8 := kb_ BK8 hb; replace HB := hs_ hb; clear hb)))
   (try simp only [Act.put, List.setIfInBounds_toArray, List.set_cons_zero, List.set_cons_succ])
   go_cut [4] (fun v4 wc => ∃ (kq : Nat) (x4_28 : Bool), v4 = .bool x4_28 ∧ Aside0 (impl_ReqOk.j1 kq x4_28 (a0_6 == 0) (a0_7 == 0) (a0_2.toList == ([] : List UInt8)) a0_0 a0_1 a0_2 a0_3 a0_4 a0_5 a0_6 a0_7 = some r) ∧ Aside0 (kq ≤ kj2) ∧ Aside0 (Kd.V (Kd.int .i64) 3 wc w.heap.size (fun k_ => k_ ≠ gb1 ∧ k_ ≠ gb8) (.slice Ao10 t12.length co10) t12) ∧ Aside0 (wc.heap[gb1]? = some (.cells #[.int .i64 a0_0, .string a0_1, .string a0_2, .string a0_3, .string a0_4, .string a0_5, .int .i64 a0_6, .int .i64 a0_7] 27 (0, 0))) ∧ Aside0 (wc.heap[gb8]? = some (.cells #[.string t13, .string t26, .string t24, (.slice Ao10 t12.length co10)] 74 (0, 0))) ∧ Aside0 (Below w.heap.size w wc))
   case first =>
    have H := HC29.out
    clear HC29
    by_cases c33 : t36 = true
    ·subst c33
     replace H := ip_ H
     obtain ⟨t39, A34, H⟩ := ob_ H
     have H' := Aside0.mk H
     clear H
     have := NB1_8.out
     have := NB8_1.out
     refine by8_ BK1 ?_; intros
     go_wp2_with (first | (go_at_call 91; (with_reducible refine (impl_HoldIdOk.calls kj2 a0_3 t39 _ A34.out).mono ?_); rintro e w' ⟨rfl, nd, rfl⟩; (try exact dq_)))
     repeat (go_quiet (first | (go_at_call 91; (with_reducible refine (impl_HoldIdOk.calls kj2 a0_3 t39 _ A34.out).mono ?_); rintro e w' ⟨rfl, nd, rfl⟩; (try exact dq_))); try go_wp2_with (first | (go_at_call 91; (with_reducible refine (impl_HoldIdOk.calls kj2 a0_3 t39 _ A34.out).mono ?_); rintro e w' ⟨rfl, nd, rfl⟩; (try exact dq_))))
     go_meet
     case rel => exact ⟨_, (t39), sp_, H', ⟨by have := HJ2.out; first | omega | exact Nat.le_refl _⟩, ⟨by refine cv_ ?_; exact HO_9.out⟩, ⟨ch_ BK1.out⟩, ⟨ch_ BK8.out⟩, ⟨bl_⟩⟩
    ·replace c33 := gf_ c33
     subst c33
     replace H := in_ H
     have H' := Aside0.mk H
     clear H
     go_wp2
     repeat (go_quiet (fail); try go_wp2)
     go_meet
     case rel => exact ⟨_, ((a0_3.toList == ([] : List UInt8))), sp_, H', ⟨by have := HJ2.out; first | omega | exact Nat.le_refl _⟩, ⟨by refine cv_ ?_; exact HO_9.out⟩, ⟨ch_ BK1.out⟩, ⟨ch_ BK8.out⟩, ⟨bl_⟩⟩
   case rest =>
    clear HC29
    obtain ⟨kq, x4_28, rfl, HA, HJ28, HO_9, BK1, BK8, HB⟩ := hcut
    cases kq with
    | zero => exact absurd HA.out (by simp [impl_ReqOk.j1])
    | succ kj28 =>
     have H := HA.out
     clear HA
     simp only [impl_ReqOk.j1] at H
     obtain ⟨t40, A37, H⟩ := ob_ H
     have HC38 := Aside0.mk H
     clear H
     have := NB1_8.out
     have := NB8_1.out
     refine by8_ BK1 ?_; intros
     go_upto_if 53 with (first | (go_at_call 90; (with_reducible refine (impl_uses.calls kj28 a0_0 4 t40 _ A37.out).mono ?_); rintro e w41 ⟨rfl, hb⟩; replace HO_9 := Aside0.mk (Kd.V_below (by refine cv_ ?_; exact HO_9.out) hb); replace BK1 := kb_ BK1 hb; replace BK8 := kb_ BK8 hb; replace HB := hs_ hb; clear hb))
     repeat (go_quiet (first | (go_at_call 90; (with_reducible refine (impl_uses.calls kj28 a0_0 4 t40 _ A37.out).mono ?_); rintro e w41 ⟨rfl, hb⟩; replace HO_9 := Aside0.mk (Kd.V_below (by refine cv_ ?_; exact HO_9.out) hb); replace BK1 := kb_ BK1 hb; replace BK8 := kb_ BK8 hb; replace HB := hs_ hb; clear hb)); go_upto_if 53 with (first | (go_at_call 90; (with_reducible refine (impl_uses.calls kj28 a0_0 4 t40 _ A37.out).mono ?_); rintro e w41 ⟨rfl, hb⟩; replace HO_9 := Aside0.mk (Kd.V_below (by refine cv_ ?_; exact HO_9.out) hb); replace BK1 := kb_ BK1 hb; replace BK8 := kb_ BK8 hb; replace HB := hs_ hb; clear hb)))
     (try simp only [Act.put, List.setIfInBounds_toArray, List.set_cons_zero, List.set_cons_succ])
     go_cut [5] (fun v5 wc => ∃ (kq : Nat) (x5_37 : Bool), v5 = .bool x5_37 ∧ Aside0 (impl_ReqOk.j2 kq x4_28 x5_37 (a0_7 == 0) (a0_2.toList == ([] : List UInt8)) a0_0 a0_1 a0_2 a0_3 a0_4 a0_5 a0_6 a0_7 = some r) ∧ Aside0 (kq ≤ kj28) ∧ Aside0 (Kd.V (Kd.int .i64) 3 wc w.heap.size (fun k_ => k_ ≠ gb1 ∧ k_ ≠ gb8) (.slice Ao10 t12.length co10) t12) ∧ Aside0 (wc.heap[gb1]? = some (.cells #[.int .i64 a0_0, .string a0_1, .string a0_2, .string a0_3, .string a0_4, .string a0_5, .int .i64 a0_6, .int .i64 a0_7] 27 (0, 0))) ∧ Aside0 (wc.heap[gb8]? = some (.cells #[.string t13, .string t26, .string t24, (.slice Ao10 t12.length co10)] 74 (0, 0))) ∧ Aside0 (Below w.heap.size w wc))
     case first =>
      have H := HC38.out
      clear HC38
      by_cases c42 : t40 = true
      ·subst c42
       replace H := ip_ H
       obtain ⟨t44, A43, H⟩ := ob_ H
       have H' := Aside0.mk H
       clear H
       have := NB1_8.out
       have := NB8_1.out
       refine by8_ BK1 ?_; intros
       go_wp2_with (first | (go_at_call 71; (with_reducible refine (impl_within.calls a0_6 0 999999999999 t44 _ A43.out).mono ?_); rintro e w' ⟨rfl, nd, rfl⟩; (try exact dq_)))
       repeat (go_quiet (first | (go_at_call 71; (with_reducible refine (impl_within.calls a0_6 0 999999999999 t44 _ A43.out).mono ?_); rintro e w' ⟨rfl, nd, rfl⟩; (try exact dq_))); try go_wp2_with (first | (go_at_call 71; (with_reducible refine (impl_within.calls a0_6 0 999999999999 t44 _ A43.out).mono ?_); rintro e w' ⟨rfl, nd, rfl⟩; (try exact dq_))))
       go_meet
       case rel => exact ⟨_, (t44), sp_, H', ⟨by have := HJ2.out; have := HJ28.out; first | omega | exact Nat.le_refl _⟩, ⟨by refine cv_ ?_; exact HO_9.out⟩, ⟨ch_ BK1.out⟩, ⟨ch_ BK8.out⟩, ⟨bl_⟩⟩
      ·replace c42 := gf_ c42
       subst c42
       replace H := in_ H
       have H' := Aside0.mk H
       clear H
       go_wp2
       repeat (go_quiet (fail); try go_wp2)
       go_meet
       case rel => exact ⟨_, ((a0_6 == 0)), sp_, H', ⟨by have := HJ2.out; have := HJ28.out; first | omega | exact Nat.le_refl _⟩, ⟨by refine cv_ ?_; exact HO_9.out⟩, ⟨ch_ BK1.out⟩, ⟨ch_ BK8.out⟩, ⟨bl_⟩⟩
     case rest =>
      clear HC38
      obtain ⟨kq, x5_37, rfl, HA, HJ37, HO_9, BK1, BK8, HB⟩ := hcut
      cases kq with
      | zero => exact absurd HA.out (by simp [impl_ReqOk.j2])
      | succ kj37 =>
       have H := HA.out
       clear HA
       simp only [impl_ReqOk.j2] at H
       obtain ⟨t45, A46, H⟩ := ob_ H
       have HC47 := Aside0.mk H
       clear H
       have := NB1_8.out
       have := NB8_1.out
       refine by8_ BK1 ?_; intros
       go_upto_if 59 with (first | (go_at_call 90; (with_reducible refine (impl_uses.calls kj37 a0_0 14 t45 _ A46.out).mono ?_); rintro e w50 ⟨rfl, hb⟩; replace HO_9 := Aside0.mk (Kd.V_below (by refine cv_ ?_; exact HO_9.out) hb); replace BK1 := kb_ BK1 hb; replace BK8 := kb_ BK8 hb; replace HB := hs_ hb; clear hb))
       repeat (go_quiet (first | (go_at_call 90; (with_reducible refine (impl_uses.calls kj37 a0_0 14 t45 _ A46.out).mono ?_); rintro e w50 ⟨rfl, hb⟩; replace HO_9 := Aside0.mk (Kd.V_below (by refine cv_ ?_; exact HO_9.out) hb); replace BK1 := kb_ BK1 hb; replace BK8 := kb_ BK8 hb; replace HB := hs_ hb; clear hb)); go_upto_if 59 with (first | (go_at_call 90; (with_reducible refine (impl_uses.calls kj37 a0_0 14 t45 _ A46.out).mono ?_); rintro e w50 ⟨rfl, hb⟩; replace HO_9 := Aside0.mk (Kd.V_below (by refine cv_ ?_; exact HO_9.out) hb); replace BK1 := kb_ BK1 hb; replace BK8 := kb_ BK8 hb; replace HB := hs_ hb; clear hb)))
       (try simp only [Act.put, List.setIfInBounds_toArray, List.set_cons_zero, List.set_cons_succ])
       go_cut [6] (fun v6 wc => ∃ (kq : Nat) (x6_46 : Bool), v6 = .bool x6_46 ∧ Aside0 (impl_ReqOk.j3 kq x4_28 x5_37 x6_46 (a0_2.toList == ([] : List UInt8)) a0_0 a0_1 a0_2 a0_3 a0_4 a0_5 a0_6 a0_7 = some r) ∧ Aside0 (kq ≤ kj37) ∧ Aside0 (Kd.V (Kd.int .i64) 3 wc w.heap.size (fun k_ => k_ ≠ gb1 ∧ k_ ≠ gb8) (.slice Ao10 t12.length co10) t12) ∧ Aside0 (wc.heap[gb1]? = some (.cells #[.int .i64 a0_0, .string a0_1, .string a0_2, .string a0_3, .string a0_4, .string a0_5, .int .i64 a0_6, .int .i64 a0_7] 27 (0, 0))) ∧ Aside0 (wc.heap[gb8]? = some (.cells #[.string t13, .string t26, .string t24, (.slice Ao10 t12.length co10)] 74 (0, 0))) ∧ Aside0 (Below w.heap.size w wc))
       case first =>
        have H := HC47.out
        clear HC47
        by_cases c51 : t45 = true
        ·subst c51
         replace H := ip_ H
         obtain ⟨t48, A52, H⟩ := ob_ H
         have H' := Aside0.mk H
         clear H
         have := NB1_8.out
         have := NB8_1.out
         refine by8_ BK1 ?_; intros
         go_wp2_with (first | (go_at_call 71; (with_reducible refine (impl_within.calls a0_7 0 9999 t48 _ A52.out).mono ?_); rintro e w' ⟨rfl, nd, rfl⟩; (try exact dq_)))
         repeat (go_quiet (first | (go_at_call 71; (with_reducible refine (impl_within.calls a0_7 0 9999 t48 _ A52.out).mono ?_); rintro e w' ⟨rfl, nd, rfl⟩; (try exact dq_))); try go_wp2_with (first | (go_at_call 71; (with_reducible refine (impl_within.calls a0_7 0 9999 t48 _ A52.out).mono ?_); rintro e w' ⟨rfl, nd, rfl⟩; (try exact dq_))))
         go_meet
         case rel => exact ⟨_, (t48), sp_, H', ⟨by have := HJ2.out; have := HJ28.out; have := HJ37.out; first | omega | exact Nat.le_refl _⟩, ⟨by refine cv_ ?_; exact HO_9.out⟩, ⟨ch_ BK1.out⟩, ⟨ch_ BK8.out⟩, ⟨bl_⟩⟩
        ·replace c51 := gf_ c51
         subst c51
         replace H := in_ H
         have H' := Aside0.mk H
         clear H
         go_wp2
         repeat (go_quiet (fail); try go_wp2)
         go_meet
         case rel => exact ⟨_, ((a0_7 == 0)), sp_, H', ⟨by have := HJ2.out; have := HJ28.out; have := HJ37.out; first | omega | exact Nat.le_refl _⟩, ⟨by refine cv_ ?_; exact HO_9.out⟩, ⟨ch_ BK1.out⟩, ⟨ch_ BK8.out⟩, ⟨bl_⟩⟩
       case rest =>
        clear HC47
        obtain ⟨kq, x6_46, rfl, HA, HJ46, HO_9, BK1, BK8, HB⟩ := hcut
        cases kq with
        | zero => exact absurd HA.out (by simp [impl_ReqOk.j3])
        | succ kj46 =>
         have H := HA.out
         clear HA
         simp only [impl_ReqOk.j3] at H
         obtain ⟨t53, A55, H⟩ := ob_ H
         by_cases c56 : t53 = true
         ·subst c56
          replace H := ip_ H
          obtain ⟨t19, A57, H⟩ := ob_ H
          by_cases c58 : x4_28 = true
          rotate_left
          ·replace c58 := gf_ c58
           subst c58
           replace H := in_ H
           obtain rfl := si_ H
           have := NB1_8.out
           have := NB8_1.out
           refine by8_ BK1 ?_; intros
           go_wp2_with (first | (go_at_call 90; (with_reducible refine (impl_uses.calls kj46 a0_0 103 true _ A55.out).mono ?_); rintro e w75 ⟨rfl, hb⟩; replace HO_9 := Aside0.mk (Kd.V_below (by refine cv_ ?_; exact HO_9.out) hb); replace BK1 := kb_ BK1 hb; replace BK8 := kb_ BK8 hb; replace HB := hs_ hb; clear hb; refine by8_ BK1 ?_; intros) | (go_at_call 89; (with_reducible refine (impl_AcctIdOk.calls kj46 a0_2 t19 _ A57.out).mono ?_); rintro e w' ⟨rfl, nd, rfl⟩; (try exact dq_)))
           repeat (go_quiet (first | (go_at_call 90; (with_reducible refine (impl_uses.calls kj46 a0_0 103 true _ A55.out).mono ?_); rintro e w75 ⟨rfl, hb⟩; replace HO_9 := Aside0.mk (Kd.V_below (by refine cv_ ?_; exact HO_9.out) hb); replace BK1 := kb_ BK1 hb; replace BK8 := kb_ BK8 hb; replace HB := hs_ hb; clear hb; refine by8_ BK1 ?_; intros) | (go_at_call 89; (with_reducible refine (impl_AcctIdOk.calls kj46 a0_2 t19 _ A57.out).mono ?_); rintro e w' ⟨rfl, nd, rfl⟩; (try exact dq_))); try go_wp2_with (first | (go_at_call 90; (with_reducible refine (impl_uses.calls kj46 a0_0 103 true _ A55.out).mono ?_); rintro e w75 ⟨rfl, hb⟩; replace HO_9 := Aside0.mk (Kd.V_below (by refine cv_ ?_; exact HO_9.out) hb); replace BK1 := kb_ BK1 hb; replace BK8 := kb_ BK8 hb; replace HB := hs_ hb; clear hb; refine by8_ BK1 ?_; intros) | (go_at_call 89; (with_reducible refine (impl_AcctIdOk.calls kj46 a0_2 t19 _ A57.out).mono ?_); rintro e w' ⟨rfl, nd, rfl⟩; (try exact dq_))))
           go_ret
           exact ⟨sq_, bl_⟩
          subst c58
          replace H := ip_ H
          by_cases c59 : x5_37 = true
          ·subst c59
           replace H := ip_ H
           by_cases c60 : x6_46 = true
           ·subst c60
            replace H := ip_ H
            obtain rfl := si_ H
            have := NB1_8.out
            have := NB8_1.out
            refine by8_ BK1 ?_; intros
            go_wp2_with (first | (go_at_call 90; (with_reducible refine (impl_uses.calls kj46 a0_0 103 true _ A55.out).mono ?_); rintro e w63 ⟨rfl, hb⟩; replace HO_9 := Aside0.mk (Kd.V_below (by refine cv_ ?_; exact HO_9.out) hb); replace BK1 := kb_ BK1 hb; replace BK8 := kb_ BK8 hb; replace HB := hs_ hb; clear hb; refine by8_ BK1 ?_; intros) | (go_at_call 89; (with_reducible refine (impl_AcctIdOk.calls kj46 a0_2 t19 _ A57.out).mono ?_); rintro e w' ⟨rfl, nd, rfl⟩; (try exact dq_)))
            repeat (go_quiet (first | (go_at_call 90; (with_reducible refine (impl_uses.calls kj46 a0_0 103 true _ A55.out).mono ?_); rintro e w63 ⟨rfl, hb⟩; replace HO_9 := Aside0.mk (Kd.V_below (by refine cv_ ?_; exact HO_9.out) hb); replace BK1 := kb_ BK1 hb; replace BK8 := kb_ BK8 hb; replace HB := hs_ hb; clear hb; refine by8_ BK1 ?_; intros) | (go_at_call 89; (with_reducible refine (impl_AcctIdOk.calls kj46 a0_2 t19 _ A57.out).mono ?_); rintro e w' ⟨rfl, nd, rfl⟩; (try exact dq_))); try go_wp2_with (first | (go_at_call 90; (with_reducible refine (impl_uses.calls kj46 a0_0 103 true _ A55.out).mono ?_); rintro e w63 ⟨rfl, hb⟩; replace HO_9 := Aside0.mk (Kd.V_below (by refine cv_ ?_; exact HO_9.out) hb); replace BK1 := kb_ BK1 hb; replace BK8 := kb_ BK8 hb; replace HB := hs_ hb; clear hb; refine by8_ BK1 ?_; intros) | (go_at_call 89; (with_reducible refine (impl_AcctIdOk.calls kj46 a0_2 t19 _ A57.out).mono ?_); rintro e w' ⟨rfl, nd, rfl⟩; (try exact dq_))))
            go_ret
            exact ⟨sq_, bl_⟩
           replace c60 := gf_ c60
           subst c60
           replace H := in_ H
           obtain rfl := si_ H
           have := NB1_8.out
           have := NB8_1.out
           refine by8_ BK1 ?_; intros
           go_wp2_with (first | (go_at_call 90; (with_reducible refine (impl_uses.calls kj46 a0_0 103 true _ A55.out).mono ?_); rintro e w67 ⟨rfl, hb⟩; replace HO_9 := Aside0.mk (Kd.V_below (by refine cv_ ?_; exact HO_9.out) hb); replace BK1 := kb_ BK1 hb; replace BK8 := kb_ BK8 hb; replace HB := hs_ hb; clear hb; refine by8_ BK1 ?_; intros) | (go_at_call 89; (with_reducible refine (impl_AcctIdOk.calls kj46 a0_2 t19 _ A57.out).mono ?_); rintro e w' ⟨rfl, nd, rfl⟩; (try exact dq_)))
           repeat (go_quiet (first | (go_at_call 90; (with_reducible refine (impl_uses.calls kj46 a0_0 103 true _ A55.out).mono ?_); rintro e w67 ⟨rfl, hb⟩; replace HO_9 := Aside0.mk (Kd.V_below (by refine cv_ ?_; exact HO_9.out) hb); replace BK1 := kb_ BK1 hb; replace BK8 := kb_ BK8 hb; replace HB := hs_ hb; clear hb; refine by8_ BK1 ?_; intros) | (go_at_call 89; (with_reducible refine (impl_AcctIdOk.calls kj46 a0_2 t19 _ A57.out).mono ?_); rintro e w' ⟨rfl, nd, rfl⟩; (try exact dq_))); try go_wp2_with (first | (go_at_call 90; (with_reducible refine (impl_uses.calls kj46 a0_0 103 true _ A55.out).mono ?_); rintro e w67 ⟨rfl, hb⟩; replace HO_9 := Aside0.mk (Kd.V_below (by refine cv_ ?_; exact HO_9.out) hb); replace BK1 := kb_ BK1 hb; replace BK8 := kb_ BK8 hb; replace HB := hs_ hb; clear hb; refine by8_ BK1 ?_; intros) | (go_at_call 89; (with_reducible refine (impl_AcctIdOk.calls kj46 a0_2 t19 _ A57.out).mono ?_); rintro e w' ⟨rfl, nd, rfl⟩; (try exact dq_))))
           go_ret
           exact ⟨sq_, bl_⟩
          ·replace c59 := gf_ c59
           subst c59
           replace H := in_ H
           obtain rfl := si_ H
           have := NB1_8.out
           have := NB8_1.out
           refine by8_ BK1 ?_; intros
           go_wp2_with (first | (go_at_call 90; (with_reducible refine (impl_uses.calls kj46 a0_0 103 true _ A55.out).mono ?_); rintro e w71 ⟨rfl, hb⟩; replace HO_9 := Aside0.mk (Kd.V_below (by refine cv_ ?_; exact HO_9.out) hb); replace BK1 := kb_ BK1 hb; replace BK8 := kb_ BK8 hb; replace HB := hs_ hb; clear hb; refine by8_ BK1 ?_; intros) | (go_at_call 89; (with_reducible refine (impl_AcctIdOk.calls kj46 a0_2 t19 _ A57.out).mono ?_); rintro e w' ⟨rfl, nd, rfl⟩; (try exact dq_)))
           repeat (go_quiet (first | (go_at_call 90; (with_reducible refine (impl_uses.calls kj46 a0_0 103 true _ A55.out).mono ?_); rintro e w71 ⟨rfl, hb⟩; replace HO_9 := Aside0.mk (Kd.V_below (by refine cv_ ?_; exact HO_9.out) hb); replace BK1 := kb_ BK1 hb; replace BK8 := kb_ BK8 hb; replace HB := hs_ hb; clear hb; refine by8_ BK1 ?_; intros) | (go_at_call 89; (with_reducible refine (impl_AcctIdOk.calls kj46 a0_2 t19 _ A57.out).mono ?_); rintro e w' ⟨rfl, nd, rfl⟩; (try exact dq_))); try go_wp2_with (first | (go_at_call 90; (with_reducible refine (impl_uses.calls kj46 a0_0 103 true _ A55.out).mono ?_); rintro e w71 ⟨rfl, hb⟩; replace HO_9 := Aside0.mk (Kd.V_below (by refine cv_ ?_; exact HO_9.out) hb); replace BK1 := kb_ BK1 hb; replace BK8 := kb_ BK8 hb; replace HB := hs_ hb; clear hb; refine by8_ BK1 ?_; intros) | (go_at_call 89; (with_reducible refine (impl_AcctIdOk.calls kj46 a0_2 t19 _ A57.out).mono ?_); rintro e w' ⟨rfl, nd, rfl⟩; (try exact dq_))))
           go_ret
           exact ⟨sq_, bl_⟩
         replace c56 := gf_ c56
         subst c56
         replace H := in_ H
         by_cases c77 : x4_28 = true
         rotate_left
         ·replace c77 := gf_ c77
          subst c77
          replace H := in_ H
          obtain rfl := si_ H
          have := NB1_8.out
          have := NB8_1.out
          refine by8_ BK1 ?_; intros
          go_wp2_with (first | (go_at_call 90; (with_reducible refine (impl_uses.calls kj46 a0_0 103 false _ A55.out).mono ?_); rintro e w91 ⟨rfl, hb⟩; replace HO_9 := Aside0.mk (Kd.V_below (by refine cv_ ?_; exact HO_9.out) hb); replace BK1 := kb_ BK1 hb; replace BK8 := kb_ BK8 hb; replace HB := hs_ hb; clear hb))
          repeat (go_quiet (first | (go_at_call 90; (with_reducible refine (impl_uses.calls kj46 a0_0 103 false _ A55.out).mono ?_); rintro e w91 ⟨rfl, hb⟩; replace HO_9 := Aside0.mk (Kd.V_below (by refine cv_ ?_; exact HO_9.out) hb); replace BK1 := kb_ BK1 hb; replace BK8 := kb_ BK8 hb; replace HB := hs_ hb; clear hb)); try go_wp2_with (first | (go_at_call 90; (with_reducible refine (impl_uses.calls kj46 a0_0 103 false _ A55.out).mono ?_); rintro e w91 ⟨rfl, hb⟩; replace HO_9 := Aside0.mk (Kd.V_below (by refine cv_ ?_; exact HO_9.out) hb); replace BK1 := kb_ BK1 hb; replace BK8 := kb_ BK8 hb; replace HB := hs_ hb; clear hb)))
          go_ret
          exact ⟨sq_, bl_⟩
         subst c77
         replace H := ip_ H
         by_cases c78 : x5_37 = true
         ·subst c78
          replace H := ip_ H
          by_cases c79 : x6_46 = true
          ·subst c79
           replace H := ip_ H
           obtain rfl := si_ H
           have := NB1_8.out
           have := NB8_1.out
           refine by8_ BK1 ?_; intros
           go_wp2_with (first | (go_at_call 90; (with_reducible refine (impl_uses.calls kj46 a0_0 103 false _ A55.out).mono ?_); rintro e w82 ⟨rfl, hb⟩; replace HO_9 := Aside0.mk (Kd.V_below (by refine cv_ ?_; exact HO_9.out) hb); replace BK1 := kb_ BK1 hb; replace BK8 := kb_ BK8 hb; replace HB := hs_ hb; clear hb))
           repeat (go_quiet (first | (go_at_call 90; (with_reducible refine (impl_uses.calls kj46 a0_0 103 false _ A55.out).mono ?_); rintro e w82 ⟨rfl, hb⟩; replace HO_9 := Aside0.mk (Kd.V_below (by refine cv_ ?_; exact HO_9.out) hb); replace BK1 := kb_ BK1 hb; replace BK8 := kb_ BK8 hb; replace HB := hs_ hb; clear hb)); try go_wp2_with (first | (go_at_call 90; (with_reducible refine (impl_uses.calls kj46 a0_0 103 false _ A55.out).mono ?_); rintro e w82 ⟨rfl, hb⟩; replace HO_9 := Aside0.mk (Kd.V_below (by refine cv_ ?_; exact HO_9.out) hb); replace BK1 := kb_ BK1 hb; replace BK8 := kb_ BK8 hb; replace HB := hs_ hb; clear hb)))
           go_ret
           exact ⟨sq_, bl_⟩
          replace c79 := gf_ c79
          subst c79
          replace H := in_ H
          obtain rfl := si_ H
          have := NB1_8.out
          have := NB8_1.out
          refine by8_ BK1 ?_; intros
          go_wp2_with (first | (go_at_call 90; (with_reducible refine (impl_uses.calls kj46 a0_0 103 false _ A55.out).mono ?_); rintro e w85 ⟨rfl, hb⟩; replace HO_9 := Aside0.mk (Kd.V_below (by refine cv_ ?_; exact HO_9.out) hb); replace BK1 := kb_ BK1 hb; replace BK8 := kb_ BK8 hb; replace HB := hs_ hb; clear hb))
          repeat (go_quiet (first | (go_at_call 90; (with_reducible refine (impl_uses.calls kj46 a0_0 103 false _ A55.out).mono ?_); rintro e w85 ⟨rfl, hb⟩; replace HO_9 := Aside0.mk (Kd.V_below (by refine cv_ ?_; exact HO_9.out) hb); replace BK1 := kb_ BK1 hb; replace BK8 := kb_ BK8 hb; replace HB := hs_ hb; clear hb)); try go_wp2_with (first | (go_at_call 90; (with_reducible refine (impl_uses.calls kj46 a0_0 103 false _ A55.out).mono ?_); rintro e w85 ⟨rfl, hb⟩; replace HO_9 := Aside0.mk (Kd.V_below (by refine cv_ ?_; exact HO_9.out) hb); replace BK1 := kb_ BK1 hb; replace BK8 := kb_ BK8 hb; replace HB := hs_ hb; clear hb)))
          go_ret
          exact ⟨sq_, bl_⟩
         ·replace c78 := gf_ c78
          subst c78
          replace H := in_ H
          obtain rfl := si_ H
          have := NB1_8.out
          have := NB8_1.out
          refine by8_ BK1 ?_; intros
          go_wp2_with (first | (go_at_call 90; (with_reducible refine (impl_uses.calls kj46 a0_0 103 false _ A55.out).mono ?_); rintro e w88 ⟨rfl, hb⟩; replace HO_9 := Aside0.mk (Kd.V_below (by refine cv_ ?_; exact HO_9.out) hb); replace BK1 := kb_ BK1 hb; replace BK8 := kb_ BK8 hb; replace HB := hs_ hb; clear hb))
          repeat (go_quiet (first | (go_at_call 90; (with_reducible refine (impl_uses.calls kj46 a0_0 103 false _ A55.out).mono ?_); rintro e w88 ⟨rfl, hb⟩; replace HO_9 := Aside0.mk (Kd.V_below (by refine cv_ ?_; exact HO_9.out) hb); replace BK1 := kb_ BK1 hb; replace BK8 := kb_ BK8 hb; replace HB := hs_ hb; clear hb)); try go_wp2_with (first | (go_at_call 90; (with_reducible refine (impl_uses.calls kj46 a0_0 103 false _ A55.out).mono ?_); rintro e w88 ⟨rfl, hb⟩; replace HO_9 := Aside0.mk (Kd.V_below (by refine cv_ ?_; exact HO_9.out) hb); replace BK1 := kb_ BK1 hb; replace BK8 := kb_ BK8 hb; replace HB := hs_ hb; clear hb)))
          go_ret
          exact ⟨sq_, bl_⟩
/-! ### opRows_index: function 49, handed function 51 -/
theorem opRows_index.rdN {xs : List S74} {x : Int} (h : x.toNat < xs.length) : rd_T74 xs x = xs[x.toNat] := by
 unfold rd_T74
 rw [List.getD_eq_getElem?_getD, List.getElem?_eq_getElem h]; rfl
def opRows_index.idxF (p : S74 → Bool) (xs : List S74) : Int := match xs.findIdx? p with | some j => (j : Int) | none => -1
theorem opRows_index.idxF_none (p : S74 → Bool) (xs : List S74) (h : ∀ j (hj : j < xs.length), p xs[j] = false) : opRows_index.idxF p xs = -1 := by
 unfold opRows_index.idxF
 have : xs.findIdx? p = none := by
  rw [List.findIdx?_eq_none_iff]
  intro x hx
  obtain ⟨j, hj, rfl⟩ := List.getElem_of_mem hx
  exact h j hj
 rw [this]
theorem opRows_index.idxF_some (p : S74 → Bool) (xs : List S74) (i : Nat) (hi : i < xs.length) (hp : p xs[i] = true) (h : ∀ j (hj : j < i), p (xs[j]'(by omega)) = false) : opRows_index.idxF p xs = (i : Int) := by
 unfold opRows_index.idxF
 have : xs.findIdx? p = some i := by
  rw [List.findIdx?_eq_some_iff_getElem]
  exact ⟨hi, hp, fun j hj => by simpa using h j hj⟩
 rw [this]
theorem opRows_index.idx (A0 : Option Addr) (c0 : Nat) (l0 : List S74) (g : Nat) (lb : Array Value) (p : S74 → Bool) (w : World) (hr0 : Kd.C k74 w A0 l0.length l0) (hc0 : l0.length ≤ c0)
  (eg : ∀ args w, (callFunc g args).run Tryz.prog w = .ok (.enter g args) w)
  (hp : ∀ (W : World) (x : S74) (A3 : Option Addr) (c3 : Nat), Below w.heap.size w W → Calls Tryz.prog g (#[.agg #[.string x.f0, .string x.f1, .string x.f2, .slice A3 x.f3.length c3]] ++ lb) W fun e w' => e = .returned (.bool (p x)) ∧ Below W.heap.size W w') :
  Calls Tryz.prog 49 #[.slice A0 l0.length c0, .func (.func g) #[] lb] w fun e w' => e = .returned (.int .i64 (opRows_index.idxF p l0)) ∧ Below w.heap.size w w' := by
 have hlen : l0.length ≤ 9223372036854775807 := hr0.2.1
 have HR0 := Aside0.mk hr0
 have HL := Aside0.mk hlen
 have HP := Aside0.mk hp
 clear hr0 hp
 have HB := Aside0.mk (Below.refl w.heap.size w)
 have hu74 := underlying74
 clear hlen hc0
 go_enter func49, ntmps49
 go_wp2
 go_loopg [5, 8] l0.length (fun gg _ s8 wr => ∃ x : Int, s8 = .int .i64 x ∧ Aside0 (0 ≤ x) ∧ Aside0 (x ≤ l0.length) ∧ Aside0 (l0.length - x.toNat ≤ gg) ∧ Aside0 (∀ j (hj : j < l0.length), (j : Int) < x → p l0[j] = false) ∧ Aside0 (Below w.heap.size w wr))
 case atStart => exact ⟨0, rfl, ⟨by omega⟩, ⟨by omega⟩, ⟨by omega⟩, ⟨fun j hj h => by omega⟩, ⟨Below.refl _ w⟩⟩
 case round =>
  obtain ⟨x, rfl, H0, H1, HG, AF, HB⟩ := hrel
  by_cases hlt : x < (l0.length : Int)
  rotate_left
  ·have c0 : decide (x < (l0.length : Int)) = false := decide_eq_false hlt
   have HN := Aside0.mk hlt
   clear hlt
   go_wp2
   go_ret
   exact ⟨by show Ending.returned (Value.int .i64 (-1)) = _; rw [opRows_index.idxF_none p l0 (fun j hj => AF.out j hj (by have := HN.out; omega))], HB.out⟩
  have hN : x.toNat < l0.length := by have := H0.out; omega
  have HN := Aside0.mk hN
  have c0 : decide (x < (l0.length : Int)) = true := decide_eq_true hlt
  obtain ⟨ad, A3, c3, e, hx0, hx1, hx2, hx3, hl3, hi3⟩ := at_T74 HR0.out x H0.out hlt
  cases e
  replace hx0 := kc_ HB hx0
  replace hx1 := kc_ HB hx1
  replace hx2 := kc_ HB hx2
  replace hx3 := kc_ HB hx3
  have p0 := eq_true H0.out
  have q0 := eq_true hlt
  clear hN hlt
  have HX := Aside0.mk (opRows_index.rdN HN.out)
  cases hq : p (rd_T74 l0 x) with
  | true =>
   have HC := Aside0.mk (hq ▸ HP.out wr (rd_T74 l0 x) A3 c3 HB.out)
   have HQ := Aside0.mk hq
   clear hq
   go_wp2_with (go_at_fn g; refine HC.out.mono ?_; rintro e w' ⟨rfl, hb'⟩)
   go_ret
   exact ⟨by show Ending.returned (Value.int .i64 x) = _; rw [opRows_index.idxF_some p l0 x.toNat HN.out (by rw [← HX.out]; exact HQ.out) (fun j hj => AF.out j (by have := HN.out; omega) (by omega)), Int.toNat_of_nonneg H0.out], below_step HB.out hb'⟩
  | false =>
   have HC := Aside0.mk (hq ▸ HP.out wr (rd_T74 l0 x) A3 c3 HB.out)
   have HQ := Aside0.mk hq
   clear hq
   go_wp2_with (go_at_fn g; refine HC.out.mono ?_; rintro e w' ⟨rfl, hb'⟩; have HB' := Aside0.mk hb'; clear hb')
   have hw := HL.out
   have e1 : wrap64 (x + 1) = x + 1 := by have := HN.out; have := H0.out; unfold wrap64; omega
   go_roundg (l0.length - (x.toNat + 1))
   case measure => have := HG.out; have := HN.out; omega
   case rel =>
    have hN := HN.out
    have h0 := H0.out
    refine ⟨wrap64 (x + 1), (by first | rfl | (simp; done) | (simp [*]; done)), ⟨by omega⟩, ⟨by omega⟩, ⟨by omega⟩, ⟨fun j hj h => ?_⟩, ⟨below_step HB.out HB'.out⟩⟩
    by_cases e : j = x.toNat
    ·subst e; rw [← HX.out]; exact HQ.out
    exact AF.out j hj (by omega)
def opRows_index.T1 : Bool × List (List Nat × List Nat) := (true, [([], []), ([0], [0]), ([], []), ([2], [2]), ([1, 3], [1, 3]), ([4], [4]), ([5], [5]), ([6, 5], [5, 6]), ([5], [5]), ([8, 5], [5, 8]), ([7, 9, 5], [5, 7, 9]), ([5, 10], [5, 10]), ([11, 5, 0, 1, 2, 3, 4, 5, 6, 7, 8, 9, 10, 11], [11])])
def opRows_index.B1 : List Nat := [0, 1, 0, 4, 15, 31, 63, 127, 63, 319, 1023, 2047, 4095]
theorem opRows_index.tab1 : rtab .any (opsOf Tryz.f51 1) = opRows_index.T1 := by kernel_rfl
theorem opRows_index.bits1 : waitsOk opRows_index.T1.2 opRows_index.B1 = true := by kernel_rfl
theorem opRows_index.clo (x : S74) (A3 : Option Addr) (c3 : Nat) (a1 a2 : ByteArray) (hl : 2 ≤ a2.size) (B1 B2 : Nat) (v1 : Value) (w : World) (h1 : w.heap[B1]? = some (.cells #[.string a1, v1] 32 (0, 0))) (h2 : w.heap[B2]? = some (.cells #[.string a2] 9 (0, 0))) :
  Calls Tryz.prog 51 #[.agg #[.string x.f0, .string x.f1, .string x.f2, .slice A3 x.f3.length c3], .pointer (some ⟨B1, 0, none⟩), .pointer (some ⟨B2, 0, none⟩)] w fun e w' => e = .returned (.bool ((fun x => x.f0.toList == a1.toList && x.f1.toList == (a2.extract 0 2).toList) x)) ∧ Below w.heap.size w w' := by
 have hu74 := underlying74
 have hu32 := underlying32
 have hlt1 := blk_lt h1
 have hc1 := blk_cell h1 0
 have hf1 := blk_frozen h1 0
 have hlt2 := blk_lt h2
 have hc2 := blk_cell h2 0
 have hf2 := blk_frozen h2 0
 have q0 : ((2 : Int) ≤ (a2.size : Int)) = True := eq_true (by omega)
 have q1 : decide ((2 : Int) ≤ (a2.size : Int)) = true := decide_eq_true (by omega)
 have q2 : (2 ≤ a2.size) = True := eq_true hl
 cases hq : (x.f0.toList == a1.toList) with
 | true =>
  go_enter func51, ntmps51
  try go_wp2
  have K0 : (w.alloc (.cells #[.string x.f0, .string x.f1, .string x.f2, .slice A3 x.f3.length c3] 74)).heap[w.heap.size]? = some (.cells #[.string x.f0, .string x.f1, .string x.f2, .slice A3 x.f3.length c3] 74 (0, 0)) := heap_alloc_new w _
  have K1 := blk_alloc h1 (.cells #[.string x.f0, .string x.f1, .string x.f2, .slice A3 x.f3.length c3] 74)
  have K2 := blk_alloc h2 (.cells #[.string x.f0, .string x.f1, .string x.f2, .slice A3 x.f3.length c3] 74)
  have HB := Aside0.mk (below_drew1 (below_alloc (Below.refl w.heap.size w) (.cells #[.string x.f0, .string x.f1, .string x.f2, .slice A3 x.f3.length c3] 74)))
  have D0 := Aside0.mk (blk_drew K0)
  have D1 := Aside0.mk (blk_drew K1)
  have D2 := Aside0.mk (blk_drew K2)
  refine start_ (n := 13) (S := fun w' => w'.cell? ⟨w.heap.size, 0, none⟩ = some (.string x.f0) ∧ w'.cell? ⟨w.heap.size, 1, none⟩ = some (.string x.f1) ∧ w'.cell? ⟨B1, 0, none⟩ = some (.string a1) ∧ w'.cell? ⟨B2, 0, none⟩ = some (.string a2)) (ds := []) tb13_0 (by kernel_rfl) rfl rfl ⟨cy_ D0 0, cy_ D0 1, cy_ D1 0, cy_ D2 0⟩ (fun hHeld => ?_)
  refine with_tabW opRows_index.tab1 opRows_index.bits1 (fun HT_ HW_ => ?_)
  clear K0 K1 K2 D0 D1 D2 hc1 hf1 hc2 hf2
  generalize (w.alloc (.cells #[.string x.f0, .string x.f1, .string x.f2, .slice A3 x.f3.length c3] 74)).drew = w2 at HB hHeld ⊢
  refine pl_ HT_ 0 5 tb13_1 ?_
  refine pl_ HT_ 2 7 tb13_5 ?_
  refine take_ (i := 1) (N := some 6) (v := ?_) (a' := ?_) tb13_7 rfl rfl (take_ofW HT_.out HW_.out (by kernel_rfl)) (fun _ _ _ h => h) (Or.inl ⟨by rfl, ?_⟩) hHeld ?_ ?_
  rotate_left
  ·rintro w' ⟨s0, s1, s2, s3⟩
   go_simp
   with_reducible rfl
  rotate_left
  ·simp only [Act.put, q_]
   rfl
  refine take_ (i := 3) (N := some 8) (v := ?_) (a' := ?_) tb13_f rfl rfl (take_ofW HT_.out HW_.out (by kernel_rfl)) (fun _ _ _ h => h) (Or.inl ⟨by rfl, ?_⟩) hHeld ?_ ?_
  rotate_left
  ·rintro w' ⟨s0, s1, s2, s3⟩
   go_simp
   with_reducible rfl
  rotate_left
  ·simp only [Act.put, q_]
   rfl
  refine pl_ HT_ 4 9 tb13_1f ?_
  refine pl_ HT_ 5 10 tb13_3f ?_
  refine pl_ HT_ 6 11 tb13_7f ?_
  refine take_ (i := 8) (N := some 13) (v := ?_) (a' := ?_) tb13_17f rfl rfl (take_ofW HT_.out HW_.out (by kernel_rfl)) (fun _ _ _ h => h) (Or.inl ⟨by rfl, ?_⟩) hHeld ?_ ?_
  rotate_left
  ·rintro w' ⟨s0, s1, s2, s3⟩
   go_simp
   with_reducible rfl
  rotate_left
  ·simp only [Act.put, q_]
   rfl
  refine take_ (i := 7) (N := some 12) (v := ?_) (a' := ?_) tb13_1ff rfl rfl (take_ofW HT_.out HW_.out (by kernel_rfl)) (fun _ _ _ h => h) (Or.inl ⟨by rfl, ?_⟩) hHeld ?_ ?_
  rotate_left
  ·rintro w' ⟨s0, s1, s2, s3⟩
   go_simp
   with_reducible rfl
  rotate_left
  ·simp only [Act.put, q_]
   rfl
  refine pl_ HT_ 9 14 tb13_3ff ?_
  refine pl_ HT_ 10 15 tb13_7ff ?_
  refine pl_ HT_ 11 16 tb13_fff ?_
  refine pl_ HT_ 12 4 tb13_1fff ?_
  refine done_ (done_of HT_.out (by kernel_rfl)) ?_
  try go_wp2
  go_ret
  exact ⟨by simp [hq], bl_⟩
 | false =>
  go_enter func51, ntmps51
  try go_wp2
  have K0 : (w.alloc (.cells #[.string x.f0, .string x.f1, .string x.f2, .slice A3 x.f3.length c3] 74)).heap[w.heap.size]? = some (.cells #[.string x.f0, .string x.f1, .string x.f2, .slice A3 x.f3.length c3] 74 (0, 0)) := heap_alloc_new w _
  have K1 := blk_alloc h1 (.cells #[.string x.f0, .string x.f1, .string x.f2, .slice A3 x.f3.length c3] 74)
  have K2 := blk_alloc h2 (.cells #[.string x.f0, .string x.f1, .string x.f2, .slice A3 x.f3.length c3] 74)
  have HB := Aside0.mk (below_drew1 (below_alloc (Below.refl w.heap.size w) (.cells #[.string x.f0, .string x.f1, .string x.f2, .slice A3 x.f3.length c3] 74)))
  have D0 := Aside0.mk (blk_drew K0)
  have D1 := Aside0.mk (blk_drew K1)
  have D2 := Aside0.mk (blk_drew K2)
  refine start_ (n := 13) (S := fun w' => w'.cell? ⟨w.heap.size, 0, none⟩ = some (.string x.f0) ∧ w'.cell? ⟨w.heap.size, 1, none⟩ = some (.string x.f1) ∧ w'.cell? ⟨B1, 0, none⟩ = some (.string a1) ∧ w'.cell? ⟨B2, 0, none⟩ = some (.string a2)) (ds := []) tb13_0 (by kernel_rfl) rfl rfl ⟨cy_ D0 0, cy_ D0 1, cy_ D1 0, cy_ D2 0⟩ (fun hHeld => ?_)
  refine with_tabW opRows_index.tab1 opRows_index.bits1 (fun HT_ HW_ => ?_)
  clear K0 K1 K2 D0 D1 D2 hc1 hf1 hc2 hf2
  generalize (w.alloc (.cells #[.string x.f0, .string x.f1, .string x.f2, .slice A3 x.f3.length c3] 74)).drew = w2 at HB hHeld ⊢
  refine pl_ HT_ 0 5 tb13_1 ?_
  refine pl_ HT_ 2 7 tb13_5 ?_
  refine take_ (i := 1) (N := some 6) (v := ?_) (a' := ?_) tb13_7 rfl rfl (take_ofW HT_.out HW_.out (by kernel_rfl)) (fun _ _ _ h => h) (Or.inl ⟨by rfl, ?_⟩) hHeld ?_ ?_
  rotate_left
  ·rintro w' ⟨s0, s1, s2, s3⟩
   go_simp
   with_reducible rfl
  rotate_left
  ·simp only [Act.put, q_]
   rfl
  refine take_ (i := 3) (N := some 8) (v := ?_) (a' := ?_) tb13_f rfl rfl (take_ofW HT_.out HW_.out (by kernel_rfl)) (fun _ _ _ h => h) (Or.inl ⟨by rfl, ?_⟩) hHeld ?_ ?_
  rotate_left
  ·rintro w' ⟨s0, s1, s2, s3⟩
   go_simp
   with_reducible rfl
  rotate_left
  ·simp only [Act.put, q_]
   rfl
  refine pl_ HT_ 4 9 tb13_1f ?_
  refine pl_ HT_ 5 10 tb13_3f ?_
  refine pr_ HT_ 6 11 tb13_7f ?_
  refine pr_ HT_ 7 12 tb13_ff ?_
  refine pr_ HT_ 8 13 tb13_1ff ?_
  refine pr_ HT_ 9 14 tb13_3ff ?_
  refine pr_ HT_ 10 15 tb13_7ff ?_
  refine pl_ HT_ 11 16 tb13_fff ?_
  refine pl_ HT_ 12 4 tb13_1fff ?_
  refine done_ (done_of HT_.out (by kernel_rfl)) ?_
  try go_wp2
  go_ret
  exact ⟨by simp [hq], bl_⟩
def opRows_index.f (l0 : List S74) (a1 : ByteArray) (a2 : ByteArray) : Option (Int) := if 2 ≤ a2.size then some (opRows_index.idxF (fun x => x.f0.toList == a1.toList && x.f1.toList == (a2.extract 0 2).toList) l0) else none
theorem opRows_index.calls (A0 : Option Addr) (c0 : Nat) (l0 : List S74) (a1 : ByteArray) (a2 : ByteArray) (r : Int) (B1 B2 : Nat) (v1 : Value) (w : World) (hr0 : Kd.C k74 w A0 l0.length l0) (hc0 : l0.length ≤ c0) (h1 : w.heap[B1]? = some (.cells #[.string a1, v1] 32 (0, 0))) (h2 : w.heap[B2]? = some (.cells #[.string a2] 9 (0, 0))) (h : opRows_index.f l0 a1 a2 = some r) :
  Calls Tryz.prog 49 #[.slice A0 l0.length c0, .func (.func 51) #[] #[.pointer (some ⟨B1, 0, none⟩), .pointer (some ⟨B2, 0, none⟩)]] w fun e w' => e = .returned (.int .i64 r) ∧ Below w.heap.size w w' := by
 unfold opRows_index.f at h
 split at h
 case isFalse => cases h
 case isTrue hl =>
 obtain rfl := Option.some.inj h
 exact opRows_index.idx A0 c0 l0 51 #[.pointer (some ⟨B1, 0, none⟩), .pointer (some ⟨B2, 0, none⟩)] (fun x => x.f0.toList == a1.toList && x.f1.toList == (a2.extract 0 2).toList) w hr0 hc0 (fun _ _ => by kernel_rfl) (fun W x A3 c3 hb => opRows_index.clo x A3 c3 a1 a2 hl B1 B2 v1 W ((hb.block _ (blk_lt h1)).trans h1) ((hb.block _ (blk_lt h2)).trans h2))
/-! ### impl_ReqOf: function 11 -/
def impl_ReqOf.l0 : Nat → List Int → Int → Int → ByteArray → List (S91) → Int → ByteArray → ByteArray → ByteArray → ByteArray → ByteArray → Int → Int → Option (Int × ByteArray × ByteArray × ByteArray × ByteArray × ByteArray × Int × Int × Int)
 | 0, _, _, _, _, _, _, _, _, _, _, _, _, _ => none
 | k + 1, x41, x42, x43, x69, x70, x53, x26, x28, x29, x33, x54, x36, x47 => if x43 < x42 then (if 0 ≤ x43 then (if x43 < (x41.length : Int) then ((impl_FieldOf.f k x69 x70 (rd x41 x43)).bind fun bt24 => (if bt24.2 = true then (if (rd x41 x43) = 2 then (impl_ReqOf.l0 k x41 x42 (wrap64 (x43 + 1)) x69 x70 x53 bt24.1 x28 x29 x33 x54 x36 x47) else (if (rd x41 x43) = 4 then ((impl_Narrow.f k bt24.1).bind fun bt78 => (impl_ReqOf.l0 k x41 x42 (wrap64 (x43 + 1)) x69 x70 x53 x26 x28 x29 x33 x54 bt78.1 x47)) else (if (rd x41 x43) = 11 then (impl_ReqOf.l0 k x41 x42 (wrap64 (x43 + 1)) x69 x70 x53 x26 x28 x29 bt24.1 x54 x36 x47) else (if (rd x41 x43) = 14 then ((impl_Narrow.f k bt24.1).bind fun bt79 => (impl_ReqOf.l0 k x41 x42 (wrap64 (x43 + 1)) x69 x70 x53 x26 x28 x29 x33 x54 x36 bt79.1)) else (if (rd x41 x43) = 38 then ((impl_FieldBare.f bt24.1).bind fun t80 => (impl_ReqOf.l0 k x41 x42 (wrap64 (x43 + 1)) x69 x70 x53 x26 x28 t80 x33 x54 x36 x47)) else (if (rd x41 x43) = 103 then (impl_ReqOf.l0 k x41 x42 (wrap64 (x43 + 1)) x69 x70 x53 x26 bt24.1 x29 x33 x54 x36 x47) else (impl_ReqOf.l0 k x41 x42 (wrap64 (x43 + 1)) x69 x70 x53 x26 x28 x29 x33 x54 x36 x47))))))) else (some (0, (⟨#[]⟩ : ByteArray), (⟨#[]⟩ : ByteArray), (⟨#[]⟩ : ByteArray), (⟨#[]⟩ : ByteArray), (⟨#[]⟩ : ByteArray), 0, 0, 1)))) else (none)) else (none)) else ((impl_ReqOk.f k x53 x26 x28 x29 x33 x54 x36 x47).bind fun t85 => (if t85 = true then (some (x53, x26, x28, x29, x33, x54, x36, x47, 0)) else (some (0, (⟨#[]⟩ : ByteArray), (⟨#[]⟩ : ByteArray), (⟨#[]⟩ : ByteArray), (⟨#[]⟩ : ByteArray), (⟨#[]⟩ : ByteArray), 0, 0, 1))))
def impl_ReqOf.f (k : Nat) (a0_0 : ByteArray) (l0_1 : List (S91)) : Option (Int × ByteArray × ByteArray × ByteArray × ByteArray × ByteArray × Int × Int × Int) := (impl_MsgOk.f k a0_0 l0_1).bind fun t88 => (if t88 = true then ((impl_MtiKnown.f a0_0).bind fun t89 => (if t89 = true then ((impl_FieldOf.f k a0_0 l0_1 3).bind fun bt50 => (if bt50.2 = true then ((impl_opRows.f).bind fun t73 => ((opRows_index.f t73 a0_0 bt50.1).bind fun t48 => ((some (([2, 11] : List Int) : List Int)).bind fun y49 => ((impl_opOf.f (wrap64 (1 + t48))).bind fun bt72 => (if y49.length + bt72.2.2.2.length < 17592186044416 then ((some (y49 ++ bt72.2.2.2 : List Int)).bind fun y22 => (impl_ReqOf.l0 k y22 (y22.length : Int) 0 a0_0 l0_1 (wrap64 (1 + t48)) (⟨#[]⟩ : ByteArray) (⟨#[]⟩ : ByteArray) (⟨#[]⟩ : ByteArray) (⟨#[]⟩ : ByteArray) a0_0 0 0)) else (none)))))) else (some (0, (⟨#[]⟩ : ByteArray), (⟨#[]⟩ : ByteArray), (⟨#[]⟩ : ByteArray), (⟨#[]⟩ : ByteArray), (⟨#[]⟩ : ByteArray), 0, 0, 1)))) else (some (0, (⟨#[]⟩ : ByteArray), (⟨#[]⟩ : ByteArray), (⟨#[]⟩ : ByteArray), (⟨#[]⟩ : ByteArray), (⟨#[]⟩ : ByteArray), 0, 0, 2)))) else (some (0, (⟨#[]⟩ : ByteArray), (⟨#[]⟩ : ByteArray), (⟨#[]⟩ : ByteArray), (⟨#[]⟩ : ByteArray), (⟨#[]⟩ : ByteArray), 0, 0, 1)))
theorem impl_ReqOf.calls (k : Nat) (a0_0 : ByteArray) (A0_1 : Option Addr) (c0_1 : Nat) (l0_1 : List (S91)) (r1 : Int) (r2 : ByteArray) (r3 : ByteArray) (r4 : ByteArray) (r5 : ByteArray) (r6 : ByteArray) (r7 : Int) (r8 : Int) (r9 : Int) (w : World) (hr0_1 : Kd.C k91 w A0_1 l0_1.length l0_1) (hc0_1 : l0_1.length ≤ c0_1) (h : impl_ReqOf.f k a0_0 l0_1 = some (r1, r2, r3, r4, r5, r6, r7, r8, r9)) :
  Calls Tryz.prog 11 #[.agg #[.string a0_0, .slice A0_1 l0_1.length c0_1]] w fun e w' => e = .returned (.tuple #[.agg #[.int .i64 r1, .string r2, .string r3, .string r4, .string r5, .string r6, .int .i64 r7, .int .i64 r8], .int .i64 r9]) ∧ Below w.heap.size w w' := by
 have hu32 := underlying32
 have hu27 := underlying27
 have hu9 := underlying9
 have hfl74_3 : ∀ (x0_ x1_ x2_ x3_ : Value) (w : World), (Instr.field 74 (.agg #[x0_, x1_, x2_, x3_]) 3).run Tryz.prog w = .ok x3_ w := by intros; kernel_rfl
 have HR0_1 := Aside0.mk hr0_1
 have HC0_1 := Aside0.mk hc0_1
 clear hr0_1 hc0_1
 have HB := Aside0.mk (Below.refl w.heap.size w)
 have H := h
 unfold impl_ReqOf.f at H
 clear h
 obtain ⟨t88, A2, H⟩ := ob_ H
 by_cases c3 : t88 = true
 rotate_left
 ·replace c3 := gf_ c3
  subst c3
  replace H := in_ H
  simp only [Option.some.injEq, Prod.mk.injEq] at H
  obtain ⟨rfl, rfl, rfl, rfl, rfl, rfl, rfl, rfl, rfl⟩ := H
  go_enter func11, ntmps11
  go_wp2_with (first | ((with_reducible refine gt_ 1 ?_); refine bo_ 1 #[.string a0_0, .slice A0_1 l0_1.length c0_1] 32 ?_; intro gb14 hg w158 BK14 hb; have GW14 := gw_ (w := w) hg; replace HB := hs_ hb; clear hb hg) | ((with_reducible refine gt_ 2 ?_); refine bo_ 2 #[.int .i64 0, .string ⟨#[]⟩, .string ⟨#[]⟩, .string ⟨#[]⟩, .string ⟨#[]⟩, .string ⟨#[]⟩, .int .i64 0, .int .i64 0] 27 ?_; intro gb17 hg w159 BK17 hb; have GW17 := gw_ (w := w) hg; replace HB := hs_ hb; have ⟨NB14_17, NB17_14⟩ := nb_ hg BK14; replace BK14 := kb_ BK14 hb; clear hb hg; have := NB14_17.out; have := NB17_14.out; refine by2_ BK14 ?_; intros) | ((with_reducible refine gb_ 46 12 func46 #[.agg #[.string a0_0, .slice A0_1 l0_1.length c0_1]] (impl_MsgOk.calls k a0_0 _ _ l0_1 false _ (cb_ HR0_1 HB) HC0_1.out A2.out) fun w162 hb => ?_); replace BK14 := kb_ BK14 hb; replace BK17 := kb_ BK17 hb; replace HB := hs_ hb; clear hb; refine by8_ BK17 ?_; intros))
  refine bodyPost_ret (results_ct rfl _ _ gb17 27 #[.int .i64 0, .string ⟨#[]⟩, .string ⟨#[]⟩, .string ⟨#[]⟩, .string ⟨#[]⟩, .string ⟨#[]⟩, .int .i64 0, .int .i64 0] (0, 0) _ rfl (by refine ch_ ?_; apply bq8_7_6_5_4_3_2_1_0_; exact ch_ BK17.out) underlying27 rfl (by kernel_rfl)) rfl ?_
  exact ⟨sq_, bl_⟩
 subst c3
 replace H := ip_ H
 obtain ⟨t89, A4, H⟩ := ob_ H
 by_cases c5 : t89 = true
 rotate_left
 ·replace c5 := gf_ c5
  subst c5
  replace H := in_ H
  simp only [Option.some.injEq, Prod.mk.injEq] at H
  obtain ⟨rfl, rfl, rfl, rfl, rfl, rfl, rfl, rfl, rfl⟩ := H
  go_enter func11, ntmps11
  go_wp2_with (first | ((with_reducible refine gt_ 1 ?_); refine bo_ 1 #[.string a0_0, .slice A0_1 l0_1.length c0_1] 32 ?_; intro gb14 hg w151 BK14 hb; have GW14 := gw_ (w := w) hg; replace HB := hs_ hb; clear hb hg) | ((with_reducible refine gt_ 2 ?_); refine bo_ 2 #[.int .i64 0, .string ⟨#[]⟩, .string ⟨#[]⟩, .string ⟨#[]⟩, .string ⟨#[]⟩, .string ⟨#[]⟩, .int .i64 0, .int .i64 0] 27 ?_; intro gb17 hg w152 BK17 hb; have GW17 := gw_ (w := w) hg; replace HB := hs_ hb; have ⟨NB14_17, NB17_14⟩ := nb_ hg BK14; replace BK14 := kb_ BK14 hb; clear hb hg; have := NB14_17.out; have := NB17_14.out; refine by2_ BK14 ?_; intros) | ((with_reducible refine gb_ 46 12 func46 #[.agg #[.string a0_0, .slice A0_1 l0_1.length c0_1]] (impl_MsgOk.calls k a0_0 _ _ l0_1 true _ (cb_ HR0_1 HB) HC0_1.out A2.out) fun w74 hb => ?_); replace BK14 := kb_ BK14 hb; replace BK17 := kb_ BK17 hb; replace HB := hs_ hb; clear hb; refine by2_ BK14 ?_; intros) | ((with_reducible refine gd_ 47 17 func47 #[.string a0_0] (impl_MtiKnown.calls a0_0 false _ A4.out) fun nd => ?_); (try (rw [drewN_self w74]; generalize hq_ : World.drewN w74 _ = w74; have n0_ : Aside0 (w74.heap[gb14]? = some (.cells #[.string a0_0, .slice A0_1 l0_1.length c0_1] 32 (0, 0))) := ⟨by rw [← hq_]; exact (ch_ BK14.out)⟩; have n1_ : Aside0 (w74.heap[gb17]? = some (.cells #[.int .i64 0, .string ⟨#[]⟩, .string ⟨#[]⟩, .string ⟨#[]⟩, .string ⟨#[]⟩, .string ⟨#[]⟩, .int .i64 0, .int .i64 0] 27 (0, 0))) := ⟨by rw [← hq_]; exact (ch_ BK17.out)⟩; have n2_ : Aside0 (Below w.heap.size w w74) := ⟨by rw [← hq_]; exact bl_⟩; clear BK14 BK17 HB hq_; have BK14 := n0_; have BK17 := n1_; have HB := n2_; clear n0_ n1_ n2_)); refine by8_ BK17 ?_; intros))
  refine bodyPost_ret (results_ct rfl _ _ gb17 27 #[.int .i64 0, .string ⟨#[]⟩, .string ⟨#[]⟩, .string ⟨#[]⟩, .string ⟨#[]⟩, .string ⟨#[]⟩, .int .i64 0, .int .i64 0] (0, 0) _ rfl (by refine ch_ ?_; apply bq8_7_6_5_4_3_2_1_0_; exact ch_ BK17.out) underlying27 rfl (by kernel_rfl)) rfl ?_
  exact ⟨sq_, bl_⟩
 subst c5
 replace H := ip_ H
 obtain ⟨⟨t50, t96⟩, A6, H⟩ := ob_ H
 (try dsimp only at H)
 by_cases c7 : t96 = true
 rotate_left
 ·replace c7 := gf_ c7
  subst c7
  replace H := in_ H
  simp only [Option.some.injEq, Prod.mk.injEq] at H
  obtain ⟨rfl, rfl, rfl, rfl, rfl, rfl, rfl, rfl, rfl⟩ := H
  go_enter func11, ntmps11
  go_wp2_with (first | ((with_reducible refine gt_ 1 ?_); refine bo_ 1 #[.string a0_0, .slice A0_1 l0_1.length c0_1] 32 ?_; intro gb14 hg w138 BK14 hb; have GW14 := gw_ (w := w) hg; replace HB := hs_ hb; clear hb hg) | ((with_reducible refine gt_ 2 ?_); refine bo_ 2 #[.int .i64 0, .string ⟨#[]⟩, .string ⟨#[]⟩, .string ⟨#[]⟩, .string ⟨#[]⟩, .string ⟨#[]⟩, .int .i64 0, .int .i64 0] 27 ?_; intro gb17 hg w139 BK17 hb; have GW17 := gw_ (w := w) hg; replace HB := hs_ hb; have ⟨NB14_17, NB17_14⟩ := nb_ hg BK14; replace BK14 := kb_ BK14 hb; clear hb hg; have := NB14_17.out; have := NB17_14.out; refine by2_ BK14 ?_; intros) | ((with_reducible refine gb_ 46 12 func46 #[.agg #[.string a0_0, .slice A0_1 l0_1.length c0_1]] (impl_MsgOk.calls k a0_0 _ _ l0_1 true _ (cb_ HR0_1 HB) HC0_1.out A2.out) fun w77 hb => ?_); replace BK14 := kb_ BK14 hb; replace BK17 := kb_ BK17 hb; replace HB := hs_ hb; clear hb; refine by2_ BK14 ?_; intros) | ((with_reducible refine gd_ 47 17 func47 #[.string a0_0] (impl_MtiKnown.calls a0_0 true _ A4.out) fun nd => ?_); (try (rw [drewN_self w77]; generalize hq_ : World.drewN w77 _ = w77; have n0_ : Aside0 (w77.heap[gb14]? = some (.cells #[.string a0_0, .slice A0_1 l0_1.length c0_1] 32 (0, 0))) := ⟨by rw [← hq_]; exact (ch_ BK14.out)⟩; have n1_ : Aside0 (w77.heap[gb17]? = some (.cells #[.int .i64 0, .string ⟨#[]⟩, .string ⟨#[]⟩, .string ⟨#[]⟩, .string ⟨#[]⟩, .string ⟨#[]⟩, .int .i64 0, .int .i64 0] 27 (0, 0))) := ⟨by rw [← hq_]; exact (ch_ BK17.out)⟩; have n2_ : Aside0 (Below w.heap.size w w77) := ⟨by rw [← hq_]; exact bl_⟩; clear BK14 BK17 HB hq_; have BK14 := n0_; have BK17 := n1_; have HB := n2_; clear n0_ n1_ n2_)); refine by2_ BK14 ?_; intros) | ((with_reducible refine gb_ 48 22 func48 #[.agg #[.string a0_0, .slice A0_1 l0_1.length c0_1], .int .i64 3] (impl_FieldOf.calls k a0_0 _ _ l0_1 3 t50 false _ (cb_ HR0_1 HB) HC0_1.out A6.out) fun w145 hb => ?_); replace BK14 := kb_ BK14 hb; replace BK17 := kb_ BK17 hb; replace HB := hs_ hb; clear hb) | ((with_reducible refine gt_ 4 ?_); refine bo_ 4 #[.string ⟨#[]⟩] 9 ?_; intro gb18 hg w146 BK18 hb; have GW18 := gw_ (w := w) hg; replace HB := hs_ hb; have ⟨NB14_18, NB18_14⟩ := nb_ hg BK14; replace BK14 := kb_ BK14 hb; have ⟨NB17_18, NB18_17⟩ := nb_ hg BK17; replace BK17 := kb_ BK17 hb; clear hb hg; have := NB18_14.out; have := NB14_18.out; have := NB18_17.out; have := NB17_18.out; have hcz98_0 := cz_ BK18 0 (.string ⟨#[]⟩); have hfz98_0 := fz_ BK18 0; refine by8_ BK17 ?_; intros))
  refine bodyPost_ret (results_ct rfl _ _ gb17 27 #[.int .i64 0, .string ⟨#[]⟩, .string ⟨#[]⟩, .string ⟨#[]⟩, .string ⟨#[]⟩, .string ⟨#[]⟩, .int .i64 0, .int .i64 0] (0, 0) _ rfl (by refine ch_ ?_; apply bq8_7_6_5_4_3_2_1_0_; refine ch_ ?_; exact bf_ NB17_18 BK17.out) underlying27 rfl (by kernel_rfl)) rfl ?_
  exact ⟨sq_, bl_⟩
 subst c7
 replace H := ip_ H
 obtain ⟨t73, A8, H⟩ := ob_ H
 obtain ⟨t48, A9, H⟩ := ob_ H
 obtain ⟨y49, hy49⟩ : ∃ y_ : List Int, y_ = (([2, 11] : List Int)) := ⟨_, rfl⟩
 replace H : ((impl_opOf.f (wrap64 (1 + t48))).bind fun bt72 => (if y49.length + bt72.2.2.2.length < 17592186044416 then ((some (y49 ++ bt72.2.2.2 : List Int)).bind fun y22 => (impl_ReqOf.l0 k y22 (y22.length : Int) 0 a0_0 l0_1 (wrap64 (1 + t48)) (⟨#[]⟩ : ByteArray) (⟨#[]⟩ : ByteArray) (⟨#[]⟩ : ByteArray) (⟨#[]⟩ : ByteArray) a0_0 0 0)) else (none))) = some (r1, r2, r3, r4, r5, r6, r7, r8, r9) := hh_ hy49 H
 have Ny49 := Aside0.mk hy49
 clear hy49
 obtain ⟨⟨t72, t99, t516, t90⟩, A10, H⟩ := ob_ H
 (try dsimp only at H)
 obtain ⟨c11, H⟩ := og_ H
 have LMc11 := Aside0.mk c11
 clear c11
 obtain ⟨y22, hy22⟩ : ∃ y_ : List Int, y_ = (y49 ++ t90) := ⟨_, rfl⟩
 replace H : (impl_ReqOf.l0 k y22 (y22.length : Int) 0 a0_0 l0_1 (wrap64 (1 + t48)) (⟨#[]⟩ : ByteArray) (⟨#[]⟩ : ByteArray) (⟨#[]⟩ : ByteArray) (⟨#[]⟩ : ByteArray) a0_0 0 0) = some (r1, r2, r3, r4, r5, r6, r7, r8, r9) := hh_ hy22 H
 have Ny22 := Aside0.mk hy22
 clear hy22
 have H' := Aside0.mk H
 clear H
 go_enter func11, ntmps11
 go_wp2_with (first | ((with_reducible refine gt_ 1 ?_); refine bo_ 1 #[.string a0_0, .slice A0_1 l0_1.length c0_1] 32 ?_; intro gb14 hg w12 BK14 hb; have GW14 := gw_ (w := w) hg; replace HB := hs_ hb; clear hb hg) | ((with_reducible refine gt_ 2 ?_); refine bo_ 2 #[.int .i64 0, .string ⟨#[]⟩, .string ⟨#[]⟩, .string ⟨#[]⟩, .string ⟨#[]⟩, .string ⟨#[]⟩, .int .i64 0, .int .i64 0] 27 ?_; intro gb17 hg w13 BK17 hb; have GW17 := gw_ (w := w) hg; replace HB := hs_ hb; have ⟨NB14_17, NB17_14⟩ := nb_ hg BK14; replace BK14 := kb_ BK14 hb; clear hb hg; have := NB14_17.out; have := NB17_14.out; refine by2_ BK14 ?_; intros) | ((with_reducible refine gb_ 46 12 func46 #[.agg #[.string a0_0, .slice A0_1 l0_1.length c0_1]] (impl_MsgOk.calls k a0_0 _ _ l0_1 true _ (cb_ HR0_1 HB) HC0_1.out A2.out) fun w16 hb => ?_); replace BK14 := kb_ BK14 hb; replace BK17 := kb_ BK17 hb; replace HB := hs_ hb; clear hb; refine by2_ BK14 ?_; intros) | ((with_reducible refine gd_ 47 17 func47 #[.string a0_0] (impl_MtiKnown.calls a0_0 true _ A4.out) fun nd => ?_); (try (rw [drewN_self w16]; generalize hq_ : World.drewN w16 _ = w16; have n0_ : Aside0 (w16.heap[gb14]? = some (.cells #[.string a0_0, .slice A0_1 l0_1.length c0_1] 32 (0, 0))) := ⟨by rw [← hq_]; exact (ch_ BK14.out)⟩; have n1_ : Aside0 (w16.heap[gb17]? = some (.cells #[.int .i64 0, .string ⟨#[]⟩, .string ⟨#[]⟩, .string ⟨#[]⟩, .string ⟨#[]⟩, .string ⟨#[]⟩, .int .i64 0, .int .i64 0] 27 (0, 0))) := ⟨by rw [← hq_]; exact (ch_ BK17.out)⟩; have n2_ : Aside0 (Below w.heap.size w w16) := ⟨by rw [← hq_]; exact bl_⟩; clear BK14 BK17 HB hq_; have BK14 := n0_; have BK17 := n1_; have HB := n2_; clear n0_ n1_ n2_)); refine by2_ BK14 ?_; intros) | ((with_reducible refine gb_ 48 22 func48 #[.agg #[.string a0_0, .slice A0_1 l0_1.length c0_1], .int .i64 3] (impl_FieldOf.calls k a0_0 _ _ l0_1 3 t50 true _ (cb_ HR0_1 HB) HC0_1.out A6.out) fun w19 hb => ?_); replace BK14 := kb_ BK14 hb; replace BK17 := kb_ BK17 hb; replace HB := hs_ hb; clear hb) | ((with_reducible refine gt_ 4 ?_); refine bo_ 4 #[.string ⟨#[]⟩] 9 ?_; intro gb18 hg w20 BK18 hb; have GW18 := gw_ (w := w) hg; replace HB := hs_ hb; have ⟨NB14_18, NB18_14⟩ := nb_ hg BK14; replace BK14 := kb_ BK14 hb; have ⟨NB17_18, NB18_17⟩ := nb_ hg BK17; replace BK17 := kb_ BK17 hb; clear hb hg; have := NB18_14.out; have := NB14_18.out; have := NB18_17.out; have := NB17_18.out; have hcz23_0 := cz_ BK18 0 (.string ⟨#[]⟩); have hfz23_0 := fz_ BK18 0; refine by2_ BK14 ?_; intros) | ((with_reducible refine gt_ 6 ?_); refine bo_ 6 #[.int .i64 0, .string ⟨#[]⟩, .string ⟨#[]⟩, .string ⟨#[]⟩, .string ⟨#[]⟩, .string ⟨#[]⟩, .int .i64 0, .int .i64 0] 27 ?_; intro gb15 hg w25 BK15 hb; have GW15 := gw_ (w := w) hg; replace HB := hs_ hb; have NB14_15 := Aside0.mk ((by rw [hg]; exact Nat.ne_of_lt (blk_lt (g := gb14) (o := .cells #[.string a0_0, .slice A0_1 l0_1.length c0_1] 32 (0, 0)) (by refine ch_ ?_; exact bf_ NB14_18 BK14.out)) : gb14 ≠ gb15)); have NB15_14 := Aside0.mk ((by rw [hg]; exact Nat.ne_of_gt (blk_lt (g := gb14) (o := .cells #[.string a0_0, .slice A0_1 l0_1.length c0_1] 32 (0, 0)) (by refine ch_ ?_; exact bf_ NB14_18 BK14.out)) : gb15 ≠ gb14)); replace BK14 := Aside0.mk (blk_below (g := gb14) (o := .cells #[.string a0_0, .slice A0_1 l0_1.length c0_1] 32 (0, 0)) (by refine ch_ ?_; exact bf_ NB14_18 BK14.out) hb); have NB17_15 := Aside0.mk ((by rw [hg]; exact Nat.ne_of_lt (blk_lt (g := gb17) (o := .cells #[.int .i64 0, .string ⟨#[]⟩, .string ⟨#[]⟩, .string ⟨#[]⟩, .string ⟨#[]⟩, .string ⟨#[]⟩, .int .i64 0, .int .i64 0] 27 (0, 0)) (by refine ch_ ?_; exact bf_ NB17_18 BK17.out)) : gb17 ≠ gb15)); have NB15_17 := Aside0.mk ((by rw [hg]; exact Nat.ne_of_gt (blk_lt (g := gb17) (o := .cells #[.int .i64 0, .string ⟨#[]⟩, .string ⟨#[]⟩, .string ⟨#[]⟩, .string ⟨#[]⟩, .string ⟨#[]⟩, .int .i64 0, .int .i64 0] 27 (0, 0)) (by refine ch_ ?_; exact bf_ NB17_18 BK17.out)) : gb15 ≠ gb17)); replace BK17 := Aside0.mk (blk_below (g := gb17) (o := .cells #[.int .i64 0, .string ⟨#[]⟩, .string ⟨#[]⟩, .string ⟨#[]⟩, .string ⟨#[]⟩, .string ⟨#[]⟩, .int .i64 0, .int .i64 0] 27 (0, 0)) (by refine ch_ ?_; exact bf_ NB17_18 BK17.out) hb); have NB18_15 := Aside0.mk ((by rw [hg]; exact Nat.ne_of_lt (blk_lt (g := gb18) (o := .cells #[.string t50] 9 (0, 0)) (by refine ch_ ?_; apply bq1_0_; exact ch_ BK18.out)) : gb18 ≠ gb15)); have NB15_18 := Aside0.mk ((by rw [hg]; exact Nat.ne_of_gt (blk_lt (g := gb18) (o := .cells #[.string t50] 9 (0, 0)) (by refine ch_ ?_; apply bq1_0_; exact ch_ BK18.out)) : gb15 ≠ gb18)); replace BK18 := Aside0.mk (blk_below (g := gb18) (o := .cells #[.string t50] 9 (0, 0)) (by refine ch_ ?_; apply bq1_0_; exact ch_ BK18.out) hb); clear hb hg; have := NB15_14.out; have := NB14_15.out; have := NB15_17.out; have := NB17_15.out; have := NB15_18.out; have := NB18_15.out; refine by8_ BK15 ?_; intros) | ((with_reducible refine gc_ 50 31 func50 #[] ?_); (with_reducible refine (impl_opRows.calls  t73 _ A8.out).mono ?_); rintro e w30 ⟨v508, rfl, ho0, hb⟩; refine ⟨_, rfl, ?_⟩; have HO52 := Aside0.mk (Kd.N_lower (Kd.N_mono (ok' := fun k_ => k_ ≠ gb14 ∧ k_ ≠ gb17 ∧ k_ ≠ gb18 ∧ k_ ≠ gb15) ho0 (fun k_ hk_ => ⟨(Kd.freshB (g := gb14) (o := .cells #[.string a0_0, .slice A0_1 l0_1.length c0_1] 32 (0, 0)) (by refine ch_ ?_; refine bf_ NB14_15 ?_; refine bf_ NB14_15 ?_; refine bf_ NB14_15 ?_; refine bf_ NB14_15 ?_; refine bf_ NB14_15 ?_; refine bf_ NB14_15 ?_; refine bf_ NB14_15 ?_; exact bf_ NB14_15 BK14.out) k_ hk_), (Kd.freshB (g := gb17) (o := .cells #[.int .i64 0, .string ⟨#[]⟩, .string ⟨#[]⟩, .string ⟨#[]⟩, .string ⟨#[]⟩, .string ⟨#[]⟩, .int .i64 0, .int .i64 0] 27 (0, 0)) (by refine ch_ ?_; refine bf_ NB17_15 ?_; refine bf_ NB17_15 ?_; refine bf_ NB17_15 ?_; refine bf_ NB17_15 ?_; refine bf_ NB17_15 ?_; refine bf_ NB17_15 ?_; refine bf_ NB17_15 ?_; exact bf_ NB17_15 BK17.out) k_ hk_), (Kd.freshB (g := gb18) (o := .cells #[.string t50] 9 (0, 0)) (by refine ch_ ?_; refine bf_ NB18_15 ?_; refine bf_ NB18_15 ?_; refine bf_ NB18_15 ?_; refine bf_ NB18_15 ?_; refine bf_ NB18_15 ?_; refine bf_ NB18_15 ?_; refine bf_ NB18_15 ?_; exact bf_ NB18_15 BK18.out) k_ hk_), (Kd.freshB (g := gb15) (o := .cells #[.int .i64 0, .string ⟨#[]⟩, .string ⟨#[]⟩, .string ⟨#[]⟩, .string ⟨#[]⟩, .string a0_0, .int .i64 0, .int .i64 0] 27 (0, 0)) (by refine ch_ ?_; apply bq8_7_6_5_4_3_2_1_0_; exact ch_ BK15.out) k_ hk_)⟩)) (below_size bl_)); replace BK14 := Aside0.mk (blk_below (g := gb14) (o := .cells #[.string a0_0, .slice A0_1 l0_1.length c0_1] 32 (0, 0)) (by refine ch_ ?_; refine bf_ NB14_15 ?_; refine bf_ NB14_15 ?_; refine bf_ NB14_15 ?_; refine bf_ NB14_15 ?_; refine bf_ NB14_15 ?_; refine bf_ NB14_15 ?_; refine bf_ NB14_15 ?_; exact bf_ NB14_15 BK14.out) hb); replace BK17 := Aside0.mk (blk_below (g := gb17) (o := .cells #[.int .i64 0, .string ⟨#[]⟩, .string ⟨#[]⟩, .string ⟨#[]⟩, .string ⟨#[]⟩, .string ⟨#[]⟩, .int .i64 0, .int .i64 0] 27 (0, 0)) (by refine ch_ ?_; refine bf_ NB17_15 ?_; refine bf_ NB17_15 ?_; refine bf_ NB17_15 ?_; refine bf_ NB17_15 ?_; refine bf_ NB17_15 ?_; refine bf_ NB17_15 ?_; refine bf_ NB17_15 ?_; exact bf_ NB17_15 BK17.out) hb); replace BK18 := Aside0.mk (blk_below (g := gb18) (o := .cells #[.string t50] 9 (0, 0)) (by refine ch_ ?_; refine bf_ NB18_15 ?_; refine bf_ NB18_15 ?_; refine bf_ NB18_15 ?_; refine bf_ NB18_15 ?_; refine bf_ NB18_15 ?_; refine bf_ NB18_15 ?_; refine bf_ NB18_15 ?_; exact bf_ NB18_15 BK18.out) hb); replace BK15 := Aside0.mk (blk_below (g := gb15) (o := .cells #[.int .i64 0, .string ⟨#[]⟩, .string ⟨#[]⟩, .string ⟨#[]⟩, .string ⟨#[]⟩, .string a0_0, .int .i64 0, .int .i64 0] 27 (0, 0)) (by refine ch_ ?_; apply bq8_7_6_5_4_3_2_1_0_; exact ch_ BK15.out) hb); replace HB := hs_ hb; clear hb; (try clear ho0); obtain ⟨Ao31, co31, eo31⟩ := Kd.N_slice HO52.out; subst eo31) | (go_at_call 49; (with_reducible refine (opRows_index.calls _ _ t73 a0_0 t50 t48 gb14 gb18 (.slice A0_1 l0_1.length c0_1) _ (ca_ ((Kd.N_reads' HO52.out).2.2)) ((Kd.N_reads' HO52.out).2.1) (bk_ BK14) (bk_ BK18) A9.out).mono ?_); rintro e w32 ⟨rfl, hb⟩; replace HO52 := Aside0.mk (Kd.N_below (by (with_reducible repeat (first | apply Kd.N_alloc | apply Kd.N_drewN | apply Kd.N_drew)); exact HO52.out) hb); replace BK14 := kb_ BK14 hb; replace BK17 := kb_ BK17 hb; replace BK18 := kb_ BK18 hb; replace BK15 := kb_ BK15 hb; replace HB := hs_ hb; clear hb; refine by8_ BK15 ?_; intros) | ((with_reducible refine gate_dst (N := 36) rfl ?_); refine Kd.R_lit (Kd.int .i64) _ 3 ?hg (N := 36) ?hd (xs := ([2, 11] : List Int)) (inner := [.int .i64 2, .int .i64 11]) (ok := fun _ => True) (okp := fun _ => True) ?hr ?hp (fun _ hk => hk) trivial (Below.refl _ _) (Nat.le_refl _) (by simp) ?_; (case hd => rfl); (case hg => rfl); (case hr => first | (go_simp; done) | (go_simp; rfl)); (case hp => exact (Reps.one (show Kd.M (Kd.int .i64) _ _ _ 2 [.int .i64 2] from rfl) (Reps.one (show Kd.M (Kd.int .i64) _ _ _ 11 [.int .i64 11] from rfl) (Reps.none _ _)))); intro v91 w34 ho35 hb hg_ hnew_; clear hg_ hnew_; (first | rw [← Ny49.out] at ho35 | (simp only [Int.reduceToNat] at ho35; rw [← Ny49.out] at ho35)); replace HO52 := Aside0.mk (Kd.N_elder' (by (with_reducible repeat (first | apply Kd.N_alloc | apply Kd.N_drewN | apply Kd.N_drew)); exact (Kd.N_mono (Kd.N_far (p := ⟨gb15, 0, none⟩) (Kd.N_mono HO52.out (fun k_ hk => (⟨hk, hk.2.2.2⟩ : _ ∧ k_ ≠ gb15))) (fun _ hk => hk.2) (.int .i64 (wrap64 (1 + t48)))) (fun _ h_ => h_.1))) (Kd.R_base ho35) hb); have HO57 := Aside0.mk (Kd.R_lower ho35 (below_size bl_)); replace BK14 := Aside0.mk (blk_below (g := gb14) (o := .cells #[.string a0_0, .slice A0_1 l0_1.length c0_1] 32 (0, 0)) (by refine ch_ ?_; exact bf_ NB14_15 BK14.out) hb); replace BK17 := Aside0.mk (blk_below (g := gb17) (o := .cells #[.int .i64 0, .string ⟨#[]⟩, .string ⟨#[]⟩, .string ⟨#[]⟩, .string ⟨#[]⟩, .string ⟨#[]⟩, .int .i64 0, .int .i64 0] 27 (0, 0)) (by refine ch_ ?_; exact bf_ NB17_15 BK17.out) hb); replace BK18 := Aside0.mk (blk_below (g := gb18) (o := .cells #[.string t50] 9 (0, 0)) (by refine ch_ ?_; exact bf_ NB18_15 BK18.out) hb); replace BK15 := Aside0.mk (blk_below (g := gb15) (o := .cells #[.int .i64 (wrap64 (1 + t48)), .string ⟨#[]⟩, .string ⟨#[]⟩, .string ⟨#[]⟩, .string ⟨#[]⟩, .string a0_0, .int .i64 0, .int .i64 0] 27 (0, 0)) (by refine ch_ ?_; apply bq8_0_; exact ch_ BK15.out) hb); replace HB := hs_ hb; clear hb ho35; refine by8_ BK15 ?_; intros) | ((with_reducible refine gc_ 52 39 func52 #[.int .i64 (wrap64 (1 + t48))] ?_); (with_reducible refine (impl_opOf.calls (wrap64 (1 + t48)) t72 t99 t516 t90 _ A10.out).mono ?_); rintro e w37 ⟨v518, rfl, ho0, hb⟩; refine ⟨_, rfl, ?_⟩; have HO83 := Aside0.mk (Kd.V_lower (Kd.V_mono (ok' := fun k_ => some k_ ≠ (.slice Ao31 t73.length co31 : Value).ownBlock ∧ some k_ ≠ (v91 : Value).ownBlock ∧ k_ ≠ gb14 ∧ k_ ≠ gb17 ∧ k_ ≠ gb18 ∧ k_ ≠ gb15) ho0 (fun k_ hk_ => ⟨(Kd.fresh' (Kd.N_lt (by (with_reducible repeat (first | apply Kd.N_alloc | apply Kd.N_drewN | apply Kd.N_drew)); exact HO52.out)) k_ hk_), (Kd.fresh' (Kd.R_lt (ra_ HO57)) k_ hk_), (Kd.freshB (bk_ BK14) k_ hk_), (Kd.freshB (bk_ BK17) k_ hk_), (Kd.freshB (bk_ BK18) k_ hk_), (Kd.freshB (bk_ BK15) k_ hk_)⟩)) (below_size bl_)); replace HO52 := Aside0.mk (Kd.N_below (by (with_reducible repeat (first | apply Kd.N_alloc | apply Kd.N_drewN | apply Kd.N_drew)); exact HO52.out) hb); replace HO57 := Aside0.mk (Kd.R_below (ra_ HO57) hb); replace BK14 := kb_ BK14 hb; replace BK17 := kb_ BK17 hb; replace BK18 := kb_ BK18 hb; replace BK15 := kb_ BK15 hb; replace HB := hs_ hb; clear hb; (try clear ho0); obtain ⟨Ao38, co38, eo38⟩ := Kd.V_slice HO83.out; subst eo38) | ((with_reducible refine gate_builtin (b := .append) (xs := #[.tmp 36, .tmp 40]) rfl ?_); at_builtin; refine Kd.R_append_rows (Kd.int .i64) (w0 := w) w.heap.size rfl (.tmp 36) (.tmp 40) 46 3 (.int .i64 0) 8 rfl underlying46 info3 rfl (by decide) (by omega) v91 y49 t90 _ _ _ (fun _ => True) (fun _ => False) rfl rfl ?aO ?aR (fun _ _ h => h) (fun _ h => h.elim) ?aF ?aB ?aS ?aL ?_; (case aR => exact ca_ ((Kd.V_reads' HO83.out).2.2)); (case aB => exact bl_); (case aF => exact (fun _ _ => trivial)); (case aO => exact (ra_ HO57)); (case aS => exact (below_size bl_)); (case aL => have := LMc11.out; omega); intro v521 w39 ho hb hg hat; rw [← Ny22.out] at ho; have n0_ := Aside0.mk (blk_grown (bk_ BK14) hg (Kd.R_ne HO57.out BK14.out (by decide))); have n1_ := Aside0.mk (blk_grown (bk_ BK17) hg (Kd.R_ne HO57.out BK17.out (by decide))); have n2_ := Aside0.mk (blk_grown (bk_ BK18) hg (Kd.R_ne HO57.out BK18.out (by decide))); have n3_ := Aside0.mk (blk_grown (bk_ BK15) hg (Kd.R_ne HO57.out BK15.out (by decide))); have n4_ := Aside0.mk (Kd.N_afterv (ok := (fun k_ => k_ ≠ gb14 ∧ k_ ≠ gb17 ∧ k_ ≠ gb18 ∧ k_ ≠ gb15)) (by (with_reducible repeat (first | apply Kd.N_alloc | apply Kd.N_drewN | apply Kd.N_drew)); exact HO52.out) hg hat); have n5_ := Aside0.mk (Kd.V_afterv (ok := (fun k_ => some k_ ≠ (.slice Ao31 t73.length co31 : Value).ownBlock ∧ k_ ≠ gb14 ∧ k_ ≠ gb17 ∧ k_ ≠ gb18 ∧ k_ ≠ gb15)) (by refine cv_ ?_; exact Kd.V_mono HO83.out (fun _ hk => ⟨⟨hk.1, ⟨hk.2.2.1, ⟨hk.2.2.2.1, ⟨hk.2.2.2.2.1, hk.2.2.2.2.2⟩⟩⟩⟩, hk.2.1⟩)) hg hat); have n6_ := Aside0.mk (hb); have n7_ := Aside0.mk (ho); clear BK14; clear BK17; clear BK18; clear BK15; clear HO52; clear HO83; clear HB; clear HO57; have BK14 := n0_; have BK17 := n1_; have BK18 := n2_; have BK15 := n3_; have HO52 := n4_; have HO83 := n5_; have HB := n6_; have HO94 := n7_; clear n0_ n1_ n2_ n3_ n4_ n5_ n6_ n7_; clear ho hb hg hat; obtain ⟨Ao40, co40, eo40⟩ := Kd.R_slice HO94.out; subst eo40))
 go_loopg [43] k (fun kq v43 w' => ∃ (x43_1 : Int) (x58_1 : Int) (x59_1 : ByteArray) (x60_1 : ByteArray) (x63_1 : ByteArray) (x64_1 : ByteArray) (x65_1 : ByteArray) (x67_1 : Int) (x68_1 : Int) (x26_1 : ByteArray) (x28_1 : ByteArray) (x29_1 : ByteArray) (x33_1 : ByteArray) (x36_1 : Int) (x47_1 : Int), v43 = .int .i64 x43_1 ∧ Aside0 (impl_ReqOf.l0 kq y22 (y22.length : Int) x43_1 a0_0 l0_1 (wrap64 (1 + t48)) x26_1 x28_1 x29_1 x33_1 a0_0 x36_1 x47_1 = some (r1, r2, r3, r4, r5, r6, r7, r8, r9)) ∧ Aside0 (kq ≤ k) ∧ Aside0 (Kd.R (Kd.int .i64) 3 w' w.heap.size (fun _ => True) (.slice Ao40 y22.length co40) y22) ∧ Aside0 (w'.heap[gb14]? = some (.cells #[.string a0_0, (.slice A0_1 l0_1.length c0_1)] 32 (0, 0))) ∧ Aside0 (w'.heap[gb17]? = some (.cells #[.int .i64 x58_1, .string x59_1, .string x60_1, .string x63_1, .string x64_1, .string x65_1, .int .i64 x67_1, .int .i64 x68_1] 27 (0, 0))) ∧ Aside0 (w'.heap[gb18]? = some (.cells #[.string t50] 9 (0, 0))) ∧ Aside0 (w'.heap[gb15]? = some (.cells #[.int .i64 (wrap64 (1 + t48)), .string x26_1, .string x28_1, .string x29_1, .string x33_1, .string a0_0, .int .i64 x36_1, .int .i64 x47_1] 27 (0, 0))) ∧ Aside0 (Below w.heap.size w w'))
 case atStart => exact ⟨(0), (0), ((⟨#[]⟩ : ByteArray)), ((⟨#[]⟩ : ByteArray)), ((⟨#[]⟩ : ByteArray)), ((⟨#[]⟩ : ByteArray)), ((⟨#[]⟩ : ByteArray)), (0), (0), ((⟨#[]⟩ : ByteArray)), ((⟨#[]⟩ : ByteArray)), ((⟨#[]⟩ : ByteArray)), ((⟨#[]⟩ : ByteArray)), (0), (0), sp_, H', ⟨Nat.le_refl _⟩, ⟨ra_ HO94⟩, ⟨ch_ BK14.out⟩, ⟨ch_ BK17.out⟩, ⟨ch_ BK18.out⟩, ⟨ch_ BK15.out⟩, ⟨bl_⟩⟩
 case round =>
  clear H'
  obtain ⟨x43_1, x58_1, x59_1, x60_1, x63_1, x64_1, x65_1, x67_1, x68_1, x26_1, x28_1, x29_1, x33_1, x36_1, x47_1, rfl, HA, HK1, HO_41, BK14, BK17, BK18, BK15, HB⟩ := hrel
  cases gk with
  | zero => exact absurd HA.out (by simp [impl_ReqOf.l0])
  | succ k1 =>
   have H := HA.out
   clear HA
   simp only [impl_ReqOf.l0] at H
   by_cases c41 : x43_1 < (y22.length : Int)
   rotate_left
   ·rw [if_neg c41] at H
    replace c41 := df_ c41
    obtain ⟨t85, A95, H⟩ := ob_ H
    by_cases c84 : t85 = true
    ·subst c84
     replace H := ip_ H
     simp only [Option.some.injEq, Prod.mk.injEq] at H
     obtain ⟨rfl, rfl, rfl, rfl, rfl, rfl, rfl, rfl, rfl⟩ := H
     have := NB15_14.out
     have := NB14_15.out
     have := NB15_17.out
     have := NB17_15.out
     have := NB15_18.out
     have := NB18_15.out
     refine by8_ BK15 ?_; intros
     go_wp2_with (first | ((with_reducible refine gb_ 55 92 func55 #[.agg #[.int .i64 (wrap64 (1 + t48)), .string x26_1, .string x28_1, .string x29_1, .string x33_1, .string a0_0, .int .i64 x36_1, .int .i64 x47_1]] (impl_ReqOk.calls k1 (wrap64 (1 + t48)) x26_1 x28_1 x29_1 x33_1 a0_0 x36_1 x47_1 true _ A95.out) fun w125 hb => ?_); replace HO_41 := Aside0.mk (Kd.R_below (ra_ HO_41) hb); replace BK14 := kb_ BK14 hb; replace BK17 := kb_ BK17 hb; replace BK18 := kb_ BK18 hb; replace BK15 := kb_ BK15 hb; replace HB := hs_ hb; clear hb; refine by8_ BK15 ?_; intros; have := NB17_14.out; have := NB14_17.out; have := NB17_18.out; have := NB18_17.out; refine by8_ BK17 ?_; intros))
     refine bodyPost_ret (results_ct rfl _ _ gb17 27 #[.int .i64 (wrap64 (1 + t48)), .string x26_1, .string x28_1, .string x29_1, .string x33_1, .string a0_0, .int .i64 x36_1, .int .i64 x47_1] (0, 0) _ rfl (by refine ch_ ?_; apply bq8_7_6_5_4_3_2_1_0_; exact ch_ BK17.out) underlying27 rfl (by kernel_rfl)) rfl ?_
     exact ⟨sq_, bl_⟩
    replace c84 := gf_ c84
    subst c84
    replace H := in_ H
    simp only [Option.some.injEq, Prod.mk.injEq] at H
    obtain ⟨rfl, rfl, rfl, rfl, rfl, rfl, rfl, rfl, rfl⟩ := H
    have := NB15_14.out
    have := NB14_15.out
    have := NB15_17.out
    have := NB17_15.out
    have := NB15_18.out
    have := NB18_15.out
    refine by8_ BK15 ?_; intros
    go_wp2_with (first | ((with_reducible refine gb_ 55 92 func55 #[.agg #[.int .i64 (wrap64 (1 + t48)), .string x26_1, .string x28_1, .string x29_1, .string x33_1, .string a0_0, .int .i64 x36_1, .int .i64 x47_1]] (impl_ReqOk.calls k1 (wrap64 (1 + t48)) x26_1 x28_1 x29_1 x33_1 a0_0 x36_1 x47_1 false _ A95.out) fun w134 hb => ?_); replace HO_41 := Aside0.mk (Kd.R_below (ra_ HO_41) hb); replace BK14 := kb_ BK14 hb; replace BK17 := kb_ BK17 hb; replace BK18 := kb_ BK18 hb; replace BK15 := kb_ BK15 hb; replace HB := hs_ hb; clear hb; have := NB17_14.out; have := NB14_17.out; have := NB17_18.out; have := NB18_17.out; refine by8_ BK17 ?_; intros))
    refine bodyPost_ret (results_ct rfl _ _ gb17 27 #[.int .i64 0, .string ⟨#[]⟩, .string ⟨#[]⟩, .string ⟨#[]⟩, .string ⟨#[]⟩, .string ⟨#[]⟩, .int .i64 0, .int .i64 0] (0, 0) _ rfl (by refine ch_ ?_; apply bq8_7_6_5_4_3_2_1_0_; exact ch_ BK17.out) underlying27 rfl (by kernel_rfl)) rfl ?_
    exact ⟨sq_, bl_⟩
   rw [if_pos c41] at H
   replace c41 := dt_ c41
   obtain ⟨c42, H⟩ := og_ H
   replace c42 := dt_ c42
   obtain ⟨c43, H⟩ := og_ H
   replace c43 := dt_ c43
   obtain ⟨⟨t24, t526⟩, A44, H⟩ := ob_ H
   (try dsimp only at H)
   by_cases c45 : t526 = true
   rotate_left
   ·replace c45 := gf_ c45
    subst c45
    replace H := in_ H
    simp only [Option.some.injEq, Prod.mk.injEq] at H
    obtain ⟨rfl, rfl, rfl, rfl, rfl, rfl, rfl, rfl, rfl⟩ := H
    have p21 : 0 ≤ (x43_1 : Int) := od_
    have q21 : x43_1 < (y22.length : Int) := od_
    obtain ⟨ad21, e21, hx21_0⟩ := Kd.at_int (Kd.R_reads' HO_41.out).2.2 x43_1 p21 q21
    cases e21
    replace p21 := eq_true p21
    replace q21 := eq_true q21
    have := NB14_17.out
    have := NB17_14.out
    have := NB14_18.out
    have := NB18_14.out
    have := NB14_15.out
    have := NB15_14.out
    refine by2_ BK14 ?_; intros
    go_wp2_with (first | ((with_reducible refine gb_ 48 50 func48 #[.agg #[.string a0_0, .slice A0_1 l0_1.length c0_1], .int .i64 (rd y22 x43_1)] (impl_FieldOf.calls k1 a0_0 _ _ l0_1 (rd y22 x43_1) t24 false _ (cb_ HR0_1 HB) HC0_1.out A44.out) fun w115 hb => ?_); replace HO_41 := Aside0.mk (Kd.R_below (ra_ HO_41) hb); replace BK14 := kb_ BK14 hb; replace BK17 := kb_ BK17 hb; replace BK18 := kb_ BK18 hb; replace BK15 := kb_ BK15 hb; replace HB := hs_ hb; clear hb; have := NB17_18.out; have := NB18_17.out; have := NB17_15.out; have := NB15_17.out; refine by8_ BK17 ?_; intros))
    refine bodyPost_ret (results_ct rfl _ _ gb17 27 #[.int .i64 0, .string ⟨#[]⟩, .string ⟨#[]⟩, .string ⟨#[]⟩, .string ⟨#[]⟩, .string ⟨#[]⟩, .int .i64 0, .int .i64 0] (0, 0) _ rfl (by refine ch_ ?_; apply bq8_7_6_5_4_3_2_1_0_; exact ch_ BK17.out) underlying27 rfl (by kernel_rfl)) rfl ?_
    exact ⟨sq_, bl_⟩
   subst c45
   replace H := ip_ H
   by_cases c46 : (rd y22 x43_1) = 2
   ·rw [if_pos c46] at H
    have := et_ c46
    replace c46 := nf_ c46
    have H' := Aside0.mk H
    clear H
    have p21 : 0 ≤ (x43_1 : Int) := od_
    have q21 : x43_1 < (y22.length : Int) := od_
    obtain ⟨ad21, e21, hx21_0⟩ := Kd.at_int (Kd.R_reads' HO_41.out).2.2 x43_1 p21 q21
    cases e21
    replace p21 := eq_true p21
    replace q21 := eq_true q21
    have := NB14_17.out
    have := NB17_14.out
    have := NB14_18.out
    have := NB18_14.out
    have := NB14_15.out
    have := NB15_14.out
    refine by2_ BK14 ?_; intros
    go_wp2_with (first | ((with_reducible refine gb_ 48 50 func48 #[.agg #[.string a0_0, .slice A0_1 l0_1.length c0_1], .int .i64 (rd y22 x43_1)] (impl_FieldOf.calls k1 a0_0 _ _ l0_1 (rd y22 x43_1) t24 true _ (cb_ HR0_1 HB) HC0_1.out A44.out) fun w51 hb => ?_); replace HO_41 := Aside0.mk (Kd.R_below (ra_ HO_41) hb); replace BK14 := kb_ BK14 hb; replace BK17 := kb_ BK17 hb; replace BK18 := kb_ BK18 hb; replace BK15 := kb_ BK15 hb; replace HB := hs_ hb; clear hb; have := NB15_17.out; have := NB17_15.out; have := NB15_18.out; have := NB18_15.out; refine by8_ BK15 ?_; intros))
    go_roundg k1
    case measure => have := HK1.out; omega
    case rel => exact ⟨(wrap64 (x43_1 + 1)), (x58_1), (x59_1), (x60_1), (x63_1), (x64_1), (x65_1), (x67_1), (x68_1), (t24), (x28_1), (x29_1), (x33_1), (x36_1), (x47_1), sp_, H', ⟨by have := HK1.out; omega⟩, ⟨by refine cr_ ?_; exact Kd.R_mono (rf_ gb15 1 (Kd.R_types HO_41.out BK15.out (by decide)) (.string t24)) (fun _ hk => trivial)⟩, bg_ NB14_15 BK14, bg_ NB17_15 BK17, bg_ NB18_15 BK18, ⟨by refine ch_ ?_; apply bq8_1_; exact ch_ BK15.out⟩, ⟨bl_⟩⟩
   rw [if_neg c46] at H
   have c46b0 := ef_ c46
   have c46b1 := nt_ c46
   by_cases c55 : (rd y22 x43_1) = 4
   ·rw [if_pos c55] at H
    have := et_ c55
    replace c55 := nf_ c55
    obtain ⟨⟨t78, t528⟩, A56, H⟩ := ob_ H
    (try dsimp only at H)
    have H' := Aside0.mk H
    clear H
    have p21 : 0 ≤ (x43_1 : Int) := od_
    have q21 : x43_1 < (y22.length : Int) := od_
    obtain ⟨ad21, e21, hx21_0⟩ := Kd.at_int (Kd.R_reads' HO_41.out).2.2 x43_1 p21 q21
    cases e21
    replace p21 := eq_true p21
    replace q21 := eq_true q21
    have := NB14_17.out
    have := NB17_14.out
    have := NB14_18.out
    have := NB18_14.out
    have := NB14_15.out
    have := NB15_14.out
    refine by2_ BK14 ?_; intros
    go_wp2_with (first | ((with_reducible refine gb_ 48 50 func48 #[.agg #[.string a0_0, .slice A0_1 l0_1.length c0_1], .int .i64 (rd y22 x43_1)] (impl_FieldOf.calls k1 a0_0 _ _ l0_1 (rd y22 x43_1) t24 true _ (cb_ HR0_1 HB) HC0_1.out A44.out) fun w61 hb => ?_); replace HO_41 := Aside0.mk (Kd.R_below (ra_ HO_41) hb); replace BK14 := kb_ BK14 hb; replace BK17 := kb_ BK17 hb; replace BK18 := kb_ BK18 hb; replace BK15 := kb_ BK15 hb; replace HB := hs_ hb; clear hb) | ((with_reducible refine gb_ 53 65 func53 #[.string t24] (impl_Narrow.calls k1 t24 t78 t528 _ A56.out) fun w62 hb => ?_); replace HO_41 := Aside0.mk (Kd.R_below (ra_ HO_41) hb); replace BK14 := kb_ BK14 hb; replace BK17 := kb_ BK17 hb; replace BK18 := kb_ BK18 hb; replace BK15 := kb_ BK15 hb; replace HB := hs_ hb; clear hb; have := NB15_17.out; have := NB17_15.out; have := NB15_18.out; have := NB18_15.out; refine by8_ BK15 ?_; intros))
    go_roundg k1
    case measure => have := HK1.out; omega
    case rel => exact ⟨(wrap64 (x43_1 + 1)), (x58_1), (x59_1), (x60_1), (x63_1), (x64_1), (x65_1), (x67_1), (x68_1), (x26_1), (x28_1), (x29_1), (x33_1), (t78), (x47_1), sp_, H', ⟨by have := HK1.out; omega⟩, ⟨by refine cr_ ?_; exact Kd.R_mono (rf_ gb15 6 (Kd.R_types HO_41.out BK15.out (by decide)) (.int .i64 t78)) (fun _ hk => trivial)⟩, bg_ NB14_15 BK14, bg_ NB17_15 BK17, bg_ NB18_15 BK18, ⟨by refine ch_ ?_; apply bq8_6_; exact ch_ BK15.out⟩, ⟨bl_⟩⟩
   rw [if_neg c55] at H
   have c55b0 := ef_ c55
   have c55b1 := nt_ c55
   by_cases c66 : (rd y22 x43_1) = 11
   ·rw [if_pos c66] at H
    have := et_ c66
    replace c66 := nf_ c66
    have H' := Aside0.mk H
    clear H
    have p21 : 0 ≤ (x43_1 : Int) := od_
    have q21 : x43_1 < (y22.length : Int) := od_
    obtain ⟨ad21, e21, hx21_0⟩ := Kd.at_int (Kd.R_reads' HO_41.out).2.2 x43_1 p21 q21
    cases e21
    replace p21 := eq_true p21
    replace q21 := eq_true q21
    have := NB14_17.out
    have := NB17_14.out
    have := NB14_18.out
    have := NB18_14.out
    have := NB14_15.out
    have := NB15_14.out
    refine by2_ BK14 ?_; intros
    go_wp2_with (first | ((with_reducible refine gb_ 48 50 func48 #[.agg #[.string a0_0, .slice A0_1 l0_1.length c0_1], .int .i64 (rd y22 x43_1)] (impl_FieldOf.calls k1 a0_0 _ _ l0_1 (rd y22 x43_1) t24 true _ (cb_ HR0_1 HB) HC0_1.out A44.out) fun w71 hb => ?_); replace HO_41 := Aside0.mk (Kd.R_below (ra_ HO_41) hb); replace BK14 := kb_ BK14 hb; replace BK17 := kb_ BK17 hb; replace BK18 := kb_ BK18 hb; replace BK15 := kb_ BK15 hb; replace HB := hs_ hb; clear hb; have := NB15_17.out; have := NB17_15.out; have := NB15_18.out; have := NB18_15.out; refine by8_ BK15 ?_; intros))
    go_roundg k1
    case measure => have := HK1.out; omega
    case rel => exact ⟨(wrap64 (x43_1 + 1)), (x58_1), (x59_1), (x60_1), (x63_1), (x64_1), (x65_1), (x67_1), (x68_1), (x26_1), (x28_1), (x29_1), (t24), (x36_1), (x47_1), sp_, H', ⟨by have := HK1.out; omega⟩, ⟨by refine cr_ ?_; exact Kd.R_mono (rf_ gb15 4 (Kd.R_types HO_41.out BK15.out (by decide)) (.string t24)) (fun _ hk => trivial)⟩, bg_ NB14_15 BK14, bg_ NB17_15 BK17, bg_ NB18_15 BK18, ⟨by refine ch_ ?_; apply bq8_4_; exact ch_ BK15.out⟩, ⟨bl_⟩⟩
   rw [if_neg c66] at H
   have c66b0 := ef_ c66
   have c66b1 := nt_ c66
   by_cases c75 : (rd y22 x43_1) = 14
   ·rw [if_pos c75] at H
    have := et_ c75
    replace c75 := nf_ c75
    obtain ⟨⟨t79, t530⟩, A76, H⟩ := ob_ H
    (try dsimp only at H)
    have H' := Aside0.mk H
    clear H
    have p21 : 0 ≤ (x43_1 : Int) := od_
    have q21 : x43_1 < (y22.length : Int) := od_
    obtain ⟨ad21, e21, hx21_0⟩ := Kd.at_int (Kd.R_reads' HO_41.out).2.2 x43_1 p21 q21
    cases e21
    replace p21 := eq_true p21
    replace q21 := eq_true q21
    have := NB14_17.out
    have := NB17_14.out
    have := NB14_18.out
    have := NB18_14.out
    have := NB14_15.out
    have := NB15_14.out
    refine by2_ BK14 ?_; intros
    go_wp2_with (first | ((with_reducible refine gb_ 48 50 func48 #[.agg #[.string a0_0, .slice A0_1 l0_1.length c0_1], .int .i64 (rd y22 x43_1)] (impl_FieldOf.calls k1 a0_0 _ _ l0_1 (rd y22 x43_1) t24 true _ (cb_ HR0_1 HB) HC0_1.out A44.out) fun w81 hb => ?_); replace HO_41 := Aside0.mk (Kd.R_below (ra_ HO_41) hb); replace BK14 := kb_ BK14 hb; replace BK17 := kb_ BK17 hb; replace BK18 := kb_ BK18 hb; replace BK15 := kb_ BK15 hb; replace HB := hs_ hb; clear hb) | ((with_reducible refine gb_ 53 77 func53 #[.string t24] (impl_Narrow.calls k1 t24 t79 t530 _ A76.out) fun w82 hb => ?_); replace HO_41 := Aside0.mk (Kd.R_below (ra_ HO_41) hb); replace BK14 := kb_ BK14 hb; replace BK17 := kb_ BK17 hb; replace BK18 := kb_ BK18 hb; replace BK15 := kb_ BK15 hb; replace HB := hs_ hb; clear hb; have := NB15_17.out; have := NB17_15.out; have := NB15_18.out; have := NB18_15.out; refine by8_ BK15 ?_; intros))
    go_roundg k1
    case measure => have := HK1.out; omega
    case rel => exact ⟨(wrap64 (x43_1 + 1)), (x58_1), (x59_1), (x60_1), (x63_1), (x64_1), (x65_1), (x67_1), (x68_1), (x26_1), (x28_1), (x29_1), (x33_1), (x36_1), (t79), sp_, H', ⟨by have := HK1.out; omega⟩, ⟨by refine cr_ ?_; exact Kd.R_mono (rf_ gb15 7 (Kd.R_types HO_41.out BK15.out (by decide)) (.int .i64 t79)) (fun _ hk => trivial)⟩, bg_ NB14_15 BK14, bg_ NB17_15 BK17, bg_ NB18_15 BK18, ⟨by refine ch_ ?_; apply bq8_7_; exact ch_ BK15.out⟩, ⟨bl_⟩⟩
   rw [if_neg c75] at H
   have c75b0 := ef_ c75
   have c75b1 := nt_ c75
   by_cases c86 : (rd y22 x43_1) = 38
   ·rw [if_pos c86] at H
    have := et_ c86
    replace c86 := nf_ c86
    obtain ⟨t80, A87, H⟩ := ob_ H
    have H' := Aside0.mk H
    clear H
    have p21 : 0 ≤ (x43_1 : Int) := od_
    have q21 : x43_1 < (y22.length : Int) := od_
    obtain ⟨ad21, e21, hx21_0⟩ := Kd.at_int (Kd.R_reads' HO_41.out).2.2 x43_1 p21 q21
    cases e21
    replace p21 := eq_true p21
    replace q21 := eq_true q21
    have := NB14_17.out
    have := NB17_14.out
    have := NB14_18.out
    have := NB18_14.out
    have := NB14_15.out
    have := NB15_14.out
    refine by2_ BK14 ?_; intros
    go_wp2_with (first | ((with_reducible refine gb_ 48 50 func48 #[.agg #[.string a0_0, .slice A0_1 l0_1.length c0_1], .int .i64 (rd y22 x43_1)] (impl_FieldOf.calls k1 a0_0 _ _ l0_1 (rd y22 x43_1) t24 true _ (cb_ HR0_1 HB) HC0_1.out A44.out) fun w92 hb => ?_); replace HO_41 := Aside0.mk (Kd.R_below (ra_ HO_41) hb); replace BK14 := kb_ BK14 hb; replace BK17 := kb_ BK17 hb; replace BK18 := kb_ BK18 hb; replace BK15 := kb_ BK15 hb; replace HB := hs_ hb; clear hb) | ((with_reducible refine gb_ 54 84 func54 #[.string t24] (impl_FieldBare.calls t24 t80 _ A87.out) fun w93 hb => ?_); replace HO_41 := Aside0.mk (Kd.R_below (ra_ HO_41) hb); replace BK14 := kb_ BK14 hb; replace BK17 := kb_ BK17 hb; replace BK18 := kb_ BK18 hb; replace BK15 := kb_ BK15 hb; replace HB := hs_ hb; clear hb; have := NB15_17.out; have := NB17_15.out; have := NB15_18.out; have := NB18_15.out; refine by8_ BK15 ?_; intros))
    go_roundg k1
    case measure => have := HK1.out; omega
    case rel => exact ⟨(wrap64 (x43_1 + 1)), (x58_1), (x59_1), (x60_1), (x63_1), (x64_1), (x65_1), (x67_1), (x68_1), (x26_1), (x28_1), (t80), (x33_1), (x36_1), (x47_1), sp_, H', ⟨by have := HK1.out; omega⟩, ⟨by refine cr_ ?_; exact Kd.R_mono (rf_ gb15 3 (Kd.R_types HO_41.out BK15.out (by decide)) (.string t80)) (fun _ hk => trivial)⟩, bg_ NB14_15 BK14, bg_ NB17_15 BK17, bg_ NB18_15 BK18, ⟨by refine ch_ ?_; apply bq8_3_; exact ch_ BK15.out⟩, ⟨bl_⟩⟩
   rw [if_neg c86] at H
   have c86b0 := ef_ c86
   have c86b1 := nt_ c86
   by_cases c97 : (rd y22 x43_1) = 103
   ·rw [if_pos c97] at H
    have := et_ c97
    replace c97 := nf_ c97
    have H' := Aside0.mk H
    clear H
    have p21 : 0 ≤ (x43_1 : Int) := od_
    have q21 : x43_1 < (y22.length : Int) := od_
    obtain ⟨ad21, e21, hx21_0⟩ := Kd.at_int (Kd.R_reads' HO_41.out).2.2 x43_1 p21 q21
    cases e21
    replace p21 := eq_true p21
    replace q21 := eq_true q21
    have := NB14_17.out
    have := NB17_14.out
    have := NB14_18.out
    have := NB18_14.out
    have := NB14_15.out
    have := NB15_14.out
    refine by2_ BK14 ?_; intros
    go_wp2_with (first | ((with_reducible refine gb_ 48 50 func48 #[.agg #[.string a0_0, .slice A0_1 l0_1.length c0_1], .int .i64 (rd y22 x43_1)] (impl_FieldOf.calls k1 a0_0 _ _ l0_1 (rd y22 x43_1) t24 true _ (cb_ HR0_1 HB) HC0_1.out A44.out) fun w102 hb => ?_); replace HO_41 := Aside0.mk (Kd.R_below (ra_ HO_41) hb); replace BK14 := kb_ BK14 hb; replace BK17 := kb_ BK17 hb; replace BK18 := kb_ BK18 hb; replace BK15 := kb_ BK15 hb; replace HB := hs_ hb; clear hb; have := NB15_17.out; have := NB17_15.out; have := NB15_18.out; have := NB18_15.out; refine by8_ BK15 ?_; intros))
    go_roundg k1
    case measure => have := HK1.out; omega
    case rel => exact ⟨(wrap64 (x43_1 + 1)), (x58_1), (x59_1), (x60_1), (x63_1), (x64_1), (x65_1), (x67_1), (x68_1), (x26_1), (t24), (x29_1), (x33_1), (x36_1), (x47_1), sp_, H', ⟨by have := HK1.out; omega⟩, ⟨by refine cr_ ?_; exact Kd.R_mono (rf_ gb15 2 (Kd.R_types HO_41.out BK15.out (by decide)) (.string t24)) (fun _ hk => trivial)⟩, bg_ NB14_15 BK14, bg_ NB17_15 BK17, bg_ NB18_15 BK18, ⟨by refine ch_ ?_; apply bq8_2_; exact ch_ BK15.out⟩, ⟨bl_⟩⟩
   ·rw [if_neg c97] at H
    have c97b0 := ef_ c97
    have c97b1 := nt_ c97
    have H' := Aside0.mk H
    clear H
    have p21 : 0 ≤ (x43_1 : Int) := od_
    have q21 : x43_1 < (y22.length : Int) := od_
    obtain ⟨ad21, e21, hx21_0⟩ := Kd.at_int (Kd.R_reads' HO_41.out).2.2 x43_1 p21 q21
    cases e21
    replace p21 := eq_true p21
    replace q21 := eq_true q21
    have := NB14_17.out
    have := NB17_14.out
    have := NB14_18.out
    have := NB18_14.out
    have := NB14_15.out
    have := NB15_14.out
    refine by2_ BK14 ?_; intros
    go_wp2_with (first | ((with_reducible refine gb_ 48 50 func48 #[.agg #[.string a0_0, .slice A0_1 l0_1.length c0_1], .int .i64 (rd y22 x43_1)] (impl_FieldOf.calls k1 a0_0 _ _ l0_1 (rd y22 x43_1) t24 true _ (cb_ HR0_1 HB) HC0_1.out A44.out) fun w110 hb => ?_); replace HO_41 := Aside0.mk (Kd.R_below (ra_ HO_41) hb); replace BK14 := kb_ BK14 hb; replace BK17 := kb_ BK17 hb; replace BK18 := kb_ BK18 hb; replace BK15 := kb_ BK15 hb; replace HB := hs_ hb; clear hb))
    go_roundg k1
    case measure => have := HK1.out; omega
    case rel => exact ⟨(wrap64 (x43_1 + 1)), (x58_1), (x59_1), (x60_1), (x63_1), (x64_1), (x65_1), (x67_1), (x68_1), (x26_1), (x28_1), (x29_1), (x33_1), (x36_1), (x47_1), sp_, H', ⟨by have := HK1.out; omega⟩, ⟨ra_ HO_41⟩, ⟨ch_ BK14.out⟩, ⟨ch_ BK17.out⟩, ⟨ch_ BK18.out⟩, ⟨ch_ BK15.out⟩, ⟨bl_⟩⟩
/-! ### impl_piece: function 125 -/
def impl_piece.f (l0 : List Int) (a1 : Int) (a2 : Int) : Option (List Int × Bool) := (impl_within.f a1 0 (l0.length : Int)).bind fun t3 => (if t3 = true then (if a2 < 0 then (some (([] : List Int), false)) else (if a2 > (wrap64 ((l0.length : Int) - a1)) then (some (([] : List Int), false)) else (if 0 ≤ a1 then (if a1 ≤ (wrap64 (a1 + a2)) then (if (wrap64 (a1 + a2)) ≤ (l0.length : Int) then (some (((l0.take ((wrap64 (a1 + a2)) : Int).toNat).drop (a1 : Int).toNat), true)) else (none)) else (none)) else (none)))) else (some (([] : List Int), false)))
theorem impl_piece.calls (P0_ : Nat → Prop) (A0 : Option Addr) (c0 : Nat) (l0 : List Int) (a1 : Int) (a2 : Int) (r1 : List Int) (r2 : Bool) (w : World) (hs0 : Kd.V (Kd.int .u8) 5 w w.heap.size (fun k_ => P0_ k_) (.slice A0 l0.length c0) l0) (h : impl_piece.f l0 a1 a2 = some (r1, r2)) :
  Calls Tryz.prog 125 #[.slice A0 l0.length c0, .int .i64 a1, .int .i64 a2] w fun e w' => ∃ v0_ : Value, e = .returned (.tuple #[v0_, .bool r2]) ∧ Kd.V (Kd.int .u8) 5 w' w.heap.size (fun k_ => (P0_ k_ ∨ w.heap.size ≤ k_)) v0_ r1 ∧ Below w.heap.size w w' := by
 have HO0 := Aside0.mk (show Kd.V (Kd.int .u8) 5 w w.heap.size (fun k_ => (P0_ k_ ∨ w.heap.size ≤ k_)) (.slice A0 l0.length c0) l0 from Kd.V_mono hs0 (fun k_ hk => .inl hk))
 have HB := Aside0.mk (Below.refl w.heap.size w)
 have H := h
 unfold impl_piece.f at H
 clear h
 obtain ⟨t3, A4, H⟩ := ob_ H
 by_cases c5 : t3 = true
 rotate_left
 ·replace c5 := gf_ c5
  subst c5
  replace H := in_ H
  simp only [Option.some.injEq, Prod.mk.injEq] at H
  obtain ⟨rfl, rfl⟩ := H
  go_enter func125, ntmps125
  go_wp2_with (first | ((with_reducible refine gd_ 71 11 func71 #[.int .i64 a1, .int .i64 0, .int .i64 (l0.length : Int)] (impl_within.calls a1 0 (l0.length : Int) false _ A4.out) fun nd => ?_)))
  go_ret2
  exact ⟨_, sq_, (Kd.V_nil _ _ _ _ _), bl_⟩
 subst c5
 replace H := ip_ H
 by_cases c6 : a2 < 0
 ·rw [if_pos c6] at H
  replace c6 := dt_ c6
  simp only [Option.some.injEq, Prod.mk.injEq] at H
  obtain ⟨rfl, rfl⟩ := H
  go_enter func125, ntmps125
  go_wp2_with (first | ((with_reducible refine gd_ 71 11 func71 #[.int .i64 a1, .int .i64 0, .int .i64 (l0.length : Int)] (impl_within.calls a1 0 (l0.length : Int) true _ A4.out) fun nd => ?_)))
  go_ret2
  exact ⟨_, sq_, (Kd.V_nil _ _ _ _ _), bl_⟩
 rw [if_neg c6] at H
 replace c6 := df_ c6
 by_cases c7 : a2 > (wrap64 ((l0.length : Int) - a1))
 ·rw [if_pos c7] at H
  replace c7 := dt_ c7
  simp only [Option.some.injEq, Prod.mk.injEq] at H
  obtain ⟨rfl, rfl⟩ := H
  go_enter func125, ntmps125
  go_wp2_with (first | ((with_reducible refine gd_ 71 11 func71 #[.int .i64 a1, .int .i64 0, .int .i64 (l0.length : Int)] (impl_within.calls a1 0 (l0.length : Int) true _ A4.out) fun nd => ?_)))
  go_ret2
  exact ⟨_, sq_, (Kd.V_nil _ _ _ _ _), bl_⟩
 rw [if_neg c7] at H
 replace c7 := df_ c7
 obtain ⟨c8, H⟩ := og_ H
 have := eq_true c8
 replace c8 := dt_ c8
 by_cases c9 : a1 ≤ (wrap64 (a1 + a2))
 ·rw [if_pos c9] at H
  have c9b0 := eq_true c9
  have c9b1 := dt_ c9
  by_cases c10 : (wrap64 (a1 + a2)) ≤ (l0.length : Int)
  ·rw [if_pos c10] at H
   have c10b0 := eq_true c10
   have c10b1 := dt_ c10
   obtain ⟨y2, hy2⟩ : ∃ y_ : List Int, y_ = ((l0.take ((wrap64 (a1 + a2)) : Int).toNat).drop (a1 : Int).toNat) := ⟨_, rfl⟩
   replace H : (some (y2, true)) = some (r1, r2) := hh_ hy2 H
   have Ny2 := Aside0.mk hy2
   clear hy2
   simp only [Option.some.injEq, Prod.mk.injEq] at H
   obtain ⟨rfl, rfl⟩ := H
   go_enter func125, ntmps125
   go_wp2_with (first | ((with_reducible refine gd_ 71 11 func71 #[.int .i64 a1, .int .i64 0, .int .i64 (l0.length : Int)] (impl_within.calls a1 0 (l0.length : Int) true _ A4.out) fun nd => ?_); have q11 : ((wrap64 (a1 + a2)) : Int) ≤ ((l0.length : Int) : Int) := od_; obtain ⟨i011, hi011, _, hsz11, _⟩ := info_parts info5; have hroom11 : l0.length ≤ c0 := (Kd.V_reads' HO0.out).2.1; have hC11 : Kd.F (Kd.int .u8) _ _ A0 l0.length l0 := (Kd.V_at (base := w.heap.size) HO0.out).2.2; have ql11 : (a1 : Int) ≤ ((wrap64 (a1 + a2)) : Int) := od_; have q011 : (0 : Int) ≤ (a1 : Int) := od_; have hcut11 := cut_mid (P := Tryz.prog) 37 5 .i64 .i64 underlying37 hi011 1 hsz11 A0 l0.length c0 a1 (wrap64 (a1 + a2)) q011 ql11 q11 hroom11; have hr11 := Kd.F_mid (lo := (a1 : Int).toNat) (hi := ((wrap64 (a1 + a2)) : Int).toNat) (c := c0) hC11 (by omega) (by omega) hroom11; obtain ⟨A11, hA11⟩ : ∃ A1, A1 = (if c0 = (a1 : Int).toNat then A0 else (A0 : Option Addr).map (·.add ((a1 : Int).toNat * 1))) := ⟨_, rfl⟩; obtain ⟨c11, hc11⟩ : ∃ c1, c1 = c0 - (a1 : Int).toNat := ⟨_, rfl⟩; have hy11 : y2.length = ((wrap64 (a1 + a2)) : Int).toNat - (a1 : Int).toNat := (by rw [Ny2.out, List.length_drop, List.length_take] <;> omega); rw [show ((l0).take ((wrap64 (a1 + a2)) : Int).toNat).drop (a1 : Int).toNat = y2 from Ny2.out.symm] at hr11; replace hr11 : Kd.F (Kd.int .u8) _ _ A11 y2.length y2 := (by rw [hA11]; exact hr11); rw [← hy11, ← hA11, ← hc11] at hcut11; have HO12 := Aside0.mk (show Kd.V (Kd.int .u8) 5 _ w.heap.size _ (.slice A11 y2.length c11) y2 from Kd.V_mk (by rw [hy11, hc11]; exact Nat.sub_le_sub_right (Nat.le_trans (by omega) hroom11) _) hr11); have HC12 := Aside0.mk (show y2.length ≤ c11 from by rw [hy11, hc11]; exact Nat.sub_le_sub_right (Nat.le_trans (by omega) hroom11) _); clear hr11 hC11 hroom11 hi011 hsz11 hc11; have KY11 := Aside0.mk hy11; have KA11 := Aside0.mk hA11; clear hy11 hA11; replace q11 := eq_true q11))
   go_ret2
   exact ⟨_, sq_, by refine cv_ ?_; exact HO12.out, bl_⟩
  ·rw [if_neg c10] at H
   exact absurd H (by simp)
 ·rw [if_neg c9] at H
  exact absurd H (by simp)
/-! ### impl_GetBcd: function 96 -/
def impl_GetBcd.l0 : Nat → Int → Int → List Int → Bool → List Int → List Int → Int → Int → Option (ByteArray × Int × Bool)
 | 0, _, _, _, _, _, _, _, _ => none
 | k + 1, x1, x2, x9, x10, x11, x27, x28, x29 => if x29 < x28 then (if 0 ≤ x29 then (if x29 < (x27.length : Int) then ((some (([(48 + ((rd x27 x29) / 16)) % 256, (48 + (Go.bits .and .u8 (rd x27 x29) 15)) % 256] : List Int) : List Int)).bind fun y32 => (if x11.length + y32.length < 140737488355328 then (impl_GetBcd.l0 k x1 x2 x9 x10 (x11 ++ y32) x27 x28 (wrap64 (x29 + 1))) else (none))) else (none)) else (none)) else (if x10 = true then ((impl_Digits.f k (strOfNums x11)).bind fun t49 => (if t49 = true then (if (Int.tmod x2 2) = 1 then (if 0 < (x11.length : Int) then (if (rd x11 0) = 48 then (if 0 ≤ (wrap64 ((x11.length : Int) - x2)) then (if (wrap64 ((x11.length : Int) - x2)) ≤ (x11.length : Int) then (some (strOfNums (x11.drop ((wrap64 ((x11.length : Int) - x2)) : Int).toNat), wrap64 (x1 + (x9.length : Int)), true)) else (none)) else (none)) else (some ((⟨#[]⟩ : ByteArray), 0, false))) else (none)) else (if 0 ≤ (wrap64 ((x11.length : Int) - x2)) then (if (wrap64 ((x11.length : Int) - x2)) ≤ (x11.length : Int) then (some (strOfNums (x11.drop ((wrap64 ((x11.length : Int) - x2)) : Int).toNat), wrap64 (x1 + (x9.length : Int)), true)) else (none)) else (none))) else (some ((⟨#[]⟩ : ByteArray), 0, false)))) else (some ((⟨#[]⟩ : ByteArray), 0, false)))
def impl_GetBcd.f (k : Nat) (l0 : List Int) (a1 : Int) (a2 : Int) : Option (ByteArray × Int × Bool) := (impl_within.f a2 1 38).bind fun t50 => (if t50 = true then ((impl_piece.f l0 a1 (wrap64 (Int.tdiv (wrap64 (a2 + 1)) 2))).bind fun bt3 => (impl_GetBcd.l0 k a1 a2 bt3.1 bt3.2 (([] : List Int)) bt3.1 (bt3.1.length : Int) 0)) else (some ((⟨#[]⟩ : ByteArray), 0, false)))
theorem impl_GetBcd.calls (k : Nat) (A0 : Option Addr) (c0 : Nat) (l0 : List Int) (a1 : Int) (a2 : Int) (r1 : ByteArray) (r2 : Int) (r3 : Bool) (w : World) (hr0 : Kd.C (Kd.int .u8) w A0 l0.length l0) (hc0 : l0.length ≤ c0) (h : impl_GetBcd.f k l0 a1 a2 = some (r1, r2, r3)) :
  Calls Tryz.prog 96 #[.slice A0 l0.length c0, .int .i64 a1, .int .i64 a2] w fun e w' => e = .returned (.tuple #[.string r1, .int .i64 r2, .bool r3]) ∧ Below w.heap.size w w' := by
 have HR0 := Aside0.mk hr0
 have HC0 := Aside0.mk hc0
 clear hr0 hc0
 have HB := Aside0.mk (Below.refl w.heap.size w)
 have H := h
 unfold impl_GetBcd.f at H
 clear h
 obtain ⟨t50, A4, H⟩ := ob_ H
 by_cases c5 : t50 = true
 rotate_left
 ·replace c5 := gf_ c5
  subst c5
  replace H := in_ H
  simp only [Option.some.injEq, Prod.mk.injEq] at H
  obtain ⟨rfl, rfl, rfl⟩ := H
  go_enter func96, ntmps96
  go_wp2_with (first | ((with_reducible refine gd_ 71 15 func71 #[.int .i64 a2, .int .i64 1, .int .i64 38] (impl_within.calls a2 1 38 false _ A4.out) fun nd => ?_)))
  go_ret3
  exact ⟨sq_, bl_⟩
 subst c5
 replace H := ip_ H
 obtain ⟨⟨t3, t44⟩, A6, H⟩ := ob_ H
 (try dsimp only at H)
 obtain ⟨y42, hy42⟩ : ∃ y_ : List Int, y_ = (([] : List Int)) := ⟨_, rfl⟩
 replace H : (impl_GetBcd.l0 k a1 a2 t3 t44 y42 t3 (t3.length : Int) 0) = some (r1, r2, r3) := hh_ hy42 H
 have Ny42 := Aside0.mk hy42
 clear hy42
 have H' := Aside0.mk H
 clear H
 go_enter func96, ntmps96
 go_wp2_with (first | ((with_reducible refine gd_ 71 15 func71 #[.int .i64 a2, .int .i64 1, .int .i64 38] (impl_within.calls a2 1 38 true _ A4.out) fun nd => ?_)) | ((with_reducible refine gc_ 125 23 func125 #[.slice A0 l0.length c0, .int .i64 a1, .int .i64 (wrap64 (Int.tdiv (wrap64 (a2 + 1)) 2))] ?_); (with_reducible refine (impl_piece.calls (fun k_ => k_ < w.heap.size) _ _ l0 a1 (wrap64 (Int.tdiv (wrap64 (a2 + 1)) 2)) t3 t44 _ (Kd.V_mk HC0.out (Kd.F_below (Kd.C_F (Kd.heap_int .u8) HR0.out) bl_)) A6.out).mono ?_); rintro e w7 ⟨v53, rfl, ho0, hb⟩; refine ⟨_, rfl, ?_⟩; have HO46 := Aside0.mk (Kd.V_lower (Kd.V_mono (ok' := fun k_ => True) ho0 (fun k_ hk_ => trivial)) (below_size bl_)); replace HB := hs_ hb; clear hb; (try clear ho0)) | ((with_reducible refine gate_dst (N := 26) rfl ?_); refine Kd.R_lit (Kd.int .u8) _ 5 ?hg (N := 26) ?hd (xs := ([] : List Int)) (inner := []) (ok := fun _ => True) (okp := fun _ => True) ?hr ?hp (fun _ hk => hk) trivial (Below.refl _ _) (Nat.le_refl _) (by simp) ?_; (case hd => rfl); (case hg => rfl); (case hr => first | (go_simp; done) | (go_simp; rfl)); (case hp => exact (Reps.none _ _)); intro v54 w8 ho9 hb hg_ hnew_; clear hg_ hnew_; (first | rw [← Ny42.out] at ho9 | (simp only [Int.reduceToNat] at ho9; rw [← Ny42.out] at ho9)); replace HO46 := Aside0.mk (Kd.V_elder' (by refine cv_ ?_; exact HO46.out) (Kd.R_base ho9) hb); have HO51 := Aside0.mk (Kd.R_lower ho9 (below_size bl_)); replace HB := hs_ hb; clear hb ho9; obtain ⟨Ao10, co10, eo10⟩ := Kd.V_slice HO46.out; subst eo10))
 go_loopg [11, 29] k (fun kq v11 v29 w' => ∃ (x11_1 : List Int) (x29_1 : Int), v29 = .int .i64 x29_1 ∧ Aside0 (impl_GetBcd.l0 kq a1 a2 t3 t44 x11_1 t3 (t3.length : Int) x29_1 = some (r1, r2, r3)) ∧ Aside0 (kq ≤ k) ∧ Aside0 (Kd.V (Kd.int .u8) 5 w' w.heap.size (fun k_ => some k_ ≠ (v11 : Value).ownBlock) (.slice Ao10 t3.length co10) t3) ∧ Aside0 (Kd.R (Kd.int .u8) 5 w' w.heap.size (fun _ => True) v11 x11_1) ∧ Aside0 (Kd.V (Kd.int .u8) 5 w' w.heap.size (fun k_ => some k_ ≠ (v11 : Value).ownBlock) (.slice Ao10 t3.length co10) t3) ∧ Aside0 (Below w.heap.size w w'))
 case atStart => exact ⟨(y42), (0), sp_, H', ⟨Nat.le_refl _⟩, ⟨by refine cv_ ?_; exact Kd.V_mono HO46.out (fun _ hk => hk.2)⟩, ⟨ra_ HO51⟩, ⟨by refine cv_ ?_; exact Kd.V_mono HO46.out (fun _ hk => hk.2)⟩, ⟨bl_⟩⟩
 case round =>
  clear H'
  obtain ⟨x11_1, x29_1, rfl, HA, HK1, HO_9, HO_11, HO_27, HB⟩ := hrel
  cases gk with
  | zero => exact absurd HA.out (by simp [impl_GetBcd.l0])
  | succ k1 =>
   have H := HA.out
   clear HA
   simp only [impl_GetBcd.l0] at H
   by_cases c11 : x29_1 < (t3.length : Int)
   ·rw [if_pos c11] at H
    replace c11 := dt_ c11
    obtain ⟨c12, H⟩ := og_ H
    replace c12 := dt_ c12
    obtain ⟨c13, H⟩ := og_ H
    replace c13 := dt_ c13
    obtain ⟨y32, hy32⟩ : ∃ y_ : List Int, y_ = (([(48 + ((rd t3 x29_1) / 16)) % 256, (48 + (Go.bits .and .u8 (rd t3 x29_1) 15)) % 256] : List Int)) := ⟨_, rfl⟩
    replace H : (if x11_1.length + y32.length < 140737488355328 then (impl_GetBcd.l0 k1 a1 a2 t3 t44 (x11_1 ++ y32) t3 (t3.length : Int) (wrap64 (x29_1 + 1))) else (none)) = some (r1, r2, r3) := hh_ hy32 H
    have Ny32 := Aside0.mk hy32
    clear hy32
    by_cases c14 : x11_1.length + y32.length < 140737488355328
    ·rw [if_pos c14] at H
     have LMc14 := Aside0.mk c14
     clear c14
     obtain ⟨y43, hy43⟩ : ∃ y_ : List Int, y_ = (x11_1 ++ y32) := ⟨_, rfl⟩
     replace H : (impl_GetBcd.l0 k1 a1 a2 t3 t44 y43 t3 (t3.length : Int) (wrap64 (x29_1 + 1))) = some (r1, r2, r3) := hh_ hy43 H
     have Ny43 := Aside0.mk hy43
     clear hy43
     have H' := Aside0.mk H
     clear H
     have p41 : 0 ≤ (x29_1 : Int) := od_
     have q41 : x29_1 < (t3.length : Int) := od_
     obtain ⟨ad41, e41, hx41_0⟩ := Kd.at_int (Kd.V_reads' HO_27.out).2.2 x29_1 p41 q41
     cases e41
     replace p41 := eq_true p41
     replace q41 := eq_true q41
     go_wp2_with (first | ((with_reducible refine gate_dst (N := 40) rfl ?_); refine Kd.R_lit (Kd.int .u8) _ 5 ?hg (N := 40) ?hd (xs := ([(48 + ((rd t3 x29_1) / 16)) % 256, (48 + (Go.bits .and .u8 (rd t3 x29_1) 15)) % 256] : List Int)) (inner := [.int .u8 ((48 + ((rd t3 x29_1) / 16)) % 256), .int .u8 ((48 + (Go.bits .and .u8 (rd t3 x29_1) 15)) % 256)]) (ok := fun _ => True) (okp := fun _ => True) ?hr ?hp (fun _ hk => hk) trivial (Below.refl _ _) (Nat.le_refl _) (by simp) ?_; (case hd => rfl); (case hg => rfl); (case hr => first | (go_simp; done) | (go_simp; rfl)); (case hp => exact (Reps.one (show Kd.M (Kd.int .u8) _ _ _ ((48 + ((rd t3 x29_1) / 16)) % 256) [.int .u8 ((48 + ((rd t3 x29_1) / 16)) % 256)] from rfl) (Reps.one (show Kd.M (Kd.int .u8) _ _ _ ((48 + (Go.bits .and .u8 (rd t3 x29_1) 15)) % 256) [.int .u8 ((48 + (Go.bits .and .u8 (rd t3 x29_1) 15)) % 256)] from rfl) (Reps.none _ _)))); intro v55 w15 ho16 hb hg_ hnew_; clear hg_ hnew_; (first | rw [← Ny32.out] at ho16 | (simp only [Int.reduceToNat] at ho16; rw [← Ny32.out] at ho16)); replace HO_9 := Aside0.mk (Kd.V_elder' (by refine cv_ ?_; exact HO_9.out) (Kd.R_base ho16) hb); replace HO_27 := Aside0.mk (Kd.V_elder' (by refine cv_ ?_; exact HO_27.out) (Kd.R_base ho16) hb); have HO45 := Aside0.mk (Kd.R_lower (Kd.R_new' ho16 (Kd.R_lt (ra_ HO_11))) (below_size bl_)); replace HO_11 := Aside0.mk (Kd.R_elder' (ra_ HO_11) (Kd.R_base ho16) hb); replace HB := hs_ hb; clear hb ho16; obtain ⟨Ao18, co18, eo18⟩ := Kd.R_slice HO45.out; subst eo18) | ((with_reducible refine gate_builtin (b := .append) (xs := #[.tmp 33, .tmp 40]) rfl ?_); at_builtin; refine Kd.R_append_rows (Kd.int .u8) (w0 := w) w.heap.size rfl (.tmp 33) (.tmp 40) 37 5 (.int .u8 0) 1 rfl underlying37 info5 rfl (by decide) (by omega) u11 x11_1 y32 _ _ _ (fun k_ => some k_ ≠ (.slice Ao18 y32.length co18 : Value).ownBlock) (fun _ => False) rfl rfl ?aO ?aR (fun _ _ h => h) (fun _ h => h.elim) ?aF ?aB ?aS ?aL ?_; (case aR => exact ca_ ((Kd.R_reads' HO45.out).2.2)); (case aB => exact bl_); (case aF => exact (fun k_ hk => Kd.fresh' (Kd.R_lt (ra_ HO45)) k_ hk)); (case aO => exact (by refine cr_ ?_; exact Kd.R_mono HO_11.out (fun _ hk => hk.2))); (case aS => exact (below_size bl_)); (case aL => have := LMc14.out; omega); intro v56 w17 ho hb hg hat; rw [← Ny43.out] at ho; have n0_ := Aside0.mk (Kd.V_afterv (ok := (fun k_ => some k_ ≠ (.slice Ao18 y32.length co18 : Value).ownBlock)) (by refine cv_ ?_; exact Kd.V_mono HO_9.out (fun _ hk => ⟨hk.2, hk.1⟩)) hg hat); have n1_ := Aside0.mk (Kd.V_afterv (ok := (fun k_ => some k_ ≠ (.slice Ao18 y32.length co18 : Value).ownBlock)) (by refine cv_ ?_; exact Kd.V_mono HO_27.out (fun _ hk => ⟨hk.2, hk.1⟩)) hg hat); have n2_ := Aside0.mk (Kd.R_after (ok := (fun _ => True)) (ra_ HO45) hg hat); have n3_ := Aside0.mk (hb); have n4_ := Aside0.mk (ho); clear HO_9; clear HO_27; clear HO45; clear HB; clear HO_11; have HO_9 := n0_; have HO_27 := n1_; have HO45 := n2_; have HB := n3_; have HO52 := n4_; clear n0_ n1_ n2_ n3_ n4_; clear ho hb hg hat))
     go_roundg k1
     case measure => have := HK1.out; omega
     case rel => exact ⟨(y43), (wrap64 (x29_1 + 1)), sp_, H', ⟨by have := HK1.out; omega⟩, ⟨by refine cv_ ?_; exact Kd.V_mono HO_9.out (fun _ hk => hk.2)⟩, ⟨by refine cr_ ?_; exact Kd.R_mono HO52.out (fun _ hk => trivial)⟩, ⟨by refine cv_ ?_; exact Kd.V_mono HO_27.out (fun _ hk => hk.2)⟩, ⟨bl_⟩⟩
    ·rw [if_neg c14] at H
     exact absurd H (by simp)
   rw [if_neg c11] at H
   replace c11 := df_ c11
   by_cases c19 : t44 = true
   rotate_left
   ·replace c19 := gf_ c19
    subst c19
    replace H := in_ H
    simp only [Option.some.injEq, Prod.mk.injEq] at H
    obtain ⟨rfl, rfl, rfl⟩ := H
    go_wp2
    go_ret3
    exact ⟨sq_, bl_⟩
   subst c19
   replace H := ip_ H
   obtain ⟨t49, A20, H⟩ := ob_ H
   by_cases c21 : t49 = true
   rotate_left
   ·replace c21 := gf_ c21
    subst c21
    replace H := in_ H
    simp only [Option.some.injEq, Prod.mk.injEq] at H
    obtain ⟨rfl, rfl, rfl⟩ := H
    have hcv41 := own_string (P := Tryz.prog) underlying37 underlying5 underlying9 (Kd.own_of_R HO_11.out)
    go_wp2_with (first | (go_at_call 86; (with_reducible refine (impl_Digits.calls k1 (strOfNums x11_1) false _ A20.out).mono ?_); rintro e w' ⟨rfl, nd, rfl⟩))
    go_ret3
    exact ⟨sq_, bl_⟩
   subst c21
   replace H := ip_ H
   by_cases c22 : (Int.tmod a2 2) = 1
   rotate_left
   ·rw [if_neg c22] at H
    have c22b0 := ef_ c22
    have c22b1 := nt_ c22
    obtain ⟨ji34, hji34⟩ : ∃ j_ : Int, (wrap64 ((x11_1.length : Int) - a2)) = j_ := ⟨_, rfl⟩
    replace H : (if 0 ≤ (ji34) then (if (ji34) ≤ (x11_1.length : Int) then (some (strOfNums (x11_1.drop ((ji34) : Int).toNat), wrap64 (a1 + (t3.length : Int)), true)) else (none)) else (none)) = some (r1, r2, r3) := by first | (rw [hji34] at H; exact H) | (simp only [hji34] at H ⊢; exact H)
    (try rw [hji34] at A20)
    have hji34w : (IntKind.i64.wrap ((x11_1.length : Int) - a2)) = ji34 := (i64_w _).trans hji34
    by_cases c35 : 0 ≤ (ji34)
    ·rw [if_pos c35] at H
     have := eq_true c35
     replace c35 := dt_ c35
     by_cases c36 : (ji34) ≤ (x11_1.length : Int)
     ·rw [if_pos c36] at H
      have := eq_true c36
      replace c36 := dt_ c36
      obtain ⟨y37, hy37⟩ : ∃ y_ : List Int, y_ = (x11_1.drop ((ji34) : Int).toNat) := ⟨_, rfl⟩
      replace H : (some (strOfNums y37, wrap64 (a1 + (t3.length : Int)), true)) = some (r1, r2, r3) := hh_ hy37 H
      have Ny37 := Aside0.mk hy37
      clear hy37
      simp only [Option.some.injEq, Prod.mk.injEq] at H
      obtain ⟨rfl, rfl, rfl⟩ := H
      have hcv37 := own_string (P := Tryz.prog) underlying37 underlying5 underlying9 (Kd.own_of_R HO_11.out)
      go_wp2_with (first | (go_at_call 86; (with_reducible refine (impl_Digits.calls k1 (strOfNums x11_1) true _ A20.out).mono ?_); rintro e w' ⟨rfl, nd, rfl⟩; obtain ⟨Ao38, co38, eo38⟩ := Kd.R_slice HO_11.out; subst eo38; have q39 : ((ji34) : Int) ≤ ((x11_1.length : Int) : Int) := od_; obtain ⟨i039, hi039, _, hsz39, _⟩ := info_parts info5; have hroom39 : x11_1.length ≤ co38 := (Kd.R_reads' HO_11.out).2.1; have hC39 : Kd.C (Kd.int .u8) _ Ao38 x11_1.length x11_1 := (Kd.R_reads' HO_11.out).2.2; have q039 : (0 : Int) ≤ ((ji34) : Int) := od_; have hcut39 := cut_from (P := Tryz.prog) 37 5 .i64 underlying37 hi039 1 hsz39 Ao38 x11_1.length co38 (ji34) q039 q39; have hr39 := Kd.C_drop (m := ((ji34) : Int).toNat) (c := co38) hC39 (by omega) hroom39; obtain ⟨A39, hA39⟩ : ∃ A1, A1 = (if co38 = ((ji34) : Int).toNat then Ao38 else (Ao38 : Option Addr).map (·.add (((ji34) : Int).toNat * 1))) := ⟨_, rfl⟩; obtain ⟨c39, hc39⟩ : ∃ c1, c1 = co38 - ((ji34) : Int).toNat := ⟨_, rfl⟩; have hy39 : y37.length = x11_1.length - ((ji34) : Int).toNat := (by rw [Ny37.out, List.length_drop] <;> omega); rw [show (x11_1).drop ((ji34) : Int).toNat = y37 from Ny37.out.symm] at hr39; replace hr39 : Kd.C (Kd.int .u8) _ A39 y37.length y37 := (by rw [hA39]; exact hr39); rw [← hy39, ← hA39, ← hc39] at hcut39; have HR47 := Aside0.mk hr39; have HC47 := Aside0.mk (show y37.length ≤ c39 from by rw [hy39, hc39]; exact Nat.sub_le_sub_right hroom39 _); clear hr39 hC39 hroom39 hi039 hsz39 hc39; have KY39 := Aside0.mk hy39; have KA39 := Aside0.mk hA39; clear hy39 hA39; have KL39 := Aside0.mk (show ((ji34) : Int).toNat ≤ x11_1.length from by omega); replace q39 := eq_true q39; have hcv40 := Kd.C_string (P := Tryz.prog) (A := A39) (c := c39) underlying37 underlying5 underlying9 (by repeat (first | (with_reducible exact HR47.out) | (with_reducible refine Kd.C_alloc ?_ _) | (with_reducible refine Kd.C_drewN ?_ _) | (with_reducible refine Kd.C_drew ?_) | exact HR47.out)); have hcu40 := fun (n_ : Nat) => Kd.C_string (P := Tryz.prog) (A := A39) (c := c39) underlying37 underlying5 underlying9 (Kd.C_drewN HR47.out n_)))
      go_ret3
      exact ⟨by first | rfl | (simp [errW_none, errW_some] <;> rfl) | (simp only [← hji34]; first | rfl | (simp [errW_none, errW_some] <;> rfl)) | (simp [*, errW_none, errW_some] <;> rfl), bl_⟩
     ·rw [if_neg c36] at H
      exact absurd H (by simp)
    ·rw [if_neg c35] at H
     exact absurd H (by simp)
   rw [if_pos c22] at H
   have := et_ c22
   replace c22 := nf_ c22
   obtain ⟨c23, H⟩ := og_ H
   have c23b0 := dt_ c23
   have c23b1 : decide (0 < x11_1.length) = true := decide_eq_true (by omega)
   clear c23
   by_cases c24 : (rd x11_1 0) = 48
   ·rw [if_pos c24] at H
    have := et_ c24
    replace c24 := nf_ c24
    obtain ⟨ji25, hji25⟩ : ∃ j_ : Int, (wrap64 ((x11_1.length : Int) - a2)) = j_ := ⟨_, rfl⟩
    replace H : (if 0 ≤ (ji25) then (if (ji25) ≤ (x11_1.length : Int) then (some (strOfNums (x11_1.drop ((ji25) : Int).toNat), wrap64 (a1 + (t3.length : Int)), true)) else (none)) else (none)) = some (r1, r2, r3) := by first | (rw [hji25] at H; exact H) | (simp only [hji25] at H ⊢; exact H)
    (try rw [hji25] at A20)
    have hji25w : (IntKind.i64.wrap ((x11_1.length : Int) - a2)) = ji25 := (i64_w _).trans hji25
    by_cases c26 : 0 ≤ (ji25)
    ·rw [if_pos c26] at H
     have := eq_true c26
     replace c26 := dt_ c26
     by_cases c27 : (ji25) ≤ (x11_1.length : Int)
     ·rw [if_pos c27] at H
      have := eq_true c27
      replace c27 := dt_ c27
      obtain ⟨y40, hy40⟩ : ∃ y_ : List Int, y_ = (x11_1.drop ((ji25) : Int).toNat) := ⟨_, rfl⟩
      replace H : (some (strOfNums y40, wrap64 (a1 + (t3.length : Int)), true)) = some (r1, r2, r3) := hh_ hy40 H
      have Ny40 := Aside0.mk hy40
      clear hy40
      simp only [Option.some.injEq, Prod.mk.injEq] at H
      obtain ⟨rfl, rfl, rfl⟩ := H
      have hcv28 := own_string (P := Tryz.prog) underlying37 underlying5 underlying9 (Kd.own_of_R HO_11.out)
      go_wp2_with (first | (go_at_call 86; (with_reducible refine (impl_Digits.calls k1 (strOfNums x11_1) true _ A20.out).mono ?_); rintro e w' ⟨rfl, nd, rfl⟩; obtain ⟨Ao29, co29, eo29⟩ := Kd.R_slice HO_11.out; subst eo29; have p31 : 0 ≤ (0 : Int) := (by omega); have q31 : 0 < (x11_1.length : Int) := od_; obtain ⟨ad31, e31, hx31_0⟩ := Kd.at_int (Kd.R_reads' HO_11.out).2.2 0 p31 q31; cases e31; have qi554 : (0 < x11_1.length) = True := eq_true (by omega); (try rw [show ((0 : Int)).toNat = 0 from rfl] at hx31_0); (try rw [Addr.add_zero'] at hx31_0); replace p31 := eq_true p31; replace q31 := eq_true q31; have q30 : ((ji25) : Int) ≤ ((x11_1.length : Int) : Int) := od_; obtain ⟨i030, hi030, _, hsz30, _⟩ := info_parts info5; have hroom30 : x11_1.length ≤ co29 := (Kd.R_reads' HO_11.out).2.1; have hC30 : Kd.C (Kd.int .u8) _ (some ad31) x11_1.length x11_1 := (Kd.R_reads' HO_11.out).2.2; have q030 : (0 : Int) ≤ ((ji25) : Int) := od_; have hcut30 := cut_from (P := Tryz.prog) 37 5 .i64 underlying37 hi030 1 hsz30 (some ad31) x11_1.length co29 (ji25) q030 q30; have hr30 := Kd.C_drop (m := ((ji25) : Int).toNat) (c := co29) hC30 (by omega) hroom30; obtain ⟨A30, hA30⟩ : ∃ A1, A1 = (if co29 = ((ji25) : Int).toNat then (some ad31) else ((some ad31) : Option Addr).map (·.add (((ji25) : Int).toNat * 1))) := ⟨_, rfl⟩; obtain ⟨c30, hc30⟩ : ∃ c1, c1 = co29 - ((ji25) : Int).toNat := ⟨_, rfl⟩; have hy30 : y40.length = x11_1.length - ((ji25) : Int).toNat := (by rw [Ny40.out, List.length_drop] <;> omega); rw [show (x11_1).drop ((ji25) : Int).toNat = y40 from Ny40.out.symm] at hr30; replace hr30 : Kd.C (Kd.int .u8) _ A30 y40.length y40 := (by rw [hA30]; exact hr30); rw [← hy30, ← hA30, ← hc30] at hcut30; have HR48 := Aside0.mk hr30; have HC48 := Aside0.mk (show y40.length ≤ c30 from by rw [hy30, hc30]; exact Nat.sub_le_sub_right hroom30 _); clear hr30 hC30 hroom30 hi030 hsz30 hc30; have KY30 := Aside0.mk hy30; have KA30 := Aside0.mk hA30; clear hy30 hA30; have KL30 := Aside0.mk (show ((ji25) : Int).toNat ≤ x11_1.length from by omega); replace q30 := eq_true q30; have hcv31 := Kd.C_string (P := Tryz.prog) (A := A30) (c := c30) underlying37 underlying5 underlying9 (by repeat (first | (with_reducible exact HR48.out) | (with_reducible refine Kd.C_alloc ?_ _) | (with_reducible refine Kd.C_drewN ?_ _) | (with_reducible refine Kd.C_drew ?_) | exact HR48.out)); have hcu31 := fun (n_ : Nat) => Kd.C_string (P := Tryz.prog) (A := A30) (c := c30) underlying37 underlying5 underlying9 (Kd.C_drewN HR48.out n_)))
      go_ret3
      exact ⟨by first | rfl | (simp [errW_none, errW_some] <;> rfl) | (simp only [← hji25]; first | rfl | (simp [errW_none, errW_some] <;> rfl)) | (simp [*, errW_none, errW_some] <;> rfl), bl_⟩
     ·rw [if_neg c27] at H
      exact absurd H (by simp)
    ·rw [if_neg c26] at H
     exact absurd H (by simp)
   ·rw [if_neg c24] at H
    have c24b0 := ef_ c24
    have c24b1 := nt_ c24
    simp only [Option.some.injEq, Prod.mk.injEq] at H
    obtain ⟨rfl, rfl, rfl⟩ := H
    have hcv32 := own_string (P := Tryz.prog) underlying37 underlying5 underlying9 (Kd.own_of_R HO_11.out)
    go_wp2_with (first | (go_at_call 86; (with_reducible refine (impl_Digits.calls k1 (strOfNums x11_1) true _ A20.out).mono ?_); rintro e w' ⟨rfl, nd, rfl⟩; obtain ⟨Ao33, co33, eo33⟩ := Kd.R_slice HO_11.out; subst eo33; have p31 : 0 ≤ (0 : Int) := (by omega); have q31 : 0 < (x11_1.length : Int) := od_; obtain ⟨ad31, e31, hx31_0⟩ := Kd.at_int (Kd.R_reads' HO_11.out).2.2 0 p31 q31; cases e31; have qi554 : (0 < x11_1.length) = True := eq_true (by omega); (try rw [show ((0 : Int)).toNat = 0 from rfl] at hx31_0); (try rw [Addr.add_zero'] at hx31_0); replace p31 := eq_true p31; replace q31 := eq_true q31))
    go_ret3
    exact ⟨sq_, bl_⟩
/-! ### impl_GetBits: function 97 -/
def impl_GetBits.l0 : Nat → Int → List Int → List Int → Int → Option (List Int × Int × Bool)
 | 0, _, _, _, _ => none
 | k + 1, x1, x7, x9, x10 => if x10 ≤ 64 then (if 0 ≤ (wrap64 (Int.tdiv (wrap64 (x10 - 1)) 8)) then (if (wrap64 (Int.tdiv (wrap64 (x10 - 1)) 8)) < (x7.length : Int) then (if 0 ≤ (Int.tmod (wrap64 (x10 - 1)) 8) then (if (Go.bits .and .u8 (rd x7 (wrap64 (Int.tdiv (wrap64 (x10 - 1)) 8))) (shr .u8 128 (Int.tmod (wrap64 (x10 - 1)) 8))) = 0 then (impl_GetBits.l0 k x1 x7 x9 (wrap64 (x10 + 1))) else (if x9.length < 17592186044416 then (impl_GetBits.l0 k x1 x7 (x9 ++ [x10]) (wrap64 (x10 + 1))) else (none))) else (none)) else (none)) else (none)) else (some (x9, wrap64 (x1 + 8), true))
def impl_GetBits.f (k : Nat) (l0 : List Int) (a1 : Int) : Option (List Int × Int × Bool) := (impl_piece.f l0 a1 8).bind fun bt2 => (if bt2.2 = true then (impl_GetBits.l0 k a1 bt2.1 (([] : List Int)) 1) else (some (([] : List Int), 0, false)))
theorem impl_GetBits.calls (k : Nat) (A0 : Option Addr) (c0 : Nat) (l0 : List Int) (a1 : Int) (r1 : List Int) (r2 : Int) (r3 : Bool) (w : World) (hr0 : Kd.C (Kd.int .u8) w A0 l0.length l0) (hc0 : l0.length ≤ c0) (h : impl_GetBits.f k l0 a1 = some (r1, r2, r3)) :
  Calls Tryz.prog 97 #[.slice A0 l0.length c0, .int .i64 a1] w fun e w' => ∃ v0_ : Value, e = .returned (.tuple #[v0_, .int .i64 r2, .bool r3]) ∧ Kd.R (Kd.int .i64) 3 w' w.heap.size (fun _ => True) v0_ r1 ∧ Below w.heap.size w w' := by
 have HR0 := Aside0.mk hr0
 have HC0 := Aside0.mk hc0
 clear hr0 hc0
 have HB := Aside0.mk (Below.refl w.heap.size w)
 have H := h
 unfold impl_GetBits.f at H
 clear h
 obtain ⟨⟨t2, t30⟩, A3, H⟩ := ob_ H
 (try dsimp only at H)
 by_cases c4 : t30 = true
 rotate_left
 ·replace c4 := gf_ c4
  subst c4
  replace H := in_ H
  simp only [Option.some.injEq, Prod.mk.injEq] at H
  obtain ⟨rfl, rfl, rfl⟩ := H
  go_enter func97, ntmps97
  go_wp2_with (first | (go_at_call 125; (with_reducible refine (impl_piece.calls (fun k_ => k_ < w.heap.size) _ _ l0 a1 8 t2 false _ (Kd.V_mk HC0.out (Kd.F_below (Kd.C_F (Kd.heap_int .u8) HR0.out) bl_)) A3.out).mono ?_); rintro e w20 ⟨v25, rfl, ho0, hb⟩; have HO23 := Aside0.mk (Kd.V_lower (Kd.V_mono (ok' := fun k_ => True) ho0 (fun k_ hk_ => trivial)) (below_size bl_)); replace HB := hs_ hb; clear hb; (try clear ho0)))
  repeat (go_quiet (first | (go_at_call 125; (with_reducible refine (impl_piece.calls (fun k_ => k_ < w.heap.size) _ _ l0 a1 8 t2 false _ (Kd.V_mk HC0.out (Kd.F_below (Kd.C_F (Kd.heap_int .u8) HR0.out) bl_)) A3.out).mono ?_); rintro e w20 ⟨v25, rfl, ho0, hb⟩; have HO23 := Aside0.mk (Kd.V_lower (Kd.V_mono (ok' := fun k_ => True) ho0 (fun k_ hk_ => trivial)) (below_size bl_)); replace HB := hs_ hb; clear hb; (try clear ho0))); try go_wp2_with (first | (go_at_call 125; (with_reducible refine (impl_piece.calls (fun k_ => k_ < w.heap.size) _ _ l0 a1 8 t2 false _ (Kd.V_mk HC0.out (Kd.F_below (Kd.C_F (Kd.heap_int .u8) HR0.out) bl_)) A3.out).mono ?_); rintro e w20 ⟨v25, rfl, ho0, hb⟩; have HO23 := Aside0.mk (Kd.V_lower (Kd.V_mono (ok' := fun k_ => True) ho0 (fun k_ hk_ => trivial)) (below_size bl_)); replace HB := hs_ hb; clear hb; (try clear ho0))))
  go_ret3
  exact ⟨_, sq_, by first | exact Kd.R_nil _ _ _ _ _ | exact Kd.N_nil _ _ _ _ _ | exact Kd.V_nil _ _ _ _ _ | exact Kd.Q_nil _ _ _ _ _ | exact Kd.S_nil _ _ _ _ _, bl_⟩
 subst c4
 replace H := ip_ H
 obtain ⟨y22, hy22⟩ : ∃ y_ : List Int, y_ = (([] : List Int)) := ⟨_, rfl⟩
 replace H : (impl_GetBits.l0 k a1 t2 y22 1) = some (r1, r2, r3) := hh_ hy22 H
 have Ny22 := Aside0.mk hy22
 clear hy22
 have H' := Aside0.mk H
 clear H
 go_enter func97, ntmps97
 go_wp2_with (first | (go_at_call 125; (with_reducible refine (impl_piece.calls (fun k_ => k_ < w.heap.size) _ _ l0 a1 8 t2 true _ (Kd.V_mk HC0.out (Kd.F_below (Kd.C_F (Kd.heap_int .u8) HR0.out) bl_)) A3.out).mono ?_); rintro e w5 ⟨v25, rfl, ho0, hb⟩; have HO23 := Aside0.mk (Kd.V_lower (Kd.V_mono (ok' := fun k_ => True) ho0 (fun k_ hk_ => trivial)) (below_size bl_)); replace HB := hs_ hb; clear hb; (try clear ho0)) | ((with_reducible refine gate_dst (N := 19) rfl ?_); refine Kd.R_lit (Kd.int .i64) _ 3 ?hg (N := 19) ?hd (xs := ([] : List Int)) (inner := []) (ok := fun _ => True) (okp := fun _ => True) ?hr ?hp (fun _ hk => hk) trivial (Below.refl _ _) (Nat.le_refl _) (by simp) ?_; (case hd => rfl); (case hg => rfl); (case hr => first | (go_simp; done) | (go_simp; rfl)); (case hp => exact (Reps.none _ _)); intro v28 w6 ho7 hb hg_ hnew_; clear hg_ hnew_; (first | rw [← Ny22.out] at ho7 | (simp only [Int.reduceToNat] at ho7; rw [← Ny22.out] at ho7)); replace HO23 := Aside0.mk (Kd.V_elder' (by refine cv_ ?_; exact HO23.out) (Kd.R_base ho7) hb); have HO26 := Aside0.mk (Kd.R_lower ho7 (below_size bl_)); replace HB := hs_ hb; clear hb ho7))
 repeat (go_quiet (first | (go_at_call 125; (with_reducible refine (impl_piece.calls (fun k_ => k_ < w.heap.size) _ _ l0 a1 8 t2 true _ (Kd.V_mk HC0.out (Kd.F_below (Kd.C_F (Kd.heap_int .u8) HR0.out) bl_)) A3.out).mono ?_); rintro e w5 ⟨v25, rfl, ho0, hb⟩; have HO23 := Aside0.mk (Kd.V_lower (Kd.V_mono (ok' := fun k_ => True) ho0 (fun k_ hk_ => trivial)) (below_size bl_)); replace HB := hs_ hb; clear hb; (try clear ho0)) | ((with_reducible refine gate_dst (N := 19) rfl ?_); refine Kd.R_lit (Kd.int .i64) _ 3 ?hg (N := 19) ?hd (xs := ([] : List Int)) (inner := []) (ok := fun _ => True) (okp := fun _ => True) ?hr ?hp (fun _ hk => hk) trivial (Below.refl _ _) (Nat.le_refl _) (by simp) ?_; (case hd => rfl); (case hg => rfl); (case hr => first | (go_simp; done) | (go_simp; rfl)); (case hp => exact (Reps.none _ _)); intro v28 w6 ho7 hb hg_ hnew_; clear hg_ hnew_; (first | rw [← Ny22.out] at ho7 | (simp only [Int.reduceToNat] at ho7; rw [← Ny22.out] at ho7)); replace HO23 := Aside0.mk (Kd.V_elder' (by refine cv_ ?_; exact HO23.out) (Kd.R_base ho7) hb); have HO26 := Aside0.mk (Kd.R_lower ho7 (below_size bl_)); replace HB := hs_ hb; clear hb ho7)); try go_wp2_with (first | (go_at_call 125; (with_reducible refine (impl_piece.calls (fun k_ => k_ < w.heap.size) _ _ l0 a1 8 t2 true _ (Kd.V_mk HC0.out (Kd.F_below (Kd.C_F (Kd.heap_int .u8) HR0.out) bl_)) A3.out).mono ?_); rintro e w5 ⟨v25, rfl, ho0, hb⟩; have HO23 := Aside0.mk (Kd.V_lower (Kd.V_mono (ok' := fun k_ => True) ho0 (fun k_ hk_ => trivial)) (below_size bl_)); replace HB := hs_ hb; clear hb; (try clear ho0)) | ((with_reducible refine gate_dst (N := 19) rfl ?_); refine Kd.R_lit (Kd.int .i64) _ 3 ?hg (N := 19) ?hd (xs := ([] : List Int)) (inner := []) (ok := fun _ => True) (okp := fun _ => True) ?hr ?hp (fun _ hk => hk) trivial (Below.refl _ _) (Nat.le_refl _) (by simp) ?_; (case hd => rfl); (case hg => rfl); (case hr => first | (go_simp; done) | (go_simp; rfl)); (case hp => exact (Reps.none _ _)); intro v28 w6 ho7 hb hg_ hnew_; clear hg_ hnew_; (first | rw [← Ny22.out] at ho7 | (simp only [Int.reduceToNat] at ho7; rw [← Ny22.out] at ho7)); replace HO23 := Aside0.mk (Kd.V_elder' (by refine cv_ ?_; exact HO23.out) (Kd.R_base ho7) hb); have HO26 := Aside0.mk (Kd.R_lower ho7 (below_size bl_)); replace HB := hs_ hb; clear hb ho7)))
 go_loopg [9, 10] k (fun kq v9 v10 w' => ∃ (x9_1 : List Int) (x10_1 : Int), v10 = .int .i64 x10_1 ∧ Aside0 (impl_GetBits.l0 kq a1 t2 x9_1 x10_1 = some (r1, r2, r3)) ∧ Aside0 (kq ≤ k) ∧ Aside0 (Kd.V (Kd.int .u8) 5 w' w.heap.size (fun k_ => some k_ ≠ (v9 : Value).ownBlock) v25 t2) ∧ Aside0 (Kd.R (Kd.int .i64) 3 w' w.heap.size (fun _ => True) v9 x9_1) ∧ Aside0 (Below w.heap.size w w'))
 case atStart => exact ⟨(y22), (1), sp_, H', ⟨Nat.le_refl _⟩, ⟨by refine cv_ ?_; exact Kd.V_mono HO23.out (fun _ hk => hk.2)⟩, ⟨ra_ HO26⟩, ⟨bl_⟩⟩
 case round =>
  clear H'
  obtain ⟨x9_1, x10_1, rfl, HA, HK1, HO_7, HO_9, HB⟩ := hrel
  cases gk with
  | zero => exact absurd HA.out (by simp [impl_GetBits.l0])
  | succ k1 =>
   have H := HA.out
   clear HA
   simp only [impl_GetBits.l0] at H
   by_cases c8 : x10_1 ≤ 64
   rotate_left
   ·rw [if_neg c8] at H
    replace c8 := df_ c8
    simp only [Option.some.injEq, Prod.mk.injEq] at H
    obtain ⟨rfl, rfl, rfl⟩ := H
    go_wp2
    repeat (go_quiet (fail); try go_wp2)
    go_ret3
    exact ⟨_, sq_, ra_ HO_9, bl_⟩
   rw [if_pos c8] at H
   replace c8 := dt_ c8
   obtain ⟨ji9, hji9⟩ : ∃ j_ : Int, (wrap64 (Int.tdiv (wrap64 (x10_1 - 1)) 8)) = j_ := ⟨_, rfl⟩
   replace H : (if 0 ≤ (ji9) then (if (ji9) < (t2.length : Int) then (if 0 ≤ (Int.tmod (wrap64 (x10_1 - 1)) 8) then (if (Go.bits .and .u8 (rd t2 (ji9)) (shr .u8 128 (Int.tmod (wrap64 (x10_1 - 1)) 8))) = 0 then (impl_GetBits.l0 k1 a1 t2 x9_1 (wrap64 (x10_1 + 1))) else (if x9_1.length < 17592186044416 then (impl_GetBits.l0 k1 a1 t2 (x9_1 ++ [x10_1]) (wrap64 (x10_1 + 1))) else (none))) else (none)) else (none)) else (none)) = some (r1, r2, r3) := by first | (rw [hji9] at H; exact H) | (simp only [hji9] at H ⊢; exact H)
   have hji9w : (IntKind.i64.wrap (Int.tdiv (wrap64 (x10_1 - 1)) 8)) = ji9 := (i64_w _).trans hji9
   obtain ⟨c10, H⟩ := og_ H
   replace c10 := dt_ c10
   obtain ⟨c11, H⟩ := og_ H
   replace c11 := dt_ c11
   obtain ⟨ji12, hji12⟩ : ∃ j_ : Int, (Int.tmod (wrap64 (x10_1 - 1)) 8) = j_ := ⟨_, rfl⟩
   replace H : (if 0 ≤ (ji12) then (if (Go.bits .and .u8 (rd t2 (ji9)) (shr .u8 128 (ji12))) = 0 then (impl_GetBits.l0 k1 a1 t2 x9_1 (wrap64 (x10_1 + 1))) else (if x9_1.length < 17592186044416 then (impl_GetBits.l0 k1 a1 t2 (x9_1 ++ [x10_1]) (wrap64 (x10_1 + 1))) else (none))) else (none)) = some (r1, r2, r3) := by first | (rw [hji12] at H; exact H) | (simp only [hji12] at H ⊢; exact H)
   obtain ⟨c13, H⟩ := og_ H
   have := eq_true c13
   replace c13 := dt_ c13
   obtain ⟨ji14, hji14⟩ : ∃ j_ : Int, (shr .u8 128 (ji12)) = j_ := ⟨_, rfl⟩
   replace H : (if (Go.bits .and .u8 (rd t2 (ji9)) (ji14)) = 0 then (impl_GetBits.l0 k1 a1 t2 x9_1 (wrap64 (x10_1 + 1))) else (if x9_1.length < 17592186044416 then (impl_GetBits.l0 k1 a1 t2 (x9_1 ++ [x10_1]) (wrap64 (x10_1 + 1))) else (none))) = some (r1, r2, r3) := by first | (rw [hji14] at H; exact H) | (simp only [hji14] at H ⊢; exact H)
   have hji14_ : (128 / 2 ^ min (ji12).toNat 8) = ji14 := hji14
   have hji14z : (ji12) ≤ 8 → (128 / 2 ^ (ji12).toNat) = ji14 := shr_small hji14
   by_cases c15 : (Go.bits .and .u8 (rd t2 (ji9)) (ji14)) = 0
   ·rw [if_pos c15] at H
    have := et_ c15
    replace c15 := nf_ c15
    have H' := Aside0.mk H
    clear H
    obtain ⟨Ao16, co16, eo16⟩ := Kd.V_slice HO_7.out
    subst eo16
    have p21 : 0 ≤ ((ji9) : Int) := od_
    have q21 : (ji9) < (t2.length : Int) := od_
    obtain ⟨ad21, e21, hx21_0⟩ := Kd.at_int (Kd.V_reads' HO_7.out).2.2 (ji9) p21 q21
    cases e21
    replace p21 := eq_true p21
    replace q21 := eq_true q21
    go_wp2
    repeat (go_quiet (fail); try go_wp2)
    go_roundg k1
    case measure => have := HK1.out; omega
    case rel => exact ⟨(x9_1), (wrap64 (x10_1 + 1)), sp_, H', ⟨by have := HK1.out; omega⟩, ⟨by refine cv_ ?_; exact HO_7.out⟩, ⟨ra_ HO_9⟩, ⟨bl_⟩⟩
   rw [if_neg c15] at H
   have c15b0 := ef_ c15
   have c15b1 := nt_ c15
   by_cases c17 : x9_1.length < 17592186044416
   ·rw [if_pos c17] at H
    have LMc17 := Aside0.mk c17
    clear c17
    obtain ⟨y24, hy24⟩ : ∃ y_ : List Int, y_ = (x9_1 ++ [x10_1]) := ⟨_, rfl⟩
    replace H : (impl_GetBits.l0 k1 a1 t2 y24 (wrap64 (x10_1 + 1))) = some (r1, r2, r3) := hh_ hy24 H
    have Ny24 := Aside0.mk hy24
    clear hy24
    have H' := Aside0.mk H
    clear H
    obtain ⟨Ao18, co18, eo18⟩ := Kd.V_slice HO_7.out
    subst eo18
    have p21 : 0 ≤ ((ji9) : Int) := od_
    have q21 : (ji9) < (t2.length : Int) := od_
    obtain ⟨ad21, e21, hx21_0⟩ := Kd.at_int (Kd.V_reads' HO_7.out).2.2 (ji9) p21 q21
    cases e21
    replace p21 := eq_true p21
    replace q21 := eq_true q21
    go_wp2_with (first | ((with_reducible refine gate_builtin (b := .append) (xs := #[.tmp 36, .tmp 38]) rfl ?_); at_builtin; refine Kd.R_append (Kd.int .i64) (w0 := w) w.heap.size rfl (.tmp 36) (.tmp 38) 46 3 (.int .i64 0) 8 rfl underlying46 info3 rfl (by decide) (by omega) u9 x9_1 x10_1 [.int .i64 x10_1] (fun _ => True) (fun _ => False) rfl rfl ?aP (fun _ hk => hk.elim) ?aF ?aO ?aB ?aS ?aL ?_; (case aP => exact rfl); (case aB => exact bl_); (case aF => exact (fun _ _ => trivial)); (case aO => exact (ra_ HO_9)); (case aS => exact (below_size bl_)); (case aL => have := LMc17.out; omega); intro v29 w19 ho hb hg hat; rw [← Ny24.out] at ho; have n0_ := Aside0.mk (Kd.V_afterv (ok := (fun _ => True)) (by refine cv_ ?_; exact Kd.V_mono HO_7.out (fun _ hk => ⟨trivial, hk⟩)) hg hat); have n1_ := Aside0.mk (hb); have n2_ := Aside0.mk (ho); clear HO_7; clear HB; clear HO_9; have HO_7 := n0_; have HB := n1_; have HO27 := n2_; clear n0_ n1_ n2_; clear ho hb hg hat))
    repeat (go_quiet (first | ((with_reducible refine gate_builtin (b := .append) (xs := #[.tmp 36, .tmp 38]) rfl ?_); at_builtin; refine Kd.R_append (Kd.int .i64) (w0 := w) w.heap.size rfl (.tmp 36) (.tmp 38) 46 3 (.int .i64 0) 8 rfl underlying46 info3 rfl (by decide) (by omega) u9 x9_1 x10_1 [.int .i64 x10_1] (fun _ => True) (fun _ => False) rfl rfl ?aP (fun _ hk => hk.elim) ?aF ?aO ?aB ?aS ?aL ?_; (case aP => exact rfl); (case aB => exact bl_); (case aF => exact (fun _ _ => trivial)); (case aO => exact (ra_ HO_9)); (case aS => exact (below_size bl_)); (case aL => have := LMc17.out; omega); intro v29 w19 ho hb hg hat; rw [← Ny24.out] at ho; have n0_ := Aside0.mk (Kd.V_afterv (ok := (fun _ => True)) (by refine cv_ ?_; exact Kd.V_mono HO_7.out (fun _ hk => ⟨trivial, hk⟩)) hg hat); have n1_ := Aside0.mk (hb); have n2_ := Aside0.mk (ho); clear HO_7; clear HB; clear HO_9; have HO_7 := n0_; have HB := n1_; have HO27 := n2_; clear n0_ n1_ n2_; clear ho hb hg hat)); try go_wp2_with (first | ((with_reducible refine gate_builtin (b := .append) (xs := #[.tmp 36, .tmp 38]) rfl ?_); at_builtin; refine Kd.R_append (Kd.int .i64) (w0 := w) w.heap.size rfl (.tmp 36) (.tmp 38) 46 3 (.int .i64 0) 8 rfl underlying46 info3 rfl (by decide) (by omega) u9 x9_1 x10_1 [.int .i64 x10_1] (fun _ => True) (fun _ => False) rfl rfl ?aP (fun _ hk => hk.elim) ?aF ?aO ?aB ?aS ?aL ?_; (case aP => exact rfl); (case aB => exact bl_); (case aF => exact (fun _ _ => trivial)); (case aO => exact (ra_ HO_9)); (case aS => exact (below_size bl_)); (case aL => have := LMc17.out; omega); intro v29 w19 ho hb hg hat; rw [← Ny24.out] at ho; have n0_ := Aside0.mk (Kd.V_afterv (ok := (fun _ => True)) (by refine cv_ ?_; exact Kd.V_mono HO_7.out (fun _ hk => ⟨trivial, hk⟩)) hg hat); have n1_ := Aside0.mk (hb); have n2_ := Aside0.mk (ho); clear HO_7; clear HB; clear HO_9; have HO_7 := n0_; have HB := n1_; have HO27 := n2_; clear n0_ n1_ n2_; clear ho hb hg hat)))
    go_roundg k1
    case measure => have := HK1.out; omega
    case rel => exact ⟨(y24), (wrap64 (x10_1 + 1)), sp_, H', ⟨by have := HK1.out; omega⟩, ⟨by refine cv_ ?_; exact Kd.V_mono HO_7.out (fun _ hk => hk.2)⟩, ⟨ra_ HO27⟩, ⟨bl_⟩⟩
   ·rw [if_neg c17] at H
    exact absurd H (by simp)
/-! ### impl_FieldKind: function 98 -/
def impl_FieldKind.f (k : Nat) (a0 : Int) : Option (Int) := (impl_rowOf.f k a0).bind fun bt1 => (some bt1.2.1)
theorem impl_FieldKind.calls (k : Nat) (a0 : Int) (r : Int) (w : World) (h : impl_FieldKind.f k a0 = some r) :
  Calls Tryz.prog 98 #[.int .i64 a0] w fun e w' => e = .returned (.int .i64 r) ∧ Below w.heap.size w w' := by
 have hfl115_1 : ∀ (x0_ x1_ x2_ : Value) (w : World), (Instr.field 115 (.agg #[x0_, x1_, x2_]) 1).run Tryz.prog w = .ok x1_ w := by intros; kernel_rfl
 have HB := Aside0.mk (Below.refl w.heap.size w)
 have H := h
 unfold impl_FieldKind.f at H
 clear h
 obtain ⟨⟨t1, t4, t5⟩, A2, H⟩ := ob_ H
 (try dsimp only at H)
 obtain rfl := si_ H
 go_enter func98, ntmps98
 go_wp2_with (first | ((with_reducible refine gb_ 112 4 func112 #[.int .i64 a0] (impl_rowOf.calls k a0 t1 t4 t5 _ A2.out) fun w3 hb => ?_); replace HB := hs_ hb; clear hb))
 go_ret
 exact ⟨sq_, bl_⟩
/-! ### impl_FieldSize: function 126 -/
def impl_FieldSize.f (k : Nat) (a0 : Int) : Option (Int) := (impl_rowOf.f k a0).bind fun bt1 => (some bt1.2.2)
theorem impl_FieldSize.calls (k : Nat) (a0 : Int) (r : Int) (w : World) (h : impl_FieldSize.f k a0 = some r) :
  Calls Tryz.prog 126 #[.int .i64 a0] w fun e w' => e = .returned (.int .i64 r) ∧ Below w.heap.size w w' := by
 have hfl115_2 : ∀ (x0_ x1_ x2_ : Value) (w : World), (Instr.field 115 (.agg #[x0_, x1_, x2_]) 2).run Tryz.prog w = .ok x2_ w := by intros; kernel_rfl
 have HB := Aside0.mk (Below.refl w.heap.size w)
 have H := h
 unfold impl_FieldSize.f at H
 clear h
 obtain ⟨⟨t1, t4, t5⟩, A2, H⟩ := ob_ H
 (try dsimp only at H)
 obtain rfl := si_ H
 go_enter func126, ntmps126
 go_wp2_with (first | ((with_reducible refine gb_ 112 4 func112 #[.int .i64 a0] (impl_rowOf.calls k a0 t1 t4 t5 _ A2.out) fun w3 hb => ?_); replace HB := hs_ hb; clear hb))
 go_ret
 exact ⟨sq_, bl_⟩
/-! ### impl_GetLen: function 127 -/
def impl_GetLen.f (k : Nat) (l0 : List Int) (a1 : Int) (a2 : Int) : Option (Int × Int × Bool) := (impl_within.f a2 2 3).bind fun t2 => (if t2 = true then ((impl_GetBcd.f k l0 a1 a2).bind fun bt1 => (if bt1.2.2 = true then ((impl_Narrow.f k bt1.1).bind fun bt3 => (some (bt3.1, bt1.2.1, true))) else (some (0, 0, false)))) else (some (0, 0, false)))
theorem impl_GetLen.calls (k : Nat) (A0 : Option Addr) (c0 : Nat) (l0 : List Int) (a1 : Int) (a2 : Int) (r1 : Int) (r2 : Int) (r3 : Bool) (w : World) (hr0 : Kd.C (Kd.int .u8) w A0 l0.length l0) (hc0 : l0.length ≤ c0) (h : impl_GetLen.f k l0 a1 a2 = some (r1, r2, r3)) :
  Calls Tryz.prog 127 #[.slice A0 l0.length c0, .int .i64 a1, .int .i64 a2] w fun e w' => e = .returned (.tuple #[.int .i64 r1, .int .i64 r2, .bool r3]) ∧ Below w.heap.size w w' := by
 have HR0 := Aside0.mk hr0
 have HC0 := Aside0.mk hc0
 clear hr0 hc0
 have HB := Aside0.mk (Below.refl w.heap.size w)
 have H := h
 unfold impl_GetLen.f at H
 clear h
 obtain ⟨t2, A4, H⟩ := ob_ H
 by_cases c5 : t2 = true
 ·subst c5
  replace H := ip_ H
  obtain ⟨⟨t1, t12, t13⟩, A6, H⟩ := ob_ H
  (try dsimp only at H)
  by_cases c7 : t13 = true
  ·subst c7
   replace H := ip_ H
   obtain ⟨⟨t3, t14⟩, A8, H⟩ := ob_ H
   (try dsimp only at H)
   simp only [Option.some.injEq, Prod.mk.injEq] at H
   obtain ⟨rfl, rfl, rfl⟩ := H
   go_enter func127, ntmps127
   go_wp2_with (first | ((with_reducible refine gd_ 71 15 func71 #[.int .i64 a2, .int .i64 2, .int .i64 3] (impl_within.calls a2 2 3 true _ A4.out) fun nd => ?_)) | ((with_reducible refine gb_ 96 21 func96 #[.slice A0 l0.length c0, .int .i64 a1, .int .i64 a2] (impl_GetBcd.calls k _ _ l0 a1 a2 t1 t12 true _ (ca_ (HR0.out)) HC0.out A6.out) fun w9 hb => ?_); replace HB := hs_ hb; clear hb) | ((with_reducible refine gb_ 53 29 func53 #[.string t1] (impl_Narrow.calls k t1 t3 t14 _ A8.out) fun w10 hb => ?_); replace HB := hs_ hb; clear hb))
   go_ret3
   exact ⟨sq_, bl_⟩
  ·replace c7 := gf_ c7
   subst c7
   replace H := in_ H
   simp only [Option.some.injEq, Prod.mk.injEq] at H
   obtain ⟨rfl, rfl, rfl⟩ := H
   go_enter func127, ntmps127
   go_wp2_with (first | ((with_reducible refine gd_ 71 15 func71 #[.int .i64 a2, .int .i64 2, .int .i64 3] (impl_within.calls a2 2 3 true _ A4.out) fun nd => ?_)) | ((with_reducible refine gb_ 96 21 func96 #[.slice A0 l0.length c0, .int .i64 a1, .int .i64 a2] (impl_GetBcd.calls k _ _ l0 a1 a2 t1 t12 false _ (ca_ (HR0.out)) HC0.out A6.out) fun w11 hb => ?_); replace HB := hs_ hb; clear hb))
   go_ret3
   exact ⟨sq_, bl_⟩
 ·replace c5 := gf_ c5
  subst c5
  replace H := in_ H
  simp only [Option.some.injEq, Prod.mk.injEq] at H
  obtain ⟨rfl, rfl, rfl⟩ := H
  go_enter func127, ntmps127
  go_wp2_with (first | ((with_reducible refine gd_ 71 15 func71 #[.int .i64 a2, .int .i64 2, .int .i64 3] (impl_within.calls a2 2 3 false _ A4.out) fun nd => ?_)))
  go_ret3
  exact ⟨sq_, bl_⟩
/-! ### impl_lenDigits: function 128 -/
def impl_lenDigits.f (k : Nat) (a0 : Int) : Option (Int) := (impl_FieldKind.f k a0).bind fun t1 => (if t1 = 5 then (some 3) else (some 2))
theorem impl_lenDigits.calls (k : Nat) (a0 : Int) (r : Int) (w : World) (h : impl_lenDigits.f k a0 = some r) :
  Calls Tryz.prog 128 #[.int .i64 a0] w fun e w' => e = .returned (.int .i64 r) ∧ Below w.heap.size w w' := by
 have HB := Aside0.mk (Below.refl w.heap.size w)
 have H := h
 unfold impl_lenDigits.f at H
 clear h
 obtain ⟨t1, A2, H⟩ := ob_ H
 by_cases c3 : t1 = 5
 ·rw [if_pos c3] at H
  have := et_ c3
  replace c3 := nf_ c3
  obtain rfl := si_ H
  go_enter func128, ntmps128
  go_wp2_with (first | ((with_reducible refine gb_ 98 4 func98 #[.int .i64 a0] (impl_FieldKind.calls k a0 t1 _ A2.out) fun w4 hb => ?_); replace HB := hs_ hb; clear hb))
  go_ret
  exact ⟨sq_, bl_⟩
 rw [if_neg c3] at H
 have c3b0 := ef_ c3
 have c3b1 := nt_ c3
 obtain rfl := si_ H
 go_enter func128, ntmps128
 go_wp2_with (first | ((with_reducible refine gb_ 98 4 func98 #[.int .i64 a0] (impl_FieldKind.calls k a0 t1 _ A2.out) fun w5 hb => ?_); replace HB := hs_ hb; clear hb))
 go_ret
 exact ⟨sq_, bl_⟩
/-! ### impl_GetField: function 99 -/
mutual
def impl_GetField.j0 : Nat → List Int → Int → Int → Int → Int → Bool → Bool → Option (ByteArray × Int × Bool)
 | 0, _, _, _, _, _, _, _ => none
 | k + 1, x0, x1, x2, x9, x11, x12, x27 => if x27 = true then ((impl_lenDigits.f k x2).bind fun t45 => ((impl_GetLen.f k x0 x1 t45).bind fun bt43 => (impl_GetField.j1 k x0 bt43.2.1 x2 bt43.1 x11 bt43.2.2))) else (impl_GetField.j1 k x0 x1 x2 x9 x11 x12)
def impl_GetField.j1 : Nat → List Int → Int → Int → Int → Int → Bool → Option (ByteArray × Int × Bool)
 | 0, _, _, _, _, _, _ => none
 | k + 1, x0, x1, x2, x9, x11, x12 => if x12 = true then (if x11 = 1 then (impl_GetField.j2 k x0 x1 x2 x9 true) else (impl_GetField.j2 k x0 x1 x2 x9 (x11 == 3))) else (some ((⟨#[]⟩ : ByteArray), 0, false))
def impl_GetField.j2 : Nat → List Int → Int → Int → Int → Bool → Option (ByteArray × Int × Bool)
 | 0, _, _, _, _, _ => none
 | k + 1, x0, x1, x2, x9, x44 => if x44 = true then ((impl_GetBcd.f k x0 x1 x9).bind fun bt38 => (if bt38.2.2 = true then ((impl_FieldOk.f k x2 bt38.1).bind fun t46 => (if t46 = true then (some (bt38.1, bt38.2.1, true)) else (some ((⟨#[]⟩ : ByteArray), 0, false)))) else (some ((⟨#[]⟩ : ByteArray), 0, false)))) else ((impl_piece.f x0 x1 x9).bind fun bt41 => (if bt41.2 = true then ((impl_FieldOk.f k x2 (strOfNums bt41.1)).bind fun t47 => (if t47 = true then (some (strOfNums bt41.1, wrap64 (x1 + x9), true)) else (some ((⟨#[]⟩ : ByteArray), 0, false)))) else (some ((⟨#[]⟩ : ByteArray), 0, false))))
end
def impl_GetField.f (k : Nat) (l0 : List Int) (a1 : Int) (a2 : Int) : Option (ByteArray × Int × Bool) := (impl_FieldSize.f k a2).bind fun t42 => ((impl_FieldKind.f k a2).bind fun t3 => (if t3 = 3 then (impl_GetField.j0 k l0 a1 a2 t42 t3 true true) else (if t3 = 4 then (impl_GetField.j0 k l0 a1 a2 t42 t3 true true) else (impl_GetField.j0 k l0 a1 a2 t42 t3 true (t3 == 5)))))
theorem impl_GetField.calls (k : Nat) (A0 : Option Addr) (c0 : Nat) (l0 : List Int) (a1 : Int) (a2 : Int) (r1 : ByteArray) (r2 : Int) (r3 : Bool) (w : World) (hr0 : Kd.C (Kd.int .u8) w A0 l0.length l0) (hc0 : l0.length ≤ c0) (h : impl_GetField.f k l0 a1 a2 = some (r1, r2, r3)) :
  Calls Tryz.prog 99 #[.slice A0 l0.length c0, .int .i64 a1, .int .i64 a2] w fun e w' => e = .returned (.tuple #[.string r1, .int .i64 r2, .bool r3]) ∧ Below w.heap.size w w' := by
 have HR0 := Aside0.mk hr0
 have HC0 := Aside0.mk hc0
 clear hr0 hc0
 have HB := Aside0.mk (Below.refl w.heap.size w)
 have H := h
 unfold impl_GetField.f at H
 clear h
 obtain ⟨t42, A4, H⟩ := ob_ H
 obtain ⟨t3, A5, H⟩ := ob_ H
 have HC6 := Aside0.mk H
 clear H
 go_enter func99, ntmps99
 go_upto_region 2 with (first | ((with_reducible refine gb_ 126 15 func126 #[.int .i64 a2] (impl_FieldSize.calls k a2 t42 _ A4.out) fun w7 hb => ?_); replace HB := hs_ hb; clear hb) | ((with_reducible refine gb_ 98 17 func98 #[.int .i64 a2] (impl_FieldKind.calls k a2 t3 _ A5.out) fun w8 hb => ?_); replace HB := hs_ hb; clear hb))
 (try simp only [Act.put, List.setIfInBounds_toArray, List.set_cons_zero, List.set_cons_succ])
 go_cut [27] (fun v27 wc => ∃ (kq : Nat) (x27_5 : Bool), v27 = .bool x27_5 ∧ Aside0 (impl_GetField.j0 kq l0 a1 a2 t42 t3 true x27_5 = some (r1, r2, r3)) ∧ Aside0 (kq ≤ k) ∧ Aside0 (Below w.heap.size w wc))
 case first =>
  have H := HC6.out
  clear HC6
  by_cases c9 : t3 = 3
  ·rw [if_pos c9] at H
   have c9b0 := et_ c9
   have c9b1 := nf_ c9
   clear c9
   (first | rw [c9b0] | (simp only [i64_w, i32_w]; rw [c9b0]) | skip)
   have H' := Aside0.mk H
   clear H
   go_wp2
   go_meet
   case rel => exact ⟨_, (true), sp_, H', ⟨by first | omega | exact Nat.le_refl _⟩, ⟨bl_⟩⟩
  rw [if_neg c9] at H
  have c9b0 := ef_ c9
  have c9b1 := nt_ c9
  (first | rw [c9b0] | (simp only [i64_w, i32_w]; rw [c9b0]) | skip)
  by_cases c10 : t3 = 4
  ·rw [if_pos c10] at H
   have := et_ c10
   replace c10 := nf_ c10
   have H' := Aside0.mk H
   clear H
   go_wp2
   go_meet
   case rel => exact ⟨_, (true), sp_, H', ⟨by first | omega | exact Nat.le_refl _⟩, ⟨bl_⟩⟩
  ·rw [if_neg c10] at H
   have c10b0 := ef_ c10
   have c10b1 := nt_ c10
   have H' := Aside0.mk H
   clear H
   go_wp2
   go_meet
   case rel => exact ⟨_, ((t3 == 5)), sp_, H', ⟨by first | omega | exact Nat.le_refl _⟩, ⟨bl_⟩⟩
 case rest =>
  clear HC6
  obtain ⟨kq, x27_5, rfl, HA, HJ5, HB⟩ := hcut
  cases kq with
  | zero => exact absurd HA.out (by simp [impl_GetField.j0])
  | succ kj5 =>
   have H := HA.out
   clear HA
   simp only [impl_GetField.j0] at H
   have HC11 := Aside0.mk H
   clear H
   go_upto_if 27 with (fail)
   go_cut [1, 9, 12] (fun v1 v9 v12 wc => ∃ (kq : Nat) (x1_10 : Int) (x9_10 : Int) (x12_10 : Bool), v1 = .int .i64 x1_10 ∧ v9 = .int .i64 x9_10 ∧ v12 = .bool x12_10 ∧ Aside0 (impl_GetField.j1 kq l0 x1_10 a2 x9_10 t3 x12_10 = some (r1, r2, r3)) ∧ Aside0 (kq ≤ kj5) ∧ Aside0 (Below w.heap.size w wc))
   case first =>
    have H := HC11.out
    clear HC11
    by_cases c12 : x27_5 = true
    ·subst c12
     replace H := ip_ H
     obtain ⟨t45, A13, H⟩ := ob_ H
     obtain ⟨⟨t43, t49, t50⟩, A14, H⟩ := ob_ H
     (try dsimp only at H)
     have H' := Aside0.mk H
     clear H
     go_wp2_with (first | ((with_reducible refine gb_ 128 32 func128 #[.int .i64 a2] (impl_lenDigits.calls kj5 a2 t45 _ A13.out) fun w15 hb => ?_); replace HB := hs_ hb; clear hb) | ((with_reducible refine gb_ 127 33 func127 #[.slice A0 l0.length c0, .int .i64 a1, .int .i64 t45] (impl_GetLen.calls kj5 _ _ l0 a1 t45 t43 t49 t50 _ (cb_ HR0 HB) HC0.out A14.out) fun w16 hb => ?_); replace HB := hs_ hb; clear hb))
     go_meet
     case rel => exact ⟨_, (t49), (t43), (t50), sp_, sp_, sp_, H', ⟨by have := HJ5.out; first | omega | exact Nat.le_refl _⟩, ⟨bl_⟩⟩
    ·replace c12 := gf_ c12
     subst c12
     replace H := in_ H
     have H' := Aside0.mk H
     clear H
     go_wp2
     go_meet
     case rel => exact ⟨_, (a1), (t42), (true), sp_, sp_, sp_, H', ⟨by have := HJ5.out; first | omega | exact Nat.le_refl _⟩, ⟨bl_⟩⟩
   case rest =>
    clear HC11
    obtain ⟨kq, x1_10, x9_10, x12_10, rfl, rfl, rfl, HA, HJ10, HB⟩ := hcut
    cases kq with
    | zero => exact absurd HA.out (by simp [impl_GetField.j1])
    | succ kj10 =>
     have H := HA.out
     clear HA
     simp only [impl_GetField.j1] at H
     by_cases c17 : x12_10 = true
     rotate_left
     ·replace c17 := gf_ c17
      subst c17
      replace H := in_ H
      simp only [Option.some.injEq, Prod.mk.injEq] at H
      obtain ⟨rfl, rfl, rfl⟩ := H
      go_wp2
      go_ret3
      exact ⟨sq_, bl_⟩
     subst c17
     replace H := ip_ H
     have HC18 := Aside0.mk H
     clear H
     go_upto_region 6 with (fail)
     go_cut [44] (fun v44 wc => ∃ (kq : Nat) (x44_17 : Bool), v44 = .bool x44_17 ∧ Aside0 (impl_GetField.j2 kq l0 x1_10 a2 x9_10 x44_17 = some (r1, r2, r3)) ∧ Aside0 (kq ≤ kj10) ∧ Aside0 (Below w.heap.size w wc))
     case first =>
      have H := HC18.out
      clear HC18
      by_cases c19 : t3 = 1
      ·rw [if_pos c19] at H
       have c19b0 := et_ c19
       have c19b1 := nf_ c19
       clear c19
       (first | rw [c19b0] | (simp only [i64_w, i32_w]; rw [c19b0]) | skip)
       have H' := Aside0.mk H
       clear H
       go_wp2
       go_meet
       case rel => exact ⟨_, (true), sp_, H', ⟨by have := HJ5.out; have := HJ10.out; first | omega | exact Nat.le_refl _⟩, ⟨bl_⟩⟩
      ·rw [if_neg c19] at H
       have c19b0 := ef_ c19
       have c19b1 := nt_ c19
       (first | rw [c19b0] | (simp only [i64_w, i32_w]; rw [c19b0]) | skip)
       have H' := Aside0.mk H
       clear H
       go_wp2
       go_meet
       case rel => exact ⟨_, ((t3 == 3)), sp_, H', ⟨by have := HJ5.out; have := HJ10.out; first | omega | exact Nat.le_refl _⟩, ⟨bl_⟩⟩
     case rest =>
      clear HC18
      obtain ⟨kq, x44_17, rfl, HA, HJ17, HB⟩ := hcut
      cases kq with
      | zero => exact absurd HA.out (by simp [impl_GetField.j2])
      | succ kj17 =>
       have H := HA.out
       clear HA
       simp only [impl_GetField.j2] at H
       by_cases c20 : x44_17 = true
       ·subst c20
        replace H := ip_ H
        obtain ⟨⟨t38, t48, t52⟩, A21, H⟩ := ob_ H
        (try dsimp only at H)
        by_cases c22 : t52 = true
        ·subst c22
         replace H := ip_ H
         obtain ⟨t46, A23, H⟩ := ob_ H
         by_cases c24 : t46 = true
         ·subst c24
          replace H := ip_ H
          simp only [Option.some.injEq, Prod.mk.injEq] at H
          obtain ⟨rfl, rfl, rfl⟩ := H
          go_wp2_with (first | ((with_reducible refine gb_ 96 49 func96 #[.slice A0 l0.length c0, .int .i64 x1_10, .int .i64 x9_10] (impl_GetBcd.calls kj17 _ _ l0 x1_10 x9_10 t38 t48 true _ (cb_ HR0 HB) HC0.out A21.out) fun w25 hb => ?_); replace HB := hs_ hb; clear hb) | (go_at_call 84; (with_reducible refine (impl_FieldOk.calls kj17 a2 t38 true _ A23.out).mono ?_); rintro e w26 ⟨rfl, hb⟩; replace HB := hs_ hb; clear hb))
          go_ret3
          exact ⟨sq_, bl_⟩
         replace c24 := gf_ c24
         subst c24
         replace H := in_ H
         simp only [Option.some.injEq, Prod.mk.injEq] at H
         obtain ⟨rfl, rfl, rfl⟩ := H
         go_wp2_with (first | ((with_reducible refine gb_ 96 49 func96 #[.slice A0 l0.length c0, .int .i64 x1_10, .int .i64 x9_10] (impl_GetBcd.calls kj17 _ _ l0 x1_10 x9_10 t38 t48 true _ (cb_ HR0 HB) HC0.out A21.out) fun w27 hb => ?_); replace HB := hs_ hb; clear hb) | (go_at_call 84; (with_reducible refine (impl_FieldOk.calls kj17 a2 t38 false _ A23.out).mono ?_); rintro e w28 ⟨rfl, hb⟩; replace HB := hs_ hb; clear hb))
         go_ret3
         exact ⟨sq_, bl_⟩
        ·replace c22 := gf_ c22
         subst c22
         replace H := in_ H
         simp only [Option.some.injEq, Prod.mk.injEq] at H
         obtain ⟨rfl, rfl, rfl⟩ := H
         go_wp2_with (first | ((with_reducible refine gb_ 96 49 func96 #[.slice A0 l0.length c0, .int .i64 x1_10, .int .i64 x9_10] (impl_GetBcd.calls kj17 _ _ l0 x1_10 x9_10 t38 t48 false _ (cb_ HR0 HB) HC0.out A21.out) fun w29 hb => ?_); replace HB := hs_ hb; clear hb))
         go_ret3
         exact ⟨sq_, bl_⟩
       replace c20 := gf_ c20
       subst c20
       replace H := in_ H
       obtain ⟨⟨t41, t53⟩, A30, H⟩ := ob_ H
       (try dsimp only at H)
       by_cases c31 : t53 = true
       ·subst c31
        replace H := ip_ H
        obtain ⟨t47, A32, H⟩ := ob_ H
        by_cases c33 : t47 = true
        ·subst c33
         replace H := ip_ H
         simp only [Option.some.injEq, Prod.mk.injEq] at H
         obtain ⟨rfl, rfl, rfl⟩ := H
         go_wp2_with (first | ((with_reducible refine gc_ 125 57 func125 #[.slice A0 l0.length c0, .int .i64 x1_10, .int .i64 x9_10] ?_); (with_reducible refine (impl_piece.calls (fun k_ => k_ < w.heap.size) _ _ l0 x1_10 x9_10 t41 true _ (Kd.V_mk HC0.out (Kd.F_below (Kd.C_F (Kd.heap_int .u8) HR0.out) bl_)) A30.out).mono ?_); rintro e w34 ⟨v51, rfl, ho0, hb⟩; refine ⟨_, rfl, ?_⟩; have HO35 := Aside0.mk (Kd.V_lower (Kd.V_mono (ok' := fun k_ => True) ho0 (fun k_ hk_ => trivial)) (below_size bl_)); replace HB := hs_ hb; clear hb; (try clear ho0); obtain ⟨Aq35, cq35, eq35⟩ := Kd.V_slice HO35.out; subst eq35; have hcv35 := Kd.C_string (P := Tryz.prog) (A := Aq35) (c := cq35) underlying37 underlying5 underlying9 ((Kd.V_reads' HO35.out).2.2); have hcu35 := fun (n_ : Nat) => Kd.C_string (P := Tryz.prog) (A := Aq35) (c := cq35) underlying37 underlying5 underlying9 (Kd.C_drewN ((Kd.V_reads' HO35.out).2.2) n_)) | (go_at_call 84; (with_reducible refine (impl_FieldOk.calls kj17 a2 (strOfNums t41) true _ A32.out).mono ?_); rintro e w36 ⟨rfl, hb⟩; replace HO35 := Aside0.mk (Kd.V_below (by refine cv_ ?_; exact HO35.out) hb); replace HB := hs_ hb; clear hb))
         go_ret3
         exact ⟨sq_, bl_⟩
        replace c33 := gf_ c33
        subst c33
        replace H := in_ H
        simp only [Option.some.injEq, Prod.mk.injEq] at H
        obtain ⟨rfl, rfl, rfl⟩ := H
        go_wp2_with (first | ((with_reducible refine gc_ 125 57 func125 #[.slice A0 l0.length c0, .int .i64 x1_10, .int .i64 x9_10] ?_); (with_reducible refine (impl_piece.calls (fun k_ => k_ < w.heap.size) _ _ l0 x1_10 x9_10 t41 true _ (Kd.V_mk HC0.out (Kd.F_below (Kd.C_F (Kd.heap_int .u8) HR0.out) bl_)) A30.out).mono ?_); rintro e w37 ⟨v51, rfl, ho0, hb⟩; refine ⟨_, rfl, ?_⟩; have HO35 := Aside0.mk (Kd.V_lower (Kd.V_mono (ok' := fun k_ => True) ho0 (fun k_ hk_ => trivial)) (below_size bl_)); replace HB := hs_ hb; clear hb; (try clear ho0); obtain ⟨Aq38, cq38, eq38⟩ := Kd.V_slice HO35.out; subst eq38; have hcv38 := Kd.C_string (P := Tryz.prog) (A := Aq38) (c := cq38) underlying37 underlying5 underlying9 ((Kd.V_reads' HO35.out).2.2); have hcu38 := fun (n_ : Nat) => Kd.C_string (P := Tryz.prog) (A := Aq38) (c := cq38) underlying37 underlying5 underlying9 (Kd.C_drewN ((Kd.V_reads' HO35.out).2.2) n_)) | (go_at_call 84; (with_reducible refine (impl_FieldOk.calls kj17 a2 (strOfNums t41) false _ A32.out).mono ?_); rintro e w39 ⟨rfl, hb⟩; replace HO35 := Aside0.mk (Kd.V_below (by refine cv_ ?_; exact HO35.out) hb); replace HB := hs_ hb; clear hb))
        go_ret3
        exact ⟨sq_, bl_⟩
       ·replace c31 := gf_ c31
        subst c31
        replace H := in_ H
        simp only [Option.some.injEq, Prod.mk.injEq] at H
        obtain ⟨rfl, rfl, rfl⟩ := H
        go_wp2_with (first | ((with_reducible refine gc_ 125 57 func125 #[.slice A0 l0.length c0, .int .i64 x1_10, .int .i64 x9_10] ?_); (with_reducible refine (impl_piece.calls (fun k_ => k_ < w.heap.size) _ _ l0 x1_10 x9_10 t41 false _ (Kd.V_mk HC0.out (Kd.F_below (Kd.C_F (Kd.heap_int .u8) HR0.out) bl_)) A30.out).mono ?_); rintro e w40 ⟨v51, rfl, ho0, hb⟩; refine ⟨_, rfl, ?_⟩; have HO35 := Aside0.mk (Kd.V_lower (Kd.V_mono (ok' := fun k_ => True) ho0 (fun k_ hk_ => trivial)) (below_size bl_)); replace HB := hs_ hb; clear hb; (try clear ho0); obtain ⟨Aq41, cq41, eq41⟩ := Kd.V_slice HO35.out; subst eq41; have hcv41 := Kd.C_string (P := Tryz.prog) (A := Aq41) (c := cq41) underlying37 underlying5 underlying9 ((Kd.V_reads' HO35.out).2.2); have hcu41 := fun (n_ : Nat) => Kd.C_string (P := Tryz.prog) (A := Aq41) (c := cq41) underlying37 underlying5 underlying9 (Kd.C_drewN ((Kd.V_reads' HO35.out).2.2) n_)))
        go_ret3
        exact ⟨sq_, bl_⟩
end Go.Proofs.YtohfefkjcnbejaaGreatDoor.QFnExactStepsLeft
