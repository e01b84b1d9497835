-- by my own printer (myprint.py, over the kit's print.py)
import Derived.Test.YtohfefkjcnbejaaGreatDoorQFnExactAsksx0
namespace Go.Proofs.YtohfefkjcnbejaaGreatDoor.QFnExactAsks
open Go.RowKit Go.Proofs.YtohfefkjcnbejaaGreatDoorW.PrintWords Go.Proofs.YtohfefkjcnbejaaGreatDoorW.PrintLast Go.Proofs.YtohfefkjcnbejaaGreatDoorW.PrintMore
attribute [local go_sem] max2_int min2_int max_two min_two max_three min_three max_four min_four
set_option linter.unusedVariables false
set_option linter.unusedSimpArgs false
attribute [local go_sem] my_geq my_leq my_gtr
/-! ### impl_within: function 71 -/
def impl_within.f (a0 : Int) (a1 : Int) (a2 : Int) : Option (Bool) := if a1 ≤ a0 then (some (decide (a0 ≤ a2))) else (some false)
set_option maxHeartbeats 8000000 in
set_option maxRecDepth 100000 in
theorem impl_within.calls (a0 : Int) (a1 : Int) (a2 : Int) (r : Bool) (w : World) (h : impl_within.f a0 a1 a2 = some r) :
  Calls Tryz.prog 71 #[.int .i64 a0, .int .i64 a1, .int .i64 a2] w fun e w' => e = .returned (.bool r) ∧ Drawn0 w w' := by
 have H : (if a1 ≤ a0 then (some (decide (a0 ≤ a2))) else (some false)) = some r := h
 clear h
 by_cases c4 : a1 ≤ a0
 ·rw [if_pos c4] at H
  have c4b0 := decide_eq_true c4
  clear c4
  obtain rfl := Option.some.inj H
  go_enter Tryz.func71, Tryz.ntmps71
  go_wp2
  go_ret
  exact ⟨sp_, by repeat (first | exact Drawn0.refl _ | apply Drawn0.step)⟩
 rw [if_neg c4] at H
 have c4b0 := decide_eq_false c4
 clear c4
 obtain rfl := Option.some.inj H
 go_enter Tryz.func71, Tryz.ntmps71
 go_wp2
 go_ret
 exact ⟨sp_, by repeat (first | exact Drawn0.refl _ | apply Drawn0.step)⟩
/-! ### impl_Digits: function 86 -/
def impl_Digits.l0 : Nat → ByteArray → Int → Int → Option (Bool)
 | 0, _, _, _ => none
 | k + 1, x0, x5, x6 => if x6 < x5 then (if 0 ≤ x6 then (if x6 < (x0.size : Int) then (if (bt x0 x6) < 48 then (some false) else (if (bt x0 x6) > 57 then (some false) else (impl_Digits.l0 k x0 x5 (wrap64 (x6 + 1))))) else (none)) else (none)) else (some (x0.toList != ([] : List UInt8)))
def impl_Digits.f (k : Nat) (a0 : ByteArray) : Option (Bool) := impl_Digits.l0 k a0 (a0.size : Int) 0
set_option maxHeartbeats 8000000 in
set_option maxRecDepth 100000 in
theorem impl_Digits.calls (k : Nat) (a0 : ByteArray) (r : Bool) (w : World) (h : impl_Digits.f k a0 = some r) :
  Calls Tryz.prog 86 #[.string a0] w fun e w' => e = .returned (.bool r) ∧ Drawn0 w w' := by
 have H : (impl_Digits.l0 k a0 (a0.size : Int) 0) = some r := h
 clear h
 have H' := Aside0.mk H
 clear H
 go_enter Tryz.func86, Tryz.ntmps86
 go_wp2
 go_loopg [6] k (fun kq v6 w' => ∃ (x6_1 : Int), v6 = .int .i64 x6_1 ∧ Aside0 (impl_Digits.l0 kq a0 (a0.size : Int) x6_1 = some r) ∧ Aside0 (kq ≤ k) ∧ Drawn0 w w')
 case atStart => exact ⟨(0), sp_, H', ⟨Nat.le_refl _⟩, by repeat (first | exact Drawn0.refl _ | apply Drawn0.step)⟩
 case round =>
  clear H'
  obtain ⟨x6_1, rfl, HA, HK1, ⟨m1, rfl⟩⟩ := hrel
  cases gk with
  | zero => exact absurd HA.out (by simp [impl_Digits.l0])
  | succ k1 =>
   have H := HA.out
   clear HA
   simp only [impl_Digits.l0] at H
   by_cases c2 : x6_1 < (a0.size : Int)
   rotate_left
   ·rw [if_neg c2] at H
    have c2b0 := decide_eq_false c2
    clear c2
    obtain rfl := Option.some.inj H
    go_wp2
    go_ret
    exact ⟨sp_, by repeat (first | exact Drawn0.refl _ | apply Drawn0.step)⟩
   rw [if_pos c2] at H
   have c2b0 := decide_eq_true c2
   clear c2
   by_cases c3 : 0 ≤ x6_1
   rotate_left
   ·rw [if_neg c3] at H
    exact absurd H (by simp)
   rw [if_pos c3] at H
   have c3b0 := decide_eq_true c3
   clear c3
   by_cases c4 : x6_1 < (a0.size : Int)
   rotate_left
   ·rw [if_neg c4] at H
    exact absurd H (by simp)
   rw [if_pos c4] at H
   have c4b0 := decide_eq_true c4
   clear c4
   by_cases c6 : (bt a0 x6_1) < 48
   ·rw [if_pos c6] at H
    have c6b0 := decide_eq_true c6
    clear c6
    obtain rfl := Option.some.inj H
    have p5 : 0 ≤ (x6_1 : Int) := od_
    have q5 : x6_1 < (a0.size : Int) := od_
    have hx5 := bt_at a0 x6_1
    replace p5 := eq_true p5
    replace q5 := eq_true q5
    go_wp2
    go_ret
    exact ⟨sp_, by repeat (first | exact Drawn0.refl _ | apply Drawn0.step)⟩
   rw [if_neg c6] at H
   have c6b0 := decide_eq_false c6
   clear c6
   by_cases c8 : (bt a0 x6_1) > 57
   ·rw [if_pos c8] at H
    have c8b0 := decide_eq_true c8
    clear c8
    obtain rfl := Option.some.inj H
    have p5 : 0 ≤ (x6_1 : Int) := od_
    have q5 : x6_1 < (a0.size : Int) := od_
    have hx5 := bt_at a0 x6_1
    replace p5 := eq_true p5
    replace q5 := eq_true q5
    have p7 : 0 ≤ (x6_1 : Int) := od_
    have q7 : x6_1 < (a0.size : Int) := od_
    have hx7 := bt_at a0 x6_1
    replace p7 := eq_true p7
    replace q7 := eq_true q7
    go_wp2
    go_ret
    exact ⟨sp_, by repeat (first | exact Drawn0.refl _ | apply Drawn0.step)⟩
   rw [if_neg c8] at H
   have c8b0 := decide_eq_false c8
   clear c8
   have H' := Aside0.mk H
   clear H
   have p5 : 0 ≤ (x6_1 : Int) := od_
   have q5 : x6_1 < (a0.size : Int) := od_
   have hx5 := bt_at a0 x6_1
   replace p5 := eq_true p5
   replace q5 := eq_true q5
   have p7 : 0 ≤ (x6_1 : Int) := od_
   have q7 : x6_1 < (a0.size : Int) := od_
   have hx7 := bt_at a0 x6_1
   replace p7 := eq_true p7
   replace q7 := eq_true q7
   go_wp2
   go_roundg k1
   case measure => have := HK1.out; omega
   case rel => exact ⟨(wrap64 (x6_1 + 1)), sp_, H', ⟨by have := HK1.out; omega⟩, by repeat (first | exact Drawn0.refl _ | apply Drawn0.step)⟩
/-! ### impl_fieldRows: function 144 -/
def impl_fieldRows.f  : Option ((List (S115))) := some (([(⟨2, 3, 19⟩ : S115), (⟨3, 1, 6⟩ : S115), (⟨4, 1, 12⟩ : S115), (⟨7, 1, 10⟩ : S115), (⟨11, 1, 6⟩ : S115), (⟨14, 1, 4⟩ : S115), (⟨37, 2, 12⟩ : S115), (⟨38, 2, 6⟩ : S115), (⟨39, 2, 2⟩ : S115), (⟨41, 2, 8⟩ : S115), (⟨48, 5, 60⟩ : S115), (⟨49, 1, 3⟩ : S115), (⟨54, 5, 60⟩ : S115), (⟨95, 2, 12⟩ : S115), (⟨102, 4, 20⟩ : S115), (⟨103, 4, 20⟩ : S115)] : List (S115)))
set_option maxHeartbeats 8000000 in
set_option maxRecDepth 100000 in
theorem impl_fieldRows.calls  (r : List (S115)) (w : World) (h : impl_fieldRows.f  = some r) :
  Calls Tryz.prog 144 #[] w fun e w' => ∃ v0_ : Value, e = .returned (v0_) ∧ Kd.R k115 115 w' w.heap.size (fun _ => True) v0_ r ∧ Below w.heap.size w w' := by
 have hu115 := Tryz.underlying115
 have HB := Aside0.mk (Below.refl w.heap.size w)
 have H : (some (([(⟨2, 3, 19⟩ : S115), (⟨3, 1, 6⟩ : S115), (⟨4, 1, 12⟩ : S115), (⟨7, 1, 10⟩ : S115), (⟨11, 1, 6⟩ : S115), (⟨14, 1, 4⟩ : S115), (⟨37, 2, 12⟩ : S115), (⟨38, 2, 6⟩ : S115), (⟨39, 2, 2⟩ : S115), (⟨41, 2, 8⟩ : S115), (⟨48, 5, 60⟩ : S115), (⟨49, 1, 3⟩ : S115), (⟨54, 5, 60⟩ : S115), (⟨95, 2, 12⟩ : S115), (⟨102, 4, 20⟩ : S115), (⟨103, 4, 20⟩ : S115)] : List (S115)))) = some r := h
 clear h
 obtain ⟨y298, hy298⟩ : ∃ y_ : List (S115), y_ = (([(⟨2, 3, 19⟩ : S115), (⟨3, 1, 6⟩ : S115), (⟨4, 1, 12⟩ : S115), (⟨7, 1, 10⟩ : S115), (⟨11, 1, 6⟩ : S115), (⟨14, 1, 4⟩ : S115), (⟨37, 2, 12⟩ : S115), (⟨38, 2, 6⟩ : S115), (⟨39, 2, 2⟩ : S115), (⟨41, 2, 8⟩ : S115), (⟨48, 5, 60⟩ : S115), (⟨49, 1, 3⟩ : S115), (⟨54, 5, 60⟩ : S115), (⟨95, 2, 12⟩ : S115), (⟨102, 4, 20⟩ : S115), (⟨103, 4, 20⟩ : S115)] : List (S115))) := ⟨_, rfl⟩
 replace H : (some y298) = some r := by first | (rw [hy298]; with_reducible exact H) | (have H2_ := (Option.bind_some _ _).symm.trans H; rw [hy298]; with_reducible exact H2_) | (have H2_ := (Option.bind_some _ _).symm.trans H; with_reducible exact H2_) | with_reducible exact H | (rw [hy298]; exact H) | exact H
 have Ny298 := Aside0.mk hy298
 clear hy298
 obtain rfl := Option.some.inj H
 go_enter Tryz.func144, Tryz.ntmps144
 go_wp2_with (first | ((with_reducible refine gate_dst (N := 17) rfl ?_); refine Kd.R_lit k115 _ 115 ?hg (N := 17) ?hd (xs := ([(⟨2, 3, 19⟩ : S115), (⟨3, 1, 6⟩ : S115), (⟨4, 1, 12⟩ : S115), (⟨7, 1, 10⟩ : S115), (⟨11, 1, 6⟩ : S115), (⟨14, 1, 4⟩ : S115), (⟨37, 2, 12⟩ : S115), (⟨38, 2, 6⟩ : S115), (⟨39, 2, 2⟩ : S115), (⟨41, 2, 8⟩ : S115), (⟨48, 5, 60⟩ : S115), (⟨49, 1, 3⟩ : S115), (⟨54, 5, 60⟩ : S115), (⟨95, 2, 12⟩ : S115), (⟨102, 4, 20⟩ : S115), (⟨103, 4, 20⟩ : S115)] : List (S115))) (inner := [.int .i64 2, .int .i64 3, .int .i64 19, .int .i64 3, .int .i64 1, .int .i64 6, .int .i64 4, .int .i64 1, .int .i64 12, .int .i64 7, .int .i64 1, .int .i64 10, .int .i64 11, .int .i64 1, .int .i64 6, .int .i64 14, .int .i64 1, .int .i64 4, .int .i64 37, .int .i64 2, .int .i64 12, .int .i64 38, .int .i64 2, .int .i64 6, .int .i64 39, .int .i64 2, .int .i64 2, .int .i64 41, .int .i64 2, .int .i64 8, .int .i64 48, .int .i64 5, .int .i64 60, .int .i64 49, .int .i64 1, .int .i64 3, .int .i64 54, .int .i64 5, .int .i64 60, .int .i64 95, .int .i64 2, .int .i64 12, .int .i64 102, .int .i64 4, .int .i64 20, .int .i64 103, .int .i64 4, .int .i64 20]) (ok := fun _ => True) (okp := fun _ => True) ?hr ?hp (fun _ hk => hk) trivial (Below.refl _ _) (Nat.le_refl _) (by simp) ?_; (case hd => rfl); (case hg => rfl); (case hr => first | (go_simp; done) | (go_simp; rfl)); (case hp => exact (Reps.c3 (show Kd.M k115 _ _ _ (⟨2, 3, 19⟩ : S115) [.int .i64 2, .int .i64 3, .int .i64 19] from (k115_mkM _ _ _ (⟨2, 3, 19⟩ : S115) )) (Reps.c3 (show Kd.M k115 _ _ _ (⟨3, 1, 6⟩ : S115) [.int .i64 3, .int .i64 1, .int .i64 6] from (k115_mkM _ _ _ (⟨3, 1, 6⟩ : S115) )) (Reps.c3 (show Kd.M k115 _ _ _ (⟨4, 1, 12⟩ : S115) [.int .i64 4, .int .i64 1, .int .i64 12] from (k115_mkM _ _ _ (⟨4, 1, 12⟩ : S115) )) (Reps.c3 (show Kd.M k115 _ _ _ (⟨7, 1, 10⟩ : S115) [.int .i64 7, .int .i64 1, .int .i64 10] from (k115_mkM _ _ _ (⟨7, 1, 10⟩ : S115) )) (Reps.c3 (show Kd.M k115 _ _ _ (⟨11, 1, 6⟩ : S115) [.int .i64 11, .int .i64 1, .int .i64 6] from (k115_mkM _ _ _ (⟨11, 1, 6⟩ : S115) )) (Reps.c3 (show Kd.M k115 _ _ _ (⟨14, 1, 4⟩ : S115) [.int .i64 14, .int .i64 1, .int .i64 4] from (k115_mkM _ _ _ (⟨14, 1, 4⟩ : S115) )) (Reps.c3 (show Kd.M k115 _ _ _ (⟨37, 2, 12⟩ : S115) [.int .i64 37, .int .i64 2, .int .i64 12] from (k115_mkM _ _ _ (⟨37, 2, 12⟩ : S115) )) (Reps.c3 (show Kd.M k115 _ _ _ (⟨38, 2, 6⟩ : S115) [.int .i64 38, .int .i64 2, .int .i64 6] from (k115_mkM _ _ _ (⟨38, 2, 6⟩ : S115) )) (Reps.c3 (show Kd.M k115 _ _ _ (⟨39, 2, 2⟩ : S115) [.int .i64 39, .int .i64 2, .int .i64 2] from (k115_mkM _ _ _ (⟨39, 2, 2⟩ : S115) )) (Reps.c3 (show Kd.M k115 _ _ _ (⟨41, 2, 8⟩ : S115) [.int .i64 41, .int .i64 2, .int .i64 8] from (k115_mkM _ _ _ (⟨41, 2, 8⟩ : S115) )) (Reps.c3 (show Kd.M k115 _ _ _ (⟨48, 5, 60⟩ : S115) [.int .i64 48, .int .i64 5, .int .i64 60] from (k115_mkM _ _ _ (⟨48, 5, 60⟩ : S115) )) (Reps.c3 (show Kd.M k115 _ _ _ (⟨49, 1, 3⟩ : S115) [.int .i64 49, .int .i64 1, .int .i64 3] from (k115_mkM _ _ _ (⟨49, 1, 3⟩ : S115) )) (Reps.c3 (show Kd.M k115 _ _ _ (⟨54, 5, 60⟩ : S115) [.int .i64 54, .int .i64 5, .int .i64 60] from (k115_mkM _ _ _ (⟨54, 5, 60⟩ : S115) )) (Reps.c3 (show Kd.M k115 _ _ _ (⟨95, 2, 12⟩ : S115) [.int .i64 95, .int .i64 2, .int .i64 12] from (k115_mkM _ _ _ (⟨95, 2, 12⟩ : S115) )) (Reps.c3 (show Kd.M k115 _ _ _ (⟨102, 4, 20⟩ : S115) [.int .i64 102, .int .i64 4, .int .i64 20] from (k115_mkM _ _ _ (⟨102, 4, 20⟩ : S115) )) (Reps.c3 (show Kd.M k115 _ _ _ (⟨103, 4, 20⟩ : S115) [.int .i64 103, .int .i64 4, .int .i64 20] from (k115_mkM _ _ _ (⟨103, 4, 20⟩ : S115) )) (Reps.none _ _)))))))))))))))))); intro v299 w1 ho2 hb hg_ hnew_; clear hg_ hnew_; (first | rw [← Ny298.out] at ho2 | (simp only [Int.reduceToNat] at ho2; rw [← Ny298.out] at ho2)); have HO300 := Aside0.mk (Kd.R_lower ho2 (below_size bl_)); replace HB := hs_ hb; clear hb ho2))
 go_ret
 exact ⟨_, by first | rfl | (simp [errW_none, errW_some] <;> rfl) | (simp [*, errW_none, errW_some] <;> rfl), ra_ HO300, bl_⟩
/-! ### impl_rowOf: function 112 -/
def impl_rowOf.l0 : Nat → Int → List (S115) → Int → Int → Option (Int × Int × Int)
 | 0, _, _, _, _ => none
 | k + 1, x0, x5, x6, x7 => if x7 < x6 then (if 0 ≤ x7 then (if x7 < (x5.length : Int) then (if ((rd_T115 x5 x7).f0) = x0 then (some ((rd_T115 x5 x7).f0, (rd_T115 x5 x7).f1, (rd_T115 x5 x7).f2)) else (impl_rowOf.l0 k x0 x5 x6 (wrap64 (x7 + 1)))) else (none)) else (none)) else (some (0, 0, 0))
def impl_rowOf.f (k : Nat) (a0 : Int) : Option (Int × Int × Int) := (impl_fieldRows.f).bind fun t302 => (impl_rowOf.l0 k a0 t302 (t302.length : Int) 0)
set_option maxHeartbeats 8000000 in
set_option maxRecDepth 100000 in
theorem impl_rowOf.calls (k : Nat) (a0 : Int) (r1 : Int) (r2 : Int) (r3 : Int) (w : World) (h : impl_rowOf.f k a0 = some (r1, r2, r3)) :
  Calls Tryz.prog 112 #[.int .i64 a0] w fun e w' => e = .returned (.agg #[.int .i64 r1, .int .i64 r2, .int .i64 r3]) ∧ Below w.heap.size w w' := by
 have hu115 := Tryz.underlying115
 have HB := Aside0.mk (Below.refl w.heap.size w)
 have H : ((impl_fieldRows.f).bind fun t302 => (impl_rowOf.l0 k a0 t302 (t302.length : Int) 0)) = some (r1, r2, r3) := h
 clear h
 obtain ⟨t302, A2, H⟩ := ob_ H
 have H' := Aside0.mk H
 clear H
 go_enter Tryz.func112, Tryz.ntmps112
 go_wp2_with (first | ((with_reducible refine gate_dst (N := 2) rfl ?_); refine be_ (N := 2) (cs := #[.int .i64 0, .int .i64 0, .int .i64 0]) (t := 115) ?_; intro gb301 hg w3 hbox hb; have BK301 := Aside0.mk (hbox); have GW301 := gw_ (w := w) hg; have GE301 := gw_ (w := w) hg; replace HB := hs_ hb; clear hb hbox hg) | ((with_reducible refine gc_ 144 5 Tryz.func144 #[] ?_); (with_reducible refine (impl_fieldRows.calls  t302 _ A2.out).mono ?_); rintro e w4 ⟨v303, rfl, ho0, hb⟩; refine ⟨_, rfl, ?_⟩; have HO304 := Aside0.mk (Kd.R_lower (Kd.R_newB ho0 (bk_ BK301)) (below_size bl_)); replace BK301 := kb_ BK301 hb; replace HB := hs_ hb; clear hb; (try clear ho0); obtain ⟨Ao5, co5, eo5⟩ := Kd.R_slice HO304.out; subst eo5))
 go_loopg [7] k (fun kq v7 w' => ∃ (x7_1 : Int) (x302000_1 : Int) (x302001_1 : Int) (x302002_1 : Int), v7 = .int .i64 x7_1 ∧ Aside0 (impl_rowOf.l0 kq a0 t302 (t302.length : Int) x7_1 = some (r1, r2, r3)) ∧ Aside0 (kq ≤ k) ∧ Aside0 (Kd.R k115 115 w' w.heap.size (fun k_ => k_ ≠ gb301) (.slice Ao5 t302.length co5) t302) ∧ Aside0 (w'.heap[gb301]? = some (.cells #[.int .i64 x302000_1, .int .i64 x302001_1, .int .i64 x302002_1] 115 (0, 0))) ∧ Aside0 (Below w.heap.size w w'))
 case atStart => exact ⟨(0), (0), (0), (0), sp_, H', ⟨Nat.le_refl _⟩, ⟨by (with_reducible repeat (first | apply Kd.R_alloc | apply Kd.R_drewN | apply Kd.R_drew)); exact Kd.R_mono HO304.out (fun _ hk => hk.2)⟩, ⟨by (with_reducible repeat (first | refine blk_drewN ?_ _ | refine blk_drew ?_ | refine blk_alloc ?_ _)); exact BK301.out⟩, ⟨bl_⟩⟩
 case round =>
  clear H'
  obtain ⟨x7_1, x302000_1, x302001_1, x302002_1, rfl, HA, HK1, HO_5, BK301, HB⟩ := hrel
  cases gk with
  | zero => exact absurd HA.out (by simp [impl_rowOf.l0])
  | succ k1 =>
   have H := HA.out
   clear HA
   simp only [impl_rowOf.l0] at H
   by_cases c6 : x7_1 < (t302.length : Int)
   rotate_left
   ·rw [if_neg c6] at H
    have c6b0 := decide_eq_false c6
    clear c6
    simp only [Option.some.injEq, Prod.mk.injEq] at H
    obtain ⟨rfl, rfl, rfl⟩ := H
    obtain ⟨hcz17_0, hcz17_1, hcz17_2, hfz17_0, hfz17_1, hfz17_2⟩ := bx3_ BK301
    go_wp2
    refine bodyPost_ret (results_cell_row rfl _ _ gb301 115 #[.int .i64 0, .int .i64 0, .int .i64 0] (0, 0) _ rfl (by (with_reducible repeat (first | refine blk_drewN ?_ _ | refine blk_drew ?_ | refine blk_alloc ?_ _)); apply bq3_2_1_0_; (with_reducible repeat (first | refine blk_drewN ?_ _ | refine blk_drew ?_ | refine blk_alloc ?_ _)); exact BK301.out) Tryz.underlying115 rfl (by kernel_rfl)) rfl ?_
    exact ⟨sq_, bl_⟩
   rw [if_pos c6] at H
   have c6b0 := decide_eq_true c6
   clear c6
   by_cases c7 : 0 ≤ x7_1
   rotate_left
   ·rw [if_neg c7] at H
    exact absurd H (by simp)
   rw [if_pos c7] at H
   have c7b0 := decide_eq_true c7
   clear c7
   by_cases c8 : x7_1 < (t302.length : Int)
   rotate_left
   ·rw [if_neg c8] at H
    exact absurd H (by simp)
   rw [if_pos c8] at H
   have c8b0 := decide_eq_true c8
   clear c8
   by_cases c9 : ((rd_T115 t302 x7_1).f0) = a0
   ·rw [if_pos c9] at H
    have c9b0 := beq_iff_eq.mpr c9
    have c9b1 := bne_eq_false_iff_eq.mpr c9
    clear c9
    simp only [Option.some.injEq, Prod.mk.injEq] at H
    obtain ⟨rfl, rfl, rfl⟩ := H
    have p305 : 0 ≤ (x7_1 : Int) := od_
    have q305 : x7_1 < (t302.length : Int) := od_
    obtain ⟨ad305, e305, hx305_0, hx305_1, hx305_2⟩ := at_T115 (Kd.R_reads' HO_5.out).2.2 x7_1 p305 q305
    cases e305
    replace p305 := eq_true p305
    replace q305 := eq_true q305
    go_wp2_with (first | ((with_reducible refine gate_dst (N := 4) rfl ?_); refine be_ (N := 4) (cs := #[.int .i64 0, .int .i64 0, .int .i64 0]) (t := 115) ?_; intro gb306 hg w10 hbox hb; replace HO_5 := Aside0.mk (Kd.R_below (Kd.R_elderB (ra_ HO_5) gb306 (Nat.le_of_eq hg.symm)) hb); have BK306 := Aside0.mk (hbox); have GW306 := gw_ (w := w) hg; have GE306 := gw_ (w := w) hg; replace HB := hs_ hb; have NB301_306 := Aside0.mk ((by rw [hg]; exact Nat.ne_of_lt (blk_lt (bk_ BK301)) : gb301 ≠ gb306)); have NB306_301 := Aside0.mk ((by rw [hg]; exact Nat.ne_of_gt (blk_lt (bk_ BK301)) : gb306 ≠ gb301)); replace BK301 := kb_ BK301 hb; clear hb hbox hg; have hnb11 := NB306_301.out; have hnc11 := NB301_306.out; obtain ⟨hcz12_0, hcz12_1, hcz12_2, hfz12_0, hfz12_1, hfz12_2⟩ := bx3_ BK306; obtain ⟨hcz13_0, hcz13_1, hcz13_2, hfz13_0, hfz13_1, hfz13_2⟩ := bx3_ BK301))
    refine bodyPost_ret (results_cell_row rfl _ _ gb301 115 #[.int .i64 ((rd_T115 t302 x7_1).f0), .int .i64 ((rd_T115 t302 x7_1).f1), .int .i64 ((rd_T115 t302 x7_1).f2)] (0, 0) _ rfl (by (with_reducible repeat (first | refine blk_drewN ?_ _ | refine blk_drew ?_ | refine blk_alloc ?_ _)); apply bq3_2_1_0_; (with_reducible repeat (first | refine blk_drewN ?_ _ | refine blk_drew ?_ | refine blk_alloc ?_ _)); refine blk_far ?_ NB301_306.out _; (with_reducible repeat (first | refine blk_drewN ?_ _ | refine blk_drew ?_ | refine blk_alloc ?_ _)); refine blk_far ?_ NB301_306.out _; (with_reducible repeat (first | refine blk_drewN ?_ _ | refine blk_drew ?_ | refine blk_alloc ?_ _)); refine blk_far ?_ NB301_306.out _; (with_reducible repeat (first | refine blk_drewN ?_ _ | refine blk_drew ?_ | refine blk_alloc ?_ _)); exact BK301.out) Tryz.underlying115 rfl (by kernel_rfl)) rfl ?_
    exact ⟨sq_, bl_⟩
   rw [if_neg c9] at H
   have c9b0 := beq_eq_false_iff_ne.mpr c9
   have c9b1 := bne_iff_ne.mpr c9
   have H' := Aside0.mk H
   clear H
   have p305 : 0 ≤ (x7_1 : Int) := od_
   have q305 : x7_1 < (t302.length : Int) := od_
   obtain ⟨ad305, e305, hx305_0, hx305_1, hx305_2⟩ := at_T115 (Kd.R_reads' HO_5.out).2.2 x7_1 p305 q305
   cases e305
   replace p305 := eq_true p305
   replace q305 := eq_true q305
   go_wp2_with (first | ((with_reducible refine gate_dst (N := 4) rfl ?_); refine be_ (N := 4) (cs := #[.int .i64 0, .int .i64 0, .int .i64 0]) (t := 115) ?_; intro gb306 hg w14 hbox hb; replace HO_5 := Aside0.mk (Kd.R_below (Kd.R_elderB (ra_ HO_5) gb306 (Nat.le_of_eq hg.symm)) hb); have BK306 := Aside0.mk (hbox); have GW306 := gw_ (w := w) hg; have GE306 := gw_ (w := w) hg; replace HB := hs_ hb; have NB301_306 := Aside0.mk ((by rw [hg]; exact Nat.ne_of_lt (blk_lt (bk_ BK301)) : gb301 ≠ gb306)); have NB306_301 := Aside0.mk ((by rw [hg]; exact Nat.ne_of_gt (blk_lt (bk_ BK301)) : gb306 ≠ gb301)); replace BK301 := kb_ BK301 hb; clear hb hbox hg; have hnb15 := NB306_301.out; have hnc15 := NB301_306.out; obtain ⟨hcz16_0, hcz16_1, hcz16_2, hfz16_0, hfz16_1, hfz16_2⟩ := bx3_ BK306))
   go_roundg k1
   case measure => have := HK1.out; omega
   case rel => exact ⟨(wrap64 (x7_1 + 1)), (x302000_1), (x302001_1), (x302002_1), sp_, H', ⟨by have := HK1.out; omega⟩, ⟨by (with_reducible repeat (first | apply Kd.R_alloc | apply Kd.R_drewN | apply Kd.R_drew)); exact Kd.R_mono (Kd.R_far (p := ⟨gb306, 2, none⟩) (Kd.R_far (p := ⟨gb306, 1, none⟩) (Kd.R_far (p := ⟨gb306, 0, none⟩) (Kd.R_mono HO_5.out (fun k_ hk => (⟨hk, hk.2⟩ : _ ∧ k_ ≠ gb306))) (fun _ hk => hk.2) (.int .i64 ((rd_T115 t302 x7_1).f0))) (fun _ hk => hk.2) (.int .i64 ((rd_T115 t302 x7_1).f1))) (fun _ hk => hk.2) (.int .i64 ((rd_T115 t302 x7_1).f2))) (fun _ hk => hk.1.1)⟩, ⟨by (with_reducible repeat (first | refine blk_drewN ?_ _ | refine blk_drew ?_ | refine blk_alloc ?_ _)); refine blk_far ?_ NB301_306.out _; (with_reducible repeat (first | refine blk_drewN ?_ _ | refine blk_drew ?_ | refine blk_alloc ?_ _)); refine blk_far ?_ NB301_306.out _; (with_reducible repeat (first | refine blk_drewN ?_ _ | refine blk_drew ?_ | refine blk_alloc ?_ _)); refine blk_far ?_ NB301_306.out _; (with_reducible repeat (first | refine blk_drewN ?_ _ | refine blk_drew ?_ | refine blk_alloc ?_ _)); exact BK301.out⟩, ⟨bl_⟩⟩
/-! ### impl_Printable: function 113 -/
def impl_Printable.l0 : Nat → ByteArray → Int → Int → Option (Bool)
 | 0, _, _, _ => none
 | k + 1, x0, x5, x6 => if x6 < x5 then (if 0 ≤ x6 then (if x6 < (x0.size : Int) then (if (bt x0 x6) < 32 then (some false) else (if (bt x0 x6) > 126 then (some false) else (impl_Printable.l0 k x0 x5 (wrap64 (x6 + 1))))) else (none)) else (none)) else (some true)
def impl_Printable.f (k : Nat) (a0 : ByteArray) : Option (Bool) := impl_Printable.l0 k a0 (a0.size : Int) 0
set_option maxHeartbeats 8000000 in
set_option maxRecDepth 100000 in
theorem impl_Printable.calls (k : Nat) (a0 : ByteArray) (r : Bool) (w : World) (h : impl_Printable.f k a0 = some r) :
  Calls Tryz.prog 113 #[.string a0] w fun e w' => e = .returned (.bool r) ∧ Drawn0 w w' := by
 have H : (impl_Printable.l0 k a0 (a0.size : Int) 0) = some r := h
 clear h
 have H' := Aside0.mk H
 clear H
 go_enter Tryz.func113, Tryz.ntmps113
 go_wp2
 go_loopg [6] k (fun kq v6 w' => ∃ (x6_1 : Int), v6 = .int .i64 x6_1 ∧ Aside0 (impl_Printable.l0 kq a0 (a0.size : Int) x6_1 = some r) ∧ Aside0 (kq ≤ k) ∧ Drawn0 w w')
 case atStart => exact ⟨(0), sp_, H', ⟨Nat.le_refl _⟩, by repeat (first | exact Drawn0.refl _ | apply Drawn0.step)⟩
 case round =>
  clear H'
  obtain ⟨x6_1, rfl, HA, HK1, ⟨m1, rfl⟩⟩ := hrel
  cases gk with
  | zero => exact absurd HA.out (by simp [impl_Printable.l0])
  | succ k1 =>
   have H := HA.out
   clear HA
   simp only [impl_Printable.l0] at H
   by_cases c2 : x6_1 < (a0.size : Int)
   rotate_left
   ·rw [if_neg c2] at H
    have c2b0 := decide_eq_false c2
    clear c2
    obtain rfl := Option.some.inj H
    go_wp2
    go_ret
    exact ⟨sp_, by repeat (first | exact Drawn0.refl _ | apply Drawn0.step)⟩
   rw [if_pos c2] at H
   have c2b0 := decide_eq_true c2
   clear c2
   by_cases c3 : 0 ≤ x6_1
   rotate_left
   ·rw [if_neg c3] at H
    exact absurd H (by simp)
   rw [if_pos c3] at H
   have c3b0 := decide_eq_true c3
   clear c3
   by_cases c4 : x6_1 < (a0.size : Int)
   rotate_left
   ·rw [if_neg c4] at H
    exact absurd H (by simp)
   rw [if_pos c4] at H
   have c4b0 := decide_eq_true c4
   clear c4
   by_cases c6 : (bt a0 x6_1) < 32
   ·rw [if_pos c6] at H
    have c6b0 := decide_eq_true c6
    clear c6
    obtain rfl := Option.some.inj H
    have p5 : 0 ≤ (x6_1 : Int) := od_
    have q5 : x6_1 < (a0.size : Int) := od_
    have hx5 := bt_at a0 x6_1
    replace p5 := eq_true p5
    replace q5 := eq_true q5
    go_wp2
    go_ret
    exact ⟨sp_, by repeat (first | exact Drawn0.refl _ | apply Drawn0.step)⟩
   rw [if_neg c6] at H
   have c6b0 := decide_eq_false c6
   clear c6
   by_cases c8 : (bt a0 x6_1) > 126
   ·rw [if_pos c8] at H
    have c8b0 := decide_eq_true c8
    clear c8
    obtain rfl := Option.some.inj H
    have p5 : 0 ≤ (x6_1 : Int) := od_
    have q5 : x6_1 < (a0.size : Int) := od_
    have hx5 := bt_at a0 x6_1
    replace p5 := eq_true p5
    replace q5 := eq_true q5
    have p7 : 0 ≤ (x6_1 : Int) := od_
    have q7 : x6_1 < (a0.size : Int) := od_
    have hx7 := bt_at a0 x6_1
    replace p7 := eq_true p7
    replace q7 := eq_true q7
    go_wp2
    go_ret
    exact ⟨sp_, by repeat (first | exact Drawn0.refl _ | apply Drawn0.step)⟩
   rw [if_neg c8] at H
   have c8b0 := decide_eq_false c8
   clear c8
   have H' := Aside0.mk H
   clear H
   have p5 : 0 ≤ (x6_1 : Int) := od_
   have q5 : x6_1 < (a0.size : Int) := od_
   have hx5 := bt_at a0 x6_1
   replace p5 := eq_true p5
   replace q5 := eq_true q5
   have p7 : 0 ≤ (x6_1 : Int) := od_
   have q7 : x6_1 < (a0.size : Int) := od_
   have hx7 := bt_at a0 x6_1
   replace p7 := eq_true p7
   replace q7 := eq_true q7
   go_wp2
   go_roundg k1
   case measure => have := HK1.out; omega
   case rel => exact ⟨(wrap64 (x6_1 + 1)), sp_, H', ⟨by have := HK1.out; omega⟩, by repeat (first | exact Drawn0.refl _ | apply Drawn0.step)⟩
/-! ### impl_FieldOk: function 84 -/
def impl_FieldOk.j0 : Nat → ByteArray → Bool → Int → Int → Int → Option (Bool)
 | 0, _, _, _, _, _ => none
 | k + 1, x1, x43, x311000, x311001, x311002 => if x43 = true then ((impl_Printable.f k x1).bind fun t315 => (if t315 = true then ((impl_within.f (x1.size : Int) 1 x311002).bind fun t316 => (some t316)) else (some false))) else (some false)
def impl_FieldOk.f (k : Nat) (a0 : Int) (a1 : ByteArray) : Option (Bool) := (impl_rowOf.f k a0).bind fun bt307 => (if bt307.2.1 = 1 then ((impl_Digits.f k a1).bind fun t311 => (if t311 = true then (some ((a1.size : Int) == bt307.2.2)) else (some false))) else (if bt307.2.1 = 2 then ((impl_Printable.f k a1).bind fun t312 => (if t312 = true then (some ((a1.size : Int) == bt307.2.2)) else (some false))) else (if bt307.2.1 = 3 then ((impl_Digits.f k a1).bind fun t313 => (if t313 = true then ((impl_within.f (a1.size : Int) 1 bt307.2.2).bind fun t314 => (some t314)) else (some false))) else (if bt307.2.1 = 4 then (impl_FieldOk.j0 k a1 (bt307.2.1 == 4) bt307.1 bt307.2.1 bt307.2.2) else (impl_FieldOk.j0 k a1 (bt307.2.1 == 5) bt307.1 bt307.2.1 bt307.2.2)))))
set_option maxHeartbeats 8000000 in
set_option maxRecDepth 100000 in
theorem impl_FieldOk.calls (k : Nat) (a0 : Int) (a1 : ByteArray) (r : Bool) (w : World) (h : impl_FieldOk.f k a0 a1 = some r) :
  Calls Tryz.prog 84 #[.int .i64 a0, .string a1] w fun e w' => e = .returned (.bool r) ∧ Below w.heap.size w w' := by
 have hu115 := Tryz.underlying115
 have HB := Aside0.mk (Below.refl w.heap.size w)
 have H : ((impl_rowOf.f k a0).bind fun bt307 => (if bt307.2.1 = 1 then ((impl_Digits.f k a1).bind fun t311 => (if t311 = true then (some ((a1.size : Int) == bt307.2.2)) else (some false))) else (if bt307.2.1 = 2 then ((impl_Printable.f k a1).bind fun t312 => (if t312 = true then (some ((a1.size : Int) == bt307.2.2)) else (some false))) else (if bt307.2.1 = 3 then ((impl_Digits.f k a1).bind fun t313 => (if t313 = true then ((impl_within.f (a1.size : Int) 1 bt307.2.2).bind fun t314 => (some t314)) else (some false))) else (if bt307.2.1 = 4 then (impl_FieldOk.j0 k a1 (bt307.2.1 == 4) bt307.1 bt307.2.1 bt307.2.2) else (impl_FieldOk.j0 k a1 (bt307.2.1 == 5) bt307.1 bt307.2.1 bt307.2.2)))))) = some r := h
 clear h
 obtain ⟨⟨t307, t308, t309⟩, A3, H⟩ := ob_ H
 (try dsimp only at H)
 by_cases c4 : t308 = 1
 ·rw [if_pos c4] at H
  have c4b0 := beq_iff_eq.mpr c4
  have c4b1 := bne_eq_false_iff_eq.mpr c4
  clear c4
  obtain ⟨t311, A5, H⟩ := ob_ H
  by_cases c6 : t311 = true
  ·subst c6
   replace H := ip_ H
   obtain rfl := Option.some.inj H
   go_enter Tryz.func84, Tryz.ntmps84
   go_wp2_with (first | ((with_reducible refine gc_ 112 7 Tryz.func112 #[.int .i64 a0] ?_); (with_reducible refine (impl_rowOf.calls k a0 t307 t308 t309 _ A3.out).mono ?_); rintro e w7 ⟨rfl, hb⟩; refine ⟨_, rfl, ?_⟩; replace HB := hs_ hb; clear hb) | ((with_reducible refine gate_dst (N := 5) rfl ?_); (try (refine gate_guard (by rfl) ?_; dsimp only)); refine be_ (N := 5) (cs := #[.int .i64 0, .int .i64 0, .int .i64 0]) (t := 115) ?_; intro gb310 hg w8 hbox hb; have BK310 := Aside0.mk (hbox); have GW310 := gw_ (w := w) hg; have GE310 := gw_ (w := w) hg; replace HB := hs_ hb; clear hb hbox hg; obtain ⟨hcz9_0, hcz9_1, hcz9_2, hfz9_0, hfz9_1, hfz9_2⟩ := bx3_ BK310) | ((with_reducible refine gc_ 86 13 Tryz.func86 #[.string a1] ?_); (with_reducible refine (impl_Digits.calls k a1 true _ A5.out).mono ?_); rintro e w' ⟨rfl, ⟨nd, rfl⟩⟩; refine ⟨_, rfl, ?_⟩))
   go_ret
   exact ⟨sq_, bl_⟩
  replace c6 := Bool.eq_false_iff.mpr c6
  subst c6
  replace H := in_ H
  obtain rfl := Option.some.inj H
  go_enter Tryz.func84, Tryz.ntmps84
  go_wp2_with (first | ((with_reducible refine gc_ 112 7 Tryz.func112 #[.int .i64 a0] ?_); (with_reducible refine (impl_rowOf.calls k a0 t307 t308 t309 _ A3.out).mono ?_); rintro e w10 ⟨rfl, hb⟩; refine ⟨_, rfl, ?_⟩; replace HB := hs_ hb; clear hb) | ((with_reducible refine gate_dst (N := 5) rfl ?_); (try (refine gate_guard (by rfl) ?_; dsimp only)); refine be_ (N := 5) (cs := #[.int .i64 0, .int .i64 0, .int .i64 0]) (t := 115) ?_; intro gb310 hg w11 hbox hb; have BK310 := Aside0.mk (hbox); have GW310 := gw_ (w := w) hg; have GE310 := gw_ (w := w) hg; replace HB := hs_ hb; clear hb hbox hg; obtain ⟨hcz12_0, hcz12_1, hcz12_2, hfz12_0, hfz12_1, hfz12_2⟩ := bx3_ BK310) | ((with_reducible refine gc_ 86 13 Tryz.func86 #[.string a1] ?_); (with_reducible refine (impl_Digits.calls k a1 false _ A5.out).mono ?_); rintro e w' ⟨rfl, ⟨nd, rfl⟩⟩; refine ⟨_, rfl, ?_⟩))
  go_ret
  exact ⟨sq_, bl_⟩
 rw [if_neg c4] at H
 have c4b0 := beq_eq_false_iff_ne.mpr c4
 have c4b1 := bne_iff_ne.mpr c4
 by_cases c13 : t308 = 2
 ·rw [if_pos c13] at H
  have c13b0 := beq_iff_eq.mpr c13
  have c13b1 := bne_eq_false_iff_eq.mpr c13
  clear c13
  obtain ⟨t312, A14, H⟩ := ob_ H
  by_cases c15 : t312 = true
  ·subst c15
   replace H := ip_ H
   obtain rfl := Option.some.inj H
   go_enter Tryz.func84, Tryz.ntmps84
   go_wp2_with (first | ((with_reducible refine gc_ 112 7 Tryz.func112 #[.int .i64 a0] ?_); (with_reducible refine (impl_rowOf.calls k a0 t307 t308 t309 _ A3.out).mono ?_); rintro e w16 ⟨rfl, hb⟩; refine ⟨_, rfl, ?_⟩; replace HB := hs_ hb; clear hb) | ((with_reducible refine gate_dst (N := 5) rfl ?_); (try (refine gate_guard (by rfl) ?_; dsimp only)); refine be_ (N := 5) (cs := #[.int .i64 0, .int .i64 0, .int .i64 0]) (t := 115) ?_; intro gb310 hg w17 hbox hb; have BK310 := Aside0.mk (hbox); have GW310 := gw_ (w := w) hg; have GE310 := gw_ (w := w) hg; replace HB := hs_ hb; clear hb hbox hg; obtain ⟨hcz18_0, hcz18_1, hcz18_2, hfz18_0, hfz18_1, hfz18_2⟩ := bx3_ BK310) | ((with_reducible refine gc_ 113 24 Tryz.func113 #[.string a1] ?_); (with_reducible refine (impl_Printable.calls k a1 true _ A14.out).mono ?_); rintro e w' ⟨rfl, ⟨nd, rfl⟩⟩; refine ⟨_, rfl, ?_⟩))
   go_ret
   exact ⟨sq_, bl_⟩
  replace c15 := Bool.eq_false_iff.mpr c15
  subst c15
  replace H := in_ H
  obtain rfl := Option.some.inj H
  go_enter Tryz.func84, Tryz.ntmps84
  go_wp2_with (first | ((with_reducible refine gc_ 112 7 Tryz.func112 #[.int .i64 a0] ?_); (with_reducible refine (impl_rowOf.calls k a0 t307 t308 t309 _ A3.out).mono ?_); rintro e w19 ⟨rfl, hb⟩; refine ⟨_, rfl, ?_⟩; replace HB := hs_ hb; clear hb) | ((with_reducible refine gate_dst (N := 5) rfl ?_); (try (refine gate_guard (by rfl) ?_; dsimp only)); refine be_ (N := 5) (cs := #[.int .i64 0, .int .i64 0, .int .i64 0]) (t := 115) ?_; intro gb310 hg w20 hbox hb; have BK310 := Aside0.mk (hbox); have GW310 := gw_ (w := w) hg; have GE310 := gw_ (w := w) hg; replace HB := hs_ hb; clear hb hbox hg; obtain ⟨hcz21_0, hcz21_1, hcz21_2, hfz21_0, hfz21_1, hfz21_2⟩ := bx3_ BK310) | ((with_reducible refine gc_ 113 24 Tryz.func113 #[.string a1] ?_); (with_reducible refine (impl_Printable.calls k a1 false _ A14.out).mono ?_); rintro e w' ⟨rfl, ⟨nd, rfl⟩⟩; refine ⟨_, rfl, ?_⟩))
  go_ret
  exact ⟨sq_, bl_⟩
 rw [if_neg c13] at H
 have c13b0 := beq_eq_false_iff_ne.mpr c13
 have c13b1 := bne_iff_ne.mpr c13
 by_cases c22 : t308 = 3
 ·rw [if_pos c22] at H
  have c22b0 := beq_iff_eq.mpr c22
  have c22b1 := bne_eq_false_iff_eq.mpr c22
  clear c22
  obtain ⟨t313, A23, H⟩ := ob_ H
  by_cases c24 : t313 = true
  ·subst c24
   replace H := ip_ H
   obtain ⟨t314, A25, H⟩ := ob_ H
   obtain rfl := Option.some.inj H
   go_enter Tryz.func84, Tryz.ntmps84
   go_wp2_with (first | ((with_reducible refine gc_ 112 7 Tryz.func112 #[.int .i64 a0] ?_); (with_reducible refine (impl_rowOf.calls k a0 t307 t308 t309 _ A3.out).mono ?_); rintro e w26 ⟨rfl, hb⟩; refine ⟨_, rfl, ?_⟩; replace HB := hs_ hb; clear hb) | ((with_reducible refine gate_dst (N := 5) rfl ?_); (try (refine gate_guard (by rfl) ?_; dsimp only)); refine be_ (N := 5) (cs := #[.int .i64 0, .int .i64 0, .int .i64 0]) (t := 115) ?_; intro gb310 hg w27 hbox hb; have BK310 := Aside0.mk (hbox); have GW310 := gw_ (w := w) hg; have GE310 := gw_ (w := w) hg; replace HB := hs_ hb; clear hb hbox hg; obtain ⟨hcz28_0, hcz28_1, hcz28_2, hfz28_0, hfz28_1, hfz28_2⟩ := bx3_ BK310) | ((with_reducible refine gc_ 86 35 Tryz.func86 #[.string a1] ?_); (with_reducible refine (impl_Digits.calls k a1 true _ A23.out).mono ?_); rintro e w' ⟨rfl, ⟨nd, rfl⟩⟩; refine ⟨_, rfl, ?_⟩) | (go_at_call 71; (with_reducible refine (impl_within.calls (a1.size : Int) 1 t309 t314 _ A25.out).mono ?_); rintro e w' ⟨rfl, ⟨nd, rfl⟩⟩))
   go_ret
   exact ⟨sq_, bl_⟩
  replace c24 := Bool.eq_false_iff.mpr c24
  subst c24
  replace H := in_ H
  obtain rfl := Option.some.inj H
  go_enter Tryz.func84, Tryz.ntmps84
  go_wp2_with (first | ((with_reducible refine gc_ 112 7 Tryz.func112 #[.int .i64 a0] ?_); (with_reducible refine (impl_rowOf.calls k a0 t307 t308 t309 _ A3.out).mono ?_); rintro e w29 ⟨rfl, hb⟩; refine ⟨_, rfl, ?_⟩; replace HB := hs_ hb; clear hb) | ((with_reducible refine gate_dst (N := 5) rfl ?_); (try (refine gate_guard (by rfl) ?_; dsimp only)); refine be_ (N := 5) (cs := #[.int .i64 0, .int .i64 0, .int .i64 0]) (t := 115) ?_; intro gb310 hg w30 hbox hb; have BK310 := Aside0.mk (hbox); have GW310 := gw_ (w := w) hg; have GE310 := gw_ (w := w) hg; replace HB := hs_ hb; clear hb hbox hg; obtain ⟨hcz31_0, hcz31_1, hcz31_2, hfz31_0, hfz31_1, hfz31_2⟩ := bx3_ BK310) | ((with_reducible refine gc_ 86 35 Tryz.func86 #[.string a1] ?_); (with_reducible refine (impl_Digits.calls k a1 false _ A23.out).mono ?_); rintro e w' ⟨rfl, ⟨nd, rfl⟩⟩; refine ⟨_, rfl, ?_⟩))
  go_ret
  exact ⟨sq_, bl_⟩
 rw [if_neg c22] at H
 have c22b0 := beq_eq_false_iff_ne.mpr c22
 have c22b1 := bne_iff_ne.mpr c22
 have HC32 := Aside0.mk H
 clear H
 go_enter Tryz.func84, Tryz.ntmps84
 go_upto_if 43 with (first | ((with_reducible refine gc_ 112 7 Tryz.func112 #[.int .i64 a0] ?_); (with_reducible refine (impl_rowOf.calls k a0 t307 t308 t309 _ A3.out).mono ?_); rintro e w33 ⟨rfl, hb⟩; refine ⟨_, rfl, ?_⟩; replace HB := hs_ hb; clear hb) | ((with_reducible refine gate_dst (N := 5) rfl ?_); (try (refine gate_guard (by rfl) ?_; dsimp only)); refine be_ (N := 5) (cs := #[.int .i64 0, .int .i64 0, .int .i64 0]) (t := 115) ?_; intro gb310 hg w34 hbox hb; have BK310 := Aside0.mk (hbox); have GW310 := gw_ (w := w) hg; have GE310 := gw_ (w := w) hg; replace HB := hs_ hb; clear hb hbox hg; obtain ⟨hcz35_0, hcz35_1, hcz35_2, hfz35_0, hfz35_1, hfz35_2⟩ := bx3_ BK310))
 (try simp only [Act.put, List.setIfInBounds_toArray, List.set_cons_zero, List.set_cons_succ])
 go_cut [43] (fun v43 wc => ∃ (kq : Nat) (x43_31 : Bool), v43 = .bool x43_31 ∧ Aside0 (impl_FieldOk.j0 kq a1 x43_31 t307 t308 t309 = some r) ∧ Aside0 (kq ≤ k) ∧ Aside0 (wc.heap[gb310]? = some (.cells #[.int .i64 t307, .int .i64 t308, .int .i64 t309] 115 (0, 0))) ∧ Aside0 (Below w.heap.size w wc))
 case first =>
  have H := HC32.out
  clear HC32
  by_cases c36 : t308 = 4
  ·rw [if_pos c36] at H
   have c36b0 := beq_iff_eq.mpr c36
   have c36b1 := bne_eq_false_iff_eq.mpr c36
   clear c36
   (first | rw [c36b0] | (simp only [i64_w, i32_w]; rw [c36b0]) | skip)
   have H' := Aside0.mk H
   clear H
   go_wp2
   go_meet
   case rel => exact ⟨_, ((t308 == 4)), sp_, H', ⟨by first | omega | exact Nat.le_refl _⟩, ⟨by (with_reducible repeat (first | refine blk_drewN ?_ _ | refine blk_drew ?_ | refine blk_alloc ?_ _)); apply bq3_2_1_0_; (with_reducible repeat (first | refine blk_drewN ?_ _ | refine blk_drew ?_ | refine blk_alloc ?_ _)); exact BK310.out⟩, ⟨bl_⟩⟩
  ·rw [if_neg c36] at H
   have c36b0 := beq_eq_false_iff_ne.mpr c36
   have c36b1 := bne_iff_ne.mpr c36
   (first | rw [c36b0] | (simp only [i64_w, i32_w]; rw [c36b0]) | skip)
   have H' := Aside0.mk H
   clear H
   go_wp2
   go_meet
   case rel => exact ⟨_, ((t308 == 5)), sp_, H', ⟨by first | omega | exact Nat.le_refl _⟩, ⟨by (with_reducible repeat (first | refine blk_drewN ?_ _ | refine blk_drew ?_ | refine blk_alloc ?_ _)); apply bq3_2_1_0_; (with_reducible repeat (first | refine blk_drewN ?_ _ | refine blk_drew ?_ | refine blk_alloc ?_ _)); exact BK310.out⟩, ⟨bl_⟩⟩
 case rest =>
  clear HC32
  obtain ⟨kq, x43_31, rfl, HA, HJ31, BK310, HB⟩ := hcut
  cases kq with
  | zero => exact absurd HA.out (by simp [impl_FieldOk.j0])
  | succ kj31 =>
   have H := HA.out
   clear HA
   simp only [impl_FieldOk.j0] at H
   by_cases c37 : x43_31 = true
   ·subst c37
    replace H := ip_ H
    obtain ⟨t315, A38, H⟩ := ob_ H
    by_cases c39 : t315 = true
    ·subst c39
     replace H := ip_ H
     obtain ⟨t316, A40, H⟩ := ob_ H
     obtain rfl := Option.some.inj H
     go_wp2_with (first | ((with_reducible refine gc_ 113 47 Tryz.func113 #[.string a1] ?_); (with_reducible refine (impl_Printable.calls kj31 a1 true _ A38.out).mono ?_); rintro e w' ⟨rfl, ⟨nd, rfl⟩⟩; refine ⟨_, rfl, ?_⟩; obtain ⟨hcz41_0, hcz41_1, hcz41_2, hfz41_0, hfz41_1, hfz41_2⟩ := bx3_ BK310) | (go_at_call 71; (with_reducible refine (impl_within.calls (a1.size : Int) 1 t309 t316 _ A40.out).mono ?_); rintro e w' ⟨rfl, ⟨nd, rfl⟩⟩))
     go_ret
     exact ⟨sq_, bl_⟩
    replace c39 := Bool.eq_false_iff.mpr c39
    subst c39
    replace H := in_ H
    obtain rfl := Option.some.inj H
    go_wp2_with (first | ((with_reducible refine gc_ 113 47 Tryz.func113 #[.string a1] ?_); (with_reducible refine (impl_Printable.calls kj31 a1 false _ A38.out).mono ?_); rintro e w' ⟨rfl, ⟨nd, rfl⟩⟩; refine ⟨_, rfl, ?_⟩))
    go_ret
    exact ⟨sq_, bl_⟩
   ·replace c37 := Bool.eq_false_iff.mpr c37
    subst c37
    replace H := in_ H
    obtain rfl := Option.some.inj H
    go_wp2
    go_ret
    exact ⟨sq_, bl_⟩
/-! ### impl_isWide: function 85 -/
def impl_isWide.f (k : Nat) (a0 : ByteArray) (a1 : Int) : Option (Bool) := (impl_Digits.f k a0).bind fun t317 => (if t317 = true then (some ((a0.size : Int) == a1)) else (some false))
set_option maxHeartbeats 8000000 in
set_option maxRecDepth 100000 in
theorem impl_isWide.calls (k : Nat) (a0 : ByteArray) (a1 : Int) (r : Bool) (w : World) (h : impl_isWide.f k a0 a1 = some r) :
  Calls Tryz.prog 85 #[.string a0, .int .i64 a1] w fun e w' => e = .returned (.bool r) ∧ Drawn0 w w' := by
 have H : ((impl_Digits.f k a0).bind fun t317 => (if t317 = true then (some ((a0.size : Int) == a1)) else (some false))) = some r := h
 clear h
 obtain ⟨t317, A3, H⟩ := ob_ H
 by_cases c4 : t317 = true
 ·subst c4
  replace H := ip_ H
  obtain rfl := Option.some.inj H
  go_enter Tryz.func85, Tryz.ntmps85
  go_wp2_with (first | ((with_reducible refine gc_ 86 6 Tryz.func86 #[.string a0] ?_); (with_reducible refine (impl_Digits.calls k a0 true _ A3.out).mono ?_); rintro e w' ⟨rfl, ⟨nd, rfl⟩⟩; refine ⟨_, rfl, ?_⟩))
  go_ret
  exact ⟨sp_, by repeat (first | exact Drawn0.refl _ | apply Drawn0.step)⟩
 replace c4 := Bool.eq_false_iff.mpr c4
 subst c4
 replace H := in_ H
 obtain rfl := Option.some.inj H
 go_enter Tryz.func85, Tryz.ntmps85
 go_wp2_with (first | ((with_reducible refine gc_ 86 6 Tryz.func86 #[.string a0] ?_); (with_reducible refine (impl_Digits.calls k a0 false _ A3.out).mono ?_); rintro e w' ⟨rfl, ⟨nd, rfl⟩⟩; refine ⟨_, rfl, ?_⟩))
 go_ret
 exact ⟨sp_, by repeat (first | exact Drawn0.refl _ | apply Drawn0.step)⟩
/-! ### impl_MsgOk: function 46 -/
def impl_MsgOk.l0 : Nat → List (S91) → Int → Int → ByteArray → List (S91) → Option (Bool)
 | 0, _, _, _, _, _ => none
 | k + 1, x6, x7, x8, x319000, x319001 => if x8 < x7 then (if 0 ≤ x8 then (if x8 < (x6.length : Int) then ((impl_FieldOk.f k ((rd_T91 x6 x8).f0) ((rd_T91 x6 x8).f1)).bind fun t321 => (if t321 = true then (if x8 > 0 then (if 0 ≤ (wrap64 (x8 - 1)) then (if (wrap64 (x8 - 1)) < (x319001.length : Int) then (if ((rd_T91 x6 x8).f0) ≤ ((rd_T91 x319001 (wrap64 (x8 - 1))).f0) then (some false) else (impl_MsgOk.l0 k x6 x7 (wrap64 (x8 + 1)) x319000 x319001)) else (none)) else (none)) else (impl_MsgOk.l0 k x6 x7 (wrap64 (x8 + 1)) x319000 x319001)) else (some false))) else (none)) else (none)) else ((impl_isWide.f k x319000 4).bind fun t323 => (some t323))
def impl_MsgOk.f (k : Nat) (a0_0 : ByteArray) (l0_1 : List (S91)) : Option (Bool) := impl_MsgOk.l0 k l0_1 (l0_1.length : Int) 0 a0_0 l0_1
def impl_MsgOk.T4 : Bool × List (List Nat × List Nat) := (true, [([], []), ([0], [0]), ([], []), ([2], [2]), ([1, 3], [1, 3]), ([4], [4]), ([5, 4], [5]), ([6], [6]), ([7, 6], [6, 7]), ([8, 6, 6], [6, 8]), ([9], [9]), ([10, 9], [9, 10]), ([9], [9]), ([12, 9], [9, 12]), ([9], [9]), ([14, 9], [9, 14]), ([13, 15, 9], [9, 13, 15]), ([16, 9], [9, 16]), ([17, 9], [9, 17]), ([11, 18, 9], [9, 11, 18]), ([9, 19, 6], [6, 9, 19]), ([6, 20], [6, 20])])
def impl_MsgOk.B4 : List Nat := [0, 1, 0, 4, 15, 31, 63, 127, 255, 511, 1023, 2047, 1023, 5119, 1023, 17407, 62463, 127999, 259071, 524287, 1048575, 2097151]
theorem impl_MsgOk.tab4 : rtab .any (opsOf Tryz.f46 4) = impl_MsgOk.T4 := by kernel_rfl
theorem impl_MsgOk.bits4 : waitsOk impl_MsgOk.T4.2 impl_MsgOk.B4 = true := by kernel_rfl
set_option maxHeartbeats 8000000 in
set_option maxRecDepth 100000 in
theorem impl_MsgOk.calls (k : Nat) (a0_0 : ByteArray) (A0_1 : Option Addr) (c0_1 : Nat) (l0_1 : List (S91)) (r : Bool) (w : World) (hr0_1 : Kd.C k91 w A0_1 l0_1.length l0_1) (hc0_1 : l0_1.length ≤ c0_1) (h : impl_MsgOk.f k a0_0 l0_1 = some r) :
  Calls Tryz.prog 46 #[.agg #[.string a0_0, .slice A0_1 l0_1.length c0_1]] w fun e w' => e = .returned (.bool r) ∧ Below w.heap.size w w' := by
 have hu32 := Tryz.underlying32
 have hu91 := Tryz.underlying91
 have HR0_1 := Aside0.mk hr0_1
 have HC0_1 := Aside0.mk hc0_1
 clear hr0_1 hc0_1
 have HB := Aside0.mk (Below.refl w.heap.size w)
 have H : (impl_MsgOk.l0 k l0_1 (l0_1.length : Int) 0 a0_0 l0_1) = some r := h
 clear h
 have H' := Aside0.mk H
 clear H
 go_enter Tryz.func46, Tryz.ntmps46
 go_wp2_with (first | ((with_reducible refine gate_dst (N := 1) rfl ?_); refine be_ (N := 1) (cs := #[.string a0_0, .slice A0_1 l0_1.length c0_1]) (t := 32) ?_; intro gb318 hg w2 hbox hb; have BK318 := Aside0.mk (hbox); have GW318 := gw_ (w := w) hg; have GE318 := gw_ (w := w) hg; replace HB := hs_ hb; clear hb hbox hg; obtain ⟨hcz3_0, hcz3_1, hfz3_0, hfz3_1⟩ := bx2_ BK318))
 go_loopg [8] k (fun kq v8 w' => ∃ (x8_1 : Int), v8 = .int .i64 x8_1 ∧ Aside0 (impl_MsgOk.l0 kq l0_1 (l0_1.length : Int) x8_1 a0_0 l0_1 = some r) ∧ Aside0 (kq ≤ k) ∧ Aside0 (w'.heap[gb318]? = some (.cells #[.string a0_0, (.slice A0_1 l0_1.length c0_1)] 32 (0, 0))) ∧ Aside0 (Below w.heap.size w w'))
 case atStart => exact ⟨(0), sp_, H', ⟨Nat.le_refl _⟩, ⟨by (with_reducible repeat (first | refine blk_drewN ?_ _ | refine blk_drew ?_ | refine blk_alloc ?_ _)); exact BK318.out⟩, ⟨bl_⟩⟩
 case round =>
  clear H'
  obtain ⟨x8_1, rfl, HA, HK1, BK318, HB⟩ := hrel
  cases gk with
  | zero => exact absurd HA.out (by simp [impl_MsgOk.l0])
  | succ k1 =>
   have H := HA.out
   clear HA
   simp only [impl_MsgOk.l0] at H
   by_cases c4 : x8_1 < (l0_1.length : Int)
   rotate_left
   ·rw [if_neg c4] at H
    have c4b0 := decide_eq_false c4
    clear c4
    obtain ⟨t323, A38, H⟩ := ob_ H
    obtain rfl := Option.some.inj H
    obtain ⟨hcz39_0, hcz39_1, hfz39_0, hfz39_1⟩ := bx2_ BK318
    go_wp2_with (first | ((with_reducible refine gc_ 85 38 Tryz.func85 #[.string a0_0, .int .i64 4] ?_); (with_reducible refine (impl_isWide.calls k1 a0_0 4 t323 _ A38.out).mono ?_); rintro e w' ⟨rfl, ⟨nd, rfl⟩⟩; refine ⟨_, rfl, ?_⟩))
    go_ret
    exact ⟨sq_, bl_⟩
   rw [if_pos c4] at H
   have c4b0 := decide_eq_true c4
   clear c4
   by_cases c5 : 0 ≤ x8_1
   rotate_left
   ·rw [if_neg c5] at H
    exact absurd H (by simp)
   rw [if_pos c5] at H
   have c5b0 := decide_eq_true c5
   clear c5
   by_cases c6 : x8_1 < (l0_1.length : Int)
   rotate_left
   ·rw [if_neg c6] at H
    exact absurd H (by simp)
   rw [if_pos c6] at H
   have c6b0 := decide_eq_true c6
   clear c6
   obtain ⟨t321, A7, H⟩ := ob_ H
   by_cases c8 : t321 = true
   rotate_left
   ·replace c8 := Bool.eq_false_iff.mpr c8
    subst c8
    replace H := in_ H
    obtain rfl := Option.some.inj H
    have p319 : 0 ≤ (x8_1 : Int) := od_
    have q319 : x8_1 < (l0_1.length : Int) := od_
    obtain ⟨ad319, e319, hx319_0, hx319_1⟩ := at_T91 HR0_1.out x8_1 p319 q319
    cases e319
    replace hx319_0 := kc_ HB hx319_0
    replace hx319_1 := kc_ HB hx319_1
    replace p319 := eq_true p319
    replace q319 := eq_true q319
    try go_wp2_with (first | ((with_reducible refine gate_dst (N := 4) rfl ?_); refine be_ (N := 4) (cs := #[.int .i64 0, .string (⟨#[]⟩ : ByteArray)]) (t := 91) ?_; intro gb320 hg w32 hbox hb; have BK320 := Aside0.mk (hbox); have GW320 := gw_ (w := w) hg; have GE320 := gw_ (w := w) hg; replace HB := hs_ hb; have NB318_320 := Aside0.mk ((by rw [hg]; exact Nat.ne_of_lt (blk_lt (bk_ BK318)) : gb318 ≠ gb320)); have NB320_318 := Aside0.mk ((by rw [hg]; exact Nat.ne_of_gt (blk_lt (bk_ BK318)) : gb320 ≠ gb318)); replace BK318 := kb_ BK318 hb; clear hb hbox hg; have hnb33 := NB320_318.out; have hnc33 := NB318_320.out; obtain ⟨hcz34_0, hcz34_1, hfz34_0, hfz34_1⟩ := bx2_ BK320))
    have n0_ : Aside0 (((w32.setCell ⟨gb320, 0, none⟩ (.int .i64 ((rd_T91 l0_1 x8_1).f0))).setCell ⟨gb320, 1, none⟩ (.string ((rd_T91 l0_1 x8_1).f1))).heap[gb318]? = some (.cells #[.string a0_0, .slice (some ad319) l0_1.length c0_1] 32 (0, 0))) := ⟨by (with_reducible repeat (first | refine blk_drewN ?_ _ | refine blk_drew ?_ | refine blk_alloc ?_ _)); refine blk_far ?_ NB318_320.out _; (with_reducible repeat (first | refine blk_drewN ?_ _ | refine blk_drew ?_ | refine blk_alloc ?_ _)); refine blk_far ?_ NB318_320.out _; (with_reducible repeat (first | refine blk_drewN ?_ _ | refine blk_drew ?_ | refine blk_alloc ?_ _)); exact BK318.out⟩
    have n1_ : Aside0 (((w32.setCell ⟨gb320, 0, none⟩ (.int .i64 ((rd_T91 l0_1 x8_1).f0))).setCell ⟨gb320, 1, none⟩ (.string ((rd_T91 l0_1 x8_1).f1))).heap[gb320]? = some (.cells #[.int .i64 ((rd_T91 l0_1 x8_1).f0), .string ((rd_T91 l0_1 x8_1).f1)] 91 (0, 0))) := ⟨by (with_reducible repeat (first | refine blk_drewN ?_ _ | refine blk_drew ?_ | refine blk_alloc ?_ _)); apply bq2_1_0_; (with_reducible repeat (first | refine blk_drewN ?_ _ | refine blk_drew ?_ | refine blk_alloc ?_ _)); exact BK320.out⟩
    have n2_ : Aside0 (Below w.heap.size w ((w32.setCell ⟨gb320, 0, none⟩ (.int .i64 ((rd_T91 l0_1 x8_1).f0))).setCell ⟨gb320, 1, none⟩ (.string ((rd_T91 l0_1 x8_1).f1)))) := ⟨bl_⟩
    (try clear BK318)
    (try clear BK320)
    (try clear HB)
    generalize ((w32.setCell ⟨gb320, 0, none⟩ (.int .i64 ((rd_T91 l0_1 x8_1).f0))).setCell ⟨gb320, 1, none⟩ (.string ((rd_T91 l0_1 x8_1).f1))) = w35 at n0_ n1_ n2_ ⊢
    have BK318 := n0_
    have BK320 := n1_
    have HB := n2_
    clear n0_ n1_ n2_
    have n0_ := Aside0.mk (blk_drew BK318.out)
    have n1_ := Aside0.mk (blk_drew BK320.out)
    have n2_ := Aside0.mk (below_drew1 HB.out)
    clear BK318
    clear BK320
    clear HB
    have BK318 := n0_
    have BK320 := n1_
    have HB := n2_
    clear n0_ n1_ n2_
    refine start_ (n := 22) (S := fun w' => w'.cell? ⟨gb320, 0, none⟩ = some (.int .i64 ((rd_T91 l0_1 x8_1).f0)) ∧ w'.cell? ⟨gb320, 1, none⟩ = some (.string ((rd_T91 l0_1 x8_1).f1))) (ds := []) tb22_0 (by kernel_rfl) rfl rfl ⟨cy_ BK320 0, cy_ BK320 1⟩ (fun hHeld => ?_); refine with_tabW impl_MsgOk.tab4 impl_MsgOk.bits4 (fun HT_ HW_ => ?_)
    generalize w35.drew = w36 at BK318 BK320 HB hHeld ⊢
    refine pl_ HT_ 0 13 tb22_1 ?_
    refine pl_ HT_ 2 15 tb22_5 ?_
    refine take_ (i := 1) (N := some 14) (v := ?_) (a' := ?_) tb22_7 rfl rfl (take_ofW HT_.out HW_.out (by kernel_rfl)) (fun _ _ _ h => h) (Or.inl ⟨by rfl, ?_⟩) hHeld ?_ ?_
    rotate_left
    ·rintro w' ⟨s0, s1⟩
     go_simp
     with_reducible rfl
    rotate_left
    ·simp only [Act.put, q_]
     rfl
    refine take_ (i := 3) (N := some 16) (v := ?_) (a' := ?_) tb22_f rfl rfl (take_ofW HT_.out HW_.out (by kernel_rfl)) (fun _ _ _ h => h) (Or.inl ⟨by rfl, ?_⟩) hHeld ?_ ?_
    rotate_left
    ·rintro w' ⟨s0, s1⟩
     go_simp
     with_reducible rfl
    rotate_left
    ·simp only [Act.put, q_]
     rfl
    refine one_ (i := 4) (N := some 17) tb22_1f rfl rfl (one_of HT_.out (by kernel_rfl)) (by decide) (fun K hK => ?_)
    refine goes_ Tryz.func84 (by kernel_rfl) rfl #[.int .i64 ((rd_T91 l0_1 x8_1).f0), .string ((rd_T91 l0_1 x8_1).f1)] (by rfl) rfl rfl gl_ ?_
    with_reducible refine (impl_FieldOk.calls k1 ((rd_T91 l0_1 x8_1).f0) ((rd_T91 l0_1 x8_1).f1) false _ A7.out).mono ?_
    rintro e w37 ⟨rfl, hb⟩
    refine ⟨_, rfl, ?_⟩
    have n0_ := Aside0.mk (blk_below (bk_ BK318) hb)
    have n1_ := Aside0.mk (blk_below (bk_ BK320) hb)
    have n2_ := Aside0.mk (below_step bl_ hb)
    clear BK318
    clear BK320
    clear HB
    have BK318 := n0_
    have BK320 := n1_
    have HB := n2_
    clear n0_ n1_ n2_
    (try clear hb)
    (try clear hb2)
    (try clear hk)
    (try clear hi)
    refine hK.out _ _ ⟨cy_ BK320 0, cy_ BK320 1⟩ (fun hHeld => ?_)
    clear hK K
    refine norm_ (a' := ?_) ?_ ?_
    rotate_left
    ·show Act.put _ (some 17) _ = _
     simp only [Act.put, q_]
     rfl
    refine pl_ HT_ 5 18 tb22_3f ?_
    refine pl_ HT_ 6 19 tb22_7f ?_
    refine pr_ HT_ 7 20 tb22_ff ?_
    refine pr_ HT_ 8 21 tb22_1ff ?_
    refine pr_ HT_ 9 22 tb22_3ff ?_
    refine pr_ HT_ 10 23 tb22_7ff ?_
    refine pr_ HT_ 11 24 tb22_fff ?_
    refine pr_ HT_ 12 25 tb22_1fff ?_
    refine pr_ HT_ 13 26 tb22_3fff ?_
    refine pr_ HT_ 14 27 tb22_7fff ?_
    refine pr_ HT_ 15 28 tb22_ffff ?_
    refine pr_ HT_ 16 29 tb22_1ffff ?_
    refine pr_ HT_ 17 30 tb22_3ffff ?_
    refine pr_ HT_ 18 31 tb22_7ffff ?_
    refine pr_ HT_ 19 32 tb22_fffff ?_
    refine pr_ HT_ 20 33 tb22_1fffff ?_
    refine pl_ HT_ 21 34 tb22_3fffff ?_
    refine done_ (done_of HT_.out (by kernel_rfl)) ?_
    try go_wp2
    go_ret
    exact ⟨sq_, bl_⟩
   subst c8
   replace H := ip_ H
   by_cases c9 : x8_1 > 0
   rotate_left
   ·rw [if_neg c9] at H
    have c9b0 := decide_eq_false c9
    clear c9
    have H' := Aside0.mk H
    clear H
    have p319 : 0 ≤ (x8_1 : Int) := od_
    have q319 : x8_1 < (l0_1.length : Int) := od_
    obtain ⟨ad319, e319, hx319_0, hx319_1⟩ := at_T91 HR0_1.out x8_1 p319 q319
    cases e319
    replace hx319_0 := kc_ HB hx319_0
    replace hx319_1 := kc_ HB hx319_1
    replace p319 := eq_true p319
    replace q319 := eq_true q319
    try go_wp2_with (first | ((with_reducible refine gate_dst (N := 4) rfl ?_); refine be_ (N := 4) (cs := #[.int .i64 0, .string (⟨#[]⟩ : ByteArray)]) (t := 91) ?_; intro gb320 hg w26 hbox hb; have BK320 := Aside0.mk (hbox); have GW320 := gw_ (w := w) hg; have GE320 := gw_ (w := w) hg; replace HB := hs_ hb; have NB318_320 := Aside0.mk ((by rw [hg]; exact Nat.ne_of_lt (blk_lt (bk_ BK318)) : gb318 ≠ gb320)); have NB320_318 := Aside0.mk ((by rw [hg]; exact Nat.ne_of_gt (blk_lt (bk_ BK318)) : gb320 ≠ gb318)); replace BK318 := kb_ BK318 hb; clear hb hbox hg; have hnb27 := NB320_318.out; have hnc27 := NB318_320.out; obtain ⟨hcz28_0, hcz28_1, hfz28_0, hfz28_1⟩ := bx2_ BK320))
    have n0_ : Aside0 (((w26.setCell ⟨gb320, 0, none⟩ (.int .i64 ((rd_T91 l0_1 x8_1).f0))).setCell ⟨gb320, 1, none⟩ (.string ((rd_T91 l0_1 x8_1).f1))).heap[gb318]? = some (.cells #[.string a0_0, .slice (some ad319) l0_1.length c0_1] 32 (0, 0))) := ⟨by (with_reducible repeat (first | refine blk_drewN ?_ _ | refine blk_drew ?_ | refine blk_alloc ?_ _)); refine blk_far ?_ NB318_320.out _; (with_reducible repeat (first | refine blk_drewN ?_ _ | refine blk_drew ?_ | refine blk_alloc ?_ _)); refine blk_far ?_ NB318_320.out _; (with_reducible repeat (first | refine blk_drewN ?_ _ | refine blk_drew ?_ | refine blk_alloc ?_ _)); exact BK318.out⟩
    have n1_ : Aside0 (((w26.setCell ⟨gb320, 0, none⟩ (.int .i64 ((rd_T91 l0_1 x8_1).f0))).setCell ⟨gb320, 1, none⟩ (.string ((rd_T91 l0_1 x8_1).f1))).heap[gb320]? = some (.cells #[.int .i64 ((rd_T91 l0_1 x8_1).f0), .string ((rd_T91 l0_1 x8_1).f1)] 91 (0, 0))) := ⟨by (with_reducible repeat (first | refine blk_drewN ?_ _ | refine blk_drew ?_ | refine blk_alloc ?_ _)); apply bq2_1_0_; (with_reducible repeat (first | refine blk_drewN ?_ _ | refine blk_drew ?_ | refine blk_alloc ?_ _)); exact BK320.out⟩
    have n2_ : Aside0 (Below w.heap.size w ((w26.setCell ⟨gb320, 0, none⟩ (.int .i64 ((rd_T91 l0_1 x8_1).f0))).setCell ⟨gb320, 1, none⟩ (.string ((rd_T91 l0_1 x8_1).f1)))) := ⟨bl_⟩
    (try clear BK318)
    (try clear BK320)
    (try clear HB)
    generalize ((w26.setCell ⟨gb320, 0, none⟩ (.int .i64 ((rd_T91 l0_1 x8_1).f0))).setCell ⟨gb320, 1, none⟩ (.string ((rd_T91 l0_1 x8_1).f1))) = w29 at n0_ n1_ n2_ ⊢
    have BK318 := n0_
    have BK320 := n1_
    have HB := n2_
    clear n0_ n1_ n2_
    have n0_ := Aside0.mk (blk_drew BK318.out)
    have n1_ := Aside0.mk (blk_drew BK320.out)
    have n2_ := Aside0.mk (below_drew1 HB.out)
    clear BK318
    clear BK320
    clear HB
    have BK318 := n0_
    have BK320 := n1_
    have HB := n2_
    clear n0_ n1_ n2_
    refine start_ (n := 22) (S := fun w' => w'.cell? ⟨gb320, 0, none⟩ = some (.int .i64 ((rd_T91 l0_1 x8_1).f0)) ∧ w'.cell? ⟨gb320, 1, none⟩ = some (.string ((rd_T91 l0_1 x8_1).f1))) (ds := []) tb22_0 (by kernel_rfl) rfl rfl ⟨cy_ BK320 0, cy_ BK320 1⟩ (fun hHeld => ?_); refine with_tabW impl_MsgOk.tab4 impl_MsgOk.bits4 (fun HT_ HW_ => ?_)
    generalize w29.drew = w30 at BK318 BK320 HB hHeld ⊢
    refine pl_ HT_ 0 13 tb22_1 ?_
    refine pl_ HT_ 2 15 tb22_5 ?_
    refine take_ (i := 1) (N := some 14) (v := ?_) (a' := ?_) tb22_7 rfl rfl (take_ofW HT_.out HW_.out (by kernel_rfl)) (fun _ _ _ h => h) (Or.inl ⟨by rfl, ?_⟩) hHeld ?_ ?_
    rotate_left
    ·rintro w' ⟨s0, s1⟩
     go_simp
     with_reducible rfl
    rotate_left
    ·simp only [Act.put, q_]
     rfl
    refine take_ (i := 3) (N := some 16) (v := ?_) (a' := ?_) tb22_f rfl rfl (take_ofW HT_.out HW_.out (by kernel_rfl)) (fun _ _ _ h => h) (Or.inl ⟨by rfl, ?_⟩) hHeld ?_ ?_
    rotate_left
    ·rintro w' ⟨s0, s1⟩
     go_simp
     with_reducible rfl
    rotate_left
    ·simp only [Act.put, q_]
     rfl
    refine one_ (i := 4) (N := some 17) tb22_1f rfl rfl (one_of HT_.out (by kernel_rfl)) (by decide) (fun K hK => ?_)
    refine goes_ Tryz.func84 (by kernel_rfl) rfl #[.int .i64 ((rd_T91 l0_1 x8_1).f0), .string ((rd_T91 l0_1 x8_1).f1)] (by rfl) rfl rfl gl_ ?_
    with_reducible refine (impl_FieldOk.calls k1 ((rd_T91 l0_1 x8_1).f0) ((rd_T91 l0_1 x8_1).f1) true _ A7.out).mono ?_
    rintro e w31 ⟨rfl, hb⟩
    refine ⟨_, rfl, ?_⟩
    have n0_ := Aside0.mk (blk_below (bk_ BK318) hb)
    have n1_ := Aside0.mk (blk_below (bk_ BK320) hb)
    have n2_ := Aside0.mk (below_step bl_ hb)
    clear BK318
    clear BK320
    clear HB
    have BK318 := n0_
    have BK320 := n1_
    have HB := n2_
    clear n0_ n1_ n2_
    (try clear hb)
    (try clear hb2)
    (try clear hk)
    (try clear hi)
    refine hK.out _ _ ⟨cy_ BK320 0, cy_ BK320 1⟩ (fun hHeld => ?_)
    clear hK K
    refine norm_ (a' := ?_) ?_ ?_
    rotate_left
    ·show Act.put _ (some 17) _ = _
     simp only [Act.put, q_]
     rfl
    refine pl_ HT_ 5 18 tb22_3f ?_
    refine pl_ HT_ 6 19 tb22_7f ?_
    refine pl_ HT_ 7 20 tb22_ff ?_
    refine pl_ HT_ 8 21 tb22_1ff ?_
    refine pl_ HT_ 9 22 tb22_3ff ?_
    refine pr_ HT_ 10 23 tb22_7ff ?_
    refine pr_ HT_ 11 24 tb22_fff ?_
    refine pr_ HT_ 12 25 tb22_1fff ?_
    refine pr_ HT_ 13 26 tb22_3fff ?_
    refine pr_ HT_ 14 27 tb22_7fff ?_
    refine pr_ HT_ 15 28 tb22_ffff ?_
    refine pr_ HT_ 16 29 tb22_1ffff ?_
    refine pr_ HT_ 17 30 tb22_3ffff ?_
    refine pr_ HT_ 18 31 tb22_7ffff ?_
    refine pr_ HT_ 19 32 tb22_fffff ?_
    refine pl_ HT_ 20 33 tb22_1fffff ?_
    refine pl_ HT_ 21 34 tb22_3fffff ?_
    refine done_ (done_of HT_.out (by kernel_rfl)) ?_
    try go_wp2
    go_roundg k1
    case measure => have := HK1.out; omega
    case rel => exact ⟨(wrap64 (x8_1 + 1)), sp_, H', ⟨by have := HK1.out; omega⟩, ⟨by (with_reducible repeat (first | refine blk_drewN ?_ _ | refine blk_drew ?_ | refine blk_alloc ?_ _)); exact BK318.out⟩, ⟨bl_⟩⟩
   rw [if_pos c9] at H
   have c9b0 := decide_eq_true c9
   clear c9
   obtain ⟨ji10, hji10⟩ : ∃ j_ : Int, (wrap64 (x8_1 - 1)) = j_ := ⟨_, rfl⟩
   replace H : (if 0 ≤ (ji10) then (if (ji10) < (l0_1.length : Int) then (if ((rd_T91 l0_1 x8_1).f0) ≤ ((rd_T91 l0_1 (ji10)).f0) then (some false) else (impl_MsgOk.l0 k1 l0_1 (l0_1.length : Int) (wrap64 (x8_1 + 1)) a0_0 l0_1)) else (none)) else (none)) = some r := by first | (rw [hji10] at H; exact H) | (simp only [hji10] at H ⊢; exact H)
   (try rw [hji10] at A7)
   have hji10w : (IntKind.i64.wrap (x8_1 - 1)) = ji10 := (i64_w _).trans hji10
   by_cases c11 : 0 ≤ (ji10)
   rotate_left
   ·rw [if_neg c11] at H
    exact absurd H (by simp)
   rw [if_pos c11] at H
   have c11b0 := decide_eq_true c11
   clear c11
   by_cases c12 : (ji10) < (l0_1.length : Int)
   rotate_left
   ·rw [if_neg c12] at H
    exact absurd H (by simp)
   rw [if_pos c12] at H
   have c12b0 := decide_eq_true c12
   clear c12
   by_cases c13 : ((rd_T91 l0_1 x8_1).f0) ≤ ((rd_T91 l0_1 (ji10)).f0)
   ·rw [if_pos c13] at H
    have c13b0 := decide_eq_true c13
    clear c13
    obtain rfl := Option.some.inj H
    have p319 : 0 ≤ (x8_1 : Int) := od_
    have q319 : x8_1 < (l0_1.length : Int) := od_
    obtain ⟨ad319, e319, hx319_0, hx319_1⟩ := at_T91 HR0_1.out x8_1 p319 q319
    cases e319
    replace hx319_0 := kc_ HB hx319_0
    replace hx319_1 := kc_ HB hx319_1
    replace p319 := eq_true p319
    replace q319 := eq_true q319
    try go_wp2_with (first | ((with_reducible refine gate_dst (N := 4) rfl ?_); refine be_ (N := 4) (cs := #[.int .i64 0, .string (⟨#[]⟩ : ByteArray)]) (t := 91) ?_; intro gb320 hg w14 hbox hb; have BK320 := Aside0.mk (hbox); have GW320 := gw_ (w := w) hg; have GE320 := gw_ (w := w) hg; replace HB := hs_ hb; have NB318_320 := Aside0.mk ((by rw [hg]; exact Nat.ne_of_lt (blk_lt (bk_ BK318)) : gb318 ≠ gb320)); have NB320_318 := Aside0.mk ((by rw [hg]; exact Nat.ne_of_gt (blk_lt (bk_ BK318)) : gb320 ≠ gb318)); replace BK318 := kb_ BK318 hb; clear hb hbox hg; have hnb15 := NB320_318.out; have hnc15 := NB318_320.out; obtain ⟨hcz16_0, hcz16_1, hfz16_0, hfz16_1⟩ := bx2_ BK320))
    have n0_ : Aside0 (((w14.setCell ⟨gb320, 0, none⟩ (.int .i64 ((rd_T91 l0_1 x8_1).f0))).setCell ⟨gb320, 1, none⟩ (.string ((rd_T91 l0_1 x8_1).f1))).heap[gb318]? = some (.cells #[.string a0_0, .slice (some ad319) l0_1.length c0_1] 32 (0, 0))) := ⟨by (with_reducible repeat (first | refine blk_drewN ?_ _ | refine blk_drew ?_ | refine blk_alloc ?_ _)); refine blk_far ?_ NB318_320.out _; (with_reducible repeat (first | refine blk_drewN ?_ _ | refine blk_drew ?_ | refine blk_alloc ?_ _)); refine blk_far ?_ NB318_320.out _; (with_reducible repeat (first | refine blk_drewN ?_ _ | refine blk_drew ?_ | refine blk_alloc ?_ _)); exact BK318.out⟩
    have n1_ : Aside0 (((w14.setCell ⟨gb320, 0, none⟩ (.int .i64 ((rd_T91 l0_1 x8_1).f0))).setCell ⟨gb320, 1, none⟩ (.string ((rd_T91 l0_1 x8_1).f1))).heap[gb320]? = some (.cells #[.int .i64 ((rd_T91 l0_1 x8_1).f0), .string ((rd_T91 l0_1 x8_1).f1)] 91 (0, 0))) := ⟨by (with_reducible repeat (first | refine blk_drewN ?_ _ | refine blk_drew ?_ | refine blk_alloc ?_ _)); apply bq2_1_0_; (with_reducible repeat (first | refine blk_drewN ?_ _ | refine blk_drew ?_ | refine blk_alloc ?_ _)); exact BK320.out⟩
    have n2_ : Aside0 (Below w.heap.size w ((w14.setCell ⟨gb320, 0, none⟩ (.int .i64 ((rd_T91 l0_1 x8_1).f0))).setCell ⟨gb320, 1, none⟩ (.string ((rd_T91 l0_1 x8_1).f1)))) := ⟨bl_⟩
    (try clear BK318)
    (try clear BK320)
    (try clear HB)
    generalize ((w14.setCell ⟨gb320, 0, none⟩ (.int .i64 ((rd_T91 l0_1 x8_1).f0))).setCell ⟨gb320, 1, none⟩ (.string ((rd_T91 l0_1 x8_1).f1))) = w17 at n0_ n1_ n2_ ⊢
    have BK318 := n0_
    have BK320 := n1_
    have HB := n2_
    clear n0_ n1_ n2_
    have n0_ := Aside0.mk (blk_drew BK318.out)
    have n1_ := Aside0.mk (blk_drew BK320.out)
    have n2_ := Aside0.mk (below_drew1 HB.out)
    clear BK318
    clear BK320
    clear HB
    have BK318 := n0_
    have BK320 := n1_
    have HB := n2_
    clear n0_ n1_ n2_
    have p322 : 0 ≤ ((ji10) : Int) := od_
    have q322 : (ji10) < (l0_1.length : Int) := od_
    obtain ⟨ad322, e322, hx322_0, hx322_1⟩ := at_T91 HR0_1.out (ji10) p322 q322
    have hw322_1 := hx322_1
    have hw322_0 := hx322_0
    obtain rfl : ad319 = ad322 := (by injection e322)
    replace hx322_0 := kc_ HB hx322_0
    replace hx322_1 := kc_ HB hx322_1
    replace p322 := eq_true p322
    replace q322 := eq_true q322
    refine start_ (n := 22) (S := fun w' => w'.cell? ⟨gb320, 0, none⟩ = some (.int .i64 ((rd_T91 l0_1 x8_1).f0)) ∧ w'.cell? ⟨gb320, 1, none⟩ = some (.string ((rd_T91 l0_1 x8_1).f1)) ∧ w'.cell? ⟨gb318, 0, none⟩ = some (.string a0_0) ∧ w'.cell? ⟨gb318, 1, none⟩ = some (.slice (some ad319) l0_1.length c0_1) ∧ w'.cell? (ad319.add (((ji10)).toNat * 2)) = some (.int .i64 ((rd_T91 l0_1 (ji10)).f0)) ∧ w'.cell? ⟨(ad319.add (((ji10)).toNat * 2)).block, (ad319.add (((ji10)).toNat * 2)).off + 1, none⟩ = some (.string ((rd_T91 l0_1 (ji10)).f1))) (ds := []) tb22_0 (by kernel_rfl) rfl rfl ⟨cy_ BK320 0, cy_ BK320 1, cy_ BK318 0, cy_ BK318 1, (kc_ HB hw322_0), (kc_ HB hw322_1)⟩ (fun hHeld => ?_); refine with_tabW impl_MsgOk.tab4 impl_MsgOk.bits4 (fun HT_ HW_ => ?_)
    generalize w17.drew = w18 at BK318 BK320 HB hx322_0 hx322_1 hHeld ⊢
    refine pl_ HT_ 0 13 tb22_1 ?_
    refine pl_ HT_ 2 15 tb22_5 ?_
    refine take_ (i := 1) (N := some 14) (v := ?_) (a' := ?_) tb22_7 rfl rfl (take_ofW HT_.out HW_.out (by kernel_rfl)) (fun _ _ _ h => h) (Or.inl ⟨by rfl, ?_⟩) hHeld ?_ ?_
    rotate_left
    ·rintro w' ⟨s0, s1, s2, s3, s4, s5⟩
     go_simp
     with_reducible rfl
    rotate_left
    ·simp only [Act.put, q_]
     rfl
    refine take_ (i := 3) (N := some 16) (v := ?_) (a' := ?_) tb22_f rfl rfl (take_ofW HT_.out HW_.out (by kernel_rfl)) (fun _ _ _ h => h) (Or.inl ⟨by rfl, ?_⟩) hHeld ?_ ?_
    rotate_left
    ·rintro w' ⟨s0, s1, s2, s3, s4, s5⟩
     go_simp
     with_reducible rfl
    rotate_left
    ·simp only [Act.put, q_]
     rfl
    refine one_ (i := 4) (N := some 17) tb22_1f rfl rfl (one_of HT_.out (by kernel_rfl)) (by decide) (fun K hK => ?_)
    refine goes_ Tryz.func84 (by kernel_rfl) rfl #[.int .i64 ((rd_T91 l0_1 x8_1).f0), .string ((rd_T91 l0_1 x8_1).f1)] (by rfl) rfl rfl gl_ ?_
    with_reducible refine (impl_FieldOk.calls k1 ((rd_T91 l0_1 x8_1).f0) ((rd_T91 l0_1 x8_1).f1) true _ A7.out).mono ?_
    rintro e w19 ⟨rfl, hb⟩
    refine ⟨_, rfl, ?_⟩
    have n0_ := Aside0.mk (blk_below (bk_ BK318) hb)
    have n1_ := Aside0.mk (blk_below (bk_ BK320) hb)
    have n2_ := Aside0.mk (below_step bl_ hb)
    clear BK318
    clear BK320
    clear HB
    have BK318 := n0_
    have BK320 := n1_
    have HB := n2_
    clear n0_ n1_ n2_
    (try clear hb)
    (try clear hb2)
    (try clear hk)
    (try clear hi)
    refine hK.out _ _ ⟨cy_ BK320 0, cy_ BK320 1, cy_ BK318 0, cy_ BK318 1, (kc_ HB hw322_0), (kc_ HB hw322_1)⟩ (fun hHeld => ?_)
    clear hK K
    refine norm_ (a' := ?_) ?_ ?_
    rotate_left
    ·show Act.put _ (some 17) _ = _
     simp only [Act.put, q_]
     rfl
    refine pl_ HT_ 5 18 tb22_3f ?_
    refine pl_ HT_ 6 19 tb22_7f ?_
    refine pl_ HT_ 7 20 tb22_ff ?_
    refine pl_ HT_ 8 21 tb22_1ff ?_
    refine pl_ HT_ 9 22 tb22_3ff ?_
    refine pl_ HT_ 10 23 tb22_7ff ?_
    refine pl_ HT_ 12 25 tb22_17ff ?_
    refine pl_ HT_ 14 27 tb22_57ff ?_
    refine pl_ HT_ 15 28 tb22_d7ff ?_
    refine take_ (i := 11) (N := some 24) (v := ?_) (a' := ?_) tb22_dfff rfl rfl (take_ofW HT_.out HW_.out (by kernel_rfl)) (fun _ _ _ h => h) (Or.inl ⟨by rfl, ?_⟩) hHeld ?_ ?_
    rotate_left
    ·rintro w' ⟨s0, s1, s2, s3, s4, s5⟩
     go_simp
     with_reducible rfl
    rotate_left
    ·simp only [Act.put, q_]
     rfl
    refine take_ (i := 13) (N := some 26) (v := ?_) (a' := ?_) tb22_ffff rfl rfl (take_ofW HT_.out HW_.out (by kernel_rfl)) (fun _ _ _ h => h) (Or.inl ⟨by rfl, ?_⟩) hHeld ?_ ?_
    rotate_left
    ·rintro w' ⟨s0, s1, s2, s3, s4, s5⟩
     go_simp
     with_reducible rfl
    rotate_left
    ·simp only [Act.put, q_]
     rfl
    refine pl_ HT_ 16 29 tb22_1ffff ?_
    refine pl_ HT_ 17 30 tb22_3ffff ?_
    refine take_ (i := 18) (N := some 31) (v := ?_) (a' := ?_) tb22_7ffff rfl rfl (take_ofW HT_.out HW_.out (by kernel_rfl)) (fun _ _ _ h => h) (Or.inl ⟨by rfl, ?_⟩) hHeld ?_ ?_
    rotate_left
    ·rintro w' ⟨s0, s1, s2, s3, s4, s5⟩
     go_simp
     with_reducible rfl
    rotate_left
    ·simp only [Act.put, q_]
     rfl
    refine pl_ HT_ 19 32 tb22_fffff ?_
    refine pl_ HT_ 20 33 tb22_1fffff ?_
    refine pl_ HT_ 21 34 tb22_3fffff ?_
    refine done_ (done_of HT_.out (by kernel_rfl)) ?_
    try go_wp2
    go_ret
    exact ⟨by first | rfl | (simp [errW_none, errW_some] <;> rfl) | (simp only [← hji10]; first | rfl | (simp [errW_none, errW_some] <;> rfl)) | (simp [*, errW_none, errW_some] <;> rfl), bl_⟩
   rw [if_neg c13] at H
   have c13b0 := decide_eq_false c13
   clear c13
   have H' := Aside0.mk H
   clear H
   have p319 : 0 ≤ (x8_1 : Int) := od_
   have q319 : x8_1 < (l0_1.length : Int) := od_
   obtain ⟨ad319, e319, hx319_0, hx319_1⟩ := at_T91 HR0_1.out x8_1 p319 q319
   cases e319
   replace hx319_0 := kc_ HB hx319_0
   replace hx319_1 := kc_ HB hx319_1
   replace p319 := eq_true p319
   replace q319 := eq_true q319
   try go_wp2_with (first | ((with_reducible refine gate_dst (N := 4) rfl ?_); refine be_ (N := 4) (cs := #[.int .i64 0, .string (⟨#[]⟩ : ByteArray)]) (t := 91) ?_; intro gb320 hg w20 hbox hb; have BK320 := Aside0.mk (hbox); have GW320 := gw_ (w := w) hg; have GE320 := gw_ (w := w) hg; replace HB := hs_ hb; have NB318_320 := Aside0.mk ((by rw [hg]; exact Nat.ne_of_lt (blk_lt (bk_ BK318)) : gb318 ≠ gb320)); have NB320_318 := Aside0.mk ((by rw [hg]; exact Nat.ne_of_gt (blk_lt (bk_ BK318)) : gb320 ≠ gb318)); replace BK318 := kb_ BK318 hb; clear hb hbox hg; have hnb21 := NB320_318.out; have hnc21 := NB318_320.out; obtain ⟨hcz22_0, hcz22_1, hfz22_0, hfz22_1⟩ := bx2_ BK320))
   have n0_ : Aside0 (((w20.setCell ⟨gb320, 0, none⟩ (.int .i64 ((rd_T91 l0_1 x8_1).f0))).setCell ⟨gb320, 1, none⟩ (.string ((rd_T91 l0_1 x8_1).f1))).heap[gb318]? = some (.cells #[.string a0_0, .slice (some ad319) l0_1.length c0_1] 32 (0, 0))) := ⟨by (with_reducible repeat (first | refine blk_drewN ?_ _ | refine blk_drew ?_ | refine blk_alloc ?_ _)); refine blk_far ?_ NB318_320.out _; (with_reducible repeat (first | refine blk_drewN ?_ _ | refine blk_drew ?_ | refine blk_alloc ?_ _)); refine blk_far ?_ NB318_320.out _; (with_reducible repeat (first | refine blk_drewN ?_ _ | refine blk_drew ?_ | refine blk_alloc ?_ _)); exact BK318.out⟩
   have n1_ : Aside0 (((w20.setCell ⟨gb320, 0, none⟩ (.int .i64 ((rd_T91 l0_1 x8_1).f0))).setCell ⟨gb320, 1, none⟩ (.string ((rd_T91 l0_1 x8_1).f1))).heap[gb320]? = some (.cells #[.int .i64 ((rd_T91 l0_1 x8_1).f0), .string ((rd_T91 l0_1 x8_1).f1)] 91 (0, 0))) := ⟨by (with_reducible repeat (first | refine blk_drewN ?_ _ | refine blk_drew ?_ | refine blk_alloc ?_ _)); apply bq2_1_0_; (with_reducible repeat (first | refine blk_drewN ?_ _ | refine blk_drew ?_ | refine blk_alloc ?_ _)); exact BK320.out⟩
   have n2_ : Aside0 (Below w.heap.size w ((w20.setCell ⟨gb320, 0, none⟩ (.int .i64 ((rd_T91 l0_1 x8_1).f0))).setCell ⟨gb320, 1, none⟩ (.string ((rd_T91 l0_1 x8_1).f1)))) := ⟨bl_⟩
   (try clear BK318)
   (try clear BK320)
   (try clear HB)
   generalize ((w20.setCell ⟨gb320, 0, none⟩ (.int .i64 ((rd_T91 l0_1 x8_1).f0))).setCell ⟨gb320, 1, none⟩ (.string ((rd_T91 l0_1 x8_1).f1))) = w23 at n0_ n1_ n2_ ⊢
   have BK318 := n0_
   have BK320 := n1_
   have HB := n2_
   clear n0_ n1_ n2_
   have n0_ := Aside0.mk (blk_drew BK318.out)
   have n1_ := Aside0.mk (blk_drew BK320.out)
   have n2_ := Aside0.mk (below_drew1 HB.out)
   clear BK318
   clear BK320
   clear HB
   have BK318 := n0_
   have BK320 := n1_
   have HB := n2_
   clear n0_ n1_ n2_
   have p322 : 0 ≤ ((ji10) : Int) := od_
   have q322 : (ji10) < (l0_1.length : Int) := od_
   obtain ⟨ad322, e322, hx322_0, hx322_1⟩ := at_T91 HR0_1.out (ji10) p322 q322
   have hw322_1 := hx322_1
   have hw322_0 := hx322_0
   obtain rfl : ad319 = ad322 := (by injection e322)
   replace hx322_0 := kc_ HB hx322_0
   replace hx322_1 := kc_ HB hx322_1
   replace p322 := eq_true p322
   replace q322 := eq_true q322
   refine start_ (n := 22) (S := fun w' => w'.cell? ⟨gb320, 0, none⟩ = some (.int .i64 ((rd_T91 l0_1 x8_1).f0)) ∧ w'.cell? ⟨gb320, 1, none⟩ = some (.string ((rd_T91 l0_1 x8_1).f1)) ∧ w'.cell? ⟨gb318, 0, none⟩ = some (.string a0_0) ∧ w'.cell? ⟨gb318, 1, none⟩ = some (.slice (some ad319) l0_1.length c0_1) ∧ w'.cell? (ad319.add (((ji10)).toNat * 2)) = some (.int .i64 ((rd_T91 l0_1 (ji10)).f0)) ∧ w'.cell? ⟨(ad319.add (((ji10)).toNat * 2)).block, (ad319.add (((ji10)).toNat * 2)).off + 1, none⟩ = some (.string ((rd_T91 l0_1 (ji10)).f1))) (ds := []) tb22_0 (by kernel_rfl) rfl rfl ⟨cy_ BK320 0, cy_ BK320 1, cy_ BK318 0, cy_ BK318 1, (kc_ HB hw322_0), (kc_ HB hw322_1)⟩ (fun hHeld => ?_); refine with_tabW impl_MsgOk.tab4 impl_MsgOk.bits4 (fun HT_ HW_ => ?_)
   generalize w23.drew = w24 at BK318 BK320 HB hx322_0 hx322_1 hHeld ⊢
   refine pl_ HT_ 0 13 tb22_1 ?_
   refine pl_ HT_ 2 15 tb22_5 ?_
   refine take_ (i := 1) (N := some 14) (v := ?_) (a' := ?_) tb22_7 rfl rfl (take_ofW HT_.out HW_.out (by kernel_rfl)) (fun _ _ _ h => h) (Or.inl ⟨by rfl, ?_⟩) hHeld ?_ ?_
   rotate_left
   ·rintro w' ⟨s0, s1, s2, s3, s4, s5⟩
    go_simp
    with_reducible rfl
   rotate_left
   ·simp only [Act.put, q_]
    rfl
   refine take_ (i := 3) (N := some 16) (v := ?_) (a' := ?_) tb22_f rfl rfl (take_ofW HT_.out HW_.out (by kernel_rfl)) (fun _ _ _ h => h) (Or.inl ⟨by rfl, ?_⟩) hHeld ?_ ?_
   rotate_left
   ·rintro w' ⟨s0, s1, s2, s3, s4, s5⟩
    go_simp
    with_reducible rfl
   rotate_left
   ·simp only [Act.put, q_]
    rfl
   refine one_ (i := 4) (N := some 17) tb22_1f rfl rfl (one_of HT_.out (by kernel_rfl)) (by decide) (fun K hK => ?_)
   refine goes_ Tryz.func84 (by kernel_rfl) rfl #[.int .i64 ((rd_T91 l0_1 x8_1).f0), .string ((rd_T91 l0_1 x8_1).f1)] (by rfl) rfl rfl gl_ ?_
   with_reducible refine (impl_FieldOk.calls k1 ((rd_T91 l0_1 x8_1).f0) ((rd_T91 l0_1 x8_1).f1) true _ A7.out).mono ?_
   rintro e w25 ⟨rfl, hb⟩
   refine ⟨_, rfl, ?_⟩
   have n0_ := Aside0.mk (blk_below (bk_ BK318) hb)
   have n1_ := Aside0.mk (blk_below (bk_ BK320) hb)
   have n2_ := Aside0.mk (below_step bl_ hb)
   clear BK318
   clear BK320
   clear HB
   have BK318 := n0_
   have BK320 := n1_
   have HB := n2_
   clear n0_ n1_ n2_
   (try clear hb)
   (try clear hb2)
   (try clear hk)
   (try clear hi)
   refine hK.out _ _ ⟨cy_ BK320 0, cy_ BK320 1, cy_ BK318 0, cy_ BK318 1, (kc_ HB hw322_0), (kc_ HB hw322_1)⟩ (fun hHeld => ?_)
   clear hK K
   refine norm_ (a' := ?_) ?_ ?_
   rotate_left
   ·show Act.put _ (some 17) _ = _
    simp only [Act.put, q_]
    rfl
   refine pl_ HT_ 5 18 tb22_3f ?_
   refine pl_ HT_ 6 19 tb22_7f ?_
   refine pl_ HT_ 7 20 tb22_ff ?_
   refine pl_ HT_ 8 21 tb22_1ff ?_
   refine pl_ HT_ 9 22 tb22_3ff ?_
   refine pl_ HT_ 10 23 tb22_7ff ?_
   refine pl_ HT_ 12 25 tb22_17ff ?_
   refine pl_ HT_ 14 27 tb22_57ff ?_
   refine pl_ HT_ 15 28 tb22_d7ff ?_
   refine take_ (i := 11) (N := some 24) (v := ?_) (a' := ?_) tb22_dfff rfl rfl (take_ofW HT_.out HW_.out (by kernel_rfl)) (fun _ _ _ h => h) (Or.inl ⟨by rfl, ?_⟩) hHeld ?_ ?_
   rotate_left
   ·rintro w' ⟨s0, s1, s2, s3, s4, s5⟩
    go_simp
    with_reducible rfl
   rotate_left
   ·simp only [Act.put, q_]
    rfl
   refine take_ (i := 13) (N := some 26) (v := ?_) (a' := ?_) tb22_ffff rfl rfl (take_ofW HT_.out HW_.out (by kernel_rfl)) (fun _ _ _ h => h) (Or.inl ⟨by rfl, ?_⟩) hHeld ?_ ?_
   rotate_left
   ·rintro w' ⟨s0, s1, s2, s3, s4, s5⟩
    go_simp
    with_reducible rfl
   rotate_left
   ·simp only [Act.put, q_]
    rfl
   refine pl_ HT_ 16 29 tb22_1ffff ?_
   refine pl_ HT_ 17 30 tb22_3ffff ?_
   refine take_ (i := 18) (N := some 31) (v := ?_) (a' := ?_) tb22_7ffff rfl rfl (take_ofW HT_.out HW_.out (by kernel_rfl)) (fun _ _ _ h => h) (Or.inl ⟨by rfl, ?_⟩) hHeld ?_ ?_
   rotate_left
   ·rintro w' ⟨s0, s1, s2, s3, s4, s5⟩
    go_simp
    with_reducible rfl
   rotate_left
   ·simp only [Act.put, q_]
    rfl
   refine pl_ HT_ 19 32 tb22_fffff ?_
   refine pl_ HT_ 20 33 tb22_1fffff ?_
   refine pl_ HT_ 21 34 tb22_3fffff ?_
   refine done_ (done_of HT_.out (by kernel_rfl)) ?_
   try go_wp2
   go_roundg k1
   case measure => have := HK1.out; omega
   case rel => exact ⟨(wrap64 (x8_1 + 1)), sp_, H', ⟨by have := HK1.out; omega⟩, ⟨by (with_reducible repeat (first | refine blk_drewN ?_ _ | refine blk_drew ?_ | refine blk_alloc ?_ _)); exact BK318.out⟩, ⟨bl_⟩⟩
/-! ### impl_MtiKnown: function 47 -/
def impl_MtiKnown.f (a0 : ByteArray) : Option (Bool) := if a0.toList = ([48, 49, 48, 48] : List UInt8) then (some true) else (if a0.toList = ([48, 50, 48, 48] : List UInt8) then (some true) else (some (a0.toList == ([48, 50, 50, 48] : List UInt8))))
set_option maxHeartbeats 8000000 in
set_option maxRecDepth 100000 in
theorem impl_MtiKnown.calls (a0 : ByteArray) (r : Bool) (w : World) (h : impl_MtiKnown.f a0 = some r) :
  Calls Tryz.prog 47 #[.string a0] w fun e w' => e = .returned (.bool r) ∧ Drawn0 w w' := by
 have H : (if a0.toList = ([48, 49, 48, 48] : List UInt8) then (some true) else (if a0.toList = ([48, 50, 48, 48] : List UInt8) then (some true) else (some (a0.toList == ([48, 50, 50, 48] : List UInt8))))) = some r := h
 clear h
 by_cases c2 : a0.toList = ([48, 49, 48, 48] : List UInt8)
 ·rw [if_pos c2] at H
  have c2b0 := beq_iff_eq.mpr c2
  have c2b1 := bne_eq_false_iff_eq.mpr c2
  clear c2
  obtain rfl := Option.some.inj H
  go_enter Tryz.func47, Tryz.ntmps47
  go_wp2
  go_ret
  exact ⟨sp_, by repeat (first | exact Drawn0.refl _ | apply Drawn0.step)⟩
 rw [if_neg c2] at H
 have c2b0 := beq_eq_false_iff_ne.mpr c2
 have c2b1 := bne_iff_ne.mpr c2
 by_cases c3 : a0.toList = ([48, 50, 48, 48] : List UInt8)
 ·rw [if_pos c3] at H
  have c3b0 := beq_iff_eq.mpr c3
  have c3b1 := bne_eq_false_iff_eq.mpr c3
  clear c3
  obtain rfl := Option.some.inj H
  go_enter Tryz.func47, Tryz.ntmps47
  go_wp2
  go_ret
  exact ⟨sp_, by repeat (first | exact Drawn0.refl _ | apply Drawn0.step)⟩
 rw [if_neg c3] at H
 have c3b0 := beq_eq_false_iff_ne.mpr c3
 have c3b1 := bne_iff_ne.mpr c3
 obtain rfl := Option.some.inj H
 go_enter Tryz.func47, Tryz.ntmps47
 go_wp2
 go_ret
 exact ⟨sp_, by repeat (first | exact Drawn0.refl _ | apply Drawn0.step)⟩
/-! ### impl_FieldOf: function 48 -/
def impl_FieldOf.l0 : Nat → Int → List (S91) → Int → Int → Option (ByteArray × Bool)
 | 0, _, _, _, _ => none
 | k + 1, x1, x9, x10, x11 => if x11 < x10 then (if 0 ≤ x11 then (if x11 < (x9.length : Int) then (if ((rd_T91 x9 x11).f0) = x1 then (some ((rd_T91 x9 x11).f1, true)) else (impl_FieldOf.l0 k x1 x9 x10 (wrap64 (x11 + 1)))) else (none)) else (none)) else (some ((⟨#[]⟩ : ByteArray), false))
def impl_FieldOf.f (k : Nat) (a0_0 : ByteArray) (l0_1 : List (S91)) (a1 : Int) : Option (ByteArray × Bool) := impl_FieldOf.l0 k a1 l0_1 (l0_1.length : Int) 0
set_option maxHeartbeats 8000000 in
set_option maxRecDepth 100000 in
theorem impl_FieldOf.calls (k : Nat) (a0_0 : ByteArray) (A0_1 : Option Addr) (c0_1 : Nat) (l0_1 : List (S91)) (a1 : Int) (r1 : ByteArray) (r2 : Bool) (w : World) (hr0_1 : Kd.C k91 w A0_1 l0_1.length l0_1) (hc0_1 : l0_1.length ≤ c0_1) (h : impl_FieldOf.f k a0_0 l0_1 a1 = some (r1, r2)) :
  Calls Tryz.prog 48 #[.agg #[.string a0_0, .slice A0_1 l0_1.length c0_1], .int .i64 a1] w fun e w' => e = .returned (.tuple #[.string r1, .bool r2]) ∧ Below w.heap.size w w' := by
 have hu32 := Tryz.underlying32
 have hu91 := Tryz.underlying91
 have HR0_1 := Aside0.mk hr0_1
 have HC0_1 := Aside0.mk hc0_1
 clear hr0_1 hc0_1
 have HB := Aside0.mk (Below.refl w.heap.size w)
 have H : (impl_FieldOf.l0 k a1 l0_1 (l0_1.length : Int) 0) = some (r1, r2) := h
 clear h
 have H' := Aside0.mk H
 clear H
 go_enter Tryz.func48, Tryz.ntmps48
 go_wp2_with (first | ((with_reducible refine gate_dst (N := 2) rfl ?_); refine be_ (N := 2) (cs := #[.string a0_0, .slice A0_1 l0_1.length c0_1]) (t := 32) ?_; intro gb324 hg w3 hbox hb; have BK324 := Aside0.mk (hbox); have GW324 := gw_ (w := w) hg; have GE324 := gw_ (w := w) hg; replace HB := hs_ hb; clear hb hbox hg; obtain ⟨hcz4_0, hcz4_1, hfz4_0, hfz4_1⟩ := bx2_ BK324))
 go_loopg [11] k (fun kq v11 w' => ∃ (x11_1 : Int), v11 = .int .i64 x11_1 ∧ Aside0 (impl_FieldOf.l0 kq a1 l0_1 (l0_1.length : Int) x11_1 = some (r1, r2)) ∧ Aside0 (kq ≤ k) ∧ Aside0 (w'.heap[gb324]? = some (.cells #[.string a0_0, (.slice A0_1 l0_1.length c0_1)] 32 (0, 0))) ∧ Aside0 (Below w.heap.size w w'))
 case atStart => exact ⟨(0), sp_, H', ⟨Nat.le_refl _⟩, ⟨by (with_reducible repeat (first | refine blk_drewN ?_ _ | refine blk_drew ?_ | refine blk_alloc ?_ _)); exact BK324.out⟩, ⟨bl_⟩⟩
 case round =>
  clear H'
  obtain ⟨x11_1, rfl, HA, HK1, BK324, HB⟩ := hrel
  cases gk with
  | zero => exact absurd HA.out (by simp [impl_FieldOf.l0])
  | succ k1 =>
   have H := HA.out
   clear HA
   simp only [impl_FieldOf.l0] at H
   by_cases c5 : x11_1 < (l0_1.length : Int)
   rotate_left
   ·rw [if_neg c5] at H
    have c5b0 := decide_eq_false c5
    clear c5
    simp only [Option.some.injEq, Prod.mk.injEq] at H
    obtain ⟨rfl, rfl⟩ := H
    go_wp2
    go_ret2
    exact ⟨sq_, bl_⟩
   rw [if_pos c5] at H
   have c5b0 := decide_eq_true c5
   clear c5
   by_cases c6 : 0 ≤ x11_1
   rotate_left
   ·rw [if_neg c6] at H
    exact absurd H (by simp)
   rw [if_pos c6] at H
   have c6b0 := decide_eq_true c6
   clear c6
   by_cases c7 : x11_1 < (l0_1.length : Int)
   rotate_left
   ·rw [if_neg c7] at H
    exact absurd H (by simp)
   rw [if_pos c7] at H
   have c7b0 := decide_eq_true c7
   clear c7
   by_cases c8 : ((rd_T91 l0_1 x11_1).f0) = a1
   ·rw [if_pos c8] at H
    have c8b0 := beq_iff_eq.mpr c8
    have c8b1 := bne_eq_false_iff_eq.mpr c8
    clear c8
    simp only [Option.some.injEq, Prod.mk.injEq] at H
    obtain ⟨rfl, rfl⟩ := H
    have p325 : 0 ≤ (x11_1 : Int) := od_
    have q325 : x11_1 < (l0_1.length : Int) := od_
    obtain ⟨ad325, e325, hx325_0, hx325_1⟩ := at_T91 HR0_1.out x11_1 p325 q325
    cases e325
    replace hx325_0 := kc_ HB hx325_0
    replace hx325_1 := kc_ HB hx325_1
    replace p325 := eq_true p325
    replace q325 := eq_true q325
    go_wp2_with (first | ((with_reducible refine gate_dst (N := 7) rfl ?_); refine be_ (N := 7) (cs := #[.int .i64 0, .string (⟨#[]⟩ : ByteArray)]) (t := 91) ?_; intro gb326 hg w9 hbox hb; have BK326 := Aside0.mk (hbox); have GW326 := gw_ (w := w) hg; have GE326 := gw_ (w := w) hg; replace HB := hs_ hb; have NB324_326 := Aside0.mk ((by rw [hg]; exact Nat.ne_of_lt (blk_lt (bk_ BK324)) : gb324 ≠ gb326)); have NB326_324 := Aside0.mk ((by rw [hg]; exact Nat.ne_of_gt (blk_lt (bk_ BK324)) : gb326 ≠ gb324)); replace BK324 := kb_ BK324 hb; clear hb hbox hg; have hnb10 := NB326_324.out; have hnc10 := NB324_326.out; obtain ⟨hcz11_0, hcz11_1, hfz11_0, hfz11_1⟩ := bx2_ BK326))
    go_ret2
    exact ⟨sq_, bl_⟩
   rw [if_neg c8] at H
   have c8b0 := beq_eq_false_iff_ne.mpr c8
   have c8b1 := bne_iff_ne.mpr c8
   have H' := Aside0.mk H
   clear H
   have p325 : 0 ≤ (x11_1 : Int) := od_
   have q325 : x11_1 < (l0_1.length : Int) := od_
   obtain ⟨ad325, e325, hx325_0, hx325_1⟩ := at_T91 HR0_1.out x11_1 p325 q325
   cases e325
   replace hx325_0 := kc_ HB hx325_0
   replace hx325_1 := kc_ HB hx325_1
   replace p325 := eq_true p325
   replace q325 := eq_true q325
   go_wp2_with (first | ((with_reducible refine gate_dst (N := 7) rfl ?_); refine be_ (N := 7) (cs := #[.int .i64 0, .string (⟨#[]⟩ : ByteArray)]) (t := 91) ?_; intro gb326 hg w12 hbox hb; have BK326 := Aside0.mk (hbox); have GW326 := gw_ (w := w) hg; have GE326 := gw_ (w := w) hg; replace HB := hs_ hb; have NB324_326 := Aside0.mk ((by rw [hg]; exact Nat.ne_of_lt (blk_lt (bk_ BK324)) : gb324 ≠ gb326)); have NB326_324 := Aside0.mk ((by rw [hg]; exact Nat.ne_of_gt (blk_lt (bk_ BK324)) : gb326 ≠ gb324)); replace BK324 := kb_ BK324 hb; clear hb hbox hg; have hnb13 := NB326_324.out; have hnc13 := NB324_326.out; obtain ⟨hcz14_0, hcz14_1, hfz14_0, hfz14_1⟩ := bx2_ BK326))
   go_roundg k1
   case measure => have := HK1.out; omega
   case rel => exact ⟨(wrap64 (x11_1 + 1)), sp_, H', ⟨by have := HK1.out; omega⟩, ⟨by (with_reducible repeat (first | refine blk_drewN ?_ _ | refine blk_drew ?_ | refine blk_alloc ?_ _)); refine blk_far ?_ NB324_326.out _; (with_reducible repeat (first | refine blk_drewN ?_ _ | refine blk_drew ?_ | refine blk_alloc ?_ _)); refine blk_far ?_ NB324_326.out _; (with_reducible repeat (first | refine blk_drewN ?_ _ | refine blk_drew ?_ | refine blk_alloc ?_ _)); exact BK324.out⟩, ⟨bl_⟩⟩
/-! ### impl_opRows: function 50 -/
def impl_opRows.f  : Option ((List (S74))) := some (([(⟨(⟨#[48, 49, 48, 48]⟩ : ByteArray), (⟨#[48, 48]⟩ : ByteArray), (⟨#[97, 117, 116, 104]⟩ : ByteArray), (([4, 14, 38] : List Int))⟩ : S74), (⟨(⟨#[48, 49, 48, 48]⟩ : ByteArray), (⟨#[48, 50]⟩ : ByteArray), (⟨#[109, 111, 114, 101]⟩ : ByteArray), (([4, 38] : List Int))⟩ : S74), (⟨(⟨#[48, 50, 50, 48]⟩ : ByteArray), (⟨#[48, 49]⟩ : ByteArray), (⟨#[112, 97, 114, 116]⟩ : ByteArray), (([4, 38] : List Int))⟩ : S74), (⟨(⟨#[48, 50, 50, 48]⟩ : ByteArray), (⟨#[48, 48]⟩ : ByteArray), (⟨#[102, 105, 110, 97, 108]⟩ : ByteArray), (([4, 38] : List Int))⟩ : S74), (⟨(⟨#[48, 50, 50, 48]⟩ : ByteArray), (⟨#[50, 48]⟩ : ByteArray), (⟨#[102, 114, 101, 101]⟩ : ByteArray), (([38] : List Int))⟩ : S74), (⟨(⟨#[48, 50, 48, 48]⟩ : ByteArray), (⟨#[52, 48]⟩ : ByteArray), (⟨#[109, 111, 118, 101]⟩ : ByteArray), (([38, 103] : List Int))⟩ : S74), (⟨(⟨#[48, 49, 48, 48]⟩ : ByteArray), (⟨#[51, 49]⟩ : ByteArray), (⟨#[97, 115, 107]⟩ : ByteArray), ([] : List Int)⟩ : S74), (⟨(⟨#[48, 50, 48, 48]⟩ : ByteArray), (⟨#[57, 48]⟩ : ByteArray), (⟨#[115, 119, 101, 101, 112]⟩ : ByteArray), ([] : List Int)⟩ : S74)] : List (S74)))
set_option maxHeartbeats 8000000 in
set_option maxRecDepth 100000 in
theorem impl_opRows.calls  (r : List (S74)) (w : World) (h : impl_opRows.f  = some r) :
  Calls Tryz.prog 50 #[] w fun e w' => ∃ v0_ : Value, e = .returned (v0_) ∧ Kd.N k74 74 w' w.heap.size (fun k_ => (w.heap.size ≤ k_)) v0_ r ∧ Below w.heap.size w w' := by
 have hu74 := Tryz.underlying74
 have HB := Aside0.mk (Below.refl w.heap.size w)
 have H : (some (([(⟨(⟨#[48, 49, 48, 48]⟩ : ByteArray), (⟨#[48, 48]⟩ : ByteArray), (⟨#[97, 117, 116, 104]⟩ : ByteArray), (([4, 14, 38] : List Int))⟩ : S74), (⟨(⟨#[48, 49, 48, 48]⟩ : ByteArray), (⟨#[48, 50]⟩ : ByteArray), (⟨#[109, 111, 114, 101]⟩ : ByteArray), (([4, 38] : List Int))⟩ : S74), (⟨(⟨#[48, 50, 50, 48]⟩ : ByteArray), (⟨#[48, 49]⟩ : ByteArray), (⟨#[112, 97, 114, 116]⟩ : ByteArray), (([4, 38] : List Int))⟩ : S74), (⟨(⟨#[48, 50, 50, 48]⟩ : ByteArray), (⟨#[48, 48]⟩ : ByteArray), (⟨#[102, 105, 110, 97, 108]⟩ : ByteArray), (([4, 38] : List Int))⟩ : S74), (⟨(⟨#[48, 50, 50, 48]⟩ : ByteArray), (⟨#[50, 48]⟩ : ByteArray), (⟨#[102, 114, 101, 101]⟩ : ByteArray), (([38] : List Int))⟩ : S74), (⟨(⟨#[48, 50, 48, 48]⟩ : ByteArray), (⟨#[52, 48]⟩ : ByteArray), (⟨#[109, 111, 118, 101]⟩ : ByteArray), (([38, 103] : List Int))⟩ : S74), (⟨(⟨#[48, 49, 48, 48]⟩ : ByteArray), (⟨#[51, 49]⟩ : ByteArray), (⟨#[97, 115, 107]⟩ : ByteArray), ([] : List Int)⟩ : S74), (⟨(⟨#[48, 50, 48, 48]⟩ : ByteArray), (⟨#[57, 48]⟩ : ByteArray), (⟨#[115, 119, 101, 101, 112]⟩ : ByteArray), ([] : List Int)⟩ : S74)] : List (S74)))) = some r := h
 clear h
 obtain ⟨y327, hy327⟩ : ∃ y_ : List Int, y_ = (([4, 14, 38] : List Int)) := ⟨_, rfl⟩
 replace H : (some (([(⟨(⟨#[48, 49, 48, 48]⟩ : ByteArray), (⟨#[48, 48]⟩ : ByteArray), (⟨#[97, 117, 116, 104]⟩ : ByteArray), y327⟩ : S74), (⟨(⟨#[48, 49, 48, 48]⟩ : ByteArray), (⟨#[48, 50]⟩ : ByteArray), (⟨#[109, 111, 114, 101]⟩ : ByteArray), (([4, 38] : List Int))⟩ : S74), (⟨(⟨#[48, 50, 50, 48]⟩ : ByteArray), (⟨#[48, 49]⟩ : ByteArray), (⟨#[112, 97, 114, 116]⟩ : ByteArray), (([4, 38] : List Int))⟩ : S74), (⟨(⟨#[48, 50, 50, 48]⟩ : ByteArray), (⟨#[48, 48]⟩ : ByteArray), (⟨#[102, 105, 110, 97, 108]⟩ : ByteArray), (([4, 38] : List Int))⟩ : S74), (⟨(⟨#[48, 50, 50, 48]⟩ : ByteArray), (⟨#[50, 48]⟩ : ByteArray), (⟨#[102, 114, 101, 101]⟩ : ByteArray), (([38] : List Int))⟩ : S74), (⟨(⟨#[48, 50, 48, 48]⟩ : ByteArray), (⟨#[52, 48]⟩ : ByteArray), (⟨#[109, 111, 118, 101]⟩ : ByteArray), (([38, 103] : List Int))⟩ : S74), (⟨(⟨#[48, 49, 48, 48]⟩ : ByteArray), (⟨#[51, 49]⟩ : ByteArray), (⟨#[97, 115, 107]⟩ : ByteArray), ([] : List Int)⟩ : S74), (⟨(⟨#[48, 50, 48, 48]⟩ : ByteArray), (⟨#[57, 48]⟩ : ByteArray), (⟨#[115, 119, 101, 101, 112]⟩ : ByteArray), ([] : List Int)⟩ : S74)] : List (S74)))) = some r := by first | (rw [hy327]; with_reducible exact H) | (have H2_ := (Option.bind_some _ _).symm.trans H; rw [hy327]; with_reducible exact H2_) | (have H2_ := (Option.bind_some _ _).symm.trans H; with_reducible exact H2_) | with_reducible exact H | (rw [hy327]; exact H) | exact H
 have Ny327 := Aside0.mk hy327
 clear hy327
 obtain ⟨y330, hy330⟩ : ∃ y_ : List Int, y_ = (([4, 38] : List Int)) := ⟨_, rfl⟩
 replace H : (some (([(⟨(⟨#[48, 49, 48, 48]⟩ : ByteArray), (⟨#[48, 48]⟩ : ByteArray), (⟨#[97, 117, 116, 104]⟩ : ByteArray), y327⟩ : S74), (⟨(⟨#[48, 49, 48, 48]⟩ : ByteArray), (⟨#[48, 50]⟩ : ByteArray), (⟨#[109, 111, 114, 101]⟩ : ByteArray), y330⟩ : S74), (⟨(⟨#[48, 50, 50, 48]⟩ : ByteArray), (⟨#[48, 49]⟩ : ByteArray), (⟨#[112, 97, 114, 116]⟩ : ByteArray), (([4, 38] : List Int))⟩ : S74), (⟨(⟨#[48, 50, 50, 48]⟩ : ByteArray), (⟨#[48, 48]⟩ : ByteArray), (⟨#[102, 105, 110, 97, 108]⟩ : ByteArray), (([4, 38] : List Int))⟩ : S74), (⟨(⟨#[48, 50, 50, 48]⟩ : ByteArray), (⟨#[50, 48]⟩ : ByteArray), (⟨#[102, 114, 101, 101]⟩ : ByteArray), (([38] : List Int))⟩ : S74), (⟨(⟨#[48, 50, 48, 48]⟩ : ByteArray), (⟨#[52, 48]⟩ : ByteArray), (⟨#[109, 111, 118, 101]⟩ : ByteArray), (([38, 103] : List Int))⟩ : S74), (⟨(⟨#[48, 49, 48, 48]⟩ : ByteArray), (⟨#[51, 49]⟩ : ByteArray), (⟨#[97, 115, 107]⟩ : ByteArray), ([] : List Int)⟩ : S74), (⟨(⟨#[48, 50, 48, 48]⟩ : ByteArray), (⟨#[57, 48]⟩ : ByteArray), (⟨#[115, 119, 101, 101, 112]⟩ : ByteArray), ([] : List Int)⟩ : S74)] : List (S74)))) = some r := by first | (rw [hy330]; with_reducible exact H) | (have H2_ := (Option.bind_some _ _).symm.trans H; rw [hy330]; with_reducible exact H2_) | (have H2_ := (Option.bind_some _ _).symm.trans H; with_reducible exact H2_) | with_reducible exact H | (rw [hy330]; exact H) | exact H
 have Ny330 := Aside0.mk hy330
 clear hy330
 obtain ⟨y333, hy333⟩ : ∃ y_ : List Int, y_ = (([4, 38] : List Int)) := ⟨_, rfl⟩
 replace H : (some (([(⟨(⟨#[48, 49, 48, 48]⟩ : ByteArray), (⟨#[48, 48]⟩ : ByteArray), (⟨#[97, 117, 116, 104]⟩ : ByteArray), y327⟩ : S74), (⟨(⟨#[48, 49, 48, 48]⟩ : ByteArray), (⟨#[48, 50]⟩ : ByteArray), (⟨#[109, 111, 114, 101]⟩ : ByteArray), y330⟩ : S74), (⟨(⟨#[48, 50, 50, 48]⟩ : ByteArray), (⟨#[48, 49]⟩ : ByteArray), (⟨#[112, 97, 114, 116]⟩ : ByteArray), y333⟩ : S74), (⟨(⟨#[48, 50, 50, 48]⟩ : ByteArray), (⟨#[48, 48]⟩ : ByteArray), (⟨#[102, 105, 110, 97, 108]⟩ : ByteArray), (([4, 38] : List Int))⟩ : S74), (⟨(⟨#[48, 50, 50, 48]⟩ : ByteArray), (⟨#[50, 48]⟩ : ByteArray), (⟨#[102, 114, 101, 101]⟩ : ByteArray), (([38] : List Int))⟩ : S74), (⟨(⟨#[48, 50, 48, 48]⟩ : ByteArray), (⟨#[52, 48]⟩ : ByteArray), (⟨#[109, 111, 118, 101]⟩ : ByteArray), (([38, 103] : List Int))⟩ : S74), (⟨(⟨#[48, 49, 48, 48]⟩ : ByteArray), (⟨#[51, 49]⟩ : ByteArray), (⟨#[97, 115, 107]⟩ : ByteArray), ([] : List Int)⟩ : S74), (⟨(⟨#[48, 50, 48, 48]⟩ : ByteArray), (⟨#[57, 48]⟩ : ByteArray), (⟨#[115, 119, 101, 101, 112]⟩ : ByteArray), ([] : List Int)⟩ : S74)] : List (S74)))) = some r := by first | (rw [hy333]; with_reducible exact H) | (have H2_ := (Option.bind_some _ _).symm.trans H; rw [hy333]; with_reducible exact H2_) | (have H2_ := (Option.bind_some _ _).symm.trans H; with_reducible exact H2_) | with_reducible exact H | (rw [hy333]; exact H) | exact H
 have Ny333 := Aside0.mk hy333
 clear hy333
 obtain ⟨y336, hy336⟩ : ∃ y_ : List Int, y_ = (([4, 38] : List Int)) := ⟨_, rfl⟩
 replace H : (some (([(⟨(⟨#[48, 49, 48, 48]⟩ : ByteArray), (⟨#[48, 48]⟩ : ByteArray), (⟨#[97, 117, 116, 104]⟩ : ByteArray), y327⟩ : S74), (⟨(⟨#[48, 49, 48, 48]⟩ : ByteArray), (⟨#[48, 50]⟩ : ByteArray), (⟨#[109, 111, 114, 101]⟩ : ByteArray), y330⟩ : S74), (⟨(⟨#[48, 50, 50, 48]⟩ : ByteArray), (⟨#[48, 49]⟩ : ByteArray), (⟨#[112, 97, 114, 116]⟩ : ByteArray), y333⟩ : S74), (⟨(⟨#[48, 50, 50, 48]⟩ : ByteArray), (⟨#[48, 48]⟩ : ByteArray), (⟨#[102, 105, 110, 97, 108]⟩ : ByteArray), y336⟩ : S74), (⟨(⟨#[48, 50, 50, 48]⟩ : ByteArray), (⟨#[50, 48]⟩ : ByteArray), (⟨#[102, 114, 101, 101]⟩ : ByteArray), (([38] : List Int))⟩ : S74), (⟨(⟨#[48, 50, 48, 48]⟩ : ByteArray), (⟨#[52, 48]⟩ : ByteArray), (⟨#[109, 111, 118, 101]⟩ : ByteArray), (([38, 103] : List Int))⟩ : S74), (⟨(⟨#[48, 49, 48, 48]⟩ : ByteArray), (⟨#[51, 49]⟩ : ByteArray), (⟨#[97, 115, 107]⟩ : ByteArray), ([] : List Int)⟩ : S74), (⟨(⟨#[48, 50, 48, 48]⟩ : ByteArray), (⟨#[57, 48]⟩ : ByteArray), (⟨#[115, 119, 101, 101, 112]⟩ : ByteArray), ([] : List Int)⟩ : S74)] : List (S74)))) = some r := by first | (rw [hy336]; with_reducible exact H) | (have H2_ := (Option.bind_some _ _).symm.trans H; rw [hy336]; with_reducible exact H2_) | (have H2_ := (Option.bind_some _ _).symm.trans H; with_reducible exact H2_) | with_reducible exact H | (rw [hy336]; exact H) | exact H
 have Ny336 := Aside0.mk hy336
 clear hy336
 obtain ⟨y339, hy339⟩ : ∃ y_ : List Int, y_ = (([38] : List Int)) := ⟨_, rfl⟩
 replace H : (some (([(⟨(⟨#[48, 49, 48, 48]⟩ : ByteArray), (⟨#[48, 48]⟩ : ByteArray), (⟨#[97, 117, 116, 104]⟩ : ByteArray), y327⟩ : S74), (⟨(⟨#[48, 49, 48, 48]⟩ : ByteArray), (⟨#[48, 50]⟩ : ByteArray), (⟨#[109, 111, 114, 101]⟩ : ByteArray), y330⟩ : S74), (⟨(⟨#[48, 50, 50, 48]⟩ : ByteArray), (⟨#[48, 49]⟩ : ByteArray), (⟨#[112, 97, 114, 116]⟩ : ByteArray), y333⟩ : S74), (⟨(⟨#[48, 50, 50, 48]⟩ : ByteArray), (⟨#[48, 48]⟩ : ByteArray), (⟨#[102, 105, 110, 97, 108]⟩ : ByteArray), y336⟩ : S74), (⟨(⟨#[48, 50, 50, 48]⟩ : ByteArray), (⟨#[50, 48]⟩ : ByteArray), (⟨#[102, 114, 101, 101]⟩ : ByteArray), y339⟩ : S74), (⟨(⟨#[48, 50, 48, 48]⟩ : ByteArray), (⟨#[52, 48]⟩ : ByteArray), (⟨#[109, 111, 118, 101]⟩ : ByteArray), (([38, 103] : List Int))⟩ : S74), (⟨(⟨#[48, 49, 48, 48]⟩ : ByteArray), (⟨#[51, 49]⟩ : ByteArray), (⟨#[97, 115, 107]⟩ : ByteArray), ([] : List Int)⟩ : S74), (⟨(⟨#[48, 50, 48, 48]⟩ : ByteArray), (⟨#[57, 48]⟩ : ByteArray), (⟨#[115, 119, 101, 101, 112]⟩ : ByteArray), ([] : List Int)⟩ : S74)] : List (S74)))) = some r := by first | (rw [hy339]; with_reducible exact H) | (have H2_ := (Option.bind_some _ _).symm.trans H; rw [hy339]; with_reducible exact H2_) | (have H2_ := (Option.bind_some _ _).symm.trans H; with_reducible exact H2_) | with_reducible exact H | (rw [hy339]; exact H) | exact H
 have Ny339 := Aside0.mk hy339
 clear hy339
 obtain ⟨y342, hy342⟩ : ∃ y_ : List Int, y_ = (([38, 103] : List Int)) := ⟨_, rfl⟩
 replace H : (some (([(⟨(⟨#[48, 49, 48, 48]⟩ : ByteArray), (⟨#[48, 48]⟩ : ByteArray), (⟨#[97, 117, 116, 104]⟩ : ByteArray), y327⟩ : S74), (⟨(⟨#[48, 49, 48, 48]⟩ : ByteArray), (⟨#[48, 50]⟩ : ByteArray), (⟨#[109, 111, 114, 101]⟩ : ByteArray), y330⟩ : S74), (⟨(⟨#[48, 50, 50, 48]⟩ : ByteArray), (⟨#[48, 49]⟩ : ByteArray), (⟨#[112, 97, 114, 116]⟩ : ByteArray), y333⟩ : S74), (⟨(⟨#[48, 50, 50, 48]⟩ : ByteArray), (⟨#[48, 48]⟩ : ByteArray), (⟨#[102, 105, 110, 97, 108]⟩ : ByteArray), y336⟩ : S74), (⟨(⟨#[48, 50, 50, 48]⟩ : ByteArray), (⟨#[50, 48]⟩ : ByteArray), (⟨#[102, 114, 101, 101]⟩ : ByteArray), y339⟩ : S74), (⟨(⟨#[48, 50, 48, 48]⟩ : ByteArray), (⟨#[52, 48]⟩ : ByteArray), (⟨#[109, 111, 118, 101]⟩ : ByteArray), y342⟩ : S74), (⟨(⟨#[48, 49, 48, 48]⟩ : ByteArray), (⟨#[51, 49]⟩ : ByteArray), (⟨#[97, 115, 107]⟩ : ByteArray), ([] : List Int)⟩ : S74), (⟨(⟨#[48, 50, 48, 48]⟩ : ByteArray), (⟨#[57, 48]⟩ : ByteArray), (⟨#[115, 119, 101, 101, 112]⟩ : ByteArray), ([] : List Int)⟩ : S74)] : List (S74)))) = some r := by first | (rw [hy342]; with_reducible exact H) | (have H2_ := (Option.bind_some _ _).symm.trans H; rw [hy342]; with_reducible exact H2_) | (have H2_ := (Option.bind_some _ _).symm.trans H; with_reducible exact H2_) | with_reducible exact H | (rw [hy342]; exact H) | exact H
 have Ny342 := Aside0.mk hy342
 clear hy342
 obtain ⟨y345, hy345⟩ : ∃ y_ : List (S74), y_ = (([(⟨(⟨#[48, 49, 48, 48]⟩ : ByteArray), (⟨#[48, 48]⟩ : ByteArray), (⟨#[97, 117, 116, 104]⟩ : ByteArray), y327⟩ : S74), (⟨(⟨#[48, 49, 48, 48]⟩ : ByteArray), (⟨#[48, 50]⟩ : ByteArray), (⟨#[109, 111, 114, 101]⟩ : ByteArray), y330⟩ : S74), (⟨(⟨#[48, 50, 50, 48]⟩ : ByteArray), (⟨#[48, 49]⟩ : ByteArray), (⟨#[112, 97, 114, 116]⟩ : ByteArray), y333⟩ : S74), (⟨(⟨#[48, 50, 50, 48]⟩ : ByteArray), (⟨#[48, 48]⟩ : ByteArray), (⟨#[102, 105, 110, 97, 108]⟩ : ByteArray), y336⟩ : S74), (⟨(⟨#[48, 50, 50, 48]⟩ : ByteArray), (⟨#[50, 48]⟩ : ByteArray), (⟨#[102, 114, 101, 101]⟩ : ByteArray), y339⟩ : S74), (⟨(⟨#[48, 50, 48, 48]⟩ : ByteArray), (⟨#[52, 48]⟩ : ByteArray), (⟨#[109, 111, 118, 101]⟩ : ByteArray), y342⟩ : S74), (⟨(⟨#[48, 49, 48, 48]⟩ : ByteArray), (⟨#[51, 49]⟩ : ByteArray), (⟨#[97, 115, 107]⟩ : ByteArray), ([] : List Int)⟩ : S74), (⟨(⟨#[48, 50, 48, 48]⟩ : ByteArray), (⟨#[57, 48]⟩ : ByteArray), (⟨#[115, 119, 101, 101, 112]⟩ : ByteArray), ([] : List Int)⟩ : S74)] : List (S74))) := ⟨_, rfl⟩
 replace H : (some y345) = some r := by first | (rw [hy345]; with_reducible exact H) | (have H2_ := (Option.bind_some _ _).symm.trans H; rw [hy345]; with_reducible exact H2_) | (have H2_ := (Option.bind_some _ _).symm.trans H; with_reducible exact H2_) | with_reducible exact H | (rw [hy345]; exact H) | exact H
 have Ny345 := Aside0.mk hy345
 clear hy345
 obtain rfl := Option.some.inj H
 go_enter Tryz.func50, Tryz.ntmps50
 go_wp2_with (first | ((with_reducible refine gate_dst (N := 1) rfl ?_); refine Kd.R_lit (Kd.int .i64) _ 3 ?hg (N := 1) ?hd (xs := ([4, 14, 38] : List Int)) (inner := [.int .i64 4, .int .i64 14, .int .i64 38]) (ok := fun _ => True) (okp := fun _ => True) ?hr ?hp (fun _ hk => hk) trivial (Below.refl _ _) (Nat.le_refl _) (by simp) ?_; (case hd => rfl); (case hg => rfl); (case hr => first | (go_simp; done) | (go_simp; rfl)); (case hp => exact (Reps.one (show Kd.M (Kd.int .i64) _ _ _ 4 [.int .i64 4] from rfl) (Reps.one (show Kd.M (Kd.int .i64) _ _ _ 14 [.int .i64 14] from rfl) (Reps.one (show Kd.M (Kd.int .i64) _ _ _ 38 [.int .i64 38] from rfl) (Reps.none _ _))))); intro v328 w1 ho2 hb hg_ hnew_; clear hg_ hnew_; (first | rw [← Ny327.out] at ho2 | (simp only [Int.reduceToNat] at ho2; rw [← Ny327.out] at ho2)); have HO329 := Aside0.mk (Kd.R_lower (Kd.R_newM (M := fun k_ => (w.heap.size ≤ k_)) ho2 (below_size bl_) (fun k_ h_ => h_)) (below_size bl_)); replace HB := hs_ hb; clear hb ho2; obtain ⟨Ao3, co3, eo3⟩ := Kd.R_slice HO329.out; subst eo3) | ((with_reducible refine gate_dst (N := 3) rfl ?_); refine Kd.R_lit (Kd.int .i64) _ 3 ?hg (N := 3) ?hd (xs := ([4, 38] : List Int)) (inner := [.int .i64 4, .int .i64 38]) (ok := fun _ => True) (okp := fun _ => True) ?hr ?hp (fun _ hk => hk) trivial (Below.refl _ _) (Nat.le_refl _) (by simp) ?_; (case hd => rfl); (case hg => rfl); (case hr => first | (go_simp; done) | (go_simp; rfl)); (case hp => exact (Reps.one (show Kd.M (Kd.int .i64) _ _ _ 4 [.int .i64 4] from rfl) (Reps.one (show Kd.M (Kd.int .i64) _ _ _ 38 [.int .i64 38] from rfl) (Reps.none _ _)))); intro v331 w4 ho5 hb hg_ hnew_; clear hg_ hnew_; (first | rw [← Ny330.out] at ho5 | (simp only [Int.reduceToNat] at ho5; rw [← Ny330.out] at ho5)); have HO332 := Aside0.mk (Kd.R_lower (Kd.R_new' (Kd.R_newM (M := fun k_ => (w.heap.size ≤ k_)) ho5 (below_size bl_) (fun k_ h_ => h_)) (Kd.R_lt (ra_ HO329))) (below_size bl_)); replace HO329 := Aside0.mk (Kd.R_elder' (ra_ HO329) (Kd.R_base ho5) hb); replace HB := hs_ hb; clear hb ho5; obtain ⟨Ao6, co6, eo6⟩ := Kd.R_slice HO332.out; subst eo6) | ((with_reducible refine gate_dst (N := 5) rfl ?_); refine Kd.R_lit (Kd.int .i64) _ 3 ?hg (N := 5) ?hd (xs := ([4, 38] : List Int)) (inner := [.int .i64 4, .int .i64 38]) (ok := fun _ => True) (okp := fun _ => True) ?hr ?hp (fun _ hk => hk) trivial (Below.refl _ _) (Nat.le_refl _) (by simp) ?_; (case hd => rfl); (case hg => rfl); (case hr => first | (go_simp; done) | (go_simp; rfl)); (case hp => exact (Reps.one (show Kd.M (Kd.int .i64) _ _ _ 4 [.int .i64 4] from rfl) (Reps.one (show Kd.M (Kd.int .i64) _ _ _ 38 [.int .i64 38] from rfl) (Reps.none _ _)))); intro v334 w7 ho8 hb hg_ hnew_; clear hg_ hnew_; (first | rw [← Ny333.out] at ho8 | (simp only [Int.reduceToNat] at ho8; rw [← Ny333.out] at ho8)); have HO335 := Aside0.mk (Kd.R_lower (Kd.R_new' (Kd.R_new' (Kd.R_newM (M := fun k_ => (w.heap.size ≤ k_)) ho8 (below_size bl_) (fun k_ h_ => h_)) (Kd.R_lt (ra_ HO329))) (Kd.R_lt (ra_ HO332))) (below_size bl_)); replace HO329 := Aside0.mk (Kd.R_elder' (ra_ HO329) (Kd.R_base ho8) hb); replace HO332 := Aside0.mk (Kd.R_elder' (ra_ HO332) (Kd.R_base ho8) hb); replace HB := hs_ hb; clear hb ho8; obtain ⟨Ao9, co9, eo9⟩ := Kd.R_slice HO335.out; subst eo9) | ((with_reducible refine gate_dst (N := 7) rfl ?_); refine Kd.R_lit (Kd.int .i64) _ 3 ?hg (N := 7) ?hd (xs := ([4, 38] : List Int)) (inner := [.int .i64 4, .int .i64 38]) (ok := fun _ => True) (okp := fun _ => True) ?hr ?hp (fun _ hk => hk) trivial (Below.refl _ _) (Nat.le_refl _) (by simp) ?_; (case hd => rfl); (case hg => rfl); (case hr => first | (go_simp; done) | (go_simp; rfl)); (case hp => exact (Reps.one (show Kd.M (Kd.int .i64) _ _ _ 4 [.int .i64 4] from rfl) (Reps.one (show Kd.M (Kd.int .i64) _ _ _ 38 [.int .i64 38] from rfl) (Reps.none _ _)))); intro v337 w10 ho11 hb hg_ hnew_; clear hg_ hnew_; (first | rw [← Ny336.out] at ho11 | (simp only [Int.reduceToNat] at ho11; rw [← Ny336.out] at ho11)); have HO338 := Aside0.mk (Kd.R_lower (Kd.R_new' (Kd.R_new' (Kd.R_new' (Kd.R_newM (M := fun k_ => (w.heap.size ≤ k_)) ho11 (below_size bl_) (fun k_ h_ => h_)) (Kd.R_lt (ra_ HO329))) (Kd.R_lt (ra_ HO332))) (Kd.R_lt (ra_ HO335))) (below_size bl_)); replace HO329 := Aside0.mk (Kd.R_elder' (ra_ HO329) (Kd.R_base ho11) hb); replace HO332 := Aside0.mk (Kd.R_elder' (ra_ HO332) (Kd.R_base ho11) hb); replace HO335 := Aside0.mk (Kd.R_elder' (ra_ HO335) (Kd.R_base ho11) hb); replace HB := hs_ hb; clear hb ho11; obtain ⟨Ao12, co12, eo12⟩ := Kd.R_slice HO338.out; subst eo12) | ((with_reducible refine gate_dst (N := 9) rfl ?_); refine Kd.R_lit (Kd.int .i64) _ 3 ?hg (N := 9) ?hd (xs := ([38] : List Int)) (inner := [.int .i64 38]) (ok := fun _ => True) (okp := fun _ => True) ?hr ?hp (fun _ hk => hk) trivial (Below.refl _ _) (Nat.le_refl _) (by simp) ?_; (case hd => rfl); (case hg => rfl); (case hr => first | (go_simp; done) | (go_simp; rfl)); (case hp => exact (Reps.one (show Kd.M (Kd.int .i64) _ _ _ 38 [.int .i64 38] from rfl) (Reps.none _ _))); intro v340 w13 ho14 hb hg_ hnew_; clear hg_ hnew_; (first | rw [← Ny339.out] at ho14 | (simp only [Int.reduceToNat] at ho14; rw [← Ny339.out] at ho14)); have HO341 := Aside0.mk (Kd.R_lower (Kd.R_new' (Kd.R_new' (Kd.R_new' (Kd.R_new' (Kd.R_newM (M := fun k_ => (w.heap.size ≤ k_)) ho14 (below_size bl_) (fun k_ h_ => h_)) (Kd.R_lt (ra_ HO329))) (Kd.R_lt (ra_ HO332))) (Kd.R_lt (ra_ HO335))) (Kd.R_lt (ra_ HO338))) (below_size bl_)); replace HO329 := Aside0.mk (Kd.R_elder' (ra_ HO329) (Kd.R_base ho14) hb); replace HO332 := Aside0.mk (Kd.R_elder' (ra_ HO332) (Kd.R_base ho14) hb); replace HO335 := Aside0.mk (Kd.R_elder' (ra_ HO335) (Kd.R_base ho14) hb); replace HO338 := Aside0.mk (Kd.R_elder' (ra_ HO338) (Kd.R_base ho14) hb); replace HB := hs_ hb; clear hb ho14; obtain ⟨Ao15, co15, eo15⟩ := Kd.R_slice HO341.out; subst eo15) | ((with_reducible refine gate_dst (N := 11) rfl ?_); refine Kd.R_lit (Kd.int .i64) _ 3 ?hg (N := 11) ?hd (xs := ([38, 103] : List Int)) (inner := [.int .i64 38, .int .i64 103]) (ok := fun _ => True) (okp := fun _ => True) ?hr ?hp (fun _ hk => hk) trivial (Below.refl _ _) (Nat.le_refl _) (by simp) ?_; (case hd => rfl); (case hg => rfl); (case hr => first | (go_simp; done) | (go_simp; rfl)); (case hp => exact (Reps.one (show Kd.M (Kd.int .i64) _ _ _ 38 [.int .i64 38] from rfl) (Reps.one (show Kd.M (Kd.int .i64) _ _ _ 103 [.int .i64 103] from rfl) (Reps.none _ _)))); intro v343 w16 ho17 hb hg_ hnew_; clear hg_ hnew_; (first | rw [← Ny342.out] at ho17 | (simp only [Int.reduceToNat] at ho17; rw [← Ny342.out] at ho17)); have HO344 := Aside0.mk (Kd.R_lower (Kd.R_new' (Kd.R_new' (Kd.R_new' (Kd.R_new' (Kd.R_new' (Kd.R_newM (M := fun k_ => (w.heap.size ≤ k_)) ho17 (below_size bl_) (fun k_ h_ => h_)) (Kd.R_lt (ra_ HO329))) (Kd.R_lt (ra_ HO332))) (Kd.R_lt (ra_ HO335))) (Kd.R_lt (ra_ HO338))) (Kd.R_lt (ra_ HO341))) (below_size bl_)); replace HO329 := Aside0.mk (Kd.R_elder' (ra_ HO329) (Kd.R_base ho17) hb); replace HO332 := Aside0.mk (Kd.R_elder' (ra_ HO332) (Kd.R_base ho17) hb); replace HO335 := Aside0.mk (Kd.R_elder' (ra_ HO335) (Kd.R_base ho17) hb); replace HO338 := Aside0.mk (Kd.R_elder' (ra_ HO338) (Kd.R_base ho17) hb); replace HO341 := Aside0.mk (Kd.R_elder' (ra_ HO341) (Kd.R_base ho17) hb); replace HB := hs_ hb; clear hb ho17; obtain ⟨Ao18, co18, eo18⟩ := Kd.R_slice HO344.out; subst eo18) | ((with_reducible refine gate_dst (N := 15) rfl ?_); refine Kd.N_lit k74 _ 74 ?hg (N' := 15) ?hd (xs := ([(⟨(⟨#[48, 49, 48, 48]⟩ : ByteArray), (⟨#[48, 48]⟩ : ByteArray), (⟨#[97, 117, 116, 104]⟩ : ByteArray), y327⟩ : S74), (⟨(⟨#[48, 49, 48, 48]⟩ : ByteArray), (⟨#[48, 50]⟩ : ByteArray), (⟨#[109, 111, 114, 101]⟩ : ByteArray), y330⟩ : S74), (⟨(⟨#[48, 50, 50, 48]⟩ : ByteArray), (⟨#[48, 49]⟩ : ByteArray), (⟨#[112, 97, 114, 116]⟩ : ByteArray), y333⟩ : S74), (⟨(⟨#[48, 50, 50, 48]⟩ : ByteArray), (⟨#[48, 48]⟩ : ByteArray), (⟨#[102, 105, 110, 97, 108]⟩ : ByteArray), y336⟩ : S74), (⟨(⟨#[48, 50, 50, 48]⟩ : ByteArray), (⟨#[50, 48]⟩ : ByteArray), (⟨#[102, 114, 101, 101]⟩ : ByteArray), y339⟩ : S74), (⟨(⟨#[48, 50, 48, 48]⟩ : ByteArray), (⟨#[52, 48]⟩ : ByteArray), (⟨#[109, 111, 118, 101]⟩ : ByteArray), y342⟩ : S74), (⟨(⟨#[48, 49, 48, 48]⟩ : ByteArray), (⟨#[51, 49]⟩ : ByteArray), (⟨#[97, 115, 107]⟩ : ByteArray), ([] : List Int)⟩ : S74), (⟨(⟨#[48, 50, 48, 48]⟩ : ByteArray), (⟨#[57, 48]⟩ : ByteArray), (⟨#[115, 119, 101, 101, 112]⟩ : ByteArray), ([] : List Int)⟩ : S74)] : List (S74))) (inner := [.string (⟨#[48, 49, 48, 48]⟩ : ByteArray), .string (⟨#[48, 48]⟩ : ByteArray), .string (⟨#[97, 117, 116, 104]⟩ : ByteArray), .slice Ao3 y327.length co3, .string (⟨#[48, 49, 48, 48]⟩ : ByteArray), .string (⟨#[48, 50]⟩ : ByteArray), .string (⟨#[109, 111, 114, 101]⟩ : ByteArray), .slice Ao6 y330.length co6, .string (⟨#[48, 50, 50, 48]⟩ : ByteArray), .string (⟨#[48, 49]⟩ : ByteArray), .string (⟨#[112, 97, 114, 116]⟩ : ByteArray), .slice Ao9 y333.length co9, .string (⟨#[48, 50, 50, 48]⟩ : ByteArray), .string (⟨#[48, 48]⟩ : ByteArray), .string (⟨#[102, 105, 110, 97, 108]⟩ : ByteArray), .slice Ao12 y336.length co12, .string (⟨#[48, 50, 50, 48]⟩ : ByteArray), .string (⟨#[50, 48]⟩ : ByteArray), .string (⟨#[102, 114, 101, 101]⟩ : ByteArray), .slice Ao15 y339.length co15, .string (⟨#[48, 50, 48, 48]⟩ : ByteArray), .string (⟨#[52, 48]⟩ : ByteArray), .string (⟨#[109, 111, 118, 101]⟩ : ByteArray), .slice Ao18 y342.length co18, .string (⟨#[48, 49, 48, 48]⟩ : ByteArray), .string (⟨#[51, 49]⟩ : ByteArray), .string (⟨#[97, 115, 107]⟩ : ByteArray), .slice none 0 0, .string (⟨#[48, 50, 48, 48]⟩ : ByteArray), .string (⟨#[57, 48]⟩ : ByteArray), .string (⟨#[115, 119, 101, 101, 112]⟩ : ByteArray), .slice none 0 0]) (ok := (fun k_ => (w.heap.size ≤ k_))) (okp := (fun k_ => (w.heap.size ≤ k_))) ?hr ?hp (fun _ hk => hk) ((show ∀ k_, w16.heap.size ≤ k_ → (fun k_ => (w.heap.size ≤ k_)) k_ from fun k_ hk => (Nat.le_trans (below_size bl_) hk)) _ (Nat.le_refl _)) (Below.refl _ _) (Nat.le_refl _) (by simp) ?_; (case hd => rfl); (case hg => rfl); (case hr => first | (go_simp; done) | (go_simp; rfl)); (case hp => exact (Reps.c4 (show Kd.FK k74 _ _ (⟨(⟨#[48, 49, 48, 48]⟩ : ByteArray), (⟨#[48, 48]⟩ : ByteArray), (⟨#[97, 117, 116, 104]⟩ : ByteArray), y327⟩ : S74) [.string (⟨#[48, 49, 48, 48]⟩ : ByteArray), .string (⟨#[48, 48]⟩ : ByteArray), .string (⟨#[97, 117, 116, 104]⟩ : ByteArray), .slice Ao3 y327.length co3] from (k74_mkF _ _ (⟨(⟨#[48, 49, 48, 48]⟩ : ByteArray), (⟨#[48, 48]⟩ : ByteArray), (⟨#[97, 117, 116, 104]⟩ : ByteArray), y327⟩ : S74) (Kd.R_reads' (Kd.R_mono (ok' := (fun k_ => (w.heap.size ≤ k_))) (HO329.out) (fun k_ hk => hk.1.1.1.1.1.1))).2.1 (Kd.R_F (Kd.R_mono (ok' := (fun k_ => (w.heap.size ≤ k_))) (HO329.out) (fun k_ hk => hk.1.1.1.1.1.1))))) (Reps.c4 (show Kd.FK k74 _ _ (⟨(⟨#[48, 49, 48, 48]⟩ : ByteArray), (⟨#[48, 50]⟩ : ByteArray), (⟨#[109, 111, 114, 101]⟩ : ByteArray), y330⟩ : S74) [.string (⟨#[48, 49, 48, 48]⟩ : ByteArray), .string (⟨#[48, 50]⟩ : ByteArray), .string (⟨#[109, 111, 114, 101]⟩ : ByteArray), .slice Ao6 y330.length co6] from (k74_mkF _ _ (⟨(⟨#[48, 49, 48, 48]⟩ : ByteArray), (⟨#[48, 50]⟩ : ByteArray), (⟨#[109, 111, 114, 101]⟩ : ByteArray), y330⟩ : S74) (Kd.R_reads' (Kd.R_mono (ok' := (fun k_ => (w.heap.size ≤ k_))) (HO332.out) (fun k_ hk => hk.1.1.1.1.1.1))).2.1 (Kd.R_F (Kd.R_mono (ok' := (fun k_ => (w.heap.size ≤ k_))) (HO332.out) (fun k_ hk => hk.1.1.1.1.1.1))))) (Reps.c4 (show Kd.FK k74 _ _ (⟨(⟨#[48, 50, 50, 48]⟩ : ByteArray), (⟨#[48, 49]⟩ : ByteArray), (⟨#[112, 97, 114, 116]⟩ : ByteArray), y333⟩ : S74) [.string (⟨#[48, 50, 50, 48]⟩ : ByteArray), .string (⟨#[48, 49]⟩ : ByteArray), .string (⟨#[112, 97, 114, 116]⟩ : ByteArray), .slice Ao9 y333.length co9] from (k74_mkF _ _ (⟨(⟨#[48, 50, 50, 48]⟩ : ByteArray), (⟨#[48, 49]⟩ : ByteArray), (⟨#[112, 97, 114, 116]⟩ : ByteArray), y333⟩ : S74) (Kd.R_reads' (Kd.R_mono (ok' := (fun k_ => (w.heap.size ≤ k_))) (HO335.out) (fun k_ hk => hk.1.1.1.1.1.1))).2.1 (Kd.R_F (Kd.R_mono (ok' := (fun k_ => (w.heap.size ≤ k_))) (HO335.out) (fun k_ hk => hk.1.1.1.1.1.1))))) (Reps.c4 (show Kd.FK k74 _ _ (⟨(⟨#[48, 50, 50, 48]⟩ : ByteArray), (⟨#[48, 48]⟩ : ByteArray), (⟨#[102, 105, 110, 97, 108]⟩ : ByteArray), y336⟩ : S74) [.string (⟨#[48, 50, 50, 48]⟩ : ByteArray), .string (⟨#[48, 48]⟩ : ByteArray), .string (⟨#[102, 105, 110, 97, 108]⟩ : ByteArray), .slice Ao12 y336.length co12] from (k74_mkF _ _ (⟨(⟨#[48, 50, 50, 48]⟩ : ByteArray), (⟨#[48, 48]⟩ : ByteArray), (⟨#[102, 105, 110, 97, 108]⟩ : ByteArray), y336⟩ : S74) (Kd.R_reads' (Kd.R_mono (ok' := (fun k_ => (w.heap.size ≤ k_))) (HO338.out) (fun k_ hk => hk.1.1.1.1.1.1))).2.1 (Kd.R_F (Kd.R_mono (ok' := (fun k_ => (w.heap.size ≤ k_))) (HO338.out) (fun k_ hk => hk.1.1.1.1.1.1))))) (Reps.c4 (show Kd.FK k74 _ _ (⟨(⟨#[48, 50, 50, 48]⟩ : ByteArray), (⟨#[50, 48]⟩ : ByteArray), (⟨#[102, 114, 101, 101]⟩ : ByteArray), y339⟩ : S74) [.string (⟨#[48, 50, 50, 48]⟩ : ByteArray), .string (⟨#[50, 48]⟩ : ByteArray), .string (⟨#[102, 114, 101, 101]⟩ : ByteArray), .slice Ao15 y339.length co15] from (k74_mkF _ _ (⟨(⟨#[48, 50, 50, 48]⟩ : ByteArray), (⟨#[50, 48]⟩ : ByteArray), (⟨#[102, 114, 101, 101]⟩ : ByteArray), y339⟩ : S74) (Kd.R_reads' (Kd.R_mono (ok' := (fun k_ => (w.heap.size ≤ k_))) (HO341.out) (fun k_ hk => hk.1.1.1.1.1.1))).2.1 (Kd.R_F (Kd.R_mono (ok' := (fun k_ => (w.heap.size ≤ k_))) (HO341.out) (fun k_ hk => hk.1.1.1.1.1.1))))) (Reps.c4 (show Kd.FK k74 _ _ (⟨(⟨#[48, 50, 48, 48]⟩ : ByteArray), (⟨#[52, 48]⟩ : ByteArray), (⟨#[109, 111, 118, 101]⟩ : ByteArray), y342⟩ : S74) [.string (⟨#[48, 50, 48, 48]⟩ : ByteArray), .string (⟨#[52, 48]⟩ : ByteArray), .string (⟨#[109, 111, 118, 101]⟩ : ByteArray), .slice Ao18 y342.length co18] from (k74_mkF _ _ (⟨(⟨#[48, 50, 48, 48]⟩ : ByteArray), (⟨#[52, 48]⟩ : ByteArray), (⟨#[109, 111, 118, 101]⟩ : ByteArray), y342⟩ : S74) (Kd.R_reads' (Kd.R_mono (ok' := (fun k_ => (w.heap.size ≤ k_))) (HO344.out) (fun k_ hk => hk.1.1.1.1.1.1))).2.1 (Kd.R_F (Kd.R_mono (ok' := (fun k_ => (w.heap.size ≤ k_))) (HO344.out) (fun k_ hk => hk.1.1.1.1.1.1))))) (Reps.c4 (show Kd.FK k74 _ _ (⟨(⟨#[48, 49, 48, 48]⟩ : ByteArray), (⟨#[51, 49]⟩ : ByteArray), (⟨#[97, 115, 107]⟩ : ByteArray), ([] : List Int)⟩ : S74) [.string (⟨#[48, 49, 48, 48]⟩ : ByteArray), .string (⟨#[51, 49]⟩ : ByteArray), .string (⟨#[97, 115, 107]⟩ : ByteArray), .slice none 0 0] from (k74_mkF _ _ (⟨(⟨#[48, 49, 48, 48]⟩ : ByteArray), (⟨#[51, 49]⟩ : ByteArray), (⟨#[97, 115, 107]⟩ : ByteArray), ([] : List Int)⟩ : S74) (Nat.le_refl _) (Kd.F_nil _ _ _))) (Reps.c4 (show Kd.FK k74 _ _ (⟨(⟨#[48, 50, 48, 48]⟩ : ByteArray), (⟨#[57, 48]⟩ : ByteArray), (⟨#[115, 119, 101, 101, 112]⟩ : ByteArray), ([] : List Int)⟩ : S74) [.string (⟨#[48, 50, 48, 48]⟩ : ByteArray), .string (⟨#[57, 48]⟩ : ByteArray), .string (⟨#[115, 119, 101, 101, 112]⟩ : ByteArray), .slice none 0 0] from (k74_mkF _ _ (⟨(⟨#[48, 50, 48, 48]⟩ : ByteArray), (⟨#[57, 48]⟩ : ByteArray), (⟨#[115, 119, 101, 101, 112]⟩ : ByteArray), ([] : List Int)⟩ : S74) (Nat.le_refl _) (Kd.F_nil _ _ _))) (Reps.none _ _)))))))))); intro v346 w19 ho20 hb hg_ hnew_; clear hg_ hnew_; (first | rw [← Ny345.out] at ho20 | (simp only [Int.reduceToNat] at ho20; rw [← Ny345.out] at ho20)); have n0_ := Aside0.mk (Kd.N_lower ho20 (below_size bl_)); have n1_ := Aside0.mk (below_step bl_ hb); clear HB; clear HO329; clear HO332; clear HO335; clear HO338; clear HO341; clear HO344; have HO347 := n0_; have HB := n1_; clear n0_ n1_; clear hb ho20))
 go_ret
 exact ⟨_, by first | rfl | (simp [errW_none, errW_some] <;> rfl) | (simp [*, errW_none, errW_some] <;> rfl), by (with_reducible repeat (first | apply Kd.N_alloc | apply Kd.N_drewN | apply Kd.N_drew)); exact HO347.out, bl_⟩
-- NOT PRINTED: function 51 (impl_ReqOf_1)
/-! ### impl_opOf: function 52 -/
def impl_opOf.f (a0 : Int) : Option (ByteArray × ByteArray × ByteArray × List Int) := (impl_within.f a0 1 8).bind fun t350 => (if t350 = true then ((impl_opRows.f).bind fun t351 => (if 0 ≤ (wrap64 (a0 - 1)) then (if (wrap64 (a0 - 1)) < (t351.length : Int) then (some ((rd_T74 t351 (wrap64 (a0 - 1))).f0, (rd_T74 t351 (wrap64 (a0 - 1))).f1, (rd_T74 t351 (wrap64 (a0 - 1))).f2, (rd_T74 t351 (wrap64 (a0 - 1))).f3)) else (none)) else (none))) else (some ((⟨#[]⟩ : ByteArray), (⟨#[]⟩ : ByteArray), (⟨#[]⟩ : ByteArray), ([] : List Int))))
set_option maxHeartbeats 8000000 in
set_option maxRecDepth 100000 in
theorem impl_opOf.calls (a0 : Int) (r1 : ByteArray) (r2 : ByteArray) (r3 : ByteArray) (r4 : List Int) (w : World) (h : impl_opOf.f a0 = some (r1, r2, r3, r4)) :
  Calls Tryz.prog 52 #[.int .i64 a0] w fun e w' => ∃ v3_ : Value, e = .returned (.agg #[.string r1, .string r2, .string r3, v3_]) ∧ Kd.V (Kd.int .i64) 3 w' w.heap.size (fun k_ => (w.heap.size ≤ k_)) v3_ r4 ∧ Below w.heap.size w w' := by
 have hu74 := Tryz.underlying74
 have HB := Aside0.mk (Below.refl w.heap.size w)
 have H : ((impl_within.f a0 1 8).bind fun t350 => (if t350 = true then ((impl_opRows.f).bind fun t351 => (if 0 ≤ (wrap64 (a0 - 1)) then (if (wrap64 (a0 - 1)) < (t351.length : Int) then (some ((rd_T74 t351 (wrap64 (a0 - 1))).f0, (rd_T74 t351 (wrap64 (a0 - 1))).f1, (rd_T74 t351 (wrap64 (a0 - 1))).f2, (rd_T74 t351 (wrap64 (a0 - 1))).f3)) else (none)) else (none))) else (some ((⟨#[]⟩ : ByteArray), (⟨#[]⟩ : ByteArray), (⟨#[]⟩ : ByteArray), ([] : List Int))))) = some (r1, r2, r3, r4) := h
 clear h
 obtain ⟨t350, A2, H⟩ := ob_ H
 by_cases c3 : t350 = true
 rotate_left
 ·replace c3 := Bool.eq_false_iff.mpr c3
  subst c3
  replace H := in_ H
  simp only [Option.some.injEq, Prod.mk.injEq] at H
  obtain ⟨rfl, rfl, rfl, rfl⟩ := H
  go_enter Tryz.func52, Tryz.ntmps52
  go_wp2_with (first | ((with_reducible refine gate_dst (N := 2) rfl ?_); refine be_ (N := 2) (cs := #[.string (⟨#[]⟩ : ByteArray), .string (⟨#[]⟩ : ByteArray), .string (⟨#[]⟩ : ByteArray), .slice none 0 0]) (t := 74) ?_; intro gb349 hg w12 hbox hb; have BK349 := Aside0.mk (hbox); have GW349 := gw_ (w := w) hg; have GE349 := gw_ (w := w) hg; replace HB := hs_ hb; clear hb hbox hg) | ((with_reducible refine gc_ 71 4 Tryz.func71 #[.int .i64 a0, .int .i64 1, .int .i64 8] ?_); (with_reducible refine (impl_within.calls a0 1 8 false _ A2.out).mono ?_); rintro e w' ⟨rfl, ⟨nd, rfl⟩⟩; refine ⟨_, rfl, ?_⟩; (try (rw [drewN_self w12]; generalize hq_ : World.drewN w12 _ = w12; have n0_ : Aside0 (w12.heap[gb349]? = some (.cells #[.string (⟨#[]⟩ : ByteArray), .string (⟨#[]⟩ : ByteArray), .string (⟨#[]⟩ : ByteArray), .slice none 0 0] 74 (0, 0))) := ⟨by rw [← hq_]; exact (by (with_reducible repeat (first | refine blk_drewN ?_ _ | refine blk_drew ?_ | refine blk_alloc ?_ _)); exact BK349.out)⟩; have n1_ : Aside0 (Below w.heap.size w w12) := ⟨by rw [← hq_]; exact bl_⟩; clear BK349 HB hq_; have BK349 := n0_; have HB := n1_; clear n0_ n1_)); obtain ⟨hcz13_0, hcz13_1, hcz13_2, hcz13_3, hfz13_0, hfz13_1, hfz13_2, hfz13_3⟩ := bx4_ BK349))
  refine bodyPost_ret (results_cell_row rfl _ _ gb349 74 #[.string (⟨#[]⟩ : ByteArray), .string (⟨#[]⟩ : ByteArray), .string (⟨#[]⟩ : ByteArray), .slice none 0 0] (0, 0) _ rfl (by (with_reducible repeat (first | refine blk_drewN ?_ _ | refine blk_drew ?_ | refine blk_alloc ?_ _)); apply bq4_3_2_1_0_; (with_reducible repeat (first | refine blk_drewN ?_ _ | refine blk_drew ?_ | refine blk_alloc ?_ _)); exact BK349.out) Tryz.underlying74 rfl (by kernel_rfl)) rfl ?_
  exact ⟨_, by first | rfl | (simp [errW_none, errW_some] <;> rfl) | (simp [*, errW_none, errW_some] <;> rfl), (Kd.V_nil _ _ _ _ _), bl_⟩
 subst c3
 replace H := ip_ H
 obtain ⟨t351, A4, H⟩ := ob_ H
 obtain ⟨ji5, hji5⟩ : ∃ j_ : Int, (wrap64 (a0 - 1)) = j_ := ⟨_, rfl⟩
 replace H : (if 0 ≤ (ji5) then (if (ji5) < (t351.length : Int) then (some ((rd_T74 t351 (ji5)).f0, (rd_T74 t351 (ji5)).f1, (rd_T74 t351 (ji5)).f2, (rd_T74 t351 (ji5)).f3)) else (none)) else (none)) = some (r1, r2, r3, r4) := by first | (rw [hji5] at H; exact H) | (simp only [hji5] at H ⊢; exact H)
 (try rw [hji5] at A2)
 (try rw [hji5] at A4)
 have hji5w : (IntKind.i64.wrap (a0 - 1)) = ji5 := (i64_w _).trans hji5
 by_cases c6 : 0 ≤ (ji5)
 ·rw [if_pos c6] at H
  have c6b0 := decide_eq_true c6
  clear c6
  by_cases c7 : (ji5) < (t351.length : Int)
  ·rw [if_pos c7] at H
   have c7b0 := decide_eq_true c7
   clear c7
   simp only [Option.some.injEq, Prod.mk.injEq] at H
   obtain ⟨rfl, rfl, rfl, rfl⟩ := H
   go_enter Tryz.func52, Tryz.ntmps52
   go_wp2_with (first | ((with_reducible refine gate_dst (N := 2) rfl ?_); refine be_ (N := 2) (cs := #[.string (⟨#[]⟩ : ByteArray), .string (⟨#[]⟩ : ByteArray), .string (⟨#[]⟩ : ByteArray), .slice none 0 0]) (t := 74) ?_; intro gb349 hg w8 hbox hb; have BK349 := Aside0.mk (hbox); have GW349 := gw_ (w := w) hg; have GE349 := gw_ (w := w) hg; replace HB := hs_ hb; clear hb hbox hg) | ((with_reducible refine gc_ 71 4 Tryz.func71 #[.int .i64 a0, .int .i64 1, .int .i64 8] ?_); (with_reducible refine (impl_within.calls a0 1 8 true _ A2.out).mono ?_); rintro e w' ⟨rfl, ⟨nd, rfl⟩⟩; refine ⟨_, rfl, ?_⟩; (try (rw [drewN_self w8]; generalize hq_ : World.drewN w8 _ = w8; have n0_ : Aside0 (w8.heap[gb349]? = some (.cells #[.string (⟨#[]⟩ : ByteArray), .string (⟨#[]⟩ : ByteArray), .string (⟨#[]⟩ : ByteArray), .slice none 0 0] 74 (0, 0))) := ⟨by rw [← hq_]; exact (by (with_reducible repeat (first | refine blk_drewN ?_ _ | refine blk_drew ?_ | refine blk_alloc ?_ _)); exact BK349.out)⟩; have n1_ : Aside0 (Below w.heap.size w w8) := ⟨by rw [← hq_]; exact bl_⟩; clear BK349 HB hq_; have BK349 := n0_; have HB := n1_; clear n0_ n1_))) | ((with_reducible refine gc_ 50 7 Tryz.func50 #[] ?_); (with_reducible refine (impl_opRows.calls  t351 _ A4.out).mono ?_); rintro e w9 ⟨v352, rfl, ho0, hb⟩; refine ⟨_, rfl, ?_⟩; have HO353 := Aside0.mk (Kd.N_lower (Kd.N_mono (ok' := fun k_ => (w.heap.size ≤ k_) ∧ k_ ≠ gb349) ho0 (fun k_ hk_ => ⟨(Nat.le_trans (below_size bl_) hk_), (Kd.freshB (bk_ BK349) k_ hk_)⟩)) (below_size bl_)); replace BK349 := kb_ BK349 hb; replace HB := hs_ hb; clear hb; (try clear ho0); obtain ⟨Ao10, co10, eo10⟩ := Kd.N_slice HO353.out; subst eo10; have p354 : 0 ≤ ((ji5) : Int) := od_; have q354 : (ji5) < (t351.length : Int) := od_; obtain ⟨ad354, A354_3, c354_3, e354, hx354_0, hx354_1, hx354_2, hx354_3, hl354_3, hi354_3⟩ := at_T74 (Kd.N_reads' HO353.out).2.2 (ji5) p354 q354; cases e354; obtain ⟨ce354, hce354, hMe354, hcc354⟩ := Kd.N_get HO353.out z74 (ji5) p354 (by first | exact q354 | exact od_ | (have e_ := (Kd.N_reads' HO353.out).1; omega)); obtain ⟨ua354_3, uc354_3, rfl, ul354_3, ge354_3⟩ := k74_openF hMe354; have hv354_3 := hcc354 3 _ rfl; rw [add_field _ _ 3 (by omega)] at hv354_3; replace hv354_3 := Option.some.inj (hv354_3.symm.trans hx354_3); injection hv354_3 with hva_ hvn_ hvc_; rw [hva_] at ge354_3; rw [hvc_] at ul354_3; have HL354_3 := Aside0.mk (show Kd.V (Kd.int .i64) 3 _ w.heap.size _ _ ((rd_T74 t351 (ji5)).f3) from Kd.V_mk ul354_3 ge354_3); clear hva_ hvn_ hvc_ ge354_3 ul354_3; clear hcc354 hce354; have HR354_3 := Aside0.mk hi354_3; have HC354_3 := Aside0.mk hl354_3; clear hi354_3 hl354_3; replace p354 := eq_true p354; replace q354 := eq_true q354; obtain ⟨hcz11_0, hcz11_1, hcz11_2, hcz11_3, hfz11_0, hfz11_1, hfz11_2, hfz11_3⟩ := bx4_ BK349))
   refine bodyPost_ret (results_cell_row rfl _ _ gb349 74 #[.string ((rd_T74 t351 (ji5)).f0), .string ((rd_T74 t351 (ji5)).f1), .string ((rd_T74 t351 (ji5)).f2), .slice A354_3 ((rd_T74 t351 (ji5)).f3).length c354_3] (0, 0) _ rfl (by (with_reducible repeat (first | refine blk_drewN ?_ _ | refine blk_drew ?_ | refine blk_alloc ?_ _)); apply bq4_3_2_1_0_; (with_reducible repeat (first | refine blk_drewN ?_ _ | refine blk_drew ?_ | refine blk_alloc ?_ _)); exact BK349.out) Tryz.underlying74 rfl (by kernel_rfl)) rfl ?_
   exact ⟨_, by first | rfl | (simp [errW_none, errW_some] <;> rfl) | (simp only [← hji5]; first | rfl | (simp [errW_none, errW_some] <;> rfl)) | (simp [*, errW_none, errW_some] <;> rfl), by (with_reducible repeat (first | apply Kd.V_alloc | apply Kd.V_drewN | apply Kd.V_drew)); exact Kd.V_mono (Kd.V_far (p := ⟨gb349, 3, none⟩) (Kd.V_far (p := ⟨gb349, 2, none⟩) (Kd.V_far (p := ⟨gb349, 1, none⟩) (Kd.V_far (p := ⟨gb349, 0, none⟩) (Kd.V_mono HL354_3.out (fun k_ hk => (⟨hk, hk.1.2⟩ : _ ∧ k_ ≠ gb349))) (fun _ hk => hk.2) (.string ((rd_T74 t351 (ji5)).f0))) (fun _ hk => hk.2) (.string ((rd_T74 t351 (ji5)).f1))) (fun _ hk => hk.2) (.string ((rd_T74 t351 (ji5)).f2))) (fun _ hk => hk.2) (.slice A354_3 ((rd_T74 t351 (ji5)).f3).length c354_3)) (fun _ hk => hk.1.1.1), bl_⟩
  ·rw [if_neg c7] at H
   exact absurd H (by simp)
 ·rw [if_neg c6] at H
  exact absurd H (by simp)
-- NOT PRINTED: function 182 (strconv_lower)
-- NOT PRINTED: function 183 (strconv_underscoreOK)
-- NOT PRINTED: function 170 (strconv_ParseUint)
-- NOT PRINTED: function 145 (strconv_ParseInt)
-- NOT PRINTED: function 114 (strconv_Atoi_114)
-- NOT PRINTED: function 171 (stringslite_Clone)
-- NOT PRINTED: function 146 (strconv_syntaxError)
-- NOT PRINTED: function 147 (strconv_rangeError)
-- NOT PRINTED: function 172 (errors_New)
-- NOT PRINTED: function 193 (strconv_small)
-- NOT PRINTED: function 139 (bits_Len64)
-- NOT PRINTED: function 198 (strconv_log10Pow2)
-- NOT PRINTED: function 199 (strconv_bool2_int)
-- NOT PRINTED: function 194 (strconv_numDigits)
-- NOT PRINTED: function 195 (strconv_formatBase10)
-- NOT PRINTED: function 200 (strconv_isPowerOfTwo)
-- NOT PRINTED: function 202 (bits_TrailingZeros32)
-- NOT PRINTED: function 203 (bits_TrailingZeros64)
-- NOT PRINTED: function 201 (bits_TrailingZeros)
-- NOT PRINTED: function 196 (strconv_formatBits)
-- NOT PRINTED: function 191 (strconv_FormatInt)
-- NOT PRINTED: function 184 (strconv_Itoa_184)
-- NOT PRINTED: function 173 (strconv_Itoa_173)
-- NOT PRINTED: function 148 (strconv_baseError)
-- NOT PRINTED: function 149 (strconv_bitSizeError)
-- NOT PRINTED: function 115 (strconv_toError)
/-! ### strconv_Atoi_87: function 87 -/
def strconv_Atoi_87.f (a0 : ByteArray) : Option (Int × Option Int) := if a0.size ≤ 18 then (Lib.atoi a0.data.toList).bind fun n => some (n, none) else none
theorem strconv_Atoi_87.calls (a0 : ByteArray) (r1 : Int) (r2 : Option Int) (w : World) (h : strconv_Atoi_87.f a0 = some (r1, r2)) :
  Calls Tryz.prog 87 #[.string a0] w fun e w' => e = .returned (.tuple #[.int .i64 r1, errW r2]) ∧ Below w.heap.size w w' := by
 unfold strconv_Atoi_87.f at h
 split at h
 case isFalse => cases h
 case isTrue hc =>
 cases hn : Lib.atoi a0.data.toList with
 | none => rw [hn] at h; cases h
 | some n =>
  rw [hn] at h
  cases h
  refine Calls.mono (Go.Proofs.YtohfefkjcnbejaaGreatDoor.Shelf.strconv_Atoi a0 _ hc hn w) ?_
  rintro e w' ⟨rfl, t, rfl⟩
  exact ⟨rfl, bytes_below (Below.refl _ _) (Nat.le_refl _) _ _⟩
/-! ### impl_Narrow: function 53 -/
def impl_Narrow.f (k : Nat) (a0 : ByteArray) : Option (Int × Bool) := (impl_Digits.f k a0).bind fun t355 => (if t355 = true then (if (a0.size : Int) > 18 then (some (0, false)) else ((strconv_Atoi_87.f a0).bind fun bt356 => (some (bt356.1, true)))) else (some (0, false)))
set_option maxHeartbeats 8000000 in
set_option maxRecDepth 100000 in
theorem impl_Narrow.calls (k : Nat) (a0 : ByteArray) (r1 : Int) (r2 : Bool) (w : World) (h : impl_Narrow.f k a0 = some (r1, r2)) :
  Calls Tryz.prog 53 #[.string a0] w fun e w' => e = .returned (.tuple #[.int .i64 r1, .bool r2]) ∧ Below w.heap.size w w' := by
 have HB := Aside0.mk (Below.refl w.heap.size w)
 have H : ((impl_Digits.f k a0).bind fun t355 => (if t355 = true then (if (a0.size : Int) > 18 then (some (0, false)) else ((strconv_Atoi_87.f a0).bind fun bt356 => (some (bt356.1, true)))) else (some (0, false)))) = some (r1, r2) := h
 clear h
 obtain ⟨t355, A2, H⟩ := ob_ H
 by_cases c3 : t355 = true
 ·subst c3
  replace H := ip_ H
  by_cases c4 : (a0.size : Int) > 18
  ·rw [if_pos c4] at H
   have c4b0 := decide_eq_true c4
   have c4b1 : decide (18 < a0.size) = true := decide_eq_true (by omega)
   clear c4
   simp only [Option.some.injEq, Prod.mk.injEq] at H
   obtain ⟨rfl, rfl⟩ := H
   go_enter Tryz.func53, Tryz.ntmps53
   go_wp2_with (first | ((with_reducible refine gc_ 86 7 Tryz.func86 #[.string a0] ?_); (with_reducible refine (impl_Digits.calls k a0 true _ A2.out).mono ?_); rintro e w' ⟨rfl, ⟨nd, rfl⟩⟩; refine ⟨_, rfl, ?_⟩))
   go_ret2
   exact ⟨sq_, bl_⟩
  rw [if_neg c4] at H
  have c4b0 := decide_eq_false c4
  have c4b1 : decide (18 < a0.size) = false := decide_eq_false (by omega)
  clear c4
  obtain ⟨⟨t356, t357⟩, A5, H⟩ := ob_ H
  (try dsimp only at H)
  simp only [Option.some.injEq, Prod.mk.injEq] at H
  obtain ⟨rfl, rfl⟩ := H
  go_enter Tryz.func53, Tryz.ntmps53
  go_wp2_with (first | ((with_reducible refine gc_ 86 7 Tryz.func86 #[.string a0] ?_); (with_reducible refine (impl_Digits.calls k a0 true _ A2.out).mono ?_); rintro e w' ⟨rfl, ⟨nd, rfl⟩⟩; refine ⟨_, rfl, ?_⟩) | ((with_reducible refine gc_ 87 16 Tryz.func87 #[.string a0] ?_); (with_reducible refine (strconv_Atoi_87.calls a0 t356 t357 _ A5.out).mono ?_); rintro e w6 ⟨rfl, hb⟩; refine ⟨_, rfl, ?_⟩; replace HB := hs_ hb; clear hb; (try simp only [errW_none, errW_some])))
  go_ret2
  exact ⟨sq_, bl_⟩
 ·replace c3 := Bool.eq_false_iff.mpr c3
  subst c3
  replace H := in_ H
  simp only [Option.some.injEq, Prod.mk.injEq] at H
  obtain ⟨rfl, rfl⟩ := H
  go_enter Tryz.func53, Tryz.ntmps53
  go_wp2_with (first | ((with_reducible refine gc_ 86 7 Tryz.func86 #[.string a0] ?_); (with_reducible refine (impl_Digits.calls k a0 false _ A2.out).mono ?_); rintro e w' ⟨rfl, ⟨nd, rfl⟩⟩; refine ⟨_, rfl, ?_⟩))
  go_ret2
  exact ⟨sq_, bl_⟩
/-! ### strings_TrimRight: function 88 -/
def strings_TrimRight.f (a0 : ByteArray) (a1 : ByteArray) : Option (ByteArray) := if a1 = (⟨#[32]⟩ : ByteArray) ∧ a0.size ≤ 9223372036854775807 then some ⟨(Lib.trimRightB a0.data.toList 32).toArray⟩ else none
theorem strings_TrimRight.calls (a0 : ByteArray) (a1 : ByteArray) (r : ByteArray) (w : World) (h : strings_TrimRight.f a0 a1 = some r) :
  Calls Tryz.prog 88 #[.string a0, .string a1] w fun e w' => e = .returned (.string r) ∧ Below w.heap.size w w' := by
 unfold strings_TrimRight.f at h
 split at h
 case isFalse => cases h
 case isTrue hc =>
 obtain ⟨rfl, hs⟩ := hc
 obtain rfl := Option.some.inj h
 refine Calls.mono (Go.Proofs.YtohfefkjcnbejaaGreatDoor.Shelf.strings_TrimRight_one a0 32 (by decide) w hs) ?_
 rintro e w' ⟨rfl, rfl⟩
 exact ⟨rfl, Below.refl _ _⟩
/-! ### impl_FieldBare: function 54 -/
def impl_FieldBare.f (a0 : ByteArray) : Option (ByteArray) := (strings_TrimRight.f a0 (⟨#[32]⟩ : ByteArray)).bind fun t359 => (some t359)
set_option maxHeartbeats 8000000 in
set_option maxRecDepth 100000 in
theorem impl_FieldBare.calls (a0 : ByteArray) (r : ByteArray) (w : World) (h : impl_FieldBare.f a0 = some r) :
  Calls Tryz.prog 54 #[.string a0] w fun e w' => e = .returned (.string r) ∧ Below w.heap.size w w' := by
 have HB := Aside0.mk (Below.refl w.heap.size w)
 have H : ((strings_TrimRight.f a0 (⟨#[32]⟩ : ByteArray)).bind fun t359 => (some t359)) = some r := h
 clear h
 obtain ⟨t359, A2, H⟩ := ob_ H
 obtain rfl := Option.some.inj H
 go_enter Tryz.func54, Tryz.ntmps54
 go_wp2_with (first | ((with_reducible refine gc_ 88 4 Tryz.func88 #[.string a0, .string (⟨#[32]⟩ : ByteArray)] ?_); (with_reducible refine (strings_TrimRight.calls a0 (⟨#[32]⟩ : ByteArray) t359 _ A2.out).mono ?_); rintro e w3 ⟨rfl, hb⟩; refine ⟨_, rfl, ?_⟩; replace HB := hs_ hb; clear hb))
 go_ret
 exact ⟨sq_, bl_⟩
/-! ### impl_Luhn: function 153 -/
def impl_Luhn.l0 : Nat → ByteArray → Int → Bool → Int → Option (Int)
 | 0, _, _, _, _ => none
 | k + 1, x0, x3, x4, x5 => if x5 ≥ 0 then (if 0 ≤ x5 then (if x5 < (x0.size : Int) then (if x4 = true then (if ((((bt x0 x5) - 48) % 256) * 2) > 9 then (impl_Luhn.l0 k x0 (wrap64 (x3 + (((((bt x0 x5) - 48) % 256) * 2) - 9))) (!x4) (wrap64 (x5 - 1))) else (impl_Luhn.l0 k x0 (wrap64 (x3 + ((((bt x0 x5) - 48) % 256) * 2))) (!x4) (wrap64 (x5 - 1)))) else (impl_Luhn.l0 k x0 (wrap64 (x3 + (((bt x0 x5) - 48) % 256))) (!x4) (wrap64 (x5 - 1)))) else (none)) else (none)) else (some (Int.tmod (wrap64 (10 - (Int.tmod x3 10))) 10))
def impl_Luhn.f (k : Nat) (a0 : ByteArray) : Option (Int) := (impl_Digits.f k a0).bind fun t360 => (if t360 = true then (impl_Luhn.l0 k a0 0 true (wrap64 ((a0.size : Int) - 1))) else (some (-1)))
set_option maxHeartbeats 8000000 in
set_option maxRecDepth 100000 in
theorem impl_Luhn.calls (k : Nat) (a0 : ByteArray) (r : Int) (w : World) (h : impl_Luhn.f k a0 = some r) :
  Calls Tryz.prog 153 #[.string a0] w fun e w' => e = .returned (.int .i64 r) ∧ Drawn0 w w' := by
 have H : ((impl_Digits.f k a0).bind fun t360 => (if t360 = true then (impl_Luhn.l0 k a0 0 true (wrap64 ((a0.size : Int) - 1))) else (some (-1)))) = some r := h
 clear h
 obtain ⟨t360, A2, H⟩ := ob_ H
 by_cases c3 : t360 = true
 rotate_left
 ·replace c3 := Bool.eq_false_iff.mpr c3
  subst c3
  replace H := in_ H
  obtain rfl := Option.some.inj H
  go_enter Tryz.func153, Tryz.ntmps153
  go_wp2_with (first | ((with_reducible refine gc_ 86 8 Tryz.func86 #[.string a0] ?_); (with_reducible refine (impl_Digits.calls k a0 false _ A2.out).mono ?_); rintro e w' ⟨rfl, ⟨nd, rfl⟩⟩; refine ⟨_, rfl, ?_⟩))
  go_ret
  exact ⟨sp_, by repeat (first | exact Drawn0.refl _ | apply Drawn0.step)⟩
 subst c3
 replace H := ip_ H
 have H' := Aside0.mk H
 clear H
 go_enter Tryz.func153, Tryz.ntmps153
 go_wp2_with (first | ((with_reducible refine gc_ 86 8 Tryz.func86 #[.string a0] ?_); (with_reducible refine (impl_Digits.calls k a0 true _ A2.out).mono ?_); rintro e w' ⟨rfl, ⟨nd, rfl⟩⟩; refine ⟨_, rfl, ?_⟩))
 go_loopg [3, 4, 5] k (fun kq v3 v4 v5 w' => ∃ (x3_1 : Int) (x4_1 : Bool) (x5_1 : Int), v3 = .int .i64 x3_1 ∧ v4 = .bool x4_1 ∧ v5 = .int .i64 x5_1 ∧ Aside0 (impl_Luhn.l0 kq a0 x3_1 x4_1 x5_1 = some r) ∧ Aside0 (kq ≤ k) ∧ Drawn0 w w')
 case atStart => exact ⟨(0), (true), (wrap64 ((a0.size : Int) - 1)), sp_, sp_, sp_, H', ⟨Nat.le_refl _⟩, by repeat (first | exact Drawn0.refl _ | apply Drawn0.step)⟩
 case round =>
  clear H'
  obtain ⟨x3_1, x4_1, x5_1, rfl, rfl, rfl, HA, HK1, ⟨m1, rfl⟩⟩ := hrel
  cases gk with
  | zero => exact absurd HA.out (by simp [impl_Luhn.l0])
  | succ k1 =>
   have H := HA.out
   clear HA
   simp only [impl_Luhn.l0] at H
   by_cases c4 : x5_1 ≥ 0
   rotate_left
   ·rw [if_neg c4] at H
    have c4b0 := decide_eq_false c4
    clear c4
    obtain rfl := Option.some.inj H
    go_wp2
    go_ret
    exact ⟨sp_, by repeat (first | exact Drawn0.refl _ | apply Drawn0.step)⟩
   rw [if_pos c4] at H
   have c4b0 := decide_eq_true c4
   clear c4
   by_cases c5 : 0 ≤ x5_1
   rotate_left
   ·rw [if_neg c5] at H
    exact absurd H (by simp)
   rw [if_pos c5] at H
   have c5b0 := decide_eq_true c5
   clear c5
   by_cases c6 : x5_1 < (a0.size : Int)
   rotate_left
   ·rw [if_neg c6] at H
    exact absurd H (by simp)
   rw [if_pos c6] at H
   have c6b0 := decide_eq_true c6
   clear c6
   by_cases c8 : x4_1 = true
   ·subst c8
    replace H := ip_ H
    by_cases c9 : ((((bt a0 x5_1) - 48) % 256) * 2) > 9
    ·rw [if_pos c9] at H
     have c9b0 := decide_eq_true c9
     clear c9
     have H' := Aside0.mk H
     clear H
     have p7 : 0 ≤ (x5_1 : Int) := od_
     have q7 : x5_1 < (a0.size : Int) := od_
     have hx7 := bt_at a0 x5_1
     replace p7 := eq_true p7
     replace q7 := eq_true q7
     go_wp2
     go_roundg k1
     case measure => have := HK1.out; omega
     case rel => exact ⟨(wrap64 (x3_1 + (((((bt a0 x5_1) - 48) % 256) * 2) - 9))), (!true), (wrap64 (x5_1 - 1)), sp_, sp_, sp_, H', ⟨by have := HK1.out; omega⟩, by repeat (first | exact Drawn0.refl _ | apply Drawn0.step)⟩
    rw [if_neg c9] at H
    have c9b0 := decide_eq_false c9
    clear c9
    have H' := Aside0.mk H
    clear H
    have p7 : 0 ≤ (x5_1 : Int) := od_
    have q7 : x5_1 < (a0.size : Int) := od_
    have hx7 := bt_at a0 x5_1
    replace p7 := eq_true p7
    replace q7 := eq_true q7
    go_wp2
    go_roundg k1
    case measure => have := HK1.out; omega
    case rel => exact ⟨(wrap64 (x3_1 + ((((bt a0 x5_1) - 48) % 256) * 2))), (!true), (wrap64 (x5_1 - 1)), sp_, sp_, sp_, H', ⟨by have := HK1.out; omega⟩, by repeat (first | exact Drawn0.refl _ | apply Drawn0.step)⟩
   ·replace c8 := Bool.eq_false_iff.mpr c8
    subst c8
    replace H := in_ H
    have H' := Aside0.mk H
    clear H
    have p7 : 0 ≤ (x5_1 : Int) := od_
    have q7 : x5_1 < (a0.size : Int) := od_
    have hx7 := bt_at a0 x5_1
    replace p7 := eq_true p7
    replace q7 := eq_true q7
    go_wp2
    go_roundg k1
    case measure => have := HK1.out; omega
    case rel => exact ⟨(wrap64 (x3_1 + (((bt a0 x5_1) - 48) % 256))), (!false), (wrap64 (x5_1 - 1)), sp_, sp_, sp_, H', ⟨by have := HK1.out; omega⟩, by repeat (first | exact Drawn0.refl _ | apply Drawn0.step)⟩
/-! ### impl_LuhnOk: function 120 -/
def impl_LuhnOk.f (k : Nat) (a0 : ByteArray) : Option (Bool) := if (wrap64 ((a0.size : Int) - 1)) ≥ 1 then ((impl_Digits.f k a0).bind fun t361 => (if t361 = true then (if 0 ≤ (wrap64 ((a0.size : Int) - 1)) then (if (wrap64 ((a0.size : Int) - 1)) ≤ (a0.size : Int) then ((impl_Luhn.f k (a0.extract 0 ((wrap64 ((a0.size : Int) - 1)) : Int).toNat)).bind fun t362 => (if (wrap64 ((a0.size : Int) - 1)) < (a0.size : Int) then (some (t362 == (((bt a0 (wrap64 ((a0.size : Int) - 1))) - 48) % 256))) else (none))) else (none)) else (none)) else (some false))) else (some false)
set_option maxHeartbeats 8000000 in
set_option maxRecDepth 100000 in
theorem impl_LuhnOk.calls (k : Nat) (a0 : ByteArray) (r : Bool) (w : World) (h : impl_LuhnOk.f k a0 = some r) :
  Calls Tryz.prog 120 #[.string a0] w fun e w' => e = .returned (.bool r) ∧ Drawn0 w w' := by
 have H : (if (wrap64 ((a0.size : Int) - 1)) ≥ 1 then ((impl_Digits.f k a0).bind fun t361 => (if t361 = true then (if 0 ≤ (wrap64 ((a0.size : Int) - 1)) then (if (wrap64 ((a0.size : Int) - 1)) ≤ (a0.size : Int) then ((impl_Luhn.f k (a0.extract 0 ((wrap64 ((a0.size : Int) - 1)) : Int).toNat)).bind fun t362 => (if (wrap64 ((a0.size : Int) - 1)) < (a0.size : Int) then (some (t362 == (((bt a0 (wrap64 ((a0.size : Int) - 1))) - 48) % 256))) else (none))) else (none)) else (none)) else (some false))) else (some false)) = some r := h
 clear h
 by_cases c2 : (wrap64 ((a0.size : Int) - 1)) ≥ 1
 rotate_left
 ·rw [if_neg c2] at H
  have c2b0 := decide_eq_false c2
  clear c2
  obtain rfl := Option.some.inj H
  go_enter Tryz.func120, Tryz.ntmps120
  go_wp2
  repeat (go_quiet (fail); try go_wp2)
  go_ret
  exact ⟨sp_, by repeat (first | exact Drawn0.refl _ | apply Drawn0.step)⟩
 rw [if_pos c2] at H
 have c2b0 := decide_eq_true c2
 clear c2
 obtain ⟨t361, A3, H⟩ := ob_ H
 by_cases c4 : t361 = true
 rotate_left
 ·replace c4 := Bool.eq_false_iff.mpr c4
  subst c4
  replace H := in_ H
  obtain rfl := Option.some.inj H
  go_enter Tryz.func120, Tryz.ntmps120
  go_wp2_with (first | (go_at_call 86; (with_reducible refine (impl_Digits.calls k a0 false _ A3.out).mono ?_); rintro e w' ⟨rfl, ⟨nd, rfl⟩⟩; (try first | exact ⟨rfl, _, World.drewN_drewN _ _ _⟩ | exact ⟨rfl, _, Eq.trans (World.drewN_drewN _ _ _) (congrArg (World.drewN _) (Nat.add_assoc _ _ _))⟩)))
  repeat (go_quiet (first | (go_at_call 86; (with_reducible refine (impl_Digits.calls k a0 false _ A3.out).mono ?_); rintro e w' ⟨rfl, ⟨nd, rfl⟩⟩; (try first | exact ⟨rfl, _, World.drewN_drewN _ _ _⟩ | exact ⟨rfl, _, Eq.trans (World.drewN_drewN _ _ _) (congrArg (World.drewN _) (Nat.add_assoc _ _ _))⟩))); try go_wp2_with (first | (go_at_call 86; (with_reducible refine (impl_Digits.calls k a0 false _ A3.out).mono ?_); rintro e w' ⟨rfl, ⟨nd, rfl⟩⟩; (try first | exact ⟨rfl, _, World.drewN_drewN _ _ _⟩ | exact ⟨rfl, _, Eq.trans (World.drewN_drewN _ _ _) (congrArg (World.drewN _) (Nat.add_assoc _ _ _))⟩))))
  go_ret
  exact ⟨sp_, by repeat (first | exact Drawn0.refl _ | apply Drawn0.step)⟩
 subst c4
 replace H := ip_ H
 obtain ⟨ji5, hji5⟩ : ∃ j_ : Int, (wrap64 ((a0.size : Int) - 1)) = j_ := ⟨_, rfl⟩
 replace H : (if 0 ≤ (ji5) then (if (ji5) ≤ (a0.size : Int) then ((impl_Luhn.f k (a0.extract 0 ((ji5) : Int).toNat)).bind fun t362 => (if (ji5) < (a0.size : Int) then (some (t362 == (((bt a0 (ji5)) - 48) % 256))) else (none))) else (none)) else (none)) = some r := by first | (rw [hji5] at H; exact H) | (simp only [hji5] at H ⊢; exact H)
 (try rw [hji5] at c2b0)
 (try rw [hji5] at A3)
 have hji5w : (IntKind.i64.wrap ((a0.size : Int) - 1)) = ji5 := (i64_w _).trans hji5
 by_cases c6 : 0 ≤ (ji5)
 rotate_left
 ·rw [if_neg c6] at H
  exact absurd H (by simp)
 rw [if_pos c6] at H
 have c6b0 := eq_true c6
 have c6b1 := decide_eq_true c6
 clear c6
 by_cases c7 : (ji5) ≤ (a0.size : Int)
 ·rw [if_pos c7] at H
  have c7b0 := eq_true c7
  have c7b1 := decide_eq_true c7
  clear c7
  obtain ⟨t362, A8, H⟩ := ob_ H
  by_cases c9 : (ji5) < (a0.size : Int)
  ·rw [if_pos c9] at H
   have c9b0 := decide_eq_true c9
   clear c9
   obtain rfl := Option.some.inj H
   go_enter Tryz.func120, Tryz.ntmps120
   go_wp2_with (first | (go_at_call 86; (with_reducible refine (impl_Digits.calls k a0 true _ A3.out).mono ?_); rintro e w' ⟨rfl, ⟨nd, rfl⟩⟩; (try first | exact ⟨rfl, _, World.drewN_drewN _ _ _⟩ | exact ⟨rfl, _, Eq.trans (World.drewN_drewN _ _ _) (congrArg (World.drewN _) (Nat.add_assoc _ _ _))⟩)) | (go_at_call 153; (with_reducible refine (impl_Luhn.calls k (a0.extract 0 ((ji5) : Int).toNat) t362 _ A8.out).mono ?_); rintro e w' ⟨rfl, ⟨nd, rfl⟩⟩; (try first | exact ⟨rfl, _, World.drewN_drewN _ _ _⟩ | exact ⟨rfl, _, Eq.trans (World.drewN_drewN _ _ _) (congrArg (World.drewN _) (Nat.add_assoc _ _ _))⟩); have p10 : 0 ≤ ((ji5) : Int) := od_; have q10 : (ji5) < (a0.size : Int) := od_; have hx10 := bt_at a0 (ji5); replace p10 := eq_true p10; replace q10 := eq_true q10))
   repeat (go_quiet (first | (go_at_call 86; (with_reducible refine (impl_Digits.calls k a0 true _ A3.out).mono ?_); rintro e w' ⟨rfl, ⟨nd, rfl⟩⟩; (try first | exact ⟨rfl, _, World.drewN_drewN _ _ _⟩ | exact ⟨rfl, _, Eq.trans (World.drewN_drewN _ _ _) (congrArg (World.drewN _) (Nat.add_assoc _ _ _))⟩)) | (go_at_call 153; (with_reducible refine (impl_Luhn.calls k (a0.extract 0 ((ji5) : Int).toNat) t362 _ A8.out).mono ?_); rintro e w' ⟨rfl, ⟨nd, rfl⟩⟩; (try first | exact ⟨rfl, _, World.drewN_drewN _ _ _⟩ | exact ⟨rfl, _, Eq.trans (World.drewN_drewN _ _ _) (congrArg (World.drewN _) (Nat.add_assoc _ _ _))⟩); have p10 : 0 ≤ ((ji5) : Int) := od_; have q10 : (ji5) < (a0.size : Int) := od_; have hx10 := bt_at a0 (ji5); replace p10 := eq_true p10; replace q10 := eq_true q10)); try go_wp2_with (first | (go_at_call 86; (with_reducible refine (impl_Digits.calls k a0 true _ A3.out).mono ?_); rintro e w' ⟨rfl, ⟨nd, rfl⟩⟩; (try first | exact ⟨rfl, _, World.drewN_drewN _ _ _⟩ | exact ⟨rfl, _, Eq.trans (World.drewN_drewN _ _ _) (congrArg (World.drewN _) (Nat.add_assoc _ _ _))⟩)) | (go_at_call 153; (with_reducible refine (impl_Luhn.calls k (a0.extract 0 ((ji5) : Int).toNat) t362 _ A8.out).mono ?_); rintro e w' ⟨rfl, ⟨nd, rfl⟩⟩; (try first | exact ⟨rfl, _, World.drewN_drewN _ _ _⟩ | exact ⟨rfl, _, Eq.trans (World.drewN_drewN _ _ _) (congrArg (World.drewN _) (Nat.add_assoc _ _ _))⟩); have p10 : 0 ≤ ((ji5) : Int) := od_; have q10 : (ji5) < (a0.size : Int) := od_; have hx10 := bt_at a0 (ji5); replace p10 := eq_true p10; replace q10 := eq_true q10)))
   go_ret
   exact ⟨by first | rfl | (simp; done) | (simp only [← hji5] <;> (first | rfl | (simp; done) | (simp [my_isEmpty, my_w256, Go.Proofs.YtohfefkjcnbejaaGreatDoorW.PrintLast.i64_w, Go.Proofs.YtohfefkjcnbejaaGreatDoorW.PrintLast.i32_w, Go.IntKind.wrap_u8, Go.IntKind.wrap_u32]; done))) | (simp [*]; done) | (simp [my_isEmpty, my_w256, Go.Proofs.YtohfefkjcnbejaaGreatDoorW.PrintLast.i64_w, Go.Proofs.YtohfefkjcnbejaaGreatDoorW.PrintLast.i32_w, Go.IntKind.wrap_u8, Go.IntKind.wrap_u32]; done), by repeat (first | exact Drawn0.refl _ | apply Drawn0.step)⟩
  ·rw [if_neg c9] at H
   exact absurd H (by simp)
 ·rw [if_neg c7] at H
  exact absurd H (by simp)
/-! ### impl_AcctIdOk: function 89 -/
def impl_AcctIdOk.f (k : Nat) (a0 : ByteArray) : Option (Bool) := if (a0.size : Int) ≤ 19 then ((impl_LuhnOk.f k a0).bind fun t363 => (some t363)) else (some false)
set_option maxHeartbeats 8000000 in
set_option maxRecDepth 100000 in
theorem impl_AcctIdOk.calls (k : Nat) (a0 : ByteArray) (r : Bool) (w : World) (h : impl_AcctIdOk.f k a0 = some r) :
  Calls Tryz.prog 89 #[.string a0] w fun e w' => e = .returned (.bool r) ∧ Drawn0 w w' := by
 have H : (if (a0.size : Int) ≤ 19 then ((impl_LuhnOk.f k a0).bind fun t363 => (some t363)) else (some false)) = some r := h
 clear h
 by_cases c2 : (a0.size : Int) ≤ 19
 ·rw [if_pos c2] at H
  have c2b0 := decide_eq_true c2
  have c2b1 : decide (a0.size ≤ 19) = true := decide_eq_true (by omega)
  clear c2
  obtain ⟨t363, A3, H⟩ := ob_ H
  obtain rfl := Option.some.inj H
  go_enter Tryz.func89, Tryz.ntmps89
  go_wp2_with (first | (go_at_call 120; (with_reducible refine (impl_LuhnOk.calls k a0 t363 _ A3.out).mono ?_); rintro e w' ⟨rfl, ⟨nd, rfl⟩⟩))
  go_ret
  exact ⟨sp_, by repeat (first | exact Drawn0.refl _ | apply Drawn0.step)⟩
 rw [if_neg c2] at H
 have c2b0 := decide_eq_false c2
 have c2b1 : decide (a0.size ≤ 19) = false := decide_eq_false (by omega)
 clear c2
 obtain rfl := Option.some.inj H
 go_enter Tryz.func89, Tryz.ntmps89
 go_wp2
 go_ret
 exact ⟨sp_, by repeat (first | exact Drawn0.refl _ | apply Drawn0.step)⟩
/-! ### slices_Index_int_int: function 154 -/
def slices_Index_int_int.l0 : Nat → List Int → Int → Int → Int → Option (Int)
 | 0, _, _, _, _ => none
 | k + 1, x0, x1, x7, x8 => if x8 < x7 then (if 0 ≤ x8 then (if x8 < (x0.length : Int) then (if x1 = (rd x0 x8) then (some x8) else (slices_Index_int_int.l0 k x0 x1 x7 (wrap64 (x8 + 1)))) else (none)) else (none)) else (some (-1))
def slices_Index_int_int.f (k : Nat) (l0 : List Int) (a1 : Int) : Option (Int) := slices_Index_int_int.l0 k l0 a1 (l0.length : Int) 0
set_option maxHeartbeats 8000000 in
set_option maxRecDepth 100000 in
theorem slices_Index_int_int.calls (k : Nat) (A0 : Option Addr) (c0 : Nat) (l0 : List Int) (a1 : Int) (r : Int) (w : World) (hr0 : Kd.C (Kd.int .i64) w A0 l0.length l0) (hc0 : l0.length ≤ c0) (h : slices_Index_int_int.f k l0 a1 = some r) :
  Calls Tryz.prog 154 #[.slice A0 l0.length c0, .int .i64 a1] w fun e w' => e = .returned (.int .i64 r) ∧ Drawn0 w w' := by
 have HR0 := Aside0.mk hr0
 have HC0 := Aside0.mk hc0
 clear hr0 hc0
 have H : (slices_Index_int_int.l0 k l0 a1 (l0.length : Int) 0) = some r := h
 clear h
 have H' := Aside0.mk H
 clear H
 go_enter Tryz.func154, Tryz.ntmps154
 go_wp2
 go_loopg [8] k (fun kq v8 w' => ∃ (x8_1 : Int), v8 = .int .i64 x8_1 ∧ Aside0 (slices_Index_int_int.l0 kq l0 a1 (l0.length : Int) x8_1 = some r) ∧ Aside0 (kq ≤ k) ∧ Drawn0 w w')
 case atStart => exact ⟨(0), sp_, H', ⟨Nat.le_refl _⟩, by repeat (first | exact Drawn0.refl _ | apply Drawn0.step)⟩
 case round =>
  clear H'
  obtain ⟨x8_1, rfl, HA, HK1, ⟨m1, rfl⟩⟩ := hrel
  cases gk with
  | zero => exact absurd HA.out (by simp [slices_Index_int_int.l0])
  | succ k1 =>
   have H := HA.out
   clear HA
   simp only [slices_Index_int_int.l0] at H
   by_cases c3 : x8_1 < (l0.length : Int)
   rotate_left
   ·rw [if_neg c3] at H
    have c3b0 := decide_eq_false c3
    clear c3
    obtain rfl := Option.some.inj H
    go_wp2
    go_ret
    exact ⟨sp_, by repeat (first | exact Drawn0.refl _ | apply Drawn0.step)⟩
   rw [if_pos c3] at H
   have c3b0 := decide_eq_true c3
   clear c3
   by_cases c4 : 0 ≤ x8_1
   rotate_left
   ·rw [if_neg c4] at H
    exact absurd H (by simp)
   rw [if_pos c4] at H
   have c4b0 := decide_eq_true c4
   clear c4
   by_cases c5 : x8_1 < (l0.length : Int)
   rotate_left
   ·rw [if_neg c5] at H
    exact absurd H (by simp)
   rw [if_pos c5] at H
   have c5b0 := decide_eq_true c5
   clear c5
   by_cases c6 : a1 = (rd l0 x8_1)
   ·rw [if_pos c6] at H
    have c6b0 := beq_iff_eq.mpr c6
    have c6b1 := bne_eq_false_iff_eq.mpr c6
    clear c6
    obtain rfl := Option.some.inj H
    have p364 : 0 ≤ (x8_1 : Int) := od_
    have q364 : x8_1 < (l0.length : Int) := od_
    obtain ⟨ad364, e364, hx364_0⟩ := Kd.at_int HR0.out x8_1 p364 q364
    cases e364
    replace p364 := eq_true p364
    replace q364 := eq_true q364
    go_wp2
    go_ret
    exact ⟨sp_, by repeat (first | exact Drawn0.refl _ | apply Drawn0.step)⟩
   rw [if_neg c6] at H
   have c6b0 := beq_eq_false_iff_ne.mpr c6
   have c6b1 := bne_iff_ne.mpr c6
   have H' := Aside0.mk H
   clear H
   have p364 : 0 ≤ (x8_1 : Int) := od_
   have q364 : x8_1 < (l0.length : Int) := od_
   obtain ⟨ad364, e364, hx364_0⟩ := Kd.at_int HR0.out x8_1 p364 q364
   cases e364
   replace p364 := eq_true p364
   replace q364 := eq_true q364
   go_wp2
   go_roundg k1
   case measure => have := HK1.out; omega
   case rel => exact ⟨(wrap64 (x8_1 + 1)), sp_, H', ⟨by have := HK1.out; omega⟩, by repeat (first | exact Drawn0.refl _ | apply Drawn0.step)⟩
/-! ### slices_Contains_int_int: function 121 -/
def slices_Contains_int_int.f (k : Nat) (l0 : List Int) (a1 : Int) : Option (Bool) := (slices_Index_int_int.f k l0 a1).bind fun t365 => (some (decide (t365 ≥ 0)))
set_option maxHeartbeats 8000000 in
set_option maxRecDepth 100000 in
theorem slices_Contains_int_int.calls (k : Nat) (A0 : Option Addr) (c0 : Nat) (l0 : List Int) (a1 : Int) (r : Bool) (w : World) (hr0 : Kd.C (Kd.int .i64) w A0 l0.length l0) (hc0 : l0.length ≤ c0) (h : slices_Contains_int_int.f k l0 a1 = some r) :
  Calls Tryz.prog 121 #[.slice A0 l0.length c0, .int .i64 a1] w fun e w' => e = .returned (.bool r) ∧ Drawn0 w w' := by
 have HR0 := Aside0.mk hr0
 have HC0 := Aside0.mk hc0
 clear hr0 hc0
 have H : ((slices_Index_int_int.f k l0 a1).bind fun t365 => (some (decide (t365 ≥ 0)))) = some r := h
 clear h
 obtain ⟨t365, A3, H⟩ := ob_ H
 obtain rfl := Option.some.inj H
 go_enter Tryz.func121, Tryz.ntmps121
 go_wp2_with (first | ((with_reducible refine gc_ 154 7 Tryz.func154 #[.slice A0 l0.length c0, .int .i64 a1] ?_); (with_reducible refine (slices_Index_int_int.calls k _ _ l0 a1 t365 _ ?side1 ?side2 A3.out).mono ?_); (case side1 => exact ca_ (HR0.out)); (case side2 => exact HC0.out); rintro e w' ⟨rfl, ⟨nd, rfl⟩⟩; refine ⟨_, rfl, ?_⟩))
 go_ret
 exact ⟨sp_, by repeat (first | exact Drawn0.refl _ | apply Drawn0.step)⟩
/-! ### impl_uses: function 90 -/
def impl_uses.f (k : Nat) (a0 : Int) (a1 : Int) : Option (Bool) := (impl_opOf.f a0).bind fun bt366 => ((slices_Contains_int_int.f k bt366.2.2.2 a1).bind fun t372 => (some t372))
set_option maxHeartbeats 8000000 in
set_option maxRecDepth 100000 in
theorem impl_uses.calls (k : Nat) (a0 : Int) (a1 : Int) (r : Bool) (w : World) (h : impl_uses.f k a0 a1 = some r) :
  Calls Tryz.prog 90 #[.int .i64 a0, .int .i64 a1] w fun e w' => e = .returned (.bool r) ∧ Below w.heap.size w w' := by
 have hfl74_3 : ∀ (x0_ x1_ x2_ x3_ : Value) (w : World), (Instr.field 74 (.agg #[x0_, x1_, x2_, x3_]) 3).run Tryz.prog w = .ok x3_ w := by intros; kernel_rfl
 have HB := Aside0.mk (Below.refl w.heap.size w)
 have H : ((impl_opOf.f a0).bind fun bt366 => ((slices_Contains_int_int.f k bt366.2.2.2 a1).bind fun t372 => (some t372))) = some r := h
 clear h
 obtain ⟨⟨t366, t367, t368, t369⟩, A3, H⟩ := ob_ H
 (try dsimp only at H)
 obtain ⟨t372, A4, H⟩ := ob_ H
 obtain rfl := Option.some.inj H
 go_enter Tryz.func90, Tryz.ntmps90
 go_wp2_with (first | ((with_reducible refine gc_ 52 6 Tryz.func52 #[.int .i64 a0] ?_); (with_reducible refine (impl_opOf.calls a0 t366 t367 t368 t369 _ A3.out).mono ?_); rintro e w5 ⟨v370, rfl, ho0, hb⟩; refine ⟨_, rfl, ?_⟩; have HO371 := Aside0.mk (Kd.V_lower (Kd.V_mono (ok' := fun k_ => True) ho0 (fun k_ hk_ => trivial)) (below_size bl_)); replace HB := hs_ hb; clear hb; (try clear ho0); obtain ⟨Ao6, co6, eo6⟩ := Kd.V_slice HO371.out; subst eo6) | ((with_reducible refine gc_ 121 9 Tryz.func121 #[.slice Ao6 t369.length co6, .int .i64 a1] ?_); (with_reducible refine (slices_Contains_int_int.calls k _ _ t369 a1 t372 _ ?side1 ?side2 A4.out).mono ?_); (case side1 => exact ca_ ((Kd.V_reads' HO371.out).2.2)); (case side2 => exact (Kd.V_reads' HO371.out).2.1); rintro e w' ⟨rfl, ⟨nd, rfl⟩⟩; refine ⟨_, rfl, ?_⟩))
 go_ret
 exact ⟨sq_, bl_⟩
/-! ### impl_HoldIdOk: function 91 -/
def impl_HoldIdOk.l0 : Nat → ByteArray → Int → Int → Option (Bool)
 | 0, _, _, _ => none
 | k + 1, x0, x5, x6 => if x6 < x5 then (if 0 ≤ x6 then (if x6 < (x0.size : Int) then (if (bt x0 x6) < 48 then (if (bt x0 x6) < 97 then (some false) else (if (bt x0 x6) > 122 then (some false) else (impl_HoldIdOk.l0 k x0 x5 (wrap64 (x6 + 1))))) else (if (bt x0 x6) > 57 then (if (bt x0 x6) < 97 then (some false) else (if (bt x0 x6) > 122 then (some false) else (impl_HoldIdOk.l0 k x0 x5 (wrap64 (x6 + 1))))) else (impl_HoldIdOk.l0 k x0 x5 (wrap64 (x6 + 1))))) else (none)) else (none)) else ((impl_within.f (x0.size : Int) 1 6).bind fun t373 => (some t373))
def impl_HoldIdOk.f (k : Nat) (a0 : ByteArray) : Option (Bool) := impl_HoldIdOk.l0 k a0 (a0.size : Int) 0
set_option maxHeartbeats 8000000 in
set_option maxRecDepth 100000 in
theorem impl_HoldIdOk.calls (k : Nat) (a0 : ByteArray) (r : Bool) (w : World) (h : impl_HoldIdOk.f k a0 = some r) :
  Calls Tryz.prog 91 #[.string a0] w fun e w' => e = .returned (.bool r) ∧ Drawn0 w w' := by
 have H : (impl_HoldIdOk.l0 k a0 (a0.size : Int) 0) = some r := h
 clear h
 have H' := Aside0.mk H
 clear H
 go_enter Tryz.func91, Tryz.ntmps91
 go_wp2
 go_loopg [6] k (fun kq v6 w' => ∃ (x6_1 : Int), v6 = .int .i64 x6_1 ∧ Aside0 (impl_HoldIdOk.l0 kq a0 (a0.size : Int) x6_1 = some r) ∧ Aside0 (kq ≤ k) ∧ Drawn0 w w')
 case atStart => exact ⟨(0), sp_, H', ⟨Nat.le_refl _⟩, by repeat (first | exact Drawn0.refl _ | apply Drawn0.step)⟩
 case round =>
  clear H'
  obtain ⟨x6_1, rfl, HA, HK1, ⟨m1, rfl⟩⟩ := hrel
  cases gk with
  | zero => exact absurd HA.out (by simp [impl_HoldIdOk.l0])
  | succ k1 =>
   have H := HA.out
   clear HA
   simp only [impl_HoldIdOk.l0] at H
   by_cases c2 : x6_1 < (a0.size : Int)
   rotate_left
   ·rw [if_neg c2] at H
    have c2b0 := decide_eq_false c2
    clear c2
    obtain ⟨t373, A17, H⟩ := ob_ H
    obtain rfl := Option.some.inj H
    go_wp2_with (first | ((with_reducible refine gc_ 71 34 Tryz.func71 #[.int .i64 (a0.size : Int), .int .i64 1, .int .i64 6] ?_); (with_reducible refine (impl_within.calls (a0.size : Int) 1 6 t373 _ A17.out).mono ?_); rintro e w' ⟨rfl, ⟨nd, rfl⟩⟩; refine ⟨_, rfl, ?_⟩))
    go_ret
    exact ⟨sp_, by repeat (first | exact Drawn0.refl _ | apply Drawn0.step)⟩
   rw [if_pos c2] at H
   have c2b0 := decide_eq_true c2
   clear c2
   by_cases c3 : 0 ≤ x6_1
   rotate_left
   ·rw [if_neg c3] at H
    exact absurd H (by simp)
   rw [if_pos c3] at H
   have c3b0 := decide_eq_true c3
   clear c3
   by_cases c4 : x6_1 < (a0.size : Int)
   rotate_left
   ·rw [if_neg c4] at H
    exact absurd H (by simp)
   rw [if_pos c4] at H
   have c4b0 := decide_eq_true c4
   clear c4
   by_cases c6 : (bt a0 x6_1) < 48
   ·rw [if_pos c6] at H
    have c6b0 := decide_eq_true c6
    clear c6
    by_cases c8 : (bt a0 x6_1) < 97
    ·rw [if_pos c8] at H
     have c8b0 := decide_eq_true c8
     clear c8
     obtain rfl := Option.some.inj H
     have p5 : 0 ≤ (x6_1 : Int) := od_
     have q5 : x6_1 < (a0.size : Int) := od_
     have hx5 := bt_at a0 x6_1
     replace p5 := eq_true p5
     replace q5 := eq_true q5
     have p7 : 0 ≤ (x6_1 : Int) := od_
     have q7 : x6_1 < (a0.size : Int) := od_
     have hx7 := bt_at a0 x6_1
     replace p7 := eq_true p7
     replace q7 := eq_true q7
     go_wp2
     go_ret
     exact ⟨sp_, by repeat (first | exact Drawn0.refl _ | apply Drawn0.step)⟩
    rw [if_neg c8] at H
    have c8b0 := decide_eq_false c8
    clear c8
    by_cases c10 : (bt a0 x6_1) > 122
    ·rw [if_pos c10] at H
     have c10b0 := decide_eq_true c10
     clear c10
     obtain rfl := Option.some.inj H
     have p5 : 0 ≤ (x6_1 : Int) := od_
     have q5 : x6_1 < (a0.size : Int) := od_
     have hx5 := bt_at a0 x6_1
     replace p5 := eq_true p5
     replace q5 := eq_true q5
     have p7 : 0 ≤ (x6_1 : Int) := od_
     have q7 : x6_1 < (a0.size : Int) := od_
     have hx7 := bt_at a0 x6_1
     replace p7 := eq_true p7
     replace q7 := eq_true q7
     have p9 : 0 ≤ (x6_1 : Int) := od_
     have q9 : x6_1 < (a0.size : Int) := od_
     have hx9 := bt_at a0 x6_1
     replace p9 := eq_true p9
     replace q9 := eq_true q9
     go_wp2
     go_ret
     exact ⟨sp_, by repeat (first | exact Drawn0.refl _ | apply Drawn0.step)⟩
    rw [if_neg c10] at H
    have c10b0 := decide_eq_false c10
    clear c10
    have H' := Aside0.mk H
    clear H
    have p5 : 0 ≤ (x6_1 : Int) := od_
    have q5 : x6_1 < (a0.size : Int) := od_
    have hx5 := bt_at a0 x6_1
    replace p5 := eq_true p5
    replace q5 := eq_true q5
    have p7 : 0 ≤ (x6_1 : Int) := od_
    have q7 : x6_1 < (a0.size : Int) := od_
    have hx7 := bt_at a0 x6_1
    replace p7 := eq_true p7
    replace q7 := eq_true q7
    have p9 : 0 ≤ (x6_1 : Int) := od_
    have q9 : x6_1 < (a0.size : Int) := od_
    have hx9 := bt_at a0 x6_1
    replace p9 := eq_true p9
    replace q9 := eq_true q9
    go_wp2
    go_roundg k1
    case measure => have := HK1.out; omega
    case rel => exact ⟨(wrap64 (x6_1 + 1)), sp_, H', ⟨by have := HK1.out; omega⟩, by repeat (first | exact Drawn0.refl _ | apply Drawn0.step)⟩
   rw [if_neg c6] at H
   have c6b0 := decide_eq_false c6
   clear c6
   by_cases c12 : (bt a0 x6_1) > 57
   rotate_left
   ·rw [if_neg c12] at H
    have c12b0 := decide_eq_false c12
    clear c12
    have H' := Aside0.mk H
    clear H
    have p5 : 0 ≤ (x6_1 : Int) := od_
    have q5 : x6_1 < (a0.size : Int) := od_
    have hx5 := bt_at a0 x6_1
    replace p5 := eq_true p5
    replace q5 := eq_true q5
    have p11 : 0 ≤ (x6_1 : Int) := od_
    have q11 : x6_1 < (a0.size : Int) := od_
    have hx11 := bt_at a0 x6_1
    replace p11 := eq_true p11
    replace q11 := eq_true q11
    go_wp2
    go_roundg k1
    case measure => have := HK1.out; omega
    case rel => exact ⟨(wrap64 (x6_1 + 1)), sp_, H', ⟨by have := HK1.out; omega⟩, by repeat (first | exact Drawn0.refl _ | apply Drawn0.step)⟩
   rw [if_pos c12] at H
   have c12b0 := decide_eq_true c12
   clear c12
   by_cases c14 : (bt a0 x6_1) < 97
   ·rw [if_pos c14] at H
    have c14b0 := decide_eq_true c14
    clear c14
    obtain rfl := Option.some.inj H
    have p5 : 0 ≤ (x6_1 : Int) := od_
    have q5 : x6_1 < (a0.size : Int) := od_
    have hx5 := bt_at a0 x6_1
    replace p5 := eq_true p5
    replace q5 := eq_true q5
    have p11 : 0 ≤ (x6_1 : Int) := od_
    have q11 : x6_1 < (a0.size : Int) := od_
    have hx11 := bt_at a0 x6_1
    replace p11 := eq_true p11
    replace q11 := eq_true q11
    have p13 : 0 ≤ (x6_1 : Int) := od_
    have q13 : x6_1 < (a0.size : Int) := od_
    have hx13 := bt_at a0 x6_1
    replace p13 := eq_true p13
    replace q13 := eq_true q13
    go_wp2
    go_ret
    exact ⟨sp_, by repeat (first | exact Drawn0.refl _ | apply Drawn0.step)⟩
   rw [if_neg c14] at H
   have c14b0 := decide_eq_false c14
   clear c14
   by_cases c16 : (bt a0 x6_1) > 122
   ·rw [if_pos c16] at H
    have c16b0 := decide_eq_true c16
    clear c16
    obtain rfl := Option.some.inj H
    have p5 : 0 ≤ (x6_1 : Int) := od_
    have q5 : x6_1 < (a0.size : Int) := od_
    have hx5 := bt_at a0 x6_1
    replace p5 := eq_true p5
    replace q5 := eq_true q5
    have p11 : 0 ≤ (x6_1 : Int) := od_
    have q11 : x6_1 < (a0.size : Int) := od_
    have hx11 := bt_at a0 x6_1
    replace p11 := eq_true p11
    replace q11 := eq_true q11
    have p13 : 0 ≤ (x6_1 : Int) := od_
    have q13 : x6_1 < (a0.size : Int) := od_
    have hx13 := bt_at a0 x6_1
    replace p13 := eq_true p13
    replace q13 := eq_true q13
    have p15 : 0 ≤ (x6_1 : Int) := od_
    have q15 : x6_1 < (a0.size : Int) := od_
    have hx15 := bt_at a0 x6_1
    replace p15 := eq_true p15
    replace q15 := eq_true q15
    go_wp2
    go_ret
    exact ⟨sp_, by repeat (first | exact Drawn0.refl _ | apply Drawn0.step)⟩
   rw [if_neg c16] at H
   have c16b0 := decide_eq_false c16
   clear c16
   have H' := Aside0.mk H
   clear H
   have p5 : 0 ≤ (x6_1 : Int) := od_
   have q5 : x6_1 < (a0.size : Int) := od_
   have hx5 := bt_at a0 x6_1
   replace p5 := eq_true p5
   replace q5 := eq_true q5
   have p11 : 0 ≤ (x6_1 : Int) := od_
   have q11 : x6_1 < (a0.size : Int) := od_
   have hx11 := bt_at a0 x6_1
   replace p11 := eq_true p11
   replace q11 := eq_true q11
   have p13 : 0 ≤ (x6_1 : Int) := od_
   have q13 : x6_1 < (a0.size : Int) := od_
   have hx13 := bt_at a0 x6_1
   replace p13 := eq_true p13
   replace q13 := eq_true q13
   have p15 : 0 ≤ (x6_1 : Int) := od_
   have q15 : x6_1 < (a0.size : Int) := od_
   have hx15 := bt_at a0 x6_1
   replace p15 := eq_true p15
   replace q15 := eq_true q15
   go_wp2
   go_roundg k1
   case measure => have := HK1.out; omega
   case rel => exact ⟨(wrap64 (x6_1 + 1)), sp_, H', ⟨by have := HK1.out; omega⟩, by repeat (first | exact Drawn0.refl _ | apply Drawn0.step)⟩
/-! ### impl_ReqOk: function 55 -/
mutual
def impl_ReqOk.j0 : Nat → Bool → Int → ByteArray → ByteArray → ByteArray → ByteArray → ByteArray → Int → Int → Option (Bool)
 | 0, _, _, _, _, _, _, _, _, _ => none
 | k + 1, x32, x375000, x375001, x375002, x375003, x375004, x375005, x375006, x375007 => if x32 = true then (some false) else ((impl_uses.f k x375000 38).bind fun t384 => (if t384 = true then ((impl_HoldIdOk.f k x375003).bind fun t385 => (impl_ReqOk.j1 k t385 (x375006 == 0) (x375007 == 0) (x375002.toList == ([] : List UInt8)) x375000 x375001 x375002 x375003 x375004 x375005 x375006 x375007)) else (impl_ReqOk.j1 k (x375003.toList == ([] : List UInt8)) (x375006 == 0) (x375007 == 0) (x375002.toList == ([] : List UInt8)) x375000 x375001 x375002 x375003 x375004 x375005 x375006 x375007)))
def impl_ReqOk.j1 : Nat → Bool → Bool → Bool → Bool → Int → ByteArray → ByteArray → ByteArray → ByteArray → ByteArray → Int → Int → Option (Bool)
 | 0, _, _, _, _, _, _, _, _, _, _, _, _ => none
 | k + 1, x4, x5, x6, x7, x375000, x375001, x375002, x375003, x375004, x375005, x375006, x375007 => (impl_uses.f k x375000 4).bind fun t386 => (if t386 = true then ((impl_within.f x375006 0 999999999999).bind fun t387 => (impl_ReqOk.j2 k x4 t387 x6 x7 x375000 x375001 x375002 x375003 x375004 x375005 x375006 x375007)) else (impl_ReqOk.j2 k x4 x5 x6 x7 x375000 x375001 x375002 x375003 x375004 x375005 x375006 x375007))
def impl_ReqOk.j2 : Nat → Bool → Bool → Bool → Bool → Int → ByteArray → ByteArray → ByteArray → ByteArray → ByteArray → Int → Int → Option (Bool)
 | 0, _, _, _, _, _, _, _, _, _, _, _, _ => none
 | k + 1, x4, x5, x6, x7, x375000, x375001, x375002, x375003, x375004, x375005, x375006, x375007 => (impl_uses.f k x375000 14).bind fun t388 => (if t388 = true then ((impl_within.f x375007 0 9999).bind fun t389 => (impl_ReqOk.j3 k x4 x5 t389 x7 x375000 x375001 x375002 x375003 x375004 x375005 x375006 x375007)) else (impl_ReqOk.j3 k x4 x5 x6 x7 x375000 x375001 x375002 x375003 x375004 x375005 x375006 x375007))
def impl_ReqOk.j3 : Nat → Bool → Bool → Bool → Bool → Int → ByteArray → ByteArray → ByteArray → ByteArray → ByteArray → Int → Int → Option (Bool)
 | 0, _, _, _, _, _, _, _, _, _, _, _, _ => none
 | k + 1, x4, x5, x6, x7, x375000, x375001, x375002, x375003, x375004, x375005, x375006, x375007 => (impl_uses.f k x375000 103).bind fun t390 => (if t390 = true then ((impl_AcctIdOk.f k x375002).bind fun t391 => (if x4 = true then (if x5 = true then (if x6 = true then (some t391) else (some false)) else (some false)) else (some false))) else (if x4 = true then (if x5 = true then (if x6 = true then (some x7) else (some false)) else (some false)) else (some false)))
end
def impl_ReqOk.f (k : Nat) (a0_0 : Int) (a0_1 : ByteArray) (a0_2 : ByteArray) (a0_3 : ByteArray) (a0_4 : ByteArray) (a0_5 : ByteArray) (a0_6 : Int) (a0_7 : Int) : Option (Bool) := (impl_opOf.f a0_0).bind fun bt375 => (if bt375.2.2.1.toList = ([] : List UInt8) then (impl_ReqOk.j0 k true a0_0 a0_1 a0_2 a0_3 a0_4 a0_5 a0_6 a0_7) else (if a0_5.toList = bt375.1.toList then ((impl_AcctIdOk.f k a0_1).bind fun t382 => (if t382 = true then ((impl_isWide.f k a0_4 6).bind fun t383 => (impl_ReqOk.j0 k (!t383) a0_0 a0_1 a0_2 a0_3 a0_4 a0_5 a0_6 a0_7)) else (impl_ReqOk.j0 k true a0_0 a0_1 a0_2 a0_3 a0_4 a0_5 a0_6 a0_7))) else (impl_ReqOk.j0 k true a0_0 a0_1 a0_2 a0_3 a0_4 a0_5 a0_6 a0_7)))
set_option maxHeartbeats 8000000 in
set_option maxRecDepth 100000 in
theorem impl_ReqOk.calls (k : Nat) (a0_0 : Int) (a0_1 : ByteArray) (a0_2 : ByteArray) (a0_3 : ByteArray) (a0_4 : ByteArray) (a0_5 : ByteArray) (a0_6 : Int) (a0_7 : Int) (r : Bool) (w : World) (h : impl_ReqOk.f k a0_0 a0_1 a0_2 a0_3 a0_4 a0_5 a0_6 a0_7 = some r) :
  Calls Tryz.prog 55 #[.agg #[.int .i64 a0_0, .string a0_1, .string a0_2, .string a0_3, .string a0_4, .string a0_5, .int .i64 a0_6, .int .i64 a0_7]] w fun e w' => e = .returned (.bool r) ∧ Below w.heap.size w w' := by
 have hu27 := Tryz.underlying27
 have hu74 := Tryz.underlying74
 have HB := Aside0.mk (Below.refl w.heap.size w)
 have H : ((impl_opOf.f a0_0).bind fun bt375 => (if bt375.2.2.1.toList = ([] : List UInt8) then (impl_ReqOk.j0 k true a0_0 a0_1 a0_2 a0_3 a0_4 a0_5 a0_6 a0_7) else (if a0_5.toList = bt375.1.toList then ((impl_AcctIdOk.f k a0_1).bind fun t382 => (if t382 = true then ((impl_isWide.f k a0_4 6).bind fun t383 => (impl_ReqOk.j0 k (!t383) a0_0 a0_1 a0_2 a0_3 a0_4 a0_5 a0_6 a0_7)) else (impl_ReqOk.j0 k true a0_0 a0_1 a0_2 a0_3 a0_4 a0_5 a0_6 a0_7))) else (impl_ReqOk.j0 k true a0_0 a0_1 a0_2 a0_3 a0_4 a0_5 a0_6 a0_7)))) = some r := h
 clear h
 obtain ⟨⟨t375, t376, t377, t378⟩, A2, H⟩ := ob_ H
 (try dsimp only at H)
 have HC3 := Aside0.mk H
 clear H
 go_enter Tryz.func55, Tryz.ntmps55
 go_upto_region 2 with (first | ((with_reducible refine gate_dst (N := 1) rfl ?_); refine be_ (N := 1) (cs := #[.int .i64 a0_0, .string a0_1, .string a0_2, .string a0_3, .string a0_4, .string a0_5, .int .i64 a0_6, .int .i64 a0_7]) (t := 27) ?_; intro gb374 hg w4 hbox hb; have BK374 := Aside0.mk (hbox); have GW374 := gw_ (w := w) hg; have GE374 := gw_ (w := w) hg; replace HB := hs_ hb; clear hb hbox hg; obtain ⟨hcz5_0, hcz5_1, hcz5_2, hcz5_3, hcz5_4, hcz5_5, hcz5_6, hcz5_7, hfz5_0, hfz5_1, hfz5_2, hfz5_3, hfz5_4, hfz5_5, hfz5_6, hfz5_7⟩ := bx8_ BK374) | (go_at_call 52; (with_reducible refine (impl_opOf.calls a0_0 t375 t376 t377 t378 _ A2.out).mono ?_); rintro e w6 ⟨v379, rfl, ho0, hb⟩; have HO380 := Aside0.mk (Kd.V_lower (Kd.V_mono (ok' := fun k_ => k_ ≠ gb374) ho0 (fun k_ hk_ => (Kd.freshB (bk_ BK374) k_ hk_))) (below_size bl_)); replace BK374 := kb_ BK374 hb; replace HB := hs_ hb; clear hb; (try clear ho0)) | ((with_reducible refine gate_dst (N := 3) rfl ?_); refine be_ (N := 3) (cs := #[.string (⟨#[]⟩ : ByteArray), .string (⟨#[]⟩ : ByteArray), .string (⟨#[]⟩ : ByteArray), .slice none 0 0]) (t := 74) ?_; intro gb381 hg w7 hbox hb; replace HO380 := Aside0.mk (Kd.V_below (Kd.V_elderB (by (with_reducible repeat (first | apply Kd.V_alloc | apply Kd.V_drewN | apply Kd.V_drew)); exact HO380.out) gb381 (Nat.le_of_eq hg.symm)) hb); have BK381 := Aside0.mk (hbox); have GW381 := gw_ (w := w) hg; have GE381 := gw_ (w := w) hg; replace HB := hs_ hb; have NB374_381 := Aside0.mk ((by rw [hg]; exact Nat.ne_of_lt (blk_lt (bk_ BK374)) : gb374 ≠ gb381)); have NB381_374 := Aside0.mk ((by rw [hg]; exact Nat.ne_of_gt (blk_lt (bk_ BK374)) : gb381 ≠ gb374)); replace BK374 := kb_ BK374 hb; clear hb hbox hg; have hnb8 := NB381_374.out; have hnc8 := NB374_381.out; obtain ⟨hcz9_0, hcz9_1, hcz9_2, hcz9_3, hfz9_0, hfz9_1, hfz9_2, hfz9_3⟩ := bx4_ BK381; obtain ⟨Ao10, co10, eo10⟩ := Kd.V_slice HO380.out; subst eo10))
 repeat (go_quiet (first | ((with_reducible refine gate_dst (N := 1) rfl ?_); refine be_ (N := 1) (cs := #[.int .i64 a0_0, .string a0_1, .string a0_2, .string a0_3, .string a0_4, .string a0_5, .int .i64 a0_6, .int .i64 a0_7]) (t := 27) ?_; intro gb374 hg w4 hbox hb; have BK374 := Aside0.mk (hbox); have GW374 := gw_ (w := w) hg; have GE374 := gw_ (w := w) hg; replace HB := hs_ hb; clear hb hbox hg; obtain ⟨hcz5_0, hcz5_1, hcz5_2, hcz5_3, hcz5_4, hcz5_5, hcz5_6, hcz5_7, hfz5_0, hfz5_1, hfz5_2, hfz5_3, hfz5_4, hfz5_5, hfz5_6, hfz5_7⟩ := bx8_ BK374) | (go_at_call 52; (with_reducible refine (impl_opOf.calls a0_0 t375 t376 t377 t378 _ A2.out).mono ?_); rintro e w6 ⟨v379, rfl, ho0, hb⟩; have HO380 := Aside0.mk (Kd.V_lower (Kd.V_mono (ok' := fun k_ => k_ ≠ gb374) ho0 (fun k_ hk_ => (Kd.freshB (bk_ BK374) k_ hk_))) (below_size bl_)); replace BK374 := kb_ BK374 hb; replace HB := hs_ hb; clear hb; (try clear ho0)) | ((with_reducible refine gate_dst (N := 3) rfl ?_); refine be_ (N := 3) (cs := #[.string (⟨#[]⟩ : ByteArray), .string (⟨#[]⟩ : ByteArray), .string (⟨#[]⟩ : ByteArray), .slice none 0 0]) (t := 74) ?_; intro gb381 hg w7 hbox hb; replace HO380 := Aside0.mk (Kd.V_below (Kd.V_elderB (by (with_reducible repeat (first | apply Kd.V_alloc | apply Kd.V_drewN | apply Kd.V_drew)); exact HO380.out) gb381 (Nat.le_of_eq hg.symm)) hb); have BK381 := Aside0.mk (hbox); have GW381 := gw_ (w := w) hg; have GE381 := gw_ (w := w) hg; replace HB := hs_ hb; have NB374_381 := Aside0.mk ((by rw [hg]; exact Nat.ne_of_lt (blk_lt (bk_ BK374)) : gb374 ≠ gb381)); have NB381_374 := Aside0.mk ((by rw [hg]; exact Nat.ne_of_gt (blk_lt (bk_ BK374)) : gb381 ≠ gb374)); replace BK374 := kb_ BK374 hb; clear hb hbox hg; have hnb8 := NB381_374.out; have hnc8 := NB374_381.out; obtain ⟨hcz9_0, hcz9_1, hcz9_2, hcz9_3, hfz9_0, hfz9_1, hfz9_2, hfz9_3⟩ := bx4_ BK381; obtain ⟨Ao10, co10, eo10⟩ := Kd.V_slice HO380.out; subst eo10)); go_upto_region 2 with (first | ((with_reducible refine gate_dst (N := 1) rfl ?_); refine be_ (N := 1) (cs := #[.int .i64 a0_0, .string a0_1, .string a0_2, .string a0_3, .string a0_4, .string a0_5, .int .i64 a0_6, .int .i64 a0_7]) (t := 27) ?_; intro gb374 hg w4 hbox hb; have BK374 := Aside0.mk (hbox); have GW374 := gw_ (w := w) hg; have GE374 := gw_ (w := w) hg; replace HB := hs_ hb; clear hb hbox hg; obtain ⟨hcz5_0, hcz5_1, hcz5_2, hcz5_3, hcz5_4, hcz5_5, hcz5_6, hcz5_7, hfz5_0, hfz5_1, hfz5_2, hfz5_3, hfz5_4, hfz5_5, hfz5_6, hfz5_7⟩ := bx8_ BK374) | (go_at_call 52; (with_reducible refine (impl_opOf.calls a0_0 t375 t376 t377 t378 _ A2.out).mono ?_); rintro e w6 ⟨v379, rfl, ho0, hb⟩; have HO380 := Aside0.mk (Kd.V_lower (Kd.V_mono (ok' := fun k_ => k_ ≠ gb374) ho0 (fun k_ hk_ => (Kd.freshB (bk_ BK374) k_ hk_))) (below_size bl_)); replace BK374 := kb_ BK374 hb; replace HB := hs_ hb; clear hb; (try clear ho0)) | ((with_reducible refine gate_dst (N := 3) rfl ?_); refine be_ (N := 3) (cs := #[.string (⟨#[]⟩ : ByteArray), .string (⟨#[]⟩ : ByteArray), .string (⟨#[]⟩ : ByteArray), .slice none 0 0]) (t := 74) ?_; intro gb381 hg w7 hbox hb; replace HO380 := Aside0.mk (Kd.V_below (Kd.V_elderB (by (with_reducible repeat (first | apply Kd.V_alloc | apply Kd.V_drewN | apply Kd.V_drew)); exact HO380.out) gb381 (Nat.le_of_eq hg.symm)) hb); have BK381 := Aside0.mk (hbox); have GW381 := gw_ (w := w) hg; have GE381 := gw_ (w := w) hg; replace HB := hs_ hb; have NB374_381 := Aside0.mk ((by rw [hg]; exact Nat.ne_of_lt (blk_lt (bk_ BK374)) : gb374 ≠ gb381)); have NB381_374 := Aside0.mk ((by rw [hg]; exact Nat.ne_of_gt (blk_lt (bk_ BK374)) : gb381 ≠ gb374)); replace BK374 := kb_ BK374 hb; clear hb hbox hg; have hnb8 := NB381_374.out; have hnc8 := NB374_381.out; obtain ⟨hcz9_0, hcz9_1, hcz9_2, hcz9_3, hfz9_0, hfz9_1, hfz9_2, hfz9_3⟩ := bx4_ BK381; obtain ⟨Ao10, co10, eo10⟩ := Kd.V_slice HO380.out; subst eo10)))
 (try simp only [Act.put, List.setIfInBounds_toArray, List.set_cons_zero, List.set_cons_succ])
 go_cut [32] (fun v32 wc => ∃ (kq : Nat) (x32_2 : Bool), v32 = .bool x32_2 ∧ Aside0 (impl_ReqOk.j0 kq x32_2 a0_0 a0_1 a0_2 a0_3 a0_4 a0_5 a0_6 a0_7 = some r) ∧ Aside0 (kq ≤ k) ∧ Aside0 (Kd.V (Kd.int .i64) 3 wc w.heap.size (fun k_ => k_ ≠ gb374 ∧ k_ ≠ gb381) (.slice Ao10 t378.length co10) t378) ∧ Aside0 (wc.heap[gb374]? = some (.cells #[.int .i64 a0_0, .string a0_1, .string a0_2, .string a0_3, .string a0_4, .string a0_5, .int .i64 a0_6, .int .i64 a0_7] 27 (0, 0))) ∧ Aside0 (wc.heap[gb381]? = some (.cells #[.string t375, .string t376, .string t377, (.slice Ao10 t378.length co10)] 74 (0, 0))) ∧ Aside0 (Below w.heap.size w wc))
 case first =>
  have H := HC3.out
  clear HC3
  by_cases c11 : t377.toList = ([] : List UInt8)
  ·rw [if_pos c11] at H
   have c11b0 := beq_iff_eq.mpr c11
   have c11b1 := bne_eq_false_iff_eq.mpr c11
   clear c11
   (first | rw [c11b0] | (simp only [i64_w, i32_w]; rw [c11b0]) | skip)
   have H' := Aside0.mk H
   clear H
   have hnb12 := NB381_374.out
   have hnc12 := NB374_381.out
   obtain ⟨hcz13_0, hcz13_1, hcz13_2, hcz13_3, hfz13_0, hfz13_1, hfz13_2, hfz13_3⟩ := bx4_ BK381
   go_wp2
   repeat (go_quiet (fail); try go_wp2)
   go_meet
   case rel => exact ⟨_, (true), sp_, H', ⟨by first | omega | exact Nat.le_refl _⟩, ⟨by (with_reducible repeat (first | apply Kd.V_alloc | apply Kd.V_drewN | apply Kd.V_drew)); exact Kd.V_mono (Kd.V_far (p := ⟨gb381, 3, none⟩) (Kd.V_far (p := ⟨gb381, 2, none⟩) (Kd.V_far (p := ⟨gb381, 1, none⟩) (Kd.V_far (p := ⟨gb381, 0, none⟩) (Kd.V_mono HO380.out (fun k_ hk => (⟨hk, hk.2⟩ : _ ∧ k_ ≠ gb381))) (fun _ hk => hk.2) (.string t375)) (fun _ hk => hk.2) (.string t376)) (fun _ hk => hk.2) (.string t377)) (fun _ hk => hk.2) (.slice Ao10 t378.length co10)) (fun _ hk => ⟨hk.1.1, hk.1.2⟩)⟩, ⟨by (with_reducible repeat (first | refine blk_drewN ?_ _ | refine blk_drew ?_ | refine blk_alloc ?_ _)); refine blk_far ?_ NB374_381.out _; (with_reducible repeat (first | refine blk_drewN ?_ _ | refine blk_drew ?_ | refine blk_alloc ?_ _)); refine blk_far ?_ NB374_381.out _; (with_reducible repeat (first | refine blk_drewN ?_ _ | refine blk_drew ?_ | refine blk_alloc ?_ _)); refine blk_far ?_ NB374_381.out _; (with_reducible repeat (first | refine blk_drewN ?_ _ | refine blk_drew ?_ | refine blk_alloc ?_ _)); refine blk_far ?_ NB374_381.out _; (with_reducible repeat (first | refine blk_drewN ?_ _ | refine blk_drew ?_ | refine blk_alloc ?_ _)); exact BK374.out⟩, ⟨by (with_reducible repeat (first | refine blk_drewN ?_ _ | refine blk_drew ?_ | refine blk_alloc ?_ _)); apply bq4_3_2_1_0_; (with_reducible repeat (first | refine blk_drewN ?_ _ | refine blk_drew ?_ | refine blk_alloc ?_ _)); exact BK381.out⟩, ⟨bl_⟩⟩
  rw [if_neg c11] at H
  have c11b0 := beq_eq_false_iff_ne.mpr c11
  have c11b1 := bne_iff_ne.mpr c11
  (first | rw [c11b0] | (simp only [i64_w, i32_w]; rw [c11b0]) | skip)
  by_cases c14 : a0_5.toList = t375.toList
  rotate_left
  ·rw [if_neg c14] at H
   have c14b0 := beq_eq_false_iff_ne.mpr c14
   have c14b1 := bne_iff_ne.mpr c14
   have H' := Aside0.mk H
   clear H
   have hnb24 := NB381_374.out
   have hnc24 := NB374_381.out
   obtain ⟨hcz25_0, hcz25_1, hcz25_2, hcz25_3, hfz25_0, hfz25_1, hfz25_2, hfz25_3⟩ := bx4_ BK381
   obtain ⟨hcz26_0, hcz26_1, hcz26_2, hcz26_3, hcz26_4, hcz26_5, hcz26_6, hcz26_7, hfz26_0, hfz26_1, hfz26_2, hfz26_3, hfz26_4, hfz26_5, hfz26_6, hfz26_7⟩ := bx8_ BK374
   go_wp2
   repeat (go_quiet (fail); try go_wp2)
   go_meet
   case rel => exact ⟨_, (true), sp_, H', ⟨by first | omega | exact Nat.le_refl _⟩, ⟨by (with_reducible repeat (first | apply Kd.V_alloc | apply Kd.V_drewN | apply Kd.V_drew)); exact Kd.V_mono (Kd.V_far (p := ⟨gb381, 3, none⟩) (Kd.V_far (p := ⟨gb381, 2, none⟩) (Kd.V_far (p := ⟨gb381, 1, none⟩) (Kd.V_far (p := ⟨gb381, 0, none⟩) (Kd.V_mono HO380.out (fun k_ hk => (⟨hk, hk.2⟩ : _ ∧ k_ ≠ gb381))) (fun _ hk => hk.2) (.string t375)) (fun _ hk => hk.2) (.string t376)) (fun _ hk => hk.2) (.string t377)) (fun _ hk => hk.2) (.slice Ao10 t378.length co10)) (fun _ hk => ⟨hk.1.1, hk.1.2⟩)⟩, ⟨by (with_reducible repeat (first | refine blk_drewN ?_ _ | refine blk_drew ?_ | refine blk_alloc ?_ _)); refine blk_far ?_ NB374_381.out _; (with_reducible repeat (first | refine blk_drewN ?_ _ | refine blk_drew ?_ | refine blk_alloc ?_ _)); refine blk_far ?_ NB374_381.out _; (with_reducible repeat (first | refine blk_drewN ?_ _ | refine blk_drew ?_ | refine blk_alloc ?_ _)); refine blk_far ?_ NB374_381.out _; (with_reducible repeat (first | refine blk_drewN ?_ _ | refine blk_drew ?_ | refine blk_alloc ?_ _)); refine blk_far ?_ NB374_381.out _; (with_reducible repeat (first | refine blk_drewN ?_ _ | refine blk_drew ?_ | refine blk_alloc ?_ _)); exact BK374.out⟩, ⟨by (with_reducible repeat (first | refine blk_drewN ?_ _ | refine blk_drew ?_ | refine blk_alloc ?_ _)); apply bq4_3_2_1_0_; (with_reducible repeat (first | refine blk_drewN ?_ _ | refine blk_drew ?_ | refine blk_alloc ?_ _)); exact BK381.out⟩, ⟨bl_⟩⟩
  rw [if_pos c14] at H
  have c14b0 := beq_iff_eq.mpr c14
  have c14b1 := bne_eq_false_iff_eq.mpr c14
  clear c14
  obtain ⟨t382, A15, H⟩ := ob_ H
  by_cases c16 : t382 = true
  ·subst c16
   replace H := ip_ H
   obtain ⟨t383, A17, H⟩ := ob_ H
   have H' := Aside0.mk H
   clear H
   have hnb18 := NB381_374.out
   have hnc18 := NB374_381.out
   obtain ⟨hcz19_0, hcz19_1, hcz19_2, hcz19_3, hfz19_0, hfz19_1, hfz19_2, hfz19_3⟩ := bx4_ BK381
   obtain ⟨hcz20_0, hcz20_1, hcz20_2, hcz20_3, hcz20_4, hcz20_5, hcz20_6, hcz20_7, hfz20_0, hfz20_1, hfz20_2, hfz20_3, hfz20_4, hfz20_5, hfz20_6, hfz20_7⟩ := bx8_ BK374
   go_wp2_with (first | (go_at_call 89; (with_reducible refine (impl_AcctIdOk.calls k a0_1 true _ A15.out).mono ?_); rintro e w' ⟨rfl, ⟨nd, rfl⟩⟩; (try first | exact ⟨rfl, _, World.drewN_drewN _ _ _⟩ | exact ⟨rfl, _, Eq.trans (World.drewN_drewN _ _ _) (congrArg (World.drewN _) (Nat.add_assoc _ _ _))⟩)) | (go_at_call 85; (with_reducible refine (impl_isWide.calls k a0_4 6 t383 _ A17.out).mono ?_); rintro e w' ⟨rfl, ⟨nd, rfl⟩⟩; (try first | exact ⟨rfl, _, World.drewN_drewN _ _ _⟩ | exact ⟨rfl, _, Eq.trans (World.drewN_drewN _ _ _) (congrArg (World.drewN _) (Nat.add_assoc _ _ _))⟩)))
   repeat (go_quiet (first | (go_at_call 89; (with_reducible refine (impl_AcctIdOk.calls k a0_1 true _ A15.out).mono ?_); rintro e w' ⟨rfl, ⟨nd, rfl⟩⟩; (try first | exact ⟨rfl, _, World.drewN_drewN _ _ _⟩ | exact ⟨rfl, _, Eq.trans (World.drewN_drewN _ _ _) (congrArg (World.drewN _) (Nat.add_assoc _ _ _))⟩)) | (go_at_call 85; (with_reducible refine (impl_isWide.calls k a0_4 6 t383 _ A17.out).mono ?_); rintro e w' ⟨rfl, ⟨nd, rfl⟩⟩; (try first | exact ⟨rfl, _, World.drewN_drewN _ _ _⟩ | exact ⟨rfl, _, Eq.trans (World.drewN_drewN _ _ _) (congrArg (World.drewN _) (Nat.add_assoc _ _ _))⟩))); try go_wp2_with (first | (go_at_call 89; (with_reducible refine (impl_AcctIdOk.calls k a0_1 true _ A15.out).mono ?_); rintro e w' ⟨rfl, ⟨nd, rfl⟩⟩; (try first | exact ⟨rfl, _, World.drewN_drewN _ _ _⟩ | exact ⟨rfl, _, Eq.trans (World.drewN_drewN _ _ _) (congrArg (World.drewN _) (Nat.add_assoc _ _ _))⟩)) | (go_at_call 85; (with_reducible refine (impl_isWide.calls k a0_4 6 t383 _ A17.out).mono ?_); rintro e w' ⟨rfl, ⟨nd, rfl⟩⟩; (try first | exact ⟨rfl, _, World.drewN_drewN _ _ _⟩ | exact ⟨rfl, _, Eq.trans (World.drewN_drewN _ _ _) (congrArg (World.drewN _) (Nat.add_assoc _ _ _))⟩))))
   go_meet
   case rel => exact ⟨_, (!t383), sp_, H', ⟨by first | omega | exact Nat.le_refl _⟩, ⟨by (with_reducible repeat (first | apply Kd.V_alloc | apply Kd.V_drewN | apply Kd.V_drew)); exact Kd.V_mono (Kd.V_far (p := ⟨gb381, 3, none⟩) (Kd.V_far (p := ⟨gb381, 2, none⟩) (Kd.V_far (p := ⟨gb381, 1, none⟩) (Kd.V_far (p := ⟨gb381, 0, none⟩) (Kd.V_mono HO380.out (fun k_ hk => (⟨hk, hk.2⟩ : _ ∧ k_ ≠ gb381))) (fun _ hk => hk.2) (.string t375)) (fun _ hk => hk.2) (.string t376)) (fun _ hk => hk.2) (.string t377)) (fun _ hk => hk.2) (.slice Ao10 t378.length co10)) (fun _ hk => ⟨hk.1.1, hk.1.2⟩)⟩, ⟨by (with_reducible repeat (first | refine blk_drewN ?_ _ | refine blk_drew ?_ | refine blk_alloc ?_ _)); refine blk_far ?_ NB374_381.out _; (with_reducible repeat (first | refine blk_drewN ?_ _ | refine blk_drew ?_ | refine blk_alloc ?_ _)); refine blk_far ?_ NB374_381.out _; (with_reducible repeat (first | refine blk_drewN ?_ _ | refine blk_drew ?_ | refine blk_alloc ?_ _)); refine blk_far ?_ NB374_381.out _; (with_reducible repeat (first | refine blk_drewN ?_ _ | refine blk_drew ?_ | refine blk_alloc ?_ _)); refine blk_far ?_ NB374_381.out _; (with_reducible repeat (first | refine blk_drewN ?_ _ | refine blk_drew ?_ | refine blk_alloc ?_ _)); exact BK374.out⟩, ⟨by (with_reducible repeat (first | refine blk_drewN ?_ _ | refine blk_drew ?_ | refine blk_alloc ?_ _)); apply bq4_3_2_1_0_; (with_reducible repeat (first | refine blk_drewN ?_ _ | refine blk_drew ?_ | refine blk_alloc ?_ _)); exact BK381.out⟩, ⟨bl_⟩⟩
  replace c16 := Bool.eq_false_iff.mpr c16
  subst c16
  replace H := in_ H
  have H' := Aside0.mk H
  clear H
  have hnb21 := NB381_374.out
  have hnc21 := NB374_381.out
  obtain ⟨hcz22_0, hcz22_1, hcz22_2, hcz22_3, hfz22_0, hfz22_1, hfz22_2, hfz22_3⟩ := bx4_ BK381
  obtain ⟨hcz23_0, hcz23_1, hcz23_2, hcz23_3, hcz23_4, hcz23_5, hcz23_6, hcz23_7, hfz23_0, hfz23_1, hfz23_2, hfz23_3, hfz23_4, hfz23_5, hfz23_6, hfz23_7⟩ := bx8_ BK374
  go_wp2_with (first | (go_at_call 89; (with_reducible refine (impl_AcctIdOk.calls k a0_1 false _ A15.out).mono ?_); rintro e w' ⟨rfl, ⟨nd, rfl⟩⟩; (try first | exact ⟨rfl, _, World.drewN_drewN _ _ _⟩ | exact ⟨rfl, _, Eq.trans (World.drewN_drewN _ _ _) (congrArg (World.drewN _) (Nat.add_assoc _ _ _))⟩)))
  repeat (go_quiet (first | (go_at_call 89; (with_reducible refine (impl_AcctIdOk.calls k a0_1 false _ A15.out).mono ?_); rintro e w' ⟨rfl, ⟨nd, rfl⟩⟩; (try first | exact ⟨rfl, _, World.drewN_drewN _ _ _⟩ | exact ⟨rfl, _, Eq.trans (World.drewN_drewN _ _ _) (congrArg (World.drewN _) (Nat.add_assoc _ _ _))⟩))); try go_wp2_with (first | (go_at_call 89; (with_reducible refine (impl_AcctIdOk.calls k a0_1 false _ A15.out).mono ?_); rintro e w' ⟨rfl, ⟨nd, rfl⟩⟩; (try first | exact ⟨rfl, _, World.drewN_drewN _ _ _⟩ | exact ⟨rfl, _, Eq.trans (World.drewN_drewN _ _ _) (congrArg (World.drewN _) (Nat.add_assoc _ _ _))⟩))))
  go_meet
  case rel => exact ⟨_, (true), sp_, H', ⟨by first | omega | exact Nat.le_refl _⟩, ⟨by (with_reducible repeat (first | apply Kd.V_alloc | apply Kd.V_drewN | apply Kd.V_drew)); exact Kd.V_mono (Kd.V_far (p := ⟨gb381, 3, none⟩) (Kd.V_far (p := ⟨gb381, 2, none⟩) (Kd.V_far (p := ⟨gb381, 1, none⟩) (Kd.V_far (p := ⟨gb381, 0, none⟩) (Kd.V_mono HO380.out (fun k_ hk => (⟨hk, hk.2⟩ : _ ∧ k_ ≠ gb381))) (fun _ hk => hk.2) (.string t375)) (fun _ hk => hk.2) (.string t376)) (fun _ hk => hk.2) (.string t377)) (fun _ hk => hk.2) (.slice Ao10 t378.length co10)) (fun _ hk => ⟨hk.1.1, hk.1.2⟩)⟩, ⟨by (with_reducible repeat (first | refine blk_drewN ?_ _ | refine blk_drew ?_ | refine blk_alloc ?_ _)); refine blk_far ?_ NB374_381.out _; (with_reducible repeat (first | refine blk_drewN ?_ _ | refine blk_drew ?_ | refine blk_alloc ?_ _)); refine blk_far ?_ NB374_381.out _; (with_reducible repeat (first | refine blk_drewN ?_ _ | refine blk_drew ?_ | refine blk_alloc ?_ _)); refine blk_far ?_ NB374_381.out _; (with_reducible repeat (first | refine blk_drewN ?_ _ | refine blk_drew ?_ | refine blk_alloc ?_ _)); refine blk_far ?_ NB374_381.out _; (with_reducible repeat (first | refine blk_drewN ?_ _ | refine blk_drew ?_ | refine blk_alloc ?_ _)); exact BK374.out⟩, ⟨by (with_reducible repeat (first | refine blk_drewN ?_ _ | refine blk_drew ?_ | refine blk_alloc ?_ _)); apply bq4_3_2_1_0_; (with_reducible repeat (first | refine blk_drewN ?_ _ | refine blk_drew ?_ | refine blk_alloc ?_ _)); exact BK381.out⟩, ⟨bl_⟩⟩
 case rest =>
  clear HC3
  obtain ⟨kq, x32_2, rfl, HA, HJ2, HO_382003, BK374, BK381, HB⟩ := hcut
  cases kq with
  | zero => exact absurd HA.out (by simp [impl_ReqOk.j0])
  | succ kj2 =>
   have H := HA.out
   clear HA
   simp only [impl_ReqOk.j0] at H
   by_cases c27 : x32_2 = true
   ·subst c27
    replace H := ip_ H
    obtain rfl := Option.some.inj H
    go_wp2
    repeat (go_quiet (fail); try go_wp2)
    go_ret
    exact ⟨sq_, bl_⟩
   replace c27 := Bool.eq_false_iff.mpr c27
   subst c27
   replace H := in_ H
   obtain ⟨t384, A28, H⟩ := ob_ H
   have HC29 := Aside0.mk H
   clear H
   have hnb30 := NB374_381.out
   have hnc30 := NB381_374.out
   obtain ⟨hcz31_0, hcz31_1, hcz31_2, hcz31_3, hcz31_4, hcz31_5, hcz31_6, hcz31_7, hfz31_0, hfz31_1, hfz31_2, hfz31_3, hfz31_4, hfz31_5, hfz31_6, hfz31_7⟩ := bx8_ BK374
   go_upto_if 47 with (first | (go_at_call 90; (with_reducible refine (impl_uses.calls kj2 a0_0 38 t384 _ A28.out).mono ?_); rintro e w32 ⟨rfl, hb⟩; replace HO_382003 := Aside0.mk (Kd.V_below (by (with_reducible repeat (first | apply Kd.V_alloc | apply Kd.V_drewN | apply Kd.V_drew)); exact HO_382003.out) hb); replace BK374 := kb_ BK374 hb; replace BK381 := kb_ BK381 hb; replace HB := hs_ hb; clear hb))
   repeat (go_quiet (first | (go_at_call 90; (with_reducible refine (impl_uses.calls kj2 a0_0 38 t384 _ A28.out).mono ?_); rintro e w32 ⟨rfl, hb⟩; replace HO_382003 := Aside0.mk (Kd.V_below (by (with_reducible repeat (first | apply Kd.V_alloc | apply Kd.V_drewN | apply Kd.V_drew)); exact HO_382003.out) hb); replace BK374 := kb_ BK374 hb; replace BK381 := kb_ BK381 hb; replace HB := hs_ hb; clear hb)); go_upto_if 47 with (first | (go_at_call 90; (with_reducible refine (impl_uses.calls kj2 a0_0 38 t384 _ A28.out).mono ?_); rintro e w32 ⟨rfl, hb⟩; replace HO_382003 := Aside0.mk (Kd.V_below (by (with_reducible repeat (first | apply Kd.V_alloc | apply Kd.V_drewN | apply Kd.V_drew)); exact HO_382003.out) hb); replace BK374 := kb_ BK374 hb; replace BK381 := kb_ BK381 hb; replace HB := hs_ hb; clear hb)))
   (try simp only [Act.put, List.setIfInBounds_toArray, List.set_cons_zero, List.set_cons_succ])
   go_cut [4] (fun v4 wc => ∃ (kq : Nat) (x4_28 : Bool), v4 = .bool x4_28 ∧ Aside0 (impl_ReqOk.j1 kq x4_28 (a0_6 == 0) (a0_7 == 0) (a0_2.toList == ([] : List UInt8)) a0_0 a0_1 a0_2 a0_3 a0_4 a0_5 a0_6 a0_7 = some r) ∧ Aside0 (kq ≤ kj2) ∧ Aside0 (Kd.V (Kd.int .i64) 3 wc w.heap.size (fun k_ => k_ ≠ gb374 ∧ k_ ≠ gb381) (.slice Ao10 t378.length co10) t378) ∧ Aside0 (wc.heap[gb374]? = some (.cells #[.int .i64 a0_0, .string a0_1, .string a0_2, .string a0_3, .string a0_4, .string a0_5, .int .i64 a0_6, .int .i64 a0_7] 27 (0, 0))) ∧ Aside0 (wc.heap[gb381]? = some (.cells #[.string t375, .string t376, .string t377, (.slice Ao10 t378.length co10)] 74 (0, 0))) ∧ Aside0 (Below w.heap.size w wc))
   case first =>
    have H := HC29.out
    clear HC29
    by_cases c33 : t384 = true
    ·subst c33
     replace H := ip_ H
     obtain ⟨t385, A34, H⟩ := ob_ H
     have H' := Aside0.mk H
     clear H
     have hnb35 := NB374_381.out
     have hnc35 := NB381_374.out
     obtain ⟨hcz36_0, hcz36_1, hcz36_2, hcz36_3, hcz36_4, hcz36_5, hcz36_6, hcz36_7, hfz36_0, hfz36_1, hfz36_2, hfz36_3, hfz36_4, hfz36_5, hfz36_6, hfz36_7⟩ := bx8_ BK374
     go_wp2_with (first | (go_at_call 91; (with_reducible refine (impl_HoldIdOk.calls kj2 a0_3 t385 _ A34.out).mono ?_); rintro e w' ⟨rfl, ⟨nd, rfl⟩⟩; (try first | exact ⟨rfl, _, World.drewN_drewN _ _ _⟩ | exact ⟨rfl, _, Eq.trans (World.drewN_drewN _ _ _) (congrArg (World.drewN _) (Nat.add_assoc _ _ _))⟩)))
     repeat (go_quiet (first | (go_at_call 91; (with_reducible refine (impl_HoldIdOk.calls kj2 a0_3 t385 _ A34.out).mono ?_); rintro e w' ⟨rfl, ⟨nd, rfl⟩⟩; (try first | exact ⟨rfl, _, World.drewN_drewN _ _ _⟩ | exact ⟨rfl, _, Eq.trans (World.drewN_drewN _ _ _) (congrArg (World.drewN _) (Nat.add_assoc _ _ _))⟩))); try go_wp2_with (first | (go_at_call 91; (with_reducible refine (impl_HoldIdOk.calls kj2 a0_3 t385 _ A34.out).mono ?_); rintro e w' ⟨rfl, ⟨nd, rfl⟩⟩; (try first | exact ⟨rfl, _, World.drewN_drewN _ _ _⟩ | exact ⟨rfl, _, Eq.trans (World.drewN_drewN _ _ _) (congrArg (World.drewN _) (Nat.add_assoc _ _ _))⟩))))
     go_meet
     case rel => exact ⟨_, (t385), sp_, H', ⟨by have := HJ2.out; first | omega | exact Nat.le_refl _⟩, ⟨by (with_reducible repeat (first | apply Kd.V_alloc | apply Kd.V_drewN | apply Kd.V_drew)); exact HO_382003.out⟩, ⟨by (with_reducible repeat (first | refine blk_drewN ?_ _ | refine blk_drew ?_ | refine blk_alloc ?_ _)); exact BK374.out⟩, ⟨by (with_reducible repeat (first | refine blk_drewN ?_ _ | refine blk_drew ?_ | refine blk_alloc ?_ _)); exact BK381.out⟩, ⟨bl_⟩⟩
    ·replace c33 := Bool.eq_false_iff.mpr c33
     subst c33
     replace H := in_ H
     have H' := Aside0.mk H
     clear H
     go_wp2
     repeat (go_quiet (fail); try go_wp2)
     go_meet
     case rel => exact ⟨_, ((a0_3.toList == ([] : List UInt8))), sp_, H', ⟨by have := HJ2.out; first | omega | exact Nat.le_refl _⟩, ⟨by (with_reducible repeat (first | apply Kd.V_alloc | apply Kd.V_drewN | apply Kd.V_drew)); exact HO_382003.out⟩, ⟨by (with_reducible repeat (first | refine blk_drewN ?_ _ | refine blk_drew ?_ | refine blk_alloc ?_ _)); exact BK374.out⟩, ⟨by (with_reducible repeat (first | refine blk_drewN ?_ _ | refine blk_drew ?_ | refine blk_alloc ?_ _)); exact BK381.out⟩, ⟨bl_⟩⟩
   case rest =>
    clear HC29
    obtain ⟨kq, x4_28, rfl, HA, HJ28, HO_382003, BK374, BK381, HB⟩ := hcut
    cases kq with
    | zero => exact absurd HA.out (by simp [impl_ReqOk.j1])
    | succ kj28 =>
     have H := HA.out
     clear HA
     simp only [impl_ReqOk.j1] at H
     obtain ⟨t386, A37, H⟩ := ob_ H
     have HC38 := Aside0.mk H
     clear H
     have hnb39 := NB374_381.out
     have hnc39 := NB381_374.out
     obtain ⟨hcz40_0, hcz40_1, hcz40_2, hcz40_3, hcz40_4, hcz40_5, hcz40_6, hcz40_7, hfz40_0, hfz40_1, hfz40_2, hfz40_3, hfz40_4, hfz40_5, hfz40_6, hfz40_7⟩ := bx8_ BK374
     go_upto_if 53 with (first | (go_at_call 90; (with_reducible refine (impl_uses.calls kj28 a0_0 4 t386 _ A37.out).mono ?_); rintro e w41 ⟨rfl, hb⟩; replace HO_382003 := Aside0.mk (Kd.V_below (by (with_reducible repeat (first | apply Kd.V_alloc | apply Kd.V_drewN | apply Kd.V_drew)); exact HO_382003.out) hb); replace BK374 := kb_ BK374 hb; replace BK381 := kb_ BK381 hb; replace HB := hs_ hb; clear hb))
     repeat (go_quiet (first | (go_at_call 90; (with_reducible refine (impl_uses.calls kj28 a0_0 4 t386 _ A37.out).mono ?_); rintro e w41 ⟨rfl, hb⟩; replace HO_382003 := Aside0.mk (Kd.V_below (by (with_reducible repeat (first | apply Kd.V_alloc | apply Kd.V_drewN | apply Kd.V_drew)); exact HO_382003.out) hb); replace BK374 := kb_ BK374 hb; replace BK381 := kb_ BK381 hb; replace HB := hs_ hb; clear hb)); go_upto_if 53 with (first | (go_at_call 90; (with_reducible refine (impl_uses.calls kj28 a0_0 4 t386 _ A37.out).mono ?_); rintro e w41 ⟨rfl, hb⟩; replace HO_382003 := Aside0.mk (Kd.V_below (by (with_reducible repeat (first | apply Kd.V_alloc | apply Kd.V_drewN | apply Kd.V_drew)); exact HO_382003.out) hb); replace BK374 := kb_ BK374 hb; replace BK381 := kb_ BK381 hb; replace HB := hs_ hb; clear hb)))
     (try simp only [Act.put, List.setIfInBounds_toArray, List.set_cons_zero, List.set_cons_succ])
     go_cut [5] (fun v5 wc => ∃ (kq : Nat) (x5_37 : Bool), v5 = .bool x5_37 ∧ Aside0 (impl_ReqOk.j2 kq x4_28 x5_37 (a0_7 == 0) (a0_2.toList == ([] : List UInt8)) a0_0 a0_1 a0_2 a0_3 a0_4 a0_5 a0_6 a0_7 = some r) ∧ Aside0 (kq ≤ kj28) ∧ Aside0 (Kd.V (Kd.int .i64) 3 wc w.heap.size (fun k_ => k_ ≠ gb374 ∧ k_ ≠ gb381) (.slice Ao10 t378.length co10) t378) ∧ Aside0 (wc.heap[gb374]? = some (.cells #[.int .i64 a0_0, .string a0_1, .string a0_2, .string a0_3, .string a0_4, .string a0_5, .int .i64 a0_6, .int .i64 a0_7] 27 (0, 0))) ∧ Aside0 (wc.heap[gb381]? = some (.cells #[.string t375, .string t376, .string t377, (.slice Ao10 t378.length co10)] 74 (0, 0))) ∧ Aside0 (Below w.heap.size w wc))
     case first =>
      have H := HC38.out
      clear HC38
      by_cases c42 : t386 = true
      ·subst c42
       replace H := ip_ H
       obtain ⟨t387, A43, H⟩ := ob_ H
       have H' := Aside0.mk H
       clear H
       have hnb44 := NB374_381.out
       have hnc44 := NB381_374.out
       obtain ⟨hcz45_0, hcz45_1, hcz45_2, hcz45_3, hcz45_4, hcz45_5, hcz45_6, hcz45_7, hfz45_0, hfz45_1, hfz45_2, hfz45_3, hfz45_4, hfz45_5, hfz45_6, hfz45_7⟩ := bx8_ BK374
       go_wp2_with (first | (go_at_call 71; (with_reducible refine (impl_within.calls a0_6 0 999999999999 t387 _ A43.out).mono ?_); rintro e w' ⟨rfl, ⟨nd, rfl⟩⟩; (try first | exact ⟨rfl, _, World.drewN_drewN _ _ _⟩ | exact ⟨rfl, _, Eq.trans (World.drewN_drewN _ _ _) (congrArg (World.drewN _) (Nat.add_assoc _ _ _))⟩)))
       repeat (go_quiet (first | (go_at_call 71; (with_reducible refine (impl_within.calls a0_6 0 999999999999 t387 _ A43.out).mono ?_); rintro e w' ⟨rfl, ⟨nd, rfl⟩⟩; (try first | exact ⟨rfl, _, World.drewN_drewN _ _ _⟩ | exact ⟨rfl, _, Eq.trans (World.drewN_drewN _ _ _) (congrArg (World.drewN _) (Nat.add_assoc _ _ _))⟩))); try go_wp2_with (first | (go_at_call 71; (with_reducible refine (impl_within.calls a0_6 0 999999999999 t387 _ A43.out).mono ?_); rintro e w' ⟨rfl, ⟨nd, rfl⟩⟩; (try first | exact ⟨rfl, _, World.drewN_drewN _ _ _⟩ | exact ⟨rfl, _, Eq.trans (World.drewN_drewN _ _ _) (congrArg (World.drewN _) (Nat.add_assoc _ _ _))⟩))))
       go_meet
       case rel => exact ⟨_, (t387), sp_, H', ⟨by have := HJ2.out; have := HJ28.out; first | omega | exact Nat.le_refl _⟩, ⟨by (with_reducible repeat (first | apply Kd.V_alloc | apply Kd.V_drewN | apply Kd.V_drew)); exact HO_382003.out⟩, ⟨by (with_reducible repeat (first | refine blk_drewN ?_ _ | refine blk_drew ?_ | refine blk_alloc ?_ _)); exact BK374.out⟩, ⟨by (with_reducible repeat (first | refine blk_drewN ?_ _ | refine blk_drew ?_ | refine blk_alloc ?_ _)); exact BK381.out⟩, ⟨bl_⟩⟩
      ·replace c42 := Bool.eq_false_iff.mpr c42
       subst c42
       replace H := in_ H
       have H' := Aside0.mk H
       clear H
       go_wp2
       repeat (go_quiet (fail); try go_wp2)
       go_meet
       case rel => exact ⟨_, ((a0_6 == 0)), sp_, H', ⟨by have := HJ2.out; have := HJ28.out; first | omega | exact Nat.le_refl _⟩, ⟨by (with_reducible repeat (first | apply Kd.V_alloc | apply Kd.V_drewN | apply Kd.V_drew)); exact HO_382003.out⟩, ⟨by (with_reducible repeat (first | refine blk_drewN ?_ _ | refine blk_drew ?_ | refine blk_alloc ?_ _)); exact BK374.out⟩, ⟨by (with_reducible repeat (first | refine blk_drewN ?_ _ | refine blk_drew ?_ | refine blk_alloc ?_ _)); exact BK381.out⟩, ⟨bl_⟩⟩
     case rest =>
      clear HC38
      obtain ⟨kq, x5_37, rfl, HA, HJ37, HO_382003, BK374, BK381, HB⟩ := hcut
      cases kq with
      | zero => exact absurd HA.out (by simp [impl_ReqOk.j2])
      | succ kj37 =>
       have H := HA.out
       clear HA
       simp only [impl_ReqOk.j2] at H
       obtain ⟨t388, A46, H⟩ := ob_ H
       have HC47 := Aside0.mk H
       clear H
       have hnb48 := NB374_381.out
       have hnc48 := NB381_374.out
       obtain ⟨hcz49_0, hcz49_1, hcz49_2, hcz49_3, hcz49_4, hcz49_5, hcz49_6, hcz49_7, hfz49_0, hfz49_1, hfz49_2, hfz49_3, hfz49_4, hfz49_5, hfz49_6, hfz49_7⟩ := bx8_ BK374
       go_upto_if 59 with (first | (go_at_call 90; (with_reducible refine (impl_uses.calls kj37 a0_0 14 t388 _ A46.out).mono ?_); rintro e w50 ⟨rfl, hb⟩; replace HO_382003 := Aside0.mk (Kd.V_below (by (with_reducible repeat (first | apply Kd.V_alloc | apply Kd.V_drewN | apply Kd.V_drew)); exact HO_382003.out) hb); replace BK374 := kb_ BK374 hb; replace BK381 := kb_ BK381 hb; replace HB := hs_ hb; clear hb))
       repeat (go_quiet (first | (go_at_call 90; (with_reducible refine (impl_uses.calls kj37 a0_0 14 t388 _ A46.out).mono ?_); rintro e w50 ⟨rfl, hb⟩; replace HO_382003 := Aside0.mk (Kd.V_below (by (with_reducible repeat (first | apply Kd.V_alloc | apply Kd.V_drewN | apply Kd.V_drew)); exact HO_382003.out) hb); replace BK374 := kb_ BK374 hb; replace BK381 := kb_ BK381 hb; replace HB := hs_ hb; clear hb)); go_upto_if 59 with (first | (go_at_call 90; (with_reducible refine (impl_uses.calls kj37 a0_0 14 t388 _ A46.out).mono ?_); rintro e w50 ⟨rfl, hb⟩; replace HO_382003 := Aside0.mk (Kd.V_below (by (with_reducible repeat (first | apply Kd.V_alloc | apply Kd.V_drewN | apply Kd.V_drew)); exact HO_382003.out) hb); replace BK374 := kb_ BK374 hb; replace BK381 := kb_ BK381 hb; replace HB := hs_ hb; clear hb)))
       (try simp only [Act.put, List.setIfInBounds_toArray, List.set_cons_zero, List.set_cons_succ])
       go_cut [6] (fun v6 wc => ∃ (kq : Nat) (x6_46 : Bool), v6 = .bool x6_46 ∧ Aside0 (impl_ReqOk.j3 kq x4_28 x5_37 x6_46 (a0_2.toList == ([] : List UInt8)) a0_0 a0_1 a0_2 a0_3 a0_4 a0_5 a0_6 a0_7 = some r) ∧ Aside0 (kq ≤ kj37) ∧ Aside0 (Kd.V (Kd.int .i64) 3 wc w.heap.size (fun k_ => k_ ≠ gb374 ∧ k_ ≠ gb381) (.slice Ao10 t378.length co10) t378) ∧ Aside0 (wc.heap[gb374]? = some (.cells #[.int .i64 a0_0, .string a0_1, .string a0_2, .string a0_3, .string a0_4, .string a0_5, .int .i64 a0_6, .int .i64 a0_7] 27 (0, 0))) ∧ Aside0 (wc.heap[gb381]? = some (.cells #[.string t375, .string t376, .string t377, (.slice Ao10 t378.length co10)] 74 (0, 0))) ∧ Aside0 (Below w.heap.size w wc))
       case first =>
        have H := HC47.out
        clear HC47
        by_cases c51 : t388 = true
        ·subst c51
         replace H := ip_ H
         obtain ⟨t389, A52, H⟩ := ob_ H
         have H' := Aside0.mk H
         clear H
         have hnb53 := NB374_381.out
         have hnc53 := NB381_374.out
         obtain ⟨hcz54_0, hcz54_1, hcz54_2, hcz54_3, hcz54_4, hcz54_5, hcz54_6, hcz54_7, hfz54_0, hfz54_1, hfz54_2, hfz54_3, hfz54_4, hfz54_5, hfz54_6, hfz54_7⟩ := bx8_ BK374
         go_wp2_with (first | (go_at_call 71; (with_reducible refine (impl_within.calls a0_7 0 9999 t389 _ A52.out).mono ?_); rintro e w' ⟨rfl, ⟨nd, rfl⟩⟩; (try first | exact ⟨rfl, _, World.drewN_drewN _ _ _⟩ | exact ⟨rfl, _, Eq.trans (World.drewN_drewN _ _ _) (congrArg (World.drewN _) (Nat.add_assoc _ _ _))⟩)))
         repeat (go_quiet (first | (go_at_call 71; (with_reducible refine (impl_within.calls a0_7 0 9999 t389 _ A52.out).mono ?_); rintro e w' ⟨rfl, ⟨nd, rfl⟩⟩; (try first | exact ⟨rfl, _, World.drewN_drewN _ _ _⟩ | exact ⟨rfl, _, Eq.trans (World.drewN_drewN _ _ _) (congrArg (World.drewN _) (Nat.add_assoc _ _ _))⟩))); try go_wp2_with (first | (go_at_call 71; (with_reducible refine (impl_within.calls a0_7 0 9999 t389 _ A52.out).mono ?_); rintro e w' ⟨rfl, ⟨nd, rfl⟩⟩; (try first | exact ⟨rfl, _, World.drewN_drewN _ _ _⟩ | exact ⟨rfl, _, Eq.trans (World.drewN_drewN _ _ _) (congrArg (World.drewN _) (Nat.add_assoc _ _ _))⟩))))
         go_meet
         case rel => exact ⟨_, (t389), sp_, H', ⟨by have := HJ2.out; have := HJ28.out; have := HJ37.out; first | omega | exact Nat.le_refl _⟩, ⟨by (with_reducible repeat (first | apply Kd.V_alloc | apply Kd.V_drewN | apply Kd.V_drew)); exact HO_382003.out⟩, ⟨by (with_reducible repeat (first | refine blk_drewN ?_ _ | refine blk_drew ?_ | refine blk_alloc ?_ _)); exact BK374.out⟩, ⟨by (with_reducible repeat (first | refine blk_drewN ?_ _ | refine blk_drew ?_ | refine blk_alloc ?_ _)); exact BK381.out⟩, ⟨bl_⟩⟩
        ·replace c51 := Bool.eq_false_iff.mpr c51
         subst c51
         replace H := in_ H
         have H' := Aside0.mk H
         clear H
         go_wp2
         repeat (go_quiet (fail); try go_wp2)
         go_meet
         case rel => exact ⟨_, ((a0_7 == 0)), sp_, H', ⟨by have := HJ2.out; have := HJ28.out; have := HJ37.out; first | omega | exact Nat.le_refl _⟩, ⟨by (with_reducible repeat (first | apply Kd.V_alloc | apply Kd.V_drewN | apply Kd.V_drew)); exact HO_382003.out⟩, ⟨by (with_reducible repeat (first | refine blk_drewN ?_ _ | refine blk_drew ?_ | refine blk_alloc ?_ _)); exact BK374.out⟩, ⟨by (with_reducible repeat (first | refine blk_drewN ?_ _ | refine blk_drew ?_ | refine blk_alloc ?_ _)); exact BK381.out⟩, ⟨bl_⟩⟩
       case rest =>
        clear HC47
        obtain ⟨kq, x6_46, rfl, HA, HJ46, HO_382003, BK374, BK381, HB⟩ := hcut
        cases kq with
        | zero => exact absurd HA.out (by simp [impl_ReqOk.j3])
        | succ kj46 =>
         have H := HA.out
         clear HA
         simp only [impl_ReqOk.j3] at H
         obtain ⟨t390, A55, H⟩ := ob_ H
         by_cases c56 : t390 = true
         ·subst c56
          replace H := ip_ H
          obtain ⟨t391, A57, H⟩ := ob_ H
          by_cases c58 : x4_28 = true
          rotate_left
          ·replace c58 := Bool.eq_false_iff.mpr c58
           subst c58
           replace H := in_ H
           obtain rfl := Option.some.inj H
           have hnb73 := NB374_381.out
           have hnc73 := NB381_374.out
           obtain ⟨hcz74_0, hcz74_1, hcz74_2, hcz74_3, hcz74_4, hcz74_5, hcz74_6, hcz74_7, hfz74_0, hfz74_1, hfz74_2, hfz74_3, hfz74_4, hfz74_5, hfz74_6, hfz74_7⟩ := bx8_ BK374
           go_wp2_with (first | (go_at_call 90; (with_reducible refine (impl_uses.calls kj46 a0_0 103 true _ A55.out).mono ?_); rintro e w75 ⟨rfl, hb⟩; replace HO_382003 := Aside0.mk (Kd.V_below (by (with_reducible repeat (first | apply Kd.V_alloc | apply Kd.V_drewN | apply Kd.V_drew)); exact HO_382003.out) hb); replace BK374 := kb_ BK374 hb; replace BK381 := kb_ BK381 hb; replace HB := hs_ hb; clear hb; obtain ⟨hcz76_0, hcz76_1, hcz76_2, hcz76_3, hcz76_4, hcz76_5, hcz76_6, hcz76_7, hfz76_0, hfz76_1, hfz76_2, hfz76_3, hfz76_4, hfz76_5, hfz76_6, hfz76_7⟩ := bx8_ BK374) | (go_at_call 89; (with_reducible refine (impl_AcctIdOk.calls kj46 a0_2 t391 _ A57.out).mono ?_); rintro e w' ⟨rfl, ⟨nd, rfl⟩⟩; (try first | exact ⟨rfl, _, World.drewN_drewN _ _ _⟩ | exact ⟨rfl, _, Eq.trans (World.drewN_drewN _ _ _) (congrArg (World.drewN _) (Nat.add_assoc _ _ _))⟩)))
           repeat (go_quiet (first | (go_at_call 90; (with_reducible refine (impl_uses.calls kj46 a0_0 103 true _ A55.out).mono ?_); rintro e w75 ⟨rfl, hb⟩; replace HO_382003 := Aside0.mk (Kd.V_below (by (with_reducible repeat (first | apply Kd.V_alloc | apply Kd.V_drewN | apply Kd.V_drew)); exact HO_382003.out) hb); replace BK374 := kb_ BK374 hb; replace BK381 := kb_ BK381 hb; replace HB := hs_ hb; clear hb; obtain ⟨hcz76_0, hcz76_1, hcz76_2, hcz76_3, hcz76_4, hcz76_5, hcz76_6, hcz76_7, hfz76_0, hfz76_1, hfz76_2, hfz76_3, hfz76_4, hfz76_5, hfz76_6, hfz76_7⟩ := bx8_ BK374) | (go_at_call 89; (with_reducible refine (impl_AcctIdOk.calls kj46 a0_2 t391 _ A57.out).mono ?_); rintro e w' ⟨rfl, ⟨nd, rfl⟩⟩; (try first | exact ⟨rfl, _, World.drewN_drewN _ _ _⟩ | exact ⟨rfl, _, Eq.trans (World.drewN_drewN _ _ _) (congrArg (World.drewN _) (Nat.add_assoc _ _ _))⟩))); try go_wp2_with (first | (go_at_call 90; (with_reducible refine (impl_uses.calls kj46 a0_0 103 true _ A55.out).mono ?_); rintro e w75 ⟨rfl, hb⟩; replace HO_382003 := Aside0.mk (Kd.V_below (by (with_reducible repeat (first | apply Kd.V_alloc | apply Kd.V_drewN | apply Kd.V_drew)); exact HO_382003.out) hb); replace BK374 := kb_ BK374 hb; replace BK381 := kb_ BK381 hb; replace HB := hs_ hb; clear hb; obtain ⟨hcz76_0, hcz76_1, hcz76_2, hcz76_3, hcz76_4, hcz76_5, hcz76_6, hcz76_7, hfz76_0, hfz76_1, hfz76_2, hfz76_3, hfz76_4, hfz76_5, hfz76_6, hfz76_7⟩ := bx8_ BK374) | (go_at_call 89; (with_reducible refine (impl_AcctIdOk.calls kj46 a0_2 t391 _ A57.out).mono ?_); rintro e w' ⟨rfl, ⟨nd, rfl⟩⟩; (try first | exact ⟨rfl, _, World.drewN_drewN _ _ _⟩ | exact ⟨rfl, _, Eq.trans (World.drewN_drewN _ _ _) (congrArg (World.drewN _) (Nat.add_assoc _ _ _))⟩))))
           go_ret
           exact ⟨sq_, bl_⟩
          subst c58
          replace H := ip_ H
          by_cases c59 : x5_37 = true
          ·subst c59
           replace H := ip_ H
           by_cases c60 : x6_46 = true
           ·subst c60
            replace H := ip_ H
            obtain rfl := Option.some.inj H
            have hnb61 := NB374_381.out
            have hnc61 := NB381_374.out
            obtain ⟨hcz62_0, hcz62_1, hcz62_2, hcz62_3, hcz62_4, hcz62_5, hcz62_6, hcz62_7, hfz62_0, hfz62_1, hfz62_2, hfz62_3, hfz62_4, hfz62_5, hfz62_6, hfz62_7⟩ := bx8_ BK374
            go_wp2_with (first | (go_at_call 90; (with_reducible refine (impl_uses.calls kj46 a0_0 103 true _ A55.out).mono ?_); rintro e w63 ⟨rfl, hb⟩; replace HO_382003 := Aside0.mk (Kd.V_below (by (with_reducible repeat (first | apply Kd.V_alloc | apply Kd.V_drewN | apply Kd.V_drew)); exact HO_382003.out) hb); replace BK374 := kb_ BK374 hb; replace BK381 := kb_ BK381 hb; replace HB := hs_ hb; clear hb; obtain ⟨hcz64_0, hcz64_1, hcz64_2, hcz64_3, hcz64_4, hcz64_5, hcz64_6, hcz64_7, hfz64_0, hfz64_1, hfz64_2, hfz64_3, hfz64_4, hfz64_5, hfz64_6, hfz64_7⟩ := bx8_ BK374) | (go_at_call 89; (with_reducible refine (impl_AcctIdOk.calls kj46 a0_2 t391 _ A57.out).mono ?_); rintro e w' ⟨rfl, ⟨nd, rfl⟩⟩; (try first | exact ⟨rfl, _, World.drewN_drewN _ _ _⟩ | exact ⟨rfl, _, Eq.trans (World.drewN_drewN _ _ _) (congrArg (World.drewN _) (Nat.add_assoc _ _ _))⟩)))
            repeat (go_quiet (first | (go_at_call 90; (with_reducible refine (impl_uses.calls kj46 a0_0 103 true _ A55.out).mono ?_); rintro e w63 ⟨rfl, hb⟩; replace HO_382003 := Aside0.mk (Kd.V_below (by (with_reducible repeat (first | apply Kd.V_alloc | apply Kd.V_drewN | apply Kd.V_drew)); exact HO_382003.out) hb); replace BK374 := kb_ BK374 hb; replace BK381 := kb_ BK381 hb; replace HB := hs_ hb; clear hb; obtain ⟨hcz64_0, hcz64_1, hcz64_2, hcz64_3, hcz64_4, hcz64_5, hcz64_6, hcz64_7, hfz64_0, hfz64_1, hfz64_2, hfz64_3, hfz64_4, hfz64_5, hfz64_6, hfz64_7⟩ := bx8_ BK374) | (go_at_call 89; (with_reducible refine (impl_AcctIdOk.calls kj46 a0_2 t391 _ A57.out).mono ?_); rintro e w' ⟨rfl, ⟨nd, rfl⟩⟩; (try first | exact ⟨rfl, _, World.drewN_drewN _ _ _⟩ | exact ⟨rfl, _, Eq.trans (World.drewN_drewN _ _ _) (congrArg (World.drewN _) (Nat.add_assoc _ _ _))⟩))); try go_wp2_with (first | (go_at_call 90; (with_reducible refine (impl_uses.calls kj46 a0_0 103 true _ A55.out).mono ?_); rintro e w63 ⟨rfl, hb⟩; replace HO_382003 := Aside0.mk (Kd.V_below (by (with_reducible repeat (first | apply Kd.V_alloc | apply Kd.V_drewN | apply Kd.V_drew)); exact HO_382003.out) hb); replace BK374 := kb_ BK374 hb; replace BK381 := kb_ BK381 hb; replace HB := hs_ hb; clear hb; obtain ⟨hcz64_0, hcz64_1, hcz64_2, hcz64_3, hcz64_4, hcz64_5, hcz64_6, hcz64_7, hfz64_0, hfz64_1, hfz64_2, hfz64_3, hfz64_4, hfz64_5, hfz64_6, hfz64_7⟩ := bx8_ BK374) | (go_at_call 89; (with_reducible refine (impl_AcctIdOk.calls kj46 a0_2 t391 _ A57.out).mono ?_); rintro e w' ⟨rfl, ⟨nd, rfl⟩⟩; (try first | exact ⟨rfl, _, World.drewN_drewN _ _ _⟩ | exact ⟨rfl, _, Eq.trans (World.drewN_drewN _ _ _) (congrArg (World.drewN _) (Nat.add_assoc _ _ _))⟩))))
            go_ret
            exact ⟨sq_, bl_⟩
           replace c60 := Bool.eq_false_iff.mpr c60
           subst c60
           replace H := in_ H
           obtain rfl := Option.some.inj H
           have hnb65 := NB374_381.out
           have hnc65 := NB381_374.out
           obtain ⟨hcz66_0, hcz66_1, hcz66_2, hcz66_3, hcz66_4, hcz66_5, hcz66_6, hcz66_7, hfz66_0, hfz66_1, hfz66_2, hfz66_3, hfz66_4, hfz66_5, hfz66_6, hfz66_7⟩ := bx8_ BK374
           go_wp2_with (first | (go_at_call 90; (with_reducible refine (impl_uses.calls kj46 a0_0 103 true _ A55.out).mono ?_); rintro e w67 ⟨rfl, hb⟩; replace HO_382003 := Aside0.mk (Kd.V_below (by (with_reducible repeat (first | apply Kd.V_alloc | apply Kd.V_drewN | apply Kd.V_drew)); exact HO_382003.out) hb); replace BK374 := kb_ BK374 hb; replace BK381 := kb_ BK381 hb; replace HB := hs_ hb; clear hb; obtain ⟨hcz68_0, hcz68_1, hcz68_2, hcz68_3, hcz68_4, hcz68_5, hcz68_6, hcz68_7, hfz68_0, hfz68_1, hfz68_2, hfz68_3, hfz68_4, hfz68_5, hfz68_6, hfz68_7⟩ := bx8_ BK374) | (go_at_call 89; (with_reducible refine (impl_AcctIdOk.calls kj46 a0_2 t391 _ A57.out).mono ?_); rintro e w' ⟨rfl, ⟨nd, rfl⟩⟩; (try first | exact ⟨rfl, _, World.drewN_drewN _ _ _⟩ | exact ⟨rfl, _, Eq.trans (World.drewN_drewN _ _ _) (congrArg (World.drewN _) (Nat.add_assoc _ _ _))⟩)))
           repeat (go_quiet (first | (go_at_call 90; (with_reducible refine (impl_uses.calls kj46 a0_0 103 true _ A55.out).mono ?_); rintro e w67 ⟨rfl, hb⟩; replace HO_382003 := Aside0.mk (Kd.V_below (by (with_reducible repeat (first | apply Kd.V_alloc | apply Kd.V_drewN | apply Kd.V_drew)); exact HO_382003.out) hb); replace BK374 := kb_ BK374 hb; replace BK381 := kb_ BK381 hb; replace HB := hs_ hb; clear hb; obtain ⟨hcz68_0, hcz68_1, hcz68_2, hcz68_3, hcz68_4, hcz68_5, hcz68_6, hcz68_7, hfz68_0, hfz68_1, hfz68_2, hfz68_3, hfz68_4, hfz68_5, hfz68_6, hfz68_7⟩ := bx8_ BK374) | (go_at_call 89; (with_reducible refine (impl_AcctIdOk.calls kj46 a0_2 t391 _ A57.out).mono ?_); rintro e w' ⟨rfl, ⟨nd, rfl⟩⟩; (try first | exact ⟨rfl, _, World.drewN_drewN _ _ _⟩ | exact ⟨rfl, _, Eq.trans (World.drewN_drewN _ _ _) (congrArg (World.drewN _) (Nat.add_assoc _ _ _))⟩))); try go_wp2_with (first | (go_at_call 90; (with_reducible refine (impl_uses.calls kj46 a0_0 103 true _ A55.out).mono ?_); rintro e w67 ⟨rfl, hb⟩; replace HO_382003 := Aside0.mk (Kd.V_below (by (with_reducible repeat (first | apply Kd.V_alloc | apply Kd.V_drewN | apply Kd.V_drew)); exact HO_382003.out) hb); replace BK374 := kb_ BK374 hb; replace BK381 := kb_ BK381 hb; replace HB := hs_ hb; clear hb; obtain ⟨hcz68_0, hcz68_1, hcz68_2, hcz68_3, hcz68_4, hcz68_5, hcz68_6, hcz68_7, hfz68_0, hfz68_1, hfz68_2, hfz68_3, hfz68_4, hfz68_5, hfz68_6, hfz68_7⟩ := bx8_ BK374) | (go_at_call 89; (with_reducible refine (impl_AcctIdOk.calls kj46 a0_2 t391 _ A57.out).mono ?_); rintro e w' ⟨rfl, ⟨nd, rfl⟩⟩; (try first | exact ⟨rfl, _, World.drewN_drewN _ _ _⟩ | exact ⟨rfl, _, Eq.trans (World.drewN_drewN _ _ _) (congrArg (World.drewN _) (Nat.add_assoc _ _ _))⟩))))
           go_ret
           exact ⟨sq_, bl_⟩
          ·replace c59 := Bool.eq_false_iff.mpr c59
           subst c59
           replace H := in_ H
           obtain rfl := Option.some.inj H
           have hnb69 := NB374_381.out
           have hnc69 := NB381_374.out
           obtain ⟨hcz70_0, hcz70_1, hcz70_2, hcz70_3, hcz70_4, hcz70_5, hcz70_6, hcz70_7, hfz70_0, hfz70_1, hfz70_2, hfz70_3, hfz70_4, hfz70_5, hfz70_6, hfz70_7⟩ := bx8_ BK374
           go_wp2_with (first | (go_at_call 90; (with_reducible refine (impl_uses.calls kj46 a0_0 103 true _ A55.out).mono ?_); rintro e w71 ⟨rfl, hb⟩; replace HO_382003 := Aside0.mk (Kd.V_below (by (with_reducible repeat (first | apply Kd.V_alloc | apply Kd.V_drewN | apply Kd.V_drew)); exact HO_382003.out) hb); replace BK374 := kb_ BK374 hb; replace BK381 := kb_ BK381 hb; replace HB := hs_ hb; clear hb; obtain ⟨hcz72_0, hcz72_1, hcz72_2, hcz72_3, hcz72_4, hcz72_5, hcz72_6, hcz72_7, hfz72_0, hfz72_1, hfz72_2, hfz72_3, hfz72_4, hfz72_5, hfz72_6, hfz72_7⟩ := bx8_ BK374) | (go_at_call 89; (with_reducible refine (impl_AcctIdOk.calls kj46 a0_2 t391 _ A57.out).mono ?_); rintro e w' ⟨rfl, ⟨nd, rfl⟩⟩; (try first | exact ⟨rfl, _, World.drewN_drewN _ _ _⟩ | exact ⟨rfl, _, Eq.trans (World.drewN_drewN _ _ _) (congrArg (World.drewN _) (Nat.add_assoc _ _ _))⟩)))
           repeat (go_quiet (first | (go_at_call 90; (with_reducible refine (impl_uses.calls kj46 a0_0 103 true _ A55.out).mono ?_); rintro e w71 ⟨rfl, hb⟩; replace HO_382003 := Aside0.mk (Kd.V_below (by (with_reducible repeat (first | apply Kd.V_alloc | apply Kd.V_drewN | apply Kd.V_drew)); exact HO_382003.out) hb); replace BK374 := kb_ BK374 hb; replace BK381 := kb_ BK381 hb; replace HB := hs_ hb; clear hb; obtain ⟨hcz72_0, hcz72_1, hcz72_2, hcz72_3, hcz72_4, hcz72_5, hcz72_6, hcz72_7, hfz72_0, hfz72_1, hfz72_2, hfz72_3, hfz72_4, hfz72_5, hfz72_6, hfz72_7⟩ := bx8_ BK374) | (go_at_call 89; (with_reducible refine (impl_AcctIdOk.calls kj46 a0_2 t391 _ A57.out).mono ?_); rintro e w' ⟨rfl, ⟨nd, rfl⟩⟩; (try first | exact ⟨rfl, _, World.drewN_drewN _ _ _⟩ | exact ⟨rfl, _, Eq.trans (World.drewN_drewN _ _ _) (congrArg (World.drewN _) (Nat.add_assoc _ _ _))⟩))); try go_wp2_with (first | (go_at_call 90; (with_reducible refine (impl_uses.calls kj46 a0_0 103 true _ A55.out).mono ?_); rintro e w71 ⟨rfl, hb⟩; replace HO_382003 := Aside0.mk (Kd.V_below (by (with_reducible repeat (first | apply Kd.V_alloc | apply Kd.V_drewN | apply Kd.V_drew)); exact HO_382003.out) hb); replace BK374 := kb_ BK374 hb; replace BK381 := kb_ BK381 hb; replace HB := hs_ hb; clear hb; obtain ⟨hcz72_0, hcz72_1, hcz72_2, hcz72_3, hcz72_4, hcz72_5, hcz72_6, hcz72_7, hfz72_0, hfz72_1, hfz72_2, hfz72_3, hfz72_4, hfz72_5, hfz72_6, hfz72_7⟩ := bx8_ BK374) | (go_at_call 89; (with_reducible refine (impl_AcctIdOk.calls kj46 a0_2 t391 _ A57.out).mono ?_); rintro e w' ⟨rfl, ⟨nd, rfl⟩⟩; (try first | exact ⟨rfl, _, World.drewN_drewN _ _ _⟩ | exact ⟨rfl, _, Eq.trans (World.drewN_drewN _ _ _) (congrArg (World.drewN _) (Nat.add_assoc _ _ _))⟩))))
           go_ret
           exact ⟨sq_, bl_⟩
         replace c56 := Bool.eq_false_iff.mpr c56
         subst c56
         replace H := in_ H
         by_cases c77 : x4_28 = true
         rotate_left
         ·replace c77 := Bool.eq_false_iff.mpr c77
          subst c77
          replace H := in_ H
          obtain rfl := Option.some.inj H
          have hnb89 := NB374_381.out
          have hnc89 := NB381_374.out
          obtain ⟨hcz90_0, hcz90_1, hcz90_2, hcz90_3, hcz90_4, hcz90_5, hcz90_6, hcz90_7, hfz90_0, hfz90_1, hfz90_2, hfz90_3, hfz90_4, hfz90_5, hfz90_6, hfz90_7⟩ := bx8_ BK374
          go_wp2_with (first | (go_at_call 90; (with_reducible refine (impl_uses.calls kj46 a0_0 103 false _ A55.out).mono ?_); rintro e w91 ⟨rfl, hb⟩; replace HO_382003 := Aside0.mk (Kd.V_below (by (with_reducible repeat (first | apply Kd.V_alloc | apply Kd.V_drewN | apply Kd.V_drew)); exact HO_382003.out) hb); replace BK374 := kb_ BK374 hb; replace BK381 := kb_ BK381 hb; replace HB := hs_ hb; clear hb))
          repeat (go_quiet (first | (go_at_call 90; (with_reducible refine (impl_uses.calls kj46 a0_0 103 false _ A55.out).mono ?_); rintro e w91 ⟨rfl, hb⟩; replace HO_382003 := Aside0.mk (Kd.V_below (by (with_reducible repeat (first | apply Kd.V_alloc | apply Kd.V_drewN | apply Kd.V_drew)); exact HO_382003.out) hb); replace BK374 := kb_ BK374 hb; replace BK381 := kb_ BK381 hb; replace HB := hs_ hb; clear hb)); try go_wp2_with (first | (go_at_call 90; (with_reducible refine (impl_uses.calls kj46 a0_0 103 false _ A55.out).mono ?_); rintro e w91 ⟨rfl, hb⟩; replace HO_382003 := Aside0.mk (Kd.V_below (by (with_reducible repeat (first | apply Kd.V_alloc | apply Kd.V_drewN | apply Kd.V_drew)); exact HO_382003.out) hb); replace BK374 := kb_ BK374 hb; replace BK381 := kb_ BK381 hb; replace HB := hs_ hb; clear hb)))
          go_ret
          exact ⟨sq_, bl_⟩
         subst c77
         replace H := ip_ H
         by_cases c78 : x5_37 = true
         ·subst c78
          replace H := ip_ H
          by_cases c79 : x6_46 = true
          ·subst c79
           replace H := ip_ H
           obtain rfl := Option.some.inj H
           have hnb80 := NB374_381.out
           have hnc80 := NB381_374.out
           obtain ⟨hcz81_0, hcz81_1, hcz81_2, hcz81_3, hcz81_4, hcz81_5, hcz81_6, hcz81_7, hfz81_0, hfz81_1, hfz81_2, hfz81_3, hfz81_4, hfz81_5, hfz81_6, hfz81_7⟩ := bx8_ BK374
           go_wp2_with (first | (go_at_call 90; (with_reducible refine (impl_uses.calls kj46 a0_0 103 false _ A55.out).mono ?_); rintro e w82 ⟨rfl, hb⟩; replace HO_382003 := Aside0.mk (Kd.V_below (by (with_reducible repeat (first | apply Kd.V_alloc | apply Kd.V_drewN | apply Kd.V_drew)); exact HO_382003.out) hb); replace BK374 := kb_ BK374 hb; replace BK381 := kb_ BK381 hb; replace HB := hs_ hb; clear hb))
           repeat (go_quiet (first | (go_at_call 90; (with_reducible refine (impl_uses.calls kj46 a0_0 103 false _ A55.out).mono ?_); rintro e w82 ⟨rfl, hb⟩; replace HO_382003 := Aside0.mk (Kd.V_below (by (with_reducible repeat (first | apply Kd.V_alloc | apply Kd.V_drewN | apply Kd.V_drew)); exact HO_382003.out) hb); replace BK374 := kb_ BK374 hb; replace BK381 := kb_ BK381 hb; replace HB := hs_ hb; clear hb)); try go_wp2_with (first | (go_at_call 90; (with_reducible refine (impl_uses.calls kj46 a0_0 103 false _ A55.out).mono ?_); rintro e w82 ⟨rfl, hb⟩; replace HO_382003 := Aside0.mk (Kd.V_below (by (with_reducible repeat (first | apply Kd.V_alloc | apply Kd.V_drewN | apply Kd.V_drew)); exact HO_382003.out) hb); replace BK374 := kb_ BK374 hb; replace BK381 := kb_ BK381 hb; replace HB := hs_ hb; clear hb)))
           go_ret
           exact ⟨sq_, bl_⟩
          replace c79 := Bool.eq_false_iff.mpr c79
          subst c79
          replace H := in_ H
          obtain rfl := Option.some.inj H
          have hnb83 := NB374_381.out
          have hnc83 := NB381_374.out
          obtain ⟨hcz84_0, hcz84_1, hcz84_2, hcz84_3, hcz84_4, hcz84_5, hcz84_6, hcz84_7, hfz84_0, hfz84_1, hfz84_2, hfz84_3, hfz84_4, hfz84_5, hfz84_6, hfz84_7⟩ := bx8_ BK374
          go_wp2_with (first | (go_at_call 90; (with_reducible refine (impl_uses.calls kj46 a0_0 103 false _ A55.out).mono ?_); rintro e w85 ⟨rfl, hb⟩; replace HO_382003 := Aside0.mk (Kd.V_below (by (with_reducible repeat (first | apply Kd.V_alloc | apply Kd.V_drewN | apply Kd.V_drew)); exact HO_382003.out) hb); replace BK374 := kb_ BK374 hb; replace BK381 := kb_ BK381 hb; replace HB := hs_ hb; clear hb))
          repeat (go_quiet (first | (go_at_call 90; (with_reducible refine (impl_uses.calls kj46 a0_0 103 false _ A55.out).mono ?_); rintro e w85 ⟨rfl, hb⟩; replace HO_382003 := Aside0.mk (Kd.V_below (by (with_reducible repeat (first | apply Kd.V_alloc | apply Kd.V_drewN | apply Kd.V_drew)); exact HO_382003.out) hb); replace BK374 := kb_ BK374 hb; replace BK381 := kb_ BK381 hb; replace HB := hs_ hb; clear hb)); try go_wp2_with (first | (go_at_call 90; (with_reducible refine (impl_uses.calls kj46 a0_0 103 false _ A55.out).mono ?_); rintro e w85 ⟨rfl, hb⟩; replace HO_382003 := Aside0.mk (Kd.V_below (by (with_reducible repeat (first | apply Kd.V_alloc | apply Kd.V_drewN | apply Kd.V_drew)); exact HO_382003.out) hb); replace BK374 := kb_ BK374 hb; replace BK381 := kb_ BK381 hb; replace HB := hs_ hb; clear hb)))
          go_ret
          exact ⟨sq_, bl_⟩
         ·replace c78 := Bool.eq_false_iff.mpr c78
          subst c78
          replace H := in_ H
          obtain rfl := Option.some.inj H
          have hnb86 := NB374_381.out
          have hnc86 := NB381_374.out
          obtain ⟨hcz87_0, hcz87_1, hcz87_2, hcz87_3, hcz87_4, hcz87_5, hcz87_6, hcz87_7, hfz87_0, hfz87_1, hfz87_2, hfz87_3, hfz87_4, hfz87_5, hfz87_6, hfz87_7⟩ := bx8_ BK374
          go_wp2_with (first | (go_at_call 90; (with_reducible refine (impl_uses.calls kj46 a0_0 103 false _ A55.out).mono ?_); rintro e w88 ⟨rfl, hb⟩; replace HO_382003 := Aside0.mk (Kd.V_below (by (with_reducible repeat (first | apply Kd.V_alloc | apply Kd.V_drewN | apply Kd.V_drew)); exact HO_382003.out) hb); replace BK374 := kb_ BK374 hb; replace BK381 := kb_ BK381 hb; replace HB := hs_ hb; clear hb))
          repeat (go_quiet (first | (go_at_call 90; (with_reducible refine (impl_uses.calls kj46 a0_0 103 false _ A55.out).mono ?_); rintro e w88 ⟨rfl, hb⟩; replace HO_382003 := Aside0.mk (Kd.V_below (by (with_reducible repeat (first | apply Kd.V_alloc | apply Kd.V_drewN | apply Kd.V_drew)); exact HO_382003.out) hb); replace BK374 := kb_ BK374 hb; replace BK381 := kb_ BK381 hb; replace HB := hs_ hb; clear hb)); try go_wp2_with (first | (go_at_call 90; (with_reducible refine (impl_uses.calls kj46 a0_0 103 false _ A55.out).mono ?_); rintro e w88 ⟨rfl, hb⟩; replace HO_382003 := Aside0.mk (Kd.V_below (by (with_reducible repeat (first | apply Kd.V_alloc | apply Kd.V_drewN | apply Kd.V_drew)); exact HO_382003.out) hb); replace BK374 := kb_ BK374 hb; replace BK381 := kb_ BK381 hb; replace HB := hs_ hb; clear hb)))
          go_ret
          exact ⟨sq_, bl_⟩
/-! ### opRows_index: function 49, handed function 51 -/
theorem opRows_index.rdN {xs : List S74} {x : Int} (h : x.toNat < xs.length) : rd_T74 xs x = xs[x.toNat] := by
 unfold rd_T74
 rw [List.getD_eq_getElem?_getD, List.getElem?_eq_getElem h]; rfl
def opRows_index.idxF (p : S74 → Bool) (xs : List S74) : Int := match xs.findIdx? p with | some j => (j : Int) | none => -1
theorem opRows_index.idxF_none (p : S74 → Bool) (xs : List S74) (h : ∀ j (hj : j < xs.length), p xs[j] = false) : opRows_index.idxF p xs = -1 := by
 unfold opRows_index.idxF
 have : xs.findIdx? p = none := by
  rw [List.findIdx?_eq_none_iff]
  intro x hx
  obtain ⟨j, hj, rfl⟩ := List.getElem_of_mem hx
  exact h j hj
 rw [this]
theorem opRows_index.idxF_some (p : S74 → Bool) (xs : List S74) (i : Nat) (hi : i < xs.length) (hp : p xs[i] = true) (h : ∀ j (hj : j < i), p (xs[j]'(by omega)) = false) : opRows_index.idxF p xs = (i : Int) := by
 unfold opRows_index.idxF
 have : xs.findIdx? p = some i := by
  rw [List.findIdx?_eq_some_iff_getElem]
  exact ⟨hi, hp, fun j hj => by simpa using h j hj⟩
 rw [this]
set_option maxHeartbeats 2000000 in
set_option maxRecDepth 100000 in
theorem opRows_index.idx (A0 : Option Addr) (c0 : Nat) (l0 : List S74) (g : Nat) (lb : Array Value) (p : S74 → Bool) (w : World) (hr0 : Kd.C k74 w A0 l0.length l0) (hc0 : l0.length ≤ c0)
  (eg : ∀ args w, (callFunc g args).run Tryz.prog w = .ok (.enter g args) w)
  (hp : ∀ (W : World) (x : S74) (A3 : Option Addr) (c3 : Nat), Below w.heap.size w W → Calls Tryz.prog g (#[.agg #[.string x.f0, .string x.f1, .string x.f2, .slice A3 x.f3.length c3]] ++ lb) W fun e w' => e = .returned (.bool (p x)) ∧ Below W.heap.size W w') :
  Calls Tryz.prog 49 #[.slice A0 l0.length c0, .func (.func g) #[] lb] w fun e w' => e = .returned (.int .i64 (opRows_index.idxF p l0)) ∧ Below w.heap.size w w' := by
 have hlen : l0.length ≤ 9223372036854775807 := hr0.2.1
 have HR0 := Aside0.mk hr0
 have HL := Aside0.mk hlen
 have HP := Aside0.mk hp
 clear hr0 hp
 have HB := Aside0.mk (Below.refl w.heap.size w)
 have hu74 := Tryz.underlying74
 clear hlen hc0
 go_enter Tryz.func49, Tryz.ntmps49
 go_wp2
 go_loopg [5, 8] l0.length (fun gg _ s8 wr => ∃ x : Int, s8 = .int .i64 x ∧ Aside0 (0 ≤ x) ∧ Aside0 (x ≤ l0.length) ∧ Aside0 (l0.length - x.toNat ≤ gg) ∧ Aside0 (∀ j (hj : j < l0.length), (j : Int) < x → p l0[j] = false) ∧ Aside0 (Below w.heap.size w wr))
 case atStart => exact ⟨0, rfl, ⟨by omega⟩, ⟨by omega⟩, ⟨by omega⟩, ⟨fun j hj h => by omega⟩, ⟨Below.refl _ w⟩⟩
 case round =>
  obtain ⟨x, rfl, H0, H1, HG, AF, HB⟩ := hrel
  by_cases hlt : x < (l0.length : Int)
  rotate_left
  ·have c0 : decide (x < (l0.length : Int)) = false := decide_eq_false hlt
   have HN := Aside0.mk hlt
   clear hlt
   go_wp2
   go_ret
   exact ⟨by show Ending.returned (Value.int .i64 (-1)) = _; rw [opRows_index.idxF_none p l0 (fun j hj => AF.out j hj (by have := HN.out; omega))], HB.out⟩
  have hN : x.toNat < l0.length := by have := H0.out; omega
  have HN := Aside0.mk hN
  have c0 : decide (x < (l0.length : Int)) = true := decide_eq_true hlt
  obtain ⟨ad, A3, c3, e, hx0, hx1, hx2, hx3, hl3, hi3⟩ := at_T74 HR0.out x H0.out hlt
  cases e
  replace hx0 := kc_ HB hx0
  replace hx1 := kc_ HB hx1
  replace hx2 := kc_ HB hx2
  replace hx3 := kc_ HB hx3
  have p0 := eq_true H0.out
  have q0 := eq_true hlt
  clear hN hlt
  have HX := Aside0.mk (opRows_index.rdN HN.out)
  cases hq : p (rd_T74 l0 x) with
  | true =>
   have HC := Aside0.mk (hq ▸ HP.out wr (rd_T74 l0 x) A3 c3 HB.out)
   have HQ := Aside0.mk hq
   clear hq
   go_wp2_with (go_at_fn g; refine HC.out.mono ?_; rintro e w' ⟨rfl, hb'⟩)
   go_ret
   exact ⟨by show Ending.returned (Value.int .i64 x) = _; rw [opRows_index.idxF_some p l0 x.toNat HN.out (by rw [← HX.out]; exact HQ.out) (fun j hj => AF.out j (by have := HN.out; omega) (by omega)), Int.toNat_of_nonneg H0.out], below_step HB.out hb'⟩
  | false =>
   have HC := Aside0.mk (hq ▸ HP.out wr (rd_T74 l0 x) A3 c3 HB.out)
   have HQ := Aside0.mk hq
   clear hq
   go_wp2_with (go_at_fn g; refine HC.out.mono ?_; rintro e w' ⟨rfl, hb'⟩; have HB' := Aside0.mk hb'; clear hb')
   have hw := HL.out
   have e1 : wrap64 (x + 1) = x + 1 := by have := HN.out; have := H0.out; unfold wrap64; omega
   go_roundg (l0.length - (x.toNat + 1))
   case measure => have := HG.out; have := HN.out; omega
   case rel =>
    have hN := HN.out
    have h0 := H0.out
    refine ⟨wrap64 (x + 1), (by first | rfl | (simp; done) | (simp [*]; done)), ⟨by omega⟩, ⟨by omega⟩, ⟨by omega⟩, ⟨fun j hj h => ?_⟩, ⟨below_step HB.out HB'.out⟩⟩
    by_cases e : j = x.toNat
    ·subst e; rw [← HX.out]; exact HQ.out
    exact AF.out j hj (by omega)
def opRows_index.T1 : Bool × List (List Nat × List Nat) := (true, [([], []), ([0], [0]), ([], []), ([2], [2]), ([1, 3], [1, 3]), ([4], [4]), ([5], [5]), ([6, 5], [5, 6]), ([5], [5]), ([8, 5], [5, 8]), ([7, 9, 5], [5, 7, 9]), ([5, 10], [5, 10]), ([11, 5, 0, 1, 2, 3, 4, 5, 6, 7, 8, 9, 10, 11], [11])])
def opRows_index.B1 : List Nat := [0, 1, 0, 4, 15, 31, 63, 127, 63, 319, 1023, 2047, 4095]
theorem opRows_index.tab1 : rtab .any (opsOf Tryz.f51 1) = opRows_index.T1 := by kernel_rfl
theorem opRows_index.bits1 : waitsOk opRows_index.T1.2 opRows_index.B1 = true := by kernel_rfl
set_option maxHeartbeats 2000000 in
set_option maxRecDepth 100000 in
theorem opRows_index.clo (x : S74) (A3 : Option Addr) (c3 : Nat) (a1 a2 : ByteArray) (hl : 2 ≤ a2.size) (B1 B2 : Nat) (v1 : Value) (w : World) (h1 : w.heap[B1]? = some (.cells #[.string a1, v1] 32 (0, 0))) (h2 : w.heap[B2]? = some (.cells #[.string a2] 9 (0, 0))) :
  Calls Tryz.prog 51 #[.agg #[.string x.f0, .string x.f1, .string x.f2, .slice A3 x.f3.length c3], .pointer (some ⟨B1, 0, none⟩), .pointer (some ⟨B2, 0, none⟩)] w fun e w' => e = .returned (.bool ((fun x => x.f0.toList == a1.toList && x.f1.toList == (a2.extract 0 2).toList) x)) ∧ Below w.heap.size w w' := by
 have hu74 := Tryz.underlying74
 have hu32 := Tryz.underlying32
 have hlt1 := blk_lt h1
 have hc1 := blk_cell h1 0
 have hf1 := blk_frozen h1 0
 have hlt2 := blk_lt h2
 have hc2 := blk_cell h2 0
 have hf2 := blk_frozen h2 0
 have q0 : ((2 : Int) ≤ (a2.size : Int)) = True := eq_true (by omega)
 have q1 : decide ((2 : Int) ≤ (a2.size : Int)) = true := decide_eq_true (by omega)
 have q2 : (2 ≤ a2.size) = True := eq_true hl
 cases hq : (x.f0.toList == a1.toList) with
 | true =>
  go_enter Tryz.func51, Tryz.ntmps51
  try go_wp2
  have K0 : (w.alloc (.cells #[.string x.f0, .string x.f1, .string x.f2, .slice A3 x.f3.length c3] 74)).heap[w.heap.size]? = some (.cells #[.string x.f0, .string x.f1, .string x.f2, .slice A3 x.f3.length c3] 74 (0, 0)) := heap_alloc_new w _
  have K1 := blk_alloc h1 (.cells #[.string x.f0, .string x.f1, .string x.f2, .slice A3 x.f3.length c3] 74)
  have K2 := blk_alloc h2 (.cells #[.string x.f0, .string x.f1, .string x.f2, .slice A3 x.f3.length c3] 74)
  have HB := Aside0.mk (below_drew1 (below_alloc (Below.refl w.heap.size w) (.cells #[.string x.f0, .string x.f1, .string x.f2, .slice A3 x.f3.length c3] 74)))
  have D0 := Aside0.mk (blk_drew K0)
  have D1 := Aside0.mk (blk_drew K1)
  have D2 := Aside0.mk (blk_drew K2)
  refine start_ (n := 13) (S := fun w' => w'.cell? ⟨w.heap.size, 0, none⟩ = some (.string x.f0) ∧ w'.cell? ⟨w.heap.size, 1, none⟩ = some (.string x.f1) ∧ w'.cell? ⟨B1, 0, none⟩ = some (.string a1) ∧ w'.cell? ⟨B2, 0, none⟩ = some (.string a2)) (ds := []) tb13_0 (by kernel_rfl) rfl rfl ⟨cy_ D0 0, cy_ D0 1, cy_ D1 0, cy_ D2 0⟩ (fun hHeld => ?_)
  refine with_tabW opRows_index.tab1 opRows_index.bits1 (fun HT_ HW_ => ?_)
  clear K0 K1 K2 D0 D1 D2 hc1 hf1 hc2 hf2
  generalize (w.alloc (.cells #[.string x.f0, .string x.f1, .string x.f2, .slice A3 x.f3.length c3] 74)).drew = w2 at HB hHeld ⊢
  refine pl_ HT_ 0 5 tb13_1 ?_
  refine pl_ HT_ 2 7 tb13_5 ?_
  refine take_ (i := 1) (N := some 6) (v := ?_) (a' := ?_) tb13_7 rfl rfl (take_ofW HT_.out HW_.out (by kernel_rfl)) (fun _ _ _ h => h) (Or.inl ⟨by rfl, ?_⟩) hHeld ?_ ?_
  rotate_left
  ·rintro w' ⟨s0, s1, s2, s3⟩
   go_simp
   with_reducible rfl
  rotate_left
  ·simp only [Act.put, q_]
   rfl
  refine take_ (i := 3) (N := some 8) (v := ?_) (a' := ?_) tb13_f rfl rfl (take_ofW HT_.out HW_.out (by kernel_rfl)) (fun _ _ _ h => h) (Or.inl ⟨by rfl, ?_⟩) hHeld ?_ ?_
  rotate_left
  ·rintro w' ⟨s0, s1, s2, s3⟩
   go_simp
   with_reducible rfl
  rotate_left
  ·simp only [Act.put, q_]
   rfl
  refine pl_ HT_ 4 9 tb13_1f ?_
  refine pl_ HT_ 5 10 tb13_3f ?_
  refine pl_ HT_ 6 11 tb13_7f ?_
  refine take_ (i := 8) (N := some 13) (v := ?_) (a' := ?_) tb13_17f rfl rfl (take_ofW HT_.out HW_.out (by kernel_rfl)) (fun _ _ _ h => h) (Or.inl ⟨by rfl, ?_⟩) hHeld ?_ ?_
  rotate_left
  ·rintro w' ⟨s0, s1, s2, s3⟩
   go_simp
   with_reducible rfl
  rotate_left
  ·simp only [Act.put, q_]
   rfl
  refine take_ (i := 7) (N := some 12) (v := ?_) (a' := ?_) tb13_1ff rfl rfl (take_ofW HT_.out HW_.out (by kernel_rfl)) (fun _ _ _ h => h) (Or.inl ⟨by rfl, ?_⟩) hHeld ?_ ?_
  rotate_left
  ·rintro w' ⟨s0, s1, s2, s3⟩
   go_simp
   with_reducible rfl
  rotate_left
  ·simp only [Act.put, q_]
   rfl
  refine pl_ HT_ 9 14 tb13_3ff ?_
  refine pl_ HT_ 10 15 tb13_7ff ?_
  refine pl_ HT_ 11 16 tb13_fff ?_
  refine pl_ HT_ 12 4 tb13_1fff ?_
  refine done_ (done_of HT_.out (by kernel_rfl)) ?_
  try go_wp2
  go_ret
  exact ⟨by simp [hq], bl_⟩
 | false =>
  go_enter Tryz.func51, Tryz.ntmps51
  try go_wp2
  have K0 : (w.alloc (.cells #[.string x.f0, .string x.f1, .string x.f2, .slice A3 x.f3.length c3] 74)).heap[w.heap.size]? = some (.cells #[.string x.f0, .string x.f1, .string x.f2, .slice A3 x.f3.length c3] 74 (0, 0)) := heap_alloc_new w _
  have K1 := blk_alloc h1 (.cells #[.string x.f0, .string x.f1, .string x.f2, .slice A3 x.f3.length c3] 74)
  have K2 := blk_alloc h2 (.cells #[.string x.f0, .string x.f1, .string x.f2, .slice A3 x.f3.length c3] 74)
  have HB := Aside0.mk (below_drew1 (below_alloc (Below.refl w.heap.size w) (.cells #[.string x.f0, .string x.f1, .string x.f2, .slice A3 x.f3.length c3] 74)))
  have D0 := Aside0.mk (blk_drew K0)
  have D1 := Aside0.mk (blk_drew K1)
  have D2 := Aside0.mk (blk_drew K2)
  refine start_ (n := 13) (S := fun w' => w'.cell? ⟨w.heap.size, 0, none⟩ = some (.string x.f0) ∧ w'.cell? ⟨w.heap.size, 1, none⟩ = some (.string x.f1) ∧ w'.cell? ⟨B1, 0, none⟩ = some (.string a1) ∧ w'.cell? ⟨B2, 0, none⟩ = some (.string a2)) (ds := []) tb13_0 (by kernel_rfl) rfl rfl ⟨cy_ D0 0, cy_ D0 1, cy_ D1 0, cy_ D2 0⟩ (fun hHeld => ?_)
  refine with_tabW opRows_index.tab1 opRows_index.bits1 (fun HT_ HW_ => ?_)
  clear K0 K1 K2 D0 D1 D2 hc1 hf1 hc2 hf2
  generalize (w.alloc (.cells #[.string x.f0, .string x.f1, .string x.f2, .slice A3 x.f3.length c3] 74)).drew = w2 at HB hHeld ⊢
  refine pl_ HT_ 0 5 tb13_1 ?_
  refine pl_ HT_ 2 7 tb13_5 ?_
  refine take_ (i := 1) (N := some 6) (v := ?_) (a' := ?_) tb13_7 rfl rfl (take_ofW HT_.out HW_.out (by kernel_rfl)) (fun _ _ _ h => h) (Or.inl ⟨by rfl, ?_⟩) hHeld ?_ ?_
  rotate_left
  ·rintro w' ⟨s0, s1, s2, s3⟩
   go_simp
   with_reducible rfl
  rotate_left
  ·simp only [Act.put, q_]
   rfl
  refine take_ (i := 3) (N := some 8) (v := ?_) (a' := ?_) tb13_f rfl rfl (take_ofW HT_.out HW_.out (by kernel_rfl)) (fun _ _ _ h => h) (Or.inl ⟨by rfl, ?_⟩) hHeld ?_ ?_
  rotate_left
  ·rintro w' ⟨s0, s1, s2, s3⟩
   go_simp
   with_reducible rfl
  rotate_left
  ·simp only [Act.put, q_]
   rfl
  refine pl_ HT_ 4 9 tb13_1f ?_
  refine pl_ HT_ 5 10 tb13_3f ?_
  refine pr_ HT_ 6 11 tb13_7f ?_
  refine pr_ HT_ 7 12 tb13_ff ?_
  refine pr_ HT_ 8 13 tb13_1ff ?_
  refine pr_ HT_ 9 14 tb13_3ff ?_
  refine pr_ HT_ 10 15 tb13_7ff ?_
  refine pl_ HT_ 11 16 tb13_fff ?_
  refine pl_ HT_ 12 4 tb13_1fff ?_
  refine done_ (done_of HT_.out (by kernel_rfl)) ?_
  try go_wp2
  go_ret
  exact ⟨by simp [hq], bl_⟩
def opRows_index.f (l0 : List S74) (a1 : ByteArray) (a2 : ByteArray) : Option (Int) := if 2 ≤ a2.size then some (opRows_index.idxF (fun x => x.f0.toList == a1.toList && x.f1.toList == (a2.extract 0 2).toList) l0) else none
theorem opRows_index.calls (A0 : Option Addr) (c0 : Nat) (l0 : List S74) (a1 : ByteArray) (a2 : ByteArray) (r : Int) (B1 B2 : Nat) (v1 : Value) (w : World) (hr0 : Kd.C k74 w A0 l0.length l0) (hc0 : l0.length ≤ c0) (h1 : w.heap[B1]? = some (.cells #[.string a1, v1] 32 (0, 0))) (h2 : w.heap[B2]? = some (.cells #[.string a2] 9 (0, 0))) (h : opRows_index.f l0 a1 a2 = some r) :
  Calls Tryz.prog 49 #[.slice A0 l0.length c0, .func (.func 51) #[] #[.pointer (some ⟨B1, 0, none⟩), .pointer (some ⟨B2, 0, none⟩)]] w fun e w' => e = .returned (.int .i64 r) ∧ Below w.heap.size w w' := by
 unfold opRows_index.f at h
 split at h
 case isFalse => cases h
 case isTrue hl =>
 obtain rfl := Option.some.inj h
 exact opRows_index.idx A0 c0 l0 51 #[.pointer (some ⟨B1, 0, none⟩), .pointer (some ⟨B2, 0, none⟩)] (fun x => x.f0.toList == a1.toList && x.f1.toList == (a2.extract 0 2).toList) w hr0 hc0 (fun _ _ => by kernel_rfl) (fun W x A3 c3 hb => opRows_index.clo x A3 c3 a1 a2 hl B1 B2 v1 W ((hb.block _ (blk_lt h1)).trans h1) ((hb.block _ (blk_lt h2)).trans h2))
end Go.Proofs.YtohfefkjcnbejaaGreatDoor.QFnExactAsks
