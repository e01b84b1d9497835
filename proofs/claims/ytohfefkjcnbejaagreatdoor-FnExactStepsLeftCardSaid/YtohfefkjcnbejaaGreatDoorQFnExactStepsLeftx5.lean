-- by my own printer (myprint.py, over the kit's print.py)
import Derived.Test.YtohfefkjcnbejaaGreatDoorQFnExactStepsLeftx2
import Derived.Test.YtohfefkjcnbejaaGreatDoorQFnExactStepsLeftx4
namespace Go.Proofs.YtohfefkjcnbejaaGreatDoor.QFnExactStepsLeft
open Go.RowKit Go.Proofs.YtohfefkjcnbejaaGreatDoorW.PrintWords Go.Proofs.YtohfefkjcnbejaaGreatDoorW.PrintLast Go.Proofs.YtohfefkjcnbejaaGreatDoorW.PrintMore Tryz
attribute [local go_sem] max2_int min2_int max_two min_two max_three min_three max_four min_four
set_option linter.unusedVariables false
set_option linter.unusedSimpArgs false
set_option maxHeartbeats 8000000
set_option maxRecDepth 100000
attribute [local go_sem] my_geq my_leq my_gtr
/-! ### laws_szByteS: function 62 -/
def laws_szByteS.f (l0 : List Int) (a1 : Int) : Option (Int) := if (wrap64 (a1 - (l0.length : Int))) < 0 then (some (-1)) else (some (wrap64 (a1 - (l0.length : Int))))
theorem laws_szByteS.calls (A0 : Option Addr) (c0 : Nat) (l0 : List Int) (a1 : Int) (r : Int) (w : World) (hr0 : Kd.C (Kd.int .u8) w A0 l0.length l0) (hc0 : l0.length ≤ c0) (h : laws_szByteS.f l0 a1 = some r) :
  Calls Tryz.prog 62 #[.slice A0 l0.length c0, .int .i64 a1] w fun e w' => e = .returned (.int .i64 r) ∧ Drawn0 w w' := by
 have HR0 := Aside0.mk hr0
 have HC0 := Aside0.mk hc0
 clear hr0 hc0
 have H := h
 unfold laws_szByteS.f at H
 clear h
 by_cases c3 : (wrap64 (a1 - (l0.length : Int))) < 0
 ·rw [if_pos c3] at H
  replace c3 := dt_ c3
  obtain rfl := si_ H
  go_enter func62, ntmps62
  go_wp2
  go_ret
  exact ⟨sp_, dr_⟩
 rw [if_neg c3] at H
 replace c3 := df_ c3
 obtain rfl := si_ H
 go_enter func62, ntmps62
 go_wp2
 go_ret
 exact ⟨sp_, dr_⟩
/-! ### laws_szIntS: function 63 -/
def laws_szIntS.f (l0 : List Int) (a1 : Int) : Option (Int) := if (wrap64 (a1 - (l0.length : Int))) < 0 then (some (-1)) else (some (wrap64 (a1 - (l0.length : Int))))
theorem laws_szIntS.calls (A0 : Option Addr) (c0 : Nat) (l0 : List Int) (a1 : Int) (r : Int) (w : World) (hr0 : Kd.C (Kd.int .i64) w A0 l0.length l0) (hc0 : l0.length ≤ c0) (h : laws_szIntS.f l0 a1 = some r) :
  Calls Tryz.prog 63 #[.slice A0 l0.length c0, .int .i64 a1] w fun e w' => e = .returned (.int .i64 r) ∧ Drawn0 w w' := by
 have HR0 := Aside0.mk hr0
 have HC0 := Aside0.mk hc0
 clear hr0 hc0
 have H := h
 unfold laws_szIntS.f at H
 clear h
 by_cases c3 : (wrap64 (a1 - (l0.length : Int))) < 0
 ·rw [if_pos c3] at H
  replace c3 := dt_ c3
  obtain rfl := si_ H
  go_enter func63, ntmps63
  go_wp2
  go_ret
  exact ⟨sp_, dr_⟩
 rw [if_neg c3] at H
 replace c3 := df_ c3
 obtain rfl := si_ H
 go_enter func63, ntmps63
 go_wp2
 go_ret
 exact ⟨sp_, dr_⟩
/-! ### laws_szTask: function 22 -/
def laws_szTask.f (l0_0 : List Int) (a0_1 : Int) (l0_2 : List Int) (a0_3 : Int) (a0_4 : Int) (a0_5 : Int) (a0_6 : Int) (a0_7 : Int) (l0_8 : List Int) (a1 : Int) : Option (Int) := (laws_szByteS.f l0_0 a1).bind fun t6 => (if t6 < 0 then (some (-1)) else ((laws_szIntS.f l0_2 t6).bind fun t10 => (if t10 < 0 then (some (-1)) else ((laws_szByteS.f l0_8 t10).bind fun t14 => (if t14 < 0 then (some (-1)) else (some t14))))))
theorem laws_szTask.calls (A0_0 : Option Addr) (c0_0 : Nat) (l0_0 : List Int) (a0_1 : Int) (A0_2 : Option Addr) (c0_2 : Nat) (l0_2 : List Int) (a0_3 : Int) (a0_4 : Int) (a0_5 : Int) (a0_6 : Int) (a0_7 : Int) (A0_8 : Option Addr) (c0_8 : Nat) (l0_8 : List Int) (a1 : Int) (r : Int) (w : World) (hr0_0 : Kd.C (Kd.int .u8) w A0_0 l0_0.length l0_0) (hc0_0 : l0_0.length ≤ c0_0) (hr0_2 : Kd.C (Kd.int .i64) w A0_2 l0_2.length l0_2) (hc0_2 : l0_2.length ≤ c0_2) (hr0_8 : Kd.C (Kd.int .u8) w A0_8 l0_8.length l0_8) (hc0_8 : l0_8.length ≤ c0_8) (h : laws_szTask.f l0_0 a0_1 l0_2 a0_3 a0_4 a0_5 a0_6 a0_7 l0_8 a1 = some r) :
  Calls Tryz.prog 22 #[.agg #[.slice A0_0 l0_0.length c0_0, .int .i64 a0_1, .slice A0_2 l0_2.length c0_2, .int .i64 a0_3, .int .i64 a0_4, .int .i64 a0_5, .int .i64 a0_6, .int .i64 a0_7, .slice A0_8 l0_8.length c0_8], .int .i64 a1] w fun e w' => e = .returned (.int .i64 r) ∧ Below w.heap.size w w' := by
 have hu48 := underlying48
 have HR0_0 := Aside0.mk hr0_0
 have HC0_0 := Aside0.mk hc0_0
 clear hr0_0 hc0_0
 have HR0_2 := Aside0.mk hr0_2
 have HC0_2 := Aside0.mk hc0_2
 clear hr0_2 hc0_2
 have HR0_8 := Aside0.mk hr0_8
 have HC0_8 := Aside0.mk hc0_8
 clear hr0_8 hc0_8
 have HB := Aside0.mk (Below.refl w.heap.size w)
 have H := h
 unfold laws_szTask.f at H
 clear h
 obtain ⟨t6, A3, H⟩ := ob_ H
 by_cases c4 : t6 < 0
 ·rw [if_pos c4] at H
  replace c4 := dt_ c4
  obtain rfl := si_ H
  go_enter func22, ntmps22
  go_wp2_with (first | ((with_reducible refine gt_ 2 ?_); refine bo_ 2 #[.slice A0_0 l0_0.length c0_0, .int .i64 a0_1, .slice A0_2 l0_2.length c0_2, .int .i64 a0_3, .int .i64 a0_4, .int .i64 a0_5, .int .i64 a0_6, .int .i64 a0_7, .slice A0_8 l0_8.length c0_8] 48 ?_; intro gb1 hg w5 BK1 hb; have GW1 := gw_ (w := w) hg; replace HB := hs_ hb; clear hb hg; refine by9_ BK1 ?_; intros) | ((with_reducible refine gd_ 62 8 func62 #[.slice A0_0 l0_0.length c0_0, .int .i64 a1] (laws_szByteS.calls _ _ l0_0 a1 t6 _ (cb_ HR0_0 HB) HC0_0.out A3.out) fun nd => ?_)))
  go_ret
  exact ⟨sq_, bl_⟩
 rw [if_neg c4] at H
 replace c4 := df_ c4
 obtain ⟨t10, A7, H⟩ := ob_ H
 by_cases c8 : t10 < 0
 ·rw [if_pos c8] at H
  replace c8 := dt_ c8
  obtain rfl := si_ H
  go_enter func22, ntmps22
  go_wp2_with (first | ((with_reducible refine gt_ 2 ?_); refine bo_ 2 #[.slice A0_0 l0_0.length c0_0, .int .i64 a0_1, .slice A0_2 l0_2.length c0_2, .int .i64 a0_3, .int .i64 a0_4, .int .i64 a0_5, .int .i64 a0_6, .int .i64 a0_7, .slice A0_8 l0_8.length c0_8] 48 ?_; intro gb1 hg w9 BK1 hb; have GW1 := gw_ (w := w) hg; replace HB := hs_ hb; clear hb hg; refine by9_ BK1 ?_; intros) | ((with_reducible refine gd_ 62 8 func62 #[.slice A0_0 l0_0.length c0_0, .int .i64 a1] (laws_szByteS.calls _ _ l0_0 a1 t6 _ (cb_ HR0_0 HB) HC0_0.out A3.out) fun nd => ?_)) | ((with_reducible refine gd_ 63 14 func63 #[.slice A0_2 l0_2.length c0_2, .int .i64 t6] (laws_szIntS.calls _ _ l0_2 t6 t10 _ (ca_ (Kd.C_below HR0_2.out bl_)) HC0_2.out A7.out) fun nd => ?_)))
  go_ret
  exact ⟨sq_, bl_⟩
 rw [if_neg c8] at H
 replace c8 := df_ c8
 obtain ⟨t14, A11, H⟩ := ob_ H
 by_cases c12 : t14 < 0
 ·rw [if_pos c12] at H
  replace c12 := dt_ c12
  obtain rfl := si_ H
  go_enter func22, ntmps22
  go_wp2_with (first | ((with_reducible refine gt_ 2 ?_); refine bo_ 2 #[.slice A0_0 l0_0.length c0_0, .int .i64 a0_1, .slice A0_2 l0_2.length c0_2, .int .i64 a0_3, .int .i64 a0_4, .int .i64 a0_5, .int .i64 a0_6, .int .i64 a0_7, .slice A0_8 l0_8.length c0_8] 48 ?_; intro gb1 hg w13 BK1 hb; have GW1 := gw_ (w := w) hg; replace HB := hs_ hb; clear hb hg; refine by9_ BK1 ?_; intros) | ((with_reducible refine gd_ 62 8 func62 #[.slice A0_0 l0_0.length c0_0, .int .i64 a1] (laws_szByteS.calls _ _ l0_0 a1 t6 _ (cb_ HR0_0 HB) HC0_0.out A3.out) fun nd => ?_)) | ((with_reducible refine gd_ 63 14 func63 #[.slice A0_2 l0_2.length c0_2, .int .i64 t6] (laws_szIntS.calls _ _ l0_2 t6 t10 _ (ca_ (Kd.C_below HR0_2.out bl_)) HC0_2.out A7.out) fun nd => ?_)) | ((with_reducible refine gd_ 62 20 func62 #[.slice A0_8 l0_8.length c0_8, .int .i64 t10] (laws_szByteS.calls _ _ l0_8 t10 t14 _ (ca_ (Kd.C_below HR0_8.out bl_)) HC0_8.out A11.out) fun nd => ?_)))
  go_ret
  exact ⟨sq_, bl_⟩
 rw [if_neg c12] at H
 replace c12 := df_ c12
 obtain rfl := si_ H
 go_enter func22, ntmps22
 go_wp2_with (first | ((with_reducible refine gt_ 2 ?_); refine bo_ 2 #[.slice A0_0 l0_0.length c0_0, .int .i64 a0_1, .slice A0_2 l0_2.length c0_2, .int .i64 a0_3, .int .i64 a0_4, .int .i64 a0_5, .int .i64 a0_6, .int .i64 a0_7, .slice A0_8 l0_8.length c0_8] 48 ?_; intro gb1 hg w15 BK1 hb; have GW1 := gw_ (w := w) hg; replace HB := hs_ hb; clear hb hg; refine by9_ BK1 ?_; intros) | ((with_reducible refine gd_ 62 8 func62 #[.slice A0_0 l0_0.length c0_0, .int .i64 a1] (laws_szByteS.calls _ _ l0_0 a1 t6 _ (cb_ HR0_0 HB) HC0_0.out A3.out) fun nd => ?_)) | ((with_reducible refine gd_ 63 14 func63 #[.slice A0_2 l0_2.length c0_2, .int .i64 t6] (laws_szIntS.calls _ _ l0_2 t6 t10 _ (ca_ (Kd.C_below HR0_2.out bl_)) HC0_2.out A7.out) fun nd => ?_)) | ((with_reducible refine gd_ 62 20 func62 #[.slice A0_8 l0_8.length c0_8, .int .i64 t10] (laws_szByteS.calls _ _ l0_8 t10 t14 _ (ca_ (Kd.C_below HR0_8.out bl_)) HC0_8.out A11.out) fun nd => ?_)))
 go_ret
 exact ⟨sq_, bl_⟩
/-! ### laws_toByteS: function 15 -/
def laws_toByteS.l0 : Nat → List Int → List Int → Int → Option (List Int)
 | 0, _, _, _ => none
 | k + 1, x0, x3, x4 => if x4 < (x0.length : Int) then (if 0 ≤ x4 then (if x4 < (x3.length : Int) then (laws_toByteS.l0 k x0 (x3.set (x4 : Int).toNat (rd x0 x4)) (wrap64 (x4 + 1))) else (none)) else (none)) else (some x3)
def laws_toByteS.f (k : Nat) (l0 : List Int) : Option (List Int) := if 0 ≤ (l0.length : Int) then (if ((l0.length : Int) : Int).toNat ≤ 281474976710656 then (laws_toByteS.l0 k l0 (List.replicate ((l0.length : Int) : Int).toNat 0) 0) else (none)) else (none)
theorem laws_toByteS.calls (k : Nat) (A0 : Option Addr) (c0 : Nat) (l0 : List Int) (r : List Int) (w : World) (hr0 : Kd.C (Kd.int .u8) w A0 l0.length l0) (hc0 : l0.length ≤ c0) (h : laws_toByteS.f k l0 = some r) :
  Calls Tryz.prog 15 #[.slice A0 l0.length c0] w fun e w' => ∃ v0_ : Value, e = .returned (v0_) ∧ Kd.R (Kd.int .u8) 5 w' w.heap.size (fun _ => True) v0_ r ∧ Below w.heap.size w w' := by
 have HR0 := Aside0.mk hr0
 have HC0 := Aside0.mk hc0
 clear hr0 hc0
 have HB := Aside0.mk (Below.refl w.heap.size w)
 have H := h
 unfold laws_toByteS.f at H
 clear h
 by_cases c2 : 0 ≤ (l0.length : Int)
 rotate_left
 ·rw [if_neg c2] at H
  exact absurd H (by simp)
 rw [if_pos c2] at H
 have := eq_true c2
 replace c2 := dt_ c2
 obtain ⟨c3, H⟩ := og_ H
 have := eq_true c3
 replace c3 := dt_ c3
 obtain ⟨y12, hy12⟩ : ∃ y_ : List Int, y_ = (List.replicate ((l0.length : Int) : Int).toNat 0) := ⟨_, rfl⟩
 replace H : (laws_toByteS.l0 k l0 y12 0) = some r := hh_ hy12 H
 have Ny12 := Aside0.mk hy12
 clear hy12
 have H' := Aside0.mk H
 clear H
 go_enter func15, ntmps15
 go_wp2_with (first | ((with_reducible refine gate_dst (N := 7) rfl ?_); refine Kd.R_make (Kd.int .u8) _ 5 rfl (N := 7) rfl 37 _ _ rfl (l0.length : Int) rfl rfl underlying37 (.int .u8 0) 1 info5 rfl (by decide) (by omega) 0 (ok := fun _ => True) (okp := fun _ => True) rfl (fun _ hk => hk) trivial od_ (Nat.le_trans (Nat.mul_le_mul_right _ (od_ : (l0.length : Int).toNat ≤ 281474976710656)) (by omega)) (Below.refl _ _) (Nat.le_refl _) ?_; intro v14 w4 ho5 hb hg_ hnew_; clear hg_ hnew_; (first | rw [← Ny12.out] at ho5 | (simp only [Int.reduceToNat] at ho5; rw [← Ny12.out] at ho5)); have HO15 := Aside0.mk (Kd.R_lower ho5 (below_size bl_)); replace HB := hs_ hb; clear hb ho5))
 go_loopg [4] k (fun kq v4 w' => ∃ (x3_1 : List Int) (x4_1 : Int), v4 = .int .i64 x4_1 ∧ Aside0 (laws_toByteS.l0 kq l0 x3_1 x4_1 = some r) ∧ Aside0 (kq ≤ k) ∧ Aside0 (Kd.R (Kd.int .u8) 5 w' w.heap.size (fun _ => True) v14 x3_1) ∧ Aside0 (Below w.heap.size w w'))
 case atStart => exact ⟨(y12), (0), sp_, H', ⟨Nat.le_refl _⟩, ⟨ra_ HO15⟩, ⟨bl_⟩⟩
 case round =>
  clear H'
  obtain ⟨x3_1, x4_1, rfl, HA, HK1, HO_3, HB⟩ := hrel
  cases gk with
  | zero => exact absurd HA.out (by simp [laws_toByteS.l0])
  | succ k1 =>
   have H := HA.out
   clear HA
   simp only [laws_toByteS.l0] at H
   by_cases c6 : x4_1 < (l0.length : Int)
   rotate_left
   ·rw [if_neg c6] at H
    replace c6 := df_ c6
    obtain rfl := si_ H
    go_wp2
    go_ret
    exact ⟨_, sq_, ra_ HO_3, bl_⟩
   rw [if_pos c6] at H
   replace c6 := dt_ c6
   obtain ⟨c7, H⟩ := og_ H
   replace c7 := dt_ c7
   obtain ⟨c8, H⟩ := og_ H
   replace c8 := dt_ c8
   obtain ⟨y13, hy13⟩ : ∃ y_ : List Int, y_ = (x3_1.set (x4_1 : Int).toNat (rd l0 x4_1)) := ⟨_, rfl⟩
   replace H : (laws_toByteS.l0 k1 l0 y13 (wrap64 (x4_1 + 1))) = some r := hh_ hy13 H
   have Ny13 := Aside0.mk hy13
   clear hy13
   have H' := Aside0.mk H
   clear H
   have p10 : 0 ≤ (x4_1 : Int) := od_
   have q10 : x4_1 < (l0.length : Int) := od_
   obtain ⟨ad10, e10, hx10_0⟩ := Kd.at_int HR0.out x4_1 p10 q10
   cases e10
   replace hx10_0 := kc_ HB hx10_0
   replace p10 := eq_true p10
   replace q10 := eq_true q10
   have p9 : 0 ≤ (x4_1 : Int) := od_
   have q9 : (x4_1 : Int) < ((x3_1.length : Int) : Int) := od_
   obtain ⟨go9, co9, eo9, gb9, gl9, cl9, HG9⟩ := Kd.R_form HO_3.out (by omega)
   (first | cases eo9 | (injection eo9 with ea_ en_ ec_; (first | subst ea_ | (injection ea_ with ea_; subst ea_)); subst ec_; clear en_))
   have GB9 := Aside0.mk gb9
   have GG9 := Aside0.mk HG9
   clear gb9 gl9 HG9
   obtain ⟨hx9_0, hf9_0⟩ := Kd.R_celln 0 HO_3.out (x4_1 : Int) p9 q9
   replace p9 := eq_true p9
   replace q9 := eq_true q9
   have HP10 := Kd.R_putg HO_3.out (x4_1 : Int) (rd l0 x4_1)
   go_wp2_with (first | ((with_reducible refine gate_store (t := 5) (p := 20) rfl ?_); refine store_event (t := 5) (p := 20) (v := ?vo_w11) (w1 := (wr.setCell ⟨go9, (x4_1 : Int).toNat, none⟩ (.int .u8 (rd l0 x4_1)))) ?hg ?ho ?hn ?hr ?_; (case ho => rfl); (case hg => rfl); (case hn => rfl); (case hr => first | (go_simp; done) | (go_simp; rfl)); intro w11 hw; have hg : wr.grownBy w11 (some go9) := (by rw [hw]; exact HP10.2); have hp_ : Kd.R (Kd.int .u8) 5 w11 w.heap.size (fun _ => True) (.slice (some ⟨go9, 0, none⟩) x3_1.length co9) y13 := (by rw [hw, Ny13.out]; exact HP10.1); clear HP10; replace HO_3 := Aside0.mk (hp_); replace HB := Aside0.mk ((by rw [hw]; exact below_set (HB.out) GB9.out : Below w.heap.size w w11)); clear hg hw hp_))
   go_roundg k1
   case measure => have := HK1.out; omega
   case rel => exact ⟨(y13), (wrap64 (x4_1 + 1)), sp_, H', ⟨by have := HK1.out; omega⟩, ⟨ra_ HO_3⟩, ⟨bl_⟩⟩
/-! ### laws_toIntS: function 65 -/
def laws_toIntS.l0 : Nat → List Int → List Int → Int → Option (List Int)
 | 0, _, _, _ => none
 | k + 1, x0, x3, x4 => if x4 < (x0.length : Int) then (if 0 ≤ x4 then (if x4 < (x3.length : Int) then (laws_toIntS.l0 k x0 (x3.set (x4 : Int).toNat (rd x0 x4)) (wrap64 (x4 + 1))) else (none)) else (none)) else (some x3)
def laws_toIntS.f (k : Nat) (l0 : List Int) : Option (List Int) := if 0 ≤ (l0.length : Int) then (if ((l0.length : Int) : Int).toNat ≤ 35184372088832 then (laws_toIntS.l0 k l0 (List.replicate ((l0.length : Int) : Int).toNat 0) 0) else (none)) else (none)
theorem laws_toIntS.calls (k : Nat) (A0 : Option Addr) (c0 : Nat) (l0 : List Int) (r : List Int) (w : World) (hr0 : Kd.C (Kd.int .i64) w A0 l0.length l0) (hc0 : l0.length ≤ c0) (h : laws_toIntS.f k l0 = some r) :
  Calls Tryz.prog 65 #[.slice A0 l0.length c0] w fun e w' => ∃ v0_ : Value, e = .returned (v0_) ∧ Kd.R (Kd.int .i64) 3 w' w.heap.size (fun _ => True) v0_ r ∧ Below w.heap.size w w' := by
 have HR0 := Aside0.mk hr0
 have HC0 := Aside0.mk hc0
 clear hr0 hc0
 have HB := Aside0.mk (Below.refl w.heap.size w)
 have H := h
 unfold laws_toIntS.f at H
 clear h
 by_cases c2 : 0 ≤ (l0.length : Int)
 rotate_left
 ·rw [if_neg c2] at H
  exact absurd H (by simp)
 rw [if_pos c2] at H
 have := eq_true c2
 replace c2 := dt_ c2
 obtain ⟨c3, H⟩ := og_ H
 have := eq_true c3
 replace c3 := dt_ c3
 obtain ⟨y12, hy12⟩ : ∃ y_ : List Int, y_ = (List.replicate ((l0.length : Int) : Int).toNat 0) := ⟨_, rfl⟩
 replace H : (laws_toIntS.l0 k l0 y12 0) = some r := hh_ hy12 H
 have Ny12 := Aside0.mk hy12
 clear hy12
 have H' := Aside0.mk H
 clear H
 go_enter func65, ntmps65
 go_wp2_with (first | ((with_reducible refine gate_dst (N := 7) rfl ?_); refine Kd.R_make (Kd.int .i64) _ 3 rfl (N := 7) rfl 46 _ _ rfl (l0.length : Int) rfl rfl underlying46 (.int .i64 0) 8 info3 rfl (by decide) (by omega) 0 (ok := fun _ => True) (okp := fun _ => True) rfl (fun _ hk => hk) trivial od_ (Nat.le_trans (Nat.mul_le_mul_right _ (od_ : (l0.length : Int).toNat ≤ 35184372088832)) (by omega)) (Below.refl _ _) (Nat.le_refl _) ?_; intro v14 w4 ho5 hb hg_ hnew_; clear hg_ hnew_; (first | rw [← Ny12.out] at ho5 | (simp only [Int.reduceToNat] at ho5; rw [← Ny12.out] at ho5)); have HO15 := Aside0.mk (Kd.R_lower ho5 (below_size bl_)); replace HB := hs_ hb; clear hb ho5))
 go_loopg [4] k (fun kq v4 w' => ∃ (x3_1 : List Int) (x4_1 : Int), v4 = .int .i64 x4_1 ∧ Aside0 (laws_toIntS.l0 kq l0 x3_1 x4_1 = some r) ∧ Aside0 (kq ≤ k) ∧ Aside0 (Kd.R (Kd.int .i64) 3 w' w.heap.size (fun _ => True) v14 x3_1) ∧ Aside0 (Below w.heap.size w w'))
 case atStart => exact ⟨(y12), (0), sp_, H', ⟨Nat.le_refl _⟩, ⟨ra_ HO15⟩, ⟨bl_⟩⟩
 case round =>
  clear H'
  obtain ⟨x3_1, x4_1, rfl, HA, HK1, HO_3, HB⟩ := hrel
  cases gk with
  | zero => exact absurd HA.out (by simp [laws_toIntS.l0])
  | succ k1 =>
   have H := HA.out
   clear HA
   simp only [laws_toIntS.l0] at H
   by_cases c6 : x4_1 < (l0.length : Int)
   rotate_left
   ·rw [if_neg c6] at H
    replace c6 := df_ c6
    obtain rfl := si_ H
    go_wp2
    go_ret
    exact ⟨_, sq_, ra_ HO_3, bl_⟩
   rw [if_pos c6] at H
   replace c6 := dt_ c6
   obtain ⟨c7, H⟩ := og_ H
   replace c7 := dt_ c7
   obtain ⟨c8, H⟩ := og_ H
   replace c8 := dt_ c8
   obtain ⟨y13, hy13⟩ : ∃ y_ : List Int, y_ = (x3_1.set (x4_1 : Int).toNat (rd l0 x4_1)) := ⟨_, rfl⟩
   replace H : (laws_toIntS.l0 k1 l0 y13 (wrap64 (x4_1 + 1))) = some r := hh_ hy13 H
   have Ny13 := Aside0.mk hy13
   clear hy13
   have H' := Aside0.mk H
   clear H
   have p10 : 0 ≤ (x4_1 : Int) := od_
   have q10 : x4_1 < (l0.length : Int) := od_
   obtain ⟨ad10, e10, hx10_0⟩ := Kd.at_int HR0.out x4_1 p10 q10
   cases e10
   replace hx10_0 := kc_ HB hx10_0
   replace p10 := eq_true p10
   replace q10 := eq_true q10
   have p9 : 0 ≤ (x4_1 : Int) := od_
   have q9 : (x4_1 : Int) < ((x3_1.length : Int) : Int) := od_
   obtain ⟨go9, co9, eo9, gb9, gl9, cl9, HG9⟩ := Kd.R_form HO_3.out (by omega)
   (first | cases eo9 | (injection eo9 with ea_ en_ ec_; (first | subst ea_ | (injection ea_ with ea_; subst ea_)); subst ec_; clear en_))
   have GB9 := Aside0.mk gb9
   have GG9 := Aside0.mk HG9
   clear gb9 gl9 HG9
   obtain ⟨hx9_0, hf9_0⟩ := Kd.R_celln 0 HO_3.out (x4_1 : Int) p9 q9
   replace p9 := eq_true p9
   replace q9 := eq_true q9
   have HP10 := Kd.R_putg HO_3.out (x4_1 : Int) (rd l0 x4_1)
   go_wp2_with (first | ((with_reducible refine gate_store (t := 3) (p := 20) rfl ?_); refine store_event (t := 3) (p := 20) (v := ?vo_w11) (w1 := (wr.setCell ⟨go9, (x4_1 : Int).toNat, none⟩ (.int .i64 (rd l0 x4_1)))) ?hg ?ho ?hn ?hr ?_; (case ho => rfl); (case hg => rfl); (case hn => rfl); (case hr => first | (go_simp; done) | (go_simp; rfl)); intro w11 hw; have hg : wr.grownBy w11 (some go9) := (by rw [hw]; exact HP10.2); have hp_ : Kd.R (Kd.int .i64) 3 w11 w.heap.size (fun _ => True) (.slice (some ⟨go9, 0, none⟩) x3_1.length co9) y13 := (by rw [hw, Ny13.out]; exact HP10.1); clear HP10; replace HO_3 := Aside0.mk (hp_); replace HB := Aside0.mk ((by rw [hw]; exact below_set (HB.out) GB9.out : Below w.heap.size w w11)); clear hg hw hp_))
   go_roundg k1
   case measure => have := HK1.out; omega
   case rel => exact ⟨(y13), (wrap64 (x4_1 + 1)), sp_, H', ⟨by have := HK1.out; omega⟩, ⟨ra_ HO_3⟩, ⟨bl_⟩⟩
/-! ### laws_toTask: function 24 -/
def laws_toTask.f (k : Nat) (l0_0 : List Int) (a0_1 : Int) (l0_2 : List Int) (a0_3 : Int) (a0_4 : Int) (a0_5 : Int) (a0_6 : Int) (a0_7 : Int) (l0_8 : List Int) : Option (List Int × Int × List Int × Int × Int × Int × Int × Int × List Int) := (laws_toByteS.f k l0_0).bind fun t14 => ((laws_toIntS.f k l0_2).bind fun t13 => ((laws_toByteS.f k l0_8).bind fun t15 => (some (t14, a0_1, t13, a0_3, a0_4, a0_5, a0_6, a0_7, t15))))
theorem laws_toTask.calls (k : Nat) (A0_0 : Option Addr) (c0_0 : Nat) (l0_0 : List Int) (a0_1 : Int) (A0_2 : Option Addr) (c0_2 : Nat) (l0_2 : List Int) (a0_3 : Int) (a0_4 : Int) (a0_5 : Int) (a0_6 : Int) (a0_7 : Int) (A0_8 : Option Addr) (c0_8 : Nat) (l0_8 : List Int) (r1 : List Int) (r2 : Int) (r3 : List Int) (r4 : Int) (r5 : Int) (r6 : Int) (r7 : Int) (r8 : Int) (r9 : List Int) (w : World) (hr0_0 : Kd.C (Kd.int .u8) w A0_0 l0_0.length l0_0) (hc0_0 : l0_0.length ≤ c0_0) (hr0_2 : Kd.C (Kd.int .i64) w A0_2 l0_2.length l0_2) (hc0_2 : l0_2.length ≤ c0_2) (hr0_8 : Kd.C (Kd.int .u8) w A0_8 l0_8.length l0_8) (hc0_8 : l0_8.length ≤ c0_8) (h : laws_toTask.f k l0_0 a0_1 l0_2 a0_3 a0_4 a0_5 a0_6 a0_7 l0_8 = some (r1, r2, r3, r4, r5, r6, r7, r8, r9)) :
  Calls Tryz.prog 24 #[.agg #[.slice A0_0 l0_0.length c0_0, .int .i64 a0_1, .slice A0_2 l0_2.length c0_2, .int .i64 a0_3, .int .i64 a0_4, .int .i64 a0_5, .int .i64 a0_6, .int .i64 a0_7, .slice A0_8 l0_8.length c0_8]] w fun e w' => ∃ v0_ v2_ v8_ : Value, e = .returned (.agg #[v0_, .int .i64 r2, v2_, .int .i64 r4, .int .i64 r5, .int .i64 r6, .int .i64 r7, .int .i64 r8, v8_]) ∧ Kd.R (Kd.int .u8) 5 w' w.heap.size (fun k_ => some k_ ≠ (v8_ : Value).ownBlock) v0_ r1 ∧ Kd.R (Kd.int .i64) 3 w' w.heap.size (fun _ => True) v2_ r3 ∧ Kd.R (Kd.int .u8) 5 w' w.heap.size (fun k_ => some k_ ≠ (v0_ : Value).ownBlock) v8_ r9 ∧ Below w.heap.size w w' := by
 have hu48 := underlying48
 have hu51 := underlying51
 have HR0_0 := Aside0.mk hr0_0
 have HC0_0 := Aside0.mk hc0_0
 clear hr0_0 hc0_0
 have HR0_2 := Aside0.mk hr0_2
 have HC0_2 := Aside0.mk hc0_2
 clear hr0_2 hc0_2
 have HR0_8 := Aside0.mk hr0_8
 have HC0_8 := Aside0.mk hc0_8
 clear hr0_8 hc0_8
 have HB := Aside0.mk (Below.refl w.heap.size w)
 have H := h
 unfold laws_toTask.f at H
 clear h
 obtain ⟨t14, A2, H⟩ := ob_ H
 obtain ⟨t13, A3, H⟩ := ob_ H
 obtain ⟨t15, A4, H⟩ := ob_ H
 simp only [Option.some.injEq, Prod.mk.injEq] at H
 obtain ⟨rfl, rfl, rfl, rfl, rfl, rfl, rfl, rfl, rfl⟩ := H
 go_enter func24, ntmps24
 go_wp2_with (first | ((with_reducible refine gt_ 1 ?_); refine bo_ 1 #[.slice A0_0 l0_0.length c0_0, .int .i64 a0_1, .slice A0_2 l0_2.length c0_2, .int .i64 a0_3, .int .i64 a0_4, .int .i64 a0_5, .int .i64 a0_6, .int .i64 a0_7, .slice A0_8 l0_8.length c0_8] 48 ?_; intro gb10 hg w5 BK10 hb; have GW10 := gw_ (w := w) hg; replace HB := hs_ hb; clear hb hg) | ((with_reducible refine gt_ 2 ?_); refine bo_ 2 #[.slice none 0 0, .int .i64 0, .slice none 0 0, .int .i64 0, .int .i64 0, .int .i64 0, .int .i64 0, .int .i64 0, .slice none 0 0] 51 ?_; intro gb9 hg w6 BK9 hb; have GW9 := gw_ (w := w) hg; replace HB := hs_ hb; have ⟨NB10_9, NB9_10⟩ := nb_ hg BK10; replace BK10 := kb_ BK10 hb; clear hb hg) | ((with_reducible refine gt_ 3 ?_); refine bo_ 3 #[.slice none 0 0, .int .i64 0, .slice none 0 0, .int .i64 0, .int .i64 0, .int .i64 0, .int .i64 0, .int .i64 0, .slice none 0 0] 51 ?_; intro gb1 hg w7 BK1 hb; have GW1 := gw_ (w := w) hg; replace HB := hs_ hb; have ⟨NB10_1, NB1_10⟩ := nb_ hg BK10; replace BK10 := kb_ BK10 hb; have ⟨NB9_1, NB1_9⟩ := nb_ hg BK9; replace BK9 := kb_ BK9 hb; clear hb hg; have := NB10_9.out; have := NB9_10.out; have := NB10_1.out; have := NB1_10.out; refine by9_ BK10 ?_; intros) | ((with_reducible refine gc_ 15 6 func15 #[.slice A0_0 l0_0.length c0_0] ?_); (with_reducible refine (laws_toByteS.calls k _ _ l0_0 t14 _ (cb_ HR0_0 HB) HC0_0.out A2.out).mono ?_); rintro e w11 ⟨v23, rfl, ho0, hb⟩; refine ⟨_, rfl, ?_⟩; have HO18 := Aside0.mk (Kd.R_lower ho0 (below_size bl_)); replace BK10 := kb_ BK10 hb; replace BK9 := kb_ BK9 hb; replace BK1 := kb_ BK1 hb; replace HB := hs_ hb; clear hb; (try clear ho0); obtain ⟨Ao12, co12, eo12⟩ := Kd.R_slice HO18.out; subst eo12; have := NB1_9.out; have := NB9_1.out; refine by9_ BK1 ?_; intros; refine by9_ BK10 ?_; intros) | ((with_reducible refine gc_ 65 13 func65 #[.slice A0_2 l0_2.length c0_2] ?_); (with_reducible refine (laws_toIntS.calls k _ _ l0_2 t13 _ (Kd.C_below HR0_2.out bl_) HC0_2.out A3.out).mono ?_); rintro e w16 ⟨v24, rfl, ho0, hb⟩; refine ⟨_, rfl, ?_⟩; replace HO18 := Aside0.mk (Kd.R_below (by refine cr_ ?_; exact (Kd.R_mono (rf_ gb1 1 (rf_ gb1 0 (Kd.R_types HO18.out BK1.out (by decide)) (.slice Ao12 t14.length co12)) (.int .i64 a0_1)) (fun _ h_ => h_.1))) hb); have HO19 := Aside0.mk (Kd.R_lower ho0 (below_size bl_)); replace BK10 := Aside0.mk (blk_below (g := gb10) (o := .cells #[.slice A0_0 l0_0.length c0_0, .int .i64 a0_1, .slice A0_2 l0_2.length c0_2, .int .i64 a0_3, .int .i64 a0_4, .int .i64 a0_5, .int .i64 a0_6, .int .i64 a0_7, .slice A0_8 l0_8.length c0_8] 48 (0, 0)) (by refine ch_ ?_; refine bf_ NB10_1 ?_; exact bf_ NB10_1 BK10.out) hb); replace BK9 := Aside0.mk (blk_below (g := gb9) (o := .cells #[.slice none 0 0, .int .i64 0, .slice none 0 0, .int .i64 0, .int .i64 0, .int .i64 0, .int .i64 0, .int .i64 0, .slice none 0 0] 51 (0, 0)) (by refine ch_ ?_; refine bf_ NB9_1 ?_; exact bf_ NB9_1 BK9.out) hb); replace BK1 := Aside0.mk (blk_below (g := gb1) (o := .cells #[.slice Ao12 t14.length co12, .int .i64 a0_1, .slice none 0 0, .int .i64 0, .int .i64 0, .int .i64 0, .int .i64 0, .int .i64 0, .slice none 0 0] 51 (0, 0)) (by refine ch_ ?_; apply bq9_1_0_; exact ch_ BK1.out) hb); replace HB := hs_ hb; clear hb; (try clear ho0); obtain ⟨Ao17, co17, eo17⟩ := Kd.R_slice HO19.out; subst eo17; refine by9_ BK1 ?_; intros; refine by9_ BK10 ?_; intros) | ((with_reducible refine gc_ 15 32 func15 #[.slice A0_8 l0_8.length c0_8] ?_); (with_reducible refine (laws_toByteS.calls k _ _ l0_8 t15 _ (Kd.C_below HR0_8.out bl_) HC0_8.out A4.out).mono ?_); rintro e w20 ⟨v25, rfl, ho0, hb⟩; refine ⟨_, rfl, ?_⟩; replace HO19 := Aside0.mk (Kd.R_below (by refine cr_ ?_; exact (Kd.R_mono (rf_ gb1 7 (rf_ gb1 6 (rf_ gb1 5 (rf_ gb1 4 (rf_ gb1 3 (rf_ gb1 2 (Kd.R_types HO19.out BK1.out (by decide)) (.slice Ao17 t13.length co17)) (.int .i64 a0_3)) (.int .i64 a0_4)) (.int .i64 a0_5)) (.int .i64 a0_6)) (.int .i64 a0_7)) (fun _ h_ => h_.1))) hb); have HO22 := Aside0.mk (Kd.R_lower (Kd.R_new' ho0 (Kd.R_lt (by refine cr_ ?_; exact (Kd.R_mono (rf_ gb1 7 (rf_ gb1 6 (rf_ gb1 5 (rf_ gb1 4 (rf_ gb1 3 (rf_ gb1 2 (Kd.R_types HO18.out BK1.out (by decide)) (.slice Ao17 t13.length co17)) (.int .i64 a0_3)) (.int .i64 a0_4)) (.int .i64 a0_5)) (.int .i64 a0_6)) (.int .i64 a0_7)) (fun _ h_ => h_.1))))) (below_size bl_)); replace HO18 := Aside0.mk (Kd.R_elder' (by refine cr_ ?_; exact (Kd.R_mono (rf_ gb1 7 (rf_ gb1 6 (rf_ gb1 5 (rf_ gb1 4 (rf_ gb1 3 (rf_ gb1 2 (Kd.R_types HO18.out BK1.out (by decide)) (.slice Ao17 t13.length co17)) (.int .i64 a0_3)) (.int .i64 a0_4)) (.int .i64 a0_5)) (.int .i64 a0_6)) (.int .i64 a0_7)) (fun _ h_ => h_.1))) (Kd.R_base ho0) hb); replace BK10 := Aside0.mk (blk_below (g := gb10) (o := .cells #[.slice A0_0 l0_0.length c0_0, .int .i64 a0_1, .slice A0_2 l0_2.length c0_2, .int .i64 a0_3, .int .i64 a0_4, .int .i64 a0_5, .int .i64 a0_6, .int .i64 a0_7, .slice A0_8 l0_8.length c0_8] 48 (0, 0)) (by refine ch_ ?_; refine bf_ NB10_1 ?_; refine bf_ NB10_1 ?_; refine bf_ NB10_1 ?_; refine bf_ NB10_1 ?_; refine bf_ NB10_1 ?_; exact bf_ NB10_1 BK10.out) hb); replace BK9 := Aside0.mk (blk_below (g := gb9) (o := .cells #[.slice none 0 0, .int .i64 0, .slice none 0 0, .int .i64 0, .int .i64 0, .int .i64 0, .int .i64 0, .int .i64 0, .slice none 0 0] 51 (0, 0)) (by refine ch_ ?_; refine bf_ NB9_1 ?_; refine bf_ NB9_1 ?_; refine bf_ NB9_1 ?_; refine bf_ NB9_1 ?_; refine bf_ NB9_1 ?_; exact bf_ NB9_1 BK9.out) hb); replace BK1 := Aside0.mk (blk_below (g := gb1) (o := .cells #[.slice Ao12 t14.length co12, .int .i64 a0_1, .slice Ao17 t13.length co17, .int .i64 a0_3, .int .i64 a0_4, .int .i64 a0_5, .int .i64 a0_6, .int .i64 a0_7, .slice none 0 0] 51 (0, 0)) (by refine ch_ ?_; apply bq9_7_6_5_4_3_2_; exact ch_ BK1.out) hb); replace HB := hs_ hb; clear hb; (try clear ho0); obtain ⟨Ao21, co21, eo21⟩ := Kd.R_slice HO22.out; subst eo21; refine by9_ BK1 ?_; intros; refine by9_ BK9 ?_; intros))
 refine bodyPost_ret (results_cell_row rfl _ _ gb9 51 #[.slice Ao12 t14.length co12, .int .i64 a0_1, .slice Ao17 t13.length co17, .int .i64 a0_3, .int .i64 a0_4, .int .i64 a0_5, .int .i64 a0_6, .int .i64 a0_7, .slice Ao21 t15.length co21] (0, 0) _ rfl (by refine ch_ ?_; apply bq9_8_7_6_5_4_3_2_1_0_; refine ch_ ?_; exact bf_ NB9_1 BK9.out) underlying51 rfl (by kernel_rfl)) rfl ?_
 exact ⟨_, _, _, sq_, by refine cr_ ?_; exact Kd.R_mono (rf_ gb9 8 (rf_ gb9 7 (rf_ gb9 6 (rf_ gb9 5 (rf_ gb9 4 (rf_ gb9 3 (rf_ gb9 2 (rf_ gb9 1 (rf_ gb9 0 (Kd.R_far (p := ⟨gb1, 8, none⟩) (Kd.R_types (Kd.R_types HO18.out BK1.out (by decide)) BK9.out (by decide)) (fun _ hk => hk.1.2) (.slice Ao21 t15.length co21)) (.slice Ao12 t14.length co12)) (.int .i64 a0_1)) (.slice Ao17 t13.length co17)) (.int .i64 a0_3)) (.int .i64 a0_4)) (.int .i64 a0_5)) (.int .i64 a0_6)) (.int .i64 a0_7)) (.slice Ao21 t15.length co21)) (fun _ hk => hk.1.1.2), by refine cr_ ?_; exact Kd.R_mono (rf_ gb9 8 (rf_ gb9 7 (rf_ gb9 6 (rf_ gb9 5 (rf_ gb9 4 (rf_ gb9 3 (rf_ gb9 2 (rf_ gb9 1 (rf_ gb9 0 (Kd.R_far (p := ⟨gb1, 8, none⟩) (Kd.R_types (Kd.R_types HO19.out BK1.out (by decide)) BK9.out (by decide)) (fun _ hk => hk.1.2) (.slice Ao21 t15.length co21)) (.slice Ao12 t14.length co12)) (.int .i64 a0_1)) (.slice Ao17 t13.length co17)) (.int .i64 a0_3)) (.int .i64 a0_4)) (.int .i64 a0_5)) (.int .i64 a0_6)) (.int .i64 a0_7)) (.slice Ao21 t15.length co21)) (fun _ hk => trivial), by refine cr_ ?_; exact Kd.R_mono (rf_ gb9 8 (rf_ gb9 7 (rf_ gb9 6 (rf_ gb9 5 (rf_ gb9 4 (rf_ gb9 3 (rf_ gb9 2 (rf_ gb9 1 (rf_ gb9 0 (Kd.R_far (p := ⟨gb1, 8, none⟩) (Kd.R_types (Kd.R_types HO22.out BK1.out (by decide)) BK9.out (by decide)) (fun _ hk => hk.1.2) (.slice Ao21 t15.length co21)) (.slice Ao12 t14.length co12)) (.int .i64 a0_1)) (.slice Ao17 t13.length co17)) (.int .i64 a0_3)) (.int .i64 a0_4)) (.int .i64 a0_5)) (.int .i64 a0_6)) (.int .i64 a0_7)) (.slice Ao21 t15.length co21)) (fun _ hk => hk.1.1.2), bl_⟩
/-! ### laws_eqByteS: function 18 -/
def laws_eqByteS.l0 : Nat → List Int → List Int → Int → Option (Bool)
 | 0, _, _, _ => none
 | k + 1, x0, x1, x5 => if x5 < (x0.length : Int) then (if 0 ≤ x5 then (if x5 < (x1.length : Int) then (if (rd x0 x5) = (rd x1 x5) then (laws_eqByteS.l0 k x0 x1 (wrap64 (x5 + 1))) else (some false)) else (none)) else (none)) else (some true)
def laws_eqByteS.f (k : Nat) (l0 : List Int) (l1 : List Int) : Option (Bool) := if (l0.length : Int) = (l1.length : Int) then (laws_eqByteS.l0 k l0 l1 0) else (some false)
theorem laws_eqByteS.calls (k : Nat) (A0 : Option Addr) (c0 : Nat) (l0 : List Int) (A1 : Option Addr) (c1 : Nat) (l1 : List Int) (r : Bool) (w : World) (hr0 : Kd.C (Kd.int .u8) w A0 l0.length l0) (hc0 : l0.length ≤ c0) (hr1 : Kd.C (Kd.int .u8) w A1 l1.length l1) (hc1 : l1.length ≤ c1) (h : laws_eqByteS.f k l0 l1 = some r) :
  Calls Tryz.prog 18 #[.slice A0 l0.length c0, .slice A1 l1.length c1] w fun e w' => e = .returned (.bool r) ∧ Drawn0 w w' := by
 have HR0 := Aside0.mk hr0
 have HC0 := Aside0.mk hc0
 clear hr0 hc0
 have HR1 := Aside0.mk hr1
 have HC1 := Aside0.mk hc1
 clear hr1 hc1
 have H := h
 unfold laws_eqByteS.f at H
 clear h
 by_cases c3 : (l0.length : Int) = (l1.length : Int)
 rotate_left
 ·rw [if_neg c3] at H
  have c3b0 := ef_ c3
  have c3b1 := nt_ c3
  have c3b2 : (l0.length == l1.length) = false := by first | simpa using c3 | (simp at c3 ⊢; omega)
  obtain rfl := si_ H
  go_enter func18, ntmps18
  go_wp2
  repeat (go_quiet (fail); try go_wp2)
  go_ret
  exact ⟨sp_, dr_⟩
 rw [if_pos c3] at H
 have c3b0 := et_ c3
 have c3b1 := nf_ c3
 have c3b2 : (l0.length == l1.length) = true := by first | simpa using c3 | (simp at c3 ⊢; omega)
 clear c3
 have H' := Aside0.mk H
 clear H
 go_enter func18, ntmps18
 go_wp2
 repeat (go_quiet (fail); try go_wp2)
 go_loopg [5] k (fun kq v5 w' => ∃ (x5_1 : Int), v5 = .int .i64 x5_1 ∧ Aside0 (laws_eqByteS.l0 kq l0 l1 x5_1 = some r) ∧ Aside0 (kq ≤ k) ∧ Drawn0 w w')
 case atStart => exact ⟨(0), sp_, H', ⟨Nat.le_refl _⟩, dr_⟩
 case round =>
  clear H'
  obtain ⟨x5_1, rfl, HA, HK1, ⟨m1, rfl⟩⟩ := hrel
  cases gk with
  | zero => exact absurd HA.out (by simp [laws_eqByteS.l0])
  | succ k1 =>
   have H := HA.out
   clear HA
   simp only [laws_eqByteS.l0] at H
   by_cases c4 : x5_1 < (l0.length : Int)
   rotate_left
   ·rw [if_neg c4] at H
    replace c4 := df_ c4
    obtain rfl := si_ H
    go_wp2
    repeat (go_quiet (fail); try go_wp2)
    go_ret
    exact ⟨sp_, dr_⟩
   rw [if_pos c4] at H
   replace c4 := dt_ c4
   obtain ⟨c5, H⟩ := og_ H
   replace c5 := dt_ c5
   obtain ⟨c6, H⟩ := og_ H
   replace c6 := dt_ c6
   by_cases c7 : (rd l0 x5_1) = (rd l1 x5_1)
   ·rw [if_pos c7] at H
    have := et_ c7
    replace c7 := nf_ c7
    have H' := Aside0.mk H
    clear H
    have p2 : 0 ≤ (x5_1 : Int) := od_
    have q2 : x5_1 < (l0.length : Int) := od_
    obtain ⟨ad2, e2, hx2_0⟩ := Kd.at_int HR0.out x5_1 p2 q2
    cases e2
    replace p2 := eq_true p2
    replace q2 := eq_true q2
    have p8 : 0 ≤ (x5_1 : Int) := od_
    have q8 : x5_1 < (l1.length : Int) := od_
    obtain ⟨ad8, e8, hx8_0⟩ := Kd.at_int HR1.out x5_1 p8 q8
    cases e8
    replace p8 := eq_true p8
    replace q8 := eq_true q8
    go_wp2
    repeat (go_quiet (fail); try go_wp2)
    go_roundg k1
    case measure => have := HK1.out; omega
    case rel => exact ⟨(wrap64 (x5_1 + 1)), sp_, H', ⟨by have := HK1.out; omega⟩, dr_⟩
   ·rw [if_neg c7] at H
    have c7b0 := ef_ c7
    have c7b1 := nt_ c7
    obtain rfl := si_ H
    have p2 : 0 ≤ (x5_1 : Int) := od_
    have q2 : x5_1 < (l0.length : Int) := od_
    obtain ⟨ad2, e2, hx2_0⟩ := Kd.at_int HR0.out x5_1 p2 q2
    cases e2
    replace p2 := eq_true p2
    replace q2 := eq_true q2
    have p8 : 0 ≤ (x5_1 : Int) := od_
    have q8 : x5_1 < (l1.length : Int) := od_
    obtain ⟨ad8, e8, hx8_0⟩ := Kd.at_int HR1.out x5_1 p8 q8
    cases e8
    replace p8 := eq_true p8
    replace q8 := eq_true q8
    go_wp2
    repeat (go_quiet (fail); try go_wp2)
    go_ret
    exact ⟨sp_, dr_⟩
/-! ### laws_eqIntS: function 26 -/
def laws_eqIntS.l0 : Nat → List Int → List Int → Int → Option (Bool)
 | 0, _, _, _ => none
 | k + 1, x0, x1, x5 => if x5 < (x0.length : Int) then (if 0 ≤ x5 then (if x5 < (x1.length : Int) then (if (rd x0 x5) = (rd x1 x5) then (laws_eqIntS.l0 k x0 x1 (wrap64 (x5 + 1))) else (some false)) else (none)) else (none)) else (some true)
def laws_eqIntS.f (k : Nat) (l0 : List Int) (l1 : List Int) : Option (Bool) := if (l0.length : Int) = (l1.length : Int) then (laws_eqIntS.l0 k l0 l1 0) else (some false)
theorem laws_eqIntS.calls (k : Nat) (A0 : Option Addr) (c0 : Nat) (l0 : List Int) (A1 : Option Addr) (c1 : Nat) (l1 : List Int) (r : Bool) (w : World) (hr0 : Kd.C (Kd.int .i64) w A0 l0.length l0) (hc0 : l0.length ≤ c0) (hr1 : Kd.C (Kd.int .i64) w A1 l1.length l1) (hc1 : l1.length ≤ c1) (h : laws_eqIntS.f k l0 l1 = some r) :
  Calls Tryz.prog 26 #[.slice A0 l0.length c0, .slice A1 l1.length c1] w fun e w' => e = .returned (.bool r) ∧ Drawn0 w w' := by
 have HR0 := Aside0.mk hr0
 have HC0 := Aside0.mk hc0
 clear hr0 hc0
 have HR1 := Aside0.mk hr1
 have HC1 := Aside0.mk hc1
 clear hr1 hc1
 have H := h
 unfold laws_eqIntS.f at H
 clear h
 by_cases c3 : (l0.length : Int) = (l1.length : Int)
 rotate_left
 ·rw [if_neg c3] at H
  have c3b0 := ef_ c3
  have c3b1 := nt_ c3
  have c3b2 : (l0.length == l1.length) = false := by first | simpa using c3 | (simp at c3 ⊢; omega)
  obtain rfl := si_ H
  go_enter func26, ntmps26
  go_wp2
  repeat (go_quiet (fail); try go_wp2)
  go_ret
  exact ⟨sp_, dr_⟩
 rw [if_pos c3] at H
 have c3b0 := et_ c3
 have c3b1 := nf_ c3
 have c3b2 : (l0.length == l1.length) = true := by first | simpa using c3 | (simp at c3 ⊢; omega)
 clear c3
 have H' := Aside0.mk H
 clear H
 go_enter func26, ntmps26
 go_wp2
 repeat (go_quiet (fail); try go_wp2)
 go_loopg [5] k (fun kq v5 w' => ∃ (x5_1 : Int), v5 = .int .i64 x5_1 ∧ Aside0 (laws_eqIntS.l0 kq l0 l1 x5_1 = some r) ∧ Aside0 (kq ≤ k) ∧ Drawn0 w w')
 case atStart => exact ⟨(0), sp_, H', ⟨Nat.le_refl _⟩, dr_⟩
 case round =>
  clear H'
  obtain ⟨x5_1, rfl, HA, HK1, ⟨m1, rfl⟩⟩ := hrel
  cases gk with
  | zero => exact absurd HA.out (by simp [laws_eqIntS.l0])
  | succ k1 =>
   have H := HA.out
   clear HA
   simp only [laws_eqIntS.l0] at H
   by_cases c4 : x5_1 < (l0.length : Int)
   rotate_left
   ·rw [if_neg c4] at H
    replace c4 := df_ c4
    obtain rfl := si_ H
    go_wp2
    repeat (go_quiet (fail); try go_wp2)
    go_ret
    exact ⟨sp_, dr_⟩
   rw [if_pos c4] at H
   replace c4 := dt_ c4
   obtain ⟨c5, H⟩ := og_ H
   replace c5 := dt_ c5
   obtain ⟨c6, H⟩ := og_ H
   replace c6 := dt_ c6
   by_cases c7 : (rd l0 x5_1) = (rd l1 x5_1)
   ·rw [if_pos c7] at H
    have := et_ c7
    replace c7 := nf_ c7
    have H' := Aside0.mk H
    clear H
    have p2 : 0 ≤ (x5_1 : Int) := od_
    have q2 : x5_1 < (l0.length : Int) := od_
    obtain ⟨ad2, e2, hx2_0⟩ := Kd.at_int HR0.out x5_1 p2 q2
    cases e2
    replace p2 := eq_true p2
    replace q2 := eq_true q2
    have p8 : 0 ≤ (x5_1 : Int) := od_
    have q8 : x5_1 < (l1.length : Int) := od_
    obtain ⟨ad8, e8, hx8_0⟩ := Kd.at_int HR1.out x5_1 p8 q8
    cases e8
    replace p8 := eq_true p8
    replace q8 := eq_true q8
    go_wp2
    repeat (go_quiet (fail); try go_wp2)
    go_roundg k1
    case measure => have := HK1.out; omega
    case rel => exact ⟨(wrap64 (x5_1 + 1)), sp_, H', ⟨by have := HK1.out; omega⟩, dr_⟩
   ·rw [if_neg c7] at H
    have c7b0 := ef_ c7
    have c7b1 := nt_ c7
    obtain rfl := si_ H
    have p2 : 0 ≤ (x5_1 : Int) := od_
    have q2 : x5_1 < (l0.length : Int) := od_
    obtain ⟨ad2, e2, hx2_0⟩ := Kd.at_int HR0.out x5_1 p2 q2
    cases e2
    replace p2 := eq_true p2
    replace q2 := eq_true q2
    have p8 : 0 ≤ (x5_1 : Int) := od_
    have q8 : x5_1 < (l1.length : Int) := od_
    obtain ⟨ad8, e8, hx8_0⟩ := Kd.at_int HR1.out x5_1 p8 q8
    cases e8
    replace p8 := eq_true p8
    replace q8 := eq_true q8
    go_wp2
    repeat (go_quiet (fail); try go_wp2)
    go_ret
    exact ⟨sp_, dr_⟩
/-! ### laws_eqTask: function 27 -/
def laws_eqTask.f (k : Nat) (l0_0 : List Int) (a0_1 : Int) (l0_2 : List Int) (a0_3 : Int) (a0_4 : Int) (a0_5 : Int) (a0_6 : Int) (a0_7 : Int) (l0_8 : List Int) (l1_0 : List Int) (a1_1 : Int) (l1_2 : List Int) (a1_3 : Int) (a1_4 : Int) (a1_5 : Int) (a1_6 : Int) (a1_7 : Int) (l1_8 : List Int) : Option (Bool) := (laws_eqByteS.f k l0_0 l1_0).bind fun t19 => (if t19 = true then (if a0_1 = a1_1 then ((laws_eqIntS.f k l0_2 l1_2).bind fun t22 => (if t22 = true then (if a0_3 = a1_3 then (if a0_4 = a1_4 then (if a0_5 = a1_5 then (if a0_6 = a1_6 then (if a0_7 = a1_7 then ((laws_eqByteS.f k l0_8 l1_8).bind fun t23 => (if t23 = true then (some true) else (some false))) else (some false)) else (some false)) else (some false)) else (some false)) else (some false)) else (some false))) else (some false)) else (some false))
theorem laws_eqTask.calls (k : Nat) (A0_0 : Option Addr) (c0_0 : Nat) (l0_0 : List Int) (a0_1 : Int) (A0_2 : Option Addr) (c0_2 : Nat) (l0_2 : List Int) (a0_3 : Int) (a0_4 : Int) (a0_5 : Int) (a0_6 : Int) (a0_7 : Int) (A0_8 : Option Addr) (c0_8 : Nat) (l0_8 : List Int) (A1_0 : Option Addr) (c1_0 : Nat) (l1_0 : List Int) (a1_1 : Int) (A1_2 : Option Addr) (c1_2 : Nat) (l1_2 : List Int) (a1_3 : Int) (a1_4 : Int) (a1_5 : Int) (a1_6 : Int) (a1_7 : Int) (A1_8 : Option Addr) (c1_8 : Nat) (l1_8 : List Int) (r : Bool) (w : World) (hr0_0 : Kd.C (Kd.int .u8) w A0_0 l0_0.length l0_0) (hc0_0 : l0_0.length ≤ c0_0) (hr0_2 : Kd.C (Kd.int .i64) w A0_2 l0_2.length l0_2) (hc0_2 : l0_2.length ≤ c0_2) (hr0_8 : Kd.C (Kd.int .u8) w A0_8 l0_8.length l0_8) (hc0_8 : l0_8.length ≤ c0_8) (hr1_0 : Kd.C (Kd.int .u8) w A1_0 l1_0.length l1_0) (hc1_0 : l1_0.length ≤ c1_0) (hr1_2 : Kd.C (Kd.int .i64) w A1_2 l1_2.length l1_2) (hc1_2 : l1_2.length ≤ c1_2) (hr1_8 : Kd.C (Kd.int .u8) w A1_8 l1_8.length l1_8) (hc1_8 : l1_8.length ≤ c1_8) (h : laws_eqTask.f k l0_0 a0_1 l0_2 a0_3 a0_4 a0_5 a0_6 a0_7 l0_8 l1_0 a1_1 l1_2 a1_3 a1_4 a1_5 a1_6 a1_7 l1_8 = some r) :
  Calls Tryz.prog 27 #[.agg #[.slice A0_0 l0_0.length c0_0, .int .i64 a0_1, .slice A0_2 l0_2.length c0_2, .int .i64 a0_3, .int .i64 a0_4, .int .i64 a0_5, .int .i64 a0_6, .int .i64 a0_7, .slice A0_8 l0_8.length c0_8], .agg #[.slice A1_0 l1_0.length c1_0, .int .i64 a1_1, .slice A1_2 l1_2.length c1_2, .int .i64 a1_3, .int .i64 a1_4, .int .i64 a1_5, .int .i64 a1_6, .int .i64 a1_7, .slice A1_8 l1_8.length c1_8]] w fun e w' => e = .returned (.bool r) ∧ Below w.heap.size w w' := by
 have hu51 := underlying51
 have HR0_0 := Aside0.mk hr0_0
 have HC0_0 := Aside0.mk hc0_0
 clear hr0_0 hc0_0
 have HR0_2 := Aside0.mk hr0_2
 have HC0_2 := Aside0.mk hc0_2
 clear hr0_2 hc0_2
 have HR0_8 := Aside0.mk hr0_8
 have HC0_8 := Aside0.mk hc0_8
 clear hr0_8 hc0_8
 have HR1_0 := Aside0.mk hr1_0
 have HC1_0 := Aside0.mk hc1_0
 clear hr1_0 hc1_0
 have HR1_2 := Aside0.mk hr1_2
 have HC1_2 := Aside0.mk hc1_2
 clear hr1_2 hc1_2
 have HR1_8 := Aside0.mk hr1_8
 have HC1_8 := Aside0.mk hc1_8
 clear hr1_8 hc1_8
 have HB := Aside0.mk (Below.refl w.heap.size w)
 have H := h
 unfold laws_eqTask.f at H
 clear h
 obtain ⟨t19, A3, H⟩ := ob_ H
 by_cases c4 : t19 = true
 rotate_left
 ·replace c4 := gf_ c4
  subst c4
  replace H := in_ H
  obtain rfl := si_ H
  go_enter func27, ntmps27
  go_wp2_with (first | ((with_reducible refine gt_ 2 ?_); refine bo_ 2 #[.slice A0_0 l0_0.length c0_0, .int .i64 a0_1, .slice A0_2 l0_2.length c0_2, .int .i64 a0_3, .int .i64 a0_4, .int .i64 a0_5, .int .i64 a0_6, .int .i64 a0_7, .slice A0_8 l0_8.length c0_8] 51 ?_; intro gb17 hg w60 BK17 hb; have GW17 := gw_ (w := w) hg; replace HB := hs_ hb; clear hb hg) | ((with_reducible refine gt_ 3 ?_); refine bo_ 3 #[.slice A1_0 l1_0.length c1_0, .int .i64 a1_1, .slice A1_2 l1_2.length c1_2, .int .i64 a1_3, .int .i64 a1_4, .int .i64 a1_5, .int .i64 a1_6, .int .i64 a1_7, .slice A1_8 l1_8.length c1_8] 51 ?_; intro gb18 hg w61 BK18 hb; have GW18 := gw_ (w := w) hg; replace HB := hs_ hb; have ⟨NB17_18, NB18_17⟩ := nb_ hg BK17; replace BK17 := kb_ BK17 hb; clear hb hg; have := NB17_18.out; have := NB18_17.out; refine by9_ BK17 ?_; intros; refine by9_ BK18 ?_; intros) | ((with_reducible refine gd_ 18 9 func18 #[.slice A0_0 l0_0.length c0_0, .slice A1_0 l1_0.length c1_0] (laws_eqByteS.calls k _ _ l0_0 _ _ l1_0 false _ (cb_ HR0_0 HB) HC0_0.out (cb_ HR1_0 HB) HC1_0.out A3.out) fun nd => ?_)))
  go_ret
  exact ⟨sq_, bl_⟩
 subst c4
 replace H := ip_ H
 by_cases c5 : a0_1 = a1_1
 rotate_left
 ·rw [if_neg c5] at H
  have c5b0 := ef_ c5
  have c5b1 := nt_ c5
  obtain rfl := si_ H
  go_enter func27, ntmps27
  go_wp2_with (first | ((with_reducible refine gt_ 2 ?_); refine bo_ 2 #[.slice A0_0 l0_0.length c0_0, .int .i64 a0_1, .slice A0_2 l0_2.length c0_2, .int .i64 a0_3, .int .i64 a0_4, .int .i64 a0_5, .int .i64 a0_6, .int .i64 a0_7, .slice A0_8 l0_8.length c0_8] 51 ?_; intro gb17 hg w55 BK17 hb; have GW17 := gw_ (w := w) hg; replace HB := hs_ hb; clear hb hg) | ((with_reducible refine gt_ 3 ?_); refine bo_ 3 #[.slice A1_0 l1_0.length c1_0, .int .i64 a1_1, .slice A1_2 l1_2.length c1_2, .int .i64 a1_3, .int .i64 a1_4, .int .i64 a1_5, .int .i64 a1_6, .int .i64 a1_7, .slice A1_8 l1_8.length c1_8] 51 ?_; intro gb18 hg w56 BK18 hb; have GW18 := gw_ (w := w) hg; replace HB := hs_ hb; have ⟨NB17_18, NB18_17⟩ := nb_ hg BK17; replace BK17 := kb_ BK17 hb; clear hb hg; have := NB17_18.out; have := NB18_17.out; refine by9_ BK17 ?_; intros; refine by9_ BK18 ?_; intros) | ((with_reducible refine gd_ 18 9 func18 #[.slice A0_0 l0_0.length c0_0, .slice A1_0 l1_0.length c1_0] (laws_eqByteS.calls k _ _ l0_0 _ _ l1_0 true _ (cb_ HR0_0 HB) HC0_0.out (cb_ HR1_0 HB) HC1_0.out A3.out) fun nd => ?_)))
  go_ret
  exact ⟨sq_, bl_⟩
 rw [if_pos c5] at H
 have := et_ c5
 replace c5 := nf_ c5
 obtain ⟨t22, A6, H⟩ := ob_ H
 by_cases c7 : t22 = true
 rotate_left
 ·replace c7 := gf_ c7
  subst c7
  replace H := in_ H
  obtain rfl := si_ H
  go_enter func27, ntmps27
  go_wp2_with (first | ((with_reducible refine gt_ 2 ?_); refine bo_ 2 #[.slice A0_0 l0_0.length c0_0, .int .i64 a0_1, .slice A0_2 l0_2.length c0_2, .int .i64 a0_3, .int .i64 a0_4, .int .i64 a0_5, .int .i64 a0_6, .int .i64 a0_7, .slice A0_8 l0_8.length c0_8] 51 ?_; intro gb17 hg w50 BK17 hb; have GW17 := gw_ (w := w) hg; replace HB := hs_ hb; clear hb hg) | ((with_reducible refine gt_ 3 ?_); refine bo_ 3 #[.slice A1_0 l1_0.length c1_0, .int .i64 a1_1, .slice A1_2 l1_2.length c1_2, .int .i64 a1_3, .int .i64 a1_4, .int .i64 a1_5, .int .i64 a1_6, .int .i64 a1_7, .slice A1_8 l1_8.length c1_8] 51 ?_; intro gb18 hg w51 BK18 hb; have GW18 := gw_ (w := w) hg; replace HB := hs_ hb; have ⟨NB17_18, NB18_17⟩ := nb_ hg BK17; replace BK17 := kb_ BK17 hb; clear hb hg; have := NB17_18.out; have := NB18_17.out; refine by9_ BK17 ?_; intros; refine by9_ BK18 ?_; intros) | ((with_reducible refine gd_ 18 9 func18 #[.slice A0_0 l0_0.length c0_0, .slice A1_0 l1_0.length c1_0] (laws_eqByteS.calls k _ _ l0_0 _ _ l1_0 true _ (cb_ HR0_0 HB) HC0_0.out (cb_ HR1_0 HB) HC1_0.out A3.out) fun nd => ?_)) | ((with_reducible refine gd_ 26 20 func26 #[.slice A0_2 l0_2.length c0_2, .slice A1_2 l1_2.length c1_2] (laws_eqIntS.calls k _ _ l0_2 _ _ l1_2 false _ (ca_ (Kd.C_below HR0_2.out bl_)) HC0_2.out (ca_ (Kd.C_below HR1_2.out bl_)) HC1_2.out A6.out) fun nd => ?_)))
  go_ret
  exact ⟨sq_, bl_⟩
 subst c7
 replace H := ip_ H
 by_cases c8 : a0_3 = a1_3
 rotate_left
 ·rw [if_neg c8] at H
  have c8b0 := ef_ c8
  have c8b1 := nt_ c8
  obtain rfl := si_ H
  go_enter func27, ntmps27
  go_wp2_with (first | ((with_reducible refine gt_ 2 ?_); refine bo_ 2 #[.slice A0_0 l0_0.length c0_0, .int .i64 a0_1, .slice A0_2 l0_2.length c0_2, .int .i64 a0_3, .int .i64 a0_4, .int .i64 a0_5, .int .i64 a0_6, .int .i64 a0_7, .slice A0_8 l0_8.length c0_8] 51 ?_; intro gb17 hg w45 BK17 hb; have GW17 := gw_ (w := w) hg; replace HB := hs_ hb; clear hb hg) | ((with_reducible refine gt_ 3 ?_); refine bo_ 3 #[.slice A1_0 l1_0.length c1_0, .int .i64 a1_1, .slice A1_2 l1_2.length c1_2, .int .i64 a1_3, .int .i64 a1_4, .int .i64 a1_5, .int .i64 a1_6, .int .i64 a1_7, .slice A1_8 l1_8.length c1_8] 51 ?_; intro gb18 hg w46 BK18 hb; have GW18 := gw_ (w := w) hg; replace HB := hs_ hb; have ⟨NB17_18, NB18_17⟩ := nb_ hg BK17; replace BK17 := kb_ BK17 hb; clear hb hg; have := NB17_18.out; have := NB18_17.out; refine by9_ BK17 ?_; intros; refine by9_ BK18 ?_; intros) | ((with_reducible refine gd_ 18 9 func18 #[.slice A0_0 l0_0.length c0_0, .slice A1_0 l1_0.length c1_0] (laws_eqByteS.calls k _ _ l0_0 _ _ l1_0 true _ (cb_ HR0_0 HB) HC0_0.out (cb_ HR1_0 HB) HC1_0.out A3.out) fun nd => ?_)) | ((with_reducible refine gd_ 26 20 func26 #[.slice A0_2 l0_2.length c0_2, .slice A1_2 l1_2.length c1_2] (laws_eqIntS.calls k _ _ l0_2 _ _ l1_2 true _ (ca_ (Kd.C_below HR0_2.out bl_)) HC0_2.out (ca_ (Kd.C_below HR1_2.out bl_)) HC1_2.out A6.out) fun nd => ?_)))
  go_ret
  exact ⟨sq_, bl_⟩
 rw [if_pos c8] at H
 have := et_ c8
 replace c8 := nf_ c8
 by_cases c9 : a0_4 = a1_4
 rotate_left
 ·rw [if_neg c9] at H
  have c9b0 := ef_ c9
  have c9b1 := nt_ c9
  obtain rfl := si_ H
  go_enter func27, ntmps27
  go_wp2_with (first | ((with_reducible refine gt_ 2 ?_); refine bo_ 2 #[.slice A0_0 l0_0.length c0_0, .int .i64 a0_1, .slice A0_2 l0_2.length c0_2, .int .i64 a0_3, .int .i64 a0_4, .int .i64 a0_5, .int .i64 a0_6, .int .i64 a0_7, .slice A0_8 l0_8.length c0_8] 51 ?_; intro gb17 hg w40 BK17 hb; have GW17 := gw_ (w := w) hg; replace HB := hs_ hb; clear hb hg) | ((with_reducible refine gt_ 3 ?_); refine bo_ 3 #[.slice A1_0 l1_0.length c1_0, .int .i64 a1_1, .slice A1_2 l1_2.length c1_2, .int .i64 a1_3, .int .i64 a1_4, .int .i64 a1_5, .int .i64 a1_6, .int .i64 a1_7, .slice A1_8 l1_8.length c1_8] 51 ?_; intro gb18 hg w41 BK18 hb; have GW18 := gw_ (w := w) hg; replace HB := hs_ hb; have ⟨NB17_18, NB18_17⟩ := nb_ hg BK17; replace BK17 := kb_ BK17 hb; clear hb hg; have := NB17_18.out; have := NB18_17.out; refine by9_ BK17 ?_; intros; refine by9_ BK18 ?_; intros) | ((with_reducible refine gd_ 18 9 func18 #[.slice A0_0 l0_0.length c0_0, .slice A1_0 l1_0.length c1_0] (laws_eqByteS.calls k _ _ l0_0 _ _ l1_0 true _ (cb_ HR0_0 HB) HC0_0.out (cb_ HR1_0 HB) HC1_0.out A3.out) fun nd => ?_)) | ((with_reducible refine gd_ 26 20 func26 #[.slice A0_2 l0_2.length c0_2, .slice A1_2 l1_2.length c1_2] (laws_eqIntS.calls k _ _ l0_2 _ _ l1_2 true _ (ca_ (Kd.C_below HR0_2.out bl_)) HC0_2.out (ca_ (Kd.C_below HR1_2.out bl_)) HC1_2.out A6.out) fun nd => ?_)))
  go_ret
  exact ⟨sq_, bl_⟩
 rw [if_pos c9] at H
 have := et_ c9
 replace c9 := nf_ c9
 by_cases c10 : a0_5 = a1_5
 rotate_left
 ·rw [if_neg c10] at H
  have c10b0 := ef_ c10
  have c10b1 := nt_ c10
  obtain rfl := si_ H
  go_enter func27, ntmps27
  go_wp2_with (first | ((with_reducible refine gt_ 2 ?_); refine bo_ 2 #[.slice A0_0 l0_0.length c0_0, .int .i64 a0_1, .slice A0_2 l0_2.length c0_2, .int .i64 a0_3, .int .i64 a0_4, .int .i64 a0_5, .int .i64 a0_6, .int .i64 a0_7, .slice A0_8 l0_8.length c0_8] 51 ?_; intro gb17 hg w35 BK17 hb; have GW17 := gw_ (w := w) hg; replace HB := hs_ hb; clear hb hg) | ((with_reducible refine gt_ 3 ?_); refine bo_ 3 #[.slice A1_0 l1_0.length c1_0, .int .i64 a1_1, .slice A1_2 l1_2.length c1_2, .int .i64 a1_3, .int .i64 a1_4, .int .i64 a1_5, .int .i64 a1_6, .int .i64 a1_7, .slice A1_8 l1_8.length c1_8] 51 ?_; intro gb18 hg w36 BK18 hb; have GW18 := gw_ (w := w) hg; replace HB := hs_ hb; have ⟨NB17_18, NB18_17⟩ := nb_ hg BK17; replace BK17 := kb_ BK17 hb; clear hb hg; have := NB17_18.out; have := NB18_17.out; refine by9_ BK17 ?_; intros; refine by9_ BK18 ?_; intros) | ((with_reducible refine gd_ 18 9 func18 #[.slice A0_0 l0_0.length c0_0, .slice A1_0 l1_0.length c1_0] (laws_eqByteS.calls k _ _ l0_0 _ _ l1_0 true _ (cb_ HR0_0 HB) HC0_0.out (cb_ HR1_0 HB) HC1_0.out A3.out) fun nd => ?_)) | ((with_reducible refine gd_ 26 20 func26 #[.slice A0_2 l0_2.length c0_2, .slice A1_2 l1_2.length c1_2] (laws_eqIntS.calls k _ _ l0_2 _ _ l1_2 true _ (ca_ (Kd.C_below HR0_2.out bl_)) HC0_2.out (ca_ (Kd.C_below HR1_2.out bl_)) HC1_2.out A6.out) fun nd => ?_)))
  go_ret
  exact ⟨sq_, bl_⟩
 rw [if_pos c10] at H
 have := et_ c10
 replace c10 := nf_ c10
 by_cases c11 : a0_6 = a1_6
 rotate_left
 ·rw [if_neg c11] at H
  have c11b0 := ef_ c11
  have c11b1 := nt_ c11
  obtain rfl := si_ H
  go_enter func27, ntmps27
  go_wp2_with (first | ((with_reducible refine gt_ 2 ?_); refine bo_ 2 #[.slice A0_0 l0_0.length c0_0, .int .i64 a0_1, .slice A0_2 l0_2.length c0_2, .int .i64 a0_3, .int .i64 a0_4, .int .i64 a0_5, .int .i64 a0_6, .int .i64 a0_7, .slice A0_8 l0_8.length c0_8] 51 ?_; intro gb17 hg w30 BK17 hb; have GW17 := gw_ (w := w) hg; replace HB := hs_ hb; clear hb hg) | ((with_reducible refine gt_ 3 ?_); refine bo_ 3 #[.slice A1_0 l1_0.length c1_0, .int .i64 a1_1, .slice A1_2 l1_2.length c1_2, .int .i64 a1_3, .int .i64 a1_4, .int .i64 a1_5, .int .i64 a1_6, .int .i64 a1_7, .slice A1_8 l1_8.length c1_8] 51 ?_; intro gb18 hg w31 BK18 hb; have GW18 := gw_ (w := w) hg; replace HB := hs_ hb; have ⟨NB17_18, NB18_17⟩ := nb_ hg BK17; replace BK17 := kb_ BK17 hb; clear hb hg; have := NB17_18.out; have := NB18_17.out; refine by9_ BK17 ?_; intros; refine by9_ BK18 ?_; intros) | ((with_reducible refine gd_ 18 9 func18 #[.slice A0_0 l0_0.length c0_0, .slice A1_0 l1_0.length c1_0] (laws_eqByteS.calls k _ _ l0_0 _ _ l1_0 true _ (cb_ HR0_0 HB) HC0_0.out (cb_ HR1_0 HB) HC1_0.out A3.out) fun nd => ?_)) | ((with_reducible refine gd_ 26 20 func26 #[.slice A0_2 l0_2.length c0_2, .slice A1_2 l1_2.length c1_2] (laws_eqIntS.calls k _ _ l0_2 _ _ l1_2 true _ (ca_ (Kd.C_below HR0_2.out bl_)) HC0_2.out (ca_ (Kd.C_below HR1_2.out bl_)) HC1_2.out A6.out) fun nd => ?_)))
  go_ret
  exact ⟨sq_, bl_⟩
 rw [if_pos c11] at H
 have := et_ c11
 replace c11 := nf_ c11
 by_cases c12 : a0_7 = a1_7
 ·rw [if_pos c12] at H
  have := et_ c12
  replace c12 := nf_ c12
  obtain ⟨t23, A13, H⟩ := ob_ H
  by_cases c14 : t23 = true
  ·subst c14
   replace H := ip_ H
   obtain rfl := si_ H
   go_enter func27, ntmps27
   go_wp2_with (first | ((with_reducible refine gt_ 2 ?_); refine bo_ 2 #[.slice A0_0 l0_0.length c0_0, .int .i64 a0_1, .slice A0_2 l0_2.length c0_2, .int .i64 a0_3, .int .i64 a0_4, .int .i64 a0_5, .int .i64 a0_6, .int .i64 a0_7, .slice A0_8 l0_8.length c0_8] 51 ?_; intro gb17 hg w15 BK17 hb; have GW17 := gw_ (w := w) hg; replace HB := hs_ hb; clear hb hg) | ((with_reducible refine gt_ 3 ?_); refine bo_ 3 #[.slice A1_0 l1_0.length c1_0, .int .i64 a1_1, .slice A1_2 l1_2.length c1_2, .int .i64 a1_3, .int .i64 a1_4, .int .i64 a1_5, .int .i64 a1_6, .int .i64 a1_7, .slice A1_8 l1_8.length c1_8] 51 ?_; intro gb18 hg w16 BK18 hb; have GW18 := gw_ (w := w) hg; replace HB := hs_ hb; have ⟨NB17_18, NB18_17⟩ := nb_ hg BK17; replace BK17 := kb_ BK17 hb; clear hb hg; have := NB17_18.out; have := NB18_17.out; refine by9_ BK17 ?_; intros; refine by9_ BK18 ?_; intros) | ((with_reducible refine gd_ 18 9 func18 #[.slice A0_0 l0_0.length c0_0, .slice A1_0 l1_0.length c1_0] (laws_eqByteS.calls k _ _ l0_0 _ _ l1_0 true _ (cb_ HR0_0 HB) HC0_0.out (cb_ HR1_0 HB) HC1_0.out A3.out) fun nd => ?_)) | ((with_reducible refine gd_ 26 20 func26 #[.slice A0_2 l0_2.length c0_2, .slice A1_2 l1_2.length c1_2] (laws_eqIntS.calls k _ _ l0_2 _ _ l1_2 true _ (ca_ (Kd.C_below HR0_2.out bl_)) HC0_2.out (ca_ (Kd.C_below HR1_2.out bl_)) HC1_2.out A6.out) fun nd => ?_)) | ((with_reducible refine gd_ 18 51 func18 #[.slice A0_8 l0_8.length c0_8, .slice A1_8 l1_8.length c1_8] (laws_eqByteS.calls k _ _ l0_8 _ _ l1_8 true _ (ca_ (Kd.C_below HR0_8.out bl_)) HC0_8.out (ca_ (Kd.C_below HR1_8.out bl_)) HC1_8.out A13.out) fun nd => ?_)))
   go_ret
   exact ⟨sq_, bl_⟩
  replace c14 := gf_ c14
  subst c14
  replace H := in_ H
  obtain rfl := si_ H
  go_enter func27, ntmps27
  go_wp2_with (first | ((with_reducible refine gt_ 2 ?_); refine bo_ 2 #[.slice A0_0 l0_0.length c0_0, .int .i64 a0_1, .slice A0_2 l0_2.length c0_2, .int .i64 a0_3, .int .i64 a0_4, .int .i64 a0_5, .int .i64 a0_6, .int .i64 a0_7, .slice A0_8 l0_8.length c0_8] 51 ?_; intro gb17 hg w20 BK17 hb; have GW17 := gw_ (w := w) hg; replace HB := hs_ hb; clear hb hg) | ((with_reducible refine gt_ 3 ?_); refine bo_ 3 #[.slice A1_0 l1_0.length c1_0, .int .i64 a1_1, .slice A1_2 l1_2.length c1_2, .int .i64 a1_3, .int .i64 a1_4, .int .i64 a1_5, .int .i64 a1_6, .int .i64 a1_7, .slice A1_8 l1_8.length c1_8] 51 ?_; intro gb18 hg w21 BK18 hb; have GW18 := gw_ (w := w) hg; replace HB := hs_ hb; have ⟨NB17_18, NB18_17⟩ := nb_ hg BK17; replace BK17 := kb_ BK17 hb; clear hb hg; have := NB17_18.out; have := NB18_17.out; refine by9_ BK17 ?_; intros; refine by9_ BK18 ?_; intros) | ((with_reducible refine gd_ 18 9 func18 #[.slice A0_0 l0_0.length c0_0, .slice A1_0 l1_0.length c1_0] (laws_eqByteS.calls k _ _ l0_0 _ _ l1_0 true _ (cb_ HR0_0 HB) HC0_0.out (cb_ HR1_0 HB) HC1_0.out A3.out) fun nd => ?_)) | ((with_reducible refine gd_ 26 20 func26 #[.slice A0_2 l0_2.length c0_2, .slice A1_2 l1_2.length c1_2] (laws_eqIntS.calls k _ _ l0_2 _ _ l1_2 true _ (ca_ (Kd.C_below HR0_2.out bl_)) HC0_2.out (ca_ (Kd.C_below HR1_2.out bl_)) HC1_2.out A6.out) fun nd => ?_)) | ((with_reducible refine gd_ 18 51 func18 #[.slice A0_8 l0_8.length c0_8, .slice A1_8 l1_8.length c1_8] (laws_eqByteS.calls k _ _ l0_8 _ _ l1_8 false _ (ca_ (Kd.C_below HR0_8.out bl_)) HC0_8.out (ca_ (Kd.C_below HR1_8.out bl_)) HC1_8.out A13.out) fun nd => ?_)))
  go_ret
  exact ⟨sq_, bl_⟩
 ·rw [if_neg c12] at H
  have c12b0 := ef_ c12
  have c12b1 := nt_ c12
  obtain rfl := si_ H
  go_enter func27, ntmps27
  go_wp2_with (first | ((with_reducible refine gt_ 2 ?_); refine bo_ 2 #[.slice A0_0 l0_0.length c0_0, .int .i64 a0_1, .slice A0_2 l0_2.length c0_2, .int .i64 a0_3, .int .i64 a0_4, .int .i64 a0_5, .int .i64 a0_6, .int .i64 a0_7, .slice A0_8 l0_8.length c0_8] 51 ?_; intro gb17 hg w25 BK17 hb; have GW17 := gw_ (w := w) hg; replace HB := hs_ hb; clear hb hg) | ((with_reducible refine gt_ 3 ?_); refine bo_ 3 #[.slice A1_0 l1_0.length c1_0, .int .i64 a1_1, .slice A1_2 l1_2.length c1_2, .int .i64 a1_3, .int .i64 a1_4, .int .i64 a1_5, .int .i64 a1_6, .int .i64 a1_7, .slice A1_8 l1_8.length c1_8] 51 ?_; intro gb18 hg w26 BK18 hb; have GW18 := gw_ (w := w) hg; replace HB := hs_ hb; have ⟨NB17_18, NB18_17⟩ := nb_ hg BK17; replace BK17 := kb_ BK17 hb; clear hb hg; have := NB17_18.out; have := NB18_17.out; refine by9_ BK17 ?_; intros; refine by9_ BK18 ?_; intros) | ((with_reducible refine gd_ 18 9 func18 #[.slice A0_0 l0_0.length c0_0, .slice A1_0 l1_0.length c1_0] (laws_eqByteS.calls k _ _ l0_0 _ _ l1_0 true _ (cb_ HR0_0 HB) HC0_0.out (cb_ HR1_0 HB) HC1_0.out A3.out) fun nd => ?_)) | ((with_reducible refine gd_ 26 20 func26 #[.slice A0_2 l0_2.length c0_2, .slice A1_2 l1_2.length c1_2] (laws_eqIntS.calls k _ _ l0_2 _ _ l1_2 true _ (ca_ (Kd.C_below HR0_2.out bl_)) HC0_2.out (ca_ (Kd.C_below HR1_2.out bl_)) HC1_2.out A6.out) fun nd => ?_)))
  go_ret
  exact ⟨sq_, bl_⟩
/-! ### laws_FnExactStepsLeft: function 7 -/
def laws_FnExactStepsLeft.f (k : Nat) (l0_0 : List Int) (a0_1 : Int) (l0_2 : List Int) (a0_3 : Int) (a0_4 : Int) (a0_5 : Int) (a0_6 : Int) (a0_7 : Int) (l0_8 : List Int) (a1 : Int) : Option (Bool) := (laws_szTask.f l0_0 a0_1 l0_2 a0_3 a0_4 a0_5 a0_6 a0_7 l0_8 1048576).bind fun t55 => (if t55 < 0 then (some true) else ((laws_toTask.f k l0_0 a0_1 l0_2 a0_3 a0_4 a0_5 a0_6 a0_7 l0_8).bind fun bt25 => ((spec_StepsLeft.f k bt25.1 bt25.2.1 bt25.2.2.1 bt25.2.2.2.1 bt25.2.2.2.2.1 bt25.2.2.2.2.2.1 bt25.2.2.2.2.2.2.1 bt25.2.2.2.2.2.2.2.1 bt25.2.2.2.2.2.2.2.2 a1).bind fun t56 => ((laws_toTask.f k l0_0 a0_1 l0_2 a0_3 a0_4 a0_5 a0_6 a0_7 l0_8).bind fun bt19 => ((impl_StepsLeft.f k bt19.1 bt19.2.1 bt19.2.2.1 bt19.2.2.2.1 bt19.2.2.2.2.1 bt19.2.2.2.2.2.1 bt19.2.2.2.2.2.2.1 bt19.2.2.2.2.2.2.2.1 bt19.2.2.2.2.2.2.2.2 a1).bind fun t57 => (if t57 = t56 then ((laws_toTask.f k l0_0 a0_1 l0_2 a0_3 a0_4 a0_5 a0_6 a0_7 l0_8).bind fun bt40 => ((laws_eqTask.f k bt19.1 bt19.2.1 bt19.2.2.1 bt19.2.2.2.1 bt19.2.2.2.2.1 bt19.2.2.2.2.2.1 bt19.2.2.2.2.2.2.1 bt19.2.2.2.2.2.2.2.1 bt19.2.2.2.2.2.2.2.2 bt40.1 bt40.2.1 bt40.2.2.1 bt40.2.2.2.1 bt40.2.2.2.2.1 bt40.2.2.2.2.2.1 bt40.2.2.2.2.2.2.1 bt40.2.2.2.2.2.2.2.1 bt40.2.2.2.2.2.2.2.2).bind fun t61 => (if t61 = true then (some true) else (some false)))) else (some false)))))))
theorem laws_FnExactStepsLeft.calls (k : Nat) (A0_0 : Option Addr) (c0_0 : Nat) (l0_0 : List Int) (a0_1 : Int) (A0_2 : Option Addr) (c0_2 : Nat) (l0_2 : List Int) (a0_3 : Int) (a0_4 : Int) (a0_5 : Int) (a0_6 : Int) (a0_7 : Int) (A0_8 : Option Addr) (c0_8 : Nat) (l0_8 : List Int) (a1 : Int) (r : Bool) (w : World) (hr0_0 : Kd.C (Kd.int .u8) w A0_0 l0_0.length l0_0) (hc0_0 : l0_0.length ≤ c0_0) (hr0_2 : Kd.C (Kd.int .i64) w A0_2 l0_2.length l0_2) (hc0_2 : l0_2.length ≤ c0_2) (hr0_8 : Kd.C (Kd.int .u8) w A0_8 l0_8.length l0_8) (hc0_8 : l0_8.length ≤ c0_8) (h : laws_FnExactStepsLeft.f k l0_0 a0_1 l0_2 a0_3 a0_4 a0_5 a0_6 a0_7 l0_8 a1 = some true) :
  Calls Tryz.prog 7 #[.agg #[.slice A0_0 l0_0.length c0_0, .int .i64 a0_1, .slice A0_2 l0_2.length c0_2, .int .i64 a0_3, .int .i64 a0_4, .int .i64 a0_5, .int .i64 a0_6, .int .i64 a0_7, .slice A0_8 l0_8.length c0_8], .int .i64 a1] w fun e w' => e = .returned (.bool true) ∧ Below w.heap.size w w' := by
 have hu48 := underlying48
 have hu51 := underlying51
 have HR0_0 := Aside0.mk hr0_0
 have HC0_0 := Aside0.mk hc0_0
 clear hr0_0 hc0_0
 have HR0_2 := Aside0.mk hr0_2
 have HC0_2 := Aside0.mk hc0_2
 clear hr0_2 hc0_2
 have HR0_8 := Aside0.mk hr0_8
 have HC0_8 := Aside0.mk hc0_8
 clear hr0_8 hc0_8
 have HB := Aside0.mk (Below.refl w.heap.size w)
 have H : ((laws_szTask.f l0_0 a0_1 l0_2 a0_3 a0_4 a0_5 a0_6 a0_7 l0_8 1048576).bind fun t55 => (if t55 < 0 then (some true) else ((laws_toTask.f k l0_0 a0_1 l0_2 a0_3 a0_4 a0_5 a0_6 a0_7 l0_8).bind fun bt25 => ((spec_StepsLeft.f k bt25.1 bt25.2.1 bt25.2.2.1 bt25.2.2.2.1 bt25.2.2.2.2.1 bt25.2.2.2.2.2.1 bt25.2.2.2.2.2.2.1 bt25.2.2.2.2.2.2.2.1 bt25.2.2.2.2.2.2.2.2 a1).bind fun t56 => ((laws_toTask.f k l0_0 a0_1 l0_2 a0_3 a0_4 a0_5 a0_6 a0_7 l0_8).bind fun bt19 => ((impl_StepsLeft.f k bt19.1 bt19.2.1 bt19.2.2.1 bt19.2.2.2.1 bt19.2.2.2.2.1 bt19.2.2.2.2.2.1 bt19.2.2.2.2.2.2.1 bt19.2.2.2.2.2.2.2.1 bt19.2.2.2.2.2.2.2.2 a1).bind fun t57 => (if t57 = t56 then ((laws_toTask.f k l0_0 a0_1 l0_2 a0_3 a0_4 a0_5 a0_6 a0_7 l0_8).bind fun bt40 => ((laws_eqTask.f k bt19.1 bt19.2.1 bt19.2.2.1 bt19.2.2.2.1 bt19.2.2.2.2.1 bt19.2.2.2.2.2.1 bt19.2.2.2.2.2.2.1 bt19.2.2.2.2.2.2.2.1 bt19.2.2.2.2.2.2.2.2 bt40.1 bt40.2.1 bt40.2.2.1 bt40.2.2.2.1 bt40.2.2.2.2.1 bt40.2.2.2.2.2.1 bt40.2.2.2.2.2.2.1 bt40.2.2.2.2.2.2.2.1 bt40.2.2.2.2.2.2.2.2).bind fun t61 => (if t61 = true then (some true) else (some false)))) else (some false)))))))) = some true := h
 clear h
 obtain ⟨t55, A3, H⟩ := ob_ H
 by_cases c4 : t55 < 0
 ·rw [if_pos c4] at H
  replace c4 := dt_ c4
  clear H
  go_enter func7, ntmps7
  go_wp2_with (first | ((with_reducible refine gt_ 2 ?_); refine bo_ 2 #[.slice A0_0 l0_0.length c0_0, .int .i64 a0_1, .slice A0_2 l0_2.length c0_2, .int .i64 a0_3, .int .i64 a0_4, .int .i64 a0_5, .int .i64 a0_6, .int .i64 a0_7, .slice A0_8 l0_8.length c0_8] 48 ?_; intro gb17 hg w5 BK17 hb; have GW17 := gw_ (w := w) hg; replace HB := hs_ hb; clear hb hg; refine by9_ BK17 ?_; intros) | ((with_reducible refine gb_ 22 11 func22 #[.agg #[.slice A0_0 l0_0.length c0_0, .int .i64 a0_1, .slice A0_2 l0_2.length c0_2, .int .i64 a0_3, .int .i64 a0_4, .int .i64 a0_5, .int .i64 a0_6, .int .i64 a0_7, .slice A0_8 l0_8.length c0_8], .int .i64 1048576] (laws_szTask.calls _ _ l0_0 a0_1 _ _ l0_2 a0_3 a0_4 a0_5 a0_6 a0_7 _ _ l0_8 1048576 t55 _ (cb_ HR0_0 HB) HC0_0.out (cb_ HR0_2 HB) HC0_2.out (cb_ HR0_8 HB) HC0_8.out A3.out) fun w7 hb => ?_); replace BK17 := kb_ BK17 hb; replace HB := hs_ hb; clear hb))
  go_ret
  exact ⟨sq_, bl_⟩
 rw [if_neg c4] at H
 replace c4 := df_ c4
 obtain ⟨⟨t25, t64, t63, t65, t66, t67, t68, t69, t62⟩, A8, H⟩ := ob_ H
 (try dsimp only at H)
 obtain ⟨t56, A9, H⟩ := ob_ H
 obtain ⟨⟨t19, t47, t46, t49, t50, t52, t53, t54, t45⟩, A10, H⟩ := ob_ H
 (try dsimp only at H)
 obtain ⟨t57, A11, H⟩ := ob_ H
 by_cases c12 : t57 = t56
 rotate_left
 ·rw [if_neg c12] at H
  have c12b0 := ef_ c12
  have c12b1 := nt_ c12
  exact absurd H (by simp)
 rw [if_pos c12] at H
 have := et_ c12
 replace c12 := nf_ c12
 obtain ⟨⟨t40, t70, t71, t72, t73, t74, t75, t76, t77⟩, A13, H⟩ := ob_ H
 (try dsimp only at H)
 obtain ⟨t61, A14, H⟩ := ob_ H
 by_cases c15 : t61 = true
 rotate_left
 ·replace c15 := gf_ c15
  subst c15
  replace H := in_ H
  exact absurd H (by simp)
 subst c15
 have H1 : (some true) = some true := rfl
 clear H
 have H := H1
 clear H1
 clear H
 go_enter func7, ntmps7
 try go_wp2_with (first | ((with_reducible refine gt_ 2 ?_); refine bo_ 2 #[.slice A0_0 l0_0.length c0_0, .int .i64 a0_1, .slice A0_2 l0_2.length c0_2, .int .i64 a0_3, .int .i64 a0_4, .int .i64 a0_5, .int .i64 a0_6, .int .i64 a0_7, .slice A0_8 l0_8.length c0_8] 48 ?_; intro gb17 hg w16 BK17 hb; have GW17 := gw_ (w := w) hg; replace HB := hs_ hb; clear hb hg; refine by9_ BK17 ?_; intros) | ((with_reducible refine gb_ 22 11 func22 #[.agg #[.slice A0_0 l0_0.length c0_0, .int .i64 a0_1, .slice A0_2 l0_2.length c0_2, .int .i64 a0_3, .int .i64 a0_4, .int .i64 a0_5, .int .i64 a0_6, .int .i64 a0_7, .slice A0_8 l0_8.length c0_8], .int .i64 1048576] (laws_szTask.calls _ _ l0_0 a0_1 _ _ l0_2 a0_3 a0_4 a0_5 a0_6 a0_7 _ _ l0_8 1048576 t55 _ (cb_ HR0_0 HB) HC0_0.out (cb_ HR0_2 HB) HC0_2.out (cb_ HR0_8 HB) HC0_8.out A3.out) fun w18 hb => ?_); replace BK17 := kb_ BK17 hb; replace HB := hs_ hb; clear hb; refine by9_ BK17 ?_; intros) | ((with_reducible refine gc_ 24 15 func24 #[.agg #[.slice A0_0 l0_0.length c0_0, .int .i64 a0_1, .slice A0_2 l0_2.length c0_2, .int .i64 a0_3, .int .i64 a0_4, .int .i64 a0_5, .int .i64 a0_6, .int .i64 a0_7, .slice A0_8 l0_8.length c0_8]] ?_); (with_reducible refine (laws_toTask.calls k _ _ l0_0 a0_1 _ _ l0_2 a0_3 a0_4 a0_5 a0_6 a0_7 _ _ l0_8 t25 t64 t63 t65 t66 t67 t68 t69 t62 _ (cb_ HR0_0 HB) HC0_0.out (cb_ HR0_2 HB) HC0_2.out (cb_ HR0_8 HB) HC0_8.out A8.out).mono ?_); rintro e w20 ⟨v78, v79, v80, rfl, ho0, ho1, ho2, hb⟩; refine ⟨_, rfl, ?_⟩; have HO29 := Aside0.mk (Kd.R_lower ho0 (below_size bl_)); have HO41 := Aside0.mk (Kd.R_lower ho1 (below_size bl_)); have HO30 := Aside0.mk (Kd.R_lower ho2 (below_size bl_)); replace BK17 := kb_ BK17 hb; replace HB := hs_ hb; clear hb; (try clear ho0); (try clear ho1); (try clear ho2); obtain ⟨Ao21, co21, eo21⟩ := Kd.R_slice HO29.out; subst eo21; obtain ⟨Ao22, co22, eo22⟩ := Kd.R_slice HO41.out; subst eo22; obtain ⟨Ao23, co23, eo23⟩ := Kd.R_slice HO30.out; subst eo23) | ((with_reducible refine gb_ 33 17 func33 #[.agg #[.slice Ao21 t25.length co21, .int .i64 t64, .slice Ao22 t63.length co22, .int .i64 t65, .int .i64 t66, .int .i64 t67, .int .i64 t68, .int .i64 t69, .slice Ao23 t62.length co23], .int .i64 a1] (spec_StepsLeft.calls k _ _ t25 t64 _ _ t63 t65 t66 t67 t68 t69 _ _ t62 a1 t56 _ (ca_ ((Kd.R_reads' HO29.out).2.2)) ((Kd.R_reads' HO29.out).2.1) (ca_ ((Kd.R_reads' HO41.out).2.2)) ((Kd.R_reads' HO41.out).2.1) (ca_ ((Kd.R_reads' HO30.out).2.2)) ((Kd.R_reads' HO30.out).2.1) A9.out) fun w24 hb => ?_); replace HO29 := Aside0.mk (Kd.R_below (ra_ HO29) hb); replace HO41 := Aside0.mk (Kd.R_below (ra_ HO41) hb); replace HO30 := Aside0.mk (Kd.R_below (ra_ HO30) hb); replace BK17 := kb_ BK17 hb; replace HB := hs_ hb; clear hb; refine by9_ BK17 ?_; intros) | ((with_reducible refine gc_ 24 19 func24 #[.agg #[.slice A0_0 l0_0.length c0_0, .int .i64 a0_1, .slice A0_2 l0_2.length c0_2, .int .i64 a0_3, .int .i64 a0_4, .int .i64 a0_5, .int .i64 a0_6, .int .i64 a0_7, .slice A0_8 l0_8.length c0_8]] ?_); (with_reducible refine (laws_toTask.calls k _ _ l0_0 a0_1 _ _ l0_2 a0_3 a0_4 a0_5 a0_6 a0_7 _ _ l0_8 t19 t47 t46 t49 t50 t52 t53 t54 t45 _ (cb_ HR0_0 HB) HC0_0.out (cb_ HR0_2 HB) HC0_2.out (cb_ HR0_8 HB) HC0_8.out A10.out).mono ?_); rintro e w26 ⟨v81, v82, v83, rfl, ho0, ho1, ho2, hb⟩; refine ⟨_, rfl, ?_⟩; have HO42 := Aside0.mk (Kd.R_lower (Kd.R_new' (Kd.R_new' ho0 (Kd.R_lt (ra_ HO29))) (Kd.R_lt (ra_ HO30))) (below_size bl_)); have HO44 := Aside0.mk (Kd.R_lower (Kd.R_new' ho1 (Kd.R_lt (ra_ HO41))) (below_size bl_)); replace HO41 := Aside0.mk (Kd.R_elder' (ra_ HO41) (Kd.R_base ho1) hb); have HO43 := Aside0.mk (Kd.R_lower (Kd.R_new' (Kd.R_new' ho2 (Kd.R_lt (ra_ HO29))) (Kd.R_lt (ra_ HO30))) (below_size bl_)); replace HO29 := Aside0.mk (Kd.R_mono (Kd.R_told (Kd.R_told (Kd.R_old (ra_ HO29) hb) (Kd.R_base ho0)) (Kd.R_base ho2)) (fun _ h_ => h_.1)); replace HO30 := Aside0.mk (Kd.R_mono (Kd.R_told (Kd.R_told (Kd.R_old (ra_ HO30) hb) (Kd.R_base ho0)) (Kd.R_base ho2)) (fun _ h_ => h_.1)); replace BK17 := kb_ BK17 hb; replace HB := hs_ hb; clear hb; (try clear ho0); (try clear ho1); (try clear ho2)) | ((with_reducible refine gate_dst (N := 7) rfl ?_); refine be_ (N := 7) (cs := #[.slice none 0 0, .int .i64 0, .slice none 0 0, .int .i64 0, .int .i64 0, .int .i64 0, .int .i64 0, .int .i64 0, .slice none 0 0]) (t := 51) ?_; intro gb6 hg w27 hbox hb; replace HO29 := Aside0.mk (Kd.R_below (ra_ HO29) hb); replace HO41 := Aside0.mk (Kd.R_below (ra_ HO41) hb); replace HO30 := Aside0.mk (Kd.R_below (ra_ HO30) hb); replace HO42 := Aside0.mk (Kd.R_below (ra_ HO42) hb); replace HO44 := Aside0.mk (Kd.R_below (ra_ HO44) hb); replace HO43 := Aside0.mk (Kd.R_below (ra_ HO43) hb); have BK6 := Aside0.mk (hbox); have GW6 := gw_ (w := w) hg; replace HB := hs_ hb; have ⟨NB17_6, NB6_17⟩ := nb_ hg BK17; replace BK17 := kb_ BK17 hb; clear hb hbox hg; obtain ⟨Ao28, co28, eo28⟩ := Kd.R_slice HO42.out; subst eo28; have := NB6_17.out; have := NB17_6.out; refine by9_ BK6 ?_; intros; obtain ⟨Ao31, co31, eo31⟩ := Kd.R_slice HO44.out; subst eo31; obtain ⟨Ao32, co32, eo32⟩ := Kd.R_slice HO43.out; subst eo32) | ((with_reducible refine gc_ 34 22 func34 #[.agg #[.slice Ao28 t19.length co28, .int .i64 t47, .slice Ao31 t46.length co31, .int .i64 t49, .int .i64 t50, .int .i64 t52, .int .i64 t53, .int .i64 t54, .slice Ao32 t45.length co32], .int .i64 a1] ?_); (with_reducible refine (impl_StepsLeft.calls k _ _ t19 t47 _ _ t46 t49 t50 t52 t53 t54 _ _ t45 a1 t57 _ ?side1 ((Kd.R_reads' HO42.out).2.1) ?side3 ((Kd.R_reads' HO44.out).2.1) ?side5 ((Kd.R_reads' HO43.out).2.1) A11.out).mono ?_); (case side1 => refine (Kd.R_reads' (e := 5) (base := w.heap.size) (ok := fun k_ => ((some k_ ≠ (.slice Ao32 t45.length co32 : Value).ownBlock ∧ some k_ ≠ (.slice Ao21 t25.length co21 : Value).ownBlock) ∧ some k_ ≠ (.slice Ao23 t62.length co23 : Value).ownBlock)) (n := t19.length) (c := co28) ?_).2.2; exact (by refine cr_ ?_; exact (Kd.R_mono (rf_ gb6 8 (rf_ gb6 7 (rf_ gb6 6 (rf_ gb6 5 (rf_ gb6 4 (rf_ gb6 3 (rf_ gb6 2 (rf_ gb6 1 (rf_ gb6 0 (Kd.R_types HO42.out BK6.out (by decide)) (.slice Ao28 t19.length co28)) (.int .i64 t47)) (.slice Ao31 t46.length co31)) (.int .i64 t49)) (.int .i64 t50)) (.int .i64 t52)) (.int .i64 t53)) (.int .i64 t54)) (.slice Ao32 t45.length co32)) (fun _ h_ => h_.1)))); (case side3 => refine (Kd.R_reads' (e := 3) (base := w.heap.size) (ok := fun k_ => (True ∧ some k_ ≠ (.slice Ao22 t63.length co22 : Value).ownBlock)) (n := t46.length) (c := co31) ?_).2.2; exact (by refine cr_ ?_; exact (Kd.R_mono (rf_ gb6 8 (rf_ gb6 7 (rf_ gb6 6 (rf_ gb6 5 (rf_ gb6 4 (rf_ gb6 3 (rf_ gb6 2 (rf_ gb6 1 (rf_ gb6 0 (Kd.R_types HO44.out BK6.out (by decide)) (.slice Ao28 t19.length co28)) (.int .i64 t47)) (.slice Ao31 t46.length co31)) (.int .i64 t49)) (.int .i64 t50)) (.int .i64 t52)) (.int .i64 t53)) (.int .i64 t54)) (.slice Ao32 t45.length co32)) (fun _ h_ => h_.1)))); (case side5 => refine (Kd.R_reads' (e := 5) (base := w.heap.size) (ok := fun k_ => ((some k_ ≠ (.slice Ao28 t19.length co28 : Value).ownBlock ∧ some k_ ≠ (.slice Ao21 t25.length co21 : Value).ownBlock) ∧ some k_ ≠ (.slice Ao23 t62.length co23 : Value).ownBlock)) (n := t45.length) (c := co32) ?_).2.2; exact (by refine cr_ ?_; exact (Kd.R_mono (rf_ gb6 8 (rf_ gb6 7 (rf_ gb6 6 (rf_ gb6 5 (rf_ gb6 4 (rf_ gb6 3 (rf_ gb6 2 (rf_ gb6 1 (rf_ gb6 0 (Kd.R_types HO43.out BK6.out (by decide)) (.slice Ao28 t19.length co28)) (.int .i64 t47)) (.slice Ao31 t46.length co31)) (.int .i64 t49)) (.int .i64 t50)) (.int .i64 t52)) (.int .i64 t53)) (.int .i64 t54)) (.slice Ao32 t45.length co32)) (fun _ h_ => h_.1)))); rintro e w33 ⟨rfl, hb⟩; refine ⟨_, rfl, ?_⟩; replace HO29 := Aside0.mk (Kd.R_below (by refine cr_ ?_; exact (Kd.R_mono (rf_ gb6 8 (rf_ gb6 7 (rf_ gb6 6 (rf_ gb6 5 (rf_ gb6 4 (rf_ gb6 3 (rf_ gb6 2 (rf_ gb6 1 (rf_ gb6 0 (Kd.R_types HO29.out BK6.out (by decide)) (.slice Ao28 t19.length co28)) (.int .i64 t47)) (.slice Ao31 t46.length co31)) (.int .i64 t49)) (.int .i64 t50)) (.int .i64 t52)) (.int .i64 t53)) (.int .i64 t54)) (.slice Ao32 t45.length co32)) (fun _ h_ => h_.1))) hb); replace HO41 := Aside0.mk (Kd.R_below (by refine cr_ ?_; exact (Kd.R_mono (rf_ gb6 8 (rf_ gb6 7 (rf_ gb6 6 (rf_ gb6 5 (rf_ gb6 4 (rf_ gb6 3 (rf_ gb6 2 (rf_ gb6 1 (rf_ gb6 0 (Kd.R_types HO41.out BK6.out (by decide)) (.slice Ao28 t19.length co28)) (.int .i64 t47)) (.slice Ao31 t46.length co31)) (.int .i64 t49)) (.int .i64 t50)) (.int .i64 t52)) (.int .i64 t53)) (.int .i64 t54)) (.slice Ao32 t45.length co32)) (fun _ h_ => h_.1))) hb); replace HO30 := Aside0.mk (Kd.R_below (by refine cr_ ?_; exact (Kd.R_mono (rf_ gb6 8 (rf_ gb6 7 (rf_ gb6 6 (rf_ gb6 5 (rf_ gb6 4 (rf_ gb6 3 (rf_ gb6 2 (rf_ gb6 1 (rf_ gb6 0 (Kd.R_types HO30.out BK6.out (by decide)) (.slice Ao28 t19.length co28)) (.int .i64 t47)) (.slice Ao31 t46.length co31)) (.int .i64 t49)) (.int .i64 t50)) (.int .i64 t52)) (.int .i64 t53)) (.int .i64 t54)) (.slice Ao32 t45.length co32)) (fun _ h_ => h_.1))) hb); replace HO42 := Aside0.mk (Kd.R_below (by refine cr_ ?_; exact (Kd.R_mono (rf_ gb6 8 (rf_ gb6 7 (rf_ gb6 6 (rf_ gb6 5 (rf_ gb6 4 (rf_ gb6 3 (rf_ gb6 2 (rf_ gb6 1 (rf_ gb6 0 (Kd.R_types HO42.out BK6.out (by decide)) (.slice Ao28 t19.length co28)) (.int .i64 t47)) (.slice Ao31 t46.length co31)) (.int .i64 t49)) (.int .i64 t50)) (.int .i64 t52)) (.int .i64 t53)) (.int .i64 t54)) (.slice Ao32 t45.length co32)) (fun _ h_ => h_.1))) hb); replace HO44 := Aside0.mk (Kd.R_below (by refine cr_ ?_; exact (Kd.R_mono (rf_ gb6 8 (rf_ gb6 7 (rf_ gb6 6 (rf_ gb6 5 (rf_ gb6 4 (rf_ gb6 3 (rf_ gb6 2 (rf_ gb6 1 (rf_ gb6 0 (Kd.R_types HO44.out BK6.out (by decide)) (.slice Ao28 t19.length co28)) (.int .i64 t47)) (.slice Ao31 t46.length co31)) (.int .i64 t49)) (.int .i64 t50)) (.int .i64 t52)) (.int .i64 t53)) (.int .i64 t54)) (.slice Ao32 t45.length co32)) (fun _ h_ => h_.1))) hb); replace HO43 := Aside0.mk (Kd.R_below (by refine cr_ ?_; exact (Kd.R_mono (rf_ gb6 8 (rf_ gb6 7 (rf_ gb6 6 (rf_ gb6 5 (rf_ gb6 4 (rf_ gb6 3 (rf_ gb6 2 (rf_ gb6 1 (rf_ gb6 0 (Kd.R_types HO43.out BK6.out (by decide)) (.slice Ao28 t19.length co28)) (.int .i64 t47)) (.slice Ao31 t46.length co31)) (.int .i64 t49)) (.int .i64 t50)) (.int .i64 t52)) (.int .i64 t53)) (.int .i64 t54)) (.slice Ao32 t45.length co32)) (fun _ h_ => h_.1))) hb); replace BK17 := Aside0.mk (blk_below (g := gb17) (o := .cells #[.slice A0_0 l0_0.length c0_0, .int .i64 a0_1, .slice A0_2 l0_2.length c0_2, .int .i64 a0_3, .int .i64 a0_4, .int .i64 a0_5, .int .i64 a0_6, .int .i64 a0_7, .slice A0_8 l0_8.length c0_8] 48 (0, 0)) (by refine ch_ ?_; refine bf_ NB17_6 ?_; refine bf_ NB17_6 ?_; refine bf_ NB17_6 ?_; refine bf_ NB17_6 ?_; refine bf_ NB17_6 ?_; refine bf_ NB17_6 ?_; refine bf_ NB17_6 ?_; refine bf_ NB17_6 ?_; exact bf_ NB17_6 BK17.out) hb); replace BK6 := Aside0.mk (blk_below (g := gb6) (o := .cells #[.slice Ao28 t19.length co28, .int .i64 t47, .slice Ao31 t46.length co31, .int .i64 t49, .int .i64 t50, .int .i64 t52, .int .i64 t53, .int .i64 t54, .slice Ao32 t45.length co32] 51 (0, 0)) (by refine ch_ ?_; apply bq9_8_7_6_5_4_3_2_1_0_; exact ch_ BK6.out) hb); replace HB := hs_ hb; clear hb))
 have n0_ := Aside0.mk (Kd.R_drew HO29.out)
 have n1_ := Aside0.mk (Kd.R_drew HO41.out)
 have n2_ := Aside0.mk (Kd.R_drew HO30.out)
 have n3_ := Aside0.mk (Kd.R_drew HO42.out)
 have n4_ := Aside0.mk (Kd.R_drew HO44.out)
 have n5_ := Aside0.mk (Kd.R_drew HO43.out)
 have n6_ := Aside0.mk (blk_drew BK17.out)
 have n7_ := Aside0.mk (blk_drew BK6.out)
 have n8_ := Aside0.mk (below_drew1 HB.out)
 clear HO29
 clear HO41
 clear HO30
 clear HO42
 clear HO44
 clear HO43
 clear BK17
 clear BK6
 clear HB
 have HO29 := n0_
 have HO41 := n1_
 have HO30 := n2_
 have HO42 := n3_
 have HO44 := n4_
 have HO43 := n5_
 have BK17 := n6_
 have BK6 := n7_
 have HB := n8_
 clear n0_ n1_ n2_ n3_ n4_ n5_ n6_ n7_ n8_
 refine start_ (n := 5) (S := fun w' => w'.cell? ⟨gb6, 0, none⟩ = some (.slice Ao28 t19.length co28) ∧ w'.cell? ⟨gb6, 1, none⟩ = some (.int .i64 t47) ∧ w'.cell? ⟨gb6, 2, none⟩ = some (.slice Ao31 t46.length co31) ∧ w'.cell? ⟨gb6, 3, none⟩ = some (.int .i64 t49) ∧ w'.cell? ⟨gb6, 4, none⟩ = some (.int .i64 t50) ∧ w'.cell? ⟨gb6, 5, none⟩ = some (.int .i64 t52) ∧ w'.cell? ⟨gb6, 6, none⟩ = some (.int .i64 t53) ∧ w'.cell? ⟨gb6, 7, none⟩ = some (.int .i64 t54) ∧ w'.cell? ⟨gb6, 8, none⟩ = some (.slice Ao32 t45.length co32) ∧ w'.cell? ⟨gb17, 0, none⟩ = some (.slice A0_0 l0_0.length c0_0) ∧ w'.cell? ⟨gb17, 1, none⟩ = some (.int .i64 a0_1) ∧ w'.cell? ⟨gb17, 2, none⟩ = some (.slice A0_2 l0_2.length c0_2) ∧ w'.cell? ⟨gb17, 3, none⟩ = some (.int .i64 a0_3) ∧ w'.cell? ⟨gb17, 4, none⟩ = some (.int .i64 a0_4) ∧ w'.cell? ⟨gb17, 5, none⟩ = some (.int .i64 a0_5) ∧ w'.cell? ⟨gb17, 6, none⟩ = some (.int .i64 a0_6) ∧ w'.cell? ⟨gb17, 7, none⟩ = some (.int .i64 a0_7) ∧ w'.cell? ⟨gb17, 8, none⟩ = some (.slice A0_8 l0_8.length c0_8)) (ds := []) #[false, false, false, false, false] (by kernel_rfl) rfl rfl ⟨cy_ BK6 0, cy_ BK6 1, cy_ BK6 2, cy_ BK6 3, cy_ BK6 4, cy_ BK6 5, cy_ BK6 6, cy_ BK6 7, cy_ BK6 8, cy_ BK17 0, cy_ BK17 1, cy_ BK17 2, cy_ BK17 3, cy_ BK17 4, cy_ BK17 5, cy_ BK17 6, cy_ BK17 7, cy_ BK17 8⟩ (fun hHeld => ?_)
 generalize w33.drew = w34 at HO29 HO41 HO30 HO42 HO44 HO43 BK17 BK6 HB hHeld ⊢
 refine take_ (i := 0) (N := some 26) (v := ?_) (a' := ?_) #[true, false, false, false, false] rfl rfl (by kernel_rfl) (fun _ _ _ h => h) (Or.inl ⟨by rfl, ?_⟩) hHeld ?_ ?_
 rotate_left
 ·rintro w' ⟨s0, s1, s2, s3, s4, s5, s6, s7, s8, s9, s10, s11, s12, s13, s14, s15, s16, s17⟩
  go_simp
  with_reducible rfl
 rotate_left
 ·simp only [Act.put, q_]
  rfl
 refine take_ (i := 1) (N := some 27) (v := ?_) (a' := ?_) #[true, true, false, false, false] rfl rfl (by kernel_rfl) (fun _ _ _ h => h) (Or.inl ⟨by rfl, ?_⟩) hHeld ?_ ?_
 rotate_left
 ·rintro w' ⟨s0, s1, s2, s3, s4, s5, s6, s7, s8, s9, s10, s11, s12, s13, s14, s15, s16, s17⟩
  go_simp
  with_reducible rfl
 rotate_left
 ·simp only [Act.put, q_]
  rfl
 refine one_ (i := 2) (N := some 28) #[true, true, true, false, false] rfl rfl (by kernel_rfl) (by decide) (fun K hK => ?_)
 refine goes_ func24 (by kernel_rfl) rfl #[.agg #[.slice A0_0 l0_0.length c0_0, .int .i64 a0_1, .slice A0_2 l0_2.length c0_2, .int .i64 a0_3, .int .i64 a0_4, .int .i64 a0_5, .int .i64 a0_6, .int .i64 a0_7, .slice A0_8 l0_8.length c0_8]] (by rfl) rfl rfl gl_ ?_
 with_reducible refine (laws_toTask.calls k _ _ l0_0 a0_1 _ _ l0_2 a0_3 a0_4 a0_5 a0_6 a0_7 _ _ l0_8 t40 t70 t71 t72 t73 t74 t75 t76 t77 _ ?side1 ?side2 ?side3 ?side4 ?side5 ?side6 A13.out).mono ?_
 (case side1 => exact ca_ (Kd.C_below HR0_0.out HB.out))
 (case side2 => exact HC0_0.out)
 (case side3 => exact ca_ (Kd.C_below HR0_2.out HB.out))
 (case side4 => exact HC0_2.out)
 (case side5 => exact ca_ (Kd.C_below HR0_8.out HB.out))
 (case side6 => exact HC0_8.out)
 rintro e w35 ⟨v84, v85, v86, rfl, ho0, ho1, ho2, hb⟩
 refine ⟨_, rfl, ?_⟩
 have n0_ := Aside0.mk (Kd.R_mono (Kd.R_told (Kd.R_told (Kd.R_old (ra_ HO29) hb) (Kd.R_base ho0)) (Kd.R_base ho2)) (fun _ h_ => h_.1))
 have n1_ := Aside0.mk (Kd.R_elder' (ra_ HO41) (Kd.R_base ho1) hb)
 have n2_ := Aside0.mk (Kd.R_mono (Kd.R_told (Kd.R_told (Kd.R_old (ra_ HO30) hb) (Kd.R_base ho0)) (Kd.R_base ho2)) (fun _ h_ => h_.1))
 have n3_ := Aside0.mk (Kd.R_mono (Kd.R_told (Kd.R_told (Kd.R_old (ra_ HO42) hb) (Kd.R_base ho0)) (Kd.R_base ho2)) (fun _ h_ => h_.1))
 have n4_ := Aside0.mk (Kd.R_elder' (ra_ HO44) (Kd.R_base ho1) hb)
 have n5_ := Aside0.mk (Kd.R_mono (Kd.R_told (Kd.R_told (Kd.R_old (ra_ HO43) hb) (Kd.R_base ho0)) (Kd.R_base ho2)) (fun _ h_ => h_.1))
 have n6_ := Aside0.mk (Kd.R_lower (Kd.R_new' (Kd.R_new' (Kd.R_new' (Kd.R_new' ho0 (Kd.R_lt (ra_ HO29))) (Kd.R_lt (ra_ HO30))) (Kd.R_lt (ra_ HO42))) (Kd.R_lt (ra_ HO43))) (below_size bl_))
 have n7_ := Aside0.mk (Kd.R_lower (Kd.R_new' (Kd.R_new' ho1 (Kd.R_lt (ra_ HO41))) (Kd.R_lt (ra_ HO44))) (below_size bl_))
 have n8_ := Aside0.mk (Kd.R_lower (Kd.R_new' (Kd.R_new' (Kd.R_new' (Kd.R_new' ho2 (Kd.R_lt (ra_ HO29))) (Kd.R_lt (ra_ HO30))) (Kd.R_lt (ra_ HO42))) (Kd.R_lt (ra_ HO43))) (below_size bl_))
 have n9_ := Aside0.mk (blk_below (bk_ BK17) hb)
 have n10_ := Aside0.mk (blk_below (bk_ BK6) hb)
 have n11_ := Aside0.mk (below_step bl_ hb)
 clear HO29
 clear HO41
 clear HO30
 clear HO42
 clear HO44
 clear HO43
 clear BK17
 clear BK6
 clear HB
 have HO29 := n0_
 have HO41 := n1_
 have HO30 := n2_
 have HO42 := n3_
 have HO44 := n4_
 have HO43 := n5_
 have HO58 := n6_
 have HO59 := n7_
 have HO60 := n8_
 have BK17 := n9_
 have BK6 := n10_
 have HB := n11_
 clear n0_ n1_ n2_ n3_ n4_ n5_ n6_ n7_ n8_ n9_ n10_ n11_
 (try clear hb)
 (try clear hb2)
 (try clear hk)
 (try clear hi)
 (try clear ho0)
 (try clear ho1)
 (try clear ho2)
 obtain ⟨Ao36, co36, eo36⟩ := Kd.R_slice HO58.out
 (first | subst eo36 | (injection eo36 with f1_ f2_ f3_; have f4_ := f1_.symm; have f5_ := f3_.symm; clear f1_ f2_ f3_; subst f4_; subst f5_))
 obtain ⟨Ao37, co37, eo37⟩ := Kd.R_slice HO59.out
 (first | subst eo37 | (injection eo37 with f1_ f2_ f3_; have f4_ := f1_.symm; have f5_ := f3_.symm; clear f1_ f2_ f3_; subst f4_; subst f5_))
 obtain ⟨Ao38, co38, eo38⟩ := Kd.R_slice HO60.out
 (first | subst eo38 | (injection eo38 with f1_ f2_ f3_; have f4_ := f1_.symm; have f5_ := f3_.symm; clear f1_ f2_ f3_; subst f4_; subst f5_))
 refine hK.out _ _ ⟨cy_ BK6 0, cy_ BK6 1, cy_ BK6 2, cy_ BK6 3, cy_ BK6 4, cy_ BK6 5, cy_ BK6 6, cy_ BK6 7, cy_ BK6 8, cy_ BK17 0, cy_ BK17 1, cy_ BK17 2, cy_ BK17 3, cy_ BK17 4, cy_ BK17 5, cy_ BK17 6, cy_ BK17 7, cy_ BK17 8⟩ (fun hHeld => ?_)
 clear hK K
 refine norm_ (a' := ?_) ?_ ?_
 rotate_left
 ·show Act.put _ (some 28) _ = _
  simp only [Act.put, q_]
  rfl
 refine one_ (i := 3) (N := some 29) #[true, true, true, true, false] rfl rfl (by kernel_rfl) (by decide) (fun K hK => ?_)
 refine goes_ func27 (by kernel_rfl) rfl #[.agg #[.slice Ao28 t19.length co28, .int .i64 t47, .slice Ao31 t46.length co31, .int .i64 t49, .int .i64 t50, .int .i64 t52, .int .i64 t53, .int .i64 t54, .slice Ao32 t45.length co32], .agg #[.slice Ao36 t40.length co36, .int .i64 t70, .slice Ao37 t71.length co37, .int .i64 t72, .int .i64 t73, .int .i64 t74, .int .i64 t75, .int .i64 t76, .slice Ao38 t77.length co38]] (by rfl) rfl rfl gl_ ?_
 with_reducible refine (laws_eqTask.calls k _ _ t19 t47 _ _ t46 t49 t50 t52 t53 t54 _ _ t45 _ _ t40 t70 _ _ t71 t72 t73 t74 t75 t76 _ _ t77 true _ ?side1 ?side2 ?side3 ?side4 ?side5 ?side6 ?side7 ?side8 ?side9 ?side10 ?side11 ?side12 A14.out).mono ?_
 (case side1 => exact ca_ ((Kd.R_reads' HO42.out).2.2))
 (case side2 => exact (Kd.R_reads' HO42.out).2.1)
 (case side3 => exact ca_ ((Kd.R_reads' HO44.out).2.2))
 (case side4 => exact (Kd.R_reads' HO44.out).2.1)
 (case side5 => exact ca_ ((Kd.R_reads' HO43.out).2.2))
 (case side6 => exact (Kd.R_reads' HO43.out).2.1)
 (case side7 => exact ca_ ((Kd.R_reads' HO58.out).2.2))
 (case side8 => exact (Kd.R_reads' HO58.out).2.1)
 (case side9 => exact ca_ ((Kd.R_reads' HO59.out).2.2))
 (case side10 => exact (Kd.R_reads' HO59.out).2.1)
 (case side11 => exact ca_ ((Kd.R_reads' HO60.out).2.2))
 (case side12 => exact (Kd.R_reads' HO60.out).2.1)
 rintro e w39 ⟨rfl, hb⟩
 refine ⟨_, rfl, ?_⟩
 have n0_ := Aside0.mk (Kd.R_below (ra_ HO29) hb)
 have n1_ := Aside0.mk (Kd.R_below (ra_ HO41) hb)
 have n2_ := Aside0.mk (Kd.R_below (ra_ HO30) hb)
 have n3_ := Aside0.mk (Kd.R_below (ra_ HO42) hb)
 have n4_ := Aside0.mk (Kd.R_below (ra_ HO44) hb)
 have n5_ := Aside0.mk (Kd.R_below (ra_ HO43) hb)
 have n6_ := Aside0.mk (Kd.R_below (ra_ HO58) hb)
 have n7_ := Aside0.mk (Kd.R_below (ra_ HO59) hb)
 have n8_ := Aside0.mk (Kd.R_below (ra_ HO60) hb)
 have n9_ := Aside0.mk (blk_below (bk_ BK17) hb)
 have n10_ := Aside0.mk (blk_below (bk_ BK6) hb)
 have n11_ := Aside0.mk (below_step bl_ hb)
 clear HO29
 clear HO41
 clear HO30
 clear HO42
 clear HO44
 clear HO43
 clear HO58
 clear HO59
 clear HO60
 clear BK17
 clear BK6
 clear HB
 have HO29 := n0_
 have HO41 := n1_
 have HO30 := n2_
 have HO42 := n3_
 have HO44 := n4_
 have HO43 := n5_
 have HO58 := n6_
 have HO59 := n7_
 have HO60 := n8_
 have BK17 := n9_
 have BK6 := n10_
 have HB := n11_
 clear n0_ n1_ n2_ n3_ n4_ n5_ n6_ n7_ n8_ n9_ n10_ n11_
 (try clear hb)
 (try clear hb2)
 (try clear hk)
 (try clear hi)
 refine hK.out _ _ ⟨cy_ BK6 0, cy_ BK6 1, cy_ BK6 2, cy_ BK6 3, cy_ BK6 4, cy_ BK6 5, cy_ BK6 6, cy_ BK6 7, cy_ BK6 8, cy_ BK17 0, cy_ BK17 1, cy_ BK17 2, cy_ BK17 3, cy_ BK17 4, cy_ BK17 5, cy_ BK17 6, cy_ BK17 7, cy_ BK17 8⟩ (fun hHeld => ?_)
 clear hK K
 refine norm_ (a' := ?_) ?_ ?_
 rotate_left
 ·show Act.put _ (some 29) _ = _
  simp only [Act.put, q_]
  rfl
 refine pure_ (i := 4) (N := some 30) (v := ?_) (a' := ?_) #[true, true, true, true, true] rfl rfl (by kernel_rfl) (fun _ _ _ h => h) (Or.inl ⟨by rfl, ?_⟩) ?_ ?_
 rotate_left
 ·intro w'
  go_simp
  with_reducible rfl
 rotate_left
 ·simp only [Act.put, q_]
  rfl
 refine done_ (by kernel_rfl) ?_
 try go_wp2
 go_ret
 exact ⟨sq_, bl_⟩
def ok48 (x : S48) : Prop := (x.f0.length ≤ maxLen ∧ ∀ y0 ∈ x.f0, (Lit.int .u8 y0).wf = true) ∧ ((Lit.int .i64 x.f1).wf = true) ∧ (x.f2.length ≤ maxLen ∧ ∀ y0 ∈ x.f2, (Lit.int .i64 y0).wf = true) ∧ ((Lit.int .i64 x.f3).wf = true) ∧ ((Lit.int .i64 x.f4).wf = true) ∧ ((Lit.int .i64 x.f5).wf = true) ∧ ((Lit.int .i64 x.f6).wf = true) ∧ ((Lit.int .i64 x.f7).wf = true) ∧ (x.f8.length ≤ maxLen ∧ ∀ y0 ∈ x.f8, (Lit.int .u8 y0).wf = true)
/-- THE ONE PURE STATEMENT of laws_FnExactStepsLeft. -/
def laws_FnExactStepsLeft.Pure : Prop := ∀ (s0 : S48) (a1 : Int), (ok48 s0) → ((Lit.int .i64 a1).wf = true) → ∃ k, laws_FnExactStepsLeft.f k s0.f0 s0.f1 s0.f2 s0.f3 s0.f4 s0.f5 s0.f6 s0.f7 s0.f8 a1 = some true
end Go.Proofs.YtohfefkjcnbejaaGreatDoor.QFnExactStepsLeft
