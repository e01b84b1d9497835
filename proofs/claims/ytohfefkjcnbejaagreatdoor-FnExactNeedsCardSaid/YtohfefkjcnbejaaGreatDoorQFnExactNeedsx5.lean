-- by my own printer (myprint.py, over the kit's print.py)
import Derived.Test.YtohfefkjcnbejaaGreatDoorQFnExactNeedsx2
import Derived.Test.YtohfefkjcnbejaaGreatDoorQFnExactNeedsx4
namespace Go.Proofs.YtohfefkjcnbejaaGreatDoor.QFnExactNeeds
open Go.RowKit Go.Proofs.YtohfefkjcnbejaaGreatDoorW.PrintWords Go.Proofs.YtohfefkjcnbejaaGreatDoorW.PrintLast Go.Proofs.YtohfefkjcnbejaaGreatDoorW.PrintMore Tryz
attribute [local go_sem] max2_int min2_int max_two min_two max_three min_three max_four min_four
set_option linter.unusedVariables false
set_option linter.unusedSimpArgs false
set_option maxHeartbeats 8000000
set_option maxRecDepth 100000
attribute [local go_sem] my_geq my_leq my_gtr
/-! ### laws_szByteS: function 62 -/
def laws_szByteS.f (l0 : List Int) (a1 : Int) : Option (Int) := if (wrap64 (a1 - (l0.length : Int))) < 0 then (some (-1)) else (some (wrap64 (a1 - (l0.length : Int))))
theorem laws_szByteS.calls (A0 : Option Addr) (c0 : Nat) (l0 : List Int) (a1 : Int) (r : Int) (w : World) (hr0 : Kd.C (Kd.int .u8) w A0 l0.length l0) (hc0 : l0.length ≤ c0) (h : laws_szByteS.f l0 a1 = some r) :
  Calls Tryz.prog 62 #[.slice A0 l0.length c0, .int .i64 a1] w fun e w' => e = .returned (.int .i64 r) ∧ Drawn0 w w' := by
 have HR0 := Aside0.mk hr0
 have HC0 := Aside0.mk hc0
 clear hr0 hc0
 have H := h
 unfold laws_szByteS.f at H
 clear h
 by_cases c3 : (wrap64 (a1 - (l0.length : Int))) < 0
 ·rw [if_pos c3] at H
  replace c3 := dt_ c3
  obtain rfl := si_ H
  go_enter func62, ntmps62
  go_wp2
  go_ret
  exact ⟨sp_, dr_⟩
 rw [if_neg c3] at H
 replace c3 := df_ c3
 obtain rfl := si_ H
 go_enter func62, ntmps62
 go_wp2
 go_ret
 exact ⟨sp_, dr_⟩
/-! ### laws_szIntS: function 63 -/
def laws_szIntS.f (l0 : List Int) (a1 : Int) : Option (Int) := if (wrap64 (a1 - (l0.length : Int))) < 0 then (some (-1)) else (some (wrap64 (a1 - (l0.length : Int))))
theorem laws_szIntS.calls (A0 : Option Addr) (c0 : Nat) (l0 : List Int) (a1 : Int) (r : Int) (w : World) (hr0 : Kd.C (Kd.int .i64) w A0 l0.length l0) (hc0 : l0.length ≤ c0) (h : laws_szIntS.f l0 a1 = some r) :
  Calls Tryz.prog 63 #[.slice A0 l0.length c0, .int .i64 a1] w fun e w' => e = .returned (.int .i64 r) ∧ Drawn0 w w' := by
 have HR0 := Aside0.mk hr0
 have HC0 := Aside0.mk hc0
 clear hr0 hc0
 have H := h
 unfold laws_szIntS.f at H
 clear h
 by_cases c3 : (wrap64 (a1 - (l0.length : Int))) < 0
 ·rw [if_pos c3] at H
  replace c3 := dt_ c3
  obtain rfl := si_ H
  go_enter func63, ntmps63
  go_wp2
  go_ret
  exact ⟨sp_, dr_⟩
 rw [if_neg c3] at H
 replace c3 := df_ c3
 obtain rfl := si_ H
 go_enter func63, ntmps63
 go_wp2
 go_ret
 exact ⟨sp_, dr_⟩
/-! ### laws_szTask: function 22 -/
def laws_szTask.f (l0_0 : List Int) (a0_1 : Int) (l0_2 : List Int) (a0_3 : Int) (a0_4 : Int) (a0_5 : Int) (a0_6 : Int) (a0_7 : Int) (l0_8 : List Int) (a1 : Int) : Option (Int) := (laws_szByteS.f l0_0 a1).bind fun t6 => (if t6 < 0 then (some (-1)) else ((laws_szIntS.f l0_2 t6).bind fun t10 => (if t10 < 0 then (some (-1)) else ((laws_szByteS.f l0_8 t10).bind fun t14 => (if t14 < 0 then (some (-1)) else (some t14))))))
theorem laws_szTask.calls (A0_0 : Option Addr) (c0_0 : Nat) (l0_0 : List Int) (a0_1 : Int) (A0_2 : Option Addr) (c0_2 : Nat) (l0_2 : List Int) (a0_3 : Int) (a0_4 : Int) (a0_5 : Int) (a0_6 : Int) (a0_7 : Int) (A0_8 : Option Addr) (c0_8 : Nat) (l0_8 : List Int) (a1 : Int) (r : Int) (w : World) (hr0_0 : Kd.C (Kd.int .u8) w A0_0 l0_0.length l0_0) (hc0_0 : l0_0.length ≤ c0_0) (hr0_2 : Kd.C (Kd.int .i64) w A0_2 l0_2.length l0_2) (hc0_2 : l0_2.length ≤ c0_2) (hr0_8 : Kd.C (Kd.int .u8) w A0_8 l0_8.length l0_8) (hc0_8 : l0_8.length ≤ c0_8) (h : laws_szTask.f l0_0 a0_1 l0_2 a0_3 a0_4 a0_5 a0_6 a0_7 l0_8 a1 = some r) :
  Calls Tryz.prog 22 #[.agg #[.slice A0_0 l0_0.length c0_0, .int .i64 a0_1, .slice A0_2 l0_2.length c0_2, .int .i64 a0_3, .int .i64 a0_4, .int .i64 a0_5, .int .i64 a0_6, .int .i64 a0_7, .slice A0_8 l0_8.length c0_8], .int .i64 a1] w fun e w' => e = .returned (.int .i64 r) ∧ Below w.heap.size w w' := by
 have hu48 := underlying48
 have HR0_0 := Aside0.mk hr0_0
 have HC0_0 := Aside0.mk hc0_0
 clear hr0_0 hc0_0
 have HR0_2 := Aside0.mk hr0_2
 have HC0_2 := Aside0.mk hc0_2
 clear hr0_2 hc0_2
 have HR0_8 := Aside0.mk hr0_8
 have HC0_8 := Aside0.mk hc0_8
 clear hr0_8 hc0_8
 have HB := Aside0.mk (Below.refl w.heap.size w)
 have H := h
 unfold laws_szTask.f at H
 clear h
 obtain ⟨t6, A3, H⟩ := ob_ H
 by_cases c4 : t6 < 0
 ·rw [if_pos c4] at H
  replace c4 := dt_ c4
  obtain rfl := si_ H
  go_enter func22, ntmps22
  go_wp2_with (first | ((with_reducible refine gt_ 2 ?_); refine bo_ 2 #[.slice A0_0 l0_0.length c0_0, .int .i64 a0_1, .slice A0_2 l0_2.length c0_2, .int .i64 a0_3, .int .i64 a0_4, .int .i64 a0_5, .int .i64 a0_6, .int .i64 a0_7, .slice A0_8 l0_8.length c0_8] 48 ?_; intro gb1 hg w5 BK1 hb; have GW1 := gw_ (w := w) hg; replace HB := hs_ hb; clear hb hg; refine by9_ BK1 ?_; intros) | ((with_reducible refine gd_ 62 8 func62 #[.slice A0_0 l0_0.length c0_0, .int .i64 a1] (laws_szByteS.calls _ _ l0_0 a1 t6 _ (cb_ HR0_0 HB) HC0_0.out A3.out) fun nd => ?_)))
  go_ret
  exact ⟨sq_, bl_⟩
 rw [if_neg c4] at H
 replace c4 := df_ c4
 obtain ⟨t10, A7, H⟩ := ob_ H
 by_cases c8 : t10 < 0
 ·rw [if_pos c8] at H
  replace c8 := dt_ c8
  obtain rfl := si_ H
  go_enter func22, ntmps22
  go_wp2_with (first | ((with_reducible refine gt_ 2 ?_); refine bo_ 2 #[.slice A0_0 l0_0.length c0_0, .int .i64 a0_1, .slice A0_2 l0_2.length c0_2, .int .i64 a0_3, .int .i64 a0_4, .int .i64 a0_5, .int .i64 a0_6, .int .i64 a0_7, .slice A0_8 l0_8.length c0_8] 48 ?_; intro gb1 hg w9 BK1 hb; have GW1 := gw_ (w := w) hg; replace HB := hs_ hb; clear hb hg; refine by9_ BK1 ?_; intros) | ((with_reducible refine gd_ 62 8 func62 #[.slice A0_0 l0_0.length c0_0, .int .i64 a1] (laws_szByteS.calls _ _ l0_0 a1 t6 _ (cb_ HR0_0 HB) HC0_0.out A3.out) fun nd => ?_)) | ((with_reducible refine gd_ 63 14 func63 #[.slice A0_2 l0_2.length c0_2, .int .i64 t6] (laws_szIntS.calls _ _ l0_2 t6 t10 _ (ca_ (Kd.C_below HR0_2.out bl_)) HC0_2.out A7.out) fun nd => ?_)))
  go_ret
  exact ⟨sq_, bl_⟩
 rw [if_neg c8] at H
 replace c8 := df_ c8
 obtain ⟨t14, A11, H⟩ := ob_ H
 by_cases c12 : t14 < 0
 ·rw [if_pos c12] at H
  replace c12 := dt_ c12
  obtain rfl := si_ H
  go_enter func22, ntmps22
  go_wp2_with (first | ((with_reducible refine gt_ 2 ?_); refine bo_ 2 #[.slice A0_0 l0_0.length c0_0, .int .i64 a0_1, .slice A0_2 l0_2.length c0_2, .int .i64 a0_3, .int .i64 a0_4, .int .i64 a0_5, .int .i64 a0_6, .int .i64 a0_7, .slice A0_8 l0_8.length c0_8] 48 ?_; intro gb1 hg w13 BK1 hb; have GW1 := gw_ (w := w) hg; replace HB := hs_ hb; clear hb hg; refine by9_ BK1 ?_; intros) | ((with_reducible refine gd_ 62 8 func62 #[.slice A0_0 l0_0.length c0_0, .int .i64 a1] (laws_szByteS.calls _ _ l0_0 a1 t6 _ (cb_ HR0_0 HB) HC0_0.out A3.out) fun nd => ?_)) | ((with_reducible refine gd_ 63 14 func63 #[.slice A0_2 l0_2.length c0_2, .int .i64 t6] (laws_szIntS.calls _ _ l0_2 t6 t10 _ (ca_ (Kd.C_below HR0_2.out bl_)) HC0_2.out A7.out) fun nd => ?_)) | ((with_reducible refine gd_ 62 20 func62 #[.slice A0_8 l0_8.length c0_8, .int .i64 t10] (laws_szByteS.calls _ _ l0_8 t10 t14 _ (ca_ (Kd.C_below HR0_8.out bl_)) HC0_8.out A11.out) fun nd => ?_)))
  go_ret
  exact ⟨sq_, bl_⟩
 rw [if_neg c12] at H
 replace c12 := df_ c12
 obtain rfl := si_ H
 go_enter func22, ntmps22
 go_wp2_with (first | ((with_reducible refine gt_ 2 ?_); refine bo_ 2 #[.slice A0_0 l0_0.length c0_0, .int .i64 a0_1, .slice A0_2 l0_2.length c0_2, .int .i64 a0_3, .int .i64 a0_4, .int .i64 a0_5, .int .i64 a0_6, .int .i64 a0_7, .slice A0_8 l0_8.length c0_8] 48 ?_; intro gb1 hg w15 BK1 hb; have GW1 := gw_ (w := w) hg; replace HB := hs_ hb; clear hb hg; refine by9_ BK1 ?_; intros) | ((with_reducible refine gd_ 62 8 func62 #[.slice A0_0 l0_0.length c0_0, .int .i64 a1] (laws_szByteS.calls _ _ l0_0 a1 t6 _ (cb_ HR0_0 HB) HC0_0.out A3.out) fun nd => ?_)) | ((with_reducible refine gd_ 63 14 func63 #[.slice A0_2 l0_2.length c0_2, .int .i64 t6] (laws_szIntS.calls _ _ l0_2 t6 t10 _ (ca_ (Kd.C_below HR0_2.out bl_)) HC0_2.out A7.out) fun nd => ?_)) | ((with_reducible refine gd_ 62 20 func62 #[.slice A0_8 l0_8.length c0_8, .int .i64 t10] (laws_szByteS.calls _ _ l0_8 t10 t14 _ (ca_ (Kd.C_below HR0_8.out bl_)) HC0_8.out A11.out) fun nd => ?_)))
 go_ret
 exact ⟨sq_, bl_⟩
/-! ### laws_toByteS: function 15 -/
def laws_toByteS.l0 : Nat → List Int → List Int → Int → Option (List Int)
 | 0, _, _, _ => none
 | k + 1, x0, x3, x4 => if x4 < (x0.length : Int) then (if 0 ≤ x4 then (if x4 < (x3.length : Int) then (laws_toByteS.l0 k x0 (x3.set (x4 : Int).toNat (rd x0 x4)) (wrap64 (x4 + 1))) else (none)) else (none)) else (some x3)
def laws_toByteS.f (k : Nat) (l0 : List Int) : Option (List Int) := if 0 ≤ (l0.length : Int) then (if ((l0.length : Int) : Int).toNat ≤ 281474976710656 then (laws_toByteS.l0 k l0 (List.replicate ((l0.length : Int) : Int).toNat 0) 0) else (none)) else (none)
theorem laws_toByteS.calls (k : Nat) (A0 : Option Addr) (c0 : Nat) (l0 : List Int) (r : List Int) (w : World) (hr0 : Kd.C (Kd.int .u8) w A0 l0.length l0) (hc0 : l0.length ≤ c0) (h : laws_toByteS.f k l0 = some r) :
  Calls Tryz.prog 15 #[.slice A0 l0.length c0] w fun e w' => ∃ v0_ : Value, e = .returned (v0_) ∧ Kd.R (Kd.int .u8) 5 w' w.heap.size (fun _ => True) v0_ r ∧ Below w.heap.size w w' := by
 have HR0 := Aside0.mk hr0
 have HC0 := Aside0.mk hc0
 clear hr0 hc0
 have HB := Aside0.mk (Below.refl w.heap.size w)
 have H := h
 unfold laws_toByteS.f at H
 clear h
 by_cases c2 : 0 ≤ (l0.length : Int)
 rotate_left
 ·rw [if_neg c2] at H
  exact absurd H (by simp)
 rw [if_pos c2] at H
 have := eq_true c2
 replace c2 := dt_ c2
 obtain ⟨c3, H⟩ := og_ H
 have := eq_true c3
 replace c3 := dt_ c3
 obtain ⟨y12, hy12⟩ : ∃ y_ : List Int, y_ = (List.replicate ((l0.length : Int) : Int).toNat 0) := ⟨_, rfl⟩
 replace H : (laws_toByteS.l0 k l0 y12 0) = some r := hh_ hy12 H
 have Ny12 := Aside0.mk hy12
 clear hy12
 have H' := Aside0.mk H
 clear H
 go_enter func15, ntmps15
 go_wp2_with (first | ((with_reducible refine gate_dst (N := 7) rfl ?_); refine Kd.R_make (Kd.int .u8) _ 5 rfl (N := 7) rfl 37 _ _ rfl (l0.length : Int) rfl rfl underlying37 (.int .u8 0) 1 info5 rfl (by decide) (by omega) 0 (ok := fun _ => True) (okp := fun _ => True) rfl (fun _ hk => hk) trivial od_ (Nat.le_trans (Nat.mul_le_mul_right _ (od_ : (l0.length : Int).toNat ≤ 281474976710656)) (by omega)) (Below.refl _ _) (Nat.le_refl _) ?_; intro v14 w4 ho5 hb hg_ hnew_; clear hg_ hnew_; (first | rw [← Ny12.out] at ho5 | (simp only [Int.reduceToNat] at ho5; rw [← Ny12.out] at ho5)); have HO15 := Aside0.mk (Kd.R_lower ho5 (below_size bl_)); replace HB := hs_ hb; clear hb ho5))
 go_loopg [4] k (fun kq v4 w' => ∃ (x3_1 : List Int) (x4_1 : Int), v4 = .int .i64 x4_1 ∧ Aside0 (laws_toByteS.l0 kq l0 x3_1 x4_1 = some r) ∧ Aside0 (kq ≤ k) ∧ Aside0 (Kd.R (Kd.int .u8) 5 w' w.heap.size (fun _ => True) v14 x3_1) ∧ Aside0 (Below w.heap.size w w'))
 case atStart => exact ⟨(y12), (0), sp_, H', ⟨Nat.le_refl _⟩, ⟨ra_ HO15⟩, ⟨bl_⟩⟩
 case round =>
  clear H'
  obtain ⟨x3_1, x4_1, rfl, HA, HK1, HO_3, HB⟩ := hrel
  cases gk with
  | zero => exact absurd HA.out (by simp [laws_toByteS.l0])
  | succ k1 =>
   have H := HA.out
   clear HA
   simp only [laws_toByteS.l0] at H
   by_cases c6 : x4_1 < (l0.length : Int)
   rotate_left
   ·rw [if_neg c6] at H
    replace c6 := df_ c6
    obtain rfl := si_ H
    go_wp2
    go_ret
    exact ⟨_, sq_, ra_ HO_3, bl_⟩
   rw [if_pos c6] at H
   replace c6 := dt_ c6
   obtain ⟨c7, H⟩ := og_ H
   replace c7 := dt_ c7
   obtain ⟨c8, H⟩ := og_ H
   replace c8 := dt_ c8
   obtain ⟨y13, hy13⟩ : ∃ y_ : List Int, y_ = (x3_1.set (x4_1 : Int).toNat (rd l0 x4_1)) := ⟨_, rfl⟩
   replace H : (laws_toByteS.l0 k1 l0 y13 (wrap64 (x4_1 + 1))) = some r := hh_ hy13 H
   have Ny13 := Aside0.mk hy13
   clear hy13
   have H' := Aside0.mk H
   clear H
   have p10 : 0 ≤ (x4_1 : Int) := od_
   have q10 : x4_1 < (l0.length : Int) := od_
   obtain ⟨ad10, e10, hx10_0⟩ := Kd.at_int HR0.out x4_1 p10 q10
   cases e10
   replace hx10_0 := kc_ HB hx10_0
   replace p10 := eq_true p10
   replace q10 := eq_true q10
   have p9 : 0 ≤ (x4_1 : Int) := od_
   have q9 : (x4_1 : Int) < ((x3_1.length : Int) : Int) := od_
   obtain ⟨go9, co9, eo9, gb9, gl9, cl9, HG9⟩ := Kd.R_form HO_3.out (by omega)
   (first | cases eo9 | (injection eo9 with ea_ en_ ec_; (first | subst ea_ | (injection ea_ with ea_; subst ea_)); subst ec_; clear en_))
   have GB9 := Aside0.mk gb9
   have GG9 := Aside0.mk HG9
   clear gb9 gl9 HG9
   obtain ⟨hx9_0, hf9_0⟩ := Kd.R_celln 0 HO_3.out (x4_1 : Int) p9 q9
   replace p9 := eq_true p9
   replace q9 := eq_true q9
   have HP10 := Kd.R_putg HO_3.out (x4_1 : Int) (rd l0 x4_1)
   go_wp2_with (first | ((with_reducible refine gate_store (t := 5) (p := 20) rfl ?_); refine store_event (t := 5) (p := 20) (v := ?vo_w11) (w1 := (wr.setCell ⟨go9, (x4_1 : Int).toNat, none⟩ (.int .u8 (rd l0 x4_1)))) ?hg ?ho ?hn ?hr ?_; (case ho => rfl); (case hg => rfl); (case hn => rfl); (case hr => first | (go_simp; done) | (go_simp; rfl)); intro w11 hw; have hg : wr.grownBy w11 (some go9) := (by rw [hw]; exact HP10.2); have hp_ : Kd.R (Kd.int .u8) 5 w11 w.heap.size (fun _ => True) (.slice (some ⟨go9, 0, none⟩) x3_1.length co9) y13 := (by rw [hw, Ny13.out]; exact HP10.1); clear HP10; replace HO_3 := Aside0.mk (hp_); replace HB := Aside0.mk ((by rw [hw]; exact below_set (HB.out) GB9.out : Below w.heap.size w w11)); clear hg hw hp_))
   go_roundg k1
   case measure => have := HK1.out; omega
   case rel => exact ⟨(y13), (wrap64 (x4_1 + 1)), sp_, H', ⟨by have := HK1.out; omega⟩, ⟨ra_ HO_3⟩, ⟨bl_⟩⟩
/-! ### laws_toIntS: function 65 -/
def laws_toIntS.l0 : Nat → List Int → List Int → Int → Option (List Int)
 | 0, _, _, _ => none
 | k + 1, x0, x3, x4 => if x4 < (x0.length : Int) then (if 0 ≤ x4 then (if x4 < (x3.length : Int) then (laws_toIntS.l0 k x0 (x3.set (x4 : Int).toNat (rd x0 x4)) (wrap64 (x4 + 1))) else (none)) else (none)) else (some x3)
def laws_toIntS.f (k : Nat) (l0 : List Int) : Option (List Int) := if 0 ≤ (l0.length : Int) then (if ((l0.length : Int) : Int).toNat ≤ 35184372088832 then (laws_toIntS.l0 k l0 (List.replicate ((l0.length : Int) : Int).toNat 0) 0) else (none)) else (none)
theorem laws_toIntS.calls (k : Nat) (A0 : Option Addr) (c0 : Nat) (l0 : List Int) (r : List Int) (w : World) (hr0 : Kd.C (Kd.int .i64) w A0 l0.length l0) (hc0 : l0.length ≤ c0) (h : laws_toIntS.f k l0 = some r) :
  Calls Tryz.prog 65 #[.slice A0 l0.length c0] w fun e w' => ∃ v0_ : Value, e = .returned (v0_) ∧ Kd.R (Kd.int .i64) 3 w' w.heap.size (fun _ => True) v0_ r ∧ Below w.heap.size w w' := by
 have HR0 := Aside0.mk hr0
 have HC0 := Aside0.mk hc0
 clear hr0 hc0
 have HB := Aside0.mk (Below.refl w.heap.size w)
 have H := h
 unfold laws_toIntS.f at H
 clear h
 by_cases c2 : 0 ≤ (l0.length : Int)
 rotate_left
 ·rw [if_neg c2] at H
  exact absurd H (by simp)
 rw [if_pos c2] at H
 have := eq_true c2
 replace c2 := dt_ c2
 obtain ⟨c3, H⟩ := og_ H
 have := eq_true c3
 replace c3 := dt_ c3
 obtain ⟨y12, hy12⟩ : ∃ y_ : List Int, y_ = (List.replicate ((l0.length : Int) : Int).toNat 0) := ⟨_, rfl⟩
 replace H : (laws_toIntS.l0 k l0 y12 0) = some r := hh_ hy12 H
 have Ny12 := Aside0.mk hy12
 clear hy12
 have H' := Aside0.mk H
 clear H
 go_enter func65, ntmps65
 go_wp2_with (first | ((with_reducible refine gate_dst (N := 7) rfl ?_); refine Kd.R_make (Kd.int .i64) _ 3 rfl (N := 7) rfl 46 _ _ rfl (l0.length : Int) rfl rfl underlying46 (.int .i64 0) 8 info3 rfl (by decide) (by omega) 0 (ok := fun _ => True) (okp := fun _ => True) rfl (fun _ hk => hk) trivial od_ (Nat.le_trans (Nat.mul_le_mul_right _ (od_ : (l0.length : Int).toNat ≤ 35184372088832)) (by omega)) (Below.refl _ _) (Nat.le_refl _) ?_; intro v14 w4 ho5 hb hg_ hnew_; clear hg_ hnew_; (first | rw [← Ny12.out] at ho5 | (simp only [Int.reduceToNat] at ho5; rw [← Ny12.out] at ho5)); have HO15 := Aside0.mk (Kd.R_lower ho5 (below_size bl_)); replace HB := hs_ hb; clear hb ho5))
 go_loopg [4] k (fun kq v4 w' => ∃ (x3_1 : List Int) (x4_1 : Int), v4 = .int .i64 x4_1 ∧ Aside0 (laws_toIntS.l0 kq l0 x3_1 x4_1 = some r) ∧ Aside0 (kq ≤ k) ∧ Aside0 (Kd.R (Kd.int .i64) 3 w' w.heap.size (fun _ => True) v14 x3_1) ∧ Aside0 (Below w.heap.size w w'))
 case atStart => exact ⟨(y12), (0), sp_, H', ⟨Nat.le_refl _⟩, ⟨ra_ HO15⟩, ⟨bl_⟩⟩
 case round =>
  clear H'
  obtain ⟨x3_1, x4_1, rfl, HA, HK1, HO_3, HB⟩ := hrel
  cases gk with
  | zero => exact absurd HA.out (by simp [laws_toIntS.l0])
  | succ k1 =>
   have H := HA.out
   clear HA
   simp only [laws_toIntS.l0] at H
   by_cases c6 : x4_1 < (l0.length : Int)
   rotate_left
   ·rw [if_neg c6] at H
    replace c6 := df_ c6
    obtain rfl := si_ H
    go_wp2
    go_ret
    exact ⟨_, sq_, ra_ HO_3, bl_⟩
   rw [if_pos c6] at H
   replace c6 := dt_ c6
   obtain ⟨c7, H⟩ := og_ H
   replace c7 := dt_ c7
   obtain ⟨c8, H⟩ := og_ H
   replace c8 := dt_ c8
   obtain ⟨y13, hy13⟩ : ∃ y_ : List Int, y_ = (x3_1.set (x4_1 : Int).toNat (rd l0 x4_1)) := ⟨_, rfl⟩
   replace H : (laws_toIntS.l0 k1 l0 y13 (wrap64 (x4_1 + 1))) = some r := hh_ hy13 H
   have Ny13 := Aside0.mk hy13
   clear hy13
   have H' := Aside0.mk H
   clear H
   have p10 : 0 ≤ (x4_1 : Int) := od_
   have q10 : x4_1 < (l0.length : Int) := od_
   obtain ⟨ad10, e10, hx10_0⟩ := Kd.at_int HR0.out x4_1 p10 q10
   cases e10
   replace hx10_0 := kc_ HB hx10_0
   replace p10 := eq_true p10
   replace q10 := eq_true q10
   have p9 : 0 ≤ (x4_1 : Int) := od_
   have q9 : (x4_1 : Int) < ((x3_1.length : Int) : Int) := od_
   obtain ⟨go9, co9, eo9, gb9, gl9, cl9, HG9⟩ := Kd.R_form HO_3.out (by omega)
   (first | cases eo9 | (injection eo9 with ea_ en_ ec_; (first | subst ea_ | (injection ea_ with ea_; subst ea_)); subst ec_; clear en_))
   have GB9 := Aside0.mk gb9
   have GG9 := Aside0.mk HG9
   clear gb9 gl9 HG9
   obtain ⟨hx9_0, hf9_0⟩ := Kd.R_celln 0 HO_3.out (x4_1 : Int) p9 q9
   replace p9 := eq_true p9
   replace q9 := eq_true q9
   have HP10 := Kd.R_putg HO_3.out (x4_1 : Int) (rd l0 x4_1)
   go_wp2_with (first | ((with_reducible refine gate_store (t := 3) (p := 20) rfl ?_); refine store_event (t := 3) (p := 20) (v := ?vo_w11) (w1 := (wr.setCell ⟨go9, (x4_1 : Int).toNat, none⟩ (.int .i64 (rd l0 x4_1)))) ?hg ?ho ?hn ?hr ?_; (case ho => rfl); (case hg => rfl); (case hn => rfl); (case hr => first | (go_simp; done) | (go_simp; rfl)); intro w11 hw; have hg : wr.grownBy w11 (some go9) := (by rw [hw]; exact HP10.2); have hp_ : Kd.R (Kd.int .i64) 3 w11 w.heap.size (fun _ => True) (.slice (some ⟨go9, 0, none⟩) x3_1.length co9) y13 := (by rw [hw, Ny13.out]; exact HP10.1); clear HP10; replace HO_3 := Aside0.mk (hp_); replace HB := Aside0.mk ((by rw [hw]; exact below_set (HB.out) GB9.out : Below w.heap.size w w11)); clear hg hw hp_))
   go_roundg k1
   case measure => have := HK1.out; omega
   case rel => exact ⟨(y13), (wrap64 (x4_1 + 1)), sp_, H', ⟨by have := HK1.out; omega⟩, ⟨ra_ HO_3⟩, ⟨bl_⟩⟩
/-! ### laws_toTask: function 24 -/
def laws_toTask.f (k : Nat) (l0_0 : List Int) (a0_1 : Int) (l0_2 : List Int) (a0_3 : Int) (a0_4 : Int) (a0_5 : Int) (a0_6 : Int) (a0_7 : Int) (l0_8 : List Int) : Option (List Int × Int × List Int × Int × Int × Int × Int × Int × List Int) := (laws_toByteS.f k l0_0).bind fun t14 => ((laws_toIntS.f k l0_2).bind fun t13 => ((laws_toByteS.f k l0_8).bind fun t15 => (some (t14, a0_1, t13, a0_3, a0_4, a0_5, a0_6, a0_7, t15))))
theorem laws_toTask.calls (k : Nat) (A0_0 : Option Addr) (c0_0 : Nat) (l0_0 : List Int) (a0_1 : Int) (A0_2 : Option Addr) (c0_2 : Nat) (l0_2 : List Int) (a0_3 : Int) (a0_4 : Int) (a0_5 : Int) (a0_6 : Int) (a0_7 : Int) (A0_8 : Option Addr) (c0_8 : Nat) (l0_8 : List Int) (r1 : List Int) (r2 : Int) (r3 : List Int) (r4 : Int) (r5 : Int) (r6 : Int) (r7 : Int) (r8 : Int) (r9 : List Int) (w : World) (hr0_0 : Kd.C (Kd.int .u8) w A0_0 l0_0.length l0_0) (hc0_0 : l0_0.length ≤ c0_0) (hr0_2 : Kd.C (Kd.int .i64) w A0_2 l0_2.length l0_2) (hc0_2 : l0_2.length ≤ c0_2) (hr0_8 : Kd.C (Kd.int .u8) w A0_8 l0_8.length l0_8) (hc0_8 : l0_8.length ≤ c0_8) (h : laws_toTask.f k l0_0 a0_1 l0_2 a0_3 a0_4 a0_5 a0_6 a0_7 l0_8 = some (r1, r2, r3, r4, r5, r6, r7, r8, r9)) :
  Calls Tryz.prog 24 #[.agg #[.slice A0_0 l0_0.length c0_0, .int .i64 a0_1, .slice A0_2 l0_2.length c0_2, .int .i64 a0_3, .int .i64 a0_4, .int .i64 a0_5, .int .i64 a0_6, .int .i64 a0_7, .slice A0_8 l0_8.length c0_8]] w fun e w' => ∃ v0_ v2_ v8_ : Value, e = .returned (.agg #[v0_, .int .i64 r2, v2_, .int .i64 r4, .int .i64 r5, .int .i64 r6, .int .i64 r7, .int .i64 r8, v8_]) ∧ Kd.R (Kd.int .u8) 5 w' w.heap.size (fun k_ => some k_ ≠ (v8_ : Value).ownBlock) v0_ r1 ∧ Kd.R (Kd.int .i64) 3 w' w.heap.size (fun _ => True) v2_ r3 ∧ Kd.R (Kd.int .u8) 5 w' w.heap.size (fun k_ => some k_ ≠ (v0_ : Value).ownBlock) v8_ r9 ∧ Below w.heap.size w w' := by
 have hu48 := underlying48
 have hu51 := underlying51
 have HR0_0 := Aside0.mk hr0_0
 have HC0_0 := Aside0.mk hc0_0
 clear hr0_0 hc0_0
 have HR0_2 := Aside0.mk hr0_2
 have HC0_2 := Aside0.mk hc0_2
 clear hr0_2 hc0_2
 have HR0_8 := Aside0.mk hr0_8
 have HC0_8 := Aside0.mk hc0_8
 clear hr0_8 hc0_8
 have HB := Aside0.mk (Below.refl w.heap.size w)
 have H := h
 unfold laws_toTask.f at H
 clear h
 obtain ⟨t14, A2, H⟩ := ob_ H
 obtain ⟨t13, A3, H⟩ := ob_ H
 obtain ⟨t15, A4, H⟩ := ob_ H
 simp only [Option.some.injEq, Prod.mk.injEq] at H
 obtain ⟨rfl, rfl, rfl, rfl, rfl, rfl, rfl, rfl, rfl⟩ := H
 go_enter func24, ntmps24
 go_wp2_with (first | ((with_reducible refine gt_ 1 ?_); refine bo_ 1 #[.slice A0_0 l0_0.length c0_0, .int .i64 a0_1, .slice A0_2 l0_2.length c0_2, .int .i64 a0_3, .int .i64 a0_4, .int .i64 a0_5, .int .i64 a0_6, .int .i64 a0_7, .slice A0_8 l0_8.length c0_8] 48 ?_; intro gb10 hg w5 BK10 hb; have GW10 := gw_ (w := w) hg; replace HB := hs_ hb; clear hb hg) | ((with_reducible refine gt_ 2 ?_); refine bo_ 2 #[.slice none 0 0, .int .i64 0, .slice none 0 0, .int .i64 0, .int .i64 0, .int .i64 0, .int .i64 0, .int .i64 0, .slice none 0 0] 51 ?_; intro gb9 hg w6 BK9 hb; have GW9 := gw_ (w := w) hg; replace HB := hs_ hb; have ⟨NB10_9, NB9_10⟩ := nb_ hg BK10; replace BK10 := kb_ BK10 hb; clear hb hg) | ((with_reducible refine gt_ 3 ?_); refine bo_ 3 #[.slice none 0 0, .int .i64 0, .slice none 0 0, .int .i64 0, .int .i64 0, .int .i64 0, .int .i64 0, .int .i64 0, .slice none 0 0] 51 ?_; intro gb1 hg w7 BK1 hb; have GW1 := gw_ (w := w) hg; replace HB := hs_ hb; have ⟨NB10_1, NB1_10⟩ := nb_ hg BK10; replace BK10 := kb_ BK10 hb; have ⟨NB9_1, NB1_9⟩ := nb_ hg BK9; replace BK9 := kb_ BK9 hb; clear hb hg; have := NB10_9.out; have := NB9_10.out; have := NB10_1.out; have := NB1_10.out; refine by9_ BK10 ?_; intros) | ((with_reducible refine gc_ 15 6 func15 #[.slice A0_0 l0_0.length c0_0] ?_); (with_reducible refine (laws_toByteS.calls k _ _ l0_0 t14 _ (cb_ HR0_0 HB) HC0_0.out A2.out).mono ?_); rintro e w11 ⟨v23, rfl, ho0, hb⟩; refine ⟨_, rfl, ?_⟩; have HO18 := Aside0.mk (Kd.R_lower ho0 (below_size bl_)); replace BK10 := kb_ BK10 hb; replace BK9 := kb_ BK9 hb; replace BK1 := kb_ BK1 hb; replace HB := hs_ hb; clear hb; (try clear ho0); obtain ⟨Ao12, co12, eo12⟩ := Kd.R_slice HO18.out; subst eo12; have := NB1_9.out; have := NB9_1.out; refine by9_ BK1 ?_; intros; refine by9_ BK10 ?_; intros) | ((with_reducible refine gc_ 65 13 func65 #[.slice A0_2 l0_2.length c0_2] ?_); (with_reducible refine (laws_toIntS.calls k _ _ l0_2 t13 _ (Kd.C_below HR0_2.out bl_) HC0_2.out A3.out).mono ?_); rintro e w16 ⟨v24, rfl, ho0, hb⟩; refine ⟨_, rfl, ?_⟩; replace HO18 := Aside0.mk (Kd.R_below (by refine cr_ ?_; exact (Kd.R_mono (rf_ gb1 1 (rf_ gb1 0 (Kd.R_types HO18.out BK1.out (by decide)) (.slice Ao12 t14.length co12)) (.int .i64 a0_1)) (fun _ h_ => h_.1))) hb); have HO19 := Aside0.mk (Kd.R_lower ho0 (below_size bl_)); replace BK10 := Aside0.mk (blk_below (g := gb10) (o := .cells #[.slice A0_0 l0_0.length c0_0, .int .i64 a0_1, .slice A0_2 l0_2.length c0_2, .int .i64 a0_3, .int .i64 a0_4, .int .i64 a0_5, .int .i64 a0_6, .int .i64 a0_7, .slice A0_8 l0_8.length c0_8] 48 (0, 0)) (by refine ch_ ?_; refine bf_ NB10_1 ?_; exact bf_ NB10_1 BK10.out) hb); replace BK9 := Aside0.mk (blk_below (g := gb9) (o := .cells #[.slice none 0 0, .int .i64 0, .slice none 0 0, .int .i64 0, .int .i64 0, .int .i64 0, .int .i64 0, .int .i64 0, .slice none 0 0] 51 (0, 0)) (by refine ch_ ?_; refine bf_ NB9_1 ?_; exact bf_ NB9_1 BK9.out) hb); replace BK1 := Aside0.mk (blk_below (g := gb1) (o := .cells #[.slice Ao12 t14.length co12, .int .i64 a0_1, .slice none 0 0, .int .i64 0, .int .i64 0, .int .i64 0, .int .i64 0, .int .i64 0, .slice none 0 0] 51 (0, 0)) (by refine ch_ ?_; apply bq9_1_0_; exact ch_ BK1.out) hb); replace HB := hs_ hb; clear hb; (try clear ho0); obtain ⟨Ao17, co17, eo17⟩ := Kd.R_slice HO19.out; subst eo17; refine by9_ BK1 ?_; intros; refine by9_ BK10 ?_; intros) | ((with_reducible refine gc_ 15 32 func15 #[.slice A0_8 l0_8.length c0_8] ?_); (with_reducible refine (laws_toByteS.calls k _ _ l0_8 t15 _ (Kd.C_below HR0_8.out bl_) HC0_8.out A4.out).mono ?_); rintro e w20 ⟨v25, rfl, ho0, hb⟩; refine ⟨_, rfl, ?_⟩; replace HO19 := Aside0.mk (Kd.R_below (by refine cr_ ?_; exact (Kd.R_mono (rf_ gb1 7 (rf_ gb1 6 (rf_ gb1 5 (rf_ gb1 4 (rf_ gb1 3 (rf_ gb1 2 (Kd.R_types HO19.out BK1.out (by decide)) (.slice Ao17 t13.length co17)) (.int .i64 a0_3)) (.int .i64 a0_4)) (.int .i64 a0_5)) (.int .i64 a0_6)) (.int .i64 a0_7)) (fun _ h_ => h_.1))) hb); have HO22 := Aside0.mk (Kd.R_lower (Kd.R_new' ho0 (Kd.R_lt (by refine cr_ ?_; exact (Kd.R_mono (rf_ gb1 7 (rf_ gb1 6 (rf_ gb1 5 (rf_ gb1 4 (rf_ gb1 3 (rf_ gb1 2 (Kd.R_types HO18.out BK1.out (by decide)) (.slice Ao17 t13.length co17)) (.int .i64 a0_3)) (.int .i64 a0_4)) (.int .i64 a0_5)) (.int .i64 a0_6)) (.int .i64 a0_7)) (fun _ h_ => h_.1))))) (below_size bl_)); replace HO18 := Aside0.mk (Kd.R_elder' (by refine cr_ ?_; exact (Kd.R_mono (rf_ gb1 7 (rf_ gb1 6 (rf_ gb1 5 (rf_ gb1 4 (rf_ gb1 3 (rf_ gb1 2 (Kd.R_types HO18.out BK1.out (by decide)) (.slice Ao17 t13.length co17)) (.int .i64 a0_3)) (.int .i64 a0_4)) (.int .i64 a0_5)) (.int .i64 a0_6)) (.int .i64 a0_7)) (fun _ h_ => h_.1))) (Kd.R_base ho0) hb); replace BK10 := Aside0.mk (blk_below (g := gb10) (o := .cells #[.slice A0_0 l0_0.length c0_0, .int .i64 a0_1, .slice A0_2 l0_2.length c0_2, .int .i64 a0_3, .int .i64 a0_4, .int .i64 a0_5, .int .i64 a0_6, .int .i64 a0_7, .slice A0_8 l0_8.length c0_8] 48 (0, 0)) (by refine ch_ ?_; refine bf_ NB10_1 ?_; refine bf_ NB10_1 ?_; refine bf_ NB10_1 ?_; refine bf_ NB10_1 ?_; refine bf_ NB10_1 ?_; exact bf_ NB10_1 BK10.out) hb); replace BK9 := Aside0.mk (blk_below (g := gb9) (o := .cells #[.slice none 0 0, .int .i64 0, .slice none 0 0, .int .i64 0, .int .i64 0, .int .i64 0, .int .i64 0, .int .i64 0, .slice none 0 0] 51 (0, 0)) (by refine ch_ ?_; refine bf_ NB9_1 ?_; refine bf_ NB9_1 ?_; refine bf_ NB9_1 ?_; refine bf_ NB9_1 ?_; refine bf_ NB9_1 ?_; exact bf_ NB9_1 BK9.out) hb); replace BK1 := Aside0.mk (blk_below (g := gb1) (o := .cells #[.slice Ao12 t14.length co12, .int .i64 a0_1, .slice Ao17 t13.length co17, .int .i64 a0_3, .int .i64 a0_4, .int .i64 a0_5, .int .i64 a0_6, .int .i64 a0_7, .slice none 0 0] 51 (0, 0)) (by refine ch_ ?_; apply bq9_7_6_5_4_3_2_; exact ch_ BK1.out) hb); replace HB := hs_ hb; clear hb; (try clear ho0); obtain ⟨Ao21, co21, eo21⟩ := Kd.R_slice HO22.out; subst eo21; refine by9_ BK1 ?_; intros; refine by9_ BK9 ?_; intros))
 refine bodyPost_ret (results_cell_row rfl _ _ gb9 51 #[.slice Ao12 t14.length co12, .int .i64 a0_1, .slice Ao17 t13.length co17, .int .i64 a0_3, .int .i64 a0_4, .int .i64 a0_5, .int .i64 a0_6, .int .i64 a0_7, .slice Ao21 t15.length co21] (0, 0) _ rfl (by refine ch_ ?_; apply bq9_8_7_6_5_4_3_2_1_0_; refine ch_ ?_; exact bf_ NB9_1 BK9.out) underlying51 rfl (by kernel_rfl)) rfl ?_
 exact ⟨_, _, _, sq_, by refine cr_ ?_; exact Kd.R_mono (rf_ gb9 8 (rf_ gb9 7 (rf_ gb9 6 (rf_ gb9 5 (rf_ gb9 4 (rf_ gb9 3 (rf_ gb9 2 (rf_ gb9 1 (rf_ gb9 0 (Kd.R_far (p := ⟨gb1, 8, none⟩) (Kd.R_types (Kd.R_types HO18.out BK1.out (by decide)) BK9.out (by decide)) (fun _ hk => hk.1.2) (.slice Ao21 t15.length co21)) (.slice Ao12 t14.length co12)) (.int .i64 a0_1)) (.slice Ao17 t13.length co17)) (.int .i64 a0_3)) (.int .i64 a0_4)) (.int .i64 a0_5)) (.int .i64 a0_6)) (.int .i64 a0_7)) (.slice Ao21 t15.length co21)) (fun _ hk => hk.1.1.2), by refine cr_ ?_; exact Kd.R_mono (rf_ gb9 8 (rf_ gb9 7 (rf_ gb9 6 (rf_ gb9 5 (rf_ gb9 4 (rf_ gb9 3 (rf_ gb9 2 (rf_ gb9 1 (rf_ gb9 0 (Kd.R_far (p := ⟨gb1, 8, none⟩) (Kd.R_types (Kd.R_types HO19.out BK1.out (by decide)) BK9.out (by decide)) (fun _ hk => hk.1.2) (.slice Ao21 t15.length co21)) (.slice Ao12 t14.length co12)) (.int .i64 a0_1)) (.slice Ao17 t13.length co17)) (.int .i64 a0_3)) (.int .i64 a0_4)) (.int .i64 a0_5)) (.int .i64 a0_6)) (.int .i64 a0_7)) (.slice Ao21 t15.length co21)) (fun _ hk => trivial), by refine cr_ ?_; exact Kd.R_mono (rf_ gb9 8 (rf_ gb9 7 (rf_ gb9 6 (rf_ gb9 5 (rf_ gb9 4 (rf_ gb9 3 (rf_ gb9 2 (rf_ gb9 1 (rf_ gb9 0 (Kd.R_far (p := ⟨gb1, 8, none⟩) (Kd.R_types (Kd.R_types HO22.out BK1.out (by decide)) BK9.out (by decide)) (fun _ hk => hk.1.2) (.slice Ao21 t15.length co21)) (.slice Ao12 t14.length co12)) (.int .i64 a0_1)) (.slice Ao17 t13.length co17)) (.int .i64 a0_3)) (.int .i64 a0_4)) (.int .i64 a0_5)) (.int .i64 a0_6)) (.int .i64 a0_7)) (.slice Ao21 t15.length co21)) (fun _ hk => hk.1.1.2), bl_⟩
/-! ### laws_eqIntS: function 26 -/
def laws_eqIntS.l0 : Nat → List Int → List Int → Int → Option (Bool)
 | 0, _, _, _ => none
 | k + 1, x0, x1, x5 => if x5 < (x0.length : Int) then (if 0 ≤ x5 then (if x5 < (x1.length : Int) then (if (rd x0 x5) = (rd x1 x5) then (laws_eqIntS.l0 k x0 x1 (wrap64 (x5 + 1))) else (some false)) else (none)) else (none)) else (some true)
def laws_eqIntS.f (k : Nat) (l0 : List Int) (l1 : List Int) : Option (Bool) := if (l0.length : Int) = (l1.length : Int) then (laws_eqIntS.l0 k l0 l1 0) else (some false)
theorem laws_eqIntS.calls (k : Nat) (A0 : Option Addr) (c0 : Nat) (l0 : List Int) (A1 : Option Addr) (c1 : Nat) (l1 : List Int) (r : Bool) (w : World) (hr0 : Kd.C (Kd.int .i64) w A0 l0.length l0) (hc0 : l0.length ≤ c0) (hr1 : Kd.C (Kd.int .i64) w A1 l1.length l1) (hc1 : l1.length ≤ c1) (h : laws_eqIntS.f k l0 l1 = some r) :
  Calls Tryz.prog 26 #[.slice A0 l0.length c0, .slice A1 l1.length c1] w fun e w' => e = .returned (.bool r) ∧ Drawn0 w w' := by
 have HR0 := Aside0.mk hr0
 have HC0 := Aside0.mk hc0
 clear hr0 hc0
 have HR1 := Aside0.mk hr1
 have HC1 := Aside0.mk hc1
 clear hr1 hc1
 have H := h
 unfold laws_eqIntS.f at H
 clear h
 by_cases c3 : (l0.length : Int) = (l1.length : Int)
 rotate_left
 ·rw [if_neg c3] at H
  have c3b0 := ef_ c3
  have c3b1 := nt_ c3
  have c3b2 : (l0.length == l1.length) = false := by first | simpa using c3 | (simp at c3 ⊢; omega)
  obtain rfl := si_ H
  go_enter func26, ntmps26
  go_wp2
  repeat (go_quiet (fail); try go_wp2)
  go_ret
  exact ⟨sp_, dr_⟩
 rw [if_pos c3] at H
 have c3b0 := et_ c3
 have c3b1 := nf_ c3
 have c3b2 : (l0.length == l1.length) = true := by first | simpa using c3 | (simp at c3 ⊢; omega)
 clear c3
 have H' := Aside0.mk H
 clear H
 go_enter func26, ntmps26
 go_wp2
 repeat (go_quiet (fail); try go_wp2)
 go_loopg [5] k (fun kq v5 w' => ∃ (x5_1 : Int), v5 = .int .i64 x5_1 ∧ Aside0 (laws_eqIntS.l0 kq l0 l1 x5_1 = some r) ∧ Aside0 (kq ≤ k) ∧ Drawn0 w w')
 case atStart => exact ⟨(0), sp_, H', ⟨Nat.le_refl _⟩, dr_⟩
 case round =>
  clear H'
  obtain ⟨x5_1, rfl, HA, HK1, ⟨m1, rfl⟩⟩ := hrel
  cases gk with
  | zero => exact absurd HA.out (by simp [laws_eqIntS.l0])
  | succ k1 =>
   have H := HA.out
   clear HA
   simp only [laws_eqIntS.l0] at H
   by_cases c4 : x5_1 < (l0.length : Int)
   rotate_left
   ·rw [if_neg c4] at H
    replace c4 := df_ c4
    obtain rfl := si_ H
    go_wp2
    repeat (go_quiet (fail); try go_wp2)
    go_ret
    exact ⟨sp_, dr_⟩
   rw [if_pos c4] at H
   replace c4 := dt_ c4
   obtain ⟨c5, H⟩ := og_ H
   replace c5 := dt_ c5
   obtain ⟨c6, H⟩ := og_ H
   replace c6 := dt_ c6
   by_cases c7 : (rd l0 x5_1) = (rd l1 x5_1)
   ·rw [if_pos c7] at H
    have := et_ c7
    replace c7 := nf_ c7
    have H' := Aside0.mk H
    clear H
    have p2 : 0 ≤ (x5_1 : Int) := od_
    have q2 : x5_1 < (l0.length : Int) := od_
    obtain ⟨ad2, e2, hx2_0⟩ := Kd.at_int HR0.out x5_1 p2 q2
    cases e2
    replace p2 := eq_true p2
    replace q2 := eq_true q2
    have p8 : 0 ≤ (x5_1 : Int) := od_
    have q8 : x5_1 < (l1.length : Int) := od_
    obtain ⟨ad8, e8, hx8_0⟩ := Kd.at_int HR1.out x5_1 p8 q8
    cases e8
    replace p8 := eq_true p8
    replace q8 := eq_true q8
    go_wp2
    repeat (go_quiet (fail); try go_wp2)
    go_roundg k1
    case measure => have := HK1.out; omega
    case rel => exact ⟨(wrap64 (x5_1 + 1)), sp_, H', ⟨by have := HK1.out; omega⟩, dr_⟩
   ·rw [if_neg c7] at H
    have c7b0 := ef_ c7
    have c7b1 := nt_ c7
    obtain rfl := si_ H
    have p2 : 0 ≤ (x5_1 : Int) := od_
    have q2 : x5_1 < (l0.length : Int) := od_
    obtain ⟨ad2, e2, hx2_0⟩ := Kd.at_int HR0.out x5_1 p2 q2
    cases e2
    replace p2 := eq_true p2
    replace q2 := eq_true q2
    have p8 : 0 ≤ (x5_1 : Int) := od_
    have q8 : x5_1 < (l1.length : Int) := od_
    obtain ⟨ad8, e8, hx8_0⟩ := Kd.at_int HR1.out x5_1 p8 q8
    cases e8
    replace p8 := eq_true p8
    replace q8 := eq_true q8
    go_wp2
    repeat (go_quiet (fail); try go_wp2)
    go_ret
    exact ⟨sp_, dr_⟩
/-! ### laws_eqByteS: function 18 -/
def laws_eqByteS.l0 : Nat → List Int → List Int → Int → Option (Bool)
 | 0, _, _, _ => none
 | k + 1, x0, x1, x5 => if x5 < (x0.length : Int) then (if 0 ≤ x5 then (if x5 < (x1.length : Int) then (if (rd x0 x5) = (rd x1 x5) then (laws_eqByteS.l0 k x0 x1 (wrap64 (x5 + 1))) else (some false)) else (none)) else (none)) else (some true)
def laws_eqByteS.f (k : Nat) (l0 : List Int) (l1 : List Int) : Option (Bool) := if (l0.length : Int) = (l1.length : Int) then (laws_eqByteS.l0 k l0 l1 0) else (some false)
theorem laws_eqByteS.calls (k : Nat) (A0 : Option Addr) (c0 : Nat) (l0 : List Int) (A1 : Option Addr) (c1 : Nat) (l1 : List Int) (r : Bool) (w : World) (hr0 : Kd.C (Kd.int .u8) w A0 l0.length l0) (hc0 : l0.length ≤ c0) (hr1 : Kd.C (Kd.int .u8) w A1 l1.length l1) (hc1 : l1.length ≤ c1) (h : laws_eqByteS.f k l0 l1 = some r) :
  Calls Tryz.prog 18 #[.slice A0 l0.length c0, .slice A1 l1.length c1] w fun e w' => e = .returned (.bool r) ∧ Drawn0 w w' := by
 have HR0 := Aside0.mk hr0
 have HC0 := Aside0.mk hc0
 clear hr0 hc0
 have HR1 := Aside0.mk hr1
 have HC1 := Aside0.mk hc1
 clear hr1 hc1
 have H := h
 unfold laws_eqByteS.f at H
 clear h
 by_cases c3 : (l0.length : Int) = (l1.length : Int)
 rotate_left
 ·rw [if_neg c3] at H
  have c3b0 := ef_ c3
  have c3b1 := nt_ c3
  have c3b2 : (l0.length == l1.length) = false := by first | simpa using c3 | (simp at c3 ⊢; omega)
  obtain rfl := si_ H
  go_enter func18, ntmps18
  go_wp2
  repeat (go_quiet (fail); try go_wp2)
  go_ret
  exact ⟨sp_, dr_⟩
 rw [if_pos c3] at H
 have c3b0 := et_ c3
 have c3b1 := nf_ c3
 have c3b2 : (l0.length == l1.length) = true := by first | simpa using c3 | (simp at c3 ⊢; omega)
 clear c3
 have H' := Aside0.mk H
 clear H
 go_enter func18, ntmps18
 go_wp2
 repeat (go_quiet (fail); try go_wp2)
 go_loopg [5] k (fun kq v5 w' => ∃ (x5_1 : Int), v5 = .int .i64 x5_1 ∧ Aside0 (laws_eqByteS.l0 kq l0 l1 x5_1 = some r) ∧ Aside0 (kq ≤ k) ∧ Drawn0 w w')
 case atStart => exact ⟨(0), sp_, H', ⟨Nat.le_refl _⟩, dr_⟩
 case round =>
  clear H'
  obtain ⟨x5_1, rfl, HA, HK1, ⟨m1, rfl⟩⟩ := hrel
  cases gk with
  | zero => exact absurd HA.out (by simp [laws_eqByteS.l0])
  | succ k1 =>
   have H := HA.out
   clear HA
   simp only [laws_eqByteS.l0] at H
   by_cases c4 : x5_1 < (l0.length : Int)
   rotate_left
   ·rw [if_neg c4] at H
    replace c4 := df_ c4
    obtain rfl := si_ H
    go_wp2
    repeat (go_quiet (fail); try go_wp2)
    go_ret
    exact ⟨sp_, dr_⟩
   rw [if_pos c4] at H
   replace c4 := dt_ c4
   obtain ⟨c5, H⟩ := og_ H
   replace c5 := dt_ c5
   obtain ⟨c6, H⟩ := og_ H
   replace c6 := dt_ c6
   by_cases c7 : (rd l0 x5_1) = (rd l1 x5_1)
   ·rw [if_pos c7] at H
    have := et_ c7
    replace c7 := nf_ c7
    have H' := Aside0.mk H
    clear H
    have p2 : 0 ≤ (x5_1 : Int) := od_
    have q2 : x5_1 < (l0.length : Int) := od_
    obtain ⟨ad2, e2, hx2_0⟩ := Kd.at_int HR0.out x5_1 p2 q2
    cases e2
    replace p2 := eq_true p2
    replace q2 := eq_true q2
    have p8 : 0 ≤ (x5_1 : Int) := od_
    have q8 : x5_1 < (l1.length : Int) := od_
    obtain ⟨ad8, e8, hx8_0⟩ := Kd.at_int HR1.out x5_1 p8 q8
    cases e8
    replace p8 := eq_true p8
    replace q8 := eq_true q8
    go_wp2
    repeat (go_quiet (fail); try go_wp2)
    go_roundg k1
    case measure => have := HK1.out; omega
    case rel => exact ⟨(wrap64 (x5_1 + 1)), sp_, H', ⟨by have := HK1.out; omega⟩, dr_⟩
   ·rw [if_neg c7] at H
    have c7b0 := ef_ c7
    have c7b1 := nt_ c7
    obtain rfl := si_ H
    have p2 : 0 ≤ (x5_1 : Int) := od_
    have q2 : x5_1 < (l0.length : Int) := od_
    obtain ⟨ad2, e2, hx2_0⟩ := Kd.at_int HR0.out x5_1 p2 q2
    cases e2
    replace p2 := eq_true p2
    replace q2 := eq_true q2
    have p8 : 0 ≤ (x5_1 : Int) := od_
    have q8 : x5_1 < (l1.length : Int) := od_
    obtain ⟨ad8, e8, hx8_0⟩ := Kd.at_int HR1.out x5_1 p8 q8
    cases e8
    replace p8 := eq_true p8
    replace q8 := eq_true q8
    go_wp2
    repeat (go_quiet (fail); try go_wp2)
    go_ret
    exact ⟨sp_, dr_⟩
/-! ### laws_eqTask: function 27 -/
def laws_eqTask.f (k : Nat) (l0_0 : List Int) (a0_1 : Int) (l0_2 : List Int) (a0_3 : Int) (a0_4 : Int) (a0_5 : Int) (a0_6 : Int) (a0_7 : Int) (l0_8 : List Int) (l1_0 : List Int) (a1_1 : Int) (l1_2 : List Int) (a1_3 : Int) (a1_4 : Int) (a1_5 : Int) (a1_6 : Int) (a1_7 : Int) (l1_8 : List Int) : Option (Bool) := (laws_eqByteS.f k l0_0 l1_0).bind fun t19 => (if t19 = true then (if a0_1 = a1_1 then ((laws_eqIntS.f k l0_2 l1_2).bind fun t22 => (if t22 = true then (if a0_3 = a1_3 then (if a0_4 = a1_4 then (if a0_5 = a1_5 then (if a0_6 = a1_6 then (if a0_7 = a1_7 then ((laws_eqByteS.f k l0_8 l1_8).bind fun t23 => (if t23 = true then (some true) else (some false))) else (some false)) else (some false)) else (some false)) else (some false)) else (some false)) else (some false))) else (some false)) else (some false))
theorem laws_eqTask.calls (k : Nat) (A0_0 : Option Addr) (c0_0 : Nat) (l0_0 : List Int) (a0_1 : Int) (A0_2 : Option Addr) (c0_2 : Nat) (l0_2 : List Int) (a0_3 : Int) (a0_4 : Int) (a0_5 : Int) (a0_6 : Int) (a0_7 : Int) (A0_8 : Option Addr) (c0_8 : Nat) (l0_8 : List Int) (A1_0 : Option Addr) (c1_0 : Nat) (l1_0 : List Int) (a1_1 : Int) (A1_2 : Option Addr) (c1_2 : Nat) (l1_2 : List Int) (a1_3 : Int) (a1_4 : Int) (a1_5 : Int) (a1_6 : Int) (a1_7 : Int) (A1_8 : Option Addr) (c1_8 : Nat) (l1_8 : List Int) (r : Bool) (w : World) (hr0_0 : Kd.C (Kd.int .u8) w A0_0 l0_0.length l0_0) (hc0_0 : l0_0.length ≤ c0_0) (hr0_2 : Kd.C (Kd.int .i64) w A0_2 l0_2.length l0_2) (hc0_2 : l0_2.length ≤ c0_2) (hr0_8 : Kd.C (Kd.int .u8) w A0_8 l0_8.length l0_8) (hc0_8 : l0_8.length ≤ c0_8) (hr1_0 : Kd.C (Kd.int .u8) w A1_0 l1_0.length l1_0) (hc1_0 : l1_0.length ≤ c1_0) (hr1_2 : Kd.C (Kd.int .i64) w A1_2 l1_2.length l1_2) (hc1_2 : l1_2.length ≤ c1_2) (hr1_8 : Kd.C (Kd.int .u8) w A1_8 l1_8.length l1_8) (hc1_8 : l1_8.length ≤ c1_8) (h : laws_eqTask.f k l0_0 a0_1 l0_2 a0_3 a0_4 a0_5 a0_6 a0_7 l0_8 l1_0 a1_1 l1_2 a1_3 a1_4 a1_5 a1_6 a1_7 l1_8 = some r) :
  Calls Tryz.prog 27 #[.agg #[.slice A0_0 l0_0.length c0_0, .int .i64 a0_1, .slice A0_2 l0_2.length c0_2, .int .i64 a0_3, .int .i64 a0_4, .int .i64 a0_5, .int .i64 a0_6, .int .i64 a0_7, .slice A0_8 l0_8.length c0_8], .agg #[.slice A1_0 l1_0.length c1_0, .int .i64 a1_1, .slice A1_2 l1_2.length c1_2, .int .i64 a1_3, .int .i64 a1_4, .int .i64 a1_5, .int .i64 a1_6, .int .i64 a1_7, .slice A1_8 l1_8.length c1_8]] w fun e w' => e = .returned (.bool r) ∧ Below w.heap.size w w' := by
 have hu51 := underlying51
 have HR0_0 := Aside0.mk hr0_0
 have HC0_0 := Aside0.mk hc0_0
 clear hr0_0 hc0_0
 have HR0_2 := Aside0.mk hr0_2
 have HC0_2 := Aside0.mk hc0_2
 clear hr0_2 hc0_2
 have HR0_8 := Aside0.mk hr0_8
 have HC0_8 := Aside0.mk hc0_8
 clear hr0_8 hc0_8
 have HR1_0 := Aside0.mk hr1_0
 have HC1_0 := Aside0.mk hc1_0
 clear hr1_0 hc1_0
 have HR1_2 := Aside0.mk hr1_2
 have HC1_2 := Aside0.mk hc1_2
 clear hr1_2 hc1_2
 have HR1_8 := Aside0.mk hr1_8
 have HC1_8 := Aside0.mk hc1_8
 clear hr1_8 hc1_8
 have HB := Aside0.mk (Below.refl w.heap.size w)
 have H := h
 unfold laws_eqTask.f at H
 clear h
 obtain ⟨t19, A3, H⟩ := ob_ H
 by_cases c4 : t19 = true
 rotate_left
 ·replace c4 := gf_ c4
  subst c4
  replace H := in_ H
  obtain rfl := si_ H
  go_enter func27, ntmps27
  go_wp2_with (first | ((with_reducible refine gt_ 2 ?_); refine bo_ 2 #[.slice A0_0 l0_0.length c0_0, .int .i64 a0_1, .slice A0_2 l0_2.length c0_2, .int .i64 a0_3, .int .i64 a0_4, .int .i64 a0_5, .int .i64 a0_6, .int .i64 a0_7, .slice A0_8 l0_8.length c0_8] 51 ?_; intro gb17 hg w60 BK17 hb; have GW17 := gw_ (w := w) hg; replace HB := hs_ hb; clear hb hg) | ((with_reducible refine gt_ 3 ?_); refine bo_ 3 #[.slice A1_0 l1_0.length c1_0, .int .i64 a1_1, .slice A1_2 l1_2.length c1_2, .int .i64 a1_3, .int .i64 a1_4, .int .i64 a1_5, .int .i64 a1_6, .int .i64 a1_7, .slice A1_8 l1_8.length c1_8] 51 ?_; intro gb18 hg w61 BK18 hb; have GW18 := gw_ (w := w) hg; replace HB := hs_ hb; have ⟨NB17_18, NB18_17⟩ := nb_ hg BK17; replace BK17 := kb_ BK17 hb; clear hb hg; have := NB17_18.out; have := NB18_17.out; refine by9_ BK17 ?_; intros; refine by9_ BK18 ?_; intros) | ((with_reducible refine gd_ 18 9 func18 #[.slice A0_0 l0_0.length c0_0, .slice A1_0 l1_0.length c1_0] (laws_eqByteS.calls k _ _ l0_0 _ _ l1_0 false _ (cb_ HR0_0 HB) HC0_0.out (cb_ HR1_0 HB) HC1_0.out A3.out) fun nd => ?_)))
  go_ret
  exact ⟨sq_, bl_⟩
 subst c4
 replace H := ip_ H
 by_cases c5 : a0_1 = a1_1
 rotate_left
 ·rw [if_neg c5] at H
  have c5b0 := ef_ c5
  have c5b1 := nt_ c5
  obtain rfl := si_ H
  go_enter func27, ntmps27
  go_wp2_with (first | ((with_reducible refine gt_ 2 ?_); refine bo_ 2 #[.slice A0_0 l0_0.length c0_0, .int .i64 a0_1, .slice A0_2 l0_2.length c0_2, .int .i64 a0_3, .int .i64 a0_4, .int .i64 a0_5, .int .i64 a0_6, .int .i64 a0_7, .slice A0_8 l0_8.length c0_8] 51 ?_; intro gb17 hg w55 BK17 hb; have GW17 := gw_ (w := w) hg; replace HB := hs_ hb; clear hb hg) | ((with_reducible refine gt_ 3 ?_); refine bo_ 3 #[.slice A1_0 l1_0.length c1_0, .int .i64 a1_1, .slice A1_2 l1_2.length c1_2, .int .i64 a1_3, .int .i64 a1_4, .int .i64 a1_5, .int .i64 a1_6, .int .i64 a1_7, .slice A1_8 l1_8.length c1_8] 51 ?_; intro gb18 hg w56 BK18 hb; have GW18 := gw_ (w := w) hg; replace HB := hs_ hb; have ⟨NB17_18, NB18_17⟩ := nb_ hg BK17; replace BK17 := kb_ BK17 hb; clear hb hg; have := NB17_18.out; have := NB18_17.out; refine by9_ BK17 ?_; intros; refine by9_ BK18 ?_; intros) | ((with_reducible refine gd_ 18 9 func18 #[.slice A0_0 l0_0.length c0_0, .slice A1_0 l1_0.length c1_0] (laws_eqByteS.calls k _ _ l0_0 _ _ l1_0 true _ (cb_ HR0_0 HB) HC0_0.out (cb_ HR1_0 HB) HC1_0.out A3.out) fun nd => ?_)))
  go_ret
  exact ⟨sq_, bl_⟩
 rw [if_pos c5] at H
 have := et_ c5
 replace c5 := nf_ c5
 obtain ⟨t22, A6, H⟩ := ob_ H
 by_cases c7 : t22 = true
 rotate_left
 ·replace c7 := gf_ c7
  subst c7
  replace H := in_ H
  obtain rfl := si_ H
  go_enter func27, ntmps27
  go_wp2_with (first | ((with_reducible refine gt_ 2 ?_); refine bo_ 2 #[.slice A0_0 l0_0.length c0_0, .int .i64 a0_1, .slice A0_2 l0_2.length c0_2, .int .i64 a0_3, .int .i64 a0_4, .int .i64 a0_5, .int .i64 a0_6, .int .i64 a0_7, .slice A0_8 l0_8.length c0_8] 51 ?_; intro gb17 hg w50 BK17 hb; have GW17 := gw_ (w := w) hg; replace HB := hs_ hb; clear hb hg) | ((with_reducible refine gt_ 3 ?_); refine bo_ 3 #[.slice A1_0 l1_0.length c1_0, .int .i64 a1_1, .slice A1_2 l1_2.length c1_2, .int .i64 a1_3, .int .i64 a1_4, .int .i64 a1_5, .int .i64 a1_6, .int .i64 a1_7, .slice A1_8 l1_8.length c1_8] 51 ?_; intro gb18 hg w51 BK18 hb; have GW18 := gw_ (w := w) hg; replace HB := hs_ hb; have ⟨NB17_18, NB18_17⟩ := nb_ hg BK17; replace BK17 := kb_ BK17 hb; clear hb hg; have := NB17_18.out; have := NB18_17.out; refine by9_ BK17 ?_; intros; refine by9_ BK18 ?_; intros) | ((with_reducible refine gd_ 18 9 func18 #[.slice A0_0 l0_0.length c0_0, .slice A1_0 l1_0.length c1_0] (laws_eqByteS.calls k _ _ l0_0 _ _ l1_0 true _ (cb_ HR0_0 HB) HC0_0.out (cb_ HR1_0 HB) HC1_0.out A3.out) fun nd => ?_)) | ((with_reducible refine gd_ 26 20 func26 #[.slice A0_2 l0_2.length c0_2, .slice A1_2 l1_2.length c1_2] (laws_eqIntS.calls k _ _ l0_2 _ _ l1_2 false _ (ca_ (Kd.C_below HR0_2.out bl_)) HC0_2.out (ca_ (Kd.C_below HR1_2.out bl_)) HC1_2.out A6.out) fun nd => ?_)))
  go_ret
  exact ⟨sq_, bl_⟩
 subst c7
 replace H := ip_ H
 by_cases c8 : a0_3 = a1_3
 rotate_left
 ·rw [if_neg c8] at H
  have c8b0 := ef_ c8
  have c8b1 := nt_ c8
  obtain rfl := si_ H
  go_enter func27, ntmps27
  go_wp2_with (first | ((with_reducible refine gt_ 2 ?_); refine bo_ 2 #[.slice A0_0 l0_0.length c0_0, .int .i64 a0_1, .slice A0_2 l0_2.length c0_2, .int .i64 a0_3, .int .i64 a0_4, .int .i64 a0_5, .int .i64 a0_6, .int .i64 a0_7, .slice A0_8 l0_8.length c0_8] 51 ?_; intro gb17 hg w45 BK17 hb; have GW17 := gw_ (w := w) hg; replace HB := hs_ hb; clear hb hg) | ((with_reducible refine gt_ 3 ?_); refine bo_ 3 #[.slice A1_0 l1_0.length c1_0, .int .i64 a1_1, .slice A1_2 l1_2.length c1_2, .int .i64 a1_3, .int .i64 a1_4, .int .i64 a1_5, .int .i64 a1_6, .int .i64 a1_7, .slice A1_8 l1_8.length c1_8] 51 ?_; intro gb18 hg w46 BK18 hb; have GW18 := gw_ (w := w) hg; replace HB := hs_ hb; have ⟨NB17_18, NB18_17⟩ := nb_ hg BK17; replace BK17 := kb_ BK17 hb; clear hb hg; have := NB17_18.out; have := NB18_17.out; refine by9_ BK17 ?_; intros; refine by9_ BK18 ?_; intros) | ((with_reducible refine gd_ 18 9 func18 #[.slice A0_0 l0_0.length c0_0, .slice A1_0 l1_0.length c1_0] (laws_eqByteS.calls k _ _ l0_0 _ _ l1_0 true _ (cb_ HR0_0 HB) HC0_0.out (cb_ HR1_0 HB) HC1_0.out A3.out) fun nd => ?_)) | ((with_reducible refine gd_ 26 20 func26 #[.slice A0_2 l0_2.length c0_2, .slice A1_2 l1_2.length c1_2] (laws_eqIntS.calls k _ _ l0_2 _ _ l1_2 true _ (ca_ (Kd.C_below HR0_2.out bl_)) HC0_2.out (ca_ (Kd.C_below HR1_2.out bl_)) HC1_2.out A6.out) fun nd => ?_)))
  go_ret
  exact ⟨sq_, bl_⟩
 rw [if_pos c8] at H
 have := et_ c8
 replace c8 := nf_ c8
 by_cases c9 : a0_4 = a1_4
 rotate_left
 ·rw [if_neg c9] at H
  have c9b0 := ef_ c9
  have c9b1 := nt_ c9
  obtain rfl := si_ H
  go_enter func27, ntmps27
  go_wp2_with (first | ((with_reducible refine gt_ 2 ?_); refine bo_ 2 #[.slice A0_0 l0_0.length c0_0, .int .i64 a0_1, .slice A0_2 l0_2.length c0_2, .int .i64 a0_3, .int .i64 a0_4, .int .i64 a0_5, .int .i64 a0_6, .int .i64 a0_7, .slice A0_8 l0_8.length c0_8] 51 ?_; intro gb17 hg w40 BK17 hb; have GW17 := gw_ (w := w) hg; replace HB := hs_ hb; clear hb hg) | ((with_reducible refine gt_ 3 ?_); refine bo_ 3 #[.slice A1_0 l1_0.length c1_0, .int .i64 a1_1, .slice A1_2 l1_2.length c1_2, .int .i64 a1_3, .int .i64 a1_4, .int .i64 a1_5, .int .i64 a1_6, .int .i64 a1_7, .slice A1_8 l1_8.length c1_8] 51 ?_; intro gb18 hg w41 BK18 hb; have GW18 := gw_ (w := w) hg; replace HB := hs_ hb; have ⟨NB17_18, NB18_17⟩ := nb_ hg BK17; replace BK17 := kb_ BK17 hb; clear hb hg; have := NB17_18.out; have := NB18_17.out; refine by9_ BK17 ?_; intros; refine by9_ BK18 ?_; intros) | ((with_reducible refine gd_ 18 9 func18 #[.slice A0_0 l0_0.length c0_0, .slice A1_0 l1_0.length c1_0] (laws_eqByteS.calls k _ _ l0_0 _ _ l1_0 true _ (cb_ HR0_0 HB) HC0_0.out (cb_ HR1_0 HB) HC1_0.out A3.out) fun nd => ?_)) | ((with_reducible refine gd_ 26 20 func26 #[.slice A0_2 l0_2.length c0_2, .slice A1_2 l1_2.length c1_2] (laws_eqIntS.calls k _ _ l0_2 _ _ l1_2 true _ (ca_ (Kd.C_below HR0_2.out bl_)) HC0_2.out (ca_ (Kd.C_below HR1_2.out bl_)) HC1_2.out A6.out) fun nd => ?_)))
  go_ret
  exact ⟨sq_, bl_⟩
 rw [if_pos c9] at H
 have := et_ c9
 replace c9 := nf_ c9
 by_cases c10 : a0_5 = a1_5
 rotate_left
 ·rw [if_neg c10] at H
  have c10b0 := ef_ c10
  have c10b1 := nt_ c10
  obtain rfl := si_ H
  go_enter func27, ntmps27
  go_wp2_with (first | ((with_reducible refine gt_ 2 ?_); refine bo_ 2 #[.slice A0_0 l0_0.length c0_0, .int .i64 a0_1, .slice A0_2 l0_2.length c0_2, .int .i64 a0_3, .int .i64 a0_4, .int .i64 a0_5, .int .i64 a0_6, .int .i64 a0_7, .slice A0_8 l0_8.length c0_8] 51 ?_; intro gb17 hg w35 BK17 hb; have GW17 := gw_ (w := w) hg; replace HB := hs_ hb; clear hb hg) | ((with_reducible refine gt_ 3 ?_); refine bo_ 3 #[.slice A1_0 l1_0.length c1_0, .int .i64 a1_1, .slice A1_2 l1_2.length c1_2, .int .i64 a1_3, .int .i64 a1_4, .int .i64 a1_5, .int .i64 a1_6, .int .i64 a1_7, .slice A1_8 l1_8.length c1_8] 51 ?_; intro gb18 hg w36 BK18 hb; have GW18 := gw_ (w := w) hg; replace HB := hs_ hb; have ⟨NB17_18, NB18_17⟩ := nb_ hg BK17; replace BK17 := kb_ BK17 hb; clear hb hg; have := NB17_18.out; have := NB18_17.out; refine by9_ BK17 ?_; intros; refine by9_ BK18 ?_; intros) | ((with_reducible refine gd_ 18 9 func18 #[.slice A0_0 l0_0.length c0_0, .slice A1_0 l1_0.length c1_0] (laws_eqByteS.calls k _ _ l0_0 _ _ l1_0 true _ (cb_ HR0_0 HB) HC0_0.out (cb_ HR1_0 HB) HC1_0.out A3.out) fun nd => ?_)) | ((with_reducible refine gd_ 26 20 func26 #[.slice A0_2 l0_2.length c0_2, .slice A1_2 l1_2.length c1_2] (laws_eqIntS.calls k _ _ l0_2 _ _ l1_2 true _ (ca_ (Kd.C_below HR0_2.out bl_)) HC0_2.out (ca_ (Kd.C_below HR1_2.out bl_)) HC1_2.out A6.out) fun nd => ?_)))
  go_ret
  exact ⟨sq_, bl_⟩
 rw [if_pos c10] at H
 have := et_ c10
 replace c10 := nf_ c10
 by_cases c11 : a0_6 = a1_6
 rotate_left
 ·rw [if_neg c11] at H
  have c11b0 := ef_ c11
  have c11b1 := nt_ c11
  obtain rfl := si_ H
  go_enter func27, ntmps27
  go_wp2_with (first | ((with_reducible refine gt_ 2 ?_); refine bo_ 2 #[.slice A0_0 l0_0.length c0_0, .int .i64 a0_1, .slice A0_2 l0_2.length c0_2, .int .i64 a0_3, .int .i64 a0_4, .int .i64 a0_5, .int .i64 a0_6, .int .i64 a0_7, .slice A0_8 l0_8.length c0_8] 51 ?_; intro gb17 hg w30 BK17 hb; have GW17 := gw_ (w := w) hg; replace HB := hs_ hb; clear hb hg) | ((with_reducible refine gt_ 3 ?_); refine bo_ 3 #[.slice A1_0 l1_0.length c1_0, .int .i64 a1_1, .slice A1_2 l1_2.length c1_2, .int .i64 a1_3, .int .i64 a1_4, .int .i64 a1_5, .int .i64 a1_6, .int .i64 a1_7, .slice A1_8 l1_8.length c1_8] 51 ?_; intro gb18 hg w31 BK18 hb; have GW18 := gw_ (w := w) hg; replace HB := hs_ hb; have ⟨NB17_18, NB18_17⟩ := nb_ hg BK17; replace BK17 := kb_ BK17 hb; clear hb hg; have := NB17_18.out; have := NB18_17.out; refine by9_ BK17 ?_; intros; refine by9_ BK18 ?_; intros) | ((with_reducible refine gd_ 18 9 func18 #[.slice A0_0 l0_0.length c0_0, .slice A1_0 l1_0.length c1_0] (laws_eqByteS.calls k _ _ l0_0 _ _ l1_0 true _ (cb_ HR0_0 HB) HC0_0.out (cb_ HR1_0 HB) HC1_0.out A3.out) fun nd => ?_)) | ((with_reducible refine gd_ 26 20 func26 #[.slice A0_2 l0_2.length c0_2, .slice A1_2 l1_2.length c1_2] (laws_eqIntS.calls k _ _ l0_2 _ _ l1_2 true _ (ca_ (Kd.C_below HR0_2.out bl_)) HC0_2.out (ca_ (Kd.C_below HR1_2.out bl_)) HC1_2.out A6.out) fun nd => ?_)))
  go_ret
  exact ⟨sq_, bl_⟩
 rw [if_pos c11] at H
 have := et_ c11
 replace c11 := nf_ c11
 by_cases c12 : a0_7 = a1_7
 ·rw [if_pos c12] at H
  have := et_ c12
  replace c12 := nf_ c12
  obtain ⟨t23, A13, H⟩ := ob_ H
  by_cases c14 : t23 = true
  ·subst c14
   replace H := ip_ H
   obtain rfl := si_ H
   go_enter func27, ntmps27
   go_wp2_with (first | ((with_reducible refine gt_ 2 ?_); refine bo_ 2 #[.slice A0_0 l0_0.length c0_0, .int .i64 a0_1, .slice A0_2 l0_2.length c0_2, .int .i64 a0_3, .int .i64 a0_4, .int .i64 a0_5, .int .i64 a0_6, .int .i64 a0_7, .slice A0_8 l0_8.length c0_8] 51 ?_; intro gb17 hg w15 BK17 hb; have GW17 := gw_ (w := w) hg; replace HB := hs_ hb; clear hb hg) | ((with_reducible refine gt_ 3 ?_); refine bo_ 3 #[.slice A1_0 l1_0.length c1_0, .int .i64 a1_1, .slice A1_2 l1_2.length c1_2, .int .i64 a1_3, .int .i64 a1_4, .int .i64 a1_5, .int .i64 a1_6, .int .i64 a1_7, .slice A1_8 l1_8.length c1_8] 51 ?_; intro gb18 hg w16 BK18 hb; have GW18 := gw_ (w := w) hg; replace HB := hs_ hb; have ⟨NB17_18, NB18_17⟩ := nb_ hg BK17; replace BK17 := kb_ BK17 hb; clear hb hg; have := NB17_18.out; have := NB18_17.out; refine by9_ BK17 ?_; intros; refine by9_ BK18 ?_; intros) | ((with_reducible refine gd_ 18 9 func18 #[.slice A0_0 l0_0.length c0_0, .slice A1_0 l1_0.length c1_0] (laws_eqByteS.calls k _ _ l0_0 _ _ l1_0 true _ (cb_ HR0_0 HB) HC0_0.out (cb_ HR1_0 HB) HC1_0.out A3.out) fun nd => ?_)) | ((with_reducible refine gd_ 26 20 func26 #[.slice A0_2 l0_2.length c0_2, .slice A1_2 l1_2.length c1_2] (laws_eqIntS.calls k _ _ l0_2 _ _ l1_2 true _ (ca_ (Kd.C_below HR0_2.out bl_)) HC0_2.out (ca_ (Kd.C_below HR1_2.out bl_)) HC1_2.out A6.out) fun nd => ?_)) | ((with_reducible refine gd_ 18 51 func18 #[.slice A0_8 l0_8.length c0_8, .slice A1_8 l1_8.length c1_8] (laws_eqByteS.calls k _ _ l0_8 _ _ l1_8 true _ (ca_ (Kd.C_below HR0_8.out bl_)) HC0_8.out (ca_ (Kd.C_below HR1_8.out bl_)) HC1_8.out A13.out) fun nd => ?_)))
   go_ret
   exact ⟨sq_, bl_⟩
  replace c14 := gf_ c14
  subst c14
  replace H := in_ H
  obtain rfl := si_ H
  go_enter func27, ntmps27
  go_wp2_with (first | ((with_reducible refine gt_ 2 ?_); refine bo_ 2 #[.slice A0_0 l0_0.length c0_0, .int .i64 a0_1, .slice A0_2 l0_2.length c0_2, .int .i64 a0_3, .int .i64 a0_4, .int .i64 a0_5, .int .i64 a0_6, .int .i64 a0_7, .slice A0_8 l0_8.length c0_8] 51 ?_; intro gb17 hg w20 BK17 hb; have GW17 := gw_ (w := w) hg; replace HB := hs_ hb; clear hb hg) | ((with_reducible refine gt_ 3 ?_); refine bo_ 3 #[.slice A1_0 l1_0.length c1_0, .int .i64 a1_1, .slice A1_2 l1_2.length c1_2, .int .i64 a1_3, .int .i64 a1_4, .int .i64 a1_5, .int .i64 a1_6, .int .i64 a1_7, .slice A1_8 l1_8.length c1_8] 51 ?_; intro gb18 hg w21 BK18 hb; have GW18 := gw_ (w := w) hg; replace HB := hs_ hb; have ⟨NB17_18, NB18_17⟩ := nb_ hg BK17; replace BK17 := kb_ BK17 hb; clear hb hg; have := NB17_18.out; have := NB18_17.out; refine by9_ BK17 ?_; intros; refine by9_ BK18 ?_; intros) | ((with_reducible refine gd_ 18 9 func18 #[.slice A0_0 l0_0.length c0_0, .slice A1_0 l1_0.length c1_0] (laws_eqByteS.calls k _ _ l0_0 _ _ l1_0 true _ (cb_ HR0_0 HB) HC0_0.out (cb_ HR1_0 HB) HC1_0.out A3.out) fun nd => ?_)) | ((with_reducible refine gd_ 26 20 func26 #[.slice A0_2 l0_2.length c0_2, .slice A1_2 l1_2.length c1_2] (laws_eqIntS.calls k _ _ l0_2 _ _ l1_2 true _ (ca_ (Kd.C_below HR0_2.out bl_)) HC0_2.out (ca_ (Kd.C_below HR1_2.out bl_)) HC1_2.out A6.out) fun nd => ?_)) | ((with_reducible refine gd_ 18 51 func18 #[.slice A0_8 l0_8.length c0_8, .slice A1_8 l1_8.length c1_8] (laws_eqByteS.calls k _ _ l0_8 _ _ l1_8 false _ (ca_ (Kd.C_below HR0_8.out bl_)) HC0_8.out (ca_ (Kd.C_below HR1_8.out bl_)) HC1_8.out A13.out) fun nd => ?_)))
  go_ret
  exact ⟨sq_, bl_⟩
 ·rw [if_neg c12] at H
  have c12b0 := ef_ c12
  have c12b1 := nt_ c12
  obtain rfl := si_ H
  go_enter func27, ntmps27
  go_wp2_with (first | ((with_reducible refine gt_ 2 ?_); refine bo_ 2 #[.slice A0_0 l0_0.length c0_0, .int .i64 a0_1, .slice A0_2 l0_2.length c0_2, .int .i64 a0_3, .int .i64 a0_4, .int .i64 a0_5, .int .i64 a0_6, .int .i64 a0_7, .slice A0_8 l0_8.length c0_8] 51 ?_; intro gb17 hg w25 BK17 hb; have GW17 := gw_ (w := w) hg; replace HB := hs_ hb; clear hb hg) | ((with_reducible refine gt_ 3 ?_); refine bo_ 3 #[.slice A1_0 l1_0.length c1_0, .int .i64 a1_1, .slice A1_2 l1_2.length c1_2, .int .i64 a1_3, .int .i64 a1_4, .int .i64 a1_5, .int .i64 a1_6, .int .i64 a1_7, .slice A1_8 l1_8.length c1_8] 51 ?_; intro gb18 hg w26 BK18 hb; have GW18 := gw_ (w := w) hg; replace HB := hs_ hb; have ⟨NB17_18, NB18_17⟩ := nb_ hg BK17; replace BK17 := kb_ BK17 hb; clear hb hg; have := NB17_18.out; have := NB18_17.out; refine by9_ BK17 ?_; intros; refine by9_ BK18 ?_; intros) | ((with_reducible refine gd_ 18 9 func18 #[.slice A0_0 l0_0.length c0_0, .slice A1_0 l1_0.length c1_0] (laws_eqByteS.calls k _ _ l0_0 _ _ l1_0 true _ (cb_ HR0_0 HB) HC0_0.out (cb_ HR1_0 HB) HC1_0.out A3.out) fun nd => ?_)) | ((with_reducible refine gd_ 26 20 func26 #[.slice A0_2 l0_2.length c0_2, .slice A1_2 l1_2.length c1_2] (laws_eqIntS.calls k _ _ l0_2 _ _ l1_2 true _ (ca_ (Kd.C_below HR0_2.out bl_)) HC0_2.out (ca_ (Kd.C_below HR1_2.out bl_)) HC1_2.out A6.out) fun nd => ?_)))
  go_ret
  exact ⟨sq_, bl_⟩
/-! ### laws_markByteS: function 19 -/
def laws_markByteS.l0 : Nat → List Int → Int → Int → Option (Int × List Int)
 | 0, _, _, _ => none
 | k + 1, x0, x1, x5 => if x5 < (x0.length : Int) then (if 0 ≤ x5 then (laws_markByteS.l0 k (x0.set (x5 : Int).toNat ((x1) % 256)) (wrap64 (x1 + 1)) (wrap64 (x5 + 1))) else (none)) else (some (x1, x0))
def laws_markByteS.f (k : Nat) (l0 : List Int) (a1 : Int) : Option (Int × List Int) := laws_markByteS.l0 k l0 a1 0
theorem laws_markByteS.calls (k : Nat) (P0_ : Nat → Prop) (u9000_ : Value) (l0 : List Int) (a1 : Int) (r1 : Int) (r2 : List Int) (w0 w : World) (hB : Below w0.heap.size w0 w) (ho0 : Kd.R (Kd.int .u8) 5 w w0.heap.size P0_ u9000_ l0) (h : laws_markByteS.f k l0 a1 = some (r1, r2)) :
  Calls Tryz.prog 19 #[u9000_, .int .i64 a1] w fun e w' => e = .returned (.int .i64 r1) ∧ Kd.R (Kd.int .u8) 5 w' w0.heap.size (fun k_ => (P0_ k_ ∨ w.heap.size ≤ k_)) u9000_ r2 ∧ Below w0.heap.size w0 w' ∧ Kept w w' (fun k_ => P0_ k_) := by
 have HO0 := Aside0.mk (show Kd.R (Kd.int .u8) 5 w w0.heap.size (fun k_ => (P0_ k_ ∨ w.heap.size ≤ k_)) u9000_ l0 from Kd.R_mono ho0 (fun k_ hk => (.inl hk)))
 have HK := Aside0.mk (Kept.refl w (fun k_ => P0_ k_))
 have HW0 := Aside0.mk hB.size
 have HB := Aside0.mk hB
 clear hB
 have H := h
 unfold laws_markByteS.f at H
 clear h
 have H' := Aside0.mk H
 clear H
 go_enter func19, ntmps19
 go_wp2
 go_loopg [1, 5] k (fun kq v1 v5 w' => ∃ (x0_1 : List Int) (x1_1 : Int) (x5_1 : Int), v1 = .int .i64 x1_1 ∧ v5 = .int .i64 x5_1 ∧ Aside0 (laws_markByteS.l0 kq x0_1 x1_1 x5_1 = some (r1, r2)) ∧ Aside0 (kq ≤ k) ∧ Aside0 (Kd.R (Kd.int .u8) 5 w' w0.heap.size (fun k_ => (P0_ k_ ∨ w.heap.size ≤ k_)) u9000_ x0_1) ∧ Aside0 (Kept w w' (fun k_ => P0_ k_)) ∧ Aside0 (Below w0.heap.size w0 w'))
 case atStart => exact ⟨(l0), (a1), (0), sp_, sp_, H', ⟨Nat.le_refl _⟩, ⟨ra_ HO0⟩, ⟨by repeat (first | (with_reducible first | exact HK.out | apply Kept.alloc | apply Kept.drewN | apply Kept.drew) | exact HK.out)⟩, ⟨bl_⟩⟩
 case round =>
  clear H'
  obtain ⟨x0_1, x1_1, x5_1, rfl, rfl, HA, HK1, HO_0, HK, HB⟩ := hrel
  cases gk with
  | zero => exact absurd HA.out (by simp [laws_markByteS.l0])
  | succ k1 =>
   have H := HA.out
   clear HA
   simp only [laws_markByteS.l0] at H
   by_cases c3 : x5_1 < (x0_1.length : Int)
   rotate_left
   ·rw [if_neg c3] at H
    replace c3 := df_ c3
    simp only [Option.some.injEq, Prod.mk.injEq] at H
    obtain ⟨rfl, rfl⟩ := H
    obtain ⟨Ao9, co9, eo9⟩ := Kd.R_slice HO_0.out
    subst eo9
    go_wp2
    go_ret
    exact ⟨sq_, ra_ HO_0, bl_, by repeat (first | (with_reducible first | exact HK.out | apply Kept.alloc | apply Kept.drewN | apply Kept.drew) | exact HK.out)⟩
   rw [if_pos c3] at H
   replace c3 := dt_ c3
   obtain ⟨c4, H⟩ := og_ H
   replace c4 := dt_ c4
   obtain ⟨y2, hy2⟩ : ∃ y_ : List Int, y_ = (x0_1.set (x5_1 : Int).toNat ((x1_1) % 256)) := ⟨_, rfl⟩
   replace H : (laws_markByteS.l0 k1 y2 (wrap64 (x1_1 + 1)) (wrap64 (x5_1 + 1))) = some (r1, r2) := hh_ hy2 H
   have Ny2 := Aside0.mk hy2
   clear hy2
   have H' := Aside0.mk H
   clear H
   obtain ⟨Ao6, co6, eo6⟩ := Kd.R_slice HO_0.out
   subst eo6
   have p5 : 0 ≤ (x5_1 : Int) := od_
   have q5 : (x5_1 : Int) < ((x0_1.length : Int) : Int) := od_
   obtain ⟨go5, co5, eo5, gb5, gl5, cl5, HG5⟩ := Kd.R_form HO_0.out (by omega)
   (first | cases eo5 | (injection eo5 with ea_ en_ ec_; (first | subst ea_ | (injection ea_ with ea_; subst ea_)); subst ec_; clear en_))
   have GB5 := Aside0.mk gb5
   have GG5 := Aside0.mk HG5
   clear gb5 gl5 HG5
   have HMgo5 := Aside0.mk (show (P0_ go5 ∨ w.heap.size ≤ go5) from (HO_0.out.1 _ rfl))
   obtain ⟨hx5_0, hf5_0⟩ := Kd.R_celln 0 HO_0.out (x5_1 : Int) p5 q5
   replace p5 := eq_true p5
   replace q5 := eq_true q5
   have HP7 := Kd.R_putg HO_0.out (x5_1 : Int) ((x1_1) % 256)
   go_wp2_with (first | ((with_reducible refine gate_store (t := 5) (p := 16) rfl ?_); refine store_event (t := 5) (p := 16) (v := ?vo_w8) (w1 := (wr.setCell ⟨go5, (x5_1 : Int).toNat, none⟩ (.int .u8 ((x1_1) % 256)))) ?hg ?ho ?hn ?hr ?_; (case ho => rfl); (case hg => rfl); (case hn => rfl); (case hr => first | (go_simp; done) | (go_simp; rfl)); intro w8 hw; have hg : wr.grownBy w8 (some go5) := (by rw [hw]; exact HP7.2); have hp_ : Kd.R (Kd.int .u8) 5 w8 w0.heap.size (fun k_ => (P0_ k_ ∨ w.heap.size ≤ k_)) (.slice (some ⟨go5, 0, none⟩) x0_1.length co6) y2 := (by rw [hw, Ny2.out]; exact HP7.1); clear HP7; replace HB := Aside0.mk ((by rw [hw]; exact below_set (HB.out) GB5.out : Below w0.heap.size w0 w8)); replace HK := Aside0.mk (Kept.of_grown (S := (fun k_ => P0_ k_)) hg (by repeat (first | (with_reducible first | exact HK.out | apply Kept.alloc | apply Kept.drewN | apply Kept.drew) | exact HK.out)) (fun k_ e_ => (HO_0.out.1 k_ e_))); replace HO_0 := Aside0.mk (hp_); clear hg hw hp_))
   go_roundg k1
   case measure => have := HK1.out; omega
   case rel => exact ⟨(y2), (wrap64 (x1_1 + 1)), (wrap64 (x5_1 + 1)), sp_, sp_, H', ⟨by have := HK1.out; omega⟩, ⟨ra_ HO_0⟩, ⟨by repeat (first | (with_reducible first | exact HK.out | apply Kept.alloc | apply Kept.drewN | apply Kept.drew) | exact HK.out)⟩, ⟨bl_⟩⟩
/-! ### laws_markIntS: function 29 -/
def laws_markIntS.l0 : Nat → List Int → Int → Int → Option (Int × List Int)
 | 0, _, _, _ => none
 | k + 1, x0, x1, x5 => if x5 < (x0.length : Int) then (if 0 ≤ x5 then (laws_markIntS.l0 k (x0.set (x5 : Int).toNat x1) (wrap64 (x1 + 1)) (wrap64 (x5 + 1))) else (none)) else (some (x1, x0))
def laws_markIntS.f (k : Nat) (l0 : List Int) (a1 : Int) : Option (Int × List Int) := laws_markIntS.l0 k l0 a1 0
theorem laws_markIntS.calls (k : Nat) (P0_ : Nat → Prop) (u9000_ : Value) (l0 : List Int) (a1 : Int) (r1 : Int) (r2 : List Int) (w0 w : World) (hB : Below w0.heap.size w0 w) (ho0 : Kd.R (Kd.int .i64) 3 w w0.heap.size P0_ u9000_ l0) (h : laws_markIntS.f k l0 a1 = some (r1, r2)) :
  Calls Tryz.prog 29 #[u9000_, .int .i64 a1] w fun e w' => e = .returned (.int .i64 r1) ∧ Kd.R (Kd.int .i64) 3 w' w0.heap.size (fun k_ => (P0_ k_ ∨ w.heap.size ≤ k_)) u9000_ r2 ∧ Below w0.heap.size w0 w' ∧ Kept w w' (fun k_ => P0_ k_) := by
 have HO0 := Aside0.mk (show Kd.R (Kd.int .i64) 3 w w0.heap.size (fun k_ => (P0_ k_ ∨ w.heap.size ≤ k_)) u9000_ l0 from Kd.R_mono ho0 (fun k_ hk => (.inl hk)))
 have HK := Aside0.mk (Kept.refl w (fun k_ => P0_ k_))
 have HW0 := Aside0.mk hB.size
 have HB := Aside0.mk hB
 clear hB
 have H := h
 unfold laws_markIntS.f at H
 clear h
 have H' := Aside0.mk H
 clear H
 go_enter func29, ntmps29
 go_wp2
 go_loopg [1, 5] k (fun kq v1 v5 w' => ∃ (x0_1 : List Int) (x1_1 : Int) (x5_1 : Int), v1 = .int .i64 x1_1 ∧ v5 = .int .i64 x5_1 ∧ Aside0 (laws_markIntS.l0 kq x0_1 x1_1 x5_1 = some (r1, r2)) ∧ Aside0 (kq ≤ k) ∧ Aside0 (Kd.R (Kd.int .i64) 3 w' w0.heap.size (fun k_ => (P0_ k_ ∨ w.heap.size ≤ k_)) u9000_ x0_1) ∧ Aside0 (Kept w w' (fun k_ => P0_ k_)) ∧ Aside0 (Below w0.heap.size w0 w'))
 case atStart => exact ⟨(l0), (a1), (0), sp_, sp_, H', ⟨Nat.le_refl _⟩, ⟨ra_ HO0⟩, ⟨by repeat (first | (with_reducible first | exact HK.out | apply Kept.alloc | apply Kept.drewN | apply Kept.drew) | exact HK.out)⟩, ⟨bl_⟩⟩
 case round =>
  clear H'
  obtain ⟨x0_1, x1_1, x5_1, rfl, rfl, HA, HK1, HO_0, HK, HB⟩ := hrel
  cases gk with
  | zero => exact absurd HA.out (by simp [laws_markIntS.l0])
  | succ k1 =>
   have H := HA.out
   clear HA
   simp only [laws_markIntS.l0] at H
   by_cases c3 : x5_1 < (x0_1.length : Int)
   rotate_left
   ·rw [if_neg c3] at H
    replace c3 := df_ c3
    simp only [Option.some.injEq, Prod.mk.injEq] at H
    obtain ⟨rfl, rfl⟩ := H
    obtain ⟨Ao9, co9, eo9⟩ := Kd.R_slice HO_0.out
    subst eo9
    go_wp2
    go_ret
    exact ⟨sq_, ra_ HO_0, bl_, by repeat (first | (with_reducible first | exact HK.out | apply Kept.alloc | apply Kept.drewN | apply Kept.drew) | exact HK.out)⟩
   rw [if_pos c3] at H
   replace c3 := dt_ c3
   obtain ⟨c4, H⟩ := og_ H
   replace c4 := dt_ c4
   obtain ⟨y2, hy2⟩ : ∃ y_ : List Int, y_ = (x0_1.set (x5_1 : Int).toNat x1_1) := ⟨_, rfl⟩
   replace H : (laws_markIntS.l0 k1 y2 (wrap64 (x1_1 + 1)) (wrap64 (x5_1 + 1))) = some (r1, r2) := hh_ hy2 H
   have Ny2 := Aside0.mk hy2
   clear hy2
   have H' := Aside0.mk H
   clear H
   obtain ⟨Ao6, co6, eo6⟩ := Kd.R_slice HO_0.out
   subst eo6
   have p5 : 0 ≤ (x5_1 : Int) := od_
   have q5 : (x5_1 : Int) < ((x0_1.length : Int) : Int) := od_
   obtain ⟨go5, co5, eo5, gb5, gl5, cl5, HG5⟩ := Kd.R_form HO_0.out (by omega)
   (first | cases eo5 | (injection eo5 with ea_ en_ ec_; (first | subst ea_ | (injection ea_ with ea_; subst ea_)); subst ec_; clear en_))
   have GB5 := Aside0.mk gb5
   have GG5 := Aside0.mk HG5
   clear gb5 gl5 HG5
   have HMgo5 := Aside0.mk (show (P0_ go5 ∨ w.heap.size ≤ go5) from (HO_0.out.1 _ rfl))
   obtain ⟨hx5_0, hf5_0⟩ := Kd.R_celln 0 HO_0.out (x5_1 : Int) p5 q5
   replace p5 := eq_true p5
   replace q5 := eq_true q5
   have HP7 := Kd.R_putg HO_0.out (x5_1 : Int) x1_1
   go_wp2_with (first | ((with_reducible refine gate_store (t := 3) (p := 15) rfl ?_); refine store_event (t := 3) (p := 15) (v := ?vo_w8) (w1 := (wr.setCell ⟨go5, (x5_1 : Int).toNat, none⟩ (.int .i64 x1_1))) ?hg ?ho ?hn ?hr ?_; (case ho => rfl); (case hg => rfl); (case hn => rfl); (case hr => first | (go_simp; done) | (go_simp; rfl)); intro w8 hw; have hg : wr.grownBy w8 (some go5) := (by rw [hw]; exact HP7.2); have hp_ : Kd.R (Kd.int .i64) 3 w8 w0.heap.size (fun k_ => (P0_ k_ ∨ w.heap.size ≤ k_)) (.slice (some ⟨go5, 0, none⟩) x0_1.length co6) y2 := (by rw [hw, Ny2.out]; exact HP7.1); clear HP7; replace HB := Aside0.mk ((by rw [hw]; exact below_set (HB.out) GB5.out : Below w0.heap.size w0 w8)); replace HK := Aside0.mk (Kept.of_grown (S := (fun k_ => P0_ k_)) hg (by repeat (first | (with_reducible first | exact HK.out | apply Kept.alloc | apply Kept.drewN | apply Kept.drew) | exact HK.out)) (fun k_ e_ => (HO_0.out.1 k_ e_))); replace HO_0 := Aside0.mk (hp_); clear hg hw hp_))
   go_roundg k1
   case measure => have := HK1.out; omega
   case rel => exact ⟨(y2), (wrap64 (x1_1 + 1)), (wrap64 (x5_1 + 1)), sp_, sp_, H', ⟨by have := HK1.out; omega⟩, ⟨ra_ HO_0⟩, ⟨by repeat (first | (with_reducible first | exact HK.out | apply Kept.alloc | apply Kept.drewN | apply Kept.drew) | exact HK.out)⟩, ⟨bl_⟩⟩
/-! ### laws_markTask: function 28 -/
def laws_markTask.f (k : Nat) (l0_0 : List Int) (a0_1 : Int) (l0_2 : List Int) (a0_3 : Int) (a0_4 : Int) (a0_5 : Int) (a0_6 : Int) (a0_7 : Int) (l0_8 : List Int) (a1 : Int) : Option (Int × List Int × List Int × List Int) := (laws_markByteS.f k l0_0 a1).bind fun bt10 => ((laws_markIntS.f k l0_2 bt10.1).bind fun bt12 => ((laws_markByteS.f k l0_8 bt12.1).bind fun bt14 => (some (bt14.1, bt10.2, bt12.2, bt14.2))))
theorem laws_markTask.calls (k : Nat) (P0_0_ : Nat → Prop) (u9000_ : Value) (l0_0 : List Int) (a0_1 : Int) (P0_2_ : Nat → Prop) (u9001_ : Value) (l0_2 : List Int) (a0_3 : Int) (a0_4 : Int) (a0_5 : Int) (a0_6 : Int) (a0_7 : Int) (P0_8_ : Nat → Prop) (u9002_ : Value) (l0_8 : List Int) (a1 : Int) (r1 : Int) (r2 : List Int) (r3 : List Int) (r4 : List Int) (w0 w : World) (hB : Below w0.heap.size w0 w) (ho0_0 : Kd.R (Kd.int .u8) 5 w w0.heap.size P0_0_ u9000_ l0_0) (hp0_0_0_8 : ∀ k_, P0_0_ k_ → ¬ P0_8_ k_) (ho0_2 : Kd.R (Kd.int .i64) 3 w w0.heap.size P0_2_ u9001_ l0_2) (ho0_8 : Kd.R (Kd.int .u8) 5 w w0.heap.size P0_8_ u9002_ l0_8) (hp0_8_0_0 : ∀ k_, P0_8_ k_ → ¬ P0_0_ k_) (h : laws_markTask.f k l0_0 a0_1 l0_2 a0_3 a0_4 a0_5 a0_6 a0_7 l0_8 a1 = some (r1, r2, r3, r4)) :
  Calls Tryz.prog 28 #[.agg #[u9000_, .int .i64 a0_1, u9001_, .int .i64 a0_3, .int .i64 a0_4, .int .i64 a0_5, .int .i64 a0_6, .int .i64 a0_7, u9002_], .int .i64 a1] w fun e w' => e = .returned (.int .i64 r1) ∧ Kd.R (Kd.int .u8) 5 w' w0.heap.size (fun k_ => ((P0_0_ k_ ∨ P0_2_ k_ ∨ P0_8_ k_) ∨ w.heap.size ≤ k_)) u9000_ r2 ∧ Kd.R (Kd.int .i64) 3 w' w0.heap.size (fun k_ => ((P0_0_ k_ ∨ P0_2_ k_ ∨ P0_8_ k_) ∨ w.heap.size ≤ k_)) u9001_ r3 ∧ Kd.R (Kd.int .u8) 5 w' w0.heap.size (fun k_ => ((P0_0_ k_ ∨ P0_2_ k_ ∨ P0_8_ k_) ∨ w.heap.size ≤ k_)) u9002_ r4 ∧ Below w0.heap.size w0 w' ∧ Kept w w' (fun k_ => P0_0_ k_ ∨ P0_2_ k_ ∨ P0_8_ k_) := by
 have hu51 := underlying51
 have HO0_0 := Aside0.mk (show Kd.R (Kd.int .u8) 5 w w0.heap.size (fun k_ => ((P0_0_ k_ ∨ P0_2_ k_ ∨ P0_8_ k_) ∨ w.heap.size ≤ k_) ∧ some k_ ≠ (u9002_ : Value).ownBlock) u9000_ l0_0 from Kd.R_mono ho0_0 (fun k_ hk => ⟨(.inl (.inl hk)), fun e_ => hp0_0_0_8 k_ hk (ho0_8.1 k_ e_.symm)⟩))
 have HO0_2 := Aside0.mk (show Kd.R (Kd.int .i64) 3 w w0.heap.size (fun k_ => ((P0_0_ k_ ∨ P0_2_ k_ ∨ P0_8_ k_) ∨ w.heap.size ≤ k_)) u9001_ l0_2 from Kd.R_mono ho0_2 (fun k_ hk => (.inl (.inr (.inl hk)))))
 have HO0_8 := Aside0.mk (show Kd.R (Kd.int .u8) 5 w w0.heap.size (fun k_ => ((P0_0_ k_ ∨ P0_2_ k_ ∨ P0_8_ k_) ∨ w.heap.size ≤ k_) ∧ some k_ ≠ (u9000_ : Value).ownBlock) u9002_ l0_8 from Kd.R_mono ho0_8 (fun k_ hk => ⟨(.inl (.inr (.inr hk))), fun e_ => hp0_8_0_0 k_ hk (ho0_0.1 k_ e_.symm)⟩))
 have HK := Aside0.mk (Kept.refl w (fun k_ => P0_0_ k_ ∨ P0_2_ k_ ∨ P0_8_ k_))
 have HW0 := Aside0.mk hB.size
 have HB := Aside0.mk hB
 clear hB
 have H := h
 unfold laws_markTask.f at H
 clear h
 obtain ⟨⟨t10, t16⟩, A3, H⟩ := ob_ H
 (try dsimp only at H)
 obtain ⟨⟨t12, t17⟩, A4, H⟩ := ob_ H
 (try dsimp only at H)
 obtain ⟨⟨t14, t18⟩, A5, H⟩ := ob_ H
 (try dsimp only at H)
 simp only [Option.some.injEq, Prod.mk.injEq] at H
 obtain ⟨rfl, rfl, rfl, rfl⟩ := H
 obtain ⟨Ao6, co6, eo6⟩ := Kd.R_slice HO0_0.out
 subst eo6
 obtain ⟨Ao7, co7, eo7⟩ := Kd.R_slice HO0_2.out
 subst eo7
 obtain ⟨Ao8, co8, eo8⟩ := Kd.R_slice HO0_8.out
 subst eo8
 go_enter func28, ntmps28
 go_wp2_with (first | ((with_reducible refine gate_dst (N := 2) rfl ?_); refine be_ (N := 2) (cs := #[.slice Ao6 l0_0.length co6, .int .i64 a0_1, .slice Ao7 l0_2.length co7, .int .i64 a0_3, .int .i64 a0_4, .int .i64 a0_5, .int .i64 a0_6, .int .i64 a0_7, .slice Ao8 l0_8.length co8]) (t := 51) ?_; intro gb1 hg w9 hbox hb; replace HO0_0 := Aside0.mk (Kd.R_below (ra_ HO0_0) hb); replace HO0_2 := Aside0.mk (Kd.R_below (ra_ HO0_2) hb); replace HO0_8 := Aside0.mk (Kd.R_below (ra_ HO0_8) hb); have BK1 := Aside0.mk (hbox); have GW1 := Aside0.mk ((by rw [hg]; exact (by first | exact HK.out.1 | exact (show Kept w _ (fun k_ => P0_0_ k_ ∨ P0_2_ k_ ∨ P0_8_ k_) from by repeat (first | (with_reducible first | exact HK.out | apply Kept.alloc | apply Kept.drewN | apply Kept.drew) | exact HK.out)).1) : w.heap.size ≤ gb1)); replace HK := Aside0.mk (Kept.below (S := (fun k_ => P0_0_ k_ ∨ P0_2_ k_ ∨ P0_8_ k_)) (by repeat (first | (with_reducible first | exact HK.out | apply Kept.alloc | apply Kept.drewN | apply Kept.drew) | exact HK.out)) hb); have GE1 := Aside0.mk ((by rw [hg]; exact (below_size bl_) : w0.heap.size ≤ gb1)); replace HB := hs_ hb; clear hb hbox hg; refine by9_ BK1 ?_; intros) | ((with_reducible refine gc_ 19 8 func19 #[.slice Ao6 l0_0.length co6, .int .i64 a1] ?_); (with_reducible refine (laws_markByteS.calls k (fun k_ => some k_ = (.slice Ao6 l0_0.length co6 : Value).ownBlock) (.slice Ao6 l0_0.length co6) l0_0 a1 t10 t16 w0 _ ?side1 ?side2 A3.out).mono ?_); (case side1 => repeat (first | (with_reducible first | exact HB.out | apply below_alloc | apply pw_below_drewN | apply below_drew1 | refine below_set ?_ GE1.out) | exact HB.out)); (case side2 => exact Kd.R_tight rfl HO0_0.out); rintro e w11 ⟨rfl, hy0, hb, hkp⟩; refine ⟨_, rfl, ?_⟩; replace HO0_2 := Aside0.mk (Kd.R_mono (ok' := fun k_ => ((P0_0_ k_ ∨ P0_2_ k_ ∨ P0_8_ k_) ∨ w.heap.size ≤ k_)) (Kd.R_keptB ((Kd.R_apart' HO0_2.out (Kd.R_typed HO0_0.out) (by decide))) hkp (fun k_ hk_ hs_ => (hk_.2) hs_)) (fun k_ hk_ => hk_.1.1)); replace HO0_8 := Aside0.mk (Kd.R_mono (ok' := fun k_ => ((P0_0_ k_ ∨ P0_2_ k_ ∨ P0_8_ k_) ∨ w.heap.size ≤ k_) ∧ some k_ ≠ (.slice Ao6 l0_0.length co6 : Value).ownBlock) (Kd.R_keptB (HO0_8.out) hkp (fun k_ hk_ hs_ => (hk_.2) hs_)) (fun k_ hk_ => ky_ hk_)); replace BK1 := Aside0.mk (blk_kept (ch_ BK1.out) hkp (fun hs_ => (fun e_ => (Kd.R_ne HO0_0.out BK1.out (by decide)) e_) hs_)); replace HK := Aside0.mk (Kept.then_ (S := (fun k_ => P0_0_ k_ ∨ P0_2_ k_ ∨ P0_8_ k_)) (by repeat (first | (with_reducible first | exact HK.out | apply Kept.alloc | apply Kept.drewN | apply Kept.drew | refine Kept.setCell ?_ (.inr GW1.out) _) | exact HK.out)) hkp (fun k_ hs_ => (fun e_ => (HO0_0.out.1 k_ e_.symm).1) hs_)); replace HO0_0 := Aside0.mk (Kd.R_reok rfl hy0 (fun k_ e_ => HO0_0.out.1 k_ e_)); replace HB := Aside0.mk (hb); (try clear hb); (try clear hkp); (try clear hy0); refine by9_ BK1 ?_; intros) | ((with_reducible refine gc_ 29 12 func29 #[.slice Ao7 l0_2.length co7, .int .i64 t10] ?_); (with_reducible refine (laws_markIntS.calls k (fun k_ => some k_ = (.slice Ao7 l0_2.length co7 : Value).ownBlock) (.slice Ao7 l0_2.length co7) l0_2 t10 t12 t17 w0 _ ?side1 ?side2 A4.out).mono ?_); (case side1 => repeat (first | (with_reducible first | exact HB.out | apply below_alloc | apply pw_below_drewN | apply below_drew1 | refine below_set ?_ GE1.out) | exact HB.out)); (case side2 => exact Kd.R_tight rfl HO0_2.out); rintro e w13 ⟨rfl, hy0, hb, hkp⟩; refine ⟨_, rfl, ?_⟩; replace HO0_0 := Aside0.mk (Kd.R_mono (ok' := fun k_ => ((P0_0_ k_ ∨ P0_2_ k_ ∨ P0_8_ k_) ∨ w.heap.size ≤ k_) ∧ some k_ ≠ (.slice Ao8 l0_8.length co8 : Value).ownBlock) (Kd.R_keptB ((Kd.R_apart' HO0_0.out (Kd.R_typed HO0_2.out) (by decide))) hkp (fun k_ hk_ hs_ => (hk_.2) hs_)) (fun k_ hk_ => ky_ hk_)); replace HO0_8 := Aside0.mk (Kd.R_mono (ok' := fun k_ => ((P0_0_ k_ ∨ P0_2_ k_ ∨ P0_8_ k_) ∨ w.heap.size ≤ k_) ∧ some k_ ≠ (.slice Ao6 l0_0.length co6 : Value).ownBlock) (Kd.R_keptB ((Kd.R_apart' HO0_8.out (Kd.R_typed HO0_2.out) (by decide))) hkp (fun k_ hk_ hs_ => (hk_.2) hs_)) (fun k_ hk_ => ky_ hk_)); replace BK1 := Aside0.mk (blk_kept (ch_ BK1.out) hkp (fun hs_ => (fun e_ => (Kd.R_ne HO0_2.out BK1.out (by decide)) e_) hs_)); replace HK := Aside0.mk (Kept.then_ (S := (fun k_ => P0_0_ k_ ∨ P0_2_ k_ ∨ P0_8_ k_)) (by repeat (first | (with_reducible first | exact HK.out | apply Kept.alloc | apply Kept.drewN | apply Kept.drew | refine Kept.setCell ?_ (.inr GW1.out) _) | exact HK.out)) hkp (fun k_ hs_ => (fun e_ => (HO0_2.out.1 k_ e_.symm)) hs_)); replace HO0_2 := Aside0.mk (Kd.R_reok rfl hy0 (fun k_ e_ => HO0_2.out.1 k_ e_)); replace HB := Aside0.mk (hb); (try clear hb); (try clear hkp); (try clear hy0); refine by9_ BK1 ?_; intros) | ((with_reducible refine gc_ 19 16 func19 #[.slice Ao8 l0_8.length co8, .int .i64 t12] ?_); (with_reducible refine (laws_markByteS.calls k (fun k_ => some k_ = (.slice Ao8 l0_8.length co8 : Value).ownBlock) (.slice Ao8 l0_8.length co8) l0_8 t12 t14 t18 w0 _ ?side1 ?side2 A5.out).mono ?_); (case side1 => repeat (first | (with_reducible first | exact HB.out | apply below_alloc | apply pw_below_drewN | apply below_drew1 | refine below_set ?_ GE1.out) | exact HB.out)); (case side2 => exact Kd.R_tight rfl HO0_8.out); rintro e w15 ⟨rfl, hy0, hb, hkp⟩; refine ⟨_, rfl, ?_⟩; replace HO0_0 := Aside0.mk (Kd.R_mono (ok' := fun k_ => ((P0_0_ k_ ∨ P0_2_ k_ ∨ P0_8_ k_) ∨ w.heap.size ≤ k_) ∧ some k_ ≠ (.slice Ao8 l0_8.length co8 : Value).ownBlock) (Kd.R_keptB (HO0_0.out) hkp (fun k_ hk_ hs_ => (hk_.2) hs_)) (fun k_ hk_ => ky_ hk_)); replace HO0_2 := Aside0.mk (Kd.R_mono (ok' := fun k_ => ((P0_0_ k_ ∨ P0_2_ k_ ∨ P0_8_ k_) ∨ w.heap.size ≤ k_)) (Kd.R_keptB ((Kd.R_apart' HO0_2.out (Kd.R_typed HO0_8.out) (by decide))) hkp (fun k_ hk_ hs_ => (hk_.2) hs_)) (fun k_ hk_ => hk_.1.1)); replace BK1 := Aside0.mk (blk_kept (ch_ BK1.out) hkp (fun hs_ => (fun e_ => (Kd.R_ne HO0_8.out BK1.out (by decide)) e_) hs_)); replace HK := Aside0.mk (Kept.then_ (S := (fun k_ => P0_0_ k_ ∨ P0_2_ k_ ∨ P0_8_ k_)) (by repeat (first | (with_reducible first | exact HK.out | apply Kept.alloc | apply Kept.drewN | apply Kept.drew | refine Kept.setCell ?_ (.inr GW1.out) _) | exact HK.out)) hkp (fun k_ hs_ => (fun e_ => (HO0_8.out.1 k_ e_.symm).1) hs_)); replace HO0_8 := Aside0.mk (Kd.R_reok rfl hy0 (fun k_ e_ => HO0_8.out.1 k_ e_)); replace HB := Aside0.mk (hb); (try clear hb); (try clear hkp); (try clear hy0)))
 go_ret
 exact ⟨sq_, by refine cr_ ?_; exact Kd.R_mono HO0_0.out (fun _ hk => hk.1), ra_ HO0_2, by refine cr_ ?_; exact Kd.R_mono HO0_8.out (fun _ hk => hk.1), bl_, by repeat (first | (with_reducible first | exact HK.out | apply Kept.alloc | apply Kept.drewN | apply Kept.drew | refine Kept.setCell ?_ (.inr GW1.out) _) | exact HK.out)⟩
/-! ### laws_heldIntS: function 30 -/
def laws_heldIntS.l0 : Nat → List Int → Int → Int → Option (Int)
 | 0, _, _, _ => none
 | k + 1, x0, x1, x5 => if x5 < (x0.length : Int) then (if 0 ≤ x5 then (if (rd x0 x5) = x1 then (laws_heldIntS.l0 k x0 (wrap64 (x1 + 1)) (wrap64 (x5 + 1))) else (some (-1))) else (none)) else (some x1)
def laws_heldIntS.f (k : Nat) (l0 : List Int) (a1 : Int) : Option (Int) := laws_heldIntS.l0 k l0 a1 0
theorem laws_heldIntS.calls (k : Nat) (A0 : Option Addr) (c0 : Nat) (l0 : List Int) (a1 : Int) (r : Int) (w : World) (hr0 : Kd.C (Kd.int .i64) w A0 l0.length l0) (hc0 : l0.length ≤ c0) (h : laws_heldIntS.f k l0 a1 = some r) :
  Calls Tryz.prog 30 #[.slice A0 l0.length c0, .int .i64 a1] w fun e w' => e = .returned (.int .i64 r) ∧ Drawn0 w w' := by
 have HR0 := Aside0.mk hr0
 have HC0 := Aside0.mk hc0
 clear hr0 hc0
 have H := h
 unfold laws_heldIntS.f at H
 clear h
 have H' := Aside0.mk H
 clear H
 go_enter func30, ntmps30
 go_wp2
 go_loopg [1, 5] k (fun kq v1 v5 w' => ∃ (x1_1 : Int) (x5_1 : Int), v1 = .int .i64 x1_1 ∧ v5 = .int .i64 x5_1 ∧ Aside0 (laws_heldIntS.l0 kq l0 x1_1 x5_1 = some r) ∧ Aside0 (kq ≤ k) ∧ Drawn0 w w')
 case atStart => exact ⟨(a1), (0), sp_, sp_, H', ⟨Nat.le_refl _⟩, dr_⟩
 case round =>
  clear H'
  obtain ⟨x1_1, x5_1, rfl, rfl, HA, HK1, ⟨m1, rfl⟩⟩ := hrel
  cases gk with
  | zero => exact absurd HA.out (by simp [laws_heldIntS.l0])
  | succ k1 =>
   have H := HA.out
   clear HA
   simp only [laws_heldIntS.l0] at H
   by_cases c3 : x5_1 < (l0.length : Int)
   rotate_left
   ·rw [if_neg c3] at H
    replace c3 := df_ c3
    obtain rfl := si_ H
    go_wp2
    go_ret
    exact ⟨sp_, dr_⟩
   rw [if_pos c3] at H
   replace c3 := dt_ c3
   obtain ⟨c4, H⟩ := og_ H
   replace c4 := dt_ c4
   by_cases c5 : (rd l0 x5_1) = x1_1
   ·rw [if_pos c5] at H
    have := et_ c5
    replace c5 := nf_ c5
    have H' := Aside0.mk H
    clear H
    have p2 : 0 ≤ (x5_1 : Int) := od_
    have q2 : x5_1 < (l0.length : Int) := od_
    obtain ⟨ad2, e2, hx2_0⟩ := Kd.at_int HR0.out x5_1 p2 q2
    cases e2
    replace p2 := eq_true p2
    replace q2 := eq_true q2
    go_wp2
    go_roundg k1
    case measure => have := HK1.out; omega
    case rel => exact ⟨(wrap64 (x1_1 + 1)), (wrap64 (x5_1 + 1)), sp_, sp_, H', ⟨by have := HK1.out; omega⟩, dr_⟩
   ·rw [if_neg c5] at H
    have c5b0 := ef_ c5
    have c5b1 := nt_ c5
    obtain rfl := si_ H
    have p2 : 0 ≤ (x5_1 : Int) := od_
    have q2 : x5_1 < (l0.length : Int) := od_
    obtain ⟨ad2, e2, hx2_0⟩ := Kd.at_int HR0.out x5_1 p2 q2
    cases e2
    replace p2 := eq_true p2
    replace q2 := eq_true q2
    go_wp2
    go_ret
    exact ⟨sp_, dr_⟩
/-! ### laws_FnExactNeeds: function 5 -/
def laws_FnExactNeeds.j0 : Nat → Int → List Int → List Int → Bool → List Int → Int → List Int → Int → Int → Int → Int → Int → List Int → Option (Bool)
 | 0, _, _, _, _, _, _, _, _, _, _, _, _, _ => none
 | k + 1, x1, x6, x8, x46, x676000, x676001, x676002, x676003, x676004, x676005, x676006, x676007, x676008 => if x46 = true then (some false) else ((laws_markIntS.f k x8 1).bind fun bt92 => ((laws_heldIntS.f k bt92.2 1).bind fun t97 => (if t97 < 0 then (some false) else (if t97 = bt92.1 then ((laws_toTask.f k x676000 x676001 x676002 x676003 x676004 x676005 x676006 x676007 x676008).bind fun bt88 => ((impl_Needs.f k bt88.1 bt88.2.1 bt88.2.2.1 bt88.2.2.2.1 bt88.2.2.2.2.1 bt88.2.2.2.2.2.1 bt88.2.2.2.2.2.2.1 bt88.2.2.2.2.2.2.2.1 bt88.2.2.2.2.2.2.2.2 x1).bind fun t754 => ((laws_eqIntS.f k t754 x6).bind fun t757 => (if t757 = true then ((laws_heldIntS.f k bt92.2 1).bind fun t98 => (if t98 < 0 then (some false) else (if t98 = bt92.1 then (some true) else (some false)))) else (some false))))) else (some false)))))
def laws_FnExactNeeds.f (k : Nat) (l0_0 : List Int) (a0_1 : Int) (l0_2 : List Int) (a0_3 : Int) (a0_4 : Int) (a0_5 : Int) (a0_6 : Int) (a0_7 : Int) (l0_8 : List Int) (a1 : Int) : Option (Bool) := (laws_szTask.f l0_0 a0_1 l0_2 a0_3 a0_4 a0_5 a0_6 a0_7 l0_8 1048576).bind fun t96 => (if t96 < 0 then (some true) else ((laws_toTask.f k l0_0 a0_1 l0_2 a0_3 a0_4 a0_5 a0_6 a0_7 l0_8).bind fun bt71 => ((spec_Needs.f k bt71.1 bt71.2.1 bt71.2.2.1 bt71.2.2.2.1 bt71.2.2.2.2.1 bt71.2.2.2.2.2.1 bt71.2.2.2.2.2.2.1 bt71.2.2.2.2.2.2.2.1 bt71.2.2.2.2.2.2.2.2 a1).bind fun t73 => ((laws_toTask.f k l0_0 a0_1 l0_2 a0_3 a0_4 a0_5 a0_6 a0_7 l0_8).bind fun bt28 => ((impl_Needs.f k bt28.1 bt28.2.1 bt28.2.2.1 bt28.2.2.2.1 bt28.2.2.2.2.1 bt28.2.2.2.2.2.1 bt28.2.2.2.2.2.2.1 bt28.2.2.2.2.2.2.2.1 bt28.2.2.2.2.2.2.2.2 a1).bind fun t45 => ((laws_eqIntS.f k t45 t73).bind fun t714 => (if t714 = true then ((laws_toTask.f k l0_0 a0_1 l0_2 a0_3 a0_4 a0_5 a0_6 a0_7 l0_8).bind fun bt77 => ((laws_eqTask.f k bt28.1 bt28.2.1 bt28.2.2.1 bt28.2.2.2.1 bt28.2.2.2.2.1 bt28.2.2.2.2.2.1 bt28.2.2.2.2.2.2.1 bt28.2.2.2.2.2.2.2.1 bt28.2.2.2.2.2.2.2.2 bt77.1 bt77.2.1 bt77.2.2.1 bt77.2.2.2.1 bt77.2.2.2.2.1 bt77.2.2.2.2.2.1 bt77.2.2.2.2.2.2.1 bt77.2.2.2.2.2.2.2.1 bt77.2.2.2.2.2.2.2.2).bind fun t730 => (if t730 = true then ((laws_markTask.f k bt28.1 bt28.2.1 bt28.2.2.1 bt28.2.2.2.1 bt28.2.2.2.2.1 bt28.2.2.2.2.2.1 bt28.2.2.2.2.2.2.1 bt28.2.2.2.2.2.2.2.1 bt28.2.2.2.2.2.2.2.2 1).bind fun bt99 => (if bt99.1 < 0 then (laws_FnExactNeeds.j0 k a1 t73 t45 true l0_0 a0_1 l0_2 a0_3 a0_4 a0_5 a0_6 a0_7 l0_8) else ((laws_eqIntS.f k t45 t73).bind fun t735 => (laws_FnExactNeeds.j0 k a1 t73 t45 (!t735) l0_0 a0_1 l0_2 a0_3 a0_4 a0_5 a0_6 a0_7 l0_8)))) else (some false)))) else (some false))))))))
theorem laws_FnExactNeeds.calls (k : Nat) (A0_0 : Option Addr) (c0_0 : Nat) (l0_0 : List Int) (a0_1 : Int) (A0_2 : Option Addr) (c0_2 : Nat) (l0_2 : List Int) (a0_3 : Int) (a0_4 : Int) (a0_5 : Int) (a0_6 : Int) (a0_7 : Int) (A0_8 : Option Addr) (c0_8 : Nat) (l0_8 : List Int) (a1 : Int) (r : Bool) (w : World) (hr0_0 : Kd.C (Kd.int .u8) w A0_0 l0_0.length l0_0) (hc0_0 : l0_0.length ≤ c0_0) (hr0_2 : Kd.C (Kd.int .i64) w A0_2 l0_2.length l0_2) (hc0_2 : l0_2.length ≤ c0_2) (hr0_8 : Kd.C (Kd.int .u8) w A0_8 l0_8.length l0_8) (hc0_8 : l0_8.length ≤ c0_8) (h : laws_FnExactNeeds.f k l0_0 a0_1 l0_2 a0_3 a0_4 a0_5 a0_6 a0_7 l0_8 a1 = some true) :
  Calls Tryz.prog 5 #[.agg #[.slice A0_0 l0_0.length c0_0, .int .i64 a0_1, .slice A0_2 l0_2.length c0_2, .int .i64 a0_3, .int .i64 a0_4, .int .i64 a0_5, .int .i64 a0_6, .int .i64 a0_7, .slice A0_8 l0_8.length c0_8], .int .i64 a1] w fun e w' => e = .returned (.bool true) ∧ Below w.heap.size w w' := by
 have hu48 := underlying48
 have hu51 := underlying51
 have HR0_0 := Aside0.mk hr0_0
 have HC0_0 := Aside0.mk hc0_0
 clear hr0_0 hc0_0
 have HR0_2 := Aside0.mk hr0_2
 have HC0_2 := Aside0.mk hc0_2
 clear hr0_2 hc0_2
 have HR0_8 := Aside0.mk hr0_8
 have HC0_8 := Aside0.mk hc0_8
 clear hr0_8 hc0_8
 have HB := Aside0.mk (Below.refl w.heap.size w)
 have H : ((laws_szTask.f l0_0 a0_1 l0_2 a0_3 a0_4 a0_5 a0_6 a0_7 l0_8 1048576).bind fun t96 => (if t96 < 0 then (some true) else ((laws_toTask.f k l0_0 a0_1 l0_2 a0_3 a0_4 a0_5 a0_6 a0_7 l0_8).bind fun bt71 => ((spec_Needs.f k bt71.1 bt71.2.1 bt71.2.2.1 bt71.2.2.2.1 bt71.2.2.2.2.1 bt71.2.2.2.2.2.1 bt71.2.2.2.2.2.2.1 bt71.2.2.2.2.2.2.2.1 bt71.2.2.2.2.2.2.2.2 a1).bind fun t73 => ((laws_toTask.f k l0_0 a0_1 l0_2 a0_3 a0_4 a0_5 a0_6 a0_7 l0_8).bind fun bt28 => ((impl_Needs.f k bt28.1 bt28.2.1 bt28.2.2.1 bt28.2.2.2.1 bt28.2.2.2.2.1 bt28.2.2.2.2.2.1 bt28.2.2.2.2.2.2.1 bt28.2.2.2.2.2.2.2.1 bt28.2.2.2.2.2.2.2.2 a1).bind fun t45 => ((laws_eqIntS.f k t45 t73).bind fun t714 => (if t714 = true then ((laws_toTask.f k l0_0 a0_1 l0_2 a0_3 a0_4 a0_5 a0_6 a0_7 l0_8).bind fun bt77 => ((laws_eqTask.f k bt28.1 bt28.2.1 bt28.2.2.1 bt28.2.2.2.1 bt28.2.2.2.2.1 bt28.2.2.2.2.2.1 bt28.2.2.2.2.2.2.1 bt28.2.2.2.2.2.2.2.1 bt28.2.2.2.2.2.2.2.2 bt77.1 bt77.2.1 bt77.2.2.1 bt77.2.2.2.1 bt77.2.2.2.2.1 bt77.2.2.2.2.2.1 bt77.2.2.2.2.2.2.1 bt77.2.2.2.2.2.2.2.1 bt77.2.2.2.2.2.2.2.2).bind fun t730 => (if t730 = true then ((laws_markTask.f k bt28.1 bt28.2.1 bt28.2.2.1 bt28.2.2.2.1 bt28.2.2.2.2.1 bt28.2.2.2.2.2.1 bt28.2.2.2.2.2.2.1 bt28.2.2.2.2.2.2.2.1 bt28.2.2.2.2.2.2.2.2 1).bind fun bt99 => (if bt99.1 < 0 then (laws_FnExactNeeds.j0 k a1 t73 t45 true l0_0 a0_1 l0_2 a0_3 a0_4 a0_5 a0_6 a0_7 l0_8) else ((laws_eqIntS.f k t45 t73).bind fun t735 => (laws_FnExactNeeds.j0 k a1 t73 t45 (!t735) l0_0 a0_1 l0_2 a0_3 a0_4 a0_5 a0_6 a0_7 l0_8)))) else (some false)))) else (some false))))))))) = some true := h
 clear h
 obtain ⟨t96, A3, H⟩ := ob_ H
 by_cases c4 : t96 < 0
 ·rw [if_pos c4] at H
  replace c4 := dt_ c4
  clear H
  go_enter func5, ntmps5
  go_wp2_with (first | ((with_reducible refine gt_ 2 ?_); refine bo_ 2 #[.slice A0_0 l0_0.length c0_0, .int .i64 a0_1, .slice A0_2 l0_2.length c0_2, .int .i64 a0_3, .int .i64 a0_4, .int .i64 a0_5, .int .i64 a0_6, .int .i64 a0_7, .slice A0_8 l0_8.length c0_8] 48 ?_; intro gb22 hg w5 BK22 hb; have GE22 := gw_ (w := w) hg; replace HB := hs_ hb; clear hb hg; refine by9_ BK22 ?_; intros) | ((with_reducible refine gb_ 22 15 func22 #[.agg #[.slice A0_0 l0_0.length c0_0, .int .i64 a0_1, .slice A0_2 l0_2.length c0_2, .int .i64 a0_3, .int .i64 a0_4, .int .i64 a0_5, .int .i64 a0_6, .int .i64 a0_7, .slice A0_8 l0_8.length c0_8], .int .i64 1048576] (laws_szTask.calls _ _ l0_0 a0_1 _ _ l0_2 a0_3 a0_4 a0_5 a0_6 a0_7 _ _ l0_8 1048576 t96 _ (cb_ HR0_0 HB) HC0_0.out (cb_ HR0_2 HB) HC0_2.out (cb_ HR0_8 HB) HC0_8.out A3.out) fun w7 hb => ?_); replace BK22 := kb_ BK22 hb; replace HB := hs_ hb; clear hb))
  go_ret
  exact ⟨sq_, bl_⟩
 rw [if_neg c4] at H
 replace c4 := df_ c4
 obtain ⟨⟨t71, t680, t90, t684, t685, t686, t687, t688, t89⟩, A8, H⟩ := ob_ H
 (try dsimp only at H)
 obtain ⟨t73, A9, H⟩ := ob_ H
 obtain ⟨⟨t28, t78, t32, t79, t80, t81, t82, t83, t33⟩, A10, H⟩ := ob_ H
 (try dsimp only at H)
 obtain ⟨t45, A11, H⟩ := ob_ H
 obtain ⟨t714, A12, H⟩ := ob_ H
 by_cases c13 : t714 = true
 rotate_left
 ·replace c13 := gf_ c13
  subst c13
  replace H := in_ H
  exact absurd H (by simp)
 subst c13
 replace H := ip_ H
 obtain ⟨⟨t77, t718, t719, t722, t723, t724, t725, t726, t727⟩, A14, H⟩ := ob_ H
 (try dsimp only at H)
 obtain ⟨t730, A15, H⟩ := ob_ H
 by_cases c16 : t730 = true
 rotate_left
 ·replace c16 := gf_ c16
  subst c16
  replace H := in_ H
  exact absurd H (by simp)
 subst c16
 replace H := ip_ H
 obtain ⟨⟨t99, t732, t733, t734⟩, A17, H⟩ := ob_ H
 (try dsimp only at H)
 have HC18 := Aside0.mk H
 clear H
 go_enter func5, ntmps5
 try go_wp2_with (first | ((with_reducible refine gt_ 2 ?_); refine bo_ 2 #[.slice A0_0 l0_0.length c0_0, .int .i64 a0_1, .slice A0_2 l0_2.length c0_2, .int .i64 a0_3, .int .i64 a0_4, .int .i64 a0_5, .int .i64 a0_6, .int .i64 a0_7, .slice A0_8 l0_8.length c0_8] 48 ?_; intro gb22 hg w19 BK22 hb; have GE22 := gw_ (w := w) hg; replace HB := hs_ hb; clear hb hg; refine by9_ BK22 ?_; intros) | ((with_reducible refine gb_ 22 15 func22 #[.agg #[.slice A0_0 l0_0.length c0_0, .int .i64 a0_1, .slice A0_2 l0_2.length c0_2, .int .i64 a0_3, .int .i64 a0_4, .int .i64 a0_5, .int .i64 a0_6, .int .i64 a0_7, .slice A0_8 l0_8.length c0_8], .int .i64 1048576] (laws_szTask.calls _ _ l0_0 a0_1 _ _ l0_2 a0_3 a0_4 a0_5 a0_6 a0_7 _ _ l0_8 1048576 t96 _ (cb_ HR0_0 HB) HC0_0.out (cb_ HR0_2 HB) HC0_2.out (cb_ HR0_8 HB) HC0_8.out A3.out) fun w21 hb => ?_); replace BK22 := kb_ BK22 hb; replace HB := hs_ hb; clear hb; refine by9_ BK22 ?_; intros) | ((with_reducible refine gc_ 24 19 func24 #[.agg #[.slice A0_0 l0_0.length c0_0, .int .i64 a0_1, .slice A0_2 l0_2.length c0_2, .int .i64 a0_3, .int .i64 a0_4, .int .i64 a0_5, .int .i64 a0_6, .int .i64 a0_7, .slice A0_8 l0_8.length c0_8]] ?_); (with_reducible refine (laws_toTask.calls k _ _ l0_0 a0_1 _ _ l0_2 a0_3 a0_4 a0_5 a0_6 a0_7 _ _ l0_8 t71 t680 t90 t684 t685 t686 t687 t688 t89 _ (cb_ HR0_0 HB) HC0_0.out (cb_ HR0_2 HB) HC0_2.out (cb_ HR0_8 HB) HC0_8.out A8.out).mono ?_); rintro e w23 ⟨v678, v682, v690, rfl, ho0, ho1, ho2, hb⟩; refine ⟨_, rfl, ?_⟩; have HO74 := Aside0.mk (Kd.R_lower ho0 (below_size bl_)); have HO75 := Aside0.mk (Kd.R_lower ho1 (below_size bl_)); have HO76 := Aside0.mk (Kd.R_lower ho2 (below_size bl_)); replace BK22 := kb_ BK22 hb; replace HB := hs_ hb; clear hb; (try clear ho0); (try clear ho1); (try clear ho2); obtain ⟨Ao24, co24, eo24⟩ := Kd.R_slice HO74.out; subst eo24; obtain ⟨Ao25, co25, eo25⟩ := Kd.R_slice HO75.out; subst eo25; obtain ⟨Ao26, co26, eo26⟩ := Kd.R_slice HO76.out; subst eo26) | ((with_reducible refine gc_ 23 21 func23 #[.agg #[.slice Ao24 t71.length co24, .int .i64 t680, .slice Ao25 t90.length co25, .int .i64 t684, .int .i64 t685, .int .i64 t686, .int .i64 t687, .int .i64 t688, .slice Ao26 t89.length co26], .int .i64 a1] ?_); (with_reducible refine (spec_Needs.calls k _ _ t71 t680 _ _ t90 t684 t685 t686 t687 t688 _ _ t89 a1 t73 _ (ca_ ((Kd.R_reads' HO74.out).2.2)) ((Kd.R_reads' HO74.out).2.1) (ca_ ((Kd.R_reads' HO75.out).2.2)) ((Kd.R_reads' HO75.out).2.1) (ca_ ((Kd.R_reads' HO76.out).2.2)) ((Kd.R_reads' HO76.out).2.1) A9.out).mono ?_); rintro e w27 ⟨v693, rfl, ho0, hb⟩; refine ⟨_, rfl, ?_⟩; replace HO74 := Aside0.mk (Kd.R_below (ra_ HO74) hb); replace HO76 := Aside0.mk (Kd.R_below (ra_ HO76) hb); have HO72 := Aside0.mk (Kd.R_lower (Kd.R_new' ho0 (Kd.R_lt (ra_ HO75))) (below_size bl_)); replace HO75 := Aside0.mk (Kd.R_elder' (ra_ HO75) (Kd.R_base ho0) hb); replace BK22 := kb_ BK22 hb; replace HB := hs_ hb; clear hb; (try clear ho0); refine by9_ BK22 ?_; intros) | ((with_reducible refine gc_ 24 23 func24 #[.agg #[.slice A0_0 l0_0.length c0_0, .int .i64 a0_1, .slice A0_2 l0_2.length c0_2, .int .i64 a0_3, .int .i64 a0_4, .int .i64 a0_5, .int .i64 a0_6, .int .i64 a0_7, .slice A0_8 l0_8.length c0_8]] ?_); (with_reducible refine (laws_toTask.calls k _ _ l0_0 a0_1 _ _ l0_2 a0_3 a0_4 a0_5 a0_6 a0_7 _ _ l0_8 t28 t78 t32 t79 t80 t81 t82 t83 t33 _ (cb_ HR0_0 HB) HC0_0.out (cb_ HR0_2 HB) HC0_2.out (cb_ HR0_8 HB) HC0_8.out A10.out).mono ?_); rintro e w29 ⟨v696, v700, v708, rfl, ho0, ho1, ho2, hb⟩; refine ⟨_, rfl, ?_⟩; have HO62 := Aside0.mk (Kd.R_lower (Kd.R_new' (Kd.R_new' ho0 (Kd.R_lt (ra_ HO74))) (Kd.R_lt (ra_ HO76))) (below_size bl_)); have HO70 := Aside0.mk (Kd.R_lower (Kd.R_new' (Kd.R_new' ho1 (Kd.R_lt (ra_ HO75))) (Kd.R_lt (ra_ HO72))) (below_size bl_)); replace HO75 := Aside0.mk (Kd.R_elder' (ra_ HO75) (Kd.R_base ho1) hb); replace HO72 := Aside0.mk (Kd.R_elder' (ra_ HO72) (Kd.R_base ho1) hb); have HO63 := Aside0.mk (Kd.R_lower (Kd.R_new' (Kd.R_new' ho2 (Kd.R_lt (ra_ HO74))) (Kd.R_lt (ra_ HO76))) (below_size bl_)); replace HO74 := Aside0.mk (Kd.R_mono (Kd.R_told (Kd.R_told (Kd.R_old (ra_ HO74) hb) (Kd.R_base ho0)) (Kd.R_base ho2)) (fun _ h_ => h_.1)); replace HO76 := Aside0.mk (Kd.R_mono (Kd.R_told (Kd.R_told (Kd.R_old (ra_ HO76) hb) (Kd.R_base ho0)) (Kd.R_base ho2)) (fun _ h_ => h_.1)); replace BK22 := kb_ BK22 hb; replace HB := hs_ hb; clear hb; (try clear ho0); (try clear ho1); (try clear ho2)) | ((with_reducible refine gate_dst (N := 7) rfl ?_); refine be_ (N := 7) (cs := #[.slice none 0 0, .int .i64 0, .slice none 0 0, .int .i64 0, .int .i64 0, .int .i64 0, .int .i64 0, .int .i64 0, .slice none 0 0]) (t := 51) ?_; intro gb20 hg w30 hbox hb; replace HO74 := Aside0.mk (Kd.R_below (ra_ HO74) hb); replace HO75 := Aside0.mk (Kd.R_below (ra_ HO75) hb); replace HO76 := Aside0.mk (Kd.R_below (ra_ HO76) hb); replace HO72 := Aside0.mk (Kd.R_below (ra_ HO72) hb); replace HO62 := Aside0.mk (Kd.R_below (ra_ HO62) hb); replace HO70 := Aside0.mk (Kd.R_below (ra_ HO70) hb); replace HO63 := Aside0.mk (Kd.R_below (ra_ HO63) hb); have BK20 := Aside0.mk (hbox); have GE20 := gw_ (w := w) hg; replace HB := hs_ hb; have ⟨NB22_20, NB20_22⟩ := nb_ hg BK22; replace BK22 := kb_ BK22 hb; clear hb hbox hg; obtain ⟨Ao31, co31, eo31⟩ := Kd.R_slice HO62.out; subst eo31; have := NB20_22.out; have := NB22_20.out; refine by9_ BK20 ?_; intros; obtain ⟨Ao34, co34, eo34⟩ := Kd.R_slice HO70.out; subst eo34; obtain ⟨Ao35, co35, eo35⟩ := Kd.R_slice HO63.out; subst eo35) | ((with_reducible refine gc_ 25 26 func25 #[.agg #[.slice Ao31 t28.length co31, .int .i64 t78, .slice Ao34 t32.length co34, .int .i64 t79, .int .i64 t80, .int .i64 t81, .int .i64 t82, .int .i64 t83, .slice Ao35 t33.length co35], .int .i64 a1] ?_); (with_reducible refine (impl_Needs.calls k _ _ t28 t78 _ _ t32 t79 t80 t81 t82 t83 _ _ t33 a1 t45 _ ?side1 ((Kd.R_reads' HO62.out).2.1) ?side3 ((Kd.R_reads' HO70.out).2.1) ?side5 ((Kd.R_reads' HO63.out).2.1) A11.out).mono ?_); (case side1 => refine (Kd.R_reads' (e := 5) (base := w.heap.size) (ok := fun k_ => ((some k_ ≠ (.slice Ao35 t33.length co35 : Value).ownBlock ∧ some k_ ≠ (.slice Ao24 t71.length co24 : Value).ownBlock) ∧ some k_ ≠ (.slice Ao26 t89.length co26 : Value).ownBlock)) (n := t28.length) (c := co31) ?_).2.2; exact (by refine cr_ ?_; exact (Kd.R_mono (rf_ gb20 8 (rf_ gb20 7 (rf_ gb20 6 (rf_ gb20 5 (rf_ gb20 4 (rf_ gb20 3 (rf_ gb20 2 (rf_ gb20 1 (rf_ gb20 0 (Kd.R_types HO62.out BK20.out (by decide)) (.slice Ao31 t28.length co31)) (.int .i64 t78)) (.slice Ao34 t32.length co34)) (.int .i64 t79)) (.int .i64 t80)) (.int .i64 t81)) (.int .i64 t82)) (.int .i64 t83)) (.slice Ao35 t33.length co35)) (fun _ h_ => h_.1)))); (case side3 => refine (Kd.R_reads' (e := 3) (base := w.heap.size) (ok := fun k_ => ((True ∧ some k_ ≠ (.slice Ao25 t90.length co25 : Value).ownBlock) ∧ some k_ ≠ (v693 : Value).ownBlock)) (n := t32.length) (c := co34) ?_).2.2; exact (by refine cr_ ?_; exact (Kd.R_mono (rf_ gb20 8 (rf_ gb20 7 (rf_ gb20 6 (rf_ gb20 5 (rf_ gb20 4 (rf_ gb20 3 (rf_ gb20 2 (rf_ gb20 1 (rf_ gb20 0 (Kd.R_types HO70.out BK20.out (by decide)) (.slice Ao31 t28.length co31)) (.int .i64 t78)) (.slice Ao34 t32.length co34)) (.int .i64 t79)) (.int .i64 t80)) (.int .i64 t81)) (.int .i64 t82)) (.int .i64 t83)) (.slice Ao35 t33.length co35)) (fun _ h_ => h_.1)))); (case side5 => refine (Kd.R_reads' (e := 5) (base := w.heap.size) (ok := fun k_ => ((some k_ ≠ (.slice Ao31 t28.length co31 : Value).ownBlock ∧ some k_ ≠ (.slice Ao24 t71.length co24 : Value).ownBlock) ∧ some k_ ≠ (.slice Ao26 t89.length co26 : Value).ownBlock)) (n := t33.length) (c := co35) ?_).2.2; exact (by refine cr_ ?_; exact (Kd.R_mono (rf_ gb20 8 (rf_ gb20 7 (rf_ gb20 6 (rf_ gb20 5 (rf_ gb20 4 (rf_ gb20 3 (rf_ gb20 2 (rf_ gb20 1 (rf_ gb20 0 (Kd.R_types HO63.out BK20.out (by decide)) (.slice Ao31 t28.length co31)) (.int .i64 t78)) (.slice Ao34 t32.length co34)) (.int .i64 t79)) (.int .i64 t80)) (.int .i64 t81)) (.int .i64 t82)) (.int .i64 t83)) (.slice Ao35 t33.length co35)) (fun _ h_ => h_.1)))); rintro e w36 ⟨v712, rfl, ho0, hb⟩; refine ⟨_, rfl, ?_⟩; replace HO74 := Aside0.mk (Kd.R_below (by refine cr_ ?_; exact (Kd.R_mono (rf_ gb20 8 (rf_ gb20 7 (rf_ gb20 6 (rf_ gb20 5 (rf_ gb20 4 (rf_ gb20 3 (rf_ gb20 2 (rf_ gb20 1 (rf_ gb20 0 (Kd.R_types HO74.out BK20.out (by decide)) (.slice Ao31 t28.length co31)) (.int .i64 t78)) (.slice Ao34 t32.length co34)) (.int .i64 t79)) (.int .i64 t80)) (.int .i64 t81)) (.int .i64 t82)) (.int .i64 t83)) (.slice Ao35 t33.length co35)) (fun _ h_ => h_.1))) hb); replace HO76 := Aside0.mk (Kd.R_below (by refine cr_ ?_; exact (Kd.R_mono (rf_ gb20 8 (rf_ gb20 7 (rf_ gb20 6 (rf_ gb20 5 (rf_ gb20 4 (rf_ gb20 3 (rf_ gb20 2 (rf_ gb20 1 (rf_ gb20 0 (Kd.R_types HO76.out BK20.out (by decide)) (.slice Ao31 t28.length co31)) (.int .i64 t78)) (.slice Ao34 t32.length co34)) (.int .i64 t79)) (.int .i64 t80)) (.int .i64 t81)) (.int .i64 t82)) (.int .i64 t83)) (.slice Ao35 t33.length co35)) (fun _ h_ => h_.1))) hb); replace HO62 := Aside0.mk (Kd.R_below (by refine cr_ ?_; exact (Kd.R_mono (rf_ gb20 8 (rf_ gb20 7 (rf_ gb20 6 (rf_ gb20 5 (rf_ gb20 4 (rf_ gb20 3 (rf_ gb20 2 (rf_ gb20 1 (rf_ gb20 0 (Kd.R_types HO62.out BK20.out (by decide)) (.slice Ao31 t28.length co31)) (.int .i64 t78)) (.slice Ao34 t32.length co34)) (.int .i64 t79)) (.int .i64 t80)) (.int .i64 t81)) (.int .i64 t82)) (.int .i64 t83)) (.slice Ao35 t33.length co35)) (fun _ h_ => h_.1))) hb); replace HO63 := Aside0.mk (Kd.R_below (by refine cr_ ?_; exact (Kd.R_mono (rf_ gb20 8 (rf_ gb20 7 (rf_ gb20 6 (rf_ gb20 5 (rf_ gb20 4 (rf_ gb20 3 (rf_ gb20 2 (rf_ gb20 1 (rf_ gb20 0 (Kd.R_types HO63.out BK20.out (by decide)) (.slice Ao31 t28.length co31)) (.int .i64 t78)) (.slice Ao34 t32.length co34)) (.int .i64 t79)) (.int .i64 t80)) (.int .i64 t81)) (.int .i64 t82)) (.int .i64 t83)) (.slice Ao35 t33.length co35)) (fun _ h_ => h_.1))) hb); have HO84 := Aside0.mk (Kd.R_lower (Kd.R_new' (Kd.R_new' (Kd.R_new' ho0 (Kd.R_lt (by refine cr_ ?_; exact (Kd.R_mono (rf_ gb20 8 (rf_ gb20 7 (rf_ gb20 6 (rf_ gb20 5 (rf_ gb20 4 (rf_ gb20 3 (rf_ gb20 2 (rf_ gb20 1 (rf_ gb20 0 (Kd.R_types HO75.out BK20.out (by decide)) (.slice Ao31 t28.length co31)) (.int .i64 t78)) (.slice Ao34 t32.length co34)) (.int .i64 t79)) (.int .i64 t80)) (.int .i64 t81)) (.int .i64 t82)) (.int .i64 t83)) (.slice Ao35 t33.length co35)) (fun _ h_ => h_.1))))) (Kd.R_lt (by refine cr_ ?_; exact (Kd.R_mono (rf_ gb20 8 (rf_ gb20 7 (rf_ gb20 6 (rf_ gb20 5 (rf_ gb20 4 (rf_ gb20 3 (rf_ gb20 2 (rf_ gb20 1 (rf_ gb20 0 (Kd.R_types HO72.out BK20.out (by decide)) (.slice Ao31 t28.length co31)) (.int .i64 t78)) (.slice Ao34 t32.length co34)) (.int .i64 t79)) (.int .i64 t80)) (.int .i64 t81)) (.int .i64 t82)) (.int .i64 t83)) (.slice Ao35 t33.length co35)) (fun _ h_ => h_.1))))) (Kd.R_lt (by refine cr_ ?_; exact (Kd.R_mono (rf_ gb20 8 (rf_ gb20 7 (rf_ gb20 6 (rf_ gb20 5 (rf_ gb20 4 (rf_ gb20 3 (rf_ gb20 2 (rf_ gb20 1 (rf_ gb20 0 (Kd.R_types HO70.out BK20.out (by decide)) (.slice Ao31 t28.length co31)) (.int .i64 t78)) (.slice Ao34 t32.length co34)) (.int .i64 t79)) (.int .i64 t80)) (.int .i64 t81)) (.int .i64 t82)) (.int .i64 t83)) (.slice Ao35 t33.length co35)) (fun _ h_ => h_.1))))) (below_size bl_)); replace HO75 := Aside0.mk (Kd.R_elder' (by refine cr_ ?_; exact (Kd.R_mono (rf_ gb20 8 (rf_ gb20 7 (rf_ gb20 6 (rf_ gb20 5 (rf_ gb20 4 (rf_ gb20 3 (rf_ gb20 2 (rf_ gb20 1 (rf_ gb20 0 (Kd.R_types HO75.out BK20.out (by decide)) (.slice Ao31 t28.length co31)) (.int .i64 t78)) (.slice Ao34 t32.length co34)) (.int .i64 t79)) (.int .i64 t80)) (.int .i64 t81)) (.int .i64 t82)) (.int .i64 t83)) (.slice Ao35 t33.length co35)) (fun _ h_ => h_.1))) (Kd.R_base ho0) hb); replace HO72 := Aside0.mk (Kd.R_elder' (by refine cr_ ?_; exact (Kd.R_mono (rf_ gb20 8 (rf_ gb20 7 (rf_ gb20 6 (rf_ gb20 5 (rf_ gb20 4 (rf_ gb20 3 (rf_ gb20 2 (rf_ gb20 1 (rf_ gb20 0 (Kd.R_types HO72.out BK20.out (by decide)) (.slice Ao31 t28.length co31)) (.int .i64 t78)) (.slice Ao34 t32.length co34)) (.int .i64 t79)) (.int .i64 t80)) (.int .i64 t81)) (.int .i64 t82)) (.int .i64 t83)) (.slice Ao35 t33.length co35)) (fun _ h_ => h_.1))) (Kd.R_base ho0) hb); replace HO70 := Aside0.mk (Kd.R_elder' (by refine cr_ ?_; exact (Kd.R_mono (rf_ gb20 8 (rf_ gb20 7 (rf_ gb20 6 (rf_ gb20 5 (rf_ gb20 4 (rf_ gb20 3 (rf_ gb20 2 (rf_ gb20 1 (rf_ gb20 0 (Kd.R_types HO70.out BK20.out (by decide)) (.slice Ao31 t28.length co31)) (.int .i64 t78)) (.slice Ao34 t32.length co34)) (.int .i64 t79)) (.int .i64 t80)) (.int .i64 t81)) (.int .i64 t82)) (.int .i64 t83)) (.slice Ao35 t33.length co35)) (fun _ h_ => h_.1))) (Kd.R_base ho0) hb); replace BK22 := Aside0.mk (blk_below (g := gb22) (o := .cells #[.slice A0_0 l0_0.length c0_0, .int .i64 a0_1, .slice A0_2 l0_2.length c0_2, .int .i64 a0_3, .int .i64 a0_4, .int .i64 a0_5, .int .i64 a0_6, .int .i64 a0_7, .slice A0_8 l0_8.length c0_8] 48 (0, 0)) (by refine ch_ ?_; refine bf_ NB22_20 ?_; refine bf_ NB22_20 ?_; refine bf_ NB22_20 ?_; refine bf_ NB22_20 ?_; refine bf_ NB22_20 ?_; refine bf_ NB22_20 ?_; refine bf_ NB22_20 ?_; refine bf_ NB22_20 ?_; exact bf_ NB22_20 BK22.out) hb); replace BK20 := Aside0.mk (blk_below (g := gb20) (o := .cells #[.slice Ao31 t28.length co31, .int .i64 t78, .slice Ao34 t32.length co34, .int .i64 t79, .int .i64 t80, .int .i64 t81, .int .i64 t82, .int .i64 t83, .slice Ao35 t33.length co35] 51 (0, 0)) (by refine ch_ ?_; apply bq9_8_7_6_5_4_3_2_1_0_; exact ch_ BK20.out) hb); replace HB := hs_ hb; clear hb; (try clear ho0); obtain ⟨Ao37, co37, eo37⟩ := Kd.R_slice HO84.out; subst eo37; obtain ⟨Ao38, co38, eo38⟩ := Kd.R_slice HO72.out; subst eo38) | ((with_reducible refine gd_ 26 29 func26 #[.slice Ao37 t45.length co37, .slice Ao38 t73.length co38] (laws_eqIntS.calls k _ _ t45 _ _ t73 true _ (ca_ ((Kd.R_reads' HO84.out).2.2)) ((Kd.R_reads' HO84.out).2.1) (ca_ ((Kd.R_reads' HO72.out).2.2)) ((Kd.R_reads' HO72.out).2.1) A12.out) fun nd => ?_)))
 (try (rw [drewN_self w36]; generalize hq_ : World.drewN w36 _ = w36; have n0_ : Aside0 (Kd.R (Kd.int .u8) 5 w36 w.heap.size (fun k_ => some k_ ≠ (.slice Ao26 t89.length co26 : Value).ownBlock ∧ some k_ ≠ (.slice Ao31 t28.length co31 : Value).ownBlock ∧ some k_ ≠ (.slice Ao35 t33.length co35 : Value).ownBlock) (.slice Ao24 t71.length co24) t71) := ⟨by rw [← hq_]; exact (by refine cr_ ?_; exact Kd.R_mono HO74.out (fun _ hk => ⟨hk.1.1, ⟨hk.1.2, hk.2⟩⟩))⟩; have n1_ : Aside0 (Kd.R (Kd.int .i64) 3 w36 w.heap.size (fun k_ => some k_ ≠ (.slice Ao38 t73.length co38 : Value).ownBlock ∧ some k_ ≠ (.slice Ao34 t32.length co34 : Value).ownBlock ∧ some k_ ≠ (.slice Ao37 t45.length co37 : Value).ownBlock) (.slice Ao25 t90.length co25) t90) := ⟨by rw [← hq_]; exact (by refine cr_ ?_; exact Kd.R_mono HO75.out (fun _ hk => ⟨hk.1.1.2, ⟨hk.1.2, hk.2⟩⟩))⟩; have n2_ : Aside0 (Kd.R (Kd.int .u8) 5 w36 w.heap.size (fun k_ => some k_ ≠ (.slice Ao24 t71.length co24 : Value).ownBlock ∧ some k_ ≠ (.slice Ao31 t28.length co31 : Value).ownBlock ∧ some k_ ≠ (.slice Ao35 t33.length co35 : Value).ownBlock) (.slice Ao26 t89.length co26) t89) := ⟨by rw [← hq_]; exact (by refine cr_ ?_; exact Kd.R_mono HO76.out (fun _ hk => ⟨hk.1.1, ⟨hk.1.2, hk.2⟩⟩))⟩; have n3_ : Aside0 (Kd.R (Kd.int .i64) 3 w36 w.heap.size (fun k_ => some k_ ≠ (.slice Ao25 t90.length co25 : Value).ownBlock ∧ some k_ ≠ (.slice Ao34 t32.length co34 : Value).ownBlock ∧ some k_ ≠ (.slice Ao37 t45.length co37 : Value).ownBlock) (.slice Ao38 t73.length co38) t73) := ⟨by rw [← hq_]; exact (by refine cr_ ?_; exact Kd.R_mono HO72.out (fun _ hk => ⟨hk.1.1.2, ⟨hk.1.2, hk.2⟩⟩))⟩; have n4_ : Aside0 (Kd.R (Kd.int .u8) 5 w36 w.heap.size (fun k_ => some k_ ≠ (.slice Ao24 t71.length co24 : Value).ownBlock ∧ some k_ ≠ (.slice Ao26 t89.length co26 : Value).ownBlock ∧ some k_ ≠ (.slice Ao35 t33.length co35 : Value).ownBlock) (.slice Ao31 t28.length co31) t28) := ⟨by rw [← hq_]; exact (by refine cr_ ?_; exact Kd.R_mono HO62.out (fun _ hk => ⟨hk.1.2, ⟨hk.2, hk.1.1⟩⟩))⟩; have n5_ : Aside0 (Kd.R (Kd.int .i64) 3 w36 w.heap.size (fun k_ => some k_ ≠ (.slice Ao25 t90.length co25 : Value).ownBlock ∧ some k_ ≠ (.slice Ao38 t73.length co38 : Value).ownBlock ∧ some k_ ≠ (.slice Ao37 t45.length co37 : Value).ownBlock) (.slice Ao34 t32.length co34) t32) := ⟨by rw [← hq_]; exact (by refine cr_ ?_; exact Kd.R_mono HO70.out (fun _ hk => ⟨hk.1.1.2, ⟨hk.1.2, hk.2⟩⟩))⟩; have n6_ : Aside0 (Kd.R (Kd.int .u8) 5 w36 w.heap.size (fun k_ => some k_ ≠ (.slice Ao24 t71.length co24 : Value).ownBlock ∧ some k_ ≠ (.slice Ao26 t89.length co26 : Value).ownBlock ∧ some k_ ≠ (.slice Ao31 t28.length co31 : Value).ownBlock) (.slice Ao35 t33.length co35) t33) := ⟨by rw [← hq_]; exact (by refine cr_ ?_; exact Kd.R_mono HO63.out (fun _ hk => ⟨hk.1.2, ⟨hk.2, hk.1.1⟩⟩))⟩; have n7_ : Aside0 (Kd.R (Kd.int .i64) 3 w36 w.heap.size (fun k_ => some k_ ≠ (.slice Ao25 t90.length co25 : Value).ownBlock ∧ some k_ ≠ (.slice Ao38 t73.length co38 : Value).ownBlock ∧ some k_ ≠ (.slice Ao34 t32.length co34 : Value).ownBlock) (.slice Ao37 t45.length co37) t45) := ⟨by rw [← hq_]; exact (by refine cr_ ?_; exact Kd.R_mono HO84.out (fun _ hk => ⟨hk.1.1.2, ⟨hk.1.2, hk.2⟩⟩))⟩; have n8_ : Aside0 (w36.heap[gb22]? = some (.cells #[.slice A0_0 l0_0.length c0_0, .int .i64 a0_1, .slice A0_2 l0_2.length c0_2, .int .i64 a0_3, .int .i64 a0_4, .int .i64 a0_5, .int .i64 a0_6, .int .i64 a0_7, .slice A0_8 l0_8.length c0_8] 48 (0, 0))) := ⟨by rw [← hq_]; exact (ch_ BK22.out)⟩; have n9_ : Aside0 (w36.heap[gb20]? = some (.cells #[.slice Ao31 t28.length co31, .int .i64 t78, .slice Ao34 t32.length co34, .int .i64 t79, .int .i64 t80, .int .i64 t81, .int .i64 t82, .int .i64 t83, .slice Ao35 t33.length co35] 51 (0, 0))) := ⟨by rw [← hq_]; exact (ch_ BK20.out)⟩; have n10_ : Aside0 (Below w.heap.size w w36) := ⟨by rw [← hq_]; exact bl_⟩; clear HO74 HO75 HO76 HO72 HO62 HO70 HO63 HO84 BK22 BK20 HB hq_; have HO74 := n0_; have HO75 := n1_; have HO76 := n2_; have HO72 := n3_; have HO62 := n4_; have HO70 := n5_; have HO63 := n6_; have HO84 := n7_; have BK22 := n8_; have BK20 := n9_; have HB := n10_; clear n0_ n1_ n2_ n3_ n4_ n5_ n6_ n7_ n8_ n9_ n10_))
 have n0_ := Aside0.mk (Kd.R_drew HO74.out)
 have n1_ := Aside0.mk (Kd.R_drew HO75.out)
 have n2_ := Aside0.mk (Kd.R_drew HO76.out)
 have n3_ := Aside0.mk (Kd.R_drew HO72.out)
 have n4_ := Aside0.mk (Kd.R_drew HO62.out)
 have n5_ := Aside0.mk (Kd.R_drew HO70.out)
 have n6_ := Aside0.mk (Kd.R_drew HO63.out)
 have n7_ := Aside0.mk (Kd.R_drew HO84.out)
 have n8_ := Aside0.mk (blk_drew BK22.out)
 have n9_ := Aside0.mk (blk_drew BK20.out)
 have n10_ := Aside0.mk (below_drew1 HB.out)
 clear HO74
 clear HO75
 clear HO76
 clear HO72
 clear HO62
 clear HO70
 clear HO63
 clear HO84
 clear BK22
 clear BK20
 clear HB
 have HO74 := n0_
 have HO75 := n1_
 have HO76 := n2_
 have HO72 := n3_
 have HO62 := n4_
 have HO70 := n5_
 have HO63 := n6_
 have HO84 := n7_
 have BK22 := n8_
 have BK20 := n9_
 have HB := n10_
 clear n0_ n1_ n2_ n3_ n4_ n5_ n6_ n7_ n8_ n9_ n10_
 refine start_ (n := 5) (S := fun w' => w'.cell? ⟨gb20, 0, none⟩ = some (.slice Ao31 t28.length co31) ∧ w'.cell? ⟨gb20, 1, none⟩ = some (.int .i64 t78) ∧ w'.cell? ⟨gb20, 2, none⟩ = some (.slice Ao34 t32.length co34) ∧ w'.cell? ⟨gb20, 3, none⟩ = some (.int .i64 t79) ∧ w'.cell? ⟨gb20, 4, none⟩ = some (.int .i64 t80) ∧ w'.cell? ⟨gb20, 5, none⟩ = some (.int .i64 t81) ∧ w'.cell? ⟨gb20, 6, none⟩ = some (.int .i64 t82) ∧ w'.cell? ⟨gb20, 7, none⟩ = some (.int .i64 t83) ∧ w'.cell? ⟨gb20, 8, none⟩ = some (.slice Ao35 t33.length co35) ∧ w'.cell? ⟨gb22, 0, none⟩ = some (.slice A0_0 l0_0.length c0_0) ∧ w'.cell? ⟨gb22, 1, none⟩ = some (.int .i64 a0_1) ∧ w'.cell? ⟨gb22, 2, none⟩ = some (.slice A0_2 l0_2.length c0_2) ∧ w'.cell? ⟨gb22, 3, none⟩ = some (.int .i64 a0_3) ∧ w'.cell? ⟨gb22, 4, none⟩ = some (.int .i64 a0_4) ∧ w'.cell? ⟨gb22, 5, none⟩ = some (.int .i64 a0_5) ∧ w'.cell? ⟨gb22, 6, none⟩ = some (.int .i64 a0_6) ∧ w'.cell? ⟨gb22, 7, none⟩ = some (.int .i64 a0_7) ∧ w'.cell? ⟨gb22, 8, none⟩ = some (.slice A0_8 l0_8.length c0_8)) (ds := []) #[false, false, false, false, false] (by kernel_rfl) rfl rfl ⟨cy_ BK20 0, cy_ BK20 1, cy_ BK20 2, cy_ BK20 3, cy_ BK20 4, cy_ BK20 5, cy_ BK20 6, cy_ BK20 7, cy_ BK20 8, cy_ BK22 0, cy_ BK22 1, cy_ BK22 2, cy_ BK22 3, cy_ BK22 4, cy_ BK22 5, cy_ BK22 6, cy_ BK22 7, cy_ BK22 8⟩ (fun hHeld => ?_)
 generalize w36.drew = w39 at HO74 HO75 HO76 HO72 HO62 HO70 HO63 HO84 BK22 BK20 HB hHeld ⊢
 refine take_ (i := 0) (N := some 31) (v := ?_) (a' := ?_) #[true, false, false, false, false] rfl rfl (by kernel_rfl) (fun _ _ _ h => h) (Or.inl ⟨by rfl, ?_⟩) hHeld ?_ ?_
 rotate_left
 ·rintro w' ⟨s0, s1, s2, s3, s4, s5, s6, s7, s8, s9, s10, s11, s12, s13, s14, s15, s16, s17⟩
  go_simp
  with_reducible rfl
 rotate_left
 ·simp only [Act.put, q_]
  rfl
 refine take_ (i := 1) (N := some 32) (v := ?_) (a' := ?_) #[true, true, false, false, false] rfl rfl (by kernel_rfl) (fun _ _ _ h => h) (Or.inl ⟨by rfl, ?_⟩) hHeld ?_ ?_
 rotate_left
 ·rintro w' ⟨s0, s1, s2, s3, s4, s5, s6, s7, s8, s9, s10, s11, s12, s13, s14, s15, s16, s17⟩
  go_simp
  with_reducible rfl
 rotate_left
 ·simp only [Act.put, q_]
  rfl
 refine one_ (i := 2) (N := some 33) #[true, true, true, false, false] rfl rfl (by kernel_rfl) (by decide) (fun K hK => ?_)
 refine goes_ func24 (by kernel_rfl) rfl #[.agg #[.slice A0_0 l0_0.length c0_0, .int .i64 a0_1, .slice A0_2 l0_2.length c0_2, .int .i64 a0_3, .int .i64 a0_4, .int .i64 a0_5, .int .i64 a0_6, .int .i64 a0_7, .slice A0_8 l0_8.length c0_8]] (by rfl) rfl rfl gl_ ?_
 with_reducible refine (laws_toTask.calls k _ _ l0_0 a0_1 _ _ l0_2 a0_3 a0_4 a0_5 a0_6 a0_7 _ _ l0_8 t77 t718 t719 t722 t723 t724 t725 t726 t727 _ ?side1 ?side2 ?side3 ?side4 ?side5 ?side6 A14.out).mono ?_
 (case side1 => exact ca_ (Kd.C_below HR0_0.out HB.out))
 (case side2 => exact HC0_0.out)
 (case side3 => exact ca_ (Kd.C_below HR0_2.out HB.out))
 (case side4 => exact HC0_2.out)
 (case side5 => exact ca_ (Kd.C_below HR0_8.out HB.out))
 (case side6 => exact HC0_8.out)
 rintro e w40 ⟨v716, v720, v728, rfl, ho0, ho1, ho2, hb⟩
 refine ⟨_, rfl, ?_⟩
 have n0_ := Aside0.mk (Kd.R_mono (Kd.R_told (Kd.R_told (Kd.R_old (ra_ HO74) hb) (Kd.R_base ho0)) (Kd.R_base ho2)) (fun _ h_ => h_.1))
 have n1_ := Aside0.mk (Kd.R_elder' (ra_ HO75) (Kd.R_base ho1) hb)
 have n2_ := Aside0.mk (Kd.R_mono (Kd.R_told (Kd.R_told (Kd.R_old (ra_ HO76) hb) (Kd.R_base ho0)) (Kd.R_base ho2)) (fun _ h_ => h_.1))
 have n3_ := Aside0.mk (Kd.R_elder' (ra_ HO72) (Kd.R_base ho1) hb)
 have n4_ := Aside0.mk (Kd.R_mono (Kd.R_told (Kd.R_told (Kd.R_old (ra_ HO62) hb) (Kd.R_base ho0)) (Kd.R_base ho2)) (fun _ h_ => h_.1))
 have n5_ := Aside0.mk (Kd.R_elder' (ra_ HO70) (Kd.R_base ho1) hb)
 have n6_ := Aside0.mk (Kd.R_mono (Kd.R_told (Kd.R_told (Kd.R_old (ra_ HO63) hb) (Kd.R_base ho0)) (Kd.R_base ho2)) (fun _ h_ => h_.1))
 have n7_ := Aside0.mk (Kd.R_elder' (ra_ HO84) (Kd.R_base ho1) hb)
 have n8_ := Aside0.mk (Kd.R_lower (Kd.R_new' (Kd.R_new' (Kd.R_new' (Kd.R_new' ho0 (Kd.R_lt (ra_ HO74))) (Kd.R_lt (ra_ HO76))) (Kd.R_lt (ra_ HO62))) (Kd.R_lt (ra_ HO63))) (below_size bl_))
 have n9_ := Aside0.mk (Kd.R_lower (Kd.R_new' (Kd.R_new' (Kd.R_new' (Kd.R_new' ho1 (Kd.R_lt (ra_ HO75))) (Kd.R_lt (ra_ HO72))) (Kd.R_lt (ra_ HO70))) (Kd.R_lt (ra_ HO84))) (below_size bl_))
 have n10_ := Aside0.mk (Kd.R_lower (Kd.R_new' (Kd.R_new' (Kd.R_new' (Kd.R_new' ho2 (Kd.R_lt (ra_ HO74))) (Kd.R_lt (ra_ HO76))) (Kd.R_lt (ra_ HO62))) (Kd.R_lt (ra_ HO63))) (below_size bl_))
 have n11_ := Aside0.mk (blk_below (bk_ BK22) hb)
 have n12_ := Aside0.mk (blk_below (bk_ BK20) hb)
 have n13_ := Aside0.mk (below_step bl_ hb)
 clear HO74
 clear HO75
 clear HO76
 clear HO72
 clear HO62
 clear HO70
 clear HO63
 clear HO84
 clear BK22
 clear BK20
 clear HB
 have HO74 := n0_
 have HO75 := n1_
 have HO76 := n2_
 have HO72 := n3_
 have HO62 := n4_
 have HO70 := n5_
 have HO63 := n6_
 have HO84 := n7_
 have HO93 := n8_
 have HO94 := n9_
 have HO95 := n10_
 have BK22 := n11_
 have BK20 := n12_
 have HB := n13_
 clear n0_ n1_ n2_ n3_ n4_ n5_ n6_ n7_ n8_ n9_ n10_ n11_ n12_ n13_
 (try clear hb)
 (try clear hb2)
 (try clear hk)
 (try clear hi)
 (try clear ho0)
 (try clear ho1)
 (try clear ho2)
 obtain ⟨Ao41, co41, eo41⟩ := Kd.R_slice HO93.out
 (first | subst eo41 | (injection eo41 with f1_ f2_ f3_; have f4_ := f1_.symm; have f5_ := f3_.symm; clear f1_ f2_ f3_; subst f4_; subst f5_))
 obtain ⟨Ao42, co42, eo42⟩ := Kd.R_slice HO94.out
 (first | subst eo42 | (injection eo42 with f1_ f2_ f3_; have f4_ := f1_.symm; have f5_ := f3_.symm; clear f1_ f2_ f3_; subst f4_; subst f5_))
 obtain ⟨Ao43, co43, eo43⟩ := Kd.R_slice HO95.out
 (first | subst eo43 | (injection eo43 with f1_ f2_ f3_; have f4_ := f1_.symm; have f5_ := f3_.symm; clear f1_ f2_ f3_; subst f4_; subst f5_))
 refine hK.out _ _ ⟨cy_ BK20 0, cy_ BK20 1, cy_ BK20 2, cy_ BK20 3, cy_ BK20 4, cy_ BK20 5, cy_ BK20 6, cy_ BK20 7, cy_ BK20 8, cy_ BK22 0, cy_ BK22 1, cy_ BK22 2, cy_ BK22 3, cy_ BK22 4, cy_ BK22 5, cy_ BK22 6, cy_ BK22 7, cy_ BK22 8⟩ (fun hHeld => ?_)
 clear hK K
 refine norm_ (a' := ?_) ?_ ?_
 rotate_left
 ·show Act.put _ (some 33) _ = _
  simp only [Act.put, q_]
  rfl
 refine one_ (i := 3) (N := some 34) #[true, true, true, true, false] rfl rfl (by kernel_rfl) (by decide) (fun K hK => ?_)
 refine goes_ func27 (by kernel_rfl) rfl #[.agg #[.slice Ao31 t28.length co31, .int .i64 t78, .slice Ao34 t32.length co34, .int .i64 t79, .int .i64 t80, .int .i64 t81, .int .i64 t82, .int .i64 t83, .slice Ao35 t33.length co35], .agg #[.slice Ao41 t77.length co41, .int .i64 t718, .slice Ao42 t719.length co42, .int .i64 t722, .int .i64 t723, .int .i64 t724, .int .i64 t725, .int .i64 t726, .slice Ao43 t727.length co43]] (by rfl) rfl rfl gl_ ?_
 with_reducible refine (laws_eqTask.calls k _ _ t28 t78 _ _ t32 t79 t80 t81 t82 t83 _ _ t33 _ _ t77 t718 _ _ t719 t722 t723 t724 t725 t726 _ _ t727 true _ ?side1 ?side2 ?side3 ?side4 ?side5 ?side6 ?side7 ?side8 ?side9 ?side10 ?side11 ?side12 A15.out).mono ?_
 (case side1 => exact ca_ ((Kd.R_reads' HO62.out).2.2))
 (case side2 => exact (Kd.R_reads' HO62.out).2.1)
 (case side3 => exact ca_ ((Kd.R_reads' HO70.out).2.2))
 (case side4 => exact (Kd.R_reads' HO70.out).2.1)
 (case side5 => exact ca_ ((Kd.R_reads' HO63.out).2.2))
 (case side6 => exact (Kd.R_reads' HO63.out).2.1)
 (case side7 => exact ca_ ((Kd.R_reads' HO93.out).2.2))
 (case side8 => exact (Kd.R_reads' HO93.out).2.1)
 (case side9 => exact ca_ ((Kd.R_reads' HO94.out).2.2))
 (case side10 => exact (Kd.R_reads' HO94.out).2.1)
 (case side11 => exact ca_ ((Kd.R_reads' HO95.out).2.2))
 (case side12 => exact (Kd.R_reads' HO95.out).2.1)
 rintro e w44 ⟨rfl, hb⟩
 refine ⟨_, rfl, ?_⟩
 have n0_ := Aside0.mk (Kd.R_below (ra_ HO74) hb)
 have n1_ := Aside0.mk (Kd.R_below (ra_ HO75) hb)
 have n2_ := Aside0.mk (Kd.R_below (ra_ HO76) hb)
 have n3_ := Aside0.mk (Kd.R_below (ra_ HO72) hb)
 have n4_ := Aside0.mk (Kd.R_below (ra_ HO62) hb)
 have n5_ := Aside0.mk (Kd.R_below (ra_ HO70) hb)
 have n6_ := Aside0.mk (Kd.R_below (ra_ HO63) hb)
 have n7_ := Aside0.mk (Kd.R_below (ra_ HO84) hb)
 have n8_ := Aside0.mk (Kd.R_below (ra_ HO93) hb)
 have n9_ := Aside0.mk (Kd.R_below (ra_ HO94) hb)
 have n10_ := Aside0.mk (Kd.R_below (ra_ HO95) hb)
 have n11_ := Aside0.mk (blk_below (bk_ BK22) hb)
 have n12_ := Aside0.mk (blk_below (bk_ BK20) hb)
 have n13_ := Aside0.mk (below_step bl_ hb)
 clear HO74
 clear HO75
 clear HO76
 clear HO72
 clear HO62
 clear HO70
 clear HO63
 clear HO84
 clear HO93
 clear HO94
 clear HO95
 clear BK22
 clear BK20
 clear HB
 have HO74 := n0_
 have HO75 := n1_
 have HO76 := n2_
 have HO72 := n3_
 have HO62 := n4_
 have HO70 := n5_
 have HO63 := n6_
 have HO84 := n7_
 have HO93 := n8_
 have HO94 := n9_
 have HO95 := n10_
 have BK22 := n11_
 have BK20 := n12_
 have HB := n13_
 clear n0_ n1_ n2_ n3_ n4_ n5_ n6_ n7_ n8_ n9_ n10_ n11_ n12_ n13_
 (try clear hb)
 (try clear hb2)
 (try clear hk)
 (try clear hi)
 refine hK.out _ _ ⟨cy_ BK20 0, cy_ BK20 1, cy_ BK20 2, cy_ BK20 3, cy_ BK20 4, cy_ BK20 5, cy_ BK20 6, cy_ BK20 7, cy_ BK20 8, cy_ BK22 0, cy_ BK22 1, cy_ BK22 2, cy_ BK22 3, cy_ BK22 4, cy_ BK22 5, cy_ BK22 6, cy_ BK22 7, cy_ BK22 8⟩ (fun hHeld => ?_)
 clear hK K
 refine norm_ (a' := ?_) ?_ ?_
 rotate_left
 ·show Act.put _ (some 34) _ = _
  simp only [Act.put, q_]
  rfl
 refine pure_ (i := 4) (N := some 35) (v := ?_) (a' := ?_) #[true, true, true, true, true] rfl rfl (by kernel_rfl) (fun _ _ _ h => h) (Or.inl ⟨by rfl, ?_⟩) ?_ ?_
 rotate_left
 ·intro w'
  go_simp
  with_reducible rfl
 rotate_left
 ·simp only [Act.put, q_]
  rfl
 refine done_ (by kernel_rfl) ?_
 refine by9_ BK20 ?_; intros
 go_upto_region 14 with (first | ((with_reducible refine gc_ 28 38 func28 #[.agg #[.slice Ao31 t28.length co31, .int .i64 t78, .slice Ao34 t32.length co34, .int .i64 t79, .int .i64 t80, .int .i64 t81, .int .i64 t82, .int .i64 t83, .slice Ao35 t33.length co35], .int .i64 1] ?_); (with_reducible refine (laws_markTask.calls k (fun k_ => some k_ = (.slice Ao31 t28.length co31 : Value).ownBlock) (.slice Ao31 t28.length co31) t28 t78 (fun k_ => some k_ = (.slice Ao34 t32.length co34 : Value).ownBlock) (.slice Ao34 t32.length co34) t32 t79 t80 t81 t82 t83 (fun k_ => some k_ = (.slice Ao35 t33.length co35 : Value).ownBlock) (.slice Ao35 t33.length co35) t33 1 t99 t732 t733 t734 w _ ?side1 ?side2 ?side3 ?side4 ?side5 ?side6 A17.out).mono ?_); (case side1 => repeat (first | (with_reducible first | exact HB.out | apply below_alloc | apply pw_below_drewN | apply below_drew1 | refine below_set ?_ GE22.out | refine below_set ?_ GE20.out) | exact HB.out)); (case side2 => exact Kd.R_tight rfl HO62.out); (case side3 => exact fun k_ e_ => ky_ (HO62.out.1 k_ e_.symm)); (case side4 => exact Kd.R_tight rfl HO70.out); (case side5 => exact Kd.R_tight rfl HO63.out); (case side6 => exact fun k_ e_ => ky_ (HO63.out.1 k_ e_.symm)); rintro e w46 ⟨rfl, hy0, hy1, hy2, hb, hkp⟩; refine ⟨_, rfl, ?_⟩; replace BK22 := Aside0.mk (blk_kept (ch_ BK22.out) hkp (fun hs_ => Or.elim hs_ (fun e_ => (fun e_ => (Kd.R_ne HO62.out BK22.out (by decide)) e_) e_) (fun e_ => Or.elim e_ (fun e_ => (fun e_ => (Kd.R_ne HO70.out BK22.out (by decide)) e_) e_) (fun e_ => (fun e_ => (Kd.R_ne HO63.out BK22.out (by decide)) e_) e_)))); replace HO74 := Aside0.mk (Kd.R_mono (ok' := fun k_ => some k_ ≠ (.slice Ao26 t89.length co26 : Value).ownBlock ∧ some k_ ≠ (.slice Ao31 t28.length co31 : Value).ownBlock ∧ some k_ ≠ (.slice Ao35 t33.length co35 : Value).ownBlock ∧ some k_ ≠ (.slice Ao41 t77.length co41 : Value).ownBlock ∧ some k_ ≠ (.slice Ao43 t727.length co43 : Value).ownBlock) (Kd.R_keptB ((Kd.R_apart' HO74.out (Kd.R_typed HO70.out) (by decide))) hkp (fun k_ hk_ hs_ => kx_ hk_ hs_)) (fun k_ hk_ => ky_ hk_)); replace HO75 := Aside0.mk (Kd.R_mono (ok' := fun k_ => some k_ ≠ (.slice Ao38 t73.length co38 : Value).ownBlock ∧ some k_ ≠ (.slice Ao34 t32.length co34 : Value).ownBlock ∧ some k_ ≠ (.slice Ao37 t45.length co37 : Value).ownBlock ∧ some k_ ≠ (.slice Ao42 t719.length co42 : Value).ownBlock) (Kd.R_keptB ((Kd.R_apart' (Kd.R_apart' HO75.out (Kd.R_typed HO62.out) (by decide)) (Kd.R_typed HO63.out) (by decide))) hkp (fun k_ hk_ hs_ => kx_ hk_ hs_)) (fun k_ hk_ => ky_ hk_)); replace HO76 := Aside0.mk (Kd.R_mono (ok' := fun k_ => some k_ ≠ (.slice Ao24 t71.length co24 : Value).ownBlock ∧ some k_ ≠ (.slice Ao31 t28.length co31 : Value).ownBlock ∧ some k_ ≠ (.slice Ao35 t33.length co35 : Value).ownBlock ∧ some k_ ≠ (.slice Ao41 t77.length co41 : Value).ownBlock ∧ some k_ ≠ (.slice Ao43 t727.length co43 : Value).ownBlock) (Kd.R_keptB ((Kd.R_apart' HO76.out (Kd.R_typed HO70.out) (by decide))) hkp (fun k_ hk_ hs_ => kx_ hk_ hs_)) (fun k_ hk_ => ky_ hk_)); replace HO72 := Aside0.mk (Kd.R_mono (ok' := fun k_ => some k_ ≠ (.slice Ao25 t90.length co25 : Value).ownBlock ∧ some k_ ≠ (.slice Ao34 t32.length co34 : Value).ownBlock ∧ some k_ ≠ (.slice Ao37 t45.length co37 : Value).ownBlock ∧ some k_ ≠ (.slice Ao42 t719.length co42 : Value).ownBlock) (Kd.R_keptB ((Kd.R_apart' (Kd.R_apart' HO72.out (Kd.R_typed HO62.out) (by decide)) (Kd.R_typed HO63.out) (by decide))) hkp (fun k_ hk_ hs_ => kx_ hk_ hs_)) (fun k_ hk_ => ky_ hk_)); replace BK20 := Aside0.mk (blk_kept (ch_ BK20.out) hkp (fun hs_ => Or.elim hs_ (fun e_ => (fun e_ => (Kd.R_ne HO62.out BK20.out (by decide)) e_) e_) (fun e_ => Or.elim e_ (fun e_ => (fun e_ => (Kd.R_ne HO70.out BK20.out (by decide)) e_) e_) (fun e_ => (fun e_ => (Kd.R_ne HO63.out BK20.out (by decide)) e_) e_)))); replace HO84 := Aside0.mk (Kd.R_mono (ok' := fun k_ => some k_ ≠ (.slice Ao25 t90.length co25 : Value).ownBlock ∧ some k_ ≠ (.slice Ao38 t73.length co38 : Value).ownBlock ∧ some k_ ≠ (.slice Ao34 t32.length co34 : Value).ownBlock ∧ some k_ ≠ (.slice Ao42 t719.length co42 : Value).ownBlock) (Kd.R_keptB ((Kd.R_apart' (Kd.R_apart' HO84.out (Kd.R_typed HO62.out) (by decide)) (Kd.R_typed HO63.out) (by decide))) hkp (fun k_ hk_ hs_ => kx_ hk_ hs_)) (fun k_ hk_ => ky_ hk_)); replace HO93 := Aside0.mk (Kd.R_mono (ok' := fun k_ => some k_ ≠ (.slice Ao24 t71.length co24 : Value).ownBlock ∧ some k_ ≠ (.slice Ao26 t89.length co26 : Value).ownBlock ∧ some k_ ≠ (.slice Ao31 t28.length co31 : Value).ownBlock ∧ some k_ ≠ (.slice Ao35 t33.length co35 : Value).ownBlock ∧ some k_ ≠ (.slice Ao43 t727.length co43 : Value).ownBlock) (Kd.R_keptB ((Kd.R_apart' HO93.out (Kd.R_typed HO70.out) (by decide))) hkp (fun k_ hk_ hs_ => kx_ hk_ hs_)) (fun k_ hk_ => ky_ hk_)); replace HO94 := Aside0.mk (Kd.R_mono (ok' := fun k_ => some k_ ≠ (.slice Ao25 t90.length co25 : Value).ownBlock ∧ some k_ ≠ (.slice Ao38 t73.length co38 : Value).ownBlock ∧ some k_ ≠ (.slice Ao34 t32.length co34 : Value).ownBlock ∧ some k_ ≠ (.slice Ao37 t45.length co37 : Value).ownBlock) (Kd.R_keptB ((Kd.R_apart' (Kd.R_apart' HO94.out (Kd.R_typed HO62.out) (by decide)) (Kd.R_typed HO63.out) (by decide))) hkp (fun k_ hk_ hs_ => kx_ hk_ hs_)) (fun k_ hk_ => ky_ hk_)); replace HO62 := Aside0.mk (Kd.R_reok rfl hy0 (fun k_ e_ => HO62.out.1 k_ e_)); replace HO63 := Aside0.mk (Kd.R_reok rfl hy2 (fun k_ e_ => HO63.out.1 k_ e_)); replace HO95 := Aside0.mk (Kd.R_mono (ok' := fun k_ => some k_ ≠ (.slice Ao24 t71.length co24 : Value).ownBlock ∧ some k_ ≠ (.slice Ao26 t89.length co26 : Value).ownBlock ∧ some k_ ≠ (.slice Ao31 t28.length co31 : Value).ownBlock ∧ some k_ ≠ (.slice Ao35 t33.length co35 : Value).ownBlock ∧ some k_ ≠ (.slice Ao41 t77.length co41 : Value).ownBlock) (Kd.R_keptB ((Kd.R_apart' HO95.out (Kd.R_typed HO70.out) (by decide))) hkp (fun k_ hk_ hs_ => kx_ hk_ hs_)) (fun k_ hk_ => ky_ hk_)); replace HO70 := Aside0.mk (Kd.R_reok rfl hy1 (fun k_ e_ => HO70.out.1 k_ e_)); replace HB := Aside0.mk (hb); (try clear hb); (try clear hkp); (try clear hy0); (try clear hy1); (try clear hy2)))
 (try simp only [Act.put, List.setIfInBounds_toArray, List.set_cons_zero, List.set_cons_succ])
 go_cut [46] (fun v46 wc => ∃ (kq : Nat) (x46_17 : Bool), v46 = .bool x46_17 ∧ Aside0 (laws_FnExactNeeds.j0 kq a1 t73 t45 x46_17 l0_0 a0_1 l0_2 a0_3 a0_4 a0_5 a0_6 a0_7 l0_8 = some true) ∧ Aside0 (kq ≤ k) ∧ Aside0 (Kd.R (Kd.int .i64) 3 wc w.heap.size (fun k_ => some k_ ≠ ((.slice Ao37 t45.length co37) : Value).ownBlock ∧ some k_ ≠ ((.slice Ao34 t32.length co34) : Value).ownBlock) (.slice Ao38 t73.length co38) t73) ∧ Aside0 (Kd.R (Kd.int .i64) 3 wc w.heap.size (fun k_ => some k_ ≠ ((.slice Ao38 t73.length co38) : Value).ownBlock ∧ some k_ ≠ ((.slice Ao34 t32.length co34) : Value).ownBlock) (.slice Ao37 t45.length co37) t45) ∧ Aside0 (Kd.R (Kd.int .u8) 5 wc w.heap.size (fun k_ => some k_ ≠ ((.slice Ao35 t33.length co35) : Value).ownBlock) (.slice Ao31 t28.length co31) t732) ∧ Aside0 (Kd.R (Kd.int .i64) 3 wc w.heap.size (fun k_ => some k_ ≠ ((.slice Ao38 t73.length co38) : Value).ownBlock ∧ some k_ ≠ ((.slice Ao37 t45.length co37) : Value).ownBlock) (.slice Ao34 t32.length co34) t733) ∧ Aside0 (Kd.R (Kd.int .u8) 5 wc w.heap.size (fun k_ => some k_ ≠ ((.slice Ao31 t28.length co31) : Value).ownBlock) (.slice Ao35 t33.length co35) t734) ∧ Aside0 (wc.heap[gb22]? = some (.cells #[(.slice A0_0 l0_0.length c0_0), .int .i64 a0_1, (.slice A0_2 l0_2.length c0_2), .int .i64 a0_3, .int .i64 a0_4, .int .i64 a0_5, .int .i64 a0_6, .int .i64 a0_7, (.slice A0_8 l0_8.length c0_8)] 48 (0, 0))) ∧ Aside0 (wc.heap[gb20]? = some (.cells #[(.slice Ao31 t28.length co31), .int .i64 t78, (.slice Ao34 t32.length co34), .int .i64 t79, .int .i64 t80, .int .i64 t81, .int .i64 t82, .int .i64 t83, (.slice Ao35 t33.length co35)] 51 (0, 0))) ∧ Aside0 (Below w.heap.size w wc))
 case first =>
  have H := HC18.out
  clear HC18
  by_cases c47 : t99 < 0
  ·rw [if_pos c47] at H
   have c47b0 := dt_ c47
   clear c47
   (first | rw [c47b0] | (simp only [i64_w, i32_w]; rw [c47b0]) | skip)
   have H' := Aside0.mk H
   clear H
   go_wp2
   go_meet
   case rel => exact ⟨_, (true), sp_, H', ⟨by first | omega | exact Nat.le_refl _⟩, ⟨by refine cr_ ?_; exact Kd.R_mono HO72.out (fun _ hk => ky_ hk)⟩, ⟨by refine cr_ ?_; exact Kd.R_mono HO84.out (fun _ hk => ky_ hk)⟩, ⟨by refine cr_ ?_; exact Kd.R_mono HO62.out (fun _ hk => ky_ hk)⟩, ⟨by refine cr_ ?_; exact Kd.R_mono HO70.out (fun _ hk => ky_ hk)⟩, ⟨by refine cr_ ?_; exact Kd.R_mono HO63.out (fun _ hk => ky_ hk)⟩, ⟨ch_ BK22.out⟩, ⟨ch_ BK20.out⟩, ⟨bl_⟩⟩
  rw [if_neg c47] at H
  have c47b0 := df_ c47
  clear c47
  (first | rw [c47b0] | (simp only [i64_w, i32_w]; rw [c47b0]) | skip)
  obtain ⟨t735, A48, H⟩ := ob_ H
  have H' := Aside0.mk H
  clear H
  go_wp2_with (first | (go_at_call 26; (with_reducible refine (laws_eqIntS.calls k _ _ t45 _ _ t73 t735 _ (ca_ ((Kd.R_reads' HO84.out).2.2)) ((Kd.R_reads' HO84.out).2.1) (ca_ ((Kd.R_reads' HO72.out).2.2)) ((Kd.R_reads' HO72.out).2.1) A48.out).mono ?_); rintro e w' ⟨rfl, nd, rfl⟩))
  go_meet
  case rel => exact ⟨_, (!t735), sp_, H', ⟨by first | omega | exact Nat.le_refl _⟩, ⟨by refine cr_ ?_; exact Kd.R_mono HO72.out (fun _ hk => ky_ hk)⟩, ⟨by refine cr_ ?_; exact Kd.R_mono HO84.out (fun _ hk => ky_ hk)⟩, ⟨by refine cr_ ?_; exact Kd.R_mono HO62.out (fun _ hk => ky_ hk)⟩, ⟨by refine cr_ ?_; exact Kd.R_mono HO70.out (fun _ hk => ky_ hk)⟩, ⟨by refine cr_ ?_; exact Kd.R_mono HO63.out (fun _ hk => ky_ hk)⟩, ⟨ch_ BK22.out⟩, ⟨ch_ BK20.out⟩, ⟨bl_⟩⟩
 case rest =>
  clear HC18
  obtain ⟨kq, x46_17, rfl, HA, HJ17, HO_6, HO_8, HO_85, HO_86, HO_87, BK22, BK20, HB⟩ := hcut
  have hl85_17 := (Kd.R_reads' HO_85.out).1
  rw [hl85_17] at HO_85
  (try simp only [hl85_17])
  (try simp only [hl85_17] at BK22)
  (try simp only [hl85_17] at BK20)
  (try simp only [hl85_17] at HO_6)
  (try simp only [hl85_17] at HO_8)
  (try simp only [hl85_17] at HO_86)
  (try simp only [hl85_17] at HO_87)
  have hl86_17 := (Kd.R_reads' HO_86.out).1
  rw [hl86_17] at HO_86
  (try simp only [hl86_17])
  (try simp only [hl86_17] at BK22)
  (try simp only [hl86_17] at BK20)
  (try simp only [hl86_17] at HO_6)
  (try simp only [hl86_17] at HO_8)
  (try simp only [hl86_17] at HO_85)
  (try simp only [hl86_17] at HO_87)
  have hl87_17 := (Kd.R_reads' HO_87.out).1
  rw [hl87_17] at HO_87
  (try simp only [hl87_17])
  (try simp only [hl87_17] at BK22)
  (try simp only [hl87_17] at BK20)
  (try simp only [hl87_17] at HO_6)
  (try simp only [hl87_17] at HO_8)
  (try simp only [hl87_17] at HO_85)
  (try simp only [hl87_17] at HO_86)
  cases kq with
  | zero => exact absurd HA.out (by simp [laws_FnExactNeeds.j0])
  | succ kj17 =>
   have H := HA.out
   clear HA
   simp only [laws_FnExactNeeds.j0] at H
   by_cases c49 : x46_17 = true
   ·subst c49
    replace H := ip_ H
    exact absurd H (by simp)
   replace c49 := gf_ c49
   subst c49
   replace H := in_ H
   obtain ⟨⟨t92, t91⟩, A50, H⟩ := ob_ H
   (try dsimp only at H)
   obtain ⟨t97, A51, H⟩ := ob_ H
   by_cases c52 : t97 < 0
   ·rw [if_pos c52] at H
    replace c52 := dt_ c52
    exact absurd H (by simp)
   rw [if_neg c52] at H
   replace c52 := df_ c52
   by_cases c53 : t97 = t92
   rotate_left
   ·rw [if_neg c53] at H
    have c53b0 := ef_ c53
    have c53b1 := nt_ c53
    exact absurd H (by simp)
   rw [if_pos c53] at H
   have := et_ c53
   replace c53 := nf_ c53
   obtain ⟨⟨t88, t742, t743, t746, t747, t748, t749, t750, t751⟩, A54, H⟩ := ob_ H
   (try dsimp only at H)
   obtain ⟨t754, A55, H⟩ := ob_ H
   obtain ⟨t757, A56, H⟩ := ob_ H
   by_cases c57 : t757 = true
   ·subst c57
    replace H := ip_ H
    obtain ⟨t98, A58, H⟩ := ob_ H
    by_cases c59 : t98 < 0
    ·rw [if_pos c59] at H
     replace c59 := dt_ c59
     exact absurd H (by simp)
    rw [if_neg c59] at H
    replace c59 := df_ c59
    by_cases c60 : t98 = t92
    ·rw [if_pos c60] at H
     have := et_ c60
     replace c60 := nf_ c60
     clear H
     go_wp2_with (first | ((with_reducible refine gc_ 29 49 func29 #[.slice Ao37 t45.length co37, .int .i64 1] ?_); (with_reducible refine (laws_markIntS.calls kj17 (fun k_ => some k_ = (.slice Ao37 t45.length co37 : Value).ownBlock) (.slice Ao37 t45.length co37) t45 1 t92 t91 w _ ?side1 ?side2 A50.out).mono ?_); (case side1 => repeat (first | (with_reducible first | exact HB.out | apply below_alloc | apply pw_below_drewN | apply below_drew1 | refine below_set ?_ GE22.out | refine below_set ?_ GE20.out) | exact HB.out)); (case side2 => exact Kd.R_tight rfl HO_8.out); rintro e w61 ⟨rfl, hy0, hb, hkp⟩; refine ⟨_, rfl, ?_⟩; replace HO_6 := Aside0.mk (Kd.R_mono (ok' := fun k_ => some k_ ≠ (.slice Ao37 t45.length co37 : Value).ownBlock ∧ some k_ ≠ (.slice Ao34 t733.length co34 : Value).ownBlock) (Kd.R_keptB (HO_6.out) hkp (fun k_ hk_ hs_ => (hk_.1) hs_)) (fun k_ hk_ => ky_ hk_)); replace HO_85 := Aside0.mk (Kd.R_mono (ok' := fun k_ => some k_ ≠ (.slice Ao35 t734.length co35 : Value).ownBlock) (Kd.R_keptB ((Kd.R_apart' HO_85.out (Kd.R_typed HO_8.out) (by decide))) hkp (fun k_ hk_ hs_ => (hk_.2) hs_)) (fun k_ hk_ => hk_.1.1)); replace HO_86 := Aside0.mk (Kd.R_mono (ok' := fun k_ => some k_ ≠ (.slice Ao38 t73.length co38 : Value).ownBlock ∧ some k_ ≠ (.slice Ao37 t45.length co37 : Value).ownBlock) (Kd.R_keptB (HO_86.out) hkp (fun k_ hk_ hs_ => (hk_.2) hs_)) (fun k_ hk_ => ky_ hk_)); replace HO_87 := Aside0.mk (Kd.R_mono (ok' := fun k_ => some k_ ≠ (.slice Ao31 t732.length co31 : Value).ownBlock) (Kd.R_keptB ((Kd.R_apart' HO_87.out (Kd.R_typed HO_8.out) (by decide))) hkp (fun k_ hk_ hs_ => (hk_.2) hs_)) (fun k_ hk_ => hk_.1.1)); replace BK22 := Aside0.mk (blk_kept (ch_ BK22.out) hkp (fun hs_ => (fun e_ => (Kd.R_ne HO_8.out BK22.out (by decide)) e_) hs_)); replace BK20 := Aside0.mk (blk_kept (ch_ BK20.out) hkp (fun hs_ => (fun e_ => (Kd.R_ne HO_8.out BK20.out (by decide)) e_) hs_)); replace HO_8 := Aside0.mk (Kd.R_reok rfl hy0 (fun k_ e_ => HO_8.out.1 k_ e_)); replace HB := Aside0.mk (hb); (try clear hb); (try clear hkp); (try clear hy0)) | ((with_reducible refine gate_callee (f := 30) rfl ?_); refine goesL_ (some 52) rfl rfl func30 (by kernel_rfl) rfl #[.slice Ao37 t91.length co37, .int .i64 1] rfl (by (try simp only [List.map_toArray, List.map_cons, List.map_nil]); first | done | (rw [show t91.length = t45.length from (Kd.R_reads' HO_8.out).1.symm] <;> rfl) | rfl | (simp only [List.length_drop, List.length_take]; rfl)) ?_; (with_reducible refine (laws_heldIntS.calls kj17 _ _ t91 1 t97 _ (ca_ ((Kd.R_reads' HO_8.out).2.2)) ?side2 A51.out).mono ?_); (case side2 => rw [show t91.length = t45.length from (Kd.R_reads' HO_8.out).1.symm]; exact (Kd.R_reads' HO_8.out).2.1); rintro e w' ⟨rfl, nd, rfl⟩; refine ⟨_, rfl, ?_⟩; have := NB22_20.out; have := NB20_22.out; refine by9_ BK22 ?_; intros) | ((with_reducible refine gc_ 24 59 func24 #[.agg #[.slice A0_0 l0_0.length c0_0, .int .i64 a0_1, .slice A0_2 l0_2.length c0_2, .int .i64 a0_3, .int .i64 a0_4, .int .i64 a0_5, .int .i64 a0_6, .int .i64 a0_7, .slice A0_8 l0_8.length c0_8]] ?_); (with_reducible refine (laws_toTask.calls kj17 _ _ l0_0 a0_1 _ _ l0_2 a0_3 a0_4 a0_5 a0_6 a0_7 _ _ l0_8 t88 t742 t743 t746 t747 t748 t749 t750 t751 _ (ca_ (Kd.C_below HR0_0.out bl_)) HC0_0.out (ca_ (Kd.C_below HR0_2.out bl_)) HC0_2.out (ca_ (Kd.C_below HR0_8.out bl_)) HC0_8.out A54.out).mono ?_); rintro e w64 ⟨v740, v744, v752, rfl, ho0, ho1, ho2, hb⟩; refine ⟨_, rfl, ?_⟩; have HO741 := Aside0.mk (Kd.R_lower (Kd.R_new' (Kd.R_new' ho0 (Kd.R_lt (ra_ HO_85))) (Kd.R_lt (ra_ HO_87))) (below_size bl_)); have HO745 := Aside0.mk (Kd.R_lower (Kd.R_new' (Kd.R_new' (Kd.R_new' ho1 (Kd.R_lt (ra_ HO_6))) (Kd.R_lt (ra_ HO_8))) (Kd.R_lt (ra_ HO_86))) (below_size bl_)); replace HO_6 := Aside0.mk (Kd.R_elder' (ra_ HO_6) (Kd.R_base ho1) hb); replace HO_8 := Aside0.mk (Kd.R_elder' (ra_ HO_8) (Kd.R_base ho1) hb); replace HO_86 := Aside0.mk (Kd.R_elder' (ra_ HO_86) (Kd.R_base ho1) hb); have HO753 := Aside0.mk (Kd.R_lower (Kd.R_new' (Kd.R_new' ho2 (Kd.R_lt (ra_ HO_85))) (Kd.R_lt (ra_ HO_87))) (below_size bl_)); replace HO_85 := Aside0.mk (Kd.R_mono (Kd.R_told (Kd.R_told (Kd.R_old (ra_ HO_85) hb) (Kd.R_base ho0)) (Kd.R_base ho2)) (fun _ h_ => h_.1)); replace HO_87 := Aside0.mk (Kd.R_mono (Kd.R_told (Kd.R_told (Kd.R_old (ra_ HO_87) hb) (Kd.R_base ho0)) (Kd.R_base ho2)) (fun _ h_ => h_.1)); replace BK22 := kb_ BK22 hb; replace BK20 := kb_ BK20 hb; replace HB := hs_ hb; clear hb; (try clear ho0); (try clear ho1); (try clear ho2); obtain ⟨Ao65, co65, eo65⟩ := Kd.R_slice HO741.out; subst eo65; obtain ⟨Ao66, co66, eo66⟩ := Kd.R_slice HO745.out; subst eo66; obtain ⟨Ao67, co67, eo67⟩ := Kd.R_slice HO753.out; subst eo67) | ((with_reducible refine gc_ 25 61 func25 #[.agg #[.slice Ao65 t88.length co65, .int .i64 t742, .slice Ao66 t743.length co66, .int .i64 t746, .int .i64 t747, .int .i64 t748, .int .i64 t749, .int .i64 t750, .slice Ao67 t751.length co67], .int .i64 a1] ?_); (with_reducible refine (impl_Needs.calls kj17 _ _ t88 t742 _ _ t743 t746 t747 t748 t749 t750 _ _ t751 a1 t754 _ (ca_ ((Kd.R_reads' HO741.out).2.2)) ((Kd.R_reads' HO741.out).2.1) (ca_ ((Kd.R_reads' HO745.out).2.2)) ((Kd.R_reads' HO745.out).2.1) (ca_ ((Kd.R_reads' HO753.out).2.2)) ((Kd.R_reads' HO753.out).2.1) A55.out).mono ?_); rintro e w68 ⟨v755, rfl, ho0, hb⟩; refine ⟨_, rfl, ?_⟩; replace HO_85 := Aside0.mk (Kd.R_below (ra_ HO_85) hb); replace HO_87 := Aside0.mk (Kd.R_below (ra_ HO_87) hb); replace HO741 := Aside0.mk (Kd.R_below (ra_ HO741) hb); replace HO753 := Aside0.mk (Kd.R_below (ra_ HO753) hb); have HO756 := Aside0.mk (Kd.R_lower (Kd.R_new' (Kd.R_new' (Kd.R_new' (Kd.R_new' ho0 (Kd.R_lt (ra_ HO_6))) (Kd.R_lt (ra_ HO_8))) (Kd.R_lt (ra_ HO_86))) (Kd.R_lt (ra_ HO745))) (below_size bl_)); replace HO_6 := Aside0.mk (Kd.R_elder' (ra_ HO_6) (Kd.R_base ho0) hb); replace HO_8 := Aside0.mk (Kd.R_elder' (ra_ HO_8) (Kd.R_base ho0) hb); replace HO_86 := Aside0.mk (Kd.R_elder' (ra_ HO_86) (Kd.R_base ho0) hb); replace HO745 := Aside0.mk (Kd.R_elder' (ra_ HO745) (Kd.R_base ho0) hb); replace BK22 := kb_ BK22 hb; replace BK20 := kb_ BK20 hb; replace HB := hs_ hb; clear hb; (try clear ho0); obtain ⟨Ao69, co69, eo69⟩ := Kd.R_slice HO756.out; subst eo69) | ((with_reducible refine gd_ 26 64 func26 #[.slice Ao69 t754.length co69, .slice Ao38 t73.length co38] (laws_eqIntS.calls kj17 _ _ t754 _ _ t73 true _ (ca_ ((Kd.R_reads' HO756.out).2.2)) ((Kd.R_reads' HO756.out).2.1) (ca_ ((Kd.R_reads' HO_6.out).2.2)) ((Kd.R_reads' HO_6.out).2.1) A56.out) fun nd => ?_)) | ((with_reducible refine gate_callee (f := 30) rfl ?_); refine goesL_ (some 68) rfl rfl func30 (by kernel_rfl) rfl #[.slice Ao37 t91.length co37, .int .i64 1] rfl (by (try simp only [List.map_toArray, List.map_cons, List.map_nil]); first | done | (rw [show t91.length = t45.length from (Kd.R_reads' HO_8.out).1.symm] <;> rfl) | rfl | (simp only [List.length_drop, List.length_take]; rfl)) ?_; (with_reducible refine (laws_heldIntS.calls kj17 _ _ t91 1 t98 _ (ca_ ((Kd.R_reads' HO_8.out).2.2)) ?side2 A58.out).mono ?_); (case side2 => rw [show t91.length = t45.length from (Kd.R_reads' HO_8.out).1.symm]; exact (Kd.R_reads' HO_8.out).2.1); rintro e w' ⟨rfl, nd, rfl⟩; refine ⟨_, rfl, ?_⟩))
     go_ret
     exact ⟨sq_, bl_⟩
    ·rw [if_neg c60] at H
     have c60b0 := ef_ c60
     have c60b1 := nt_ c60
     exact absurd H (by simp)
   ·replace c57 := gf_ c57
    subst c57
    replace H := in_ H
    exact absurd H (by simp)
def ok48 (x : S48) : Prop := (x.f0.length ≤ maxLen ∧ ∀ y0 ∈ x.f0, (Lit.int .u8 y0).wf = true) ∧ ((Lit.int .i64 x.f1).wf = true) ∧ (x.f2.length ≤ maxLen ∧ ∀ y0 ∈ x.f2, (Lit.int .i64 y0).wf = true) ∧ ((Lit.int .i64 x.f3).wf = true) ∧ ((Lit.int .i64 x.f4).wf = true) ∧ ((Lit.int .i64 x.f5).wf = true) ∧ ((Lit.int .i64 x.f6).wf = true) ∧ ((Lit.int .i64 x.f7).wf = true) ∧ (x.f8.length ≤ maxLen ∧ ∀ y0 ∈ x.f8, (Lit.int .u8 y0).wf = true)
/-- THE ONE PURE STATEMENT of laws_FnExactNeeds. -/
def laws_FnExactNeeds.Pure : Prop := ∀ (s0 : S48) (a1 : Int), (ok48 s0) → ((Lit.int .i64 a1).wf = true) → ∃ k, laws_FnExactNeeds.f k s0.f0 s0.f1 s0.f2 s0.f3 s0.f4 s0.f5 s0.f6 s0.f7 s0.f8 a1 = some true
end Go.Proofs.YtohfefkjcnbejaaGreatDoor.QFnExactNeeds
