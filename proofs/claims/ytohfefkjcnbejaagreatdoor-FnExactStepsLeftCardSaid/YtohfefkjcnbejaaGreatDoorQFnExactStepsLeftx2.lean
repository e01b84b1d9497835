-- by my own printer (myprint.py, over the kit's print.py)
import Derived.Test.YtohfefkjcnbejaaGreatDoorQFnExactStepsLeftx1
namespace Go.Proofs.YtohfefkjcnbejaaGreatDoor.QFnExactStepsLeft
open Go.RowKit Go.Proofs.YtohfefkjcnbejaaGreatDoorW.PrintWords Go.Proofs.YtohfefkjcnbejaaGreatDoorW.PrintLast Go.Proofs.YtohfefkjcnbejaaGreatDoorW.PrintMore Tryz
attribute [local go_sem] max2_int min2_int max_two min_two max_three min_three max_four min_four
set_option linter.unusedVariables false
set_option linter.unusedSimpArgs false
set_option maxHeartbeats 8000000
set_option maxRecDepth 100000
attribute [local go_sem] my_geq my_leq my_gtr
/-! ### spec_Parse: function 57 -/
def spec_Parse.l0 : Nat → List Int → Int → List Int → Int → Int → ByteArray → List (S91) → Option (ByteArray × (List (S91)) × Int)
 | 0, _, _, _, _, _, _, _ => none
 | k + 1, x0, x8, x35, x36, x37, x41, x20 => if x37 < x36 then (if 0 ≤ x37 then (if x37 < (x35.length : Int) then ((spec_GetField.f k x0 x8 (rd x35 x37)).bind fun bt29 => (if bt29.2.2 = true then (if x20.length < 5864062014805 then (spec_Parse.l0 k x0 bt29.2.1 x35 x36 (wrap64 (x37 + 1)) x41 (x20 ++ [(⟨rd x35 x37, bt29.1⟩ : S91)])) else (none)) else (some ((⟨#[]⟩ : ByteArray), ([] : List (S91)), 3)))) else (none)) else (none)) else (if x8 = (x0.length : Int) then (some (x41, x20, 0)) else (some ((⟨#[]⟩ : ByteArray), ([] : List (S91)), 4)))
def spec_Parse.f (k : Nat) (l0 : List Int) : Option (ByteArray × (List (S91)) × Int) := (spec_GetBcd.f k l0 0 4).bind fun bt26 => (if bt26.2.2 = true then ((spec_l04Nos.f k l0).bind fun bt21 => (if bt21.2.2 = true then (spec_Parse.l0 k l0 bt21.2.1 bt21.1 (bt21.1.length : Int) 0 bt26.1 ([] : List (S91))) else (some ((⟨#[]⟩ : ByteArray), ([] : List (S91)), 2)))) else (some ((⟨#[]⟩ : ByteArray), ([] : List (S91)), 1)))
theorem spec_Parse.calls (k : Nat) (A0 : Option Addr) (c0 : Nat) (l0 : List Int) (r1 : ByteArray) (r2 : List (S91)) (r3 : Int) (w : World) (hr0 : Kd.C (Kd.int .u8) w A0 l0.length l0) (hc0 : l0.length ≤ c0) (h : spec_Parse.f k l0 = some (r1, r2, r3)) :
  Calls Tryz.prog 57 #[.slice A0 l0.length c0] w fun e w' => ∃ v1_ : Value, e = .returned (.tuple #[.agg #[.string r1, v1_], .int .i64 r3]) ∧ Kd.R k91 91 w' w.heap.size (fun _ => True) v1_ r2 ∧ Below w.heap.size w w' := by
 have hu32 := underlying32
 have hu91 := underlying91
 have HR0 := Aside0.mk hr0
 have HC0 := Aside0.mk hc0
 clear hr0 hc0
 have HB := Aside0.mk (Below.refl w.heap.size w)
 have H := h
 unfold spec_Parse.f at H
 clear h
 obtain ⟨⟨t26, t33, t43⟩, A2, H⟩ := ob_ H
 (try dsimp only at H)
 by_cases c3 : t43 = true
 rotate_left
 ·replace c3 := gf_ c3
  subst c3
  replace H := in_ H
  simp only [Option.some.injEq, Prod.mk.injEq] at H
  obtain ⟨rfl, rfl, rfl⟩ := H
  go_enter func57, ntmps57
  go_wp2_with (first | ((with_reducible refine gt_ 2 ?_); refine bo_ 2 #[.string ⟨#[]⟩, .slice none 0 0] 32 ?_; intro gb10 hg w39 BK10 hb; have GW10 := gw_ (w := w) hg; replace HB := hs_ hb; clear hb hg) | ((with_reducible refine gb_ 93 17 func93 #[.slice A0 l0.length c0, .int .i64 0, .int .i64 4] (spec_GetBcd.calls k _ _ l0 0 4 t26 t33 false _ (cb_ HR0 HB) HC0.out A2.out) fun w40 hb => ?_); replace BK10 := kb_ BK10 hb; replace HB := hs_ hb; clear hb; refine by2_ BK10 ?_; intros))
  refine bodyPost_ret (results_ct rfl _ _ gb10 32 #[.string ⟨#[]⟩, .slice none 0 0] (0, 0) _ rfl (by refine ch_ ?_; apply bq2_1_0_; exact ch_ BK10.out) underlying32 rfl (by kernel_rfl)) rfl ?_
  exact ⟨_, sq_, by first | exact Kd.R_nil _ _ _ _ _ | exact Kd.N_nil _ _ _ _ _ | exact Kd.V_nil _ _ _ _ _ | exact Kd.Q_nil _ _ _ _ _ | exact Kd.S_nil _ _ _ _ _, bl_⟩
 subst c3
 replace H := ip_ H
 obtain ⟨⟨t21, t34, t44⟩, A4, H⟩ := ob_ H
 (try dsimp only at H)
 by_cases c5 : t44 = true
 rotate_left
 ·replace c5 := gf_ c5
  subst c5
  replace H := in_ H
  simp only [Option.some.injEq, Prod.mk.injEq] at H
  obtain ⟨rfl, rfl, rfl⟩ := H
  go_enter func57, ntmps57
  go_wp2_with (first | ((with_reducible refine gt_ 2 ?_); refine bo_ 2 #[.string ⟨#[]⟩, .slice none 0 0] 32 ?_; intro gb10 hg w35 BK10 hb; have GW10 := gw_ (w := w) hg; replace HB := hs_ hb; clear hb hg) | ((with_reducible refine gb_ 93 17 func93 #[.slice A0 l0.length c0, .int .i64 0, .int .i64 4] (spec_GetBcd.calls k _ _ l0 0 4 t26 t33 true _ (cb_ HR0 HB) HC0.out A2.out) fun w36 hb => ?_); replace BK10 := kb_ BK10 hb; replace HB := hs_ hb; clear hb) | ((with_reducible refine gc_ 94 26 func94 #[.slice A0 l0.length c0] ?_); (with_reducible refine (spec_l04Nos.calls k _ _ l0 t21 t34 false _ (cb_ HR0 HB) HC0.out A4.out).mono ?_); rintro e w37 ⟨v45, rfl, ho0, hb⟩; refine ⟨_, rfl, ?_⟩; have HO30 := Aside0.mk (Kd.R_lower ho0 (below_size bl_)); replace BK10 := kb_ BK10 hb; replace HB := hs_ hb; clear hb; (try clear ho0); refine by2_ BK10 ?_; intros))
  refine bodyPost_ret (results_ct rfl _ _ gb10 32 #[.string ⟨#[]⟩, .slice none 0 0] (0, 0) _ rfl (by refine ch_ ?_; apply bq2_1_0_; exact ch_ BK10.out) underlying32 rfl (by kernel_rfl)) rfl ?_
  exact ⟨_, sq_, by first | exact Kd.R_nil _ _ _ _ _ | exact Kd.N_nil _ _ _ _ _ | exact Kd.V_nil _ _ _ _ _ | exact Kd.Q_nil _ _ _ _ _ | exact Kd.S_nil _ _ _ _ _, bl_⟩
 subst c5
 replace H := ip_ H
 have H' := Aside0.mk H
 clear H
 go_enter func57, ntmps57
 go_wp2_with (first | ((with_reducible refine gt_ 2 ?_); refine bo_ 2 #[.string ⟨#[]⟩, .slice none 0 0] 32 ?_; intro gb10 hg w6 BK10 hb; have GW10 := gw_ (w := w) hg; replace HB := hs_ hb; clear hb hg) | ((with_reducible refine gb_ 93 17 func93 #[.slice A0 l0.length c0, .int .i64 0, .int .i64 4] (spec_GetBcd.calls k _ _ l0 0 4 t26 t33 true _ (cb_ HR0 HB) HC0.out A2.out) fun w7 hb => ?_); replace BK10 := kb_ BK10 hb; replace HB := hs_ hb; clear hb) | ((with_reducible refine gc_ 94 26 func94 #[.slice A0 l0.length c0] ?_); (with_reducible refine (spec_l04Nos.calls k _ _ l0 t21 t34 true _ (cb_ HR0 HB) HC0.out A4.out).mono ?_); rintro e w8 ⟨v45, rfl, ho0, hb⟩; refine ⟨_, rfl, ?_⟩; have HO30 := Aside0.mk (Kd.R_lower ho0 (below_size bl_)); replace BK10 := kb_ BK10 hb; replace HB := hs_ hb; clear hb; (try clear ho0)) | ((with_reducible refine gate_dst (N := 9) rfl ?_); refine be_ (N := 9) (cs := #[.string ⟨#[]⟩, .slice none 0 0]) (t := 32) ?_; intro gb11 hg w9 hbox hb; replace HO30 := Aside0.mk (Kd.R_below (ra_ HO30) hb); have BK11 := Aside0.mk (hbox); have GW11 := gw_ (w := w) hg; replace HB := hs_ hb; have ⟨NB10_11, NB11_10⟩ := nb_ hg BK10; replace BK10 := kb_ BK10 hb; clear hb hbox hg; have := NB11_10.out; have := NB10_11.out; refine by2_ BK11 ?_; intros; obtain ⟨Ao12, co12, eo12⟩ := Kd.R_slice HO30.out; subst eo12))
 go_loopg [8, 37] k (fun kq v8 v37 w' => ∃ (x8_1 : Int) (x37_1 : Int) (x38_1 : ByteArray) (x20_1 : List (S91)) (u20 : Value), v8 = .int .i64 x8_1 ∧ v37 = .int .i64 x37_1 ∧ Aside0 (spec_Parse.l0 kq l0 x8_1 t21 (t21.length : Int) x37_1 t26 x20_1 = some (r1, r2, r3)) ∧ Aside0 (kq ≤ k) ∧ Aside0 (Kd.R (Kd.int .i64) 3 w' w.heap.size (fun _ => True) (.slice Ao12 t21.length co12) t21) ∧ Aside0 (Kd.R k91 91 w' w.heap.size (fun _ => True) u20 x20_1) ∧ Aside0 (w'.heap[gb10]? = some (.cells #[.string x38_1, (.slice none 0 0)] 32 (0, 0))) ∧ Aside0 (w'.heap[gb11]? = some (.cells #[.string t26, u20] 32 (0, 0))) ∧ Aside0 (Below w.heap.size w w'))
 case atStart => exact ⟨(t34), (0), ((⟨#[]⟩ : ByteArray)), (([] : List (S91))), (.slice none 0 0), sp_, sp_, H', ⟨Nat.le_refl _⟩, ⟨by refine cr_ ?_; exact Kd.R_mono (rf_ gb11 1 (rf_ gb11 0 (Kd.R_types HO30.out BK11.out (by decide)) (.string t26)) (.slice none 0 0)) (fun _ hk => trivial)⟩, ⟨by first | exact Kd.R_nil _ _ _ _ _ | exact Kd.N_nil _ _ _ _ _ | exact Kd.V_nil _ _ _ _ _ | exact Kd.Q_nil _ _ _ _ _ | exact Kd.S_nil _ _ _ _ _⟩, ⟨by refine ch_ ?_; refine bf_ NB10_11 ?_; exact bf_ NB10_11 BK10.out⟩, ⟨by refine ch_ ?_; apply bq2_1_0_; exact ch_ BK11.out⟩, ⟨bl_⟩⟩
 case round =>
  clear H'
  obtain ⟨x8_1, x37_1, x38_1, x20_1, u20, rfl, rfl, HA, HK1, HO_35, HO_20, BK10, BK11, HB⟩ := hrel
  cases gk with
  | zero => exact absurd HA.out (by simp [spec_Parse.l0])
  | succ k1 =>
   have H := HA.out
   clear HA
   simp only [spec_Parse.l0] at H
   by_cases c13 : x37_1 < (t21.length : Int)
   rotate_left
   ·rw [if_neg c13] at H
    replace c13 := df_ c13
    by_cases c28 : x8_1 = (l0.length : Int)
    ·rw [if_pos c28] at H
     have := et_ c28
     replace c28 := nf_ c28
     simp only [Option.some.injEq, Prod.mk.injEq] at H
     obtain ⟨rfl, rfl, rfl⟩ := H
     have := NB11_10.out
     have := NB10_11.out
     refine by2_ BK11 ?_; intros
     refine by2_ BK10 ?_; intros
     obtain ⟨Ao32, co32, eo32⟩ := Kd.R_slice HO_20.out
     subst eo32
     go_wp2
     refine bodyPost_ret (results_ct rfl _ _ gb10 32 #[.string t26, .slice Ao32 x20_1.length co32] (0, 0) _ rfl (by refine ch_ ?_; apply bq2_1_0_; exact ch_ BK10.out) underlying32 rfl (by kernel_rfl)) rfl ?_
     exact ⟨_, sq_, by refine cr_ ?_; exact Kd.R_mono (rf_ gb10 1 (rf_ gb10 0 (Kd.R_types HO_20.out BK10.out (by decide)) (.string t26)) (.slice Ao32 x20_1.length co32)) (fun _ hk => trivial), bl_⟩
    ·rw [if_neg c28] at H
     have c28b0 := ef_ c28
     have c28b1 := nt_ c28
     simp only [Option.some.injEq, Prod.mk.injEq] at H
     obtain ⟨rfl, rfl, rfl⟩ := H
     have := NB10_11.out
     have := NB11_10.out
     refine by2_ BK10 ?_; intros
     go_wp2
     refine bodyPost_ret (results_ct rfl _ _ gb10 32 #[.string ⟨#[]⟩, .slice none 0 0] (0, 0) _ rfl (by refine ch_ ?_; apply bq2_1_0_; exact ch_ BK10.out) underlying32 rfl (by kernel_rfl)) rfl ?_
     exact ⟨_, sq_, by first | exact Kd.R_nil _ _ _ _ _ | exact Kd.N_nil _ _ _ _ _ | exact Kd.V_nil _ _ _ _ _ | exact Kd.Q_nil _ _ _ _ _ | exact Kd.S_nil _ _ _ _ _, bl_⟩
   rw [if_pos c13] at H
   replace c13 := dt_ c13
   obtain ⟨c14, H⟩ := og_ H
   replace c14 := dt_ c14
   obtain ⟨c15, H⟩ := og_ H
   replace c15 := dt_ c15
   obtain ⟨⟨t29, t31, t46⟩, A16, H⟩ := ob_ H
   (try dsimp only at H)
   by_cases c17 : t46 = true
   ·subst c17
    replace H := ip_ H
    by_cases c18 : x20_1.length < 5864062014805
    ·rw [if_pos c18] at H
     have LMc18 := Aside0.mk c18
     clear c18
     obtain ⟨y27, hy27⟩ : ∃ y_ : List (S91), y_ = (x20_1 ++ [(⟨rd t21 x37_1, t29⟩ : S91)]) := ⟨_, rfl⟩
     replace H : (spec_Parse.l0 k1 l0 t31 t21 (t21.length : Int) (wrap64 (x37_1 + 1)) t26 y27) = some (r1, r2, r3) := hh_ hy27 H
     have Ny27 := Aside0.mk hy27
     clear hy27
     have H' := Aside0.mk H
     clear H
     have p24 : 0 ≤ (x37_1 : Int) := od_
     have q24 : x37_1 < (t21.length : Int) := od_
     obtain ⟨ad24, e24, hx24_0⟩ := Kd.at_int (Kd.R_reads' HO_35.out).2.2 x37_1 p24 q24
     cases e24
     replace p24 := eq_true p24
     replace q24 := eq_true q24
     go_wp2_with (first | ((with_reducible refine gb_ 95 45 func95 #[.slice A0 l0.length c0, .int .i64 x8_1, .int .i64 (rd t21 x37_1)] (spec_GetField.calls k1 _ _ l0 x8_1 (rd t21 x37_1) t29 t31 true _ (cb_ HR0 HB) HC0.out A16.out) fun w19 hb => ?_); replace HO_35 := Aside0.mk (Kd.R_below (ra_ HO_35) hb); replace HO_20 := Aside0.mk (Kd.R_below (ra_ HO_20) hb); replace BK10 := kb_ BK10 hb; replace BK11 := kb_ BK11 hb; replace HB := hs_ hb; clear hb; have := NB11_10.out; have := NB10_11.out; refine by2_ BK11 ?_; intros) | ((with_reducible refine gate_builtin (b := .append) (xs := #[.tmp 53, .tmp 57]) rfl ?_); at_builtin; refine Kd.R_append k91 (w0 := w) w.heap.size rfl (.tmp 53) (.tmp 57) 30 91 (.agg #[(.int .i64 0), (.string ⟨#[]⟩)]) 24 rfl underlying30 info91 rfl (by decide) (by omega) u20 x20_1 (⟨rd t21 x37_1, t29⟩ : S91) [.int .i64 (rd t21 x37_1), .string t29] (fun _ => True) (fun _ => False) rfl rfl ?aP (fun _ hk => hk.elim) ?aF ?aO ?aB ?aS ?aL ?_; (case aP => exact k91_mkM _ _ _ (⟨rd t21 x37_1, t29⟩ : S91)); (case aB => exact bl_); (case aF => exact (fun _ _ => trivial)); (case aO => exact (ra_ HO_20)); (case aS => exact (below_size bl_)); (case aL => have := LMc18.out; omega); intro v47 w22 ho hb hg hat; rw [← Ny27.out] at ho; have n0_ := Aside0.mk (Kd.R_over' (ra_ HO_35) (Kd.R_typed (ra_ HO_20)) (by decide) hg); have n1_ := Aside0.mk (blk_grown (bk_ BK10) hg (Kd.R_ne HO_20.out BK10.out (by decide))); have n2_ := Aside0.mk (blk_grown (bk_ BK11) hg (Kd.R_ne HO_20.out BK11.out (by decide))); have n3_ := Aside0.mk (hb); have n4_ := Aside0.mk (ho); clear HO_35; clear BK10; clear BK11; clear HB; clear HO_20; have HO_35 := n0_; have BK10 := n1_; have BK11 := n2_; have HB := n3_; have HO42 := n4_; clear n0_ n1_ n2_ n3_ n4_; clear ho hb hg hat; obtain ⟨Ao23, co23, eo23⟩ := Kd.R_slice HO42.out; subst eo23; refine by2_ BK11 ?_; intros))
     go_roundg k1
     case measure => have := HK1.out; omega
     case rel => exact ⟨(t31), (wrap64 (x37_1 + 1)), (x38_1), (y27), (.slice Ao23 y27.length co23), sp_, sp_, H', ⟨by have := HK1.out; omega⟩, ⟨by refine cr_ ?_; exact Kd.R_mono (rf_ gb11 1 (Kd.R_types HO_35.out BK11.out (by decide)) (.slice Ao23 y27.length co23)) (fun _ hk => trivial)⟩, ⟨by refine cr_ ?_; exact Kd.R_mono (rf_ gb11 1 (Kd.R_types HO42.out BK11.out (by decide)) (.slice Ao23 y27.length co23)) (fun _ hk => trivial)⟩, bg_ NB10_11 BK10, ⟨by refine ch_ ?_; apply bq2_1_; exact ch_ BK11.out⟩, ⟨bl_⟩⟩
    ·rw [if_neg c18] at H
     exact absurd H (by simp)
   ·replace c17 := gf_ c17
    subst c17
    replace H := in_ H
    simp only [Option.some.injEq, Prod.mk.injEq] at H
    obtain ⟨rfl, rfl, rfl⟩ := H
    have p24 : 0 ≤ (x37_1 : Int) := od_
    have q24 : x37_1 < (t21.length : Int) := od_
    obtain ⟨ad24, e24, hx24_0⟩ := Kd.at_int (Kd.R_reads' HO_35.out).2.2 x37_1 p24 q24
    cases e24
    replace p24 := eq_true p24
    replace q24 := eq_true q24
    go_wp2_with (first | ((with_reducible refine gb_ 95 45 func95 #[.slice A0 l0.length c0, .int .i64 x8_1, .int .i64 (rd t21 x37_1)] (spec_GetField.calls k1 _ _ l0 x8_1 (rd t21 x37_1) t29 t31 false _ (cb_ HR0 HB) HC0.out A16.out) fun w25 hb => ?_); replace HO_35 := Aside0.mk (Kd.R_below (ra_ HO_35) hb); replace HO_20 := Aside0.mk (Kd.R_below (ra_ HO_20) hb); replace BK10 := kb_ BK10 hb; replace BK11 := kb_ BK11 hb; replace HB := hs_ hb; clear hb; have := NB10_11.out; have := NB11_10.out; refine by2_ BK10 ?_; intros))
    refine bodyPost_ret (results_ct rfl _ _ gb10 32 #[.string ⟨#[]⟩, .slice none 0 0] (0, 0) _ rfl (by refine ch_ ?_; apply bq2_1_0_; exact ch_ BK10.out) underlying32 rfl (by kernel_rfl)) rfl ?_
    exact ⟨_, sq_, by first | exact Kd.R_nil _ _ _ _ _ | exact Kd.N_nil _ _ _ _ _ | exact Kd.V_nil _ _ _ _ _ | exact Kd.Q_nil _ _ _ _ _ | exact Kd.S_nil _ _ _ _ _, bl_⟩
/-! ### spec_Asks: function 14 -/
def spec_Asks.j0 : Nat → Bool → Int → ByteArray → ByteArray → ByteArray → ByteArray → ByteArray → Int → Int → Option (List ByteArray)
 | 0, _, _, _, _, _, _, _, _, _ => none
 | k + 1, x32, x62, x52, x54, x63, x64, x65, x66, x67 => if x32 = true then (some (([x52] : List ByteArray))) else (if (Op.bytesLess x54.toList x52.toList) = true then (some (([x54, x52] : List ByteArray))) else (some (([x52, x54] : List ByteArray))))
def spec_Asks.f (k : Nat) (l0 : List Int) : Option (List ByteArray) := (spec_Parse.f k l0).bind fun bt18 => (if bt18.2.2 = 0 then ((spec_ReqOf.f k bt18.1 bt18.2.1).bind fun bt13 => (if bt13.2.2.2.2.2.2.2.2 = 0 then (if bt13.1 = 6 then (spec_Asks.j0 k (bt13.2.2.1.toList == bt13.2.1.toList) bt13.1 bt13.2.1 bt13.2.2.1 bt13.2.2.2.1 bt13.2.2.2.2.1 bt13.2.2.2.2.2.1 bt13.2.2.2.2.2.2.1 bt13.2.2.2.2.2.2.2.1) else (spec_Asks.j0 k true bt13.1 bt13.2.1 bt13.2.2.1 bt13.2.2.2.1 bt13.2.2.2.2.1 bt13.2.2.2.2.2.1 bt13.2.2.2.2.2.2.1 bt13.2.2.2.2.2.2.2.1)) else (some (([] : List ByteArray))))) else (some (([] : List ByteArray))))
theorem spec_Asks.calls (k : Nat) (A0 : Option Addr) (c0 : Nat) (l0 : List Int) (r : List ByteArray) (w : World) (hr0 : Kd.C (Kd.int .u8) w A0 l0.length l0) (hc0 : l0.length ≤ c0) (h : spec_Asks.f k l0 = some r) :
  Calls Tryz.prog 14 #[.slice A0 l0.length c0] w fun e w' => ∃ v0_ : Value, e = .returned (v0_) ∧ Kd.R Kd.string 9 w' w.heap.size (fun _ => True) v0_ r ∧ Below w.heap.size w w' := by
 have hu32 := underlying32
 have hu27 := underlying27
 have HR0 := Aside0.mk hr0
 have HC0 := Aside0.mk hc0
 clear hr0 hc0
 have HB := Aside0.mk (Below.refl w.heap.size w)
 have H := h
 unfold spec_Asks.f at H
 clear h
 obtain ⟨⟨t18, t19, t53⟩, A2, H⟩ := ob_ H
 (try dsimp only at H)
 by_cases c3 : t53 = 0
 rotate_left
 ·rw [if_neg c3] at H
  have c3b0 := ef_ c3
  have c3b1 := nt_ c3
  obtain ⟨y21, hy21⟩ : ∃ y_ : List ByteArray, y_ = (([] : List ByteArray)) := ⟨_, rfl⟩
  replace H : (some y21) = some r := hh_ hy21 H
  have Ny21 := Aside0.mk hy21
  clear hy21
  obtain rfl := si_ H
  go_enter func14, ntmps14
  go_wp2_with (first | ((with_reducible refine gc_ 57 9 func57 #[.slice A0 l0.length c0] ?_); (with_reducible refine (spec_Parse.calls k _ _ l0 t18 t19 t53 _ (ca_ (HR0.out)) HC0.out A2.out).mono ?_); rintro e w44 ⟨v56, rfl, ho0, hb⟩; refine ⟨_, rfl, ?_⟩; have HO14 := Aside0.mk (Kd.R_lower ho0 (below_size bl_)); replace HB := hs_ hb; clear hb; (try clear ho0)) | ((with_reducible refine gate_dst (N := 3) rfl ?_); refine be_ (N := 3) (cs := #[.string ⟨#[]⟩, .slice none 0 0]) (t := 32) ?_; intro gb1 hg w45 hbox hb; replace HO14 := Aside0.mk (Kd.R_below (ra_ HO14) hb); have BK1 := Aside0.mk (hbox); have GW1 := gw_ (w := w) hg; replace HB := hs_ hb; clear hb hbox hg; refine by2_ BK1 ?_; intros; obtain ⟨Ao47, co47, eo47⟩ := Kd.R_slice HO14.out; subst eo47) | ((with_reducible refine gate_dst (N := 14) rfl ?_); refine Kd.R_lit Kd.string _ 9 ?hg (N := 14) ?hd (xs := ([] : List ByteArray)) (inner := []) (ok := fun _ => True) (okp := fun _ => True) ?hr ?hp (fun _ hk => hk) trivial (Below.refl _ _) (Nat.le_refl _) (by simp) ?_; (case hd => rfl); (case hg => rfl); (case hr => first | (go_simp; done) | (go_simp; rfl)); (case hp => exact (Reps.none _ _)); intro v68 w48 ho49 hb hg_ hnew_; clear hg_ hnew_; (first | rw [← Ny21.out] at ho49 | (simp only [Int.reduceToNat] at ho49; rw [← Ny21.out] at ho49)); replace HO14 := Aside0.mk (Kd.R_below (by refine cr_ ?_; exact (Kd.R_mono (rf_ gb1 1 (rf_ gb1 0 (Kd.R_types HO14.out BK1.out (by decide)) (.string t18)) (.slice Ao47 t19.length co47)) (fun _ h_ => h_.1))) hb); have HO57 := Aside0.mk (Kd.R_lower ho49 (below_size bl_)); replace BK1 := Aside0.mk (blk_below (g := gb1) (o := .cells #[.string t18, .slice Ao47 t19.length co47] 32 (0, 0)) (by refine ch_ ?_; apply bq2_1_0_; exact ch_ BK1.out) hb); replace HB := hs_ hb; clear hb ho49))
  go_ret
  exact ⟨_, sq_, ra_ HO57, bl_⟩
 rw [if_pos c3] at H
 have := et_ c3
 replace c3 := nf_ c3
 obtain ⟨⟨t13, t16, t17, t22, t26, t30, t31, t36, t55⟩, A4, H⟩ := ob_ H
 (try dsimp only at H)
 by_cases c5 : t55 = 0
 rotate_left
 ·rw [if_neg c5] at H
  have c5b0 := ef_ c5
  have c5b1 := nt_ c5
  obtain ⟨y40, hy40⟩ : ∃ y_ : List ByteArray, y_ = (([] : List ByteArray)) := ⟨_, rfl⟩
  replace H : (some y40) = some r := hh_ hy40 H
  have Ny40 := Aside0.mk hy40
  clear hy40
  obtain rfl := si_ H
  go_enter func14, ntmps14
  go_wp2_with (first | ((with_reducible refine gc_ 57 9 func57 #[.slice A0 l0.length c0] ?_); (with_reducible refine (spec_Parse.calls k _ _ l0 t18 t19 t53 _ (ca_ (HR0.out)) HC0.out A2.out).mono ?_); rintro e w34 ⟨v56, rfl, ho0, hb⟩; refine ⟨_, rfl, ?_⟩; have HO14 := Aside0.mk (Kd.R_lower ho0 (below_size bl_)); replace HB := hs_ hb; clear hb; (try clear ho0)) | ((with_reducible refine gate_dst (N := 3) rfl ?_); refine be_ (N := 3) (cs := #[.string ⟨#[]⟩, .slice none 0 0]) (t := 32) ?_; intro gb1 hg w35 hbox hb; replace HO14 := Aside0.mk (Kd.R_below (ra_ HO14) hb); have BK1 := Aside0.mk (hbox); have GW1 := gw_ (w := w) hg; replace HB := hs_ hb; clear hb hbox hg; refine by2_ BK1 ?_; intros; obtain ⟨Ao37, co37, eo37⟩ := Kd.R_slice HO14.out; subst eo37) | ((with_reducible refine gc_ 9 17 func9 #[.agg #[.string t18, .slice Ao37 t19.length co37]] ?_); (with_reducible refine (spec_ReqOf.calls k t18 _ _ t19 t13 t16 t17 t22 t26 t30 t31 t36 t55 _ ?side1 ((Kd.R_reads' HO14.out).2.1) A4.out).mono ?_); (case side1 => refine (Kd.R_reads' (e := 91) (base := w.heap.size) (ok := fun k_ => True) (n := t19.length) (c := co37) ?_).2.2; exact (by refine cr_ ?_; exact (Kd.R_mono (rf_ gb1 1 (rf_ gb1 0 (Kd.R_types HO14.out BK1.out (by decide)) (.string t18)) (.slice Ao37 t19.length co37)) (fun _ h_ => h_.1)))); rintro e w38 ⟨rfl, hb⟩; refine ⟨_, rfl, ?_⟩; replace HO14 := Aside0.mk (Kd.R_below (by refine cr_ ?_; exact (Kd.R_mono (rf_ gb1 1 (rf_ gb1 0 (Kd.R_types HO14.out BK1.out (by decide)) (.string t18)) (.slice Ao37 t19.length co37)) (fun _ h_ => h_.1))) hb); replace BK1 := Aside0.mk (blk_below (g := gb1) (o := .cells #[.string t18, .slice Ao37 t19.length co37] 32 (0, 0)) (by refine ch_ ?_; apply bq2_1_0_; exact ch_ BK1.out) hb); replace HB := hs_ hb; clear hb) | ((with_reducible refine gate_dst (N := 5) rfl ?_); refine be_ (N := 5) (cs := #[.int .i64 0, .string ⟨#[]⟩, .string ⟨#[]⟩, .string ⟨#[]⟩, .string ⟨#[]⟩, .string ⟨#[]⟩, .int .i64 0, .int .i64 0]) (t := 27) ?_; intro gb9 hg w39 hbox hb; replace HO14 := Aside0.mk (Kd.R_below (ra_ HO14) hb); have BK9 := Aside0.mk (hbox); have GW9 := gw_ (w := w) hg; replace HB := hs_ hb; have ⟨NB1_9, NB9_1⟩ := nb_ hg BK1; replace BK1 := kb_ BK1 hb; clear hb hbox hg; have := NB9_1.out; have := NB1_9.out; refine by8_ BK9 ?_; intros) | ((with_reducible refine gate_dst (N := 22) rfl ?_); refine Kd.R_lit Kd.string _ 9 ?hg (N := 22) ?hd (xs := ([] : List ByteArray)) (inner := []) (ok := fun _ => True) (okp := fun _ => True) ?hr ?hp (fun _ hk => hk) trivial (Below.refl _ _) (Nat.le_refl _) (by simp) ?_; (case hd => rfl); (case hg => rfl); (case hr => first | (go_simp; done) | (go_simp; rfl)); (case hp => exact (Reps.none _ _)); intro v69 w42 ho43 hb hg_ hnew_; clear hg_ hnew_; (first | rw [← Ny40.out] at ho43 | (simp only [Int.reduceToNat] at ho43; rw [← Ny40.out] at ho43)); replace HO14 := Aside0.mk (Kd.R_below (by refine cr_ ?_; exact (Kd.R_mono (rf_ gb9 7 (rf_ gb9 6 (rf_ gb9 5 (rf_ gb9 4 (rf_ gb9 3 (rf_ gb9 2 (rf_ gb9 1 (rf_ gb9 0 (Kd.R_types HO14.out BK9.out (by decide)) (.int .i64 t13)) (.string t16)) (.string t17)) (.string t22)) (.string t26)) (.string t30)) (.int .i64 t31)) (.int .i64 t36)) (fun _ h_ => h_.1))) hb); have HO58 := Aside0.mk (Kd.R_lower ho43 (below_size bl_)); replace BK1 := Aside0.mk (blk_below (g := gb1) (o := .cells #[.string t18, .slice Ao37 t19.length co37] 32 (0, 0)) (by refine ch_ ?_; refine bf_ NB1_9 ?_; refine bf_ NB1_9 ?_; refine bf_ NB1_9 ?_; refine bf_ NB1_9 ?_; refine bf_ NB1_9 ?_; refine bf_ NB1_9 ?_; refine bf_ NB1_9 ?_; exact bf_ NB1_9 BK1.out) hb); replace BK9 := Aside0.mk (blk_below (g := gb9) (o := .cells #[.int .i64 t13, .string t16, .string t17, .string t22, .string t26, .string t30, .int .i64 t31, .int .i64 t36] 27 (0, 0)) (by refine ch_ ?_; apply bq8_7_6_5_4_3_2_1_0_; exact ch_ BK9.out) hb); replace HB := hs_ hb; clear hb ho43))
  go_ret
  exact ⟨_, sq_, ra_ HO58, bl_⟩
 rw [if_pos c5] at H
 have := et_ c5
 replace c5 := nf_ c5
 have HC6 := Aside0.mk H
 clear H
 go_enter func14, ntmps14
 go_upto_region 7 with (first | ((with_reducible refine gc_ 57 9 func57 #[.slice A0 l0.length c0] ?_); (with_reducible refine (spec_Parse.calls k _ _ l0 t18 t19 t53 _ (ca_ (HR0.out)) HC0.out A2.out).mono ?_); rintro e w7 ⟨v56, rfl, ho0, hb⟩; refine ⟨_, rfl, ?_⟩; have HO14 := Aside0.mk (Kd.R_lower ho0 (below_size bl_)); replace HB := hs_ hb; clear hb; (try clear ho0)) | ((with_reducible refine gate_dst (N := 3) rfl ?_); refine be_ (N := 3) (cs := #[.string ⟨#[]⟩, .slice none 0 0]) (t := 32) ?_; intro gb1 hg w8 hbox hb; replace HO14 := Aside0.mk (Kd.R_below (ra_ HO14) hb); have BK1 := Aside0.mk (hbox); have GW1 := gw_ (w := w) hg; replace HB := hs_ hb; clear hb hbox hg; refine by2_ BK1 ?_; intros; obtain ⟨Ao10, co10, eo10⟩ := Kd.R_slice HO14.out; subst eo10) | ((with_reducible refine gc_ 9 17 func9 #[.agg #[.string t18, .slice Ao10 t19.length co10]] ?_); (with_reducible refine (spec_ReqOf.calls k t18 _ _ t19 t13 t16 t17 t22 t26 t30 t31 t36 t55 _ ?side1 ((Kd.R_reads' HO14.out).2.1) A4.out).mono ?_); (case side1 => refine (Kd.R_reads' (e := 91) (base := w.heap.size) (ok := fun k_ => True) (n := t19.length) (c := co10) ?_).2.2; exact (by refine cr_ ?_; exact (Kd.R_mono (rf_ gb1 1 (rf_ gb1 0 (Kd.R_types HO14.out BK1.out (by decide)) (.string t18)) (.slice Ao10 t19.length co10)) (fun _ h_ => h_.1)))); rintro e w11 ⟨rfl, hb⟩; refine ⟨_, rfl, ?_⟩; replace HO14 := Aside0.mk (Kd.R_below (by refine cr_ ?_; exact (Kd.R_mono (rf_ gb1 1 (rf_ gb1 0 (Kd.R_types HO14.out BK1.out (by decide)) (.string t18)) (.slice Ao10 t19.length co10)) (fun _ h_ => h_.1))) hb); replace BK1 := Aside0.mk (blk_below (g := gb1) (o := .cells #[.string t18, .slice Ao10 t19.length co10] 32 (0, 0)) (by refine ch_ ?_; apply bq2_1_0_; exact ch_ BK1.out) hb); replace HB := hs_ hb; clear hb) | ((with_reducible refine gate_dst (N := 5) rfl ?_); refine be_ (N := 5) (cs := #[.int .i64 0, .string ⟨#[]⟩, .string ⟨#[]⟩, .string ⟨#[]⟩, .string ⟨#[]⟩, .string ⟨#[]⟩, .int .i64 0, .int .i64 0]) (t := 27) ?_; intro gb9 hg w12 hbox hb; replace HO14 := Aside0.mk (Kd.R_below (ra_ HO14) hb); have BK9 := Aside0.mk (hbox); have GW9 := gw_ (w := w) hg; replace HB := hs_ hb; have ⟨NB1_9, NB9_1⟩ := nb_ hg BK1; replace BK1 := kb_ BK1 hb; clear hb hbox hg; have := NB9_1.out; have := NB1_9.out; refine by8_ BK9 ?_; intros))
 (try simp only [Act.put, List.setIfInBounds_toArray, List.set_cons_zero, List.set_cons_succ])
 go_cut [32] (fun v32 wc => ∃ (kq : Nat) (x32_5 : Bool), v32 = .bool x32_5 ∧ Aside0 (spec_Asks.j0 kq x32_5 t13 t16 t17 t22 t26 t30 t31 t36 = some r) ∧ Aside0 (kq ≤ k) ∧ Aside0 (Kd.R k91 91 wc w.heap.size (fun _ => True) (.slice Ao10 t19.length co10) t19) ∧ Aside0 (wc.heap[gb1]? = some (.cells #[.string t18, (.slice Ao10 t19.length co10)] 32 (0, 0))) ∧ Aside0 (wc.heap[gb9]? = some (.cells #[.int .i64 t13, .string t16, .string t17, .string t22, .string t26, .string t30, .int .i64 t31, .int .i64 t36] 27 (0, 0))) ∧ Aside0 (Below w.heap.size w wc))
 case first =>
  have H := HC6.out
  clear HC6
  by_cases c15 : t13 = 6
  ·rw [if_pos c15] at H
   have c15b0 := et_ c15
   have c15b1 := nf_ c15
   clear c15
   (first | rw [c15b0] | (simp only [i64_w, i32_w]; rw [c15b0]) | skip)
   have H' := Aside0.mk H
   clear H
   have := NB9_1.out
   have := NB1_9.out
   refine by8_ BK9 ?_; intros
   go_wp2
   go_meet
   case rel => exact ⟨_, ((t17.toList == t16.toList)), sp_, H', ⟨by first | omega | exact Nat.le_refl _⟩, ⟨by refine cr_ ?_; exact Kd.R_mono (rf_ gb9 7 (rf_ gb9 6 (rf_ gb9 5 (rf_ gb9 4 (rf_ gb9 3 (rf_ gb9 2 (rf_ gb9 1 (rf_ gb9 0 (Kd.R_types HO14.out BK9.out (by decide)) (.int .i64 t13)) (.string t16)) (.string t17)) (.string t22)) (.string t26)) (.string t30)) (.int .i64 t31)) (.int .i64 t36)) (fun _ hk => trivial)⟩, ⟨by refine ch_ ?_; refine bf_ NB1_9 ?_; refine bf_ NB1_9 ?_; refine bf_ NB1_9 ?_; refine bf_ NB1_9 ?_; refine bf_ NB1_9 ?_; refine bf_ NB1_9 ?_; refine bf_ NB1_9 ?_; exact bf_ NB1_9 BK1.out⟩, ⟨by refine ch_ ?_; apply bq8_7_6_5_4_3_2_1_0_; exact ch_ BK9.out⟩, ⟨bl_⟩⟩
  ·rw [if_neg c15] at H
   have c15b0 := ef_ c15
   have c15b1 := nt_ c15
   (first | rw [c15b0] | (simp only [i64_w, i32_w]; rw [c15b0]) | skip)
   have H' := Aside0.mk H
   clear H
   have := NB9_1.out
   have := NB1_9.out
   refine by8_ BK9 ?_; intros
   go_wp2
   go_meet
   case rel => exact ⟨_, (true), sp_, H', ⟨by first | omega | exact Nat.le_refl _⟩, ⟨by refine cr_ ?_; exact Kd.R_mono (rf_ gb9 7 (rf_ gb9 6 (rf_ gb9 5 (rf_ gb9 4 (rf_ gb9 3 (rf_ gb9 2 (rf_ gb9 1 (rf_ gb9 0 (Kd.R_types HO14.out BK9.out (by decide)) (.int .i64 t13)) (.string t16)) (.string t17)) (.string t22)) (.string t26)) (.string t30)) (.int .i64 t31)) (.int .i64 t36)) (fun _ hk => trivial)⟩, ⟨by refine ch_ ?_; refine bf_ NB1_9 ?_; refine bf_ NB1_9 ?_; refine bf_ NB1_9 ?_; refine bf_ NB1_9 ?_; refine bf_ NB1_9 ?_; refine bf_ NB1_9 ?_; refine bf_ NB1_9 ?_; exact bf_ NB1_9 BK1.out⟩, ⟨by refine ch_ ?_; apply bq8_7_6_5_4_3_2_1_0_; exact ch_ BK9.out⟩, ⟨bl_⟩⟩
 case rest =>
  clear HC6
  obtain ⟨kq, x32_5, rfl, HA, HJ5, HO_51, BK1, BK9, HB⟩ := hcut
  cases kq with
  | zero => exact absurd HA.out (by simp [spec_Asks.j0])
  | succ kj5 =>
   have H := HA.out
   clear HA
   simp only [spec_Asks.j0] at H
   by_cases c20 : x32_5 = true
   ·subst c20
    replace H := ip_ H
    obtain ⟨y41, hy41⟩ : ∃ y_ : List ByteArray, y_ = (([t16] : List ByteArray)) := ⟨_, rfl⟩
    replace H : (some y41) = some r := hh_ hy41 H
    have Ny41 := Aside0.mk hy41
    clear hy41
    obtain rfl := si_ H
    have := NB9_1.out
    have := NB1_9.out
    refine by8_ BK9 ?_; intros
    go_wp2_with (first | ((with_reducible refine gate_dst (N := 35) rfl ?_); refine Kd.R_lit Kd.string _ 9 ?hg (N := 35) ?hd (xs := ([t16] : List ByteArray)) (inner := [.string t16]) (ok := fun _ => True) (okp := fun _ => True) ?hr ?hp (fun _ hk => hk) trivial (Below.refl _ _) (Nat.le_refl _) (by simp) ?_; (case hd => rfl); (case hg => rfl); (case hr => first | (go_simp; done) | (go_simp; rfl)); (case hp => exact (Reps.one (show Kd.M Kd.string _ _ _ t16 [.string t16] from rfl) (Reps.none _ _))); intro v70 w23 ho24 hb hg_ hnew_; clear hg_ hnew_; (first | rw [← Ny41.out] at ho24 | (simp only [Int.reduceToNat] at ho24; rw [← Ny41.out] at ho24)); replace HO_51 := Aside0.mk (Kd.R_below (ra_ HO_51) hb); have HO59 := Aside0.mk (Kd.R_lower ho24 (below_size bl_)); replace BK1 := kb_ BK1 hb; replace BK9 := kb_ BK9 hb; replace HB := hs_ hb; clear hb ho24))
    go_ret
    exact ⟨_, sq_, ra_ HO59, bl_⟩
   replace c20 := gf_ c20
   subst c20
   replace H := in_ H
   by_cases c25 : (Op.bytesLess t17.toList t16.toList) = true
   ·rw [if_pos c25] at H
    have c25b0 : (Op.bytesLess t17.toList t16.toList) = true := c25
    clear c25
    obtain ⟨y46, hy46⟩ : ∃ y_ : List ByteArray, y_ = (([t17, t16] : List ByteArray)) := ⟨_, rfl⟩
    replace H : (some y46) = some r := hh_ hy46 H
    have Ny46 := Aside0.mk hy46
    clear hy46
    obtain rfl := si_ H
    have := NB9_1.out
    have := NB1_9.out
    refine by8_ BK9 ?_; intros
    go_wp2_with (first | ((with_reducible refine gate_dst (N := 45) rfl ?_); refine Kd.R_lit Kd.string _ 9 ?hg (N := 45) ?hd (xs := ([t17, t16] : List ByteArray)) (inner := [.string t17, .string t16]) (ok := fun _ => True) (okp := fun _ => True) ?hr ?hp (fun _ hk => hk) trivial (Below.refl _ _) (Nat.le_refl _) (by simp) ?_; (case hd => rfl); (case hg => rfl); (case hr => first | (go_simp; done) | (go_simp; rfl)); (case hp => exact (Reps.one (show Kd.M Kd.string _ _ _ t17 [.string t17] from rfl) (Reps.one (show Kd.M Kd.string _ _ _ t16 [.string t16] from rfl) (Reps.none _ _)))); intro v71 w28 ho29 hb hg_ hnew_; clear hg_ hnew_; (first | rw [← Ny46.out] at ho29 | (simp only [Int.reduceToNat] at ho29; rw [← Ny46.out] at ho29)); replace HO_51 := Aside0.mk (Kd.R_below (ra_ HO_51) hb); have HO60 := Aside0.mk (Kd.R_lower ho29 (below_size bl_)); replace BK1 := kb_ BK1 hb; replace BK9 := kb_ BK9 hb; replace HB := hs_ hb; clear hb ho29))
    go_ret
    exact ⟨_, sq_, ra_ HO60, bl_⟩
   rw [if_neg c25] at H
   have c25b0 : (Op.bytesLess t17.toList t16.toList) = false := by simpa using c25
   clear c25
   obtain ⟨y50, hy50⟩ : ∃ y_ : List ByteArray, y_ = (([t16, t17] : List ByteArray)) := ⟨_, rfl⟩
   replace H : (some y50) = some r := hh_ hy50 H
   have Ny50 := Aside0.mk hy50
   clear hy50
   obtain rfl := si_ H
   have := NB9_1.out
   have := NB1_9.out
   refine by8_ BK9 ?_; intros
   go_wp2_with (first | ((with_reducible refine gate_dst (N := 50) rfl ?_); refine Kd.R_lit Kd.string _ 9 ?hg (N := 50) ?hd (xs := ([t16, t17] : List ByteArray)) (inner := [.string t16, .string t17]) (ok := fun _ => True) (okp := fun _ => True) ?hr ?hp (fun _ hk => hk) trivial (Below.refl _ _) (Nat.le_refl _) (by simp) ?_; (case hd => rfl); (case hg => rfl); (case hr => first | (go_simp; done) | (go_simp; rfl)); (case hp => exact (Reps.one (show Kd.M Kd.string _ _ _ t16 [.string t16] from rfl) (Reps.one (show Kd.M Kd.string _ _ _ t17 [.string t17] from rfl) (Reps.none _ _)))); intro v72 w32 ho33 hb hg_ hnew_; clear hg_ hnew_; (first | rw [← Ny50.out] at ho33 | (simp only [Int.reduceToNat] at ho33; rw [← Ny50.out] at ho33)); replace HO_51 := Aside0.mk (Kd.R_below (ra_ HO_51) hb); have HO61 := Aside0.mk (Kd.R_lower ho33 (below_size bl_)); replace BK1 := kb_ BK1 hb; replace BK9 := kb_ BK9 hb; replace HB := hs_ hb; clear hb ho33))
   go_ret
   exact ⟨_, sq_, ra_ HO61, bl_⟩
/-! ### spec_Fnv: function 140 -/
def spec_Fnv.l0 : Nat → ByteArray → Int → Int → Option (Int)
 | 0, _, _, _ => none
 | k + 1, x0, x3, x4 => if x4 < (x0.size : Int) then (if 0 ≤ x4 then (spec_Fnv.l0 k x0 (Go.bits .and .i64 (wrap64 ((Go.bits .xor .i64 x3 (wrap64 (bt x0 x4))) * 16777619)) 4294967295) (wrap64 (x4 + 1))) else (none)) else (some x3)
def spec_Fnv.f (k : Nat) (a0 : ByteArray) : Option (Int) := spec_Fnv.l0 k a0 2166136261 0
theorem spec_Fnv.calls (k : Nat) (a0 : ByteArray) (r : Int) (w : World) (h : spec_Fnv.f k a0 = some r) :
  Calls Tryz.prog 140 #[.string a0] w fun e w' => e = .returned (.int .i64 r) ∧ Drawn0 w w' := by
 have H := h
 unfold spec_Fnv.f at H
 clear h
 have H' := Aside0.mk H
 clear H
 go_enter func140, ntmps140
 go_wp2
 go_loopg [3, 4] k (fun kq v3 v4 w' => ∃ (x3_1 : Int) (x4_1 : Int), v3 = .int .i64 x3_1 ∧ v4 = .int .i64 x4_1 ∧ Aside0 (spec_Fnv.l0 kq a0 x3_1 x4_1 = some r) ∧ Aside0 (kq ≤ k) ∧ Drawn0 w w')
 case atStart => exact ⟨(2166136261), (0), sp_, sp_, H', ⟨Nat.le_refl _⟩, dr_⟩
 case round =>
  clear H'
  obtain ⟨x3_1, x4_1, rfl, rfl, HA, HK1, ⟨m1, rfl⟩⟩ := hrel
  cases gk with
  | zero => exact absurd HA.out (by simp [spec_Fnv.l0])
  | succ k1 =>
   have H := HA.out
   clear HA
   simp only [spec_Fnv.l0] at H
   by_cases c2 : x4_1 < (a0.size : Int)
   ·rw [if_pos c2] at H
    replace c2 := dt_ c2
    by_cases c3 : 0 ≤ x4_1
    ·rw [if_pos c3] at H
     replace c3 := dt_ c3
     have H' := Aside0.mk H
     clear H
     have p4 : 0 ≤ (x4_1 : Int) := od_
     have q4 : x4_1 < (a0.size : Int) := od_
     have hx4 := bt_at a0 x4_1
     replace p4 := eq_true p4
     replace q4 := eq_true q4
     go_wp2
     go_roundg k1
     case measure => have := HK1.out; omega
     case rel => exact ⟨(Go.bits .and .i64 (wrap64 ((Go.bits .xor .i64 x3_1 (wrap64 (bt a0 x4_1))) * 16777619)) 4294967295), (wrap64 (x4_1 + 1)), sp_, sp_, H', ⟨by have := HK1.out; omega⟩, dr_⟩
    ·rw [if_neg c3] at H
     exact absurd H (by simp)
   ·rw [if_neg c2] at H
    replace c2 := df_ c2
    obtain rfl := si_ H
    go_wp2
    go_ret
    exact ⟨sp_, dr_⟩
/-! ### spec_StripeNo: function 102 -/
def spec_StripeNo.f (k : Nat) (a0 : ByteArray) (a1 : Int) : Option (Int) := if a1 < 1 then (some 0) else ((spec_Fnv.f k a0).bind fun t1 => (if a1 = 0 then (none) else (some (Int.tmod t1 a1))))
theorem spec_StripeNo.calls (k : Nat) (a0 : ByteArray) (a1 : Int) (r : Int) (w : World) (h : spec_StripeNo.f k a0 a1 = some r) :
  Calls Tryz.prog 102 #[.string a0, .int .i64 a1] w fun e w' => e = .returned (.int .i64 r) ∧ Drawn0 w w' := by
 have H := h
 unfold spec_StripeNo.f at H
 clear h
 by_cases c3 : a1 < 1
 ·rw [if_pos c3] at H
  replace c3 := dt_ c3
  obtain rfl := si_ H
  go_enter func102, ntmps102
  go_wp2
  go_ret
  exact ⟨sp_, dr_⟩
 rw [if_neg c3] at H
 replace c3 := df_ c3
 obtain ⟨t1, A4, H⟩ := ob_ H
 obtain ⟨c5, H⟩ := on_ H
 have c5b0 := ef_ c5
 have c5b1 := nt_ c5
 obtain rfl := si_ H
 go_enter func102, ntmps102
 go_wp2_with (first | ((with_reducible refine gd_ 140 8 func140 #[.string a0] (spec_Fnv.calls k a0 t1 _ A4.out) fun nd => ?_)))
 go_ret
 exact ⟨sp_, dr_⟩
/-! ### spec_LockSet: function 64 -/
mutual
def spec_LockSet.l0 : Nat → Int → List Int → List ByteArray → Int → Int → Option (List Int)
 | 0, _, _, _, _, _ => none
 | k + 1, x1, x5, x12, x13, x14 => if x14 < x13 then (if 0 ≤ x14 then (if x14 < (x12.length : Int) then ((spec_StripeNo.f k (rdOf ByteArray.empty x12 x14) x1).bind fun t55 => (spec_LockSet.l1 k x1 x5 t55 0 x12 x13 x14)) else (none)) else (none)) else (some x5)
def spec_LockSet.l1 : Nat → Int → List Int → Int → Int → List ByteArray → Int → Int → Option (List Int)
 | 0, _, _, _, _, _, _, _ => none
 | k + 1, x1, x5, x8, x9, x12, x13, x14 => if x9 < (x5.length : Int) then (if 0 ≤ x9 then (if (rd x5 x9) < x8 then (spec_LockSet.l1 k x1 x5 x8 (wrap64 (x9 + 1)) x12 x13 x14) else (if (rd x5 x9) = x8 then (spec_LockSet.l0 k x1 x5 x12 x13 (wrap64 (x14 + 1))) else ((some (([] : List Int) : List Int)).bind fun y56 => (if x9 ≤ (x5.length : Int) then ((some (x5.take (x9 : Int).toNat : List Int)).bind fun y48 => (if y56.length + y48.length < 17592186044416 then ((some (y56 ++ y48 : List Int)).bind fun y53 => (if y53.length < 17592186044416 then ((some (y53 ++ [x8] : List Int)).bind fun y50 => ((some (x5.drop (x9 : Int).toNat : List Int)).bind fun y46 => (if y50.length + y46.length < 17592186044416 then (spec_LockSet.l0 k x1 (y50 ++ y46) x12 x13 (wrap64 (x14 + 1))) else (none)))) else (none))) else (none))) else (none))))) else (none)) else ((some (([] : List Int) : List Int)).bind fun y57 => (if 0 ≤ x9 then (if x9 ≤ (x5.length : Int) then ((some (x5.take (x9 : Int).toNat : List Int)).bind fun y49 => (if y57.length + y49.length < 17592186044416 then ((some (y57 ++ y49 : List Int)).bind fun y54 => (if y54.length < 17592186044416 then ((some (y54 ++ [x8] : List Int)).bind fun y51 => ((some (x5.drop (x9 : Int).toNat : List Int)).bind fun y47 => (if y51.length + y47.length < 17592186044416 then (spec_LockSet.l0 k x1 (y51 ++ y47) x12 x13 (wrap64 (x14 + 1))) else (none)))) else (none))) else (none))) else (none)) else (none)))
end
def spec_LockSet.f (k : Nat) (l0 : List ByteArray) (a1 : Int) : Option (List Int) := spec_LockSet.l0 k a1 (([] : List Int)) l0 (l0.length : Int) 0
theorem spec_LockSet.calls (k : Nat) (A0 : Option Addr) (c0 : Nat) (l0 : List ByteArray) (a1 : Int) (r : List Int) (w : World) (hr0 : Kd.C Kd.string w A0 l0.length l0) (hc0 : l0.length ≤ c0) (h : spec_LockSet.f k l0 a1 = some r) :
  Calls Tryz.prog 64 #[.slice A0 l0.length c0, .int .i64 a1] w fun e w' => ∃ v0_ : Value, e = .returned (v0_) ∧ Kd.R (Kd.int .i64) 3 w' w.heap.size (fun _ => True) v0_ r ∧ Below w.heap.size w w' := by
 have HR0 := Aside0.mk hr0
 have HC0 := Aside0.mk hc0
 clear hr0 hc0
 have HB := Aside0.mk (Below.refl w.heap.size w)
 have H := h
 unfold spec_LockSet.f at H
 clear h
 obtain ⟨y59, hy59⟩ : ∃ y_ : List Int, y_ = (([] : List Int)) := ⟨_, rfl⟩
 replace H : (spec_LockSet.l0 k a1 y59 l0 (l0.length : Int) 0) = some r := hh_ hy59 H
 have Ny59 := Aside0.mk hy59
 clear hy59
 have H' := Aside0.mk H
 clear H
 go_enter func64, ntmps64
 go_wp2_with (first | ((with_reducible refine gate_dst (N := 11) rfl ?_); refine Kd.R_lit (Kd.int .i64) _ 3 ?hg (N := 11) ?hd (xs := ([] : List Int)) (inner := []) (ok := fun _ => True) (okp := fun _ => True) ?hr ?hp (fun _ hk => hk) trivial (Below.refl _ _) (Nat.le_refl _) (by simp) ?_; (case hd => rfl); (case hg => rfl); (case hr => first | (go_simp; done) | (go_simp; rfl)); (case hp => exact (Reps.none _ _)); intro v81 w3 ho4 hb hg_ hnew_; clear hg_ hnew_; (first | rw [← Ny59.out] at ho4 | (simp only [Int.reduceToNat] at ho4; rw [← Ny59.out] at ho4)); have HO72 := Aside0.mk (Kd.R_lower ho4 (below_size bl_)); replace HB := hs_ hb; clear hb ho4))
 go_loopg [5, 14] k (fun kq v5 v14 w' => ∃ (x5_1 : List Int) (x14_1 : Int), v14 = .int .i64 x14_1 ∧ Aside0 (spec_LockSet.l0 kq a1 x5_1 l0 (l0.length : Int) x14_1 = some r) ∧ Aside0 (kq ≤ k) ∧ Aside0 (Kd.R (Kd.int .i64) 3 w' w.heap.size (fun _ => True) v5 x5_1) ∧ Aside0 (Below w.heap.size w w'))
 case atStart => exact ⟨(y59), (0), sp_, H', ⟨Nat.le_refl _⟩, ⟨ra_ HO72⟩, ⟨bl_⟩⟩
 case round =>
  clear H'
  obtain ⟨x5_1, x14_1, rfl, HA, HK1, HO_5, HB⟩ := hrel
  cases gk with
  | zero => exact absurd HA.out (by simp [spec_LockSet.l0])
  | succ k1 =>
   have H := HA.out
   clear HA
   simp only [spec_LockSet.l0] at H
   by_cases c5 : x14_1 < (l0.length : Int)
   rotate_left
   ·rw [if_neg c5] at H
    replace c5 := df_ c5
    obtain rfl := si_ H
    go_wp2
    go_ret
    exact ⟨_, sq_, ra_ HO_5, bl_⟩
   rw [if_pos c5] at H
   replace c5 := dt_ c5
   obtain ⟨c6, H⟩ := og_ H
   replace c6 := dt_ c6
   obtain ⟨c7, H⟩ := og_ H
   replace c7 := dt_ c7
   obtain ⟨t55, A8, H⟩ := ob_ H
   have H' := Aside0.mk H
   clear H
   have p58 : 0 ≤ (x14_1 : Int) := od_
   have q58 : x14_1 < (l0.length : Int) := od_
   obtain ⟨ad58, e58, hx58_0⟩ := Kd.at_string HR0.out x14_1 p58 q58
   cases e58
   replace hx58_0 := kc_ HB hx58_0
   replace p58 := eq_true p58
   replace q58 := eq_true q58
   go_wp2_with (first | ((with_reducible refine gd_ 102 20 func102 #[.string (rdOf ByteArray.empty l0 x14_1), .int .i64 a1] (spec_StripeNo.calls k1 (rdOf ByteArray.empty l0 x14_1) a1 t55 _ A8.out) fun nd => ?_)))
   go_loopg [9] k1 (fun kq v9 w' => ∃ (x9_2 : Int), v9 = .int .i64 x9_2 ∧ Aside0 (spec_LockSet.l1 kq a1 x5_1 t55 x9_2 l0 (l0.length : Int) x14_1 = some r) ∧ Aside0 (kq ≤ k1) ∧ Aside0 (Kd.R (Kd.int .i64) 3 w' w.heap.size (fun _ => True) u5 x5_1) ∧ Aside0 (Below w.heap.size w w'))
   case atStart => exact ⟨(0), sp_, H', ⟨Nat.le_refl _⟩, ⟨ra_ HO_5⟩, ⟨bl_⟩⟩
   case round =>
    clear H'
    obtain ⟨x9_2, rfl, HA, HK2, HO_5, HB⟩ := hrel
    cases gk with
    | zero => exact absurd HA.out (by simp [spec_LockSet.l1])
    | succ k2 =>
     have H := HA.out
     clear HA
     simp only [spec_LockSet.l1] at H
     by_cases c9 : x9_2 < (x5_1.length : Int)
     rotate_left
     ·rw [if_neg c9] at H
      replace c9 := df_ c9
      obtain ⟨y57, hy57⟩ : ∃ y_ : List Int, y_ = (([] : List Int)) := ⟨_, rfl⟩
      replace H : (if 0 ≤ x9_2 then (if x9_2 ≤ (x5_1.length : Int) then ((some (x5_1.take (x9_2 : Int).toNat : List Int)).bind fun y49 => (if y57.length + y49.length < 17592186044416 then ((some (y57 ++ y49 : List Int)).bind fun y54 => (if y54.length < 17592186044416 then ((some (y54 ++ [t55] : List Int)).bind fun y51 => ((some (x5_1.drop (x9_2 : Int).toNat : List Int)).bind fun y47 => (if y51.length + y47.length < 17592186044416 then (spec_LockSet.l0 k2 a1 (y51 ++ y47) l0 (l0.length : Int) (wrap64 (x14_1 + 1))) else (none)))) else (none))) else (none))) else (none)) else (none)) = some r := hh_ hy57 H
      have Ny57 := Aside0.mk hy57
      clear hy57
      obtain ⟨c30, H⟩ := og_ H
      have := eq_true c30
      replace c30 := dt_ c30
      obtain ⟨c31, H⟩ := og_ H
      have := eq_true c31
      replace c31 := dt_ c31
      obtain ⟨y49, hy49⟩ : ∃ y_ : List Int, y_ = (x5_1.take (x9_2 : Int).toNat) := ⟨_, rfl⟩
      replace H : (if y57.length + y49.length < 17592186044416 then ((some (y57 ++ y49 : List Int)).bind fun y54 => (if y54.length < 17592186044416 then ((some (y54 ++ [t55] : List Int)).bind fun y51 => ((some (x5_1.drop (x9_2 : Int).toNat : List Int)).bind fun y47 => (if y51.length + y47.length < 17592186044416 then (spec_LockSet.l0 k2 a1 (y51 ++ y47) l0 (l0.length : Int) (wrap64 (x14_1 + 1))) else (none)))) else (none))) else (none)) = some r := hh_ hy49 H
      have Ny49 := Aside0.mk hy49
      clear hy49
      obtain ⟨c32, H⟩ := og_ H
      have LMc32 := Aside0.mk c32
      clear c32
      obtain ⟨y54, hy54⟩ : ∃ y_ : List Int, y_ = (y57 ++ y49) := ⟨_, rfl⟩
      replace H : (if y54.length < 17592186044416 then ((some (y54 ++ [t55] : List Int)).bind fun y51 => ((some (x5_1.drop (x9_2 : Int).toNat : List Int)).bind fun y47 => (if y51.length + y47.length < 17592186044416 then (spec_LockSet.l0 k2 a1 (y51 ++ y47) l0 (l0.length : Int) (wrap64 (x14_1 + 1))) else (none)))) else (none)) = some r := hh_ hy54 H
      have Ny54 := Aside0.mk hy54
      clear hy54
      obtain ⟨c33, H⟩ := og_ H
      have LMc33 := Aside0.mk c33
      clear c33
      obtain ⟨y51, hy51⟩ : ∃ y_ : List Int, y_ = (y54 ++ [t55]) := ⟨_, rfl⟩
      replace H : ((some (x5_1.drop (x9_2 : Int).toNat : List Int)).bind fun y47 => (if y51.length + y47.length < 17592186044416 then (spec_LockSet.l0 k2 a1 (y51 ++ y47) l0 (l0.length : Int) (wrap64 (x14_1 + 1))) else (none))) = some r := hh_ hy51 H
      have Ny51 := Aside0.mk hy51
      clear hy51
      have c34b0 := eq_true (od_ : 0 ≤ x9_2)
      have c35b0 := eq_true (od_ : x9_2 ≤ (x5_1.length : Int))
      obtain ⟨y47, hy47⟩ : ∃ y_ : List Int, y_ = (x5_1.drop (x9_2 : Int).toNat) := ⟨_, rfl⟩
      replace H : (if y51.length + y47.length < 17592186044416 then (spec_LockSet.l0 k2 a1 (y51 ++ y47) l0 (l0.length : Int) (wrap64 (x14_1 + 1))) else (none)) = some r := hh_ hy47 H
      have Ny47 := Aside0.mk hy47
      clear hy47
      by_cases c36 : y51.length + y47.length < 17592186044416
      ·rw [if_pos c36] at H
       have LMc36 := Aside0.mk c36
       clear c36
       obtain ⟨y62, hy62⟩ : ∃ y_ : List Int, y_ = (y51 ++ y47) := ⟨_, rfl⟩
       replace H : (spec_LockSet.l0 k2 a1 y62 l0 (l0.length : Int) (wrap64 (x14_1 + 1))) = some r := hh_ hy62 H
       have Ny62 := Aside0.mk hy62
       clear hy62
       have H' := Aside0.mk H
       clear H
       obtain ⟨Ao37, co37, eo37⟩ := Kd.R_slice HO_5.out
       subst eo37
       go_wp2_with (first | ((with_reducible refine gate_dst (N := 47) rfl ?_); refine Kd.R_lit (Kd.int .i64) _ 3 ?hg (N := 47) ?hd (xs := ([] : List Int)) (inner := []) (ok := fun _ => True) (okp := fun _ => True) ?hr ?hp (fun _ hk => hk) trivial (Below.refl _ _) (Nat.le_refl _) (by simp) ?_; (case hd => rfl); (case hg => rfl); (case hr => first | (go_simp; done) | (go_simp; rfl)); (case hp => exact (Reps.none _ _)); intro v73 w38 ho39 hb hg_ hnew_; clear hg_ hnew_; (first | rw [← Ny57.out] at ho39 | (simp only [Int.reduceToNat] at ho39; rw [← Ny57.out] at ho39)); have HO66 := Aside0.mk (Kd.R_lower (Kd.R_new' ho39 (Kd.R_lt (ra_ HO_5))) (below_size bl_)); replace HO_5 := Aside0.mk (Kd.R_elder' (ra_ HO_5) (Kd.R_base ho39) hb); replace HB := hs_ hb; clear hb ho39; have q40 : (x9_2 : Int) ≤ ((x5_1.length : Int) : Int) := od_; obtain ⟨i040, hi040, _, hsz40, _⟩ := info_parts info3; have hroom40 : x5_1.length ≤ co37 := (Kd.R_reads' HO_5.out).2.1; have hC40 : Kd.C (Kd.int .i64) _ Ao37 x5_1.length x5_1 := (Kd.R_reads' HO_5.out).2.2; have hcut40 := cut_to (P := Tryz.prog) 46 3 .i64 underlying46 hi040 Ao37 x5_1.length co37 x9_2 od_ q40 hroom40; have hr40 := Kd.C_take (m := (x9_2 : Int).toNat) hC40 (by omega); have hy40 : y49.length = (x9_2 : Int).toNat := (by rw [Ny49.out, List.length_take]; omega); rw [← Ny49.out] at hr40; rw [← hy40] at hcut40; have HR60 := Aside0.mk hr40; have HC60 := Aside0.mk (show y49.length ≤ co37 from by omega); clear hr40 hC40 hroom40 hi040 hsz40; have KY40 := Aside0.mk hy40; clear hy40; have KL40 := Aside0.mk (show (x9_2 : Int).toNat ≤ x5_1.length from by omega); replace q40 := eq_true q40) | ((with_reducible refine gate_builtin (b := .append) (xs := #[.tmp 47, .tmp 50]) rfl ?_); at_builtin; refine Kd.R_append_rows (Kd.int .i64) (w0 := w) w.heap.size rfl (.tmp 47) (.tmp 50) 46 3 (.int .i64 0) 8 rfl underlying46 info3 rfl (by decide) (by omega) v73 y57 y49 _ _ _ (fun k_ => some k_ ≠ (.slice Ao37 x5_1.length co37 : Value).ownBlock) (fun _ => False) rfl rfl ?aO ?aR (fun _ _ h => h) (fun _ h => h.elim) ?aF ?aB ?aS ?aL ?_; (case aR => exact ca_ (by repeat (first | (with_reducible exact HR60.out) | (with_reducible refine Kd.C_alloc ?_ _) | (with_reducible refine Kd.C_drewN ?_ _) | (with_reducible refine Kd.C_drew ?_) | exact HR60.out))); (case aB => exact bl_); (case aF => exact (fun k_ hk => Kd.fresh' (Kd.R_lt (ra_ HO_5)) k_ hk)); (case aO => exact (by refine cr_ ?_; exact Kd.R_mono HO66.out (fun _ hk => hk.2))); (case aS => exact (below_size bl_)); (case aL => have := LMc32.out; omega); intro v74 w41 ho hb hg hat; rw [← Ny54.out] at ho; have n0_ := Aside0.mk (Kd.R_after (ok := (fun _ => True)) (ra_ HO_5) hg hat); have n1_ := Aside0.mk (hb); have n2_ := Aside0.mk ((show Kd.C (Kd.int .i64) w41 Ao37 y49.length y49 from by rw [Ny49.out]; exact Kd.C_take (m := (x9_2 : Int).toNat) ((Kd.R_reads' (Kd.R_after (ok := (fun _ => True)) (ra_ HO_5) hg hat)).2.2) KL40.out)); have n3_ := Aside0.mk (ho); clear HO_5; clear HB; clear HR60; clear HO66; have HO_5 := n0_; have HB := n1_; have HR60 := n2_; have HO67 := n3_; clear n0_ n1_ n2_ n3_; clear ho hb hg hat) | ((with_reducible refine gate_builtin (b := .append) (xs := #[.tmp 52, .tmp 54]) rfl ?_); at_builtin; refine Kd.R_append (Kd.int .i64) (w0 := w) w.heap.size rfl (.tmp 52) (.tmp 54) 46 3 (.int .i64 0) 8 rfl underlying46 info3 rfl (by decide) (by omega) v74 y54 t55 [.int .i64 t55] (fun k_ => some k_ ≠ (.slice Ao37 x5_1.length co37 : Value).ownBlock) (fun _ => False) rfl rfl ?aP (fun _ hk => hk.elim) ?aF ?aO ?aB ?aS ?aL ?_; (case aP => exact rfl); (case aB => exact bl_); (case aF => exact (fun k_ hk => Kd.fresh' (Kd.R_lt (ra_ HO_5)) k_ hk)); (case aO => exact (ra_ HO67)); (case aS => exact (below_size bl_)); (case aL => have := LMc33.out; omega); intro v75 w42 ho hb hg hat; rw [← Ny51.out] at ho; have n0_ := Aside0.mk (Kd.R_after (ok := (fun _ => True)) (ra_ HO_5) hg hat); have n1_ := Aside0.mk (hb); have n2_ := Aside0.mk ((show Kd.C (Kd.int .i64) w42 Ao37 y49.length y49 from by rw [Ny49.out]; exact Kd.C_take (m := (x9_2 : Int).toNat) ((Kd.R_reads' (Kd.R_after (ok := (fun _ => True)) (ra_ HO_5) hg hat)).2.2) KL40.out)); have n3_ := Aside0.mk (ho); clear HO_5; clear HB; clear HR60; clear HO67; have HO_5 := n0_; have HB := n1_; have HR60 := n2_; have HO68 := n3_; clear n0_ n1_ n2_ n3_; clear ho hb hg hat; have q43 : (x9_2 : Int) ≤ ((x5_1.length : Int) : Int) := od_; obtain ⟨i043, hi043, _, hsz43, _⟩ := info_parts info3; have hroom43 : x5_1.length ≤ co37 := (Kd.R_reads' HO_5.out).2.1; have hC43 : Kd.C (Kd.int .i64) _ Ao37 x5_1.length x5_1 := (Kd.R_reads' HO_5.out).2.2; have q043 : (0 : Int) ≤ (x9_2 : Int) := od_; have hcut43 := cut_from (P := Tryz.prog) 46 3 .i64 underlying46 hi043 1 hsz43 Ao37 x5_1.length co37 x9_2 q043 q43; have hr43 := Kd.C_drop (m := (x9_2 : Int).toNat) (c := co37) hC43 (by omega) hroom43; obtain ⟨A43, hA43⟩ : ∃ A1, A1 = (if co37 = (x9_2 : Int).toNat then Ao37 else (Ao37 : Option Addr).map (·.add ((x9_2 : Int).toNat * 1))) := ⟨_, rfl⟩; obtain ⟨c43, hc43⟩ : ∃ c1, c1 = co37 - (x9_2 : Int).toNat := ⟨_, rfl⟩; have hy43 : y47.length = x5_1.length - (x9_2 : Int).toNat := (by rw [Ny47.out, List.length_drop] <;> omega); rw [show (x5_1).drop (x9_2 : Int).toNat = y47 from Ny47.out.symm] at hr43; replace hr43 : Kd.C (Kd.int .i64) _ A43 y47.length y47 := (by rw [hA43]; exact hr43); rw [← hy43, ← hA43, ← hc43] at hcut43; have HR64 := Aside0.mk hr43; have HC64 := Aside0.mk (show y47.length ≤ c43 from by rw [hy43, hc43]; exact Nat.sub_le_sub_right hroom43 _); clear hr43 hC43 hroom43 hi043 hsz43 hc43; have KY43 := Aside0.mk hy43; have KA43 := Aside0.mk hA43; clear hy43 hA43; have KL43 := Aside0.mk (show (x9_2 : Int).toNat ≤ x5_1.length from by omega); replace q43 := eq_true q43) | ((with_reducible refine gate_builtin (b := .append) (xs := #[.tmp 56, .tmp 59]) rfl ?_); at_builtin; refine Kd.R_append_rows (Kd.int .i64) (w0 := w) w.heap.size rfl (.tmp 56) (.tmp 59) 46 3 (.int .i64 0) 8 rfl underlying46 info3 rfl (by decide) (by omega) v75 y51 y47 _ _ _ (fun k_ => some k_ ≠ (.slice Ao37 x5_1.length co37 : Value).ownBlock) (fun _ => False) rfl rfl ?aO ?aR (fun _ _ h => h) (fun _ h => h.elim) ?aF ?aB ?aS ?aL ?_; (case aR => exact ca_ (by repeat (first | (with_reducible exact HR64.out) | (with_reducible refine Kd.C_alloc ?_ _) | (with_reducible refine Kd.C_drewN ?_ _) | (with_reducible refine Kd.C_drew ?_) | exact HR64.out))); (case aB => exact bl_); (case aF => exact (fun k_ hk => Kd.fresh' (Kd.R_lt (ra_ HO_5)) k_ hk)); (case aO => exact (ra_ HO68)); (case aS => exact (below_size bl_)); (case aL => have := LMc36.out; omega); intro v82 w44 ho hb hg hat; rw [← Ny62.out] at ho; have n0_ := Aside0.mk (Kd.R_after (ok := (fun _ => True)) (ra_ HO_5) hg hat); have n1_ := Aside0.mk (hb); have n2_ := Aside0.mk ((show Kd.C (Kd.int .i64) w44 Ao37 y49.length y49 from by rw [Ny49.out]; exact Kd.C_take (m := (x9_2 : Int).toNat) ((Kd.R_reads' (Kd.R_after (ok := (fun _ => True)) (ra_ HO_5) hg hat)).2.2) KL40.out)); have n3_ := Aside0.mk ((show Kd.C (Kd.int .i64) w44 A43 y47.length y47 from by rw [Ny47.out, KA43.out]; exact Kd.C_drop (m := (x9_2 : Int).toNat) (c := co37) ((Kd.R_reads' (Kd.R_after (ok := (fun _ => True)) (ra_ HO_5) hg hat)).2.2) KL43.out ((Kd.R_reads' (Kd.R_after (ok := (fun _ => True)) (ra_ HO_5) hg hat)).2.1))); have n4_ := Aside0.mk (ho); clear HO_5; clear HB; clear HR60; clear HR64; clear HO68; have HO_5 := n0_; have HB := n1_; have HR60 := n2_; have HR64 := n3_; have HO76 := n4_; clear n0_ n1_ n2_ n3_ n4_; clear ho hb hg hat))
       go_roundg k2
       case measure => have := HK1.out; have := HK2.out; omega
       case rel => exact ⟨(y62), (wrap64 (x14_1 + 1)), sp_, H', ⟨by have := HK1.out; have := HK2.out; omega⟩, ⟨by refine cr_ ?_; exact Kd.R_mono HO76.out (fun _ hk => trivial)⟩, ⟨bl_⟩⟩
      ·rw [if_neg c36] at H
       exact absurd H (by simp)
     rw [if_pos c9] at H
     replace c9 := dt_ c9
     obtain ⟨c10, H⟩ := og_ H
     replace c10 := dt_ c10
     by_cases c11 : (rd x5_1 x9_2) < t55
     ·rw [if_pos c11] at H
      replace c11 := dt_ c11
      have H' := Aside0.mk H
      clear H
      obtain ⟨Ao12, co12, eo12⟩ := Kd.R_slice HO_5.out
      subst eo12
      have p45 : 0 ≤ (x9_2 : Int) := od_
      have q45 : x9_2 < (x5_1.length : Int) := od_
      obtain ⟨ad45, e45, hx45_0⟩ := Kd.at_int (Kd.R_reads' HO_5.out).2.2 x9_2 p45 q45
      cases e45
      replace p45 := eq_true p45
      replace q45 := eq_true q45
      go_wp2
      go_roundg k2
      case measure => have := HK1.out; have := HK2.out; omega
      case rel => exact ⟨(wrap64 (x9_2 + 1)), sp_, H', ⟨by have := HK1.out; have := HK2.out; omega⟩, ⟨ra_ HO_5⟩, ⟨bl_⟩⟩
     rw [if_neg c11] at H
     replace c11 := df_ c11
     by_cases c13 : (rd x5_1 x9_2) = t55
     ·rw [if_pos c13] at H
      have := et_ c13
      replace c13 := nf_ c13
      have H' := Aside0.mk H
      clear H
      obtain ⟨Ao14, co14, eo14⟩ := Kd.R_slice HO_5.out
      subst eo14
      have p45 : 0 ≤ (x9_2 : Int) := od_
      have q45 : x9_2 < (x5_1.length : Int) := od_
      obtain ⟨ad45, e45, hx45_0⟩ := Kd.at_int (Kd.R_reads' HO_5.out).2.2 x9_2 p45 q45
      cases e45
      replace p45 := eq_true p45
      replace q45 := eq_true q45
      have p52 : 0 ≤ (x9_2 : Int) := od_
      have q52 : x9_2 < (x5_1.length : Int) := od_
      obtain ⟨ad52, e52, hx52_0⟩ := Kd.at_int (Kd.R_reads' HO_5.out).2.2 x9_2 p52 q52
      obtain rfl : ad45 = ad52 := (by injection e52)
      replace p52 := eq_true p52
      replace q52 := eq_true q52
      go_wp2
      go_roundg k2
      case measure => have := HK1.out; have := HK2.out; omega
      case rel => exact ⟨(x5_1), (wrap64 (x14_1 + 1)), sp_, H', ⟨by have := HK1.out; have := HK2.out; omega⟩, ⟨ra_ HO_5⟩, ⟨bl_⟩⟩
     rw [if_neg c13] at H
     have c13b0 := ef_ c13
     have c13b1 := nt_ c13
     obtain ⟨y56, hy56⟩ : ∃ y_ : List Int, y_ = (([] : List Int)) := ⟨_, rfl⟩
     replace H : (if x9_2 ≤ (x5_1.length : Int) then ((some (x5_1.take (x9_2 : Int).toNat : List Int)).bind fun y48 => (if y56.length + y48.length < 17592186044416 then ((some (y56 ++ y48 : List Int)).bind fun y53 => (if y53.length < 17592186044416 then ((some (y53 ++ [t55] : List Int)).bind fun y50 => ((some (x5_1.drop (x9_2 : Int).toNat : List Int)).bind fun y46 => (if y50.length + y46.length < 17592186044416 then (spec_LockSet.l0 k2 a1 (y50 ++ y46) l0 (l0.length : Int) (wrap64 (x14_1 + 1))) else (none)))) else (none))) else (none))) else (none)) = some r := hh_ hy56 H
     have Ny56 := Aside0.mk hy56
     clear hy56
     have c15b0 := eq_true (od_ : 0 ≤ x9_2)
     obtain ⟨c16, H⟩ := og_ H
     have := eq_true c16
     replace c16 := dt_ c16
     obtain ⟨y48, hy48⟩ : ∃ y_ : List Int, y_ = (x5_1.take (x9_2 : Int).toNat) := ⟨_, rfl⟩
     replace H : (if y56.length + y48.length < 17592186044416 then ((some (y56 ++ y48 : List Int)).bind fun y53 => (if y53.length < 17592186044416 then ((some (y53 ++ [t55] : List Int)).bind fun y50 => ((some (x5_1.drop (x9_2 : Int).toNat : List Int)).bind fun y46 => (if y50.length + y46.length < 17592186044416 then (spec_LockSet.l0 k2 a1 (y50 ++ y46) l0 (l0.length : Int) (wrap64 (x14_1 + 1))) else (none)))) else (none))) else (none)) = some r := hh_ hy48 H
     have Ny48 := Aside0.mk hy48
     clear hy48
     obtain ⟨c17, H⟩ := og_ H
     have LMc17 := Aside0.mk c17
     clear c17
     obtain ⟨y53, hy53⟩ : ∃ y_ : List Int, y_ = (y56 ++ y48) := ⟨_, rfl⟩
     replace H : (if y53.length < 17592186044416 then ((some (y53 ++ [t55] : List Int)).bind fun y50 => ((some (x5_1.drop (x9_2 : Int).toNat : List Int)).bind fun y46 => (if y50.length + y46.length < 17592186044416 then (spec_LockSet.l0 k2 a1 (y50 ++ y46) l0 (l0.length : Int) (wrap64 (x14_1 + 1))) else (none)))) else (none)) = some r := hh_ hy53 H
     have Ny53 := Aside0.mk hy53
     clear hy53
     obtain ⟨c18, H⟩ := og_ H
     have LMc18 := Aside0.mk c18
     clear c18
     obtain ⟨y50, hy50⟩ : ∃ y_ : List Int, y_ = (y53 ++ [t55]) := ⟨_, rfl⟩
     replace H : ((some (x5_1.drop (x9_2 : Int).toNat : List Int)).bind fun y46 => (if y50.length + y46.length < 17592186044416 then (spec_LockSet.l0 k2 a1 (y50 ++ y46) l0 (l0.length : Int) (wrap64 (x14_1 + 1))) else (none))) = some r := hh_ hy50 H
     have Ny50 := Aside0.mk hy50
     clear hy50
     have c19b0 := eq_true (od_ : 0 ≤ x9_2)
     have c20b0 := eq_true (od_ : x9_2 ≤ (x5_1.length : Int))
     obtain ⟨y46, hy46⟩ : ∃ y_ : List Int, y_ = (x5_1.drop (x9_2 : Int).toNat) := ⟨_, rfl⟩
     replace H : (if y50.length + y46.length < 17592186044416 then (spec_LockSet.l0 k2 a1 (y50 ++ y46) l0 (l0.length : Int) (wrap64 (x14_1 + 1))) else (none)) = some r := hh_ hy46 H
     have Ny46 := Aside0.mk hy46
     clear hy46
     by_cases c21 : y50.length + y46.length < 17592186044416
     ·rw [if_pos c21] at H
      have LMc21 := Aside0.mk c21
      clear c21
      obtain ⟨y63, hy63⟩ : ∃ y_ : List Int, y_ = (y50 ++ y46) := ⟨_, rfl⟩
      replace H : (spec_LockSet.l0 k2 a1 y63 l0 (l0.length : Int) (wrap64 (x14_1 + 1))) = some r := hh_ hy63 H
      have Ny63 := Aside0.mk hy63
      clear hy63
      have H' := Aside0.mk H
      clear H
      obtain ⟨Ao22, co22, eo22⟩ := Kd.R_slice HO_5.out
      subst eo22
      have p45 : 0 ≤ (x9_2 : Int) := od_
      have q45 : x9_2 < (x5_1.length : Int) := od_
      obtain ⟨ad45, e45, hx45_0⟩ := Kd.at_int (Kd.R_reads' HO_5.out).2.2 x9_2 p45 q45
      cases e45
      replace p45 := eq_true p45
      replace q45 := eq_true q45
      have p52 : 0 ≤ (x9_2 : Int) := od_
      have q52 : x9_2 < (x5_1.length : Int) := od_
      obtain ⟨ad52, e52, hx52_0⟩ := Kd.at_int (Kd.R_reads' HO_5.out).2.2 x9_2 p52 q52
      obtain rfl : ad45 = ad52 := (by injection e52)
      replace p52 := eq_true p52
      replace q52 := eq_true q52
      go_wp2_with (first | ((with_reducible refine gate_dst (N := 47) rfl ?_); refine Kd.R_lit (Kd.int .i64) _ 3 ?hg (N := 47) ?hd (xs := ([] : List Int)) (inner := []) (ok := fun _ => True) (okp := fun _ => True) ?hr ?hp (fun _ hk => hk) trivial (Below.refl _ _) (Nat.le_refl _) (by simp) ?_; (case hd => rfl); (case hg => rfl); (case hr => first | (go_simp; done) | (go_simp; rfl)); (case hp => exact (Reps.none _ _)); intro v77 w23 ho24 hb hg_ hnew_; clear hg_ hnew_; (first | rw [← Ny56.out] at ho24 | (simp only [Int.reduceToNat] at ho24; rw [← Ny56.out] at ho24)); have HO69 := Aside0.mk (Kd.R_lower (Kd.R_new' ho24 (Kd.R_lt (ra_ HO_5))) (below_size bl_)); replace HO_5 := Aside0.mk (Kd.R_elder' (ra_ HO_5) (Kd.R_base ho24) hb); replace HB := hs_ hb; clear hb ho24; have q25 : (x9_2 : Int) ≤ ((x5_1.length : Int) : Int) := od_; obtain ⟨i025, hi025, _, hsz25, _⟩ := info_parts info3; have hroom25 : x5_1.length ≤ co22 := (Kd.R_reads' HO_5.out).2.1; have hC25 : Kd.C (Kd.int .i64) _ (some ad45) x5_1.length x5_1 := (Kd.R_reads' HO_5.out).2.2; have hcut25 := cut_to (P := Tryz.prog) 46 3 .i64 underlying46 hi025 (some ad45) x5_1.length co22 x9_2 od_ q25 hroom25; have hr25 := Kd.C_take (m := (x9_2 : Int).toNat) hC25 (by omega); have hy25 : y48.length = (x9_2 : Int).toNat := (by rw [Ny48.out, List.length_take]; omega); rw [← Ny48.out] at hr25; rw [← hy25] at hcut25; have HR61 := Aside0.mk hr25; have HC61 := Aside0.mk (show y48.length ≤ co22 from by omega); clear hr25 hC25 hroom25 hi025 hsz25; have KY25 := Aside0.mk hy25; clear hy25; have KL25 := Aside0.mk (show (x9_2 : Int).toNat ≤ x5_1.length from by omega); replace q25 := eq_true q25) | ((with_reducible refine gate_builtin (b := .append) (xs := #[.tmp 47, .tmp 50]) rfl ?_); at_builtin; refine Kd.R_append_rows (Kd.int .i64) (w0 := w) w.heap.size rfl (.tmp 47) (.tmp 50) 46 3 (.int .i64 0) 8 rfl underlying46 info3 rfl (by decide) (by omega) v77 y56 y48 _ _ _ (fun k_ => some k_ ≠ (.slice (some ad45) x5_1.length co22 : Value).ownBlock) (fun _ => False) rfl rfl ?aO ?aR (fun _ _ h => h) (fun _ h => h.elim) ?aF ?aB ?aS ?aL ?_; (case aR => exact ca_ (by repeat (first | (with_reducible exact HR61.out) | (with_reducible refine Kd.C_alloc ?_ _) | (with_reducible refine Kd.C_drewN ?_ _) | (with_reducible refine Kd.C_drew ?_) | exact HR61.out))); (case aB => exact bl_); (case aF => exact (fun k_ hk => Kd.fresh' (Kd.R_lt (ra_ HO_5)) k_ hk)); (case aO => exact (by refine cr_ ?_; exact Kd.R_mono HO69.out (fun _ hk => hk.2))); (case aS => exact (below_size bl_)); (case aL => have := LMc17.out; omega); intro v78 w26 ho hb hg hat; rw [← Ny53.out] at ho; have n0_ := Aside0.mk (Kd.R_after (ok := (fun _ => True)) (ra_ HO_5) hg hat); have n1_ := Aside0.mk (hb); have n2_ := Aside0.mk ((show Kd.C (Kd.int .i64) w26 (some ad45) y48.length y48 from by rw [Ny48.out]; exact Kd.C_take (m := (x9_2 : Int).toNat) ((Kd.R_reads' (Kd.R_after (ok := (fun _ => True)) (ra_ HO_5) hg hat)).2.2) KL25.out)); have n3_ := Aside0.mk (ho); clear HO_5; clear HB; clear HR61; clear HO69; have HO_5 := n0_; have HB := n1_; have HR61 := n2_; have HO70 := n3_; clear n0_ n1_ n2_ n3_; clear ho hb hg hat) | ((with_reducible refine gate_builtin (b := .append) (xs := #[.tmp 52, .tmp 54]) rfl ?_); at_builtin; refine Kd.R_append (Kd.int .i64) (w0 := w) w.heap.size rfl (.tmp 52) (.tmp 54) 46 3 (.int .i64 0) 8 rfl underlying46 info3 rfl (by decide) (by omega) v78 y53 t55 [.int .i64 t55] (fun k_ => some k_ ≠ (.slice (some ad45) x5_1.length co22 : Value).ownBlock) (fun _ => False) rfl rfl ?aP (fun _ hk => hk.elim) ?aF ?aO ?aB ?aS ?aL ?_; (case aP => exact rfl); (case aB => exact bl_); (case aF => exact (fun k_ hk => Kd.fresh' (Kd.R_lt (ra_ HO_5)) k_ hk)); (case aO => exact (ra_ HO70)); (case aS => exact (below_size bl_)); (case aL => have := LMc18.out; omega); intro v79 w27 ho hb hg hat; rw [← Ny50.out] at ho; have n0_ := Aside0.mk (Kd.R_after (ok := (fun _ => True)) (ra_ HO_5) hg hat); have n1_ := Aside0.mk (hb); have n2_ := Aside0.mk ((show Kd.C (Kd.int .i64) w27 (some ad45) y48.length y48 from by rw [Ny48.out]; exact Kd.C_take (m := (x9_2 : Int).toNat) ((Kd.R_reads' (Kd.R_after (ok := (fun _ => True)) (ra_ HO_5) hg hat)).2.2) KL25.out)); have n3_ := Aside0.mk (ho); clear HO_5; clear HB; clear HR61; clear HO70; have HO_5 := n0_; have HB := n1_; have HR61 := n2_; have HO71 := n3_; clear n0_ n1_ n2_ n3_; clear ho hb hg hat; have q28 : (x9_2 : Int) ≤ ((x5_1.length : Int) : Int) := od_; obtain ⟨i028, hi028, _, hsz28, _⟩ := info_parts info3; have hroom28 : x5_1.length ≤ co22 := (Kd.R_reads' HO_5.out).2.1; have hC28 : Kd.C (Kd.int .i64) _ (some ad45) x5_1.length x5_1 := (Kd.R_reads' HO_5.out).2.2; have q028 : (0 : Int) ≤ (x9_2 : Int) := od_; have hcut28 := cut_from (P := Tryz.prog) 46 3 .i64 underlying46 hi028 1 hsz28 (some ad45) x5_1.length co22 x9_2 q028 q28; have hr28 := Kd.C_drop (m := (x9_2 : Int).toNat) (c := co22) hC28 (by omega) hroom28; obtain ⟨A28, hA28⟩ : ∃ A1, A1 = (if co22 = (x9_2 : Int).toNat then (some ad45) else ((some ad45) : Option Addr).map (·.add ((x9_2 : Int).toNat * 1))) := ⟨_, rfl⟩; obtain ⟨c28, hc28⟩ : ∃ c1, c1 = co22 - (x9_2 : Int).toNat := ⟨_, rfl⟩; have hy28 : y46.length = x5_1.length - (x9_2 : Int).toNat := (by rw [Ny46.out, List.length_drop] <;> omega); rw [show (x5_1).drop (x9_2 : Int).toNat = y46 from Ny46.out.symm] at hr28; replace hr28 : Kd.C (Kd.int .i64) _ A28 y46.length y46 := (by rw [hA28]; exact hr28); rw [← hy28, ← hA28, ← hc28] at hcut28; have HR65 := Aside0.mk hr28; have HC65 := Aside0.mk (show y46.length ≤ c28 from by rw [hy28, hc28]; exact Nat.sub_le_sub_right hroom28 _); clear hr28 hC28 hroom28 hi028 hsz28 hc28; have KY28 := Aside0.mk hy28; have KA28 := Aside0.mk hA28; clear hy28 hA28; have KL28 := Aside0.mk (show (x9_2 : Int).toNat ≤ x5_1.length from by omega); replace q28 := eq_true q28) | ((with_reducible refine gate_builtin (b := .append) (xs := #[.tmp 56, .tmp 59]) rfl ?_); at_builtin; refine Kd.R_append_rows (Kd.int .i64) (w0 := w) w.heap.size rfl (.tmp 56) (.tmp 59) 46 3 (.int .i64 0) 8 rfl underlying46 info3 rfl (by decide) (by omega) v79 y50 y46 _ _ _ (fun k_ => some k_ ≠ (.slice (some ad45) x5_1.length co22 : Value).ownBlock) (fun _ => False) rfl rfl ?aO ?aR (fun _ _ h => h) (fun _ h => h.elim) ?aF ?aB ?aS ?aL ?_; (case aR => exact ca_ (by repeat (first | (with_reducible exact HR65.out) | (with_reducible refine Kd.C_alloc ?_ _) | (with_reducible refine Kd.C_drewN ?_ _) | (with_reducible refine Kd.C_drew ?_) | exact HR65.out))); (case aB => exact bl_); (case aF => exact (fun k_ hk => Kd.fresh' (Kd.R_lt (ra_ HO_5)) k_ hk)); (case aO => exact (ra_ HO71)); (case aS => exact (below_size bl_)); (case aL => have := LMc21.out; omega); intro v83 w29 ho hb hg hat; rw [← Ny63.out] at ho; have n0_ := Aside0.mk (Kd.R_after (ok := (fun _ => True)) (ra_ HO_5) hg hat); have n1_ := Aside0.mk (hb); have n2_ := Aside0.mk ((show Kd.C (Kd.int .i64) w29 (some ad45) y48.length y48 from by rw [Ny48.out]; exact Kd.C_take (m := (x9_2 : Int).toNat) ((Kd.R_reads' (Kd.R_after (ok := (fun _ => True)) (ra_ HO_5) hg hat)).2.2) KL25.out)); have n3_ := Aside0.mk ((show Kd.C (Kd.int .i64) w29 A28 y46.length y46 from by rw [Ny46.out, KA28.out]; exact Kd.C_drop (m := (x9_2 : Int).toNat) (c := co22) ((Kd.R_reads' (Kd.R_after (ok := (fun _ => True)) (ra_ HO_5) hg hat)).2.2) KL28.out ((Kd.R_reads' (Kd.R_after (ok := (fun _ => True)) (ra_ HO_5) hg hat)).2.1))); have n4_ := Aside0.mk (ho); clear HO_5; clear HB; clear HR61; clear HR65; clear HO71; have HO_5 := n0_; have HB := n1_; have HR61 := n2_; have HR65 := n3_; have HO80 := n4_; clear n0_ n1_ n2_ n3_ n4_; clear ho hb hg hat))
      go_roundg k2
      case measure => have := HK1.out; have := HK2.out; omega
      case rel => exact ⟨(y63), (wrap64 (x14_1 + 1)), sp_, H', ⟨by have := HK1.out; have := HK2.out; omega⟩, ⟨by refine cr_ ?_; exact Kd.R_mono HO80.out (fun _ hk => trivial)⟩, ⟨bl_⟩⟩
     ·rw [if_neg c21] at H
      exact absurd H (by simp)
/-! ### spec_Needs: function 23 -/
def spec_Needs.f (k : Nat) (l0_0 : List Int) (a0_1 : Int) (l0_2 : List Int) (a0_3 : Int) (a0_4 : Int) (a0_5 : Int) (a0_6 : Int) (a0_7 : Int) (l0_8 : List Int) (a1 : Int) : Option (List Int) := (spec_Asks.f k l0_0).bind fun t6 => ((spec_LockSet.f k t6 a1).bind fun t11 => (some t11))
theorem spec_Needs.calls (k : Nat) (A0_0 : Option Addr) (c0_0 : Nat) (l0_0 : List Int) (a0_1 : Int) (A0_2 : Option Addr) (c0_2 : Nat) (l0_2 : List Int) (a0_3 : Int) (a0_4 : Int) (a0_5 : Int) (a0_6 : Int) (a0_7 : Int) (A0_8 : Option Addr) (c0_8 : Nat) (l0_8 : List Int) (a1 : Int) (r : List Int) (w : World) (hr0_0 : Kd.C (Kd.int .u8) w A0_0 l0_0.length l0_0) (hc0_0 : l0_0.length ≤ c0_0) (hr0_2 : Kd.C (Kd.int .i64) w A0_2 l0_2.length l0_2) (hc0_2 : l0_2.length ≤ c0_2) (hr0_8 : Kd.C (Kd.int .u8) w A0_8 l0_8.length l0_8) (hc0_8 : l0_8.length ≤ c0_8) (h : spec_Needs.f k l0_0 a0_1 l0_2 a0_3 a0_4 a0_5 a0_6 a0_7 l0_8 a1 = some r) :
  Calls Tryz.prog 23 #[.agg #[.slice A0_0 l0_0.length c0_0, .int .i64 a0_1, .slice A0_2 l0_2.length c0_2, .int .i64 a0_3, .int .i64 a0_4, .int .i64 a0_5, .int .i64 a0_6, .int .i64 a0_7, .slice A0_8 l0_8.length c0_8], .int .i64 a1] w fun e w' => ∃ v0_ : Value, e = .returned (v0_) ∧ Kd.R (Kd.int .i64) 3 w' w.heap.size (fun _ => True) v0_ r ∧ Below w.heap.size w w' := by
 have hu51 := underlying51
 have HR0_0 := Aside0.mk hr0_0
 have HC0_0 := Aside0.mk hc0_0
 clear hr0_0 hc0_0
 have HR0_2 := Aside0.mk hr0_2
 have HC0_2 := Aside0.mk hc0_2
 clear hr0_2 hc0_2
 have HR0_8 := Aside0.mk hr0_8
 have HC0_8 := Aside0.mk hc0_8
 clear hr0_8 hc0_8
 have HB := Aside0.mk (Below.refl w.heap.size w)
 have H := h
 unfold spec_Needs.f at H
 clear h
 obtain ⟨t6, A3, H⟩ := ob_ H
 obtain ⟨t11, A4, H⟩ := ob_ H
 obtain rfl := si_ H
 go_enter func23, ntmps23
 go_wp2_with (first | ((with_reducible refine gt_ 2 ?_); refine bo_ 2 #[.slice A0_0 l0_0.length c0_0, .int .i64 a0_1, .slice A0_2 l0_2.length c0_2, .int .i64 a0_3, .int .i64 a0_4, .int .i64 a0_5, .int .i64 a0_6, .int .i64 a0_7, .slice A0_8 l0_8.length c0_8] 51 ?_; intro gb1 hg w5 BK1 hb; have GW1 := gw_ (w := w) hg; replace HB := hs_ hb; clear hb hg; refine by9_ BK1 ?_; intros) | ((with_reducible refine gc_ 14 7 func14 #[.slice A0_0 l0_0.length c0_0] ?_); (with_reducible refine (spec_Asks.calls k _ _ l0_0 t6 _ (cb_ HR0_0 HB) HC0_0.out A3.out).mono ?_); rintro e w7 ⟨v13, rfl, ho0, hb⟩; refine ⟨_, rfl, ?_⟩; have HO10 := Aside0.mk (Kd.R_lower ho0 (below_size bl_)); replace BK1 := kb_ BK1 hb; replace HB := hs_ hb; clear hb; (try clear ho0); obtain ⟨Ao8, co8, eo8⟩ := Kd.R_slice HO10.out; subst eo8) | ((with_reducible refine gc_ 64 9 func64 #[.slice Ao8 t6.length co8, .int .i64 a1] ?_); (with_reducible refine (spec_LockSet.calls k _ _ t6 a1 t11 _ (ca_ ((Kd.R_reads' HO10.out).2.2)) ((Kd.R_reads' HO10.out).2.1) A4.out).mono ?_); rintro e w9 ⟨v14, rfl, ho0, hb⟩; refine ⟨_, rfl, ?_⟩; replace HO10 := Aside0.mk (Kd.R_below (ra_ HO10) hb); have HO12 := Aside0.mk (Kd.R_lower ho0 (below_size bl_)); replace BK1 := kb_ BK1 hb; replace HB := hs_ hb; clear hb; (try clear ho0)))
 go_ret
 exact ⟨_, sq_, ra_ HO12, bl_⟩
/-! ### spec_l06Time: function 68 -/
def spec_l06Time.f (a0 : Int) : Option (Bool) := (spec_l01In.f a0 0 1000000000).bind fun t1 => (some t1)
theorem spec_l06Time.calls (a0 : Int) (r : Bool) (w : World) (h : spec_l06Time.f a0 = some r) :
  Calls Tryz.prog 68 #[.int .i64 a0] w fun e w' => e = .returned (.bool r) ∧ Drawn0 w w' := by
 have H := h
 unfold spec_l06Time.f at H
 clear h
 obtain ⟨t1, A2, H⟩ := ob_ H
 obtain rfl := si_ H
 go_enter func68, ntmps68
 go_wp2_with (first | ((with_reducible refine gd_ 67 4 func67 #[.int .i64 a0, .int .i64 0, .int .i64 1000000000] (spec_l01In.calls a0 0 1000000000 t1 _ A2.out) fun nd => ?_)))
 go_ret
 exact ⟨sp_, dr_⟩
/-! ### spec_l14Held: function 69 -/
def spec_l14Held.f (l0_0 : List Int) (a0_1 : Int) (l0_2 : List Int) (a0_3 : Int) (a0_4 : Int) (a0_5 : Int) (a0_6 : Int) (a0_7 : Int) (l0_8 : List Int) : Option (Bool) := if a0_1 = 1 then (if a0_3 ≥ 0 then (some (decide (a0_3 < (l0_2.length : Int)))) else (some false)) else (if a0_1 = 2 then (if a0_3 = (l0_2.length : Int) then (some (decide ((l0_2.length : Int) > 0))) else (some false)) else (if a0_1 = 3 then ((spec_l01In.f a0_3 1 (l0_2.length : Int)).bind fun t5 => (some t5)) else (some (a0_3 == 0))))
theorem spec_l14Held.calls (A0_0 : Option Addr) (c0_0 : Nat) (l0_0 : List Int) (a0_1 : Int) (A0_2 : Option Addr) (c0_2 : Nat) (l0_2 : List Int) (a0_3 : Int) (a0_4 : Int) (a0_5 : Int) (a0_6 : Int) (a0_7 : Int) (A0_8 : Option Addr) (c0_8 : Nat) (l0_8 : List Int) (r : Bool) (w : World) (hr0_0 : Kd.C (Kd.int .u8) w A0_0 l0_0.length l0_0) (hc0_0 : l0_0.length ≤ c0_0) (hr0_2 : Kd.C (Kd.int .i64) w A0_2 l0_2.length l0_2) (hc0_2 : l0_2.length ≤ c0_2) (hr0_8 : Kd.C (Kd.int .u8) w A0_8 l0_8.length l0_8) (hc0_8 : l0_8.length ≤ c0_8) (h : spec_l14Held.f l0_0 a0_1 l0_2 a0_3 a0_4 a0_5 a0_6 a0_7 l0_8 = some r) :
  Calls Tryz.prog 69 #[.agg #[.slice A0_0 l0_0.length c0_0, .int .i64 a0_1, .slice A0_2 l0_2.length c0_2, .int .i64 a0_3, .int .i64 a0_4, .int .i64 a0_5, .int .i64 a0_6, .int .i64 a0_7, .slice A0_8 l0_8.length c0_8]] w fun e w' => e = .returned (.bool r) ∧ Below w.heap.size w w' := by
 have hu51 := underlying51
 have HR0_0 := Aside0.mk hr0_0
 have HC0_0 := Aside0.mk hc0_0
 clear hr0_0 hc0_0
 have HR0_2 := Aside0.mk hr0_2
 have HC0_2 := Aside0.mk hc0_2
 clear hr0_2 hc0_2
 have HR0_8 := Aside0.mk hr0_8
 have HC0_8 := Aside0.mk hc0_8
 clear hr0_8 hc0_8
 have HB := Aside0.mk (Below.refl w.heap.size w)
 have H := h
 unfold spec_l14Held.f at H
 clear h
 by_cases c2 : a0_1 = 1
 ·rw [if_pos c2] at H
  have := et_ c2
  replace c2 := nf_ c2
  by_cases c3 : a0_3 ≥ 0
  ·rw [if_pos c3] at H
   replace c3 := dt_ c3
   obtain rfl := si_ H
   go_enter func69, ntmps69
   go_wp2_with (first | ((with_reducible refine gt_ 1 ?_); refine bo_ 1 #[.slice A0_0 l0_0.length c0_0, .int .i64 a0_1, .slice A0_2 l0_2.length c0_2, .int .i64 a0_3, .int .i64 a0_4, .int .i64 a0_5, .int .i64 a0_6, .int .i64 a0_7, .slice A0_8 l0_8.length c0_8] 51 ?_; intro gb1 hg w4 BK1 hb; have GW1 := gw_ (w := w) hg; replace HB := hs_ hb; clear hb hg; refine by9_ BK1 ?_; intros))
   go_ret
   exact ⟨sq_, bl_⟩
  rw [if_neg c3] at H
  replace c3 := df_ c3
  obtain rfl := si_ H
  go_enter func69, ntmps69
  go_wp2_with (first | ((with_reducible refine gt_ 1 ?_); refine bo_ 1 #[.slice A0_0 l0_0.length c0_0, .int .i64 a0_1, .slice A0_2 l0_2.length c0_2, .int .i64 a0_3, .int .i64 a0_4, .int .i64 a0_5, .int .i64 a0_6, .int .i64 a0_7, .slice A0_8 l0_8.length c0_8] 51 ?_; intro gb1 hg w6 BK1 hb; have GW1 := gw_ (w := w) hg; replace HB := hs_ hb; clear hb hg; refine by9_ BK1 ?_; intros))
  go_ret
  exact ⟨sq_, bl_⟩
 rw [if_neg c2] at H
 have c2b0 := ef_ c2
 have c2b1 := nt_ c2
 by_cases c8 : a0_1 = 2
 ·rw [if_pos c8] at H
  have := et_ c8
  replace c8 := nf_ c8
  by_cases c9 : a0_3 = (l0_2.length : Int)
  ·rw [if_pos c9] at H
   have := et_ c9
   replace c9 := nf_ c9
   obtain rfl := si_ H
   go_enter func69, ntmps69
   go_wp2_with (first | ((with_reducible refine gt_ 1 ?_); refine bo_ 1 #[.slice A0_0 l0_0.length c0_0, .int .i64 a0_1, .slice A0_2 l0_2.length c0_2, .int .i64 a0_3, .int .i64 a0_4, .int .i64 a0_5, .int .i64 a0_6, .int .i64 a0_7, .slice A0_8 l0_8.length c0_8] 51 ?_; intro gb1 hg w10 BK1 hb; have GW1 := gw_ (w := w) hg; replace HB := hs_ hb; clear hb hg; refine by9_ BK1 ?_; intros))
   go_ret
   exact ⟨sq_, bl_⟩
  ·rw [if_neg c9] at H
   have c9b0 := ef_ c9
   have c9b1 := nt_ c9
   obtain rfl := si_ H
   go_enter func69, ntmps69
   go_wp2_with (first | ((with_reducible refine gt_ 1 ?_); refine bo_ 1 #[.slice A0_0 l0_0.length c0_0, .int .i64 a0_1, .slice A0_2 l0_2.length c0_2, .int .i64 a0_3, .int .i64 a0_4, .int .i64 a0_5, .int .i64 a0_6, .int .i64 a0_7, .slice A0_8 l0_8.length c0_8] 51 ?_; intro gb1 hg w12 BK1 hb; have GW1 := gw_ (w := w) hg; replace HB := hs_ hb; clear hb hg; refine by9_ BK1 ?_; intros))
   go_ret
   exact ⟨sq_, bl_⟩
 rw [if_neg c8] at H
 have c8b0 := ef_ c8
 have c8b1 := nt_ c8
 by_cases c14 : a0_1 = 3
 ·rw [if_pos c14] at H
  have := et_ c14
  replace c14 := nf_ c14
  obtain ⟨t5, A15, H⟩ := ob_ H
  obtain rfl := si_ H
  go_enter func69, ntmps69
  go_wp2_with (first | ((with_reducible refine gt_ 1 ?_); refine bo_ 1 #[.slice A0_0 l0_0.length c0_0, .int .i64 a0_1, .slice A0_2 l0_2.length c0_2, .int .i64 a0_3, .int .i64 a0_4, .int .i64 a0_5, .int .i64 a0_6, .int .i64 a0_7, .slice A0_8 l0_8.length c0_8] 51 ?_; intro gb1 hg w16 BK1 hb; have GW1 := gw_ (w := w) hg; replace HB := hs_ hb; clear hb hg; refine by9_ BK1 ?_; intros) | ((with_reducible refine gd_ 67 35 func67 #[.int .i64 a0_3, .int .i64 1, .int .i64 (l0_2.length : Int)] (spec_l01In.calls a0_3 1 (l0_2.length : Int) t5 _ A15.out) fun nd => ?_)))
  go_ret
  exact ⟨sq_, bl_⟩
 ·rw [if_neg c14] at H
  have c14b0 := ef_ c14
  have c14b1 := nt_ c14
  obtain rfl := si_ H
  go_enter func69, ntmps69
  go_wp2_with (first | ((with_reducible refine gt_ 1 ?_); refine bo_ 1 #[.slice A0_0 l0_0.length c0_0, .int .i64 a0_1, .slice A0_2 l0_2.length c0_2, .int .i64 a0_3, .int .i64 a0_4, .int .i64 a0_5, .int .i64 a0_6, .int .i64 a0_7, .slice A0_8 l0_8.length c0_8] 51 ?_; intro gb1 hg w18 BK1 hb; have GW1 := gw_ (w := w) hg; replace HB := hs_ hb; clear hb hg; refine by9_ BK1 ?_; intros))
  go_ret
  exact ⟨sq_, bl_⟩
/-! ### spec_l14Ints: function 70 -/
def spec_l14Ints.l0 : Nat → List Int → List Int → Int → Int → Option (Bool)
 | 0, _, _, _, _ => none
 | k + 1, x0, x1, x12, x13 => if x13 < x12 then (if 0 ≤ x13 then (if x13 < (x0.length : Int) then (if x13 < (x1.length : Int) then (if (rd x0 x13) = (rd x1 x13) then (spec_l14Ints.l0 k x0 x1 x12 (wrap64 (x13 + 1))) else (some false)) else (none)) else (none)) else (none)) else (some true)
def spec_l14Ints.f (k : Nat) (l0 : List Int) (l1 : List Int) : Option (Bool) := if (l0.length : Int) = (l1.length : Int) then (spec_l14Ints.l0 k l0 l1 (l0.length : Int) 0) else (some false)
theorem spec_l14Ints.calls (k : Nat) (A0 : Option Addr) (c0 : Nat) (l0 : List Int) (A1 : Option Addr) (c1 : Nat) (l1 : List Int) (r : Bool) (w : World) (hr0 : Kd.C (Kd.int .i64) w A0 l0.length l0) (hc0 : l0.length ≤ c0) (hr1 : Kd.C (Kd.int .i64) w A1 l1.length l1) (hc1 : l1.length ≤ c1) (h : spec_l14Ints.f k l0 l1 = some r) :
  Calls Tryz.prog 70 #[.slice A0 l0.length c0, .slice A1 l1.length c1] w fun e w' => e = .returned (.bool r) ∧ Drawn0 w w' := by
 have HR0 := Aside0.mk hr0
 have HC0 := Aside0.mk hc0
 clear hr0 hc0
 have HR1 := Aside0.mk hr1
 have HC1 := Aside0.mk hc1
 clear hr1 hc1
 have H := h
 unfold spec_l14Ints.f at H
 clear h
 by_cases c3 : (l0.length : Int) = (l1.length : Int)
 rotate_left
 ·rw [if_neg c3] at H
  have c3b0 := ef_ c3
  have c3b1 := nt_ c3
  have c3b2 : (l0.length == l1.length) = false := by first | simpa using c3 | (simp at c3 ⊢; omega)
  obtain rfl := si_ H
  go_enter func70, ntmps70
  go_wp2
  repeat (go_quiet (fail); try go_wp2)
  go_ret
  exact ⟨sp_, dr_⟩
 rw [if_pos c3] at H
 have c3b0 := et_ c3
 have c3b1 := nf_ c3
 have c3b2 : (l0.length == l1.length) = true := by first | simpa using c3 | (simp at c3 ⊢; omega)
 clear c3
 have H' := Aside0.mk H
 clear H
 go_enter func70, ntmps70
 go_wp2
 repeat (go_quiet (fail); try go_wp2)
 go_loopg [13] k (fun kq v13 w' => ∃ (x13_1 : Int), v13 = .int .i64 x13_1 ∧ Aside0 (spec_l14Ints.l0 kq l0 l1 (l0.length : Int) x13_1 = some r) ∧ Aside0 (kq ≤ k) ∧ Drawn0 w w')
 case atStart => exact ⟨(0), sp_, H', ⟨Nat.le_refl _⟩, dr_⟩
 case round =>
  clear H'
  obtain ⟨x13_1, rfl, HA, HK1, ⟨m1, rfl⟩⟩ := hrel
  cases gk with
  | zero => exact absurd HA.out (by simp [spec_l14Ints.l0])
  | succ k1 =>
   have H := HA.out
   clear HA
   simp only [spec_l14Ints.l0] at H
   by_cases c4 : x13_1 < (l0.length : Int)
   rotate_left
   ·rw [if_neg c4] at H
    replace c4 := df_ c4
    obtain rfl := si_ H
    go_wp2
    repeat (go_quiet (fail); try go_wp2)
    go_ret
    exact ⟨sp_, dr_⟩
   rw [if_pos c4] at H
   replace c4 := dt_ c4
   obtain ⟨c5, H⟩ := og_ H
   replace c5 := dt_ c5
   obtain ⟨c6, H⟩ := og_ H
   replace c6 := dt_ c6
   obtain ⟨c7, H⟩ := og_ H
   replace c7 := dt_ c7
   by_cases c8 : (rd l0 x13_1) = (rd l1 x13_1)
   ·rw [if_pos c8] at H
    have := et_ c8
    replace c8 := nf_ c8
    have H' := Aside0.mk H
    clear H
    have p2 : 0 ≤ (x13_1 : Int) := od_
    have q2 : x13_1 < (l0.length : Int) := od_
    obtain ⟨ad2, e2, hx2_0⟩ := Kd.at_int HR0.out x13_1 p2 q2
    cases e2
    replace p2 := eq_true p2
    replace q2 := eq_true q2
    have p9 : 0 ≤ (x13_1 : Int) := od_
    have q9 : x13_1 < (l1.length : Int) := od_
    obtain ⟨ad9, e9, hx9_0⟩ := Kd.at_int HR1.out x13_1 p9 q9
    cases e9
    replace p9 := eq_true p9
    replace q9 := eq_true q9
    go_wp2
    repeat (go_quiet (fail); try go_wp2)
    go_roundg k1
    case measure => have := HK1.out; omega
    case rel => exact ⟨(wrap64 (x13_1 + 1)), sp_, H', ⟨by have := HK1.out; omega⟩, dr_⟩
   ·rw [if_neg c8] at H
    have c8b0 := ef_ c8
    have c8b1 := nt_ c8
    obtain rfl := si_ H
    have p2 : 0 ≤ (x13_1 : Int) := od_
    have q2 : x13_1 < (l0.length : Int) := od_
    obtain ⟨ad2, e2, hx2_0⟩ := Kd.at_int HR0.out x13_1 p2 q2
    cases e2
    replace p2 := eq_true p2
    replace q2 := eq_true q2
    have p9 : 0 ≤ (x13_1 : Int) := od_
    have q9 : x13_1 < (l1.length : Int) := od_
    obtain ⟨ad9, e9, hx9_0⟩ := Kd.at_int HR1.out x13_1 p9 q9
    cases e9
    replace p9 := eq_true p9
    replace q9 := eq_true q9
    go_wp2
    repeat (go_quiet (fail); try go_wp2)
    go_ret
    exact ⟨sp_, dr_⟩
/-! ### spec_TaskOk: function 31 -/
mutual
def spec_TaskOk.j0 : Nat → Int → Bool → List Int → Int → List Int → Int → Int → Int → Int → Int → List Int → Option (Bool)
 | 0, _, _, _, _, _, _, _, _, _, _, _ => none
 | k + 1, x1, x42, x44, x21, x22, x47, x39, x18, x20, x40, x41 => if x42 = true then (some false) else (if x21 = 0 then (if (x22.length : Int) > 0 then (spec_TaskOk.j1 k true x44 x21 x22 x47 x39 x18 x20 x40 x41) else (spec_TaskOk.j1 k false x44 x21 x22 x47 x39 x18 x20 x40 x41)) else ((spec_Needs.f k x44 x21 x22 x47 x39 x18 x20 x40 x41 x1).bind fun t48 => ((spec_l14Ints.f k x22 t48).bind fun t53 => (spec_TaskOk.j1 k (!t53) x44 x21 x22 x47 x39 x18 x20 x40 x41))))
def spec_TaskOk.j1 : Nat → Bool → List Int → Int → List Int → Int → Int → Int → Int → Int → List Int → Option (Bool)
 | 0, _, _, _, _, _, _, _, _, _, _ => none
 | k + 1, x65, x44, x21, x22, x47, x39, x18, x20, x40, x41 => if x65 = true then (some false) else (if x21 ≤ 2 then (if x18 = (-1) then (if x20 = (-1) then (if x40 = 0 then (some ((x41.length : Int) == 0)) else (some false)) else (some false)) else (some false)) else ((spec_l06Time.f x18).bind fun t55 => (if t55 = true then (spec_TaskOk.j2 k (decide (x18 < x39)) x44 x21 x22 x47 x39 x18 x20 x40 x41) else (spec_TaskOk.j2 k true x44 x21 x22 x47 x39 x18 x20 x40 x41))))
def spec_TaskOk.j2 : Nat → Bool → List Int → Int → List Int → Int → Int → Int → Int → Int → List Int → Option (Bool)
 | 0, _, _, _, _, _, _, _, _, _, _ => none
 | k + 1, x98, x44, x21, x22, x47, x39, x18, x20, x40, x41 => if x98 = true then (some false) else (if x21 = 5 then ((spec_l06Time.f x20).bind fun t56 => (if t56 = true then (some (decide (x20 ≥ x18))) else (some false))) else (some (x20 == (-1))))
end
def spec_TaskOk.f (k : Nat) (l0_0 : List Int) (a0_1 : Int) (l0_2 : List Int) (a0_3 : Int) (a0_4 : Int) (a0_5 : Int) (a0_6 : Int) (a0_7 : Int) (l0_8 : List Int) (a1 : Int) : Option (Bool) := (spec_l01In.f a1 1 5).bind fun t57 => (if t57 = true then (if (l0_0.length : Int) > 300 then (spec_TaskOk.j0 k a1 true l0_0 a0_1 l0_2 a0_3 a0_4 a0_5 a0_6 a0_7 l0_8) else (if (l0_8.length : Int) > 200 then (spec_TaskOk.j0 k a1 true l0_0 a0_1 l0_2 a0_3 a0_4 a0_5 a0_6 a0_7 l0_8) else ((spec_l06Time.f a0_4).bind fun t58 => (if t58 = true then ((spec_l06Time.f a0_7).bind fun t59 => (if t59 = true then ((spec_l01In.f a0_1 0 5).bind fun t60 => (if t60 = true then ((spec_l14Held.f l0_0 a0_1 l0_2 a0_3 a0_4 a0_5 a0_6 a0_7 l0_8).bind fun t54 => (spec_TaskOk.j0 k a1 (!t54) l0_0 a0_1 l0_2 a0_3 a0_4 a0_5 a0_6 a0_7 l0_8)) else (spec_TaskOk.j0 k a1 true l0_0 a0_1 l0_2 a0_3 a0_4 a0_5 a0_6 a0_7 l0_8))) else (spec_TaskOk.j0 k a1 true l0_0 a0_1 l0_2 a0_3 a0_4 a0_5 a0_6 a0_7 l0_8))) else (spec_TaskOk.j0 k a1 true l0_0 a0_1 l0_2 a0_3 a0_4 a0_5 a0_6 a0_7 l0_8))))) else (spec_TaskOk.j0 k a1 true l0_0 a0_1 l0_2 a0_3 a0_4 a0_5 a0_6 a0_7 l0_8))
def spec_TaskOk.T3 : Bool × List (List Nat × List Nat) := (true, [([], []), ([0], [0]), ([1], [1]), ([2], [2]), ([3], [3]), ([4, 3], [3, 4]), ([5, 3], [3, 5]), ([6, 3], [3, 6]), ([3, 7], [3, 7]), ([8, 3], [8]), ([9], [9]), ([10, 9], [9, 10]), ([11, 9], [9, 11]), ([12, 9, 9], [9, 12]), ([13], [13]), ([14, 13], [13, 14]), ([13], [13]), ([13], [13]), ([16, 17, 13, 13], [13, 16, 17]), ([15, 18, 18, 13], [13, 15, 18]), ([19, 13], [13, 19]), ([13, 20, 9], [9, 13, 20]), ([9, 21], [9, 21])])
def spec_TaskOk.B3 : List Nat := [0, 1, 3, 7, 15, 31, 63, 127, 255, 511, 1023, 2047, 4095, 8191, 16383, 32767, 16383, 16383, 212991, 524287, 1048575, 2097151, 4194303]
theorem spec_TaskOk.tab3 : rtab .any (opsOf Tryz.f31 3) = spec_TaskOk.T3 := by kernel_rfl
theorem spec_TaskOk.bits3 : waitsOk spec_TaskOk.T3.2 spec_TaskOk.B3 = true := by kernel_rfl
theorem spec_TaskOk.calls (k : Nat) (A0_0 : Option Addr) (c0_0 : Nat) (l0_0 : List Int) (a0_1 : Int) (A0_2 : Option Addr) (c0_2 : Nat) (l0_2 : List Int) (a0_3 : Int) (a0_4 : Int) (a0_5 : Int) (a0_6 : Int) (a0_7 : Int) (A0_8 : Option Addr) (c0_8 : Nat) (l0_8 : List Int) (a1 : Int) (r : Bool) (w : World) (hr0_0 : Kd.C (Kd.int .u8) w A0_0 l0_0.length l0_0) (hc0_0 : l0_0.length ≤ c0_0) (hr0_2 : Kd.C (Kd.int .i64) w A0_2 l0_2.length l0_2) (hc0_2 : l0_2.length ≤ c0_2) (hr0_8 : Kd.C (Kd.int .u8) w A0_8 l0_8.length l0_8) (hc0_8 : l0_8.length ≤ c0_8) (h : spec_TaskOk.f k l0_0 a0_1 l0_2 a0_3 a0_4 a0_5 a0_6 a0_7 l0_8 a1 = some r) :
  Calls Tryz.prog 31 #[.agg #[.slice A0_0 l0_0.length c0_0, .int .i64 a0_1, .slice A0_2 l0_2.length c0_2, .int .i64 a0_3, .int .i64 a0_4, .int .i64 a0_5, .int .i64 a0_6, .int .i64 a0_7, .slice A0_8 l0_8.length c0_8], .int .i64 a1] w fun e w' => e = .returned (.bool r) ∧ Below w.heap.size w w' := by
 have hu51 := underlying51
 have HR0_0 := Aside0.mk hr0_0
 have HC0_0 := Aside0.mk hc0_0
 clear hr0_0 hc0_0
 have HR0_2 := Aside0.mk hr0_2
 have HC0_2 := Aside0.mk hc0_2
 clear hr0_2 hc0_2
 have HR0_8 := Aside0.mk hr0_8
 have HC0_8 := Aside0.mk hc0_8
 clear hr0_8 hc0_8
 have HB := Aside0.mk (Below.refl w.heap.size w)
 have H := h
 unfold spec_TaskOk.f at H
 clear h
 have HC3 := Aside0.mk H
 clear H
 go_enter func31, ntmps31
 go_upto_region 1 with (first | ((with_reducible refine gt_ 2 ?_); (try (refine gate_guard (by rfl) ?_; dsimp only)); refine bo_ 2 #[.slice A0_0 l0_0.length c0_0, .int .i64 a0_1, .slice A0_2 l0_2.length c0_2, .int .i64 a0_3, .int .i64 a0_4, .int .i64 a0_5, .int .i64 a0_6, .int .i64 a0_7, .slice A0_8 l0_8.length c0_8] 51 ?_; intro gb10 hg w4 BK10 hb; have GW10 := gw_ (w := w) hg; replace HB := hs_ hb; clear hb hg))
 (try simp only [Act.put, List.setIfInBounds_toArray, List.set_cons_zero, List.set_cons_succ])
 go_cut [42] (fun v42 wc => ∃ (kq : Nat) (x42_2 : Bool), v42 = .bool x42_2 ∧ Aside0 (spec_TaskOk.j0 kq a1 x42_2 l0_0 a0_1 l0_2 a0_3 a0_4 a0_5 a0_6 a0_7 l0_8 = some r) ∧ Aside0 (kq ≤ k) ∧ Aside0 (wc.heap[gb10]? = some (.cells #[(.slice A0_0 l0_0.length c0_0), .int .i64 a0_1, (.slice A0_2 l0_2.length c0_2), .int .i64 a0_3, .int .i64 a0_4, .int .i64 a0_5, .int .i64 a0_6, .int .i64 a0_7, (.slice A0_8 l0_8.length c0_8)] 51 (0, 0))) ∧ Aside0 (Below w.heap.size w wc))
 case first =>
  have H := HC3.out
  clear HC3
  obtain ⟨t57, A5, H⟩ := ob_ H
  by_cases c6 : t57 = true
  rotate_left
  ·replace c6 := gf_ c6
   subst c6
   replace H := in_ H
   have H' := Aside0.mk H
   clear H
   go_wp2_with (first | ((with_reducible refine gd_ 67 6 func67 #[.int .i64 a1, .int .i64 1, .int .i64 5] (spec_l01In.calls a1 1 5 false _ A5.out) fun nd => ?_)))
   go_meet
   case rel => exact ⟨_, (true), sp_, H', ⟨by first | omega | exact Nat.le_refl _⟩, ⟨ch_ BK10.out⟩, ⟨bl_⟩⟩
  subst c6
  replace H := ip_ H
  by_cases c7 : (l0_0.length : Int) > 300
  ·rw [if_pos c7] at H
   have c7b0 := dt_ c7
   have c7b1 : decide (300 < l0_0.length) = true := decide_eq_true (by omega)
   clear c7
   (first | rw [c7b0] | (simp only [i64_w, i32_w]; rw [c7b0]) | skip)
   have H' := Aside0.mk H
   clear H
   go_wp2_with (first | ((with_reducible refine gd_ 67 6 func67 #[.int .i64 a1, .int .i64 1, .int .i64 5] (spec_l01In.calls a1 1 5 true _ A5.out) fun nd => ?_); refine by9_ BK10 ?_; intros))
   go_meet
   case rel => exact ⟨_, (true), sp_, H', ⟨by first | omega | exact Nat.le_refl _⟩, ⟨ch_ BK10.out⟩, ⟨bl_⟩⟩
  rw [if_neg c7] at H
  have c7b0 := df_ c7
  have c7b1 : decide (300 < l0_0.length) = false := decide_eq_false (by omega)
  clear c7
  (first | rw [c7b0] | (simp only [i64_w, i32_w]; rw [c7b0]) | skip)
  by_cases c9 : (l0_8.length : Int) > 200
  ·rw [if_pos c9] at H
   have c9b0 := dt_ c9
   have c9b1 : decide (200 < l0_8.length) = true := decide_eq_true (by omega)
   clear c9
   have H' := Aside0.mk H
   clear H
   go_wp2_with (first | ((with_reducible refine gd_ 67 6 func67 #[.int .i64 a1, .int .i64 1, .int .i64 5] (spec_l01In.calls a1 1 5 true _ A5.out) fun nd => ?_); refine by9_ BK10 ?_; intros))
   go_meet
   case rel => exact ⟨_, (true), sp_, H', ⟨by first | omega | exact Nat.le_refl _⟩, ⟨ch_ BK10.out⟩, ⟨bl_⟩⟩
  rw [if_neg c9] at H
  have c9b0 := df_ c9
  have c9b1 : decide (200 < l0_8.length) = false := decide_eq_false (by omega)
  clear c9
  obtain ⟨t58, A11, H⟩ := ob_ H
  by_cases c12 : t58 = true
  rotate_left
  ·replace c12 := gf_ c12
   subst c12
   replace H := in_ H
   have H' := Aside0.mk H
   clear H
   go_wp2_with (first | ((with_reducible refine gd_ 67 6 func67 #[.int .i64 a1, .int .i64 1, .int .i64 5] (spec_l01In.calls a1 1 5 true _ A5.out) fun nd => ?_); refine by9_ BK10 ?_; intros) | (go_at_call 68; (with_reducible refine (spec_l06Time.calls a0_4 false _ A11.out).mono ?_); rintro e w' ⟨rfl, nd, rfl⟩))
   go_meet
   case rel => exact ⟨_, (true), sp_, H', ⟨by first | omega | exact Nat.le_refl _⟩, ⟨ch_ BK10.out⟩, ⟨bl_⟩⟩
  subst c12
  replace H := ip_ H
  obtain ⟨t59, A13, H⟩ := ob_ H
  by_cases c14 : t59 = true
  ·subst c14
   replace H := ip_ H
   obtain ⟨t60, A15, H⟩ := ob_ H
   by_cases c16 : t60 = true
   ·subst c16
    replace H := ip_ H
    obtain ⟨t54, A17, H⟩ := ob_ H
    have H' := Aside0.mk H
    clear H
    go_wp2_with (first | ((with_reducible refine gd_ 67 6 func67 #[.int .i64 a1, .int .i64 1, .int .i64 5] (spec_l01In.calls a1 1 5 true _ A5.out) fun nd => ?_); refine by9_ BK10 ?_; intros) | (go_at_call 68; (with_reducible refine (spec_l06Time.calls a0_4 true _ A11.out).mono ?_); rintro e w' ⟨rfl, nd, rfl⟩) | (go_at_call 68; (with_reducible refine (spec_l06Time.calls a0_7 true _ A13.out).mono ?_); rintro e w' ⟨rfl, nd, rfl⟩) | (go_at_call 67; (with_reducible refine (spec_l01In.calls a0_1 0 5 true _ A15.out).mono ?_); rintro e w' ⟨rfl, nd, rfl⟩) | (go_at_call 69; (with_reducible refine (spec_l14Held.calls _ _ l0_0 a0_1 _ _ l0_2 a0_3 a0_4 a0_5 a0_6 a0_7 _ _ l0_8 t54 _ (ca_ (Kd.C_below HR0_0.out bl_)) HC0_0.out (ca_ (Kd.C_below HR0_2.out bl_)) HC0_2.out (ca_ (Kd.C_below HR0_8.out bl_)) HC0_8.out A17.out).mono ?_); rintro e w19 ⟨rfl, hb⟩; replace BK10 := kb_ BK10 hb; replace HB := hs_ hb; clear hb))
    go_meet
    case rel => exact ⟨_, (!t54), sp_, H', ⟨by first | omega | exact Nat.le_refl _⟩, ⟨ch_ BK10.out⟩, ⟨bl_⟩⟩
   replace c16 := gf_ c16
   subst c16
   replace H := in_ H
   have H' := Aside0.mk H
   clear H
   go_wp2_with (first | ((with_reducible refine gd_ 67 6 func67 #[.int .i64 a1, .int .i64 1, .int .i64 5] (spec_l01In.calls a1 1 5 true _ A5.out) fun nd => ?_); refine by9_ BK10 ?_; intros) | (go_at_call 68; (with_reducible refine (spec_l06Time.calls a0_4 true _ A11.out).mono ?_); rintro e w' ⟨rfl, nd, rfl⟩) | (go_at_call 68; (with_reducible refine (spec_l06Time.calls a0_7 true _ A13.out).mono ?_); rintro e w' ⟨rfl, nd, rfl⟩) | (go_at_call 67; (with_reducible refine (spec_l01In.calls a0_1 0 5 false _ A15.out).mono ?_); rintro e w' ⟨rfl, nd, rfl⟩))
   go_meet
   case rel => exact ⟨_, (true), sp_, H', ⟨by first | omega | exact Nat.le_refl _⟩, ⟨ch_ BK10.out⟩, ⟨bl_⟩⟩
  ·replace c14 := gf_ c14
   subst c14
   replace H := in_ H
   have H' := Aside0.mk H
   clear H
   go_wp2_with (first | ((with_reducible refine gd_ 67 6 func67 #[.int .i64 a1, .int .i64 1, .int .i64 5] (spec_l01In.calls a1 1 5 true _ A5.out) fun nd => ?_); refine by9_ BK10 ?_; intros) | (go_at_call 68; (with_reducible refine (spec_l06Time.calls a0_4 true _ A11.out).mono ?_); rintro e w' ⟨rfl, nd, rfl⟩) | (go_at_call 68; (with_reducible refine (spec_l06Time.calls a0_7 false _ A13.out).mono ?_); rintro e w' ⟨rfl, nd, rfl⟩))
   go_meet
   case rel => exact ⟨_, (true), sp_, H', ⟨by first | omega | exact Nat.le_refl _⟩, ⟨ch_ BK10.out⟩, ⟨bl_⟩⟩
 case rest =>
  clear HC3
  obtain ⟨kq, x42_2, rfl, HA, HJ2, BK10, HB⟩ := hcut
  cases kq with
  | zero => exact absurd HA.out (by simp [spec_TaskOk.j0])
  | succ kj2 =>
   have H := HA.out
   clear HA
   simp only [spec_TaskOk.j0] at H
   by_cases c23 : x42_2 = true
   ·subst c23
    replace H := ip_ H
    obtain rfl := si_ H
    go_wp2
    go_ret
    exact ⟨sq_, bl_⟩
   replace c23 := gf_ c23
   subst c23
   replace H := in_ H
   have HC24 := Aside0.mk H
   clear H
   go_upto_region 3 with (fail)
   go_cut [65] (fun v65 wc => ∃ (kq : Nat) (x65_23 : Bool), v65 = .bool x65_23 ∧ Aside0 (spec_TaskOk.j1 kq x65_23 l0_0 a0_1 l0_2 a0_3 a0_4 a0_5 a0_6 a0_7 l0_8 = some r) ∧ Aside0 (kq ≤ kj2) ∧ Aside0 (wc.heap[gb10]? = some (.cells #[(.slice A0_0 l0_0.length c0_0), .int .i64 a0_1, (.slice A0_2 l0_2.length c0_2), .int .i64 a0_3, .int .i64 a0_4, .int .i64 a0_5, .int .i64 a0_6, .int .i64 a0_7, (.slice A0_8 l0_8.length c0_8)] 51 (0, 0))) ∧ Aside0 (Below w.heap.size w wc))
   case first =>
    have H := HC24.out
    clear HC24
    by_cases c25 : a0_1 = 0
    ·rw [if_pos c25] at H
     have c25b0 := et_ c25
     have c25b1 := nf_ c25
     clear c25
     (first | rw [c25b0] | (simp only [i64_w, i32_w]; rw [c25b0]) | skip)
     by_cases c26 : (l0_2.length : Int) > 0
     ·rw [if_pos c26] at H
      have c26b0 := dt_ c26
      have c26b1 : decide (0 < l0_2.length) = true := decide_eq_true (by omega)
      clear c26
      have H' := Aside0.mk H
      clear H
      try go_wp2
      have n0_ := Aside0.mk (blk_drew BK10.out)
      have n1_ := Aside0.mk (below_drew1 HB.out)
      clear BK10
      clear HB
      have BK10 := n0_
      have HB := n1_
      clear n0_ n1_
      refine start_ (n := 23) (S := fun w' => w'.cell? ⟨gb10, 0, none⟩ = some (.slice A0_0 l0_0.length c0_0) ∧ w'.cell? ⟨gb10, 1, none⟩ = some (.int .i64 a0_1) ∧ w'.cell? ⟨gb10, 2, none⟩ = some (.slice A0_2 l0_2.length c0_2) ∧ w'.cell? ⟨gb10, 3, none⟩ = some (.int .i64 a0_3) ∧ w'.cell? ⟨gb10, 4, none⟩ = some (.int .i64 a0_4) ∧ w'.cell? ⟨gb10, 5, none⟩ = some (.int .i64 a0_5) ∧ w'.cell? ⟨gb10, 6, none⟩ = some (.int .i64 a0_6) ∧ w'.cell? ⟨gb10, 7, none⟩ = some (.int .i64 a0_7) ∧ w'.cell? ⟨gb10, 8, none⟩ = some (.slice A0_8 l0_8.length c0_8)) (ds := []) tb23_0 (by kernel_rfl) rfl rfl ⟨cy_ BK10 0, cy_ BK10 1, cy_ BK10 2, cy_ BK10 3, cy_ BK10 4, cy_ BK10 5, cy_ BK10 6, cy_ BK10 7, cy_ BK10 8⟩ (fun hHeld => ?_); refine with_tabW spec_TaskOk.tab3 spec_TaskOk.bits3 (fun HT_ HW_ => ?_)
      generalize wc.drew = w27 at BK10 HB hHeld ⊢
      refine pl_ HT_ 0 43 tb23_1 ?_
      refine take_ (i := 1) (N := some 44) (v := ?_) (a' := ?_) tb23_3 rfl rfl (take_ofW HT_.out HW_.out (by kernel_rfl)) (fun _ _ _ h => h) (Or.inl ⟨by rfl, ?_⟩) hHeld ?_ ?_
      rotate_left
      ·rintro w' ⟨s0, s1, s2, s3, s4, s5, s6, s7, s8⟩
       go_simp
       with_reducible rfl
      rotate_left
      ·simp only [Act.put, q_]
       rfl
      refine pl_ HT_ 2 45 tb23_7 ?_
      refine pl_ HT_ 3 46 tb23_f ?_
      refine pl_ HT_ 4 47 tb23_1f ?_
      refine take_ (i := 5) (N := some 48) (v := ?_) (a' := ?_) tb23_3f rfl rfl (take_ofW HT_.out HW_.out (by kernel_rfl)) (fun _ _ _ h => h) (Or.inl ⟨by rfl, ?_⟩) hHeld ?_ ?_
      rotate_left
      ·rintro w' ⟨s0, s1, s2, s3, s4, s5, s6, s7, s8⟩
       go_simp
       with_reducible rfl
      rotate_left
      ·simp only [Act.put, q_]
       rfl
      refine pl_ HT_ 6 49 tb23_7f ?_
      refine pl_ HT_ 7 50 tb23_ff ?_
      refine pl_ HT_ 8 51 tb23_1ff ?_
      refine pl_ HT_ 9 52 tb23_3ff ?_
      refine pr_ HT_ 10 53 tb23_7ff ?_
      refine pr_ HT_ 11 54 tb23_fff ?_
      refine pr_ HT_ 12 55 tb23_1fff ?_
      refine pr_ HT_ 13 56 tb23_3fff ?_
      refine pr_ HT_ 14 57 tb23_7fff ?_
      refine pr_ HT_ 15 58 tb23_ffff ?_
      refine pr_ HT_ 16 59 tb23_1ffff ?_
      refine pr_ HT_ 17 60 tb23_3ffff ?_
      refine pr_ HT_ 18 61 tb23_7ffff ?_
      refine pr_ HT_ 19 62 tb23_fffff ?_
      refine pr_ HT_ 20 63 tb23_1fffff ?_
      refine pr_ HT_ 21 64 tb23_3fffff ?_
      refine pl_ HT_ 22 65 tb23_7fffff ?_
      refine done_ (done_of HT_.out (by kernel_rfl)) ?_
      try go_wp2
      go_meet
      case rel => exact ⟨_, (true), sp_, H', ⟨by have := HJ2.out; first | omega | exact Nat.le_refl _⟩, ⟨ch_ BK10.out⟩, ⟨bl_⟩⟩
     rw [if_neg c26] at H
     have c26b0 := df_ c26
     have c26b1 : decide (0 < l0_2.length) = false := decide_eq_false (by omega)
     clear c26
     have H' := Aside0.mk H
     clear H
     try go_wp2
     have n0_ := Aside0.mk (blk_drew BK10.out)
     have n1_ := Aside0.mk (below_drew1 HB.out)
     clear BK10
     clear HB
     have BK10 := n0_
     have HB := n1_
     clear n0_ n1_
     refine start_ (n := 23) (S := fun w' => w'.cell? ⟨gb10, 0, none⟩ = some (.slice A0_0 l0_0.length c0_0) ∧ w'.cell? ⟨gb10, 1, none⟩ = some (.int .i64 a0_1) ∧ w'.cell? ⟨gb10, 2, none⟩ = some (.slice A0_2 l0_2.length c0_2) ∧ w'.cell? ⟨gb10, 3, none⟩ = some (.int .i64 a0_3) ∧ w'.cell? ⟨gb10, 4, none⟩ = some (.int .i64 a0_4) ∧ w'.cell? ⟨gb10, 5, none⟩ = some (.int .i64 a0_5) ∧ w'.cell? ⟨gb10, 6, none⟩ = some (.int .i64 a0_6) ∧ w'.cell? ⟨gb10, 7, none⟩ = some (.int .i64 a0_7) ∧ w'.cell? ⟨gb10, 8, none⟩ = some (.slice A0_8 l0_8.length c0_8)) (ds := []) tb23_0 (by kernel_rfl) rfl rfl ⟨cy_ BK10 0, cy_ BK10 1, cy_ BK10 2, cy_ BK10 3, cy_ BK10 4, cy_ BK10 5, cy_ BK10 6, cy_ BK10 7, cy_ BK10 8⟩ (fun hHeld => ?_); refine with_tabW spec_TaskOk.tab3 spec_TaskOk.bits3 (fun HT_ HW_ => ?_)
     generalize wc.drew = w28 at BK10 HB hHeld ⊢
     refine pl_ HT_ 0 43 tb23_1 ?_
     refine take_ (i := 1) (N := some 44) (v := ?_) (a' := ?_) tb23_3 rfl rfl (take_ofW HT_.out HW_.out (by kernel_rfl)) (fun _ _ _ h => h) (Or.inl ⟨by rfl, ?_⟩) hHeld ?_ ?_
     rotate_left
     ·rintro w' ⟨s0, s1, s2, s3, s4, s5, s6, s7, s8⟩
      go_simp
      with_reducible rfl
     rotate_left
     ·simp only [Act.put, q_]
      rfl
     refine pl_ HT_ 2 45 tb23_7 ?_
     refine pl_ HT_ 3 46 tb23_f ?_
     refine pl_ HT_ 4 47 tb23_1f ?_
     refine take_ (i := 5) (N := some 48) (v := ?_) (a' := ?_) tb23_3f rfl rfl (take_ofW HT_.out HW_.out (by kernel_rfl)) (fun _ _ _ h => h) (Or.inl ⟨by rfl, ?_⟩) hHeld ?_ ?_
     rotate_left
     ·rintro w' ⟨s0, s1, s2, s3, s4, s5, s6, s7, s8⟩
      go_simp
      with_reducible rfl
     rotate_left
     ·simp only [Act.put, q_]
      rfl
     refine pl_ HT_ 6 49 tb23_7f ?_
     refine pl_ HT_ 7 50 tb23_ff ?_
     refine pl_ HT_ 8 51 tb23_1ff ?_
     refine pl_ HT_ 9 52 tb23_3ff ?_
     refine pl_ HT_ 10 53 tb23_7ff ?_
     refine take_ (i := 11) (N := some 54) (v := ?_) (a' := ?_) tb23_fff rfl rfl (take_ofW HT_.out HW_.out (by kernel_rfl)) (fun _ _ _ h => h) (Or.inl ⟨by rfl, ?_⟩) hHeld ?_ ?_
     rotate_left
     ·rintro w' ⟨s0, s1, s2, s3, s4, s5, s6, s7, s8⟩
      go_simp
      with_reducible rfl
     rotate_left
     ·simp only [Act.put, q_]
      rfl
     refine pl_ HT_ 12 55 tb23_1fff ?_
     refine pl_ HT_ 13 56 tb23_3fff ?_
     refine pr_ HT_ 14 57 tb23_7fff ?_
     refine pr_ HT_ 15 58 tb23_ffff ?_
     refine pr_ HT_ 16 59 tb23_1ffff ?_
     refine pr_ HT_ 17 60 tb23_3ffff ?_
     refine pr_ HT_ 18 61 tb23_7ffff ?_
     refine pr_ HT_ 19 62 tb23_fffff ?_
     refine pr_ HT_ 20 63 tb23_1fffff ?_
     refine pl_ HT_ 21 64 tb23_3fffff ?_
     refine pl_ HT_ 22 65 tb23_7fffff ?_
     refine done_ (done_of HT_.out (by kernel_rfl)) ?_
     try go_wp2
     go_meet
     case rel => exact ⟨_, (false), sp_, H', ⟨by have := HJ2.out; first | omega | exact Nat.le_refl _⟩, ⟨ch_ BK10.out⟩, ⟨bl_⟩⟩
    ·rw [if_neg c25] at H
     have c25b0 := ef_ c25
     have c25b1 := nt_ c25
     (first | rw [c25b0] | (simp only [i64_w, i32_w]; rw [c25b0]) | skip)
     obtain ⟨t48, A29, H⟩ := ob_ H
     obtain ⟨t53, A30, H⟩ := ob_ H
     have H' := Aside0.mk H
     clear H
     try go_wp2
     have n0_ := Aside0.mk (blk_drew BK10.out)
     have n1_ := Aside0.mk (below_drew1 HB.out)
     clear BK10
     clear HB
     have BK10 := n0_
     have HB := n1_
     clear n0_ n1_
     refine start_ (n := 23) (S := fun w' => w'.cell? ⟨gb10, 0, none⟩ = some (.slice A0_0 l0_0.length c0_0) ∧ w'.cell? ⟨gb10, 1, none⟩ = some (.int .i64 a0_1) ∧ w'.cell? ⟨gb10, 2, none⟩ = some (.slice A0_2 l0_2.length c0_2) ∧ w'.cell? ⟨gb10, 3, none⟩ = some (.int .i64 a0_3) ∧ w'.cell? ⟨gb10, 4, none⟩ = some (.int .i64 a0_4) ∧ w'.cell? ⟨gb10, 5, none⟩ = some (.int .i64 a0_5) ∧ w'.cell? ⟨gb10, 6, none⟩ = some (.int .i64 a0_6) ∧ w'.cell? ⟨gb10, 7, none⟩ = some (.int .i64 a0_7) ∧ w'.cell? ⟨gb10, 8, none⟩ = some (.slice A0_8 l0_8.length c0_8)) (ds := []) tb23_0 (by kernel_rfl) rfl rfl ⟨cy_ BK10 0, cy_ BK10 1, cy_ BK10 2, cy_ BK10 3, cy_ BK10 4, cy_ BK10 5, cy_ BK10 6, cy_ BK10 7, cy_ BK10 8⟩ (fun hHeld => ?_); refine with_tabW spec_TaskOk.tab3 spec_TaskOk.bits3 (fun HT_ HW_ => ?_)
     generalize wc.drew = w31 at BK10 HB hHeld ⊢
     refine pl_ HT_ 0 43 tb23_1 ?_
     refine take_ (i := 1) (N := some 44) (v := ?_) (a' := ?_) tb23_3 rfl rfl (take_ofW HT_.out HW_.out (by kernel_rfl)) (fun _ _ _ h => h) (Or.inl ⟨by rfl, ?_⟩) hHeld ?_ ?_
     rotate_left
     ·rintro w' ⟨s0, s1, s2, s3, s4, s5, s6, s7, s8⟩
      go_simp
      with_reducible rfl
     rotate_left
     ·simp only [Act.put, q_]
      rfl
     refine pl_ HT_ 2 45 tb23_7 ?_
     refine pl_ HT_ 3 46 tb23_f ?_
     refine pr_ HT_ 4 47 tb23_1f ?_
     refine pr_ HT_ 5 48 tb23_3f ?_
     refine pr_ HT_ 6 49 tb23_7f ?_
     refine pr_ HT_ 7 50 tb23_ff ?_
     refine pl_ HT_ 8 51 tb23_1ff ?_
     refine pl_ HT_ 9 52 tb23_3ff ?_
     refine pl_ HT_ 10 53 tb23_7ff ?_
     refine take_ (i := 11) (N := some 54) (v := ?_) (a' := ?_) tb23_fff rfl rfl (take_ofW HT_.out HW_.out (by kernel_rfl)) (fun _ _ _ h => h) (Or.inl ⟨by rfl, ?_⟩) hHeld ?_ ?_
     rotate_left
     ·rintro w' ⟨s0, s1, s2, s3, s4, s5, s6, s7, s8⟩
      go_simp
      with_reducible rfl
     rotate_left
     ·simp only [Act.put, q_]
      rfl
     refine pl_ HT_ 12 55 tb23_1fff ?_
     refine pl_ HT_ 13 56 tb23_3fff ?_
     refine pl_ HT_ 14 57 tb23_7fff ?_
     refine pl_ HT_ 17 60 tb23_27fff ?_
     refine take_ (i := 15) (N := some 58) (v := ?_) (a' := ?_) tb23_2ffff rfl rfl (take_ofW HT_.out HW_.out (by kernel_rfl)) (fun _ _ _ h => h) (Or.inl ⟨by rfl, ?_⟩) hHeld ?_ ?_
     rotate_left
     ·rintro w' ⟨s0, s1, s2, s3, s4, s5, s6, s7, s8⟩
      go_simp
      with_reducible rfl
     rotate_left
     ·simp only [Act.put, q_]
      rfl
     refine take_ (i := 16) (N := some 59) (v := ?_) (a' := ?_) tb23_3ffff rfl rfl (take_ofW HT_.out HW_.out (by kernel_rfl)) (fun _ _ _ h => h) (Or.inl ⟨by rfl, ?_⟩) hHeld ?_ ?_
     rotate_left
     ·rintro w' ⟨s0, s1, s2, s3, s4, s5, s6, s7, s8⟩
      go_simp
      with_reducible rfl
     rotate_left
     ·simp only [Act.put, q_]
      rfl
     refine one_ (i := 18) (N := some 61) tb23_7ffff rfl rfl (one_of HT_.out (by kernel_rfl)) (by decide) (fun K hK => ?_)
     refine goes_ func23 (by kernel_rfl) rfl #[.agg #[.slice A0_0 l0_0.length c0_0, .int .i64 a0_1, .slice A0_2 l0_2.length c0_2, .int .i64 a0_3, .int .i64 a0_4, .int .i64 a0_5, .int .i64 a0_6, .int .i64 a0_7, .slice A0_8 l0_8.length c0_8], .int .i64 a1] (by rfl) rfl rfl gl_ ?_
     with_reducible refine (spec_Needs.calls kj2 _ _ l0_0 a0_1 _ _ l0_2 a0_3 a0_4 a0_5 a0_6 a0_7 _ _ l0_8 a1 t48 _ ?side1 ?side2 ?side3 ?side4 ?side5 ?side6 A29.out).mono ?_
     (case side1 => exact ca_ (Kd.C_below HR0_0.out HB.out))
     (case side2 => exact HC0_0.out)
     (case side3 => exact ca_ (Kd.C_below HR0_2.out HB.out))
     (case side4 => exact HC0_2.out)
     (case side5 => exact ca_ (Kd.C_below HR0_8.out HB.out))
     (case side6 => exact HC0_8.out)
     rintro e w32 ⟨v62, rfl, ho0, hb⟩
     refine ⟨_, rfl, ?_⟩
     have n0_ := Aside0.mk (Kd.R_lower ho0 (below_size bl_))
     have n1_ := Aside0.mk (blk_below (bk_ BK10) hb)
     have n2_ := Aside0.mk (below_step bl_ hb)
     clear BK10
     clear HB
     have HO61 := n0_
     have BK10 := n1_
     have HB := n2_
     clear n0_ n1_ n2_
     (try clear hb)
     (try clear hb2)
     (try clear hk)
     (try clear hi)
     (try clear ho0)
     obtain ⟨Ao33, co33, eo33⟩ := Kd.R_slice HO61.out
     (first | subst eo33 | (injection eo33 with f1_ f2_ f3_; have f4_ := f1_.symm; have f5_ := f3_.symm; clear f1_ f2_ f3_; subst f4_; subst f5_))
     refine hK.out _ _ ⟨cy_ BK10 0, cy_ BK10 1, cy_ BK10 2, cy_ BK10 3, cy_ BK10 4, cy_ BK10 5, cy_ BK10 6, cy_ BK10 7, cy_ BK10 8⟩ (fun hHeld => ?_)
     clear hK K
     refine norm_ (a' := ?_) ?_ ?_
     rotate_left
     ·show Act.put _ (some 61) _ = _
      simp only [Act.put, q_]
      rfl
     refine one_ (i := 19) (N := some 62) tb23_fffff rfl rfl (one_of HT_.out (by kernel_rfl)) (by decide) (fun K hK => ?_)
     refine goes_ func70 (by kernel_rfl) rfl #[.slice A0_2 l0_2.length c0_2, .slice Ao33 t48.length co33] (by rfl) rfl rfl gl_ ?_
     with_reducible refine (spec_l14Ints.calls kj2 _ _ l0_2 _ _ t48 t53 _ ?side1 ?side2 ?side3 ?side4 A30.out).mono ?_
     (case side1 => exact ca_ (Kd.C_below HR0_2.out HB.out))
     (case side2 => exact HC0_2.out)
     (case side3 => exact ca_ ((Kd.R_reads' HO61.out).2.2))
     (case side4 => exact (Kd.R_reads' HO61.out).2.1)
     rintro e w' ⟨rfl, nd, rfl⟩
     refine ⟨_, rfl, ?_⟩
     refine hK.out _ _ ⟨cy_ BK10 0, cy_ BK10 1, cy_ BK10 2, cy_ BK10 3, cy_ BK10 4, cy_ BK10 5, cy_ BK10 6, cy_ BK10 7, cy_ BK10 8⟩ (fun hHeld => ?_)
     clear hK K
     refine norm_ (a' := ?_) ?_ ?_
     rotate_left
     ·show Act.put _ (some 62) _ = _
      simp only [Act.put, q_]
      rfl
     refine pl_ HT_ 20 63 tb23_1fffff ?_
     refine pl_ HT_ 21 64 tb23_3fffff ?_
     refine pl_ HT_ 22 65 tb23_7fffff ?_
     refine done_ (done_of HT_.out (by kernel_rfl)) ?_
     try go_wp2
     go_meet
     case rel => exact ⟨_, (!t53), sp_, H', ⟨by have := HJ2.out; first | omega | exact Nat.le_refl _⟩, ⟨ch_ BK10.out⟩, ⟨bl_⟩⟩
   case rest =>
    clear HC24
    obtain ⟨kq, x65_23, rfl, HA, HJ23, BK10, HB⟩ := hcut
    cases kq with
    | zero => exact absurd HA.out (by simp [spec_TaskOk.j1])
    | succ kj23 =>
     have H := HA.out
     clear HA
     simp only [spec_TaskOk.j1] at H
     by_cases c34 : x65_23 = true
     ·subst c34
      replace H := ip_ H
      obtain rfl := si_ H
      go_wp2
      go_ret
      exact ⟨sq_, bl_⟩
     replace c34 := gf_ c34
     subst c34
     replace H := in_ H
     by_cases c35 : a0_1 ≤ 2
     ·rw [if_pos c35] at H
      replace c35 := dt_ c35
      by_cases c36 : a0_5 = (-1)
      rotate_left
      ·rw [if_neg c36] at H
       have c36b0 := ef_ c36
       have c36b1 := nt_ c36
       obtain rfl := si_ H
       refine by9_ BK10 ?_; intros
       go_wp2
       go_ret
       exact ⟨sq_, bl_⟩
      rw [if_pos c36] at H
      have := et_ c36
      replace c36 := nf_ c36
      by_cases c37 : a0_6 = (-1)
      ·rw [if_pos c37] at H
       have := et_ c37
       replace c37 := nf_ c37
       by_cases c38 : a0_7 = 0
       ·rw [if_pos c38] at H
        have := et_ c38
        replace c38 := nf_ c38
        obtain rfl := si_ H
        refine by9_ BK10 ?_; intros
        go_wp2
        go_ret
        exact ⟨sq_, bl_⟩
       ·rw [if_neg c38] at H
        have c38b0 := ef_ c38
        have c38b1 := nt_ c38
        obtain rfl := si_ H
        refine by9_ BK10 ?_; intros
        go_wp2
        go_ret
        exact ⟨sq_, bl_⟩
      ·rw [if_neg c37] at H
       have c37b0 := ef_ c37
       have c37b1 := nt_ c37
       obtain rfl := si_ H
       refine by9_ BK10 ?_; intros
       go_wp2
       go_ret
       exact ⟨sq_, bl_⟩
     rw [if_neg c35] at H
     replace c35 := df_ c35
     have HC43 := Aside0.mk H
     clear H
     refine by9_ BK10 ?_; intros
     go_upto_region 7 with (fail)
     go_cut [98] (fun v98 wc => ∃ (kq : Nat) (x98_42 : Bool), v98 = .bool x98_42 ∧ Aside0 (spec_TaskOk.j2 kq x98_42 l0_0 a0_1 l0_2 a0_3 a0_4 a0_5 a0_6 a0_7 l0_8 = some r) ∧ Aside0 (kq ≤ kj23) ∧ Aside0 (wc.heap[gb10]? = some (.cells #[(.slice A0_0 l0_0.length c0_0), .int .i64 a0_1, (.slice A0_2 l0_2.length c0_2), .int .i64 a0_3, .int .i64 a0_4, .int .i64 a0_5, .int .i64 a0_6, .int .i64 a0_7, (.slice A0_8 l0_8.length c0_8)] 51 (0, 0))) ∧ Aside0 (Below w.heap.size w wc))
     case first =>
      have H := HC43.out
      clear HC43
      obtain ⟨t55, A45, H⟩ := ob_ H
      by_cases c46 : t55 = true
      ·subst c46
       replace H := ip_ H
       have H' := Aside0.mk H
       clear H
       refine by9_ BK10 ?_; intros
       go_wp2_with (first | ((with_reducible refine gd_ 68 90 func68 #[.int .i64 a0_5] (spec_l06Time.calls a0_5 true _ A45.out) fun nd => ?_)))
       go_meet
       case rel => exact ⟨_, (decide (a0_5 < a0_4)), sp_, H', ⟨by have := HJ2.out; have := HJ23.out; first | omega | exact Nat.le_refl _⟩, ⟨ch_ BK10.out⟩, ⟨bl_⟩⟩
      replace c46 := gf_ c46
      subst c46
      replace H := in_ H
      have H' := Aside0.mk H
      clear H
      refine by9_ BK10 ?_; intros
      go_wp2_with (first | ((with_reducible refine gd_ 68 90 func68 #[.int .i64 a0_5] (spec_l06Time.calls a0_5 false _ A45.out) fun nd => ?_)))
      go_meet
      case rel => exact ⟨_, (true), sp_, H', ⟨by have := HJ2.out; have := HJ23.out; first | omega | exact Nat.le_refl _⟩, ⟨ch_ BK10.out⟩, ⟨bl_⟩⟩
     case rest =>
      clear HC43
      obtain ⟨kq, x98_42, rfl, HA, HJ42, BK10, HB⟩ := hcut
      cases kq with
      | zero => exact absurd HA.out (by simp [spec_TaskOk.j2])
      | succ kj42 =>
       have H := HA.out
       clear HA
       simp only [spec_TaskOk.j2] at H
       by_cases c49 : x98_42 = true
       ·subst c49
        replace H := ip_ H
        obtain rfl := si_ H
        go_wp2
        go_ret
        exact ⟨sq_, bl_⟩
       replace c49 := gf_ c49
       subst c49
       replace H := in_ H
       by_cases c50 : a0_1 = 5
       ·rw [if_pos c50] at H
        have := et_ c50
        replace c50 := nf_ c50
        obtain ⟨t56, A51, H⟩ := ob_ H
        by_cases c52 : t56 = true
        ·subst c52
         replace H := ip_ H
         obtain rfl := si_ H
         refine by9_ BK10 ?_; intros
         go_wp2_with (first | ((with_reducible refine gd_ 68 104 func68 #[.int .i64 a0_6] (spec_l06Time.calls a0_6 true _ A51.out) fun nd => ?_)))
         go_ret
         exact ⟨sq_, bl_⟩
        replace c52 := gf_ c52
        subst c52
        replace H := in_ H
        obtain rfl := si_ H
        refine by9_ BK10 ?_; intros
        go_wp2_with (first | ((with_reducible refine gd_ 68 104 func68 #[.int .i64 a0_6] (spec_l06Time.calls a0_6 false _ A51.out) fun nd => ?_)))
        go_ret
        exact ⟨sq_, bl_⟩
       ·rw [if_neg c50] at H
        have c50b0 := ef_ c50
        have c50b1 := nt_ c50
        obtain rfl := si_ H
        refine by9_ BK10 ?_; intros
        go_wp2
        go_ret
        exact ⟨sq_, bl_⟩
/-! ### spec_StepsLeft: function 33 -/
def spec_StepsLeft.f (k : Nat) (l0_0 : List Int) (a0_1 : Int) (l0_2 : List Int) (a0_3 : Int) (a0_4 : Int) (a0_5 : Int) (a0_6 : Int) (a0_7 : Int) (l0_8 : List Int) (a1 : Int) : Option (Int) := (spec_TaskOk.f k l0_0 a0_1 l0_2 a0_3 a0_4 a0_5 a0_6 a0_7 l0_8 a1).bind fun t16 => (if t16 = true then ((spec_Needs.f k l0_0 a0_1 l0_2 a0_3 a0_4 a0_5 a0_6 a0_7 l0_8 a1).bind fun t9 => (if a0_1 = 0 then (if (t9.length : Int) = 0 then (some 2) else (some (wrap64 (3 + (wrap64 (2 * (t9.length : Int))))))) else (if a0_1 = 1 then (some (wrap64 ((wrap64 ((wrap64 (2 + (t9.length : Int))) + (t9.length : Int))) - a0_3))) else (if a0_1 = 2 then (some (wrap64 (2 + (t9.length : Int)))) else (if a0_1 = 3 then (some (wrap64 (1 + a0_3))) else (if a0_1 = 4 then (some 1) else (some 0))))))) else (some 0))
theorem spec_StepsLeft.calls (k : Nat) (A0_0 : Option Addr) (c0_0 : Nat) (l0_0 : List Int) (a0_1 : Int) (A0_2 : Option Addr) (c0_2 : Nat) (l0_2 : List Int) (a0_3 : Int) (a0_4 : Int) (a0_5 : Int) (a0_6 : Int) (a0_7 : Int) (A0_8 : Option Addr) (c0_8 : Nat) (l0_8 : List Int) (a1 : Int) (r : Int) (w : World) (hr0_0 : Kd.C (Kd.int .u8) w A0_0 l0_0.length l0_0) (hc0_0 : l0_0.length ≤ c0_0) (hr0_2 : Kd.C (Kd.int .i64) w A0_2 l0_2.length l0_2) (hc0_2 : l0_2.length ≤ c0_2) (hr0_8 : Kd.C (Kd.int .u8) w A0_8 l0_8.length l0_8) (hc0_8 : l0_8.length ≤ c0_8) (h : spec_StepsLeft.f k l0_0 a0_1 l0_2 a0_3 a0_4 a0_5 a0_6 a0_7 l0_8 a1 = some r) :
  Calls Tryz.prog 33 #[.agg #[.slice A0_0 l0_0.length c0_0, .int .i64 a0_1, .slice A0_2 l0_2.length c0_2, .int .i64 a0_3, .int .i64 a0_4, .int .i64 a0_5, .int .i64 a0_6, .int .i64 a0_7, .slice A0_8 l0_8.length c0_8], .int .i64 a1] w fun e w' => e = .returned (.int .i64 r) ∧ Below w.heap.size w w' := by
 have hu51 := underlying51
 have HR0_0 := Aside0.mk hr0_0
 have HC0_0 := Aside0.mk hc0_0
 clear hr0_0 hc0_0
 have HR0_2 := Aside0.mk hr0_2
 have HC0_2 := Aside0.mk hc0_2
 clear hr0_2 hc0_2
 have HR0_8 := Aside0.mk hr0_8
 have HC0_8 := Aside0.mk hc0_8
 clear hr0_8 hc0_8
 have HB := Aside0.mk (Below.refl w.heap.size w)
 have H := h
 unfold spec_StepsLeft.f at H
 clear h
 obtain ⟨t16, A3, H⟩ := ob_ H
 by_cases c4 : t16 = true
 rotate_left
 ·replace c4 := gf_ c4
  subst c4
  replace H := in_ H
  obtain rfl := si_ H
  go_enter func33, ntmps33
  go_wp2_with (first | ((with_reducible refine gt_ 2 ?_); refine bo_ 2 #[.slice A0_0 l0_0.length c0_0, .int .i64 a0_1, .slice A0_2 l0_2.length c0_2, .int .i64 a0_3, .int .i64 a0_4, .int .i64 a0_5, .int .i64 a0_6, .int .i64 a0_7, .slice A0_8 l0_8.length c0_8] 51 ?_; intro gb1 hg w61 BK1 hb; have GW1 := gw_ (w := w) hg; replace HB := hs_ hb; clear hb hg; refine by9_ BK1 ?_; intros) | ((with_reducible refine gb_ 31 8 func31 #[.agg #[.slice A0_0 l0_0.length c0_0, .int .i64 a0_1, .slice A0_2 l0_2.length c0_2, .int .i64 a0_3, .int .i64 a0_4, .int .i64 a0_5, .int .i64 a0_6, .int .i64 a0_7, .slice A0_8 l0_8.length c0_8], .int .i64 a1] (spec_TaskOk.calls k _ _ l0_0 a0_1 _ _ l0_2 a0_3 a0_4 a0_5 a0_6 a0_7 _ _ l0_8 a1 false _ (cb_ HR0_0 HB) HC0_0.out (cb_ HR0_2 HB) HC0_2.out (cb_ HR0_8 HB) HC0_8.out A3.out) fun w63 hb => ?_); replace BK1 := kb_ BK1 hb; replace HB := hs_ hb; clear hb))
  go_ret
  exact ⟨sq_, bl_⟩
 subst c4
 replace H := ip_ H
 obtain ⟨t9, A5, H⟩ := ob_ H
 by_cases c6 : a0_1 = 0
 ·rw [if_pos c6] at H
  have := et_ c6
  replace c6 := nf_ c6
  by_cases c7 : (t9.length : Int) = 0
  ·rw [if_pos c7] at H
   have c7b0 := et_ c7
   have c7b1 := nf_ c7
   clear c7
   obtain rfl := si_ H
   go_enter func33, ntmps33
   go_wp2_with (first | ((with_reducible refine gt_ 2 ?_); refine bo_ 2 #[.slice A0_0 l0_0.length c0_0, .int .i64 a0_1, .slice A0_2 l0_2.length c0_2, .int .i64 a0_3, .int .i64 a0_4, .int .i64 a0_5, .int .i64 a0_6, .int .i64 a0_7, .slice A0_8 l0_8.length c0_8] 51 ?_; intro gb1 hg w8 BK1 hb; have GW1 := gw_ (w := w) hg; replace HB := hs_ hb; clear hb hg; refine by9_ BK1 ?_; intros) | ((with_reducible refine gb_ 31 8 func31 #[.agg #[.slice A0_0 l0_0.length c0_0, .int .i64 a0_1, .slice A0_2 l0_2.length c0_2, .int .i64 a0_3, .int .i64 a0_4, .int .i64 a0_5, .int .i64 a0_6, .int .i64 a0_7, .slice A0_8 l0_8.length c0_8], .int .i64 a1] (spec_TaskOk.calls k _ _ l0_0 a0_1 _ _ l0_2 a0_3 a0_4 a0_5 a0_6 a0_7 _ _ l0_8 a1 true _ (cb_ HR0_0 HB) HC0_0.out (cb_ HR0_2 HB) HC0_2.out (cb_ HR0_8 HB) HC0_8.out A3.out) fun w10 hb => ?_); replace BK1 := kb_ BK1 hb; replace HB := hs_ hb; clear hb; refine by9_ BK1 ?_; intros) | ((with_reducible refine gc_ 23 12 func23 #[.agg #[.slice A0_0 l0_0.length c0_0, .int .i64 a0_1, .slice A0_2 l0_2.length c0_2, .int .i64 a0_3, .int .i64 a0_4, .int .i64 a0_5, .int .i64 a0_6, .int .i64 a0_7, .slice A0_8 l0_8.length c0_8], .int .i64 a1] ?_); (with_reducible refine (spec_Needs.calls k _ _ l0_0 a0_1 _ _ l0_2 a0_3 a0_4 a0_5 a0_6 a0_7 _ _ l0_8 a1 t9 _ (cb_ HR0_0 HB) HC0_0.out (cb_ HR0_2 HB) HC0_2.out (cb_ HR0_8 HB) HC0_8.out A5.out).mono ?_); rintro e w12 ⟨v14, rfl, ho0, hb⟩; refine ⟨_, rfl, ?_⟩; have HO11 := Aside0.mk (Kd.R_lower ho0 (below_size bl_)); replace BK1 := kb_ BK1 hb; replace HB := hs_ hb; clear hb; (try clear ho0); obtain ⟨Ao13, co13, eo13⟩ := Kd.R_slice HO11.out; subst eo13; refine by9_ BK1 ?_; intros))
   go_ret
   exact ⟨sq_, bl_⟩
  rw [if_neg c7] at H
  have c7b0 := ef_ c7
  have c7b1 := nt_ c7
  have c7b2 : ¬ (t9 = []) := fun h_ => c7 (by rw [h_]; rfl)
  obtain rfl := si_ H
  go_enter func33, ntmps33
  go_wp2_with (first | ((with_reducible refine gt_ 2 ?_); refine bo_ 2 #[.slice A0_0 l0_0.length c0_0, .int .i64 a0_1, .slice A0_2 l0_2.length c0_2, .int .i64 a0_3, .int .i64 a0_4, .int .i64 a0_5, .int .i64 a0_6, .int .i64 a0_7, .slice A0_8 l0_8.length c0_8] 51 ?_; intro gb1 hg w15 BK1 hb; have GW1 := gw_ (w := w) hg; replace HB := hs_ hb; clear hb hg; refine by9_ BK1 ?_; intros) | ((with_reducible refine gb_ 31 8 func31 #[.agg #[.slice A0_0 l0_0.length c0_0, .int .i64 a0_1, .slice A0_2 l0_2.length c0_2, .int .i64 a0_3, .int .i64 a0_4, .int .i64 a0_5, .int .i64 a0_6, .int .i64 a0_7, .slice A0_8 l0_8.length c0_8], .int .i64 a1] (spec_TaskOk.calls k _ _ l0_0 a0_1 _ _ l0_2 a0_3 a0_4 a0_5 a0_6 a0_7 _ _ l0_8 a1 true _ (cb_ HR0_0 HB) HC0_0.out (cb_ HR0_2 HB) HC0_2.out (cb_ HR0_8 HB) HC0_8.out A3.out) fun w17 hb => ?_); replace BK1 := kb_ BK1 hb; replace HB := hs_ hb; clear hb; refine by9_ BK1 ?_; intros) | ((with_reducible refine gc_ 23 12 func23 #[.agg #[.slice A0_0 l0_0.length c0_0, .int .i64 a0_1, .slice A0_2 l0_2.length c0_2, .int .i64 a0_3, .int .i64 a0_4, .int .i64 a0_5, .int .i64 a0_6, .int .i64 a0_7, .slice A0_8 l0_8.length c0_8], .int .i64 a1] ?_); (with_reducible refine (spec_Needs.calls k _ _ l0_0 a0_1 _ _ l0_2 a0_3 a0_4 a0_5 a0_6 a0_7 _ _ l0_8 a1 t9 _ (cb_ HR0_0 HB) HC0_0.out (cb_ HR0_2 HB) HC0_2.out (cb_ HR0_8 HB) HC0_8.out A5.out).mono ?_); rintro e w19 ⟨v14, rfl, ho0, hb⟩; refine ⟨_, rfl, ?_⟩; have HO11 := Aside0.mk (Kd.R_lower ho0 (below_size bl_)); replace BK1 := kb_ BK1 hb; replace HB := hs_ hb; clear hb; (try clear ho0); obtain ⟨Ao20, co20, eo20⟩ := Kd.R_slice HO11.out; subst eo20; refine by9_ BK1 ?_; intros))
  go_ret
  exact ⟨sq_, bl_⟩
 rw [if_neg c6] at H
 have c6b0 := ef_ c6
 have c6b1 := nt_ c6
 by_cases c22 : a0_1 = 1
 ·rw [if_pos c22] at H
  have := et_ c22
  replace c22 := nf_ c22
  obtain rfl := si_ H
  go_enter func33, ntmps33
  go_wp2_with (first | ((with_reducible refine gt_ 2 ?_); refine bo_ 2 #[.slice A0_0 l0_0.length c0_0, .int .i64 a0_1, .slice A0_2 l0_2.length c0_2, .int .i64 a0_3, .int .i64 a0_4, .int .i64 a0_5, .int .i64 a0_6, .int .i64 a0_7, .slice A0_8 l0_8.length c0_8] 51 ?_; intro gb1 hg w23 BK1 hb; have GW1 := gw_ (w := w) hg; replace HB := hs_ hb; clear hb hg; refine by9_ BK1 ?_; intros) | ((with_reducible refine gb_ 31 8 func31 #[.agg #[.slice A0_0 l0_0.length c0_0, .int .i64 a0_1, .slice A0_2 l0_2.length c0_2, .int .i64 a0_3, .int .i64 a0_4, .int .i64 a0_5, .int .i64 a0_6, .int .i64 a0_7, .slice A0_8 l0_8.length c0_8], .int .i64 a1] (spec_TaskOk.calls k _ _ l0_0 a0_1 _ _ l0_2 a0_3 a0_4 a0_5 a0_6 a0_7 _ _ l0_8 a1 true _ (cb_ HR0_0 HB) HC0_0.out (cb_ HR0_2 HB) HC0_2.out (cb_ HR0_8 HB) HC0_8.out A3.out) fun w25 hb => ?_); replace BK1 := kb_ BK1 hb; replace HB := hs_ hb; clear hb; refine by9_ BK1 ?_; intros) | ((with_reducible refine gc_ 23 12 func23 #[.agg #[.slice A0_0 l0_0.length c0_0, .int .i64 a0_1, .slice A0_2 l0_2.length c0_2, .int .i64 a0_3, .int .i64 a0_4, .int .i64 a0_5, .int .i64 a0_6, .int .i64 a0_7, .slice A0_8 l0_8.length c0_8], .int .i64 a1] ?_); (with_reducible refine (spec_Needs.calls k _ _ l0_0 a0_1 _ _ l0_2 a0_3 a0_4 a0_5 a0_6 a0_7 _ _ l0_8 a1 t9 _ (cb_ HR0_0 HB) HC0_0.out (cb_ HR0_2 HB) HC0_2.out (cb_ HR0_8 HB) HC0_8.out A5.out).mono ?_); rintro e w27 ⟨v14, rfl, ho0, hb⟩; refine ⟨_, rfl, ?_⟩; have HO11 := Aside0.mk (Kd.R_lower ho0 (below_size bl_)); replace BK1 := kb_ BK1 hb; replace HB := hs_ hb; clear hb; (try clear ho0); obtain ⟨Ao28, co28, eo28⟩ := Kd.R_slice HO11.out; subst eo28; refine by9_ BK1 ?_; intros))
  go_ret
  exact ⟨sq_, bl_⟩
 rw [if_neg c22] at H
 have c22b0 := ef_ c22
 have c22b1 := nt_ c22
 by_cases c30 : a0_1 = 2
 ·rw [if_pos c30] at H
  have := et_ c30
  replace c30 := nf_ c30
  obtain rfl := si_ H
  go_enter func33, ntmps33
  go_wp2_with (first | ((with_reducible refine gt_ 2 ?_); refine bo_ 2 #[.slice A0_0 l0_0.length c0_0, .int .i64 a0_1, .slice A0_2 l0_2.length c0_2, .int .i64 a0_3, .int .i64 a0_4, .int .i64 a0_5, .int .i64 a0_6, .int .i64 a0_7, .slice A0_8 l0_8.length c0_8] 51 ?_; intro gb1 hg w31 BK1 hb; have GW1 := gw_ (w := w) hg; replace HB := hs_ hb; clear hb hg; refine by9_ BK1 ?_; intros) | ((with_reducible refine gb_ 31 8 func31 #[.agg #[.slice A0_0 l0_0.length c0_0, .int .i64 a0_1, .slice A0_2 l0_2.length c0_2, .int .i64 a0_3, .int .i64 a0_4, .int .i64 a0_5, .int .i64 a0_6, .int .i64 a0_7, .slice A0_8 l0_8.length c0_8], .int .i64 a1] (spec_TaskOk.calls k _ _ l0_0 a0_1 _ _ l0_2 a0_3 a0_4 a0_5 a0_6 a0_7 _ _ l0_8 a1 true _ (cb_ HR0_0 HB) HC0_0.out (cb_ HR0_2 HB) HC0_2.out (cb_ HR0_8 HB) HC0_8.out A3.out) fun w33 hb => ?_); replace BK1 := kb_ BK1 hb; replace HB := hs_ hb; clear hb; refine by9_ BK1 ?_; intros) | ((with_reducible refine gc_ 23 12 func23 #[.agg #[.slice A0_0 l0_0.length c0_0, .int .i64 a0_1, .slice A0_2 l0_2.length c0_2, .int .i64 a0_3, .int .i64 a0_4, .int .i64 a0_5, .int .i64 a0_6, .int .i64 a0_7, .slice A0_8 l0_8.length c0_8], .int .i64 a1] ?_); (with_reducible refine (spec_Needs.calls k _ _ l0_0 a0_1 _ _ l0_2 a0_3 a0_4 a0_5 a0_6 a0_7 _ _ l0_8 a1 t9 _ (cb_ HR0_0 HB) HC0_0.out (cb_ HR0_2 HB) HC0_2.out (cb_ HR0_8 HB) HC0_8.out A5.out).mono ?_); rintro e w35 ⟨v14, rfl, ho0, hb⟩; refine ⟨_, rfl, ?_⟩; have HO11 := Aside0.mk (Kd.R_lower ho0 (below_size bl_)); replace BK1 := kb_ BK1 hb; replace HB := hs_ hb; clear hb; (try clear ho0); obtain ⟨Ao36, co36, eo36⟩ := Kd.R_slice HO11.out; subst eo36; refine by9_ BK1 ?_; intros))
  go_ret
  exact ⟨sq_, bl_⟩
 rw [if_neg c30] at H
 have c30b0 := ef_ c30
 have c30b1 := nt_ c30
 by_cases c38 : a0_1 = 3
 ·rw [if_pos c38] at H
  have := et_ c38
  replace c38 := nf_ c38
  obtain rfl := si_ H
  go_enter func33, ntmps33
  go_wp2_with (first | ((with_reducible refine gt_ 2 ?_); refine bo_ 2 #[.slice A0_0 l0_0.length c0_0, .int .i64 a0_1, .slice A0_2 l0_2.length c0_2, .int .i64 a0_3, .int .i64 a0_4, .int .i64 a0_5, .int .i64 a0_6, .int .i64 a0_7, .slice A0_8 l0_8.length c0_8] 51 ?_; intro gb1 hg w39 BK1 hb; have GW1 := gw_ (w := w) hg; replace HB := hs_ hb; clear hb hg; refine by9_ BK1 ?_; intros) | ((with_reducible refine gb_ 31 8 func31 #[.agg #[.slice A0_0 l0_0.length c0_0, .int .i64 a0_1, .slice A0_2 l0_2.length c0_2, .int .i64 a0_3, .int .i64 a0_4, .int .i64 a0_5, .int .i64 a0_6, .int .i64 a0_7, .slice A0_8 l0_8.length c0_8], .int .i64 a1] (spec_TaskOk.calls k _ _ l0_0 a0_1 _ _ l0_2 a0_3 a0_4 a0_5 a0_6 a0_7 _ _ l0_8 a1 true _ (cb_ HR0_0 HB) HC0_0.out (cb_ HR0_2 HB) HC0_2.out (cb_ HR0_8 HB) HC0_8.out A3.out) fun w41 hb => ?_); replace BK1 := kb_ BK1 hb; replace HB := hs_ hb; clear hb; refine by9_ BK1 ?_; intros) | ((with_reducible refine gc_ 23 12 func23 #[.agg #[.slice A0_0 l0_0.length c0_0, .int .i64 a0_1, .slice A0_2 l0_2.length c0_2, .int .i64 a0_3, .int .i64 a0_4, .int .i64 a0_5, .int .i64 a0_6, .int .i64 a0_7, .slice A0_8 l0_8.length c0_8], .int .i64 a1] ?_); (with_reducible refine (spec_Needs.calls k _ _ l0_0 a0_1 _ _ l0_2 a0_3 a0_4 a0_5 a0_6 a0_7 _ _ l0_8 a1 t9 _ (cb_ HR0_0 HB) HC0_0.out (cb_ HR0_2 HB) HC0_2.out (cb_ HR0_8 HB) HC0_8.out A5.out).mono ?_); rintro e w43 ⟨v14, rfl, ho0, hb⟩; refine ⟨_, rfl, ?_⟩; have HO11 := Aside0.mk (Kd.R_lower ho0 (below_size bl_)); replace BK1 := kb_ BK1 hb; replace HB := hs_ hb; clear hb; (try clear ho0); obtain ⟨Ao44, co44, eo44⟩ := Kd.R_slice HO11.out; subst eo44; refine by9_ BK1 ?_; intros))
  go_ret
  exact ⟨sq_, bl_⟩
 rw [if_neg c38] at H
 have c38b0 := ef_ c38
 have c38b1 := nt_ c38
 by_cases c46 : a0_1 = 4
 ·rw [if_pos c46] at H
  have := et_ c46
  replace c46 := nf_ c46
  obtain rfl := si_ H
  go_enter func33, ntmps33
  go_wp2_with (first | ((with_reducible refine gt_ 2 ?_); refine bo_ 2 #[.slice A0_0 l0_0.length c0_0, .int .i64 a0_1, .slice A0_2 l0_2.length c0_2, .int .i64 a0_3, .int .i64 a0_4, .int .i64 a0_5, .int .i64 a0_6, .int .i64 a0_7, .slice A0_8 l0_8.length c0_8] 51 ?_; intro gb1 hg w47 BK1 hb; have GW1 := gw_ (w := w) hg; replace HB := hs_ hb; clear hb hg; refine by9_ BK1 ?_; intros) | ((with_reducible refine gb_ 31 8 func31 #[.agg #[.slice A0_0 l0_0.length c0_0, .int .i64 a0_1, .slice A0_2 l0_2.length c0_2, .int .i64 a0_3, .int .i64 a0_4, .int .i64 a0_5, .int .i64 a0_6, .int .i64 a0_7, .slice A0_8 l0_8.length c0_8], .int .i64 a1] (spec_TaskOk.calls k _ _ l0_0 a0_1 _ _ l0_2 a0_3 a0_4 a0_5 a0_6 a0_7 _ _ l0_8 a1 true _ (cb_ HR0_0 HB) HC0_0.out (cb_ HR0_2 HB) HC0_2.out (cb_ HR0_8 HB) HC0_8.out A3.out) fun w49 hb => ?_); replace BK1 := kb_ BK1 hb; replace HB := hs_ hb; clear hb; refine by9_ BK1 ?_; intros) | ((with_reducible refine gc_ 23 12 func23 #[.agg #[.slice A0_0 l0_0.length c0_0, .int .i64 a0_1, .slice A0_2 l0_2.length c0_2, .int .i64 a0_3, .int .i64 a0_4, .int .i64 a0_5, .int .i64 a0_6, .int .i64 a0_7, .slice A0_8 l0_8.length c0_8], .int .i64 a1] ?_); (with_reducible refine (spec_Needs.calls k _ _ l0_0 a0_1 _ _ l0_2 a0_3 a0_4 a0_5 a0_6 a0_7 _ _ l0_8 a1 t9 _ (cb_ HR0_0 HB) HC0_0.out (cb_ HR0_2 HB) HC0_2.out (cb_ HR0_8 HB) HC0_8.out A5.out).mono ?_); rintro e w51 ⟨v14, rfl, ho0, hb⟩; refine ⟨_, rfl, ?_⟩; have HO11 := Aside0.mk (Kd.R_lower ho0 (below_size bl_)); replace BK1 := kb_ BK1 hb; replace HB := hs_ hb; clear hb; (try clear ho0); obtain ⟨Ao52, co52, eo52⟩ := Kd.R_slice HO11.out; subst eo52; refine by9_ BK1 ?_; intros))
  go_ret
  exact ⟨sq_, bl_⟩
 ·rw [if_neg c46] at H
  have c46b0 := ef_ c46
  have c46b1 := nt_ c46
  obtain rfl := si_ H
  go_enter func33, ntmps33
  go_wp2_with (first | ((with_reducible refine gt_ 2 ?_); refine bo_ 2 #[.slice A0_0 l0_0.length c0_0, .int .i64 a0_1, .slice A0_2 l0_2.length c0_2, .int .i64 a0_3, .int .i64 a0_4, .int .i64 a0_5, .int .i64 a0_6, .int .i64 a0_7, .slice A0_8 l0_8.length c0_8] 51 ?_; intro gb1 hg w54 BK1 hb; have GW1 := gw_ (w := w) hg; replace HB := hs_ hb; clear hb hg; refine by9_ BK1 ?_; intros) | ((with_reducible refine gb_ 31 8 func31 #[.agg #[.slice A0_0 l0_0.length c0_0, .int .i64 a0_1, .slice A0_2 l0_2.length c0_2, .int .i64 a0_3, .int .i64 a0_4, .int .i64 a0_5, .int .i64 a0_6, .int .i64 a0_7, .slice A0_8 l0_8.length c0_8], .int .i64 a1] (spec_TaskOk.calls k _ _ l0_0 a0_1 _ _ l0_2 a0_3 a0_4 a0_5 a0_6 a0_7 _ _ l0_8 a1 true _ (cb_ HR0_0 HB) HC0_0.out (cb_ HR0_2 HB) HC0_2.out (cb_ HR0_8 HB) HC0_8.out A3.out) fun w56 hb => ?_); replace BK1 := kb_ BK1 hb; replace HB := hs_ hb; clear hb; refine by9_ BK1 ?_; intros) | ((with_reducible refine gc_ 23 12 func23 #[.agg #[.slice A0_0 l0_0.length c0_0, .int .i64 a0_1, .slice A0_2 l0_2.length c0_2, .int .i64 a0_3, .int .i64 a0_4, .int .i64 a0_5, .int .i64 a0_6, .int .i64 a0_7, .slice A0_8 l0_8.length c0_8], .int .i64 a1] ?_); (with_reducible refine (spec_Needs.calls k _ _ l0_0 a0_1 _ _ l0_2 a0_3 a0_4 a0_5 a0_6 a0_7 _ _ l0_8 a1 t9 _ (cb_ HR0_0 HB) HC0_0.out (cb_ HR0_2 HB) HC0_2.out (cb_ HR0_8 HB) HC0_8.out A5.out).mono ?_); rintro e w58 ⟨v14, rfl, ho0, hb⟩; refine ⟨_, rfl, ?_⟩; have HO11 := Aside0.mk (Kd.R_lower ho0 (below_size bl_)); replace BK1 := kb_ BK1 hb; replace HB := hs_ hb; clear hb; (try clear ho0); obtain ⟨Ao59, co59, eo59⟩ := Kd.R_slice HO11.out; subst eo59; refine by9_ BK1 ?_; intros))
  go_ret
  exact ⟨sq_, bl_⟩
end Go.Proofs.YtohfefkjcnbejaaGreatDoor.QFnExactStepsLeft
