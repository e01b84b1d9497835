-- by my own printer (myprint.py, over the kit's print.py)
import Derived.Test.YtohfefkjcnbejaaGreatDoorQFnExactStepsLeftx3
namespace Go.Proofs.YtohfefkjcnbejaaGreatDoor.QFnExactStepsLeft
open Go.RowKit Go.Proofs.YtohfefkjcnbejaaGreatDoorW.PrintWords Go.Proofs.YtohfefkjcnbejaaGreatDoorW.PrintLast Go.Proofs.YtohfefkjcnbejaaGreatDoorW.PrintMore Tryz
attribute [local go_sem] max2_int min2_int max_two min_two max_three min_three max_four min_four
set_option linter.unusedVariables false
set_option linter.unusedSimpArgs false
set_option maxHeartbeats 8000000
set_option maxRecDepth 100000
attribute [local go_sem] my_geq my_leq my_gtr
/-! ### impl_Parse: function 58 -/
mutual
def impl_Parse.l0 : Nat → List Int → ByteArray → Int → List Int → Bool → List Int → Int → Int → Option (ByteArray × (List (S91)) × Int)
 | 0, _, _, _, _, _, _, _, _ => none
 | k + 1, x0, x4, x5, x8, x9, x41, x42, x43 => if x43 < x42 then (if 0 ≤ x43 then (if x43 < (x41.length : Int) then (if (rd x41 x43) = 1 then (impl_Parse.l0 k x0 x4 x5 x8 true x41 x42 (wrap64 (x43 + 1))) else ((impl_FieldKind.f k (rd x41 x43)).bind fun t80 => (if t80 = 0 then (some ((⟨#[]⟩ : ByteArray), ([] : List (S91)), 2)) else (if x8.length < 17592186044416 then (impl_Parse.l0 k x0 x4 x5 (x8 ++ [rd x41 x43]) x9 x41 x42 (wrap64 (x43 + 1))) else (none))))) else (none)) else (none)) else (if x9 = true then ((impl_GetBits.f k x0 x5).bind fun bt44 => (if bt44.2.2 = true then (impl_Parse.j1 k x0 x4 bt44.2.1 x8 bt44.1 ((bt44.1.length : Int) == 0)) else (impl_Parse.j1 k x0 x4 bt44.2.1 x8 bt44.1 true))) else (impl_Parse.j3 k x0 x4 x5 x8))
def impl_Parse.j3 : Nat → List Int → ByteArray → Int → List Int → Option (ByteArray × (List (S91)) × Int)
 | 0, _, _, _, _ => none
 | k + 1, x0, x4, x5, x8 => impl_Parse.l2 k x0 x5 x8 (x8.length : Int) 0 x4 ([] : List (S91))
def impl_Parse.l2 : Nat → List Int → Int → List Int → Int → Int → ByteArray → List (S91) → Option (ByteArray × (List (S91)) × Int)
 | 0, _, _, _, _, _, _, _ => none
 | k + 1, x0, x5, x95, x96, x97, x85, x45 => if x97 < x96 then (if 0 ≤ x97 then (if x97 < (x95.length : Int) then ((impl_GetField.f k x0 x5 (rd x95 x97)).bind fun bt64 => (if bt64.2.2 = true then (if x45.length < 5864062014805 then (impl_Parse.l2 k x0 bt64.2.1 x95 x96 (wrap64 (x97 + 1)) x85 (x45 ++ [(⟨rd x95 x97, bt64.1⟩ : S91)])) else (none)) else (some ((⟨#[]⟩ : ByteArray), ([] : List (S91)), 3)))) else (none)) else (none)) else (if x5 = (x0.length : Int) then (some (x85, x45, 0)) else (some ((⟨#[]⟩ : ByteArray), ([] : List (S91)), 4)))
def impl_Parse.j1 : Nat → List Int → ByteArray → Int → List Int → List Int → Bool → Option (ByteArray × (List (S91)) × Int)
 | 0, _, _, _, _, _, _ => none
 | k + 1, x0, x4, x5, x8, x12, x74 => if x74 = true then (some ((⟨#[]⟩ : ByteArray), ([] : List (S91)), 2)) else (impl_Parse.l1 k x0 x4 x5 x8 x12 (x12.length : Int) 0)
def impl_Parse.l1 : Nat → List Int → ByteArray → Int → List Int → List Int → Int → Int → Option (ByteArray × (List (S91)) × Int)
 | 0, _, _, _, _, _, _, _ => none
 | k + 1, x0, x4, x5, x8, x76, x77, x78 => if x78 < x77 then (if 0 ≤ x78 then (if x78 < (x76.length : Int) then ((impl_FieldKind.f k (wrap64 ((rd x76 x78) + 64))).bind fun t81 => (if t81 = 0 then (some ((⟨#[]⟩ : ByteArray), ([] : List (S91)), 2)) else (if x8.length < 17592186044416 then (impl_Parse.l1 k x0 x4 x5 (x8 ++ [wrap64 ((rd x76 x78) + 64)]) x76 x77 (wrap64 (x78 + 1))) else (none)))) else (none)) else (none)) else (impl_Parse.j3 k x0 x4 x5 x8)
end
def impl_Parse.f (k : Nat) (l0 : List Int) : Option (ByteArray × (List (S91)) × Int) := (impl_GetBcd.f k l0 0 4).bind fun bt60 => (if bt60.2.2 = true then ((impl_GetBits.f k l0 bt60.2.1).bind fun bt54 => (if bt54.2.2 = true then (impl_Parse.l0 k l0 bt60.1 bt54.2.1 (([] : List Int)) false bt54.1 (bt54.1.length : Int) 0) else (some ((⟨#[]⟩ : ByteArray), ([] : List (S91)), 2)))) else (some ((⟨#[]⟩ : ByteArray), ([] : List (S91)), 1)))
theorem impl_Parse.calls (k : Nat) (A0 : Option Addr) (c0 : Nat) (l0 : List Int) (r1 : ByteArray) (r2 : List (S91)) (r3 : Int) (w : World) (hr0 : Kd.C (Kd.int .u8) w A0 l0.length l0) (hc0 : l0.length ≤ c0) (h : impl_Parse.f k l0 = some (r1, r2, r3)) :
  Calls Tryz.prog 58 #[.slice A0 l0.length c0] w fun e w' => ∃ v1_ : Value, e = .returned (.tuple #[.agg #[.string r1, v1_], .int .i64 r3]) ∧ Kd.R k91 91 w' w.heap.size (fun _ => True) v1_ r2 ∧ Below w.heap.size w w' := by
 have hu32 := underlying32
 have hu91 := underlying91
 have HR0 := Aside0.mk hr0
 have HC0 := Aside0.mk hc0
 clear hr0 hc0
 have HB := Aside0.mk (Below.refl w.heap.size w)
 have H := h
 unfold impl_Parse.f at H
 clear h
 obtain ⟨⟨t60, t75, t89⟩, A2, H⟩ := ob_ H
 (try dsimp only at H)
 by_cases c3 : t89 = true
 rotate_left
 ·replace c3 := gf_ c3
  subst c3
  replace H := in_ H
  simp only [Option.some.injEq, Prod.mk.injEq] at H
  obtain ⟨rfl, rfl, rfl⟩ := H
  go_enter func58, ntmps58
  go_wp2_with (first | ((with_reducible refine gt_ 2 ?_); (try (refine gate_guard (by rfl) ?_; dsimp only)); refine bo_ 2 #[.string ⟨#[]⟩, .slice none 0 0] 32 ?_; intro gb19 hg w73 BK19 hb; have GW19 := gw_ (w := w) hg; replace HB := hs_ hb; clear hb hg) | ((with_reducible refine gb_ 96 23 func96 #[.slice A0 l0.length c0, .int .i64 0, .int .i64 4] (impl_GetBcd.calls k _ _ l0 0 4 t60 t75 false _ (cb_ HR0 HB) HC0.out A2.out) fun w74 hb => ?_); replace BK19 := kb_ BK19 hb; replace HB := hs_ hb; clear hb; refine by2_ BK19 ?_; intros))
  refine bodyPost_ret (results_ct rfl _ _ gb19 32 #[.string ⟨#[]⟩, .slice none 0 0] (0, 0) _ rfl (by refine ch_ ?_; apply bq2_1_0_; exact ch_ BK19.out) underlying32 rfl (by kernel_rfl)) rfl ?_
  exact ⟨_, sq_, by first | exact Kd.R_nil _ _ _ _ _ | exact Kd.N_nil _ _ _ _ _ | exact Kd.V_nil _ _ _ _ _ | exact Kd.Q_nil _ _ _ _ _ | exact Kd.S_nil _ _ _ _ _, bl_⟩
 subst c3
 replace H := ip_ H
 obtain ⟨⟨t54, t67, t90⟩, A4, H⟩ := ob_ H
 (try dsimp only at H)
 by_cases c5 : t90 = true
 rotate_left
 ·replace c5 := gf_ c5
  subst c5
  replace H := in_ H
  simp only [Option.some.injEq, Prod.mk.injEq] at H
  obtain ⟨rfl, rfl, rfl⟩ := H
  go_enter func58, ntmps58
  go_wp2_with (first | ((with_reducible refine gt_ 2 ?_); (try (refine gate_guard (by rfl) ?_; dsimp only)); refine bo_ 2 #[.string ⟨#[]⟩, .slice none 0 0] 32 ?_; intro gb19 hg w69 BK19 hb; have GW19 := gw_ (w := w) hg; replace HB := hs_ hb; clear hb hg) | ((with_reducible refine gb_ 96 23 func96 #[.slice A0 l0.length c0, .int .i64 0, .int .i64 4] (impl_GetBcd.calls k _ _ l0 0 4 t60 t75 true _ (cb_ HR0 HB) HC0.out A2.out) fun w70 hb => ?_); replace BK19 := kb_ BK19 hb; replace HB := hs_ hb; clear hb) | ((with_reducible refine gc_ 97 33 func97 #[.slice A0 l0.length c0, .int .i64 t75] ?_); (with_reducible refine (impl_GetBits.calls k _ _ l0 t75 t54 t67 false _ (cb_ HR0 HB) HC0.out A4.out).mono ?_); rintro e w71 ⟨v92, rfl, ho0, hb⟩; refine ⟨_, rfl, ?_⟩; have HO79 := Aside0.mk (Kd.R_lower ho0 (below_size bl_)); replace BK19 := kb_ BK19 hb; replace HB := hs_ hb; clear hb; (try clear ho0); refine by2_ BK19 ?_; intros))
  refine bodyPost_ret (results_ct rfl _ _ gb19 32 #[.string ⟨#[]⟩, .slice none 0 0] (0, 0) _ rfl (by refine ch_ ?_; apply bq2_1_0_; exact ch_ BK19.out) underlying32 rfl (by kernel_rfl)) rfl ?_
  exact ⟨_, sq_, by first | exact Kd.R_nil _ _ _ _ _ | exact Kd.N_nil _ _ _ _ _ | exact Kd.V_nil _ _ _ _ _ | exact Kd.Q_nil _ _ _ _ _ | exact Kd.S_nil _ _ _ _ _, bl_⟩
 subst c5
 replace H := ip_ H
 obtain ⟨y65, hy65⟩ : ∃ y_ : List Int, y_ = (([] : List Int)) := ⟨_, rfl⟩
 replace H : (impl_Parse.l0 k l0 t60 t67 y65 false t54 (t54.length : Int) 0) = some (r1, r2, r3) := hh_ hy65 H
 have Ny65 := Aside0.mk hy65
 clear hy65
 have H' := Aside0.mk H
 clear H
 go_enter func58, ntmps58
 go_wp2_with (first | ((with_reducible refine gt_ 2 ?_); (try (refine gate_guard (by rfl) ?_; dsimp only)); refine bo_ 2 #[.string ⟨#[]⟩, .slice none 0 0] 32 ?_; intro gb19 hg w6 BK19 hb; have GW19 := gw_ (w := w) hg; replace HB := hs_ hb; clear hb hg) | ((with_reducible refine gb_ 96 23 func96 #[.slice A0 l0.length c0, .int .i64 0, .int .i64 4] (impl_GetBcd.calls k _ _ l0 0 4 t60 t75 true _ (cb_ HR0 HB) HC0.out A2.out) fun w7 hb => ?_); replace BK19 := kb_ BK19 hb; replace HB := hs_ hb; clear hb) | ((with_reducible refine gc_ 97 33 func97 #[.slice A0 l0.length c0, .int .i64 t75] ?_); (with_reducible refine (impl_GetBits.calls k _ _ l0 t75 t54 t67 true _ (cb_ HR0 HB) HC0.out A4.out).mono ?_); rintro e w8 ⟨v92, rfl, ho0, hb⟩; refine ⟨_, rfl, ?_⟩; have HO79 := Aside0.mk (Kd.R_lower ho0 (below_size bl_)); replace BK19 := kb_ BK19 hb; replace HB := hs_ hb; clear hb; (try clear ho0)) | ((with_reducible refine gate_dst (N := 40) rfl ?_); (try (refine gate_guard (by rfl) ?_; dsimp only)); refine Kd.R_lit (Kd.int .i64) _ 3 ?hg (N := 40) ?hd (xs := ([] : List Int)) (inner := []) (ok := fun _ => True) (okp := fun _ => True) ?hr ?hp (fun _ hk => hk) trivial (Below.refl _ _) (Nat.le_refl _) (by simp) ?_; (case hd => rfl); (case hg => rfl); (case hr => first | (go_simp; done) | (go_simp; rfl)); (case hp => exact (Reps.none _ _)); intro v612 w9 ho10 hb hg_ hnew_; clear hg_ hnew_; (first | rw [← Ny65.out] at ho10 | (simp only [Int.reduceToNat] at ho10; rw [← Ny65.out] at ho10)); have HO93 := Aside0.mk (Kd.R_lower (Kd.R_new' ho10 (Kd.R_lt (ra_ HO79))) (below_size bl_)); replace HO79 := Aside0.mk (Kd.R_elder' (ra_ HO79) (Kd.R_base ho10) hb); replace BK19 := kb_ BK19 hb; replace HB := hs_ hb; clear hb ho10; obtain ⟨Ao11, co11, eo11⟩ := Kd.R_slice HO79.out; subst eo11))
 go_loopg [8, 9, 43] k (fun kq v8 v9 v43 w' => ∃ (x8_1 : List Int) (x9_1 : Bool) (x43_1 : Int) (x61_1 : ByteArray), v9 = .bool x9_1 ∧ v43 = .int .i64 x43_1 ∧ Aside0 (impl_Parse.l0 kq l0 t60 t67 x8_1 x9_1 t54 (t54.length : Int) x43_1 = some (r1, r2, r3)) ∧ Aside0 (kq ≤ k) ∧ Aside0 (Kd.R (Kd.int .i64) 3 w' w.heap.size (fun k_ => some k_ ≠ ((.slice Ao11 t54.length co11) : Value).ownBlock) v8 x8_1) ∧ Aside0 (Kd.R (Kd.int .i64) 3 w' w.heap.size (fun k_ => some k_ ≠ (v8 : Value).ownBlock) (.slice Ao11 t54.length co11) t54) ∧ Aside0 (w'.heap[gb19]? = some (.cells #[.string x61_1, (.slice none 0 0)] 32 (0, 0))) ∧ Aside0 (Below w.heap.size w w'))
 case atStart => exact ⟨(y65), (false), (0), ((⟨#[]⟩ : ByteArray)), sp_, sp_, H', ⟨Nat.le_refl _⟩, ⟨by refine cr_ ?_; exact Kd.R_mono HO93.out (fun _ hk => hk.2)⟩, ⟨by refine cr_ ?_; exact Kd.R_mono HO79.out (fun _ hk => hk.2)⟩, ⟨ch_ BK19.out⟩, ⟨bl_⟩⟩
 case round =>
  clear H'
  obtain ⟨x8_1, x9_1, x43_1, x61_1, rfl, rfl, HA, HK1, HO_8, HO_41, BK19, HB⟩ := hrel
  cases gk with
  | zero => exact absurd HA.out (by simp [impl_Parse.l0])
  | succ k1 =>
   have H := HA.out
   clear HA
   simp only [impl_Parse.l0] at H
   by_cases c12 : x43_1 < (t54.length : Int)
   ·rw [if_pos c12] at H
    replace c12 := dt_ c12
    obtain ⟨c13, H⟩ := og_ H
    replace c13 := dt_ c13
    obtain ⟨c14, H⟩ := og_ H
    replace c14 := dt_ c14
    by_cases c15 : (rd t54 x43_1) = 1
    ·rw [if_pos c15] at H
     have := et_ c15
     replace c15 := nf_ c15
     have H' := Aside0.mk H
     clear H
     have p39 : 0 ≤ (x43_1 : Int) := od_
     have q39 : x43_1 < (t54.length : Int) := od_
     obtain ⟨ad39, e39, hx39_0⟩ := Kd.at_int (Kd.R_reads' HO_41.out).2.2 x43_1 p39 q39
     cases e39
     replace p39 := eq_true p39
     replace q39 := eq_true q39
     go_wp2
     go_roundg k1
     case measure => have := HK1.out; omega
     case rel => exact ⟨(x8_1), (true), (wrap64 (x43_1 + 1)), (x61_1), sp_, sp_, H', ⟨by have := HK1.out; omega⟩, ⟨ra_ HO_8⟩, ⟨ra_ HO_41⟩, ⟨ch_ BK19.out⟩, ⟨bl_⟩⟩
    rw [if_neg c15] at H
    have c15b0 := ef_ c15
    have c15b1 := nt_ c15
    obtain ⟨t80, A16, H⟩ := ob_ H
    by_cases c17 : t80 = 0
    ·rw [if_pos c17] at H
     have := et_ c17
     replace c17 := nf_ c17
     simp only [Option.some.injEq, Prod.mk.injEq] at H
     obtain ⟨rfl, rfl, rfl⟩ := H
     have p39 : 0 ≤ (x43_1 : Int) := od_
     have q39 : x43_1 < (t54.length : Int) := od_
     obtain ⟨ad39, e39, hx39_0⟩ := Kd.at_int (Kd.R_reads' HO_41.out).2.2 x43_1 p39 q39
     cases e39
     replace p39 := eq_true p39
     replace q39 := eq_true q39
     go_wp2_with (first | ((with_reducible refine gb_ 98 56 func98 #[.int .i64 (rd t54 x43_1)] (impl_FieldKind.calls k1 (rd t54 x43_1) t80 _ A16.out) fun w18 hb => ?_); replace HO_8 := Aside0.mk (Kd.R_below (ra_ HO_8) hb); replace HO_41 := Aside0.mk (Kd.R_below (ra_ HO_41) hb); replace BK19 := kb_ BK19 hb; replace HB := hs_ hb; clear hb; refine by2_ BK19 ?_; intros))
     refine bodyPost_ret (results_ct rfl _ _ gb19 32 #[.string ⟨#[]⟩, .slice none 0 0] (0, 0) _ rfl (by refine ch_ ?_; apply bq2_1_0_; exact ch_ BK19.out) underlying32 rfl (by kernel_rfl)) rfl ?_
     exact ⟨_, sq_, by first | exact Kd.R_nil _ _ _ _ _ | exact Kd.N_nil _ _ _ _ _ | exact Kd.V_nil _ _ _ _ _ | exact Kd.Q_nil _ _ _ _ _ | exact Kd.S_nil _ _ _ _ _, bl_⟩
    rw [if_neg c17] at H
    have c17b0 := ef_ c17
    have c17b1 := nt_ c17
    by_cases c20 : x8_1.length < 17592186044416
    ·rw [if_pos c20] at H
     have LMc20 := Aside0.mk c20
     clear c20
     obtain ⟨y68, hy68⟩ : ∃ y_ : List Int, y_ = (x8_1 ++ [rd t54 x43_1]) := ⟨_, rfl⟩
     replace H : (impl_Parse.l0 k1 l0 t60 t67 y68 x9_1 t54 (t54.length : Int) (wrap64 (x43_1 + 1))) = some (r1, r2, r3) := hh_ hy68 H
     have Ny68 := Aside0.mk hy68
     clear hy68
     have H' := Aside0.mk H
     clear H
     have p39 : 0 ≤ (x43_1 : Int) := od_
     have q39 : x43_1 < (t54.length : Int) := od_
     obtain ⟨ad39, e39, hx39_0⟩ := Kd.at_int (Kd.R_reads' HO_41.out).2.2 x43_1 p39 q39
     cases e39
     replace p39 := eq_true p39
     replace q39 := eq_true q39
     go_wp2_with (first | ((with_reducible refine gb_ 98 56 func98 #[.int .i64 (rd t54 x43_1)] (impl_FieldKind.calls k1 (rd t54 x43_1) t80 _ A16.out) fun w21 hb => ?_); replace HO_8 := Aside0.mk (Kd.R_below (ra_ HO_8) hb); replace HO_41 := Aside0.mk (Kd.R_below (ra_ HO_41) hb); replace BK19 := kb_ BK19 hb; replace HB := hs_ hb; clear hb) | ((with_reducible refine gate_builtin (b := .append) (xs := #[.tmp 47, .tmp 49]) rfl ?_); (try (refine gate_guard (by rfl) ?_; dsimp only)); at_builtin; refine Kd.R_append (Kd.int .i64) (w0 := w) w.heap.size rfl (.tmp 47) (.tmp 49) 46 3 (.int .i64 0) 8 rfl underlying46 info3 rfl (by decide) (by omega) u8 x8_1 (rd t54 x43_1) [.int .i64 (rd t54 x43_1)] (fun k_ => some k_ ≠ (.slice (some ad39) t54.length co11 : Value).ownBlock) (fun _ => False) rfl rfl ?aP (fun _ hk => hk.elim) ?aF ?aO ?aB ?aS ?aL ?_; (case aP => exact rfl); (case aB => exact bl_); (case aF => exact (fun k_ hk => Kd.fresh' (Kd.R_lt (ra_ HO_41)) k_ hk)); (case aO => exact (ra_ HO_8)); (case aS => exact (below_size bl_)); (case aL => have := LMc20.out; omega); intro v617 w22 ho hb hg hat; rw [← Ny68.out] at ho; have n0_ := Aside0.mk (Kd.R_after (ok := (fun _ => True)) (by refine cr_ ?_; exact Kd.R_mono HO_41.out (fun _ hk => ⟨trivial, hk⟩)) hg hat); have n1_ := Aside0.mk (blk_grown (bk_ BK19) hg (Kd.R_ne HO_8.out BK19.out (by decide))); have n2_ := Aside0.mk (hb); have n3_ := Aside0.mk (ho); clear HO_41; clear BK19; clear HB; clear HO_8; have HO_41 := n0_; have BK19 := n1_; have HB := n2_; have HO94 := n3_; clear n0_ n1_ n2_ n3_; clear ho hb hg hat))
     go_roundg k1
     case measure => have := HK1.out; omega
     case rel => exact ⟨(y68), (x9_1), (wrap64 (x43_1 + 1)), (x61_1), sp_, sp_, H', ⟨by have := HK1.out; omega⟩, ⟨ra_ HO94⟩, ⟨by refine cr_ ?_; exact Kd.R_mono HO_41.out (fun _ hk => hk.2)⟩, ⟨ch_ BK19.out⟩, ⟨bl_⟩⟩
    ·rw [if_neg c20] at H
     exact absurd H (by simp)
   rw [if_neg c12] at H
   replace c12 := df_ c12
   have HC23 := Aside0.mk H
   clear H
   go_upto_if 60 with (fail)
   go_cut [5, 8] (fun v5 v8 wc => ∃ (kq : Nat) (x5_22 : Int) (x8_22 : List Int) (x61_22 : ByteArray), v5 = .int .i64 x5_22 ∧ Aside0 (impl_Parse.j3 kq l0 t60 x5_22 x8_22 = some (r1, r2, r3)) ∧ Aside0 (kq ≤ k1) ∧ Aside0 (Kd.R (Kd.int .i64) 3 wc w.heap.size (fun _ => True) v8 x8_22) ∧ Aside0 (wc.heap[gb19]? = some (.cells #[.string x61_22, (.slice none 0 0)] 32 (0, 0))) ∧ Aside0 (Below w.heap.size w wc))
   case first =>
    have H := HC23.out
    clear HC23
    by_cases c24 : x9_1 = true
    rotate_left
    ·replace c24 := gf_ c24
     subst c24
     replace H := in_ H
     have H' := Aside0.mk H
     clear H
     go_wp2
     go_meet
     case rel => exact ⟨_, (t67), (x8_1), (x61_1), sp_, H', ⟨by have := HK1.out; first | omega | exact Nat.le_refl _⟩, ⟨by refine cr_ ?_; exact Kd.R_mono HO_8.out (fun _ hk => trivial)⟩, ⟨ch_ BK19.out⟩, ⟨bl_⟩⟩
    subst c24
    replace H := ip_ H
    obtain ⟨⟨t44, t82, t86⟩, A25, H⟩ := ob_ H
    (try dsimp only at H)
    have HC26 := Aside0.mk H
    clear H
    go_upto_region 20 with (first | ((with_reducible refine gc_ 97 64 func97 #[.slice A0 l0.length c0, .int .i64 t67] ?_); (with_reducible refine (impl_GetBits.calls k1 _ _ l0 t67 t44 t82 t86 _ (cb_ HR0 HB) HC0.out A25.out).mono ?_); rintro e w27 ⟨v87, rfl, ho0, hb⟩; refine ⟨_, rfl, ?_⟩; have HO84 := Aside0.mk (Kd.R_lower (Kd.R_new' (Kd.R_new' ho0 (Kd.R_lt (ra_ HO_8))) (Kd.R_lt (ra_ HO_41))) (below_size bl_)); replace HO_8 := Aside0.mk (Kd.R_elder' (ra_ HO_8) (Kd.R_base ho0) hb); replace HO_41 := Aside0.mk (Kd.R_elder' (ra_ HO_41) (Kd.R_base ho0) hb); replace BK19 := kb_ BK19 hb; replace HB := hs_ hb; clear hb; (try clear ho0)))
    (try simp only [Act.put, List.setIfInBounds_toArray, List.set_cons_zero, List.set_cons_succ])
    go_cut [74] (fun v74 wc => ∃ (kq : Nat) (x74_25 : Bool), v74 = .bool x74_25 ∧ Aside0 (impl_Parse.j1 kq l0 t60 t82 x8_1 t44 x74_25 = some (r1, r2, r3)) ∧ Aside0 (kq ≤ k1) ∧ Aside0 (Kd.R (Kd.int .i64) 3 wc w.heap.size (fun k_ => some k_ ≠ (v87 : Value).ownBlock) u8 x8_1) ∧ Aside0 (Kd.R (Kd.int .i64) 3 wc w.heap.size (fun k_ => some k_ ≠ (u8 : Value).ownBlock) v87 t44) ∧ Aside0 (wc.heap[gb19]? = some (.cells #[.string x61_1, (.slice none 0 0)] 32 (0, 0))) ∧ Aside0 (Below w.heap.size w wc))
    case first =>
     have H := HC26.out
     clear HC26
     by_cases c28 : t86 = true
     ·subst c28
      replace H := ip_ H
      have H' := Aside0.mk H
      clear H
      obtain ⟨Ao29, co29, eo29⟩ := Kd.R_slice HO84.out
      subst eo29
      go_wp2
      go_meet
      case rel => exact ⟨_, (((t44.length : Int) == 0)), sp_, H', ⟨by have := HK1.out; first | omega | exact Nat.le_refl _⟩, ⟨by refine cr_ ?_; exact Kd.R_mono HO_8.out (fun _ hk => hk.2)⟩, ⟨by refine cr_ ?_; exact Kd.R_mono HO84.out (fun _ hk => hk.1.2)⟩, ⟨ch_ BK19.out⟩, ⟨bl_⟩⟩
     ·replace c28 := gf_ c28
      subst c28
      replace H := in_ H
      have H' := Aside0.mk H
      clear H
      go_wp2
      go_meet
      case rel => exact ⟨_, (true), sp_, H', ⟨by have := HK1.out; first | omega | exact Nat.le_refl _⟩, ⟨by refine cr_ ?_; exact Kd.R_mono HO_8.out (fun _ hk => hk.2)⟩, ⟨by refine cr_ ?_; exact Kd.R_mono HO84.out (fun _ hk => hk.1.2)⟩, ⟨ch_ BK19.out⟩, ⟨bl_⟩⟩
    case rest =>
     clear HC26
     obtain ⟨kq, x74_25, rfl, HA, HJ25, HO_8, HO_12, BK19, HB⟩ := hcut
     cases kq with
     | zero => exact absurd HA.out (by simp [impl_Parse.j1])
     | succ kj25 =>
      have H := HA.out
      clear HA
      simp only [impl_Parse.j1] at H
      by_cases c30 : x74_25 = true
      ·subst c30
       replace H := ip_ H
       simp only [Option.some.injEq, Prod.mk.injEq] at H
       obtain ⟨rfl, rfl, rfl⟩ := H
       refine by2_ BK19 ?_; intros
       go_wp2
       refine bodyPost_ret (results_ct rfl _ _ gb19 32 #[.string ⟨#[]⟩, .slice none 0 0] (0, 0) _ rfl (by refine ch_ ?_; apply bq2_1_0_; exact ch_ BK19.out) underlying32 rfl (by kernel_rfl)) rfl ?_
       exact ⟨_, sq_, by first | exact Kd.R_nil _ _ _ _ _ | exact Kd.N_nil _ _ _ _ _ | exact Kd.V_nil _ _ _ _ _ | exact Kd.Q_nil _ _ _ _ _ | exact Kd.S_nil _ _ _ _ _, bl_⟩
      replace c30 := gf_ c30
      subst c30
      replace H := in_ H
      have H' := Aside0.mk H
      clear H
      obtain ⟨Ao32, co32, eo32⟩ := Kd.R_slice HO_12.out
      subst eo32
      go_wp2
      go_loopg [8, 78] kj25 (fun kq v8 v78 w' => ∃ (x8_3 : List Int) (x78_3 : Int) (x61_3 : ByteArray), v78 = .int .i64 x78_3 ∧ Aside0 (impl_Parse.l1 kq l0 t60 t82 x8_3 t44 (t44.length : Int) x78_3 = some (r1, r2, r3)) ∧ Aside0 (kq ≤ kj25) ∧ Aside0 (Kd.R (Kd.int .i64) 3 w' w.heap.size (fun k_ => some k_ ≠ ((.slice Ao32 t44.length co32) : Value).ownBlock) v8 x8_3) ∧ Aside0 (Kd.R (Kd.int .i64) 3 w' w.heap.size (fun k_ => some k_ ≠ (v8 : Value).ownBlock) (.slice Ao32 t44.length co32) t44) ∧ Aside0 (w'.heap[gb19]? = some (.cells #[.string x61_3, (.slice none 0 0)] 32 (0, 0))) ∧ Aside0 (Below w.heap.size w w'))
      case atStart => exact ⟨(x8_1), (0), (x61_1), sp_, H', ⟨Nat.le_refl _⟩, ⟨ra_ HO_8⟩, ⟨ra_ HO_12⟩, ⟨ch_ BK19.out⟩, ⟨bl_⟩⟩
      case round =>
       clear H'
       obtain ⟨x8_3, x78_3, x61_3, rfl, HA, HK3, HO_8, HO_76, BK19, HB⟩ := hrel
       cases gk with
       | zero => exact absurd HA.out (by simp [impl_Parse.l1])
       | succ k3 =>
        have H := HA.out
        clear HA
        simp only [impl_Parse.l1] at H
        by_cases c33 : x78_3 < (t44.length : Int)
        rotate_left
        ·rw [if_neg c33] at H
         replace c33 := df_ c33
         have H' := Aside0.mk H
         clear H
         go_wp2
         go_meet
         case rel => exact ⟨_, (t82), (x8_3), (x61_3), sp_, H', ⟨by have := HK1.out; have := HJ25.out; have := HK3.out; first | omega | exact Nat.le_refl _⟩, ⟨by refine cr_ ?_; exact Kd.R_mono HO_8.out (fun _ hk => trivial)⟩, ⟨ch_ BK19.out⟩, ⟨bl_⟩⟩
        rw [if_pos c33] at H
        replace c33 := dt_ c33
        obtain ⟨c34, H⟩ := og_ H
        replace c34 := dt_ c34
        obtain ⟨c35, H⟩ := og_ H
        replace c35 := dt_ c35
        obtain ⟨t81, A36, H⟩ := ob_ H
        by_cases c37 : t81 = 0
        ·rw [if_pos c37] at H
         have := et_ c37
         replace c37 := nf_ c37
         simp only [Option.some.injEq, Prod.mk.injEq] at H
         obtain ⟨rfl, rfl, rfl⟩ := H
         have p55 : 0 ≤ (x78_3 : Int) := od_
         have q55 : x78_3 < (t44.length : Int) := od_
         obtain ⟨ad55, e55, hx55_0⟩ := Kd.at_int (Kd.R_reads' HO_76.out).2.2 x78_3 p55 q55
         cases e55
         replace p55 := eq_true p55
         replace q55 := eq_true q55
         go_wp2_with (first | ((with_reducible refine gb_ 98 84 func98 #[.int .i64 (wrap64 ((rd t44 x78_3) + 64))] (impl_FieldKind.calls k3 (wrap64 ((rd t44 x78_3) + 64)) t81 _ A36.out) fun w38 hb => ?_); replace HO_8 := Aside0.mk (Kd.R_below (ra_ HO_8) hb); replace HO_76 := Aside0.mk (Kd.R_below (ra_ HO_76) hb); replace BK19 := kb_ BK19 hb; replace HB := hs_ hb; clear hb; refine by2_ BK19 ?_; intros))
         refine bodyPost_ret (results_ct rfl _ _ gb19 32 #[.string ⟨#[]⟩, .slice none 0 0] (0, 0) _ rfl (by refine ch_ ?_; apply bq2_1_0_; exact ch_ BK19.out) underlying32 rfl (by kernel_rfl)) rfl ?_
         exact ⟨_, sq_, by first | exact Kd.R_nil _ _ _ _ _ | exact Kd.N_nil _ _ _ _ _ | exact Kd.V_nil _ _ _ _ _ | exact Kd.Q_nil _ _ _ _ _ | exact Kd.S_nil _ _ _ _ _, bl_⟩
        rw [if_neg c37] at H
        have c37b0 := ef_ c37
        have c37b1 := nt_ c37
        by_cases c40 : x8_3.length < 17592186044416
        ·rw [if_pos c40] at H
         have LMc40 := Aside0.mk c40
         clear c40
         obtain ⟨y72, hy72⟩ : ∃ y_ : List Int, y_ = (x8_3 ++ [wrap64 ((rd t44 x78_3) + 64)]) := ⟨_, rfl⟩
         replace H : (impl_Parse.l1 k3 l0 t60 t82 y72 t44 (t44.length : Int) (wrap64 (x78_3 + 1))) = some (r1, r2, r3) := hh_ hy72 H
         have Ny72 := Aside0.mk hy72
         clear hy72
         have H' := Aside0.mk H
         clear H
         have p55 : 0 ≤ (x78_3 : Int) := od_
         have q55 : x78_3 < (t44.length : Int) := od_
         obtain ⟨ad55, e55, hx55_0⟩ := Kd.at_int (Kd.R_reads' HO_76.out).2.2 x78_3 p55 q55
         cases e55
         replace p55 := eq_true p55
         replace q55 := eq_true q55
         go_wp2_with (first | ((with_reducible refine gb_ 98 84 func98 #[.int .i64 (wrap64 ((rd t44 x78_3) + 64))] (impl_FieldKind.calls k3 (wrap64 ((rd t44 x78_3) + 64)) t81 _ A36.out) fun w41 hb => ?_); replace HO_8 := Aside0.mk (Kd.R_below (ra_ HO_8) hb); replace HO_76 := Aside0.mk (Kd.R_below (ra_ HO_76) hb); replace BK19 := kb_ BK19 hb; replace HB := hs_ hb; clear hb) | ((with_reducible refine gate_builtin (b := .append) (xs := #[.tmp 87, .tmp 90]) rfl ?_); (try (refine gate_guard (by rfl) ?_; dsimp only)); at_builtin; refine Kd.R_append (Kd.int .i64) (w0 := w) w.heap.size rfl (.tmp 87) (.tmp 90) 46 3 (.int .i64 0) 8 rfl underlying46 info3 rfl (by decide) (by omega) u8 x8_3 (wrap64 ((rd t44 x78_3) + 64)) [.int .i64 (wrap64 ((rd t44 x78_3) + 64))] (fun k_ => some k_ ≠ (.slice (some ad55) t44.length co32 : Value).ownBlock) (fun _ => False) rfl rfl ?aP (fun _ hk => hk.elim) ?aF ?aO ?aB ?aS ?aL ?_; (case aP => exact rfl); (case aB => exact bl_); (case aF => exact (fun k_ hk => Kd.fresh' (Kd.R_lt (ra_ HO_76)) k_ hk)); (case aO => exact (ra_ HO_8)); (case aS => exact (below_size bl_)); (case aL => have := LMc40.out; omega); intro v627 w42 ho hb hg hat; rw [← Ny72.out] at ho; have n0_ := Aside0.mk (Kd.R_after (ok := (fun _ => True)) (by refine cr_ ?_; exact Kd.R_mono HO_76.out (fun _ hk => ⟨trivial, hk⟩)) hg hat); have n1_ := Aside0.mk (blk_grown (bk_ BK19) hg (Kd.R_ne HO_8.out BK19.out (by decide))); have n2_ := Aside0.mk (hb); have n3_ := Aside0.mk (ho); clear HO_76; clear BK19; clear HB; clear HO_8; have HO_76 := n0_; have BK19 := n1_; have HB := n2_; have HO98 := n3_; clear n0_ n1_ n2_ n3_; clear ho hb hg hat))
         go_roundg k3
         case measure => have := HK1.out; have := HJ25.out; have := HK3.out; omega
         case rel => exact ⟨(y72), (wrap64 (x78_3 + 1)), (x61_3), sp_, H', ⟨by have := HK1.out; have := HJ25.out; have := HK3.out; omega⟩, ⟨ra_ HO98⟩, ⟨by refine cr_ ?_; exact Kd.R_mono HO_76.out (fun _ hk => hk.2)⟩, ⟨ch_ BK19.out⟩, ⟨bl_⟩⟩
        ·rw [if_neg c40] at H
         exact absurd H (by simp)
   case rest =>
    clear HC23
    obtain ⟨kq, x5_22, x8_22, x61_22, rfl, HA, HJ22, HO_8, BK19, HB⟩ := hcut
    cases kq with
    | zero => exact absurd HA.out (by simp [impl_Parse.j3])
    | succ kj22 =>
     have H := HA.out
     clear HA
     simp only [impl_Parse.j3] at H
     have H' := Aside0.mk H
     clear H
     go_wp2_with (first | ((with_reducible refine gate_dst (N := 15) rfl ?_); (try (refine gate_guard (by rfl) ?_; dsimp only)); refine be_ (N := 15) (cs := #[.string ⟨#[]⟩, .slice none 0 0]) (t := 32) ?_; intro gb31 hg w43 hbox hb; replace HO_8 := Aside0.mk (Kd.R_below (ra_ HO_8) hb); have BK31 := Aside0.mk (hbox); have GW31 := gw_ (w := w) hg; replace HB := hs_ hb; have ⟨NB19_31, NB31_19⟩ := nb_ hg BK19; replace BK19 := kb_ BK19 hb; clear hb hbox hg; have := NB31_19.out; have := NB19_31.out; refine by2_ BK31 ?_; intros; obtain ⟨Ao46, co46, eo46⟩ := Kd.R_slice HO_8.out; subst eo46))
     go_loopg [5, 97] kj22 (fun kq v5 v97 w' => ∃ (x5_3 : Int) (x97_3 : Int) (x61_3 : ByteArray) (x45_3 : List (S91)) (u45 : Value), v5 = .int .i64 x5_3 ∧ v97 = .int .i64 x97_3 ∧ Aside0 (impl_Parse.l2 kq l0 x5_3 x8_22 (x8_22.length : Int) x97_3 t60 x45_3 = some (r1, r2, r3)) ∧ Aside0 (kq ≤ kj22) ∧ Aside0 (Kd.R (Kd.int .i64) 3 w' w.heap.size (fun _ => True) (.slice Ao46 x8_22.length co46) x8_22) ∧ Aside0 (Kd.R k91 91 w' w.heap.size (fun _ => True) u45 x45_3) ∧ Aside0 (w'.heap[gb19]? = some (.cells #[.string x61_3, (.slice none 0 0)] 32 (0, 0))) ∧ Aside0 (w'.heap[gb31]? = some (.cells #[.string t60, u45] 32 (0, 0))) ∧ Aside0 (Below w.heap.size w w'))
     case atStart => exact ⟨(x5_22), (0), (x61_22), (([] : List (S91))), (.slice none 0 0), sp_, sp_, H', ⟨Nat.le_refl _⟩, ⟨by refine cr_ ?_; exact Kd.R_mono (rf_ gb31 1 (rf_ gb31 0 (Kd.R_types HO_8.out BK31.out (by decide)) (.string t60)) (.slice none 0 0)) (fun _ hk => trivial)⟩, ⟨by first | exact Kd.R_nil _ _ _ _ _ | exact Kd.N_nil _ _ _ _ _ | exact Kd.V_nil _ _ _ _ _ | exact Kd.Q_nil _ _ _ _ _ | exact Kd.S_nil _ _ _ _ _⟩, ⟨by refine ch_ ?_; refine bf_ NB19_31 ?_; exact bf_ NB19_31 BK19.out⟩, ⟨by refine ch_ ?_; apply bq2_1_0_; exact ch_ BK31.out⟩, ⟨bl_⟩⟩
     case round =>
      clear H'
      obtain ⟨x5_3, x97_3, x61_3, x45_3, u45, rfl, rfl, HA, HK3, HO_95, HO_45, BK19, BK31, HB⟩ := hrel
      cases gk with
      | zero => exact absurd HA.out (by simp [impl_Parse.l2])
      | succ k3 =>
       have H := HA.out
       clear HA
       simp only [impl_Parse.l2] at H
       by_cases c47 : x97_3 < (x8_22.length : Int)
       rotate_left
       ·rw [if_neg c47] at H
        replace c47 := df_ c47
        by_cases c62 : x5_3 = (l0.length : Int)
        ·rw [if_pos c62] at H
         have := et_ c62
         replace c62 := nf_ c62
         simp only [Option.some.injEq, Prod.mk.injEq] at H
         obtain ⟨rfl, rfl, rfl⟩ := H
         have := NB31_19.out
         have := NB19_31.out
         refine by2_ BK31 ?_; intros
         refine by2_ BK19 ?_; intros
         obtain ⟨Ao66, co66, eo66⟩ := Kd.R_slice HO_45.out
         subst eo66
         go_wp2
         refine bodyPost_ret (results_ct rfl _ _ gb19 32 #[.string t60, .slice Ao66 x45_3.length co66] (0, 0) _ rfl (by refine ch_ ?_; apply bq2_1_0_; exact ch_ BK19.out) underlying32 rfl (by kernel_rfl)) rfl ?_
         exact ⟨_, sq_, by refine cr_ ?_; exact Kd.R_mono (rf_ gb19 1 (rf_ gb19 0 (Kd.R_types HO_45.out BK19.out (by decide)) (.string t60)) (.slice Ao66 x45_3.length co66)) (fun _ hk => trivial), bl_⟩
        ·rw [if_neg c62] at H
         have c62b0 := ef_ c62
         have c62b1 := nt_ c62
         simp only [Option.some.injEq, Prod.mk.injEq] at H
         obtain ⟨rfl, rfl, rfl⟩ := H
         have := NB19_31.out
         have := NB31_19.out
         refine by2_ BK19 ?_; intros
         go_wp2
         refine bodyPost_ret (results_ct rfl _ _ gb19 32 #[.string ⟨#[]⟩, .slice none 0 0] (0, 0) _ rfl (by refine ch_ ?_; apply bq2_1_0_; exact ch_ BK19.out) underlying32 rfl (by kernel_rfl)) rfl ?_
         exact ⟨_, sq_, by first | exact Kd.R_nil _ _ _ _ _ | exact Kd.N_nil _ _ _ _ _ | exact Kd.V_nil _ _ _ _ _ | exact Kd.Q_nil _ _ _ _ _ | exact Kd.S_nil _ _ _ _ _, bl_⟩
       rw [if_pos c47] at H
       replace c47 := dt_ c47
       obtain ⟨c48, H⟩ := og_ H
       replace c48 := dt_ c48
       obtain ⟨c49, H⟩ := og_ H
       replace c49 := dt_ c49
       obtain ⟨⟨t64, t83, t99⟩, A50, H⟩ := ob_ H
       (try dsimp only at H)
       by_cases c51 : t99 = true
       ·subst c51
        replace H := ip_ H
        by_cases c52 : x45_3.length < 5864062014805
        ·rw [if_pos c52] at H
         have LMc52 := Aside0.mk c52
         clear c52
         obtain ⟨y63, hy63⟩ : ∃ y_ : List (S91), y_ = (x45_3 ++ [(⟨rd x8_22 x97_3, t64⟩ : S91)]) := ⟨_, rfl⟩
         replace H : (impl_Parse.l2 k3 l0 t83 x8_22 (x8_22.length : Int) (wrap64 (x97_3 + 1)) t60 y63) = some (r1, r2, r3) := hh_ hy63 H
         have Ny63 := Aside0.mk hy63
         clear hy63
         have H' := Aside0.mk H
         clear H
         have p58 : 0 ≤ (x97_3 : Int) := od_
         have q58 : x97_3 < (x8_22.length : Int) := od_
         obtain ⟨ad58, e58, hx58_0⟩ := Kd.at_int (Kd.R_reads' HO_95.out).2.2 x97_3 p58 q58
         cases e58
         replace p58 := eq_true p58
         replace q58 := eq_true q58
         go_wp2_with (first | ((with_reducible refine gb_ 99 105 func99 #[.slice A0 l0.length c0, .int .i64 x5_3, .int .i64 (rd x8_22 x97_3)] (impl_GetField.calls k3 _ _ l0 x5_3 (rd x8_22 x97_3) t64 t83 true _ (cb_ HR0 HB) HC0.out A50.out) fun w53 hb => ?_); replace HO_95 := Aside0.mk (Kd.R_below (ra_ HO_95) hb); replace HO_45 := Aside0.mk (Kd.R_below (ra_ HO_45) hb); replace BK19 := kb_ BK19 hb; replace BK31 := kb_ BK31 hb; replace HB := hs_ hb; clear hb; have := NB31_19.out; have := NB19_31.out; refine by2_ BK31 ?_; intros) | ((with_reducible refine gate_builtin (b := .append) (xs := #[.tmp 113, .tmp 117]) rfl ?_); (try (refine gate_guard (by rfl) ?_; dsimp only)); at_builtin; refine Kd.R_append k91 (w0 := w) w.heap.size rfl (.tmp 113) (.tmp 117) 30 91 (.agg #[(.int .i64 0), (.string ⟨#[]⟩)]) 24 rfl underlying30 info91 rfl (by decide) (by omega) u45 x45_3 (⟨rd x8_22 x97_3, t64⟩ : S91) [.int .i64 (rd x8_22 x97_3), .string t64] (fun _ => True) (fun _ => False) rfl rfl ?aP (fun _ hk => hk.elim) ?aF ?aO ?aB ?aS ?aL ?_; (case aP => exact k91_mkM _ _ _ (⟨rd x8_22 x97_3, t64⟩ : S91)); (case aB => exact bl_); (case aF => exact (fun _ _ => trivial)); (case aO => exact (ra_ HO_45)); (case aS => exact (below_size bl_)); (case aL => have := LMc52.out; omega); intro v635 w56 ho hb hg hat; rw [← Ny63.out] at ho; have n0_ := Aside0.mk (Kd.R_over' (ra_ HO_95) (Kd.R_typed (ra_ HO_45)) (by decide) hg); have n1_ := Aside0.mk (blk_grown (bk_ BK19) hg (Kd.R_ne HO_45.out BK19.out (by decide))); have n2_ := Aside0.mk (blk_grown (bk_ BK31) hg (Kd.R_ne HO_45.out BK31.out (by decide))); have n3_ := Aside0.mk (hb); have n4_ := Aside0.mk (ho); clear HO_95; clear BK19; clear BK31; clear HB; clear HO_45; have HO_95 := n0_; have BK19 := n1_; have BK31 := n2_; have HB := n3_; have HO88 := n4_; clear n0_ n1_ n2_ n3_ n4_; clear ho hb hg hat; obtain ⟨Ao57, co57, eo57⟩ := Kd.R_slice HO88.out; subst eo57; refine by2_ BK31 ?_; intros))
         go_roundg k3
         case measure => have := HK1.out; have := HJ22.out; have := HK3.out; omega
         case rel => exact ⟨(t83), (wrap64 (x97_3 + 1)), (x61_3), (y63), (.slice Ao57 y63.length co57), sp_, sp_, H', ⟨by have := HK1.out; have := HJ22.out; have := HK3.out; omega⟩, ⟨by refine cr_ ?_; exact Kd.R_mono (rf_ gb31 1 (Kd.R_types HO_95.out BK31.out (by decide)) (.slice Ao57 y63.length co57)) (fun _ hk => trivial)⟩, ⟨by refine cr_ ?_; exact Kd.R_mono (rf_ gb31 1 (Kd.R_types HO88.out BK31.out (by decide)) (.slice Ao57 y63.length co57)) (fun _ hk => trivial)⟩, bg_ NB19_31 BK19, ⟨by refine ch_ ?_; apply bq2_1_; exact ch_ BK31.out⟩, ⟨bl_⟩⟩
        ·rw [if_neg c52] at H
         exact absurd H (by simp)
       ·replace c51 := gf_ c51
        subst c51
        replace H := in_ H
        simp only [Option.some.injEq, Prod.mk.injEq] at H
        obtain ⟨rfl, rfl, rfl⟩ := H
        have p58 : 0 ≤ (x97_3 : Int) := od_
        have q58 : x97_3 < (x8_22.length : Int) := od_
        obtain ⟨ad58, e58, hx58_0⟩ := Kd.at_int (Kd.R_reads' HO_95.out).2.2 x97_3 p58 q58
        cases e58
        replace p58 := eq_true p58
        replace q58 := eq_true q58
        go_wp2_with (first | ((with_reducible refine gb_ 99 105 func99 #[.slice A0 l0.length c0, .int .i64 x5_3, .int .i64 (rd x8_22 x97_3)] (impl_GetField.calls k3 _ _ l0 x5_3 (rd x8_22 x97_3) t64 t83 false _ (cb_ HR0 HB) HC0.out A50.out) fun w59 hb => ?_); replace HO_95 := Aside0.mk (Kd.R_below (ra_ HO_95) hb); replace HO_45 := Aside0.mk (Kd.R_below (ra_ HO_45) hb); replace BK19 := kb_ BK19 hb; replace BK31 := kb_ BK31 hb; replace HB := hs_ hb; clear hb; have := NB19_31.out; have := NB31_19.out; refine by2_ BK19 ?_; intros))
        refine bodyPost_ret (results_ct rfl _ _ gb19 32 #[.string ⟨#[]⟩, .slice none 0 0] (0, 0) _ rfl (by refine ch_ ?_; apply bq2_1_0_; exact ch_ BK19.out) underlying32 rfl (by kernel_rfl)) rfl ?_
        exact ⟨_, sq_, by first | exact Kd.R_nil _ _ _ _ _ | exact Kd.N_nil _ _ _ _ _ | exact Kd.V_nil _ _ _ _ _ | exact Kd.Q_nil _ _ _ _ _ | exact Kd.S_nil _ _ _ _ _, bl_⟩
/-! ### slices_Sort_string_string: function 59 -/
abbrev toL (xs : List ByteArray) : List (List UInt8) := xs.map fun s => s.data.toList
abbrev ofL (ys : List (List UInt8)) : List ByteArray := ys.map fun l => (⟨l.toArray⟩ : ByteArray)
theorem sos_row {e base g n cap : Nat} {ok : Nat → Prop} : ∀ (zs : List ByteArray) (i : Nat) (xs : List ByteArray) (W : World), i + zs.length = n →
  Kd.R Kd.string e W base ok (.slice (some ⟨g, 0, none⟩) n cap) xs → Kd.R Kd.string e (W.setCells g i (zs.map Value.string)) base ok (.slice (some ⟨g, 0, none⟩) n cap) (xs.take i ++ zs) ∧ W.grownBy (W.setCells g i (zs.map Value.string)) (some g)
 | [], i, xs, W, hi, h => by
  have hn := (Kd.R_reads' h).1
  simp only [List.length_nil] at hi
  rw [List.take_of_length_le (by omega), List.append_nil]
  exact ⟨h, World.grownBy.refl W _⟩
 | z :: zs, i, xs, W, hi, h => by
  have hn := (Kd.R_reads' h).1
  simp only [List.length_cons] at hi
  subst hn
  obtain ⟨h1, g1⟩ := Kd.R_put (enc := Value.string) (h1 := fun _ => rfl) h (i : Int) z
  rw [Int.toNat_natCast] at h1 g1
  obtain ⟨h2, g2⟩ := sos_row zs (i + 1) (xs.set i z) _ (by omega) h1
  rw [List.take_succ_eq_append_getElem (by rw [List.length_set]; omega), List.take_set_of_le (Nat.le_refl _), List.getElem_set_self, List.append_assoc, List.singleton_append] at h2
  exact ⟨h2, g1.trans g2⟩
theorem sos_holds {W : World} {e base g cap : Nat} {ok : Nat → Prop} {xs : List ByteArray} (h : Kd.R Kd.string e W base ok (.slice (some ⟨g, 0, none⟩) xs.length cap) xs) : Sort.Holds encStr W g 0 (toL xs).toArray := by
 intro j hj
 have hj' : j < xs.length := by simpa using hj
 obtain ⟨h1, h2⟩ := Kd.R_cell (enc := Value.string) (h1 := fun _ => rfl) ByteArray.empty h (j : Int) (by omega) (by omega)
 rw [Int.toNat_natCast] at h1 h2
 rw [Nat.zero_add]
 refine ⟨h1.trans ?_, h2⟩
 congr 1
 unfold rdOf
 rw [Int.toNat_natCast, List.getD_eq_getElem?_getD, List.getElem?_eq_getElem hj', getElem!_pos (toL xs).toArray j hj]
 simp [encStr]
theorem sos_grow {B : Nat} {w0 W : World} (os : Array Obj) (h : Below B w0 W) (hB : B ≤ W.heap.size) : Below B w0 (Sort.grow W os) :=
 h.trans ⟨rfl, rfl, rfl, by simp [Sort.grow], fun k hk => Sort.heap_grow_old W os (Nat.lt_of_lt_of_le hk hB)⟩
theorem sos_enc (ys : List (List UInt8)) : ys.map encStr = (ofL ys).map Value.string := by rw [ofL, List.map_map]; rfl
def slices_Sort_string_string.f (l0 : List ByteArray) : Option (List ByteArray) := if l0.length < 4611686018427387904 then some (ofL ((toL l0).mergeSort fun x y => decide (x ≤ y))) else none
theorem slices_Sort_string_string.calls (P0_ : Nat → Prop) (u9000_ : Value) (l0 : List ByteArray) (r : List ByteArray) (w0 w : World) (hB : Below w0.heap.size w0 w) (ho0 : Kd.R Kd.string 9 w w0.heap.size P0_ u9000_ l0) (h : slices_Sort_string_string.f l0 = some r) :
  Calls Tryz.prog 59 #[u9000_] w fun e w' => e = .returned (.tuple #[]) ∧ Kd.R Kd.string 9 w' w0.heap.size (fun k_ => (P0_ k_ ∨ w.heap.size ≤ k_)) u9000_ r ∧ Below w0.heap.size w0 w' ∧ Kept w w' (fun k_ => P0_ k_) := by
 unfold slices_Sort_string_string.f at h
 by_cases hl : l0.length < 4611686018427387904
 rotate_left
 ·rw [if_neg hl] at h; cases h
 rw [if_pos hl] at h
 obtain rfl := Option.some.inj h
 have hz : (toL l0).length = l0.length := List.length_map ..
 by_cases hp : 0 < l0.length
 ·obtain ⟨g, cap, rfl, hb, hlt, _⟩ := Kd.R_form ho0 hp
  refine Calls.mono (Go.calls_of_every_depth fun D => by have q_ := Go.Proofs.AnyS.slices_Sort_string_in Go.Proofs.YtohfefkjcnbejaaGreatDoor.Shelf.laysSortS D g 0 cap (toL l0) w (sos_holds ho0) hlt (by rw [hz]; exact hl); rw [hz] at q_; exact q_ : Calls Tryz.prog 59 #[.slice (some ⟨g, 0, none⟩) l0.length cap] w _) ?_
  rintro e w' ⟨rfl, q, os, rfl⟩
  rw [Lib.sorted_world encStr w g 0 q _ _ os (sos_holds ho0) (by simp), sos_enc]
  obtain ⟨h1, g1⟩ := sos_row (ofL ((toL l0).mergeSort fun x y => decide (x ≤ y))) 0 l0 (w.drewN q) (by simp) (Kd.R_drewN ho0 q)
  rw [List.take_zero, List.nil_append] at h1
  have gb : Below ((w.drewN q).setCells g 0 ((ofL ((toL l0).mergeSort fun x y => decide (x ≤ y))).map Value.string)).heap.size _ (Sort.grow _ os) := sos_grow os (Below.refl _ _) (Nat.le_refl _)
  have hbq : Below w0.heap.size w0 (w.drewN q) := pw_below_drewN hB q
  have hb2 := hbq.grown g1 hbq.size (fun k hk => by cases hk; exact hb)
  refine ⟨rfl, Kd.R_mono (Kd.R_below h1 gb) (fun _ hk => .inl hk), below_then hb2 hb2.size gb, Kept.below (Kept.of_grown g1 (Kept.drewN (Kept.refl w _) q) (fun k hk => by cases hk; exact .inl (ho0.1 g (by simp [Value.ownBlock])))) gb⟩
 ·have hnil : l0 = [] := List.eq_nil_of_length_eq_zero (by omega)
  subst hnil
  obtain ⟨A0, c0, rfl, _, _⟩ := Kd.R_reads ho0
  refine Calls.mono (Go.Proofs.Any.slices_Sort_string_none Go.Proofs.YtohfefkjcnbejaaGreatDoor.Shelf.laysSortS A0 c0 w : Calls Tryz.prog 59 #[.slice A0 0 c0] w _) ?_
  rintro e w' ⟨rfl, rfl⟩
  exact ⟨rfl, Kd.R_mono (by simpa using ho0) (fun _ hk => .inl hk), hB, Kept.refl _ _⟩
/-! ### slices_Compact_string_string: function 60 -/
def slices_Compact_string_string.f (l0 : List ByteArray) : Option (List ByteArray) := some (ofL (Lib.compact (toL l0)))
theorem slices_Compact_string_string.calls (P0_ : Nat → Prop) (u9000_ : Value) (l0 : List ByteArray) (r : List ByteArray) (w0 w : World) (hB : Below w0.heap.size w0 w) (ho0 : Kd.R Kd.string 9 w w0.heap.size P0_ u9000_ l0) (h : slices_Compact_string_string.f l0 = some r) :
  Calls Tryz.prog 60 #[u9000_] w fun e w' => ∃ v0_ : Value, e = .returned (v0_) ∧ Kd.R Kd.string 9 w' w0.heap.size (fun k_ => (P0_ k_ ∨ w.heap.size ≤ k_)) v0_ r ∧ Below w0.heap.size w0 w' ∧ Kept w w' (fun k_ => P0_ k_) := by
 obtain rfl := Option.some.inj h
 have hz : (toL l0).length = l0.length := List.length_map ..
 have hcl : (Lib.compact (toL l0)).length ≤ l0.length := by
  unfold Lib.compact Lib.compactUpTo
  rw [List.length_map]
  exact Nat.le_trans (List.length_filter_le _ _) (by simp)
 by_cases hp : 0 < l0.length
 ·obtain ⟨g, cap, rfl, hb, hlt, _⟩ := Kd.R_form ho0 hp
  obtain ⟨_, hc, hC⟩ := Kd.R_reads' ho0
  refine Calls.mono (by have q_ := Go.Proofs.Any.slices_Compact_string Go.Proofs.YtohfefkjcnbejaaGreatDoor.Shelf.laysCompactS g 0 cap (toL l0) w (sos_holds ho0) (by rw [hz]; exact hC.2.1) (by rw [hz]; exact hc); rw [hz] at q_; exact q_ : Calls Tryz.prog 60 #[.slice (some ⟨g, 0, none⟩) l0.length cap] w _) ?_
  rintro e w' ⟨rfl, q, rfl⟩
  rw [Lib.putRow_eq_setCells encStr w g 0 _ _ q (sos_holds ho0) (by simp; omega), sos_enc]
  obtain ⟨h1, g1⟩ := sos_row (ofL (Lib.compact (toL l0) ++ List.replicate (l0.length - (Lib.compact (toL l0)).length) [])) 0 l0 (w.drewN q) (by simp; omega) (Kd.R_drewN ho0 q)
  rw [List.take_zero, List.nil_append] at h1
  have hbq : Below w0.heap.size w0 (w.drewN q) := pw_below_drewN hB q
  have hb2 := hbq.grown g1 hbq.size (fun k hk => by cases hk; exact hb)
  have h2 := Kd.R_take h1 (m := (Lib.compact (toL l0)).length) (by simp)
  rw [show (ofL (Lib.compact (toL l0) ++ List.replicate (l0.length - (Lib.compact (toL l0)).length) [])).take (Lib.compact (toL l0)).length = ofL (Lib.compact (toL l0)) from by rw [ofL, List.map_append]; exact List.take_left' (List.length_map ..)] at h2
  have e1 : (ofL (Lib.compact (toL l0))).length = (Lib.compact (toL l0)).length := List.length_map ..
  exact ⟨_, rfl, Kd.R_mono h2 (fun _ hk => .inl hk), hb2, Kept.of_grown g1 (Kept.drewN (Kept.refl w _) q) (fun k hk => by cases hk; exact .inl (ho0.1 g (by simp [Value.ownBlock])))⟩
 ·have hnil : l0 = [] := List.eq_nil_of_length_eq_zero (by omega)
  subst hnil
  obtain ⟨A0, c0, rfl, _, _⟩ := Kd.R_reads ho0
  refine Calls.mono (Go.Proofs.Any.slices_Compact_string_empty Go.Proofs.YtohfefkjcnbejaaGreatDoor.Shelf.laysCompactS A0 c0 w : Calls Tryz.prog 60 #[.slice A0 0 c0] w _) ?_
  rintro e w' ⟨rfl, rfl⟩
  exact ⟨_, rfl, Kd.R_mono ho0 (fun _ hk => .inl hk), hB, Kept.refl _ _⟩
/-! ### impl_Asks: function 16 -/
def impl_Asks.j0 : Nat → Bool → Int → ByteArray → ByteArray → ByteArray → ByteArray → ByteArray → Int → Int → Option (List ByteArray)
 | 0, _, _, _, _, _, _, _, _, _ => none
 | k + 1, x23, x54, x55, x56, x59, x60, x61, x62, x63 => if x23 = true then (some ([] : List ByteArray)) else ((some (([x55] : List ByteArray) : List ByteArray)).bind fun y11 => (if x54 = 6 then (if y11.length < 8796093022208 then ((slices_Sort_string_string.f (y11 ++ [x56])).bind fun t42 => ((slices_Compact_string_string.f t42).bind fun t43 => (some t43))) else (none)) else ((slices_Sort_string_string.f y11).bind fun t44 => ((slices_Compact_string_string.f t44).bind fun t45 => (some t45)))))
def impl_Asks.f (k : Nat) (l0 : List Int) : Option (List ByteArray) := (impl_Parse.f k l0).bind fun bt38 => ((impl_ReqOf.f k bt38.1 bt38.2.1).bind fun bt12 => (if bt38.2.2 = 0 then (impl_Asks.j0 k (bt12.2.2.2.2.2.2.2.2 != 0) bt12.1 bt12.2.1 bt12.2.2.1 bt12.2.2.2.1 bt12.2.2.2.2.1 bt12.2.2.2.2.2.1 bt12.2.2.2.2.2.2.1 bt12.2.2.2.2.2.2.2.1) else (impl_Asks.j0 k true bt12.1 bt12.2.1 bt12.2.2.1 bt12.2.2.2.1 bt12.2.2.2.2.1 bt12.2.2.2.2.2.1 bt12.2.2.2.2.2.2.1 bt12.2.2.2.2.2.2.2.1)))
theorem impl_Asks.calls (k : Nat) (A0 : Option Addr) (c0 : Nat) (l0 : List Int) (r : List ByteArray) (w : World) (hr0 : Kd.C (Kd.int .u8) w A0 l0.length l0) (hc0 : l0.length ≤ c0) (h : impl_Asks.f k l0 = some r) :
  Calls Tryz.prog 16 #[.slice A0 l0.length c0] w fun e w' => ∃ v0_ : Value, e = .returned (v0_) ∧ Kd.R Kd.string 9 w' w.heap.size (fun _ => True) v0_ r ∧ Below w.heap.size w w' := by
 have hu32 := underlying32
 have hu27 := underlying27
 have HR0 := Aside0.mk hr0
 have HC0 := Aside0.mk hc0
 clear hr0 hc0
 have HB := Aside0.mk (Below.refl w.heap.size w)
 have H := h
 unfold impl_Asks.f at H
 clear h
 obtain ⟨⟨t38, t40, t51⟩, A2, H⟩ := ob_ H
 (try dsimp only at H)
 obtain ⟨⟨t12, t30, t41, t46, t47, t48, t49, t50, t52⟩, A3, H⟩ := ob_ H
 (try dsimp only at H)
 have HC4 := Aside0.mk H
 clear H
 go_enter func16, ntmps16
 go_upto_region 3 with (first | ((with_reducible refine gc_ 58 10 func58 #[.slice A0 l0.length c0] ?_); (with_reducible refine (impl_Parse.calls k _ _ l0 t38 t40 t51 _ (ca_ (HR0.out)) HC0.out A2.out).mono ?_); rintro e w5 ⟨v64, rfl, ho0, hb⟩; refine ⟨_, rfl, ?_⟩; have HO39 := Aside0.mk (Kd.R_lower ho0 (below_size bl_)); replace HB := hs_ hb; clear hb; (try clear ho0)) | ((with_reducible refine gate_dst (N := 3) rfl ?_); refine be_ (N := 3) (cs := #[.string ⟨#[]⟩, .slice none 0 0]) (t := 32) ?_; intro gb7 hg w6 hbox hb; replace HO39 := Aside0.mk (Kd.R_below (ra_ HO39) hb); have BK7 := Aside0.mk (hbox); have GE7 := gw_ (w := w) hg; replace HB := hs_ hb; clear hb hbox hg; refine by2_ BK7 ?_; intros; obtain ⟨Ao8, co8, eo8⟩ := Kd.R_slice HO39.out; subst eo8) | ((with_reducible refine gc_ 11 15 func11 #[.agg #[.string t38, .slice Ao8 t40.length co8]] ?_); (with_reducible refine (impl_ReqOf.calls k t38 _ _ t40 t12 t30 t41 t46 t47 t48 t49 t50 t52 _ ?side1 ((Kd.R_reads' HO39.out).2.1) A3.out).mono ?_); (case side1 => refine (Kd.R_reads' (e := 91) (base := w.heap.size) (ok := fun k_ => True) (n := t40.length) (c := co8) ?_).2.2; exact (by refine cr_ ?_; exact (Kd.R_mono (rf_ gb7 1 (rf_ gb7 0 (Kd.R_types HO39.out BK7.out (by decide)) (.string t38)) (.slice Ao8 t40.length co8)) (fun _ h_ => h_.1)))); rintro e w9 ⟨rfl, hb⟩; refine ⟨_, rfl, ?_⟩; replace HO39 := Aside0.mk (Kd.R_below (by refine cr_ ?_; exact (Kd.R_mono (rf_ gb7 1 (rf_ gb7 0 (Kd.R_types HO39.out BK7.out (by decide)) (.string t38)) (.slice Ao8 t40.length co8)) (fun _ h_ => h_.1))) hb); replace BK7 := Aside0.mk (blk_below (g := gb7) (o := .cells #[.string t38, .slice Ao8 t40.length co8] 32 (0, 0)) (by refine ch_ ?_; apply bq2_1_0_; exact ch_ BK7.out) hb); replace HB := hs_ hb; clear hb) | ((with_reducible refine gate_dst (N := 5) rfl ?_); refine be_ (N := 5) (cs := #[.int .i64 0, .string ⟨#[]⟩, .string ⟨#[]⟩, .string ⟨#[]⟩, .string ⟨#[]⟩, .string ⟨#[]⟩, .int .i64 0, .int .i64 0]) (t := 27) ?_; intro gb1 hg w10 hbox hb; replace HO39 := Aside0.mk (Kd.R_below (ra_ HO39) hb); have BK1 := Aside0.mk (hbox); have GE1 := gw_ (w := w) hg; replace HB := hs_ hb; have ⟨NB7_1, NB1_7⟩ := nb_ hg BK7; replace BK7 := kb_ BK7 hb; clear hb hbox hg; have := NB1_7.out; have := NB7_1.out; refine by8_ BK1 ?_; intros))
 (try simp only [Act.put, List.setIfInBounds_toArray, List.set_cons_zero, List.set_cons_succ])
 go_cut [23] (fun v23 wc => ∃ (kq : Nat) (x23_3 : Bool), v23 = .bool x23_3 ∧ Aside0 (impl_Asks.j0 kq x23_3 t12 t30 t41 t46 t47 t48 t49 t50 = some r) ∧ Aside0 (kq ≤ k) ∧ Aside0 (Kd.R k91 91 wc w.heap.size (fun _ => True) (.slice Ao8 t40.length co8) t40) ∧ Aside0 (wc.heap[gb7]? = some (.cells #[.string t38, (.slice Ao8 t40.length co8)] 32 (0, 0))) ∧ Aside0 (wc.heap[gb1]? = some (.cells #[.int .i64 t12, .string t30, .string t41, .string t46, .string t47, .string t48, .int .i64 t49, .int .i64 t50] 27 (0, 0))) ∧ Aside0 (Below w.heap.size w wc))
 case first =>
  have H := HC4.out
  clear HC4
  by_cases c13 : t51 = 0
  ·rw [if_pos c13] at H
   have c13b0 := et_ c13
   have c13b1 := nf_ c13
   clear c13
   (first | rw [c13b0] | (simp only [i64_w, i32_w]; rw [c13b0]) | skip)
   have H' := Aside0.mk H
   clear H
   go_wp2
   go_meet
   case rel => exact ⟨_, ((t52 != 0)), sp_, H', ⟨by first | omega | exact Nat.le_refl _⟩, ⟨by refine cr_ ?_; exact Kd.R_mono (rf_ gb1 7 (rf_ gb1 6 (rf_ gb1 5 (rf_ gb1 4 (rf_ gb1 3 (rf_ gb1 2 (rf_ gb1 1 (rf_ gb1 0 (Kd.R_types HO39.out BK1.out (by decide)) (.int .i64 t12)) (.string t30)) (.string t41)) (.string t46)) (.string t47)) (.string t48)) (.int .i64 t49)) (.int .i64 t50)) (fun _ hk => trivial)⟩, ⟨by refine ch_ ?_; refine bf_ NB7_1 ?_; refine bf_ NB7_1 ?_; refine bf_ NB7_1 ?_; refine bf_ NB7_1 ?_; refine bf_ NB7_1 ?_; refine bf_ NB7_1 ?_; refine bf_ NB7_1 ?_; exact bf_ NB7_1 BK7.out⟩, ⟨by refine ch_ ?_; apply bq8_7_6_5_4_3_2_1_0_; exact ch_ BK1.out⟩, ⟨bl_⟩⟩
  ·rw [if_neg c13] at H
   have c13b0 := ef_ c13
   have c13b1 := nt_ c13
   (first | rw [c13b0] | (simp only [i64_w, i32_w]; rw [c13b0]) | skip)
   have H' := Aside0.mk H
   clear H
   go_wp2
   go_meet
   case rel => exact ⟨_, (true), sp_, H', ⟨by first | omega | exact Nat.le_refl _⟩, ⟨by refine cr_ ?_; exact Kd.R_mono (rf_ gb1 7 (rf_ gb1 6 (rf_ gb1 5 (rf_ gb1 4 (rf_ gb1 3 (rf_ gb1 2 (rf_ gb1 1 (rf_ gb1 0 (Kd.R_types HO39.out BK1.out (by decide)) (.int .i64 t12)) (.string t30)) (.string t41)) (.string t46)) (.string t47)) (.string t48)) (.int .i64 t49)) (.int .i64 t50)) (fun _ hk => trivial)⟩, ⟨by refine ch_ ?_; refine bf_ NB7_1 ?_; refine bf_ NB7_1 ?_; refine bf_ NB7_1 ?_; refine bf_ NB7_1 ?_; refine bf_ NB7_1 ?_; refine bf_ NB7_1 ?_; refine bf_ NB7_1 ?_; exact bf_ NB7_1 BK7.out⟩, ⟨by refine ch_ ?_; apply bq8_7_6_5_4_3_2_1_0_; exact ch_ BK1.out⟩, ⟨bl_⟩⟩
 case rest =>
  clear HC4
  obtain ⟨kq, x23_3, rfl, HA, HJ3, HO_20, BK7, BK1, HB⟩ := hcut
  cases kq with
  | zero => exact absurd HA.out (by simp [impl_Asks.j0])
  | succ kj3 =>
   have H := HA.out
   clear HA
   simp only [impl_Asks.j0] at H
   by_cases c14 : x23_3 = true
   ·subst c14
    replace H := ip_ H
    obtain rfl := si_ H
    go_wp2
    go_ret
    exact ⟨_, sq_, by first | exact Kd.R_nil _ _ _ _ _ | exact Kd.N_nil _ _ _ _ _ | exact Kd.V_nil _ _ _ _ _ | exact Kd.Q_nil _ _ _ _ _ | exact Kd.S_nil _ _ _ _ _, bl_⟩
   replace c14 := gf_ c14
   subst c14
   replace H := in_ H
   obtain ⟨y11, hy11⟩ : ∃ y_ : List ByteArray, y_ = (([t30] : List ByteArray)) := ⟨_, rfl⟩
   replace H : (if t12 = 6 then (if y11.length < 8796093022208 then ((slices_Sort_string_string.f (y11 ++ [t41])).bind fun t42 => ((slices_Compact_string_string.f t42).bind fun t43 => (some t43))) else (none)) else ((slices_Sort_string_string.f y11).bind fun t44 => ((slices_Compact_string_string.f t44).bind fun t45 => (some t45)))) = some r := hh_ hy11 H
   have Ny11 := Aside0.mk hy11
   clear hy11
   by_cases c15 : t12 = 6
   ·rw [if_pos c15] at H
    have := et_ c15
    replace c15 := nf_ c15
    by_cases c16 : y11.length < 8796093022208
    ·rw [if_pos c16] at H
     have LMc16 := Aside0.mk c16
     clear c16
     obtain ⟨y31, hy31⟩ : ∃ y_ : List ByteArray, y_ = (y11 ++ [t41]) := ⟨_, rfl⟩
     replace H : ((slices_Sort_string_string.f y31).bind fun t42 => ((slices_Compact_string_string.f t42).bind fun t43 => (some t43))) = some r := hh_ hy31 H
     have Ny31 := Aside0.mk hy31
     clear hy31
     obtain ⟨t42, A17, H⟩ := ob_ H
     obtain ⟨t43, A18, H⟩ := ob_ H
     obtain rfl := si_ H
     have := NB1_7.out
     have := NB7_1.out
     refine by8_ BK1 ?_; intros
     go_wp2_with (first | ((with_reducible refine gate_dst (N := 26) rfl ?_); refine Kd.R_lit Kd.string _ 9 ?hg (N := 26) ?hd (xs := ([t30] : List ByteArray)) (inner := [.string t30]) (ok := fun _ => True) (okp := fun _ => True) ?hr ?hp (fun _ hk => hk) trivial (Below.refl _ _) (Nat.le_refl _) (by simp) ?_; (case hd => rfl); (case hg => rfl); (case hr => first | (go_simp; done) | (go_simp; rfl)); (case hp => exact (Reps.one (show Kd.M Kd.string _ _ _ t30 [.string t30] from rfl) (Reps.none _ _))); intro v53 w21 ho22 hb hg_ hnew_; clear hg_ hnew_; (first | rw [← Ny11.out] at ho22 | (simp only [Int.reduceToNat] at ho22; rw [← Ny11.out] at ho22)); replace HO_20 := Aside0.mk (Kd.R_below (ra_ HO_20) hb); have HO19 := Aside0.mk (Kd.R_lower ho22 (below_size bl_)); replace BK7 := kb_ BK7 hb; replace BK1 := kb_ BK1 hb; replace HB := hs_ hb; clear hb ho22; refine by8_ BK1 ?_; intros) | ((with_reducible refine gate_builtin (b := .append) (xs := #[.tmp 30, .tmp 33]) rfl ?_); at_builtin; refine Kd.R_append Kd.string (w0 := w) w.heap.size rfl (.tmp 30) (.tmp 33) 38 9 (.string ⟨#[]⟩) 16 rfl underlying38 info9 rfl (by decide) (by omega) v53 y11 t41 [.string t41] (fun _ => True) (fun _ => False) rfl rfl ?aP (fun _ hk => hk.elim) ?aF ?aO ?aB ?aS ?aL ?_; (case aP => exact rfl); (case aB => exact bl_); (case aF => exact (fun _ _ => trivial)); (case aO => exact (ra_ HO19)); (case aS => exact (below_size bl_)); (case aL => have := LMc16.out; omega); intro v65 w24 ho hb hg hat; rw [← Ny31.out] at ho; have n0_ := Aside0.mk (Kd.R_over' (ra_ HO_20) (Kd.R_typed (ra_ HO19)) (by decide) hg); have n1_ := Aside0.mk (blk_grown (bk_ BK7) hg (Kd.R_ne HO19.out BK7.out (by decide))); have n2_ := Aside0.mk (blk_grown (bk_ BK1) hg (Kd.R_ne HO19.out BK1.out (by decide))); have n3_ := Aside0.mk (hb); have n4_ := Aside0.mk (ho); clear HO_20; clear BK7; clear BK1; clear HB; clear HO19; have HO_20 := n0_; have BK7 := n1_; have BK1 := n2_; have HB := n3_; have HO34 := n4_; clear n0_ n1_ n2_ n3_ n4_; clear ho hb hg hat; obtain ⟨Ao25, co25, eo25⟩ := Kd.R_slice HO34.out; subst eo25) | ((with_reducible refine gc_ 59 36 func59 #[.slice Ao25 y31.length co25] ?_); (with_reducible refine (slices_Sort_string_string.calls (fun k_ => some k_ = (.slice Ao25 y31.length co25 : Value).ownBlock) (.slice Ao25 y31.length co25) y31 t42 w _ ?side1 (Kd.R_tight rfl HO34.out) A17.out).mono ?_); (case side1 => repeat (first | (with_reducible first | exact HB.out | apply below_alloc | apply pw_below_drewN | apply below_drew1 | refine below_set ?_ GE7.out | refine below_set ?_ GE1.out) | exact HB.out)); rintro e w26 ⟨rfl, hy0, hb, hkp⟩; refine ⟨_, rfl, ?_⟩; replace HO_20 := Aside0.mk (Kd.R_mono (ok' := fun k_ => True) (Kd.R_keptB ((Kd.R_apart' HO_20.out (Kd.R_typed HO34.out) (by decide))) hkp (fun k_ hk_ hs_ => (hk_.2) hs_)) (fun k_ hk_ => trivial)); replace BK7 := Aside0.mk (blk_kept (ch_ BK7.out) hkp (fun hs_ => (fun e_ => (Kd.R_ne HO34.out BK7.out (by decide)) e_) hs_)); replace BK1 := Aside0.mk (blk_kept (ch_ BK1.out) hkp (fun hs_ => (fun e_ => (Kd.R_ne HO34.out BK1.out (by decide)) e_) hs_)); replace HO34 := Aside0.mk (Kd.R_reok rfl hy0 (fun k_ e_ => HO34.out.1 k_ e_)); replace HB := Aside0.mk (hb); (try clear hb); (try clear hkp); (try clear hy0)) | ((with_reducible refine gc_ 60 38 func60 #[.slice Ao25 y31.length co25] ?_); (with_reducible refine (slices_Compact_string_string.calls (fun k_ => some k_ = (.slice Ao25 y31.length co25 : Value).ownBlock) (.slice Ao25 y31.length co25) t42 t43 w _ ?side1 (Kd.R_tight rfl HO34.out) A18.out).mono ?_); (case side1 => repeat (first | (with_reducible first | exact HB.out | apply below_alloc | apply pw_below_drewN | apply below_drew1 | refine below_set ?_ GE7.out | refine below_set ?_ GE1.out) | exact HB.out)); rintro e w27 ⟨v66, rfl, ho0, hb, hkp⟩; refine ⟨_, rfl, ?_⟩; have n0_ := Aside0.mk (Kd.R_mono (ok' := fun k_ => True) (Kd.R_keptB ((Kd.R_apart' HO_20.out (Kd.R_typed HO34.out) (by decide))) hkp (fun k_ hk_ hs_ => (hk_.2) hs_)) (fun k_ hk_ => trivial)); have n1_ := Aside0.mk (blk_kept (ch_ BK7.out) hkp (fun hs_ => (fun e_ => (Kd.R_ne HO34.out BK7.out (by decide)) e_) hs_)); have n2_ := Aside0.mk (blk_kept (ch_ BK1.out) hkp (fun hs_ => (fun e_ => (Kd.R_ne HO34.out BK1.out (by decide)) e_) hs_)); have n3_ := Aside0.mk (Kd.R_mono (ok' := fun k_ => True) ho0 (fun k_ hk_ => trivial)); have n4_ := Aside0.mk (hb); clear HO_20; clear BK7; clear BK1; clear HB; clear HO34; have HO_20 := n0_; have BK7 := n1_; have BK1 := n2_; have HO57 := n3_; have HB := n4_; clear n0_ n1_ n2_ n3_ n4_; (try clear hb); (try clear hkp); (try clear ho0)))
     go_ret
     exact ⟨_, sq_, ra_ HO57, bl_⟩
    ·rw [if_neg c16] at H
     exact absurd H (by simp)
   ·rw [if_neg c15] at H
    have c15b0 := ef_ c15
    have c15b1 := nt_ c15
    obtain ⟨t44, A28, H⟩ := ob_ H
    obtain ⟨t45, A29, H⟩ := ob_ H
    obtain rfl := si_ H
    have := NB1_7.out
    have := NB7_1.out
    refine by8_ BK1 ?_; intros
    go_wp2_with (first | ((with_reducible refine gate_dst (N := 26) rfl ?_); refine Kd.R_lit Kd.string _ 9 ?hg (N := 26) ?hd (xs := ([t30] : List ByteArray)) (inner := [.string t30]) (ok := fun _ => True) (okp := fun _ => True) ?hr ?hp (fun _ hk => hk) trivial (Below.refl _ _) (Nat.le_refl _) (by simp) ?_; (case hd => rfl); (case hg => rfl); (case hr => first | (go_simp; done) | (go_simp; rfl)); (case hp => exact (Reps.one (show Kd.M Kd.string _ _ _ t30 [.string t30] from rfl) (Reps.none _ _))); intro v53 w32 ho33 hb hg_ hnew_; clear hg_ hnew_; (first | rw [← Ny11.out] at ho33 | (simp only [Int.reduceToNat] at ho33; rw [← Ny11.out] at ho33)); replace HO_20 := Aside0.mk (Kd.R_below (ra_ HO_20) hb); have HO19 := Aside0.mk (Kd.R_lower ho33 (below_size bl_)); replace BK7 := kb_ BK7 hb; replace BK1 := kb_ BK1 hb; replace HB := hs_ hb; clear hb ho33; refine by8_ BK1 ?_; intros; obtain ⟨Ao35, co35, eo35⟩ := Kd.R_slice HO19.out; subst eo35) | ((with_reducible refine gc_ 59 36 func59 #[.slice Ao35 y11.length co35] ?_); (with_reducible refine (slices_Sort_string_string.calls (fun k_ => some k_ = (.slice Ao35 y11.length co35 : Value).ownBlock) (.slice Ao35 y11.length co35) y11 t44 w _ ?side1 (Kd.R_tight rfl HO19.out) A28.out).mono ?_); (case side1 => repeat (first | (with_reducible first | exact HB.out | apply below_alloc | apply pw_below_drewN | apply below_drew1 | refine below_set ?_ GE7.out | refine below_set ?_ GE1.out) | exact HB.out)); rintro e w36 ⟨rfl, hy0, hb, hkp⟩; refine ⟨_, rfl, ?_⟩; replace HO_20 := Aside0.mk (Kd.R_mono (ok' := fun k_ => True) (Kd.R_keptB ((Kd.R_apart' HO_20.out (Kd.R_typed HO19.out) (by decide))) hkp (fun k_ hk_ hs_ => (hk_.2) hs_)) (fun k_ hk_ => trivial)); replace BK7 := Aside0.mk (blk_kept (ch_ BK7.out) hkp (fun hs_ => (fun e_ => (Kd.R_ne HO19.out BK7.out (by decide)) e_) hs_)); replace BK1 := Aside0.mk (blk_kept (ch_ BK1.out) hkp (fun hs_ => (fun e_ => (Kd.R_ne HO19.out BK1.out (by decide)) e_) hs_)); replace HO19 := Aside0.mk (Kd.R_reok rfl hy0 (fun k_ e_ => HO19.out.1 k_ e_)); replace HB := Aside0.mk (hb); (try clear hb); (try clear hkp); (try clear hy0)) | ((with_reducible refine gc_ 60 38 func60 #[.slice Ao35 y11.length co35] ?_); (with_reducible refine (slices_Compact_string_string.calls (fun k_ => some k_ = (.slice Ao35 y11.length co35 : Value).ownBlock) (.slice Ao35 y11.length co35) t44 t45 w _ ?side1 (Kd.R_tight rfl HO19.out) A29.out).mono ?_); (case side1 => repeat (first | (with_reducible first | exact HB.out | apply below_alloc | apply pw_below_drewN | apply below_drew1 | refine below_set ?_ GE7.out | refine below_set ?_ GE1.out) | exact HB.out)); rintro e w37 ⟨v67, rfl, ho0, hb, hkp⟩; refine ⟨_, rfl, ?_⟩; have n0_ := Aside0.mk (Kd.R_mono (ok' := fun k_ => True) (Kd.R_keptB ((Kd.R_apart' HO_20.out (Kd.R_typed HO19.out) (by decide))) hkp (fun k_ hk_ hs_ => (hk_.2) hs_)) (fun k_ hk_ => trivial)); have n1_ := Aside0.mk (blk_kept (ch_ BK7.out) hkp (fun hs_ => (fun e_ => (Kd.R_ne HO19.out BK7.out (by decide)) e_) hs_)); have n2_ := Aside0.mk (blk_kept (ch_ BK1.out) hkp (fun hs_ => (fun e_ => (Kd.R_ne HO19.out BK1.out (by decide)) e_) hs_)); have n3_ := Aside0.mk (Kd.R_mono (ok' := fun k_ => True) ho0 (fun k_ hk_ => trivial)); have n4_ := Aside0.mk (hb); clear HO_20; clear BK7; clear BK1; clear HB; clear HO19; have HO_20 := n0_; have BK7 := n1_; have BK1 := n2_; have HO58 := n3_; have HB := n4_; clear n0_ n1_ n2_ n3_ n4_; (try clear hb); (try clear hkp); (try clear ho0)))
    go_ret
    exact ⟨_, sq_, ra_ HO58, bl_⟩
/-! ### impl_Fnv: function 141 -/
def impl_Fnv.l0 : Nat → ByteArray → Int → Int → Int → Option (Int)
 | 0, _, _, _, _ => none
 | k + 1, x0, x3, x6, x7 => if x7 < x6 then (if 0 ≤ x7 then (if x7 < (x0.size : Int) then (impl_Fnv.l0 k x0 (((Go.bits .xor .u32 x3 ((bt x0 x7) % 4294967296)) * 16777619) % 4294967296) x6 (wrap64 (x7 + 1))) else (none)) else (none)) else (some (wrap64 (x3)))
def impl_Fnv.f (k : Nat) (a0 : ByteArray) : Option (Int) := impl_Fnv.l0 k a0 2166136261 (a0.size : Int) 0
theorem impl_Fnv.calls (k : Nat) (a0 : ByteArray) (r : Int) (w : World) (h : impl_Fnv.f k a0 = some r) :
  Calls Tryz.prog 141 #[.string a0] w fun e w' => e = .returned (.int .i64 r) ∧ Drawn0 w w' := by
 have H := h
 unfold impl_Fnv.f at H
 clear h
 have H' := Aside0.mk H
 clear H
 go_enter func141, ntmps141
 go_wp2
 go_loopg [3, 7] k (fun kq v3 v7 w' => ∃ (x3_1 : Int) (x7_1 : Int), v3 = .int .u32 x3_1 ∧ v7 = .int .i64 x7_1 ∧ Aside0 (impl_Fnv.l0 kq a0 x3_1 (a0.size : Int) x7_1 = some r) ∧ Aside0 (kq ≤ k) ∧ Drawn0 w w')
 case atStart => exact ⟨(2166136261), (0), sp_, sp_, H', ⟨Nat.le_refl _⟩, dr_⟩
 case round =>
  clear H'
  obtain ⟨x3_1, x7_1, rfl, rfl, HA, HK1, ⟨m1, rfl⟩⟩ := hrel
  cases gk with
  | zero => exact absurd HA.out (by simp [impl_Fnv.l0])
  | succ k1 =>
   have H := HA.out
   clear HA
   simp only [impl_Fnv.l0] at H
   by_cases c2 : x7_1 < (a0.size : Int)
   rotate_left
   ·rw [if_neg c2] at H
    replace c2 := df_ c2
    obtain rfl := si_ H
    go_wp2
    go_ret
    exact ⟨sp_, dr_⟩
   rw [if_pos c2] at H
   replace c2 := dt_ c2
   by_cases c3 : 0 ≤ x7_1
   ·rw [if_pos c3] at H
    replace c3 := dt_ c3
    by_cases c4 : x7_1 < (a0.size : Int)
    ·rw [if_pos c4] at H
     replace c4 := dt_ c4
     have H' := Aside0.mk H
     clear H
     have p5 : 0 ≤ (x7_1 : Int) := od_
     have q5 : x7_1 < (a0.size : Int) := od_
     have hx5 := bt_at a0 x7_1
     replace p5 := eq_true p5
     replace q5 := eq_true q5
     go_wp2
     go_roundg k1
     case measure => have := HK1.out; omega
     case rel => exact ⟨(((Go.bits .xor .u32 x3_1 ((bt a0 x7_1) % 4294967296)) * 16777619) % 4294967296), (wrap64 (x7_1 + 1)), sp_, sp_, H', ⟨by have := HK1.out; omega⟩, dr_⟩
    ·rw [if_neg c4] at H
     exact absurd H (by simp)
   ·rw [if_neg c3] at H
    exact absurd H (by simp)
/-! ### impl_StripeNo: function 103 -/
def impl_StripeNo.f (k : Nat) (a0 : ByteArray) (a1 : Int) : Option (Int) := if a1 < 1 then (some 0) else ((impl_Fnv.f k a0).bind fun t1 => (if a1 = 0 then (none) else (some (Int.tmod t1 a1))))
theorem impl_StripeNo.calls (k : Nat) (a0 : ByteArray) (a1 : Int) (r : Int) (w : World) (h : impl_StripeNo.f k a0 a1 = some r) :
  Calls Tryz.prog 103 #[.string a0, .int .i64 a1] w fun e w' => e = .returned (.int .i64 r) ∧ Drawn0 w w' := by
 have H := h
 unfold impl_StripeNo.f at H
 clear h
 by_cases c3 : a1 < 1
 ·rw [if_pos c3] at H
  replace c3 := dt_ c3
  obtain rfl := si_ H
  go_enter func103, ntmps103
  go_wp2
  go_ret
  exact ⟨sp_, dr_⟩
 rw [if_neg c3] at H
 replace c3 := df_ c3
 obtain ⟨t1, A4, H⟩ := ob_ H
 obtain ⟨c5, H⟩ := on_ H
 have c5b0 := ef_ c5
 have c5b1 := nt_ c5
 obtain rfl := si_ H
 go_enter func103, ntmps103
 go_wp2_with (first | ((with_reducible refine gd_ 141 8 func141 #[.string a0] (impl_Fnv.calls k a0 t1 _ A4.out) fun nd => ?_)))
 go_ret
 exact ⟨sp_, dr_⟩
/-! ### slices_Sort_int_int: function 104 -/
theorem so_row {e base g n cap : Nat} {ok : Nat → Prop} : ∀ (zs : List Int) (i : Nat) (xs : List Int) (W : World), i + zs.length = n → 
  Kd.R (Kd.int .i64) e W base ok (.slice (some ⟨g, 0, none⟩) n cap) xs → Kd.R (Kd.int .i64) e (W.setCells g i (zs.map (Value.int .i64))) base ok (.slice (some ⟨g, 0, none⟩) n cap) (xs.take i ++ zs) ∧ W.grownBy (W.setCells g i (zs.map (Value.int .i64))) (some g)
 | [], i, xs, W, hi, h => by
  have hn := (Kd.R_reads' h).1
  simp only [List.length_nil] at hi
  rw [List.take_of_length_le (by omega), List.append_nil]
  exact ⟨h, World.grownBy.refl W _⟩
 | z :: zs, i, xs, W, hi, h => by
  have hn := (Kd.R_reads' h).1
  simp only [List.length_cons] at hi
  subst hn
  obtain ⟨h1, g1⟩ := Kd.R_put (enc := Value.int .i64) (h1 := fun _ => rfl) h (i : Int) z
  rw [Int.toNat_natCast] at h1 g1
  obtain ⟨h2, g2⟩ := so_row zs (i + 1) (xs.set i z) _ (by omega) h1
  rw [List.take_succ_eq_append_getElem (by rw [List.length_set]; omega), List.take_set_of_le (Nat.le_refl _), List.getElem_set_self, List.append_assoc, List.singleton_append] at h2
  exact ⟨h2, g1.trans g2⟩
theorem so_holds {W : World} {e base g cap : Nat} {ok : Nat → Prop} {xs : List Int} (h : Kd.R (Kd.int .i64) e W base ok (.slice (some ⟨g, 0, none⟩) xs.length cap) xs) : Sort.Holds (Value.int .i64) W g 0 xs.toArray := by
 intro j hj
 have hj' : j < xs.length := by simpa using hj
 obtain ⟨h1, h2⟩ := Kd.R_cell (enc := Value.int .i64) (h1 := fun _ => rfl) (0 : Int) h (j : Int) (by omega) (by omega)
 rw [Int.toNat_natCast] at h1 h2
 rw [Nat.zero_add]
 refine ⟨h1.trans ?_, h2⟩
 congr 2
 unfold rdOf
 rw [Int.toNat_natCast, List.getD_eq_getElem?_getD, List.getElem?_eq_getElem hj', getElem!_pos xs.toArray j hj]
 simp
theorem so_grow {B : Nat} {w0 W : World} (os : Array Obj) (h : Below B w0 W) (hB : B ≤ W.heap.size) : Below B w0 (Sort.grow W os) :=
 h.trans ⟨rfl, rfl, rfl, by simp [Sort.grow], fun k hk => Sort.heap_grow_old W os (Nat.lt_of_lt_of_le hk hB)⟩
def slices_Sort_int_int.f (l0 : List Int) : Option (List Int) := if l0.length < 4611686018427387904 then some (l0.mergeSort fun x y => decide (x ≤ y)) else none
theorem slices_Sort_int_int.calls (P0_ : Nat → Prop) (u9000_ : Value) (l0 : List Int) (r : List Int) (w0 w : World) (hB : Below w0.heap.size w0 w) (ho0 : Kd.R (Kd.int .i64) 3 w w0.heap.size P0_ u9000_ l0) (h : slices_Sort_int_int.f l0 = some r) :
  Calls Tryz.prog 104 #[u9000_] w fun e w' => e = .returned (.tuple #[]) ∧ Kd.R (Kd.int .i64) 3 w' w0.heap.size (fun k_ => (P0_ k_ ∨ w.heap.size ≤ k_)) u9000_ r ∧ Below w0.heap.size w0 w' ∧ Kept w w' (fun k_ => P0_ k_) := by
 unfold slices_Sort_int_int.f at h
 by_cases hl : l0.length < 4611686018427387904
 rotate_left
 ·rw [if_neg hl] at h; cases h
 rw [if_pos hl] at h
 obtain rfl := Option.some.inj h
 by_cases hp : 0 < l0.length
 ·obtain ⟨g, cap, rfl, hb, hlt, _⟩ := Kd.R_form ho0 hp
  refine Calls.mono (Go.calls_of_every_depth fun D => Go.Proofs.AnyS.slices_Sort_int_in Go.Proofs.YtohfefkjcnbejaaGreatDoor.Shelf.laysSort D g 0 cap l0 w (so_holds ho0) hlt hl : Calls Tryz.prog 104 #[.slice (some ⟨g, 0, none⟩) l0.length cap] w _) ?_
  rintro e w' ⟨rfl, q, os, rfl⟩
  rw [Lib.sorted_world (Value.int .i64) w g 0 q _ _ os (so_holds ho0) (by simp)]
  obtain ⟨h1, g1⟩ := so_row (l0.mergeSort fun x y => decide (x ≤ y)) 0 l0 (w.drewN q) (by simp) (Kd.R_drewN ho0 q)
  rw [List.take_zero, List.nil_append] at h1
  have gb : Below ((w.drewN q).setCells g 0 ((l0.mergeSort fun x y => decide (x ≤ y)).map (Value.int .i64))).heap.size _ (Sort.grow _ os) := so_grow os (Below.refl _ _) (Nat.le_refl _)
  have hbq : Below w0.heap.size w0 (w.drewN q) := pw_below_drewN hB q
  have hb2 := hbq.grown g1 hbq.size (fun k hk => by cases hk; exact hb)
  refine ⟨rfl, Kd.R_mono (Kd.R_below h1 gb) (fun _ hk => .inl hk), below_then hb2 hb2.size gb, Kept.below (Kept.of_grown g1 (Kept.drewN (Kept.refl w _) q) (fun k hk => by cases hk; exact .inl (ho0.1 g (by simp [Value.ownBlock])))) gb⟩
 ·have hnil : l0 = [] := List.eq_nil_of_length_eq_zero (by omega)
  subst hnil
  obtain ⟨A0, c0, rfl, _, _⟩ := Kd.R_reads ho0
  refine Calls.mono (Go.Proofs.Any.slices_Sort_int_none Go.Proofs.YtohfefkjcnbejaaGreatDoor.Shelf.laysSort A0 c0 w : Calls Tryz.prog 104 #[.slice A0 0 c0] w _) ?_
  rintro e w' ⟨rfl, rfl⟩
  exact ⟨rfl, Kd.R_mono (by simpa using ho0) (fun _ hk => .inl hk), hB, Kept.refl _ _⟩
/-! ### slices_Compact_int_int: function 105 -/
def slices_Compact_int_int.f (l0 : List Int) : Option (List Int) := some (Lib.compact l0)
theorem slices_Compact_int_int.calls (P0_ : Nat → Prop) (u9000_ : Value) (l0 : List Int) (r : List Int) (w0 w : World) (hB : Below w0.heap.size w0 w) (ho0 : Kd.R (Kd.int .i64) 3 w w0.heap.size P0_ u9000_ l0) (h : slices_Compact_int_int.f l0 = some r) :
  Calls Tryz.prog 105 #[u9000_] w fun e w' => ∃ v0_ : Value, e = .returned (v0_) ∧ Kd.R (Kd.int .i64) 3 w' w0.heap.size (fun k_ => (P0_ k_ ∨ w.heap.size ≤ k_)) v0_ r ∧ Below w0.heap.size w0 w' ∧ Kept w w' (fun k_ => P0_ k_) := by
 obtain rfl := Option.some.inj h
 have hcl : (Lib.compact l0).length ≤ l0.length := by
  unfold Lib.compact Lib.compactUpTo
  rw [List.length_map]
  exact Nat.le_trans (List.length_filter_le _ _) (by simp)
 by_cases hp : 0 < l0.length
 ·obtain ⟨g, cap, rfl, hb, hlt, _⟩ := Kd.R_form ho0 hp
  obtain ⟨_, hc, hC⟩ := Kd.R_reads' ho0
  refine Calls.mono (Go.Proofs.Any.slices_Compact_int Go.Proofs.YtohfefkjcnbejaaGreatDoor.Shelf.laysCompact g 0 cap l0 w (so_holds ho0) hC.2.1 hc : Calls Tryz.prog 105 #[.slice (some ⟨g, 0, none⟩) l0.length cap] w _) ?_
  rintro e w' ⟨rfl, q, rfl⟩
  rw [Lib.putRow_eq_setCells (Value.int .i64) w g 0 _ _ q (so_holds ho0) (by simp; omega)]
  obtain ⟨h1, g1⟩ := so_row (Lib.compact l0 ++ List.replicate (l0.length - (Lib.compact l0).length) 0) 0 l0 (w.drewN q) (by simp; omega) (Kd.R_drewN ho0 q)
  rw [List.take_zero, List.nil_append] at h1
  have hbq : Below w0.heap.size w0 (w.drewN q) := pw_below_drewN hB q
  have hb2 := hbq.grown g1 hbq.size (fun k hk => by cases hk; exact hb)
  have h2 := Kd.R_take h1 (m := (Lib.compact l0).length) (by simp)
  rw [List.take_left'  rfl] at h2
  exact ⟨_, rfl, Kd.R_mono h2 (fun _ hk => .inl hk), hb2, Kept.of_grown g1 (Kept.drewN (Kept.refl w _) q) (fun k hk => by cases hk; exact .inl (ho0.1 g (by simp [Value.ownBlock])))⟩
 ·have hnil : l0 = [] := List.eq_nil_of_length_eq_zero (by omega)
  subst hnil
  obtain ⟨A0, c0, rfl, _, _⟩ := Kd.R_reads ho0
  refine Calls.mono (Go.Proofs.Any.slices_Compact_int_empty Go.Proofs.YtohfefkjcnbejaaGreatDoor.Shelf.laysCompact A0 c0 w : Calls Tryz.prog 105 #[.slice A0 0 c0] w _) ?_
  rintro e w' ⟨rfl, rfl⟩
  exact ⟨_, rfl, Kd.R_mono ho0 (fun _ hk => .inl hk), hB, Kept.refl _ _⟩
/-! ### impl_LockSet: function 66 -/
def impl_LockSet.l0 : Nat → Int → List Int → List ByteArray → Int → Int → Option (List Int)
 | 0, _, _, _, _, _ => none
 | k + 1, x1, x5, x9, x10, x11 => if x11 < x10 then (if 0 ≤ x11 then (if x11 < (x9.length : Int) then ((impl_StripeNo.f k (rdOf ByteArray.empty x9 x11) x1).bind fun t18 => (if x5.length < 17592186044416 then (impl_LockSet.l0 k x1 (x5 ++ [t18]) x9 x10 (wrap64 (x11 + 1))) else (none))) else (none)) else (none)) else ((slices_Sort_int_int.f x5).bind fun t19 => ((slices_Compact_int_int.f t19).bind fun t20 => (some t20)))
def impl_LockSet.f (k : Nat) (l0 : List ByteArray) (a1 : Int) : Option (List Int) := impl_LockSet.l0 k a1 (([] : List Int)) l0 (l0.length : Int) 0
theorem impl_LockSet.calls (k : Nat) (A0 : Option Addr) (c0 : Nat) (l0 : List ByteArray) (a1 : Int) (r : List Int) (w : World) (hr0 : Kd.C Kd.string w A0 l0.length l0) (hc0 : l0.length ≤ c0) (h : impl_LockSet.f k l0 a1 = some r) :
  Calls Tryz.prog 66 #[.slice A0 l0.length c0, .int .i64 a1] w fun e w' => ∃ v0_ : Value, e = .returned (v0_) ∧ Kd.R (Kd.int .i64) 3 w' w.heap.size (fun _ => True) v0_ r ∧ Below w.heap.size w w' := by
 have HR0 := Aside0.mk hr0
 have HC0 := Aside0.mk hc0
 clear hr0 hc0
 have HB := Aside0.mk (Below.refl w.heap.size w)
 have H := h
 unfold impl_LockSet.f at H
 clear h
 obtain ⟨y16, hy16⟩ : ∃ y_ : List Int, y_ = (([] : List Int)) := ⟨_, rfl⟩
 replace H : (impl_LockSet.l0 k a1 y16 l0 (l0.length : Int) 0) = some r := hh_ hy16 H
 have Ny16 := Aside0.mk hy16
 clear hy16
 have H' := Aside0.mk H
 clear H
 go_enter func66, ntmps66
 go_wp2_with (first | ((with_reducible refine gate_dst (N := 8) rfl ?_); refine Kd.R_lit (Kd.int .i64) _ 3 ?hg (N := 8) ?hd (xs := ([] : List Int)) (inner := []) (ok := fun _ => True) (okp := fun _ => True) ?hr ?hp (fun _ hk => hk) trivial (Below.refl _ _) (Nat.le_refl _) (by simp) ?_; (case hd => rfl); (case hg => rfl); (case hr => first | (go_simp; done) | (go_simp; rfl)); (case hp => exact (Reps.none _ _)); intro v24 w3 ho4 hb hg_ hnew_; clear hg_ hnew_; (first | rw [← Ny16.out] at ho4 | (simp only [Int.reduceToNat] at ho4; rw [← Ny16.out] at ho4)); have HO21 := Aside0.mk (Kd.R_lower ho4 (below_size bl_)); replace HB := hs_ hb; clear hb ho4))
 go_loopg [5, 11] k (fun kq v5 v11 w' => ∃ (x5_1 : List Int) (x11_1 : Int), v11 = .int .i64 x11_1 ∧ Aside0 (impl_LockSet.l0 kq a1 x5_1 l0 (l0.length : Int) x11_1 = some r) ∧ Aside0 (kq ≤ k) ∧ Aside0 (Kd.R (Kd.int .i64) 3 w' w.heap.size (fun _ => True) v5 x5_1) ∧ Aside0 (Below w.heap.size w w'))
 case atStart => exact ⟨(y16), (0), sp_, H', ⟨Nat.le_refl _⟩, ⟨ra_ HO21⟩, ⟨bl_⟩⟩
 case round =>
  clear H'
  obtain ⟨x5_1, x11_1, rfl, HA, HK1, HO_5, HB⟩ := hrel
  cases gk with
  | zero => exact absurd HA.out (by simp [impl_LockSet.l0])
  | succ k1 =>
   have H := HA.out
   clear HA
   simp only [impl_LockSet.l0] at H
   by_cases c5 : x11_1 < (l0.length : Int)
   rotate_left
   ·rw [if_neg c5] at H
    replace c5 := df_ c5
    obtain ⟨t19, A11, H⟩ := ob_ H
    obtain ⟨t20, A12, H⟩ := ob_ H
    obtain rfl := si_ H
    obtain ⟨Ao13, co13, eo13⟩ := Kd.R_slice HO_5.out
    subst eo13
    go_wp2_with (first | ((with_reducible refine gc_ 104 23 func104 #[.slice Ao13 x5_1.length co13] ?_); (with_reducible refine (slices_Sort_int_int.calls (fun k_ => some k_ = (.slice Ao13 x5_1.length co13 : Value).ownBlock) (.slice Ao13 x5_1.length co13) x5_1 t19 w _ ?side1 (Kd.R_tight rfl HO_5.out) A11.out).mono ?_); (case side1 => repeat (first | (with_reducible first | exact HB.out | apply below_alloc | apply pw_below_drewN | apply below_drew1) | exact HB.out)); rintro e w14 ⟨rfl, hy0, hb, hkp⟩; refine ⟨_, rfl, ?_⟩; replace HO_5 := Aside0.mk (Kd.R_reok rfl hy0 (fun k_ e_ => HO_5.out.1 k_ e_)); replace HB := Aside0.mk (hb); (try clear hb); (try clear hkp); (try clear hy0)) | ((with_reducible refine gc_ 105 25 func105 #[.slice Ao13 x5_1.length co13] ?_); (with_reducible refine (slices_Compact_int_int.calls (fun k_ => some k_ = (.slice Ao13 x5_1.length co13 : Value).ownBlock) (.slice Ao13 x5_1.length co13) t19 t20 w _ ?side1 (Kd.R_tight rfl HO_5.out) A12.out).mono ?_); (case side1 => repeat (first | (with_reducible first | exact HB.out | apply below_alloc | apply pw_below_drewN | apply below_drew1) | exact HB.out)); rintro e w15 ⟨v25, rfl, ho0, hb, hkp⟩; refine ⟨_, rfl, ?_⟩; have n0_ := Aside0.mk (Kd.R_mono (ok' := fun k_ => True) ho0 (fun k_ hk_ => trivial)); have n1_ := Aside0.mk (hb); clear HB; clear HO_5; have HO22 := n0_; have HB := n1_; clear n0_ n1_; (try clear hb); (try clear hkp); (try clear ho0)))
    go_ret
    exact ⟨_, sq_, ra_ HO22, bl_⟩
   rw [if_pos c5] at H
   replace c5 := dt_ c5
   obtain ⟨c6, H⟩ := og_ H
   replace c6 := dt_ c6
   obtain ⟨c7, H⟩ := og_ H
   replace c7 := dt_ c7
   obtain ⟨t18, A8, H⟩ := ob_ H
   by_cases c9 : x5_1.length < 17592186044416
   ·rw [if_pos c9] at H
    have LMc9 := Aside0.mk c9
    clear c9
    obtain ⟨y17, hy17⟩ : ∃ y_ : List Int, y_ = (x5_1 ++ [t18]) := ⟨_, rfl⟩
    replace H : (impl_LockSet.l0 k1 a1 y17 l0 (l0.length : Int) (wrap64 (x11_1 + 1))) = some r := hh_ hy17 H
    have Ny17 := Aside0.mk hy17
    clear hy17
    have H' := Aside0.mk H
    clear H
    have p2 : 0 ≤ (x11_1 : Int) := od_
    have q2 : x11_1 < (l0.length : Int) := od_
    obtain ⟨ad2, e2, hx2_0⟩ := Kd.at_string HR0.out x11_1 p2 q2
    cases e2
    replace hx2_0 := kc_ HB hx2_0
    replace p2 := eq_true p2
    replace q2 := eq_true q2
    go_wp2_with (first | ((with_reducible refine gd_ 103 18 func103 #[.string (rdOf ByteArray.empty l0 x11_1), .int .i64 a1] (impl_StripeNo.calls k1 (rdOf ByteArray.empty l0 x11_1) a1 t18 _ A8.out) fun nd => ?_)) | ((with_reducible refine gate_builtin (b := .append) (xs := #[.tmp 15, .tmp 19]) rfl ?_); at_builtin; refine Kd.R_append (Kd.int .i64) (w0 := w) w.heap.size rfl (.tmp 15) (.tmp 19) 46 3 (.int .i64 0) 8 rfl underlying46 info3 rfl (by decide) (by omega) u5 x5_1 t18 [.int .i64 t18] (fun _ => True) (fun _ => False) rfl rfl ?aP (fun _ hk => hk.elim) ?aF ?aO ?aB ?aS ?aL ?_; (case aP => exact rfl); (case aB => exact bl_); (case aF => exact (fun _ _ => trivial)); (case aO => exact (ra_ HO_5)); (case aS => exact (below_size bl_)); (case aL => have := LMc9.out; omega); intro v26 w10 ho hb hg hat; rw [← Ny17.out] at ho; have n0_ := Aside0.mk (hb); have n1_ := Aside0.mk (ho); clear HB; clear HO_5; have HB := n0_; have HO23 := n1_; clear n0_ n1_; clear ho hb hg hat))
    go_roundg k1
    case measure => have := HK1.out; omega
    case rel => exact ⟨(y17), (wrap64 (x11_1 + 1)), sp_, H', ⟨by have := HK1.out; omega⟩, ⟨ra_ HO23⟩, ⟨bl_⟩⟩
   ·rw [if_neg c9] at H
    exact absurd H (by simp)
/-! ### impl_Needs: function 25 -/
def impl_Needs.f (k : Nat) (l0_0 : List Int) (a0_1 : Int) (l0_2 : List Int) (a0_3 : Int) (a0_4 : Int) (a0_5 : Int) (a0_6 : Int) (a0_7 : Int) (l0_8 : List Int) (a1 : Int) : Option (List Int) := (impl_Asks.f k l0_0).bind fun t6 => ((impl_LockSet.f k t6 a1).bind fun t11 => (some t11))
theorem impl_Needs.calls (k : Nat) (A0_0 : Option Addr) (c0_0 : Nat) (l0_0 : List Int) (a0_1 : Int) (A0_2 : Option Addr) (c0_2 : Nat) (l0_2 : List Int) (a0_3 : Int) (a0_4 : Int) (a0_5 : Int) (a0_6 : Int) (a0_7 : Int) (A0_8 : Option Addr) (c0_8 : Nat) (l0_8 : List Int) (a1 : Int) (r : List Int) (w : World) (hr0_0 : Kd.C (Kd.int .u8) w A0_0 l0_0.length l0_0) (hc0_0 : l0_0.length ≤ c0_0) (hr0_2 : Kd.C (Kd.int .i64) w A0_2 l0_2.length l0_2) (hc0_2 : l0_2.length ≤ c0_2) (hr0_8 : Kd.C (Kd.int .u8) w A0_8 l0_8.length l0_8) (hc0_8 : l0_8.length ≤ c0_8) (h : impl_Needs.f k l0_0 a0_1 l0_2 a0_3 a0_4 a0_5 a0_6 a0_7 l0_8 a1 = some r) :
  Calls Tryz.prog 25 #[.agg #[.slice A0_0 l0_0.length c0_0, .int .i64 a0_1, .slice A0_2 l0_2.length c0_2, .int .i64 a0_3, .int .i64 a0_4, .int .i64 a0_5, .int .i64 a0_6, .int .i64 a0_7, .slice A0_8 l0_8.length c0_8], .int .i64 a1] w fun e w' => ∃ v0_ : Value, e = .returned (v0_) ∧ Kd.R (Kd.int .i64) 3 w' w.heap.size (fun _ => True) v0_ r ∧ Below w.heap.size w w' := by
 have hu51 := underlying51
 have HR0_0 := Aside0.mk hr0_0
 have HC0_0 := Aside0.mk hc0_0
 clear hr0_0 hc0_0
 have HR0_2 := Aside0.mk hr0_2
 have HC0_2 := Aside0.mk hc0_2
 clear hr0_2 hc0_2
 have HR0_8 := Aside0.mk hr0_8
 have HC0_8 := Aside0.mk hc0_8
 clear hr0_8 hc0_8
 have HB := Aside0.mk (Below.refl w.heap.size w)
 have H := h
 unfold impl_Needs.f at H
 clear h
 obtain ⟨t6, A3, H⟩ := ob_ H
 obtain ⟨t11, A4, H⟩ := ob_ H
 obtain rfl := si_ H
 go_enter func25, ntmps25
 go_wp2_with (first | ((with_reducible refine gt_ 2 ?_); refine bo_ 2 #[.slice A0_0 l0_0.length c0_0, .int .i64 a0_1, .slice A0_2 l0_2.length c0_2, .int .i64 a0_3, .int .i64 a0_4, .int .i64 a0_5, .int .i64 a0_6, .int .i64 a0_7, .slice A0_8 l0_8.length c0_8] 51 ?_; intro gb1 hg w5 BK1 hb; have GW1 := gw_ (w := w) hg; replace HB := hs_ hb; clear hb hg; refine by9_ BK1 ?_; intros) | ((with_reducible refine gc_ 16 7 func16 #[.slice A0_0 l0_0.length c0_0] ?_); (with_reducible refine (impl_Asks.calls k _ _ l0_0 t6 _ (cb_ HR0_0 HB) HC0_0.out A3.out).mono ?_); rintro e w7 ⟨v13, rfl, ho0, hb⟩; refine ⟨_, rfl, ?_⟩; have HO10 := Aside0.mk (Kd.R_lower ho0 (below_size bl_)); replace BK1 := kb_ BK1 hb; replace HB := hs_ hb; clear hb; (try clear ho0); obtain ⟨Ao8, co8, eo8⟩ := Kd.R_slice HO10.out; subst eo8) | ((with_reducible refine gc_ 66 9 func66 #[.slice Ao8 t6.length co8, .int .i64 a1] ?_); (with_reducible refine (impl_LockSet.calls k _ _ t6 a1 t11 _ (ca_ ((Kd.R_reads' HO10.out).2.2)) ((Kd.R_reads' HO10.out).2.1) A4.out).mono ?_); rintro e w9 ⟨v14, rfl, ho0, hb⟩; refine ⟨_, rfl, ?_⟩; replace HO10 := Aside0.mk (Kd.R_below (ra_ HO10) hb); have HO12 := Aside0.mk (Kd.R_lower ho0 (below_size bl_)); replace BK1 := kb_ BK1 hb; replace HB := hs_ hb; clear hb; (try clear ho0)))
 go_ret
 exact ⟨_, sq_, ra_ HO12, bl_⟩
/-! ### impl_PcName: function 72 -/
def impl_PcName.f (a0 : Int) : Option (ByteArray) := (impl_within.f a0 0 5).bind fun t10 => (if t10 = true then ((some (([(⟨#[114, 101, 97, 100]⟩ : ByteArray), (⟨#[108, 111, 99, 107]⟩ : ByteArray), (⟨#[119, 111, 114, 107]⟩ : ByteArray), (⟨#[102, 114, 101, 101]⟩ : ByteArray), (⟨#[115, 101, 110, 100]⟩ : ByteArray), (⟨#[100, 111, 110, 101]⟩ : ByteArray)] : List ByteArray) : List ByteArray)).bind fun y1 => (if 0 ≤ a0 then (if a0 < (y1.length : Int) then (some (rdOf ByteArray.empty y1 a0)) else (none)) else (none))) else (some (⟨#[]⟩ : ByteArray)))
theorem impl_PcName.calls (a0 : Int) (r : ByteArray) (w : World) (h : impl_PcName.f a0 = some r) :
  Calls Tryz.prog 72 #[.int .i64 a0] w fun e w' => e = .returned (.string r) ∧ Below w.heap.size w w' := by
 have HB := Aside0.mk (Below.refl w.heap.size w)
 have H := h
 unfold impl_PcName.f at H
 clear h
 obtain ⟨t10, A2, H⟩ := ob_ H
 by_cases c3 : t10 = true
 ·subst c3
  replace H := ip_ H
  obtain ⟨y1, hy1⟩ : ∃ y_ : List ByteArray, y_ = (([(⟨#[114, 101, 97, 100]⟩ : ByteArray), (⟨#[108, 111, 99, 107]⟩ : ByteArray), (⟨#[119, 111, 114, 107]⟩ : ByteArray), (⟨#[102, 114, 101, 101]⟩ : ByteArray), (⟨#[115, 101, 110, 100]⟩ : ByteArray), (⟨#[100, 111, 110, 101]⟩ : ByteArray)] : List ByteArray)) := ⟨_, rfl⟩
  replace H : (if 0 ≤ a0 then (if a0 < (y1.length : Int) then (some (rdOf ByteArray.empty y1 a0)) else (none)) else (none)) = some r := hh_ hy1 H
  have Ny1 := Aside0.mk hy1
  clear hy1
  by_cases c4 : 0 ≤ a0
  ·rw [if_pos c4] at H
   replace c4 := dt_ c4
   by_cases c5 : a0 < (y1.length : Int)
   ·rw [if_pos c5] at H
    replace c5 := dt_ c5
    obtain rfl := si_ H
    go_enter func72, ntmps72
    go_wp2_with (first | ((with_reducible refine gd_ 71 4 func71 #[.int .i64 a0, .int .i64 0, .int .i64 5] (impl_within.calls a0 0 5 true _ A2.out) fun nd => ?_)) | ((with_reducible refine gate_dst (N := 6) rfl ?_); refine Kd.R_lit Kd.string _ 9 ?hg (N := 6) ?hd (xs := ([(⟨#[114, 101, 97, 100]⟩ : ByteArray), (⟨#[108, 111, 99, 107]⟩ : ByteArray), (⟨#[119, 111, 114, 107]⟩ : ByteArray), (⟨#[102, 114, 101, 101]⟩ : ByteArray), (⟨#[115, 101, 110, 100]⟩ : ByteArray), (⟨#[100, 111, 110, 101]⟩ : ByteArray)] : List ByteArray)) (inner := [.string (⟨#[114, 101, 97, 100]⟩ : ByteArray), .string (⟨#[108, 111, 99, 107]⟩ : ByteArray), .string (⟨#[119, 111, 114, 107]⟩ : ByteArray), .string (⟨#[102, 114, 101, 101]⟩ : ByteArray), .string (⟨#[115, 101, 110, 100]⟩ : ByteArray), .string (⟨#[100, 111, 110, 101]⟩ : ByteArray)]) (ok := fun _ => True) (okp := fun _ => True) ?hr ?hp (fun _ hk => hk) trivial (Below.refl _ _) (Nat.le_refl _) (by simp) ?_; (case hd => rfl); (case hg => rfl); (case hr => first | (go_simp; done) | (go_simp; rfl)); (case hp => exact (Reps.one (show Kd.M Kd.string _ _ _ (⟨#[114, 101, 97, 100]⟩ : ByteArray) [.string (⟨#[114, 101, 97, 100]⟩ : ByteArray)] from rfl) (Reps.one (show Kd.M Kd.string _ _ _ (⟨#[108, 111, 99, 107]⟩ : ByteArray) [.string (⟨#[108, 111, 99, 107]⟩ : ByteArray)] from rfl) (Reps.one (show Kd.M Kd.string _ _ _ (⟨#[119, 111, 114, 107]⟩ : ByteArray) [.string (⟨#[119, 111, 114, 107]⟩ : ByteArray)] from rfl) (Reps.one (show Kd.M Kd.string _ _ _ (⟨#[102, 114, 101, 101]⟩ : ByteArray) [.string (⟨#[102, 114, 101, 101]⟩ : ByteArray)] from rfl) (Reps.one (show Kd.M Kd.string _ _ _ (⟨#[115, 101, 110, 100]⟩ : ByteArray) [.string (⟨#[115, 101, 110, 100]⟩ : ByteArray)] from rfl) (Reps.one (show Kd.M Kd.string _ _ _ (⟨#[100, 111, 110, 101]⟩ : ByteArray) [.string (⟨#[100, 111, 110, 101]⟩ : ByteArray)] from rfl) (Reps.none _ _)))))))); intro v12 w6 ho7 hb hg_ hnew_; clear hg_ hnew_; (first | rw [← Ny1.out] at ho7 | (simp only [Int.reduceToNat] at ho7; rw [← Ny1.out] at ho7)); have HO11 := Aside0.mk (Kd.R_lower ho7 (below_size bl_)); replace HB := hs_ hb; clear hb ho7; obtain ⟨Ao8, co8, eo8⟩ := Kd.R_slice HO11.out; subst eo8; have p9 : 0 ≤ (a0 : Int) := od_; have q9 : a0 < (y1.length : Int) := od_; obtain ⟨ad9, e9, hx9_0⟩ := Kd.at_string (Kd.R_reads' HO11.out).2.2 a0 p9 q9; cases e9; replace p9 := eq_true p9; replace q9 := eq_true q9))
    go_ret
    exact ⟨sq_, bl_⟩
   ·rw [if_neg c5] at H
    exact absurd H (by simp)
  ·rw [if_neg c4] at H
   exact absurd H (by simp)
 ·replace c3 := gf_ c3
  subst c3
  replace H := in_ H
  obtain rfl := si_ H
  go_enter func72, ntmps72
  go_wp2_with (first | ((with_reducible refine gd_ 71 4 func71 #[.int .i64 a0, .int .i64 0, .int .i64 5] (impl_within.calls a0 0 5 false _ A2.out) fun nd => ?_)))
  go_ret
  exact ⟨sq_, bl_⟩
/-! ### impl_isTime: function 73 -/
def impl_isTime.f (a0 : Int) : Option (Bool) := (impl_within.f a0 0 1000000000).bind fun t1 => (some t1)
theorem impl_isTime.calls (a0 : Int) (r : Bool) (w : World) (h : impl_isTime.f a0 = some r) :
  Calls Tryz.prog 73 #[.int .i64 a0] w fun e w' => e = .returned (.bool r) ∧ Drawn0 w w' := by
 have H := h
 unfold impl_isTime.f at H
 clear h
 obtain ⟨t1, A2, H⟩ := ob_ H
 obtain rfl := si_ H
 go_enter func73, ntmps73
 go_wp2_with (first | ((with_reducible refine gd_ 71 4 func71 #[.int .i64 a0, .int .i64 0, .int .i64 1000000000] (impl_within.calls a0 0 1000000000 t1 _ A2.out) fun nd => ?_)))
 go_ret
 exact ⟨sp_, dr_⟩
/-! ### slices_Equal_int_int: function 74 -/
def slices_Equal_int_int.l0 : Nat → List Int → List Int → Int → Int → Option (Bool)
 | 0, _, _, _, _ => none
 | k + 1, x0, x1, x12, x13 => if x13 < x12 then (if 0 ≤ x13 then (if x13 < (x0.length : Int) then (if x13 < (x1.length : Int) then (if (rd x0 x13) = (rd x1 x13) then (slices_Equal_int_int.l0 k x0 x1 x12 (wrap64 (x13 + 1))) else (some false)) else (none)) else (none)) else (none)) else (some true)
def slices_Equal_int_int.f (k : Nat) (l0 : List Int) (l1 : List Int) : Option (Bool) := if (l0.length : Int) = (l1.length : Int) then (slices_Equal_int_int.l0 k l0 l1 (l0.length : Int) 0) else (some false)
theorem slices_Equal_int_int.calls (k : Nat) (A0 : Option Addr) (c0 : Nat) (l0 : List Int) (A1 : Option Addr) (c1 : Nat) (l1 : List Int) (r : Bool) (w : World) (hr0 : Kd.C (Kd.int .i64) w A0 l0.length l0) (hc0 : l0.length ≤ c0) (hr1 : Kd.C (Kd.int .i64) w A1 l1.length l1) (hc1 : l1.length ≤ c1) (h : slices_Equal_int_int.f k l0 l1 = some r) :
  Calls Tryz.prog 74 #[.slice A0 l0.length c0, .slice A1 l1.length c1] w fun e w' => e = .returned (.bool r) ∧ Drawn0 w w' := by
 have HR0 := Aside0.mk hr0
 have HC0 := Aside0.mk hc0
 clear hr0 hc0
 have HR1 := Aside0.mk hr1
 have HC1 := Aside0.mk hc1
 clear hr1 hc1
 have H := h
 unfold slices_Equal_int_int.f at H
 clear h
 by_cases c3 : (l0.length : Int) = (l1.length : Int)
 rotate_left
 ·rw [if_neg c3] at H
  have c3b0 := ef_ c3
  have c3b1 := nt_ c3
  have c3b2 : (l0.length == l1.length) = false := by first | simpa using c3 | (simp at c3 ⊢; omega)
  obtain rfl := si_ H
  go_enter func74, ntmps74
  go_wp2
  repeat (go_quiet (fail); try go_wp2)
  go_ret
  exact ⟨sp_, dr_⟩
 rw [if_pos c3] at H
 have c3b0 := et_ c3
 have c3b1 := nf_ c3
 have c3b2 : (l0.length == l1.length) = true := by first | simpa using c3 | (simp at c3 ⊢; omega)
 clear c3
 have H' := Aside0.mk H
 clear H
 go_enter func74, ntmps74
 go_wp2
 repeat (go_quiet (fail); try go_wp2)
 go_loopg [13] k (fun kq v13 w' => ∃ (x13_1 : Int), v13 = .int .i64 x13_1 ∧ Aside0 (slices_Equal_int_int.l0 kq l0 l1 (l0.length : Int) x13_1 = some r) ∧ Aside0 (kq ≤ k) ∧ Drawn0 w w')
 case atStart => exact ⟨(0), sp_, H', ⟨Nat.le_refl _⟩, dr_⟩
 case round =>
  clear H'
  obtain ⟨x13_1, rfl, HA, HK1, ⟨m1, rfl⟩⟩ := hrel
  cases gk with
  | zero => exact absurd HA.out (by simp [slices_Equal_int_int.l0])
  | succ k1 =>
   have H := HA.out
   clear HA
   simp only [slices_Equal_int_int.l0] at H
   by_cases c4 : x13_1 < (l0.length : Int)
   rotate_left
   ·rw [if_neg c4] at H
    replace c4 := df_ c4
    obtain rfl := si_ H
    go_wp2
    repeat (go_quiet (fail); try go_wp2)
    go_ret
    exact ⟨sp_, dr_⟩
   rw [if_pos c4] at H
   replace c4 := dt_ c4
   obtain ⟨c5, H⟩ := og_ H
   replace c5 := dt_ c5
   obtain ⟨c6, H⟩ := og_ H
   replace c6 := dt_ c6
   obtain ⟨c7, H⟩ := og_ H
   replace c7 := dt_ c7
   by_cases c8 : (rd l0 x13_1) = (rd l1 x13_1)
   ·rw [if_pos c8] at H
    have := et_ c8
    replace c8 := nf_ c8
    have H' := Aside0.mk H
    clear H
    have p2 : 0 ≤ (x13_1 : Int) := od_
    have q2 : x13_1 < (l0.length : Int) := od_
    obtain ⟨ad2, e2, hx2_0⟩ := Kd.at_int HR0.out x13_1 p2 q2
    cases e2
    replace p2 := eq_true p2
    replace q2 := eq_true q2
    have p9 : 0 ≤ (x13_1 : Int) := od_
    have q9 : x13_1 < (l1.length : Int) := od_
    obtain ⟨ad9, e9, hx9_0⟩ := Kd.at_int HR1.out x13_1 p9 q9
    cases e9
    replace p9 := eq_true p9
    replace q9 := eq_true q9
    go_wp2
    repeat (go_quiet (fail); try go_wp2)
    go_roundg k1
    case measure => have := HK1.out; omega
    case rel => exact ⟨(wrap64 (x13_1 + 1)), sp_, H', ⟨by have := HK1.out; omega⟩, dr_⟩
   ·rw [if_neg c8] at H
    have c8b0 := ef_ c8
    have c8b1 := nt_ c8
    obtain rfl := si_ H
    have p2 : 0 ≤ (x13_1 : Int) := od_
    have q2 : x13_1 < (l0.length : Int) := od_
    obtain ⟨ad2, e2, hx2_0⟩ := Kd.at_int HR0.out x13_1 p2 q2
    cases e2
    replace p2 := eq_true p2
    replace q2 := eq_true q2
    have p9 : 0 ≤ (x13_1 : Int) := od_
    have q9 : x13_1 < (l1.length : Int) := od_
    obtain ⟨ad9, e9, hx9_0⟩ := Kd.at_int HR1.out x13_1 p9 q9
    cases e9
    replace p9 := eq_true p9
    replace q9 := eq_true q9
    go_wp2
    repeat (go_quiet (fail); try go_wp2)
    go_ret
    exact ⟨sp_, dr_⟩
/-! ### impl_TaskOk: function 32 -/
mutual
def impl_TaskOk.j0 : Nat → Int → Bool → List Int → Int → List Int → Int → Int → Int → Int → Int → List Int → Option (Bool)
 | 0, _, _, _, _, _, _, _, _, _, _, _ => none
 | k + 1, x1, x39, x30, x12, x14, x16, x24, x18, x22, x25, x27 => if x39 = true then (some false) else (if x12 = 0 then (if (x14.length : Int) > 0 then (some false) else (impl_TaskOk.j1 k (x14.length : Int) x30 x12 x14 x16 x24 x18 x22 x25 x27)) else ((impl_Needs.f k x30 x12 x14 x16 x24 x18 x22 x25 x27 x1).bind fun t43 => ((slices_Equal_int_int.f k x14 t43).bind fun t61 => (if t61 = true then (impl_TaskOk.j1 k (x14.length : Int) x30 x12 x14 x16 x24 x18 x22 x25 x27) else (some false)))))
def impl_TaskOk.j1 : Nat → Int → List Int → Int → List Int → Int → Int → Int → Int → Int → List Int → Option (Bool)
 | 0, _, _, _, _, _, _, _, _, _, _ => none
 | k + 1, x5, x30, x12, x14, x16, x24, x18, x22, x25, x27 => if x12 = 1 then ((impl_within.f x16 0 (wrap64 (x5 - 1))).bind fun t53 => (impl_TaskOk.j2 k t53 x30 x12 x14 x16 x24 x18 x22 x25 x27)) else (if x12 = 2 then (if x16 = x5 then (impl_TaskOk.j2 k (decide (x5 > 0)) x30 x12 x14 x16 x24 x18 x22 x25 x27) else (impl_TaskOk.j2 k false x30 x12 x14 x16 x24 x18 x22 x25 x27)) else (if x12 = 3 then ((impl_within.f x16 1 x5).bind fun t59 => (impl_TaskOk.j2 k t59 x30 x12 x14 x16 x24 x18 x22 x25 x27)) else (impl_TaskOk.j2 k (x16 == 0) x30 x12 x14 x16 x24 x18 x22 x25 x27)))
def impl_TaskOk.j2 : Nat → Bool → List Int → Int → List Int → Int → Int → Int → Int → Int → List Int → Option (Bool)
 | 0, _, _, _, _, _, _, _, _, _, _ => none
 | k + 1, x6, x30, x12, x14, x16, x24, x18, x22, x25, x27 => if x6 = true then (if x12 < 3 then (if x18 = (-1) then (if x22 = (-1) then (if x25 = 0 then (some ((x27.length : Int) == 0)) else (some false)) else (some false)) else (some false)) else ((impl_isTime.f x18).bind fun t64 => (if t64 = true then (impl_TaskOk.j3 k (decide (x18 < x24)) x30 x12 x14 x16 x24 x18 x22 x25 x27) else (impl_TaskOk.j3 k true x30 x12 x14 x16 x24 x18 x22 x25 x27)))) else (some false)
def impl_TaskOk.j3 : Nat → Bool → List Int → Int → List Int → Int → Int → Int → Int → Int → List Int → Option (Bool)
 | 0, _, _, _, _, _, _, _, _, _, _ => none
 | k + 1, x46, x30, x12, x14, x16, x24, x18, x22, x25, x27 => if x46 = true then (some false) else (if x12 = 5 then ((impl_isTime.f x22).bind fun t67 => (if t67 = true then (some (decide (x22 ≥ x18))) else (some false))) else (some (x22 == (-1))))
end
def impl_TaskOk.f (k : Nat) (l0_0 : List Int) (a0_1 : Int) (l0_2 : List Int) (a0_3 : Int) (a0_4 : Int) (a0_5 : Int) (a0_6 : Int) (a0_7 : Int) (l0_8 : List Int) (a1 : Int) : Option (Bool) := (impl_within.f a1 1 5).bind fun t68 => (if t68 = true then ((impl_PcName.f a0_1).bind fun t49 => (if t49.toList = ([] : List UInt8) then (impl_TaskOk.j0 k a1 true l0_0 a0_1 l0_2 a0_3 a0_4 a0_5 a0_6 a0_7 l0_8) else (if (l0_0.length : Int) > 300 then (impl_TaskOk.j0 k a1 true l0_0 a0_1 l0_2 a0_3 a0_4 a0_5 a0_6 a0_7 l0_8) else (if (l0_8.length : Int) > 200 then (impl_TaskOk.j0 k a1 true l0_0 a0_1 l0_2 a0_3 a0_4 a0_5 a0_6 a0_7 l0_8) else ((impl_isTime.f a0_4).bind fun t73 => (if t73 = true then ((impl_isTime.f a0_7).bind fun t60 => (impl_TaskOk.j0 k a1 (!t60) l0_0 a0_1 l0_2 a0_3 a0_4 a0_5 a0_6 a0_7 l0_8)) else (impl_TaskOk.j0 k a1 true l0_0 a0_1 l0_2 a0_3 a0_4 a0_5 a0_6 a0_7 l0_8))))))) else (impl_TaskOk.j0 k a1 true l0_0 a0_1 l0_2 a0_3 a0_4 a0_5 a0_6 a0_7 l0_8))
theorem impl_TaskOk.calls (k : Nat) (A0_0 : Option Addr) (c0_0 : Nat) (l0_0 : List Int) (a0_1 : Int) (A0_2 : Option Addr) (c0_2 : Nat) (l0_2 : List Int) (a0_3 : Int) (a0_4 : Int) (a0_5 : Int) (a0_6 : Int) (a0_7 : Int) (A0_8 : Option Addr) (c0_8 : Nat) (l0_8 : List Int) (a1 : Int) (r : Bool) (w : World) (hr0_0 : Kd.C (Kd.int .u8) w A0_0 l0_0.length l0_0) (hc0_0 : l0_0.length ≤ c0_0) (hr0_2 : Kd.C (Kd.int .i64) w A0_2 l0_2.length l0_2) (hc0_2 : l0_2.length ≤ c0_2) (hr0_8 : Kd.C (Kd.int .u8) w A0_8 l0_8.length l0_8) (hc0_8 : l0_8.length ≤ c0_8) (h : impl_TaskOk.f k l0_0 a0_1 l0_2 a0_3 a0_4 a0_5 a0_6 a0_7 l0_8 a1 = some r) :
  Calls Tryz.prog 32 #[.agg #[.slice A0_0 l0_0.length c0_0, .int .i64 a0_1, .slice A0_2 l0_2.length c0_2, .int .i64 a0_3, .int .i64 a0_4, .int .i64 a0_5, .int .i64 a0_6, .int .i64 a0_7, .slice A0_8 l0_8.length c0_8], .int .i64 a1] w fun e w' => e = .returned (.bool r) ∧ Below w.heap.size w w' := by
 have hu51 := underlying51
 have HR0_0 := Aside0.mk hr0_0
 have HC0_0 := Aside0.mk hc0_0
 clear hr0_0 hc0_0
 have HR0_2 := Aside0.mk hr0_2
 have HC0_2 := Aside0.mk hc0_2
 clear hr0_2 hc0_2
 have HR0_8 := Aside0.mk hr0_8
 have HC0_8 := Aside0.mk hc0_8
 clear hr0_8 hc0_8
 have HB := Aside0.mk (Below.refl w.heap.size w)
 have H := h
 unfold impl_TaskOk.f at H
 clear h
 have HC3 := Aside0.mk H
 clear H
 go_enter func32, ntmps32
 go_upto_region 1 with (first | ((with_reducible refine gt_ 2 ?_); (try (refine gate_guard (by rfl) ?_; dsimp only)); refine bo_ 2 #[.slice A0_0 l0_0.length c0_0, .int .i64 a0_1, .slice A0_2 l0_2.length c0_2, .int .i64 a0_3, .int .i64 a0_4, .int .i64 a0_5, .int .i64 a0_6, .int .i64 a0_7, .slice A0_8 l0_8.length c0_8] 51 ?_; intro gb9 hg w4 BK9 hb; have GW9 := gw_ (w := w) hg; replace HB := hs_ hb; clear hb hg))
 (try simp only [Act.put, List.setIfInBounds_toArray, List.set_cons_zero, List.set_cons_succ])
 go_cut [39] (fun v39 wc => ∃ (kq : Nat) (x39_2 : Bool), v39 = .bool x39_2 ∧ Aside0 (impl_TaskOk.j0 kq a1 x39_2 l0_0 a0_1 l0_2 a0_3 a0_4 a0_5 a0_6 a0_7 l0_8 = some r) ∧ Aside0 (kq ≤ k) ∧ Aside0 (wc.heap[gb9]? = some (.cells #[(.slice A0_0 l0_0.length c0_0), .int .i64 a0_1, (.slice A0_2 l0_2.length c0_2), .int .i64 a0_3, .int .i64 a0_4, .int .i64 a0_5, .int .i64 a0_6, .int .i64 a0_7, (.slice A0_8 l0_8.length c0_8)] 51 (0, 0))) ∧ Aside0 (Below w.heap.size w wc))
 case first =>
  have H := HC3.out
  clear HC3
  obtain ⟨t68, A5, H⟩ := ob_ H
  by_cases c6 : t68 = true
  rotate_left
  ·replace c6 := gf_ c6
   subst c6
   replace H := in_ H
   have H' := Aside0.mk H
   clear H
   go_wp2_with (first | ((with_reducible refine gd_ 71 8 func71 #[.int .i64 a1, .int .i64 1, .int .i64 5] (impl_within.calls a1 1 5 false _ A5.out) fun nd => ?_)))
   go_meet
   case rel => exact ⟨_, (true), sp_, H', ⟨by first | omega | exact Nat.le_refl _⟩, ⟨ch_ BK9.out⟩, ⟨bl_⟩⟩
  subst c6
  replace H := ip_ H
  obtain ⟨t49, A7, H⟩ := ob_ H
  by_cases c8 : t49.toList = ([] : List UInt8)
  ·rw [if_pos c8] at H
   have c8b0 := et_ c8
   have c8b1 := nf_ c8
   clear c8
   (first | rw [c8b0] | (simp only [i64_w, i32_w]; rw [c8b0]) | skip)
   have H' := Aside0.mk H
   clear H
   go_wp2_with (first | ((with_reducible refine gd_ 71 8 func71 #[.int .i64 a1, .int .i64 1, .int .i64 5] (impl_within.calls a1 1 5 true _ A5.out) fun nd => ?_); refine by9_ BK9 ?_; intros) | (go_at_call 72; (with_reducible refine (impl_PcName.calls a0_1 t49 _ A7.out).mono ?_); rintro e w10 ⟨rfl, hb⟩; replace BK9 := kb_ BK9 hb; replace HB := hs_ hb; clear hb))
   go_meet
   case rel => exact ⟨_, (true), sp_, H', ⟨by first | omega | exact Nat.le_refl _⟩, ⟨ch_ BK9.out⟩, ⟨bl_⟩⟩
  rw [if_neg c8] at H
  have c8b0 := ef_ c8
  have c8b1 := nt_ c8
  (first | rw [c8b0] | (simp only [i64_w, i32_w]; rw [c8b0]) | skip)
  by_cases c11 : (l0_0.length : Int) > 300
  ·rw [if_pos c11] at H
   have c11b0 := dt_ c11
   have c11b1 : decide (300 < l0_0.length) = true := decide_eq_true (by omega)
   clear c11
   have H' := Aside0.mk H
   clear H
   go_wp2_with (first | ((with_reducible refine gd_ 71 8 func71 #[.int .i64 a1, .int .i64 1, .int .i64 5] (impl_within.calls a1 1 5 true _ A5.out) fun nd => ?_); refine by9_ BK9 ?_; intros) | (go_at_call 72; (with_reducible refine (impl_PcName.calls a0_1 t49 _ A7.out).mono ?_); rintro e w13 ⟨rfl, hb⟩; replace BK9 := kb_ BK9 hb; replace HB := hs_ hb; clear hb; refine by9_ BK9 ?_; intros))
   go_meet
   case rel => exact ⟨_, (true), sp_, H', ⟨by first | omega | exact Nat.le_refl _⟩, ⟨ch_ BK9.out⟩, ⟨bl_⟩⟩
  rw [if_neg c11] at H
  have c11b0 := df_ c11
  have c11b1 : decide (300 < l0_0.length) = false := decide_eq_false (by omega)
  clear c11
  by_cases c15 : (l0_8.length : Int) > 200
  ·rw [if_pos c15] at H
   have c15b0 := dt_ c15
   have c15b1 : decide (200 < l0_8.length) = true := decide_eq_true (by omega)
   clear c15
   have H' := Aside0.mk H
   clear H
   go_wp2_with (first | ((with_reducible refine gd_ 71 8 func71 #[.int .i64 a1, .int .i64 1, .int .i64 5] (impl_within.calls a1 1 5 true _ A5.out) fun nd => ?_); refine by9_ BK9 ?_; intros) | (go_at_call 72; (with_reducible refine (impl_PcName.calls a0_1 t49 _ A7.out).mono ?_); rintro e w17 ⟨rfl, hb⟩; replace BK9 := kb_ BK9 hb; replace HB := hs_ hb; clear hb; refine by9_ BK9 ?_; intros))
   go_meet
   case rel => exact ⟨_, (true), sp_, H', ⟨by first | omega | exact Nat.le_refl _⟩, ⟨ch_ BK9.out⟩, ⟨bl_⟩⟩
  rw [if_neg c15] at H
  have c15b0 := df_ c15
  have c15b1 : decide (200 < l0_8.length) = false := decide_eq_false (by omega)
  clear c15
  obtain ⟨t73, A19, H⟩ := ob_ H
  by_cases c20 : t73 = true
  ·subst c20
   replace H := ip_ H
   obtain ⟨t60, A21, H⟩ := ob_ H
   have H' := Aside0.mk H
   clear H
   go_wp2_with (first | ((with_reducible refine gd_ 71 8 func71 #[.int .i64 a1, .int .i64 1, .int .i64 5] (impl_within.calls a1 1 5 true _ A5.out) fun nd => ?_); refine by9_ BK9 ?_; intros) | (go_at_call 72; (with_reducible refine (impl_PcName.calls a0_1 t49 _ A7.out).mono ?_); rintro e w23 ⟨rfl, hb⟩; replace BK9 := kb_ BK9 hb; replace HB := hs_ hb; clear hb; refine by9_ BK9 ?_; intros) | (go_at_call 73; (with_reducible refine (impl_isTime.calls a0_4 true _ A19.out).mono ?_); rintro e w' ⟨rfl, nd, rfl⟩) | (go_at_call 73; (with_reducible refine (impl_isTime.calls a0_7 t60 _ A21.out).mono ?_); rintro e w' ⟨rfl, nd, rfl⟩))
   go_meet
   case rel => exact ⟨_, (!t60), sp_, H', ⟨by first | omega | exact Nat.le_refl _⟩, ⟨ch_ BK9.out⟩, ⟨bl_⟩⟩
  replace c20 := gf_ c20
  subst c20
  replace H := in_ H
  have H' := Aside0.mk H
  clear H
  go_wp2_with (first | ((with_reducible refine gd_ 71 8 func71 #[.int .i64 a1, .int .i64 1, .int .i64 5] (impl_within.calls a1 1 5 true _ A5.out) fun nd => ?_); refine by9_ BK9 ?_; intros) | (go_at_call 72; (with_reducible refine (impl_PcName.calls a0_1 t49 _ A7.out).mono ?_); rintro e w26 ⟨rfl, hb⟩; replace BK9 := kb_ BK9 hb; replace HB := hs_ hb; clear hb; refine by9_ BK9 ?_; intros) | (go_at_call 73; (with_reducible refine (impl_isTime.calls a0_4 false _ A19.out).mono ?_); rintro e w' ⟨rfl, nd, rfl⟩))
  go_meet
  case rel => exact ⟨_, (true), sp_, H', ⟨by first | omega | exact Nat.le_refl _⟩, ⟨ch_ BK9.out⟩, ⟨bl_⟩⟩
 case rest =>
  clear HC3
  obtain ⟨kq, x39_2, rfl, HA, HJ2, BK9, HB⟩ := hcut
  cases kq with
  | zero => exact absurd HA.out (by simp [impl_TaskOk.j0])
  | succ kj2 =>
   have H := HA.out
   clear HA
   simp only [impl_TaskOk.j0] at H
   by_cases c28 : x39_2 = true
   ·subst c28
    replace H := ip_ H
    obtain rfl := si_ H
    go_wp2
    go_ret
    exact ⟨sq_, bl_⟩
   replace c28 := gf_ c28
   subst c28
   replace H := in_ H
   have HC29 := Aside0.mk H
   clear H
   refine by9_ BK9 ?_; intros
   go_upto_if 45 with (fail)
   go_cut [] (fun wc => ∃ (kq : Nat), Aside0 (impl_TaskOk.j1 kq (l0_2.length : Int) l0_0 a0_1 l0_2 a0_3 a0_4 a0_5 a0_6 a0_7 l0_8 = some r) ∧ Aside0 (kq ≤ kj2) ∧ Aside0 (wc.heap[gb9]? = some (.cells #[(.slice A0_0 l0_0.length c0_0), .int .i64 a0_1, (.slice A0_2 l0_2.length c0_2), .int .i64 a0_3, .int .i64 a0_4, .int .i64 a0_5, .int .i64 a0_6, .int .i64 a0_7, (.slice A0_8 l0_8.length c0_8)] 51 (0, 0))) ∧ Aside0 (Below w.heap.size w wc))
   case first =>
    have H := HC29.out
    clear HC29
    by_cases c31 : a0_1 = 0
    ·rw [if_pos c31] at H
     have c31b0 := et_ c31
     have c31b1 := nf_ c31
     clear c31
     (first | rw [c31b0] | (simp only [i64_w, i32_w]; rw [c31b0]) | skip)
     by_cases c32 : (l0_2.length : Int) > 0
     ·rw [if_pos c32] at H
      have c32b0 := dt_ c32
      have c32b1 : decide (0 < l0_2.length) = true := decide_eq_true (by omega)
      clear c32
      obtain rfl := si_ H
      go_wp2
      go_ret
      exact ⟨sq_, bl_⟩
     rw [if_neg c32] at H
     have c32b0 := df_ c32
     have c32b1 : decide (0 < l0_2.length) = false := decide_eq_false (by omega)
     clear c32
     have H' := Aside0.mk H
     clear H
     go_wp2
     go_meet
     case rel => exact ⟨_, H', ⟨by have := HJ2.out; first | omega | exact Nat.le_refl _⟩, ⟨ch_ BK9.out⟩, ⟨bl_⟩⟩
    rw [if_neg c31] at H
    have c31b0 := ef_ c31
    have c31b1 := nt_ c31
    (first | rw [c31b0] | (simp only [i64_w, i32_w]; rw [c31b0]) | skip)
    obtain ⟨t43, A33, H⟩ := ob_ H
    obtain ⟨t61, A34, H⟩ := ob_ H
    by_cases c35 : t61 = true
    ·subst c35
     replace H := ip_ H
     have H' := Aside0.mk H
     clear H
     try go_wp2
     have n0_ := Aside0.mk (blk_drew BK9.out)
     have n1_ := Aside0.mk (below_drew1 HB.out)
     clear BK9
     clear HB
     have BK9 := n0_
     have HB := n1_
     clear n0_ n1_
     refine start_ (n := 7) (S := fun w' => w'.cell? ⟨gb9, 0, none⟩ = some (.slice A0_0 l0_0.length c0_0) ∧ w'.cell? ⟨gb9, 1, none⟩ = some (.int .i64 a0_1) ∧ w'.cell? ⟨gb9, 2, none⟩ = some (.slice A0_2 l0_2.length c0_2) ∧ w'.cell? ⟨gb9, 3, none⟩ = some (.int .i64 a0_3) ∧ w'.cell? ⟨gb9, 4, none⟩ = some (.int .i64 a0_4) ∧ w'.cell? ⟨gb9, 5, none⟩ = some (.int .i64 a0_5) ∧ w'.cell? ⟨gb9, 6, none⟩ = some (.int .i64 a0_6) ∧ w'.cell? ⟨gb9, 7, none⟩ = some (.int .i64 a0_7) ∧ w'.cell? ⟨gb9, 8, none⟩ = some (.slice A0_8 l0_8.length c0_8)) (ds := []) #[false, false, false, false, false, false, false] (by kernel_rfl) rfl rfl ⟨cy_ BK9 0, cy_ BK9 1, cy_ BK9 2, cy_ BK9 3, cy_ BK9 4, cy_ BK9 5, cy_ BK9 6, cy_ BK9 7, cy_ BK9 8⟩ (fun hHeld => ?_)
     generalize wc.drew = w36 at BK9 HB hHeld ⊢
     refine pure_ (i := 0) (N := some 48) (v := ?_) (a' := ?_) #[true, false, false, false, false, false, false] rfl rfl (by kernel_rfl) (fun _ _ _ h => h) (Or.inl ⟨by rfl, ?_⟩) ?_ ?_
     rotate_left
     ·intro w'
      go_simp
      with_reducible rfl
     rotate_left
     ·simp only [Act.put, q_]
      rfl
     refine pure_ (i := 3) (N := some 51) (v := ?_) (a' := ?_) #[true, false, false, true, false, false, false] rfl rfl (by kernel_rfl) (fun _ _ _ h => h) (Or.inl ⟨by rfl, ?_⟩) ?_ ?_
     rotate_left
     ·intro w'
      go_simp
      with_reducible rfl
     rotate_left
     ·simp only [Act.put, q_]
      rfl
     refine take_ (i := 1) (N := some 49) (v := ?_) (a' := ?_) #[true, true, false, true, false, false, false] rfl rfl (by kernel_rfl) (fun _ _ _ h => h) (Or.inl ⟨by rfl, ?_⟩) hHeld ?_ ?_
     rotate_left
     ·rintro w' ⟨s0, s1, s2, s3, s4, s5, s6, s7, s8⟩
      go_simp
      with_reducible rfl
     rotate_left
     ·simp only [Act.put, q_]
      rfl
     refine take_ (i := 2) (N := some 50) (v := ?_) (a' := ?_) #[true, true, true, true, false, false, false] rfl rfl (by kernel_rfl) (fun _ _ _ h => h) (Or.inl ⟨by rfl, ?_⟩) hHeld ?_ ?_
     rotate_left
     ·rintro w' ⟨s0, s1, s2, s3, s4, s5, s6, s7, s8⟩
      go_simp
      with_reducible rfl
     rotate_left
     ·simp only [Act.put, q_]
      rfl
     refine one_ (i := 4) (N := some 52) #[true, true, true, true, true, false, false] rfl rfl (by kernel_rfl) (by decide) (fun K hK => ?_)
     refine goes_ func25 (by kernel_rfl) rfl #[.agg #[.slice A0_0 l0_0.length c0_0, .int .i64 a0_1, .slice A0_2 l0_2.length c0_2, .int .i64 a0_3, .int .i64 a0_4, .int .i64 a0_5, .int .i64 a0_6, .int .i64 a0_7, .slice A0_8 l0_8.length c0_8], .int .i64 a1] (by rfl) rfl rfl gl_ ?_
     with_reducible refine (impl_Needs.calls kj2 _ _ l0_0 a0_1 _ _ l0_2 a0_3 a0_4 a0_5 a0_6 a0_7 _ _ l0_8 a1 t43 _ ?side1 ?side2 ?side3 ?side4 ?side5 ?side6 A33.out).mono ?_
     (case side1 => exact ca_ (Kd.C_below HR0_0.out HB.out))
     (case side2 => exact HC0_0.out)
     (case side3 => exact ca_ (Kd.C_below HR0_2.out HB.out))
     (case side4 => exact HC0_2.out)
     (case side5 => exact ca_ (Kd.C_below HR0_8.out HB.out))
     (case side6 => exact HC0_8.out)
     rintro e w37 ⟨v74, rfl, ho0, hb⟩
     refine ⟨_, rfl, ?_⟩
     have n0_ := Aside0.mk (Kd.R_lower ho0 (below_size bl_))
     have n1_ := Aside0.mk (blk_below (bk_ BK9) hb)
     have n2_ := Aside0.mk (below_step bl_ hb)
     clear BK9
     clear HB
     have HO50 := n0_
     have BK9 := n1_
     have HB := n2_
     clear n0_ n1_ n2_
     (try clear hb)
     (try clear hb2)
     (try clear hk)
     (try clear hi)
     (try clear ho0)
     obtain ⟨Ao38, co38, eo38⟩ := Kd.R_slice HO50.out
     (first | subst eo38 | (injection eo38 with f1_ f2_ f3_; have f4_ := f1_.symm; have f5_ := f3_.symm; clear f1_ f2_ f3_; subst f4_; subst f5_))
     refine hK.out _ _ ⟨cy_ BK9 0, cy_ BK9 1, cy_ BK9 2, cy_ BK9 3, cy_ BK9 4, cy_ BK9 5, cy_ BK9 6, cy_ BK9 7, cy_ BK9 8⟩ (fun hHeld => ?_)
     clear hK K
     refine norm_ (a' := ?_) ?_ ?_
     rotate_left
     ·show Act.put _ (some 52) _ = _
      simp only [Act.put, q_]
      rfl
     refine one_ (i := 5) (N := some 53) #[true, true, true, true, true, true, false] rfl rfl (by kernel_rfl) (by decide) (fun K hK => ?_)
     refine goes_ func74 (by kernel_rfl) rfl #[.slice A0_2 l0_2.length c0_2, .slice Ao38 t43.length co38] (by rfl) rfl rfl gl_ ?_
     with_reducible refine (slices_Equal_int_int.calls kj2 _ _ l0_2 _ _ t43 true _ ?side1 ?side2 ?side3 ?side4 A34.out).mono ?_
     (case side1 => exact ca_ (Kd.C_below HR0_2.out HB.out))
     (case side2 => exact HC0_2.out)
     (case side3 => exact ca_ ((Kd.R_reads' HO50.out).2.2))
     (case side4 => exact (Kd.R_reads' HO50.out).2.1)
     rintro e w' ⟨rfl, nd, rfl⟩
     refine ⟨_, rfl, ?_⟩
     refine hK.out _ _ ⟨cy_ BK9 0, cy_ BK9 1, cy_ BK9 2, cy_ BK9 3, cy_ BK9 4, cy_ BK9 5, cy_ BK9 6, cy_ BK9 7, cy_ BK9 8⟩ (fun hHeld => ?_)
     clear hK K
     refine norm_ (a' := ?_) ?_ ?_
     rotate_left
     ·show Act.put _ (some 53) _ = _
      simp only [Act.put, q_]
      rfl
     refine pure_ (i := 6) (N := some 54) (v := ?_) (a' := ?_) #[true, true, true, true, true, true, true] rfl rfl (by kernel_rfl) (fun _ _ _ h => h) (Or.inl ⟨by rfl, ?_⟩) ?_ ?_
     rotate_left
     ·intro w'
      go_simp
      with_reducible rfl
     rotate_left
     ·simp only [Act.put, q_]
      rfl
     refine done_ (by kernel_rfl) ?_
     try go_wp2
     go_meet
     case rel => exact ⟨_, H', ⟨by have := HJ2.out; first | omega | exact Nat.le_refl _⟩, ⟨ch_ BK9.out⟩, ⟨bl_⟩⟩
    replace c35 := gf_ c35
    subst c35
    replace H := in_ H
    obtain rfl := si_ H
    try go_wp2
    have n0_ := Aside0.mk (blk_drew BK9.out)
    have n1_ := Aside0.mk (below_drew1 HB.out)
    clear BK9
    clear HB
    have BK9 := n0_
    have HB := n1_
    clear n0_ n1_
    refine start_ (n := 7) (S := fun w' => w'.cell? ⟨gb9, 0, none⟩ = some (.slice A0_0 l0_0.length c0_0) ∧ w'.cell? ⟨gb9, 1, none⟩ = some (.int .i64 a0_1) ∧ w'.cell? ⟨gb9, 2, none⟩ = some (.slice A0_2 l0_2.length c0_2) ∧ w'.cell? ⟨gb9, 3, none⟩ = some (.int .i64 a0_3) ∧ w'.cell? ⟨gb9, 4, none⟩ = some (.int .i64 a0_4) ∧ w'.cell? ⟨gb9, 5, none⟩ = some (.int .i64 a0_5) ∧ w'.cell? ⟨gb9, 6, none⟩ = some (.int .i64 a0_6) ∧ w'.cell? ⟨gb9, 7, none⟩ = some (.int .i64 a0_7) ∧ w'.cell? ⟨gb9, 8, none⟩ = some (.slice A0_8 l0_8.length c0_8)) (ds := []) #[false, false, false, false, false, false, false] (by kernel_rfl) rfl rfl ⟨cy_ BK9 0, cy_ BK9 1, cy_ BK9 2, cy_ BK9 3, cy_ BK9 4, cy_ BK9 5, cy_ BK9 6, cy_ BK9 7, cy_ BK9 8⟩ (fun hHeld => ?_)
    generalize wc.drew = w39 at BK9 HB hHeld ⊢
    refine pure_ (i := 0) (N := some 48) (v := ?_) (a' := ?_) #[true, false, false, false, false, false, false] rfl rfl (by kernel_rfl) (fun _ _ _ h => h) (Or.inl ⟨by rfl, ?_⟩) ?_ ?_
    rotate_left
    ·intro w'
     go_simp
     with_reducible rfl
    rotate_left
    ·simp only [Act.put, q_]
     rfl
    refine pure_ (i := 3) (N := some 51) (v := ?_) (a' := ?_) #[true, false, false, true, false, false, false] rfl rfl (by kernel_rfl) (fun _ _ _ h => h) (Or.inl ⟨by rfl, ?_⟩) ?_ ?_
    rotate_left
    ·intro w'
     go_simp
     with_reducible rfl
    rotate_left
    ·simp only [Act.put, q_]
     rfl
    refine take_ (i := 1) (N := some 49) (v := ?_) (a' := ?_) #[true, true, false, true, false, false, false] rfl rfl (by kernel_rfl) (fun _ _ _ h => h) (Or.inl ⟨by rfl, ?_⟩) hHeld ?_ ?_
    rotate_left
    ·rintro w' ⟨s0, s1, s2, s3, s4, s5, s6, s7, s8⟩
     go_simp
     with_reducible rfl
    rotate_left
    ·simp only [Act.put, q_]
     rfl
    refine take_ (i := 2) (N := some 50) (v := ?_) (a' := ?_) #[true, true, true, true, false, false, false] rfl rfl (by kernel_rfl) (fun _ _ _ h => h) (Or.inl ⟨by rfl, ?_⟩) hHeld ?_ ?_
    rotate_left
    ·rintro w' ⟨s0, s1, s2, s3, s4, s5, s6, s7, s8⟩
     go_simp
     with_reducible rfl
    rotate_left
    ·simp only [Act.put, q_]
     rfl
    refine one_ (i := 4) (N := some 52) #[true, true, true, true, true, false, false] rfl rfl (by kernel_rfl) (by decide) (fun K hK => ?_)
    refine goes_ func25 (by kernel_rfl) rfl #[.agg #[.slice A0_0 l0_0.length c0_0, .int .i64 a0_1, .slice A0_2 l0_2.length c0_2, .int .i64 a0_3, .int .i64 a0_4, .int .i64 a0_5, .int .i64 a0_6, .int .i64 a0_7, .slice A0_8 l0_8.length c0_8], .int .i64 a1] (by rfl) rfl rfl gl_ ?_
    with_reducible refine (impl_Needs.calls kj2 _ _ l0_0 a0_1 _ _ l0_2 a0_3 a0_4 a0_5 a0_6 a0_7 _ _ l0_8 a1 t43 _ ?side1 ?side2 ?side3 ?side4 ?side5 ?side6 A33.out).mono ?_
    (case side1 => exact ca_ (Kd.C_below HR0_0.out HB.out))
    (case side2 => exact HC0_0.out)
    (case side3 => exact ca_ (Kd.C_below HR0_2.out HB.out))
    (case side4 => exact HC0_2.out)
    (case side5 => exact ca_ (Kd.C_below HR0_8.out HB.out))
    (case side6 => exact HC0_8.out)
    rintro e w40 ⟨v74, rfl, ho0, hb⟩
    refine ⟨_, rfl, ?_⟩
    have n0_ := Aside0.mk (Kd.R_lower ho0 (below_size bl_))
    have n1_ := Aside0.mk (blk_below (bk_ BK9) hb)
    have n2_ := Aside0.mk (below_step bl_ hb)
    clear BK9
    clear HB
    have HO50 := n0_
    have BK9 := n1_
    have HB := n2_
    clear n0_ n1_ n2_
    (try clear hb)
    (try clear hb2)
    (try clear hk)
    (try clear hi)
    (try clear ho0)
    obtain ⟨Ao41, co41, eo41⟩ := Kd.R_slice HO50.out
    (first | subst eo41 | (injection eo41 with f1_ f2_ f3_; have f4_ := f1_.symm; have f5_ := f3_.symm; clear f1_ f2_ f3_; subst f4_; subst f5_))
    refine hK.out _ _ ⟨cy_ BK9 0, cy_ BK9 1, cy_ BK9 2, cy_ BK9 3, cy_ BK9 4, cy_ BK9 5, cy_ BK9 6, cy_ BK9 7, cy_ BK9 8⟩ (fun hHeld => ?_)
    clear hK K
    refine norm_ (a' := ?_) ?_ ?_
    rotate_left
    ·show Act.put _ (some 52) _ = _
     simp only [Act.put, q_]
     rfl
    refine one_ (i := 5) (N := some 53) #[true, true, true, true, true, true, false] rfl rfl (by kernel_rfl) (by decide) (fun K hK => ?_)
    refine goes_ func74 (by kernel_rfl) rfl #[.slice A0_2 l0_2.length c0_2, .slice Ao41 t43.length co41] (by rfl) rfl rfl gl_ ?_
    with_reducible refine (slices_Equal_int_int.calls kj2 _ _ l0_2 _ _ t43 false _ ?side1 ?side2 ?side3 ?side4 A34.out).mono ?_
    (case side1 => exact ca_ (Kd.C_below HR0_2.out HB.out))
    (case side2 => exact HC0_2.out)
    (case side3 => exact ca_ ((Kd.R_reads' HO50.out).2.2))
    (case side4 => exact (Kd.R_reads' HO50.out).2.1)
    rintro e w' ⟨rfl, nd, rfl⟩
    refine ⟨_, rfl, ?_⟩
    refine hK.out _ _ ⟨cy_ BK9 0, cy_ BK9 1, cy_ BK9 2, cy_ BK9 3, cy_ BK9 4, cy_ BK9 5, cy_ BK9 6, cy_ BK9 7, cy_ BK9 8⟩ (fun hHeld => ?_)
    clear hK K
    refine norm_ (a' := ?_) ?_ ?_
    rotate_left
    ·show Act.put _ (some 53) _ = _
     simp only [Act.put, q_]
     rfl
    refine pure_ (i := 6) (N := some 54) (v := ?_) (a' := ?_) #[true, true, true, true, true, true, true] rfl rfl (by kernel_rfl) (fun _ _ _ h => h) (Or.inl ⟨by rfl, ?_⟩) ?_ ?_
    rotate_left
    ·intro w'
     go_simp
     with_reducible rfl
    rotate_left
    ·simp only [Act.put, q_]
     rfl
    refine done_ (by kernel_rfl) ?_
    try go_wp2
    go_ret
    exact ⟨sq_, bl_⟩
   case rest =>
    clear HC29
    obtain ⟨kq, HA, HJ28, BK9, HB⟩ := hcut
    cases kq with
    | zero => exact absurd HA.out (by simp [impl_TaskOk.j1])
    | succ kj28 =>
     have H := HA.out
     clear HA
     simp only [impl_TaskOk.j1] at H
     have HC42 := Aside0.mk H
     clear H
     refine by9_ BK9 ?_; intros
     go_upto_block 0 with (fail)
     go_cut [6] (fun v6 wc => ∃ (kq : Nat) (x6_41 : Bool), v6 = .bool x6_41 ∧ Aside0 (impl_TaskOk.j2 kq x6_41 l0_0 a0_1 l0_2 a0_3 a0_4 a0_5 a0_6 a0_7 l0_8 = some r) ∧ Aside0 (kq ≤ kj28) ∧ Aside0 (wc.heap[gb9]? = some (.cells #[(.slice A0_0 l0_0.length c0_0), .int .i64 a0_1, (.slice A0_2 l0_2.length c0_2), .int .i64 a0_3, .int .i64 a0_4, .int .i64 a0_5, .int .i64 a0_6, .int .i64 a0_7, (.slice A0_8 l0_8.length c0_8)] 51 (0, 0))) ∧ Aside0 (Below w.heap.size w wc))
     case first =>
      have H := HC42.out
      clear HC42
      by_cases c44 : a0_1 = 1
      ·rw [if_pos c44] at H
       have c44b0 := et_ c44
       have c44b1 := nf_ c44
       clear c44
       (first | rw [c44b0] | (simp only [i64_w, i32_w]; rw [c44b0]) | skip)
       obtain ⟨t53, A45, H⟩ := ob_ H
       have H' := Aside0.mk H
       clear H
       refine by9_ BK9 ?_; intros
       go_wp2_with (first | ((with_reducible refine gd_ 71 66 func71 #[.int .i64 a0_3, .int .i64 0, .int .i64 (wrap64 ((l0_2.length : Int) - 1))] (impl_within.calls a0_3 0 (wrap64 ((l0_2.length : Int) - 1)) t53 _ A45.out) fun nd => ?_)))
       go_meet
       case rel => exact ⟨_, (t53), sp_, H', ⟨by have := HJ2.out; have := HJ28.out; first | omega | exact Nat.le_refl _⟩, ⟨ch_ BK9.out⟩, ⟨bl_⟩⟩
      rw [if_neg c44] at H
      have c44b0 := ef_ c44
      have c44b1 := nt_ c44
      (first | rw [c44b0] | (simp only [i64_w, i32_w]; rw [c44b0]) | skip)
      by_cases c47 : a0_1 = 2
      ·rw [if_pos c47] at H
       have := et_ c47
       replace c47 := nf_ c47
       by_cases c48 : a0_3 = (l0_2.length : Int)
       ·rw [if_pos c48] at H
        have := et_ c48
        replace c48 := nf_ c48
        have H' := Aside0.mk H
        clear H
        refine by9_ BK9 ?_; intros
        go_wp2
        go_meet
        case rel => exact ⟨_, (decide ((l0_2.length : Int) > 0)), sp_, H', ⟨by have := HJ2.out; have := HJ28.out; first | omega | exact Nat.le_refl _⟩, ⟨ch_ BK9.out⟩, ⟨bl_⟩⟩
       ·rw [if_neg c48] at H
        have c48b0 := ef_ c48
        have c48b1 := nt_ c48
        have H' := Aside0.mk H
        clear H
        refine by9_ BK9 ?_; intros
        go_wp2
        go_meet
        case rel => exact ⟨_, (false), sp_, H', ⟨by have := HJ2.out; have := HJ28.out; first | omega | exact Nat.le_refl _⟩, ⟨ch_ BK9.out⟩, ⟨bl_⟩⟩
      ·rw [if_neg c47] at H
       have c47b0 := ef_ c47
       have c47b1 := nt_ c47
       by_cases c51 : a0_1 = 3
       ·rw [if_pos c51] at H
        have := et_ c51
        replace c51 := nf_ c51
        obtain ⟨t59, A52, H⟩ := ob_ H
        have H' := Aside0.mk H
        clear H
        refine by9_ BK9 ?_; intros
        go_wp2_with (first | ((with_reducible refine gd_ 71 82 func71 #[.int .i64 a0_3, .int .i64 1, .int .i64 (l0_2.length : Int)] (impl_within.calls a0_3 1 (l0_2.length : Int) t59 _ A52.out) fun nd => ?_)))
        go_meet
        case rel => exact ⟨_, (t59), sp_, H', ⟨by have := HJ2.out; have := HJ28.out; first | omega | exact Nat.le_refl _⟩, ⟨ch_ BK9.out⟩, ⟨bl_⟩⟩
       ·rw [if_neg c51] at H
        have c51b0 := ef_ c51
        have c51b1 := nt_ c51
        have H' := Aside0.mk H
        clear H
        go_wp2
        go_meet
        case rel => exact ⟨_, ((a0_3 == 0)), sp_, H', ⟨by have := HJ2.out; have := HJ28.out; first | omega | exact Nat.le_refl _⟩, ⟨ch_ BK9.out⟩, ⟨bl_⟩⟩
     case rest =>
      clear HC42
      obtain ⟨kq, x6_41, rfl, HA, HJ41, BK9, HB⟩ := hcut
      cases kq with
      | zero => exact absurd HA.out (by simp [impl_TaskOk.j2])
      | succ kj41 =>
       have H := HA.out
       clear HA
       simp only [impl_TaskOk.j2] at H
       by_cases c54 : x6_41 = true
       rotate_left
       ·replace c54 := gf_ c54
        subst c54
        replace H := in_ H
        obtain rfl := si_ H
        go_wp2
        go_ret
        exact ⟨sq_, bl_⟩
       subst c54
       replace H := ip_ H
       by_cases c55 : a0_1 < 3
       ·rw [if_pos c55] at H
        replace c55 := dt_ c55
        by_cases c56 : a0_5 = (-1)
        rotate_left
        ·rw [if_neg c56] at H
         have c56b0 := ef_ c56
         have c56b1 := nt_ c56
         obtain rfl := si_ H
         refine by9_ BK9 ?_; intros
         go_wp2
         go_ret
         exact ⟨sq_, bl_⟩
        rw [if_pos c56] at H
        have := et_ c56
        replace c56 := nf_ c56
        by_cases c57 : a0_6 = (-1)
        ·rw [if_pos c57] at H
         have := et_ c57
         replace c57 := nf_ c57
         by_cases c58 : a0_7 = 0
         ·rw [if_pos c58] at H
          have := et_ c58
          replace c58 := nf_ c58
          obtain rfl := si_ H
          refine by9_ BK9 ?_; intros
          go_wp2
          go_ret
          exact ⟨sq_, bl_⟩
         ·rw [if_neg c58] at H
          have c58b0 := ef_ c58
          have c58b1 := nt_ c58
          obtain rfl := si_ H
          refine by9_ BK9 ?_; intros
          go_wp2
          go_ret
          exact ⟨sq_, bl_⟩
        ·rw [if_neg c57] at H
         have c57b0 := ef_ c57
         have c57b1 := nt_ c57
         obtain rfl := si_ H
         refine by9_ BK9 ?_; intros
         go_wp2
         go_ret
         exact ⟨sq_, bl_⟩
       rw [if_neg c55] at H
       replace c55 := df_ c55
       have HC63 := Aside0.mk H
       clear H
       refine by9_ BK9 ?_; intros
       go_upto_region 21 with (fail)
       go_cut [117] (fun v46 wc => ∃ (kq : Nat) (x46_62 : Bool), v46 = .bool x46_62 ∧ Aside0 (impl_TaskOk.j3 kq x46_62 l0_0 a0_1 l0_2 a0_3 a0_4 a0_5 a0_6 a0_7 l0_8 = some r) ∧ Aside0 (kq ≤ kj41) ∧ Aside0 (wc.heap[gb9]? = some (.cells #[(.slice A0_0 l0_0.length c0_0), .int .i64 a0_1, (.slice A0_2 l0_2.length c0_2), .int .i64 a0_3, .int .i64 a0_4, .int .i64 a0_5, .int .i64 a0_6, .int .i64 a0_7, (.slice A0_8 l0_8.length c0_8)] 51 (0, 0))) ∧ Aside0 (Below w.heap.size w wc))
       case first =>
        have H := HC63.out
        clear HC63
        obtain ⟨t64, A65, H⟩ := ob_ H
        by_cases c66 : t64 = true
        ·subst c66
         replace H := ip_ H
         have H' := Aside0.mk H
         clear H
         refine by9_ BK9 ?_; intros
         go_wp2_with (first | ((with_reducible refine gd_ 73 109 func73 #[.int .i64 a0_5] (impl_isTime.calls a0_5 true _ A65.out) fun nd => ?_)))
         go_meet
         case rel => exact ⟨_, (decide (a0_5 < a0_4)), sp_, H', ⟨by have := HJ2.out; have := HJ28.out; have := HJ41.out; first | omega | exact Nat.le_refl _⟩, ⟨ch_ BK9.out⟩, ⟨bl_⟩⟩
        replace c66 := gf_ c66
        subst c66
        replace H := in_ H
        have H' := Aside0.mk H
        clear H
        refine by9_ BK9 ?_; intros
        go_wp2_with (first | ((with_reducible refine gd_ 73 109 func73 #[.int .i64 a0_5] (impl_isTime.calls a0_5 false _ A65.out) fun nd => ?_)))
        go_meet
        case rel => exact ⟨_, (true), sp_, H', ⟨by have := HJ2.out; have := HJ28.out; have := HJ41.out; first | omega | exact Nat.le_refl _⟩, ⟨ch_ BK9.out⟩, ⟨bl_⟩⟩
       case rest =>
        clear HC63
        obtain ⟨kq, x46_62, rfl, HA, HJ62, BK9, HB⟩ := hcut
        cases kq with
        | zero => exact absurd HA.out (by simp [impl_TaskOk.j3])
        | succ kj62 =>
         have H := HA.out
         clear HA
         simp only [impl_TaskOk.j3] at H
         by_cases c69 : x46_62 = true
         ·subst c69
          replace H := ip_ H
          obtain rfl := si_ H
          go_wp2
          go_ret
          exact ⟨sq_, bl_⟩
         replace c69 := gf_ c69
         subst c69
         replace H := in_ H
         by_cases c70 : a0_1 = 5
         ·rw [if_pos c70] at H
          have := et_ c70
          replace c70 := nf_ c70
          obtain ⟨t67, A71, H⟩ := ob_ H
          by_cases c72 : t67 = true
          ·subst c72
           replace H := ip_ H
           obtain rfl := si_ H
           refine by9_ BK9 ?_; intros
           go_wp2_with (first | ((with_reducible refine gd_ 73 123 func73 #[.int .i64 a0_6] (impl_isTime.calls a0_6 true _ A71.out) fun nd => ?_)))
           go_ret
           exact ⟨sq_, bl_⟩
          replace c72 := gf_ c72
          subst c72
          replace H := in_ H
          obtain rfl := si_ H
          refine by9_ BK9 ?_; intros
          go_wp2_with (first | ((with_reducible refine gd_ 73 123 func73 #[.int .i64 a0_6] (impl_isTime.calls a0_6 false _ A71.out) fun nd => ?_)))
          go_ret
          exact ⟨sq_, bl_⟩
         ·rw [if_neg c70] at H
          have c70b0 := ef_ c70
          have c70b1 := nt_ c70
          obtain rfl := si_ H
          refine by9_ BK9 ?_; intros
          go_wp2
          go_ret
          exact ⟨sq_, bl_⟩
/-! ### impl_StepsLeft: function 34 -/
def impl_StepsLeft.f (k : Nat) (l0_0 : List Int) (a0_1 : Int) (l0_2 : List Int) (a0_3 : Int) (a0_4 : Int) (a0_5 : Int) (a0_6 : Int) (a0_7 : Int) (l0_8 : List Int) (a1 : Int) : Option (Int) := (impl_TaskOk.f k l0_0 a0_1 l0_2 a0_3 a0_4 a0_5 a0_6 a0_7 l0_8 a1).bind fun t16 => (if t16 = true then ((impl_Needs.f k l0_0 a0_1 l0_2 a0_3 a0_4 a0_5 a0_6 a0_7 l0_8 a1).bind fun t9 => (if a0_1 = 0 then (if (t9.length : Int) = 0 then (some 2) else (some (wrap64 (3 + (wrap64 (2 * (t9.length : Int))))))) else (if a0_1 = 1 then (some (wrap64 ((wrap64 (2 + (t9.length : Int))) + (wrap64 ((t9.length : Int) - a0_3))))) else (if a0_1 = 2 then (some (wrap64 (2 + (t9.length : Int)))) else (if a0_1 = 3 then (some (wrap64 (1 + a0_3))) else (if a0_1 = 4 then (some 1) else (some 0))))))) else (some 0))
theorem impl_StepsLeft.calls (k : Nat) (A0_0 : Option Addr) (c0_0 : Nat) (l0_0 : List Int) (a0_1 : Int) (A0_2 : Option Addr) (c0_2 : Nat) (l0_2 : List Int) (a0_3 : Int) (a0_4 : Int) (a0_5 : Int) (a0_6 : Int) (a0_7 : Int) (A0_8 : Option Addr) (c0_8 : Nat) (l0_8 : List Int) (a1 : Int) (r : Int) (w : World) (hr0_0 : Kd.C (Kd.int .u8) w A0_0 l0_0.length l0_0) (hc0_0 : l0_0.length ≤ c0_0) (hr0_2 : Kd.C (Kd.int .i64) w A0_2 l0_2.length l0_2) (hc0_2 : l0_2.length ≤ c0_2) (hr0_8 : Kd.C (Kd.int .u8) w A0_8 l0_8.length l0_8) (hc0_8 : l0_8.length ≤ c0_8) (h : impl_StepsLeft.f k l0_0 a0_1 l0_2 a0_3 a0_4 a0_5 a0_6 a0_7 l0_8 a1 = some r) :
  Calls Tryz.prog 34 #[.agg #[.slice A0_0 l0_0.length c0_0, .int .i64 a0_1, .slice A0_2 l0_2.length c0_2, .int .i64 a0_3, .int .i64 a0_4, .int .i64 a0_5, .int .i64 a0_6, .int .i64 a0_7, .slice A0_8 l0_8.length c0_8], .int .i64 a1] w fun e w' => e = .returned (.int .i64 r) ∧ Below w.heap.size w w' := by
 have hu51 := underlying51
 have HR0_0 := Aside0.mk hr0_0
 have HC0_0 := Aside0.mk hc0_0
 clear hr0_0 hc0_0
 have HR0_2 := Aside0.mk hr0_2
 have HC0_2 := Aside0.mk hc0_2
 clear hr0_2 hc0_2
 have HR0_8 := Aside0.mk hr0_8
 have HC0_8 := Aside0.mk hc0_8
 clear hr0_8 hc0_8
 have HB := Aside0.mk (Below.refl w.heap.size w)
 have H := h
 unfold impl_StepsLeft.f at H
 clear h
 obtain ⟨t16, A3, H⟩ := ob_ H
 by_cases c4 : t16 = true
 rotate_left
 ·replace c4 := gf_ c4
  subst c4
  replace H := in_ H
  obtain rfl := si_ H
  go_enter func34, ntmps34
  go_wp2_with (first | ((with_reducible refine gt_ 2 ?_); refine bo_ 2 #[.slice A0_0 l0_0.length c0_0, .int .i64 a0_1, .slice A0_2 l0_2.length c0_2, .int .i64 a0_3, .int .i64 a0_4, .int .i64 a0_5, .int .i64 a0_6, .int .i64 a0_7, .slice A0_8 l0_8.length c0_8] 51 ?_; intro gb1 hg w61 BK1 hb; have GW1 := gw_ (w := w) hg; replace HB := hs_ hb; clear hb hg; refine by9_ BK1 ?_; intros) | ((with_reducible refine gb_ 32 8 func32 #[.agg #[.slice A0_0 l0_0.length c0_0, .int .i64 a0_1, .slice A0_2 l0_2.length c0_2, .int .i64 a0_3, .int .i64 a0_4, .int .i64 a0_5, .int .i64 a0_6, .int .i64 a0_7, .slice A0_8 l0_8.length c0_8], .int .i64 a1] (impl_TaskOk.calls k _ _ l0_0 a0_1 _ _ l0_2 a0_3 a0_4 a0_5 a0_6 a0_7 _ _ l0_8 a1 false _ (cb_ HR0_0 HB) HC0_0.out (cb_ HR0_2 HB) HC0_2.out (cb_ HR0_8 HB) HC0_8.out A3.out) fun w63 hb => ?_); replace BK1 := kb_ BK1 hb; replace HB := hs_ hb; clear hb))
  go_ret
  exact ⟨sq_, bl_⟩
 subst c4
 replace H := ip_ H
 obtain ⟨t9, A5, H⟩ := ob_ H
 by_cases c6 : a0_1 = 0
 ·rw [if_pos c6] at H
  have := et_ c6
  replace c6 := nf_ c6
  by_cases c7 : (t9.length : Int) = 0
  ·rw [if_pos c7] at H
   have c7b0 := et_ c7
   have c7b1 := nf_ c7
   clear c7
   obtain rfl := si_ H
   go_enter func34, ntmps34
   go_wp2_with (first | ((with_reducible refine gt_ 2 ?_); refine bo_ 2 #[.slice A0_0 l0_0.length c0_0, .int .i64 a0_1, .slice A0_2 l0_2.length c0_2, .int .i64 a0_3, .int .i64 a0_4, .int .i64 a0_5, .int .i64 a0_6, .int .i64 a0_7, .slice A0_8 l0_8.length c0_8] 51 ?_; intro gb1 hg w8 BK1 hb; have GW1 := gw_ (w := w) hg; replace HB := hs_ hb; clear hb hg; refine by9_ BK1 ?_; intros) | ((with_reducible refine gb_ 32 8 func32 #[.agg #[.slice A0_0 l0_0.length c0_0, .int .i64 a0_1, .slice A0_2 l0_2.length c0_2, .int .i64 a0_3, .int .i64 a0_4, .int .i64 a0_5, .int .i64 a0_6, .int .i64 a0_7, .slice A0_8 l0_8.length c0_8], .int .i64 a1] (impl_TaskOk.calls k _ _ l0_0 a0_1 _ _ l0_2 a0_3 a0_4 a0_5 a0_6 a0_7 _ _ l0_8 a1 true _ (cb_ HR0_0 HB) HC0_0.out (cb_ HR0_2 HB) HC0_2.out (cb_ HR0_8 HB) HC0_8.out A3.out) fun w10 hb => ?_); replace BK1 := kb_ BK1 hb; replace HB := hs_ hb; clear hb; refine by9_ BK1 ?_; intros) | ((with_reducible refine gc_ 25 12 func25 #[.agg #[.slice A0_0 l0_0.length c0_0, .int .i64 a0_1, .slice A0_2 l0_2.length c0_2, .int .i64 a0_3, .int .i64 a0_4, .int .i64 a0_5, .int .i64 a0_6, .int .i64 a0_7, .slice A0_8 l0_8.length c0_8], .int .i64 a1] ?_); (with_reducible refine (impl_Needs.calls k _ _ l0_0 a0_1 _ _ l0_2 a0_3 a0_4 a0_5 a0_6 a0_7 _ _ l0_8 a1 t9 _ (cb_ HR0_0 HB) HC0_0.out (cb_ HR0_2 HB) HC0_2.out (cb_ HR0_8 HB) HC0_8.out A5.out).mono ?_); rintro e w12 ⟨v14, rfl, ho0, hb⟩; refine ⟨_, rfl, ?_⟩; have HO11 := Aside0.mk (Kd.R_lower ho0 (below_size bl_)); replace BK1 := kb_ BK1 hb; replace HB := hs_ hb; clear hb; (try clear ho0); obtain ⟨Ao13, co13, eo13⟩ := Kd.R_slice HO11.out; subst eo13; refine by9_ BK1 ?_; intros))
   go_ret
   exact ⟨sq_, bl_⟩
  rw [if_neg c7] at H
  have c7b0 := ef_ c7
  have c7b1 := nt_ c7
  have c7b2 : ¬ (t9 = []) := fun h_ => c7 (by rw [h_]; rfl)
  obtain rfl := si_ H
  go_enter func34, ntmps34
  go_wp2_with (first | ((with_reducible refine gt_ 2 ?_); refine bo_ 2 #[.slice A0_0 l0_0.length c0_0, .int .i64 a0_1, .slice A0_2 l0_2.length c0_2, .int .i64 a0_3, .int .i64 a0_4, .int .i64 a0_5, .int .i64 a0_6, .int .i64 a0_7, .slice A0_8 l0_8.length c0_8] 51 ?_; intro gb1 hg w15 BK1 hb; have GW1 := gw_ (w := w) hg; replace HB := hs_ hb; clear hb hg; refine by9_ BK1 ?_; intros) | ((with_reducible refine gb_ 32 8 func32 #[.agg #[.slice A0_0 l0_0.length c0_0, .int .i64 a0_1, .slice A0_2 l0_2.length c0_2, .int .i64 a0_3, .int .i64 a0_4, .int .i64 a0_5, .int .i64 a0_6, .int .i64 a0_7, .slice A0_8 l0_8.length c0_8], .int .i64 a1] (impl_TaskOk.calls k _ _ l0_0 a0_1 _ _ l0_2 a0_3 a0_4 a0_5 a0_6 a0_7 _ _ l0_8 a1 true _ (cb_ HR0_0 HB) HC0_0.out (cb_ HR0_2 HB) HC0_2.out (cb_ HR0_8 HB) HC0_8.out A3.out) fun w17 hb => ?_); replace BK1 := kb_ BK1 hb; replace HB := hs_ hb; clear hb; refine by9_ BK1 ?_; intros) | ((with_reducible refine gc_ 25 12 func25 #[.agg #[.slice A0_0 l0_0.length c0_0, .int .i64 a0_1, .slice A0_2 l0_2.length c0_2, .int .i64 a0_3, .int .i64 a0_4, .int .i64 a0_5, .int .i64 a0_6, .int .i64 a0_7, .slice A0_8 l0_8.length c0_8], .int .i64 a1] ?_); (with_reducible refine (impl_Needs.calls k _ _ l0_0 a0_1 _ _ l0_2 a0_3 a0_4 a0_5 a0_6 a0_7 _ _ l0_8 a1 t9 _ (cb_ HR0_0 HB) HC0_0.out (cb_ HR0_2 HB) HC0_2.out (cb_ HR0_8 HB) HC0_8.out A5.out).mono ?_); rintro e w19 ⟨v14, rfl, ho0, hb⟩; refine ⟨_, rfl, ?_⟩; have HO11 := Aside0.mk (Kd.R_lower ho0 (below_size bl_)); replace BK1 := kb_ BK1 hb; replace HB := hs_ hb; clear hb; (try clear ho0); obtain ⟨Ao20, co20, eo20⟩ := Kd.R_slice HO11.out; subst eo20; refine by9_ BK1 ?_; intros))
  go_ret
  exact ⟨sq_, bl_⟩
 rw [if_neg c6] at H
 have c6b0 := ef_ c6
 have c6b1 := nt_ c6
 by_cases c22 : a0_1 = 1
 ·rw [if_pos c22] at H
  have := et_ c22
  replace c22 := nf_ c22
  obtain rfl := si_ H
  go_enter func34, ntmps34
  go_wp2_with (first | ((with_reducible refine gt_ 2 ?_); refine bo_ 2 #[.slice A0_0 l0_0.length c0_0, .int .i64 a0_1, .slice A0_2 l0_2.length c0_2, .int .i64 a0_3, .int .i64 a0_4, .int .i64 a0_5, .int .i64 a0_6, .int .i64 a0_7, .slice A0_8 l0_8.length c0_8] 51 ?_; intro gb1 hg w23 BK1 hb; have GW1 := gw_ (w := w) hg; replace HB := hs_ hb; clear hb hg; refine by9_ BK1 ?_; intros) | ((with_reducible refine gb_ 32 8 func32 #[.agg #[.slice A0_0 l0_0.length c0_0, .int .i64 a0_1, .slice A0_2 l0_2.length c0_2, .int .i64 a0_3, .int .i64 a0_4, .int .i64 a0_5, .int .i64 a0_6, .int .i64 a0_7, .slice A0_8 l0_8.length c0_8], .int .i64 a1] (impl_TaskOk.calls k _ _ l0_0 a0_1 _ _ l0_2 a0_3 a0_4 a0_5 a0_6 a0_7 _ _ l0_8 a1 true _ (cb_ HR0_0 HB) HC0_0.out (cb_ HR0_2 HB) HC0_2.out (cb_ HR0_8 HB) HC0_8.out A3.out) fun w25 hb => ?_); replace BK1 := kb_ BK1 hb; replace HB := hs_ hb; clear hb; refine by9_ BK1 ?_; intros) | ((with_reducible refine gc_ 25 12 func25 #[.agg #[.slice A0_0 l0_0.length c0_0, .int .i64 a0_1, .slice A0_2 l0_2.length c0_2, .int .i64 a0_3, .int .i64 a0_4, .int .i64 a0_5, .int .i64 a0_6, .int .i64 a0_7, .slice A0_8 l0_8.length c0_8], .int .i64 a1] ?_); (with_reducible refine (impl_Needs.calls k _ _ l0_0 a0_1 _ _ l0_2 a0_3 a0_4 a0_5 a0_6 a0_7 _ _ l0_8 a1 t9 _ (cb_ HR0_0 HB) HC0_0.out (cb_ HR0_2 HB) HC0_2.out (cb_ HR0_8 HB) HC0_8.out A5.out).mono ?_); rintro e w27 ⟨v14, rfl, ho0, hb⟩; refine ⟨_, rfl, ?_⟩; have HO11 := Aside0.mk (Kd.R_lower ho0 (below_size bl_)); replace BK1 := kb_ BK1 hb; replace HB := hs_ hb; clear hb; (try clear ho0); obtain ⟨Ao28, co28, eo28⟩ := Kd.R_slice HO11.out; subst eo28; refine by9_ BK1 ?_; intros))
  go_ret
  exact ⟨sq_, bl_⟩
 rw [if_neg c22] at H
 have c22b0 := ef_ c22
 have c22b1 := nt_ c22
 by_cases c30 : a0_1 = 2
 ·rw [if_pos c30] at H
  have := et_ c30
  replace c30 := nf_ c30
  obtain rfl := si_ H
  go_enter func34, ntmps34
  go_wp2_with (first | ((with_reducible refine gt_ 2 ?_); refine bo_ 2 #[.slice A0_0 l0_0.length c0_0, .int .i64 a0_1, .slice A0_2 l0_2.length c0_2, .int .i64 a0_3, .int .i64 a0_4, .int .i64 a0_5, .int .i64 a0_6, .int .i64 a0_7, .slice A0_8 l0_8.length c0_8] 51 ?_; intro gb1 hg w31 BK1 hb; have GW1 := gw_ (w := w) hg; replace HB := hs_ hb; clear hb hg; refine by9_ BK1 ?_; intros) | ((with_reducible refine gb_ 32 8 func32 #[.agg #[.slice A0_0 l0_0.length c0_0, .int .i64 a0_1, .slice A0_2 l0_2.length c0_2, .int .i64 a0_3, .int .i64 a0_4, .int .i64 a0_5, .int .i64 a0_6, .int .i64 a0_7, .slice A0_8 l0_8.length c0_8], .int .i64 a1] (impl_TaskOk.calls k _ _ l0_0 a0_1 _ _ l0_2 a0_3 a0_4 a0_5 a0_6 a0_7 _ _ l0_8 a1 true _ (cb_ HR0_0 HB) HC0_0.out (cb_ HR0_2 HB) HC0_2.out (cb_ HR0_8 HB) HC0_8.out A3.out) fun w33 hb => ?_); replace BK1 := kb_ BK1 hb; replace HB := hs_ hb; clear hb; refine by9_ BK1 ?_; intros) | ((with_reducible refine gc_ 25 12 func25 #[.agg #[.slice A0_0 l0_0.length c0_0, .int .i64 a0_1, .slice A0_2 l0_2.length c0_2, .int .i64 a0_3, .int .i64 a0_4, .int .i64 a0_5, .int .i64 a0_6, .int .i64 a0_7, .slice A0_8 l0_8.length c0_8], .int .i64 a1] ?_); (with_reducible refine (impl_Needs.calls k _ _ l0_0 a0_1 _ _ l0_2 a0_3 a0_4 a0_5 a0_6 a0_7 _ _ l0_8 a1 t9 _ (cb_ HR0_0 HB) HC0_0.out (cb_ HR0_2 HB) HC0_2.out (cb_ HR0_8 HB) HC0_8.out A5.out).mono ?_); rintro e w35 ⟨v14, rfl, ho0, hb⟩; refine ⟨_, rfl, ?_⟩; have HO11 := Aside0.mk (Kd.R_lower ho0 (below_size bl_)); replace BK1 := kb_ BK1 hb; replace HB := hs_ hb; clear hb; (try clear ho0); obtain ⟨Ao36, co36, eo36⟩ := Kd.R_slice HO11.out; subst eo36; refine by9_ BK1 ?_; intros))
  go_ret
  exact ⟨sq_, bl_⟩
 rw [if_neg c30] at H
 have c30b0 := ef_ c30
 have c30b1 := nt_ c30
 by_cases c38 : a0_1 = 3
 ·rw [if_pos c38] at H
  have := et_ c38
  replace c38 := nf_ c38
  obtain rfl := si_ H
  go_enter func34, ntmps34
  go_wp2_with (first | ((with_reducible refine gt_ 2 ?_); refine bo_ 2 #[.slice A0_0 l0_0.length c0_0, .int .i64 a0_1, .slice A0_2 l0_2.length c0_2, .int .i64 a0_3, .int .i64 a0_4, .int .i64 a0_5, .int .i64 a0_6, .int .i64 a0_7, .slice A0_8 l0_8.length c0_8] 51 ?_; intro gb1 hg w39 BK1 hb; have GW1 := gw_ (w := w) hg; replace HB := hs_ hb; clear hb hg; refine by9_ BK1 ?_; intros) | ((with_reducible refine gb_ 32 8 func32 #[.agg #[.slice A0_0 l0_0.length c0_0, .int .i64 a0_1, .slice A0_2 l0_2.length c0_2, .int .i64 a0_3, .int .i64 a0_4, .int .i64 a0_5, .int .i64 a0_6, .int .i64 a0_7, .slice A0_8 l0_8.length c0_8], .int .i64 a1] (impl_TaskOk.calls k _ _ l0_0 a0_1 _ _ l0_2 a0_3 a0_4 a0_5 a0_6 a0_7 _ _ l0_8 a1 true _ (cb_ HR0_0 HB) HC0_0.out (cb_ HR0_2 HB) HC0_2.out (cb_ HR0_8 HB) HC0_8.out A3.out) fun w41 hb => ?_); replace BK1 := kb_ BK1 hb; replace HB := hs_ hb; clear hb; refine by9_ BK1 ?_; intros) | ((with_reducible refine gc_ 25 12 func25 #[.agg #[.slice A0_0 l0_0.length c0_0, .int .i64 a0_1, .slice A0_2 l0_2.length c0_2, .int .i64 a0_3, .int .i64 a0_4, .int .i64 a0_5, .int .i64 a0_6, .int .i64 a0_7, .slice A0_8 l0_8.length c0_8], .int .i64 a1] ?_); (with_reducible refine (impl_Needs.calls k _ _ l0_0 a0_1 _ _ l0_2 a0_3 a0_4 a0_5 a0_6 a0_7 _ _ l0_8 a1 t9 _ (cb_ HR0_0 HB) HC0_0.out (cb_ HR0_2 HB) HC0_2.out (cb_ HR0_8 HB) HC0_8.out A5.out).mono ?_); rintro e w43 ⟨v14, rfl, ho0, hb⟩; refine ⟨_, rfl, ?_⟩; have HO11 := Aside0.mk (Kd.R_lower ho0 (below_size bl_)); replace BK1 := kb_ BK1 hb; replace HB := hs_ hb; clear hb; (try clear ho0); obtain ⟨Ao44, co44, eo44⟩ := Kd.R_slice HO11.out; subst eo44; refine by9_ BK1 ?_; intros))
  go_ret
  exact ⟨sq_, bl_⟩
 rw [if_neg c38] at H
 have c38b0 := ef_ c38
 have c38b1 := nt_ c38
 by_cases c46 : a0_1 = 4
 ·rw [if_pos c46] at H
  have := et_ c46
  replace c46 := nf_ c46
  obtain rfl := si_ H
  go_enter func34, ntmps34
  go_wp2_with (first | ((with_reducible refine gt_ 2 ?_); refine bo_ 2 #[.slice A0_0 l0_0.length c0_0, .int .i64 a0_1, .slice A0_2 l0_2.length c0_2, .int .i64 a0_3, .int .i64 a0_4, .int .i64 a0_5, .int .i64 a0_6, .int .i64 a0_7, .slice A0_8 l0_8.length c0_8] 51 ?_; intro gb1 hg w47 BK1 hb; have GW1 := gw_ (w := w) hg; replace HB := hs_ hb; clear hb hg; refine by9_ BK1 ?_; intros) | ((with_reducible refine gb_ 32 8 func32 #[.agg #[.slice A0_0 l0_0.length c0_0, .int .i64 a0_1, .slice A0_2 l0_2.length c0_2, .int .i64 a0_3, .int .i64 a0_4, .int .i64 a0_5, .int .i64 a0_6, .int .i64 a0_7, .slice A0_8 l0_8.length c0_8], .int .i64 a1] (impl_TaskOk.calls k _ _ l0_0 a0_1 _ _ l0_2 a0_3 a0_4 a0_5 a0_6 a0_7 _ _ l0_8 a1 true _ (cb_ HR0_0 HB) HC0_0.out (cb_ HR0_2 HB) HC0_2.out (cb_ HR0_8 HB) HC0_8.out A3.out) fun w49 hb => ?_); replace BK1 := kb_ BK1 hb; replace HB := hs_ hb; clear hb; refine by9_ BK1 ?_; intros) | ((with_reducible refine gc_ 25 12 func25 #[.agg #[.slice A0_0 l0_0.length c0_0, .int .i64 a0_1, .slice A0_2 l0_2.length c0_2, .int .i64 a0_3, .int .i64 a0_4, .int .i64 a0_5, .int .i64 a0_6, .int .i64 a0_7, .slice A0_8 l0_8.length c0_8], .int .i64 a1] ?_); (with_reducible refine (impl_Needs.calls k _ _ l0_0 a0_1 _ _ l0_2 a0_3 a0_4 a0_5 a0_6 a0_7 _ _ l0_8 a1 t9 _ (cb_ HR0_0 HB) HC0_0.out (cb_ HR0_2 HB) HC0_2.out (cb_ HR0_8 HB) HC0_8.out A5.out).mono ?_); rintro e w51 ⟨v14, rfl, ho0, hb⟩; refine ⟨_, rfl, ?_⟩; have HO11 := Aside0.mk (Kd.R_lower ho0 (below_size bl_)); replace BK1 := kb_ BK1 hb; replace HB := hs_ hb; clear hb; (try clear ho0); obtain ⟨Ao52, co52, eo52⟩ := Kd.R_slice HO11.out; subst eo52; refine by9_ BK1 ?_; intros))
  go_ret
  exact ⟨sq_, bl_⟩
 ·rw [if_neg c46] at H
  have c46b0 := ef_ c46
  have c46b1 := nt_ c46
  obtain rfl := si_ H
  go_enter func34, ntmps34
  go_wp2_with (first | ((with_reducible refine gt_ 2 ?_); refine bo_ 2 #[.slice A0_0 l0_0.length c0_0, .int .i64 a0_1, .slice A0_2 l0_2.length c0_2, .int .i64 a0_3, .int .i64 a0_4, .int .i64 a0_5, .int .i64 a0_6, .int .i64 a0_7, .slice A0_8 l0_8.length c0_8] 51 ?_; intro gb1 hg w54 BK1 hb; have GW1 := gw_ (w := w) hg; replace HB := hs_ hb; clear hb hg; refine by9_ BK1 ?_; intros) | ((with_reducible refine gb_ 32 8 func32 #[.agg #[.slice A0_0 l0_0.length c0_0, .int .i64 a0_1, .slice A0_2 l0_2.length c0_2, .int .i64 a0_3, .int .i64 a0_4, .int .i64 a0_5, .int .i64 a0_6, .int .i64 a0_7, .slice A0_8 l0_8.length c0_8], .int .i64 a1] (impl_TaskOk.calls k _ _ l0_0 a0_1 _ _ l0_2 a0_3 a0_4 a0_5 a0_6 a0_7 _ _ l0_8 a1 true _ (cb_ HR0_0 HB) HC0_0.out (cb_ HR0_2 HB) HC0_2.out (cb_ HR0_8 HB) HC0_8.out A3.out) fun w56 hb => ?_); replace BK1 := kb_ BK1 hb; replace HB := hs_ hb; clear hb; refine by9_ BK1 ?_; intros) | ((with_reducible refine gc_ 25 12 func25 #[.agg #[.slice A0_0 l0_0.length c0_0, .int .i64 a0_1, .slice A0_2 l0_2.length c0_2, .int .i64 a0_3, .int .i64 a0_4, .int .i64 a0_5, .int .i64 a0_6, .int .i64 a0_7, .slice A0_8 l0_8.length c0_8], .int .i64 a1] ?_); (with_reducible refine (impl_Needs.calls k _ _ l0_0 a0_1 _ _ l0_2 a0_3 a0_4 a0_5 a0_6 a0_7 _ _ l0_8 a1 t9 _ (cb_ HR0_0 HB) HC0_0.out (cb_ HR0_2 HB) HC0_2.out (cb_ HR0_8 HB) HC0_8.out A5.out).mono ?_); rintro e w58 ⟨v14, rfl, ho0, hb⟩; refine ⟨_, rfl, ?_⟩; have HO11 := Aside0.mk (Kd.R_lower ho0 (below_size bl_)); replace BK1 := kb_ BK1 hb; replace HB := hs_ hb; clear hb; (try clear ho0); obtain ⟨Ao59, co59, eo59⟩ := Kd.R_slice HO11.out; subst eo59; refine by9_ BK1 ?_; intros))
  go_ret
  exact ⟨sq_, bl_⟩
end Go.Proofs.YtohfefkjcnbejaaGreatDoor.QFnExactStepsLeft
