-- by my own printer (myprint.py, over the kit's print.py)
import Derived.Test.YtepjnalkpfnmcaaQFnExactHoldPutx0
import Derived.Test.YtepjnalkpfnmcaaQFnExactHoldPutx1
import Derived.Test.YtepjnalkpfnmcaaQFnExactHoldPutx2
import Derived.Test.YtepjnalkpfnmcaaQFnExactHoldPutx5
import Derived.Test.YtepjnalkpfnmcaaQFnExactHoldPutx9
namespace Go.Proofs.Ytepjnalkpfnmcaa.QFnExactHoldPut
open Go.RowKit Go.Proofs.YtepjnalkpfnmcaaW.PrintWords Go.Proofs.YtepjnalkpfnmcaaW.PrintLast Go.Proofs.YtepjnalkpfnmcaaW.PrintMore
attribute [local go_sem] max2_int min2_int max_two min_two max_three min_three max_four min_four   -- for this text's walks alone
set_option linter.unusedVariables false
set_option linter.unusedSimpArgs false
attribute [local go_sem] my_geq my_leq my_gtr
abbrev tb10_0_10 : Array Bool := #[b0, b0, b0, b0, b0, b0, b0, b0, b0, b0]
abbrev tb10_1_10 : Array Bool := #[b1, b0, b0, b0, b0, b0, b0, b0, b0, b0]
abbrev tb10_1f_10 : Array Bool := #[b1, b1, b1, b1, b1, b0, b0, b0, b0, b0]
abbrev tb10_1ff_10 : Array Bool := #[b1, b1, b1, b1, b1, b1, b1, b1, b1, b0]
abbrev tb10_3f_10 : Array Bool := #[b1, b1, b1, b1, b1, b1, b0, b0, b0, b0]
abbrev tb10_3ff_10 : Array Bool := #[b1, b1, b1, b1, b1, b1, b1, b1, b1, b1]
abbrev tb10_5_10 : Array Bool := #[b1, b0, b1, b0, b0, b0, b0, b0, b0, b0]
abbrev tb10_7_10 : Array Bool := #[b1, b1, b1, b0, b0, b0, b0, b0, b0, b0]
abbrev tb10_7f_10 : Array Bool := #[b1, b1, b1, b1, b1, b1, b1, b0, b0, b0]
abbrev tb10_f_10 : Array Bool := #[b1, b1, b1, b1, b0, b0, b0, b0, b0, b0]
abbrev tb10_ff_10 : Array Bool := #[b1, b1, b1, b1, b1, b1, b1, b1, b0, b0]
/-! ### laws_FnExactHoldPut: function 12 -/
mutual
def laws_FnExactHoldPut.j0 : Nat → List (S89) → List (S93) → Bool → List (S93) → List (S93) → Bool → Bool → ByteArray → Int → Int → Option (Bool)
 | 0, _, _, _, _, _, _, _, _, _, _ => none
 | k + 1, x0, x6, x7, x8, x9, x10, x51, x201000, x201001, x201002 => if x51 = true then (some false) else ((laws_toHoldS.f k x0).bind fun t224 => ((laws_eqHoldS.f k x8 t224).bind fun t227 => (if t227 = true then ((laws_markHoldS.f k x8 1).bind fun bt228 => (if bt228.1 < 0 then (laws_FnExactHoldPut.j1 k x0 x6 x7 x9 true x201000 x201001 x201002) else ((laws_eqHoldS.f k x9 x6).bind fun t230 => (if t230 = true then (laws_FnExactHoldPut.j1 k x0 x6 x7 x9 (x10 != x7) x201000 x201001 x201002) else (laws_FnExactHoldPut.j1 k x0 x6 x7 x9 true x201000 x201001 x201002))))) else (some false))))
def laws_FnExactHoldPut.j1 : Nat → List (S89) → List (S93) → Bool → List (S93) → Bool → ByteArray → Int → Int → Option (Bool)
 | 0, _, _, _, _, _, _, _, _ => none
 | k + 1, x0, x6, x7, x9, x72, x201000, x201001, x201002 => if x72 = true then (some false) else ((laws_markHoldS.f k x9 1).bind fun bt231 => ((laws_heldHoldS.f k bt231.2 1).bind fun t233 => (if t233 < 0 then (some false) else (if t233 = bt231.1 then ((laws_toHoldS.f k x0).bind fun t234 => ((laws_toHold.f x201000 x201001 x201002).bind fun bt237 => ((impl_HoldPut.f k t234 bt237.1 bt237.2.1 bt237.2.2).bind fun bt240 => ((laws_eqHoldS.f k bt240.1 x6).bind fun t244 => (if t244 = true then (laws_FnExactHoldPut.j2 k bt231.2 bt231.1 (bt240.2 != x7)) else (laws_FnExactHoldPut.j2 k bt231.2 bt231.1 true)))))) else (some false)))))
def laws_FnExactHoldPut.j2 : Nat → List (S93) → Int → Bool → Option (Bool)
 | 0, _, _, _ => none
 | k + 1, x9, x12, x100 => if x100 = true then (some false) else ((laws_heldHoldS.f k x9 1).bind fun t245 => (if t245 < 0 then (some false) else (if t245 = x12 then (some true) else (some false))))
end
def laws_FnExactHoldPut.f (k : Nat) (l0 : List (S89)) (a1_0 : ByteArray) (a1_1 : Int) (a1_2 : Int) : Option (Bool) := (laws_szHoldS.f k l0 1048576).bind fun t201 => (if t201 < 0 then (some true) else ((laws_szHold.f a1_0 a1_1 a1_2 t201).bind fun t202 => (if t202 < 0 then (some true) else ((laws_toHoldS.f k l0).bind fun t203 => ((laws_toHold.f a1_0 a1_1 a1_2).bind fun bt206 => ((spec_HoldPut.f k t203 bt206.1 bt206.2.1 bt206.2.2).bind fun bt209 => ((laws_toHoldS.f k l0).bind fun t213 => ((laws_toHold.f a1_0 a1_1 a1_2).bind fun bt216 => ((impl_HoldPut.f k t213 bt216.1 bt216.2.1 bt216.2.2).bind fun bt219 => ((laws_eqHoldS.f k bt219.1 bt209.1).bind fun t223 => (if t223 = true then (laws_FnExactHoldPut.j0 k l0 bt209.1 bt209.2 t213 bt219.1 bt219.2 (bt219.2 != bt209.2) a1_0 a1_1 a1_2) else (laws_FnExactHoldPut.j0 k l0 bt209.1 bt209.2 t213 bt219.1 bt219.2 true a1_0 a1_1 a1_2))))))))))))
def laws_FnExactHoldPut.T8 : Bool × List (List Nat × List Nat) := (true, [([], []), ([0], [0]), ([], []), ([2, 1], [2]), ([1, 3, 3], [1, 3]), ([4], [4]), ([5], [5]), ([5], [5]), ([6, 4, 0, 1, 2, 3, 4, 5, 6], [6]), ([7, 8, 0, 1, 2, 3, 4, 5, 6, 7, 8], [7])])
def laws_FnExactHoldPut.B8 : List Nat := [0, 1, 0, 7, 15, 31, 63, 63, 127, 511]
theorem laws_FnExactHoldPut.tab8 : rtab .any (opsOf Try.f12 8) = laws_FnExactHoldPut.T8 := by kernel_rfl
theorem laws_FnExactHoldPut.bits8 : waitsOk laws_FnExactHoldPut.T8.2 laws_FnExactHoldPut.B8 = true := by kernel_rfl
def laws_FnExactHoldPut.T27 : Bool × List (List Nat × List Nat) := (true, [([], []), ([0], [0]), ([], []), ([2, 1], [2]), ([1, 3, 3], [1, 3]), ([4], [4]), ([5], [5]), ([5], [5]), ([6, 4, 0, 1, 2, 3, 4, 5, 6], [6]), ([7, 8, 0, 1, 2, 3, 4, 5, 6, 7, 8], [7])])
def laws_FnExactHoldPut.B27 : List Nat := [0, 1, 0, 7, 15, 31, 63, 63, 127, 511]
theorem laws_FnExactHoldPut.tab27 : rtab .any (opsOf Try.f12 27) = laws_FnExactHoldPut.T27 := by kernel_rfl
theorem laws_FnExactHoldPut.bits27 : waitsOk laws_FnExactHoldPut.T27.2 laws_FnExactHoldPut.B27 = true := by kernel_rfl
set_option maxHeartbeats 8000000 in
set_option maxRecDepth 100000 in
theorem laws_FnExactHoldPut.calls (k : Nat) (A0 : Option Addr) (c0 : Nat) (l0 : List (S89)) (a1_0 : ByteArray) (a1_1 : Int) (a1_2 : Int) (r : Bool) (w : World) (hr0 : Kd.C k89 w A0 l0.length l0) (hc0 : l0.length ≤ c0) (h : laws_FnExactHoldPut.f k l0 a1_0 a1_1 a1_2 = some true) :
  Calls Try.prog 12 #[.slice A0 l0.length c0, .agg #[.string a1_0, .int .i64 a1_1, .int .i64 a1_2]] w fun e w' => e = .returned (.bool true) ∧ Below w.heap.size w w' := by
 have hu89 := Try.underlying89
 have HR0 := Aside0.mk hr0
 have HC0 := Aside0.mk hc0
 clear hr0 hc0
 have HB := Aside0.mk (Below.refl w.heap.size w)
 have H : ((laws_szHoldS.f k l0 1048576).bind fun t201 => (if t201 < 0 then (some true) else ((laws_szHold.f a1_0 a1_1 a1_2 t201).bind fun t202 => (if t202 < 0 then (some true) else ((laws_toHoldS.f k l0).bind fun t203 => ((laws_toHold.f a1_0 a1_1 a1_2).bind fun bt206 => ((spec_HoldPut.f k t203 bt206.1 bt206.2.1 bt206.2.2).bind fun bt209 => ((laws_toHoldS.f k l0).bind fun t213 => ((laws_toHold.f a1_0 a1_1 a1_2).bind fun bt216 => ((impl_HoldPut.f k t213 bt216.1 bt216.2.1 bt216.2.2).bind fun bt219 => ((laws_eqHoldS.f k bt219.1 bt209.1).bind fun t223 => (if t223 = true then (laws_FnExactHoldPut.j0 k l0 bt209.1 bt209.2 t213 bt219.1 bt219.2 (bt219.2 != bt209.2) a1_0 a1_1 a1_2) else (laws_FnExactHoldPut.j0 k l0 bt209.1 bt209.2 t213 bt219.1 bt219.2 true a1_0 a1_1 a1_2))))))))))))) = some true := h
 clear h
 obtain ⟨t201, A3, H⟩ := ob_ H
 by_cases c4 : t201 < 0
 ·rw [if_pos c4] at H
  have c4b0 : decide (t201 < 0) = true := decide_eq_true c4
  clear c4
  clear H
  go_enter Try.func12, Try.ntmps12
  go_wp2_with (first | ((with_reducible refine gate_dst (N := 3) rfl ?_); refine be_ (N := 3) (cs := #[.string a1_0, .int .i64 a1_1, .int .i64 a1_2]) (t := 89) ?_; intro gb200 hg w5 hbox hb; have BK200 := Aside0.mk (hbox); have GW200 := gw_ (w := w) hg; have GE200 := gw_ (w := w) hg; replace HB := Aside0.mk (below_step bl_ hb); clear hb hbox hg) | ((with_reducible refine gate_callee (f := 15) rfl ?_); refine goesL_ (some 18) rfl rfl Try.func15 (by kernel_rfl) rfl #[.slice A0 l0.length c0, .int .i64 1048576] rfl gl_ ?_; (with_reducible refine (laws_szHoldS.calls k _ _ l0 1048576 t201 _ ?side1 ?side2 A3.out).mono ?_); (case side1 => exact ca_ (Kd.C_below HR0.out HB.out)); (case side2 => exact HC0.out); rintro e w6 ⟨rfl, hb⟩; refine ⟨_, rfl, ?_⟩; replace BK200 := Aside0.mk (blk_below (bk_ BK200) hb); replace HB := Aside0.mk (below_step bl_ hb); (try clear hb); (try clear hb2); (try clear hk); (try clear hi)))
  go_ret
  exact ⟨sq_, bl_⟩
 ·rw [if_neg c4] at H
  have c4b0 : decide (t201 < 0) = false := decide_eq_false c4
  clear c4
  obtain ⟨t202, A7, H⟩ := ob_ H
  by_cases c8 : t202 < 0
  ·rw [if_pos c8] at H
   have c8b0 : decide (t202 < 0) = true := decide_eq_true c8
   clear c8
   clear H
   go_enter Try.func12, Try.ntmps12
   go_wp2_with (first | ((with_reducible refine gate_dst (N := 3) rfl ?_); refine be_ (N := 3) (cs := #[.string a1_0, .int .i64 a1_1, .int .i64 a1_2]) (t := 89) ?_; intro gb200 hg w9 hbox hb; have BK200 := Aside0.mk (hbox); have GW200 := gw_ (w := w) hg; have GE200 := gw_ (w := w) hg; replace HB := Aside0.mk (below_step bl_ hb); clear hb hbox hg) | ((with_reducible refine gate_callee (f := 15) rfl ?_); refine goesL_ (some 18) rfl rfl Try.func15 (by kernel_rfl) rfl #[.slice A0 l0.length c0, .int .i64 1048576] rfl gl_ ?_; (with_reducible refine (laws_szHoldS.calls k _ _ l0 1048576 t201 _ ?side1 ?side2 A3.out).mono ?_); (case side1 => exact ca_ (Kd.C_below HR0.out HB.out)); (case side2 => exact HC0.out); rintro e w10 ⟨rfl, hb⟩; refine ⟨_, rfl, ?_⟩; replace BK200 := Aside0.mk (blk_below (bk_ BK200) hb); replace HB := Aside0.mk (below_step bl_ hb); (try clear hb); (try clear hb2); (try clear hk); (try clear hi); obtain ⟨hcz11_0, hcz11_1, hcz11_2, hfz11_0, hfz11_1, hfz11_2⟩ := bx3_ BK200) | ((with_reducible refine gate_callee (f := 62) rfl ?_); refine goesL_ (some 23) rfl rfl Try.func62 (by kernel_rfl) rfl #[.agg #[.string a1_0, .int .i64 a1_1, .int .i64 a1_2], .int .i64 t201] rfl gl_ ?_; (with_reducible refine (laws_szHold.calls a1_0 a1_1 a1_2 t201 t202 _ A7.out).mono ?_); rintro e w12 ⟨rfl, hb⟩; refine ⟨_, rfl, ?_⟩; replace BK200 := Aside0.mk (blk_below (bk_ BK200) hb); replace HB := Aside0.mk (below_step bl_ hb); (try clear hb); (try clear hb2); (try clear hk); (try clear hi)))
   go_ret
   exact ⟨sq_, bl_⟩
  ·rw [if_neg c8] at H
   have c8b0 : decide (t202 < 0) = false := decide_eq_false c8
   clear c8
   obtain ⟨t203, A13, H⟩ := ob_ H
   obtain ⟨⟨t206, t207, t208⟩, A14, H⟩ := ob_ H
   (try dsimp only at H)
   obtain ⟨⟨t209, t212⟩, A15, H⟩ := ob_ H
   (try dsimp only at H)
   obtain ⟨t213, A16, H⟩ := ob_ H
   obtain ⟨⟨t216, t217, t218⟩, A17, H⟩ := ob_ H
   (try dsimp only at H)
   obtain ⟨⟨t219, t222⟩, A18, H⟩ := ob_ H
   (try dsimp only at H)
   have HC19 := Aside0.mk H
   clear H
   go_enter Try.func12, Try.ntmps12
   try go_wp2_with (first | ((with_reducible refine gate_dst (N := 3) rfl ?_); refine be_ (N := 3) (cs := #[.string a1_0, .int .i64 a1_1, .int .i64 a1_2]) (t := 89) ?_; intro gb200 hg w20 hbox hb; have BK200 := Aside0.mk (hbox); have GW200 := gw_ (w := w) hg; have GE200 := gw_ (w := w) hg; replace HB := Aside0.mk (below_step bl_ hb); clear hb hbox hg) | ((with_reducible refine gate_callee (f := 15) rfl ?_); refine goesL_ (some 18) rfl rfl Try.func15 (by kernel_rfl) rfl #[.slice A0 l0.length c0, .int .i64 1048576] rfl gl_ ?_; (with_reducible refine (laws_szHoldS.calls k _ _ l0 1048576 t201 _ ?side1 ?side2 A3.out).mono ?_); (case side1 => exact ca_ (Kd.C_below HR0.out HB.out)); (case side2 => exact HC0.out); rintro e w21 ⟨rfl, hb⟩; refine ⟨_, rfl, ?_⟩; replace BK200 := Aside0.mk (blk_below (bk_ BK200) hb); replace HB := Aside0.mk (below_step bl_ hb); (try clear hb); (try clear hb2); (try clear hk); (try clear hi); obtain ⟨hcz22_0, hcz22_1, hcz22_2, hfz22_0, hfz22_1, hfz22_2⟩ := bx3_ BK200) | ((with_reducible refine gate_callee (f := 62) rfl ?_); refine goesL_ (some 23) rfl rfl Try.func62 (by kernel_rfl) rfl #[.agg #[.string a1_0, .int .i64 a1_1, .int .i64 a1_2], .int .i64 t201] rfl gl_ ?_; (with_reducible refine (laws_szHold.calls a1_0 a1_1 a1_2 t201 t202 _ A7.out).mono ?_); rintro e w23 ⟨rfl, hb⟩; refine ⟨_, rfl, ?_⟩; replace BK200 := Aside0.mk (blk_below (bk_ BK200) hb); replace HB := Aside0.mk (below_step bl_ hb); (try clear hb); (try clear hb2); (try clear hk); (try clear hi)))
   have n0_ := Aside0.mk (blk_drew BK200.out)
   have n1_ := Aside0.mk (below_drew1 HB.out)
   clear BK200
   clear HB
   have BK200 := n0_
   have HB := n1_
   clear n0_ n1_
   refine start_ (n := 10) (S := fun w' => w'.cell? ⟨gb200, 0, none⟩ = some (.string a1_0) ∧ w'.cell? ⟨gb200, 1, none⟩ = some (.int .i64 a1_1) ∧ w'.cell? ⟨gb200, 2, none⟩ = some (.int .i64 a1_2)) (ds := []) tb10_0_10 (by kernel_rfl) rfl rfl ⟨cy_ BK200 0, cy_ BK200 1, cy_ BK200 2⟩ (fun hHeld => ?_); refine with_tabW laws_FnExactHoldPut.tab8 laws_FnExactHoldPut.bits8 (fun HT_ HW_ => ?_)
   generalize w23.drew = w24 at BK200 HB hHeld ⊢
   refine pl_ HT_ 0 27 tb10_1_10 ?_
   refine take_ (i := 2) (N := some 29) (v := ?_) (a' := ?_) tb10_5_10 rfl rfl (take_ofW HT_.out HW_.out (by kernel_rfl)) (fun _ _ _ h => h) (Or.inl ⟨by rfl, ?_⟩) hHeld ?_ ?_
   rotate_left
   ·rintro w' ⟨s0, s1, s2⟩
    go_simp
    with_reducible rfl
   rotate_left
   ·simp only [Act.put, q_]
    rfl
   refine one_ (i := 1) (N := some 28) tb10_7_10 rfl rfl (one_of HT_.out (by kernel_rfl)) (by decide) (fun K hK => ?_)
   refine goes_ Try.func17 (by kernel_rfl) rfl #[.slice A0 l0.length c0] (by rfl) rfl rfl gl_ ?_
   with_reducible refine (laws_toHoldS.calls k _ _ l0 t203 _ ?side1 ?side2 A13.out).mono ?_
   (case side1 => exact ca_ (Kd.C_below HR0.out HB.out))
   (case side2 => exact HC0.out)
   rintro e w25 ⟨v204, rfl, ho0, hb⟩
   refine ⟨_, rfl, ?_⟩
   have n0_ := Aside0.mk (Kd.R_lower ho0 (below_size bl_))
   have n1_ := Aside0.mk (blk_below (bk_ BK200) hb)
   have n2_ := Aside0.mk (below_step bl_ hb)
   clear BK200
   clear HB
   have HO205 := n0_
   have BK200 := n1_
   have HB := n2_
   clear n0_ n1_ n2_
   (try clear hb)
   (try clear hb2)
   (try clear hk)
   (try clear hi)
   (try clear ho0)
   refine hK.out _ _ ⟨cy_ BK200 0, cy_ BK200 1, cy_ BK200 2⟩ (fun hHeld => ?_)
   clear hK K
   refine norm_ (a' := ?_) ?_ ?_
   rotate_left
   ·show Act.put _ (some 28) _ = _
    simp only [Act.put, q_]
    rfl
   refine one_ (i := 3) (N := some 30) tb10_f_10 rfl rfl (one_of HT_.out (by kernel_rfl)) (by decide) (fun K hK => ?_)
   refine goes_ Try.func64 (by kernel_rfl) rfl #[.agg #[.string a1_0, .int .i64 a1_1, .int .i64 a1_2]] (by rfl) rfl rfl gl_ ?_
   with_reducible refine (laws_toHold.calls a1_0 a1_1 a1_2 t206 t207 t208 _ A14.out).mono ?_
   rintro e w26 ⟨rfl, hb⟩
   refine ⟨_, rfl, ?_⟩
   have n0_ := Aside0.mk (Kd.R_below (ra_ HO205) hb)
   have n1_ := Aside0.mk (blk_below (bk_ BK200) hb)
   have n2_ := Aside0.mk (below_step bl_ hb)
   clear HO205
   clear BK200
   clear HB
   have HO205 := n0_
   have BK200 := n1_
   have HB := n2_
   clear n0_ n1_ n2_
   (try clear hb)
   (try clear hb2)
   (try clear hk)
   (try clear hi)
   obtain ⟨Ao27, co27, eo27⟩ := Kd.R_slice HO205.out
   (first | subst eo27 | (injection eo27 with f1_ f2_ f3_; have f4_ := f1_.symm; have f5_ := f3_.symm; clear f1_ f2_ f3_; subst f4_; subst f5_))
   refine hK.out _ _ ⟨cy_ BK200 0, cy_ BK200 1, cy_ BK200 2⟩ (fun hHeld => ?_)
   clear hK K
   refine norm_ (a' := ?_) ?_ ?_
   rotate_left
   ·show Act.put _ (some 30) _ = _
    simp only [Act.put, q_]
    rfl
   refine one_ (i := 4) (N := some 31) tb10_1f_10 rfl rfl (one_of HT_.out (by kernel_rfl)) (by decide) (fun K hK => ?_)
   refine goes_ Try.func63 (by kernel_rfl) rfl #[.slice Ao27 t203.length co27, .agg #[.string t206, .int .i64 t207, .int .i64 t208]] (by rfl) rfl rfl gl_ ?_
   with_reducible refine (spec_HoldPut.calls k _ _ t203 t206 t207 t208 t209 t212 _ ?side1 ?side2 A15.out).mono ?_
   (case side1 => exact ca_ ((Kd.R_reads' HO205.out).2.2))
   (case side2 => exact (Kd.R_reads' HO205.out).2.1)
   rintro e w28 ⟨v210, rfl, ho0, hb⟩
   refine ⟨_, rfl, ?_⟩
   have n0_ := Aside0.mk (Kd.R_elder' (ra_ HO205) (Kd.R_base ho0) hb)
   have n1_ := Aside0.mk (Kd.R_lower (Kd.R_new' ho0 (Kd.R_lt (ra_ HO205))) (below_size bl_))
   have n2_ := Aside0.mk (blk_below (bk_ BK200) hb)
   have n3_ := Aside0.mk (below_step bl_ hb)
   clear HO205
   clear BK200
   clear HB
   have HO205 := n0_
   have HO211 := n1_
   have BK200 := n2_
   have HB := n3_
   clear n0_ n1_ n2_ n3_
   (try clear hb)
   (try clear hb2)
   (try clear hk)
   (try clear hi)
   (try clear ho0)
   refine hK.out _ _ ⟨cy_ BK200 0, cy_ BK200 1, cy_ BK200 2⟩ (fun hHeld => ?_)
   clear hK K
   refine norm_ (a' := ?_) ?_ ?_
   rotate_left
   ·show Act.put _ (some 31) _ = _
    simp only [Act.put, q_]
    rfl
   refine pl_ HT_ 5 26 tb10_3f_10 ?_
   refine pl_ HT_ 6 32 tb10_7f_10 ?_
   refine pl_ HT_ 7 33 tb10_ff_10 ?_
   refine pl_ HT_ 8 6 tb10_1ff_10 ?_
   refine pl_ HT_ 9 7 tb10_3ff_10 ?_
   refine done_ (done_of HT_.out (by kernel_rfl)) ?_
   go_upto_region 11 with (first | ((with_reducible refine gate_callee (f := 17) rfl ?_); refine goesL_ (some 35) rfl rfl Try.func17 (by kernel_rfl) rfl #[.slice A0 l0.length c0] rfl gl_ ?_; (with_reducible refine (laws_toHoldS.calls k _ _ l0 t213 _ ?side1 ?side2 A16.out).mono ?_); (case side1 => exact ca_ (Kd.C_below HR0.out HB.out)); (case side2 => exact HC0.out); rintro e w29 ⟨v214, rfl, ho0, hb⟩; refine ⟨_, rfl, ?_⟩; have HO215 := Aside0.mk (Kd.R_lower (Kd.R_new' (Kd.R_new' ho0 (Kd.R_lt (ra_ HO205))) (Kd.R_lt (ra_ HO211))) (below_size bl_)); replace HO205 := Aside0.mk (Kd.R_elder' (ra_ HO205) (Kd.R_base ho0) hb); replace HO211 := Aside0.mk (Kd.R_elder' (ra_ HO211) (Kd.R_base ho0) hb); replace BK200 := Aside0.mk (blk_below (bk_ BK200) hb); replace HB := Aside0.mk (below_step bl_ hb); (try clear hb); (try clear hb2); (try clear hk); (try clear hi); (try clear ho0); obtain ⟨hcz30_0, hcz30_1, hcz30_2, hfz30_0, hfz30_1, hfz30_2⟩ := bx3_ BK200) | ((with_reducible refine gate_callee (f := 64) rfl ?_); refine goesL_ (some 39) rfl rfl Try.func64 (by kernel_rfl) rfl #[.agg #[.string a1_0, .int .i64 a1_1, .int .i64 a1_2]] rfl gl_ ?_; (with_reducible refine (laws_toHold.calls a1_0 a1_1 a1_2 t216 t217 t218 _ A17.out).mono ?_); rintro e w31 ⟨rfl, hb⟩; refine ⟨_, rfl, ?_⟩; replace HO205 := Aside0.mk (Kd.R_below (ra_ HO205) hb); replace HO211 := Aside0.mk (Kd.R_below (ra_ HO211) hb); replace HO215 := Aside0.mk (Kd.R_below (ra_ HO215) hb); replace BK200 := Aside0.mk (blk_below (bk_ BK200) hb); replace HB := Aside0.mk (below_step bl_ hb); (try clear hb); (try clear hb2); (try clear hk); (try clear hi); obtain ⟨Ao32, co32, eo32⟩ := Kd.R_slice HO215.out; subst eo32) | ((with_reducible refine gate_callee (f := 65) rfl ?_); refine goesL_ (some 40) rfl rfl Try.func65 (by kernel_rfl) rfl #[.slice Ao32 t213.length co32, .agg #[.string t216, .int .i64 t217, .int .i64 t218]] rfl gl_ ?_; (with_reducible refine (impl_HoldPut.calls k _ _ t213 t216 t217 t218 t219 t222 _ ?side1 ?side2 A18.out).mono ?_); (case side1 => exact ca_ ((Kd.R_reads' HO215.out).2.2)); (case side2 => exact (Kd.R_reads' HO215.out).2.1); rintro e w33 ⟨v220, rfl, ho0, hb⟩; refine ⟨_, rfl, ?_⟩; have HO221 := Aside0.mk (Kd.R_lower (Kd.R_new' (Kd.R_new' (Kd.R_new' ho0 (Kd.R_lt (ra_ HO205))) (Kd.R_lt (ra_ HO211))) (Kd.R_lt (ra_ HO215))) (below_size bl_)); replace HO205 := Aside0.mk (Kd.R_elder' (ra_ HO205) (Kd.R_base ho0) hb); replace HO211 := Aside0.mk (Kd.R_elder' (ra_ HO211) (Kd.R_base ho0) hb); replace HO215 := Aside0.mk (Kd.R_elder' (ra_ HO215) (Kd.R_base ho0) hb); replace BK200 := Aside0.mk (blk_below (bk_ BK200) hb); replace HB := Aside0.mk (below_step bl_ hb); (try clear hb); (try clear hb2); (try clear hk); (try clear hi); (try clear ho0)))
   (try simp only [Act.put, List.setIfInBounds_toArray, List.set_cons_zero, List.set_cons_succ])
   go_cut [51] (fun v51 wc => ∃ (kq : Nat) (x51_18 : Bool), v51 = .bool x51_18 ∧ Aside0 (laws_FnExactHoldPut.j0 kq l0 t209 t212 t213 t219 t222 x51_18 a1_0 a1_1 a1_2 = some true) ∧ Aside0 (kq ≤ k) ∧ Aside0 (Kd.R k93 93 wc w.heap.size (fun k_ => some k_ ≠ ((.slice Ao32 t213.length co32) : Value).ownBlock ∧ some k_ ≠ (v220 : Value).ownBlock) v210 t209) ∧ Aside0 (Kd.R k93 93 wc w.heap.size (fun k_ => some k_ ≠ (v210 : Value).ownBlock ∧ some k_ ≠ (v220 : Value).ownBlock) (.slice Ao32 t213.length co32) t213) ∧ Aside0 (Kd.R k93 93 wc w.heap.size (fun k_ => some k_ ≠ (v210 : Value).ownBlock ∧ some k_ ≠ ((.slice Ao32 t213.length co32) : Value).ownBlock) v220 t219) ∧ Aside0 (wc.heap[gb200]? = some (.cells #[.string a1_0, .int .i64 a1_1, .int .i64 a1_2] 89 (0, 0))) ∧ Aside0 (Below w.heap.size w wc))
   case first =>
    have H := HC19.out
    clear HC19
    obtain ⟨t223, A34, H⟩ := ob_ H
    by_cases c35 : t223 = true
    ·subst c35
     replace H := ip_ H
     have H' := Aside0.mk H
     clear H
     obtain ⟨Ao36, co36, eo36⟩ := Kd.R_slice HO221.out
     subst eo36
     obtain ⟨Ao37, co37, eo37⟩ := Kd.R_slice HO211.out
     subst eo37
     go_wp2_with (first | ((with_reducible refine gate_callee (f := 19) rfl ?_); refine goesL_ (some 45) rfl rfl Try.func19 (by kernel_rfl) rfl #[.slice Ao36 t219.length co36, .slice Ao37 t209.length co37] rfl gl_ ?_; (with_reducible refine (laws_eqHoldS.calls k _ _ t219 _ _ t209 true _ ?side1 ?side2 ?side3 ?side4 A34.out).mono ?_); (case side1 => exact ca_ ((Kd.R_reads' HO221.out).2.2)); (case side2 => exact (Kd.R_reads' HO221.out).2.1); (case side3 => exact ca_ ((Kd.R_reads' HO211.out).2.2)); (case side4 => exact (Kd.R_reads' HO211.out).2.1); rintro e w38 ⟨rfl, hb⟩; refine ⟨_, rfl, ?_⟩; replace HO205 := Aside0.mk (Kd.R_below (ra_ HO205) hb); replace HO211 := Aside0.mk (Kd.R_below (ra_ HO211) hb); replace HO215 := Aside0.mk (Kd.R_below (ra_ HO215) hb); replace HO221 := Aside0.mk (Kd.R_below (ra_ HO221) hb); replace BK200 := Aside0.mk (blk_below (bk_ BK200) hb); replace HB := Aside0.mk (below_step bl_ hb); (try clear hb); (try clear hb2); (try clear hk); (try clear hi)))
     go_meet
     case rel => exact ⟨_, ((t222 != t212)), sp_, H', ⟨by first | omega | exact Nat.le_refl _⟩, ⟨by (with_reducible repeat (first | apply Kd.R_alloc | apply Kd.R_drewN | apply Kd.R_drew)); exact Kd.R_mono HO211.out (fun _ hk => ⟨hk.1.2, hk.2⟩)⟩, ⟨by (with_reducible repeat (first | apply Kd.R_alloc | apply Kd.R_drewN | apply Kd.R_drew)); exact Kd.R_mono HO215.out (fun _ hk => ⟨hk.1.2, hk.2⟩)⟩, ⟨by (with_reducible repeat (first | apply Kd.R_alloc | apply Kd.R_drewN | apply Kd.R_drew)); exact Kd.R_mono HO221.out (fun _ hk => ⟨hk.1.2, hk.2⟩)⟩, ⟨by (with_reducible repeat (first | refine blk_drewN ?_ _ | refine blk_drew ?_ | refine blk_alloc ?_ _)); exact BK200.out⟩, ⟨bl_⟩⟩
    ·replace c35 := Bool.eq_false_iff.mpr c35
     subst c35
     replace H := in_ H
     have H' := Aside0.mk H
     clear H
     obtain ⟨Ao39, co39, eo39⟩ := Kd.R_slice HO221.out
     subst eo39
     obtain ⟨Ao40, co40, eo40⟩ := Kd.R_slice HO211.out
     subst eo40
     go_wp2_with (first | ((with_reducible refine gate_callee (f := 19) rfl ?_); refine goesL_ (some 45) rfl rfl Try.func19 (by kernel_rfl) rfl #[.slice Ao39 t219.length co39, .slice Ao40 t209.length co40] rfl gl_ ?_; (with_reducible refine (laws_eqHoldS.calls k _ _ t219 _ _ t209 false _ ?side1 ?side2 ?side3 ?side4 A34.out).mono ?_); (case side1 => exact ca_ ((Kd.R_reads' HO221.out).2.2)); (case side2 => exact (Kd.R_reads' HO221.out).2.1); (case side3 => exact ca_ ((Kd.R_reads' HO211.out).2.2)); (case side4 => exact (Kd.R_reads' HO211.out).2.1); rintro e w41 ⟨rfl, hb⟩; refine ⟨_, rfl, ?_⟩; replace HO205 := Aside0.mk (Kd.R_below (ra_ HO205) hb); replace HO211 := Aside0.mk (Kd.R_below (ra_ HO211) hb); replace HO215 := Aside0.mk (Kd.R_below (ra_ HO215) hb); replace HO221 := Aside0.mk (Kd.R_below (ra_ HO221) hb); replace BK200 := Aside0.mk (blk_below (bk_ BK200) hb); replace HB := Aside0.mk (below_step bl_ hb); (try clear hb); (try clear hb2); (try clear hk); (try clear hi)))
     go_meet
     case rel => exact ⟨_, (true), sp_, H', ⟨by first | omega | exact Nat.le_refl _⟩, ⟨by (with_reducible repeat (first | apply Kd.R_alloc | apply Kd.R_drewN | apply Kd.R_drew)); exact Kd.R_mono HO211.out (fun _ hk => ⟨hk.1.2, hk.2⟩)⟩, ⟨by (with_reducible repeat (first | apply Kd.R_alloc | apply Kd.R_drewN | apply Kd.R_drew)); exact Kd.R_mono HO215.out (fun _ hk => ⟨hk.1.2, hk.2⟩)⟩, ⟨by (with_reducible repeat (first | apply Kd.R_alloc | apply Kd.R_drewN | apply Kd.R_drew)); exact Kd.R_mono HO221.out (fun _ hk => ⟨hk.1.2, hk.2⟩)⟩, ⟨by (with_reducible repeat (first | refine blk_drewN ?_ _ | refine blk_drew ?_ | refine blk_alloc ?_ _)); exact BK200.out⟩, ⟨bl_⟩⟩
   case rest =>
    clear HC19
    try clear c1
    try clear p2
    try clear c3
    try clear c4
    try clear c4b0
    try clear c6
    try clear c8
    try clear c8b0
    try clear c12
    try clear c15
    try clear c17
    try clear c19
    try clear c35
    try clear hcz11_0
    try clear hcz11_1
    try clear hcz11_2
    try clear hcz22_0
    try clear hcz22_1
    try clear hcz22_2
    try clear hcz30_0
    try clear hcz30_1
    try clear hcz30_2
    try clear hfz11_0
    try clear hfz11_1
    try clear hfz11_2
    try clear hfz22_0
    try clear hfz22_1
    try clear hfz22_2
    try clear hfz30_0
    try clear hfz30_1
    try clear hfz30_2
    obtain ⟨kq, x51_18, rfl, HA, HJ18, HO_6, HO_8, HO_9, BK200, HB⟩ := hcut
    cases kq with
    | zero => exact absurd HA.out (by simp [laws_FnExactHoldPut.j0])
    | succ kj18 =>
     have H := HA.out
     clear HA
     simp only [laws_FnExactHoldPut.j0] at H
     by_cases c42 : x51_18 = true
     ·subst c42
      replace H := ip_ H
      exact absurd H (by simp)
     ·replace c42 := Bool.eq_false_iff.mpr c42
      subst c42
      replace H := in_ H
      obtain ⟨t224, A43, H⟩ := ob_ H
      obtain ⟨t227, A44, H⟩ := ob_ H
      by_cases c45 : t227 = true
      ·subst c45
       replace H := ip_ H
       obtain ⟨⟨t228, t229⟩, A46, H⟩ := ob_ H
       (try dsimp only at H)
       have HC47 := Aside0.mk H
       clear H
       go_upto_region 17 with (first | ((with_reducible refine gate_callee (f := 17) rfl ?_); refine goesL_ (some 54) rfl rfl Try.func17 (by kernel_rfl) rfl #[.slice A0 l0.length c0] rfl gl_ ?_; (with_reducible refine (laws_toHoldS.calls kj18 _ _ l0 t224 _ ?side1 ?side2 A43.out).mono ?_); (case side1 => exact ca_ (Kd.C_below HR0.out HB.out)); (case side2 => exact HC0.out); rintro e w48 ⟨v225, rfl, ho0, hb⟩; refine ⟨_, rfl, ?_⟩; have HO226 := Aside0.mk (Kd.R_lower (Kd.R_new' (Kd.R_new' (Kd.R_new' ho0 (Kd.R_lt (ra_ HO_6))) (Kd.R_lt (ra_ HO_8))) (Kd.R_lt (ra_ HO_9))) (below_size bl_)); replace HO_6 := Aside0.mk (Kd.R_elder' (ra_ HO_6) (Kd.R_base ho0) hb); replace HO_8 := Aside0.mk (Kd.R_elder' (ra_ HO_8) (Kd.R_base ho0) hb); replace HO_9 := Aside0.mk (Kd.R_elder' (ra_ HO_9) (Kd.R_base ho0) hb); replace BK200 := Aside0.mk (blk_below (bk_ BK200) hb); replace HB := Aside0.mk (below_step bl_ hb); (try clear hb); (try clear hb2); (try clear hk); (try clear hi); (try clear ho0); obtain ⟨Ao49, co49, eo49⟩ := Kd.R_slice HO226.out; subst eo49) | ((with_reducible refine gate_callee (f := 19) rfl ?_); refine goesL_ (some 55) rfl rfl Try.func19 (by kernel_rfl) rfl #[.slice Ao32 t213.length co32, .slice Ao49 t224.length co49] rfl gl_ ?_; (with_reducible refine (laws_eqHoldS.calls kj18 _ _ t213 _ _ t224 true _ ?side1 ?side2 ?side3 ?side4 A44.out).mono ?_); (case side1 => exact ca_ ((Kd.R_reads' HO_8.out).2.2)); (case side2 => exact (Kd.R_reads' HO_8.out).2.1); (case side3 => exact ca_ ((Kd.R_reads' HO226.out).2.2)); (case side4 => exact (Kd.R_reads' HO226.out).2.1); rintro e w50 ⟨rfl, hb⟩; refine ⟨_, rfl, ?_⟩; replace HO_6 := Aside0.mk (Kd.R_below (ra_ HO_6) hb); replace HO_8 := Aside0.mk (Kd.R_below (ra_ HO_8) hb); replace HO_9 := Aside0.mk (Kd.R_below (ra_ HO_9) hb); replace HO226 := Aside0.mk (Kd.R_below (ra_ HO226) hb); replace BK200 := Aside0.mk (blk_below (bk_ BK200) hb); replace HB := Aside0.mk (below_step bl_ hb); (try clear hb); (try clear hb2); (try clear hk); (try clear hi)) | ((with_reducible refine gate_callee (f := 20) rfl ?_); refine goesL_ (some 59) rfl rfl Try.func20 (by kernel_rfl) rfl #[.slice Ao32 t213.length co32, .int .i64 1] rfl gl_ ?_; (with_reducible refine (laws_markHoldS.calls kj18 (fun k_ => some k_ = (.slice Ao32 t213.length co32 : Value).ownBlock) (.slice Ao32 t213.length co32) t213 1 t228 t229 w _ ?side1 ?side2 A46.out).mono ?_); (case side1 => repeat (first | (with_reducible first | exact HB.out | apply below_alloc | apply pw_below_drewN | apply below_drew1 | refine below_set ?_ GE200.out) | exact HB.out)); (case side2 => exact Kd.R_tight rfl HO_8.out); rintro e w51 ⟨rfl, hy0, hb, hkp⟩; refine ⟨_, rfl, ?_⟩; replace HO_6 := Aside0.mk (Kd.R_mono (ok' := fun k_ => some k_ ≠ (.slice Ao32 t213.length co32 : Value).ownBlock ∧ some k_ ≠ (v220 : Value).ownBlock ∧ some k_ ≠ (.slice Ao49 t224.length co49 : Value).ownBlock) (Kd.R_keptB (HO_6.out) hkp (fun k_ hk_ hs_ => (hk_.1.1) hs_)) (fun k_ hk_ => ⟨hk_.1.1.1, hk_.1.1.2, hk_.1.2⟩)); replace HO_9 := Aside0.mk (Kd.R_mono (ok' := fun k_ => some k_ ≠ (v210 : Value).ownBlock ∧ some k_ ≠ (.slice Ao32 t213.length co32 : Value).ownBlock ∧ some k_ ≠ (.slice Ao49 t224.length co49 : Value).ownBlock) (Kd.R_keptB (HO_9.out) hkp (fun k_ hk_ hs_ => (hk_.1.2) hs_)) (fun k_ hk_ => ⟨hk_.1.1.1, hk_.1.1.2, hk_.1.2⟩)); replace BK200 := Aside0.mk (blk_kept (by (with_reducible repeat (first | refine blk_drewN ?_ _ | refine blk_drew ?_ | refine blk_alloc ?_ _)); exact BK200.out) hkp (fun hs_ => (fun e_ => (Kd.R_ne HO_8.out BK200.out (by decide)) e_) hs_)); replace HO_8 := Aside0.mk (Kd.R_reok rfl hy0 (fun k_ e_ => HO_8.out.1 k_ e_)); replace HO226 := Aside0.mk (Kd.R_mono (ok' := fun k_ => some k_ ≠ (v210 : Value).ownBlock ∧ some k_ ≠ (.slice Ao32 t213.length co32 : Value).ownBlock ∧ some k_ ≠ (v220 : Value).ownBlock) (Kd.R_keptB (HO226.out) hkp (fun k_ hk_ hs_ => (hk_.1.2) hs_)) (fun k_ hk_ => ⟨hk_.1.1.1.2, hk_.1.1.2, hk_.1.2⟩)); replace HB := Aside0.mk (hb); (try clear hb); (try clear hkp); (try clear hy0)))
       (try simp only [Act.put, List.setIfInBounds_toArray, List.set_cons_zero, List.set_cons_succ])
       go_cut [72] (fun v72 wc => ∃ (kq : Nat) (x72_46 : Bool), v72 = .bool x72_46 ∧ Aside0 (laws_FnExactHoldPut.j1 kq l0 t209 t212 t219 x72_46 a1_0 a1_1 a1_2 = some true) ∧ Aside0 (kq ≤ kj18) ∧ Aside0 (Kd.R k93 93 wc w.heap.size (fun k_ => some k_ ≠ (v220 : Value).ownBlock) v210 t209) ∧ Aside0 (Kd.R k93 93 wc w.heap.size (fun k_ => some k_ ≠ (v210 : Value).ownBlock) v220 t219) ∧ Aside0 (wc.heap[gb200]? = some (.cells #[.string a1_0, .int .i64 a1_1, .int .i64 a1_2] 89 (0, 0))) ∧ Aside0 (Below w.heap.size w wc))
       case first =>
        have H := HC47.out
        clear HC47
        by_cases c52 : t228 < 0
        ·rw [if_pos c52] at H
         have c52b0 : decide (t228 < 0) = true := decide_eq_true c52
         clear c52
         (first | rw [c52b0] | (simp only [i64_w, i32_w]; rw [c52b0]) | skip)
         have H' := Aside0.mk H
         clear H
         go_wp2
         go_meet
         case rel => exact ⟨_, (true), sp_, H', ⟨by have := HJ18.out; first | omega | exact Nat.le_refl _⟩, ⟨by (with_reducible repeat (first | apply Kd.R_alloc | apply Kd.R_drewN | apply Kd.R_drew)); exact Kd.R_mono HO_6.out (fun _ hk => hk.2.1)⟩, ⟨by (with_reducible repeat (first | apply Kd.R_alloc | apply Kd.R_drewN | apply Kd.R_drew)); exact Kd.R_mono HO_9.out (fun _ hk => hk.1)⟩, ⟨by (with_reducible repeat (first | refine blk_drewN ?_ _ | refine blk_drew ?_ | refine blk_alloc ?_ _)); exact BK200.out⟩, ⟨bl_⟩⟩
        ·rw [if_neg c52] at H
         have c52b0 : decide (t228 < 0) = false := decide_eq_false c52
         clear c52
         (first | rw [c52b0] | (simp only [i64_w, i32_w]; rw [c52b0]) | skip)
         obtain ⟨t230, A53, H⟩ := ob_ H
         by_cases c54 : t230 = true
         ·subst c54
          replace H := ip_ H
          have H' := Aside0.mk H
          clear H
          obtain ⟨Ao55, co55, eo55⟩ := Kd.R_slice HO_9.out
          subst eo55
          obtain ⟨Ao56, co56, eo56⟩ := Kd.R_slice HO_6.out
          subst eo56
          go_wp2_with (first | (go_at_call 19; (with_reducible refine (laws_eqHoldS.calls kj18 _ _ t219 _ _ t209 true _ ?side1 ?side2 ?side3 ?side4 A53.out).mono ?_); (case side1 => exact ca_ ((Kd.R_reads' HO_9.out).2.2)); (case side2 => exact (Kd.R_reads' HO_9.out).2.1); (case side3 => exact ca_ ((Kd.R_reads' HO_6.out).2.2)); (case side4 => exact (Kd.R_reads' HO_6.out).2.1); rintro e w57 ⟨rfl, hb⟩; replace HO_6 := Aside0.mk (Kd.R_below (ra_ HO_6) hb); replace HO_8 := Aside0.mk (Kd.R_below (ra_ HO_8) hb); replace HO_9 := Aside0.mk (Kd.R_below (ra_ HO_9) hb); replace HO226 := Aside0.mk (Kd.R_below (ra_ HO226) hb); replace BK200 := Aside0.mk (blk_below (bk_ BK200) hb); replace HB := Aside0.mk (below_step bl_ hb); (try clear hb); (try clear hb2); (try clear hk); (try clear hi)))
          go_meet
          case rel => exact ⟨_, ((t222 != t212)), sp_, H', ⟨by have := HJ18.out; first | omega | exact Nat.le_refl _⟩, ⟨by (with_reducible repeat (first | apply Kd.R_alloc | apply Kd.R_drewN | apply Kd.R_drew)); exact Kd.R_mono HO_6.out (fun _ hk => hk.2.1)⟩, ⟨by (with_reducible repeat (first | apply Kd.R_alloc | apply Kd.R_drewN | apply Kd.R_drew)); exact Kd.R_mono HO_9.out (fun _ hk => hk.1)⟩, ⟨by (with_reducible repeat (first | refine blk_drewN ?_ _ | refine blk_drew ?_ | refine blk_alloc ?_ _)); exact BK200.out⟩, ⟨bl_⟩⟩
         ·replace c54 := Bool.eq_false_iff.mpr c54
          subst c54
          replace H := in_ H
          have H' := Aside0.mk H
          clear H
          obtain ⟨Ao58, co58, eo58⟩ := Kd.R_slice HO_9.out
          subst eo58
          obtain ⟨Ao59, co59, eo59⟩ := Kd.R_slice HO_6.out
          subst eo59
          go_wp2_with (first | (go_at_call 19; (with_reducible refine (laws_eqHoldS.calls kj18 _ _ t219 _ _ t209 false _ ?side1 ?side2 ?side3 ?side4 A53.out).mono ?_); (case side1 => exact ca_ ((Kd.R_reads' HO_9.out).2.2)); (case side2 => exact (Kd.R_reads' HO_9.out).2.1); (case side3 => exact ca_ ((Kd.R_reads' HO_6.out).2.2)); (case side4 => exact (Kd.R_reads' HO_6.out).2.1); rintro e w60 ⟨rfl, hb⟩; replace HO_6 := Aside0.mk (Kd.R_below (ra_ HO_6) hb); replace HO_8 := Aside0.mk (Kd.R_below (ra_ HO_8) hb); replace HO_9 := Aside0.mk (Kd.R_below (ra_ HO_9) hb); replace HO226 := Aside0.mk (Kd.R_below (ra_ HO226) hb); replace BK200 := Aside0.mk (blk_below (bk_ BK200) hb); replace HB := Aside0.mk (below_step bl_ hb); (try clear hb); (try clear hb2); (try clear hk); (try clear hi)))
          go_meet
          case rel => exact ⟨_, (true), sp_, H', ⟨by have := HJ18.out; first | omega | exact Nat.le_refl _⟩, ⟨by (with_reducible repeat (first | apply Kd.R_alloc | apply Kd.R_drewN | apply Kd.R_drew)); exact Kd.R_mono HO_6.out (fun _ hk => hk.2.1)⟩, ⟨by (with_reducible repeat (first | apply Kd.R_alloc | apply Kd.R_drewN | apply Kd.R_drew)); exact Kd.R_mono HO_9.out (fun _ hk => hk.1)⟩, ⟨by (with_reducible repeat (first | refine blk_drewN ?_ _ | refine blk_drew ?_ | refine blk_alloc ?_ _)); exact BK200.out⟩, ⟨bl_⟩⟩
       case rest =>
        clear HC47
        try clear c1
        try clear c2
        try clear p2
        try clear c3
        try clear c4
        try clear c4b0
        try clear c5
        try clear c6
        try clear c8
        try clear c8b0
        try clear c12
        try clear c15
        try clear c17
        try clear c19
        try clear c20
        try clear c35
        try clear c42
        try clear c45
        try clear c52
        try clear c52b0
        try clear c54
        try clear hcz11_0
        try clear hcz11_1
        try clear hcz11_2
        try clear hcz22_0
        try clear hcz22_1
        try clear hcz22_2
        try clear hcz30_0
        try clear hcz30_1
        try clear hcz30_2
        try clear hfz11_0
        try clear hfz11_1
        try clear hfz11_2
        try clear hfz22_0
        try clear hfz22_1
        try clear hfz22_2
        try clear hfz30_0
        try clear hfz30_1
        try clear hfz30_2
        try clear p2
        obtain ⟨kq, x72_46, rfl, HA, HJ46, HO_6, HO_9, BK200, HB⟩ := hcut
        cases kq with
        | zero => exact absurd HA.out (by simp [laws_FnExactHoldPut.j1])
        | succ kj46 =>
         have H := HA.out
         clear HA
         simp only [laws_FnExactHoldPut.j1] at H
         by_cases c61 : x72_46 = true
         ·subst c61
          replace H := ip_ H
          exact absurd H (by simp)
         ·replace c61 := Bool.eq_false_iff.mpr c61
          subst c61
          replace H := in_ H
          obtain ⟨⟨t231, t232⟩, A62, H⟩ := ob_ H
          (try dsimp only at H)
          obtain ⟨t233, A63, H⟩ := ob_ H
          by_cases c64 : t233 < 0
          ·rw [if_pos c64] at H
           have c64b0 : decide (t233 < 0) = true := decide_eq_true c64
           clear c64
           exact absurd H (by simp)
          ·rw [if_neg c64] at H
           have c64b0 : decide (t233 < 0) = false := decide_eq_false c64
           clear c64
           by_cases c65 : t233 = t231
           ·rw [if_pos c65] at H
            have c65b0 : (t233 == t231) = true := beq_iff_eq.mpr c65
            have c65b1 : (t233 != t231) = false := bne_eq_false_iff_eq.mpr c65
            clear c65
            obtain ⟨t234, A66, H⟩ := ob_ H
            obtain ⟨⟨t237, t238, t239⟩, A67, H⟩ := ob_ H
            (try dsimp only at H)
            obtain ⟨⟨t240, t243⟩, A68, H⟩ := ob_ H
            (try dsimp only at H)
            have HC69 := Aside0.mk H
            clear H
            obtain ⟨Ao70, co70, eo70⟩ := Kd.R_slice HO_9.out
            subst eo70
            try go_wp2_with (first | ((with_reducible refine gate_callee (f := 20) rfl ?_); refine goesL_ (some 75) rfl rfl Try.func20 (by kernel_rfl) rfl #[.slice Ao70 t219.length co70, .int .i64 1] rfl gl_ ?_; (with_reducible refine (laws_markHoldS.calls kj46 (fun k_ => some k_ = (.slice Ao70 t219.length co70 : Value).ownBlock) (.slice Ao70 t219.length co70) t219 1 t231 t232 w _ ?side1 ?side2 A62.out).mono ?_); (case side1 => repeat (first | (with_reducible first | exact HB.out | apply below_alloc | apply pw_below_drewN | apply below_drew1 | refine below_set ?_ GE200.out) | exact HB.out)); (case side2 => exact Kd.R_tight rfl HO_9.out); rintro e w71 ⟨rfl, hy0, hb, hkp⟩; refine ⟨_, rfl, ?_⟩; replace HO_6 := Aside0.mk (Kd.R_mono (ok' := fun k_ => some k_ ≠ (.slice Ao70 t219.length co70 : Value).ownBlock) (Kd.R_keptB (HO_6.out) hkp (fun k_ hk_ hs_ => (hk_) hs_)) (fun k_ hk_ => hk_.1)); replace BK200 := Aside0.mk (blk_kept (by (with_reducible repeat (first | refine blk_drewN ?_ _ | refine blk_drew ?_ | refine blk_alloc ?_ _)); exact BK200.out) hkp (fun hs_ => (fun e_ => (Kd.R_ne HO_9.out BK200.out (by decide)) e_) hs_)); replace HO_9 := Aside0.mk (Kd.R_reok rfl hy0 (fun k_ e_ => HO_9.out.1 k_ e_)); replace HB := Aside0.mk (hb); (try clear hb); (try clear hkp); (try clear hy0)) | ((with_reducible refine gate_callee (f := 21) rfl ?_); refine goesL_ (some 78) rfl rfl Try.func21 (by kernel_rfl) rfl #[.slice Ao70 t232.length co70, .int .i64 1] rfl (by (try simp only [List.map_toArray, List.map_cons, List.map_nil]); first | done | (rw [show t232.length = t219.length from (Kd.R_reads' HO_9.out).1.symm] <;> rfl) | rfl | (simp only [List.length_drop, List.length_take]; rfl)) ?_; (with_reducible refine (laws_heldHoldS.calls kj46 _ _ t232 1 t233 _ ?side1 ?side2 A63.out).mono ?_); (case side1 => exact ca_ ((Kd.R_reads' HO_9.out).2.2)); (case side2 => rw [show t232.length = t219.length from (Kd.R_reads' HO_9.out).1.symm]; exact (Kd.R_reads' HO_9.out).2.1); rintro e w72 ⟨rfl, hb⟩; refine ⟨_, rfl, ?_⟩; replace HO_6 := Aside0.mk (Kd.R_below (ra_ HO_6) hb); replace HO_9 := Aside0.mk (Kd.R_below (ra_ HO_9) hb); replace BK200 := Aside0.mk (blk_below (bk_ BK200) hb); replace HB := Aside0.mk (below_step bl_ hb); (try clear hb); (try clear hb2); (try clear hk); (try clear hi)))
            have n0_ := Aside0.mk (Kd.R_drew HO_6.out)
            have n1_ := Aside0.mk (Kd.R_drew HO_9.out)
            have n2_ := Aside0.mk (blk_drew BK200.out)
            have n3_ := Aside0.mk (below_drew1 HB.out)
            clear HO_6
            clear HO_9
            clear BK200
            clear HB
            have HO_6 := n0_
            have HO_9 := n1_
            have BK200 := n2_
            have HB := n3_
            clear n0_ n1_ n2_ n3_
            refine start_ (n := 10) (S := fun w' => w'.cell? ⟨gb200, 0, none⟩ = some (.string a1_0) ∧ w'.cell? ⟨gb200, 1, none⟩ = some (.int .i64 a1_1) ∧ w'.cell? ⟨gb200, 2, none⟩ = some (.int .i64 a1_2)) (ds := []) tb10_0_10 (by kernel_rfl) rfl rfl ⟨cy_ BK200 0, cy_ BK200 1, cy_ BK200 2⟩ (fun hHeld => ?_); refine with_tabW laws_FnExactHoldPut.tab27 laws_FnExactHoldPut.bits27 (fun HT_ HW_ => ?_)
            generalize w72.drew = w73 at HO_6 HO_9 BK200 HB hHeld ⊢
            refine pl_ HT_ 0 85 tb10_1_10 ?_
            refine take_ (i := 2) (N := some 87) (v := ?_) (a' := ?_) tb10_5_10 rfl rfl (take_ofW HT_.out HW_.out (by kernel_rfl)) (fun _ _ _ h => h) (Or.inl ⟨by rfl, ?_⟩) hHeld ?_ ?_
            rotate_left
            ·rintro w' ⟨s0, s1, s2⟩
             go_simp
             with_reducible rfl
            rotate_left
            ·simp only [Act.put, q_]
             rfl
            refine one_ (i := 1) (N := some 86) tb10_7_10 rfl rfl (one_of HT_.out (by kernel_rfl)) (by decide) (fun K hK => ?_)
            refine goes_ Try.func17 (by kernel_rfl) rfl #[.slice A0 l0.length c0] (by rfl) rfl rfl gl_ ?_
            with_reducible refine (laws_toHoldS.calls kj46 _ _ l0 t234 _ ?side1 ?side2 A66.out).mono ?_
            (case side1 => exact ca_ (Kd.C_below HR0.out HB.out))
            (case side2 => exact HC0.out)
            rintro e w74 ⟨v235, rfl, ho0, hb⟩
            refine ⟨_, rfl, ?_⟩
            have n0_ := Aside0.mk (Kd.R_elder' (ra_ HO_6) (Kd.R_base ho0) hb)
            have n1_ := Aside0.mk (Kd.R_elder' (ra_ HO_9) (Kd.R_base ho0) hb)
            have n2_ := Aside0.mk (Kd.R_lower (Kd.R_new' (Kd.R_new' ho0 (Kd.R_lt (ra_ HO_6))) (Kd.R_lt (ra_ HO_9))) (below_size bl_))
            have n3_ := Aside0.mk (blk_below (bk_ BK200) hb)
            have n4_ := Aside0.mk (below_step bl_ hb)
            clear HO_6
            clear HO_9
            clear BK200
            clear HB
            have HO_6 := n0_
            have HO_9 := n1_
            have HO236 := n2_
            have BK200 := n3_
            have HB := n4_
            clear n0_ n1_ n2_ n3_ n4_
            (try clear hb)
            (try clear hb2)
            (try clear hk)
            (try clear hi)
            (try clear ho0)
            refine hK.out _ _ ⟨cy_ BK200 0, cy_ BK200 1, cy_ BK200 2⟩ (fun hHeld => ?_)
            clear hK K
            refine norm_ (a' := ?_) ?_ ?_
            rotate_left
            ·show Act.put _ (some 86) _ = _
             simp only [Act.put, q_]
             rfl
            refine one_ (i := 3) (N := some 88) tb10_f_10 rfl rfl (one_of HT_.out (by kernel_rfl)) (by decide) (fun K hK => ?_)
            refine goes_ Try.func64 (by kernel_rfl) rfl #[.agg #[.string a1_0, .int .i64 a1_1, .int .i64 a1_2]] (by rfl) rfl rfl gl_ ?_
            with_reducible refine (laws_toHold.calls a1_0 a1_1 a1_2 t237 t238 t239 _ A67.out).mono ?_
            rintro e w75 ⟨rfl, hb⟩
            refine ⟨_, rfl, ?_⟩
            have n0_ := Aside0.mk (Kd.R_below (ra_ HO_6) hb)
            have n1_ := Aside0.mk (Kd.R_below (ra_ HO_9) hb)
            have n2_ := Aside0.mk (Kd.R_below (ra_ HO236) hb)
            have n3_ := Aside0.mk (blk_below (bk_ BK200) hb)
            have n4_ := Aside0.mk (below_step bl_ hb)
            clear HO_6
            clear HO_9
            clear HO236
            clear BK200
            clear HB
            have HO_6 := n0_
            have HO_9 := n1_
            have HO236 := n2_
            have BK200 := n3_
            have HB := n4_
            clear n0_ n1_ n2_ n3_ n4_
            (try clear hb)
            (try clear hb2)
            (try clear hk)
            (try clear hi)
            obtain ⟨Ao76, co76, eo76⟩ := Kd.R_slice HO236.out
            (first | subst eo76 | (injection eo76 with f1_ f2_ f3_; have f4_ := f1_.symm; have f5_ := f3_.symm; clear f1_ f2_ f3_; subst f4_; subst f5_))
            refine hK.out _ _ ⟨cy_ BK200 0, cy_ BK200 1, cy_ BK200 2⟩ (fun hHeld => ?_)
            clear hK K
            refine norm_ (a' := ?_) ?_ ?_
            rotate_left
            ·show Act.put _ (some 88) _ = _
             simp only [Act.put, q_]
             rfl
            refine one_ (i := 4) (N := some 89) tb10_1f_10 rfl rfl (one_of HT_.out (by kernel_rfl)) (by decide) (fun K hK => ?_)
            refine goes_ Try.func65 (by kernel_rfl) rfl #[.slice Ao76 t234.length co76, .agg #[.string t237, .int .i64 t238, .int .i64 t239]] (by rfl) rfl rfl gl_ ?_
            with_reducible refine (impl_HoldPut.calls kj46 _ _ t234 t237 t238 t239 t240 t243 _ ?side1 ?side2 A68.out).mono ?_
            (case side1 => exact ca_ ((Kd.R_reads' HO236.out).2.2))
            (case side2 => exact (Kd.R_reads' HO236.out).2.1)
            rintro e w77 ⟨v241, rfl, ho0, hb⟩
            refine ⟨_, rfl, ?_⟩
            have n0_ := Aside0.mk (Kd.R_elder' (ra_ HO_6) (Kd.R_base ho0) hb)
            have n1_ := Aside0.mk (Kd.R_elder' (ra_ HO_9) (Kd.R_base ho0) hb)
            have n2_ := Aside0.mk (Kd.R_elder' (ra_ HO236) (Kd.R_base ho0) hb)
            have n3_ := Aside0.mk (Kd.R_lower (Kd.R_new' (Kd.R_new' (Kd.R_new' ho0 (Kd.R_lt (ra_ HO_6))) (Kd.R_lt (ra_ HO_9))) (Kd.R_lt (ra_ HO236))) (below_size bl_))
            have n4_ := Aside0.mk (blk_below (bk_ BK200) hb)
            have n5_ := Aside0.mk (below_step bl_ hb)
            clear HO_6
            clear HO_9
            clear HO236
            clear BK200
            clear HB
            have HO_6 := n0_
            have HO_9 := n1_
            have HO236 := n2_
            have HO242 := n3_
            have BK200 := n4_
            have HB := n5_
            clear n0_ n1_ n2_ n3_ n4_ n5_
            (try clear hb)
            (try clear hb2)
            (try clear hk)
            (try clear hi)
            (try clear ho0)
            refine hK.out _ _ ⟨cy_ BK200 0, cy_ BK200 1, cy_ BK200 2⟩ (fun hHeld => ?_)
            clear hK K
            refine norm_ (a' := ?_) ?_ ?_
            rotate_left
            ·show Act.put _ (some 89) _ = _
             simp only [Act.put, q_]
             rfl
            refine pl_ HT_ 5 84 tb10_3f_10 ?_
            refine pl_ HT_ 6 90 tb10_7f_10 ?_
            refine pl_ HT_ 7 91 tb10_ff_10 ?_
            refine pl_ HT_ 8 14 tb10_1ff_10 ?_
            refine pl_ HT_ 9 15 tb10_3ff_10 ?_
            refine done_ (done_of HT_.out (by kernel_rfl)) ?_
            go_upto_region 28 with (fail)
            go_cut [100] (fun v100 wc => ∃ (kq : Nat) (x100_68 : Bool), v100 = .bool x100_68 ∧ Aside0 (laws_FnExactHoldPut.j2 kq t232 t231 x100_68 = some true) ∧ Aside0 (kq ≤ kj46) ∧ Aside0 (Kd.R k93 93 wc w.heap.size (fun _ => True) (.slice Ao70 t219.length co70) t232) ∧ Aside0 (wc.heap[gb200]? = some (.cells #[.string a1_0, .int .i64 a1_1, .int .i64 a1_2] 89 (0, 0))) ∧ Aside0 (Below w.heap.size w wc))
            case first =>
             have H := HC69.out
             clear HC69
             obtain ⟨t244, A78, H⟩ := ob_ H
             by_cases c79 : t244 = true
             ·subst c79
              replace H := ip_ H
              have H' := Aside0.mk H
              clear H
              obtain ⟨Ao80, co80, eo80⟩ := Kd.R_slice HO242.out
              subst eo80
              obtain ⟨Ao81, co81, eo81⟩ := Kd.R_slice HO_6.out
              subst eo81
              go_wp2_with (first | ((with_reducible refine gate_callee (f := 19) rfl ?_); refine goesL_ (some 94) rfl rfl Try.func19 (by kernel_rfl) rfl #[.slice Ao80 t240.length co80, .slice Ao81 t209.length co81] rfl gl_ ?_; (with_reducible refine (laws_eqHoldS.calls kj46 _ _ t240 _ _ t209 true _ ?side1 ?side2 ?side3 ?side4 A78.out).mono ?_); (case side1 => exact ca_ ((Kd.R_reads' HO242.out).2.2)); (case side2 => exact (Kd.R_reads' HO242.out).2.1); (case side3 => exact ca_ ((Kd.R_reads' HO_6.out).2.2)); (case side4 => exact (Kd.R_reads' HO_6.out).2.1); rintro e w82 ⟨rfl, hb⟩; refine ⟨_, rfl, ?_⟩; replace HO_6 := Aside0.mk (Kd.R_below (ra_ HO_6) hb); replace HO_9 := Aside0.mk (Kd.R_below (ra_ HO_9) hb); replace HO236 := Aside0.mk (Kd.R_below (ra_ HO236) hb); replace HO242 := Aside0.mk (Kd.R_below (ra_ HO242) hb); replace BK200 := Aside0.mk (blk_below (bk_ BK200) hb); replace HB := Aside0.mk (below_step bl_ hb); (try clear hb); (try clear hb2); (try clear hk); (try clear hi)))
              go_meet
              case rel => exact ⟨_, ((t243 != t212)), sp_, H', ⟨by have := HJ18.out; have := HJ46.out; first | omega | exact Nat.le_refl _⟩, ⟨by (with_reducible repeat (first | apply Kd.R_alloc | apply Kd.R_drewN | apply Kd.R_drew)); exact Kd.R_mono HO_9.out (fun _ hk => trivial)⟩, ⟨by (with_reducible repeat (first | refine blk_drewN ?_ _ | refine blk_drew ?_ | refine blk_alloc ?_ _)); exact BK200.out⟩, ⟨bl_⟩⟩
             ·replace c79 := Bool.eq_false_iff.mpr c79
              subst c79
              replace H := in_ H
              have H' := Aside0.mk H
              clear H
              obtain ⟨Ao83, co83, eo83⟩ := Kd.R_slice HO242.out
              subst eo83
              obtain ⟨Ao84, co84, eo84⟩ := Kd.R_slice HO_6.out
              subst eo84
              go_wp2_with (first | ((with_reducible refine gate_callee (f := 19) rfl ?_); refine goesL_ (some 94) rfl rfl Try.func19 (by kernel_rfl) rfl #[.slice Ao83 t240.length co83, .slice Ao84 t209.length co84] rfl gl_ ?_; (with_reducible refine (laws_eqHoldS.calls kj46 _ _ t240 _ _ t209 false _ ?side1 ?side2 ?side3 ?side4 A78.out).mono ?_); (case side1 => exact ca_ ((Kd.R_reads' HO242.out).2.2)); (case side2 => exact (Kd.R_reads' HO242.out).2.1); (case side3 => exact ca_ ((Kd.R_reads' HO_6.out).2.2)); (case side4 => exact (Kd.R_reads' HO_6.out).2.1); rintro e w85 ⟨rfl, hb⟩; refine ⟨_, rfl, ?_⟩; replace HO_6 := Aside0.mk (Kd.R_below (ra_ HO_6) hb); replace HO_9 := Aside0.mk (Kd.R_below (ra_ HO_9) hb); replace HO236 := Aside0.mk (Kd.R_below (ra_ HO236) hb); replace HO242 := Aside0.mk (Kd.R_below (ra_ HO242) hb); replace BK200 := Aside0.mk (blk_below (bk_ BK200) hb); replace HB := Aside0.mk (below_step bl_ hb); (try clear hb); (try clear hb2); (try clear hk); (try clear hi)))
              go_meet
              case rel => exact ⟨_, (true), sp_, H', ⟨by have := HJ18.out; have := HJ46.out; first | omega | exact Nat.le_refl _⟩, ⟨by (with_reducible repeat (first | apply Kd.R_alloc | apply Kd.R_drewN | apply Kd.R_drew)); exact Kd.R_mono HO_9.out (fun _ hk => trivial)⟩, ⟨by (with_reducible repeat (first | refine blk_drewN ?_ _ | refine blk_drew ?_ | refine blk_alloc ?_ _)); exact BK200.out⟩, ⟨bl_⟩⟩
            case rest =>
             clear HC69
             try clear c1
             try clear c2
             try clear p2
             try clear c3
             try clear c4
             try clear c4b0
             try clear c5
             try clear c6
             try clear c7
             try clear c8
             try clear c8b0
             try clear c12
             try clear c15
             try clear c17
             try clear c19
             try clear c20
             try clear c21
             try clear c35
             try clear c42
             try clear c45
             try clear c52
             try clear c52b0
             try clear c54
             try clear c61
             try clear c63
             try clear c64
             try clear c64b0
             try clear c65
             try clear c65b0
             try clear c65b1
             try clear c79
             try clear hcz11_0
             try clear hcz11_1
             try clear hcz11_2
             try clear hcz22_0
             try clear hcz22_1
             try clear hcz22_2
             try clear hcz30_0
             try clear hcz30_1
             try clear hcz30_2
             try clear hfz11_0
             try clear hfz11_1
             try clear hfz11_2
             try clear hfz22_0
             try clear hfz22_1
             try clear hfz22_2
             try clear hfz30_0
             try clear hfz30_1
             try clear hfz30_2
             try clear p2
             obtain ⟨kq, x100_68, rfl, HA, HJ68, HO_9, BK200, HB⟩ := hcut
             have hl9_68 := (Kd.R_reads' HO_9.out).1
             rw [hl9_68] at HO_9
             (try simp only [hl9_68])
             (try simp only [hl9_68] at BK200)
             cases kq with
             | zero => exact absurd HA.out (by simp [laws_FnExactHoldPut.j2])
             | succ kj68 =>
              have H := HA.out
              clear HA
              simp only [laws_FnExactHoldPut.j2] at H
              by_cases c86 : x100_68 = true
              ·subst c86
               replace H := ip_ H
               exact absurd H (by simp)
              ·replace c86 := Bool.eq_false_iff.mpr c86
               subst c86
               replace H := in_ H
               obtain ⟨t245, A87, H⟩ := ob_ H
               by_cases c88 : t245 < 0
               ·rw [if_pos c88] at H
                have c88b0 : decide (t245 < 0) = true := decide_eq_true c88
                clear c88
                exact absurd H (by simp)
               ·rw [if_neg c88] at H
                have c88b0 : decide (t245 < 0) = false := decide_eq_false c88
                clear c88
                by_cases c89 : t245 = t231
                ·rw [if_pos c89] at H
                 have c89b0 : (t245 == t231) = true := beq_iff_eq.mpr c89
                 have c89b1 : (t245 != t231) = false := bne_eq_false_iff_eq.mpr c89
                 clear c89
                 clear H
                 go_wp2_with (first | ((with_reducible refine gate_callee (f := 21) rfl ?_); refine goesL_ (some 103) rfl rfl Try.func21 (by kernel_rfl) rfl #[.slice Ao70 t232.length co70, .int .i64 1] rfl gl_ ?_; (with_reducible refine (laws_heldHoldS.calls kj68 _ _ t232 1 t245 _ ?side1 ?side2 A87.out).mono ?_); (case side1 => exact ca_ ((Kd.R_reads' HO_9.out).2.2)); (case side2 => exact (Kd.R_reads' HO_9.out).2.1); rintro e w90 ⟨rfl, hb⟩; refine ⟨_, rfl, ?_⟩; replace HO_9 := Aside0.mk (Kd.R_below (ra_ HO_9) hb); replace BK200 := Aside0.mk (blk_below (bk_ BK200) hb); replace HB := Aside0.mk (below_step bl_ hb); (try clear hb); (try clear hb2); (try clear hk); (try clear hi)))
                 go_ret
                 exact ⟨sq_, bl_⟩
                ·rw [if_neg c89] at H
                 have c89b0 : (t245 == t231) = false := beq_eq_false_iff_ne.mpr c89
                 have c89b1 : (t245 != t231) = true := bne_iff_ne.mpr c89
                 exact absurd H (by simp)
           ·rw [if_neg c65] at H
            have c65b0 : (t233 == t231) = false := beq_eq_false_iff_ne.mpr c65
            have c65b1 : (t233 != t231) = true := bne_iff_ne.mpr c65
            exact absurd H (by simp)
      ·replace c45 := Bool.eq_false_iff.mpr c45
       subst c45
       replace H := in_ H
       exact absurd H (by simp)
def ok89 (x : S89) : Prop := (x.f0.size ≤ maxLen) ∧ ((Lit.int .i64 x.f1).wf = true) ∧ ((Lit.int .i64 x.f2).wf = true)
/-- THE ONE PURE STATEMENT of laws_FnExactHoldPut. -/
def laws_FnExactHoldPut.Pure : Prop := ∀ (l0 : List (S89)) (s1 : S89), (l0.length ≤ maxLen ∧ ∀ y0 ∈ l0, ok89 y0) → (ok89 s1) → ∃ k, laws_FnExactHoldPut.f k l0 s1.f0 s1.f1 s1.f2 = some true
end Go.Proofs.Ytepjnalkpfnmcaa.QFnExactHoldPut
