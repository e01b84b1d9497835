-- by my own printer (myprint.py, over the kit's print.py)
import Derived.Test.YtcojjdfbdgpajaaQFnExactBookSamex0
import Derived.Test.YtcojjdfbdgpajaaQFnExactBookSamex2
import Derived.Test.YtcojjdfbdgpajaaQFnExactBookSamex4
import Derived.Test.YtcojjdfbdgpajaaQFnExactBookSamex6
import Derived.Test.YtcojjdfbdgpajaaQFnExactBookSamex10
import Derived.Test.YtcojjdfbdgpajaaQFnExactBookSamex11
namespace Go.Proofs.Ytcojjdfbdgpajaa.QFnExactBookSame
open Go.RowKit Go.Proofs.YtcojjdfbdgpajaaW.PrintWords Go.Proofs.YtcojjdfbdgpajaaW.PrintLast Go.Proofs.YtcojjdfbdgpajaaW.PrintMore
attribute [local go_sem] max2_int min2_int max_two min_two max_three min_three max_four min_four   -- for this text's walks alone
set_option linter.unusedVariables false
set_option linter.unusedSimpArgs false

attribute [local go_sem] my_geq my_leq my_gtr
/-! ### impl_BookSame: function 61 -/
def impl_BookSame.f (k : Nat) (l0_0 : List (S85)) (l1_0 : List (S85)) : Option (Bool) := (fn_122_52.f k l0_0 l1_0).bind fun t297 => (some t297)
theorem impl_BookSame.mono : ∀ a0 a1 k, LeO (impl_BookSame.f k a0 a1) (impl_BookSame.f (k + 1) a0 a1) := by
  intro a0 a1 k
  unfold impl_BookSame.f
  repeat' first
      | (with_reducible exact fn_122_52.mono _ _ _)
      | (with_reducible exact LeO.refl _)
      | (with_reducible exact LeO.none _)
      | (with_reducible refine LeO.ite ?_ ?_)
      | (with_reducible refine LeO.bind ?_ (fun _ => ?_))
      | exact fn_122_52.mono _ _ _
      | exact LeO.none _
      | refine LeO.ite ?_ ?_
      | refine LeO.bind ?_ (fun _ => ?_)
set_option maxHeartbeats 8000000 in
set_option maxRecDepth 100000 in
theorem impl_BookSame.calls (k : Nat) (A0_0 : Option Addr) (c0_0 : Nat) (l0_0 : List (S85)) (A1_0 : Option Addr) (c1_0 : Nat) (l1_0 : List (S85)) (r : Bool) (w : World) (hr0_0 : Kd.C k85 w A0_0 l0_0.length l0_0) (hc0_0 : l0_0.length ≤ c0_0) (hr1_0 : Kd.C k85 w A1_0 l1_0.length l1_0) (hc1_0 : l1_0.length ≤ c1_0) (h : impl_BookSame.f k l0_0 l1_0 = some r) :
    Calls Try.prog 61 #[.agg #[.slice A0_0 l0_0.length c0_0], .agg #[.slice A1_0 l1_0.length c1_0]] w fun e w' => e = .returned (.bool r) ∧ Below w.heap.size w w' := by
  have hu72 := Try.underlying72
  have HR0_0 := Aside0.mk hr0_0
  have HC0_0 := Aside0.mk hc0_0
  clear hr0_0 hc0_0
  have HR1_0 := Aside0.mk hr1_0
  have HC1_0 := Aside0.mk hc1_0
  clear hr1_0 hc1_0
  have HB := Aside0.mk (Below.refl w.heap.size w)
  have H : ((fn_122_52.f k l0_0 l1_0).bind fun t297 => (some t297)) = some r := h
  clear h
  replace H := Option.bind_eq_some_iff.mp H
  obtain ⟨t297, A30, H⟩ := H
  replace H : (some t297) = some r := H
  have A3 := Aside0.mk A30
  clear A30
  obtain rfl := Option.some.inj H
  go_enter Try.func61, Try.ntmps61
  go_wp2_with (first | ((with_reducible refine gate_dst (N := 2) rfl ?_); refine box_event ?hg (N := 2) ?hd (cs := #[.slice A0_0 l0_0.length c0_0]) (t := 72) ?hr ?_; (case hd => rfl); (case hg => rfl); (case hr => first | (go_simp; done) | (go_simp; rfl)); intro gb295 hg w4 hbox hb; have n0_ := Aside0.mk (below_step bl_ hb); have n1_ := Aside0.mk (hbox); have n2_ := Aside0.mk ((by rw [hg]; exact (below_size bl_) : w.heap.size ≤ gb295)); have n3_ := Aside0.mk ((by rw [hg]; exact (below_size bl_) : w.heap.size ≤ gb295)); clear HB; have HB := n0_; have BK295 := n1_; have GW295 := n2_; have GE295 := n3_; clear n0_ n1_ n2_ n3_; clear hb hbox hg) | ((with_reducible refine gate_dst (N := 3) rfl ?_); refine box_event ?hg (N := 3) ?hd (cs := #[.slice A1_0 l1_0.length c1_0]) (t := 72) ?hr ?_; (case hd => rfl); (case hg => rfl); (case hr => first | (go_simp; done) | (go_simp; rfl)); intro gb296 hg w5 hbox hb; have n0_ := Aside0.mk (blk_below (bk_ BK295) hb); have n1_ := Aside0.mk (below_step bl_ hb); have n2_ := Aside0.mk (hbox); have n3_ := Aside0.mk ((by rw [hg]; exact (below_size bl_) : w.heap.size ≤ gb296)); have n4_ := Aside0.mk ((by rw [hg]; exact (below_size bl_) : w.heap.size ≤ gb296)); have n5_ := Aside0.mk ((by rw [hg]; exact Nat.ne_of_lt (blk_lt (bk_ BK295)) : gb295 ≠ gb296)); have n6_ := Aside0.mk ((by rw [hg]; exact Nat.ne_of_gt (blk_lt (bk_ BK295)) : gb296 ≠ gb295)); clear BK295; clear HB; have BK295 := n0_; have HB := n1_; have BK296 := n2_; have GW296 := n3_; have GE296 := n4_; have NB295_296 := n5_; have NB296_295 := n6_; clear n0_ n1_ n2_ n3_ n4_ n5_ n6_; clear hb hbox hg; have hnb6 := NB295_296.out; have hnc6 := NB296_295.out; have hcz7_0 := cz_ BK295 0 (.slice A0_0 l0_0.length c0_0); have hfz7_0 := fz_ BK295 0; have hcz8_0 := cz_ BK296 0 (.slice A1_0 l1_0.length c1_0); have hfz8_0 := fz_ BK296 0) | ((with_reducible refine gate_callee (f := 122) rfl ?_); refine goesL_ (some 9) rfl rfl Try.func122 (by kernel_rfl) rfl #[.slice A0_0 l0_0.length c0_0, .slice A1_0 l1_0.length c1_0, .func (.func 52) #[] #[]] rfl gl_ ?_; (with_reducible refine (fn_122_52.calls k _ _ l0_0 _ _ l1_0  t297 _ ?side1 ?side2 ?side3 ?side4 A3.out).mono ?_); (case side1 => exact ca_ (Kd.C_below HR0_0.out HB.out)); (case side2 => exact HC0_0.out); (case side3 => exact ca_ (Kd.C_below HR1_0.out HB.out)); (case side4 => exact HC1_0.out); rintro e w9 ⟨rfl, hb⟩; refine ⟨_, rfl, ?_⟩; have n0_ := Aside0.mk (blk_below (bk_ BK295) hb); have n1_ := Aside0.mk (blk_below (bk_ BK296) hb); have n2_ := Aside0.mk (below_step bl_ hb); clear BK295; clear BK296; clear HB; have BK295 := n0_; have BK296 := n1_; have HB := n2_; clear n0_ n1_ n2_; (try clear hb); (try clear hb2); (try clear hk); (try clear hi)))
  go_ret
  exact ⟨by first | rfl | (simp [errW_none, errW_some] <;> rfl) | (simp [*, errW_none, errW_some] <;> rfl), bl_⟩

/-! ### laws_FnExactBookSame: function 12 -/
def laws_FnExactBookSame.f (k : Nat) (l0_0 : List (S80)) (l1_0 : List (S80)) : Option (Bool) := (laws_szBook.f k l0_0 1048576).bind fun t300 => (if t300 < 0 then (some true) else ((laws_szBook.f k l1_0 t300).bind fun t301 => (if t301 < 0 then (some true) else ((laws_toBook.f k l0_0).bind fun t302 => ((laws_toBook.f k l1_0).bind fun t305 => ((spec_BookSame.f k t302 t305).bind fun t308 => ((laws_toBook.f k l0_0).bind fun t309 => ((laws_toBook.f k l1_0).bind fun t313 => ((impl_BookSame.f k t309 t313).bind fun t317 => (if (t317 != t308) = true then (some false) else ((laws_toBook.f k l0_0).bind fun t318 => ((laws_eqBook.f k t309 t318).bind fun t321 => (if t321 = true then ((laws_toBook.f k l1_0).bind fun t322 => ((laws_eqBook.f k t313 t322).bind fun t325 => (if t325 = true then (some true) else (some false)))) else (some false))))))))))))))
theorem laws_FnExactBookSame.mono : ∀ a0 a1 k, LeO (laws_FnExactBookSame.f k a0 a1) (laws_FnExactBookSame.f (k + 1) a0 a1) := by
  intro a0 a1 k
  unfold laws_FnExactBookSame.f
  repeat' first
      | (with_reducible exact impl_BookSame.mono _ _ _)
      | (with_reducible exact laws_eqBook.mono _ _ _)
      | (with_reducible exact laws_szBook.mono _ _ _)
      | (with_reducible exact laws_toBook.mono _ _)
      | (with_reducible exact spec_BookSame.mono _ _ _)
      | (with_reducible exact LeO.refl _)
      | (with_reducible exact LeO.none _)
      | (with_reducible refine LeO.ite ?_ ?_)
      | (with_reducible refine LeO.bind ?_ (fun _ => ?_))
      | exact impl_BookSame.mono _ _ _
      | exact laws_eqBook.mono _ _ _
      | exact laws_szBook.mono _ _ _
      | exact laws_toBook.mono _ _
      | exact spec_BookSame.mono _ _ _
      | exact LeO.none _
      | refine LeO.ite ?_ ?_
      | refine LeO.bind ?_ (fun _ => ?_)
set_option maxHeartbeats 8000000 in
set_option maxRecDepth 100000 in
theorem laws_FnExactBookSame.calls (k : Nat) (A0_0 : Option Addr) (c0_0 : Nat) (l0_0 : List (S80)) (A1_0 : Option Addr) (c1_0 : Nat) (l1_0 : List (S80)) (r : Bool) (w : World) (hr0_0 : Kd.C k80 w A0_0 l0_0.length l0_0) (hc0_0 : l0_0.length ≤ c0_0) (hr1_0 : Kd.C k80 w A1_0 l1_0.length l1_0) (hc1_0 : l1_0.length ≤ c1_0) (h : laws_FnExactBookSame.f k l0_0 l1_0 = some true) :
    Calls Try.prog 12 #[.agg #[.slice A0_0 l0_0.length c0_0], .agg #[.slice A1_0 l1_0.length c1_0]] w fun e w' => e = .returned (.bool true) ∧ Below w.heap.size w w' := by
  have hu67 := Try.underlying67
  have hu72 := Try.underlying72
  have HR0_0 := Aside0.mk hr0_0
  have HC0_0 := Aside0.mk hc0_0
  clear hr0_0 hc0_0
  have HR1_0 := Aside0.mk hr1_0
  have HC1_0 := Aside0.mk hc1_0
  clear hr1_0 hc1_0
  have HB := Aside0.mk (Below.refl w.heap.size w)
  have H : ((laws_szBook.f k l0_0 1048576).bind fun t300 => (if t300 < 0 then (some true) else ((laws_szBook.f k l1_0 t300).bind fun t301 => (if t301 < 0 then (some true) else ((laws_toBook.f k l0_0).bind fun t302 => ((laws_toBook.f k l1_0).bind fun t305 => ((spec_BookSame.f k t302 t305).bind fun t308 => ((laws_toBook.f k l0_0).bind fun t309 => ((laws_toBook.f k l1_0).bind fun t313 => ((impl_BookSame.f k t309 t313).bind fun t317 => (if (t317 != t308) = true then (some false) else ((laws_toBook.f k l0_0).bind fun t318 => ((laws_eqBook.f k t309 t318).bind fun t321 => (if t321 = true then ((laws_toBook.f k l1_0).bind fun t322 => ((laws_eqBook.f k t313 t322).bind fun t325 => (if t325 = true then (some true) else (some false)))) else (some false))))))))))))))) = some true := h
  clear h
  replace H := Option.bind_eq_some_iff.mp H
  obtain ⟨t300, A30, H⟩ := H
  replace H : (if t300 < 0 then (some true) else ((laws_szBook.f k l1_0 t300).bind fun t301 => (if t301 < 0 then (some true) else ((laws_toBook.f k l0_0).bind fun t302 => ((laws_toBook.f k l1_0).bind fun t305 => ((spec_BookSame.f k t302 t305).bind fun t308 => ((laws_toBook.f k l0_0).bind fun t309 => ((laws_toBook.f k l1_0).bind fun t313 => ((impl_BookSame.f k t309 t313).bind fun t317 => (if (t317 != t308) = true then (some false) else ((laws_toBook.f k l0_0).bind fun t318 => ((laws_eqBook.f k t309 t318).bind fun t321 => (if t321 = true then ((laws_toBook.f k l1_0).bind fun t322 => ((laws_eqBook.f k t313 t322).bind fun t325 => (if t325 = true then (some true) else (some false)))) else (some false)))))))))))))) = some true := H
  have A3 := Aside0.mk A30
  clear A30
  by_cases c4 : t300 < 0
  · rw [if_pos c4] at H
    have c4b0 : decide (t300 < 0) = true := decide_eq_true c4
    clear c4
    clear H
    go_enter Try.func12, Try.ntmps12
    go_wp2_with (first | ((with_reducible refine gate_dst (N := 2) rfl ?_); refine box_event ?hg (N := 2) ?hd (cs := #[.slice A0_0 l0_0.length c0_0]) (t := 67) ?hr ?_; (case hd => rfl); (case hg => rfl); (case hr => first | (go_simp; done) | (go_simp; rfl)); intro gb298 hg w5 hbox hb; have n0_ := Aside0.mk (below_step bl_ hb); have n1_ := Aside0.mk (hbox); have n2_ := Aside0.mk ((by rw [hg]; exact (below_size bl_) : w.heap.size ≤ gb298)); have n3_ := Aside0.mk ((by rw [hg]; exact (below_size bl_) : w.heap.size ≤ gb298)); clear HB; have HB := n0_; have BK298 := n1_; have GW298 := n2_; have GE298 := n3_; clear n0_ n1_ n2_ n3_; clear hb hbox hg) | ((with_reducible refine gate_dst (N := 3) rfl ?_); refine box_event ?hg (N := 3) ?hd (cs := #[.slice A1_0 l1_0.length c1_0]) (t := 67) ?hr ?_; (case hd => rfl); (case hg => rfl); (case hr => first | (go_simp; done) | (go_simp; rfl)); intro gb299 hg w6 hbox hb; have n0_ := Aside0.mk (blk_below (bk_ BK298) hb); have n1_ := Aside0.mk (below_step bl_ hb); have n2_ := Aside0.mk (hbox); have n3_ := Aside0.mk ((by rw [hg]; exact (below_size bl_) : w.heap.size ≤ gb299)); have n4_ := Aside0.mk ((by rw [hg]; exact (below_size bl_) : w.heap.size ≤ gb299)); have n5_ := Aside0.mk ((by rw [hg]; exact Nat.ne_of_lt (blk_lt (bk_ BK298)) : gb298 ≠ gb299)); have n6_ := Aside0.mk ((by rw [hg]; exact Nat.ne_of_gt (blk_lt (bk_ BK298)) : gb299 ≠ gb298)); clear BK298; clear HB; have BK298 := n0_; have HB := n1_; have BK299 := n2_; have GW299 := n3_; have GE299 := n4_; have NB298_299 := n5_; have NB299_298 := n6_; clear n0_ n1_ n2_ n3_ n4_ n5_ n6_; clear hb hbox hg; have hnb7 := NB298_299.out; have hnc7 := NB299_298.out; have hcz8_0 := cz_ BK298 0 (.slice A0_0 l0_0.length c0_0); have hfz8_0 := fz_ BK298 0) | ((with_reducible refine gate_callee (f := 44) rfl ?_); refine goesL_ (some 12) rfl rfl Try.func44 (by kernel_rfl) rfl #[.agg #[.slice A0_0 l0_0.length c0_0], .int .i64 1048576] rfl gl_ ?_; (with_reducible refine (laws_szBook.calls k _ _ l0_0 1048576 t300 _ ?side1 ?side2 A3.out).mono ?_); (case side1 => exact ca_ (Kd.C_below HR0_0.out HB.out)); (case side2 => exact HC0_0.out); rintro e w9 ⟨rfl, hb⟩; refine ⟨_, rfl, ?_⟩; have n0_ := Aside0.mk (blk_below (bk_ BK298) hb); have n1_ := Aside0.mk (blk_below (bk_ BK299) hb); have n2_ := Aside0.mk (below_step bl_ hb); clear BK298; clear BK299; clear HB; have BK298 := n0_; have BK299 := n1_; have HB := n2_; clear n0_ n1_ n2_; (try clear hb); (try clear hb2); (try clear hk); (try clear hi)))
    go_ret
    exact ⟨by first | rfl | (simp [errW_none, errW_some] <;> rfl) | (simp [*, errW_none, errW_some] <;> rfl), bl_⟩
  · rw [if_neg c4] at H
    have c4b0 : decide (t300 < 0) = false := decide_eq_false c4
    clear c4
    replace H := Option.bind_eq_some_iff.mp H
    obtain ⟨t301, A100, H⟩ := H
    replace H : (if t301 < 0 then (some true) else ((laws_toBook.f k l0_0).bind fun t302 => ((laws_toBook.f k l1_0).bind fun t305 => ((spec_BookSame.f k t302 t305).bind fun t308 => ((laws_toBook.f k l0_0).bind fun t309 => ((laws_toBook.f k l1_0).bind fun t313 => ((impl_BookSame.f k t309 t313).bind fun t317 => (if (t317 != t308) = true then (some false) else ((laws_toBook.f k l0_0).bind fun t318 => ((laws_eqBook.f k t309 t318).bind fun t321 => (if t321 = true then ((laws_toBook.f k l1_0).bind fun t322 => ((laws_eqBook.f k t313 t322).bind fun t325 => (if t325 = true then (some true) else (some false)))) else (some false)))))))))))) = some true := H
    have A10 := Aside0.mk A100
    clear A100
    by_cases c11 : t301 < 0
    · rw [if_pos c11] at H
      have c11b0 : decide (t301 < 0) = true := decide_eq_true c11
      clear c11
      clear H
      go_enter Try.func12, Try.ntmps12
      go_wp2_with (first | ((with_reducible refine gate_dst (N := 2) rfl ?_); refine box_event ?hg (N := 2) ?hd (cs := #[.slice A0_0 l0_0.length c0_0]) (t := 67) ?hr ?_; (case hd => rfl); (case hg => rfl); (case hr => first | (go_simp; done) | (go_simp; rfl)); intro gb298 hg w12 hbox hb; have n0_ := Aside0.mk (below_step bl_ hb); have n1_ := Aside0.mk (hbox); have n2_ := Aside0.mk ((by rw [hg]; exact (below_size bl_) : w.heap.size ≤ gb298)); have n3_ := Aside0.mk ((by rw [hg]; exact (below_size bl_) : w.heap.size ≤ gb298)); clear HB; have HB := n0_; have BK298 := n1_; have GW298 := n2_; have GE298 := n3_; clear n0_ n1_ n2_ n3_; clear hb hbox hg) | ((with_reducible refine gate_dst (N := 3) rfl ?_); refine box_event ?hg (N := 3) ?hd (cs := #[.slice A1_0 l1_0.length c1_0]) (t := 67) ?hr ?_; (case hd => rfl); (case hg => rfl); (case hr => first | (go_simp; done) | (go_simp; rfl)); intro gb299 hg w13 hbox hb; have n0_ := Aside0.mk (blk_below (bk_ BK298) hb); have n1_ := Aside0.mk (below_step bl_ hb); have n2_ := Aside0.mk (hbox); have n3_ := Aside0.mk ((by rw [hg]; exact (below_size bl_) : w.heap.size ≤ gb299)); have n4_ := Aside0.mk ((by rw [hg]; exact (below_size bl_) : w.heap.size ≤ gb299)); have n5_ := Aside0.mk ((by rw [hg]; exact Nat.ne_of_lt (blk_lt (bk_ BK298)) : gb298 ≠ gb299)); have n6_ := Aside0.mk ((by rw [hg]; exact Nat.ne_of_gt (blk_lt (bk_ BK298)) : gb299 ≠ gb298)); clear BK298; clear HB; have BK298 := n0_; have HB := n1_; have BK299 := n2_; have GW299 := n3_; have GE299 := n4_; have NB298_299 := n5_; have NB299_298 := n6_; clear n0_ n1_ n2_ n3_ n4_ n5_ n6_; clear hb hbox hg; have hnb14 := NB298_299.out; have hnc14 := NB299_298.out; have hcz15_0 := cz_ BK298 0 (.slice A0_0 l0_0.length c0_0); have hfz15_0 := fz_ BK298 0) | ((with_reducible refine gate_callee (f := 44) rfl ?_); refine goesL_ (some 12) rfl rfl Try.func44 (by kernel_rfl) rfl #[.agg #[.slice A0_0 l0_0.length c0_0], .int .i64 1048576] rfl gl_ ?_; (with_reducible refine (laws_szBook.calls k _ _ l0_0 1048576 t300 _ ?side1 ?side2 A3.out).mono ?_); (case side1 => exact ca_ (Kd.C_below HR0_0.out HB.out)); (case side2 => exact HC0_0.out); rintro e w16 ⟨rfl, hb⟩; refine ⟨_, rfl, ?_⟩; have n0_ := Aside0.mk (blk_below (bk_ BK298) hb); have n1_ := Aside0.mk (blk_below (bk_ BK299) hb); have n2_ := Aside0.mk (below_step bl_ hb); clear BK298; clear BK299; clear HB; have BK298 := n0_; have BK299 := n1_; have HB := n2_; clear n0_ n1_ n2_; (try clear hb); (try clear hb2); (try clear hk); (try clear hi); have hcz17_0 := cz_ BK299 0 (.slice A1_0 l1_0.length c1_0); have hfz17_0 := fz_ BK299 0) | ((with_reducible refine gate_callee (f := 44) rfl ?_); refine goesL_ (some 17) rfl rfl Try.func44 (by kernel_rfl) rfl #[.agg #[.slice A1_0 l1_0.length c1_0], .int .i64 t300] rfl gl_ ?_; (with_reducible refine (laws_szBook.calls k _ _ l1_0 t300 t301 _ ?side1 ?side2 A10.out).mono ?_); (case side1 => exact ca_ (Kd.C_below HR1_0.out HB.out)); (case side2 => exact HC1_0.out); rintro e w18 ⟨rfl, hb⟩; refine ⟨_, rfl, ?_⟩; have n0_ := Aside0.mk (blk_below (bk_ BK298) hb); have n1_ := Aside0.mk (blk_below (bk_ BK299) hb); have n2_ := Aside0.mk (below_step bl_ hb); clear BK298; clear BK299; clear HB; have BK298 := n0_; have BK299 := n1_; have HB := n2_; clear n0_ n1_ n2_; (try clear hb); (try clear hb2); (try clear hk); (try clear hi)))
      go_ret
      exact ⟨by first | rfl | (simp [errW_none, errW_some] <;> rfl) | (simp [*, errW_none, errW_some] <;> rfl), bl_⟩
    · rw [if_neg c11] at H
      have c11b0 : decide (t301 < 0) = false := decide_eq_false c11
      clear c11
      replace H := Option.bind_eq_some_iff.mp H
      obtain ⟨t302, A190, H⟩ := H
      replace H : ((laws_toBook.f k l1_0).bind fun t305 => ((spec_BookSame.f k t302 t305).bind fun t308 => ((laws_toBook.f k l0_0).bind fun t309 => ((laws_toBook.f k l1_0).bind fun t313 => ((impl_BookSame.f k t309 t313).bind fun t317 => (if (t317 != t308) = true then (some false) else ((laws_toBook.f k l0_0).bind fun t318 => ((laws_eqBook.f k t309 t318).bind fun t321 => (if t321 = true then ((laws_toBook.f k l1_0).bind fun t322 => ((laws_eqBook.f k t313 t322).bind fun t325 => (if t325 = true then (some true) else (some false)))) else (some false)))))))))) = some true := H
      have A19 := Aside0.mk A190
      clear A190
      replace H := Option.bind_eq_some_iff.mp H
      obtain ⟨t305, A200, H⟩ := H
      replace H : ((spec_BookSame.f k t302 t305).bind fun t308 => ((laws_toBook.f k l0_0).bind fun t309 => ((laws_toBook.f k l1_0).bind fun t313 => ((impl_BookSame.f k t309 t313).bind fun t317 => (if (t317 != t308) = true then (some false) else ((laws_toBook.f k l0_0).bind fun t318 => ((laws_eqBook.f k t309 t318).bind fun t321 => (if t321 = true then ((laws_toBook.f k l1_0).bind fun t322 => ((laws_eqBook.f k t313 t322).bind fun t325 => (if t325 = true then (some true) else (some false)))) else (some false))))))))) = some true := H
      have A20 := Aside0.mk A200
      clear A200
      replace H := Option.bind_eq_some_iff.mp H
      obtain ⟨t308, A210, H⟩ := H
      replace H : ((laws_toBook.f k l0_0).bind fun t309 => ((laws_toBook.f k l1_0).bind fun t313 => ((impl_BookSame.f k t309 t313).bind fun t317 => (if (t317 != t308) = true then (some false) else ((laws_toBook.f k l0_0).bind fun t318 => ((laws_eqBook.f k t309 t318).bind fun t321 => (if t321 = true then ((laws_toBook.f k l1_0).bind fun t322 => ((laws_eqBook.f k t313 t322).bind fun t325 => (if t325 = true then (some true) else (some false)))) else (some false)))))))) = some true := H
      have A21 := Aside0.mk A210
      clear A210
      replace H := Option.bind_eq_some_iff.mp H
      obtain ⟨t309, A220, H⟩ := H
      replace H : ((laws_toBook.f k l1_0).bind fun t313 => ((impl_BookSame.f k t309 t313).bind fun t317 => (if (t317 != t308) = true then (some false) else ((laws_toBook.f k l0_0).bind fun t318 => ((laws_eqBook.f k t309 t318).bind fun t321 => (if t321 = true then ((laws_toBook.f k l1_0).bind fun t322 => ((laws_eqBook.f k t313 t322).bind fun t325 => (if t325 = true then (some true) else (some false)))) else (some false))))))) = some true := H
      have A22 := Aside0.mk A220
      clear A220
      replace H := Option.bind_eq_some_iff.mp H
      obtain ⟨t313, A230, H⟩ := H
      replace H : ((impl_BookSame.f k t309 t313).bind fun t317 => (if (t317 != t308) = true then (some false) else ((laws_toBook.f k l0_0).bind fun t318 => ((laws_eqBook.f k t309 t318).bind fun t321 => (if t321 = true then ((laws_toBook.f k l1_0).bind fun t322 => ((laws_eqBook.f k t313 t322).bind fun t325 => (if t325 = true then (some true) else (some false)))) else (some false)))))) = some true := H
      have A23 := Aside0.mk A230
      clear A230
      replace H := Option.bind_eq_some_iff.mp H
      obtain ⟨t317, A240, H⟩ := H
      replace H : (if (t317 != t308) = true then (some false) else ((laws_toBook.f k l0_0).bind fun t318 => ((laws_eqBook.f k t309 t318).bind fun t321 => (if t321 = true then ((laws_toBook.f k l1_0).bind fun t322 => ((laws_eqBook.f k t313 t322).bind fun t325 => (if t325 = true then (some true) else (some false)))) else (some false))))) = some true := H
      have A24 := Aside0.mk A240
      clear A240
      by_cases c25 : (t317 != t308) = true
      · rw [if_pos c25] at H
        have c25b0 : (t317 != t308) = true := c25
        (try (have c25b1 : decide (t317 = t308) = false := by simpa using c25))
        (try (have c25b2 : (t317 == t308) = false := by simpa using c25))
        (try (have c25b3 : ¬ (t317 = t308) := by simpa using c25))
        clear c25
        exact absurd H (by simp)
      · rw [if_neg c25] at H
        have c25b0 : (t317 != t308) = false := by simpa using c25
        (try (have c25b1 : decide (t317 = t308) = true := by simpa using c25))
        (try (have c25b2 : (t317 == t308) = true := by simpa using c25))
        clear c25
        replace H := Option.bind_eq_some_iff.mp H
        obtain ⟨t318, A260, H⟩ := H
        replace H : ((laws_eqBook.f k t309 t318).bind fun t321 => (if t321 = true then ((laws_toBook.f k l1_0).bind fun t322 => ((laws_eqBook.f k t313 t322).bind fun t325 => (if t325 = true then (some true) else (some false)))) else (some false))) = some true := H
        have A26 := Aside0.mk A260
        clear A260
        replace H := Option.bind_eq_some_iff.mp H
        obtain ⟨t321, A270, H⟩ := H
        replace H : (if t321 = true then ((laws_toBook.f k l1_0).bind fun t322 => ((laws_eqBook.f k t313 t322).bind fun t325 => (if t325 = true then (some true) else (some false)))) else (some false)) = some true := H
        have A27 := Aside0.mk A270
        clear A270
        by_cases c28 : t321 = true
        · subst c28
          have H1 : ((laws_toBook.f k l1_0).bind fun t322 => ((laws_eqBook.f k t313 t322).bind fun t325 => (if t325 = true then (some true) else (some false)))) = some true := by rw [if_pos rfl] at H; exact H
          clear H
          have H := H1
          clear H1
          replace H := Option.bind_eq_some_iff.mp H
          obtain ⟨t322, A290, H⟩ := H
          replace H : ((laws_eqBook.f k t313 t322).bind fun t325 => (if t325 = true then (some true) else (some false))) = some true := H
          have A29 := Aside0.mk A290
          clear A290
          replace H := Option.bind_eq_some_iff.mp H
          obtain ⟨t325, A300, H⟩ := H
          replace H : (if t325 = true then (some true) else (some false)) = some true := H
          have A30 := Aside0.mk A300
          clear A300
          by_cases c31 : t325 = true
          · subst c31
            have H1 : (some true) = some true := rfl
            clear H
            have H := H1
            clear H1
            clear H
            go_enter Try.func12, Try.ntmps12
            try go_wp2_with (first | ((with_reducible refine gate_dst (N := 2) rfl ?_); refine box_event ?hg (N := 2) ?hd (cs := #[.slice A0_0 l0_0.length c0_0]) (t := 67) ?hr ?_; (case hd => rfl); (case hg => rfl); (case hr => first | (go_simp; done) | (go_simp; rfl)); intro gb298 hg w32 hbox hb; have n0_ := Aside0.mk (below_step bl_ hb); have n1_ := Aside0.mk (hbox); have n2_ := Aside0.mk ((by rw [hg]; exact (below_size bl_) : w.heap.size ≤ gb298)); have n3_ := Aside0.mk ((by rw [hg]; exact (below_size bl_) : w.heap.size ≤ gb298)); clear HB; have HB := n0_; have BK298 := n1_; have GW298 := n2_; have GE298 := n3_; clear n0_ n1_ n2_ n3_; clear hb hbox hg) | ((with_reducible refine gate_dst (N := 3) rfl ?_); refine box_event ?hg (N := 3) ?hd (cs := #[.slice A1_0 l1_0.length c1_0]) (t := 67) ?hr ?_; (case hd => rfl); (case hg => rfl); (case hr => first | (go_simp; done) | (go_simp; rfl)); intro gb299 hg w33 hbox hb; have n0_ := Aside0.mk (blk_below (bk_ BK298) hb); have n1_ := Aside0.mk (below_step bl_ hb); have n2_ := Aside0.mk (hbox); have n3_ := Aside0.mk ((by rw [hg]; exact (below_size bl_) : w.heap.size ≤ gb299)); have n4_ := Aside0.mk ((by rw [hg]; exact (below_size bl_) : w.heap.size ≤ gb299)); have n5_ := Aside0.mk ((by rw [hg]; exact Nat.ne_of_lt (blk_lt (bk_ BK298)) : gb298 ≠ gb299)); have n6_ := Aside0.mk ((by rw [hg]; exact Nat.ne_of_gt (blk_lt (bk_ BK298)) : gb299 ≠ gb298)); clear BK298; clear HB; have BK298 := n0_; have HB := n1_; have BK299 := n2_; have GW299 := n3_; have GE299 := n4_; have NB298_299 := n5_; have NB299_298 := n6_; clear n0_ n1_ n2_ n3_ n4_ n5_ n6_; clear hb hbox hg; have hnb34 := NB298_299.out; have hnc34 := NB299_298.out; have hcz35_0 := cz_ BK298 0 (.slice A0_0 l0_0.length c0_0); have hfz35_0 := fz_ BK298 0) | ((with_reducible refine gate_callee (f := 44) rfl ?_); refine goesL_ (some 12) rfl rfl Try.func44 (by kernel_rfl) rfl #[.agg #[.slice A0_0 l0_0.length c0_0], .int .i64 1048576] rfl gl_ ?_; (with_reducible refine (laws_szBook.calls k _ _ l0_0 1048576 t300 _ ?side1 ?side2 A3.out).mono ?_); (case side1 => exact ca_ (Kd.C_below HR0_0.out HB.out)); (case side2 => exact HC0_0.out); rintro e w36 ⟨rfl, hb⟩; refine ⟨_, rfl, ?_⟩; have n0_ := Aside0.mk (blk_below (bk_ BK298) hb); have n1_ := Aside0.mk (blk_below (bk_ BK299) hb); have n2_ := Aside0.mk (below_step bl_ hb); clear BK298; clear BK299; clear HB; have BK298 := n0_; have BK299 := n1_; have HB := n2_; clear n0_ n1_ n2_; (try clear hb); (try clear hb2); (try clear hk); (try clear hi); have hcz37_0 := cz_ BK299 0 (.slice A1_0 l1_0.length c1_0); have hfz37_0 := fz_ BK299 0) | ((with_reducible refine gate_callee (f := 44) rfl ?_); refine goesL_ (some 17) rfl rfl Try.func44 (by kernel_rfl) rfl #[.agg #[.slice A1_0 l1_0.length c1_0], .int .i64 t300] rfl gl_ ?_; (with_reducible refine (laws_szBook.calls k _ _ l1_0 t300 t301 _ ?side1 ?side2 A10.out).mono ?_); (case side1 => exact ca_ (Kd.C_below HR1_0.out HB.out)); (case side2 => exact HC1_0.out); rintro e w38 ⟨rfl, hb⟩; refine ⟨_, rfl, ?_⟩; have n0_ := Aside0.mk (blk_below (bk_ BK298) hb); have n1_ := Aside0.mk (blk_below (bk_ BK299) hb); have n2_ := Aside0.mk (below_step bl_ hb); clear BK298; clear BK299; clear HB; have BK298 := n0_; have BK299 := n1_; have HB := n2_; clear n0_ n1_ n2_; (try clear hb); (try clear hb2); (try clear hk); (try clear hi)))
            have n0_ := Aside0.mk (blk_drew BK298.out)
            have n1_ := Aside0.mk (blk_drew BK299.out)
            have n2_ := Aside0.mk (below_drew1 HB.out)
            clear BK298
            clear BK299
            clear HB
            have BK298 := n0_
            have BK299 := n1_
            have HB := n2_
            clear n0_ n1_ n2_
            refine start_ (n := 6) (S := fun w' => w'.cell? ⟨gb298, 0, none⟩ = some (.slice A0_0 l0_0.length c0_0) ∧ w'.cell? ⟨gb299, 0, none⟩ = some (.slice A1_0 l1_0.length c1_0)) (ds := []) #[false, false, false, false, false, false] (by kernel_rfl) rfl rfl ⟨(blk_cell BK298.out 0).trans rfl, (blk_cell BK299.out 0).trans rfl⟩ (fun hHeld => ?_)
            generalize w38.drew = w39 at BK298 BK299 HB hHeld ⊢
            refine take_ (i := 0) (N := some 20) (v := ?_) (a' := ?_) #[true, false, false, false, false, false] rfl rfl (by kernel_rfl) (fun _ _ _ h => h) (Or.inl ⟨by rfl, ?_⟩) hHeld ?_ ?_
            rotate_left
            · rintro w' ⟨s0, s1⟩
              go_simp
              with_reducible rfl
            rotate_left
            · simp only [Act.put, List.setIfInBounds_toArray, List.set_cons_zero, List.set_cons_succ, i64_w, i32_w]
              rfl
            refine take_ (i := 2) (N := some 22) (v := ?_) (a' := ?_) #[true, false, true, false, false, false] rfl rfl (by kernel_rfl) (fun _ _ _ h => h) (Or.inl ⟨by rfl, ?_⟩) hHeld ?_ ?_
            rotate_left
            · rintro w' ⟨s0, s1⟩
              go_simp
              with_reducible rfl
            rotate_left
            · simp only [Act.put, List.setIfInBounds_toArray, List.set_cons_zero, List.set_cons_succ, i64_w, i32_w]
              rfl
            refine one_ (i := 1) (N := some 21) #[true, true, true, false, false, false] rfl rfl (by kernel_rfl) (by decide) (fun K hK => ?_)
            refine goes_ Try.func46 (by kernel_rfl) rfl #[.agg #[.slice A0_0 l0_0.length c0_0]] (by rfl) rfl rfl gl_ ?_
            with_reducible refine (laws_toBook.calls k _ _ l0_0 t302 _ ?side1 ?side2 A19.out).mono ?_
            (case side1 => exact ca_ (Kd.C_below HR0_0.out HB.out))
            (case side2 => exact HC0_0.out)
            rintro e w40 ⟨v303, rfl, ho0, hb⟩
            refine ⟨_, rfl, ?_⟩
            have n0_ := Aside0.mk (Kd.R_lower ho0 (below_size bl_))
            have n1_ := Aside0.mk (blk_below (bk_ BK298) hb)
            have n2_ := Aside0.mk (blk_below (bk_ BK299) hb)
            have n3_ := Aside0.mk (below_step bl_ hb)
            clear BK298
            clear BK299
            clear HB
            have HO304 := n0_
            have BK298 := n1_
            have BK299 := n2_
            have HB := n3_
            clear n0_ n1_ n2_ n3_
            (try clear hb)
            (try clear hb2)
            (try clear hk)
            (try clear hi)
            (try clear ho0)
            refine hK.out _ _ ⟨(blk_cell BK298.out 0).trans rfl, (blk_cell BK299.out 0).trans rfl⟩ (fun hHeld => ?_)
            clear hK K
            refine norm_ (a' := ?_) ?_ ?_
            rotate_left
            · show Act.put _ (some 21) _ = _
              simp only [Act.put, List.setIfInBounds_toArray, List.set_cons_zero, List.set_cons_succ, i64_w, i32_w]
              rfl
            refine one_ (i := 3) (N := some 23) #[true, true, true, true, false, false] rfl rfl (by kernel_rfl) (by decide) (fun K hK => ?_)
            refine goes_ Try.func46 (by kernel_rfl) rfl #[.agg #[.slice A1_0 l1_0.length c1_0]] (by rfl) rfl rfl gl_ ?_
            with_reducible refine (laws_toBook.calls k _ _ l1_0 t305 _ ?side1 ?side2 A20.out).mono ?_
            (case side1 => exact ca_ (Kd.C_below HR1_0.out HB.out))
            (case side2 => exact HC1_0.out)
            rintro e w41 ⟨v306, rfl, ho0, hb⟩
            refine ⟨_, rfl, ?_⟩
            have n0_ := Aside0.mk (Kd.R_elder' (ra_ HO304) (Kd.R_base ho0) hb)
            have n1_ := Aside0.mk (Kd.R_lower (Kd.R_new' ho0 (Kd.R_lt (ra_ HO304))) (below_size bl_))
            have n2_ := Aside0.mk (blk_below (bk_ BK298) hb)
            have n3_ := Aside0.mk (blk_below (bk_ BK299) hb)
            have n4_ := Aside0.mk (below_step bl_ hb)
            clear HO304
            clear BK298
            clear BK299
            clear HB
            have HO304 := n0_
            have HO307 := n1_
            have BK298 := n2_
            have BK299 := n3_
            have HB := n4_
            clear n0_ n1_ n2_ n3_ n4_
            (try clear hb)
            (try clear hb2)
            (try clear hk)
            (try clear hi)
            (try clear ho0)
            obtain ⟨Ao42, co42, eo42⟩ := Kd.R_slice HO304.out
            (first | subst eo42 | (injection eo42 with f1_ f2_ f3_; have f4_ := f1_.symm; have f5_ := f3_.symm; clear f1_ f2_ f3_; subst f4_; subst f5_))
            obtain ⟨Ao43, co43, eo43⟩ := Kd.R_slice HO307.out
            (first | subst eo43 | (injection eo43 with f1_ f2_ f3_; have f4_ := f1_.symm; have f5_ := f3_.symm; clear f1_ f2_ f3_; subst f4_; subst f5_))
            refine hK.out _ _ ⟨(blk_cell BK298.out 0).trans rfl, (blk_cell BK299.out 0).trans rfl⟩ (fun hHeld => ?_)
            clear hK K
            refine norm_ (a' := ?_) ?_ ?_
            rotate_left
            · show Act.put _ (some 23) _ = _
              simp only [Act.put, List.setIfInBounds_toArray, List.set_cons_zero, List.set_cons_succ, i64_w, i32_w]
              rfl
            refine one_ (i := 4) (N := some 24) #[true, true, true, true, true, false] rfl rfl (by kernel_rfl) (by decide) (fun K hK => ?_)
            refine goes_ Try.func60 (by kernel_rfl) rfl #[.agg #[.slice Ao42 t302.length co42], .agg #[.slice Ao43 t305.length co43]] (by rfl) rfl rfl gl_ ?_
            with_reducible refine (spec_BookSame.calls k _ _ t302 _ _ t305 t308 _ ?side1 ?side2 ?side3 ?side4 A21.out).mono ?_
            (case side1 => exact ca_ ((Kd.R_reads' HO304.out).2.2))
            (case side2 => exact (Kd.R_reads' HO304.out).2.1)
            (case side3 => exact ca_ ((Kd.R_reads' HO307.out).2.2))
            (case side4 => exact (Kd.R_reads' HO307.out).2.1)
            rintro e w44 ⟨rfl, hb⟩
            refine ⟨_, rfl, ?_⟩
            have n0_ := Aside0.mk (Kd.R_below (ra_ HO304) hb)
            have n1_ := Aside0.mk (Kd.R_below (ra_ HO307) hb)
            have n2_ := Aside0.mk (blk_below (bk_ BK298) hb)
            have n3_ := Aside0.mk (blk_below (bk_ BK299) hb)
            have n4_ := Aside0.mk (below_step bl_ hb)
            clear HO304
            clear HO307
            clear BK298
            clear BK299
            clear HB
            have HO304 := n0_
            have HO307 := n1_
            have BK298 := n2_
            have BK299 := n3_
            have HB := n4_
            clear n0_ n1_ n2_ n3_ n4_
            (try clear hb)
            (try clear hb2)
            (try clear hk)
            (try clear hi)
            refine hK.out _ _ ⟨(blk_cell BK298.out 0).trans rfl, (blk_cell BK299.out 0).trans rfl⟩ (fun hHeld => ?_)
            clear hK K
            refine norm_ (a' := ?_) ?_ ?_
            rotate_left
            · show Act.put _ (some 24) _ = _
              simp only [Act.put, List.setIfInBounds_toArray, List.set_cons_zero, List.set_cons_succ, i64_w, i32_w]
              rfl
            refine pure_ (i := 5) (N := some 6) (v := ?_) (a' := ?_) #[true, true, true, true, true, true] rfl rfl (by kernel_rfl) (fun _ _ _ h => h) (Or.inl ⟨by rfl, ?_⟩) ?_ ?_
            rotate_left
            · intro w'
              go_simp
              with_reducible rfl
            rotate_left
            · simp only [Act.put, List.setIfInBounds_toArray, List.set_cons_zero, List.set_cons_succ, i64_w, i32_w]
              rfl
            refine done_ (by kernel_rfl) ?_
            have hcz45_0 := cz_ BK298 0 (.slice A0_0 l0_0.length c0_0)
            have hfz45_0 := fz_ BK298 0
            try go_wp2_with (first | ((with_reducible refine gate_callee (f := 46) rfl ?_); refine goesL_ (some 26) rfl rfl Try.func46 (by kernel_rfl) rfl #[.agg #[.slice A0_0 l0_0.length c0_0]] rfl gl_ ?_; (with_reducible refine (laws_toBook.calls k _ _ l0_0 t309 _ ?side1 ?side2 A22.out).mono ?_); (case side1 => exact ca_ (Kd.C_below HR0_0.out HB.out)); (case side2 => exact HC0_0.out); rintro e w46 ⟨v310, rfl, ho0, hb⟩; refine ⟨_, rfl, ?_⟩; have n0_ := Aside0.mk (Kd.R_elder' (ra_ HO304) (Kd.R_base ho0) hb); have n1_ := Aside0.mk (Kd.R_elder' (ra_ HO307) (Kd.R_base ho0) hb); have n2_ := Aside0.mk (Kd.R_lower (Kd.R_new' (Kd.R_new' ho0 (Kd.R_lt (ra_ HO304))) (Kd.R_lt (ra_ HO307))) (below_size bl_)); have n3_ := Aside0.mk (blk_below (bk_ BK298) hb); have n4_ := Aside0.mk (blk_below (bk_ BK299) hb); have n5_ := Aside0.mk (below_step bl_ hb); clear HO304; clear HO307; clear BK298; clear BK299; clear HB; have HO304 := n0_; have HO307 := n1_; have HO311 := n2_; have BK298 := n3_; have BK299 := n4_; have HB := n5_; clear n0_ n1_ n2_ n3_ n4_ n5_; (try clear hb); (try clear hb2); (try clear hk); (try clear hi); (try clear ho0)) | ((with_reducible refine gate_dst (N := 7) rfl ?_); refine box_event ?hg (N := 7) ?hd (cs := #[.slice none 0 0]) (t := 72) ?hr ?_; (case hd => rfl); (case hg => rfl); (case hr => first | (go_simp; done) | (go_simp; rfl)); intro gb312 hg w47 hbox hb; have n0_ := Aside0.mk (Kd.R_below (ra_ HO304) hb); have n1_ := Aside0.mk (Kd.R_below (ra_ HO307) hb); have n2_ := Aside0.mk (Kd.R_below (ra_ HO311) hb); have n3_ := Aside0.mk (blk_below (bk_ BK298) hb); have n4_ := Aside0.mk (blk_below (bk_ BK299) hb); have n5_ := Aside0.mk (below_step bl_ hb); have n6_ := Aside0.mk (hbox); have n7_ := Aside0.mk ((by rw [hg]; exact (below_size bl_) : w.heap.size ≤ gb312)); have n8_ := Aside0.mk ((by rw [hg]; exact (below_size bl_) : w.heap.size ≤ gb312)); have n9_ := Aside0.mk ((by rw [hg]; exact Nat.ne_of_lt (blk_lt (bk_ BK298)) : gb298 ≠ gb312)); have n10_ := Aside0.mk ((by rw [hg]; exact Nat.ne_of_gt (blk_lt (bk_ BK298)) : gb312 ≠ gb298)); have n11_ := Aside0.mk ((by rw [hg]; exact Nat.ne_of_lt (blk_lt (bk_ BK299)) : gb299 ≠ gb312)); have n12_ := Aside0.mk ((by rw [hg]; exact Nat.ne_of_gt (blk_lt (bk_ BK299)) : gb312 ≠ gb299)); clear HO304; clear HO307; clear HO311; clear BK298; clear BK299; clear HB; have HO304 := n0_; have HO307 := n1_; have HO311 := n2_; have BK298 := n3_; have BK299 := n4_; have HB := n5_; have BK312 := n6_; have GW312 := n7_; have GE312 := n8_; have NB298_312 := n9_; have NB312_298 := n10_; have NB299_312 := n11_; have NB312_299 := n12_; clear n0_ n1_ n2_ n3_ n4_ n5_ n6_ n7_ n8_ n9_ n10_ n11_ n12_; clear hb hbox hg; obtain ⟨Ao48, co48, eo48⟩ := Kd.R_slice HO311.out; subst eo48; have hnb49 := NB312_298.out; have hnc49 := NB298_312.out; have hnb50 := NB312_299.out; have hnc50 := NB299_312.out; have hcz51_0 := cz_ BK312 0 (.slice none 0 0); have hfz51_0 := fz_ BK312 0; have hcz52_0 := cz_ BK299 0 (.slice A1_0 l1_0.length c1_0); have hfz52_0 := fz_ BK299 0) | ((with_reducible refine gate_callee (f := 46) rfl ?_); refine goesL_ (some 28) rfl rfl Try.func46 (by kernel_rfl) rfl #[.agg #[.slice A1_0 l1_0.length c1_0]] rfl gl_ ?_; (with_reducible refine (laws_toBook.calls k _ _ l1_0 t313 _ ?side1 ?side2 A23.out).mono ?_); (case side1 => exact Kd.C_below HR1_0.out bl_); (case side2 => exact HC1_0.out); rintro e w53 ⟨v314, rfl, ho0, hb⟩; refine ⟨_, rfl, ?_⟩; have n0_ := Aside0.mk (Kd.R_elder' (by (with_reducible repeat (first | apply Kd.R_alloc | apply Kd.R_drewN | apply Kd.R_drew)); exact (Kd.R_mono (Kd.R_far (p := ⟨gb312, 0, none⟩) (Kd.R_types HO304.out BK312.out (by decide)) (fun _ hk => hk.2) (.slice Ao48 t309.length co48)) (fun _ h_ => h_.1))) (Kd.R_base ho0) hb); have n1_ := Aside0.mk (Kd.R_elder' (by (with_reducible repeat (first | apply Kd.R_alloc | apply Kd.R_drewN | apply Kd.R_drew)); exact (Kd.R_mono (Kd.R_far (p := ⟨gb312, 0, none⟩) (Kd.R_types HO307.out BK312.out (by decide)) (fun _ hk => hk.2) (.slice Ao48 t309.length co48)) (fun _ h_ => h_.1))) (Kd.R_base ho0) hb); have n2_ := Aside0.mk (Kd.R_elder' (by (with_reducible repeat (first | apply Kd.R_alloc | apply Kd.R_drewN | apply Kd.R_drew)); exact (Kd.R_mono (Kd.R_far (p := ⟨gb312, 0, none⟩) (Kd.R_types HO311.out BK312.out (by decide)) (fun _ hk => hk.2) (.slice Ao48 t309.length co48)) (fun _ h_ => h_.1))) (Kd.R_base ho0) hb); have n3_ := Aside0.mk (Kd.R_lower (Kd.R_new' (Kd.R_new' (Kd.R_new' ho0 (Kd.R_lt (by (with_reducible repeat (first | apply Kd.R_alloc | apply Kd.R_drewN | apply Kd.R_drew)); exact (Kd.R_mono (Kd.R_far (p := ⟨gb312, 0, none⟩) (Kd.R_types HO304.out BK312.out (by decide)) (fun _ hk => hk.2) (.slice Ao48 t309.length co48)) (fun _ h_ => h_.1))))) (Kd.R_lt (by (with_reducible repeat (first | apply Kd.R_alloc | apply Kd.R_drewN | apply Kd.R_drew)); exact (Kd.R_mono (Kd.R_far (p := ⟨gb312, 0, none⟩) (Kd.R_types HO307.out BK312.out (by decide)) (fun _ hk => hk.2) (.slice Ao48 t309.length co48)) (fun _ h_ => h_.1))))) (Kd.R_lt (by (with_reducible repeat (first | apply Kd.R_alloc | apply Kd.R_drewN | apply Kd.R_drew)); exact (Kd.R_mono (Kd.R_far (p := ⟨gb312, 0, none⟩) (Kd.R_types HO311.out BK312.out (by decide)) (fun _ hk => hk.2) (.slice Ao48 t309.length co48)) (fun _ h_ => h_.1))))) (below_size bl_)); have n4_ := Aside0.mk (blk_below (g := gb298) (o := .cells #[.slice A0_0 l0_0.length c0_0] 67 (0, 0)) (by (with_reducible repeat (first | refine blk_drewN ?_ _ | refine blk_drew ?_ | refine blk_alloc ?_ _)); refine blk_far ?_ NB298_312.out _; (with_reducible repeat (first | refine blk_drewN ?_ _ | refine blk_drew ?_ | refine blk_alloc ?_ _)); exact BK298.out) hb); have n5_ := Aside0.mk (blk_below (g := gb299) (o := .cells #[.slice A1_0 l1_0.length c1_0] 67 (0, 0)) (by (with_reducible repeat (first | refine blk_drewN ?_ _ | refine blk_drew ?_ | refine blk_alloc ?_ _)); refine blk_far ?_ NB299_312.out _; (with_reducible repeat (first | refine blk_drewN ?_ _ | refine blk_drew ?_ | refine blk_alloc ?_ _)); exact BK299.out) hb); have n6_ := Aside0.mk (blk_below (g := gb312) (o := .cells #[.slice Ao48 t309.length co48] 72 (0, 0)) (by (with_reducible repeat (first | refine blk_drewN ?_ _ | refine blk_drew ?_ | refine blk_alloc ?_ _)); refine blk_put (cs := #[.slice none 0 0]) ?_ 0 _ rfl; (with_reducible repeat (first | refine blk_drewN ?_ _ | refine blk_drew ?_ | refine blk_alloc ?_ _)); exact BK312.out) hb); have n7_ := Aside0.mk (below_step bl_ hb); clear HO304; clear HO307; clear HO311; clear BK298; clear BK299; clear BK312; clear HB; have HO304 := n0_; have HO307 := n1_; have HO311 := n2_; have HO315 := n3_; have BK298 := n4_; have BK299 := n5_; have BK312 := n6_; have HB := n7_; clear n0_ n1_ n2_ n3_ n4_ n5_ n6_ n7_; (try clear hb); (try clear hb2); (try clear hk); (try clear hi); (try clear ho0)) | ((with_reducible refine gate_dst (N := 8) rfl ?_); refine box_event ?hg (N := 8) ?hd (cs := #[.slice none 0 0]) (t := 72) ?hr ?_; (case hd => rfl); (case hg => rfl); (case hr => first | (go_simp; done) | (go_simp; rfl)); intro gb316 hg w54 hbox hb; have n0_ := Aside0.mk (Kd.R_below (ra_ HO304) hb); have n1_ := Aside0.mk (Kd.R_below (ra_ HO307) hb); have n2_ := Aside0.mk (Kd.R_below (ra_ HO311) hb); have n3_ := Aside0.mk (Kd.R_below (ra_ HO315) hb); have n4_ := Aside0.mk (blk_below (bk_ BK298) hb); have n5_ := Aside0.mk (blk_below (bk_ BK299) hb); have n6_ := Aside0.mk (blk_below (bk_ BK312) hb); have n7_ := Aside0.mk (below_step bl_ hb); have n8_ := Aside0.mk (hbox); have n9_ := Aside0.mk ((by rw [hg]; exact (below_size bl_) : w.heap.size ≤ gb316)); have n10_ := Aside0.mk ((by rw [hg]; exact (below_size bl_) : w.heap.size ≤ gb316)); have n11_ := Aside0.mk ((by rw [hg]; exact Nat.ne_of_lt (blk_lt (bk_ BK298)) : gb298 ≠ gb316)); have n12_ := Aside0.mk ((by rw [hg]; exact Nat.ne_of_gt (blk_lt (bk_ BK298)) : gb316 ≠ gb298)); have n13_ := Aside0.mk ((by rw [hg]; exact Nat.ne_of_lt (blk_lt (bk_ BK299)) : gb299 ≠ gb316)); have n14_ := Aside0.mk ((by rw [hg]; exact Nat.ne_of_gt (blk_lt (bk_ BK299)) : gb316 ≠ gb299)); have n15_ := Aside0.mk ((by rw [hg]; exact Nat.ne_of_lt (blk_lt (bk_ BK312)) : gb312 ≠ gb316)); have n16_ := Aside0.mk ((by rw [hg]; exact Nat.ne_of_gt (blk_lt (bk_ BK312)) : gb316 ≠ gb312)); clear HO304; clear HO307; clear HO311; clear HO315; clear BK298; clear BK299; clear BK312; clear HB; have HO304 := n0_; have HO307 := n1_; have HO311 := n2_; have HO315 := n3_; have BK298 := n4_; have BK299 := n5_; have BK312 := n6_; have HB := n7_; have BK316 := n8_; have GW316 := n9_; have GE316 := n10_; have NB298_316 := n11_; have NB316_298 := n12_; have NB299_316 := n13_; have NB316_299 := n14_; have NB312_316 := n15_; have NB316_312 := n16_; clear n0_ n1_ n2_ n3_ n4_ n5_ n6_ n7_ n8_ n9_ n10_ n11_ n12_ n13_ n14_ n15_ n16_; clear hb hbox hg; obtain ⟨Ao55, co55, eo55⟩ := Kd.R_slice HO315.out; subst eo55; have hnb56 := NB316_298.out; have hnc56 := NB298_316.out; have hnb57 := NB316_299.out; have hnc57 := NB299_316.out; have hnb58 := NB316_312.out; have hnc58 := NB312_316.out; have hcz59_0 := cz_ BK316 0 (.slice none 0 0); have hfz59_0 := fz_ BK316 0; have hcz60_0 := cz_ BK312 0 (.slice Ao48 t309.length co48); have hfz60_0 := fz_ BK312 0) | ((with_reducible refine gate_callee (f := 61) rfl ?_); refine goesL_ (some 31) rfl rfl Try.func61 (by kernel_rfl) rfl #[.agg #[.slice Ao48 t309.length co48], .agg #[.slice Ao55 t313.length co55]] rfl gl_ ?_; (with_reducible refine (impl_BookSame.calls k _ _ t309 _ _ t313 t317 _ ?side1 ?side2 ?side3 ?side4 A24.out).mono ?_); (case side1 => refine (Kd.R_reads' (e := 85) (base := w.heap.size) (ok := fun k_ => (((True ∧ some k_ ≠ (.slice Ao42 t302.length co42 : Value).ownBlock) ∧ some k_ ≠ (.slice Ao43 t305.length co43 : Value).ownBlock) ∧ some k_ ≠ (.slice Ao55 t313.length co55 : Value).ownBlock)) (n := t309.length) (c := co48) ?_).2.2; exact (by (with_reducible repeat (first | apply Kd.R_alloc | apply Kd.R_drewN | apply Kd.R_drew)); exact (Kd.R_mono (Kd.R_far (p := ⟨gb316, 0, none⟩) (Kd.R_types HO311.out BK316.out (by decide)) (fun _ hk => hk.2) (.slice Ao55 t313.length co55)) (fun _ h_ => h_.1)))); (case side2 => exact (Kd.R_reads' HO311.out).2.1); (case side3 => refine (Kd.R_reads' (e := 85) (base := w.heap.size) (ok := fun k_ => (((True ∧ some k_ ≠ (.slice Ao42 t302.length co42 : Value).ownBlock) ∧ some k_ ≠ (.slice Ao43 t305.length co43 : Value).ownBlock) ∧ some k_ ≠ (.slice Ao48 t309.length co48 : Value).ownBlock)) (n := t313.length) (c := co55) ?_).2.2; exact (by (with_reducible repeat (first | apply Kd.R_alloc | apply Kd.R_drewN | apply Kd.R_drew)); exact (Kd.R_mono (Kd.R_far (p := ⟨gb316, 0, none⟩) (Kd.R_types HO315.out BK316.out (by decide)) (fun _ hk => hk.2) (.slice Ao55 t313.length co55)) (fun _ h_ => h_.1)))); (case side4 => exact (Kd.R_reads' HO315.out).2.1); rintro e w61 ⟨rfl, hb⟩; refine ⟨_, rfl, ?_⟩; have n0_ := Aside0.mk (Kd.R_below (by (with_reducible repeat (first | apply Kd.R_alloc | apply Kd.R_drewN | apply Kd.R_drew)); exact (Kd.R_mono (Kd.R_far (p := ⟨gb316, 0, none⟩) (Kd.R_types HO304.out BK316.out (by decide)) (fun _ hk => hk.2) (.slice Ao55 t313.length co55)) (fun _ h_ => h_.1))) hb); have n1_ := Aside0.mk (Kd.R_below (by (with_reducible repeat (first | apply Kd.R_alloc | apply Kd.R_drewN | apply Kd.R_drew)); exact (Kd.R_mono (Kd.R_far (p := ⟨gb316, 0, none⟩) (Kd.R_types HO307.out BK316.out (by decide)) (fun _ hk => hk.2) (.slice Ao55 t313.length co55)) (fun _ h_ => h_.1))) hb); have n2_ := Aside0.mk (Kd.R_below (by (with_reducible repeat (first | apply Kd.R_alloc | apply Kd.R_drewN | apply Kd.R_drew)); exact (Kd.R_mono (Kd.R_far (p := ⟨gb316, 0, none⟩) (Kd.R_types HO311.out BK316.out (by decide)) (fun _ hk => hk.2) (.slice Ao55 t313.length co55)) (fun _ h_ => h_.1))) hb); have n3_ := Aside0.mk (Kd.R_below (by (with_reducible repeat (first | apply Kd.R_alloc | apply Kd.R_drewN | apply Kd.R_drew)); exact (Kd.R_mono (Kd.R_far (p := ⟨gb316, 0, none⟩) (Kd.R_types HO315.out BK316.out (by decide)) (fun _ hk => hk.2) (.slice Ao55 t313.length co55)) (fun _ h_ => h_.1))) hb); have n4_ := Aside0.mk (blk_below (g := gb298) (o := .cells #[.slice A0_0 l0_0.length c0_0] 67 (0, 0)) (by (with_reducible repeat (first | refine blk_drewN ?_ _ | refine blk_drew ?_ | refine blk_alloc ?_ _)); refine blk_far ?_ NB298_316.out _; (with_reducible repeat (first | refine blk_drewN ?_ _ | refine blk_drew ?_ | refine blk_alloc ?_ _)); exact BK298.out) hb); have n5_ := Aside0.mk (blk_below (g := gb299) (o := .cells #[.slice A1_0 l1_0.length c1_0] 67 (0, 0)) (by (with_reducible repeat (first | refine blk_drewN ?_ _ | refine blk_drew ?_ | refine blk_alloc ?_ _)); refine blk_far ?_ NB299_316.out _; (with_reducible repeat (first | refine blk_drewN ?_ _ | refine blk_drew ?_ | refine blk_alloc ?_ _)); exact BK299.out) hb); have n6_ := Aside0.mk (blk_below (g := gb312) (o := .cells #[.slice Ao48 t309.length co48] 72 (0, 0)) (by (with_reducible repeat (first | refine blk_drewN ?_ _ | refine blk_drew ?_ | refine blk_alloc ?_ _)); refine blk_far ?_ NB312_316.out _; (with_reducible repeat (first | refine blk_drewN ?_ _ | refine blk_drew ?_ | refine blk_alloc ?_ _)); exact BK312.out) hb); have n7_ := Aside0.mk (blk_below (g := gb316) (o := .cells #[.slice Ao55 t313.length co55] 72 (0, 0)) (by (with_reducible repeat (first | refine blk_drewN ?_ _ | refine blk_drew ?_ | refine blk_alloc ?_ _)); refine blk_put (cs := #[.slice none 0 0]) ?_ 0 _ rfl; (with_reducible repeat (first | refine blk_drewN ?_ _ | refine blk_drew ?_ | refine blk_alloc ?_ _)); exact BK316.out) hb); have n8_ := Aside0.mk (below_step bl_ hb); clear HO304; clear HO307; clear HO311; clear HO315; clear BK298; clear BK299; clear BK312; clear BK316; clear HB; have HO304 := n0_; have HO307 := n1_; have HO311 := n2_; have HO315 := n3_; have BK298 := n4_; have BK299 := n5_; have BK312 := n6_; have BK316 := n7_; have HB := n8_; clear n0_ n1_ n2_ n3_ n4_ n5_ n6_ n7_ n8_; (try clear hb); (try clear hb2); (try clear hk); (try clear hi)))
            have n0_ := Aside0.mk (Kd.R_drew HO304.out)
            have n1_ := Aside0.mk (Kd.R_drew HO307.out)
            have n2_ := Aside0.mk (Kd.R_drew HO311.out)
            have n3_ := Aside0.mk (Kd.R_drew HO315.out)
            have n4_ := Aside0.mk (blk_drew BK298.out)
            have n5_ := Aside0.mk (blk_drew BK299.out)
            have n6_ := Aside0.mk (blk_drew BK312.out)
            have n7_ := Aside0.mk (blk_drew BK316.out)
            have n8_ := Aside0.mk (below_drew1 HB.out)
            clear HO304
            clear HO307
            clear HO311
            clear HO315
            clear BK298
            clear BK299
            clear BK312
            clear BK316
            clear HB
            have HO304 := n0_
            have HO307 := n1_
            have HO311 := n2_
            have HO315 := n3_
            have BK298 := n4_
            have BK299 := n5_
            have BK312 := n6_
            have BK316 := n7_
            have HB := n8_
            clear n0_ n1_ n2_ n3_ n4_ n5_ n6_ n7_ n8_
            refine start_ (n := 5) (S := fun w' => w'.cell? ⟨gb312, 0, none⟩ = some (.slice Ao48 t309.length co48) ∧ w'.cell? ⟨gb298, 0, none⟩ = some (.slice A0_0 l0_0.length c0_0)) (ds := []) #[false, false, false, false, false] (by kernel_rfl) rfl rfl ⟨(blk_cell BK312.out 0).trans rfl, (blk_cell BK298.out 0).trans rfl⟩ (fun hHeld => ?_)
            generalize w61.drew = w62 at HO304 HO307 HO311 HO315 BK298 BK299 BK312 BK316 HB hHeld ⊢
            refine take_ (i := 0) (N := some 35) (v := ?_) (a' := ?_) #[true, false, false, false, false] rfl rfl (by kernel_rfl) (fun _ _ _ h => h) (Or.inl ⟨by rfl, ?_⟩) hHeld ?_ ?_
            rotate_left
            · rintro w' ⟨s0, s1⟩
              go_simp
              with_reducible rfl
            rotate_left
            · simp only [Act.put, List.setIfInBounds_toArray, List.set_cons_zero, List.set_cons_succ, i64_w, i32_w]
              rfl
            refine take_ (i := 1) (N := some 36) (v := ?_) (a' := ?_) #[true, true, false, false, false] rfl rfl (by kernel_rfl) (fun _ _ _ h => h) (Or.inl ⟨by rfl, ?_⟩) hHeld ?_ ?_
            rotate_left
            · rintro w' ⟨s0, s1⟩
              go_simp
              with_reducible rfl
            rotate_left
            · simp only [Act.put, List.setIfInBounds_toArray, List.set_cons_zero, List.set_cons_succ, i64_w, i32_w]
              rfl
            refine one_ (i := 2) (N := some 37) #[true, true, true, false, false] rfl rfl (by kernel_rfl) (by decide) (fun K hK => ?_)
            refine goes_ Try.func46 (by kernel_rfl) rfl #[.agg #[.slice A0_0 l0_0.length c0_0]] (by rfl) rfl rfl gl_ ?_
            with_reducible refine (laws_toBook.calls k _ _ l0_0 t318 _ ?side1 ?side2 A26.out).mono ?_
            (case side1 => exact ca_ (Kd.C_below HR0_0.out HB.out))
            (case side2 => exact HC0_0.out)
            rintro e w63 ⟨v319, rfl, ho0, hb⟩
            refine ⟨_, rfl, ?_⟩
            have n0_ := Aside0.mk (Kd.R_elder' (ra_ HO304) (Kd.R_base ho0) hb)
            have n1_ := Aside0.mk (Kd.R_elder' (ra_ HO307) (Kd.R_base ho0) hb)
            have n2_ := Aside0.mk (Kd.R_elder' (ra_ HO311) (Kd.R_base ho0) hb)
            have n3_ := Aside0.mk (Kd.R_elder' (ra_ HO315) (Kd.R_base ho0) hb)
            have n4_ := Aside0.mk (Kd.R_lower (Kd.R_new' (Kd.R_new' (Kd.R_new' (Kd.R_new' ho0 (Kd.R_lt (ra_ HO304))) (Kd.R_lt (ra_ HO307))) (Kd.R_lt (ra_ HO311))) (Kd.R_lt (ra_ HO315))) (below_size bl_))
            have n5_ := Aside0.mk (blk_below (bk_ BK298) hb)
            have n6_ := Aside0.mk (blk_below (bk_ BK299) hb)
            have n7_ := Aside0.mk (blk_below (bk_ BK312) hb)
            have n8_ := Aside0.mk (blk_below (bk_ BK316) hb)
            have n9_ := Aside0.mk (below_step bl_ hb)
            clear HO304
            clear HO307
            clear HO311
            clear HO315
            clear BK298
            clear BK299
            clear BK312
            clear BK316
            clear HB
            have HO304 := n0_
            have HO307 := n1_
            have HO311 := n2_
            have HO315 := n3_
            have HO320 := n4_
            have BK298 := n5_
            have BK299 := n6_
            have BK312 := n7_
            have BK316 := n8_
            have HB := n9_
            clear n0_ n1_ n2_ n3_ n4_ n5_ n6_ n7_ n8_ n9_
            (try clear hb)
            (try clear hb2)
            (try clear hk)
            (try clear hi)
            (try clear ho0)
            obtain ⟨Ao64, co64, eo64⟩ := Kd.R_slice HO320.out
            (first | subst eo64 | (injection eo64 with f1_ f2_ f3_; have f4_ := f1_.symm; have f5_ := f3_.symm; clear f1_ f2_ f3_; subst f4_; subst f5_))
            refine hK.out _ _ ⟨(blk_cell BK312.out 0).trans rfl, (blk_cell BK298.out 0).trans rfl⟩ (fun hHeld => ?_)
            clear hK K
            refine norm_ (a' := ?_) ?_ ?_
            rotate_left
            · show Act.put _ (some 37) _ = _
              simp only [Act.put, List.setIfInBounds_toArray, List.set_cons_zero, List.set_cons_succ, i64_w, i32_w]
              rfl
            refine one_ (i := 3) (N := some 38) #[true, true, true, true, false] rfl rfl (by kernel_rfl) (by decide) (fun K hK => ?_)
            refine goes_ Try.func48 (by kernel_rfl) rfl #[.agg #[.slice Ao48 t309.length co48], .agg #[.slice Ao64 t318.length co64]] (by rfl) rfl rfl gl_ ?_
            with_reducible refine (laws_eqBook.calls k _ _ t309 _ _ t318 true _ ?side1 ?side2 ?side3 ?side4 A27.out).mono ?_
            (case side1 => exact ca_ ((Kd.R_reads' HO311.out).2.2))
            (case side2 => exact (Kd.R_reads' HO311.out).2.1)
            (case side3 => exact ca_ ((Kd.R_reads' HO320.out).2.2))
            (case side4 => exact (Kd.R_reads' HO320.out).2.1)
            rintro e w65 ⟨rfl, hb⟩
            refine ⟨_, rfl, ?_⟩
            have n0_ := Aside0.mk (Kd.R_below (ra_ HO304) hb)
            have n1_ := Aside0.mk (Kd.R_below (ra_ HO307) hb)
            have n2_ := Aside0.mk (Kd.R_below (ra_ HO311) hb)
            have n3_ := Aside0.mk (Kd.R_below (ra_ HO315) hb)
            have n4_ := Aside0.mk (Kd.R_below (ra_ HO320) hb)
            have n5_ := Aside0.mk (blk_below (bk_ BK298) hb)
            have n6_ := Aside0.mk (blk_below (bk_ BK299) hb)
            have n7_ := Aside0.mk (blk_below (bk_ BK312) hb)
            have n8_ := Aside0.mk (blk_below (bk_ BK316) hb)
            have n9_ := Aside0.mk (below_step bl_ hb)
            clear HO304
            clear HO307
            clear HO311
            clear HO315
            clear HO320
            clear BK298
            clear BK299
            clear BK312
            clear BK316
            clear HB
            have HO304 := n0_
            have HO307 := n1_
            have HO311 := n2_
            have HO315 := n3_
            have HO320 := n4_
            have BK298 := n5_
            have BK299 := n6_
            have BK312 := n7_
            have BK316 := n8_
            have HB := n9_
            clear n0_ n1_ n2_ n3_ n4_ n5_ n6_ n7_ n8_ n9_
            (try clear hb)
            (try clear hb2)
            (try clear hk)
            (try clear hi)
            refine hK.out _ _ ⟨(blk_cell BK312.out 0).trans rfl, (blk_cell BK298.out 0).trans rfl⟩ (fun hHeld => ?_)
            clear hK K
            refine norm_ (a' := ?_) ?_ ?_
            rotate_left
            · show Act.put _ (some 38) _ = _
              simp only [Act.put, List.setIfInBounds_toArray, List.set_cons_zero, List.set_cons_succ, i64_w, i32_w]
              rfl
            refine pure_ (i := 4) (N := some 39) (v := ?_) (a' := ?_) #[true, true, true, true, true] rfl rfl (by kernel_rfl) (fun _ _ _ h => h) (Or.inl ⟨by rfl, ?_⟩) ?_ ?_
            rotate_left
            · intro w'
              go_simp
              with_reducible rfl
            rotate_left
            · simp only [Act.put, List.setIfInBounds_toArray, List.set_cons_zero, List.set_cons_succ, i64_w, i32_w]
              rfl
            refine done_ (by kernel_rfl) ?_
            try go_wp2
            have n0_ := Aside0.mk (Kd.R_drew HO304.out)
            have n1_ := Aside0.mk (Kd.R_drew HO307.out)
            have n2_ := Aside0.mk (Kd.R_drew HO311.out)
            have n3_ := Aside0.mk (Kd.R_drew HO315.out)
            have n4_ := Aside0.mk (Kd.R_drew HO320.out)
            have n5_ := Aside0.mk (blk_drew BK298.out)
            have n6_ := Aside0.mk (blk_drew BK299.out)
            have n7_ := Aside0.mk (blk_drew BK312.out)
            have n8_ := Aside0.mk (blk_drew BK316.out)
            have n9_ := Aside0.mk (below_drew1 HB.out)
            clear HO304
            clear HO307
            clear HO311
            clear HO315
            clear HO320
            clear BK298
            clear BK299
            clear BK312
            clear BK316
            clear HB
            have HO304 := n0_
            have HO307 := n1_
            have HO311 := n2_
            have HO315 := n3_
            have HO320 := n4_
            have BK298 := n5_
            have BK299 := n6_
            have BK312 := n7_
            have BK316 := n8_
            have HB := n9_
            clear n0_ n1_ n2_ n3_ n4_ n5_ n6_ n7_ n8_ n9_
            refine start_ (n := 5) (S := fun w' => w'.cell? ⟨gb316, 0, none⟩ = some (.slice Ao55 t313.length co55) ∧ w'.cell? ⟨gb299, 0, none⟩ = some (.slice A1_0 l1_0.length c1_0)) (ds := []) #[false, false, false, false, false] (by kernel_rfl) rfl rfl ⟨(blk_cell BK316.out 0).trans rfl, (blk_cell BK299.out 0).trans rfl⟩ (fun hHeld => ?_)
            generalize w65.drew = w66 at HO304 HO307 HO311 HO315 HO320 BK298 BK299 BK312 BK316 HB hHeld ⊢
            refine take_ (i := 0) (N := some 40) (v := ?_) (a' := ?_) #[true, false, false, false, false] rfl rfl (by kernel_rfl) (fun _ _ _ h => h) (Or.inl ⟨by rfl, ?_⟩) hHeld ?_ ?_
            rotate_left
            · rintro w' ⟨s0, s1⟩
              go_simp
              with_reducible rfl
            rotate_left
            · simp only [Act.put, List.setIfInBounds_toArray, List.set_cons_zero, List.set_cons_succ, i64_w, i32_w]
              rfl
            refine take_ (i := 1) (N := some 41) (v := ?_) (a' := ?_) #[true, true, false, false, false] rfl rfl (by kernel_rfl) (fun _ _ _ h => h) (Or.inl ⟨by rfl, ?_⟩) hHeld ?_ ?_
            rotate_left
            · rintro w' ⟨s0, s1⟩
              go_simp
              with_reducible rfl
            rotate_left
            · simp only [Act.put, List.setIfInBounds_toArray, List.set_cons_zero, List.set_cons_succ, i64_w, i32_w]
              rfl
            refine one_ (i := 2) (N := some 42) #[true, true, true, false, false] rfl rfl (by kernel_rfl) (by decide) (fun K hK => ?_)
            refine goes_ Try.func46 (by kernel_rfl) rfl #[.agg #[.slice A1_0 l1_0.length c1_0]] (by rfl) rfl rfl gl_ ?_
            with_reducible refine (laws_toBook.calls k _ _ l1_0 t322 _ ?side1 ?side2 A29.out).mono ?_
            (case side1 => exact ca_ (Kd.C_below HR1_0.out HB.out))
            (case side2 => exact HC1_0.out)
            rintro e w67 ⟨v323, rfl, ho0, hb⟩
            refine ⟨_, rfl, ?_⟩
            have n0_ := Aside0.mk (Kd.R_elder' (ra_ HO304) (Kd.R_base ho0) hb)
            have n1_ := Aside0.mk (Kd.R_elder' (ra_ HO307) (Kd.R_base ho0) hb)
            have n2_ := Aside0.mk (Kd.R_elder' (ra_ HO311) (Kd.R_base ho0) hb)
            have n3_ := Aside0.mk (Kd.R_elder' (ra_ HO315) (Kd.R_base ho0) hb)
            have n4_ := Aside0.mk (Kd.R_elder' (ra_ HO320) (Kd.R_base ho0) hb)
            have n5_ := Aside0.mk (Kd.R_lower (Kd.R_new' (Kd.R_new' (Kd.R_new' (Kd.R_new' (Kd.R_new' ho0 (Kd.R_lt (ra_ HO304))) (Kd.R_lt (ra_ HO307))) (Kd.R_lt (ra_ HO311))) (Kd.R_lt (ra_ HO315))) (Kd.R_lt (ra_ HO320))) (below_size bl_))
            have n6_ := Aside0.mk (blk_below (bk_ BK298) hb)
            have n7_ := Aside0.mk (blk_below (bk_ BK299) hb)
            have n8_ := Aside0.mk (blk_below (bk_ BK312) hb)
            have n9_ := Aside0.mk (blk_below (bk_ BK316) hb)
            have n10_ := Aside0.mk (below_step bl_ hb)
            clear HO304
            clear HO307
            clear HO311
            clear HO315
            clear HO320
            clear BK298
            clear BK299
            clear BK312
            clear BK316
            clear HB
            have HO304 := n0_
            have HO307 := n1_
            have HO311 := n2_
            have HO315 := n3_
            have HO320 := n4_
            have HO324 := n5_
            have BK298 := n6_
            have BK299 := n7_
            have BK312 := n8_
            have BK316 := n9_
            have HB := n10_
            clear n0_ n1_ n2_ n3_ n4_ n5_ n6_ n7_ n8_ n9_ n10_
            (try clear hb)
            (try clear hb2)
            (try clear hk)
            (try clear hi)
            (try clear ho0)
            obtain ⟨Ao68, co68, eo68⟩ := Kd.R_slice HO324.out
            (first | subst eo68 | (injection eo68 with f1_ f2_ f3_; have f4_ := f1_.symm; have f5_ := f3_.symm; clear f1_ f2_ f3_; subst f4_; subst f5_))
            refine hK.out _ _ ⟨(blk_cell BK316.out 0).trans rfl, (blk_cell BK299.out 0).trans rfl⟩ (fun hHeld => ?_)
            clear hK K
            refine norm_ (a' := ?_) ?_ ?_
            rotate_left
            · show Act.put _ (some 42) _ = _
              simp only [Act.put, List.setIfInBounds_toArray, List.set_cons_zero, List.set_cons_succ, i64_w, i32_w]
              rfl
            refine one_ (i := 3) (N := some 43) #[true, true, true, true, false] rfl rfl (by kernel_rfl) (by decide) (fun K hK => ?_)
            refine goes_ Try.func48 (by kernel_rfl) rfl #[.agg #[.slice Ao55 t313.length co55], .agg #[.slice Ao68 t322.length co68]] (by rfl) rfl rfl gl_ ?_
            with_reducible refine (laws_eqBook.calls k _ _ t313 _ _ t322 true _ ?side1 ?side2 ?side3 ?side4 A30.out).mono ?_
            (case side1 => exact ca_ ((Kd.R_reads' HO315.out).2.2))
            (case side2 => exact (Kd.R_reads' HO315.out).2.1)
            (case side3 => exact ca_ ((Kd.R_reads' HO324.out).2.2))
            (case side4 => exact (Kd.R_reads' HO324.out).2.1)
            rintro e w69 ⟨rfl, hb⟩
            refine ⟨_, rfl, ?_⟩
            have n0_ := Aside0.mk (Kd.R_below (ra_ HO304) hb)
            have n1_ := Aside0.mk (Kd.R_below (ra_ HO307) hb)
            have n2_ := Aside0.mk (Kd.R_below (ra_ HO311) hb)
            have n3_ := Aside0.mk (Kd.R_below (ra_ HO315) hb)
            have n4_ := Aside0.mk (Kd.R_below (ra_ HO320) hb)
            have n5_ := Aside0.mk (Kd.R_below (ra_ HO324) hb)
            have n6_ := Aside0.mk (blk_below (bk_ BK298) hb)
            have n7_ := Aside0.mk (blk_below (bk_ BK299) hb)
            have n8_ := Aside0.mk (blk_below (bk_ BK312) hb)
            have n9_ := Aside0.mk (blk_below (bk_ BK316) hb)
            have n10_ := Aside0.mk (below_step bl_ hb)
            clear HO304
            clear HO307
            clear HO311
            clear HO315
            clear HO320
            clear HO324
            clear BK298
            clear BK299
            clear BK312
            clear BK316
            clear HB
            have HO304 := n0_
            have HO307 := n1_
            have HO311 := n2_
            have HO315 := n3_
            have HO320 := n4_
            have HO324 := n5_
            have BK298 := n6_
            have BK299 := n7_
            have BK312 := n8_
            have BK316 := n9_
            have HB := n10_
            clear n0_ n1_ n2_ n3_ n4_ n5_ n6_ n7_ n8_ n9_ n10_
            (try clear hb)
            (try clear hb2)
            (try clear hk)
            (try clear hi)
            refine hK.out _ _ ⟨(blk_cell BK316.out 0).trans rfl, (blk_cell BK299.out 0).trans rfl⟩ (fun hHeld => ?_)
            clear hK K
            refine norm_ (a' := ?_) ?_ ?_
            rotate_left
            · show Act.put _ (some 43) _ = _
              simp only [Act.put, List.setIfInBounds_toArray, List.set_cons_zero, List.set_cons_succ, i64_w, i32_w]
              rfl
            refine pure_ (i := 4) (N := some 44) (v := ?_) (a' := ?_) #[true, true, true, true, true] rfl rfl (by kernel_rfl) (fun _ _ _ h => h) (Or.inl ⟨by rfl, ?_⟩) ?_ ?_
            rotate_left
            · intro w'
              go_simp
              with_reducible rfl
            rotate_left
            · simp only [Act.put, List.setIfInBounds_toArray, List.set_cons_zero, List.set_cons_succ, i64_w, i32_w]
              rfl
            refine done_ (by kernel_rfl) ?_
            try go_wp2
            go_ret
            exact ⟨by first | rfl | (simp [errW_none, errW_some] <;> rfl) | (simp [*, errW_none, errW_some] <;> rfl), bl_⟩
          · replace c31 := Bool.eq_false_iff.mpr c31
            subst c31
            have H1 : (some false) = some true := by rw [if_neg (show ¬ (false = true) by decide)] at H; exact H
            clear H
            have H := H1
            clear H1
            exact absurd H (by simp)
        · replace c28 := Bool.eq_false_iff.mpr c28
          subst c28
          have H1 : (some false) = some true := by rw [if_neg (show ¬ (false = true) by decide)] at H; exact H
          clear H
          have H := H1
          clear H1
          exact absurd H (by simp)

def ok53 (x : S53) : Prop := (x.f0.size ≤ maxLen) ∧ ((Lit.int .i64 x.f1).wf = true) ∧ ((Lit.int .i64 x.f2).wf = true)
def ok78 (x : S78) : Prop := ((Lit.int .i64 x.f0).wf = true) ∧ ((Lit.int .i64 x.f1).wf = true) ∧ (x.f2.length ≤ maxLen ∧ ∀ y0 ∈ x.f2, (Lit.int .i64 y0).wf = true) ∧ (x.f3.length ≤ maxLen ∧ ∀ y0 ∈ x.f3, (Lit.int .i64 y0).wf = true)
def ok42 (x : S42) : Prop := (x.f0.size ≤ maxLen) ∧ (x.f1.size ≤ maxLen) ∧ (x.f2.length ≤ maxLen ∧ ∀ y0 ∈ x.f2, (Lit.int .u8 y0).wf = true)
def ok80 (x : S80) : Prop := (x.f0.size ≤ maxLen) ∧ ((Lit.int .i64 x.f1).wf = true) ∧ ((Lit.int .i64 x.f2).wf = true) ∧ ((Lit.int .i64 x.f3).wf = true) ∧ ((Lit.int .i64 x.f4).wf = true) ∧ (x.f5.length ≤ maxLen ∧ ∀ y0 ∈ x.f5, ok53 y0) ∧ (ok78 x.f6) ∧ (x.f7.length ≤ maxLen ∧ ∀ y0 ∈ x.f7, ok42 y0)
def ok67 (x : S67) : Prop := (x.f0.length ≤ maxLen ∧ ∀ y0 ∈ x.f0, ok80 y0)
/-- THE ONE PURE STATEMENT of laws_FnExactBookSame. -/
def laws_FnExactBookSame.Pure : Prop := ∀ (s0 : S67) (s1 : S67), (ok67 s0) → (ok67 s1) → ∃ k, laws_FnExactBookSame.f k s0.f0 s1.f0 = some true

end Go.Proofs.Ytcojjdfbdgpajaa.QFnExactBookSame
