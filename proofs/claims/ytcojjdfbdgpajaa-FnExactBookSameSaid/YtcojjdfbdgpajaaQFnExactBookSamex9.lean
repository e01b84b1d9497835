-- by my own printer (myprint.py, over the kit's print.py)
import Derived.Test.YtcojjdfbdgpajaaQFnExactBookSamex0
import Derived.Test.YtcojjdfbdgpajaaQFnExactBookSamex1
import Derived.Test.YtcojjdfbdgpajaaQFnExactBookSamex7
import Derived.Test.YtcojjdfbdgpajaaQFnExactBookSamex8
namespace Go.Proofs.Ytcojjdfbdgpajaa.QFnExactBookSame
open Go.RowKit Go.Proofs.YtcojjdfbdgpajaaW.PrintWords Go.Proofs.YtcojjdfbdgpajaaW.PrintLast Go.Proofs.YtcojjdfbdgpajaaW.PrintMore
attribute [local go_sem] max2_int min2_int max_two min_two max_three min_three max_four min_four   -- for this text's walks alone
set_option linter.unusedVariables false
set_option linter.unusedSimpArgs false

attribute [local go_sem] my_geq my_leq my_gtr
attribute [local go_sem high] eqA60
/-! ### spec_AcctSame: function 50 -/
mutual
def spec_AcctSame.j0 : Nat → Bool → ByteArray → Int → Int → Int → Int → List (S60) → Int → Int → List Int → List Int → List (S46) → ByteArray → Int → Int → Int → Int → List (S60) → Int → Int → List Int → List Int → List (S46) → Option (Bool)
  | 0, _, _, _, _, _, _, _, _, _, _, _, _, _, _, _, _, _, _, _, _, _, _, _ => none
  | k + 1, x48, x254000, x254001, x254002, x254003, x254004, x254005, x254006, x254007, x254008, x254009, x254010, x255000, x255001, x255002, x255003, x255004, x255005, x255006, x255007, x255008, x255009, x255010 => if x48 = true then (some false) else (spec_AcctSame.l0 k x254005 (x254005.length : Int) 0 x254000 x254001 x254002 x254003 x254004 x254005 x254006 x254007 x254008 x254009 x254010 x255000 x255001 x255002 x255003 x255004 x255005 x255006 x255007 x255008 x255009 x255010)
def spec_AcctSame.l0 : Nat → List (S60) → Int → Int → ByteArray → Int → Int → Int → Int → List (S60) → Int → Int → List Int → List Int → List (S46) → ByteArray → Int → Int → Int → Int → List (S60) → Int → Int → List Int → List Int → List (S46) → Option (Bool)
  | 0, _, _, _, _, _, _, _, _, _, _, _, _, _, _, _, _, _, _, _, _, _, _, _, _, _ => none
  | k + 1, x50, x51, x52, x254000, x254001, x254002, x254003, x254004, x254005, x254006, x254007, x254008, x254009, x254010, x255000, x255001, x255002, x255003, x255004, x255005, x255006, x255007, x255008, x255009, x255010 => if x52 < x51 then (if 0 ≤ x52 then (if x52 < (x50.length : Int) then (if x52 < (x255005.length : Int) then (if (!((((rd_T60 x50 x52).f0).toList) == (((rd_T60 x255005 x52).f0).toList)) || (!(((rd_T60 x50 x52).f1) == ((rd_T60 x255005 x52).f1)) || (!(((rd_T60 x50 x52).f2) == ((rd_T60 x255005 x52).f2))))) = true then (some false) else (spec_AcctSame.l0 k x50 x51 (wrap64 (x52 + 1)) x254000 x254001 x254002 x254003 x254004 x254005 x254006 x254007 x254008 x254009 x254010 x255000 x255001 x255002 x255003 x255004 x255005 x255006 x255007 x255008 x255009 x255010)) else (none)) else (none)) else (none)) else ((spec_l06Same.f k x254006 x254007 x254008 x254009 x255006 x255007 x255008 x255009).bind fun t258 => (if t258 = true then ((spec_SlotsSame.f k x254010 x255010).bind fun t259 => (some t259)) else (some false)))
end
def spec_AcctSame.f (k : Nat) (a0_0 : ByteArray) (a0_1 : Int) (a0_2 : Int) (a0_3 : Int) (a0_4 : Int) (l0_5 : List (S60)) (a0_6 : Int) (a0_7 : Int) (l0_8 : List Int) (l0_9 : List Int) (l0_10 : List (S46)) (a1_0 : ByteArray) (a1_1 : Int) (a1_2 : Int) (a1_3 : Int) (a1_4 : Int) (l1_5 : List (S60)) (a1_6 : Int) (a1_7 : Int) (l1_8 : List Int) (l1_9 : List Int) (l1_10 : List (S46)) : Option (Bool) := if a0_0.toList = a1_0.toList then (if a0_1 = a1_1 then (if a0_2 = a1_2 then (if a0_3 = a1_3 then (if a0_4 = a1_4 then (spec_AcctSame.j0 k ((l0_5.length : Int) != (l1_5.length : Int)) a0_0 a0_1 a0_2 a0_3 a0_4 l0_5 a0_6 a0_7 l0_8 l0_9 l0_10 a1_0 a1_1 a1_2 a1_3 a1_4 l1_5 a1_6 a1_7 l1_8 l1_9 l1_10) else (spec_AcctSame.j0 k true a0_0 a0_1 a0_2 a0_3 a0_4 l0_5 a0_6 a0_7 l0_8 l0_9 l0_10 a1_0 a1_1 a1_2 a1_3 a1_4 l1_5 a1_6 a1_7 l1_8 l1_9 l1_10)) else (spec_AcctSame.j0 k true a0_0 a0_1 a0_2 a0_3 a0_4 l0_5 a0_6 a0_7 l0_8 l0_9 l0_10 a1_0 a1_1 a1_2 a1_3 a1_4 l1_5 a1_6 a1_7 l1_8 l1_9 l1_10)) else (spec_AcctSame.j0 k true a0_0 a0_1 a0_2 a0_3 a0_4 l0_5 a0_6 a0_7 l0_8 l0_9 l0_10 a1_0 a1_1 a1_2 a1_3 a1_4 l1_5 a1_6 a1_7 l1_8 l1_9 l1_10)) else (spec_AcctSame.j0 k true a0_0 a0_1 a0_2 a0_3 a0_4 l0_5 a0_6 a0_7 l0_8 l0_9 l0_10 a1_0 a1_1 a1_2 a1_3 a1_4 l1_5 a1_6 a1_7 l1_8 l1_9 l1_10)) else (spec_AcctSame.j0 k true a0_0 a0_1 a0_2 a0_3 a0_4 l0_5 a0_6 a0_7 l0_8 l0_9 l0_10 a1_0 a1_1 a1_2 a1_3 a1_4 l1_5 a1_6 a1_7 l1_8 l1_9 l1_10)
theorem spec_AcctSame.mono_l : ∀ k, (∀ y0 y1 y2 y3 y4 y5 y6 y7 y8 y9 y10 y11 y12 y13 y14 y15 y16 y17 y18 y19 y20 y21 y22, LeO (spec_AcctSame.j0 k y0 y1 y2 y3 y4 y5 y6 y7 y8 y9 y10 y11 y12 y13 y14 y15 y16 y17 y18 y19 y20 y21 y22) (spec_AcctSame.j0 (k + 1) y0 y1 y2 y3 y4 y5 y6 y7 y8 y9 y10 y11 y12 y13 y14 y15 y16 y17 y18 y19 y20 y21 y22)) ∧ (∀ y0 y1 y2 y3 y4 y5 y6 y7 y8 y9 y10 y11 y12 y13 y14 y15 y16 y17 y18 y19 y20 y21 y22 y23 y24, LeO (spec_AcctSame.l0 k y0 y1 y2 y3 y4 y5 y6 y7 y8 y9 y10 y11 y12 y13 y14 y15 y16 y17 y18 y19 y20 y21 y22 y23 y24) (spec_AcctSame.l0 (k + 1) y0 y1 y2 y3 y4 y5 y6 y7 y8 y9 y10 y11 y12 y13 y14 y15 y16 y17 y18 y19 y20 y21 y22 y23 y24))
  | 0 => ⟨fun _ _ _ _ _ _ _ _ _ _ _ _ _ _ _ _ _ _ _ _ _ _ _ r h => by simp [spec_AcctSame.j0] at h, fun _ _ _ _ _ _ _ _ _ _ _ _ _ _ _ _ _ _ _ _ _ _ _ _ _ r h => by simp [spec_AcctSame.l0] at h⟩
  | k + 1 => by
    obtain ⟨ih0, ih1⟩ := spec_AcctSame.mono_l k
    refine ⟨?_, ?_⟩
    · intro y0 y1 y2 y3 y4 y5 y6 y7 y8 y9 y10 y11 y12 y13 y14 y15 y16 y17 y18 y19 y20 y21 y22
      unfold spec_AcctSame.j0
      repeat' first
      | (with_reducible exact ih0 _ _ _ _ _ _ _ _ _ _ _ _ _ _ _ _ _ _ _ _ _ _ _)
      | (with_reducible exact ih1 _ _ _ _ _ _ _ _ _ _ _ _ _ _ _ _ _ _ _ _ _ _ _ _ _)
      | (with_reducible exact spec_SlotsSame.mono _ _ _)
      | (with_reducible exact spec_l06Same.mono _ _ _ _ _ _ _ _ _)
      | (with_reducible exact LeO.refl _)
      | (with_reducible exact LeO.none _)
      | (with_reducible refine LeO.ite ?_ ?_)
      | (with_reducible refine LeO.bind ?_ (fun _ => ?_))
      | exact ih0 _ _ _ _ _ _ _ _ _ _ _ _ _ _ _ _ _ _ _ _ _ _ _
      | exact ih1 _ _ _ _ _ _ _ _ _ _ _ _ _ _ _ _ _ _ _ _ _ _ _ _ _
      | exact spec_SlotsSame.mono _ _ _
      | exact spec_l06Same.mono _ _ _ _ _ _ _ _ _
      | exact LeO.none _
      | refine LeO.ite ?_ ?_
      | refine LeO.bind ?_ (fun _ => ?_)
    · intro y0 y1 y2 y3 y4 y5 y6 y7 y8 y9 y10 y11 y12 y13 y14 y15 y16 y17 y18 y19 y20 y21 y22 y23 y24
      unfold spec_AcctSame.l0
      repeat' first
      | (with_reducible exact ih0 _ _ _ _ _ _ _ _ _ _ _ _ _ _ _ _ _ _ _ _ _ _ _)
      | (with_reducible exact ih1 _ _ _ _ _ _ _ _ _ _ _ _ _ _ _ _ _ _ _ _ _ _ _ _ _)
      | (with_reducible exact spec_SlotsSame.mono _ _ _)
      | (with_reducible exact spec_l06Same.mono _ _ _ _ _ _ _ _ _)
      | (with_reducible exact LeO.refl _)
      | (with_reducible exact LeO.none _)
      | (with_reducible refine LeO.ite ?_ ?_)
      | (with_reducible refine LeO.bind ?_ (fun _ => ?_))
      | exact ih0 _ _ _ _ _ _ _ _ _ _ _ _ _ _ _ _ _ _ _ _ _ _ _
      | exact ih1 _ _ _ _ _ _ _ _ _ _ _ _ _ _ _ _ _ _ _ _ _ _ _ _ _
      | exact spec_SlotsSame.mono _ _ _
      | exact spec_l06Same.mono _ _ _ _ _ _ _ _ _
      | exact LeO.none _
      | refine LeO.ite ?_ ?_
      | refine LeO.bind ?_ (fun _ => ?_)
theorem spec_AcctSame.mono : ∀ a0 a1 a2 a3 a4 a5 a6 a7 a8 a9 a10 a11 a12 a13 a14 a15 a16 a17 a18 a19 a20 a21 k, LeO (spec_AcctSame.f k a0 a1 a2 a3 a4 a5 a6 a7 a8 a9 a10 a11 a12 a13 a14 a15 a16 a17 a18 a19 a20 a21) (spec_AcctSame.f (k + 1) a0 a1 a2 a3 a4 a5 a6 a7 a8 a9 a10 a11 a12 a13 a14 a15 a16 a17 a18 a19 a20 a21) := by
  intro a0 a1 a2 a3 a4 a5 a6 a7 a8 a9 a10 a11 a12 a13 a14 a15 a16 a17 a18 a19 a20 a21 k
  obtain ⟨ih0, ih1⟩ := spec_AcctSame.mono_l k
  unfold spec_AcctSame.f
  repeat' first
      | (with_reducible exact ih0 _ _ _ _ _ _ _ _ _ _ _ _ _ _ _ _ _ _ _ _ _ _ _)
      | (with_reducible exact ih1 _ _ _ _ _ _ _ _ _ _ _ _ _ _ _ _ _ _ _ _ _ _ _ _ _)
      | (with_reducible exact spec_SlotsSame.mono _ _ _)
      | (with_reducible exact spec_l06Same.mono _ _ _ _ _ _ _ _ _)
      | (with_reducible exact LeO.refl _)
      | (with_reducible exact LeO.none _)
      | (with_reducible refine LeO.ite ?_ ?_)
      | (with_reducible refine LeO.bind ?_ (fun _ => ?_))
      | exact ih0 _ _ _ _ _ _ _ _ _ _ _ _ _ _ _ _ _ _ _ _ _ _ _
      | exact ih1 _ _ _ _ _ _ _ _ _ _ _ _ _ _ _ _ _ _ _ _ _ _ _ _ _
      | exact spec_SlotsSame.mono _ _ _
      | exact spec_l06Same.mono _ _ _ _ _ _ _ _ _
      | exact LeO.none _
      | refine LeO.ite ?_ ?_
      | refine LeO.bind ?_ (fun _ => ?_)
set_option maxHeartbeats 8000000 in
set_option maxRecDepth 100000 in
theorem spec_AcctSame.calls (k : Nat) (a0_0 : ByteArray) (a0_1 : Int) (a0_2 : Int) (a0_3 : Int) (a0_4 : Int) (A0_5 : Option Addr) (c0_5 : Nat) (l0_5 : List (S60)) (a0_6 : Int) (a0_7 : Int) (A0_8 : Option Addr) (c0_8 : Nat) (l0_8 : List Int) (A0_9 : Option Addr) (c0_9 : Nat) (l0_9 : List Int) (A0_10 : Option Addr) (c0_10 : Nat) (l0_10 : List (S46)) (a1_0 : ByteArray) (a1_1 : Int) (a1_2 : Int) (a1_3 : Int) (a1_4 : Int) (A1_5 : Option Addr) (c1_5 : Nat) (l1_5 : List (S60)) (a1_6 : Int) (a1_7 : Int) (A1_8 : Option Addr) (c1_8 : Nat) (l1_8 : List Int) (A1_9 : Option Addr) (c1_9 : Nat) (l1_9 : List Int) (A1_10 : Option Addr) (c1_10 : Nat) (l1_10 : List (S46)) (r : Bool) (w : World) (hr0_5 : Kd.C k60 w A0_5 l0_5.length l0_5) (hc0_5 : l0_5.length ≤ c0_5) (hr0_8 : Kd.C (Kd.int .i64) w A0_8 l0_8.length l0_8) (hc0_8 : l0_8.length ≤ c0_8) (hr0_9 : Kd.C (Kd.int .i64) w A0_9 l0_9.length l0_9) (hc0_9 : l0_9.length ≤ c0_9) (hr0_10 : Kd.C k46 w A0_10 l0_10.length l0_10) (hc0_10 : l0_10.length ≤ c0_10) (hr1_5 : Kd.C k60 w A1_5 l1_5.length l1_5) (hc1_5 : l1_5.length ≤ c1_5) (hr1_8 : Kd.C (Kd.int .i64) w A1_8 l1_8.length l1_8) (hc1_8 : l1_8.length ≤ c1_8) (hr1_9 : Kd.C (Kd.int .i64) w A1_9 l1_9.length l1_9) (hc1_9 : l1_9.length ≤ c1_9) (hr1_10 : Kd.C k46 w A1_10 l1_10.length l1_10) (hc1_10 : l1_10.length ≤ c1_10) (h : spec_AcctSame.f k a0_0 a0_1 a0_2 a0_3 a0_4 l0_5 a0_6 a0_7 l0_8 l0_9 l0_10 a1_0 a1_1 a1_2 a1_3 a1_4 l1_5 a1_6 a1_7 l1_8 l1_9 l1_10 = some r) :
    Calls Try.prog 50 #[.agg #[.string a0_0, .int .i64 a0_1, .int .i64 a0_2, .int .i64 a0_3, .int .i64 a0_4, .slice A0_5 l0_5.length c0_5, .int .i64 a0_6, .int .i64 a0_7, .slice A0_8 l0_8.length c0_8, .slice A0_9 l0_9.length c0_9, .slice A0_10 l0_10.length c0_10], .agg #[.string a1_0, .int .i64 a1_1, .int .i64 a1_2, .int .i64 a1_3, .int .i64 a1_4, .slice A1_5 l1_5.length c1_5, .int .i64 a1_6, .int .i64 a1_7, .slice A1_8 l1_8.length c1_8, .slice A1_9 l1_9.length c1_9, .slice A1_10 l1_10.length c1_10]] w fun e w' => e = .returned (.bool r) ∧ Below w.heap.size w w' := by
  have hu85 := Try.underlying85
  have hu60 := Try.underlying60
  have hu83 := Try.underlying83
  have HR0_5 := Aside0.mk hr0_5
  have HC0_5 := Aside0.mk hc0_5
  clear hr0_5 hc0_5
  have HR0_8 := Aside0.mk hr0_8
  have HC0_8 := Aside0.mk hc0_8
  clear hr0_8 hc0_8
  have HR0_9 := Aside0.mk hr0_9
  have HC0_9 := Aside0.mk hc0_9
  clear hr0_9 hc0_9
  have HR0_10 := Aside0.mk hr0_10
  have HC0_10 := Aside0.mk hc0_10
  clear hr0_10 hc0_10
  have HR1_5 := Aside0.mk hr1_5
  have HC1_5 := Aside0.mk hc1_5
  clear hr1_5 hc1_5
  have HR1_8 := Aside0.mk hr1_8
  have HC1_8 := Aside0.mk hc1_8
  clear hr1_8 hc1_8
  have HR1_9 := Aside0.mk hr1_9
  have HC1_9 := Aside0.mk hc1_9
  clear hr1_9 hc1_9
  have HR1_10 := Aside0.mk hr1_10
  have HC1_10 := Aside0.mk hc1_10
  clear hr1_10 hc1_10
  have HB := Aside0.mk (Below.refl w.heap.size w)
  have H : (if a0_0.toList = a1_0.toList then (if a0_1 = a1_1 then (if a0_2 = a1_2 then (if a0_3 = a1_3 then (if a0_4 = a1_4 then (spec_AcctSame.j0 k ((l0_5.length : Int) != (l1_5.length : Int)) a0_0 a0_1 a0_2 a0_3 a0_4 l0_5 a0_6 a0_7 l0_8 l0_9 l0_10 a1_0 a1_1 a1_2 a1_3 a1_4 l1_5 a1_6 a1_7 l1_8 l1_9 l1_10) else (spec_AcctSame.j0 k true a0_0 a0_1 a0_2 a0_3 a0_4 l0_5 a0_6 a0_7 l0_8 l0_9 l0_10 a1_0 a1_1 a1_2 a1_3 a1_4 l1_5 a1_6 a1_7 l1_8 l1_9 l1_10)) else (spec_AcctSame.j0 k true a0_0 a0_1 a0_2 a0_3 a0_4 l0_5 a0_6 a0_7 l0_8 l0_9 l0_10 a1_0 a1_1 a1_2 a1_3 a1_4 l1_5 a1_6 a1_7 l1_8 l1_9 l1_10)) else (spec_AcctSame.j0 k true a0_0 a0_1 a0_2 a0_3 a0_4 l0_5 a0_6 a0_7 l0_8 l0_9 l0_10 a1_0 a1_1 a1_2 a1_3 a1_4 l1_5 a1_6 a1_7 l1_8 l1_9 l1_10)) else (spec_AcctSame.j0 k true a0_0 a0_1 a0_2 a0_3 a0_4 l0_5 a0_6 a0_7 l0_8 l0_9 l0_10 a1_0 a1_1 a1_2 a1_3 a1_4 l1_5 a1_6 a1_7 l1_8 l1_9 l1_10)) else (spec_AcctSame.j0 k true a0_0 a0_1 a0_2 a0_3 a0_4 l0_5 a0_6 a0_7 l0_8 l0_9 l0_10 a1_0 a1_1 a1_2 a1_3 a1_4 l1_5 a1_6 a1_7 l1_8 l1_9 l1_10)) = some r := h
  clear h
  have HC3 := Aside0.mk H
  clear H
  go_enter Try.func50, Try.ntmps50
  go_upto_region 1 with (first | ((with_reducible refine gate_dst (N := 2) rfl ?_); (try (refine gate_guard (by rfl) ?_; dsimp only)); refine box_event ?hg (N := 2) ?hd (cs := #[.string a0_0, .int .i64 a0_1, .int .i64 a0_2, .int .i64 a0_3, .int .i64 a0_4, .slice A0_5 l0_5.length c0_5, .int .i64 a0_6, .int .i64 a0_7, .slice A0_8 l0_8.length c0_8, .slice A0_9 l0_9.length c0_9, .slice A0_10 l0_10.length c0_10]) (t := 85) ?hr ?_; (case hd => rfl); (case hg => rfl); (case hr => first | (go_simp; done) | (go_simp; rfl)); intro gb253 hg w4 hbox hb; have n0_ := Aside0.mk (below_step bl_ hb); have n1_ := Aside0.mk (hbox); have n2_ := Aside0.mk ((by rw [hg]; exact (below_size bl_) : w.heap.size ≤ gb253)); have n3_ := Aside0.mk ((by rw [hg]; exact (below_size bl_) : w.heap.size ≤ gb253)); clear HB; have HB := n0_; have BK253 := n1_; have GW253 := n2_; have GE253 := n3_; clear n0_ n1_ n2_ n3_; clear hb hbox hg) | ((with_reducible refine gate_dst (N := 3) rfl ?_); (try (refine gate_guard (by rfl) ?_; dsimp only)); refine box_event ?hg (N := 3) ?hd (cs := #[.string a1_0, .int .i64 a1_1, .int .i64 a1_2, .int .i64 a1_3, .int .i64 a1_4, .slice A1_5 l1_5.length c1_5, .int .i64 a1_6, .int .i64 a1_7, .slice A1_8 l1_8.length c1_8, .slice A1_9 l1_9.length c1_9, .slice A1_10 l1_10.length c1_10]) (t := 85) ?hr ?_; (case hd => rfl); (case hg => rfl); (case hr => first | (go_simp; done) | (go_simp; rfl)); intro gb254 hg w5 hbox hb; have n0_ := Aside0.mk (blk_below (bk_ BK253) hb); have n1_ := Aside0.mk (below_step bl_ hb); have n2_ := Aside0.mk (hbox); have n3_ := Aside0.mk ((by rw [hg]; exact (below_size bl_) : w.heap.size ≤ gb254)); have n4_ := Aside0.mk ((by rw [hg]; exact (below_size bl_) : w.heap.size ≤ gb254)); have n5_ := Aside0.mk ((by rw [hg]; exact Nat.ne_of_lt (blk_lt (bk_ BK253)) : gb253 ≠ gb254)); have n6_ := Aside0.mk ((by rw [hg]; exact Nat.ne_of_gt (blk_lt (bk_ BK253)) : gb254 ≠ gb253)); clear BK253; clear HB; have BK253 := n0_; have HB := n1_; have BK254 := n2_; have GW254 := n3_; have GE254 := n4_; have NB253_254 := n5_; have NB254_253 := n6_; clear n0_ n1_ n2_ n3_ n4_ n5_ n6_; clear hb hbox hg))
  repeat (go_quiet (first | ((with_reducible refine gate_dst (N := 2) rfl ?_); (try (refine gate_guard (by rfl) ?_; dsimp only)); refine box_event ?hg (N := 2) ?hd (cs := #[.string a0_0, .int .i64 a0_1, .int .i64 a0_2, .int .i64 a0_3, .int .i64 a0_4, .slice A0_5 l0_5.length c0_5, .int .i64 a0_6, .int .i64 a0_7, .slice A0_8 l0_8.length c0_8, .slice A0_9 l0_9.length c0_9, .slice A0_10 l0_10.length c0_10]) (t := 85) ?hr ?_; (case hd => rfl); (case hg => rfl); (case hr => first | (go_simp; done) | (go_simp; rfl)); intro gb253 hg w4 hbox hb; have n0_ := Aside0.mk (below_step bl_ hb); have n1_ := Aside0.mk (hbox); have n2_ := Aside0.mk ((by rw [hg]; exact (below_size bl_) : w.heap.size ≤ gb253)); have n3_ := Aside0.mk ((by rw [hg]; exact (below_size bl_) : w.heap.size ≤ gb253)); clear HB; have HB := n0_; have BK253 := n1_; have GW253 := n2_; have GE253 := n3_; clear n0_ n1_ n2_ n3_; clear hb hbox hg) | ((with_reducible refine gate_dst (N := 3) rfl ?_); (try (refine gate_guard (by rfl) ?_; dsimp only)); refine box_event ?hg (N := 3) ?hd (cs := #[.string a1_0, .int .i64 a1_1, .int .i64 a1_2, .int .i64 a1_3, .int .i64 a1_4, .slice A1_5 l1_5.length c1_5, .int .i64 a1_6, .int .i64 a1_7, .slice A1_8 l1_8.length c1_8, .slice A1_9 l1_9.length c1_9, .slice A1_10 l1_10.length c1_10]) (t := 85) ?hr ?_; (case hd => rfl); (case hg => rfl); (case hr => first | (go_simp; done) | (go_simp; rfl)); intro gb254 hg w5 hbox hb; have n0_ := Aside0.mk (blk_below (bk_ BK253) hb); have n1_ := Aside0.mk (below_step bl_ hb); have n2_ := Aside0.mk (hbox); have n3_ := Aside0.mk ((by rw [hg]; exact (below_size bl_) : w.heap.size ≤ gb254)); have n4_ := Aside0.mk ((by rw [hg]; exact (below_size bl_) : w.heap.size ≤ gb254)); have n5_ := Aside0.mk ((by rw [hg]; exact Nat.ne_of_lt (blk_lt (bk_ BK253)) : gb253 ≠ gb254)); have n6_ := Aside0.mk ((by rw [hg]; exact Nat.ne_of_gt (blk_lt (bk_ BK253)) : gb254 ≠ gb253)); clear BK253; clear HB; have BK253 := n0_; have HB := n1_; have BK254 := n2_; have GW254 := n3_; have GE254 := n4_; have NB253_254 := n5_; have NB254_253 := n6_; clear n0_ n1_ n2_ n3_ n4_ n5_ n6_; clear hb hbox hg)); go_upto_region 1 with (first | ((with_reducible refine gate_dst (N := 2) rfl ?_); (try (refine gate_guard (by rfl) ?_; dsimp only)); refine box_event ?hg (N := 2) ?hd (cs := #[.string a0_0, .int .i64 a0_1, .int .i64 a0_2, .int .i64 a0_3, .int .i64 a0_4, .slice A0_5 l0_5.length c0_5, .int .i64 a0_6, .int .i64 a0_7, .slice A0_8 l0_8.length c0_8, .slice A0_9 l0_9.length c0_9, .slice A0_10 l0_10.length c0_10]) (t := 85) ?hr ?_; (case hd => rfl); (case hg => rfl); (case hr => first | (go_simp; done) | (go_simp; rfl)); intro gb253 hg w4 hbox hb; have n0_ := Aside0.mk (below_step bl_ hb); have n1_ := Aside0.mk (hbox); have n2_ := Aside0.mk ((by rw [hg]; exact (below_size bl_) : w.heap.size ≤ gb253)); have n3_ := Aside0.mk ((by rw [hg]; exact (below_size bl_) : w.heap.size ≤ gb253)); clear HB; have HB := n0_; have BK253 := n1_; have GW253 := n2_; have GE253 := n3_; clear n0_ n1_ n2_ n3_; clear hb hbox hg) | ((with_reducible refine gate_dst (N := 3) rfl ?_); (try (refine gate_guard (by rfl) ?_; dsimp only)); refine box_event ?hg (N := 3) ?hd (cs := #[.string a1_0, .int .i64 a1_1, .int .i64 a1_2, .int .i64 a1_3, .int .i64 a1_4, .slice A1_5 l1_5.length c1_5, .int .i64 a1_6, .int .i64 a1_7, .slice A1_8 l1_8.length c1_8, .slice A1_9 l1_9.length c1_9, .slice A1_10 l1_10.length c1_10]) (t := 85) ?hr ?_; (case hd => rfl); (case hg => rfl); (case hr => first | (go_simp; done) | (go_simp; rfl)); intro gb254 hg w5 hbox hb; have n0_ := Aside0.mk (blk_below (bk_ BK253) hb); have n1_ := Aside0.mk (below_step bl_ hb); have n2_ := Aside0.mk (hbox); have n3_ := Aside0.mk ((by rw [hg]; exact (below_size bl_) : w.heap.size ≤ gb254)); have n4_ := Aside0.mk ((by rw [hg]; exact (below_size bl_) : w.heap.size ≤ gb254)); have n5_ := Aside0.mk ((by rw [hg]; exact Nat.ne_of_lt (blk_lt (bk_ BK253)) : gb253 ≠ gb254)); have n6_ := Aside0.mk ((by rw [hg]; exact Nat.ne_of_gt (blk_lt (bk_ BK253)) : gb254 ≠ gb253)); clear BK253; clear HB; have BK253 := n0_; have HB := n1_; have BK254 := n2_; have GW254 := n3_; have GE254 := n4_; have NB253_254 := n5_; have NB254_253 := n6_; clear n0_ n1_ n2_ n3_ n4_ n5_ n6_; clear hb hbox hg)))
  (try simp only [Act.put, List.setIfInBounds_toArray, List.set_cons_zero, List.set_cons_succ])
  go_cut [48] (fun v48 wc => ∃ (kq : Nat) (x48_2 : Bool), v48 = .bool x48_2 ∧ Aside0 (spec_AcctSame.j0 kq x48_2 a0_0 a0_1 a0_2 a0_3 a0_4 l0_5 a0_6 a0_7 l0_8 l0_9 l0_10 a1_0 a1_1 a1_2 a1_3 a1_4 l1_5 a1_6 a1_7 l1_8 l1_9 l1_10 = some r) ∧ Aside0 (kq ≤ k) ∧ Aside0 (wc.heap[gb253]? = some (.cells #[.string a0_0, .int .i64 a0_1, .int .i64 a0_2, .int .i64 a0_3, .int .i64 a0_4, (.slice A0_5 l0_5.length c0_5), .int .i64 a0_6, .int .i64 a0_7, (.slice A0_8 l0_8.length c0_8), (.slice A0_9 l0_9.length c0_9), (.slice A0_10 l0_10.length c0_10)] 85 (0, 0))) ∧ Aside0 (wc.heap[gb254]? = some (.cells #[.string a1_0, .int .i64 a1_1, .int .i64 a1_2, .int .i64 a1_3, .int .i64 a1_4, (.slice A1_5 l1_5.length c1_5), .int .i64 a1_6, .int .i64 a1_7, (.slice A1_8 l1_8.length c1_8), (.slice A1_9 l1_9.length c1_9), (.slice A1_10 l1_10.length c1_10)] 85 (0, 0))) ∧ Aside0 (Below w.heap.size w wc))
  case first =>
    have H := HC3.out
    clear HC3
    by_cases c6 : a0_0.toList = a1_0.toList
    · rw [if_pos c6] at H
      have c6b0 : (a0_0.toList == a1_0.toList) = true := beq_iff_eq.mpr c6
      have c6b1 : (a0_0.toList != a1_0.toList) = false := bne_eq_false_iff_eq.mpr c6
      clear c6
      (first | rw [c6b0] | (simp only [i64_w, i32_w]; rw [c6b0]) | skip)
      by_cases c7 : a0_1 = a1_1
      · rw [if_pos c7] at H
        have c7b0 : (a0_1 == a1_1) = true := beq_iff_eq.mpr c7
        have c7b1 : (a0_1 != a1_1) = false := bne_eq_false_iff_eq.mpr c7
        clear c7
        by_cases c8 : a0_2 = a1_2
        · rw [if_pos c8] at H
          have c8b0 : (a0_2 == a1_2) = true := beq_iff_eq.mpr c8
          have c8b1 : (a0_2 != a1_2) = false := bne_eq_false_iff_eq.mpr c8
          clear c8
          by_cases c9 : a0_3 = a1_3
          · rw [if_pos c9] at H
            have c9b0 : (a0_3 == a1_3) = true := beq_iff_eq.mpr c9
            have c9b1 : (a0_3 != a1_3) = false := bne_eq_false_iff_eq.mpr c9
            clear c9
            by_cases c10 : a0_4 = a1_4
            · rw [if_pos c10] at H
              have c10b0 : (a0_4 == a1_4) = true := beq_iff_eq.mpr c10
              have c10b1 : (a0_4 != a1_4) = false := bne_eq_false_iff_eq.mpr c10
              clear c10
              have H' := Aside0.mk H
              clear H
              have hnb11 := NB253_254.out
              have hnc11 := NB254_253.out
              have hcz12_0 := cz_ BK253 0 (.string a0_0)
              have hcz12_1 := cz_ BK253 1 (.int .i64 a0_1)
              have hcz12_2 := cz_ BK253 2 (.int .i64 a0_2)
              have hcz12_3 := cz_ BK253 3 (.int .i64 a0_3)
              have hcz12_4 := cz_ BK253 4 (.int .i64 a0_4)
              have hcz12_5 := cz_ BK253 5 (.slice A0_5 l0_5.length c0_5)
              have hcz12_6 := cz_ BK253 6 (.int .i64 a0_6)
              have hcz12_7 := cz_ BK253 7 (.int .i64 a0_7)
              have hcz12_8 := cz_ BK253 8 (.slice A0_8 l0_8.length c0_8)
              have hcz12_9 := cz_ BK253 9 (.slice A0_9 l0_9.length c0_9)
              have hcz12_10 := cz_ BK253 10 (.slice A0_10 l0_10.length c0_10)
              have hfz12_0 := fz_ BK253 0
              have hfz12_1 := fz_ BK253 1
              have hfz12_2 := fz_ BK253 2
              have hfz12_3 := fz_ BK253 3
              have hfz12_4 := fz_ BK253 4
              have hfz12_5 := fz_ BK253 5
              have hfz12_6 := fz_ BK253 6
              have hfz12_7 := fz_ BK253 7
              have hfz12_8 := fz_ BK253 8
              have hfz12_9 := fz_ BK253 9
              have hfz12_10 := fz_ BK253 10
              have hcz13_0 := cz_ BK254 0 (.string a1_0)
              have hcz13_1 := cz_ BK254 1 (.int .i64 a1_1)
              have hcz13_2 := cz_ BK254 2 (.int .i64 a1_2)
              have hcz13_3 := cz_ BK254 3 (.int .i64 a1_3)
              have hcz13_4 := cz_ BK254 4 (.int .i64 a1_4)
              have hcz13_5 := cz_ BK254 5 (.slice A1_5 l1_5.length c1_5)
              have hcz13_6 := cz_ BK254 6 (.int .i64 a1_6)
              have hcz13_7 := cz_ BK254 7 (.int .i64 a1_7)
              have hcz13_8 := cz_ BK254 8 (.slice A1_8 l1_8.length c1_8)
              have hcz13_9 := cz_ BK254 9 (.slice A1_9 l1_9.length c1_9)
              have hcz13_10 := cz_ BK254 10 (.slice A1_10 l1_10.length c1_10)
              have hfz13_0 := fz_ BK254 0
              have hfz13_1 := fz_ BK254 1
              have hfz13_2 := fz_ BK254 2
              have hfz13_3 := fz_ BK254 3
              have hfz13_4 := fz_ BK254 4
              have hfz13_5 := fz_ BK254 5
              have hfz13_6 := fz_ BK254 6
              have hfz13_7 := fz_ BK254 7
              have hfz13_8 := fz_ BK254 8
              have hfz13_9 := fz_ BK254 9
              have hfz13_10 := fz_ BK254 10
              go_wp2
              repeat (go_quiet (fail); try go_wp2)
              go_meet
              case rel => exact ⟨_, (((l0_5.length : Int) != (l1_5.length : Int))), sp_, H', ⟨by first | omega | exact Nat.le_refl _⟩, ⟨by (with_reducible repeat (first | refine blk_drewN ?_ _ | refine blk_drew ?_ | refine blk_alloc ?_ _)); exact BK253.out⟩, ⟨by (with_reducible repeat (first | refine blk_drewN ?_ _ | refine blk_drew ?_ | refine blk_alloc ?_ _)); exact BK254.out⟩, ⟨bl_⟩⟩
            · rw [if_neg c10] at H
              have c10b0 : (a0_4 == a1_4) = false := beq_eq_false_iff_ne.mpr c10
              have c10b1 : (a0_4 != a1_4) = true := bne_iff_ne.mpr c10
              have H' := Aside0.mk H
              clear H
              have hnb14 := NB253_254.out
              have hnc14 := NB254_253.out
              have hcz15_0 := cz_ BK253 0 (.string a0_0)
              have hcz15_1 := cz_ BK253 1 (.int .i64 a0_1)
              have hcz15_2 := cz_ BK253 2 (.int .i64 a0_2)
              have hcz15_3 := cz_ BK253 3 (.int .i64 a0_3)
              have hcz15_4 := cz_ BK253 4 (.int .i64 a0_4)
              have hcz15_5 := cz_ BK253 5 (.slice A0_5 l0_5.length c0_5)
              have hcz15_6 := cz_ BK253 6 (.int .i64 a0_6)
              have hcz15_7 := cz_ BK253 7 (.int .i64 a0_7)
              have hcz15_8 := cz_ BK253 8 (.slice A0_8 l0_8.length c0_8)
              have hcz15_9 := cz_ BK253 9 (.slice A0_9 l0_9.length c0_9)
              have hcz15_10 := cz_ BK253 10 (.slice A0_10 l0_10.length c0_10)
              have hfz15_0 := fz_ BK253 0
              have hfz15_1 := fz_ BK253 1
              have hfz15_2 := fz_ BK253 2
              have hfz15_3 := fz_ BK253 3
              have hfz15_4 := fz_ BK253 4
              have hfz15_5 := fz_ BK253 5
              have hfz15_6 := fz_ BK253 6
              have hfz15_7 := fz_ BK253 7
              have hfz15_8 := fz_ BK253 8
              have hfz15_9 := fz_ BK253 9
              have hfz15_10 := fz_ BK253 10
              have hcz16_0 := cz_ BK254 0 (.string a1_0)
              have hcz16_1 := cz_ BK254 1 (.int .i64 a1_1)
              have hcz16_2 := cz_ BK254 2 (.int .i64 a1_2)
              have hcz16_3 := cz_ BK254 3 (.int .i64 a1_3)
              have hcz16_4 := cz_ BK254 4 (.int .i64 a1_4)
              have hcz16_5 := cz_ BK254 5 (.slice A1_5 l1_5.length c1_5)
              have hcz16_6 := cz_ BK254 6 (.int .i64 a1_6)
              have hcz16_7 := cz_ BK254 7 (.int .i64 a1_7)
              have hcz16_8 := cz_ BK254 8 (.slice A1_8 l1_8.length c1_8)
              have hcz16_9 := cz_ BK254 9 (.slice A1_9 l1_9.length c1_9)
              have hcz16_10 := cz_ BK254 10 (.slice A1_10 l1_10.length c1_10)
              have hfz16_0 := fz_ BK254 0
              have hfz16_1 := fz_ BK254 1
              have hfz16_2 := fz_ BK254 2
              have hfz16_3 := fz_ BK254 3
              have hfz16_4 := fz_ BK254 4
              have hfz16_5 := fz_ BK254 5
              have hfz16_6 := fz_ BK254 6
              have hfz16_7 := fz_ BK254 7
              have hfz16_8 := fz_ BK254 8
              have hfz16_9 := fz_ BK254 9
              have hfz16_10 := fz_ BK254 10
              go_wp2
              repeat (go_quiet (fail); try go_wp2)
              go_meet
              case rel => exact ⟨_, (true), sp_, H', ⟨by first | omega | exact Nat.le_refl _⟩, ⟨by (with_reducible repeat (first | refine blk_drewN ?_ _ | refine blk_drew ?_ | refine blk_alloc ?_ _)); exact BK253.out⟩, ⟨by (with_reducible repeat (first | refine blk_drewN ?_ _ | refine blk_drew ?_ | refine blk_alloc ?_ _)); exact BK254.out⟩, ⟨bl_⟩⟩
          · rw [if_neg c9] at H
            have c9b0 : (a0_3 == a1_3) = false := beq_eq_false_iff_ne.mpr c9
            have c9b1 : (a0_3 != a1_3) = true := bne_iff_ne.mpr c9
            have H' := Aside0.mk H
            clear H
            have hnb17 := NB253_254.out
            have hnc17 := NB254_253.out
            have hcz18_0 := cz_ BK253 0 (.string a0_0)
            have hcz18_1 := cz_ BK253 1 (.int .i64 a0_1)
            have hcz18_2 := cz_ BK253 2 (.int .i64 a0_2)
            have hcz18_3 := cz_ BK253 3 (.int .i64 a0_3)
            have hcz18_4 := cz_ BK253 4 (.int .i64 a0_4)
            have hcz18_5 := cz_ BK253 5 (.slice A0_5 l0_5.length c0_5)
            have hcz18_6 := cz_ BK253 6 (.int .i64 a0_6)
            have hcz18_7 := cz_ BK253 7 (.int .i64 a0_7)
            have hcz18_8 := cz_ BK253 8 (.slice A0_8 l0_8.length c0_8)
            have hcz18_9 := cz_ BK253 9 (.slice A0_9 l0_9.length c0_9)
            have hcz18_10 := cz_ BK253 10 (.slice A0_10 l0_10.length c0_10)
            have hfz18_0 := fz_ BK253 0
            have hfz18_1 := fz_ BK253 1
            have hfz18_2 := fz_ BK253 2
            have hfz18_3 := fz_ BK253 3
            have hfz18_4 := fz_ BK253 4
            have hfz18_5 := fz_ BK253 5
            have hfz18_6 := fz_ BK253 6
            have hfz18_7 := fz_ BK253 7
            have hfz18_8 := fz_ BK253 8
            have hfz18_9 := fz_ BK253 9
            have hfz18_10 := fz_ BK253 10
            have hcz19_0 := cz_ BK254 0 (.string a1_0)
            have hcz19_1 := cz_ BK254 1 (.int .i64 a1_1)
            have hcz19_2 := cz_ BK254 2 (.int .i64 a1_2)
            have hcz19_3 := cz_ BK254 3 (.int .i64 a1_3)
            have hcz19_4 := cz_ BK254 4 (.int .i64 a1_4)
            have hcz19_5 := cz_ BK254 5 (.slice A1_5 l1_5.length c1_5)
            have hcz19_6 := cz_ BK254 6 (.int .i64 a1_6)
            have hcz19_7 := cz_ BK254 7 (.int .i64 a1_7)
            have hcz19_8 := cz_ BK254 8 (.slice A1_8 l1_8.length c1_8)
            have hcz19_9 := cz_ BK254 9 (.slice A1_9 l1_9.length c1_9)
            have hcz19_10 := cz_ BK254 10 (.slice A1_10 l1_10.length c1_10)
            have hfz19_0 := fz_ BK254 0
            have hfz19_1 := fz_ BK254 1
            have hfz19_2 := fz_ BK254 2
            have hfz19_3 := fz_ BK254 3
            have hfz19_4 := fz_ BK254 4
            have hfz19_5 := fz_ BK254 5
            have hfz19_6 := fz_ BK254 6
            have hfz19_7 := fz_ BK254 7
            have hfz19_8 := fz_ BK254 8
            have hfz19_9 := fz_ BK254 9
            have hfz19_10 := fz_ BK254 10
            go_wp2
            repeat (go_quiet (fail); try go_wp2)
            go_meet
            case rel => exact ⟨_, (true), sp_, H', ⟨by first | omega | exact Nat.le_refl _⟩, ⟨by (with_reducible repeat (first | refine blk_drewN ?_ _ | refine blk_drew ?_ | refine blk_alloc ?_ _)); exact BK253.out⟩, ⟨by (with_reducible repeat (first | refine blk_drewN ?_ _ | refine blk_drew ?_ | refine blk_alloc ?_ _)); exact BK254.out⟩, ⟨bl_⟩⟩
        · rw [if_neg c8] at H
          have c8b0 : (a0_2 == a1_2) = false := beq_eq_false_iff_ne.mpr c8
          have c8b1 : (a0_2 != a1_2) = true := bne_iff_ne.mpr c8
          have H' := Aside0.mk H
          clear H
          have hnb20 := NB253_254.out
          have hnc20 := NB254_253.out
          have hcz21_0 := cz_ BK253 0 (.string a0_0)
          have hcz21_1 := cz_ BK253 1 (.int .i64 a0_1)
          have hcz21_2 := cz_ BK253 2 (.int .i64 a0_2)
          have hcz21_3 := cz_ BK253 3 (.int .i64 a0_3)
          have hcz21_4 := cz_ BK253 4 (.int .i64 a0_4)
          have hcz21_5 := cz_ BK253 5 (.slice A0_5 l0_5.length c0_5)
          have hcz21_6 := cz_ BK253 6 (.int .i64 a0_6)
          have hcz21_7 := cz_ BK253 7 (.int .i64 a0_7)
          have hcz21_8 := cz_ BK253 8 (.slice A0_8 l0_8.length c0_8)
          have hcz21_9 := cz_ BK253 9 (.slice A0_9 l0_9.length c0_9)
          have hcz21_10 := cz_ BK253 10 (.slice A0_10 l0_10.length c0_10)
          have hfz21_0 := fz_ BK253 0
          have hfz21_1 := fz_ BK253 1
          have hfz21_2 := fz_ BK253 2
          have hfz21_3 := fz_ BK253 3
          have hfz21_4 := fz_ BK253 4
          have hfz21_5 := fz_ BK253 5
          have hfz21_6 := fz_ BK253 6
          have hfz21_7 := fz_ BK253 7
          have hfz21_8 := fz_ BK253 8
          have hfz21_9 := fz_ BK253 9
          have hfz21_10 := fz_ BK253 10
          have hcz22_0 := cz_ BK254 0 (.string a1_0)
          have hcz22_1 := cz_ BK254 1 (.int .i64 a1_1)
          have hcz22_2 := cz_ BK254 2 (.int .i64 a1_2)
          have hcz22_3 := cz_ BK254 3 (.int .i64 a1_3)
          have hcz22_4 := cz_ BK254 4 (.int .i64 a1_4)
          have hcz22_5 := cz_ BK254 5 (.slice A1_5 l1_5.length c1_5)
          have hcz22_6 := cz_ BK254 6 (.int .i64 a1_6)
          have hcz22_7 := cz_ BK254 7 (.int .i64 a1_7)
          have hcz22_8 := cz_ BK254 8 (.slice A1_8 l1_8.length c1_8)
          have hcz22_9 := cz_ BK254 9 (.slice A1_9 l1_9.length c1_9)
          have hcz22_10 := cz_ BK254 10 (.slice A1_10 l1_10.length c1_10)
          have hfz22_0 := fz_ BK254 0
          have hfz22_1 := fz_ BK254 1
          have hfz22_2 := fz_ BK254 2
          have hfz22_3 := fz_ BK254 3
          have hfz22_4 := fz_ BK254 4
          have hfz22_5 := fz_ BK254 5
          have hfz22_6 := fz_ BK254 6
          have hfz22_7 := fz_ BK254 7
          have hfz22_8 := fz_ BK254 8
          have hfz22_9 := fz_ BK254 9
          have hfz22_10 := fz_ BK254 10
          go_wp2
          repeat (go_quiet (fail); try go_wp2)
          go_meet
          case rel => exact ⟨_, (true), sp_, H', ⟨by first | omega | exact Nat.le_refl _⟩, ⟨by (with_reducible repeat (first | refine blk_drewN ?_ _ | refine blk_drew ?_ | refine blk_alloc ?_ _)); exact BK253.out⟩, ⟨by (with_reducible repeat (first | refine blk_drewN ?_ _ | refine blk_drew ?_ | refine blk_alloc ?_ _)); exact BK254.out⟩, ⟨bl_⟩⟩
      · rw [if_neg c7] at H
        have c7b0 : (a0_1 == a1_1) = false := beq_eq_false_iff_ne.mpr c7
        have c7b1 : (a0_1 != a1_1) = true := bne_iff_ne.mpr c7
        have H' := Aside0.mk H
        clear H
        have hnb23 := NB253_254.out
        have hnc23 := NB254_253.out
        have hcz24_0 := cz_ BK253 0 (.string a0_0)
        have hcz24_1 := cz_ BK253 1 (.int .i64 a0_1)
        have hcz24_2 := cz_ BK253 2 (.int .i64 a0_2)
        have hcz24_3 := cz_ BK253 3 (.int .i64 a0_3)
        have hcz24_4 := cz_ BK253 4 (.int .i64 a0_4)
        have hcz24_5 := cz_ BK253 5 (.slice A0_5 l0_5.length c0_5)
        have hcz24_6 := cz_ BK253 6 (.int .i64 a0_6)
        have hcz24_7 := cz_ BK253 7 (.int .i64 a0_7)
        have hcz24_8 := cz_ BK253 8 (.slice A0_8 l0_8.length c0_8)
        have hcz24_9 := cz_ BK253 9 (.slice A0_9 l0_9.length c0_9)
        have hcz24_10 := cz_ BK253 10 (.slice A0_10 l0_10.length c0_10)
        have hfz24_0 := fz_ BK253 0
        have hfz24_1 := fz_ BK253 1
        have hfz24_2 := fz_ BK253 2
        have hfz24_3 := fz_ BK253 3
        have hfz24_4 := fz_ BK253 4
        have hfz24_5 := fz_ BK253 5
        have hfz24_6 := fz_ BK253 6
        have hfz24_7 := fz_ BK253 7
        have hfz24_8 := fz_ BK253 8
        have hfz24_9 := fz_ BK253 9
        have hfz24_10 := fz_ BK253 10
        have hcz25_0 := cz_ BK254 0 (.string a1_0)
        have hcz25_1 := cz_ BK254 1 (.int .i64 a1_1)
        have hcz25_2 := cz_ BK254 2 (.int .i64 a1_2)
        have hcz25_3 := cz_ BK254 3 (.int .i64 a1_3)
        have hcz25_4 := cz_ BK254 4 (.int .i64 a1_4)
        have hcz25_5 := cz_ BK254 5 (.slice A1_5 l1_5.length c1_5)
        have hcz25_6 := cz_ BK254 6 (.int .i64 a1_6)
        have hcz25_7 := cz_ BK254 7 (.int .i64 a1_7)
        have hcz25_8 := cz_ BK254 8 (.slice A1_8 l1_8.length c1_8)
        have hcz25_9 := cz_ BK254 9 (.slice A1_9 l1_9.length c1_9)
        have hcz25_10 := cz_ BK254 10 (.slice A1_10 l1_10.length c1_10)
        have hfz25_0 := fz_ BK254 0
        have hfz25_1 := fz_ BK254 1
        have hfz25_2 := fz_ BK254 2
        have hfz25_3 := fz_ BK254 3
        have hfz25_4 := fz_ BK254 4
        have hfz25_5 := fz_ BK254 5
        have hfz25_6 := fz_ BK254 6
        have hfz25_7 := fz_ BK254 7
        have hfz25_8 := fz_ BK254 8
        have hfz25_9 := fz_ BK254 9
        have hfz25_10 := fz_ BK254 10
        go_wp2
        repeat (go_quiet (fail); try go_wp2)
        go_meet
        case rel => exact ⟨_, (true), sp_, H', ⟨by first | omega | exact Nat.le_refl _⟩, ⟨by (with_reducible repeat (first | refine blk_drewN ?_ _ | refine blk_drew ?_ | refine blk_alloc ?_ _)); exact BK253.out⟩, ⟨by (with_reducible repeat (first | refine blk_drewN ?_ _ | refine blk_drew ?_ | refine blk_alloc ?_ _)); exact BK254.out⟩, ⟨bl_⟩⟩
    · rw [if_neg c6] at H
      have c6b0 : (a0_0.toList == a1_0.toList) = false := beq_eq_false_iff_ne.mpr c6
      have c6b1 : (a0_0.toList != a1_0.toList) = true := bne_iff_ne.mpr c6
      (first | rw [c6b0] | (simp only [i64_w, i32_w]; rw [c6b0]) | skip)
      have H' := Aside0.mk H
      clear H
      have hnb26 := NB253_254.out
      have hnc26 := NB254_253.out
      have hcz27_0 := cz_ BK253 0 (.string a0_0)
      have hcz27_1 := cz_ BK253 1 (.int .i64 a0_1)
      have hcz27_2 := cz_ BK253 2 (.int .i64 a0_2)
      have hcz27_3 := cz_ BK253 3 (.int .i64 a0_3)
      have hcz27_4 := cz_ BK253 4 (.int .i64 a0_4)
      have hcz27_5 := cz_ BK253 5 (.slice A0_5 l0_5.length c0_5)
      have hcz27_6 := cz_ BK253 6 (.int .i64 a0_6)
      have hcz27_7 := cz_ BK253 7 (.int .i64 a0_7)
      have hcz27_8 := cz_ BK253 8 (.slice A0_8 l0_8.length c0_8)
      have hcz27_9 := cz_ BK253 9 (.slice A0_9 l0_9.length c0_9)
      have hcz27_10 := cz_ BK253 10 (.slice A0_10 l0_10.length c0_10)
      have hfz27_0 := fz_ BK253 0
      have hfz27_1 := fz_ BK253 1
      have hfz27_2 := fz_ BK253 2
      have hfz27_3 := fz_ BK253 3
      have hfz27_4 := fz_ BK253 4
      have hfz27_5 := fz_ BK253 5
      have hfz27_6 := fz_ BK253 6
      have hfz27_7 := fz_ BK253 7
      have hfz27_8 := fz_ BK253 8
      have hfz27_9 := fz_ BK253 9
      have hfz27_10 := fz_ BK253 10
      have hcz28_0 := cz_ BK254 0 (.string a1_0)
      have hcz28_1 := cz_ BK254 1 (.int .i64 a1_1)
      have hcz28_2 := cz_ BK254 2 (.int .i64 a1_2)
      have hcz28_3 := cz_ BK254 3 (.int .i64 a1_3)
      have hcz28_4 := cz_ BK254 4 (.int .i64 a1_4)
      have hcz28_5 := cz_ BK254 5 (.slice A1_5 l1_5.length c1_5)
      have hcz28_6 := cz_ BK254 6 (.int .i64 a1_6)
      have hcz28_7 := cz_ BK254 7 (.int .i64 a1_7)
      have hcz28_8 := cz_ BK254 8 (.slice A1_8 l1_8.length c1_8)
      have hcz28_9 := cz_ BK254 9 (.slice A1_9 l1_9.length c1_9)
      have hcz28_10 := cz_ BK254 10 (.slice A1_10 l1_10.length c1_10)
      have hfz28_0 := fz_ BK254 0
      have hfz28_1 := fz_ BK254 1
      have hfz28_2 := fz_ BK254 2
      have hfz28_3 := fz_ BK254 3
      have hfz28_4 := fz_ BK254 4
      have hfz28_5 := fz_ BK254 5
      have hfz28_6 := fz_ BK254 6
      have hfz28_7 := fz_ BK254 7
      have hfz28_8 := fz_ BK254 8
      have hfz28_9 := fz_ BK254 9
      have hfz28_10 := fz_ BK254 10
      go_wp2
      repeat (go_quiet (fail); try go_wp2)
      go_meet
      case rel => exact ⟨_, (true), sp_, H', ⟨by first | omega | exact Nat.le_refl _⟩, ⟨by (with_reducible repeat (first | refine blk_drewN ?_ _ | refine blk_drew ?_ | refine blk_alloc ?_ _)); exact BK253.out⟩, ⟨by (with_reducible repeat (first | refine blk_drewN ?_ _ | refine blk_drew ?_ | refine blk_alloc ?_ _)); exact BK254.out⟩, ⟨bl_⟩⟩
  case rest =>
    clear HC3
    try clear c1
    try clear c2
    try clear p2
    try clear c5
    try clear c6
    try clear c6b0
    try clear c6b1
    try clear c7
    try clear c7b0
    try clear c7b1
    try clear c8
    try clear c8b0
    try clear c8b1
    try clear c9
    try clear c9b0
    try clear c9b1
    try clear c10
    try clear c10b0
    try clear c10b1
    try clear c11
    try clear c14
    try clear c17
    try clear c20
    try clear c23
    try clear c26
    try clear hcz12_0
    try clear hcz12_1
    try clear hcz12_10
    try clear hcz12_2
    try clear hcz12_3
    try clear hcz12_4
    try clear hcz12_5
    try clear hcz12_6
    try clear hcz12_7
    try clear hcz12_8
    try clear hcz12_9
    try clear hcz13_0
    try clear hcz13_1
    try clear hcz13_10
    try clear hcz13_2
    try clear hcz13_3
    try clear hcz13_4
    try clear hcz13_5
    try clear hcz13_6
    try clear hcz13_7
    try clear hcz13_8
    try clear hcz13_9
    try clear hcz15_0
    try clear hcz15_1
    try clear hcz15_10
    try clear hcz15_2
    try clear hcz15_3
    try clear hcz15_4
    try clear hcz15_5
    try clear hcz15_6
    try clear hcz15_7
    try clear hcz15_8
    try clear hcz15_9
    try clear hcz16_0
    try clear hcz16_1
    try clear hcz16_10
    try clear hcz16_2
    try clear hcz16_3
    try clear hcz16_4
    try clear hcz16_5
    try clear hcz16_6
    try clear hcz16_7
    try clear hcz16_8
    try clear hcz16_9
    try clear hcz18_0
    try clear hcz18_1
    try clear hcz18_10
    try clear hcz18_2
    try clear hcz18_3
    try clear hcz18_4
    try clear hcz18_5
    try clear hcz18_6
    try clear hcz18_7
    try clear hcz18_8
    try clear hcz18_9
    try clear hcz19_0
    try clear hcz19_1
    try clear hcz19_10
    try clear hcz19_2
    try clear hcz19_3
    try clear hcz19_4
    try clear hcz19_5
    try clear hcz19_6
    try clear hcz19_7
    try clear hcz19_8
    try clear hcz19_9
    try clear hcz21_0
    try clear hcz21_1
    try clear hcz21_10
    try clear hcz21_2
    try clear hcz21_3
    try clear hcz21_4
    try clear hcz21_5
    try clear hcz21_6
    try clear hcz21_7
    try clear hcz21_8
    try clear hcz21_9
    try clear hcz22_0
    try clear hcz22_1
    try clear hcz22_10
    try clear hcz22_2
    try clear hcz22_3
    try clear hcz22_4
    try clear hcz22_5
    try clear hcz22_6
    try clear hcz22_7
    try clear hcz22_8
    try clear hcz22_9
    try clear hcz24_0
    try clear hcz24_1
    try clear hcz24_10
    try clear hcz24_2
    try clear hcz24_3
    try clear hcz24_4
    try clear hcz24_5
    try clear hcz24_6
    try clear hcz24_7
    try clear hcz24_8
    try clear hcz24_9
    try clear hcz25_0
    try clear hcz25_1
    try clear hcz25_10
    try clear hcz25_2
    try clear hcz25_3
    try clear hcz25_4
    try clear hcz25_5
    try clear hcz25_6
    try clear hcz25_7
    try clear hcz25_8
    try clear hcz25_9
    try clear hcz27_0
    try clear hcz27_1
    try clear hcz27_10
    try clear hcz27_2
    try clear hcz27_3
    try clear hcz27_4
    try clear hcz27_5
    try clear hcz27_6
    try clear hcz27_7
    try clear hcz27_8
    try clear hcz27_9
    try clear hcz28_0
    try clear hcz28_1
    try clear hcz28_10
    try clear hcz28_2
    try clear hcz28_3
    try clear hcz28_4
    try clear hcz28_5
    try clear hcz28_6
    try clear hcz28_7
    try clear hcz28_8
    try clear hcz28_9
    try clear hfz12_0
    try clear hfz12_1
    try clear hfz12_10
    try clear hfz12_2
    try clear hfz12_3
    try clear hfz12_4
    try clear hfz12_5
    try clear hfz12_6
    try clear hfz12_7
    try clear hfz12_8
    try clear hfz12_9
    try clear hfz13_0
    try clear hfz13_1
    try clear hfz13_10
    try clear hfz13_2
    try clear hfz13_3
    try clear hfz13_4
    try clear hfz13_5
    try clear hfz13_6
    try clear hfz13_7
    try clear hfz13_8
    try clear hfz13_9
    try clear hfz15_0
    try clear hfz15_1
    try clear hfz15_10
    try clear hfz15_2
    try clear hfz15_3
    try clear hfz15_4
    try clear hfz15_5
    try clear hfz15_6
    try clear hfz15_7
    try clear hfz15_8
    try clear hfz15_9
    try clear hfz16_0
    try clear hfz16_1
    try clear hfz16_10
    try clear hfz16_2
    try clear hfz16_3
    try clear hfz16_4
    try clear hfz16_5
    try clear hfz16_6
    try clear hfz16_7
    try clear hfz16_8
    try clear hfz16_9
    try clear hfz18_0
    try clear hfz18_1
    try clear hfz18_10
    try clear hfz18_2
    try clear hfz18_3
    try clear hfz18_4
    try clear hfz18_5
    try clear hfz18_6
    try clear hfz18_7
    try clear hfz18_8
    try clear hfz18_9
    try clear hfz19_0
    try clear hfz19_1
    try clear hfz19_10
    try clear hfz19_2
    try clear hfz19_3
    try clear hfz19_4
    try clear hfz19_5
    try clear hfz19_6
    try clear hfz19_7
    try clear hfz19_8
    try clear hfz19_9
    try clear hfz21_0
    try clear hfz21_1
    try clear hfz21_10
    try clear hfz21_2
    try clear hfz21_3
    try clear hfz21_4
    try clear hfz21_5
    try clear hfz21_6
    try clear hfz21_7
    try clear hfz21_8
    try clear hfz21_9
    try clear hfz22_0
    try clear hfz22_1
    try clear hfz22_10
    try clear hfz22_2
    try clear hfz22_3
    try clear hfz22_4
    try clear hfz22_5
    try clear hfz22_6
    try clear hfz22_7
    try clear hfz22_8
    try clear hfz22_9
    try clear hfz24_0
    try clear hfz24_1
    try clear hfz24_10
    try clear hfz24_2
    try clear hfz24_3
    try clear hfz24_4
    try clear hfz24_5
    try clear hfz24_6
    try clear hfz24_7
    try clear hfz24_8
    try clear hfz24_9
    try clear hfz25_0
    try clear hfz25_1
    try clear hfz25_10
    try clear hfz25_2
    try clear hfz25_3
    try clear hfz25_4
    try clear hfz25_5
    try clear hfz25_6
    try clear hfz25_7
    try clear hfz25_8
    try clear hfz25_9
    try clear hfz27_0
    try clear hfz27_1
    try clear hfz27_10
    try clear hfz27_2
    try clear hfz27_3
    try clear hfz27_4
    try clear hfz27_5
    try clear hfz27_6
    try clear hfz27_7
    try clear hfz27_8
    try clear hfz27_9
    try clear hfz28_0
    try clear hfz28_1
    try clear hfz28_10
    try clear hfz28_2
    try clear hfz28_3
    try clear hfz28_4
    try clear hfz28_5
    try clear hfz28_6
    try clear hfz28_7
    try clear hfz28_8
    try clear hfz28_9
    obtain ⟨kq, x48_2, rfl, HA, HJ2, BK253, BK254, HB⟩ := hcut
    cases kq with
    | zero => exact absurd HA.out (by simp [spec_AcctSame.j0])
    | succ kj2 =>
      have H := HA.out
      clear HA
      simp only [spec_AcctSame.j0] at H
      by_cases c29 : x48_2 = true
      · subst c29
        have H1 : (some false) = some r := by rw [if_pos rfl] at H; exact H
        clear H
        have H := H1
        clear H1
        obtain rfl := Option.some.inj H
        go_wp2
        repeat (go_quiet (fail); try go_wp2)
        go_ret
        exact ⟨by first | rfl | (simp [errW_none, errW_some] <;> rfl) | (simp [*, errW_none, errW_some] <;> rfl), bl_⟩
      · replace c29 := Bool.eq_false_iff.mpr c29
        subst c29
        have H1 : (spec_AcctSame.l0 kj2 l0_5 (l0_5.length : Int) 0 a0_0 a0_1 a0_2 a0_3 a0_4 l0_5 a0_6 a0_7 l0_8 l0_9 l0_10 a1_0 a1_1 a1_2 a1_3 a1_4 l1_5 a1_6 a1_7 l1_8 l1_9 l1_10) = some r := by rw [if_neg (show ¬ (false = true) by decide)] at H; exact H
        clear H
        have H := H1
        clear H1
        have H' := Aside0.mk H
        clear H
        have hnb30 := NB253_254.out
        have hnc30 := NB254_253.out
        have hcz31_0 := cz_ BK253 0 (.string a0_0)
        have hcz31_1 := cz_ BK253 1 (.int .i64 a0_1)
        have hcz31_2 := cz_ BK253 2 (.int .i64 a0_2)
        have hcz31_3 := cz_ BK253 3 (.int .i64 a0_3)
        have hcz31_4 := cz_ BK253 4 (.int .i64 a0_4)
        have hcz31_5 := cz_ BK253 5 (.slice A0_5 l0_5.length c0_5)
        have hcz31_6 := cz_ BK253 6 (.int .i64 a0_6)
        have hcz31_7 := cz_ BK253 7 (.int .i64 a0_7)
        have hcz31_8 := cz_ BK253 8 (.slice A0_8 l0_8.length c0_8)
        have hcz31_9 := cz_ BK253 9 (.slice A0_9 l0_9.length c0_9)
        have hcz31_10 := cz_ BK253 10 (.slice A0_10 l0_10.length c0_10)
        have hfz31_0 := fz_ BK253 0
        have hfz31_1 := fz_ BK253 1
        have hfz31_2 := fz_ BK253 2
        have hfz31_3 := fz_ BK253 3
        have hfz31_4 := fz_ BK253 4
        have hfz31_5 := fz_ BK253 5
        have hfz31_6 := fz_ BK253 6
        have hfz31_7 := fz_ BK253 7
        have hfz31_8 := fz_ BK253 8
        have hfz31_9 := fz_ BK253 9
        have hfz31_10 := fz_ BK253 10
        go_wp2
        repeat (go_quiet (fail); try go_wp2)
        go_loopg [52] kj2 (fun kq v52 w' => ∃ (x52_2 : Int), v52 = .int .i64 x52_2 ∧ Aside0 (spec_AcctSame.l0 kq l0_5 (l0_5.length : Int) x52_2 a0_0 a0_1 a0_2 a0_3 a0_4 l0_5 a0_6 a0_7 l0_8 l0_9 l0_10 a1_0 a1_1 a1_2 a1_3 a1_4 l1_5 a1_6 a1_7 l1_8 l1_9 l1_10 = some r) ∧ Aside0 (kq ≤ kj2) ∧ Aside0 (w'.heap[gb253]? = some (.cells #[.string a0_0, .int .i64 a0_1, .int .i64 a0_2, .int .i64 a0_3, .int .i64 a0_4, (.slice A0_5 l0_5.length c0_5), .int .i64 a0_6, .int .i64 a0_7, (.slice A0_8 l0_8.length c0_8), (.slice A0_9 l0_9.length c0_9), (.slice A0_10 l0_10.length c0_10)] 85 (0, 0))) ∧ Aside0 (w'.heap[gb254]? = some (.cells #[.string a1_0, .int .i64 a1_1, .int .i64 a1_2, .int .i64 a1_3, .int .i64 a1_4, (.slice A1_5 l1_5.length c1_5), .int .i64 a1_6, .int .i64 a1_7, (.slice A1_8 l1_8.length c1_8), (.slice A1_9 l1_9.length c1_9), (.slice A1_10 l1_10.length c1_10)] 85 (0, 0))) ∧ Aside0 (Below w.heap.size w w'))
        case atStart => exact ⟨(0), sp_, H', ⟨Nat.le_refl _⟩, ⟨by (with_reducible repeat (first | refine blk_drewN ?_ _ | refine blk_drew ?_ | refine blk_alloc ?_ _)); exact BK253.out⟩, ⟨by (with_reducible repeat (first | refine blk_drewN ?_ _ | refine blk_drew ?_ | refine blk_alloc ?_ _)); exact BK254.out⟩, ⟨bl_⟩⟩
        case round =>
          clear H'
          try clear c1
          try clear c2
          try clear p2
          try clear c3
          try clear c5
          try clear c6
          try clear c6b0
          try clear c6b1
          try clear c7
          try clear c7b0
          try clear c7b1
          try clear c8
          try clear c8b0
          try clear c8b1
          try clear c9
          try clear c9b0
          try clear c9b1
          try clear c10
          try clear c10b0
          try clear c10b1
          try clear c11
          try clear c14
          try clear c17
          try clear c20
          try clear c23
          try clear c26
          try clear c29
          try clear c30
          try clear hcz12_0
          try clear hcz12_1
          try clear hcz12_10
          try clear hcz12_2
          try clear hcz12_3
          try clear hcz12_4
          try clear hcz12_5
          try clear hcz12_6
          try clear hcz12_7
          try clear hcz12_8
          try clear hcz12_9
          try clear hcz13_0
          try clear hcz13_1
          try clear hcz13_10
          try clear hcz13_2
          try clear hcz13_3
          try clear hcz13_4
          try clear hcz13_5
          try clear hcz13_6
          try clear hcz13_7
          try clear hcz13_8
          try clear hcz13_9
          try clear hcz15_0
          try clear hcz15_1
          try clear hcz15_10
          try clear hcz15_2
          try clear hcz15_3
          try clear hcz15_4
          try clear hcz15_5
          try clear hcz15_6
          try clear hcz15_7
          try clear hcz15_8
          try clear hcz15_9
          try clear hcz16_0
          try clear hcz16_1
          try clear hcz16_10
          try clear hcz16_2
          try clear hcz16_3
          try clear hcz16_4
          try clear hcz16_5
          try clear hcz16_6
          try clear hcz16_7
          try clear hcz16_8
          try clear hcz16_9
          try clear hcz18_0
          try clear hcz18_1
          try clear hcz18_10
          try clear hcz18_2
          try clear hcz18_3
          try clear hcz18_4
          try clear hcz18_5
          try clear hcz18_6
          try clear hcz18_7
          try clear hcz18_8
          try clear hcz18_9
          try clear hcz19_0
          try clear hcz19_1
          try clear hcz19_10
          try clear hcz19_2
          try clear hcz19_3
          try clear hcz19_4
          try clear hcz19_5
          try clear hcz19_6
          try clear hcz19_7
          try clear hcz19_8
          try clear hcz19_9
          try clear hcz21_0
          try clear hcz21_1
          try clear hcz21_10
          try clear hcz21_2
          try clear hcz21_3
          try clear hcz21_4
          try clear hcz21_5
          try clear hcz21_6
          try clear hcz21_7
          try clear hcz21_8
          try clear hcz21_9
          try clear hcz22_0
          try clear hcz22_1
          try clear hcz22_10
          try clear hcz22_2
          try clear hcz22_3
          try clear hcz22_4
          try clear hcz22_5
          try clear hcz22_6
          try clear hcz22_7
          try clear hcz22_8
          try clear hcz22_9
          try clear hcz24_0
          try clear hcz24_1
          try clear hcz24_10
          try clear hcz24_2
          try clear hcz24_3
          try clear hcz24_4
          try clear hcz24_5
          try clear hcz24_6
          try clear hcz24_7
          try clear hcz24_8
          try clear hcz24_9
          try clear hcz25_0
          try clear hcz25_1
          try clear hcz25_10
          try clear hcz25_2
          try clear hcz25_3
          try clear hcz25_4
          try clear hcz25_5
          try clear hcz25_6
          try clear hcz25_7
          try clear hcz25_8
          try clear hcz25_9
          try clear hcz27_0
          try clear hcz27_1
          try clear hcz27_10
          try clear hcz27_2
          try clear hcz27_3
          try clear hcz27_4
          try clear hcz27_5
          try clear hcz27_6
          try clear hcz27_7
          try clear hcz27_8
          try clear hcz27_9
          try clear hcz28_0
          try clear hcz28_1
          try clear hcz28_10
          try clear hcz28_2
          try clear hcz28_3
          try clear hcz28_4
          try clear hcz28_5
          try clear hcz28_6
          try clear hcz28_7
          try clear hcz28_8
          try clear hcz28_9
          try clear hcz31_0
          try clear hcz31_1
          try clear hcz31_10
          try clear hcz31_2
          try clear hcz31_3
          try clear hcz31_4
          try clear hcz31_5
          try clear hcz31_6
          try clear hcz31_7
          try clear hcz31_8
          try clear hcz31_9
          try clear hfz12_0
          try clear hfz12_1
          try clear hfz12_10
          try clear hfz12_2
          try clear hfz12_3
          try clear hfz12_4
          try clear hfz12_5
          try clear hfz12_6
          try clear hfz12_7
          try clear hfz12_8
          try clear hfz12_9
          try clear hfz13_0
          try clear hfz13_1
          try clear hfz13_10
          try clear hfz13_2
          try clear hfz13_3
          try clear hfz13_4
          try clear hfz13_5
          try clear hfz13_6
          try clear hfz13_7
          try clear hfz13_8
          try clear hfz13_9
          try clear hfz15_0
          try clear hfz15_1
          try clear hfz15_10
          try clear hfz15_2
          try clear hfz15_3
          try clear hfz15_4
          try clear hfz15_5
          try clear hfz15_6
          try clear hfz15_7
          try clear hfz15_8
          try clear hfz15_9
          try clear hfz16_0
          try clear hfz16_1
          try clear hfz16_10
          try clear hfz16_2
          try clear hfz16_3
          try clear hfz16_4
          try clear hfz16_5
          try clear hfz16_6
          try clear hfz16_7
          try clear hfz16_8
          try clear hfz16_9
          try clear hfz18_0
          try clear hfz18_1
          try clear hfz18_10
          try clear hfz18_2
          try clear hfz18_3
          try clear hfz18_4
          try clear hfz18_5
          try clear hfz18_6
          try clear hfz18_7
          try clear hfz18_8
          try clear hfz18_9
          try clear hfz19_0
          try clear hfz19_1
          try clear hfz19_10
          try clear hfz19_2
          try clear hfz19_3
          try clear hfz19_4
          try clear hfz19_5
          try clear hfz19_6
          try clear hfz19_7
          try clear hfz19_8
          try clear hfz19_9
          try clear hfz21_0
          try clear hfz21_1
          try clear hfz21_10
          try clear hfz21_2
          try clear hfz21_3
          try clear hfz21_4
          try clear hfz21_5
          try clear hfz21_6
          try clear hfz21_7
          try clear hfz21_8
          try clear hfz21_9
          try clear hfz22_0
          try clear hfz22_1
          try clear hfz22_10
          try clear hfz22_2
          try clear hfz22_3
          try clear hfz22_4
          try clear hfz22_5
          try clear hfz22_6
          try clear hfz22_7
          try clear hfz22_8
          try clear hfz22_9
          try clear hfz24_0
          try clear hfz24_1
          try clear hfz24_10
          try clear hfz24_2
          try clear hfz24_3
          try clear hfz24_4
          try clear hfz24_5
          try clear hfz24_6
          try clear hfz24_7
          try clear hfz24_8
          try clear hfz24_9
          try clear hfz25_0
          try clear hfz25_1
          try clear hfz25_10
          try clear hfz25_2
          try clear hfz25_3
          try clear hfz25_4
          try clear hfz25_5
          try clear hfz25_6
          try clear hfz25_7
          try clear hfz25_8
          try clear hfz25_9
          try clear hfz27_0
          try clear hfz27_1
          try clear hfz27_10
          try clear hfz27_2
          try clear hfz27_3
          try clear hfz27_4
          try clear hfz27_5
          try clear hfz27_6
          try clear hfz27_7
          try clear hfz27_8
          try clear hfz27_9
          try clear hfz28_0
          try clear hfz28_1
          try clear hfz28_10
          try clear hfz28_2
          try clear hfz28_3
          try clear hfz28_4
          try clear hfz28_5
          try clear hfz28_6
          try clear hfz28_7
          try clear hfz28_8
          try clear hfz28_9
          try clear hfz31_0
          try clear hfz31_1
          try clear hfz31_10
          try clear hfz31_2
          try clear hfz31_3
          try clear hfz31_4
          try clear hfz31_5
          try clear hfz31_6
          try clear hfz31_7
          try clear hfz31_8
          try clear hfz31_9
          try clear p2
          obtain ⟨x52_2, rfl, HA, HK2, BK253, BK254, HB⟩ := hrel
          cases gk with
          | zero => exact absurd HA.out (by simp [spec_AcctSame.l0])
          | succ k2 =>
            have H := HA.out
            clear HA
            simp only [spec_AcctSame.l0] at H
            by_cases c32 : x52_2 < (l0_5.length : Int)
            · rw [if_pos c32] at H
              have c32b0 : decide (x52_2 < (l0_5.length : Int)) = true := decide_eq_true c32
              clear c32
              by_cases c33 : 0 ≤ x52_2
              · rw [if_pos c33] at H
                have c33b0 : decide (0 ≤ x52_2) = true := decide_eq_true c33
                clear c33
                by_cases c34 : x52_2 < (l0_5.length : Int)
                · rw [if_pos c34] at H
                  have c34b0 : decide (x52_2 < (l0_5.length : Int)) = true := decide_eq_true c34
                  clear c34
                  by_cases c35 : x52_2 < (l1_5.length : Int)
                  · rw [if_pos c35] at H
                    have c35b0 : decide (x52_2 < (l1_5.length : Int)) = true := decide_eq_true c35
                    clear c35
                    by_cases c36 : (!((((rd_T60 l0_5 x52_2).f0).toList) == (((rd_T60 l1_5 x52_2).f0).toList)) || (!(((rd_T60 l0_5 x52_2).f1) == ((rd_T60 l1_5 x52_2).f1)) || (!(((rd_T60 l0_5 x52_2).f2) == ((rd_T60 l1_5 x52_2).f2))))) = true
                    · rw [if_pos c36] at H
                      have c36b0 : (!((((rd_T60 l0_5 x52_2).f0).toList) == (((rd_T60 l1_5 x52_2).f0).toList)) || (!(((rd_T60 l0_5 x52_2).f1) == ((rd_T60 l1_5 x52_2).f1)) || (!(((rd_T60 l0_5 x52_2).f2) == ((rd_T60 l1_5 x52_2).f2))))) = true := c36
                      clear c36
                      obtain rfl := Option.some.inj H
                      have p255 : 0 ≤ (x52_2 : Int) := od_
                      have q255 : x52_2 < (l0_5.length : Int) := od_
                      obtain ⟨ad255, e255, hx255_0, hx255_1, hx255_2⟩ := at_T60 HR0_5.out x52_2 p255 q255
                      cases e255
                      replace hx255_0 := kc_ HB hx255_0
                      replace hx255_1 := kc_ HB hx255_1
                      replace hx255_2 := kc_ HB hx255_2
                      replace p255 := eq_true p255
                      replace q255 := eq_true q255
                      go_wp2_with (first | ((with_reducible refine gate_dst (N := 6) rfl ?_); (try (refine gate_guard (by rfl) ?_; dsimp only)); refine box_event ?hg (N := 6) ?hd (cs := #[.string (⟨#[]⟩ : ByteArray), .int .i64 0, .int .i64 0]) (t := 60) ?hr ?_; (case hd => rfl); (case hg => rfl); (case hr => first | (go_simp; done) | (go_simp; rfl)); intro gb256 hg w37 hbox hb; have n0_ := Aside0.mk (blk_below (bk_ BK253) hb); have n1_ := Aside0.mk (blk_below (bk_ BK254) hb); have n2_ := Aside0.mk (below_step bl_ hb); have n3_ := Aside0.mk (hbox); have n4_ := Aside0.mk ((by rw [hg]; exact (below_size bl_) : w.heap.size ≤ gb256)); have n5_ := Aside0.mk ((by rw [hg]; exact (below_size bl_) : w.heap.size ≤ gb256)); have n6_ := Aside0.mk ((by rw [hg]; exact Nat.ne_of_lt (blk_lt (bk_ BK253)) : gb253 ≠ gb256)); have n7_ := Aside0.mk ((by rw [hg]; exact Nat.ne_of_gt (blk_lt (bk_ BK253)) : gb256 ≠ gb253)); have n8_ := Aside0.mk ((by rw [hg]; exact Nat.ne_of_lt (blk_lt (bk_ BK254)) : gb254 ≠ gb256)); have n9_ := Aside0.mk ((by rw [hg]; exact Nat.ne_of_gt (blk_lt (bk_ BK254)) : gb256 ≠ gb254)); clear BK253; clear BK254; clear HB; have BK253 := n0_; have BK254 := n1_; have HB := n2_; have BK256 := n3_; have GW256 := n4_; have GE256 := n5_; have NB253_256 := n6_; have NB256_253 := n7_; have NB254_256 := n8_; have NB256_254 := n9_; clear n0_ n1_ n2_ n3_ n4_ n5_ n6_ n7_ n8_ n9_; clear hb hbox hg; have hnb38 := NB256_253.out; have hnc38 := NB253_256.out; have hnb39 := NB256_254.out; have hnc39 := NB254_256.out; have hcz40_0 := cz_ BK256 0 (.string (⟨#[]⟩ : ByteArray)); have hcz40_1 := cz_ BK256 1 (.int .i64 0); have hcz40_2 := cz_ BK256 2 (.int .i64 0); have hfz40_0 := fz_ BK256 0; have hfz40_1 := fz_ BK256 1; have hfz40_2 := fz_ BK256 2; have hnb41 := NB254_253.out; have hnc41 := NB253_254.out; have hcz42_0 := cz_ BK254 0 (.string a1_0); have hcz42_1 := cz_ BK254 1 (.int .i64 a1_1); have hcz42_2 := cz_ BK254 2 (.int .i64 a1_2); have hcz42_3 := cz_ BK254 3 (.int .i64 a1_3); have hcz42_4 := cz_ BK254 4 (.int .i64 a1_4); have hcz42_5 := cz_ BK254 5 (.slice A1_5 l1_5.length c1_5); have hcz42_6 := cz_ BK254 6 (.int .i64 a1_6); have hcz42_7 := cz_ BK254 7 (.int .i64 a1_7); have hcz42_8 := cz_ BK254 8 (.slice A1_8 l1_8.length c1_8); have hcz42_9 := cz_ BK254 9 (.slice A1_9 l1_9.length c1_9); have hcz42_10 := cz_ BK254 10 (.slice A1_10 l1_10.length c1_10); have hfz42_0 := fz_ BK254 0; have hfz42_1 := fz_ BK254 1; have hfz42_2 := fz_ BK254 2; have hfz42_3 := fz_ BK254 3; have hfz42_4 := fz_ BK254 4; have hfz42_5 := fz_ BK254 5; have hfz42_6 := fz_ BK254 6; have hfz42_7 := fz_ BK254 7; have hfz42_8 := fz_ BK254 8; have hfz42_9 := fz_ BK254 9; have hfz42_10 := fz_ BK254 10; have p257 : 0 ≤ (x52_2 : Int) := od_; have q257 : x52_2 < (l1_5.length : Int) := od_; obtain ⟨ad257, e257, hx257_0, hx257_1, hx257_2⟩ := at_T60 HR1_5.out x52_2 p257 q257; cases e257; have hn257_0 : ad257.block ≠ gb256 := nl_ hx257_0 GW256; have hn257_1 : ad257.block ≠ gb256 := nl_ hx257_0 GW256; have hn257_2 : ad257.block ≠ gb256 := nl_ hx257_0 GW256; replace hx257_0 := kc_ HB hx257_0; replace hx257_1 := kc_ HB hx257_1; replace hx257_2 := kc_ HB hx257_2; replace hx257_0 := (cell_far (p := ⟨gb256, 0, none⟩) (fr_ hn257_0) (.string ((rd_T60 l0_5 x52_2).f0))).trans hx257_0; replace hx257_1 := (cell_far (p := ⟨gb256, 0, none⟩) (fr_ hn257_0) (.string ((rd_T60 l0_5 x52_2).f0))).trans hx257_1; replace hx257_2 := (cell_far (p := ⟨gb256, 0, none⟩) (fr_ hn257_0) (.string ((rd_T60 l0_5 x52_2).f0))).trans hx257_2; replace hx257_0 := (cell_far (p := ⟨gb256, 1, none⟩) (fr_ hn257_1) (.int .i64 ((rd_T60 l0_5 x52_2).f1))).trans hx257_0; replace hx257_1 := (cell_far (p := ⟨gb256, 1, none⟩) (fr_ hn257_1) (.int .i64 ((rd_T60 l0_5 x52_2).f1))).trans hx257_1; replace hx257_2 := (cell_far (p := ⟨gb256, 1, none⟩) (fr_ hn257_1) (.int .i64 ((rd_T60 l0_5 x52_2).f1))).trans hx257_2; replace hx257_0 := (cell_far (p := ⟨gb256, 2, none⟩) (fr_ hn257_2) (.int .i64 ((rd_T60 l0_5 x52_2).f2))).trans hx257_0; replace hx257_1 := (cell_far (p := ⟨gb256, 2, none⟩) (fr_ hn257_2) (.int .i64 ((rd_T60 l0_5 x52_2).f2))).trans hx257_1; replace hx257_2 := (cell_far (p := ⟨gb256, 2, none⟩) (fr_ hn257_2) (.int .i64 ((rd_T60 l0_5 x52_2).f2))).trans hx257_2; (try have hy257_0 := fun (n_ : Nat) => (show (((((w37.drewN n_).setCell ⟨gb256, 0, none⟩ (.string ((rd_T60 l0_5 x52_2).f0))).setCell ⟨gb256, 1, none⟩ (.int .i64 ((rd_T60 l0_5 x52_2).f1))).setCell ⟨gb256, 2, none⟩ (.int .i64 ((rd_T60 l0_5 x52_2).f2)))).cell? _ = some _ from hx257_0)); (try have hy257_1 := fun (n_ : Nat) => (show (((((w37.drewN n_).setCell ⟨gb256, 0, none⟩ (.string ((rd_T60 l0_5 x52_2).f0))).setCell ⟨gb256, 1, none⟩ (.int .i64 ((rd_T60 l0_5 x52_2).f1))).setCell ⟨gb256, 2, none⟩ (.int .i64 ((rd_T60 l0_5 x52_2).f2)))).cell? _ = some _ from hx257_1)); (try have hy257_2 := fun (n_ : Nat) => (show (((((w37.drewN n_).setCell ⟨gb256, 0, none⟩ (.string ((rd_T60 l0_5 x52_2).f0))).setCell ⟨gb256, 1, none⟩ (.int .i64 ((rd_T60 l0_5 x52_2).f1))).setCell ⟨gb256, 2, none⟩ (.int .i64 ((rd_T60 l0_5 x52_2).f2)))).cell? _ = some _ from hx257_2)); clear hn257_0; clear hn257_1; clear hn257_2; replace p257 := eq_true p257; replace q257 := eq_true q257))
                      repeat (go_quiet (first | ((with_reducible refine gate_dst (N := 6) rfl ?_); (try (refine gate_guard (by rfl) ?_; dsimp only)); refine box_event ?hg (N := 6) ?hd (cs := #[.string (⟨#[]⟩ : ByteArray), .int .i64 0, .int .i64 0]) (t := 60) ?hr ?_; (case hd => rfl); (case hg => rfl); (case hr => first | (go_simp; done) | (go_simp; rfl)); intro gb256 hg w37 hbox hb; have n0_ := Aside0.mk (blk_below (bk_ BK253) hb); have n1_ := Aside0.mk (blk_below (bk_ BK254) hb); have n2_ := Aside0.mk (below_step bl_ hb); have n3_ := Aside0.mk (hbox); have n4_ := Aside0.mk ((by rw [hg]; exact (below_size bl_) : w.heap.size ≤ gb256)); have n5_ := Aside0.mk ((by rw [hg]; exact (below_size bl_) : w.heap.size ≤ gb256)); have n6_ := Aside0.mk ((by rw [hg]; exact Nat.ne_of_lt (blk_lt (bk_ BK253)) : gb253 ≠ gb256)); have n7_ := Aside0.mk ((by rw [hg]; exact Nat.ne_of_gt (blk_lt (bk_ BK253)) : gb256 ≠ gb253)); have n8_ := Aside0.mk ((by rw [hg]; exact Nat.ne_of_lt (blk_lt (bk_ BK254)) : gb254 ≠ gb256)); have n9_ := Aside0.mk ((by rw [hg]; exact Nat.ne_of_gt (blk_lt (bk_ BK254)) : gb256 ≠ gb254)); clear BK253; clear BK254; clear HB; have BK253 := n0_; have BK254 := n1_; have HB := n2_; have BK256 := n3_; have GW256 := n4_; have GE256 := n5_; have NB253_256 := n6_; have NB256_253 := n7_; have NB254_256 := n8_; have NB256_254 := n9_; clear n0_ n1_ n2_ n3_ n4_ n5_ n6_ n7_ n8_ n9_; clear hb hbox hg; have hnb38 := NB256_253.out; have hnc38 := NB253_256.out; have hnb39 := NB256_254.out; have hnc39 := NB254_256.out; have hcz40_0 := cz_ BK256 0 (.string (⟨#[]⟩ : ByteArray)); have hcz40_1 := cz_ BK256 1 (.int .i64 0); have hcz40_2 := cz_ BK256 2 (.int .i64 0); have hfz40_0 := fz_ BK256 0; have hfz40_1 := fz_ BK256 1; have hfz40_2 := fz_ BK256 2; have hnb41 := NB254_253.out; have hnc41 := NB253_254.out; have hcz42_0 := cz_ BK254 0 (.string a1_0); have hcz42_1 := cz_ BK254 1 (.int .i64 a1_1); have hcz42_2 := cz_ BK254 2 (.int .i64 a1_2); have hcz42_3 := cz_ BK254 3 (.int .i64 a1_3); have hcz42_4 := cz_ BK254 4 (.int .i64 a1_4); have hcz42_5 := cz_ BK254 5 (.slice A1_5 l1_5.length c1_5); have hcz42_6 := cz_ BK254 6 (.int .i64 a1_6); have hcz42_7 := cz_ BK254 7 (.int .i64 a1_7); have hcz42_8 := cz_ BK254 8 (.slice A1_8 l1_8.length c1_8); have hcz42_9 := cz_ BK254 9 (.slice A1_9 l1_9.length c1_9); have hcz42_10 := cz_ BK254 10 (.slice A1_10 l1_10.length c1_10); have hfz42_0 := fz_ BK254 0; have hfz42_1 := fz_ BK254 1; have hfz42_2 := fz_ BK254 2; have hfz42_3 := fz_ BK254 3; have hfz42_4 := fz_ BK254 4; have hfz42_5 := fz_ BK254 5; have hfz42_6 := fz_ BK254 6; have hfz42_7 := fz_ BK254 7; have hfz42_8 := fz_ BK254 8; have hfz42_9 := fz_ BK254 9; have hfz42_10 := fz_ BK254 10; have p257 : 0 ≤ (x52_2 : Int) := od_; have q257 : x52_2 < (l1_5.length : Int) := od_; obtain ⟨ad257, e257, hx257_0, hx257_1, hx257_2⟩ := at_T60 HR1_5.out x52_2 p257 q257; cases e257; have hn257_0 : ad257.block ≠ gb256 := nl_ hx257_0 GW256; have hn257_1 : ad257.block ≠ gb256 := nl_ hx257_0 GW256; have hn257_2 : ad257.block ≠ gb256 := nl_ hx257_0 GW256; replace hx257_0 := kc_ HB hx257_0; replace hx257_1 := kc_ HB hx257_1; replace hx257_2 := kc_ HB hx257_2; replace hx257_0 := (cell_far (p := ⟨gb256, 0, none⟩) (fr_ hn257_0) (.string ((rd_T60 l0_5 x52_2).f0))).trans hx257_0; replace hx257_1 := (cell_far (p := ⟨gb256, 0, none⟩) (fr_ hn257_0) (.string ((rd_T60 l0_5 x52_2).f0))).trans hx257_1; replace hx257_2 := (cell_far (p := ⟨gb256, 0, none⟩) (fr_ hn257_0) (.string ((rd_T60 l0_5 x52_2).f0))).trans hx257_2; replace hx257_0 := (cell_far (p := ⟨gb256, 1, none⟩) (fr_ hn257_1) (.int .i64 ((rd_T60 l0_5 x52_2).f1))).trans hx257_0; replace hx257_1 := (cell_far (p := ⟨gb256, 1, none⟩) (fr_ hn257_1) (.int .i64 ((rd_T60 l0_5 x52_2).f1))).trans hx257_1; replace hx257_2 := (cell_far (p := ⟨gb256, 1, none⟩) (fr_ hn257_1) (.int .i64 ((rd_T60 l0_5 x52_2).f1))).trans hx257_2; replace hx257_0 := (cell_far (p := ⟨gb256, 2, none⟩) (fr_ hn257_2) (.int .i64 ((rd_T60 l0_5 x52_2).f2))).trans hx257_0; replace hx257_1 := (cell_far (p := ⟨gb256, 2, none⟩) (fr_ hn257_2) (.int .i64 ((rd_T60 l0_5 x52_2).f2))).trans hx257_1; replace hx257_2 := (cell_far (p := ⟨gb256, 2, none⟩) (fr_ hn257_2) (.int .i64 ((rd_T60 l0_5 x52_2).f2))).trans hx257_2; (try have hy257_0 := fun (n_ : Nat) => (show (((((w37.drewN n_).setCell ⟨gb256, 0, none⟩ (.string ((rd_T60 l0_5 x52_2).f0))).setCell ⟨gb256, 1, none⟩ (.int .i64 ((rd_T60 l0_5 x52_2).f1))).setCell ⟨gb256, 2, none⟩ (.int .i64 ((rd_T60 l0_5 x52_2).f2)))).cell? _ = some _ from hx257_0)); (try have hy257_1 := fun (n_ : Nat) => (show (((((w37.drewN n_).setCell ⟨gb256, 0, none⟩ (.string ((rd_T60 l0_5 x52_2).f0))).setCell ⟨gb256, 1, none⟩ (.int .i64 ((rd_T60 l0_5 x52_2).f1))).setCell ⟨gb256, 2, none⟩ (.int .i64 ((rd_T60 l0_5 x52_2).f2)))).cell? _ = some _ from hx257_1)); (try have hy257_2 := fun (n_ : Nat) => (show (((((w37.drewN n_).setCell ⟨gb256, 0, none⟩ (.string ((rd_T60 l0_5 x52_2).f0))).setCell ⟨gb256, 1, none⟩ (.int .i64 ((rd_T60 l0_5 x52_2).f1))).setCell ⟨gb256, 2, none⟩ (.int .i64 ((rd_T60 l0_5 x52_2).f2)))).cell? _ = some _ from hx257_2)); clear hn257_0; clear hn257_1; clear hn257_2; replace p257 := eq_true p257; replace q257 := eq_true q257)); try go_wp2_with (first | ((with_reducible refine gate_dst (N := 6) rfl ?_); (try (refine gate_guard (by rfl) ?_; dsimp only)); refine box_event ?hg (N := 6) ?hd (cs := #[.string (⟨#[]⟩ : ByteArray), .int .i64 0, .int .i64 0]) (t := 60) ?hr ?_; (case hd => rfl); (case hg => rfl); (case hr => first | (go_simp; done) | (go_simp; rfl)); intro gb256 hg w37 hbox hb; have n0_ := Aside0.mk (blk_below (bk_ BK253) hb); have n1_ := Aside0.mk (blk_below (bk_ BK254) hb); have n2_ := Aside0.mk (below_step bl_ hb); have n3_ := Aside0.mk (hbox); have n4_ := Aside0.mk ((by rw [hg]; exact (below_size bl_) : w.heap.size ≤ gb256)); have n5_ := Aside0.mk ((by rw [hg]; exact (below_size bl_) : w.heap.size ≤ gb256)); have n6_ := Aside0.mk ((by rw [hg]; exact Nat.ne_of_lt (blk_lt (bk_ BK253)) : gb253 ≠ gb256)); have n7_ := Aside0.mk ((by rw [hg]; exact Nat.ne_of_gt (blk_lt (bk_ BK253)) : gb256 ≠ gb253)); have n8_ := Aside0.mk ((by rw [hg]; exact Nat.ne_of_lt (blk_lt (bk_ BK254)) : gb254 ≠ gb256)); have n9_ := Aside0.mk ((by rw [hg]; exact Nat.ne_of_gt (blk_lt (bk_ BK254)) : gb256 ≠ gb254)); clear BK253; clear BK254; clear HB; have BK253 := n0_; have BK254 := n1_; have HB := n2_; have BK256 := n3_; have GW256 := n4_; have GE256 := n5_; have NB253_256 := n6_; have NB256_253 := n7_; have NB254_256 := n8_; have NB256_254 := n9_; clear n0_ n1_ n2_ n3_ n4_ n5_ n6_ n7_ n8_ n9_; clear hb hbox hg; have hnb38 := NB256_253.out; have hnc38 := NB253_256.out; have hnb39 := NB256_254.out; have hnc39 := NB254_256.out; have hcz40_0 := cz_ BK256 0 (.string (⟨#[]⟩ : ByteArray)); have hcz40_1 := cz_ BK256 1 (.int .i64 0); have hcz40_2 := cz_ BK256 2 (.int .i64 0); have hfz40_0 := fz_ BK256 0; have hfz40_1 := fz_ BK256 1; have hfz40_2 := fz_ BK256 2; have hnb41 := NB254_253.out; have hnc41 := NB253_254.out; have hcz42_0 := cz_ BK254 0 (.string a1_0); have hcz42_1 := cz_ BK254 1 (.int .i64 a1_1); have hcz42_2 := cz_ BK254 2 (.int .i64 a1_2); have hcz42_3 := cz_ BK254 3 (.int .i64 a1_3); have hcz42_4 := cz_ BK254 4 (.int .i64 a1_4); have hcz42_5 := cz_ BK254 5 (.slice A1_5 l1_5.length c1_5); have hcz42_6 := cz_ BK254 6 (.int .i64 a1_6); have hcz42_7 := cz_ BK254 7 (.int .i64 a1_7); have hcz42_8 := cz_ BK254 8 (.slice A1_8 l1_8.length c1_8); have hcz42_9 := cz_ BK254 9 (.slice A1_9 l1_9.length c1_9); have hcz42_10 := cz_ BK254 10 (.slice A1_10 l1_10.length c1_10); have hfz42_0 := fz_ BK254 0; have hfz42_1 := fz_ BK254 1; have hfz42_2 := fz_ BK254 2; have hfz42_3 := fz_ BK254 3; have hfz42_4 := fz_ BK254 4; have hfz42_5 := fz_ BK254 5; have hfz42_6 := fz_ BK254 6; have hfz42_7 := fz_ BK254 7; have hfz42_8 := fz_ BK254 8; have hfz42_9 := fz_ BK254 9; have hfz42_10 := fz_ BK254 10; have p257 : 0 ≤ (x52_2 : Int) := od_; have q257 : x52_2 < (l1_5.length : Int) := od_; obtain ⟨ad257, e257, hx257_0, hx257_1, hx257_2⟩ := at_T60 HR1_5.out x52_2 p257 q257; cases e257; have hn257_0 : ad257.block ≠ gb256 := nl_ hx257_0 GW256; have hn257_1 : ad257.block ≠ gb256 := nl_ hx257_0 GW256; have hn257_2 : ad257.block ≠ gb256 := nl_ hx257_0 GW256; replace hx257_0 := kc_ HB hx257_0; replace hx257_1 := kc_ HB hx257_1; replace hx257_2 := kc_ HB hx257_2; replace hx257_0 := (cell_far (p := ⟨gb256, 0, none⟩) (fr_ hn257_0) (.string ((rd_T60 l0_5 x52_2).f0))).trans hx257_0; replace hx257_1 := (cell_far (p := ⟨gb256, 0, none⟩) (fr_ hn257_0) (.string ((rd_T60 l0_5 x52_2).f0))).trans hx257_1; replace hx257_2 := (cell_far (p := ⟨gb256, 0, none⟩) (fr_ hn257_0) (.string ((rd_T60 l0_5 x52_2).f0))).trans hx257_2; replace hx257_0 := (cell_far (p := ⟨gb256, 1, none⟩) (fr_ hn257_1) (.int .i64 ((rd_T60 l0_5 x52_2).f1))).trans hx257_0; replace hx257_1 := (cell_far (p := ⟨gb256, 1, none⟩) (fr_ hn257_1) (.int .i64 ((rd_T60 l0_5 x52_2).f1))).trans hx257_1; replace hx257_2 := (cell_far (p := ⟨gb256, 1, none⟩) (fr_ hn257_1) (.int .i64 ((rd_T60 l0_5 x52_2).f1))).trans hx257_2; replace hx257_0 := (cell_far (p := ⟨gb256, 2, none⟩) (fr_ hn257_2) (.int .i64 ((rd_T60 l0_5 x52_2).f2))).trans hx257_0; replace hx257_1 := (cell_far (p := ⟨gb256, 2, none⟩) (fr_ hn257_2) (.int .i64 ((rd_T60 l0_5 x52_2).f2))).trans hx257_1; replace hx257_2 := (cell_far (p := ⟨gb256, 2, none⟩) (fr_ hn257_2) (.int .i64 ((rd_T60 l0_5 x52_2).f2))).trans hx257_2; (try have hy257_0 := fun (n_ : Nat) => (show (((((w37.drewN n_).setCell ⟨gb256, 0, none⟩ (.string ((rd_T60 l0_5 x52_2).f0))).setCell ⟨gb256, 1, none⟩ (.int .i64 ((rd_T60 l0_5 x52_2).f1))).setCell ⟨gb256, 2, none⟩ (.int .i64 ((rd_T60 l0_5 x52_2).f2)))).cell? _ = some _ from hx257_0)); (try have hy257_1 := fun (n_ : Nat) => (show (((((w37.drewN n_).setCell ⟨gb256, 0, none⟩ (.string ((rd_T60 l0_5 x52_2).f0))).setCell ⟨gb256, 1, none⟩ (.int .i64 ((rd_T60 l0_5 x52_2).f1))).setCell ⟨gb256, 2, none⟩ (.int .i64 ((rd_T60 l0_5 x52_2).f2)))).cell? _ = some _ from hx257_1)); (try have hy257_2 := fun (n_ : Nat) => (show (((((w37.drewN n_).setCell ⟨gb256, 0, none⟩ (.string ((rd_T60 l0_5 x52_2).f0))).setCell ⟨gb256, 1, none⟩ (.int .i64 ((rd_T60 l0_5 x52_2).f1))).setCell ⟨gb256, 2, none⟩ (.int .i64 ((rd_T60 l0_5 x52_2).f2)))).cell? _ = some _ from hx257_2)); clear hn257_0; clear hn257_1; clear hn257_2; replace p257 := eq_true p257; replace q257 := eq_true q257)))
                      go_ret
                      exact ⟨by first | rfl | (simp [errW_none, errW_some] <;> rfl) | (simp [*, errW_none, errW_some] <;> rfl), bl_⟩
                    · rw [if_neg c36] at H
                      have c36b0 : (!((((rd_T60 l0_5 x52_2).f0).toList) == (((rd_T60 l1_5 x52_2).f0).toList)) || (!(((rd_T60 l0_5 x52_2).f1) == ((rd_T60 l1_5 x52_2).f1)) || (!(((rd_T60 l0_5 x52_2).f2) == ((rd_T60 l1_5 x52_2).f2))))) = false := by simpa using c36
                      clear c36
                      have H' := Aside0.mk H
                      clear H
                      have p255 : 0 ≤ (x52_2 : Int) := od_
                      have q255 : x52_2 < (l0_5.length : Int) := od_
                      obtain ⟨ad255, e255, hx255_0, hx255_1, hx255_2⟩ := at_T60 HR0_5.out x52_2 p255 q255
                      cases e255
                      replace hx255_0 := kc_ HB hx255_0
                      replace hx255_1 := kc_ HB hx255_1
                      replace hx255_2 := kc_ HB hx255_2
                      replace p255 := eq_true p255
                      replace q255 := eq_true q255
                      go_wp2_with (first | ((with_reducible refine gate_dst (N := 6) rfl ?_); (try (refine gate_guard (by rfl) ?_; dsimp only)); refine box_event ?hg (N := 6) ?hd (cs := #[.string (⟨#[]⟩ : ByteArray), .int .i64 0, .int .i64 0]) (t := 60) ?hr ?_; (case hd => rfl); (case hg => rfl); (case hr => first | (go_simp; done) | (go_simp; rfl)); intro gb256 hg w43 hbox hb; have n0_ := Aside0.mk (blk_below (bk_ BK253) hb); have n1_ := Aside0.mk (blk_below (bk_ BK254) hb); have n2_ := Aside0.mk (below_step bl_ hb); have n3_ := Aside0.mk (hbox); have n4_ := Aside0.mk ((by rw [hg]; exact (below_size bl_) : w.heap.size ≤ gb256)); have n5_ := Aside0.mk ((by rw [hg]; exact (below_size bl_) : w.heap.size ≤ gb256)); have n6_ := Aside0.mk ((by rw [hg]; exact Nat.ne_of_lt (blk_lt (bk_ BK253)) : gb253 ≠ gb256)); have n7_ := Aside0.mk ((by rw [hg]; exact Nat.ne_of_gt (blk_lt (bk_ BK253)) : gb256 ≠ gb253)); have n8_ := Aside0.mk ((by rw [hg]; exact Nat.ne_of_lt (blk_lt (bk_ BK254)) : gb254 ≠ gb256)); have n9_ := Aside0.mk ((by rw [hg]; exact Nat.ne_of_gt (blk_lt (bk_ BK254)) : gb256 ≠ gb254)); clear BK253; clear BK254; clear HB; have BK253 := n0_; have BK254 := n1_; have HB := n2_; have BK256 := n3_; have GW256 := n4_; have GE256 := n5_; have NB253_256 := n6_; have NB256_253 := n7_; have NB254_256 := n8_; have NB256_254 := n9_; clear n0_ n1_ n2_ n3_ n4_ n5_ n6_ n7_ n8_ n9_; clear hb hbox hg; have hnb44 := NB256_253.out; have hnc44 := NB253_256.out; have hnb45 := NB256_254.out; have hnc45 := NB254_256.out; have hcz46_0 := cz_ BK256 0 (.string (⟨#[]⟩ : ByteArray)); have hcz46_1 := cz_ BK256 1 (.int .i64 0); have hcz46_2 := cz_ BK256 2 (.int .i64 0); have hfz46_0 := fz_ BK256 0; have hfz46_1 := fz_ BK256 1; have hfz46_2 := fz_ BK256 2; have hnb47 := NB254_253.out; have hnc47 := NB253_254.out; have hcz48_0 := cz_ BK254 0 (.string a1_0); have hcz48_1 := cz_ BK254 1 (.int .i64 a1_1); have hcz48_2 := cz_ BK254 2 (.int .i64 a1_2); have hcz48_3 := cz_ BK254 3 (.int .i64 a1_3); have hcz48_4 := cz_ BK254 4 (.int .i64 a1_4); have hcz48_5 := cz_ BK254 5 (.slice A1_5 l1_5.length c1_5); have hcz48_6 := cz_ BK254 6 (.int .i64 a1_6); have hcz48_7 := cz_ BK254 7 (.int .i64 a1_7); have hcz48_8 := cz_ BK254 8 (.slice A1_8 l1_8.length c1_8); have hcz48_9 := cz_ BK254 9 (.slice A1_9 l1_9.length c1_9); have hcz48_10 := cz_ BK254 10 (.slice A1_10 l1_10.length c1_10); have hfz48_0 := fz_ BK254 0; have hfz48_1 := fz_ BK254 1; have hfz48_2 := fz_ BK254 2; have hfz48_3 := fz_ BK254 3; have hfz48_4 := fz_ BK254 4; have hfz48_5 := fz_ BK254 5; have hfz48_6 := fz_ BK254 6; have hfz48_7 := fz_ BK254 7; have hfz48_8 := fz_ BK254 8; have hfz48_9 := fz_ BK254 9; have hfz48_10 := fz_ BK254 10; have p257 : 0 ≤ (x52_2 : Int) := od_; have q257 : x52_2 < (l1_5.length : Int) := od_; obtain ⟨ad257, e257, hx257_0, hx257_1, hx257_2⟩ := at_T60 HR1_5.out x52_2 p257 q257; cases e257; have hn257_0 : ad257.block ≠ gb256 := nl_ hx257_0 GW256; have hn257_1 : ad257.block ≠ gb256 := nl_ hx257_0 GW256; have hn257_2 : ad257.block ≠ gb256 := nl_ hx257_0 GW256; replace hx257_0 := kc_ HB hx257_0; replace hx257_1 := kc_ HB hx257_1; replace hx257_2 := kc_ HB hx257_2; replace hx257_0 := (cell_far (p := ⟨gb256, 0, none⟩) (fr_ hn257_0) (.string ((rd_T60 l0_5 x52_2).f0))).trans hx257_0; replace hx257_1 := (cell_far (p := ⟨gb256, 0, none⟩) (fr_ hn257_0) (.string ((rd_T60 l0_5 x52_2).f0))).trans hx257_1; replace hx257_2 := (cell_far (p := ⟨gb256, 0, none⟩) (fr_ hn257_0) (.string ((rd_T60 l0_5 x52_2).f0))).trans hx257_2; replace hx257_0 := (cell_far (p := ⟨gb256, 1, none⟩) (fr_ hn257_1) (.int .i64 ((rd_T60 l0_5 x52_2).f1))).trans hx257_0; replace hx257_1 := (cell_far (p := ⟨gb256, 1, none⟩) (fr_ hn257_1) (.int .i64 ((rd_T60 l0_5 x52_2).f1))).trans hx257_1; replace hx257_2 := (cell_far (p := ⟨gb256, 1, none⟩) (fr_ hn257_1) (.int .i64 ((rd_T60 l0_5 x52_2).f1))).trans hx257_2; replace hx257_0 := (cell_far (p := ⟨gb256, 2, none⟩) (fr_ hn257_2) (.int .i64 ((rd_T60 l0_5 x52_2).f2))).trans hx257_0; replace hx257_1 := (cell_far (p := ⟨gb256, 2, none⟩) (fr_ hn257_2) (.int .i64 ((rd_T60 l0_5 x52_2).f2))).trans hx257_1; replace hx257_2 := (cell_far (p := ⟨gb256, 2, none⟩) (fr_ hn257_2) (.int .i64 ((rd_T60 l0_5 x52_2).f2))).trans hx257_2; (try have hy257_0 := fun (n_ : Nat) => (show (((((w43.drewN n_).setCell ⟨gb256, 0, none⟩ (.string ((rd_T60 l0_5 x52_2).f0))).setCell ⟨gb256, 1, none⟩ (.int .i64 ((rd_T60 l0_5 x52_2).f1))).setCell ⟨gb256, 2, none⟩ (.int .i64 ((rd_T60 l0_5 x52_2).f2)))).cell? _ = some _ from hx257_0)); (try have hy257_1 := fun (n_ : Nat) => (show (((((w43.drewN n_).setCell ⟨gb256, 0, none⟩ (.string ((rd_T60 l0_5 x52_2).f0))).setCell ⟨gb256, 1, none⟩ (.int .i64 ((rd_T60 l0_5 x52_2).f1))).setCell ⟨gb256, 2, none⟩ (.int .i64 ((rd_T60 l0_5 x52_2).f2)))).cell? _ = some _ from hx257_1)); (try have hy257_2 := fun (n_ : Nat) => (show (((((w43.drewN n_).setCell ⟨gb256, 0, none⟩ (.string ((rd_T60 l0_5 x52_2).f0))).setCell ⟨gb256, 1, none⟩ (.int .i64 ((rd_T60 l0_5 x52_2).f1))).setCell ⟨gb256, 2, none⟩ (.int .i64 ((rd_T60 l0_5 x52_2).f2)))).cell? _ = some _ from hx257_2)); clear hn257_0; clear hn257_1; clear hn257_2; replace p257 := eq_true p257; replace q257 := eq_true q257))
                      repeat (go_quiet (first | ((with_reducible refine gate_dst (N := 6) rfl ?_); (try (refine gate_guard (by rfl) ?_; dsimp only)); refine box_event ?hg (N := 6) ?hd (cs := #[.string (⟨#[]⟩ : ByteArray), .int .i64 0, .int .i64 0]) (t := 60) ?hr ?_; (case hd => rfl); (case hg => rfl); (case hr => first | (go_simp; done) | (go_simp; rfl)); intro gb256 hg w43 hbox hb; have n0_ := Aside0.mk (blk_below (bk_ BK253) hb); have n1_ := Aside0.mk (blk_below (bk_ BK254) hb); have n2_ := Aside0.mk (below_step bl_ hb); have n3_ := Aside0.mk (hbox); have n4_ := Aside0.mk ((by rw [hg]; exact (below_size bl_) : w.heap.size ≤ gb256)); have n5_ := Aside0.mk ((by rw [hg]; exact (below_size bl_) : w.heap.size ≤ gb256)); have n6_ := Aside0.mk ((by rw [hg]; exact Nat.ne_of_lt (blk_lt (bk_ BK253)) : gb253 ≠ gb256)); have n7_ := Aside0.mk ((by rw [hg]; exact Nat.ne_of_gt (blk_lt (bk_ BK253)) : gb256 ≠ gb253)); have n8_ := Aside0.mk ((by rw [hg]; exact Nat.ne_of_lt (blk_lt (bk_ BK254)) : gb254 ≠ gb256)); have n9_ := Aside0.mk ((by rw [hg]; exact Nat.ne_of_gt (blk_lt (bk_ BK254)) : gb256 ≠ gb254)); clear BK253; clear BK254; clear HB; have BK253 := n0_; have BK254 := n1_; have HB := n2_; have BK256 := n3_; have GW256 := n4_; have GE256 := n5_; have NB253_256 := n6_; have NB256_253 := n7_; have NB254_256 := n8_; have NB256_254 := n9_; clear n0_ n1_ n2_ n3_ n4_ n5_ n6_ n7_ n8_ n9_; clear hb hbox hg; have hnb44 := NB256_253.out; have hnc44 := NB253_256.out; have hnb45 := NB256_254.out; have hnc45 := NB254_256.out; have hcz46_0 := cz_ BK256 0 (.string (⟨#[]⟩ : ByteArray)); have hcz46_1 := cz_ BK256 1 (.int .i64 0); have hcz46_2 := cz_ BK256 2 (.int .i64 0); have hfz46_0 := fz_ BK256 0; have hfz46_1 := fz_ BK256 1; have hfz46_2 := fz_ BK256 2; have hnb47 := NB254_253.out; have hnc47 := NB253_254.out; have hcz48_0 := cz_ BK254 0 (.string a1_0); have hcz48_1 := cz_ BK254 1 (.int .i64 a1_1); have hcz48_2 := cz_ BK254 2 (.int .i64 a1_2); have hcz48_3 := cz_ BK254 3 (.int .i64 a1_3); have hcz48_4 := cz_ BK254 4 (.int .i64 a1_4); have hcz48_5 := cz_ BK254 5 (.slice A1_5 l1_5.length c1_5); have hcz48_6 := cz_ BK254 6 (.int .i64 a1_6); have hcz48_7 := cz_ BK254 7 (.int .i64 a1_7); have hcz48_8 := cz_ BK254 8 (.slice A1_8 l1_8.length c1_8); have hcz48_9 := cz_ BK254 9 (.slice A1_9 l1_9.length c1_9); have hcz48_10 := cz_ BK254 10 (.slice A1_10 l1_10.length c1_10); have hfz48_0 := fz_ BK254 0; have hfz48_1 := fz_ BK254 1; have hfz48_2 := fz_ BK254 2; have hfz48_3 := fz_ BK254 3; have hfz48_4 := fz_ BK254 4; have hfz48_5 := fz_ BK254 5; have hfz48_6 := fz_ BK254 6; have hfz48_7 := fz_ BK254 7; have hfz48_8 := fz_ BK254 8; have hfz48_9 := fz_ BK254 9; have hfz48_10 := fz_ BK254 10; have p257 : 0 ≤ (x52_2 : Int) := od_; have q257 : x52_2 < (l1_5.length : Int) := od_; obtain ⟨ad257, e257, hx257_0, hx257_1, hx257_2⟩ := at_T60 HR1_5.out x52_2 p257 q257; cases e257; have hn257_0 : ad257.block ≠ gb256 := nl_ hx257_0 GW256; have hn257_1 : ad257.block ≠ gb256 := nl_ hx257_0 GW256; have hn257_2 : ad257.block ≠ gb256 := nl_ hx257_0 GW256; replace hx257_0 := kc_ HB hx257_0; replace hx257_1 := kc_ HB hx257_1; replace hx257_2 := kc_ HB hx257_2; replace hx257_0 := (cell_far (p := ⟨gb256, 0, none⟩) (fr_ hn257_0) (.string ((rd_T60 l0_5 x52_2).f0))).trans hx257_0; replace hx257_1 := (cell_far (p := ⟨gb256, 0, none⟩) (fr_ hn257_0) (.string ((rd_T60 l0_5 x52_2).f0))).trans hx257_1; replace hx257_2 := (cell_far (p := ⟨gb256, 0, none⟩) (fr_ hn257_0) (.string ((rd_T60 l0_5 x52_2).f0))).trans hx257_2; replace hx257_0 := (cell_far (p := ⟨gb256, 1, none⟩) (fr_ hn257_1) (.int .i64 ((rd_T60 l0_5 x52_2).f1))).trans hx257_0; replace hx257_1 := (cell_far (p := ⟨gb256, 1, none⟩) (fr_ hn257_1) (.int .i64 ((rd_T60 l0_5 x52_2).f1))).trans hx257_1; replace hx257_2 := (cell_far (p := ⟨gb256, 1, none⟩) (fr_ hn257_1) (.int .i64 ((rd_T60 l0_5 x52_2).f1))).trans hx257_2; replace hx257_0 := (cell_far (p := ⟨gb256, 2, none⟩) (fr_ hn257_2) (.int .i64 ((rd_T60 l0_5 x52_2).f2))).trans hx257_0; replace hx257_1 := (cell_far (p := ⟨gb256, 2, none⟩) (fr_ hn257_2) (.int .i64 ((rd_T60 l0_5 x52_2).f2))).trans hx257_1; replace hx257_2 := (cell_far (p := ⟨gb256, 2, none⟩) (fr_ hn257_2) (.int .i64 ((rd_T60 l0_5 x52_2).f2))).trans hx257_2; (try have hy257_0 := fun (n_ : Nat) => (show (((((w43.drewN n_).setCell ⟨gb256, 0, none⟩ (.string ((rd_T60 l0_5 x52_2).f0))).setCell ⟨gb256, 1, none⟩ (.int .i64 ((rd_T60 l0_5 x52_2).f1))).setCell ⟨gb256, 2, none⟩ (.int .i64 ((rd_T60 l0_5 x52_2).f2)))).cell? _ = some _ from hx257_0)); (try have hy257_1 := fun (n_ : Nat) => (show (((((w43.drewN n_).setCell ⟨gb256, 0, none⟩ (.string ((rd_T60 l0_5 x52_2).f0))).setCell ⟨gb256, 1, none⟩ (.int .i64 ((rd_T60 l0_5 x52_2).f1))).setCell ⟨gb256, 2, none⟩ (.int .i64 ((rd_T60 l0_5 x52_2).f2)))).cell? _ = some _ from hx257_1)); (try have hy257_2 := fun (n_ : Nat) => (show (((((w43.drewN n_).setCell ⟨gb256, 0, none⟩ (.string ((rd_T60 l0_5 x52_2).f0))).setCell ⟨gb256, 1, none⟩ (.int .i64 ((rd_T60 l0_5 x52_2).f1))).setCell ⟨gb256, 2, none⟩ (.int .i64 ((rd_T60 l0_5 x52_2).f2)))).cell? _ = some _ from hx257_2)); clear hn257_0; clear hn257_1; clear hn257_2; replace p257 := eq_true p257; replace q257 := eq_true q257)); try go_wp2_with (first | ((with_reducible refine gate_dst (N := 6) rfl ?_); (try (refine gate_guard (by rfl) ?_; dsimp only)); refine box_event ?hg (N := 6) ?hd (cs := #[.string (⟨#[]⟩ : ByteArray), .int .i64 0, .int .i64 0]) (t := 60) ?hr ?_; (case hd => rfl); (case hg => rfl); (case hr => first | (go_simp; done) | (go_simp; rfl)); intro gb256 hg w43 hbox hb; have n0_ := Aside0.mk (blk_below (bk_ BK253) hb); have n1_ := Aside0.mk (blk_below (bk_ BK254) hb); have n2_ := Aside0.mk (below_step bl_ hb); have n3_ := Aside0.mk (hbox); have n4_ := Aside0.mk ((by rw [hg]; exact (below_size bl_) : w.heap.size ≤ gb256)); have n5_ := Aside0.mk ((by rw [hg]; exact (below_size bl_) : w.heap.size ≤ gb256)); have n6_ := Aside0.mk ((by rw [hg]; exact Nat.ne_of_lt (blk_lt (bk_ BK253)) : gb253 ≠ gb256)); have n7_ := Aside0.mk ((by rw [hg]; exact Nat.ne_of_gt (blk_lt (bk_ BK253)) : gb256 ≠ gb253)); have n8_ := Aside0.mk ((by rw [hg]; exact Nat.ne_of_lt (blk_lt (bk_ BK254)) : gb254 ≠ gb256)); have n9_ := Aside0.mk ((by rw [hg]; exact Nat.ne_of_gt (blk_lt (bk_ BK254)) : gb256 ≠ gb254)); clear BK253; clear BK254; clear HB; have BK253 := n0_; have BK254 := n1_; have HB := n2_; have BK256 := n3_; have GW256 := n4_; have GE256 := n5_; have NB253_256 := n6_; have NB256_253 := n7_; have NB254_256 := n8_; have NB256_254 := n9_; clear n0_ n1_ n2_ n3_ n4_ n5_ n6_ n7_ n8_ n9_; clear hb hbox hg; have hnb44 := NB256_253.out; have hnc44 := NB253_256.out; have hnb45 := NB256_254.out; have hnc45 := NB254_256.out; have hcz46_0 := cz_ BK256 0 (.string (⟨#[]⟩ : ByteArray)); have hcz46_1 := cz_ BK256 1 (.int .i64 0); have hcz46_2 := cz_ BK256 2 (.int .i64 0); have hfz46_0 := fz_ BK256 0; have hfz46_1 := fz_ BK256 1; have hfz46_2 := fz_ BK256 2; have hnb47 := NB254_253.out; have hnc47 := NB253_254.out; have hcz48_0 := cz_ BK254 0 (.string a1_0); have hcz48_1 := cz_ BK254 1 (.int .i64 a1_1); have hcz48_2 := cz_ BK254 2 (.int .i64 a1_2); have hcz48_3 := cz_ BK254 3 (.int .i64 a1_3); have hcz48_4 := cz_ BK254 4 (.int .i64 a1_4); have hcz48_5 := cz_ BK254 5 (.slice A1_5 l1_5.length c1_5); have hcz48_6 := cz_ BK254 6 (.int .i64 a1_6); have hcz48_7 := cz_ BK254 7 (.int .i64 a1_7); have hcz48_8 := cz_ BK254 8 (.slice A1_8 l1_8.length c1_8); have hcz48_9 := cz_ BK254 9 (.slice A1_9 l1_9.length c1_9); have hcz48_10 := cz_ BK254 10 (.slice A1_10 l1_10.length c1_10); have hfz48_0 := fz_ BK254 0; have hfz48_1 := fz_ BK254 1; have hfz48_2 := fz_ BK254 2; have hfz48_3 := fz_ BK254 3; have hfz48_4 := fz_ BK254 4; have hfz48_5 := fz_ BK254 5; have hfz48_6 := fz_ BK254 6; have hfz48_7 := fz_ BK254 7; have hfz48_8 := fz_ BK254 8; have hfz48_9 := fz_ BK254 9; have hfz48_10 := fz_ BK254 10; have p257 : 0 ≤ (x52_2 : Int) := od_; have q257 : x52_2 < (l1_5.length : Int) := od_; obtain ⟨ad257, e257, hx257_0, hx257_1, hx257_2⟩ := at_T60 HR1_5.out x52_2 p257 q257; cases e257; have hn257_0 : ad257.block ≠ gb256 := nl_ hx257_0 GW256; have hn257_1 : ad257.block ≠ gb256 := nl_ hx257_0 GW256; have hn257_2 : ad257.block ≠ gb256 := nl_ hx257_0 GW256; replace hx257_0 := kc_ HB hx257_0; replace hx257_1 := kc_ HB hx257_1; replace hx257_2 := kc_ HB hx257_2; replace hx257_0 := (cell_far (p := ⟨gb256, 0, none⟩) (fr_ hn257_0) (.string ((rd_T60 l0_5 x52_2).f0))).trans hx257_0; replace hx257_1 := (cell_far (p := ⟨gb256, 0, none⟩) (fr_ hn257_0) (.string ((rd_T60 l0_5 x52_2).f0))).trans hx257_1; replace hx257_2 := (cell_far (p := ⟨gb256, 0, none⟩) (fr_ hn257_0) (.string ((rd_T60 l0_5 x52_2).f0))).trans hx257_2; replace hx257_0 := (cell_far (p := ⟨gb256, 1, none⟩) (fr_ hn257_1) (.int .i64 ((rd_T60 l0_5 x52_2).f1))).trans hx257_0; replace hx257_1 := (cell_far (p := ⟨gb256, 1, none⟩) (fr_ hn257_1) (.int .i64 ((rd_T60 l0_5 x52_2).f1))).trans hx257_1; replace hx257_2 := (cell_far (p := ⟨gb256, 1, none⟩) (fr_ hn257_1) (.int .i64 ((rd_T60 l0_5 x52_2).f1))).trans hx257_2; replace hx257_0 := (cell_far (p := ⟨gb256, 2, none⟩) (fr_ hn257_2) (.int .i64 ((rd_T60 l0_5 x52_2).f2))).trans hx257_0; replace hx257_1 := (cell_far (p := ⟨gb256, 2, none⟩) (fr_ hn257_2) (.int .i64 ((rd_T60 l0_5 x52_2).f2))).trans hx257_1; replace hx257_2 := (cell_far (p := ⟨gb256, 2, none⟩) (fr_ hn257_2) (.int .i64 ((rd_T60 l0_5 x52_2).f2))).trans hx257_2; (try have hy257_0 := fun (n_ : Nat) => (show (((((w43.drewN n_).setCell ⟨gb256, 0, none⟩ (.string ((rd_T60 l0_5 x52_2).f0))).setCell ⟨gb256, 1, none⟩ (.int .i64 ((rd_T60 l0_5 x52_2).f1))).setCell ⟨gb256, 2, none⟩ (.int .i64 ((rd_T60 l0_5 x52_2).f2)))).cell? _ = some _ from hx257_0)); (try have hy257_1 := fun (n_ : Nat) => (show (((((w43.drewN n_).setCell ⟨gb256, 0, none⟩ (.string ((rd_T60 l0_5 x52_2).f0))).setCell ⟨gb256, 1, none⟩ (.int .i64 ((rd_T60 l0_5 x52_2).f1))).setCell ⟨gb256, 2, none⟩ (.int .i64 ((rd_T60 l0_5 x52_2).f2)))).cell? _ = some _ from hx257_1)); (try have hy257_2 := fun (n_ : Nat) => (show (((((w43.drewN n_).setCell ⟨gb256, 0, none⟩ (.string ((rd_T60 l0_5 x52_2).f0))).setCell ⟨gb256, 1, none⟩ (.int .i64 ((rd_T60 l0_5 x52_2).f1))).setCell ⟨gb256, 2, none⟩ (.int .i64 ((rd_T60 l0_5 x52_2).f2)))).cell? _ = some _ from hx257_2)); clear hn257_0; clear hn257_1; clear hn257_2; replace p257 := eq_true p257; replace q257 := eq_true q257)))
                      go_roundg k2
                      case measure => have := HJ2.out; have := HK2.out; omega
                      case rel => exact ⟨(wrap64 (x52_2 + 1)), sp_, H', ⟨by have := HJ2.out; have := HK2.out; omega⟩, ⟨by (with_reducible repeat (first | refine blk_drewN ?_ _ | refine blk_drew ?_ | refine blk_alloc ?_ _)); refine blk_far ?_ NB253_256.out _; (with_reducible repeat (first | refine blk_drewN ?_ _ | refine blk_drew ?_ | refine blk_alloc ?_ _)); refine blk_far ?_ NB253_256.out _; (with_reducible repeat (first | refine blk_drewN ?_ _ | refine blk_drew ?_ | refine blk_alloc ?_ _)); refine blk_far ?_ NB253_256.out _; (with_reducible repeat (first | refine blk_drewN ?_ _ | refine blk_drew ?_ | refine blk_alloc ?_ _)); exact BK253.out⟩, ⟨by (with_reducible repeat (first | refine blk_drewN ?_ _ | refine blk_drew ?_ | refine blk_alloc ?_ _)); refine blk_far ?_ NB254_256.out _; (with_reducible repeat (first | refine blk_drewN ?_ _ | refine blk_drew ?_ | refine blk_alloc ?_ _)); refine blk_far ?_ NB254_256.out _; (with_reducible repeat (first | refine blk_drewN ?_ _ | refine blk_drew ?_ | refine blk_alloc ?_ _)); refine blk_far ?_ NB254_256.out _; (with_reducible repeat (first | refine blk_drewN ?_ _ | refine blk_drew ?_ | refine blk_alloc ?_ _)); exact BK254.out⟩, ⟨bl_⟩⟩
                  · rw [if_neg c35] at H
                    exact absurd H (by simp)
                · rw [if_neg c34] at H
                  exact absurd H (by simp)
              · rw [if_neg c33] at H
                exact absurd H (by simp)
            · rw [if_neg c32] at H
              have c32b0 : decide (x52_2 < (l0_5.length : Int)) = false := decide_eq_false c32
              clear c32
              replace H := Option.bind_eq_some_iff.mp H
              obtain ⟨t258, A490, H⟩ := H
              replace H : (if t258 = true then ((spec_SlotsSame.f k2 l0_10 l1_10).bind fun t259 => (some t259)) else (some false)) = some r := H
              have A49 := Aside0.mk A490
              clear A490
              by_cases c50 : t258 = true
              · subst c50
                have H1 : ((spec_SlotsSame.f k2 l0_10 l1_10).bind fun t259 => (some t259)) = some r := by rw [if_pos rfl] at H; exact H
                clear H
                have H := H1
                clear H1
                replace H := Option.bind_eq_some_iff.mp H
                obtain ⟨t259, A510, H⟩ := H
                replace H : (some t259) = some r := H
                have A51 := Aside0.mk A510
                clear A510
                obtain rfl := Option.some.inj H
                have hnb52 := NB253_254.out
                have hnc52 := NB254_253.out
                have hcz53_0 := cz_ BK253 0 (.string a0_0)
                have hcz53_1 := cz_ BK253 1 (.int .i64 a0_1)
                have hcz53_2 := cz_ BK253 2 (.int .i64 a0_2)
                have hcz53_3 := cz_ BK253 3 (.int .i64 a0_3)
                have hcz53_4 := cz_ BK253 4 (.int .i64 a0_4)
                have hcz53_5 := cz_ BK253 5 (.slice A0_5 l0_5.length c0_5)
                have hcz53_6 := cz_ BK253 6 (.int .i64 a0_6)
                have hcz53_7 := cz_ BK253 7 (.int .i64 a0_7)
                have hcz53_8 := cz_ BK253 8 (.slice A0_8 l0_8.length c0_8)
                have hcz53_9 := cz_ BK253 9 (.slice A0_9 l0_9.length c0_9)
                have hcz53_10 := cz_ BK253 10 (.slice A0_10 l0_10.length c0_10)
                have hfz53_0 := fz_ BK253 0
                have hfz53_1 := fz_ BK253 1
                have hfz53_2 := fz_ BK253 2
                have hfz53_3 := fz_ BK253 3
                have hfz53_4 := fz_ BK253 4
                have hfz53_5 := fz_ BK253 5
                have hfz53_6 := fz_ BK253 6
                have hfz53_7 := fz_ BK253 7
                have hfz53_8 := fz_ BK253 8
                have hfz53_9 := fz_ BK253 9
                have hfz53_10 := fz_ BK253 10
                have hcz54_0 := cz_ BK254 0 (.string a1_0)
                have hcz54_1 := cz_ BK254 1 (.int .i64 a1_1)
                have hcz54_2 := cz_ BK254 2 (.int .i64 a1_2)
                have hcz54_3 := cz_ BK254 3 (.int .i64 a1_3)
                have hcz54_4 := cz_ BK254 4 (.int .i64 a1_4)
                have hcz54_5 := cz_ BK254 5 (.slice A1_5 l1_5.length c1_5)
                have hcz54_6 := cz_ BK254 6 (.int .i64 a1_6)
                have hcz54_7 := cz_ BK254 7 (.int .i64 a1_7)
                have hcz54_8 := cz_ BK254 8 (.slice A1_8 l1_8.length c1_8)
                have hcz54_9 := cz_ BK254 9 (.slice A1_9 l1_9.length c1_9)
                have hcz54_10 := cz_ BK254 10 (.slice A1_10 l1_10.length c1_10)
                have hfz54_0 := fz_ BK254 0
                have hfz54_1 := fz_ BK254 1
                have hfz54_2 := fz_ BK254 2
                have hfz54_3 := fz_ BK254 3
                have hfz54_4 := fz_ BK254 4
                have hfz54_5 := fz_ BK254 5
                have hfz54_6 := fz_ BK254 6
                have hfz54_7 := fz_ BK254 7
                have hfz54_8 := fz_ BK254 8
                have hfz54_9 := fz_ BK254 9
                have hfz54_10 := fz_ BK254 10
                go_wp2_with (first | (go_at_call 111; (with_reducible refine (spec_l06Same.calls k2 a0_6 a0_7 _ _ l0_8 _ _ l0_9 a1_6 a1_7 _ _ l1_8 _ _ l1_9 true _ ?side1 ?side2 ?side3 ?side4 ?side5 ?side6 ?side7 ?side8 A49.out).mono ?_); (case side1 => exact ca_ (Kd.C_below HR0_8.out HB.out)); (case side2 => exact HC0_8.out); (case side3 => exact ca_ (Kd.C_below HR0_9.out HB.out)); (case side4 => exact HC0_9.out); (case side5 => exact ca_ (Kd.C_below HR1_8.out HB.out)); (case side6 => exact HC1_8.out); (case side7 => exact ca_ (Kd.C_below HR1_9.out HB.out)); (case side8 => exact HC1_9.out); rintro e w55 ⟨rfl, hb⟩; have n0_ := Aside0.mk (blk_below (bk_ BK253) hb); have n1_ := Aside0.mk (blk_below (bk_ BK254) hb); have n2_ := Aside0.mk (below_step bl_ hb); clear BK253; clear BK254; clear HB; have BK253 := n0_; have BK254 := n1_; have HB := n2_; clear n0_ n1_ n2_; (try clear hb); (try clear hb2); (try clear hk); (try clear hi); have hcz56_0 := cz_ BK253 0 (.string a0_0); have hcz56_1 := cz_ BK253 1 (.int .i64 a0_1); have hcz56_2 := cz_ BK253 2 (.int .i64 a0_2); have hcz56_3 := cz_ BK253 3 (.int .i64 a0_3); have hcz56_4 := cz_ BK253 4 (.int .i64 a0_4); have hcz56_5 := cz_ BK253 5 (.slice A0_5 l0_5.length c0_5); have hcz56_6 := cz_ BK253 6 (.int .i64 a0_6); have hcz56_7 := cz_ BK253 7 (.int .i64 a0_7); have hcz56_8 := cz_ BK253 8 (.slice A0_8 l0_8.length c0_8); have hcz56_9 := cz_ BK253 9 (.slice A0_9 l0_9.length c0_9); have hcz56_10 := cz_ BK253 10 (.slice A0_10 l0_10.length c0_10); have hfz56_0 := fz_ BK253 0; have hfz56_1 := fz_ BK253 1; have hfz56_2 := fz_ BK253 2; have hfz56_3 := fz_ BK253 3; have hfz56_4 := fz_ BK253 4; have hfz56_5 := fz_ BK253 5; have hfz56_6 := fz_ BK253 6; have hfz56_7 := fz_ BK253 7; have hfz56_8 := fz_ BK253 8; have hfz56_9 := fz_ BK253 9; have hfz56_10 := fz_ BK253 10; have hcz57_0 := cz_ BK254 0 (.string a1_0); have hcz57_1 := cz_ BK254 1 (.int .i64 a1_1); have hcz57_2 := cz_ BK254 2 (.int .i64 a1_2); have hcz57_3 := cz_ BK254 3 (.int .i64 a1_3); have hcz57_4 := cz_ BK254 4 (.int .i64 a1_4); have hcz57_5 := cz_ BK254 5 (.slice A1_5 l1_5.length c1_5); have hcz57_6 := cz_ BK254 6 (.int .i64 a1_6); have hcz57_7 := cz_ BK254 7 (.int .i64 a1_7); have hcz57_8 := cz_ BK254 8 (.slice A1_8 l1_8.length c1_8); have hcz57_9 := cz_ BK254 9 (.slice A1_9 l1_9.length c1_9); have hcz57_10 := cz_ BK254 10 (.slice A1_10 l1_10.length c1_10); have hfz57_0 := fz_ BK254 0; have hfz57_1 := fz_ BK254 1; have hfz57_2 := fz_ BK254 2; have hfz57_3 := fz_ BK254 3; have hfz57_4 := fz_ BK254 4; have hfz57_5 := fz_ BK254 5; have hfz57_6 := fz_ BK254 6; have hfz57_7 := fz_ BK254 7; have hfz57_8 := fz_ BK254 8; have hfz57_9 := fz_ BK254 9; have hfz57_10 := fz_ BK254 10) | (go_at_call 112; (with_reducible refine (spec_SlotsSame.calls k2 _ _ l0_10 _ _ l1_10 t259 _ ?side1 ?side2 ?side3 ?side4 A51.out).mono ?_); (case side1 => exact ca_ (Kd.C_below HR0_10.out HB.out)); (case side2 => exact HC0_10.out); (case side3 => exact ca_ (Kd.C_below HR1_10.out HB.out)); (case side4 => exact HC1_10.out); rintro e w58 ⟨rfl, hb⟩; have n0_ := Aside0.mk (blk_below (bk_ BK253) hb); have n1_ := Aside0.mk (blk_below (bk_ BK254) hb); have n2_ := Aside0.mk (below_step bl_ hb); clear BK253; clear BK254; clear HB; have BK253 := n0_; have BK254 := n1_; have HB := n2_; clear n0_ n1_ n2_; (try clear hb); (try clear hb2); (try clear hk); (try clear hi)))
                repeat (go_quiet (first | (go_at_call 111; (with_reducible refine (spec_l06Same.calls k2 a0_6 a0_7 _ _ l0_8 _ _ l0_9 a1_6 a1_7 _ _ l1_8 _ _ l1_9 true _ ?side1 ?side2 ?side3 ?side4 ?side5 ?side6 ?side7 ?side8 A49.out).mono ?_); (case side1 => exact ca_ (Kd.C_below HR0_8.out HB.out)); (case side2 => exact HC0_8.out); (case side3 => exact ca_ (Kd.C_below HR0_9.out HB.out)); (case side4 => exact HC0_9.out); (case side5 => exact ca_ (Kd.C_below HR1_8.out HB.out)); (case side6 => exact HC1_8.out); (case side7 => exact ca_ (Kd.C_below HR1_9.out HB.out)); (case side8 => exact HC1_9.out); rintro e w55 ⟨rfl, hb⟩; have n0_ := Aside0.mk (blk_below (bk_ BK253) hb); have n1_ := Aside0.mk (blk_below (bk_ BK254) hb); have n2_ := Aside0.mk (below_step bl_ hb); clear BK253; clear BK254; clear HB; have BK253 := n0_; have BK254 := n1_; have HB := n2_; clear n0_ n1_ n2_; (try clear hb); (try clear hb2); (try clear hk); (try clear hi); have hcz56_0 := cz_ BK253 0 (.string a0_0); have hcz56_1 := cz_ BK253 1 (.int .i64 a0_1); have hcz56_2 := cz_ BK253 2 (.int .i64 a0_2); have hcz56_3 := cz_ BK253 3 (.int .i64 a0_3); have hcz56_4 := cz_ BK253 4 (.int .i64 a0_4); have hcz56_5 := cz_ BK253 5 (.slice A0_5 l0_5.length c0_5); have hcz56_6 := cz_ BK253 6 (.int .i64 a0_6); have hcz56_7 := cz_ BK253 7 (.int .i64 a0_7); have hcz56_8 := cz_ BK253 8 (.slice A0_8 l0_8.length c0_8); have hcz56_9 := cz_ BK253 9 (.slice A0_9 l0_9.length c0_9); have hcz56_10 := cz_ BK253 10 (.slice A0_10 l0_10.length c0_10); have hfz56_0 := fz_ BK253 0; have hfz56_1 := fz_ BK253 1; have hfz56_2 := fz_ BK253 2; have hfz56_3 := fz_ BK253 3; have hfz56_4 := fz_ BK253 4; have hfz56_5 := fz_ BK253 5; have hfz56_6 := fz_ BK253 6; have hfz56_7 := fz_ BK253 7; have hfz56_8 := fz_ BK253 8; have hfz56_9 := fz_ BK253 9; have hfz56_10 := fz_ BK253 10; have hcz57_0 := cz_ BK254 0 (.string a1_0); have hcz57_1 := cz_ BK254 1 (.int .i64 a1_1); have hcz57_2 := cz_ BK254 2 (.int .i64 a1_2); have hcz57_3 := cz_ BK254 3 (.int .i64 a1_3); have hcz57_4 := cz_ BK254 4 (.int .i64 a1_4); have hcz57_5 := cz_ BK254 5 (.slice A1_5 l1_5.length c1_5); have hcz57_6 := cz_ BK254 6 (.int .i64 a1_6); have hcz57_7 := cz_ BK254 7 (.int .i64 a1_7); have hcz57_8 := cz_ BK254 8 (.slice A1_8 l1_8.length c1_8); have hcz57_9 := cz_ BK254 9 (.slice A1_9 l1_9.length c1_9); have hcz57_10 := cz_ BK254 10 (.slice A1_10 l1_10.length c1_10); have hfz57_0 := fz_ BK254 0; have hfz57_1 := fz_ BK254 1; have hfz57_2 := fz_ BK254 2; have hfz57_3 := fz_ BK254 3; have hfz57_4 := fz_ BK254 4; have hfz57_5 := fz_ BK254 5; have hfz57_6 := fz_ BK254 6; have hfz57_7 := fz_ BK254 7; have hfz57_8 := fz_ BK254 8; have hfz57_9 := fz_ BK254 9; have hfz57_10 := fz_ BK254 10) | (go_at_call 112; (with_reducible refine (spec_SlotsSame.calls k2 _ _ l0_10 _ _ l1_10 t259 _ ?side1 ?side2 ?side3 ?side4 A51.out).mono ?_); (case side1 => exact ca_ (Kd.C_below HR0_10.out HB.out)); (case side2 => exact HC0_10.out); (case side3 => exact ca_ (Kd.C_below HR1_10.out HB.out)); (case side4 => exact HC1_10.out); rintro e w58 ⟨rfl, hb⟩; have n0_ := Aside0.mk (blk_below (bk_ BK253) hb); have n1_ := Aside0.mk (blk_below (bk_ BK254) hb); have n2_ := Aside0.mk (below_step bl_ hb); clear BK253; clear BK254; clear HB; have BK253 := n0_; have BK254 := n1_; have HB := n2_; clear n0_ n1_ n2_; (try clear hb); (try clear hb2); (try clear hk); (try clear hi))); try go_wp2_with (first | (go_at_call 111; (with_reducible refine (spec_l06Same.calls k2 a0_6 a0_7 _ _ l0_8 _ _ l0_9 a1_6 a1_7 _ _ l1_8 _ _ l1_9 true _ ?side1 ?side2 ?side3 ?side4 ?side5 ?side6 ?side7 ?side8 A49.out).mono ?_); (case side1 => exact ca_ (Kd.C_below HR0_8.out HB.out)); (case side2 => exact HC0_8.out); (case side3 => exact ca_ (Kd.C_below HR0_9.out HB.out)); (case side4 => exact HC0_9.out); (case side5 => exact ca_ (Kd.C_below HR1_8.out HB.out)); (case side6 => exact HC1_8.out); (case side7 => exact ca_ (Kd.C_below HR1_9.out HB.out)); (case side8 => exact HC1_9.out); rintro e w55 ⟨rfl, hb⟩; have n0_ := Aside0.mk (blk_below (bk_ BK253) hb); have n1_ := Aside0.mk (blk_below (bk_ BK254) hb); have n2_ := Aside0.mk (below_step bl_ hb); clear BK253; clear BK254; clear HB; have BK253 := n0_; have BK254 := n1_; have HB := n2_; clear n0_ n1_ n2_; (try clear hb); (try clear hb2); (try clear hk); (try clear hi); have hcz56_0 := cz_ BK253 0 (.string a0_0); have hcz56_1 := cz_ BK253 1 (.int .i64 a0_1); have hcz56_2 := cz_ BK253 2 (.int .i64 a0_2); have hcz56_3 := cz_ BK253 3 (.int .i64 a0_3); have hcz56_4 := cz_ BK253 4 (.int .i64 a0_4); have hcz56_5 := cz_ BK253 5 (.slice A0_5 l0_5.length c0_5); have hcz56_6 := cz_ BK253 6 (.int .i64 a0_6); have hcz56_7 := cz_ BK253 7 (.int .i64 a0_7); have hcz56_8 := cz_ BK253 8 (.slice A0_8 l0_8.length c0_8); have hcz56_9 := cz_ BK253 9 (.slice A0_9 l0_9.length c0_9); have hcz56_10 := cz_ BK253 10 (.slice A0_10 l0_10.length c0_10); have hfz56_0 := fz_ BK253 0; have hfz56_1 := fz_ BK253 1; have hfz56_2 := fz_ BK253 2; have hfz56_3 := fz_ BK253 3; have hfz56_4 := fz_ BK253 4; have hfz56_5 := fz_ BK253 5; have hfz56_6 := fz_ BK253 6; have hfz56_7 := fz_ BK253 7; have hfz56_8 := fz_ BK253 8; have hfz56_9 := fz_ BK253 9; have hfz56_10 := fz_ BK253 10; have hcz57_0 := cz_ BK254 0 (.string a1_0); have hcz57_1 := cz_ BK254 1 (.int .i64 a1_1); have hcz57_2 := cz_ BK254 2 (.int .i64 a1_2); have hcz57_3 := cz_ BK254 3 (.int .i64 a1_3); have hcz57_4 := cz_ BK254 4 (.int .i64 a1_4); have hcz57_5 := cz_ BK254 5 (.slice A1_5 l1_5.length c1_5); have hcz57_6 := cz_ BK254 6 (.int .i64 a1_6); have hcz57_7 := cz_ BK254 7 (.int .i64 a1_7); have hcz57_8 := cz_ BK254 8 (.slice A1_8 l1_8.length c1_8); have hcz57_9 := cz_ BK254 9 (.slice A1_9 l1_9.length c1_9); have hcz57_10 := cz_ BK254 10 (.slice A1_10 l1_10.length c1_10); have hfz57_0 := fz_ BK254 0; have hfz57_1 := fz_ BK254 1; have hfz57_2 := fz_ BK254 2; have hfz57_3 := fz_ BK254 3; have hfz57_4 := fz_ BK254 4; have hfz57_5 := fz_ BK254 5; have hfz57_6 := fz_ BK254 6; have hfz57_7 := fz_ BK254 7; have hfz57_8 := fz_ BK254 8; have hfz57_9 := fz_ BK254 9; have hfz57_10 := fz_ BK254 10) | (go_at_call 112; (with_reducible refine (spec_SlotsSame.calls k2 _ _ l0_10 _ _ l1_10 t259 _ ?side1 ?side2 ?side3 ?side4 A51.out).mono ?_); (case side1 => exact ca_ (Kd.C_below HR0_10.out HB.out)); (case side2 => exact HC0_10.out); (case side3 => exact ca_ (Kd.C_below HR1_10.out HB.out)); (case side4 => exact HC1_10.out); rintro e w58 ⟨rfl, hb⟩; have n0_ := Aside0.mk (blk_below (bk_ BK253) hb); have n1_ := Aside0.mk (blk_below (bk_ BK254) hb); have n2_ := Aside0.mk (below_step bl_ hb); clear BK253; clear BK254; clear HB; have BK253 := n0_; have BK254 := n1_; have HB := n2_; clear n0_ n1_ n2_; (try clear hb); (try clear hb2); (try clear hk); (try clear hi))))
                go_ret
                exact ⟨by first | rfl | (simp [errW_none, errW_some] <;> rfl) | (simp [*, errW_none, errW_some] <;> rfl), bl_⟩
              · replace c50 := Bool.eq_false_iff.mpr c50
                subst c50
                have H1 : (some false) = some r := by rw [if_neg (show ¬ (false = true) by decide)] at H; exact H
                clear H
                have H := H1
                clear H1
                obtain rfl := Option.some.inj H
                have hnb59 := NB253_254.out
                have hnc59 := NB254_253.out
                have hcz60_0 := cz_ BK253 0 (.string a0_0)
                have hcz60_1 := cz_ BK253 1 (.int .i64 a0_1)
                have hcz60_2 := cz_ BK253 2 (.int .i64 a0_2)
                have hcz60_3 := cz_ BK253 3 (.int .i64 a0_3)
                have hcz60_4 := cz_ BK253 4 (.int .i64 a0_4)
                have hcz60_5 := cz_ BK253 5 (.slice A0_5 l0_5.length c0_5)
                have hcz60_6 := cz_ BK253 6 (.int .i64 a0_6)
                have hcz60_7 := cz_ BK253 7 (.int .i64 a0_7)
                have hcz60_8 := cz_ BK253 8 (.slice A0_8 l0_8.length c0_8)
                have hcz60_9 := cz_ BK253 9 (.slice A0_9 l0_9.length c0_9)
                have hcz60_10 := cz_ BK253 10 (.slice A0_10 l0_10.length c0_10)
                have hfz60_0 := fz_ BK253 0
                have hfz60_1 := fz_ BK253 1
                have hfz60_2 := fz_ BK253 2
                have hfz60_3 := fz_ BK253 3
                have hfz60_4 := fz_ BK253 4
                have hfz60_5 := fz_ BK253 5
                have hfz60_6 := fz_ BK253 6
                have hfz60_7 := fz_ BK253 7
                have hfz60_8 := fz_ BK253 8
                have hfz60_9 := fz_ BK253 9
                have hfz60_10 := fz_ BK253 10
                have hcz61_0 := cz_ BK254 0 (.string a1_0)
                have hcz61_1 := cz_ BK254 1 (.int .i64 a1_1)
                have hcz61_2 := cz_ BK254 2 (.int .i64 a1_2)
                have hcz61_3 := cz_ BK254 3 (.int .i64 a1_3)
                have hcz61_4 := cz_ BK254 4 (.int .i64 a1_4)
                have hcz61_5 := cz_ BK254 5 (.slice A1_5 l1_5.length c1_5)
                have hcz61_6 := cz_ BK254 6 (.int .i64 a1_6)
                have hcz61_7 := cz_ BK254 7 (.int .i64 a1_7)
                have hcz61_8 := cz_ BK254 8 (.slice A1_8 l1_8.length c1_8)
                have hcz61_9 := cz_ BK254 9 (.slice A1_9 l1_9.length c1_9)
                have hcz61_10 := cz_ BK254 10 (.slice A1_10 l1_10.length c1_10)
                have hfz61_0 := fz_ BK254 0
                have hfz61_1 := fz_ BK254 1
                have hfz61_2 := fz_ BK254 2
                have hfz61_3 := fz_ BK254 3
                have hfz61_4 := fz_ BK254 4
                have hfz61_5 := fz_ BK254 5
                have hfz61_6 := fz_ BK254 6
                have hfz61_7 := fz_ BK254 7
                have hfz61_8 := fz_ BK254 8
                have hfz61_9 := fz_ BK254 9
                have hfz61_10 := fz_ BK254 10
                go_wp2_with (first | (go_at_call 111; (with_reducible refine (spec_l06Same.calls k2 a0_6 a0_7 _ _ l0_8 _ _ l0_9 a1_6 a1_7 _ _ l1_8 _ _ l1_9 false _ ?side1 ?side2 ?side3 ?side4 ?side5 ?side6 ?side7 ?side8 A49.out).mono ?_); (case side1 => exact ca_ (Kd.C_below HR0_8.out HB.out)); (case side2 => exact HC0_8.out); (case side3 => exact ca_ (Kd.C_below HR0_9.out HB.out)); (case side4 => exact HC0_9.out); (case side5 => exact ca_ (Kd.C_below HR1_8.out HB.out)); (case side6 => exact HC1_8.out); (case side7 => exact ca_ (Kd.C_below HR1_9.out HB.out)); (case side8 => exact HC1_9.out); rintro e w62 ⟨rfl, hb⟩; have n0_ := Aside0.mk (blk_below (bk_ BK253) hb); have n1_ := Aside0.mk (blk_below (bk_ BK254) hb); have n2_ := Aside0.mk (below_step bl_ hb); clear BK253; clear BK254; clear HB; have BK253 := n0_; have BK254 := n1_; have HB := n2_; clear n0_ n1_ n2_; (try clear hb); (try clear hb2); (try clear hk); (try clear hi)))
                repeat (go_quiet (first | (go_at_call 111; (with_reducible refine (spec_l06Same.calls k2 a0_6 a0_7 _ _ l0_8 _ _ l0_9 a1_6 a1_7 _ _ l1_8 _ _ l1_9 false _ ?side1 ?side2 ?side3 ?side4 ?side5 ?side6 ?side7 ?side8 A49.out).mono ?_); (case side1 => exact ca_ (Kd.C_below HR0_8.out HB.out)); (case side2 => exact HC0_8.out); (case side3 => exact ca_ (Kd.C_below HR0_9.out HB.out)); (case side4 => exact HC0_9.out); (case side5 => exact ca_ (Kd.C_below HR1_8.out HB.out)); (case side6 => exact HC1_8.out); (case side7 => exact ca_ (Kd.C_below HR1_9.out HB.out)); (case side8 => exact HC1_9.out); rintro e w62 ⟨rfl, hb⟩; have n0_ := Aside0.mk (blk_below (bk_ BK253) hb); have n1_ := Aside0.mk (blk_below (bk_ BK254) hb); have n2_ := Aside0.mk (below_step bl_ hb); clear BK253; clear BK254; clear HB; have BK253 := n0_; have BK254 := n1_; have HB := n2_; clear n0_ n1_ n2_; (try clear hb); (try clear hb2); (try clear hk); (try clear hi))); try go_wp2_with (first | (go_at_call 111; (with_reducible refine (spec_l06Same.calls k2 a0_6 a0_7 _ _ l0_8 _ _ l0_9 a1_6 a1_7 _ _ l1_8 _ _ l1_9 false _ ?side1 ?side2 ?side3 ?side4 ?side5 ?side6 ?side7 ?side8 A49.out).mono ?_); (case side1 => exact ca_ (Kd.C_below HR0_8.out HB.out)); (case side2 => exact HC0_8.out); (case side3 => exact ca_ (Kd.C_below HR0_9.out HB.out)); (case side4 => exact HC0_9.out); (case side5 => exact ca_ (Kd.C_below HR1_8.out HB.out)); (case side6 => exact HC1_8.out); (case side7 => exact ca_ (Kd.C_below HR1_9.out HB.out)); (case side8 => exact HC1_9.out); rintro e w62 ⟨rfl, hb⟩; have n0_ := Aside0.mk (blk_below (bk_ BK253) hb); have n1_ := Aside0.mk (blk_below (bk_ BK254) hb); have n2_ := Aside0.mk (below_step bl_ hb); clear BK253; clear BK254; clear HB; have BK253 := n0_; have BK254 := n1_; have HB := n2_; clear n0_ n1_ n2_; (try clear hb); (try clear hb2); (try clear hk); (try clear hi))))
                go_ret
                exact ⟨by first | rfl | (simp [errW_none, errW_some] <;> rfl) | (simp [*, errW_none, errW_some] <;> rfl), bl_⟩

end Go.Proofs.Ytcojjdfbdgpajaa.QFnExactBookSame
