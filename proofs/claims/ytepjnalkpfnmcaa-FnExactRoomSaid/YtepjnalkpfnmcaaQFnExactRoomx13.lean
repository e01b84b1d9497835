-- by my own printer (myprint.py, over the kit's print.py)
import Derived.Test.YtepjnalkpfnmcaaQFnExactRoomx0
import Derived.Test.YtepjnalkpfnmcaaQFnExactRoomx8
import Derived.Test.YtepjnalkpfnmcaaQFnExactRoomx9
import Derived.Test.YtepjnalkpfnmcaaQFnExactRoomx12
namespace Go.Proofs.Ytepjnalkpfnmcaa.QFnExactRoom
open Go.RowKit Go.Proofs.YtepjnalkpfnmcaaW.PrintWords Go.Proofs.YtepjnalkpfnmcaaW.PrintLast Go.Proofs.YtepjnalkpfnmcaaW.PrintMore
attribute [local go_sem] max2_int min2_int max_two min_two max_three min_three max_four min_four   -- for this text's walks alone
set_option linter.unusedVariables false
set_option linter.unusedSimpArgs false

attribute [local go_sem] my_geq my_leq my_gtr
abbrev tb10_0_13 : Array Bool := #[b0, b0, b0, b0, b0, b0, b0, b0, b0, b0]
abbrev tb10_1_13 : Array Bool := #[b1, b0, b0, b0, b0, b0, b0, b0, b0, b0]
abbrev tb10_17_13 : Array Bool := #[b1, b1, b1, b0, b1, b0, b0, b0, b0, b0]
abbrev tb10_1ff_13 : Array Bool := #[b1, b1, b1, b1, b1, b1, b1, b1, b1, b0]
abbrev tb10_3_13 : Array Bool := #[b1, b1, b0, b0, b0, b0, b0, b0, b0, b0]
abbrev tb10_37_13 : Array Bool := #[b1, b1, b1, b0, b1, b1, b0, b0, b0, b0]
abbrev tb10_3ff_13 : Array Bool := #[b1, b1, b1, b1, b1, b1, b1, b1, b1, b1]
abbrev tb10_7_13 : Array Bool := #[b1, b1, b1, b0, b0, b0, b0, b0, b0, b0]
abbrev tb10_77_13 : Array Bool := #[b1, b1, b1, b0, b1, b1, b1, b0, b0, b0]
abbrev tb10_7f_13 : Array Bool := #[b1, b1, b1, b1, b1, b1, b1, b0, b0, b0]
abbrev tb10_ff_13 : Array Bool := #[b1, b1, b1, b1, b1, b1, b1, b1, b0, b0]
abbrev tb11_0_13 : Array Bool := #[b0, b0, b0, b0, b0, b0, b0, b0, b0, b0, b0]
abbrev tb11_1_13 : Array Bool := #[b1, b0, b0, b0, b0, b0, b0, b0, b0, b0, b0]
abbrev tb11_1ff_13 : Array Bool := #[b1, b1, b1, b1, b1, b1, b1, b1, b1, b0, b0]
abbrev tb11_25_13 : Array Bool := #[b1, b0, b1, b0, b0, b1, b0, b0, b0, b0, b0]
abbrev tb11_3ff_13 : Array Bool := #[b1, b1, b1, b1, b1, b1, b1, b1, b1, b1, b0]
abbrev tb11_5_13 : Array Bool := #[b1, b0, b1, b0, b0, b0, b0, b0, b0, b0, b0]
abbrev tb11_7ff_13 : Array Bool := #[b1, b1, b1, b1, b1, b1, b1, b1, b1, b1, b1]
abbrev tb11_a5_13 : Array Bool := #[b1, b0, b1, b0, b0, b1, b0, b1, b0, b0, b0]
abbrev tb11_a7_13 : Array Bool := #[b1, b1, b1, b0, b0, b1, b0, b1, b0, b0, b0]
abbrev tb11_af_13 : Array Bool := #[b1, b1, b1, b1, b0, b1, b0, b1, b0, b0, b0]
abbrev tb11_bf_13 : Array Bool := #[b1, b1, b1, b1, b1, b1, b0, b1, b0, b0, b0]
abbrev tb11_ff_13 : Array Bool := #[b1, b1, b1, b1, b1, b1, b1, b1, b0, b0, b0]
/-! ### impl_Room: function 29 -/
def impl_Room.f (k : Nat) (a0_0 : ByteArray) (a0_1 : Int) (a0_2 : Int) (a0_3 : Int) (a0_4 : Int) (l0_5 : List (S93)) (a0_6 : Int) (a0_7 : Int) (l0_8 : List Int) (l0_9 : List Int) (l0_10 : List (S74)) (a1 : Int) : Option (Int) := (impl_AcctOk.f k a0_0 a0_1 a0_2 a0_3 a0_4 l0_5 a0_6 a0_7 l0_8 l0_9 l0_10).bind fun t329 => (if t329 = true then ((impl_isTime.f a1).bind fun t330 => (if t330 = true then ((impl_LiveSum.f k l0_5 a1).bind fun t331 => (some (wrap64 ((wrap64 (a0_1 - a0_2)) - t331)))) else (some 0))) else (some 0))
theorem impl_Room.mono : ∀ a0 a1 a2 a3 a4 a5 a6 a7 a8 a9 a10 a11 k, LeO (impl_Room.f k a0 a1 a2 a3 a4 a5 a6 a7 a8 a9 a10 a11) (impl_Room.f (k + 1) a0 a1 a2 a3 a4 a5 a6 a7 a8 a9 a10 a11) := by
 intro a0 a1 a2 a3 a4 a5 a6 a7 a8 a9 a10 a11 k
 unfold impl_Room.f
 repeat' first
   | (with_reducible exact impl_AcctOk.mono _ _ _ _ _ _ _ _ _ _ _ _)
   | (with_reducible exact impl_LiveSum.mono _ _ _)
   | (with_reducible exact LeO.refl _)
   | (with_reducible exact LeO.none _)
   | (with_reducible refine LeO.ite ?_ ?_)
   | (with_reducible refine LeO.bind ?_ (fun _ => ?_))
   | exact impl_AcctOk.mono _ _ _ _ _ _ _ _ _ _ _ _
   | exact impl_LiveSum.mono _ _ _
   | exact LeO.none _
   | refine LeO.ite ?_ ?_
   | refine LeO.bind ?_ (fun _ => ?_)
def impl_Room.T3 : Bool × List (List Nat × List Nat) := (true, [([], []), ([0], [0]), ([], []), ([2], [2]), ([1, 3], [1, 3]), ([], []), ([5], [5]), ([], []), ([6, 7], [6, 7]), ([4, 8], [4, 8]), ([9, 8, 0, 1, 2, 3, 4, 5, 6, 7, 8, 9], [9])])
def impl_Room.B3 : List Nat := [0, 1, 0, 4, 15, 0, 32, 0, 224, 511, 1023]
theorem impl_Room.tab3 : rtab .any (opsOf Try.f29 3) = impl_Room.T3 := by kernel_rfl
theorem impl_Room.bits3 : waitsOk impl_Room.T3.2 impl_Room.B3 = true := by kernel_rfl
set_option maxHeartbeats 8000000 in
set_option maxRecDepth 100000 in
theorem impl_Room.calls (k : Nat) (a0_0 : ByteArray) (a0_1 : Int) (a0_2 : Int) (a0_3 : Int) (a0_4 : Int) (A0_5 : Option Addr) (c0_5 : Nat) (l0_5 : List (S93)) (a0_6 : Int) (a0_7 : Int) (A0_8 : Option Addr) (c0_8 : Nat) (l0_8 : List Int) (A0_9 : Option Addr) (c0_9 : Nat) (l0_9 : List Int) (A0_10 : Option Addr) (c0_10 : Nat) (l0_10 : List (S74)) (a1 : Int) (r : Int) (w : World) (hr0_5 : Kd.C k93 w A0_5 l0_5.length l0_5) (hc0_5 : l0_5.length ≤ c0_5) (hr0_8 : Kd.C (Kd.int .i64) w A0_8 l0_8.length l0_8) (hc0_8 : l0_8.length ≤ c0_8) (hr0_9 : Kd.C (Kd.int .i64) w A0_9 l0_9.length l0_9) (hc0_9 : l0_9.length ≤ c0_9) (hr0_10 : Kd.C k74 w A0_10 l0_10.length l0_10) (hc0_10 : l0_10.length ≤ c0_10) (h : impl_Room.f k a0_0 a0_1 a0_2 a0_3 a0_4 l0_5 a0_6 a0_7 l0_8 l0_9 l0_10 a1 = some r) :
  Calls Try.prog 29 #[.agg #[.string a0_0, .int .i64 a0_1, .int .i64 a0_2, .int .i64 a0_3, .int .i64 a0_4, .slice A0_5 l0_5.length c0_5, .int .i64 a0_6, .int .i64 a0_7, .slice A0_8 l0_8.length c0_8, .slice A0_9 l0_9.length c0_9, .slice A0_10 l0_10.length c0_10], .int .i64 a1] w fun e w' => e = .returned (.int .i64 r) ∧ Below w.heap.size w w' := by
 have hu43 := Try.underlying43
 have HR0_5 := Aside0.mk hr0_5
 have HC0_5 := Aside0.mk hc0_5
 clear hr0_5 hc0_5
 have HR0_8 := Aside0.mk hr0_8
 have HC0_8 := Aside0.mk hc0_8
 clear hr0_8 hc0_8
 have HR0_9 := Aside0.mk hr0_9
 have HC0_9 := Aside0.mk hc0_9
 clear hr0_9 hc0_9
 have HR0_10 := Aside0.mk hr0_10
 have HC0_10 := Aside0.mk hc0_10
 clear hr0_10 hc0_10
 have HB := Aside0.mk (Below.refl w.heap.size w)
 have H : ((impl_AcctOk.f k a0_0 a0_1 a0_2 a0_3 a0_4 l0_5 a0_6 a0_7 l0_8 l0_9 l0_10).bind fun t329 => (if t329 = true then ((impl_isTime.f a1).bind fun t330 => (if t330 = true then ((impl_LiveSum.f k l0_5 a1).bind fun t331 => (some (wrap64 ((wrap64 (a0_1 - a0_2)) - t331)))) else (some 0))) else (some 0))) = some r := h
 clear h
 replace H := Option.bind_eq_some_iff.mp H
 obtain ⟨t329, A30, H⟩ := H
 replace H : (if t329 = true then ((impl_isTime.f a1).bind fun t330 => (if t330 = true then ((impl_LiveSum.f k l0_5 a1).bind fun t331 => (some (wrap64 ((wrap64 (a0_1 - a0_2)) - t331)))) else (some 0))) else (some 0)) = some r := H
 have A3 := Aside0.mk A30
 clear A30
 by_cases c4 : t329 = true
 ·subst c4
  have H1 : ((impl_isTime.f a1).bind fun t330 => (if t330 = true then ((impl_LiveSum.f k l0_5 a1).bind fun t331 => (some (wrap64 ((wrap64 (a0_1 - a0_2)) - t331)))) else (some 0))) = some r := by rw [if_pos rfl] at H; exact H
  clear H
  have H := H1
  clear H1
  replace H := Option.bind_eq_some_iff.mp H
  obtain ⟨t330, A50, H⟩ := H
  replace H : (if t330 = true then ((impl_LiveSum.f k l0_5 a1).bind fun t331 => (some (wrap64 ((wrap64 (a0_1 - a0_2)) - t331)))) else (some 0)) = some r := H
  have A5 := Aside0.mk A50
  clear A50
  by_cases c6 : t330 = true
  ·subst c6
   have H1 : ((impl_LiveSum.f k l0_5 a1).bind fun t331 => (some (wrap64 ((wrap64 (a0_1 - a0_2)) - t331)))) = some r := by rw [if_pos rfl] at H; exact H
   clear H
   have H := H1
   clear H1
   replace H := Option.bind_eq_some_iff.mp H
   obtain ⟨t331, A70, H⟩ := H
   replace H : (some (wrap64 ((wrap64 (a0_1 - a0_2)) - t331))) = some r := H
   have A7 := Aside0.mk A70
   clear A70
   obtain rfl := Option.some.inj H
   go_enter Try.func29, Try.ntmps29
   try go_wp2_with (first | ((with_reducible refine gate_dst (N := 2) rfl ?_); refine box_event ?hg (N := 2) ?hd (cs := #[.string a0_0, .int .i64 a0_1, .int .i64 a0_2, .int .i64 a0_3, .int .i64 a0_4, .slice A0_5 l0_5.length c0_5, .int .i64 a0_6, .int .i64 a0_7, .slice A0_8 l0_8.length c0_8, .slice A0_9 l0_9.length c0_9, .slice A0_10 l0_10.length c0_10]) (t := 43) ?hr ?_; (case hd => rfl); (case hg => rfl); (case hr => first | (go_simp; done) | (go_simp; rfl)); intro gb328 hg w8 hbox hb; have n0_ := Aside0.mk (below_step bl_ hb); have n1_ := Aside0.mk (hbox); have n2_ := gw_ (w := w) hg; have n3_ := gw_ (w := w) hg; clear HB; have HB := n0_; have BK328 := n1_; have GW328 := n2_; have GE328 := n3_; clear n0_ n1_ n2_ n3_; clear hb hbox hg; have hcz9_0 := cz_ BK328 0 (.string a0_0); have hcz9_1 := cz_ BK328 1 (.int .i64 a0_1); have hcz9_2 := cz_ BK328 2 (.int .i64 a0_2); have hcz9_3 := cz_ BK328 3 (.int .i64 a0_3); have hcz9_4 := cz_ BK328 4 (.int .i64 a0_4); have hcz9_5 := cz_ BK328 5 (.slice A0_5 l0_5.length c0_5); have hcz9_6 := cz_ BK328 6 (.int .i64 a0_6); have hcz9_7 := cz_ BK328 7 (.int .i64 a0_7); have hcz9_8 := cz_ BK328 8 (.slice A0_8 l0_8.length c0_8); have hcz9_9 := cz_ BK328 9 (.slice A0_9 l0_9.length c0_9); have hcz9_10 := cz_ BK328 10 (.slice A0_10 l0_10.length c0_10); have hfz9_0 := fz_ BK328 0; have hfz9_1 := fz_ BK328 1; have hfz9_2 := fz_ BK328 2; have hfz9_3 := fz_ BK328 3; have hfz9_4 := fz_ BK328 4; have hfz9_5 := fz_ BK328 5; have hfz9_6 := fz_ BK328 6; have hfz9_7 := fz_ BK328 7; have hfz9_8 := fz_ BK328 8; have hfz9_9 := fz_ BK328 9; have hfz9_10 := fz_ BK328 10) | ((with_reducible refine gate_callee (f := 91) rfl ?_); refine goesL_ (some 6) rfl rfl Try.func91 (by kernel_rfl) rfl #[.agg #[.string a0_0, .int .i64 a0_1, .int .i64 a0_2, .int .i64 a0_3, .int .i64 a0_4, .slice A0_5 l0_5.length c0_5, .int .i64 a0_6, .int .i64 a0_7, .slice A0_8 l0_8.length c0_8, .slice A0_9 l0_9.length c0_9, .slice A0_10 l0_10.length c0_10]] rfl gl_ ?_; (with_reducible refine (impl_AcctOk.calls k a0_0 a0_1 a0_2 a0_3 a0_4 _ _ l0_5 a0_6 a0_7 _ _ l0_8 _ _ l0_9 _ _ l0_10 true _ ?side1 ?side2 ?side3 ?side4 ?side5 ?side6 ?side7 ?side8 A3.out).mono ?_); (case side1 => exact ca_ (Kd.C_below HR0_5.out HB.out)); (case side2 => exact HC0_5.out); (case side3 => exact ca_ (Kd.C_below HR0_8.out HB.out)); (case side4 => exact HC0_8.out); (case side5 => exact ca_ (Kd.C_below HR0_9.out HB.out)); (case side6 => exact HC0_9.out); (case side7 => exact ca_ (Kd.C_below HR0_10.out HB.out)); (case side8 => exact HC0_10.out); rintro e w10 ⟨rfl, hb⟩; refine ⟨_, rfl, ?_⟩; have n0_ := Aside0.mk (blk_below (bk_ BK328) hb); have n1_ := Aside0.mk (below_step bl_ hb); clear BK328; clear HB; have BK328 := n0_; have HB := n1_; clear n0_ n1_; (try clear hb); (try clear hb2); (try clear hk); (try clear hi)) | (go_at_call 92; (with_reducible refine (impl_isTime.calls a1 true _ A5.out).mono ?_); rintro e w' ⟨rfl, ⟨nd, rfl⟩⟩))
   (try (rw [drewN_self w10]; generalize hq_ : World.drewN w10 _ = w10; have n0_ : Aside0 (w10.heap[gb328]? = some (.cells #[.string a0_0, .int .i64 a0_1, .int .i64 a0_2, .int .i64 a0_3, .int .i64 a0_4, .slice A0_5 l0_5.length c0_5, .int .i64 a0_6, .int .i64 a0_7, .slice A0_8 l0_8.length c0_8, .slice A0_9 l0_9.length c0_9, .slice A0_10 l0_10.length c0_10] 43 (0, 0))) := ⟨by rw [← hq_]; exact (by (with_reducible repeat (first | refine blk_drewN ?_ _ | refine blk_drew ?_ | refine blk_alloc ?_ _)); exact BK328.out)⟩; have n1_ : Aside0 (Below w.heap.size w w10) := ⟨by rw [← hq_]; exact bl_⟩; clear BK328 HB hq_; have BK328 := n0_; have HB := n1_; clear n0_ n1_))
   have n0_ := Aside0.mk (blk_drew BK328.out)
   have n1_ := Aside0.mk (below_drew1 HB.out)
   clear BK328
   clear HB
   have BK328 := n0_
   have HB := n1_
   clear n0_ n1_
   refine start_ (n := 11) (S := fun w' => w'.cell? ⟨gb328, 0, none⟩ = some (.string a0_0) ∧ w'.cell? ⟨gb328, 1, none⟩ = some (.int .i64 a0_1) ∧ w'.cell? ⟨gb328, 2, none⟩ = some (.int .i64 a0_2) ∧ w'.cell? ⟨gb328, 3, none⟩ = some (.int .i64 a0_3) ∧ w'.cell? ⟨gb328, 4, none⟩ = some (.int .i64 a0_4) ∧ w'.cell? ⟨gb328, 5, none⟩ = some (.slice A0_5 l0_5.length c0_5) ∧ w'.cell? ⟨gb328, 6, none⟩ = some (.int .i64 a0_6) ∧ w'.cell? ⟨gb328, 7, none⟩ = some (.int .i64 a0_7) ∧ w'.cell? ⟨gb328, 8, none⟩ = some (.slice A0_8 l0_8.length c0_8) ∧ w'.cell? ⟨gb328, 9, none⟩ = some (.slice A0_9 l0_9.length c0_9) ∧ w'.cell? ⟨gb328, 10, none⟩ = some (.slice A0_10 l0_10.length c0_10)) (ds := []) tb11_0_13 (by kernel_rfl) rfl rfl ⟨cy_ BK328 0, cy_ BK328 1, cy_ BK328 2, cy_ BK328 3, cy_ BK328 4, cy_ BK328 5, cy_ BK328 6, cy_ BK328 7, cy_ BK328 8, cy_ BK328 9, cy_ BK328 10⟩ (fun hHeld => ?_); refine with_tabW impl_Room.tab3 impl_Room.bits3 (fun HT_ HW_ => ?_)
   generalize w10.drew = w11 at BK328 HB hHeld ⊢
   refine pl_ HT_ 0 13 tb11_1_13 ?_
   refine pl_ HT_ 2 15 tb11_5_13 ?_
   refine pl_ HT_ 5 18 tb11_25_13 ?_
   refine pl_ HT_ 7 20 tb11_a5_13 ?_
   refine pt_ HT_ HW_ hHeld 1 14 tb11_a7_13 ?_
   refine pt_ HT_ HW_ hHeld 3 16 tb11_af_13 ?_
   refine pl_ HT_ 4 17 tb11_bf_13 ?_
   refine pt_ HT_ HW_ hHeld 6 19 tb11_ff_13 ?_
   refine one_ (i := 8) (N := some 21) tb11_1ff_13 rfl rfl (one_of HT_.out (by kernel_rfl)) (by decide) (fun K hK => ?_)
   refine goes_ Try.func25 (by kernel_rfl) rfl #[.slice A0_5 l0_5.length c0_5, .int .i64 a1] (by rfl) rfl rfl gl_ ?_
   with_reducible refine (impl_LiveSum.calls k _ _ l0_5 a1 t331 _ ?side1 ?side2 A7.out).mono ?_
   (case side1 => exact ca_ (Kd.C_below HR0_5.out HB.out))
   (case side2 => exact HC0_5.out)
   rintro e w12 ⟨rfl, hb⟩
   refine ⟨_, rfl, ?_⟩
   have n0_ := Aside0.mk (blk_below (bk_ BK328) hb)
   have n1_ := Aside0.mk (below_step bl_ hb)
   clear BK328
   clear HB
   have BK328 := n0_
   have HB := n1_
   clear n0_ n1_
   (try clear hb)
   (try clear hb2)
   (try clear hk)
   (try clear hi)
   refine hK.out _ _ ⟨cy_ BK328 0, cy_ BK328 1, cy_ BK328 2, cy_ BK328 3, cy_ BK328 4, cy_ BK328 5, cy_ BK328 6, cy_ BK328 7, cy_ BK328 8, cy_ BK328 9, cy_ BK328 10⟩ (fun hHeld => ?_)
   clear hK K
   refine norm_ (a' := ?_) ?_ ?_
   rotate_left
   ·show Act.put _ (some 21) _ = _
    simp only [Act.put, q_]
    rfl
   refine pl_ HT_ 9 22 tb11_3ff_13 ?_
   refine pl_ HT_ 10 4 tb11_7ff_13 ?_
   refine done_ (done_of HT_.out (by kernel_rfl)) ?_
   try go_wp2
   go_ret
   exact ⟨sq_, bl_⟩
  ·replace c6 := Bool.eq_false_iff.mpr c6
   subst c6
   have H1 : (some 0) = some r := by rw [if_neg (show ¬ (false = true) by decide)] at H; exact H
   clear H
   have H := H1
   clear H1
   obtain rfl := Option.some.inj H
   go_enter Try.func29, Try.ntmps29
   go_wp2_with (first | ((with_reducible refine gate_dst (N := 2) rfl ?_); refine box_event ?hg (N := 2) ?hd (cs := #[.string a0_0, .int .i64 a0_1, .int .i64 a0_2, .int .i64 a0_3, .int .i64 a0_4, .slice A0_5 l0_5.length c0_5, .int .i64 a0_6, .int .i64 a0_7, .slice A0_8 l0_8.length c0_8, .slice A0_9 l0_9.length c0_9, .slice A0_10 l0_10.length c0_10]) (t := 43) ?hr ?_; (case hd => rfl); (case hg => rfl); (case hr => first | (go_simp; done) | (go_simp; rfl)); intro gb328 hg w13 hbox hb; have n0_ := Aside0.mk (below_step bl_ hb); have n1_ := Aside0.mk (hbox); have n2_ := gw_ (w := w) hg; have n3_ := gw_ (w := w) hg; clear HB; have HB := n0_; have BK328 := n1_; have GW328 := n2_; have GE328 := n3_; clear n0_ n1_ n2_ n3_; clear hb hbox hg; have hcz14_0 := cz_ BK328 0 (.string a0_0); have hcz14_1 := cz_ BK328 1 (.int .i64 a0_1); have hcz14_2 := cz_ BK328 2 (.int .i64 a0_2); have hcz14_3 := cz_ BK328 3 (.int .i64 a0_3); have hcz14_4 := cz_ BK328 4 (.int .i64 a0_4); have hcz14_5 := cz_ BK328 5 (.slice A0_5 l0_5.length c0_5); have hcz14_6 := cz_ BK328 6 (.int .i64 a0_6); have hcz14_7 := cz_ BK328 7 (.int .i64 a0_7); have hcz14_8 := cz_ BK328 8 (.slice A0_8 l0_8.length c0_8); have hcz14_9 := cz_ BK328 9 (.slice A0_9 l0_9.length c0_9); have hcz14_10 := cz_ BK328 10 (.slice A0_10 l0_10.length c0_10); have hfz14_0 := fz_ BK328 0; have hfz14_1 := fz_ BK328 1; have hfz14_2 := fz_ BK328 2; have hfz14_3 := fz_ BK328 3; have hfz14_4 := fz_ BK328 4; have hfz14_5 := fz_ BK328 5; have hfz14_6 := fz_ BK328 6; have hfz14_7 := fz_ BK328 7; have hfz14_8 := fz_ BK328 8; have hfz14_9 := fz_ BK328 9; have hfz14_10 := fz_ BK328 10) | ((with_reducible refine gate_callee (f := 91) rfl ?_); refine goesL_ (some 6) rfl rfl Try.func91 (by kernel_rfl) rfl #[.agg #[.string a0_0, .int .i64 a0_1, .int .i64 a0_2, .int .i64 a0_3, .int .i64 a0_4, .slice A0_5 l0_5.length c0_5, .int .i64 a0_6, .int .i64 a0_7, .slice A0_8 l0_8.length c0_8, .slice A0_9 l0_9.length c0_9, .slice A0_10 l0_10.length c0_10]] rfl gl_ ?_; (with_reducible refine (impl_AcctOk.calls k a0_0 a0_1 a0_2 a0_3 a0_4 _ _ l0_5 a0_6 a0_7 _ _ l0_8 _ _ l0_9 _ _ l0_10 true _ ?side1 ?side2 ?side3 ?side4 ?side5 ?side6 ?side7 ?side8 A3.out).mono ?_); (case side1 => exact ca_ (Kd.C_below HR0_5.out HB.out)); (case side2 => exact HC0_5.out); (case side3 => exact ca_ (Kd.C_below HR0_8.out HB.out)); (case side4 => exact HC0_8.out); (case side5 => exact ca_ (Kd.C_below HR0_9.out HB.out)); (case side6 => exact HC0_9.out); (case side7 => exact ca_ (Kd.C_below HR0_10.out HB.out)); (case side8 => exact HC0_10.out); rintro e w15 ⟨rfl, hb⟩; refine ⟨_, rfl, ?_⟩; have n0_ := Aside0.mk (blk_below (bk_ BK328) hb); have n1_ := Aside0.mk (below_step bl_ hb); clear BK328; clear HB; have BK328 := n0_; have HB := n1_; clear n0_ n1_; (try clear hb); (try clear hb2); (try clear hk); (try clear hi)) | (go_at_call 92; (with_reducible refine (impl_isTime.calls a1 false _ A5.out).mono ?_); rintro e w' ⟨rfl, ⟨nd, rfl⟩⟩))
   go_ret
   exact ⟨sq_, bl_⟩
 ·replace c4 := Bool.eq_false_iff.mpr c4
  subst c4
  have H1 : (some 0) = some r := by rw [if_neg (show ¬ (false = true) by decide)] at H; exact H
  clear H
  have H := H1
  clear H1
  obtain rfl := Option.some.inj H
  go_enter Try.func29, Try.ntmps29
  go_wp2_with (first | ((with_reducible refine gate_dst (N := 2) rfl ?_); refine box_event ?hg (N := 2) ?hd (cs := #[.string a0_0, .int .i64 a0_1, .int .i64 a0_2, .int .i64 a0_3, .int .i64 a0_4, .slice A0_5 l0_5.length c0_5, .int .i64 a0_6, .int .i64 a0_7, .slice A0_8 l0_8.length c0_8, .slice A0_9 l0_9.length c0_9, .slice A0_10 l0_10.length c0_10]) (t := 43) ?hr ?_; (case hd => rfl); (case hg => rfl); (case hr => first | (go_simp; done) | (go_simp; rfl)); intro gb328 hg w16 hbox hb; have n0_ := Aside0.mk (below_step bl_ hb); have n1_ := Aside0.mk (hbox); have n2_ := gw_ (w := w) hg; have n3_ := gw_ (w := w) hg; clear HB; have HB := n0_; have BK328 := n1_; have GW328 := n2_; have GE328 := n3_; clear n0_ n1_ n2_ n3_; clear hb hbox hg; have hcz17_0 := cz_ BK328 0 (.string a0_0); have hcz17_1 := cz_ BK328 1 (.int .i64 a0_1); have hcz17_2 := cz_ BK328 2 (.int .i64 a0_2); have hcz17_3 := cz_ BK328 3 (.int .i64 a0_3); have hcz17_4 := cz_ BK328 4 (.int .i64 a0_4); have hcz17_5 := cz_ BK328 5 (.slice A0_5 l0_5.length c0_5); have hcz17_6 := cz_ BK328 6 (.int .i64 a0_6); have hcz17_7 := cz_ BK328 7 (.int .i64 a0_7); have hcz17_8 := cz_ BK328 8 (.slice A0_8 l0_8.length c0_8); have hcz17_9 := cz_ BK328 9 (.slice A0_9 l0_9.length c0_9); have hcz17_10 := cz_ BK328 10 (.slice A0_10 l0_10.length c0_10); have hfz17_0 := fz_ BK328 0; have hfz17_1 := fz_ BK328 1; have hfz17_2 := fz_ BK328 2; have hfz17_3 := fz_ BK328 3; have hfz17_4 := fz_ BK328 4; have hfz17_5 := fz_ BK328 5; have hfz17_6 := fz_ BK328 6; have hfz17_7 := fz_ BK328 7; have hfz17_8 := fz_ BK328 8; have hfz17_9 := fz_ BK328 9; have hfz17_10 := fz_ BK328 10) | ((with_reducible refine gate_callee (f := 91) rfl ?_); refine goesL_ (some 6) rfl rfl Try.func91 (by kernel_rfl) rfl #[.agg #[.string a0_0, .int .i64 a0_1, .int .i64 a0_2, .int .i64 a0_3, .int .i64 a0_4, .slice A0_5 l0_5.length c0_5, .int .i64 a0_6, .int .i64 a0_7, .slice A0_8 l0_8.length c0_8, .slice A0_9 l0_9.length c0_9, .slice A0_10 l0_10.length c0_10]] rfl gl_ ?_; (with_reducible refine (impl_AcctOk.calls k a0_0 a0_1 a0_2 a0_3 a0_4 _ _ l0_5 a0_6 a0_7 _ _ l0_8 _ _ l0_9 _ _ l0_10 false _ ?side1 ?side2 ?side3 ?side4 ?side5 ?side6 ?side7 ?side8 A3.out).mono ?_); (case side1 => exact ca_ (Kd.C_below HR0_5.out HB.out)); (case side2 => exact HC0_5.out); (case side3 => exact ca_ (Kd.C_below HR0_8.out HB.out)); (case side4 => exact HC0_8.out); (case side5 => exact ca_ (Kd.C_below HR0_9.out HB.out)); (case side6 => exact HC0_9.out); (case side7 => exact ca_ (Kd.C_below HR0_10.out HB.out)); (case side8 => exact HC0_10.out); rintro e w18 ⟨rfl, hb⟩; refine ⟨_, rfl, ?_⟩; have n0_ := Aside0.mk (blk_below (bk_ BK328) hb); have n1_ := Aside0.mk (below_step bl_ hb); clear BK328; clear HB; have BK328 := n0_; have HB := n1_; clear n0_ n1_; (try clear hb); (try clear hb2); (try clear hk); (try clear hi)))
  go_ret
  exact ⟨sq_, bl_⟩

/-! ### laws_eqHold: function 80 -/
def laws_eqHold.f (a0_0 : ByteArray) (a0_1 : Int) (a0_2 : Int) (a1_0 : ByteArray) (a1_1 : Int) (a1_2 : Int) : Option (Bool) := if a0_0.toList = a1_0.toList then (if a0_1 = a1_1 then (if a0_2 = a1_2 then (some true) else (some false)) else (some false)) else (some false)
set_option maxHeartbeats 8000000 in
set_option maxRecDepth 100000 in
theorem laws_eqHold.calls (a0_0 : ByteArray) (a0_1 : Int) (a0_2 : Int) (a1_0 : ByteArray) (a1_1 : Int) (a1_2 : Int) (r : Bool) (w : World) (h : laws_eqHold.f a0_0 a0_1 a0_2 a1_0 a1_1 a1_2 = some r) :
  Calls Try.prog 80 #[.agg #[.string a0_0, .int .i64 a0_1, .int .i64 a0_2], .agg #[.string a1_0, .int .i64 a1_1, .int .i64 a1_2]] w fun e w' => e = .returned (.bool r) ∧ Below w.heap.size w w' := by
 have hu93 := Try.underlying93
 have HB := Aside0.mk (Below.refl w.heap.size w)
 have H : (if a0_0.toList = a1_0.toList then (if a0_1 = a1_1 then (if a0_2 = a1_2 then (some true) else (some false)) else (some false)) else (some false)) = some r := h
 clear h
 by_cases c3 : a0_0.toList = a1_0.toList
 ·rw [if_pos c3] at H
  have c3b0 : (a0_0.toList == a1_0.toList) = true := beq_iff_eq.mpr c3
  have c3b1 : (a0_0.toList != a1_0.toList) = false := bne_eq_false_iff_eq.mpr c3
  clear c3
  by_cases c4 : a0_1 = a1_1
  ·rw [if_pos c4] at H
   have c4b0 : (a0_1 == a1_1) = true := beq_iff_eq.mpr c4
   have c4b1 : (a0_1 != a1_1) = false := bne_eq_false_iff_eq.mpr c4
   clear c4
   by_cases c5 : a0_2 = a1_2
   ·rw [if_pos c5] at H
    have c5b0 : (a0_2 == a1_2) = true := beq_iff_eq.mpr c5
    have c5b1 : (a0_2 != a1_2) = false := bne_eq_false_iff_eq.mpr c5
    clear c5
    obtain rfl := Option.some.inj H
    go_enter Try.func80, Try.ntmps80
    go_wp2_with (first | ((with_reducible refine gate_dst (N := 2) rfl ?_); refine box_event ?hg (N := 2) ?hd (cs := #[.string a0_0, .int .i64 a0_1, .int .i64 a0_2]) (t := 93) ?hr ?_; (case hd => rfl); (case hg => rfl); (case hr => first | (go_simp; done) | (go_simp; rfl)); intro gb332 hg w6 hbox hb; have n0_ := Aside0.mk (below_step bl_ hb); have n1_ := Aside0.mk (hbox); have n2_ := gw_ (w := w) hg; have n3_ := gw_ (w := w) hg; clear HB; have HB := n0_; have BK332 := n1_; have GW332 := n2_; have GE332 := n3_; clear n0_ n1_ n2_ n3_; clear hb hbox hg) | ((with_reducible refine gate_dst (N := 3) rfl ?_); refine box_event ?hg (N := 3) ?hd (cs := #[.string a1_0, .int .i64 a1_1, .int .i64 a1_2]) (t := 93) ?hr ?_; (case hd => rfl); (case hg => rfl); (case hr => first | (go_simp; done) | (go_simp; rfl)); intro gb333 hg w7 hbox hb; have n0_ := Aside0.mk (blk_below (bk_ BK332) hb); have n1_ := Aside0.mk (below_step bl_ hb); have n2_ := Aside0.mk (hbox); have n3_ := gw_ (w := w) hg; have n4_ := gw_ (w := w) hg; have n5_ := Aside0.mk ((by rw [hg]; exact Nat.ne_of_lt (blk_lt (bk_ BK332)) : gb332 ≠ gb333)); have n6_ := Aside0.mk ((by rw [hg]; exact Nat.ne_of_gt (blk_lt (bk_ BK332)) : gb333 ≠ gb332)); clear BK332; clear HB; have BK332 := n0_; have HB := n1_; have BK333 := n2_; have GW333 := n3_; have GE333 := n4_; have NB332_333 := n5_; have NB333_332 := n6_; clear n0_ n1_ n2_ n3_ n4_ n5_ n6_; clear hb hbox hg; have hnb8 := NB332_333.out; have hnc8 := NB333_332.out; have hcz9_0 := cz_ BK332 0 (.string a0_0); have hcz9_1 := cz_ BK332 1 (.int .i64 a0_1); have hcz9_2 := cz_ BK332 2 (.int .i64 a0_2); have hfz9_0 := fz_ BK332 0; have hfz9_1 := fz_ BK332 1; have hfz9_2 := fz_ BK332 2; have hcz10_0 := cz_ BK333 0 (.string a1_0); have hcz10_1 := cz_ BK333 1 (.int .i64 a1_1); have hcz10_2 := cz_ BK333 2 (.int .i64 a1_2); have hfz10_0 := fz_ BK333 0; have hfz10_1 := fz_ BK333 1; have hfz10_2 := fz_ BK333 2))
    go_ret
    exact ⟨sq_, bl_⟩
   ·rw [if_neg c5] at H
    have c5b0 : (a0_2 == a1_2) = false := beq_eq_false_iff_ne.mpr c5
    have c5b1 : (a0_2 != a1_2) = true := bne_iff_ne.mpr c5
    obtain rfl := Option.some.inj H
    go_enter Try.func80, Try.ntmps80
    go_wp2_with (first | ((with_reducible refine gate_dst (N := 2) rfl ?_); refine box_event ?hg (N := 2) ?hd (cs := #[.string a0_0, .int .i64 a0_1, .int .i64 a0_2]) (t := 93) ?hr ?_; (case hd => rfl); (case hg => rfl); (case hr => first | (go_simp; done) | (go_simp; rfl)); intro gb332 hg w11 hbox hb; have n0_ := Aside0.mk (below_step bl_ hb); have n1_ := Aside0.mk (hbox); have n2_ := gw_ (w := w) hg; have n3_ := gw_ (w := w) hg; clear HB; have HB := n0_; have BK332 := n1_; have GW332 := n2_; have GE332 := n3_; clear n0_ n1_ n2_ n3_; clear hb hbox hg) | ((with_reducible refine gate_dst (N := 3) rfl ?_); refine box_event ?hg (N := 3) ?hd (cs := #[.string a1_0, .int .i64 a1_1, .int .i64 a1_2]) (t := 93) ?hr ?_; (case hd => rfl); (case hg => rfl); (case hr => first | (go_simp; done) | (go_simp; rfl)); intro gb333 hg w12 hbox hb; have n0_ := Aside0.mk (blk_below (bk_ BK332) hb); have n1_ := Aside0.mk (below_step bl_ hb); have n2_ := Aside0.mk (hbox); have n3_ := gw_ (w := w) hg; have n4_ := gw_ (w := w) hg; have n5_ := Aside0.mk ((by rw [hg]; exact Nat.ne_of_lt (blk_lt (bk_ BK332)) : gb332 ≠ gb333)); have n6_ := Aside0.mk ((by rw [hg]; exact Nat.ne_of_gt (blk_lt (bk_ BK332)) : gb333 ≠ gb332)); clear BK332; clear HB; have BK332 := n0_; have HB := n1_; have BK333 := n2_; have GW333 := n3_; have GE333 := n4_; have NB332_333 := n5_; have NB333_332 := n6_; clear n0_ n1_ n2_ n3_ n4_ n5_ n6_; clear hb hbox hg; have hnb13 := NB332_333.out; have hnc13 := NB333_332.out; have hcz14_0 := cz_ BK332 0 (.string a0_0); have hcz14_1 := cz_ BK332 1 (.int .i64 a0_1); have hcz14_2 := cz_ BK332 2 (.int .i64 a0_2); have hfz14_0 := fz_ BK332 0; have hfz14_1 := fz_ BK332 1; have hfz14_2 := fz_ BK332 2; have hcz15_0 := cz_ BK333 0 (.string a1_0); have hcz15_1 := cz_ BK333 1 (.int .i64 a1_1); have hcz15_2 := cz_ BK333 2 (.int .i64 a1_2); have hfz15_0 := fz_ BK333 0; have hfz15_1 := fz_ BK333 1; have hfz15_2 := fz_ BK333 2))
    go_ret
    exact ⟨sq_, bl_⟩
  ·rw [if_neg c4] at H
   have c4b0 : (a0_1 == a1_1) = false := beq_eq_false_iff_ne.mpr c4
   have c4b1 : (a0_1 != a1_1) = true := bne_iff_ne.mpr c4
   obtain rfl := Option.some.inj H
   go_enter Try.func80, Try.ntmps80
   go_wp2_with (first | ((with_reducible refine gate_dst (N := 2) rfl ?_); refine box_event ?hg (N := 2) ?hd (cs := #[.string a0_0, .int .i64 a0_1, .int .i64 a0_2]) (t := 93) ?hr ?_; (case hd => rfl); (case hg => rfl); (case hr => first | (go_simp; done) | (go_simp; rfl)); intro gb332 hg w16 hbox hb; have n0_ := Aside0.mk (below_step bl_ hb); have n1_ := Aside0.mk (hbox); have n2_ := gw_ (w := w) hg; have n3_ := gw_ (w := w) hg; clear HB; have HB := n0_; have BK332 := n1_; have GW332 := n2_; have GE332 := n3_; clear n0_ n1_ n2_ n3_; clear hb hbox hg) | ((with_reducible refine gate_dst (N := 3) rfl ?_); refine box_event ?hg (N := 3) ?hd (cs := #[.string a1_0, .int .i64 a1_1, .int .i64 a1_2]) (t := 93) ?hr ?_; (case hd => rfl); (case hg => rfl); (case hr => first | (go_simp; done) | (go_simp; rfl)); intro gb333 hg w17 hbox hb; have n0_ := Aside0.mk (blk_below (bk_ BK332) hb); have n1_ := Aside0.mk (below_step bl_ hb); have n2_ := Aside0.mk (hbox); have n3_ := gw_ (w := w) hg; have n4_ := gw_ (w := w) hg; have n5_ := Aside0.mk ((by rw [hg]; exact Nat.ne_of_lt (blk_lt (bk_ BK332)) : gb332 ≠ gb333)); have n6_ := Aside0.mk ((by rw [hg]; exact Nat.ne_of_gt (blk_lt (bk_ BK332)) : gb333 ≠ gb332)); clear BK332; clear HB; have BK332 := n0_; have HB := n1_; have BK333 := n2_; have GW333 := n3_; have GE333 := n4_; have NB332_333 := n5_; have NB333_332 := n6_; clear n0_ n1_ n2_ n3_ n4_ n5_ n6_; clear hb hbox hg; have hnb18 := NB332_333.out; have hnc18 := NB333_332.out; have hcz19_0 := cz_ BK332 0 (.string a0_0); have hcz19_1 := cz_ BK332 1 (.int .i64 a0_1); have hcz19_2 := cz_ BK332 2 (.int .i64 a0_2); have hfz19_0 := fz_ BK332 0; have hfz19_1 := fz_ BK332 1; have hfz19_2 := fz_ BK332 2; have hcz20_0 := cz_ BK333 0 (.string a1_0); have hcz20_1 := cz_ BK333 1 (.int .i64 a1_1); have hcz20_2 := cz_ BK333 2 (.int .i64 a1_2); have hfz20_0 := fz_ BK333 0; have hfz20_1 := fz_ BK333 1; have hfz20_2 := fz_ BK333 2))
   go_ret
   exact ⟨sq_, bl_⟩
 ·rw [if_neg c3] at H
  have c3b0 : (a0_0.toList == a1_0.toList) = false := beq_eq_false_iff_ne.mpr c3
  have c3b1 : (a0_0.toList != a1_0.toList) = true := bne_iff_ne.mpr c3
  obtain rfl := Option.some.inj H
  go_enter Try.func80, Try.ntmps80
  go_wp2_with (first | ((with_reducible refine gate_dst (N := 2) rfl ?_); refine box_event ?hg (N := 2) ?hd (cs := #[.string a0_0, .int .i64 a0_1, .int .i64 a0_2]) (t := 93) ?hr ?_; (case hd => rfl); (case hg => rfl); (case hr => first | (go_simp; done) | (go_simp; rfl)); intro gb332 hg w21 hbox hb; have n0_ := Aside0.mk (below_step bl_ hb); have n1_ := Aside0.mk (hbox); have n2_ := gw_ (w := w) hg; have n3_ := gw_ (w := w) hg; clear HB; have HB := n0_; have BK332 := n1_; have GW332 := n2_; have GE332 := n3_; clear n0_ n1_ n2_ n3_; clear hb hbox hg) | ((with_reducible refine gate_dst (N := 3) rfl ?_); refine box_event ?hg (N := 3) ?hd (cs := #[.string a1_0, .int .i64 a1_1, .int .i64 a1_2]) (t := 93) ?hr ?_; (case hd => rfl); (case hg => rfl); (case hr => first | (go_simp; done) | (go_simp; rfl)); intro gb333 hg w22 hbox hb; have n0_ := Aside0.mk (blk_below (bk_ BK332) hb); have n1_ := Aside0.mk (below_step bl_ hb); have n2_ := Aside0.mk (hbox); have n3_ := gw_ (w := w) hg; have n4_ := gw_ (w := w) hg; have n5_ := Aside0.mk ((by rw [hg]; exact Nat.ne_of_lt (blk_lt (bk_ BK332)) : gb332 ≠ gb333)); have n6_ := Aside0.mk ((by rw [hg]; exact Nat.ne_of_gt (blk_lt (bk_ BK332)) : gb333 ≠ gb332)); clear BK332; clear HB; have BK332 := n0_; have HB := n1_; have BK333 := n2_; have GW333 := n3_; have GE333 := n4_; have NB332_333 := n5_; have NB333_332 := n6_; clear n0_ n1_ n2_ n3_ n4_ n5_ n6_; clear hb hbox hg; have hnb23 := NB332_333.out; have hnc23 := NB333_332.out; have hcz24_0 := cz_ BK332 0 (.string a0_0); have hcz24_1 := cz_ BK332 1 (.int .i64 a0_1); have hcz24_2 := cz_ BK332 2 (.int .i64 a0_2); have hfz24_0 := fz_ BK332 0; have hfz24_1 := fz_ BK332 1; have hfz24_2 := fz_ BK332 2; have hcz25_0 := cz_ BK333 0 (.string a1_0); have hcz25_1 := cz_ BK333 1 (.int .i64 a1_1); have hcz25_2 := cz_ BK333 2 (.int .i64 a1_2); have hfz25_0 := fz_ BK333 0; have hfz25_1 := fz_ BK333 1; have hfz25_2 := fz_ BK333 2))
  go_ret
  exact ⟨sq_, bl_⟩

/-! ### laws_eqHoldS: function 19 -/
def laws_eqHoldS.l0 : Nat → List (S93) → List (S93) → Int → Option (Bool)
 | 0, _, _, _ => none
 | k + 1, x0, x1, x5 => if x5 < (x0.length : Int) then (if 0 ≤ x5 then (if x5 < (x1.length : Int) then ((laws_eqHold.f ((rd_T93 x0 x5).f0) ((rd_T93 x0 x5).f1) ((rd_T93 x0 x5).f2) ((rd_T93 x1 x5).f0) ((rd_T93 x1 x5).f1) ((rd_T93 x1 x5).f2)).bind fun t336 => (if t336 = true then (laws_eqHoldS.l0 k x0 x1 (wrap64 (x5 + 1))) else (some false))) else (none)) else (none)) else (some true)
def laws_eqHoldS.f (k : Nat) (l0 : List (S93)) (l1 : List (S93)) : Option (Bool) := if (l0.length : Int) = (l1.length : Int) then (laws_eqHoldS.l0 k l0 l1 0) else (some false)
theorem laws_eqHoldS.mono_l : ∀ k, (∀ y0 y1 y2, LeO (laws_eqHoldS.l0 k y0 y1 y2) (laws_eqHoldS.l0 (k + 1) y0 y1 y2))
 | 0 => fun _ _ _ r h => by simp [laws_eqHoldS.l0] at h
 | k + 1 => by
  have ih0 := laws_eqHoldS.mono_l k
  ·intro y0 y1 y2
   unfold laws_eqHoldS.l0
   repeat' first
   | (with_reducible exact ih0 _ _ _)
   | (with_reducible exact LeO.refl _)
   | (with_reducible exact LeO.none _)
   | (with_reducible refine LeO.ite ?_ ?_)
   | (with_reducible refine LeO.bind ?_ (fun _ => ?_))
   | exact ih0 _ _ _
   | exact LeO.none _
   | refine LeO.ite ?_ ?_
   | refine LeO.bind ?_ (fun _ => ?_)
theorem laws_eqHoldS.mono : ∀ a0 a1 k, LeO (laws_eqHoldS.f k a0 a1) (laws_eqHoldS.f (k + 1) a0 a1) := by
 intro a0 a1 k
 have ih0 := laws_eqHoldS.mono_l k
 unfold laws_eqHoldS.f
 repeat' first
   | (with_reducible exact ih0 _ _ _)
   | (with_reducible exact LeO.refl _)
   | (with_reducible exact LeO.none _)
   | (with_reducible refine LeO.ite ?_ ?_)
   | (with_reducible refine LeO.bind ?_ (fun _ => ?_))
   | exact ih0 _ _ _
   | exact LeO.none _
   | refine LeO.ite ?_ ?_
   | refine LeO.bind ?_ (fun _ => ?_)
def laws_eqHoldS.T6 : Bool × List (List Nat × List Nat) := (true, [([], []), ([], []), ([0, 1], [0, 1]), ([2], [2]), ([], []), ([], []), ([4, 5], [4, 5]), ([6], [6]), ([3, 7], [3, 7]), ([8], [8])])
def laws_eqHoldS.B6 : List Nat := [0, 0, 3, 7, 0, 0, 48, 112, 255, 511]
theorem laws_eqHoldS.tab6 : rtab .any (opsOf Try.f19 6) = laws_eqHoldS.T6 := by kernel_rfl
theorem laws_eqHoldS.bits6 : waitsOk laws_eqHoldS.T6.2 laws_eqHoldS.B6 = true := by kernel_rfl
set_option maxHeartbeats 8000000 in
set_option maxRecDepth 100000 in
theorem laws_eqHoldS.calls (k : Nat) (A0 : Option Addr) (c0 : Nat) (l0 : List (S93)) (A1 : Option Addr) (c1 : Nat) (l1 : List (S93)) (r : Bool) (w : World) (hr0 : Kd.C k93 w A0 l0.length l0) (hc0 : l0.length ≤ c0) (hr1 : Kd.C k93 w A1 l1.length l1) (hc1 : l1.length ≤ c1) (h : laws_eqHoldS.f k l0 l1 = some r) :
  Calls Try.prog 19 #[.slice A0 l0.length c0, .slice A1 l1.length c1] w fun e w' => e = .returned (.bool r) ∧ Below w.heap.size w w' := by
 have hu93 := Try.underlying93
 have HR0 := Aside0.mk hr0
 have HC0 := Aside0.mk hc0
 clear hr0 hc0
 have HR1 := Aside0.mk hr1
 have HC1 := Aside0.mk hc1
 clear hr1 hc1
 have HB := Aside0.mk (Below.refl w.heap.size w)
 have H : (if (l0.length : Int) = (l1.length : Int) then (laws_eqHoldS.l0 k l0 l1 0) else (some false)) = some r := h
 clear h
 by_cases c3 : (l0.length : Int) = (l1.length : Int)
 ·rw [if_pos c3] at H
  have c3b0 : ((l0.length : Int) == (l1.length : Int)) = true := beq_iff_eq.mpr c3
  have c3b1 : ((l0.length : Int) != (l1.length : Int)) = false := bne_eq_false_iff_eq.mpr c3
  have c3b2 : (l0.length == l1.length) = true := by first | simpa using c3 | (simp at c3 ⊢; omega)
  clear c3
  have H' := Aside0.mk H
  clear H
  go_enter Try.func19, Try.ntmps19
  go_wp2
  go_loopg [5] k (fun kq v5 w' => ∃ (x5_1 : Int), v5 = .int .i64 x5_1 ∧ Aside0 (laws_eqHoldS.l0 kq l0 l1 x5_1 = some r) ∧ Aside0 (kq ≤ k) ∧ Aside0 (Below w.heap.size w w'))
  case atStart => exact ⟨(0), sp_, H', ⟨Nat.le_refl _⟩, ⟨bl_⟩⟩
  case round =>
   clear H'
   try clear c1
   try clear p2
   try clear c3
   try clear c3b0
   try clear c3b1
   try clear c3b2
   obtain ⟨x5_1, rfl, HA, HK1, HB⟩ := hrel
   cases gk with
   | zero => exact absurd HA.out (by simp [laws_eqHoldS.l0])
   | succ k1 =>
    have H := HA.out
    clear HA
    simp only [laws_eqHoldS.l0] at H
    by_cases c4 : x5_1 < (l0.length : Int)
    ·rw [if_pos c4] at H
     have c4b0 : decide (x5_1 < (l0.length : Int)) = true := decide_eq_true c4
     clear c4
     by_cases c5 : 0 ≤ x5_1
     ·rw [if_pos c5] at H
      have c5b0 : decide (0 ≤ x5_1) = true := decide_eq_true c5
      clear c5
      by_cases c6 : x5_1 < (l1.length : Int)
      ·rw [if_pos c6] at H
       have c6b0 : decide (x5_1 < (l1.length : Int)) = true := decide_eq_true c6
       clear c6
       replace H := Option.bind_eq_some_iff.mp H
       obtain ⟨t336, A70, H⟩ := H
       replace H : (if t336 = true then (laws_eqHoldS.l0 k1 l0 l1 (wrap64 (x5_1 + 1))) else (some false)) = some r := H
       have A7 := Aside0.mk A70
       clear A70
       by_cases c8 : t336 = true
       ·subst c8
        have H1 : (laws_eqHoldS.l0 k1 l0 l1 (wrap64 (x5_1 + 1))) = some r := by rw [if_pos rfl] at H; exact H
        clear H
        have H := H1
        clear H1
        have H' := Aside0.mk H
        clear H
        try go_wp2
        have n0_ := Aside0.mk (below_drew1 HB.out)
        clear HB
        have HB := n0_
        clear n0_
        have p334 : 0 ≤ (x5_1 : Int) := od_
        have q334 : x5_1 < (l0.length : Int) := od_
        obtain ⟨ad334, e334, hx334_0, hx334_1, hx334_2⟩ := at_T93 HR0.out x5_1 p334 q334
        have hw334_2 := hx334_2
        have hw334_1 := hx334_1
        have hw334_0 := hx334_0
        cases e334
        replace hx334_0 := kc_ HB hx334_0
        replace hx334_1 := kc_ HB hx334_1
        replace hx334_2 := kc_ HB hx334_2
        replace p334 := eq_true p334
        replace q334 := eq_true q334
        have p335 : 0 ≤ (x5_1 : Int) := od_
        have q335 : x5_1 < (l1.length : Int) := od_
        obtain ⟨ad335, e335, hx335_0, hx335_1, hx335_2⟩ := at_T93 HR1.out x5_1 p335 q335
        have hw335_2 := hx335_2
        have hw335_1 := hx335_1
        have hw335_0 := hx335_0
        cases e335
        replace hx335_0 := kc_ HB hx335_0
        replace hx335_1 := kc_ HB hx335_1
        replace hx335_2 := kc_ HB hx335_2
        replace p335 := eq_true p335
        replace q335 := eq_true q335
        refine start_ (n := 10) (S := fun w' => w'.cell? (ad334.add ((x5_1).toNat * 3)) = some (.string ((rd_T93 l0 x5_1).f0)) ∧ w'.cell? ⟨(ad334.add ((x5_1).toNat * 3)).block, (ad334.add ((x5_1).toNat * 3)).off + 1, none⟩ = some (.int .i64 ((rd_T93 l0 x5_1).f1)) ∧ w'.cell? ⟨(ad334.add ((x5_1).toNat * 3)).block, (ad334.add ((x5_1).toNat * 3)).off + 2, none⟩ = some (.int .i64 ((rd_T93 l0 x5_1).f2)) ∧ w'.cell? (ad335.add ((x5_1).toNat * 3)) = some (.string ((rd_T93 l1 x5_1).f0)) ∧ w'.cell? ⟨(ad335.add ((x5_1).toNat * 3)).block, (ad335.add ((x5_1).toNat * 3)).off + 1, none⟩ = some (.int .i64 ((rd_T93 l1 x5_1).f1)) ∧ w'.cell? ⟨(ad335.add ((x5_1).toNat * 3)).block, (ad335.add ((x5_1).toNat * 3)).off + 2, none⟩ = some (.int .i64 ((rd_T93 l1 x5_1).f2))) (ds := []) tb10_0_13 (by kernel_rfl) rfl rfl ⟨(kc_ HB hw334_0), (kc_ HB hw334_1), (kc_ HB hw334_2), (kc_ HB hw335_0), (kc_ HB hw335_1), (kc_ HB hw335_2)⟩ (fun hHeld => ?_); refine with_tabW laws_eqHoldS.tab6 laws_eqHoldS.bits6 (fun HT_ HW_ => ?_)
        generalize wr.drew = w9 at HB hx334_0 hx334_1 hx334_2 hx335_0 hx335_1 hx335_2 hHeld ⊢
        refine pl_ HT_ 0 17 tb10_1_13 ?_
        refine pl_ HT_ 1 18 tb10_3_13 ?_
        refine pl_ HT_ 2 19 tb10_7_13 ?_
        refine pl_ HT_ 4 21 tb10_17_13 ?_
        refine pl_ HT_ 5 22 tb10_37_13 ?_
        refine pl_ HT_ 6 23 tb10_77_13 ?_
        refine take_ (i := 3) (N := some 20) (v := ?_) (a' := ?_) tb10_7f_13 rfl rfl (take_ofW HT_.out HW_.out (by kernel_rfl)) (fun _ _ _ h => h) (Or.inl ⟨by rfl, ?_⟩) hHeld ?_ ?_
        rotate_left
        ·rintro w' ⟨s0, s1, s2, s3, s4, s5⟩
         go_simp
         with_reducible rfl
        rotate_left
        ·simp only [Act.put, q_]
         rfl
        refine take_ (i := 7) (N := some 24) (v := ?_) (a' := ?_) tb10_ff_13 rfl rfl (take_ofW HT_.out HW_.out (by kernel_rfl)) (fun _ _ _ h => h) (Or.inl ⟨by rfl, ?_⟩) hHeld ?_ ?_
        rotate_left
        ·rintro w' ⟨s0, s1, s2, s3, s4, s5⟩
         go_simp
         with_reducible rfl
        rotate_left
        ·simp only [Act.put, q_]
         rfl
        refine one_ (i := 8) (N := some 25) tb10_1ff_13 rfl rfl (one_of HT_.out (by kernel_rfl)) (by decide) (fun K hK => ?_)
        refine goes_ Try.func80 (by kernel_rfl) rfl #[.agg #[.string ((rd_T93 l0 x5_1).f0), .int .i64 ((rd_T93 l0 x5_1).f1), .int .i64 ((rd_T93 l0 x5_1).f2)], .agg #[.string ((rd_T93 l1 x5_1).f0), .int .i64 ((rd_T93 l1 x5_1).f1), .int .i64 ((rd_T93 l1 x5_1).f2)]] (by rfl) rfl rfl gl_ ?_
        with_reducible refine (laws_eqHold.calls ((rd_T93 l0 x5_1).f0) ((rd_T93 l0 x5_1).f1) ((rd_T93 l0 x5_1).f2) ((rd_T93 l1 x5_1).f0) ((rd_T93 l1 x5_1).f1) ((rd_T93 l1 x5_1).f2) true _ A7.out).mono ?_
        rintro e w10 ⟨rfl, hb⟩
        refine ⟨_, rfl, ?_⟩
        have n0_ := Aside0.mk (below_step bl_ hb)
        clear HB
        have HB := n0_
        clear n0_
        (try clear hb)
        (try clear hb2)
        (try clear hk)
        (try clear hi)
        refine hK.out _ _ ⟨(kc_ HB hw334_0), (kc_ HB hw334_1), (kc_ HB hw334_2), (kc_ HB hw335_0), (kc_ HB hw335_1), (kc_ HB hw335_2)⟩ (fun hHeld => ?_)
        clear hK K
        refine norm_ (a' := ?_) ?_ ?_
        rotate_left
        ·show Act.put _ (some 25) _ = _
         simp only [Act.put, q_]
         rfl
        refine pl_ HT_ 9 26 tb10_3ff_13 ?_
        refine done_ (done_of HT_.out (by kernel_rfl)) ?_
        try go_wp2
        go_roundg k1
        case measure => have := HK1.out; omega
        case rel => exact ⟨(wrap64 (x5_1 + 1)), sp_, H', ⟨by have := HK1.out; omega⟩, ⟨bl_⟩⟩
       ·replace c8 := Bool.eq_false_iff.mpr c8
        subst c8
        have H1 : (some false) = some r := by rw [if_neg (show ¬ (false = true) by decide)] at H; exact H
        clear H
        have H := H1
        clear H1
        obtain rfl := Option.some.inj H
        try go_wp2
        have n0_ := Aside0.mk (below_drew1 HB.out)
        clear HB
        have HB := n0_
        clear n0_
        have p334 : 0 ≤ (x5_1 : Int) := od_
        have q334 : x5_1 < (l0.length : Int) := od_
        obtain ⟨ad334, e334, hx334_0, hx334_1, hx334_2⟩ := at_T93 HR0.out x5_1 p334 q334
        have hw334_2 := hx334_2
        have hw334_1 := hx334_1
        have hw334_0 := hx334_0
        cases e334
        replace hx334_0 := kc_ HB hx334_0
        replace hx334_1 := kc_ HB hx334_1
        replace hx334_2 := kc_ HB hx334_2
        replace p334 := eq_true p334
        replace q334 := eq_true q334
        have p335 : 0 ≤ (x5_1 : Int) := od_
        have q335 : x5_1 < (l1.length : Int) := od_
        obtain ⟨ad335, e335, hx335_0, hx335_1, hx335_2⟩ := at_T93 HR1.out x5_1 p335 q335
        have hw335_2 := hx335_2
        have hw335_1 := hx335_1
        have hw335_0 := hx335_0
        cases e335
        replace hx335_0 := kc_ HB hx335_0
        replace hx335_1 := kc_ HB hx335_1
        replace hx335_2 := kc_ HB hx335_2
        replace p335 := eq_true p335
        replace q335 := eq_true q335
        refine start_ (n := 10) (S := fun w' => w'.cell? (ad334.add ((x5_1).toNat * 3)) = some (.string ((rd_T93 l0 x5_1).f0)) ∧ w'.cell? ⟨(ad334.add ((x5_1).toNat * 3)).block, (ad334.add ((x5_1).toNat * 3)).off + 1, none⟩ = some (.int .i64 ((rd_T93 l0 x5_1).f1)) ∧ w'.cell? ⟨(ad334.add ((x5_1).toNat * 3)).block, (ad334.add ((x5_1).toNat * 3)).off + 2, none⟩ = some (.int .i64 ((rd_T93 l0 x5_1).f2)) ∧ w'.cell? (ad335.add ((x5_1).toNat * 3)) = some (.string ((rd_T93 l1 x5_1).f0)) ∧ w'.cell? ⟨(ad335.add ((x5_1).toNat * 3)).block, (ad335.add ((x5_1).toNat * 3)).off + 1, none⟩ = some (.int .i64 ((rd_T93 l1 x5_1).f1)) ∧ w'.cell? ⟨(ad335.add ((x5_1).toNat * 3)).block, (ad335.add ((x5_1).toNat * 3)).off + 2, none⟩ = some (.int .i64 ((rd_T93 l1 x5_1).f2))) (ds := []) tb10_0_13 (by kernel_rfl) rfl rfl ⟨(kc_ HB hw334_0), (kc_ HB hw334_1), (kc_ HB hw334_2), (kc_ HB hw335_0), (kc_ HB hw335_1), (kc_ HB hw335_2)⟩ (fun hHeld => ?_); refine with_tabW laws_eqHoldS.tab6 laws_eqHoldS.bits6 (fun HT_ HW_ => ?_)
        generalize wr.drew = w11 at HB hx334_0 hx334_1 hx334_2 hx335_0 hx335_1 hx335_2 hHeld ⊢
        refine pl_ HT_ 0 17 tb10_1_13 ?_
        refine pl_ HT_ 1 18 tb10_3_13 ?_
        refine pl_ HT_ 2 19 tb10_7_13 ?_
        refine pl_ HT_ 4 21 tb10_17_13 ?_
        refine pl_ HT_ 5 22 tb10_37_13 ?_
        refine pl_ HT_ 6 23 tb10_77_13 ?_
        refine take_ (i := 3) (N := some 20) (v := ?_) (a' := ?_) tb10_7f_13 rfl rfl (take_ofW HT_.out HW_.out (by kernel_rfl)) (fun _ _ _ h => h) (Or.inl ⟨by rfl, ?_⟩) hHeld ?_ ?_
        rotate_left
        ·rintro w' ⟨s0, s1, s2, s3, s4, s5⟩
         go_simp
         with_reducible rfl
        rotate_left
        ·simp only [Act.put, q_]
         rfl
        refine take_ (i := 7) (N := some 24) (v := ?_) (a' := ?_) tb10_ff_13 rfl rfl (take_ofW HT_.out HW_.out (by kernel_rfl)) (fun _ _ _ h => h) (Or.inl ⟨by rfl, ?_⟩) hHeld ?_ ?_
        rotate_left
        ·rintro w' ⟨s0, s1, s2, s3, s4, s5⟩
         go_simp
         with_reducible rfl
        rotate_left
        ·simp only [Act.put, q_]
         rfl
        refine one_ (i := 8) (N := some 25) tb10_1ff_13 rfl rfl (one_of HT_.out (by kernel_rfl)) (by decide) (fun K hK => ?_)
        refine goes_ Try.func80 (by kernel_rfl) rfl #[.agg #[.string ((rd_T93 l0 x5_1).f0), .int .i64 ((rd_T93 l0 x5_1).f1), .int .i64 ((rd_T93 l0 x5_1).f2)], .agg #[.string ((rd_T93 l1 x5_1).f0), .int .i64 ((rd_T93 l1 x5_1).f1), .int .i64 ((rd_T93 l1 x5_1).f2)]] (by rfl) rfl rfl gl_ ?_
        with_reducible refine (laws_eqHold.calls ((rd_T93 l0 x5_1).f0) ((rd_T93 l0 x5_1).f1) ((rd_T93 l0 x5_1).f2) ((rd_T93 l1 x5_1).f0) ((rd_T93 l1 x5_1).f1) ((rd_T93 l1 x5_1).f2) false _ A7.out).mono ?_
        rintro e w12 ⟨rfl, hb⟩
        refine ⟨_, rfl, ?_⟩
        have n0_ := Aside0.mk (below_step bl_ hb)
        clear HB
        have HB := n0_
        clear n0_
        (try clear hb)
        (try clear hb2)
        (try clear hk)
        (try clear hi)
        refine hK.out _ _ ⟨(kc_ HB hw334_0), (kc_ HB hw334_1), (kc_ HB hw334_2), (kc_ HB hw335_0), (kc_ HB hw335_1), (kc_ HB hw335_2)⟩ (fun hHeld => ?_)
        clear hK K
        refine norm_ (a' := ?_) ?_ ?_
        rotate_left
        ·show Act.put _ (some 25) _ = _
         simp only [Act.put, q_]
         rfl
        refine pl_ HT_ 9 26 tb10_3ff_13 ?_
        refine done_ (done_of HT_.out (by kernel_rfl)) ?_
        try go_wp2
        go_ret
        exact ⟨sq_, bl_⟩
      ·rw [if_neg c6] at H
       exact absurd H (by simp)
     ·rw [if_neg c5] at H
      exact absurd H (by simp)
    ·rw [if_neg c4] at H
     have c4b0 : decide (x5_1 < (l0.length : Int)) = false := decide_eq_false c4
     clear c4
     obtain rfl := Option.some.inj H
     go_wp2
     go_ret
     exact ⟨sq_, bl_⟩
 ·rw [if_neg c3] at H
  have c3b0 : ((l0.length : Int) == (l1.length : Int)) = false := beq_eq_false_iff_ne.mpr c3
  have c3b1 : ((l0.length : Int) != (l1.length : Int)) = true := bne_iff_ne.mpr c3
  have c3b2 : (l0.length == l1.length) = false := by first | simpa using c3 | (simp at c3 ⊢; omega)
  obtain rfl := Option.some.inj H
  go_enter Try.func19, Try.ntmps19
  go_wp2
  go_ret
  exact ⟨sq_, bl_⟩

/-! ### laws_eqByteS: function 40 -/
def laws_eqByteS.l0 : Nat → List Int → List Int → Int → Option (Bool)
 | 0, _, _, _ => none
 | k + 1, x0, x1, x5 => if x5 < (x0.length : Int) then (if 0 ≤ x5 then (if x5 < (x1.length : Int) then (if (rd x0 x5) = (rd x1 x5) then (laws_eqByteS.l0 k x0 x1 (wrap64 (x5 + 1))) else (some false)) else (none)) else (none)) else (some true)
def laws_eqByteS.f (k : Nat) (l0 : List Int) (l1 : List Int) : Option (Bool) := if (l0.length : Int) = (l1.length : Int) then (laws_eqByteS.l0 k l0 l1 0) else (some false)
theorem laws_eqByteS.mono_l : ∀ k, (∀ y0 y1 y2, LeO (laws_eqByteS.l0 k y0 y1 y2) (laws_eqByteS.l0 (k + 1) y0 y1 y2))
 | 0 => fun _ _ _ r h => by simp [laws_eqByteS.l0] at h
 | k + 1 => by
  have ih0 := laws_eqByteS.mono_l k
  ·intro y0 y1 y2
   unfold laws_eqByteS.l0
   repeat' first
   | (with_reducible exact ih0 _ _ _)
   | (with_reducible exact LeO.refl _)
   | (with_reducible exact LeO.none _)
   | (with_reducible refine LeO.ite ?_ ?_)
   | (with_reducible refine LeO.bind ?_ (fun _ => ?_))
   | exact ih0 _ _ _
   | exact LeO.none _
   | refine LeO.ite ?_ ?_
   | refine LeO.bind ?_ (fun _ => ?_)
theorem laws_eqByteS.mono : ∀ a0 a1 k, LeO (laws_eqByteS.f k a0 a1) (laws_eqByteS.f (k + 1) a0 a1) := by
 intro a0 a1 k
 have ih0 := laws_eqByteS.mono_l k
 unfold laws_eqByteS.f
 repeat' first
   | (with_reducible exact ih0 _ _ _)
   | (with_reducible exact LeO.refl _)
   | (with_reducible exact LeO.none _)
   | (with_reducible refine LeO.ite ?_ ?_)
   | (with_reducible refine LeO.bind ?_ (fun _ => ?_))
   | exact ih0 _ _ _
   | exact LeO.none _
   | refine LeO.ite ?_ ?_
   | refine LeO.bind ?_ (fun _ => ?_)
set_option maxHeartbeats 8000000 in
set_option maxRecDepth 100000 in
theorem laws_eqByteS.calls (k : Nat) (A0 : Option Addr) (c0 : Nat) (l0 : List Int) (A1 : Option Addr) (c1 : Nat) (l1 : List Int) (r : Bool) (w : World) (hr0 : Kd.C (Kd.int .u8) w A0 l0.length l0) (hc0 : l0.length ≤ c0) (hr1 : Kd.C (Kd.int .u8) w A1 l1.length l1) (hc1 : l1.length ≤ c1) (h : laws_eqByteS.f k l0 l1 = some r) :
  Calls Try.prog 40 #[.slice A0 l0.length c0, .slice A1 l1.length c1] w fun e w' => e = .returned (.bool r) ∧ Drawn0 w w' := by
 have HR0 := Aside0.mk hr0
 have HC0 := Aside0.mk hc0
 clear hr0 hc0
 have HR1 := Aside0.mk hr1
 have HC1 := Aside0.mk hc1
 clear hr1 hc1
 have H : (if (l0.length : Int) = (l1.length : Int) then (laws_eqByteS.l0 k l0 l1 0) else (some false)) = some r := h
 clear h
 by_cases c3 : (l0.length : Int) = (l1.length : Int)
 ·rw [if_pos c3] at H
  have c3b0 : ((l0.length : Int) == (l1.length : Int)) = true := beq_iff_eq.mpr c3
  have c3b1 : ((l0.length : Int) != (l1.length : Int)) = false := bne_eq_false_iff_eq.mpr c3
  have c3b2 : (l0.length == l1.length) = true := by first | simpa using c3 | (simp at c3 ⊢; omega)
  clear c3
  have H' := Aside0.mk H
  clear H
  go_enter Try.func40, Try.ntmps40
  go_wp2
  repeat (go_quiet (fail); try go_wp2)
  go_loopg [5] k (fun kq v5 w' => ∃ (x5_1 : Int), v5 = .int .i64 x5_1 ∧ Aside0 (laws_eqByteS.l0 kq l0 l1 x5_1 = some r) ∧ Aside0 (kq ≤ k) ∧ Drawn0 w w')
  case atStart => exact ⟨(0), sp_, H', ⟨Nat.le_refl _⟩, by repeat (first | exact Drawn0.refl _ | apply Drawn0.step)⟩
  case round =>
   clear H'
   try clear c1
   try clear p2
   try clear c3
   try clear c3b0
   try clear c3b1
   try clear c3b2
   obtain ⟨x5_1, rfl, HA, HK1, ⟨m1, rfl⟩⟩ := hrel
   cases gk with
   | zero => exact absurd HA.out (by simp [laws_eqByteS.l0])
   | succ k1 =>
    have H := HA.out
    clear HA
    simp only [laws_eqByteS.l0] at H
    by_cases c4 : x5_1 < (l0.length : Int)
    ·rw [if_pos c4] at H
     have c4b0 : decide (x5_1 < (l0.length : Int)) = true := decide_eq_true c4
     clear c4
     by_cases c5 : 0 ≤ x5_1
     ·rw [if_pos c5] at H
      have c5b0 : decide (0 ≤ x5_1) = true := decide_eq_true c5
      clear c5
      by_cases c6 : x5_1 < (l1.length : Int)
      ·rw [if_pos c6] at H
       have c6b0 : decide (x5_1 < (l1.length : Int)) = true := decide_eq_true c6
       clear c6
       by_cases c7 : (rd l0 x5_1) = (rd l1 x5_1)
       ·rw [if_pos c7] at H
        have c7b0 : ((rd l0 x5_1) == (rd l1 x5_1)) = true := beq_iff_eq.mpr c7
        have c7b1 : ((rd l0 x5_1) != (rd l1 x5_1)) = false := bne_eq_false_iff_eq.mpr c7
        clear c7
        have H' := Aside0.mk H
        clear H
        have p337 : 0 ≤ (x5_1 : Int) := od_
        have q337 : x5_1 < (l0.length : Int) := od_
        obtain ⟨ad337, e337, hx337_0⟩ := Kd.at_int HR0.out x5_1 p337 q337
        cases e337
        replace p337 := eq_true p337
        replace q337 := eq_true q337
        have p338 : 0 ≤ (x5_1 : Int) := od_
        have q338 : x5_1 < (l1.length : Int) := od_
        obtain ⟨ad338, e338, hx338_0⟩ := Kd.at_int HR1.out x5_1 p338 q338
        cases e338
        replace p338 := eq_true p338
        replace q338 := eq_true q338
        go_wp2
        repeat (go_quiet (fail); try go_wp2)
        go_roundg k1
        case measure => have := HK1.out; omega
        case rel => exact ⟨(wrap64 (x5_1 + 1)), sp_, H', ⟨by have := HK1.out; omega⟩, by repeat (first | exact Drawn0.refl _ | apply Drawn0.step)⟩
       ·rw [if_neg c7] at H
        have c7b0 : ((rd l0 x5_1) == (rd l1 x5_1)) = false := beq_eq_false_iff_ne.mpr c7
        have c7b1 : ((rd l0 x5_1) != (rd l1 x5_1)) = true := bne_iff_ne.mpr c7
        obtain rfl := Option.some.inj H
        have p337 : 0 ≤ (x5_1 : Int) := od_
        have q337 : x5_1 < (l0.length : Int) := od_
        obtain ⟨ad337, e337, hx337_0⟩ := Kd.at_int HR0.out x5_1 p337 q337
        cases e337
        replace p337 := eq_true p337
        replace q337 := eq_true q337
        have p338 : 0 ≤ (x5_1 : Int) := od_
        have q338 : x5_1 < (l1.length : Int) := od_
        obtain ⟨ad338, e338, hx338_0⟩ := Kd.at_int HR1.out x5_1 p338 q338
        cases e338
        replace p338 := eq_true p338
        replace q338 := eq_true q338
        go_wp2
        repeat (go_quiet (fail); try go_wp2)
        go_ret
        exact ⟨sp_, by repeat (first | exact Drawn0.refl _ | apply Drawn0.step)⟩
      ·rw [if_neg c6] at H
       exact absurd H (by simp)
     ·rw [if_neg c5] at H
      exact absurd H (by simp)
    ·rw [if_neg c4] at H
     have c4b0 : decide (x5_1 < (l0.length : Int)) = false := decide_eq_false c4
     clear c4
     obtain rfl := Option.some.inj H
     go_wp2
     repeat (go_quiet (fail); try go_wp2)
     go_ret
     exact ⟨sp_, by repeat (first | exact Drawn0.refl _ | apply Drawn0.step)⟩
 ·rw [if_neg c3] at H
  have c3b0 : ((l0.length : Int) == (l1.length : Int)) = false := beq_eq_false_iff_ne.mpr c3
  have c3b1 : ((l0.length : Int) != (l1.length : Int)) = true := bne_iff_ne.mpr c3
  have c3b2 : (l0.length == l1.length) = false := by first | simpa using c3 | (simp at c3 ⊢; omega)
  obtain rfl := Option.some.inj H
  go_enter Try.func40, Try.ntmps40
  go_wp2
  repeat (go_quiet (fail); try go_wp2)
  go_ret
  exact ⟨sp_, by repeat (first | exact Drawn0.refl _ | apply Drawn0.step)⟩

/-! ### laws_eqSlot: function 49 -/
def laws_eqSlot.f (k : Nat) (a0_0 : ByteArray) (a0_1 : ByteArray) (l0_2 : List Int) (a1_0 : ByteArray) (a1_1 : ByteArray) (l1_2 : List Int) : Option (Bool) := if a0_0.toList = a1_0.toList then (if a0_1.toList = a1_1.toList then ((laws_eqByteS.f k l0_2 l1_2).bind fun t341 => (if t341 = true then (some true) else (some false))) else (some false)) else (some false)
theorem laws_eqSlot.mono : ∀ a0 a1 a2 a3 a4 a5 k, LeO (laws_eqSlot.f k a0 a1 a2 a3 a4 a5) (laws_eqSlot.f (k + 1) a0 a1 a2 a3 a4 a5) := by
 intro a0 a1 a2 a3 a4 a5 k
 unfold laws_eqSlot.f
 repeat' first
   | (with_reducible exact laws_eqByteS.mono _ _ _)
   | (with_reducible exact LeO.refl _)
   | (with_reducible exact LeO.none _)
   | (with_reducible refine LeO.ite ?_ ?_)
   | (with_reducible refine LeO.bind ?_ (fun _ => ?_))
   | exact laws_eqByteS.mono _ _ _
   | exact LeO.none _
   | refine LeO.ite ?_ ?_
   | refine LeO.bind ?_ (fun _ => ?_)
set_option maxHeartbeats 8000000 in
set_option maxRecDepth 100000 in
theorem laws_eqSlot.calls (k : Nat) (a0_0 : ByteArray) (a0_1 : ByteArray) (A0_2 : Option Addr) (c0_2 : Nat) (l0_2 : List Int) (a1_0 : ByteArray) (a1_1 : ByteArray) (A1_2 : Option Addr) (c1_2 : Nat) (l1_2 : List Int) (r : Bool) (w : World) (hr0_2 : Kd.C (Kd.int .u8) w A0_2 l0_2.length l0_2) (hc0_2 : l0_2.length ≤ c0_2) (hr1_2 : Kd.C (Kd.int .u8) w A1_2 l1_2.length l1_2) (hc1_2 : l1_2.length ≤ c1_2) (h : laws_eqSlot.f k a0_0 a0_1 l0_2 a1_0 a1_1 l1_2 = some r) :
  Calls Try.prog 49 #[.agg #[.string a0_0, .string a0_1, .slice A0_2 l0_2.length c0_2], .agg #[.string a1_0, .string a1_1, .slice A1_2 l1_2.length c1_2]] w fun e w' => e = .returned (.bool r) ∧ Below w.heap.size w w' := by
 have hu74 := Try.underlying74
 have HR0_2 := Aside0.mk hr0_2
 have HC0_2 := Aside0.mk hc0_2
 clear hr0_2 hc0_2
 have HR1_2 := Aside0.mk hr1_2
 have HC1_2 := Aside0.mk hc1_2
 clear hr1_2 hc1_2
 have HB := Aside0.mk (Below.refl w.heap.size w)
 have H : (if a0_0.toList = a1_0.toList then (if a0_1.toList = a1_1.toList then ((laws_eqByteS.f k l0_2 l1_2).bind fun t341 => (if t341 = true then (some true) else (some false))) else (some false)) else (some false)) = some r := h
 clear h
 by_cases c3 : a0_0.toList = a1_0.toList
 ·rw [if_pos c3] at H
  have c3b0 : (a0_0.toList == a1_0.toList) = true := beq_iff_eq.mpr c3
  have c3b1 : (a0_0.toList != a1_0.toList) = false := bne_eq_false_iff_eq.mpr c3
  clear c3
  by_cases c4 : a0_1.toList = a1_1.toList
  ·rw [if_pos c4] at H
   have c4b0 : (a0_1.toList == a1_1.toList) = true := beq_iff_eq.mpr c4
   have c4b1 : (a0_1.toList != a1_1.toList) = false := bne_eq_false_iff_eq.mpr c4
   clear c4
   replace H := Option.bind_eq_some_iff.mp H
   obtain ⟨t341, A50, H⟩ := H
   replace H : (if t341 = true then (some true) else (some false)) = some r := H
   have A5 := Aside0.mk A50
   clear A50
   by_cases c6 : t341 = true
   ·subst c6
    have H1 : (some true) = some r := by rw [if_pos rfl] at H; exact H
    clear H
    have H := H1
    clear H1
    obtain rfl := Option.some.inj H
    go_enter Try.func49, Try.ntmps49
    go_wp2_with (first | ((with_reducible refine gate_dst (N := 2) rfl ?_); refine box_event ?hg (N := 2) ?hd (cs := #[.string a0_0, .string a0_1, .slice A0_2 l0_2.length c0_2]) (t := 74) ?hr ?_; (case hd => rfl); (case hg => rfl); (case hr => first | (go_simp; done) | (go_simp; rfl)); intro gb339 hg w7 hbox hb; have n0_ := Aside0.mk (below_step bl_ hb); have n1_ := Aside0.mk (hbox); have n2_ := gw_ (w := w) hg; have n3_ := gw_ (w := w) hg; clear HB; have HB := n0_; have BK339 := n1_; have GW339 := n2_; have GE339 := n3_; clear n0_ n1_ n2_ n3_; clear hb hbox hg) | ((with_reducible refine gate_dst (N := 3) rfl ?_); refine box_event ?hg (N := 3) ?hd (cs := #[.string a1_0, .string a1_1, .slice A1_2 l1_2.length c1_2]) (t := 74) ?hr ?_; (case hd => rfl); (case hg => rfl); (case hr => first | (go_simp; done) | (go_simp; rfl)); intro gb340 hg w8 hbox hb; have n0_ := Aside0.mk (blk_below (bk_ BK339) hb); have n1_ := Aside0.mk (below_step bl_ hb); have n2_ := Aside0.mk (hbox); have n3_ := gw_ (w := w) hg; have n4_ := gw_ (w := w) hg; have n5_ := Aside0.mk ((by rw [hg]; exact Nat.ne_of_lt (blk_lt (bk_ BK339)) : gb339 ≠ gb340)); have n6_ := Aside0.mk ((by rw [hg]; exact Nat.ne_of_gt (blk_lt (bk_ BK339)) : gb340 ≠ gb339)); clear BK339; clear HB; have BK339 := n0_; have HB := n1_; have BK340 := n2_; have GW340 := n3_; have GE340 := n4_; have NB339_340 := n5_; have NB340_339 := n6_; clear n0_ n1_ n2_ n3_ n4_ n5_ n6_; clear hb hbox hg; have hnb9 := NB339_340.out; have hnc9 := NB340_339.out; have hcz10_0 := cz_ BK339 0 (.string a0_0); have hcz10_1 := cz_ BK339 1 (.string a0_1); have hcz10_2 := cz_ BK339 2 (.slice A0_2 l0_2.length c0_2); have hfz10_0 := fz_ BK339 0; have hfz10_1 := fz_ BK339 1; have hfz10_2 := fz_ BK339 2; have hcz11_0 := cz_ BK340 0 (.string a1_0); have hcz11_1 := cz_ BK340 1 (.string a1_1); have hcz11_2 := cz_ BK340 2 (.slice A1_2 l1_2.length c1_2); have hfz11_0 := fz_ BK340 0; have hfz11_1 := fz_ BK340 1; have hfz11_2 := fz_ BK340 2) | ((with_reducible refine gate_callee (f := 40) rfl ?_); refine goesL_ (some 19) rfl rfl Try.func40 (by kernel_rfl) rfl #[.slice A0_2 l0_2.length c0_2, .slice A1_2 l1_2.length c1_2] rfl gl_ ?_; (with_reducible refine (laws_eqByteS.calls k _ _ l0_2 _ _ l1_2 true _ ?side1 ?side2 ?side3 ?side4 A5.out).mono ?_); (case side1 => exact ca_ (Kd.C_below HR0_2.out HB.out)); (case side2 => exact HC0_2.out); (case side3 => exact ca_ (Kd.C_below HR1_2.out HB.out)); (case side4 => exact HC1_2.out); rintro e w' ⟨rfl, ⟨nd, rfl⟩⟩; refine ⟨_, rfl, ?_⟩))
    go_ret
    exact ⟨sq_, bl_⟩
   ·replace c6 := Bool.eq_false_iff.mpr c6
    subst c6
    have H1 : (some false) = some r := by rw [if_neg (show ¬ (false = true) by decide)] at H; exact H
    clear H
    have H := H1
    clear H1
    obtain rfl := Option.some.inj H
    go_enter Try.func49, Try.ntmps49
    go_wp2_with (first | ((with_reducible refine gate_dst (N := 2) rfl ?_); refine box_event ?hg (N := 2) ?hd (cs := #[.string a0_0, .string a0_1, .slice A0_2 l0_2.length c0_2]) (t := 74) ?hr ?_; (case hd => rfl); (case hg => rfl); (case hr => first | (go_simp; done) | (go_simp; rfl)); intro gb339 hg w12 hbox hb; have n0_ := Aside0.mk (below_step bl_ hb); have n1_ := Aside0.mk (hbox); have n2_ := gw_ (w := w) hg; have n3_ := gw_ (w := w) hg; clear HB; have HB := n0_; have BK339 := n1_; have GW339 := n2_; have GE339 := n3_; clear n0_ n1_ n2_ n3_; clear hb hbox hg) | ((with_reducible refine gate_dst (N := 3) rfl ?_); refine box_event ?hg (N := 3) ?hd (cs := #[.string a1_0, .string a1_1, .slice A1_2 l1_2.length c1_2]) (t := 74) ?hr ?_; (case hd => rfl); (case hg => rfl); (case hr => first | (go_simp; done) | (go_simp; rfl)); intro gb340 hg w13 hbox hb; have n0_ := Aside0.mk (blk_below (bk_ BK339) hb); have n1_ := Aside0.mk (below_step bl_ hb); have n2_ := Aside0.mk (hbox); have n3_ := gw_ (w := w) hg; have n4_ := gw_ (w := w) hg; have n5_ := Aside0.mk ((by rw [hg]; exact Nat.ne_of_lt (blk_lt (bk_ BK339)) : gb339 ≠ gb340)); have n6_ := Aside0.mk ((by rw [hg]; exact Nat.ne_of_gt (blk_lt (bk_ BK339)) : gb340 ≠ gb339)); clear BK339; clear HB; have BK339 := n0_; have HB := n1_; have BK340 := n2_; have GW340 := n3_; have GE340 := n4_; have NB339_340 := n5_; have NB340_339 := n6_; clear n0_ n1_ n2_ n3_ n4_ n5_ n6_; clear hb hbox hg; have hnb14 := NB339_340.out; have hnc14 := NB340_339.out; have hcz15_0 := cz_ BK339 0 (.string a0_0); have hcz15_1 := cz_ BK339 1 (.string a0_1); have hcz15_2 := cz_ BK339 2 (.slice A0_2 l0_2.length c0_2); have hfz15_0 := fz_ BK339 0; have hfz15_1 := fz_ BK339 1; have hfz15_2 := fz_ BK339 2; have hcz16_0 := cz_ BK340 0 (.string a1_0); have hcz16_1 := cz_ BK340 1 (.string a1_1); have hcz16_2 := cz_ BK340 2 (.slice A1_2 l1_2.length c1_2); have hfz16_0 := fz_ BK340 0; have hfz16_1 := fz_ BK340 1; have hfz16_2 := fz_ BK340 2) | ((with_reducible refine gate_callee (f := 40) rfl ?_); refine goesL_ (some 19) rfl rfl Try.func40 (by kernel_rfl) rfl #[.slice A0_2 l0_2.length c0_2, .slice A1_2 l1_2.length c1_2] rfl gl_ ?_; (with_reducible refine (laws_eqByteS.calls k _ _ l0_2 _ _ l1_2 false _ ?side1 ?side2 ?side3 ?side4 A5.out).mono ?_); (case side1 => exact ca_ (Kd.C_below HR0_2.out HB.out)); (case side2 => exact HC0_2.out); (case side3 => exact ca_ (Kd.C_below HR1_2.out HB.out)); (case side4 => exact HC1_2.out); rintro e w' ⟨rfl, ⟨nd, rfl⟩⟩; refine ⟨_, rfl, ?_⟩))
    go_ret
    exact ⟨sq_, bl_⟩
  ·rw [if_neg c4] at H
   have c4b0 : (a0_1.toList == a1_1.toList) = false := beq_eq_false_iff_ne.mpr c4
   have c4b1 : (a0_1.toList != a1_1.toList) = true := bne_iff_ne.mpr c4
   obtain rfl := Option.some.inj H
   go_enter Try.func49, Try.ntmps49
   go_wp2_with (first | ((with_reducible refine gate_dst (N := 2) rfl ?_); refine box_event ?hg (N := 2) ?hd (cs := #[.string a0_0, .string a0_1, .slice A0_2 l0_2.length c0_2]) (t := 74) ?hr ?_; (case hd => rfl); (case hg => rfl); (case hr => first | (go_simp; done) | (go_simp; rfl)); intro gb339 hg w17 hbox hb; have n0_ := Aside0.mk (below_step bl_ hb); have n1_ := Aside0.mk (hbox); have n2_ := gw_ (w := w) hg; have n3_ := gw_ (w := w) hg; clear HB; have HB := n0_; have BK339 := n1_; have GW339 := n2_; have GE339 := n3_; clear n0_ n1_ n2_ n3_; clear hb hbox hg) | ((with_reducible refine gate_dst (N := 3) rfl ?_); refine box_event ?hg (N := 3) ?hd (cs := #[.string a1_0, .string a1_1, .slice A1_2 l1_2.length c1_2]) (t := 74) ?hr ?_; (case hd => rfl); (case hg => rfl); (case hr => first | (go_simp; done) | (go_simp; rfl)); intro gb340 hg w18 hbox hb; have n0_ := Aside0.mk (blk_below (bk_ BK339) hb); have n1_ := Aside0.mk (below_step bl_ hb); have n2_ := Aside0.mk (hbox); have n3_ := gw_ (w := w) hg; have n4_ := gw_ (w := w) hg; have n5_ := Aside0.mk ((by rw [hg]; exact Nat.ne_of_lt (blk_lt (bk_ BK339)) : gb339 ≠ gb340)); have n6_ := Aside0.mk ((by rw [hg]; exact Nat.ne_of_gt (blk_lt (bk_ BK339)) : gb340 ≠ gb339)); clear BK339; clear HB; have BK339 := n0_; have HB := n1_; have BK340 := n2_; have GW340 := n3_; have GE340 := n4_; have NB339_340 := n5_; have NB340_339 := n6_; clear n0_ n1_ n2_ n3_ n4_ n5_ n6_; clear hb hbox hg; have hnb19 := NB339_340.out; have hnc19 := NB340_339.out; have hcz20_0 := cz_ BK339 0 (.string a0_0); have hcz20_1 := cz_ BK339 1 (.string a0_1); have hcz20_2 := cz_ BK339 2 (.slice A0_2 l0_2.length c0_2); have hfz20_0 := fz_ BK339 0; have hfz20_1 := fz_ BK339 1; have hfz20_2 := fz_ BK339 2; have hcz21_0 := cz_ BK340 0 (.string a1_0); have hcz21_1 := cz_ BK340 1 (.string a1_1); have hcz21_2 := cz_ BK340 2 (.slice A1_2 l1_2.length c1_2); have hfz21_0 := fz_ BK340 0; have hfz21_1 := fz_ BK340 1; have hfz21_2 := fz_ BK340 2))
   go_ret
   exact ⟨sq_, bl_⟩
 ·rw [if_neg c3] at H
  have c3b0 : (a0_0.toList == a1_0.toList) = false := beq_eq_false_iff_ne.mpr c3
  have c3b1 : (a0_0.toList != a1_0.toList) = true := bne_iff_ne.mpr c3
  obtain rfl := Option.some.inj H
  go_enter Try.func49, Try.ntmps49
  go_wp2_with (first | ((with_reducible refine gate_dst (N := 2) rfl ?_); refine box_event ?hg (N := 2) ?hd (cs := #[.string a0_0, .string a0_1, .slice A0_2 l0_2.length c0_2]) (t := 74) ?hr ?_; (case hd => rfl); (case hg => rfl); (case hr => first | (go_simp; done) | (go_simp; rfl)); intro gb339 hg w22 hbox hb; have n0_ := Aside0.mk (below_step bl_ hb); have n1_ := Aside0.mk (hbox); have n2_ := gw_ (w := w) hg; have n3_ := gw_ (w := w) hg; clear HB; have HB := n0_; have BK339 := n1_; have GW339 := n2_; have GE339 := n3_; clear n0_ n1_ n2_ n3_; clear hb hbox hg) | ((with_reducible refine gate_dst (N := 3) rfl ?_); refine box_event ?hg (N := 3) ?hd (cs := #[.string a1_0, .string a1_1, .slice A1_2 l1_2.length c1_2]) (t := 74) ?hr ?_; (case hd => rfl); (case hg => rfl); (case hr => first | (go_simp; done) | (go_simp; rfl)); intro gb340 hg w23 hbox hb; have n0_ := Aside0.mk (blk_below (bk_ BK339) hb); have n1_ := Aside0.mk (below_step bl_ hb); have n2_ := Aside0.mk (hbox); have n3_ := gw_ (w := w) hg; have n4_ := gw_ (w := w) hg; have n5_ := Aside0.mk ((by rw [hg]; exact Nat.ne_of_lt (blk_lt (bk_ BK339)) : gb339 ≠ gb340)); have n6_ := Aside0.mk ((by rw [hg]; exact Nat.ne_of_gt (blk_lt (bk_ BK339)) : gb340 ≠ gb339)); clear BK339; clear HB; have BK339 := n0_; have HB := n1_; have BK340 := n2_; have GW340 := n3_; have GE340 := n4_; have NB339_340 := n5_; have NB340_339 := n6_; clear n0_ n1_ n2_ n3_ n4_ n5_ n6_; clear hb hbox hg; have hnb24 := NB339_340.out; have hnc24 := NB340_339.out; have hcz25_0 := cz_ BK339 0 (.string a0_0); have hcz25_1 := cz_ BK339 1 (.string a0_1); have hcz25_2 := cz_ BK339 2 (.slice A0_2 l0_2.length c0_2); have hfz25_0 := fz_ BK339 0; have hfz25_1 := fz_ BK339 1; have hfz25_2 := fz_ BK339 2; have hcz26_0 := cz_ BK340 0 (.string a1_0); have hcz26_1 := cz_ BK340 1 (.string a1_1); have hcz26_2 := cz_ BK340 2 (.slice A1_2 l1_2.length c1_2); have hfz26_0 := fz_ BK340 0; have hfz26_1 := fz_ BK340 1; have hfz26_2 := fz_ BK340 2))
  go_ret
  exact ⟨sq_, bl_⟩

end Go.Proofs.Ytepjnalkpfnmcaa.QFnExactRoom
