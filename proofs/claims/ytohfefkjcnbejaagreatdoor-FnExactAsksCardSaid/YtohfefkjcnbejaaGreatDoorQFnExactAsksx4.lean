-- by my own printer (myprint.py, over the kit's print.py)
import Derived.Test.YtohfefkjcnbejaaGreatDoorQFnExactAsksx3
namespace Go.Proofs.YtohfefkjcnbejaaGreatDoor.QFnExactAsks
open Go.RowKit Go.Proofs.YtohfefkjcnbejaaGreatDoorW.PrintWords Go.Proofs.YtohfefkjcnbejaaGreatDoorW.PrintLast Go.Proofs.YtohfefkjcnbejaaGreatDoorW.PrintMore
attribute [local go_sem] max2_int min2_int max_two min_two max_three min_three max_four min_four
set_option linter.unusedVariables false
set_option linter.unusedSimpArgs false
attribute [local go_sem] my_geq my_leq my_gtr
/-! ### impl_ReqOf: function 11 -/
def impl_ReqOf.l0 : Nat → List Int → Int → Int → ByteArray → List (S91) → Int → ByteArray → ByteArray → ByteArray → ByteArray → ByteArray → Int → Int → Option (Int × ByteArray × ByteArray × ByteArray × ByteArray × ByteArray × Int × Int × Int)
 | 0, _, _, _, _, _, _, _, _, _, _, _, _, _ => none
 | k + 1, x41, x42, x43, x393000, x393001, x400000, x400001, x400002, x400003, x400004, x400005, x400006, x400007 => if x43 < x42 then (if 0 ≤ x43 then (if x43 < (x41.length : Int) then ((impl_FieldOf.f k x393000 x393001 (rd x41 x43)).bind fun bt418 => (if bt418.2 = true then (if (rd x41 x43) = 2 then (impl_ReqOf.l0 k x41 x42 (wrap64 (x43 + 1)) x393000 x393001 x400000 bt418.1 x400002 x400003 x400004 x400005 x400006 x400007) else (if (rd x41 x43) = 4 then ((impl_Narrow.f k bt418.1).bind fun bt420 => (impl_ReqOf.l0 k x41 x42 (wrap64 (x43 + 1)) x393000 x393001 x400000 x400001 x400002 x400003 x400004 x400005 bt420.1 x400007)) else (if (rd x41 x43) = 11 then (impl_ReqOf.l0 k x41 x42 (wrap64 (x43 + 1)) x393000 x393001 x400000 x400001 x400002 x400003 bt418.1 x400005 x400006 x400007) else (if (rd x41 x43) = 14 then ((impl_Narrow.f k bt418.1).bind fun bt422 => (impl_ReqOf.l0 k x41 x42 (wrap64 (x43 + 1)) x393000 x393001 x400000 x400001 x400002 x400003 x400004 x400005 x400006 bt422.1)) else (if (rd x41 x43) = 38 then ((impl_FieldBare.f bt418.1).bind fun t424 => (impl_ReqOf.l0 k x41 x42 (wrap64 (x43 + 1)) x393000 x393001 x400000 x400001 x400002 t424 x400004 x400005 x400006 x400007)) else (if (rd x41 x43) = 103 then (impl_ReqOf.l0 k x41 x42 (wrap64 (x43 + 1)) x393000 x393001 x400000 x400001 bt418.1 x400003 x400004 x400005 x400006 x400007) else (impl_ReqOf.l0 k x41 x42 (wrap64 (x43 + 1)) x393000 x393001 x400000 x400001 x400002 x400003 x400004 x400005 x400006 x400007))))))) else (some (0, (⟨#[]⟩ : ByteArray), (⟨#[]⟩ : ByteArray), (⟨#[]⟩ : ByteArray), (⟨#[]⟩ : ByteArray), (⟨#[]⟩ : ByteArray), 0, 0, 1)))) else (none)) else (none)) else ((impl_ReqOk.f k x400000 x400001 x400002 x400003 x400004 x400005 x400006 x400007).bind fun t416 => (if t416 = true then (some (x400000, x400001, x400002, x400003, x400004, x400005, x400006, x400007, 0)) else (some (0, (⟨#[]⟩ : ByteArray), (⟨#[]⟩ : ByteArray), (⟨#[]⟩ : ByteArray), (⟨#[]⟩ : ByteArray), (⟨#[]⟩ : ByteArray), 0, 0, 1))))
def impl_ReqOf.f (k : Nat) (a0_0 : ByteArray) (l0_1 : List (S91)) : Option (Int × ByteArray × ByteArray × ByteArray × ByteArray × ByteArray × Int × Int × Int) := (impl_MsgOk.f k a0_0 l0_1).bind fun t394 => (if t394 = true then ((impl_MtiKnown.f a0_0).bind fun t395 => (if t395 = true then ((impl_FieldOf.f k a0_0 l0_1 3).bind fun bt396 => (if bt396.2 = true then ((impl_opRows.f).bind fun t400 => ((opRows_index.f t400 a0_0 bt396.1).bind fun t403 => ((some (([2, 11] : List Int) : List Int)).bind fun y404 => ((impl_opOf.f (wrap64 (1 + t403))).bind fun bt407 => (if y404.length + bt407.2.2.2.length < 17592186044416 then ((some (y404 ++ bt407.2.2.2 : List Int)).bind fun y413 => (impl_ReqOf.l0 k y413 (y413.length : Int) 0 a0_0 l0_1 (wrap64 (1 + t403)) (⟨#[]⟩ : ByteArray) (⟨#[]⟩ : ByteArray) (⟨#[]⟩ : ByteArray) (⟨#[]⟩ : ByteArray) a0_0 0 0)) else (none)))))) else (some (0, (⟨#[]⟩ : ByteArray), (⟨#[]⟩ : ByteArray), (⟨#[]⟩ : ByteArray), (⟨#[]⟩ : ByteArray), (⟨#[]⟩ : ByteArray), 0, 0, 1)))) else (some (0, (⟨#[]⟩ : ByteArray), (⟨#[]⟩ : ByteArray), (⟨#[]⟩ : ByteArray), (⟨#[]⟩ : ByteArray), (⟨#[]⟩ : ByteArray), 0, 0, 2)))) else (some (0, (⟨#[]⟩ : ByteArray), (⟨#[]⟩ : ByteArray), (⟨#[]⟩ : ByteArray), (⟨#[]⟩ : ByteArray), (⟨#[]⟩ : ByteArray), 0, 0, 1)))
set_option maxHeartbeats 8000000 in
set_option maxRecDepth 100000 in
theorem impl_ReqOf.calls (k : Nat) (a0_0 : ByteArray) (A0_1 : Option Addr) (c0_1 : Nat) (l0_1 : List (S91)) (r1 : Int) (r2 : ByteArray) (r3 : ByteArray) (r4 : ByteArray) (r5 : ByteArray) (r6 : ByteArray) (r7 : Int) (r8 : Int) (r9 : Int) (w : World) (hr0_1 : Kd.C k91 w A0_1 l0_1.length l0_1) (hc0_1 : l0_1.length ≤ c0_1) (h : impl_ReqOf.f k a0_0 l0_1 = some (r1, r2, r3, r4, r5, r6, r7, r8, r9)) :
  Calls Tryz.prog 11 #[.agg #[.string a0_0, .slice A0_1 l0_1.length c0_1]] w fun e w' => e = .returned (.tuple #[.agg #[.int .i64 r1, .string r2, .string r3, .string r4, .string r5, .string r6, .int .i64 r7, .int .i64 r8], .int .i64 r9]) ∧ Below w.heap.size w w' := by
 have hu32 := Tryz.underlying32
 have hu27 := Tryz.underlying27
 have hu9 := Tryz.underlying9
 have hfl74_3 : ∀ (x0_ x1_ x2_ x3_ : Value) (w : World), (Instr.field 74 (.agg #[x0_, x1_, x2_, x3_]) 3).run Tryz.prog w = .ok x3_ w := by intros; kernel_rfl
 have HR0_1 := Aside0.mk hr0_1
 have HC0_1 := Aside0.mk hc0_1
 clear hr0_1 hc0_1
 have HB := Aside0.mk (Below.refl w.heap.size w)
 have H : ((impl_MsgOk.f k a0_0 l0_1).bind fun t394 => (if t394 = true then ((impl_MtiKnown.f a0_0).bind fun t395 => (if t395 = true then ((impl_FieldOf.f k a0_0 l0_1 3).bind fun bt396 => (if bt396.2 = true then ((impl_opRows.f).bind fun t400 => ((opRows_index.f t400 a0_0 bt396.1).bind fun t403 => ((some (([2, 11] : List Int) : List Int)).bind fun y404 => ((impl_opOf.f (wrap64 (1 + t403))).bind fun bt407 => (if y404.length + bt407.2.2.2.length < 17592186044416 then ((some (y404 ++ bt407.2.2.2 : List Int)).bind fun y413 => (impl_ReqOf.l0 k y413 (y413.length : Int) 0 a0_0 l0_1 (wrap64 (1 + t403)) (⟨#[]⟩ : ByteArray) (⟨#[]⟩ : ByteArray) (⟨#[]⟩ : ByteArray) (⟨#[]⟩ : ByteArray) a0_0 0 0)) else (none)))))) else (some (0, (⟨#[]⟩ : ByteArray), (⟨#[]⟩ : ByteArray), (⟨#[]⟩ : ByteArray), (⟨#[]⟩ : ByteArray), (⟨#[]⟩ : ByteArray), 0, 0, 1)))) else (some (0, (⟨#[]⟩ : ByteArray), (⟨#[]⟩ : ByteArray), (⟨#[]⟩ : ByteArray), (⟨#[]⟩ : ByteArray), (⟨#[]⟩ : ByteArray), 0, 0, 2)))) else (some (0, (⟨#[]⟩ : ByteArray), (⟨#[]⟩ : ByteArray), (⟨#[]⟩ : ByteArray), (⟨#[]⟩ : ByteArray), (⟨#[]⟩ : ByteArray), 0, 0, 1)))) = some (r1, r2, r3, r4, r5, r6, r7, r8, r9) := h
 clear h
 obtain ⟨t394, A2, H⟩ := ob_ H
 by_cases c3 : t394 = true
 rotate_left
 ·replace c3 := Bool.eq_false_iff.mpr c3
  subst c3
  replace H := in_ H
  simp only [Option.some.injEq, Prod.mk.injEq] at H
  obtain ⟨rfl, rfl, rfl, rfl, rfl, rfl, rfl, rfl, rfl⟩ := H
  go_enter Tryz.func11, Tryz.ntmps11
  go_wp2_with (first | ((with_reducible refine gate_dst (N := 1) rfl ?_); refine be_ (N := 1) (cs := #[.string a0_0, .slice A0_1 l0_1.length c0_1]) (t := 32) ?_; intro gb392 hg w158 hbox hb; have BK392 := Aside0.mk (hbox); have GW392 := gw_ (w := w) hg; have GE392 := gw_ (w := w) hg; replace HB := hs_ hb; clear hb hbox hg) | ((with_reducible refine gate_dst (N := 2) rfl ?_); refine be_ (N := 2) (cs := #[.int .i64 0, .string (⟨#[]⟩ : ByteArray), .string (⟨#[]⟩ : ByteArray), .string (⟨#[]⟩ : ByteArray), .string (⟨#[]⟩ : ByteArray), .string (⟨#[]⟩ : ByteArray), .int .i64 0, .int .i64 0]) (t := 27) ?_; intro gb393 hg w159 hbox hb; have BK393 := Aside0.mk (hbox); have GW393 := gw_ (w := w) hg; have GE393 := gw_ (w := w) hg; replace HB := hs_ hb; have NB392_393 := Aside0.mk ((by rw [hg]; exact Nat.ne_of_lt (blk_lt (bk_ BK392)) : gb392 ≠ gb393)); have NB393_392 := Aside0.mk ((by rw [hg]; exact Nat.ne_of_gt (blk_lt (bk_ BK392)) : gb393 ≠ gb392)); replace BK392 := kb_ BK392 hb; clear hb hbox hg; have hnb160 := NB392_393.out; have hnc160 := NB393_392.out; obtain ⟨hcz161_0, hcz161_1, hfz161_0, hfz161_1⟩ := bx2_ BK392) | ((with_reducible refine gc_ 46 12 Tryz.func46 #[.agg #[.string a0_0, .slice A0_1 l0_1.length c0_1]] ?_); (with_reducible refine (impl_MsgOk.calls k a0_0 _ _ l0_1 false _ ?side1 ?side2 A2.out).mono ?_); (case side1 => exact ca_ (Kd.C_below HR0_1.out HB.out)); (case side2 => exact HC0_1.out); rintro e w162 ⟨rfl, hb⟩; refine ⟨_, rfl, ?_⟩; replace BK392 := kb_ BK392 hb; replace BK393 := kb_ BK393 hb; replace HB := hs_ hb; clear hb; obtain ⟨hcz163_0, hcz163_1, hcz163_2, hcz163_3, hcz163_4, hcz163_5, hcz163_6, hcz163_7, hfz163_0, hfz163_1, hfz163_2, hfz163_3, hfz163_4, hfz163_5, hfz163_6, hfz163_7⟩ := bx8_ BK393))
  refine bodyPost_ret (results_ct rfl _ _ gb393 27 #[.int .i64 0, .string (⟨#[]⟩ : ByteArray), .string (⟨#[]⟩ : ByteArray), .string (⟨#[]⟩ : ByteArray), .string (⟨#[]⟩ : ByteArray), .string (⟨#[]⟩ : ByteArray), .int .i64 0, .int .i64 0] (0, 0) _ rfl (by (with_reducible repeat (first | refine blk_drewN ?_ _ | refine blk_drew ?_ | refine blk_alloc ?_ _)); apply bq8_7_6_5_4_3_2_1_0_; (with_reducible repeat (first | refine blk_drewN ?_ _ | refine blk_drew ?_ | refine blk_alloc ?_ _)); exact BK393.out) Tryz.underlying27 rfl (by kernel_rfl)) rfl ?_
  exact ⟨sq_, bl_⟩
 subst c3
 replace H := ip_ H
 obtain ⟨t395, A4, H⟩ := ob_ H
 by_cases c5 : t395 = true
 rotate_left
 ·replace c5 := Bool.eq_false_iff.mpr c5
  subst c5
  replace H := in_ H
  simp only [Option.some.injEq, Prod.mk.injEq] at H
  obtain ⟨rfl, rfl, rfl, rfl, rfl, rfl, rfl, rfl, rfl⟩ := H
  go_enter Tryz.func11, Tryz.ntmps11
  go_wp2_with (first | ((with_reducible refine gate_dst (N := 1) rfl ?_); refine be_ (N := 1) (cs := #[.string a0_0, .slice A0_1 l0_1.length c0_1]) (t := 32) ?_; intro gb392 hg w151 hbox hb; have BK392 := Aside0.mk (hbox); have GW392 := gw_ (w := w) hg; have GE392 := gw_ (w := w) hg; replace HB := hs_ hb; clear hb hbox hg) | ((with_reducible refine gate_dst (N := 2) rfl ?_); refine be_ (N := 2) (cs := #[.int .i64 0, .string (⟨#[]⟩ : ByteArray), .string (⟨#[]⟩ : ByteArray), .string (⟨#[]⟩ : ByteArray), .string (⟨#[]⟩ : ByteArray), .string (⟨#[]⟩ : ByteArray), .int .i64 0, .int .i64 0]) (t := 27) ?_; intro gb393 hg w152 hbox hb; have BK393 := Aside0.mk (hbox); have GW393 := gw_ (w := w) hg; have GE393 := gw_ (w := w) hg; replace HB := hs_ hb; have NB392_393 := Aside0.mk ((by rw [hg]; exact Nat.ne_of_lt (blk_lt (bk_ BK392)) : gb392 ≠ gb393)); have NB393_392 := Aside0.mk ((by rw [hg]; exact Nat.ne_of_gt (blk_lt (bk_ BK392)) : gb393 ≠ gb392)); replace BK392 := kb_ BK392 hb; clear hb hbox hg; have hnb153 := NB392_393.out; have hnc153 := NB393_392.out; obtain ⟨hcz154_0, hcz154_1, hfz154_0, hfz154_1⟩ := bx2_ BK392) | ((with_reducible refine gc_ 46 12 Tryz.func46 #[.agg #[.string a0_0, .slice A0_1 l0_1.length c0_1]] ?_); (with_reducible refine (impl_MsgOk.calls k a0_0 _ _ l0_1 true _ ?side1 ?side2 A2.out).mono ?_); (case side1 => exact ca_ (Kd.C_below HR0_1.out HB.out)); (case side2 => exact HC0_1.out); rintro e w155 ⟨rfl, hb⟩; refine ⟨_, rfl, ?_⟩; replace BK392 := kb_ BK392 hb; replace BK393 := kb_ BK393 hb; replace HB := hs_ hb; clear hb; obtain ⟨hcz156_0, hcz156_1, hfz156_0, hfz156_1⟩ := bx2_ BK392) | ((with_reducible refine gc_ 47 17 Tryz.func47 #[.string a0_0] ?_); (with_reducible refine (impl_MtiKnown.calls a0_0 false _ A4.out).mono ?_); rintro e w' ⟨rfl, ⟨nd, rfl⟩⟩; refine ⟨_, rfl, ?_⟩; (try (rw [drewN_self w155]; generalize hq_ : World.drewN w155 _ = w155; have n0_ : Aside0 (w155.heap[gb392]? = some (.cells #[.string a0_0, .slice A0_1 l0_1.length c0_1] 32 (0, 0))) := ⟨by rw [← hq_]; exact (by (with_reducible repeat (first | refine blk_drewN ?_ _ | refine blk_drew ?_ | refine blk_alloc ?_ _)); exact BK392.out)⟩; have n1_ : Aside0 (w155.heap[gb393]? = some (.cells #[.int .i64 0, .string (⟨#[]⟩ : ByteArray), .string (⟨#[]⟩ : ByteArray), .string (⟨#[]⟩ : ByteArray), .string (⟨#[]⟩ : ByteArray), .string (⟨#[]⟩ : ByteArray), .int .i64 0, .int .i64 0] 27 (0, 0))) := ⟨by rw [← hq_]; exact (by (with_reducible repeat (first | refine blk_drewN ?_ _ | refine blk_drew ?_ | refine blk_alloc ?_ _)); exact BK393.out)⟩; have n2_ : Aside0 (Below w.heap.size w w155) := ⟨by rw [← hq_]; exact bl_⟩; clear BK392 BK393 HB hq_; have BK392 := n0_; have BK393 := n1_; have HB := n2_; clear n0_ n1_ n2_)); obtain ⟨hcz157_0, hcz157_1, hcz157_2, hcz157_3, hcz157_4, hcz157_5, hcz157_6, hcz157_7, hfz157_0, hfz157_1, hfz157_2, hfz157_3, hfz157_4, hfz157_5, hfz157_6, hfz157_7⟩ := bx8_ BK393))
  refine bodyPost_ret (results_ct rfl _ _ gb393 27 #[.int .i64 0, .string (⟨#[]⟩ : ByteArray), .string (⟨#[]⟩ : ByteArray), .string (⟨#[]⟩ : ByteArray), .string (⟨#[]⟩ : ByteArray), .string (⟨#[]⟩ : ByteArray), .int .i64 0, .int .i64 0] (0, 0) _ rfl (by (with_reducible repeat (first | refine blk_drewN ?_ _ | refine blk_drew ?_ | refine blk_alloc ?_ _)); apply bq8_7_6_5_4_3_2_1_0_; (with_reducible repeat (first | refine blk_drewN ?_ _ | refine blk_drew ?_ | refine blk_alloc ?_ _)); exact BK393.out) Tryz.underlying27 rfl (by kernel_rfl)) rfl ?_
  exact ⟨sq_, bl_⟩
 subst c5
 replace H := ip_ H
 obtain ⟨⟨t396, t397⟩, A6, H⟩ := ob_ H
 (try dsimp only at H)
 by_cases c7 : t397 = true
 rotate_left
 ·replace c7 := Bool.eq_false_iff.mpr c7
  subst c7
  replace H := in_ H
  simp only [Option.some.injEq, Prod.mk.injEq] at H
  obtain ⟨rfl, rfl, rfl, rfl, rfl, rfl, rfl, rfl, rfl⟩ := H
  go_enter Tryz.func11, Tryz.ntmps11
  go_wp2_with (first | ((with_reducible refine gate_dst (N := 1) rfl ?_); refine be_ (N := 1) (cs := #[.string a0_0, .slice A0_1 l0_1.length c0_1]) (t := 32) ?_; intro gb392 hg w138 hbox hb; have BK392 := Aside0.mk (hbox); have GW392 := gw_ (w := w) hg; have GE392 := gw_ (w := w) hg; replace HB := hs_ hb; clear hb hbox hg) | ((with_reducible refine gate_dst (N := 2) rfl ?_); refine be_ (N := 2) (cs := #[.int .i64 0, .string (⟨#[]⟩ : ByteArray), .string (⟨#[]⟩ : ByteArray), .string (⟨#[]⟩ : ByteArray), .string (⟨#[]⟩ : ByteArray), .string (⟨#[]⟩ : ByteArray), .int .i64 0, .int .i64 0]) (t := 27) ?_; intro gb393 hg w139 hbox hb; have BK393 := Aside0.mk (hbox); have GW393 := gw_ (w := w) hg; have GE393 := gw_ (w := w) hg; replace HB := hs_ hb; have NB392_393 := Aside0.mk ((by rw [hg]; exact Nat.ne_of_lt (blk_lt (bk_ BK392)) : gb392 ≠ gb393)); have NB393_392 := Aside0.mk ((by rw [hg]; exact Nat.ne_of_gt (blk_lt (bk_ BK392)) : gb393 ≠ gb392)); replace BK392 := kb_ BK392 hb; clear hb hbox hg; have hnb140 := NB392_393.out; have hnc140 := NB393_392.out; obtain ⟨hcz141_0, hcz141_1, hfz141_0, hfz141_1⟩ := bx2_ BK392) | ((with_reducible refine gc_ 46 12 Tryz.func46 #[.agg #[.string a0_0, .slice A0_1 l0_1.length c0_1]] ?_); (with_reducible refine (impl_MsgOk.calls k a0_0 _ _ l0_1 true _ ?side1 ?side2 A2.out).mono ?_); (case side1 => exact ca_ (Kd.C_below HR0_1.out HB.out)); (case side2 => exact HC0_1.out); rintro e w142 ⟨rfl, hb⟩; refine ⟨_, rfl, ?_⟩; replace BK392 := kb_ BK392 hb; replace BK393 := kb_ BK393 hb; replace HB := hs_ hb; clear hb; obtain ⟨hcz143_0, hcz143_1, hfz143_0, hfz143_1⟩ := bx2_ BK392) | ((with_reducible refine gc_ 47 17 Tryz.func47 #[.string a0_0] ?_); (with_reducible refine (impl_MtiKnown.calls a0_0 true _ A4.out).mono ?_); rintro e w' ⟨rfl, ⟨nd, rfl⟩⟩; refine ⟨_, rfl, ?_⟩; (try (rw [drewN_self w142]; generalize hq_ : World.drewN w142 _ = w142; have n0_ : Aside0 (w142.heap[gb392]? = some (.cells #[.string a0_0, .slice A0_1 l0_1.length c0_1] 32 (0, 0))) := ⟨by rw [← hq_]; exact (by (with_reducible repeat (first | refine blk_drewN ?_ _ | refine blk_drew ?_ | refine blk_alloc ?_ _)); exact BK392.out)⟩; have n1_ : Aside0 (w142.heap[gb393]? = some (.cells #[.int .i64 0, .string (⟨#[]⟩ : ByteArray), .string (⟨#[]⟩ : ByteArray), .string (⟨#[]⟩ : ByteArray), .string (⟨#[]⟩ : ByteArray), .string (⟨#[]⟩ : ByteArray), .int .i64 0, .int .i64 0] 27 (0, 0))) := ⟨by rw [← hq_]; exact (by (with_reducible repeat (first | refine blk_drewN ?_ _ | refine blk_drew ?_ | refine blk_alloc ?_ _)); exact BK393.out)⟩; have n2_ : Aside0 (Below w.heap.size w w142) := ⟨by rw [← hq_]; exact bl_⟩; clear BK392 BK393 HB hq_; have BK392 := n0_; have BK393 := n1_; have HB := n2_; clear n0_ n1_ n2_)); obtain ⟨hcz144_0, hcz144_1, hfz144_0, hfz144_1⟩ := bx2_ BK392) | ((with_reducible refine gc_ 48 22 Tryz.func48 #[.agg #[.string a0_0, .slice A0_1 l0_1.length c0_1], .int .i64 3] ?_); (with_reducible refine (impl_FieldOf.calls k a0_0 _ _ l0_1 3 t396 false _ ?side1 ?side2 A6.out).mono ?_); (case side1 => exact ca_ (Kd.C_below HR0_1.out HB.out)); (case side2 => exact HC0_1.out); rintro e w145 ⟨rfl, hb⟩; refine ⟨_, rfl, ?_⟩; replace BK392 := kb_ BK392 hb; replace BK393 := kb_ BK393 hb; replace HB := hs_ hb; clear hb) | ((with_reducible refine gate_dst (N := 4) rfl ?_); refine be_ (N := 4) (cs := #[.string (⟨#[]⟩ : ByteArray)]) (t := 9) ?_; intro gb398 hg w146 hbox hb; have BK398 := Aside0.mk (hbox); have GW398 := gw_ (w := w) hg; have GE398 := gw_ (w := w) hg; replace HB := hs_ hb; have NB392_398 := Aside0.mk ((by rw [hg]; exact Nat.ne_of_lt (blk_lt (bk_ BK392)) : gb392 ≠ gb398)); have NB398_392 := Aside0.mk ((by rw [hg]; exact Nat.ne_of_gt (blk_lt (bk_ BK392)) : gb398 ≠ gb392)); replace BK392 := kb_ BK392 hb; have NB393_398 := Aside0.mk ((by rw [hg]; exact Nat.ne_of_lt (blk_lt (bk_ BK393)) : gb393 ≠ gb398)); have NB398_393 := Aside0.mk ((by rw [hg]; exact Nat.ne_of_gt (blk_lt (bk_ BK393)) : gb398 ≠ gb393)); replace BK393 := kb_ BK393 hb; clear hb hbox hg; have hnb147 := NB398_392.out; have hnc147 := NB392_398.out; have hnb148 := NB398_393.out; have hnc148 := NB393_398.out; have hcz149_0 := cz_ BK398 0 (.string (⟨#[]⟩ : ByteArray)); have hfz149_0 := fz_ BK398 0; obtain ⟨hcz150_0, hcz150_1, hcz150_2, hcz150_3, hcz150_4, hcz150_5, hcz150_6, hcz150_7, hfz150_0, hfz150_1, hfz150_2, hfz150_3, hfz150_4, hfz150_5, hfz150_6, hfz150_7⟩ := bx8_ BK393))
  refine bodyPost_ret (results_ct rfl _ _ gb393 27 #[.int .i64 0, .string (⟨#[]⟩ : ByteArray), .string (⟨#[]⟩ : ByteArray), .string (⟨#[]⟩ : ByteArray), .string (⟨#[]⟩ : ByteArray), .string (⟨#[]⟩ : ByteArray), .int .i64 0, .int .i64 0] (0, 0) _ rfl (by (with_reducible repeat (first | refine blk_drewN ?_ _ | refine blk_drew ?_ | refine blk_alloc ?_ _)); apply bq8_7_6_5_4_3_2_1_0_; (with_reducible repeat (first | refine blk_drewN ?_ _ | refine blk_drew ?_ | refine blk_alloc ?_ _)); refine blk_far ?_ NB393_398.out _; (with_reducible repeat (first | refine blk_drewN ?_ _ | refine blk_drew ?_ | refine blk_alloc ?_ _)); exact BK393.out) Tryz.underlying27 rfl (by kernel_rfl)) rfl ?_
  exact ⟨sq_, bl_⟩
 subst c7
 replace H := ip_ H
 obtain ⟨t400, A8, H⟩ := ob_ H
 obtain ⟨t403, A9, H⟩ := ob_ H
 obtain ⟨y404, hy404⟩ : ∃ y_ : List Int, y_ = (([2, 11] : List Int)) := ⟨_, rfl⟩
 replace H : ((impl_opOf.f (wrap64 (1 + t403))).bind fun bt407 => (if y404.length + bt407.2.2.2.length < 17592186044416 then ((some (y404 ++ bt407.2.2.2 : List Int)).bind fun y413 => (impl_ReqOf.l0 k y413 (y413.length : Int) 0 a0_0 l0_1 (wrap64 (1 + t403)) (⟨#[]⟩ : ByteArray) (⟨#[]⟩ : ByteArray) (⟨#[]⟩ : ByteArray) (⟨#[]⟩ : ByteArray) a0_0 0 0)) else (none))) = some (r1, r2, r3, r4, r5, r6, r7, r8, r9) := by first | (rw [hy404]; with_reducible exact H) | (have H2_ := (Option.bind_some _ _).symm.trans H; rw [hy404]; with_reducible exact H2_) | (have H2_ := (Option.bind_some _ _).symm.trans H; with_reducible exact H2_) | with_reducible exact H | (rw [hy404]; exact H) | exact H
 have Ny404 := Aside0.mk hy404
 clear hy404
 obtain ⟨⟨t407, t408, t409, t410⟩, A10, H⟩ := ob_ H
 (try dsimp only at H)
 by_cases c11 : y404.length + t410.length < 17592186044416
 rotate_left
 ·rw [if_neg c11] at H
  exact absurd H (by simp)
 rw [if_pos c11] at H
 have LMc11 := Aside0.mk c11
 clear c11
 obtain ⟨y413, hy413⟩ : ∃ y_ : List Int, y_ = (y404 ++ t410) := ⟨_, rfl⟩
 replace H : (impl_ReqOf.l0 k y413 (y413.length : Int) 0 a0_0 l0_1 (wrap64 (1 + t403)) (⟨#[]⟩ : ByteArray) (⟨#[]⟩ : ByteArray) (⟨#[]⟩ : ByteArray) (⟨#[]⟩ : ByteArray) a0_0 0 0) = some (r1, r2, r3, r4, r5, r6, r7, r8, r9) := by first | (rw [hy413]; with_reducible exact H) | (have H2_ := (Option.bind_some _ _).symm.trans H; rw [hy413]; with_reducible exact H2_) | (have H2_ := (Option.bind_some _ _).symm.trans H; with_reducible exact H2_) | with_reducible exact H | (rw [hy413]; exact H) | exact H
 have Ny413 := Aside0.mk hy413
 clear hy413
 have H' := Aside0.mk H
 clear H
 go_enter Tryz.func11, Tryz.ntmps11
 go_wp2_with (first | ((with_reducible refine gate_dst (N := 1) rfl ?_); refine be_ (N := 1) (cs := #[.string a0_0, .slice A0_1 l0_1.length c0_1]) (t := 32) ?_; intro gb392 hg w12 hbox hb; have BK392 := Aside0.mk (hbox); have GW392 := gw_ (w := w) hg; have GE392 := gw_ (w := w) hg; replace HB := hs_ hb; clear hb hbox hg) | ((with_reducible refine gate_dst (N := 2) rfl ?_); refine be_ (N := 2) (cs := #[.int .i64 0, .string (⟨#[]⟩ : ByteArray), .string (⟨#[]⟩ : ByteArray), .string (⟨#[]⟩ : ByteArray), .string (⟨#[]⟩ : ByteArray), .string (⟨#[]⟩ : ByteArray), .int .i64 0, .int .i64 0]) (t := 27) ?_; intro gb393 hg w13 hbox hb; have BK393 := Aside0.mk (hbox); have GW393 := gw_ (w := w) hg; have GE393 := gw_ (w := w) hg; replace HB := hs_ hb; have NB392_393 := Aside0.mk ((by rw [hg]; exact Nat.ne_of_lt (blk_lt (bk_ BK392)) : gb392 ≠ gb393)); have NB393_392 := Aside0.mk ((by rw [hg]; exact Nat.ne_of_gt (blk_lt (bk_ BK392)) : gb393 ≠ gb392)); replace BK392 := kb_ BK392 hb; clear hb hbox hg; have hnb14 := NB392_393.out; have hnc14 := NB393_392.out; obtain ⟨hcz15_0, hcz15_1, hfz15_0, hfz15_1⟩ := bx2_ BK392) | ((with_reducible refine gc_ 46 12 Tryz.func46 #[.agg #[.string a0_0, .slice A0_1 l0_1.length c0_1]] ?_); (with_reducible refine (impl_MsgOk.calls k a0_0 _ _ l0_1 true _ ?side1 ?side2 A2.out).mono ?_); (case side1 => exact ca_ (Kd.C_below HR0_1.out HB.out)); (case side2 => exact HC0_1.out); rintro e w16 ⟨rfl, hb⟩; refine ⟨_, rfl, ?_⟩; replace BK392 := kb_ BK392 hb; replace BK393 := kb_ BK393 hb; replace HB := hs_ hb; clear hb; obtain ⟨hcz17_0, hcz17_1, hfz17_0, hfz17_1⟩ := bx2_ BK392) | ((with_reducible refine gc_ 47 17 Tryz.func47 #[.string a0_0] ?_); (with_reducible refine (impl_MtiKnown.calls a0_0 true _ A4.out).mono ?_); rintro e w' ⟨rfl, ⟨nd, rfl⟩⟩; refine ⟨_, rfl, ?_⟩; (try (rw [drewN_self w16]; generalize hq_ : World.drewN w16 _ = w16; have n0_ : Aside0 (w16.heap[gb392]? = some (.cells #[.string a0_0, .slice A0_1 l0_1.length c0_1] 32 (0, 0))) := ⟨by rw [← hq_]; exact (by (with_reducible repeat (first | refine blk_drewN ?_ _ | refine blk_drew ?_ | refine blk_alloc ?_ _)); exact BK392.out)⟩; have n1_ : Aside0 (w16.heap[gb393]? = some (.cells #[.int .i64 0, .string (⟨#[]⟩ : ByteArray), .string (⟨#[]⟩ : ByteArray), .string (⟨#[]⟩ : ByteArray), .string (⟨#[]⟩ : ByteArray), .string (⟨#[]⟩ : ByteArray), .int .i64 0, .int .i64 0] 27 (0, 0))) := ⟨by rw [← hq_]; exact (by (with_reducible repeat (first | refine blk_drewN ?_ _ | refine blk_drew ?_ | refine blk_alloc ?_ _)); exact BK393.out)⟩; have n2_ : Aside0 (Below w.heap.size w w16) := ⟨by rw [← hq_]; exact bl_⟩; clear BK392 BK393 HB hq_; have BK392 := n0_; have BK393 := n1_; have HB := n2_; clear n0_ n1_ n2_)); obtain ⟨hcz18_0, hcz18_1, hfz18_0, hfz18_1⟩ := bx2_ BK392) | ((with_reducible refine gc_ 48 22 Tryz.func48 #[.agg #[.string a0_0, .slice A0_1 l0_1.length c0_1], .int .i64 3] ?_); (with_reducible refine (impl_FieldOf.calls k a0_0 _ _ l0_1 3 t396 true _ ?side1 ?side2 A6.out).mono ?_); (case side1 => exact ca_ (Kd.C_below HR0_1.out HB.out)); (case side2 => exact HC0_1.out); rintro e w19 ⟨rfl, hb⟩; refine ⟨_, rfl, ?_⟩; replace BK392 := kb_ BK392 hb; replace BK393 := kb_ BK393 hb; replace HB := hs_ hb; clear hb) | ((with_reducible refine gate_dst (N := 4) rfl ?_); refine be_ (N := 4) (cs := #[.string (⟨#[]⟩ : ByteArray)]) (t := 9) ?_; intro gb398 hg w20 hbox hb; have BK398 := Aside0.mk (hbox); have GW398 := gw_ (w := w) hg; have GE398 := gw_ (w := w) hg; replace HB := hs_ hb; have NB392_398 := Aside0.mk ((by rw [hg]; exact Nat.ne_of_lt (blk_lt (bk_ BK392)) : gb392 ≠ gb398)); have NB398_392 := Aside0.mk ((by rw [hg]; exact Nat.ne_of_gt (blk_lt (bk_ BK392)) : gb398 ≠ gb392)); replace BK392 := kb_ BK392 hb; have NB393_398 := Aside0.mk ((by rw [hg]; exact Nat.ne_of_lt (blk_lt (bk_ BK393)) : gb393 ≠ gb398)); have NB398_393 := Aside0.mk ((by rw [hg]; exact Nat.ne_of_gt (blk_lt (bk_ BK393)) : gb398 ≠ gb393)); replace BK393 := kb_ BK393 hb; clear hb hbox hg; have hnb21 := NB398_392.out; have hnc21 := NB392_398.out; have hnb22 := NB398_393.out; have hnc22 := NB393_398.out; have hcz23_0 := cz_ BK398 0 (.string (⟨#[]⟩ : ByteArray)); have hfz23_0 := fz_ BK398 0; obtain ⟨hcz24_0, hcz24_1, hfz24_0, hfz24_1⟩ := bx2_ BK392) | ((with_reducible refine gate_dst (N := 6) rfl ?_); refine be_ (N := 6) (cs := #[.int .i64 0, .string (⟨#[]⟩ : ByteArray), .string (⟨#[]⟩ : ByteArray), .string (⟨#[]⟩ : ByteArray), .string (⟨#[]⟩ : ByteArray), .string (⟨#[]⟩ : ByteArray), .int .i64 0, .int .i64 0]) (t := 27) ?_; intro gb399 hg w25 hbox hb; have BK399 := Aside0.mk (hbox); have GW399 := gw_ (w := w) hg; have GE399 := gw_ (w := w) hg; replace HB := hs_ hb; have NB392_399 := Aside0.mk ((by rw [hg]; exact Nat.ne_of_lt (blk_lt (g := gb392) (o := .cells #[.string a0_0, .slice A0_1 l0_1.length c0_1] 32 (0, 0)) (by (with_reducible repeat (first | refine blk_drewN ?_ _ | refine blk_drew ?_ | refine blk_alloc ?_ _)); refine blk_far ?_ NB392_398.out _; (with_reducible repeat (first | refine blk_drewN ?_ _ | refine blk_drew ?_ | refine blk_alloc ?_ _)); exact BK392.out)) : gb392 ≠ gb399)); have NB399_392 := Aside0.mk ((by rw [hg]; exact Nat.ne_of_gt (blk_lt (g := gb392) (o := .cells #[.string a0_0, .slice A0_1 l0_1.length c0_1] 32 (0, 0)) (by (with_reducible repeat (first | refine blk_drewN ?_ _ | refine blk_drew ?_ | refine blk_alloc ?_ _)); refine blk_far ?_ NB392_398.out _; (with_reducible repeat (first | refine blk_drewN ?_ _ | refine blk_drew ?_ | refine blk_alloc ?_ _)); exact BK392.out)) : gb399 ≠ gb392)); replace BK392 := Aside0.mk (blk_below (g := gb392) (o := .cells #[.string a0_0, .slice A0_1 l0_1.length c0_1] 32 (0, 0)) (by (with_reducible repeat (first | refine blk_drewN ?_ _ | refine blk_drew ?_ | refine blk_alloc ?_ _)); refine blk_far ?_ NB392_398.out _; (with_reducible repeat (first | refine blk_drewN ?_ _ | refine blk_drew ?_ | refine blk_alloc ?_ _)); exact BK392.out) hb); have NB393_399 := Aside0.mk ((by rw [hg]; exact Nat.ne_of_lt (blk_lt (g := gb393) (o := .cells #[.int .i64 0, .string (⟨#[]⟩ : ByteArray), .string (⟨#[]⟩ : ByteArray), .string (⟨#[]⟩ : ByteArray), .string (⟨#[]⟩ : ByteArray), .string (⟨#[]⟩ : ByteArray), .int .i64 0, .int .i64 0] 27 (0, 0)) (by (with_reducible repeat (first | refine blk_drewN ?_ _ | refine blk_drew ?_ | refine blk_alloc ?_ _)); refine blk_far ?_ NB393_398.out _; (with_reducible repeat (first | refine blk_drewN ?_ _ | refine blk_drew ?_ | refine blk_alloc ?_ _)); exact BK393.out)) : gb393 ≠ gb399)); have NB399_393 := Aside0.mk ((by rw [hg]; exact Nat.ne_of_gt (blk_lt (g := gb393) (o := .cells #[.int .i64 0, .string (⟨#[]⟩ : ByteArray), .string (⟨#[]⟩ : ByteArray), .string (⟨#[]⟩ : ByteArray), .string (⟨#[]⟩ : ByteArray), .string (⟨#[]⟩ : ByteArray), .int .i64 0, .int .i64 0] 27 (0, 0)) (by (with_reducible repeat (first | refine blk_drewN ?_ _ | refine blk_drew ?_ | refine blk_alloc ?_ _)); refine blk_far ?_ NB393_398.out _; (with_reducible repeat (first | refine blk_drewN ?_ _ | refine blk_drew ?_ | refine blk_alloc ?_ _)); exact BK393.out)) : gb399 ≠ gb393)); replace BK393 := Aside0.mk (blk_below (g := gb393) (o := .cells #[.int .i64 0, .string (⟨#[]⟩ : ByteArray), .string (⟨#[]⟩ : ByteArray), .string (⟨#[]⟩ : ByteArray), .string (⟨#[]⟩ : ByteArray), .string (⟨#[]⟩ : ByteArray), .int .i64 0, .int .i64 0] 27 (0, 0)) (by (with_reducible repeat (first | refine blk_drewN ?_ _ | refine blk_drew ?_ | refine blk_alloc ?_ _)); refine blk_far ?_ NB393_398.out _; (with_reducible repeat (first | refine blk_drewN ?_ _ | refine blk_drew ?_ | refine blk_alloc ?_ _)); exact BK393.out) hb); have NB398_399 := Aside0.mk ((by rw [hg]; exact Nat.ne_of_lt (blk_lt (g := gb398) (o := .cells #[.string t396] 9 (0, 0)) (by (with_reducible repeat (first | refine blk_drewN ?_ _ | refine blk_drew ?_ | refine blk_alloc ?_ _)); apply bq1_0_; (with_reducible repeat (first | refine blk_drewN ?_ _ | refine blk_drew ?_ | refine blk_alloc ?_ _)); exact BK398.out)) : gb398 ≠ gb399)); have NB399_398 := Aside0.mk ((by rw [hg]; exact Nat.ne_of_gt (blk_lt (g := gb398) (o := .cells #[.string t396] 9 (0, 0)) (by (with_reducible repeat (first | refine blk_drewN ?_ _ | refine blk_drew ?_ | refine blk_alloc ?_ _)); apply bq1_0_; (with_reducible repeat (first | refine blk_drewN ?_ _ | refine blk_drew ?_ | refine blk_alloc ?_ _)); exact BK398.out)) : gb399 ≠ gb398)); replace BK398 := Aside0.mk (blk_below (g := gb398) (o := .cells #[.string t396] 9 (0, 0)) (by (with_reducible repeat (first | refine blk_drewN ?_ _ | refine blk_drew ?_ | refine blk_alloc ?_ _)); apply bq1_0_; (with_reducible repeat (first | refine blk_drewN ?_ _ | refine blk_drew ?_ | refine blk_alloc ?_ _)); exact BK398.out) hb); clear hb hbox hg; have hnb26 := NB399_392.out; have hnc26 := NB392_399.out; have hnb27 := NB399_393.out; have hnc27 := NB393_399.out; have hnb28 := NB399_398.out; have hnc28 := NB398_399.out; obtain ⟨hcz29_0, hcz29_1, hcz29_2, hcz29_3, hcz29_4, hcz29_5, hcz29_6, hcz29_7, hfz29_0, hfz29_1, hfz29_2, hfz29_3, hfz29_4, hfz29_5, hfz29_6, hfz29_7⟩ := bx8_ BK399) | ((with_reducible refine gc_ 50 31 Tryz.func50 #[] ?_); (with_reducible refine (impl_opRows.calls  t400 _ A8.out).mono ?_); rintro e w30 ⟨v401, rfl, ho0, hb⟩; refine ⟨_, rfl, ?_⟩; have HO402 := Aside0.mk (Kd.N_lower (Kd.N_mono (ok' := fun k_ => k_ ≠ gb392 ∧ k_ ≠ gb393 ∧ k_ ≠ gb398 ∧ k_ ≠ gb399) ho0 (fun k_ hk_ => ⟨(Kd.freshB (g := gb392) (o := .cells #[.string a0_0, .slice A0_1 l0_1.length c0_1] 32 (0, 0)) (by (with_reducible repeat (first | refine blk_drewN ?_ _ | refine blk_drew ?_ | refine blk_alloc ?_ _)); refine blk_far ?_ NB392_399.out _; (with_reducible repeat (first | refine blk_drewN ?_ _ | refine blk_drew ?_ | refine blk_alloc ?_ _)); refine blk_far ?_ NB392_399.out _; (with_reducible repeat (first | refine blk_drewN ?_ _ | refine blk_drew ?_ | refine blk_alloc ?_ _)); refine blk_far ?_ NB392_399.out _; (with_reducible repeat (first | refine blk_drewN ?_ _ | refine blk_drew ?_ | refine blk_alloc ?_ _)); refine blk_far ?_ NB392_399.out _; (with_reducible repeat (first | refine blk_drewN ?_ _ | refine blk_drew ?_ | refine blk_alloc ?_ _)); refine blk_far ?_ NB392_399.out _; (with_reducible repeat (first | refine blk_drewN ?_ _ | refine blk_drew ?_ | refine blk_alloc ?_ _)); refine blk_far ?_ NB392_399.out _; (with_reducible repeat (first | refine blk_drewN ?_ _ | refine blk_drew ?_ | refine blk_alloc ?_ _)); refine blk_far ?_ NB392_399.out _; (with_reducible repeat (first | refine blk_drewN ?_ _ | refine blk_drew ?_ | refine blk_alloc ?_ _)); refine blk_far ?_ NB392_399.out _; (with_reducible repeat (first | refine blk_drewN ?_ _ | refine blk_drew ?_ | refine blk_alloc ?_ _)); exact BK392.out) k_ hk_), (Kd.freshB (g := gb393) (o := .cells #[.int .i64 0, .string (⟨#[]⟩ : ByteArray), .string (⟨#[]⟩ : ByteArray), .string (⟨#[]⟩ : ByteArray), .string (⟨#[]⟩ : ByteArray), .string (⟨#[]⟩ : ByteArray), .int .i64 0, .int .i64 0] 27 (0, 0)) (by (with_reducible repeat (first | refine blk_drewN ?_ _ | refine blk_drew ?_ | refine blk_alloc ?_ _)); refine blk_far ?_ NB393_399.out _; (with_reducible repeat (first | refine blk_drewN ?_ _ | refine blk_drew ?_ | refine blk_alloc ?_ _)); refine blk_far ?_ NB393_399.out _; (with_reducible repeat (first | refine blk_drewN ?_ _ | refine blk_drew ?_ | refine blk_alloc ?_ _)); refine blk_far ?_ NB393_399.out _; (with_reducible repeat (first | refine blk_drewN ?_ _ | refine blk_drew ?_ | refine blk_alloc ?_ _)); refine blk_far ?_ NB393_399.out _; (with_reducible repeat (first | refine blk_drewN ?_ _ | refine blk_drew ?_ | refine blk_alloc ?_ _)); refine blk_far ?_ NB393_399.out _; (with_reducible repeat (first | refine blk_drewN ?_ _ | refine blk_drew ?_ | refine blk_alloc ?_ _)); refine blk_far ?_ NB393_399.out _; (with_reducible repeat (first | refine blk_drewN ?_ _ | refine blk_drew ?_ | refine blk_alloc ?_ _)); refine blk_far ?_ NB393_399.out _; (with_reducible repeat (first | refine blk_drewN ?_ _ | refine blk_drew ?_ | refine blk_alloc ?_ _)); refine blk_far ?_ NB393_399.out _; (with_reducible repeat (first | refine blk_drewN ?_ _ | refine blk_drew ?_ | refine blk_alloc ?_ _)); exact BK393.out) k_ hk_), (Kd.freshB (g := gb398) (o := .cells #[.string t396] 9 (0, 0)) (by (with_reducible repeat (first | refine blk_drewN ?_ _ | refine blk_drew ?_ | refine blk_alloc ?_ _)); refine blk_far ?_ NB398_399.out _; (with_reducible repeat (first | refine blk_drewN ?_ _ | refine blk_drew ?_ | refine blk_alloc ?_ _)); refine blk_far ?_ NB398_399.out _; (with_reducible repeat (first | refine blk_drewN ?_ _ | refine blk_drew ?_ | refine blk_alloc ?_ _)); refine blk_far ?_ NB398_399.out _; (with_reducible repeat (first | refine blk_drewN ?_ _ | refine blk_drew ?_ | refine blk_alloc ?_ _)); refine blk_far ?_ NB398_399.out _; (with_reducible repeat (first | refine blk_drewN ?_ _ | refine blk_drew ?_ | refine blk_alloc ?_ _)); refine blk_far ?_ NB398_399.out _; (with_reducible repeat (first | refine blk_drewN ?_ _ | refine blk_drew ?_ | refine blk_alloc ?_ _)); refine blk_far ?_ NB398_399.out _; (with_reducible repeat (first | refine blk_drewN ?_ _ | refine blk_drew ?_ | refine blk_alloc ?_ _)); refine blk_far ?_ NB398_399.out _; (with_reducible repeat (first | refine blk_drewN ?_ _ | refine blk_drew ?_ | refine blk_alloc ?_ _)); refine blk_far ?_ NB398_399.out _; (with_reducible repeat (first | refine blk_drewN ?_ _ | refine blk_drew ?_ | refine blk_alloc ?_ _)); exact BK398.out) k_ hk_), (Kd.freshB (g := gb399) (o := .cells #[.int .i64 0, .string (⟨#[]⟩ : ByteArray), .string (⟨#[]⟩ : ByteArray), .string (⟨#[]⟩ : ByteArray), .string (⟨#[]⟩ : ByteArray), .string a0_0, .int .i64 0, .int .i64 0] 27 (0, 0)) (by (with_reducible repeat (first | refine blk_drewN ?_ _ | refine blk_drew ?_ | refine blk_alloc ?_ _)); apply bq8_7_6_5_4_3_2_1_0_; (with_reducible repeat (first | refine blk_drewN ?_ _ | refine blk_drew ?_ | refine blk_alloc ?_ _)); exact BK399.out) k_ hk_)⟩)) (below_size bl_)); replace BK392 := Aside0.mk (blk_below (g := gb392) (o := .cells #[.string a0_0, .slice A0_1 l0_1.length c0_1] 32 (0, 0)) (by (with_reducible repeat (first | refine blk_drewN ?_ _ | refine blk_drew ?_ | refine blk_alloc ?_ _)); refine blk_far ?_ NB392_399.out _; (with_reducible repeat (first | refine blk_drewN ?_ _ | refine blk_drew ?_ | refine blk_alloc ?_ _)); refine blk_far ?_ NB392_399.out _; (with_reducible repeat (first | refine blk_drewN ?_ _ | refine blk_drew ?_ | refine blk_alloc ?_ _)); refine blk_far ?_ NB392_399.out _; (with_reducible repeat (first | refine blk_drewN ?_ _ | refine blk_drew ?_ | refine blk_alloc ?_ _)); refine blk_far ?_ NB392_399.out _; (with_reducible repeat (first | refine blk_drewN ?_ _ | refine blk_drew ?_ | refine blk_alloc ?_ _)); refine blk_far ?_ NB392_399.out _; (with_reducible repeat (first | refine blk_drewN ?_ _ | refine blk_drew ?_ | refine blk_alloc ?_ _)); refine blk_far ?_ NB392_399.out _; (with_reducible repeat (first | refine blk_drewN ?_ _ | refine blk_drew ?_ | refine blk_alloc ?_ _)); refine blk_far ?_ NB392_399.out _; (with_reducible repeat (first | refine blk_drewN ?_ _ | refine blk_drew ?_ | refine blk_alloc ?_ _)); refine blk_far ?_ NB392_399.out _; (with_reducible repeat (first | refine blk_drewN ?_ _ | refine blk_drew ?_ | refine blk_alloc ?_ _)); exact BK392.out) hb); replace BK393 := Aside0.mk (blk_below (g := gb393) (o := .cells #[.int .i64 0, .string (⟨#[]⟩ : ByteArray), .string (⟨#[]⟩ : ByteArray), .string (⟨#[]⟩ : ByteArray), .string (⟨#[]⟩ : ByteArray), .string (⟨#[]⟩ : ByteArray), .int .i64 0, .int .i64 0] 27 (0, 0)) (by (with_reducible repeat (first | refine blk_drewN ?_ _ | refine blk_drew ?_ | refine blk_alloc ?_ _)); refine blk_far ?_ NB393_399.out _; (with_reducible repeat (first | refine blk_drewN ?_ _ | refine blk_drew ?_ | refine blk_alloc ?_ _)); refine blk_far ?_ NB393_399.out _; (with_reducible repeat (first | refine blk_drewN ?_ _ | refine blk_drew ?_ | refine blk_alloc ?_ _)); refine blk_far ?_ NB393_399.out _; (with_reducible repeat (first | refine blk_drewN ?_ _ | refine blk_drew ?_ | refine blk_alloc ?_ _)); refine blk_far ?_ NB393_399.out _; (with_reducible repeat (first | refine blk_drewN ?_ _ | refine blk_drew ?_ | refine blk_alloc ?_ _)); refine blk_far ?_ NB393_399.out _; (with_reducible repeat (first | refine blk_drewN ?_ _ | refine blk_drew ?_ | refine blk_alloc ?_ _)); refine blk_far ?_ NB393_399.out _; (with_reducible repeat (first | refine blk_drewN ?_ _ | refine blk_drew ?_ | refine blk_alloc ?_ _)); refine blk_far ?_ NB393_399.out _; (with_reducible repeat (first | refine blk_drewN ?_ _ | refine blk_drew ?_ | refine blk_alloc ?_ _)); refine blk_far ?_ NB393_399.out _; (with_reducible repeat (first | refine blk_drewN ?_ _ | refine blk_drew ?_ | refine blk_alloc ?_ _)); exact BK393.out) hb); replace BK398 := Aside0.mk (blk_below (g := gb398) (o := .cells #[.string t396] 9 (0, 0)) (by (with_reducible repeat (first | refine blk_drewN ?_ _ | refine blk_drew ?_ | refine blk_alloc ?_ _)); refine blk_far ?_ NB398_399.out _; (with_reducible repeat (first | refine blk_drewN ?_ _ | refine blk_drew ?_ | refine blk_alloc ?_ _)); refine blk_far ?_ NB398_399.out _; (with_reducible repeat (first | refine blk_drewN ?_ _ | refine blk_drew ?_ | refine blk_alloc ?_ _)); refine blk_far ?_ NB398_399.out _; (with_reducible repeat (first | refine blk_drewN ?_ _ | refine blk_drew ?_ | refine blk_alloc ?_ _)); refine blk_far ?_ NB398_399.out _; (with_reducible repeat (first | refine blk_drewN ?_ _ | refine blk_drew ?_ | refine blk_alloc ?_ _)); refine blk_far ?_ NB398_399.out _; (with_reducible repeat (first | refine blk_drewN ?_ _ | refine blk_drew ?_ | refine blk_alloc ?_ _)); refine blk_far ?_ NB398_399.out _; (with_reducible repeat (first | refine blk_drewN ?_ _ | refine blk_drew ?_ | refine blk_alloc ?_ _)); refine blk_far ?_ NB398_399.out _; (with_reducible repeat (first | refine blk_drewN ?_ _ | refine blk_drew ?_ | refine blk_alloc ?_ _)); refine blk_far ?_ NB398_399.out _; (with_reducible repeat (first | refine blk_drewN ?_ _ | refine blk_drew ?_ | refine blk_alloc ?_ _)); exact BK398.out) hb); replace BK399 := Aside0.mk (blk_below (g := gb399) (o := .cells #[.int .i64 0, .string (⟨#[]⟩ : ByteArray), .string (⟨#[]⟩ : ByteArray), .string (⟨#[]⟩ : ByteArray), .string (⟨#[]⟩ : ByteArray), .string a0_0, .int .i64 0, .int .i64 0] 27 (0, 0)) (by (with_reducible repeat (first | refine blk_drewN ?_ _ | refine blk_drew ?_ | refine blk_alloc ?_ _)); apply bq8_7_6_5_4_3_2_1_0_; (with_reducible repeat (first | refine blk_drewN ?_ _ | refine blk_drew ?_ | refine blk_alloc ?_ _)); exact BK399.out) hb); replace HB := hs_ hb; clear hb; (try clear ho0); obtain ⟨Ao31, co31, eo31⟩ := Kd.N_slice HO402.out; subst eo31) | (go_at_call 49; (with_reducible refine (opRows_index.calls _ _ t400 a0_0 t396 t403 gb392 gb398 (.slice A0_1 l0_1.length c0_1) _ ?side1 ?side2 ?side3 ?side4 A9.out).mono ?_); (case side3 => exact bk_ BK392); (case side4 => exact bk_ BK398); (case side1 => exact ca_ ((Kd.N_reads' HO402.out).2.2)); (case side2 => exact (Kd.N_reads' HO402.out).2.1); rintro e w32 ⟨rfl, hb⟩; replace HO402 := Aside0.mk (Kd.N_below (by (with_reducible repeat (first | apply Kd.N_alloc | apply Kd.N_drewN | apply Kd.N_drew)); exact HO402.out) hb); replace BK392 := kb_ BK392 hb; replace BK393 := kb_ BK393 hb; replace BK398 := kb_ BK398 hb; replace BK399 := kb_ BK399 hb; replace HB := hs_ hb; clear hb; obtain ⟨hcz33_0, hcz33_1, hcz33_2, hcz33_3, hcz33_4, hcz33_5, hcz33_6, hcz33_7, hfz33_0, hfz33_1, hfz33_2, hfz33_3, hfz33_4, hfz33_5, hfz33_6, hfz33_7⟩ := bx8_ BK399) | ((with_reducible refine gate_dst (N := 36) rfl ?_); refine Kd.R_lit (Kd.int .i64) _ 3 ?hg (N := 36) ?hd (xs := ([2, 11] : List Int)) (inner := [.int .i64 2, .int .i64 11]) (ok := fun _ => True) (okp := fun _ => True) ?hr ?hp (fun _ hk => hk) trivial (Below.refl _ _) (Nat.le_refl _) (by simp) ?_; (case hd => rfl); (case hg => rfl); (case hr => first | (go_simp; done) | (go_simp; rfl)); (case hp => exact (Reps.one (show Kd.M (Kd.int .i64) _ _ _ 2 [.int .i64 2] from rfl) (Reps.one (show Kd.M (Kd.int .i64) _ _ _ 11 [.int .i64 11] from rfl) (Reps.none _ _)))); intro v405 w34 ho35 hb hg_ hnew_; clear hg_ hnew_; (first | rw [← Ny404.out] at ho35 | (simp only [Int.reduceToNat] at ho35; rw [← Ny404.out] at ho35)); replace HO402 := Aside0.mk (Kd.N_elder' (by (with_reducible repeat (first | apply Kd.N_alloc | apply Kd.N_drewN | apply Kd.N_drew)); exact (Kd.N_mono (Kd.N_far (p := ⟨gb399, 0, none⟩) (Kd.N_mono HO402.out (fun k_ hk => (⟨hk, hk.2.2.2⟩ : _ ∧ k_ ≠ gb399))) (fun _ hk => hk.2) (.int .i64 (wrap64 (1 + t403)))) (fun _ h_ => h_.1))) (Kd.R_base ho35) hb); have HO406 := Aside0.mk (Kd.R_lower ho35 (below_size bl_)); replace BK392 := Aside0.mk (blk_below (g := gb392) (o := .cells #[.string a0_0, .slice A0_1 l0_1.length c0_1] 32 (0, 0)) (by (with_reducible repeat (first | refine blk_drewN ?_ _ | refine blk_drew ?_ | refine blk_alloc ?_ _)); refine blk_far ?_ NB392_399.out _; (with_reducible repeat (first | refine blk_drewN ?_ _ | refine blk_drew ?_ | refine blk_alloc ?_ _)); exact BK392.out) hb); replace BK393 := Aside0.mk (blk_below (g := gb393) (o := .cells #[.int .i64 0, .string (⟨#[]⟩ : ByteArray), .string (⟨#[]⟩ : ByteArray), .string (⟨#[]⟩ : ByteArray), .string (⟨#[]⟩ : ByteArray), .string (⟨#[]⟩ : ByteArray), .int .i64 0, .int .i64 0] 27 (0, 0)) (by (with_reducible repeat (first | refine blk_drewN ?_ _ | refine blk_drew ?_ | refine blk_alloc ?_ _)); refine blk_far ?_ NB393_399.out _; (with_reducible repeat (first | refine blk_drewN ?_ _ | refine blk_drew ?_ | refine blk_alloc ?_ _)); exact BK393.out) hb); replace BK398 := Aside0.mk (blk_below (g := gb398) (o := .cells #[.string t396] 9 (0, 0)) (by (with_reducible repeat (first | refine blk_drewN ?_ _ | refine blk_drew ?_ | refine blk_alloc ?_ _)); refine blk_far ?_ NB398_399.out _; (with_reducible repeat (first | refine blk_drewN ?_ _ | refine blk_drew ?_ | refine blk_alloc ?_ _)); exact BK398.out) hb); replace BK399 := Aside0.mk (blk_below (g := gb399) (o := .cells #[.int .i64 (wrap64 (1 + t403)), .string (⟨#[]⟩ : ByteArray), .string (⟨#[]⟩ : ByteArray), .string (⟨#[]⟩ : ByteArray), .string (⟨#[]⟩ : ByteArray), .string a0_0, .int .i64 0, .int .i64 0] 27 (0, 0)) (by (with_reducible repeat (first | refine blk_drewN ?_ _ | refine blk_drew ?_ | refine blk_alloc ?_ _)); apply bq8_0_; (with_reducible repeat (first | refine blk_drewN ?_ _ | refine blk_drew ?_ | refine blk_alloc ?_ _)); exact BK399.out) hb); replace HB := hs_ hb; clear hb ho35; obtain ⟨hcz36_0, hcz36_1, hcz36_2, hcz36_3, hcz36_4, hcz36_5, hcz36_6, hcz36_7, hfz36_0, hfz36_1, hfz36_2, hfz36_3, hfz36_4, hfz36_5, hfz36_6, hfz36_7⟩ := bx8_ BK399) | ((with_reducible refine gc_ 52 39 Tryz.func52 #[.int .i64 (wrap64 (1 + t403))] ?_); (with_reducible refine (impl_opOf.calls (wrap64 (1 + t403)) t407 t408 t409 t410 _ A10.out).mono ?_); rintro e w37 ⟨v411, rfl, ho0, hb⟩; refine ⟨_, rfl, ?_⟩; have HO412 := Aside0.mk (Kd.V_lower (Kd.V_mono (ok' := fun k_ => some k_ ≠ (.slice Ao31 t400.length co31 : Value).ownBlock ∧ some k_ ≠ (v405 : Value).ownBlock ∧ k_ ≠ gb392 ∧ k_ ≠ gb393 ∧ k_ ≠ gb398 ∧ k_ ≠ gb399) ho0 (fun k_ hk_ => ⟨(Kd.fresh' (Kd.N_lt (by (with_reducible repeat (first | apply Kd.N_alloc | apply Kd.N_drewN | apply Kd.N_drew)); exact HO402.out)) k_ hk_), (Kd.fresh' (Kd.R_lt (ra_ HO406)) k_ hk_), (Kd.freshB (bk_ BK392) k_ hk_), (Kd.freshB (bk_ BK393) k_ hk_), (Kd.freshB (bk_ BK398) k_ hk_), (Kd.freshB (bk_ BK399) k_ hk_)⟩)) (below_size bl_)); replace HO402 := Aside0.mk (Kd.N_below (by (with_reducible repeat (first | apply Kd.N_alloc | apply Kd.N_drewN | apply Kd.N_drew)); exact HO402.out) hb); replace HO406 := Aside0.mk (Kd.R_below (ra_ HO406) hb); replace BK392 := kb_ BK392 hb; replace BK393 := kb_ BK393 hb; replace BK398 := kb_ BK398 hb; replace BK399 := kb_ BK399 hb; replace HB := hs_ hb; clear hb; (try clear ho0); obtain ⟨Ao38, co38, eo38⟩ := Kd.V_slice HO412.out; subst eo38) | ((with_reducible refine gate_builtin (b := .append) (xs := #[.tmp 36, .tmp 40]) rfl ?_); at_builtin; refine Kd.R_append_rows (Kd.int .i64) (w0 := w) w.heap.size rfl (.tmp 36) (.tmp 40) 46 3 (.int .i64 0) 8 rfl Tryz.underlying46 info3 rfl (by decide) (by omega) v405 y404 t410 _ _ _ (fun _ => True) (fun _ => False) rfl rfl ?aO ?aR (fun _ _ h => h) (fun _ h => h.elim) ?aF ?aB ?aS ?aL ?_; (case aR => exact ca_ ((Kd.V_reads' HO412.out).2.2)); (case aB => exact bl_); (case aF => exact (fun _ _ => trivial)); (case aO => exact (ra_ HO406)); (case aS => exact (below_size bl_)); (case aL => have := LMc11.out; omega); intro v414 w39 ho hb hg hat; rw [← Ny413.out] at ho; have n0_ := Aside0.mk (blk_grown (bk_ BK392) hg (Kd.R_ne HO406.out BK392.out (by decide))); have n1_ := Aside0.mk (blk_grown (bk_ BK393) hg (Kd.R_ne HO406.out BK393.out (by decide))); have n2_ := Aside0.mk (blk_grown (bk_ BK398) hg (Kd.R_ne HO406.out BK398.out (by decide))); have n3_ := Aside0.mk (blk_grown (bk_ BK399) hg (Kd.R_ne HO406.out BK399.out (by decide))); have n4_ := Aside0.mk (Kd.N_afterv (ok := (fun k_ => k_ ≠ gb392 ∧ k_ ≠ gb393 ∧ k_ ≠ gb398 ∧ k_ ≠ gb399)) (by (with_reducible repeat (first | apply Kd.N_alloc | apply Kd.N_drewN | apply Kd.N_drew)); exact HO402.out) hg hat); have n5_ := Aside0.mk (Kd.V_afterv (ok := (fun k_ => some k_ ≠ (.slice Ao31 t400.length co31 : Value).ownBlock ∧ k_ ≠ gb392 ∧ k_ ≠ gb393 ∧ k_ ≠ gb398 ∧ k_ ≠ gb399)) (by (with_reducible repeat (first | apply Kd.V_alloc | apply Kd.V_drewN | apply Kd.V_drew)); exact Kd.V_mono HO412.out (fun _ hk => ⟨⟨hk.1, ⟨hk.2.2.1, ⟨hk.2.2.2.1, ⟨hk.2.2.2.2.1, hk.2.2.2.2.2⟩⟩⟩⟩, hk.2.1⟩)) hg hat); have n6_ := Aside0.mk (hb); have n7_ := Aside0.mk (ho); clear BK392; clear BK393; clear BK398; clear BK399; clear HO402; clear HO412; clear HB; clear HO406; have BK392 := n0_; have BK393 := n1_; have BK398 := n2_; have BK399 := n3_; have HO402 := n4_; have HO412 := n5_; have HB := n6_; have HO415 := n7_; clear n0_ n1_ n2_ n3_ n4_ n5_ n6_ n7_; clear ho hb hg hat; obtain ⟨Ao40, co40, eo40⟩ := Kd.R_slice HO415.out; subst eo40))
 go_loopg [43] k (fun kq v43 w' => ∃ (x43_1 : Int) (x394000_1 : Int) (x394001_1 : ByteArray) (x394002_1 : ByteArray) (x394003_1 : ByteArray) (x394004_1 : ByteArray) (x394005_1 : ByteArray) (x394006_1 : Int) (x394007_1 : Int) (x400001_1 : ByteArray) (x400002_1 : ByteArray) (x400003_1 : ByteArray) (x400004_1 : ByteArray) (x400006_1 : Int) (x400007_1 : Int), v43 = .int .i64 x43_1 ∧ Aside0 (impl_ReqOf.l0 kq y413 (y413.length : Int) x43_1 a0_0 l0_1 (wrap64 (1 + t403)) x400001_1 x400002_1 x400003_1 x400004_1 a0_0 x400006_1 x400007_1 = some (r1, r2, r3, r4, r5, r6, r7, r8, r9)) ∧ Aside0 (kq ≤ k) ∧ Aside0 (Kd.R (Kd.int .i64) 3 w' w.heap.size (fun _ => True) (.slice Ao40 y413.length co40) y413) ∧ Aside0 (w'.heap[gb392]? = some (.cells #[.string a0_0, (.slice A0_1 l0_1.length c0_1)] 32 (0, 0))) ∧ Aside0 (w'.heap[gb393]? = some (.cells #[.int .i64 x394000_1, .string x394001_1, .string x394002_1, .string x394003_1, .string x394004_1, .string x394005_1, .int .i64 x394006_1, .int .i64 x394007_1] 27 (0, 0))) ∧ Aside0 (w'.heap[gb398]? = some (.cells #[.string t396] 9 (0, 0))) ∧ Aside0 (w'.heap[gb399]? = some (.cells #[.int .i64 (wrap64 (1 + t403)), .string x400001_1, .string x400002_1, .string x400003_1, .string x400004_1, .string a0_0, .int .i64 x400006_1, .int .i64 x400007_1] 27 (0, 0))) ∧ Aside0 (Below w.heap.size w w'))
 case atStart => exact ⟨(0), (0), ((⟨#[]⟩ : ByteArray)), ((⟨#[]⟩ : ByteArray)), ((⟨#[]⟩ : ByteArray)), ((⟨#[]⟩ : ByteArray)), ((⟨#[]⟩ : ByteArray)), (0), (0), ((⟨#[]⟩ : ByteArray)), ((⟨#[]⟩ : ByteArray)), ((⟨#[]⟩ : ByteArray)), ((⟨#[]⟩ : ByteArray)), (0), (0), sp_, H', ⟨Nat.le_refl _⟩, ⟨ra_ HO415⟩, ⟨by (with_reducible repeat (first | refine blk_drewN ?_ _ | refine blk_drew ?_ | refine blk_alloc ?_ _)); exact BK392.out⟩, ⟨by (with_reducible repeat (first | refine blk_drewN ?_ _ | refine blk_drew ?_ | refine blk_alloc ?_ _)); exact BK393.out⟩, ⟨by (with_reducible repeat (first | refine blk_drewN ?_ _ | refine blk_drew ?_ | refine blk_alloc ?_ _)); exact BK398.out⟩, ⟨by (with_reducible repeat (first | refine blk_drewN ?_ _ | refine blk_drew ?_ | refine blk_alloc ?_ _)); exact BK399.out⟩, ⟨bl_⟩⟩
 case round =>
  clear H'
  obtain ⟨x43_1, x394000_1, x394001_1, x394002_1, x394003_1, x394004_1, x394005_1, x394006_1, x394007_1, x400001_1, x400002_1, x400003_1, x400004_1, x400006_1, x400007_1, rfl, HA, HK1, HO_41, BK392, BK393, BK398, BK399, HB⟩ := hrel
  cases gk with
  | zero => exact absurd HA.out (by simp [impl_ReqOf.l0])
  | succ k1 =>
   have H := HA.out
   clear HA
   simp only [impl_ReqOf.l0] at H
   by_cases c41 : x43_1 < (y413.length : Int)
   rotate_left
   ·rw [if_neg c41] at H
    have c41b0 := decide_eq_false c41
    clear c41
    obtain ⟨t416, A119, H⟩ := ob_ H
    by_cases c120 : t416 = true
    ·subst c120
     replace H := ip_ H
     simp only [Option.some.injEq, Prod.mk.injEq] at H
     obtain ⟨rfl, rfl, rfl, rfl, rfl, rfl, rfl, rfl, rfl⟩ := H
     have hnb121 := NB399_392.out
     have hnc121 := NB392_399.out
     have hnb122 := NB399_393.out
     have hnc122 := NB393_399.out
     have hnb123 := NB399_398.out
     have hnc123 := NB398_399.out
     obtain ⟨hcz124_0, hcz124_1, hcz124_2, hcz124_3, hcz124_4, hcz124_5, hcz124_6, hcz124_7, hfz124_0, hfz124_1, hfz124_2, hfz124_3, hfz124_4, hfz124_5, hfz124_6, hfz124_7⟩ := bx8_ BK399
     go_wp2_with (first | ((with_reducible refine gc_ 55 92 Tryz.func55 #[.agg #[.int .i64 (wrap64 (1 + t403)), .string x400001_1, .string x400002_1, .string x400003_1, .string x400004_1, .string a0_0, .int .i64 x400006_1, .int .i64 x400007_1]] ?_); (with_reducible refine (impl_ReqOk.calls k1 (wrap64 (1 + t403)) x400001_1 x400002_1 x400003_1 x400004_1 a0_0 x400006_1 x400007_1 true _ A119.out).mono ?_); rintro e w125 ⟨rfl, hb⟩; refine ⟨_, rfl, ?_⟩; replace HO_41 := Aside0.mk (Kd.R_below (ra_ HO_41) hb); replace BK392 := kb_ BK392 hb; replace BK393 := kb_ BK393 hb; replace BK398 := kb_ BK398 hb; replace BK399 := kb_ BK399 hb; replace HB := hs_ hb; clear hb; obtain ⟨hcz126_0, hcz126_1, hcz126_2, hcz126_3, hcz126_4, hcz126_5, hcz126_6, hcz126_7, hfz126_0, hfz126_1, hfz126_2, hfz126_3, hfz126_4, hfz126_5, hfz126_6, hfz126_7⟩ := bx8_ BK399; have hnb127 := NB393_392.out; have hnc127 := NB392_393.out; have hnb128 := NB393_398.out; have hnc128 := NB398_393.out; obtain ⟨hcz129_0, hcz129_1, hcz129_2, hcz129_3, hcz129_4, hcz129_5, hcz129_6, hcz129_7, hfz129_0, hfz129_1, hfz129_2, hfz129_3, hfz129_4, hfz129_5, hfz129_6, hfz129_7⟩ := bx8_ BK393))
     refine bodyPost_ret (results_ct rfl _ _ gb393 27 #[.int .i64 (wrap64 (1 + t403)), .string x400001_1, .string x400002_1, .string x400003_1, .string x400004_1, .string a0_0, .int .i64 x400006_1, .int .i64 x400007_1] (0, 0) _ rfl (by (with_reducible repeat (first | refine blk_drewN ?_ _ | refine blk_drew ?_ | refine blk_alloc ?_ _)); apply bq8_7_6_5_4_3_2_1_0_; (with_reducible repeat (first | refine blk_drewN ?_ _ | refine blk_drew ?_ | refine blk_alloc ?_ _)); exact BK393.out) Tryz.underlying27 rfl (by kernel_rfl)) rfl ?_
     exact ⟨sq_, bl_⟩
    replace c120 := Bool.eq_false_iff.mpr c120
    subst c120
    replace H := in_ H
    simp only [Option.some.injEq, Prod.mk.injEq] at H
    obtain ⟨rfl, rfl, rfl, rfl, rfl, rfl, rfl, rfl, rfl⟩ := H
    have hnb130 := NB399_392.out
    have hnc130 := NB392_399.out
    have hnb131 := NB399_393.out
    have hnc131 := NB393_399.out
    have hnb132 := NB399_398.out
    have hnc132 := NB398_399.out
    obtain ⟨hcz133_0, hcz133_1, hcz133_2, hcz133_3, hcz133_4, hcz133_5, hcz133_6, hcz133_7, hfz133_0, hfz133_1, hfz133_2, hfz133_3, hfz133_4, hfz133_5, hfz133_6, hfz133_7⟩ := bx8_ BK399
    go_wp2_with (first | ((with_reducible refine gc_ 55 92 Tryz.func55 #[.agg #[.int .i64 (wrap64 (1 + t403)), .string x400001_1, .string x400002_1, .string x400003_1, .string x400004_1, .string a0_0, .int .i64 x400006_1, .int .i64 x400007_1]] ?_); (with_reducible refine (impl_ReqOk.calls k1 (wrap64 (1 + t403)) x400001_1 x400002_1 x400003_1 x400004_1 a0_0 x400006_1 x400007_1 false _ A119.out).mono ?_); rintro e w134 ⟨rfl, hb⟩; refine ⟨_, rfl, ?_⟩; replace HO_41 := Aside0.mk (Kd.R_below (ra_ HO_41) hb); replace BK392 := kb_ BK392 hb; replace BK393 := kb_ BK393 hb; replace BK398 := kb_ BK398 hb; replace BK399 := kb_ BK399 hb; replace HB := hs_ hb; clear hb; have hnb135 := NB393_392.out; have hnc135 := NB392_393.out; have hnb136 := NB393_398.out; have hnc136 := NB398_393.out; obtain ⟨hcz137_0, hcz137_1, hcz137_2, hcz137_3, hcz137_4, hcz137_5, hcz137_6, hcz137_7, hfz137_0, hfz137_1, hfz137_2, hfz137_3, hfz137_4, hfz137_5, hfz137_6, hfz137_7⟩ := bx8_ BK393))
    refine bodyPost_ret (results_ct rfl _ _ gb393 27 #[.int .i64 0, .string (⟨#[]⟩ : ByteArray), .string (⟨#[]⟩ : ByteArray), .string (⟨#[]⟩ : ByteArray), .string (⟨#[]⟩ : ByteArray), .string (⟨#[]⟩ : ByteArray), .int .i64 0, .int .i64 0] (0, 0) _ rfl (by (with_reducible repeat (first | refine blk_drewN ?_ _ | refine blk_drew ?_ | refine blk_alloc ?_ _)); apply bq8_7_6_5_4_3_2_1_0_; (with_reducible repeat (first | refine blk_drewN ?_ _ | refine blk_drew ?_ | refine blk_alloc ?_ _)); exact BK393.out) Tryz.underlying27 rfl (by kernel_rfl)) rfl ?_
    exact ⟨sq_, bl_⟩
   rw [if_pos c41] at H
   have c41b0 := decide_eq_true c41
   clear c41
   by_cases c42 : 0 ≤ x43_1
   rotate_left
   ·rw [if_neg c42] at H
    exact absurd H (by simp)
   rw [if_pos c42] at H
   have c42b0 := decide_eq_true c42
   clear c42
   by_cases c43 : x43_1 < (y413.length : Int)
   rotate_left
   ·rw [if_neg c43] at H
    exact absurd H (by simp)
   rw [if_pos c43] at H
   have c43b0 := decide_eq_true c43
   clear c43
   obtain ⟨⟨t418, t419⟩, A44, H⟩ := ob_ H
   (try dsimp only at H)
   by_cases c45 : t419 = true
   rotate_left
   ·replace c45 := Bool.eq_false_iff.mpr c45
    subst c45
    replace H := in_ H
    simp only [Option.some.injEq, Prod.mk.injEq] at H
    obtain ⟨rfl, rfl, rfl, rfl, rfl, rfl, rfl, rfl, rfl⟩ := H
    have p417 : 0 ≤ (x43_1 : Int) := od_
    have q417 : x43_1 < (y413.length : Int) := od_
    obtain ⟨ad417, e417, hx417_0⟩ := Kd.at_int (Kd.R_reads' HO_41.out).2.2 x43_1 p417 q417
    cases e417
    replace p417 := eq_true p417
    replace q417 := eq_true q417
    have hnb111 := NB392_393.out
    have hnc111 := NB393_392.out
    have hnb112 := NB392_398.out
    have hnc112 := NB398_392.out
    have hnb113 := NB392_399.out
    have hnc113 := NB399_392.out
    obtain ⟨hcz114_0, hcz114_1, hfz114_0, hfz114_1⟩ := bx2_ BK392
    go_wp2_with (first | ((with_reducible refine gc_ 48 50 Tryz.func48 #[.agg #[.string a0_0, .slice A0_1 l0_1.length c0_1], .int .i64 (rd y413 x43_1)] ?_); (with_reducible refine (impl_FieldOf.calls k1 a0_0 _ _ l0_1 (rd y413 x43_1) t418 false _ ?side1 ?side2 A44.out).mono ?_); (case side1 => exact ca_ (Kd.C_below HR0_1.out HB.out)); (case side2 => exact HC0_1.out); rintro e w115 ⟨rfl, hb⟩; refine ⟨_, rfl, ?_⟩; replace HO_41 := Aside0.mk (Kd.R_below (ra_ HO_41) hb); replace BK392 := kb_ BK392 hb; replace BK393 := kb_ BK393 hb; replace BK398 := kb_ BK398 hb; replace BK399 := kb_ BK399 hb; replace HB := hs_ hb; clear hb; have hnb116 := NB393_398.out; have hnc116 := NB398_393.out; have hnb117 := NB393_399.out; have hnc117 := NB399_393.out; obtain ⟨hcz118_0, hcz118_1, hcz118_2, hcz118_3, hcz118_4, hcz118_5, hcz118_6, hcz118_7, hfz118_0, hfz118_1, hfz118_2, hfz118_3, hfz118_4, hfz118_5, hfz118_6, hfz118_7⟩ := bx8_ BK393))
    refine bodyPost_ret (results_ct rfl _ _ gb393 27 #[.int .i64 0, .string (⟨#[]⟩ : ByteArray), .string (⟨#[]⟩ : ByteArray), .string (⟨#[]⟩ : ByteArray), .string (⟨#[]⟩ : ByteArray), .string (⟨#[]⟩ : ByteArray), .int .i64 0, .int .i64 0] (0, 0) _ rfl (by (with_reducible repeat (first | refine blk_drewN ?_ _ | refine blk_drew ?_ | refine blk_alloc ?_ _)); apply bq8_7_6_5_4_3_2_1_0_; (with_reducible repeat (first | refine blk_drewN ?_ _ | refine blk_drew ?_ | refine blk_alloc ?_ _)); exact BK393.out) Tryz.underlying27 rfl (by kernel_rfl)) rfl ?_
    exact ⟨sq_, bl_⟩
   subst c45
   replace H := ip_ H
   by_cases c46 : (rd y413 x43_1) = 2
   ·rw [if_pos c46] at H
    have c46b0 := beq_iff_eq.mpr c46
    have c46b1 := bne_eq_false_iff_eq.mpr c46
    clear c46
    have H' := Aside0.mk H
    clear H
    have p417 : 0 ≤ (x43_1 : Int) := od_
    have q417 : x43_1 < (y413.length : Int) := od_
    obtain ⟨ad417, e417, hx417_0⟩ := Kd.at_int (Kd.R_reads' HO_41.out).2.2 x43_1 p417 q417
    cases e417
    replace p417 := eq_true p417
    replace q417 := eq_true q417
    have hnb47 := NB392_393.out
    have hnc47 := NB393_392.out
    have hnb48 := NB392_398.out
    have hnc48 := NB398_392.out
    have hnb49 := NB392_399.out
    have hnc49 := NB399_392.out
    obtain ⟨hcz50_0, hcz50_1, hfz50_0, hfz50_1⟩ := bx2_ BK392
    go_wp2_with (first | ((with_reducible refine gc_ 48 50 Tryz.func48 #[.agg #[.string a0_0, .slice A0_1 l0_1.length c0_1], .int .i64 (rd y413 x43_1)] ?_); (with_reducible refine (impl_FieldOf.calls k1 a0_0 _ _ l0_1 (rd y413 x43_1) t418 true _ ?side1 ?side2 A44.out).mono ?_); (case side1 => exact ca_ (Kd.C_below HR0_1.out HB.out)); (case side2 => exact HC0_1.out); rintro e w51 ⟨rfl, hb⟩; refine ⟨_, rfl, ?_⟩; replace HO_41 := Aside0.mk (Kd.R_below (ra_ HO_41) hb); replace BK392 := kb_ BK392 hb; replace BK393 := kb_ BK393 hb; replace BK398 := kb_ BK398 hb; replace BK399 := kb_ BK399 hb; replace HB := hs_ hb; clear hb; have hnb52 := NB399_393.out; have hnc52 := NB393_399.out; have hnb53 := NB399_398.out; have hnc53 := NB398_399.out; obtain ⟨hcz54_0, hcz54_1, hcz54_2, hcz54_3, hcz54_4, hcz54_5, hcz54_6, hcz54_7, hfz54_0, hfz54_1, hfz54_2, hfz54_3, hfz54_4, hfz54_5, hfz54_6, hfz54_7⟩ := bx8_ BK399))
    go_roundg k1
    case measure => have := HK1.out; omega
    case rel => exact ⟨(wrap64 (x43_1 + 1)), (x394000_1), (x394001_1), (x394002_1), (x394003_1), (x394004_1), (x394005_1), (x394006_1), (x394007_1), (t418), (x400002_1), (x400003_1), (x400004_1), (x400006_1), (x400007_1), sp_, H', ⟨by have := HK1.out; omega⟩, ⟨by (with_reducible repeat (first | apply Kd.R_alloc | apply Kd.R_drewN | apply Kd.R_drew)); exact Kd.R_mono (Kd.R_far (p := ⟨gb399, 1, none⟩) (Kd.R_types HO_41.out BK399.out (by decide)) (fun _ hk => hk.2) (.string t418)) (fun _ hk => trivial)⟩, ⟨by (with_reducible repeat (first | refine blk_drewN ?_ _ | refine blk_drew ?_ | refine blk_alloc ?_ _)); refine blk_far ?_ NB392_399.out _; (with_reducible repeat (first | refine blk_drewN ?_ _ | refine blk_drew ?_ | refine blk_alloc ?_ _)); exact BK392.out⟩, ⟨by (with_reducible repeat (first | refine blk_drewN ?_ _ | refine blk_drew ?_ | refine blk_alloc ?_ _)); refine blk_far ?_ NB393_399.out _; (with_reducible repeat (first | refine blk_drewN ?_ _ | refine blk_drew ?_ | refine blk_alloc ?_ _)); exact BK393.out⟩, ⟨by (with_reducible repeat (first | refine blk_drewN ?_ _ | refine blk_drew ?_ | refine blk_alloc ?_ _)); refine blk_far ?_ NB398_399.out _; (with_reducible repeat (first | refine blk_drewN ?_ _ | refine blk_drew ?_ | refine blk_alloc ?_ _)); exact BK398.out⟩, ⟨by (with_reducible repeat (first | refine blk_drewN ?_ _ | refine blk_drew ?_ | refine blk_alloc ?_ _)); apply bq8_1_; (with_reducible repeat (first | refine blk_drewN ?_ _ | refine blk_drew ?_ | refine blk_alloc ?_ _)); exact BK399.out⟩, ⟨bl_⟩⟩
   rw [if_neg c46] at H
   have c46b0 := beq_eq_false_iff_ne.mpr c46
   have c46b1 := bne_iff_ne.mpr c46
   by_cases c55 : (rd y413 x43_1) = 4
   ·rw [if_pos c55] at H
    have c55b0 := beq_iff_eq.mpr c55
    have c55b1 := bne_eq_false_iff_eq.mpr c55
    clear c55
    obtain ⟨⟨t420, t421⟩, A56, H⟩ := ob_ H
    (try dsimp only at H)
    have H' := Aside0.mk H
    clear H
    have p417 : 0 ≤ (x43_1 : Int) := od_
    have q417 : x43_1 < (y413.length : Int) := od_
    obtain ⟨ad417, e417, hx417_0⟩ := Kd.at_int (Kd.R_reads' HO_41.out).2.2 x43_1 p417 q417
    cases e417
    replace p417 := eq_true p417
    replace q417 := eq_true q417
    have hnb57 := NB392_393.out
    have hnc57 := NB393_392.out
    have hnb58 := NB392_398.out
    have hnc58 := NB398_392.out
    have hnb59 := NB392_399.out
    have hnc59 := NB399_392.out
    obtain ⟨hcz60_0, hcz60_1, hfz60_0, hfz60_1⟩ := bx2_ BK392
    go_wp2_with (first | ((with_reducible refine gc_ 48 50 Tryz.func48 #[.agg #[.string a0_0, .slice A0_1 l0_1.length c0_1], .int .i64 (rd y413 x43_1)] ?_); (with_reducible refine (impl_FieldOf.calls k1 a0_0 _ _ l0_1 (rd y413 x43_1) t418 true _ ?side1 ?side2 A44.out).mono ?_); (case side1 => exact ca_ (Kd.C_below HR0_1.out HB.out)); (case side2 => exact HC0_1.out); rintro e w61 ⟨rfl, hb⟩; refine ⟨_, rfl, ?_⟩; replace HO_41 := Aside0.mk (Kd.R_below (ra_ HO_41) hb); replace BK392 := kb_ BK392 hb; replace BK393 := kb_ BK393 hb; replace BK398 := kb_ BK398 hb; replace BK399 := kb_ BK399 hb; replace HB := hs_ hb; clear hb) | ((with_reducible refine gc_ 53 65 Tryz.func53 #[.string t418] ?_); (with_reducible refine (impl_Narrow.calls k1 t418 t420 t421 _ A56.out).mono ?_); rintro e w62 ⟨rfl, hb⟩; refine ⟨_, rfl, ?_⟩; replace HO_41 := Aside0.mk (Kd.R_below (ra_ HO_41) hb); replace BK392 := kb_ BK392 hb; replace BK393 := kb_ BK393 hb; replace BK398 := kb_ BK398 hb; replace BK399 := kb_ BK399 hb; replace HB := hs_ hb; clear hb; have hnb63 := NB399_393.out; have hnc63 := NB393_399.out; have hnb64 := NB399_398.out; have hnc64 := NB398_399.out; obtain ⟨hcz65_0, hcz65_1, hcz65_2, hcz65_3, hcz65_4, hcz65_5, hcz65_6, hcz65_7, hfz65_0, hfz65_1, hfz65_2, hfz65_3, hfz65_4, hfz65_5, hfz65_6, hfz65_7⟩ := bx8_ BK399))
    go_roundg k1
    case measure => have := HK1.out; omega
    case rel => exact ⟨(wrap64 (x43_1 + 1)), (x394000_1), (x394001_1), (x394002_1), (x394003_1), (x394004_1), (x394005_1), (x394006_1), (x394007_1), (x400001_1), (x400002_1), (x400003_1), (x400004_1), (t420), (x400007_1), sp_, H', ⟨by have := HK1.out; omega⟩, ⟨by (with_reducible repeat (first | apply Kd.R_alloc | apply Kd.R_drewN | apply Kd.R_drew)); exact Kd.R_mono (Kd.R_far (p := ⟨gb399, 6, none⟩) (Kd.R_types HO_41.out BK399.out (by decide)) (fun _ hk => hk.2) (.int .i64 t420)) (fun _ hk => trivial)⟩, ⟨by (with_reducible repeat (first | refine blk_drewN ?_ _ | refine blk_drew ?_ | refine blk_alloc ?_ _)); refine blk_far ?_ NB392_399.out _; (with_reducible repeat (first | refine blk_drewN ?_ _ | refine blk_drew ?_ | refine blk_alloc ?_ _)); exact BK392.out⟩, ⟨by (with_reducible repeat (first | refine blk_drewN ?_ _ | refine blk_drew ?_ | refine blk_alloc ?_ _)); refine blk_far ?_ NB393_399.out _; (with_reducible repeat (first | refine blk_drewN ?_ _ | refine blk_drew ?_ | refine blk_alloc ?_ _)); exact BK393.out⟩, ⟨by (with_reducible repeat (first | refine blk_drewN ?_ _ | refine blk_drew ?_ | refine blk_alloc ?_ _)); refine blk_far ?_ NB398_399.out _; (with_reducible repeat (first | refine blk_drewN ?_ _ | refine blk_drew ?_ | refine blk_alloc ?_ _)); exact BK398.out⟩, ⟨by (with_reducible repeat (first | refine blk_drewN ?_ _ | refine blk_drew ?_ | refine blk_alloc ?_ _)); apply bq8_6_; (with_reducible repeat (first | refine blk_drewN ?_ _ | refine blk_drew ?_ | refine blk_alloc ?_ _)); exact BK399.out⟩, ⟨bl_⟩⟩
   rw [if_neg c55] at H
   have c55b0 := beq_eq_false_iff_ne.mpr c55
   have c55b1 := bne_iff_ne.mpr c55
   by_cases c66 : (rd y413 x43_1) = 11
   ·rw [if_pos c66] at H
    have c66b0 := beq_iff_eq.mpr c66
    have c66b1 := bne_eq_false_iff_eq.mpr c66
    clear c66
    have H' := Aside0.mk H
    clear H
    have p417 : 0 ≤ (x43_1 : Int) := od_
    have q417 : x43_1 < (y413.length : Int) := od_
    obtain ⟨ad417, e417, hx417_0⟩ := Kd.at_int (Kd.R_reads' HO_41.out).2.2 x43_1 p417 q417
    cases e417
    replace p417 := eq_true p417
    replace q417 := eq_true q417
    have hnb67 := NB392_393.out
    have hnc67 := NB393_392.out
    have hnb68 := NB392_398.out
    have hnc68 := NB398_392.out
    have hnb69 := NB392_399.out
    have hnc69 := NB399_392.out
    obtain ⟨hcz70_0, hcz70_1, hfz70_0, hfz70_1⟩ := bx2_ BK392
    go_wp2_with (first | ((with_reducible refine gc_ 48 50 Tryz.func48 #[.agg #[.string a0_0, .slice A0_1 l0_1.length c0_1], .int .i64 (rd y413 x43_1)] ?_); (with_reducible refine (impl_FieldOf.calls k1 a0_0 _ _ l0_1 (rd y413 x43_1) t418 true _ ?side1 ?side2 A44.out).mono ?_); (case side1 => exact ca_ (Kd.C_below HR0_1.out HB.out)); (case side2 => exact HC0_1.out); rintro e w71 ⟨rfl, hb⟩; refine ⟨_, rfl, ?_⟩; replace HO_41 := Aside0.mk (Kd.R_below (ra_ HO_41) hb); replace BK392 := kb_ BK392 hb; replace BK393 := kb_ BK393 hb; replace BK398 := kb_ BK398 hb; replace BK399 := kb_ BK399 hb; replace HB := hs_ hb; clear hb; have hnb72 := NB399_393.out; have hnc72 := NB393_399.out; have hnb73 := NB399_398.out; have hnc73 := NB398_399.out; obtain ⟨hcz74_0, hcz74_1, hcz74_2, hcz74_3, hcz74_4, hcz74_5, hcz74_6, hcz74_7, hfz74_0, hfz74_1, hfz74_2, hfz74_3, hfz74_4, hfz74_5, hfz74_6, hfz74_7⟩ := bx8_ BK399))
    go_roundg k1
    case measure => have := HK1.out; omega
    case rel => exact ⟨(wrap64 (x43_1 + 1)), (x394000_1), (x394001_1), (x394002_1), (x394003_1), (x394004_1), (x394005_1), (x394006_1), (x394007_1), (x400001_1), (x400002_1), (x400003_1), (t418), (x400006_1), (x400007_1), sp_, H', ⟨by have := HK1.out; omega⟩, ⟨by (with_reducible repeat (first | apply Kd.R_alloc | apply Kd.R_drewN | apply Kd.R_drew)); exact Kd.R_mono (Kd.R_far (p := ⟨gb399, 4, none⟩) (Kd.R_types HO_41.out BK399.out (by decide)) (fun _ hk => hk.2) (.string t418)) (fun _ hk => trivial)⟩, ⟨by (with_reducible repeat (first | refine blk_drewN ?_ _ | refine blk_drew ?_ | refine blk_alloc ?_ _)); refine blk_far ?_ NB392_399.out _; (with_reducible repeat (first | refine blk_drewN ?_ _ | refine blk_drew ?_ | refine blk_alloc ?_ _)); exact BK392.out⟩, ⟨by (with_reducible repeat (first | refine blk_drewN ?_ _ | refine blk_drew ?_ | refine blk_alloc ?_ _)); refine blk_far ?_ NB393_399.out _; (with_reducible repeat (first | refine blk_drewN ?_ _ | refine blk_drew ?_ | refine blk_alloc ?_ _)); exact BK393.out⟩, ⟨by (with_reducible repeat (first | refine blk_drewN ?_ _ | refine blk_drew ?_ | refine blk_alloc ?_ _)); refine blk_far ?_ NB398_399.out _; (with_reducible repeat (first | refine blk_drewN ?_ _ | refine blk_drew ?_ | refine blk_alloc ?_ _)); exact BK398.out⟩, ⟨by (with_reducible repeat (first | refine blk_drewN ?_ _ | refine blk_drew ?_ | refine blk_alloc ?_ _)); apply bq8_4_; (with_reducible repeat (first | refine blk_drewN ?_ _ | refine blk_drew ?_ | refine blk_alloc ?_ _)); exact BK399.out⟩, ⟨bl_⟩⟩
   rw [if_neg c66] at H
   have c66b0 := beq_eq_false_iff_ne.mpr c66
   have c66b1 := bne_iff_ne.mpr c66
   by_cases c75 : (rd y413 x43_1) = 14
   ·rw [if_pos c75] at H
    have c75b0 := beq_iff_eq.mpr c75
    have c75b1 := bne_eq_false_iff_eq.mpr c75
    clear c75
    obtain ⟨⟨t422, t423⟩, A76, H⟩ := ob_ H
    (try dsimp only at H)
    have H' := Aside0.mk H
    clear H
    have p417 : 0 ≤ (x43_1 : Int) := od_
    have q417 : x43_1 < (y413.length : Int) := od_
    obtain ⟨ad417, e417, hx417_0⟩ := Kd.at_int (Kd.R_reads' HO_41.out).2.2 x43_1 p417 q417
    cases e417
    replace p417 := eq_true p417
    replace q417 := eq_true q417
    have hnb77 := NB392_393.out
    have hnc77 := NB393_392.out
    have hnb78 := NB392_398.out
    have hnc78 := NB398_392.out
    have hnb79 := NB392_399.out
    have hnc79 := NB399_392.out
    obtain ⟨hcz80_0, hcz80_1, hfz80_0, hfz80_1⟩ := bx2_ BK392
    go_wp2_with (first | ((with_reducible refine gc_ 48 50 Tryz.func48 #[.agg #[.string a0_0, .slice A0_1 l0_1.length c0_1], .int .i64 (rd y413 x43_1)] ?_); (with_reducible refine (impl_FieldOf.calls k1 a0_0 _ _ l0_1 (rd y413 x43_1) t418 true _ ?side1 ?side2 A44.out).mono ?_); (case side1 => exact ca_ (Kd.C_below HR0_1.out HB.out)); (case side2 => exact HC0_1.out); rintro e w81 ⟨rfl, hb⟩; refine ⟨_, rfl, ?_⟩; replace HO_41 := Aside0.mk (Kd.R_below (ra_ HO_41) hb); replace BK392 := kb_ BK392 hb; replace BK393 := kb_ BK393 hb; replace BK398 := kb_ BK398 hb; replace BK399 := kb_ BK399 hb; replace HB := hs_ hb; clear hb) | ((with_reducible refine gc_ 53 77 Tryz.func53 #[.string t418] ?_); (with_reducible refine (impl_Narrow.calls k1 t418 t422 t423 _ A76.out).mono ?_); rintro e w82 ⟨rfl, hb⟩; refine ⟨_, rfl, ?_⟩; replace HO_41 := Aside0.mk (Kd.R_below (ra_ HO_41) hb); replace BK392 := kb_ BK392 hb; replace BK393 := kb_ BK393 hb; replace BK398 := kb_ BK398 hb; replace BK399 := kb_ BK399 hb; replace HB := hs_ hb; clear hb; have hnb83 := NB399_393.out; have hnc83 := NB393_399.out; have hnb84 := NB399_398.out; have hnc84 := NB398_399.out; obtain ⟨hcz85_0, hcz85_1, hcz85_2, hcz85_3, hcz85_4, hcz85_5, hcz85_6, hcz85_7, hfz85_0, hfz85_1, hfz85_2, hfz85_3, hfz85_4, hfz85_5, hfz85_6, hfz85_7⟩ := bx8_ BK399))
    go_roundg k1
    case measure => have := HK1.out; omega
    case rel => exact ⟨(wrap64 (x43_1 + 1)), (x394000_1), (x394001_1), (x394002_1), (x394003_1), (x394004_1), (x394005_1), (x394006_1), (x394007_1), (x400001_1), (x400002_1), (x400003_1), (x400004_1), (x400006_1), (t422), sp_, H', ⟨by have := HK1.out; omega⟩, ⟨by (with_reducible repeat (first | apply Kd.R_alloc | apply Kd.R_drewN | apply Kd.R_drew)); exact Kd.R_mono (Kd.R_far (p := ⟨gb399, 7, none⟩) (Kd.R_types HO_41.out BK399.out (by decide)) (fun _ hk => hk.2) (.int .i64 t422)) (fun _ hk => trivial)⟩, ⟨by (with_reducible repeat (first | refine blk_drewN ?_ _ | refine blk_drew ?_ | refine blk_alloc ?_ _)); refine blk_far ?_ NB392_399.out _; (with_reducible repeat (first | refine blk_drewN ?_ _ | refine blk_drew ?_ | refine blk_alloc ?_ _)); exact BK392.out⟩, ⟨by (with_reducible repeat (first | refine blk_drewN ?_ _ | refine blk_drew ?_ | refine blk_alloc ?_ _)); refine blk_far ?_ NB393_399.out _; (with_reducible repeat (first | refine blk_drewN ?_ _ | refine blk_drew ?_ | refine blk_alloc ?_ _)); exact BK393.out⟩, ⟨by (with_reducible repeat (first | refine blk_drewN ?_ _ | refine blk_drew ?_ | refine blk_alloc ?_ _)); refine blk_far ?_ NB398_399.out _; (with_reducible repeat (first | refine blk_drewN ?_ _ | refine blk_drew ?_ | refine blk_alloc ?_ _)); exact BK398.out⟩, ⟨by (with_reducible repeat (first | refine blk_drewN ?_ _ | refine blk_drew ?_ | refine blk_alloc ?_ _)); apply bq8_7_; (with_reducible repeat (first | refine blk_drewN ?_ _ | refine blk_drew ?_ | refine blk_alloc ?_ _)); exact BK399.out⟩, ⟨bl_⟩⟩
   rw [if_neg c75] at H
   have c75b0 := beq_eq_false_iff_ne.mpr c75
   have c75b1 := bne_iff_ne.mpr c75
   by_cases c86 : (rd y413 x43_1) = 38
   ·rw [if_pos c86] at H
    have c86b0 := beq_iff_eq.mpr c86
    have c86b1 := bne_eq_false_iff_eq.mpr c86
    clear c86
    obtain ⟨t424, A87, H⟩ := ob_ H
    have H' := Aside0.mk H
    clear H
    have p417 : 0 ≤ (x43_1 : Int) := od_
    have q417 : x43_1 < (y413.length : Int) := od_
    obtain ⟨ad417, e417, hx417_0⟩ := Kd.at_int (Kd.R_reads' HO_41.out).2.2 x43_1 p417 q417
    cases e417
    replace p417 := eq_true p417
    replace q417 := eq_true q417
    have hnb88 := NB392_393.out
    have hnc88 := NB393_392.out
    have hnb89 := NB392_398.out
    have hnc89 := NB398_392.out
    have hnb90 := NB392_399.out
    have hnc90 := NB399_392.out
    obtain ⟨hcz91_0, hcz91_1, hfz91_0, hfz91_1⟩ := bx2_ BK392
    go_wp2_with (first | ((with_reducible refine gc_ 48 50 Tryz.func48 #[.agg #[.string a0_0, .slice A0_1 l0_1.length c0_1], .int .i64 (rd y413 x43_1)] ?_); (with_reducible refine (impl_FieldOf.calls k1 a0_0 _ _ l0_1 (rd y413 x43_1) t418 true _ ?side1 ?side2 A44.out).mono ?_); (case side1 => exact ca_ (Kd.C_below HR0_1.out HB.out)); (case side2 => exact HC0_1.out); rintro e w92 ⟨rfl, hb⟩; refine ⟨_, rfl, ?_⟩; replace HO_41 := Aside0.mk (Kd.R_below (ra_ HO_41) hb); replace BK392 := kb_ BK392 hb; replace BK393 := kb_ BK393 hb; replace BK398 := kb_ BK398 hb; replace BK399 := kb_ BK399 hb; replace HB := hs_ hb; clear hb) | ((with_reducible refine gc_ 54 84 Tryz.func54 #[.string t418] ?_); (with_reducible refine (impl_FieldBare.calls t418 t424 _ A87.out).mono ?_); rintro e w93 ⟨rfl, hb⟩; refine ⟨_, rfl, ?_⟩; replace HO_41 := Aside0.mk (Kd.R_below (ra_ HO_41) hb); replace BK392 := kb_ BK392 hb; replace BK393 := kb_ BK393 hb; replace BK398 := kb_ BK398 hb; replace BK399 := kb_ BK399 hb; replace HB := hs_ hb; clear hb; have hnb94 := NB399_393.out; have hnc94 := NB393_399.out; have hnb95 := NB399_398.out; have hnc95 := NB398_399.out; obtain ⟨hcz96_0, hcz96_1, hcz96_2, hcz96_3, hcz96_4, hcz96_5, hcz96_6, hcz96_7, hfz96_0, hfz96_1, hfz96_2, hfz96_3, hfz96_4, hfz96_5, hfz96_6, hfz96_7⟩ := bx8_ BK399))
    go_roundg k1
    case measure => have := HK1.out; omega
    case rel => exact ⟨(wrap64 (x43_1 + 1)), (x394000_1), (x394001_1), (x394002_1), (x394003_1), (x394004_1), (x394005_1), (x394006_1), (x394007_1), (x400001_1), (x400002_1), (t424), (x400004_1), (x400006_1), (x400007_1), sp_, H', ⟨by have := HK1.out; omega⟩, ⟨by (with_reducible repeat (first | apply Kd.R_alloc | apply Kd.R_drewN | apply Kd.R_drew)); exact Kd.R_mono (Kd.R_far (p := ⟨gb399, 3, none⟩) (Kd.R_types HO_41.out BK399.out (by decide)) (fun _ hk => hk.2) (.string t424)) (fun _ hk => trivial)⟩, ⟨by (with_reducible repeat (first | refine blk_drewN ?_ _ | refine blk_drew ?_ | refine blk_alloc ?_ _)); refine blk_far ?_ NB392_399.out _; (with_reducible repeat (first | refine blk_drewN ?_ _ | refine blk_drew ?_ | refine blk_alloc ?_ _)); exact BK392.out⟩, ⟨by (with_reducible repeat (first | refine blk_drewN ?_ _ | refine blk_drew ?_ | refine blk_alloc ?_ _)); refine blk_far ?_ NB393_399.out _; (with_reducible repeat (first | refine blk_drewN ?_ _ | refine blk_drew ?_ | refine blk_alloc ?_ _)); exact BK393.out⟩, ⟨by (with_reducible repeat (first | refine blk_drewN ?_ _ | refine blk_drew ?_ | refine blk_alloc ?_ _)); refine blk_far ?_ NB398_399.out _; (with_reducible repeat (first | refine blk_drewN ?_ _ | refine blk_drew ?_ | refine blk_alloc ?_ _)); exact BK398.out⟩, ⟨by (with_reducible repeat (first | refine blk_drewN ?_ _ | refine blk_drew ?_ | refine blk_alloc ?_ _)); apply bq8_3_; (with_reducible repeat (first | refine blk_drewN ?_ _ | refine blk_drew ?_ | refine blk_alloc ?_ _)); exact BK399.out⟩, ⟨bl_⟩⟩
   rw [if_neg c86] at H
   have c86b0 := beq_eq_false_iff_ne.mpr c86
   have c86b1 := bne_iff_ne.mpr c86
   by_cases c97 : (rd y413 x43_1) = 103
   ·rw [if_pos c97] at H
    have c97b0 := beq_iff_eq.mpr c97
    have c97b1 := bne_eq_false_iff_eq.mpr c97
    clear c97
    have H' := Aside0.mk H
    clear H
    have p417 : 0 ≤ (x43_1 : Int) := od_
    have q417 : x43_1 < (y413.length : Int) := od_
    obtain ⟨ad417, e417, hx417_0⟩ := Kd.at_int (Kd.R_reads' HO_41.out).2.2 x43_1 p417 q417
    cases e417
    replace p417 := eq_true p417
    replace q417 := eq_true q417
    have hnb98 := NB392_393.out
    have hnc98 := NB393_392.out
    have hnb99 := NB392_398.out
    have hnc99 := NB398_392.out
    have hnb100 := NB392_399.out
    have hnc100 := NB399_392.out
    obtain ⟨hcz101_0, hcz101_1, hfz101_0, hfz101_1⟩ := bx2_ BK392
    go_wp2_with (first | ((with_reducible refine gc_ 48 50 Tryz.func48 #[.agg #[.string a0_0, .slice A0_1 l0_1.length c0_1], .int .i64 (rd y413 x43_1)] ?_); (with_reducible refine (impl_FieldOf.calls k1 a0_0 _ _ l0_1 (rd y413 x43_1) t418 true _ ?side1 ?side2 A44.out).mono ?_); (case side1 => exact ca_ (Kd.C_below HR0_1.out HB.out)); (case side2 => exact HC0_1.out); rintro e w102 ⟨rfl, hb⟩; refine ⟨_, rfl, ?_⟩; replace HO_41 := Aside0.mk (Kd.R_below (ra_ HO_41) hb); replace BK392 := kb_ BK392 hb; replace BK393 := kb_ BK393 hb; replace BK398 := kb_ BK398 hb; replace BK399 := kb_ BK399 hb; replace HB := hs_ hb; clear hb; have hnb103 := NB399_393.out; have hnc103 := NB393_399.out; have hnb104 := NB399_398.out; have hnc104 := NB398_399.out; obtain ⟨hcz105_0, hcz105_1, hcz105_2, hcz105_3, hcz105_4, hcz105_5, hcz105_6, hcz105_7, hfz105_0, hfz105_1, hfz105_2, hfz105_3, hfz105_4, hfz105_5, hfz105_6, hfz105_7⟩ := bx8_ BK399))
    go_roundg k1
    case measure => have := HK1.out; omega
    case rel => exact ⟨(wrap64 (x43_1 + 1)), (x394000_1), (x394001_1), (x394002_1), (x394003_1), (x394004_1), (x394005_1), (x394006_1), (x394007_1), (x400001_1), (t418), (x400003_1), (x400004_1), (x400006_1), (x400007_1), sp_, H', ⟨by have := HK1.out; omega⟩, ⟨by (with_reducible repeat (first | apply Kd.R_alloc | apply Kd.R_drewN | apply Kd.R_drew)); exact Kd.R_mono (Kd.R_far (p := ⟨gb399, 2, none⟩) (Kd.R_types HO_41.out BK399.out (by decide)) (fun _ hk => hk.2) (.string t418)) (fun _ hk => trivial)⟩, ⟨by (with_reducible repeat (first | refine blk_drewN ?_ _ | refine blk_drew ?_ | refine blk_alloc ?_ _)); refine blk_far ?_ NB392_399.out _; (with_reducible repeat (first | refine blk_drewN ?_ _ | refine blk_drew ?_ | refine blk_alloc ?_ _)); exact BK392.out⟩, ⟨by (with_reducible repeat (first | refine blk_drewN ?_ _ | refine blk_drew ?_ | refine blk_alloc ?_ _)); refine blk_far ?_ NB393_399.out _; (with_reducible repeat (first | refine blk_drewN ?_ _ | refine blk_drew ?_ | refine blk_alloc ?_ _)); exact BK393.out⟩, ⟨by (with_reducible repeat (first | refine blk_drewN ?_ _ | refine blk_drew ?_ | refine blk_alloc ?_ _)); refine blk_far ?_ NB398_399.out _; (with_reducible repeat (first | refine blk_drewN ?_ _ | refine blk_drew ?_ | refine blk_alloc ?_ _)); exact BK398.out⟩, ⟨by (with_reducible repeat (first | refine blk_drewN ?_ _ | refine blk_drew ?_ | refine blk_alloc ?_ _)); apply bq8_2_; (with_reducible repeat (first | refine blk_drewN ?_ _ | refine blk_drew ?_ | refine blk_alloc ?_ _)); exact BK399.out⟩, ⟨bl_⟩⟩
   ·rw [if_neg c97] at H
    have c97b0 := beq_eq_false_iff_ne.mpr c97
    have c97b1 := bne_iff_ne.mpr c97
    have H' := Aside0.mk H
    clear H
    have p417 : 0 ≤ (x43_1 : Int) := od_
    have q417 : x43_1 < (y413.length : Int) := od_
    obtain ⟨ad417, e417, hx417_0⟩ := Kd.at_int (Kd.R_reads' HO_41.out).2.2 x43_1 p417 q417
    cases e417
    replace p417 := eq_true p417
    replace q417 := eq_true q417
    have hnb106 := NB392_393.out
    have hnc106 := NB393_392.out
    have hnb107 := NB392_398.out
    have hnc107 := NB398_392.out
    have hnb108 := NB392_399.out
    have hnc108 := NB399_392.out
    obtain ⟨hcz109_0, hcz109_1, hfz109_0, hfz109_1⟩ := bx2_ BK392
    go_wp2_with (first | ((with_reducible refine gc_ 48 50 Tryz.func48 #[.agg #[.string a0_0, .slice A0_1 l0_1.length c0_1], .int .i64 (rd y413 x43_1)] ?_); (with_reducible refine (impl_FieldOf.calls k1 a0_0 _ _ l0_1 (rd y413 x43_1) t418 true _ ?side1 ?side2 A44.out).mono ?_); (case side1 => exact ca_ (Kd.C_below HR0_1.out HB.out)); (case side2 => exact HC0_1.out); rintro e w110 ⟨rfl, hb⟩; refine ⟨_, rfl, ?_⟩; replace HO_41 := Aside0.mk (Kd.R_below (ra_ HO_41) hb); replace BK392 := kb_ BK392 hb; replace BK393 := kb_ BK393 hb; replace BK398 := kb_ BK398 hb; replace BK399 := kb_ BK399 hb; replace HB := hs_ hb; clear hb))
    go_roundg k1
    case measure => have := HK1.out; omega
    case rel => exact ⟨(wrap64 (x43_1 + 1)), (x394000_1), (x394001_1), (x394002_1), (x394003_1), (x394004_1), (x394005_1), (x394006_1), (x394007_1), (x400001_1), (x400002_1), (x400003_1), (x400004_1), (x400006_1), (x400007_1), sp_, H', ⟨by have := HK1.out; omega⟩, ⟨ra_ HO_41⟩, ⟨by (with_reducible repeat (first | refine blk_drewN ?_ _ | refine blk_drew ?_ | refine blk_alloc ?_ _)); exact BK392.out⟩, ⟨by (with_reducible repeat (first | refine blk_drewN ?_ _ | refine blk_drew ?_ | refine blk_alloc ?_ _)); exact BK393.out⟩, ⟨by (with_reducible repeat (first | refine blk_drewN ?_ _ | refine blk_drew ?_ | refine blk_alloc ?_ _)); exact BK398.out⟩, ⟨by (with_reducible repeat (first | refine blk_drewN ?_ _ | refine blk_drew ?_ | refine blk_alloc ?_ _)); exact BK399.out⟩, ⟨bl_⟩⟩
/-! ### impl_piece: function 125 -/
def impl_piece.f (l0 : List Int) (a1 : Int) (a2 : Int) : Option (List Int × Bool) := (impl_within.f a1 0 (l0.length : Int)).bind fun t425 => (if t425 = true then (if a2 < 0 then (some (([] : List Int), false)) else (if a2 > (wrap64 ((l0.length : Int) - a1)) then (some (([] : List Int), false)) else (if 0 ≤ a1 then (if a1 ≤ (wrap64 (a1 + a2)) then (if (wrap64 (a1 + a2)) ≤ (l0.length : Int) then (some (((l0.take ((wrap64 (a1 + a2)) : Int).toNat).drop (a1 : Int).toNat), true)) else (none)) else (none)) else (none)))) else (some (([] : List Int), false)))
set_option maxHeartbeats 8000000 in
set_option maxRecDepth 100000 in
theorem impl_piece.calls (P0_ : Nat → Prop) (A0 : Option Addr) (c0 : Nat) (l0 : List Int) (a1 : Int) (a2 : Int) (r1 : List Int) (r2 : Bool) (w : World) (hs0 : Kd.V (Kd.int .u8) 5 w w.heap.size (fun k_ => P0_ k_) (.slice A0 l0.length c0) l0) (h : impl_piece.f l0 a1 a2 = some (r1, r2)) :
  Calls Tryz.prog 125 #[.slice A0 l0.length c0, .int .i64 a1, .int .i64 a2] w fun e w' => ∃ v0_ : Value, e = .returned (.tuple #[v0_, .bool r2]) ∧ Kd.V (Kd.int .u8) 5 w' w.heap.size (fun k_ => (P0_ k_ ∨ w.heap.size ≤ k_)) v0_ r1 ∧ Below w.heap.size w w' := by
 have HO0 := Aside0.mk (show Kd.V (Kd.int .u8) 5 w w.heap.size (fun k_ => (P0_ k_ ∨ w.heap.size ≤ k_)) (.slice A0 l0.length c0) l0 from Kd.V_mono hs0 (fun k_ hk => .inl hk))
 have HB := Aside0.mk (Below.refl w.heap.size w)
 have H : ((impl_within.f a1 0 (l0.length : Int)).bind fun t425 => (if t425 = true then (if a2 < 0 then (some (([] : List Int), false)) else (if a2 > (wrap64 ((l0.length : Int) - a1)) then (some (([] : List Int), false)) else (if 0 ≤ a1 then (if a1 ≤ (wrap64 (a1 + a2)) then (if (wrap64 (a1 + a2)) ≤ (l0.length : Int) then (some (((l0.take ((wrap64 (a1 + a2)) : Int).toNat).drop (a1 : Int).toNat), true)) else (none)) else (none)) else (none)))) else (some (([] : List Int), false)))) = some (r1, r2) := h
 clear h
 obtain ⟨t425, A4, H⟩ := ob_ H
 by_cases c5 : t425 = true
 rotate_left
 ·replace c5 := Bool.eq_false_iff.mpr c5
  subst c5
  replace H := in_ H
  simp only [Option.some.injEq, Prod.mk.injEq] at H
  obtain ⟨rfl, rfl⟩ := H
  go_enter Tryz.func125, Tryz.ntmps125
  go_wp2_with (first | ((with_reducible refine gc_ 71 11 Tryz.func71 #[.int .i64 a1, .int .i64 0, .int .i64 (l0.length : Int)] ?_); (with_reducible refine (impl_within.calls a1 0 (l0.length : Int) false _ A4.out).mono ?_); rintro e w' ⟨rfl, ⟨nd, rfl⟩⟩; refine ⟨_, rfl, ?_⟩))
  go_ret2
  exact ⟨_, by first | rfl | (simp [errW_none, errW_some] <;> rfl) | (simp [*, errW_none, errW_some] <;> rfl), (Kd.V_nil _ _ _ _ _), bl_⟩
 subst c5
 replace H := ip_ H
 by_cases c6 : a2 < 0
 ·rw [if_pos c6] at H
  have c6b0 := decide_eq_true c6
  clear c6
  simp only [Option.some.injEq, Prod.mk.injEq] at H
  obtain ⟨rfl, rfl⟩ := H
  go_enter Tryz.func125, Tryz.ntmps125
  go_wp2_with (first | ((with_reducible refine gc_ 71 11 Tryz.func71 #[.int .i64 a1, .int .i64 0, .int .i64 (l0.length : Int)] ?_); (with_reducible refine (impl_within.calls a1 0 (l0.length : Int) true _ A4.out).mono ?_); rintro e w' ⟨rfl, ⟨nd, rfl⟩⟩; refine ⟨_, rfl, ?_⟩))
  go_ret2
  exact ⟨_, by first | rfl | (simp [errW_none, errW_some] <;> rfl) | (simp [*, errW_none, errW_some] <;> rfl), (Kd.V_nil _ _ _ _ _), bl_⟩
 rw [if_neg c6] at H
 have c6b0 := decide_eq_false c6
 clear c6
 by_cases c7 : a2 > (wrap64 ((l0.length : Int) - a1))
 ·rw [if_pos c7] at H
  have c7b0 := decide_eq_true c7
  clear c7
  simp only [Option.some.injEq, Prod.mk.injEq] at H
  obtain ⟨rfl, rfl⟩ := H
  go_enter Tryz.func125, Tryz.ntmps125
  go_wp2_with (first | ((with_reducible refine gc_ 71 11 Tryz.func71 #[.int .i64 a1, .int .i64 0, .int .i64 (l0.length : Int)] ?_); (with_reducible refine (impl_within.calls a1 0 (l0.length : Int) true _ A4.out).mono ?_); rintro e w' ⟨rfl, ⟨nd, rfl⟩⟩; refine ⟨_, rfl, ?_⟩))
  go_ret2
  exact ⟨_, by first | rfl | (simp [errW_none, errW_some] <;> rfl) | (simp [*, errW_none, errW_some] <;> rfl), (Kd.V_nil _ _ _ _ _), bl_⟩
 rw [if_neg c7] at H
 have c7b0 := decide_eq_false c7
 clear c7
 by_cases c8 : 0 ≤ a1
 rotate_left
 ·rw [if_neg c8] at H
  exact absurd H (by simp)
 rw [if_pos c8] at H
 have c8b0 := eq_true c8
 have c8b1 := decide_eq_true c8
 clear c8
 by_cases c9 : a1 ≤ (wrap64 (a1 + a2))
 ·rw [if_pos c9] at H
  have c9b0 := eq_true c9
  have c9b1 := decide_eq_true c9
  by_cases c10 : (wrap64 (a1 + a2)) ≤ (l0.length : Int)
  ·rw [if_pos c10] at H
   have c10b0 := eq_true c10
   have c10b1 := decide_eq_true c10
   obtain ⟨y426, hy426⟩ : ∃ y_ : List Int, y_ = ((l0.take ((wrap64 (a1 + a2)) : Int).toNat).drop (a1 : Int).toNat) := ⟨_, rfl⟩
   replace H : (some (y426, true)) = some (r1, r2) := by first | (rw [hy426]; with_reducible exact H) | (have H2_ := (Option.bind_some _ _).symm.trans H; rw [hy426]; with_reducible exact H2_) | (have H2_ := (Option.bind_some _ _).symm.trans H; with_reducible exact H2_) | with_reducible exact H | (rw [hy426]; exact H) | exact H
   have Ny426 := Aside0.mk hy426
   clear hy426
   simp only [Option.some.injEq, Prod.mk.injEq] at H
   obtain ⟨rfl, rfl⟩ := H
   go_enter Tryz.func125, Tryz.ntmps125
   go_wp2_with (first | ((with_reducible refine gc_ 71 11 Tryz.func71 #[.int .i64 a1, .int .i64 0, .int .i64 (l0.length : Int)] ?_); (with_reducible refine (impl_within.calls a1 0 (l0.length : Int) true _ A4.out).mono ?_); rintro e w' ⟨rfl, ⟨nd, rfl⟩⟩; refine ⟨_, rfl, ?_⟩; have q11 : ((wrap64 (a1 + a2)) : Int) ≤ ((l0.length : Int) : Int) := od_; obtain ⟨i011, hi011, _, hsz11, _⟩ := info_parts info5; have hroom11 : l0.length ≤ c0 := (Kd.V_reads' HO0.out).2.1; have hC11 : Kd.F (Kd.int .u8) _ _ A0 l0.length l0 := (Kd.V_at (base := w.heap.size) HO0.out).2.2; have ql11 : (a1 : Int) ≤ ((wrap64 (a1 + a2)) : Int) := od_; have q011 : (0 : Int) ≤ (a1 : Int) := od_; have hcut11 := cut_mid (P := Tryz.prog) 37 5 .i64 .i64 Tryz.underlying37 hi011 1 hsz11 A0 l0.length c0 a1 (wrap64 (a1 + a2)) q011 ql11 q11 hroom11; have hr11 := Kd.F_mid (lo := (a1 : Int).toNat) (hi := ((wrap64 (a1 + a2)) : Int).toNat) (c := c0) hC11 (by omega) (by omega) hroom11; obtain ⟨A11, hA11⟩ : ∃ A1, A1 = (if c0 = (a1 : Int).toNat then A0 else (A0 : Option Addr).map (·.add ((a1 : Int).toNat * 1))) := ⟨_, rfl⟩; obtain ⟨c11, hc11⟩ : ∃ c1, c1 = c0 - (a1 : Int).toNat := ⟨_, rfl⟩; have hy11 : y426.length = ((wrap64 (a1 + a2)) : Int).toNat - (a1 : Int).toNat := (by rw [Ny426.out, List.length_drop, List.length_take] <;> omega); rw [show ((l0).take ((wrap64 (a1 + a2)) : Int).toNat).drop (a1 : Int).toNat = y426 from Ny426.out.symm] at hr11; replace hr11 : Kd.F (Kd.int .u8) _ _ A11 y426.length y426 := (by rw [hA11]; exact hr11); rw [← hy11, ← hA11, ← hc11] at hcut11; have HO430 := Aside0.mk (show Kd.V (Kd.int .u8) 5 _ w.heap.size _ (.slice A11 y426.length c11) y426 from Kd.V_mk (by rw [hy11, hc11]; exact Nat.sub_le_sub_right (Nat.le_trans (by omega) hroom11) _) hr11); have HC430 := Aside0.mk (show y426.length ≤ c11 from by rw [hy11, hc11]; exact Nat.sub_le_sub_right (Nat.le_trans (by omega) hroom11) _); clear hr11 hC11 hroom11 hi011 hsz11 hc11; have KY11 := Aside0.mk hy11; have KA11 := Aside0.mk hA11; clear hy11 hA11; replace q11 := eq_true q11))
   go_ret2
   exact ⟨_, by first | rfl | (simp [errW_none, errW_some] <;> rfl) | (simp [*, errW_none, errW_some] <;> rfl), by (with_reducible repeat (first | apply Kd.V_alloc | apply Kd.V_drewN | apply Kd.V_drew)); exact HO430.out, bl_⟩
  ·rw [if_neg c10] at H
   exact absurd H (by simp)
 ·rw [if_neg c9] at H
  exact absurd H (by simp)
/-! ### impl_GetBcd: function 96 -/
def impl_GetBcd.l0 : Nat → Int → Int → List Int → Bool → List Int → List Int → Int → Int → Option (ByteArray × Int × Bool)
 | 0, _, _, _, _, _, _, _, _ => none
 | k + 1, x1, x2, x9, x10, x11, x27, x28, x29 => if x29 < x28 then (if 0 ≤ x29 then (if x29 < (x27.length : Int) then ((some (([(48 + ((rd x27 x29) / 16)) % 256, (48 + (Go.bits .and .u8 (rd x27 x29) 15)) % 256] : List Int) : List Int)).bind fun y440 => (if x11.length + y440.length < 140737488355328 then (impl_GetBcd.l0 k x1 x2 x9 x10 (x11 ++ y440) x27 x28 (wrap64 (x29 + 1))) else (none))) else (none)) else (none)) else (if x10 = true then ((impl_Digits.f k (strOfNums x11)).bind fun t446 => (if t446 = true then (if (Int.tmod x2 2) = 1 then (if 0 < (x11.length : Int) then (if (rd x11 0) = 48 then (if 0 ≤ (wrap64 ((x11.length : Int) - x2)) then (if (wrap64 ((x11.length : Int) - x2)) ≤ (x11.length : Int) then (some (strOfNums (x11.drop ((wrap64 ((x11.length : Int) - x2)) : Int).toNat), wrap64 (x1 + (x9.length : Int)), true)) else (none)) else (none)) else (some ((⟨#[]⟩ : ByteArray), 0, false))) else (none)) else (if 0 ≤ (wrap64 ((x11.length : Int) - x2)) then (if (wrap64 ((x11.length : Int) - x2)) ≤ (x11.length : Int) then (some (strOfNums (x11.drop ((wrap64 ((x11.length : Int) - x2)) : Int).toNat), wrap64 (x1 + (x9.length : Int)), true)) else (none)) else (none))) else (some ((⟨#[]⟩ : ByteArray), 0, false)))) else (some ((⟨#[]⟩ : ByteArray), 0, false)))
def impl_GetBcd.f (k : Nat) (l0 : List Int) (a1 : Int) (a2 : Int) : Option (ByteArray × Int × Bool) := (impl_within.f a2 1 38).bind fun t431 => (if t431 = true then ((impl_piece.f l0 a1 (wrap64 (Int.tdiv (wrap64 (a2 + 1)) 2))).bind fun bt432 => (impl_GetBcd.l0 k a1 a2 bt432.1 bt432.2 (([] : List Int)) bt432.1 (bt432.1.length : Int) 0)) else (some ((⟨#[]⟩ : ByteArray), 0, false)))
set_option maxHeartbeats 8000000 in
set_option maxRecDepth 100000 in
theorem impl_GetBcd.calls (k : Nat) (A0 : Option Addr) (c0 : Nat) (l0 : List Int) (a1 : Int) (a2 : Int) (r1 : ByteArray) (r2 : Int) (r3 : Bool) (w : World) (hr0 : Kd.C (Kd.int .u8) w A0 l0.length l0) (hc0 : l0.length ≤ c0) (h : impl_GetBcd.f k l0 a1 a2 = some (r1, r2, r3)) :
  Calls Tryz.prog 96 #[.slice A0 l0.length c0, .int .i64 a1, .int .i64 a2] w fun e w' => e = .returned (.tuple #[.string r1, .int .i64 r2, .bool r3]) ∧ Below w.heap.size w w' := by
 have HR0 := Aside0.mk hr0
 have HC0 := Aside0.mk hc0
 clear hr0 hc0
 have HB := Aside0.mk (Below.refl w.heap.size w)
 have H : ((impl_within.f a2 1 38).bind fun t431 => (if t431 = true then ((impl_piece.f l0 a1 (wrap64 (Int.tdiv (wrap64 (a2 + 1)) 2))).bind fun bt432 => (impl_GetBcd.l0 k a1 a2 bt432.1 bt432.2 (([] : List Int)) bt432.1 (bt432.1.length : Int) 0)) else (some ((⟨#[]⟩ : ByteArray), 0, false)))) = some (r1, r2, r3) := h
 clear h
 obtain ⟨t431, A4, H⟩ := ob_ H
 by_cases c5 : t431 = true
 rotate_left
 ·replace c5 := Bool.eq_false_iff.mpr c5
  subst c5
  replace H := in_ H
  simp only [Option.some.injEq, Prod.mk.injEq] at H
  obtain ⟨rfl, rfl, rfl⟩ := H
  go_enter Tryz.func96, Tryz.ntmps96
  go_wp2_with (first | ((with_reducible refine gc_ 71 15 Tryz.func71 #[.int .i64 a2, .int .i64 1, .int .i64 38] ?_); (with_reducible refine (impl_within.calls a2 1 38 false _ A4.out).mono ?_); rintro e w' ⟨rfl, ⟨nd, rfl⟩⟩; refine ⟨_, rfl, ?_⟩))
  go_ret3
  exact ⟨sq_, bl_⟩
 subst c5
 replace H := ip_ H
 obtain ⟨⟨t432, t435⟩, A6, H⟩ := ob_ H
 (try dsimp only at H)
 obtain ⟨y436, hy436⟩ : ∃ y_ : List Int, y_ = (([] : List Int)) := ⟨_, rfl⟩
 replace H : (impl_GetBcd.l0 k a1 a2 t432 t435 y436 t432 (t432.length : Int) 0) = some (r1, r2, r3) := by first | (rw [hy436]; with_reducible exact H) | (have H2_ := (Option.bind_some _ _).symm.trans H; rw [hy436]; with_reducible exact H2_) | (have H2_ := (Option.bind_some _ _).symm.trans H; with_reducible exact H2_) | with_reducible exact H | (rw [hy436]; exact H) | exact H
 have Ny436 := Aside0.mk hy436
 clear hy436
 have H' := Aside0.mk H
 clear H
 go_enter Tryz.func96, Tryz.ntmps96
 go_wp2_with (first | ((with_reducible refine gc_ 71 15 Tryz.func71 #[.int .i64 a2, .int .i64 1, .int .i64 38] ?_); (with_reducible refine (impl_within.calls a2 1 38 true _ A4.out).mono ?_); rintro e w' ⟨rfl, ⟨nd, rfl⟩⟩; refine ⟨_, rfl, ?_⟩) | ((with_reducible refine gc_ 125 23 Tryz.func125 #[.slice A0 l0.length c0, .int .i64 a1, .int .i64 (wrap64 (Int.tdiv (wrap64 (a2 + 1)) 2))] ?_); (with_reducible refine (impl_piece.calls (fun k_ => k_ < w.heap.size) _ _ l0 a1 (wrap64 (Int.tdiv (wrap64 (a2 + 1)) 2)) t432 t435 _ ?side1 A6.out).mono ?_); (case side1 => exact Kd.V_mk HC0.out (Kd.F_below (Kd.C_F (Kd.heap_int .u8) HR0.out) bl_)); rintro e w7 ⟨v433, rfl, ho0, hb⟩; refine ⟨_, rfl, ?_⟩; have HO434 := Aside0.mk (Kd.V_lower (Kd.V_mono (ok' := fun k_ => True) ho0 (fun k_ hk_ => trivial)) (below_size bl_)); replace HB := hs_ hb; clear hb; (try clear ho0)) | ((with_reducible refine gate_dst (N := 26) rfl ?_); refine Kd.R_lit (Kd.int .u8) _ 5 ?hg (N := 26) ?hd (xs := ([] : List Int)) (inner := []) (ok := fun _ => True) (okp := fun _ => True) ?hr ?hp (fun _ hk => hk) trivial (Below.refl _ _) (Nat.le_refl _) (by simp) ?_; (case hd => rfl); (case hg => rfl); (case hr => first | (go_simp; done) | (go_simp; rfl)); (case hp => exact (Reps.none _ _)); intro v437 w8 ho9 hb hg_ hnew_; clear hg_ hnew_; (first | rw [← Ny436.out] at ho9 | (simp only [Int.reduceToNat] at ho9; rw [← Ny436.out] at ho9)); replace HO434 := Aside0.mk (Kd.V_elder' (by (with_reducible repeat (first | apply Kd.V_alloc | apply Kd.V_drewN | apply Kd.V_drew)); exact HO434.out) (Kd.R_base ho9) hb); have HO438 := Aside0.mk (Kd.R_lower ho9 (below_size bl_)); replace HB := hs_ hb; clear hb ho9; obtain ⟨Ao10, co10, eo10⟩ := Kd.V_slice HO434.out; subst eo10))
 go_loopg [11, 29] k (fun kq v11 v29 w' => ∃ (x11_1 : List Int) (x29_1 : Int), v29 = .int .i64 x29_1 ∧ Aside0 (impl_GetBcd.l0 kq a1 a2 t432 t435 x11_1 t432 (t432.length : Int) x29_1 = some (r1, r2, r3)) ∧ Aside0 (kq ≤ k) ∧ Aside0 (Kd.V (Kd.int .u8) 5 w' w.heap.size (fun k_ => some k_ ≠ (v11 : Value).ownBlock) (.slice Ao10 t432.length co10) t432) ∧ Aside0 (Kd.R (Kd.int .u8) 5 w' w.heap.size (fun _ => True) v11 x11_1) ∧ Aside0 (Kd.V (Kd.int .u8) 5 w' w.heap.size (fun k_ => some k_ ≠ (v11 : Value).ownBlock) (.slice Ao10 t432.length co10) t432) ∧ Aside0 (Below w.heap.size w w'))
 case atStart => exact ⟨(y436), (0), sp_, H', ⟨Nat.le_refl _⟩, ⟨by (with_reducible repeat (first | apply Kd.V_alloc | apply Kd.V_drewN | apply Kd.V_drew)); exact Kd.V_mono HO434.out (fun _ hk => hk.2)⟩, ⟨ra_ HO438⟩, ⟨by (with_reducible repeat (first | apply Kd.V_alloc | apply Kd.V_drewN | apply Kd.V_drew)); exact Kd.V_mono HO434.out (fun _ hk => hk.2)⟩, ⟨bl_⟩⟩
 case round =>
  clear H'
  obtain ⟨x11_1, x29_1, rfl, HA, HK1, HO_9, HO_11, HO_27, HB⟩ := hrel
  cases gk with
  | zero => exact absurd HA.out (by simp [impl_GetBcd.l0])
  | succ k1 =>
   have H := HA.out
   clear HA
   simp only [impl_GetBcd.l0] at H
   by_cases c11 : x29_1 < (t432.length : Int)
   ·rw [if_pos c11] at H
    have c11b0 := decide_eq_true c11
    clear c11
    by_cases c12 : 0 ≤ x29_1
    rotate_left
    ·rw [if_neg c12] at H
     exact absurd H (by simp)
    rw [if_pos c12] at H
    have c12b0 := decide_eq_true c12
    clear c12
    by_cases c13 : x29_1 < (t432.length : Int)
    rotate_left
    ·rw [if_neg c13] at H
     exact absurd H (by simp)
    rw [if_pos c13] at H
    have c13b0 := decide_eq_true c13
    clear c13
    obtain ⟨y440, hy440⟩ : ∃ y_ : List Int, y_ = (([(48 + ((rd t432 x29_1) / 16)) % 256, (48 + (Go.bits .and .u8 (rd t432 x29_1) 15)) % 256] : List Int)) := ⟨_, rfl⟩
    replace H : (if x11_1.length + y440.length < 140737488355328 then (impl_GetBcd.l0 k1 a1 a2 t432 t435 (x11_1 ++ y440) t432 (t432.length : Int) (wrap64 (x29_1 + 1))) else (none)) = some (r1, r2, r3) := by first | (rw [hy440]; with_reducible exact H) | (have H2_ := (Option.bind_some _ _).symm.trans H; rw [hy440]; with_reducible exact H2_) | (have H2_ := (Option.bind_some _ _).symm.trans H; with_reducible exact H2_) | with_reducible exact H | (rw [hy440]; exact H) | exact H
    have Ny440 := Aside0.mk hy440
    clear hy440
    by_cases c14 : x11_1.length + y440.length < 140737488355328
    ·rw [if_pos c14] at H
     have LMc14 := Aside0.mk c14
     clear c14
     obtain ⟨y443, hy443⟩ : ∃ y_ : List Int, y_ = (x11_1 ++ y440) := ⟨_, rfl⟩
     replace H : (impl_GetBcd.l0 k1 a1 a2 t432 t435 y443 t432 (t432.length : Int) (wrap64 (x29_1 + 1))) = some (r1, r2, r3) := by first | (rw [hy443]; with_reducible exact H) | (have H2_ := (Option.bind_some _ _).symm.trans H; rw [hy443]; with_reducible exact H2_) | (have H2_ := (Option.bind_some _ _).symm.trans H; with_reducible exact H2_) | with_reducible exact H | (rw [hy443]; exact H) | exact H
     have Ny443 := Aside0.mk hy443
     clear hy443
     have H' := Aside0.mk H
     clear H
     have p439 : 0 ≤ (x29_1 : Int) := od_
     have q439 : x29_1 < (t432.length : Int) := od_
     obtain ⟨ad439, e439, hx439_0⟩ := Kd.at_int (Kd.V_reads' HO_27.out).2.2 x29_1 p439 q439
     cases e439
     replace p439 := eq_true p439
     replace q439 := eq_true q439
     go_wp2_with (first | ((with_reducible refine gate_dst (N := 40) rfl ?_); refine Kd.R_lit (Kd.int .u8) _ 5 ?hg (N := 40) ?hd (xs := ([(48 + ((rd t432 x29_1) / 16)) % 256, (48 + (Go.bits .and .u8 (rd t432 x29_1) 15)) % 256] : List Int)) (inner := [.int .u8 ((48 + ((rd t432 x29_1) / 16)) % 256), .int .u8 ((48 + (Go.bits .and .u8 (rd t432 x29_1) 15)) % 256)]) (ok := fun _ => True) (okp := fun _ => True) ?hr ?hp (fun _ hk => hk) trivial (Below.refl _ _) (Nat.le_refl _) (by simp) ?_; (case hd => rfl); (case hg => rfl); (case hr => first | (go_simp; done) | (go_simp; rfl)); (case hp => exact (Reps.one (show Kd.M (Kd.int .u8) _ _ _ ((48 + ((rd t432 x29_1) / 16)) % 256) [.int .u8 ((48 + ((rd t432 x29_1) / 16)) % 256)] from rfl) (Reps.one (show Kd.M (Kd.int .u8) _ _ _ ((48 + (Go.bits .and .u8 (rd t432 x29_1) 15)) % 256) [.int .u8 ((48 + (Go.bits .and .u8 (rd t432 x29_1) 15)) % 256)] from rfl) (Reps.none _ _)))); intro v441 w15 ho16 hb hg_ hnew_; clear hg_ hnew_; (first | rw [← Ny440.out] at ho16 | (simp only [Int.reduceToNat] at ho16; rw [← Ny440.out] at ho16)); replace HO_9 := Aside0.mk (Kd.V_elder' (by (with_reducible repeat (first | apply Kd.V_alloc | apply Kd.V_drewN | apply Kd.V_drew)); exact HO_9.out) (Kd.R_base ho16) hb); replace HO_27 := Aside0.mk (Kd.V_elder' (by (with_reducible repeat (first | apply Kd.V_alloc | apply Kd.V_drewN | apply Kd.V_drew)); exact HO_27.out) (Kd.R_base ho16) hb); have HO442 := Aside0.mk (Kd.R_lower (Kd.R_new' ho16 (Kd.R_lt (ra_ HO_11))) (below_size bl_)); replace HO_11 := Aside0.mk (Kd.R_elder' (ra_ HO_11) (Kd.R_base ho16) hb); replace HB := hs_ hb; clear hb ho16; obtain ⟨Ao18, co18, eo18⟩ := Kd.R_slice HO442.out; subst eo18) | ((with_reducible refine gate_builtin (b := .append) (xs := #[.tmp 33, .tmp 40]) rfl ?_); at_builtin; refine Kd.R_append_rows (Kd.int .u8) (w0 := w) w.heap.size rfl (.tmp 33) (.tmp 40) 37 5 (.int .u8 0) 1 rfl Tryz.underlying37 info5 rfl (by decide) (by omega) u11 x11_1 y440 _ _ _ (fun k_ => some k_ ≠ (.slice Ao18 y440.length co18 : Value).ownBlock) (fun _ => False) rfl rfl ?aO ?aR (fun _ _ h => h) (fun _ h => h.elim) ?aF ?aB ?aS ?aL ?_; (case aR => exact ca_ ((Kd.R_reads' HO442.out).2.2)); (case aB => exact bl_); (case aF => exact (fun k_ hk => Kd.fresh' (Kd.R_lt (ra_ HO442)) k_ hk)); (case aO => exact (by (with_reducible repeat (first | apply Kd.R_alloc | apply Kd.R_drewN | apply Kd.R_drew)); exact Kd.R_mono HO_11.out (fun _ hk => hk.2))); (case aS => exact (below_size bl_)); (case aL => have := LMc14.out; omega); intro v444 w17 ho hb hg hat; rw [← Ny443.out] at ho; have n0_ := Aside0.mk (Kd.V_afterv (ok := (fun k_ => some k_ ≠ (.slice Ao18 y440.length co18 : Value).ownBlock)) (by (with_reducible repeat (first | apply Kd.V_alloc | apply Kd.V_drewN | apply Kd.V_drew)); exact Kd.V_mono HO_9.out (fun _ hk => ⟨hk.2, hk.1⟩)) hg hat); have n1_ := Aside0.mk (Kd.V_afterv (ok := (fun k_ => some k_ ≠ (.slice Ao18 y440.length co18 : Value).ownBlock)) (by (with_reducible repeat (first | apply Kd.V_alloc | apply Kd.V_drewN | apply Kd.V_drew)); exact Kd.V_mono HO_27.out (fun _ hk => ⟨hk.2, hk.1⟩)) hg hat); have n2_ := Aside0.mk (Kd.R_after (ok := (fun _ => True)) (ra_ HO442) hg hat); have n3_ := Aside0.mk (hb); have n4_ := Aside0.mk (ho); clear HO_9; clear HO_27; clear HO442; clear HB; clear HO_11; have HO_9 := n0_; have HO_27 := n1_; have HO442 := n2_; have HB := n3_; have HO445 := n4_; clear n0_ n1_ n2_ n3_ n4_; clear ho hb hg hat))
     go_roundg k1
     case measure => have := HK1.out; omega
     case rel => exact ⟨(y443), (wrap64 (x29_1 + 1)), sp_, H', ⟨by have := HK1.out; omega⟩, ⟨by (with_reducible repeat (first | apply Kd.V_alloc | apply Kd.V_drewN | apply Kd.V_drew)); exact Kd.V_mono HO_9.out (fun _ hk => hk.2)⟩, ⟨by (with_reducible repeat (first | apply Kd.R_alloc | apply Kd.R_drewN | apply Kd.R_drew)); exact Kd.R_mono HO445.out (fun _ hk => trivial)⟩, ⟨by (with_reducible repeat (first | apply Kd.V_alloc | apply Kd.V_drewN | apply Kd.V_drew)); exact Kd.V_mono HO_27.out (fun _ hk => hk.2)⟩, ⟨bl_⟩⟩
    ·rw [if_neg c14] at H
     exact absurd H (by simp)
   rw [if_neg c11] at H
   have c11b0 := decide_eq_false c11
   clear c11
   by_cases c19 : t435 = true
   rotate_left
   ·replace c19 := Bool.eq_false_iff.mpr c19
    subst c19
    replace H := in_ H
    simp only [Option.some.injEq, Prod.mk.injEq] at H
    obtain ⟨rfl, rfl, rfl⟩ := H
    go_wp2
    go_ret3
    exact ⟨sq_, bl_⟩
   subst c19
   replace H := ip_ H
   obtain ⟨t446, A20, H⟩ := ob_ H
   by_cases c21 : t446 = true
   rotate_left
   ·replace c21 := Bool.eq_false_iff.mpr c21
    subst c21
    replace H := in_ H
    simp only [Option.some.injEq, Prod.mk.injEq] at H
    obtain ⟨rfl, rfl, rfl⟩ := H
    have hcv41 := own_string (P := Tryz.prog) Tryz.underlying37 Tryz.underlying5 Tryz.underlying9 (Kd.own_of_R HO_11.out)
    go_wp2_with (first | (go_at_call 86; (with_reducible refine (impl_Digits.calls k1 (strOfNums x11_1) false _ A20.out).mono ?_); rintro e w' ⟨rfl, ⟨nd, rfl⟩⟩))
    go_ret3
    exact ⟨sq_, bl_⟩
   subst c21
   replace H := ip_ H
   by_cases c22 : (Int.tmod a2 2) = 1
   rotate_left
   ·rw [if_neg c22] at H
    have c22b0 := beq_eq_false_iff_ne.mpr c22
    have c22b1 := bne_iff_ne.mpr c22
    obtain ⟨ji34, hji34⟩ : ∃ j_ : Int, (wrap64 ((x11_1.length : Int) - a2)) = j_ := ⟨_, rfl⟩
    replace H : (if 0 ≤ (ji34) then (if (ji34) ≤ (x11_1.length : Int) then (some (strOfNums (x11_1.drop ((ji34) : Int).toNat), wrap64 (a1 + (t432.length : Int)), true)) else (none)) else (none)) = some (r1, r2, r3) := by first | (rw [hji34] at H; exact H) | (simp only [hji34] at H ⊢; exact H)
    (try rw [hji34] at A20)
    have hji34w : (IntKind.i64.wrap ((x11_1.length : Int) - a2)) = ji34 := (i64_w _).trans hji34
    by_cases c35 : 0 ≤ (ji34)
    ·rw [if_pos c35] at H
     have c35b0 := eq_true c35
     have c35b1 := decide_eq_true c35
     clear c35
     by_cases c36 : (ji34) ≤ (x11_1.length : Int)
     ·rw [if_pos c36] at H
      have c36b0 := eq_true c36
      have c36b1 := decide_eq_true c36
      clear c36
      obtain ⟨y452, hy452⟩ : ∃ y_ : List Int, y_ = (x11_1.drop ((ji34) : Int).toNat) := ⟨_, rfl⟩
      replace H : (some (strOfNums y452, wrap64 (a1 + (t432.length : Int)), true)) = some (r1, r2, r3) := by first | (rw [hy452]; with_reducible exact H) | (have H2_ := (Option.bind_some _ _).symm.trans H; rw [hy452]; with_reducible exact H2_) | (have H2_ := (Option.bind_some _ _).symm.trans H; with_reducible exact H2_) | with_reducible exact H | (rw [hy452]; exact H) | exact H
      have Ny452 := Aside0.mk hy452
      clear hy452
      simp only [Option.some.injEq, Prod.mk.injEq] at H
      obtain ⟨rfl, rfl, rfl⟩ := H
      have hcv37 := own_string (P := Tryz.prog) Tryz.underlying37 Tryz.underlying5 Tryz.underlying9 (Kd.own_of_R HO_11.out)
      go_wp2_with (first | (go_at_call 86; (with_reducible refine (impl_Digits.calls k1 (strOfNums x11_1) true _ A20.out).mono ?_); rintro e w' ⟨rfl, ⟨nd, rfl⟩⟩; obtain ⟨Ao38, co38, eo38⟩ := Kd.R_slice HO_11.out; subst eo38; have q39 : ((ji34) : Int) ≤ ((x11_1.length : Int) : Int) := od_; obtain ⟨i039, hi039, _, hsz39, _⟩ := info_parts info5; have hroom39 : x11_1.length ≤ co38 := (Kd.R_reads' HO_11.out).2.1; have hC39 : Kd.C (Kd.int .u8) _ Ao38 x11_1.length x11_1 := (Kd.R_reads' HO_11.out).2.2; have q039 : (0 : Int) ≤ ((ji34) : Int) := od_; have hcut39 := cut_from (P := Tryz.prog) 37 5 .i64 Tryz.underlying37 hi039 1 hsz39 Ao38 x11_1.length co38 (ji34) q039 q39; have hr39 := Kd.C_drop (m := ((ji34) : Int).toNat) (c := co38) hC39 (by omega) hroom39; obtain ⟨A39, hA39⟩ : ∃ A1, A1 = (if co38 = ((ji34) : Int).toNat then Ao38 else (Ao38 : Option Addr).map (·.add (((ji34) : Int).toNat * 1))) := ⟨_, rfl⟩; obtain ⟨c39, hc39⟩ : ∃ c1, c1 = co38 - ((ji34) : Int).toNat := ⟨_, rfl⟩; have hy39 : y452.length = x11_1.length - ((ji34) : Int).toNat := (by rw [Ny452.out, List.length_drop] <;> omega); rw [show (x11_1).drop ((ji34) : Int).toNat = y452 from Ny452.out.symm] at hr39; replace hr39 : Kd.C (Kd.int .u8) _ A39 y452.length y452 := (by rw [hA39]; exact hr39); rw [← hy39, ← hA39, ← hc39] at hcut39; have HR455 := Aside0.mk hr39; have HC455 := Aside0.mk (show y452.length ≤ c39 from by rw [hy39, hc39]; exact Nat.sub_le_sub_right hroom39 _); clear hr39 hC39 hroom39 hi039 hsz39 hc39; have KY39 := Aside0.mk hy39; have KA39 := Aside0.mk hA39; clear hy39 hA39; have KL39 := Aside0.mk (show ((ji34) : Int).toNat ≤ x11_1.length from by omega); replace q39 := eq_true q39; have hcv40 := Kd.C_string (P := Tryz.prog) (A := A39) (c := c39) Tryz.underlying37 Tryz.underlying5 Tryz.underlying9 (by repeat (first | (with_reducible exact HR455.out) | (with_reducible refine Kd.C_alloc ?_ _) | (with_reducible refine Kd.C_drewN ?_ _) | (with_reducible refine Kd.C_drew ?_) | exact HR455.out)); have hcu40 := fun (n_ : Nat) => Kd.C_string (P := Tryz.prog) (A := A39) (c := c39) Tryz.underlying37 Tryz.underlying5 Tryz.underlying9 (Kd.C_drewN HR455.out n_)))
      go_ret3
      exact ⟨by first | rfl | (simp [errW_none, errW_some] <;> rfl) | (simp only [← hji34]; first | rfl | (simp [errW_none, errW_some] <;> rfl)) | (simp [*, errW_none, errW_some] <;> rfl), bl_⟩
     ·rw [if_neg c36] at H
      exact absurd H (by simp)
    ·rw [if_neg c35] at H
     exact absurd H (by simp)
   rw [if_pos c22] at H
   have c22b0 := beq_iff_eq.mpr c22
   have c22b1 := bne_eq_false_iff_eq.mpr c22
   clear c22
   by_cases c23 : 0 < (x11_1.length : Int)
   rotate_left
   ·rw [if_neg c23] at H
    exact absurd H (by simp)
   rw [if_pos c23] at H
   have c23b0 := decide_eq_true c23
   have c23b1 : decide (0 < x11_1.length) = true := decide_eq_true (by omega)
   clear c23
   by_cases c24 : (rd x11_1 0) = 48
   ·rw [if_pos c24] at H
    have c24b0 := beq_iff_eq.mpr c24
    have c24b1 := bne_eq_false_iff_eq.mpr c24
    clear c24
    obtain ⟨ji25, hji25⟩ : ∃ j_ : Int, (wrap64 ((x11_1.length : Int) - a2)) = j_ := ⟨_, rfl⟩
    replace H : (if 0 ≤ (ji25) then (if (ji25) ≤ (x11_1.length : Int) then (some (strOfNums (x11_1.drop ((ji25) : Int).toNat), wrap64 (a1 + (t432.length : Int)), true)) else (none)) else (none)) = some (r1, r2, r3) := by first | (rw [hji25] at H; exact H) | (simp only [hji25] at H ⊢; exact H)
    (try rw [hji25] at A20)
    have hji25w : (IntKind.i64.wrap ((x11_1.length : Int) - a2)) = ji25 := (i64_w _).trans hji25
    by_cases c26 : 0 ≤ (ji25)
    ·rw [if_pos c26] at H
     have c26b0 := eq_true c26
     have c26b1 := decide_eq_true c26
     clear c26
     by_cases c27 : (ji25) ≤ (x11_1.length : Int)
     ·rw [if_pos c27] at H
      have c27b0 := eq_true c27
      have c27b1 := decide_eq_true c27
      clear c27
      obtain ⟨y448, hy448⟩ : ∃ y_ : List Int, y_ = (x11_1.drop ((ji25) : Int).toNat) := ⟨_, rfl⟩
      replace H : (some (strOfNums y448, wrap64 (a1 + (t432.length : Int)), true)) = some (r1, r2, r3) := by first | (rw [hy448]; with_reducible exact H) | (have H2_ := (Option.bind_some _ _).symm.trans H; rw [hy448]; with_reducible exact H2_) | (have H2_ := (Option.bind_some _ _).symm.trans H; with_reducible exact H2_) | with_reducible exact H | (rw [hy448]; exact H) | exact H
      have Ny448 := Aside0.mk hy448
      clear hy448
      simp only [Option.some.injEq, Prod.mk.injEq] at H
      obtain ⟨rfl, rfl, rfl⟩ := H
      have hcv28 := own_string (P := Tryz.prog) Tryz.underlying37 Tryz.underlying5 Tryz.underlying9 (Kd.own_of_R HO_11.out)
      go_wp2_with (first | (go_at_call 86; (with_reducible refine (impl_Digits.calls k1 (strOfNums x11_1) true _ A20.out).mono ?_); rintro e w' ⟨rfl, ⟨nd, rfl⟩⟩; obtain ⟨Ao29, co29, eo29⟩ := Kd.R_slice HO_11.out; subst eo29; have p447 : 0 ≤ (0 : Int) := (by omega); have q447 : 0 < (x11_1.length : Int) := od_; obtain ⟨ad447, e447, hx447_0⟩ := Kd.at_int (Kd.R_reads' HO_11.out).2.2 0 p447 q447; cases e447; have qi447 : (0 < x11_1.length) = True := eq_true (by omega); (try rw [show ((0 : Int)).toNat = 0 from rfl] at hx447_0); (try rw [Addr.add_zero'] at hx447_0); replace p447 := eq_true p447; replace q447 := eq_true q447; have q30 : ((ji25) : Int) ≤ ((x11_1.length : Int) : Int) := od_; obtain ⟨i030, hi030, _, hsz30, _⟩ := info_parts info5; have hroom30 : x11_1.length ≤ co29 := (Kd.R_reads' HO_11.out).2.1; have hC30 : Kd.C (Kd.int .u8) _ (some ad447) x11_1.length x11_1 := (Kd.R_reads' HO_11.out).2.2; have q030 : (0 : Int) ≤ ((ji25) : Int) := od_; have hcut30 := cut_from (P := Tryz.prog) 37 5 .i64 Tryz.underlying37 hi030 1 hsz30 (some ad447) x11_1.length co29 (ji25) q030 q30; have hr30 := Kd.C_drop (m := ((ji25) : Int).toNat) (c := co29) hC30 (by omega) hroom30; obtain ⟨A30, hA30⟩ : ∃ A1, A1 = (if co29 = ((ji25) : Int).toNat then (some ad447) else ((some ad447) : Option Addr).map (·.add (((ji25) : Int).toNat * 1))) := ⟨_, rfl⟩; obtain ⟨c30, hc30⟩ : ∃ c1, c1 = co29 - ((ji25) : Int).toNat := ⟨_, rfl⟩; have hy30 : y448.length = x11_1.length - ((ji25) : Int).toNat := (by rw [Ny448.out, List.length_drop] <;> omega); rw [show (x11_1).drop ((ji25) : Int).toNat = y448 from Ny448.out.symm] at hr30; replace hr30 : Kd.C (Kd.int .u8) _ A30 y448.length y448 := (by rw [hA30]; exact hr30); rw [← hy30, ← hA30, ← hc30] at hcut30; have HR451 := Aside0.mk hr30; have HC451 := Aside0.mk (show y448.length ≤ c30 from by rw [hy30, hc30]; exact Nat.sub_le_sub_right hroom30 _); clear hr30 hC30 hroom30 hi030 hsz30 hc30; have KY30 := Aside0.mk hy30; have KA30 := Aside0.mk hA30; clear hy30 hA30; have KL30 := Aside0.mk (show ((ji25) : Int).toNat ≤ x11_1.length from by omega); replace q30 := eq_true q30; have hcv31 := Kd.C_string (P := Tryz.prog) (A := A30) (c := c30) Tryz.underlying37 Tryz.underlying5 Tryz.underlying9 (by repeat (first | (with_reducible exact HR451.out) | (with_reducible refine Kd.C_alloc ?_ _) | (with_reducible refine Kd.C_drewN ?_ _) | (with_reducible refine Kd.C_drew ?_) | exact HR451.out)); have hcu31 := fun (n_ : Nat) => Kd.C_string (P := Tryz.prog) (A := A30) (c := c30) Tryz.underlying37 Tryz.underlying5 Tryz.underlying9 (Kd.C_drewN HR451.out n_)))
      go_ret3
      exact ⟨by first | rfl | (simp [errW_none, errW_some] <;> rfl) | (simp only [← hji25]; first | rfl | (simp [errW_none, errW_some] <;> rfl)) | (simp [*, errW_none, errW_some] <;> rfl), bl_⟩
     ·rw [if_neg c27] at H
      exact absurd H (by simp)
    ·rw [if_neg c26] at H
     exact absurd H (by simp)
   ·rw [if_neg c24] at H
    have c24b0 := beq_eq_false_iff_ne.mpr c24
    have c24b1 := bne_iff_ne.mpr c24
    simp only [Option.some.injEq, Prod.mk.injEq] at H
    obtain ⟨rfl, rfl, rfl⟩ := H
    have hcv32 := own_string (P := Tryz.prog) Tryz.underlying37 Tryz.underlying5 Tryz.underlying9 (Kd.own_of_R HO_11.out)
    go_wp2_with (first | (go_at_call 86; (with_reducible refine (impl_Digits.calls k1 (strOfNums x11_1) true _ A20.out).mono ?_); rintro e w' ⟨rfl, ⟨nd, rfl⟩⟩; obtain ⟨Ao33, co33, eo33⟩ := Kd.R_slice HO_11.out; subst eo33; have p447 : 0 ≤ (0 : Int) := (by omega); have q447 : 0 < (x11_1.length : Int) := od_; obtain ⟨ad447, e447, hx447_0⟩ := Kd.at_int (Kd.R_reads' HO_11.out).2.2 0 p447 q447; cases e447; have qi447 : (0 < x11_1.length) = True := eq_true (by omega); (try rw [show ((0 : Int)).toNat = 0 from rfl] at hx447_0); (try rw [Addr.add_zero'] at hx447_0); replace p447 := eq_true p447; replace q447 := eq_true q447))
    go_ret3
    exact ⟨sq_, bl_⟩
/-! ### impl_GetBits: function 97 -/
def impl_GetBits.l0 : Nat → Int → List Int → List Int → Int → Option (List Int × Int × Bool)
 | 0, _, _, _, _ => none
 | k + 1, x1, x7, x9, x10 => if x10 ≤ 64 then (if 0 ≤ (wrap64 (Int.tdiv (wrap64 (x10 - 1)) 8)) then (if (wrap64 (Int.tdiv (wrap64 (x10 - 1)) 8)) < (x7.length : Int) then (if 0 ≤ (Int.tmod (wrap64 (x10 - 1)) 8) then (if (Go.bits .and .u8 (rd x7 (wrap64 (Int.tdiv (wrap64 (x10 - 1)) 8))) (shr .u8 128 (Int.tmod (wrap64 (x10 - 1)) 8))) = 0 then (impl_GetBits.l0 k x1 x7 x9 (wrap64 (x10 + 1))) else (if x9.length < 17592186044416 then (impl_GetBits.l0 k x1 x7 (x9 ++ [x10]) (wrap64 (x10 + 1))) else (none))) else (none)) else (none)) else (none)) else (some (x9, wrap64 (x1 + 8), true))
def impl_GetBits.f (k : Nat) (l0 : List Int) (a1 : Int) : Option (List Int × Int × Bool) := (impl_piece.f l0 a1 8).bind fun bt456 => (if bt456.2 = true then (impl_GetBits.l0 k a1 bt456.1 (([] : List Int)) 1) else (some (([] : List Int), 0, false)))
set_option maxHeartbeats 8000000 in
set_option maxRecDepth 100000 in
theorem impl_GetBits.calls (k : Nat) (A0 : Option Addr) (c0 : Nat) (l0 : List Int) (a1 : Int) (r1 : List Int) (r2 : Int) (r3 : Bool) (w : World) (hr0 : Kd.C (Kd.int .u8) w A0 l0.length l0) (hc0 : l0.length ≤ c0) (h : impl_GetBits.f k l0 a1 = some (r1, r2, r3)) :
  Calls Tryz.prog 97 #[.slice A0 l0.length c0, .int .i64 a1] w fun e w' => ∃ v0_ : Value, e = .returned (.tuple #[v0_, .int .i64 r2, .bool r3]) ∧ Kd.R (Kd.int .i64) 3 w' w.heap.size (fun _ => True) v0_ r1 ∧ Below w.heap.size w w' := by
 have HR0 := Aside0.mk hr0
 have HC0 := Aside0.mk hc0
 clear hr0 hc0
 have HB := Aside0.mk (Below.refl w.heap.size w)
 have H : ((impl_piece.f l0 a1 8).bind fun bt456 => (if bt456.2 = true then (impl_GetBits.l0 k a1 bt456.1 (([] : List Int)) 1) else (some (([] : List Int), 0, false)))) = some (r1, r2, r3) := h
 clear h
 obtain ⟨⟨t456, t459⟩, A3, H⟩ := ob_ H
 (try dsimp only at H)
 by_cases c4 : t459 = true
 rotate_left
 ·replace c4 := Bool.eq_false_iff.mpr c4
  subst c4
  replace H := in_ H
  simp only [Option.some.injEq, Prod.mk.injEq] at H
  obtain ⟨rfl, rfl, rfl⟩ := H
  go_enter Tryz.func97, Tryz.ntmps97
  go_wp2_with (first | (go_at_call 125; (with_reducible refine (impl_piece.calls (fun k_ => k_ < w.heap.size) _ _ l0 a1 8 t456 false _ ?side1 A3.out).mono ?_); (case side1 => exact Kd.V_mk HC0.out (Kd.F_below (Kd.C_F (Kd.heap_int .u8) HR0.out) bl_)); rintro e w20 ⟨v457, rfl, ho0, hb⟩; have HO458 := Aside0.mk (Kd.V_lower (Kd.V_mono (ok' := fun k_ => True) ho0 (fun k_ hk_ => trivial)) (below_size bl_)); replace HB := hs_ hb; clear hb; (try clear ho0)))
  repeat (go_quiet (first | (go_at_call 125; (with_reducible refine (impl_piece.calls (fun k_ => k_ < w.heap.size) _ _ l0 a1 8 t456 false _ ?side1 A3.out).mono ?_); (case side1 => exact Kd.V_mk HC0.out (Kd.F_below (Kd.C_F (Kd.heap_int .u8) HR0.out) bl_)); rintro e w20 ⟨v457, rfl, ho0, hb⟩; have HO458 := Aside0.mk (Kd.V_lower (Kd.V_mono (ok' := fun k_ => True) ho0 (fun k_ hk_ => trivial)) (below_size bl_)); replace HB := hs_ hb; clear hb; (try clear ho0))); try go_wp2_with (first | (go_at_call 125; (with_reducible refine (impl_piece.calls (fun k_ => k_ < w.heap.size) _ _ l0 a1 8 t456 false _ ?side1 A3.out).mono ?_); (case side1 => exact Kd.V_mk HC0.out (Kd.F_below (Kd.C_F (Kd.heap_int .u8) HR0.out) bl_)); rintro e w20 ⟨v457, rfl, ho0, hb⟩; have HO458 := Aside0.mk (Kd.V_lower (Kd.V_mono (ok' := fun k_ => True) ho0 (fun k_ hk_ => trivial)) (below_size bl_)); replace HB := hs_ hb; clear hb; (try clear ho0))))
  go_ret3
  exact ⟨_, by first | rfl | (simp [errW_none, errW_some] <;> rfl) | (simp [*, errW_none, errW_some] <;> rfl), by first | exact Kd.R_nil _ _ _ _ _ | exact Kd.N_nil _ _ _ _ _ | exact Kd.V_nil _ _ _ _ _ | exact Kd.Q_nil _ _ _ _ _ | exact Kd.S_nil _ _ _ _ _, bl_⟩
 subst c4
 replace H := ip_ H
 obtain ⟨y460, hy460⟩ : ∃ y_ : List Int, y_ = (([] : List Int)) := ⟨_, rfl⟩
 replace H : (impl_GetBits.l0 k a1 t456 y460 1) = some (r1, r2, r3) := by first | (rw [hy460]; with_reducible exact H) | (have H2_ := (Option.bind_some _ _).symm.trans H; rw [hy460]; with_reducible exact H2_) | (have H2_ := (Option.bind_some _ _).symm.trans H; with_reducible exact H2_) | with_reducible exact H | (rw [hy460]; exact H) | exact H
 have Ny460 := Aside0.mk hy460
 clear hy460
 have H' := Aside0.mk H
 clear H
 go_enter Tryz.func97, Tryz.ntmps97
 go_wp2_with (first | (go_at_call 125; (with_reducible refine (impl_piece.calls (fun k_ => k_ < w.heap.size) _ _ l0 a1 8 t456 true _ ?side1 A3.out).mono ?_); (case side1 => exact Kd.V_mk HC0.out (Kd.F_below (Kd.C_F (Kd.heap_int .u8) HR0.out) bl_)); rintro e w5 ⟨v457, rfl, ho0, hb⟩; have HO458 := Aside0.mk (Kd.V_lower (Kd.V_mono (ok' := fun k_ => True) ho0 (fun k_ hk_ => trivial)) (below_size bl_)); replace HB := hs_ hb; clear hb; (try clear ho0)) | ((with_reducible refine gate_dst (N := 19) rfl ?_); refine Kd.R_lit (Kd.int .i64) _ 3 ?hg (N := 19) ?hd (xs := ([] : List Int)) (inner := []) (ok := fun _ => True) (okp := fun _ => True) ?hr ?hp (fun _ hk => hk) trivial (Below.refl _ _) (Nat.le_refl _) (by simp) ?_; (case hd => rfl); (case hg => rfl); (case hr => first | (go_simp; done) | (go_simp; rfl)); (case hp => exact (Reps.none _ _)); intro v461 w6 ho7 hb hg_ hnew_; clear hg_ hnew_; (first | rw [← Ny460.out] at ho7 | (simp only [Int.reduceToNat] at ho7; rw [← Ny460.out] at ho7)); replace HO458 := Aside0.mk (Kd.V_elder' (by (with_reducible repeat (first | apply Kd.V_alloc | apply Kd.V_drewN | apply Kd.V_drew)); exact HO458.out) (Kd.R_base ho7) hb); have HO462 := Aside0.mk (Kd.R_lower ho7 (below_size bl_)); replace HB := hs_ hb; clear hb ho7))
 repeat (go_quiet (first | (go_at_call 125; (with_reducible refine (impl_piece.calls (fun k_ => k_ < w.heap.size) _ _ l0 a1 8 t456 true _ ?side1 A3.out).mono ?_); (case side1 => exact Kd.V_mk HC0.out (Kd.F_below (Kd.C_F (Kd.heap_int .u8) HR0.out) bl_)); rintro e w5 ⟨v457, rfl, ho0, hb⟩; have HO458 := Aside0.mk (Kd.V_lower (Kd.V_mono (ok' := fun k_ => True) ho0 (fun k_ hk_ => trivial)) (below_size bl_)); replace HB := hs_ hb; clear hb; (try clear ho0)) | ((with_reducible refine gate_dst (N := 19) rfl ?_); refine Kd.R_lit (Kd.int .i64) _ 3 ?hg (N := 19) ?hd (xs := ([] : List Int)) (inner := []) (ok := fun _ => True) (okp := fun _ => True) ?hr ?hp (fun _ hk => hk) trivial (Below.refl _ _) (Nat.le_refl _) (by simp) ?_; (case hd => rfl); (case hg => rfl); (case hr => first | (go_simp; done) | (go_simp; rfl)); (case hp => exact (Reps.none _ _)); intro v461 w6 ho7 hb hg_ hnew_; clear hg_ hnew_; (first | rw [← Ny460.out] at ho7 | (simp only [Int.reduceToNat] at ho7; rw [← Ny460.out] at ho7)); replace HO458 := Aside0.mk (Kd.V_elder' (by (with_reducible repeat (first | apply Kd.V_alloc | apply Kd.V_drewN | apply Kd.V_drew)); exact HO458.out) (Kd.R_base ho7) hb); have HO462 := Aside0.mk (Kd.R_lower ho7 (below_size bl_)); replace HB := hs_ hb; clear hb ho7)); try go_wp2_with (first | (go_at_call 125; (with_reducible refine (impl_piece.calls (fun k_ => k_ < w.heap.size) _ _ l0 a1 8 t456 true _ ?side1 A3.out).mono ?_); (case side1 => exact Kd.V_mk HC0.out (Kd.F_below (Kd.C_F (Kd.heap_int .u8) HR0.out) bl_)); rintro e w5 ⟨v457, rfl, ho0, hb⟩; have HO458 := Aside0.mk (Kd.V_lower (Kd.V_mono (ok' := fun k_ => True) ho0 (fun k_ hk_ => trivial)) (below_size bl_)); replace HB := hs_ hb; clear hb; (try clear ho0)) | ((with_reducible refine gate_dst (N := 19) rfl ?_); refine Kd.R_lit (Kd.int .i64) _ 3 ?hg (N := 19) ?hd (xs := ([] : List Int)) (inner := []) (ok := fun _ => True) (okp := fun _ => True) ?hr ?hp (fun _ hk => hk) trivial (Below.refl _ _) (Nat.le_refl _) (by simp) ?_; (case hd => rfl); (case hg => rfl); (case hr => first | (go_simp; done) | (go_simp; rfl)); (case hp => exact (Reps.none _ _)); intro v461 w6 ho7 hb hg_ hnew_; clear hg_ hnew_; (first | rw [← Ny460.out] at ho7 | (simp only [Int.reduceToNat] at ho7; rw [← Ny460.out] at ho7)); replace HO458 := Aside0.mk (Kd.V_elder' (by (with_reducible repeat (first | apply Kd.V_alloc | apply Kd.V_drewN | apply Kd.V_drew)); exact HO458.out) (Kd.R_base ho7) hb); have HO462 := Aside0.mk (Kd.R_lower ho7 (below_size bl_)); replace HB := hs_ hb; clear hb ho7)))
 go_loopg [9, 10] k (fun kq v9 v10 w' => ∃ (x9_1 : List Int) (x10_1 : Int), v10 = .int .i64 x10_1 ∧ Aside0 (impl_GetBits.l0 kq a1 t456 x9_1 x10_1 = some (r1, r2, r3)) ∧ Aside0 (kq ≤ k) ∧ Aside0 (Kd.V (Kd.int .u8) 5 w' w.heap.size (fun k_ => some k_ ≠ (v9 : Value).ownBlock) v457 t456) ∧ Aside0 (Kd.R (Kd.int .i64) 3 w' w.heap.size (fun _ => True) v9 x9_1) ∧ Aside0 (Below w.heap.size w w'))
 case atStart => exact ⟨(y460), (1), sp_, H', ⟨Nat.le_refl _⟩, ⟨by (with_reducible repeat (first | apply Kd.V_alloc | apply Kd.V_drewN | apply Kd.V_drew)); exact Kd.V_mono HO458.out (fun _ hk => hk.2)⟩, ⟨ra_ HO462⟩, ⟨bl_⟩⟩
 case round =>
  clear H'
  obtain ⟨x9_1, x10_1, rfl, HA, HK1, HO_7, HO_9, HB⟩ := hrel
  cases gk with
  | zero => exact absurd HA.out (by simp [impl_GetBits.l0])
  | succ k1 =>
   have H := HA.out
   clear HA
   simp only [impl_GetBits.l0] at H
   by_cases c8 : x10_1 ≤ 64
   rotate_left
   ·rw [if_neg c8] at H
    have c8b0 := decide_eq_false c8
    clear c8
    simp only [Option.some.injEq, Prod.mk.injEq] at H
    obtain ⟨rfl, rfl, rfl⟩ := H
    go_wp2
    repeat (go_quiet (fail); try go_wp2)
    go_ret3
    exact ⟨_, by first | rfl | (simp [errW_none, errW_some] <;> rfl) | (simp [*, errW_none, errW_some] <;> rfl), ra_ HO_9, bl_⟩
   rw [if_pos c8] at H
   have c8b0 := decide_eq_true c8
   clear c8
   obtain ⟨ji9, hji9⟩ : ∃ j_ : Int, (wrap64 (Int.tdiv (wrap64 (x10_1 - 1)) 8)) = j_ := ⟨_, rfl⟩
   replace H : (if 0 ≤ (ji9) then (if (ji9) < (t456.length : Int) then (if 0 ≤ (Int.tmod (wrap64 (x10_1 - 1)) 8) then (if (Go.bits .and .u8 (rd t456 (ji9)) (shr .u8 128 (Int.tmod (wrap64 (x10_1 - 1)) 8))) = 0 then (impl_GetBits.l0 k1 a1 t456 x9_1 (wrap64 (x10_1 + 1))) else (if x9_1.length < 17592186044416 then (impl_GetBits.l0 k1 a1 t456 (x9_1 ++ [x10_1]) (wrap64 (x10_1 + 1))) else (none))) else (none)) else (none)) else (none)) = some (r1, r2, r3) := by first | (rw [hji9] at H; exact H) | (simp only [hji9] at H ⊢; exact H)
   have hji9w : (IntKind.i64.wrap (Int.tdiv (wrap64 (x10_1 - 1)) 8)) = ji9 := (i64_w _).trans hji9
   by_cases c10 : 0 ≤ (ji9)
   rotate_left
   ·rw [if_neg c10] at H
    exact absurd H (by simp)
   rw [if_pos c10] at H
   have c10b0 := decide_eq_true c10
   clear c10
   by_cases c11 : (ji9) < (t456.length : Int)
   rotate_left
   ·rw [if_neg c11] at H
    exact absurd H (by simp)
   rw [if_pos c11] at H
   have c11b0 := decide_eq_true c11
   clear c11
   obtain ⟨ji12, hji12⟩ : ∃ j_ : Int, (Int.tmod (wrap64 (x10_1 - 1)) 8) = j_ := ⟨_, rfl⟩
   replace H : (if 0 ≤ (ji12) then (if (Go.bits .and .u8 (rd t456 (ji9)) (shr .u8 128 (ji12))) = 0 then (impl_GetBits.l0 k1 a1 t456 x9_1 (wrap64 (x10_1 + 1))) else (if x9_1.length < 17592186044416 then (impl_GetBits.l0 k1 a1 t456 (x9_1 ++ [x10_1]) (wrap64 (x10_1 + 1))) else (none))) else (none)) = some (r1, r2, r3) := by first | (rw [hji12] at H; exact H) | (simp only [hji12] at H ⊢; exact H)
   by_cases c13 : 0 ≤ (ji12)
   rotate_left
   ·rw [if_neg c13] at H
    exact absurd H (by simp)
   rw [if_pos c13] at H
   have c13b0 := eq_true c13
   have c13b1 := decide_eq_true c13
   clear c13
   obtain ⟨ji14, hji14⟩ : ∃ j_ : Int, (shr .u8 128 (ji12)) = j_ := ⟨_, rfl⟩
   replace H : (if (Go.bits .and .u8 (rd t456 (ji9)) (ji14)) = 0 then (impl_GetBits.l0 k1 a1 t456 x9_1 (wrap64 (x10_1 + 1))) else (if x9_1.length < 17592186044416 then (impl_GetBits.l0 k1 a1 t456 (x9_1 ++ [x10_1]) (wrap64 (x10_1 + 1))) else (none))) = some (r1, r2, r3) := by first | (rw [hji14] at H; exact H) | (simp only [hji14] at H ⊢; exact H)
   have hji14_ : (128 / 2 ^ min (ji12).toNat 8) = ji14 := hji14
   have hji14z : (ji12) ≤ 8 → (128 / 2 ^ (ji12).toNat) = ji14 := shr_small hji14
   by_cases c15 : (Go.bits .and .u8 (rd t456 (ji9)) (ji14)) = 0
   ·rw [if_pos c15] at H
    have c15b0 := beq_iff_eq.mpr c15
    have c15b1 := bne_eq_false_iff_eq.mpr c15
    clear c15
    have H' := Aside0.mk H
    clear H
    obtain ⟨Ao16, co16, eo16⟩ := Kd.V_slice HO_7.out
    subst eo16
    have p463 : 0 ≤ ((ji9) : Int) := od_
    have q463 : (ji9) < (t456.length : Int) := od_
    obtain ⟨ad463, e463, hx463_0⟩ := Kd.at_int (Kd.V_reads' HO_7.out).2.2 (ji9) p463 q463
    cases e463
    replace p463 := eq_true p463
    replace q463 := eq_true q463
    go_wp2
    repeat (go_quiet (fail); try go_wp2)
    go_roundg k1
    case measure => have := HK1.out; omega
    case rel => exact ⟨(x9_1), (wrap64 (x10_1 + 1)), sp_, H', ⟨by have := HK1.out; omega⟩, ⟨by (with_reducible repeat (first | apply Kd.V_alloc | apply Kd.V_drewN | apply Kd.V_drew)); exact HO_7.out⟩, ⟨ra_ HO_9⟩, ⟨bl_⟩⟩
   rw [if_neg c15] at H
   have c15b0 := beq_eq_false_iff_ne.mpr c15
   have c15b1 := bne_iff_ne.mpr c15
   by_cases c17 : x9_1.length < 17592186044416
   ·rw [if_pos c17] at H
    have LMc17 := Aside0.mk c17
    clear c17
    obtain ⟨y464, hy464⟩ : ∃ y_ : List Int, y_ = (x9_1 ++ [x10_1]) := ⟨_, rfl⟩
    replace H : (impl_GetBits.l0 k1 a1 t456 y464 (wrap64 (x10_1 + 1))) = some (r1, r2, r3) := by first | (rw [hy464]; with_reducible exact H) | (have H2_ := (Option.bind_some _ _).symm.trans H; rw [hy464]; with_reducible exact H2_) | (have H2_ := (Option.bind_some _ _).symm.trans H; with_reducible exact H2_) | with_reducible exact H | (rw [hy464]; exact H) | exact H
    have Ny464 := Aside0.mk hy464
    clear hy464
    have H' := Aside0.mk H
    clear H
    obtain ⟨Ao18, co18, eo18⟩ := Kd.V_slice HO_7.out
    subst eo18
    have p463 : 0 ≤ ((ji9) : Int) := od_
    have q463 : (ji9) < (t456.length : Int) := od_
    obtain ⟨ad463, e463, hx463_0⟩ := Kd.at_int (Kd.V_reads' HO_7.out).2.2 (ji9) p463 q463
    cases e463
    replace p463 := eq_true p463
    replace q463 := eq_true q463
    go_wp2_with (first | ((with_reducible refine gate_builtin (b := .append) (xs := #[.tmp 36, .tmp 38]) rfl ?_); at_builtin; refine Kd.R_append (Kd.int .i64) (w0 := w) w.heap.size rfl (.tmp 36) (.tmp 38) 46 3 (.int .i64 0) 8 rfl Tryz.underlying46 info3 rfl (by decide) (by omega) u9 x9_1 x10_1 [.int .i64 x10_1] (fun _ => True) (fun _ => False) rfl rfl ?aP (fun _ hk => hk.elim) ?aF ?aO ?aB ?aS ?aL ?_; (case aP => exact rfl); (case aB => exact bl_); (case aF => exact (fun _ _ => trivial)); (case aO => exact (ra_ HO_9)); (case aS => exact (below_size bl_)); (case aL => have := LMc17.out; omega); intro v465 w19 ho hb hg hat; rw [← Ny464.out] at ho; have n0_ := Aside0.mk (Kd.V_afterv (ok := (fun _ => True)) (by (with_reducible repeat (first | apply Kd.V_alloc | apply Kd.V_drewN | apply Kd.V_drew)); exact Kd.V_mono HO_7.out (fun _ hk => ⟨trivial, hk⟩)) hg hat); have n1_ := Aside0.mk (hb); have n2_ := Aside0.mk (ho); clear HO_7; clear HB; clear HO_9; have HO_7 := n0_; have HB := n1_; have HO466 := n2_; clear n0_ n1_ n2_; clear ho hb hg hat))
    repeat (go_quiet (first | ((with_reducible refine gate_builtin (b := .append) (xs := #[.tmp 36, .tmp 38]) rfl ?_); at_builtin; refine Kd.R_append (Kd.int .i64) (w0 := w) w.heap.size rfl (.tmp 36) (.tmp 38) 46 3 (.int .i64 0) 8 rfl Tryz.underlying46 info3 rfl (by decide) (by omega) u9 x9_1 x10_1 [.int .i64 x10_1] (fun _ => True) (fun _ => False) rfl rfl ?aP (fun _ hk => hk.elim) ?aF ?aO ?aB ?aS ?aL ?_; (case aP => exact rfl); (case aB => exact bl_); (case aF => exact (fun _ _ => trivial)); (case aO => exact (ra_ HO_9)); (case aS => exact (below_size bl_)); (case aL => have := LMc17.out; omega); intro v465 w19 ho hb hg hat; rw [← Ny464.out] at ho; have n0_ := Aside0.mk (Kd.V_afterv (ok := (fun _ => True)) (by (with_reducible repeat (first | apply Kd.V_alloc | apply Kd.V_drewN | apply Kd.V_drew)); exact Kd.V_mono HO_7.out (fun _ hk => ⟨trivial, hk⟩)) hg hat); have n1_ := Aside0.mk (hb); have n2_ := Aside0.mk (ho); clear HO_7; clear HB; clear HO_9; have HO_7 := n0_; have HB := n1_; have HO466 := n2_; clear n0_ n1_ n2_; clear ho hb hg hat)); try go_wp2_with (first | ((with_reducible refine gate_builtin (b := .append) (xs := #[.tmp 36, .tmp 38]) rfl ?_); at_builtin; refine Kd.R_append (Kd.int .i64) (w0 := w) w.heap.size rfl (.tmp 36) (.tmp 38) 46 3 (.int .i64 0) 8 rfl Tryz.underlying46 info3 rfl (by decide) (by omega) u9 x9_1 x10_1 [.int .i64 x10_1] (fun _ => True) (fun _ => False) rfl rfl ?aP (fun _ hk => hk.elim) ?aF ?aO ?aB ?aS ?aL ?_; (case aP => exact rfl); (case aB => exact bl_); (case aF => exact (fun _ _ => trivial)); (case aO => exact (ra_ HO_9)); (case aS => exact (below_size bl_)); (case aL => have := LMc17.out; omega); intro v465 w19 ho hb hg hat; rw [← Ny464.out] at ho; have n0_ := Aside0.mk (Kd.V_afterv (ok := (fun _ => True)) (by (with_reducible repeat (first | apply Kd.V_alloc | apply Kd.V_drewN | apply Kd.V_drew)); exact Kd.V_mono HO_7.out (fun _ hk => ⟨trivial, hk⟩)) hg hat); have n1_ := Aside0.mk (hb); have n2_ := Aside0.mk (ho); clear HO_7; clear HB; clear HO_9; have HO_7 := n0_; have HB := n1_; have HO466 := n2_; clear n0_ n1_ n2_; clear ho hb hg hat)))
    go_roundg k1
    case measure => have := HK1.out; omega
    case rel => exact ⟨(y464), (wrap64 (x10_1 + 1)), sp_, H', ⟨by have := HK1.out; omega⟩, ⟨by (with_reducible repeat (first | apply Kd.V_alloc | apply Kd.V_drewN | apply Kd.V_drew)); exact Kd.V_mono HO_7.out (fun _ hk => hk.2)⟩, ⟨ra_ HO466⟩, ⟨bl_⟩⟩
   ·rw [if_neg c17] at H
    exact absurd H (by simp)
/-! ### impl_FieldKind: function 98 -/
def impl_FieldKind.f (k : Nat) (a0 : Int) : Option (Int) := (impl_rowOf.f k a0).bind fun bt467 => (some bt467.2.1)
set_option maxHeartbeats 8000000 in
set_option maxRecDepth 100000 in
theorem impl_FieldKind.calls (k : Nat) (a0 : Int) (r : Int) (w : World) (h : impl_FieldKind.f k a0 = some r) :
  Calls Tryz.prog 98 #[.int .i64 a0] w fun e w' => e = .returned (.int .i64 r) ∧ Below w.heap.size w w' := by
 have hfl115_1 : ∀ (x0_ x1_ x2_ : Value) (w : World), (Instr.field 115 (.agg #[x0_, x1_, x2_]) 1).run Tryz.prog w = .ok x1_ w := by intros; kernel_rfl
 have HB := Aside0.mk (Below.refl w.heap.size w)
 have H : ((impl_rowOf.f k a0).bind fun bt467 => (some bt467.2.1)) = some r := h
 clear h
 obtain ⟨⟨t467, t468, t469⟩, A2, H⟩ := ob_ H
 (try dsimp only at H)
 obtain rfl := Option.some.inj H
 go_enter Tryz.func98, Tryz.ntmps98
 go_wp2_with (first | ((with_reducible refine gc_ 112 4 Tryz.func112 #[.int .i64 a0] ?_); (with_reducible refine (impl_rowOf.calls k a0 t467 t468 t469 _ A2.out).mono ?_); rintro e w3 ⟨rfl, hb⟩; refine ⟨_, rfl, ?_⟩; replace HB := hs_ hb; clear hb))
 go_ret
 exact ⟨sq_, bl_⟩
/-! ### impl_FieldSize: function 126 -/
def impl_FieldSize.f (k : Nat) (a0 : Int) : Option (Int) := (impl_rowOf.f k a0).bind fun bt470 => (some bt470.2.2)
set_option maxHeartbeats 8000000 in
set_option maxRecDepth 100000 in
theorem impl_FieldSize.calls (k : Nat) (a0 : Int) (r : Int) (w : World) (h : impl_FieldSize.f k a0 = some r) :
  Calls Tryz.prog 126 #[.int .i64 a0] w fun e w' => e = .returned (.int .i64 r) ∧ Below w.heap.size w w' := by
 have hfl115_2 : ∀ (x0_ x1_ x2_ : Value) (w : World), (Instr.field 115 (.agg #[x0_, x1_, x2_]) 2).run Tryz.prog w = .ok x2_ w := by intros; kernel_rfl
 have HB := Aside0.mk (Below.refl w.heap.size w)
 have H : ((impl_rowOf.f k a0).bind fun bt470 => (some bt470.2.2)) = some r := h
 clear h
 obtain ⟨⟨t470, t471, t472⟩, A2, H⟩ := ob_ H
 (try dsimp only at H)
 obtain rfl := Option.some.inj H
 go_enter Tryz.func126, Tryz.ntmps126
 go_wp2_with (first | ((with_reducible refine gc_ 112 4 Tryz.func112 #[.int .i64 a0] ?_); (with_reducible refine (impl_rowOf.calls k a0 t470 t471 t472 _ A2.out).mono ?_); rintro e w3 ⟨rfl, hb⟩; refine ⟨_, rfl, ?_⟩; replace HB := hs_ hb; clear hb))
 go_ret
 exact ⟨sq_, bl_⟩
/-! ### impl_GetLen: function 127 -/
def impl_GetLen.f (k : Nat) (l0 : List Int) (a1 : Int) (a2 : Int) : Option (Int × Int × Bool) := (impl_within.f a2 2 3).bind fun t473 => (if t473 = true then ((impl_GetBcd.f k l0 a1 a2).bind fun bt474 => (if bt474.2.2 = true then ((impl_Narrow.f k bt474.1).bind fun bt477 => (some (bt477.1, bt474.2.1, true))) else (some (0, 0, false)))) else (some (0, 0, false)))
set_option maxHeartbeats 8000000 in
set_option maxRecDepth 100000 in
theorem impl_GetLen.calls (k : Nat) (A0 : Option Addr) (c0 : Nat) (l0 : List Int) (a1 : Int) (a2 : Int) (r1 : Int) (r2 : Int) (r3 : Bool) (w : World) (hr0 : Kd.C (Kd.int .u8) w A0 l0.length l0) (hc0 : l0.length ≤ c0) (h : impl_GetLen.f k l0 a1 a2 = some (r1, r2, r3)) :
  Calls Tryz.prog 127 #[.slice A0 l0.length c0, .int .i64 a1, .int .i64 a2] w fun e w' => e = .returned (.tuple #[.int .i64 r1, .int .i64 r2, .bool r3]) ∧ Below w.heap.size w w' := by
 have HR0 := Aside0.mk hr0
 have HC0 := Aside0.mk hc0
 clear hr0 hc0
 have HB := Aside0.mk (Below.refl w.heap.size w)
 have H : ((impl_within.f a2 2 3).bind fun t473 => (if t473 = true then ((impl_GetBcd.f k l0 a1 a2).bind fun bt474 => (if bt474.2.2 = true then ((impl_Narrow.f k bt474.1).bind fun bt477 => (some (bt477.1, bt474.2.1, true))) else (some (0, 0, false)))) else (some (0, 0, false)))) = some (r1, r2, r3) := h
 clear h
 obtain ⟨t473, A4, H⟩ := ob_ H
 by_cases c5 : t473 = true
 ·subst c5
  replace H := ip_ H
  obtain ⟨⟨t474, t475, t476⟩, A6, H⟩ := ob_ H
  (try dsimp only at H)
  by_cases c7 : t476 = true
  ·subst c7
   replace H := ip_ H
   obtain ⟨⟨t477, t478⟩, A8, H⟩ := ob_ H
   (try dsimp only at H)
   simp only [Option.some.injEq, Prod.mk.injEq] at H
   obtain ⟨rfl, rfl, rfl⟩ := H
   go_enter Tryz.func127, Tryz.ntmps127
   go_wp2_with (first | ((with_reducible refine gc_ 71 15 Tryz.func71 #[.int .i64 a2, .int .i64 2, .int .i64 3] ?_); (with_reducible refine (impl_within.calls a2 2 3 true _ A4.out).mono ?_); rintro e w' ⟨rfl, ⟨nd, rfl⟩⟩; refine ⟨_, rfl, ?_⟩) | ((with_reducible refine gc_ 96 21 Tryz.func96 #[.slice A0 l0.length c0, .int .i64 a1, .int .i64 a2] ?_); (with_reducible refine (impl_GetBcd.calls k _ _ l0 a1 a2 t474 t475 true _ ?side1 ?side2 A6.out).mono ?_); (case side1 => exact ca_ (HR0.out)); (case side2 => exact HC0.out); rintro e w9 ⟨rfl, hb⟩; refine ⟨_, rfl, ?_⟩; replace HB := hs_ hb; clear hb) | ((with_reducible refine gc_ 53 29 Tryz.func53 #[.string t474] ?_); (with_reducible refine (impl_Narrow.calls k t474 t477 t478 _ A8.out).mono ?_); rintro e w10 ⟨rfl, hb⟩; refine ⟨_, rfl, ?_⟩; replace HB := hs_ hb; clear hb))
   go_ret3
   exact ⟨sq_, bl_⟩
  ·replace c7 := Bool.eq_false_iff.mpr c7
   subst c7
   replace H := in_ H
   simp only [Option.some.injEq, Prod.mk.injEq] at H
   obtain ⟨rfl, rfl, rfl⟩ := H
   go_enter Tryz.func127, Tryz.ntmps127
   go_wp2_with (first | ((with_reducible refine gc_ 71 15 Tryz.func71 #[.int .i64 a2, .int .i64 2, .int .i64 3] ?_); (with_reducible refine (impl_within.calls a2 2 3 true _ A4.out).mono ?_); rintro e w' ⟨rfl, ⟨nd, rfl⟩⟩; refine ⟨_, rfl, ?_⟩) | ((with_reducible refine gc_ 96 21 Tryz.func96 #[.slice A0 l0.length c0, .int .i64 a1, .int .i64 a2] ?_); (with_reducible refine (impl_GetBcd.calls k _ _ l0 a1 a2 t474 t475 false _ ?side1 ?side2 A6.out).mono ?_); (case side1 => exact ca_ (HR0.out)); (case side2 => exact HC0.out); rintro e w11 ⟨rfl, hb⟩; refine ⟨_, rfl, ?_⟩; replace HB := hs_ hb; clear hb))
   go_ret3
   exact ⟨sq_, bl_⟩
 ·replace c5 := Bool.eq_false_iff.mpr c5
  subst c5
  replace H := in_ H
  simp only [Option.some.injEq, Prod.mk.injEq] at H
  obtain ⟨rfl, rfl, rfl⟩ := H
  go_enter Tryz.func127, Tryz.ntmps127
  go_wp2_with (first | ((with_reducible refine gc_ 71 15 Tryz.func71 #[.int .i64 a2, .int .i64 2, .int .i64 3] ?_); (with_reducible refine (impl_within.calls a2 2 3 false _ A4.out).mono ?_); rintro e w' ⟨rfl, ⟨nd, rfl⟩⟩; refine ⟨_, rfl, ?_⟩))
  go_ret3
  exact ⟨sq_, bl_⟩
/-! ### impl_lenDigits: function 128 -/
def impl_lenDigits.f (k : Nat) (a0 : Int) : Option (Int) := (impl_FieldKind.f k a0).bind fun t479 => (if t479 = 5 then (some 3) else (some 2))
set_option maxHeartbeats 8000000 in
set_option maxRecDepth 100000 in
theorem impl_lenDigits.calls (k : Nat) (a0 : Int) (r : Int) (w : World) (h : impl_lenDigits.f k a0 = some r) :
  Calls Tryz.prog 128 #[.int .i64 a0] w fun e w' => e = .returned (.int .i64 r) ∧ Below w.heap.size w w' := by
 have HB := Aside0.mk (Below.refl w.heap.size w)
 have H : ((impl_FieldKind.f k a0).bind fun t479 => (if t479 = 5 then (some 3) else (some 2))) = some r := h
 clear h
 obtain ⟨t479, A2, H⟩ := ob_ H
 by_cases c3 : t479 = 5
 ·rw [if_pos c3] at H
  have c3b0 := beq_iff_eq.mpr c3
  have c3b1 := bne_eq_false_iff_eq.mpr c3
  clear c3
  obtain rfl := Option.some.inj H
  go_enter Tryz.func128, Tryz.ntmps128
  go_wp2_with (first | ((with_reducible refine gc_ 98 4 Tryz.func98 #[.int .i64 a0] ?_); (with_reducible refine (impl_FieldKind.calls k a0 t479 _ A2.out).mono ?_); rintro e w4 ⟨rfl, hb⟩; refine ⟨_, rfl, ?_⟩; replace HB := hs_ hb; clear hb))
  go_ret
  exact ⟨sq_, bl_⟩
 rw [if_neg c3] at H
 have c3b0 := beq_eq_false_iff_ne.mpr c3
 have c3b1 := bne_iff_ne.mpr c3
 obtain rfl := Option.some.inj H
 go_enter Tryz.func128, Tryz.ntmps128
 go_wp2_with (first | ((with_reducible refine gc_ 98 4 Tryz.func98 #[.int .i64 a0] ?_); (with_reducible refine (impl_FieldKind.calls k a0 t479 _ A2.out).mono ?_); rintro e w5 ⟨rfl, hb⟩; refine ⟨_, rfl, ?_⟩; replace HB := hs_ hb; clear hb))
 go_ret
 exact ⟨sq_, bl_⟩
/-! ### impl_GetField: function 99 -/
mutual
def impl_GetField.j0 : Nat → List Int → Int → Int → Int → Int → Bool → Bool → Option (ByteArray × Int × Bool)
 | 0, _, _, _, _, _, _, _ => none
 | k + 1, x0, x1, x2, x9, x11, x12, x27 => if x27 = true then ((impl_lenDigits.f k x2).bind fun t482 => ((impl_GetLen.f k x0 x1 t482).bind fun bt483 => (impl_GetField.j1 k x0 bt483.2.1 x2 bt483.1 x11 bt483.2.2))) else (impl_GetField.j1 k x0 x1 x2 x9 x11 x12)
def impl_GetField.j1 : Nat → List Int → Int → Int → Int → Int → Bool → Option (ByteArray × Int × Bool)
 | 0, _, _, _, _, _, _ => none
 | k + 1, x0, x1, x2, x9, x11, x12 => if x12 = true then (if x11 = 1 then (impl_GetField.j2 k x0 x1 x2 x9 true) else (impl_GetField.j2 k x0 x1 x2 x9 (x11 == 3))) else (some ((⟨#[]⟩ : ByteArray), 0, false))
def impl_GetField.j2 : Nat → List Int → Int → Int → Int → Bool → Option (ByteArray × Int × Bool)
 | 0, _, _, _, _, _ => none
 | k + 1, x0, x1, x2, x9, x44 => if x44 = true then ((impl_GetBcd.f k x0 x1 x9).bind fun bt486 => (if bt486.2.2 = true then ((impl_FieldOk.f k x2 bt486.1).bind fun t489 => (if t489 = true then (some (bt486.1, bt486.2.1, true)) else (some ((⟨#[]⟩ : ByteArray), 0, false)))) else (some ((⟨#[]⟩ : ByteArray), 0, false)))) else ((impl_piece.f x0 x1 x9).bind fun bt490 => (if bt490.2 = true then ((impl_FieldOk.f k x2 (strOfNums bt490.1)).bind fun t494 => (if t494 = true then (some (strOfNums bt490.1, wrap64 (x1 + x9), true)) else (some ((⟨#[]⟩ : ByteArray), 0, false)))) else (some ((⟨#[]⟩ : ByteArray), 0, false))))
end
def impl_GetField.f (k : Nat) (l0 : List Int) (a1 : Int) (a2 : Int) : Option (ByteArray × Int × Bool) := (impl_FieldSize.f k a2).bind fun t480 => ((impl_FieldKind.f k a2).bind fun t481 => (if t481 = 3 then (impl_GetField.j0 k l0 a1 a2 t480 t481 true true) else (if t481 = 4 then (impl_GetField.j0 k l0 a1 a2 t480 t481 true true) else (impl_GetField.j0 k l0 a1 a2 t480 t481 true (t481 == 5)))))
set_option maxHeartbeats 8000000 in
set_option maxRecDepth 100000 in
theorem impl_GetField.calls (k : Nat) (A0 : Option Addr) (c0 : Nat) (l0 : List Int) (a1 : Int) (a2 : Int) (r1 : ByteArray) (r2 : Int) (r3 : Bool) (w : World) (hr0 : Kd.C (Kd.int .u8) w A0 l0.length l0) (hc0 : l0.length ≤ c0) (h : impl_GetField.f k l0 a1 a2 = some (r1, r2, r3)) :
  Calls Tryz.prog 99 #[.slice A0 l0.length c0, .int .i64 a1, .int .i64 a2] w fun e w' => e = .returned (.tuple #[.string r1, .int .i64 r2, .bool r3]) ∧ Below w.heap.size w w' := by
 have HR0 := Aside0.mk hr0
 have HC0 := Aside0.mk hc0
 clear hr0 hc0
 have HB := Aside0.mk (Below.refl w.heap.size w)
 have H : ((impl_FieldSize.f k a2).bind fun t480 => ((impl_FieldKind.f k a2).bind fun t481 => (if t481 = 3 then (impl_GetField.j0 k l0 a1 a2 t480 t481 true true) else (if t481 = 4 then (impl_GetField.j0 k l0 a1 a2 t480 t481 true true) else (impl_GetField.j0 k l0 a1 a2 t480 t481 true (t481 == 5)))))) = some (r1, r2, r3) := h
 clear h
 obtain ⟨t480, A4, H⟩ := ob_ H
 obtain ⟨t481, A5, H⟩ := ob_ H
 have HC6 := Aside0.mk H
 clear H
 go_enter Tryz.func99, Tryz.ntmps99
 go_upto_region 2 with (first | ((with_reducible refine gc_ 126 15 Tryz.func126 #[.int .i64 a2] ?_); (with_reducible refine (impl_FieldSize.calls k a2 t480 _ A4.out).mono ?_); rintro e w7 ⟨rfl, hb⟩; refine ⟨_, rfl, ?_⟩; replace HB := hs_ hb; clear hb) | ((with_reducible refine gc_ 98 17 Tryz.func98 #[.int .i64 a2] ?_); (with_reducible refine (impl_FieldKind.calls k a2 t481 _ A5.out).mono ?_); rintro e w8 ⟨rfl, hb⟩; refine ⟨_, rfl, ?_⟩; replace HB := hs_ hb; clear hb))
 (try simp only [Act.put, List.setIfInBounds_toArray, List.set_cons_zero, List.set_cons_succ])
 go_cut [27] (fun v27 wc => ∃ (kq : Nat) (x27_5 : Bool), v27 = .bool x27_5 ∧ Aside0 (impl_GetField.j0 kq l0 a1 a2 t480 t481 true x27_5 = some (r1, r2, r3)) ∧ Aside0 (kq ≤ k) ∧ Aside0 (Below w.heap.size w wc))
 case first =>
  have H := HC6.out
  clear HC6
  by_cases c9 : t481 = 3
  ·rw [if_pos c9] at H
   have c9b0 := beq_iff_eq.mpr c9
   have c9b1 := bne_eq_false_iff_eq.mpr c9
   clear c9
   (first | rw [c9b0] | (simp only [i64_w, i32_w]; rw [c9b0]) | skip)
   have H' := Aside0.mk H
   clear H
   go_wp2
   go_meet
   case rel => exact ⟨_, (true), sp_, H', ⟨by first | omega | exact Nat.le_refl _⟩, ⟨bl_⟩⟩
  rw [if_neg c9] at H
  have c9b0 := beq_eq_false_iff_ne.mpr c9
  have c9b1 := bne_iff_ne.mpr c9
  (first | rw [c9b0] | (simp only [i64_w, i32_w]; rw [c9b0]) | skip)
  by_cases c10 : t481 = 4
  ·rw [if_pos c10] at H
   have c10b0 := beq_iff_eq.mpr c10
   have c10b1 := bne_eq_false_iff_eq.mpr c10
   clear c10
   have H' := Aside0.mk H
   clear H
   go_wp2
   go_meet
   case rel => exact ⟨_, (true), sp_, H', ⟨by first | omega | exact Nat.le_refl _⟩, ⟨bl_⟩⟩
  ·rw [if_neg c10] at H
   have c10b0 := beq_eq_false_iff_ne.mpr c10
   have c10b1 := bne_iff_ne.mpr c10
   have H' := Aside0.mk H
   clear H
   go_wp2
   go_meet
   case rel => exact ⟨_, ((t481 == 5)), sp_, H', ⟨by first | omega | exact Nat.le_refl _⟩, ⟨bl_⟩⟩
 case rest =>
  clear HC6
  obtain ⟨kq, x27_5, rfl, HA, HJ5, HB⟩ := hcut
  cases kq with
  | zero => exact absurd HA.out (by simp [impl_GetField.j0])
  | succ kj5 =>
   have H := HA.out
   clear HA
   simp only [impl_GetField.j0] at H
   have HC11 := Aside0.mk H
   clear H
   go_upto_if 27 with (fail)
   go_cut [1, 9, 12] (fun v1 v9 v12 wc => ∃ (kq : Nat) (x1_10 : Int) (x9_10 : Int) (x12_10 : Bool), v1 = .int .i64 x1_10 ∧ v9 = .int .i64 x9_10 ∧ v12 = .bool x12_10 ∧ Aside0 (impl_GetField.j1 kq l0 x1_10 a2 x9_10 t481 x12_10 = some (r1, r2, r3)) ∧ Aside0 (kq ≤ kj5) ∧ Aside0 (Below w.heap.size w wc))
   case first =>
    have H := HC11.out
    clear HC11
    by_cases c12 : x27_5 = true
    ·subst c12
     replace H := ip_ H
     obtain ⟨t482, A13, H⟩ := ob_ H
     obtain ⟨⟨t483, t484, t485⟩, A14, H⟩ := ob_ H
     (try dsimp only at H)
     have H' := Aside0.mk H
     clear H
     go_wp2_with (first | ((with_reducible refine gc_ 128 32 Tryz.func128 #[.int .i64 a2] ?_); (with_reducible refine (impl_lenDigits.calls kj5 a2 t482 _ A13.out).mono ?_); rintro e w15 ⟨rfl, hb⟩; refine ⟨_, rfl, ?_⟩; replace HB := hs_ hb; clear hb) | ((with_reducible refine gc_ 127 33 Tryz.func127 #[.slice A0 l0.length c0, .int .i64 a1, .int .i64 t482] ?_); (with_reducible refine (impl_GetLen.calls kj5 _ _ l0 a1 t482 t483 t484 t485 _ ?side1 ?side2 A14.out).mono ?_); (case side1 => exact ca_ (Kd.C_below HR0.out HB.out)); (case side2 => exact HC0.out); rintro e w16 ⟨rfl, hb⟩; refine ⟨_, rfl, ?_⟩; replace HB := hs_ hb; clear hb))
     go_meet
     case rel => exact ⟨_, (t484), (t483), (t485), sp_, sp_, sp_, H', ⟨by have := HJ5.out; first | omega | exact Nat.le_refl _⟩, ⟨bl_⟩⟩
    ·replace c12 := Bool.eq_false_iff.mpr c12
     subst c12
     replace H := in_ H
     have H' := Aside0.mk H
     clear H
     go_wp2
     go_meet
     case rel => exact ⟨_, (a1), (t480), (true), sp_, sp_, sp_, H', ⟨by have := HJ5.out; first | omega | exact Nat.le_refl _⟩, ⟨bl_⟩⟩
   case rest =>
    clear HC11
    obtain ⟨kq, x1_10, x9_10, x12_10, rfl, rfl, rfl, HA, HJ10, HB⟩ := hcut
    cases kq with
    | zero => exact absurd HA.out (by simp [impl_GetField.j1])
    | succ kj10 =>
     have H := HA.out
     clear HA
     simp only [impl_GetField.j1] at H
     by_cases c17 : x12_10 = true
     rotate_left
     ·replace c17 := Bool.eq_false_iff.mpr c17
      subst c17
      replace H := in_ H
      simp only [Option.some.injEq, Prod.mk.injEq] at H
      obtain ⟨rfl, rfl, rfl⟩ := H
      go_wp2
      go_ret3
      exact ⟨sq_, bl_⟩
     subst c17
     replace H := ip_ H
     have HC18 := Aside0.mk H
     clear H
     go_upto_region 6 with (fail)
     go_cut [44] (fun v44 wc => ∃ (kq : Nat) (x44_17 : Bool), v44 = .bool x44_17 ∧ Aside0 (impl_GetField.j2 kq l0 x1_10 a2 x9_10 x44_17 = some (r1, r2, r3)) ∧ Aside0 (kq ≤ kj10) ∧ Aside0 (Below w.heap.size w wc))
     case first =>
      have H := HC18.out
      clear HC18
      by_cases c19 : t481 = 1
      ·rw [if_pos c19] at H
       have c19b0 := beq_iff_eq.mpr c19
       have c19b1 := bne_eq_false_iff_eq.mpr c19
       clear c19
       (first | rw [c19b0] | (simp only [i64_w, i32_w]; rw [c19b0]) | skip)
       have H' := Aside0.mk H
       clear H
       go_wp2
       go_meet
       case rel => exact ⟨_, (true), sp_, H', ⟨by have := HJ5.out; have := HJ10.out; first | omega | exact Nat.le_refl _⟩, ⟨bl_⟩⟩
      ·rw [if_neg c19] at H
       have c19b0 := beq_eq_false_iff_ne.mpr c19
       have c19b1 := bne_iff_ne.mpr c19
       (first | rw [c19b0] | (simp only [i64_w, i32_w]; rw [c19b0]) | skip)
       have H' := Aside0.mk H
       clear H
       go_wp2
       go_meet
       case rel => exact ⟨_, ((t481 == 3)), sp_, H', ⟨by have := HJ5.out; have := HJ10.out; first | omega | exact Nat.le_refl _⟩, ⟨bl_⟩⟩
     case rest =>
      clear HC18
      obtain ⟨kq, x44_17, rfl, HA, HJ17, HB⟩ := hcut
      cases kq with
      | zero => exact absurd HA.out (by simp [impl_GetField.j2])
      | succ kj17 =>
       have H := HA.out
       clear HA
       simp only [impl_GetField.j2] at H
       by_cases c20 : x44_17 = true
       ·subst c20
        replace H := ip_ H
        obtain ⟨⟨t486, t487, t488⟩, A21, H⟩ := ob_ H
        (try dsimp only at H)
        by_cases c22 : t488 = true
        ·subst c22
         replace H := ip_ H
         obtain ⟨t489, A23, H⟩ := ob_ H
         by_cases c24 : t489 = true
         ·subst c24
          replace H := ip_ H
          simp only [Option.some.injEq, Prod.mk.injEq] at H
          obtain ⟨rfl, rfl, rfl⟩ := H
          go_wp2_with (first | ((with_reducible refine gc_ 96 49 Tryz.func96 #[.slice A0 l0.length c0, .int .i64 x1_10, .int .i64 x9_10] ?_); (with_reducible refine (impl_GetBcd.calls kj17 _ _ l0 x1_10 x9_10 t486 t487 true _ ?side1 ?side2 A21.out).mono ?_); (case side1 => exact ca_ (Kd.C_below HR0.out HB.out)); (case side2 => exact HC0.out); rintro e w25 ⟨rfl, hb⟩; refine ⟨_, rfl, ?_⟩; replace HB := hs_ hb; clear hb) | (go_at_call 84; (with_reducible refine (impl_FieldOk.calls kj17 a2 t486 true _ A23.out).mono ?_); rintro e w26 ⟨rfl, hb⟩; replace HB := hs_ hb; clear hb))
          go_ret3
          exact ⟨sq_, bl_⟩
         replace c24 := Bool.eq_false_iff.mpr c24
         subst c24
         replace H := in_ H
         simp only [Option.some.injEq, Prod.mk.injEq] at H
         obtain ⟨rfl, rfl, rfl⟩ := H
         go_wp2_with (first | ((with_reducible refine gc_ 96 49 Tryz.func96 #[.slice A0 l0.length c0, .int .i64 x1_10, .int .i64 x9_10] ?_); (with_reducible refine (impl_GetBcd.calls kj17 _ _ l0 x1_10 x9_10 t486 t487 true _ ?side1 ?side2 A21.out).mono ?_); (case side1 => exact ca_ (Kd.C_below HR0.out HB.out)); (case side2 => exact HC0.out); rintro e w27 ⟨rfl, hb⟩; refine ⟨_, rfl, ?_⟩; replace HB := hs_ hb; clear hb) | (go_at_call 84; (with_reducible refine (impl_FieldOk.calls kj17 a2 t486 false _ A23.out).mono ?_); rintro e w28 ⟨rfl, hb⟩; replace HB := hs_ hb; clear hb))
         go_ret3
         exact ⟨sq_, bl_⟩
        ·replace c22 := Bool.eq_false_iff.mpr c22
         subst c22
         replace H := in_ H
         simp only [Option.some.injEq, Prod.mk.injEq] at H
         obtain ⟨rfl, rfl, rfl⟩ := H
         go_wp2_with (first | ((with_reducible refine gc_ 96 49 Tryz.func96 #[.slice A0 l0.length c0, .int .i64 x1_10, .int .i64 x9_10] ?_); (with_reducible refine (impl_GetBcd.calls kj17 _ _ l0 x1_10 x9_10 t486 t487 false _ ?side1 ?side2 A21.out).mono ?_); (case side1 => exact ca_ (Kd.C_below HR0.out HB.out)); (case side2 => exact HC0.out); rintro e w29 ⟨rfl, hb⟩; refine ⟨_, rfl, ?_⟩; replace HB := hs_ hb; clear hb))
         go_ret3
         exact ⟨sq_, bl_⟩
       replace c20 := Bool.eq_false_iff.mpr c20
       subst c20
       replace H := in_ H
       obtain ⟨⟨t490, t493⟩, A30, H⟩ := ob_ H
       (try dsimp only at H)
       by_cases c31 : t493 = true
       ·subst c31
        replace H := ip_ H
        obtain ⟨t494, A32, H⟩ := ob_ H
        by_cases c33 : t494 = true
        ·subst c33
         replace H := ip_ H
         simp only [Option.some.injEq, Prod.mk.injEq] at H
         obtain ⟨rfl, rfl, rfl⟩ := H
         go_wp2_with (first | ((with_reducible refine gc_ 125 57 Tryz.func125 #[.slice A0 l0.length c0, .int .i64 x1_10, .int .i64 x9_10] ?_); (with_reducible refine (impl_piece.calls (fun k_ => k_ < w.heap.size) _ _ l0 x1_10 x9_10 t490 true _ ?side1 A30.out).mono ?_); (case side1 => exact Kd.V_mk HC0.out (Kd.F_below (Kd.C_F (Kd.heap_int .u8) HR0.out) bl_)); rintro e w34 ⟨v491, rfl, ho0, hb⟩; refine ⟨_, rfl, ?_⟩; have HO492 := Aside0.mk (Kd.V_lower (Kd.V_mono (ok' := fun k_ => True) ho0 (fun k_ hk_ => trivial)) (below_size bl_)); replace HB := hs_ hb; clear hb; (try clear ho0); obtain ⟨Aq35, cq35, eq35⟩ := Kd.V_slice HO492.out; subst eq35; have hcv35 := Kd.C_string (P := Tryz.prog) (A := Aq35) (c := cq35) Tryz.underlying37 Tryz.underlying5 Tryz.underlying9 ((Kd.V_reads' HO492.out).2.2); have hcu35 := fun (n_ : Nat) => Kd.C_string (P := Tryz.prog) (A := Aq35) (c := cq35) Tryz.underlying37 Tryz.underlying5 Tryz.underlying9 (Kd.C_drewN ((Kd.V_reads' HO492.out).2.2) n_)) | (go_at_call 84; (with_reducible refine (impl_FieldOk.calls kj17 a2 (strOfNums t490) true _ A32.out).mono ?_); rintro e w36 ⟨rfl, hb⟩; replace HO492 := Aside0.mk (Kd.V_below (by (with_reducible repeat (first | apply Kd.V_alloc | apply Kd.V_drewN | apply Kd.V_drew)); exact HO492.out) hb); replace HB := hs_ hb; clear hb))
         go_ret3
         exact ⟨sq_, bl_⟩
        replace c33 := Bool.eq_false_iff.mpr c33
        subst c33
        replace H := in_ H
        simp only [Option.some.injEq, Prod.mk.injEq] at H
        obtain ⟨rfl, rfl, rfl⟩ := H
        go_wp2_with (first | ((with_reducible refine gc_ 125 57 Tryz.func125 #[.slice A0 l0.length c0, .int .i64 x1_10, .int .i64 x9_10] ?_); (with_reducible refine (impl_piece.calls (fun k_ => k_ < w.heap.size) _ _ l0 x1_10 x9_10 t490 true _ ?side1 A30.out).mono ?_); (case side1 => exact Kd.V_mk HC0.out (Kd.F_below (Kd.C_F (Kd.heap_int .u8) HR0.out) bl_)); rintro e w37 ⟨v491, rfl, ho0, hb⟩; refine ⟨_, rfl, ?_⟩; have HO492 := Aside0.mk (Kd.V_lower (Kd.V_mono (ok' := fun k_ => True) ho0 (fun k_ hk_ => trivial)) (below_size bl_)); replace HB := hs_ hb; clear hb; (try clear ho0); obtain ⟨Aq38, cq38, eq38⟩ := Kd.V_slice HO492.out; subst eq38; have hcv38 := Kd.C_string (P := Tryz.prog) (A := Aq38) (c := cq38) Tryz.underlying37 Tryz.underlying5 Tryz.underlying9 ((Kd.V_reads' HO492.out).2.2); have hcu38 := fun (n_ : Nat) => Kd.C_string (P := Tryz.prog) (A := Aq38) (c := cq38) Tryz.underlying37 Tryz.underlying5 Tryz.underlying9 (Kd.C_drewN ((Kd.V_reads' HO492.out).2.2) n_)) | (go_at_call 84; (with_reducible refine (impl_FieldOk.calls kj17 a2 (strOfNums t490) false _ A32.out).mono ?_); rintro e w39 ⟨rfl, hb⟩; replace HO492 := Aside0.mk (Kd.V_below (by (with_reducible repeat (first | apply Kd.V_alloc | apply Kd.V_drewN | apply Kd.V_drew)); exact HO492.out) hb); replace HB := hs_ hb; clear hb))
        go_ret3
        exact ⟨sq_, bl_⟩
       ·replace c31 := Bool.eq_false_iff.mpr c31
        subst c31
        replace H := in_ H
        simp only [Option.some.injEq, Prod.mk.injEq] at H
        obtain ⟨rfl, rfl, rfl⟩ := H
        go_wp2_with (first | ((with_reducible refine gc_ 125 57 Tryz.func125 #[.slice A0 l0.length c0, .int .i64 x1_10, .int .i64 x9_10] ?_); (with_reducible refine (impl_piece.calls (fun k_ => k_ < w.heap.size) _ _ l0 x1_10 x9_10 t490 false _ ?side1 A30.out).mono ?_); (case side1 => exact Kd.V_mk HC0.out (Kd.F_below (Kd.C_F (Kd.heap_int .u8) HR0.out) bl_)); rintro e w40 ⟨v491, rfl, ho0, hb⟩; refine ⟨_, rfl, ?_⟩; have HO492 := Aside0.mk (Kd.V_lower (Kd.V_mono (ok' := fun k_ => True) ho0 (fun k_ hk_ => trivial)) (below_size bl_)); replace HB := hs_ hb; clear hb; (try clear ho0); obtain ⟨Aq41, cq41, eq41⟩ := Kd.V_slice HO492.out; subst eq41; have hcv41 := Kd.C_string (P := Tryz.prog) (A := Aq41) (c := cq41) Tryz.underlying37 Tryz.underlying5 Tryz.underlying9 ((Kd.V_reads' HO492.out).2.2); have hcu41 := fun (n_ : Nat) => Kd.C_string (P := Tryz.prog) (A := Aq41) (c := cq41) Tryz.underlying37 Tryz.underlying5 Tryz.underlying9 (Kd.C_drewN ((Kd.V_reads' HO492.out).2.2) n_)))
        go_ret3
        exact ⟨sq_, bl_⟩
/-! ### impl_Parse: function 58 -/
mutual
def impl_Parse.l0 : Nat → List Int → ByteArray → Int → List Int → Bool → List Int → Int → Int → Option (ByteArray × (List (S91)) × Int)
 | 0, _, _, _, _, _, _, _, _ => none
 | k + 1, x0, x4, x5, x8, x9, x41, x42, x43 => if x43 < x42 then (if 0 ≤ x43 then (if x43 < (x41.length : Int) then (if (rd x41 x43) = 1 then (impl_Parse.l0 k x0 x4 x5 x8 true x41 x42 (wrap64 (x43 + 1))) else ((impl_FieldKind.f k (rd x41 x43)).bind fun t508 => (if t508 = 0 then (some ((⟨#[]⟩ : ByteArray), ([] : List (S91)), 2)) else (if x8.length < 17592186044416 then (impl_Parse.l0 k x0 x4 x5 (x8 ++ [rd x41 x43]) x9 x41 x42 (wrap64 (x43 + 1))) else (none))))) else (none)) else (none)) else (if x9 = true then ((impl_GetBits.f k x0 x5).bind fun bt512 => (if bt512.2.2 = true then (impl_Parse.j1 k x0 x4 bt512.2.1 x8 bt512.1 ((bt512.1.length : Int) == 0)) else (impl_Parse.j1 k x0 x4 bt512.2.1 x8 bt512.1 true))) else (impl_Parse.j3 k x0 x4 x5 x8))
def impl_Parse.j3 : Nat → List Int → ByteArray → Int → List Int → Option (ByteArray × (List (S91)) × Int)
 | 0, _, _, _, _ => none
 | k + 1, x0, x4, x5, x8 => impl_Parse.l2 k x0 x5 x8 (x8.length : Int) 0 x4 ([] : List (S91))
def impl_Parse.l2 : Nat → List Int → Int → List Int → Int → Int → ByteArray → List (S91) → Option (ByteArray × (List (S91)) × Int)
 | 0, _, _, _, _, _, _, _ => none
 | k + 1, x0, x5, x95, x96, x97, x523000, x523001 => if x97 < x96 then (if 0 ≤ x97 then (if x97 < (x95.length : Int) then ((impl_GetField.f k x0 x5 (rd x95 x97)).bind fun bt524 => (if bt524.2.2 = true then (if x523001.length < 5864062014805 then (impl_Parse.l2 k x0 bt524.2.1 x95 x96 (wrap64 (x97 + 1)) x523000 (x523001 ++ [(⟨rd x95 x97, bt524.1⟩ : S91)])) else (none)) else (some ((⟨#[]⟩ : ByteArray), ([] : List (S91)), 3)))) else (none)) else (none)) else (if x5 = (x0.length : Int) then (some (x523000, x523001, 0)) else (some ((⟨#[]⟩ : ByteArray), ([] : List (S91)), 4)))
def impl_Parse.j1 : Nat → List Int → ByteArray → Int → List Int → List Int → Bool → Option (ByteArray × (List (S91)) × Int)
 | 0, _, _, _, _, _, _ => none
 | k + 1, x0, x4, x5, x8, x12, x74 => if x74 = true then (some ((⟨#[]⟩ : ByteArray), ([] : List (S91)), 2)) else (impl_Parse.l1 k x0 x4 x5 x8 x12 (x12.length : Int) 0)
def impl_Parse.l1 : Nat → List Int → ByteArray → Int → List Int → List Int → Int → Int → Option (ByteArray × (List (S91)) × Int)
 | 0, _, _, _, _, _, _, _ => none
 | k + 1, x0, x4, x5, x8, x76, x77, x78 => if x78 < x77 then (if 0 ≤ x78 then (if x78 < (x76.length : Int) then ((impl_FieldKind.f k (wrap64 ((rd x76 x78) + 64))).bind fun t518 => (if t518 = 0 then (some ((⟨#[]⟩ : ByteArray), ([] : List (S91)), 2)) else (if x8.length < 17592186044416 then (impl_Parse.l1 k x0 x4 x5 (x8 ++ [wrap64 ((rd x76 x78) + 64)]) x76 x77 (wrap64 (x78 + 1))) else (none)))) else (none)) else (none)) else (impl_Parse.j3 k x0 x4 x5 x8)
end
def impl_Parse.f (k : Nat) (l0 : List Int) : Option (ByteArray × (List (S91)) × Int) := (impl_GetBcd.f k l0 0 4).bind fun bt496 => (if bt496.2.2 = true then ((impl_GetBits.f k l0 bt496.2.1).bind fun bt499 => (if bt499.2.2 = true then (impl_Parse.l0 k l0 bt496.1 bt499.2.1 (([] : List Int)) false bt499.1 (bt499.1.length : Int) 0) else (some ((⟨#[]⟩ : ByteArray), ([] : List (S91)), 2)))) else (some ((⟨#[]⟩ : ByteArray), ([] : List (S91)), 1)))
set_option maxHeartbeats 8000000 in
set_option maxRecDepth 100000 in
theorem impl_Parse.calls (k : Nat) (A0 : Option Addr) (c0 : Nat) (l0 : List Int) (r1 : ByteArray) (r2 : List (S91)) (r3 : Int) (w : World) (hr0 : Kd.C (Kd.int .u8) w A0 l0.length l0) (hc0 : l0.length ≤ c0) (h : impl_Parse.f k l0 = some (r1, r2, r3)) :
  Calls Tryz.prog 58 #[.slice A0 l0.length c0] w fun e w' => ∃ v1_ : Value, e = .returned (.tuple #[.agg #[.string r1, v1_], .int .i64 r3]) ∧ Kd.R k91 91 w' w.heap.size (fun _ => True) v1_ r2 ∧ Below w.heap.size w w' := by
 have hu32 := Tryz.underlying32
 have hu91 := Tryz.underlying91
 have HR0 := Aside0.mk hr0
 have HC0 := Aside0.mk hc0
 clear hr0 hc0
 have HB := Aside0.mk (Below.refl w.heap.size w)
 have H : ((impl_GetBcd.f k l0 0 4).bind fun bt496 => (if bt496.2.2 = true then ((impl_GetBits.f k l0 bt496.2.1).bind fun bt499 => (if bt499.2.2 = true then (impl_Parse.l0 k l0 bt496.1 bt499.2.1 (([] : List Int)) false bt499.1 (bt499.1.length : Int) 0) else (some ((⟨#[]⟩ : ByteArray), ([] : List (S91)), 2)))) else (some ((⟨#[]⟩ : ByteArray), ([] : List (S91)), 1)))) = some (r1, r2, r3) := h
 clear h
 obtain ⟨⟨t496, t497, t498⟩, A2, H⟩ := ob_ H
 (try dsimp only at H)
 by_cases c3 : t498 = true
 rotate_left
 ·replace c3 := Bool.eq_false_iff.mpr c3
  subst c3
  replace H := in_ H
  simp only [Option.some.injEq, Prod.mk.injEq] at H
  obtain ⟨rfl, rfl, rfl⟩ := H
  go_enter Tryz.func58, Tryz.ntmps58
  go_wp2_with (first | ((with_reducible refine gate_dst (N := 2) rfl ?_); (try (refine gate_guard (by rfl) ?_; dsimp only)); refine be_ (N := 2) (cs := #[.string (⟨#[]⟩ : ByteArray), .slice none 0 0]) (t := 32) ?_; intro gb495 hg w73 hbox hb; have BK495 := Aside0.mk (hbox); have GW495 := gw_ (w := w) hg; have GE495 := gw_ (w := w) hg; replace HB := hs_ hb; clear hb hbox hg) | ((with_reducible refine gc_ 96 23 Tryz.func96 #[.slice A0 l0.length c0, .int .i64 0, .int .i64 4] ?_); (with_reducible refine (impl_GetBcd.calls k _ _ l0 0 4 t496 t497 false _ ?side1 ?side2 A2.out).mono ?_); (case side1 => exact ca_ (Kd.C_below HR0.out HB.out)); (case side2 => exact HC0.out); rintro e w74 ⟨rfl, hb⟩; refine ⟨_, rfl, ?_⟩; replace BK495 := kb_ BK495 hb; replace HB := hs_ hb; clear hb; obtain ⟨hcz75_0, hcz75_1, hfz75_0, hfz75_1⟩ := bx2_ BK495))
  refine bodyPost_ret (results_ct rfl _ _ gb495 32 #[.string (⟨#[]⟩ : ByteArray), .slice none 0 0] (0, 0) _ rfl (by (with_reducible repeat (first | refine blk_drewN ?_ _ | refine blk_drew ?_ | refine blk_alloc ?_ _)); apply bq2_1_0_; (with_reducible repeat (first | refine blk_drewN ?_ _ | refine blk_drew ?_ | refine blk_alloc ?_ _)); exact BK495.out) Tryz.underlying32 rfl (by kernel_rfl)) rfl ?_
  exact ⟨_, by first | rfl | (simp [errW_none, errW_some] <;> rfl) | (simp [*, errW_none, errW_some] <;> rfl), by first | exact Kd.R_nil _ _ _ _ _ | exact Kd.N_nil _ _ _ _ _ | exact Kd.V_nil _ _ _ _ _ | exact Kd.Q_nil _ _ _ _ _ | exact Kd.S_nil _ _ _ _ _, bl_⟩
 subst c3
 replace H := ip_ H
 obtain ⟨⟨t499, t500, t501⟩, A4, H⟩ := ob_ H
 (try dsimp only at H)
 by_cases c5 : t501 = true
 rotate_left
 ·replace c5 := Bool.eq_false_iff.mpr c5
  subst c5
  replace H := in_ H
  simp only [Option.some.injEq, Prod.mk.injEq] at H
  obtain ⟨rfl, rfl, rfl⟩ := H
  go_enter Tryz.func58, Tryz.ntmps58
  go_wp2_with (first | ((with_reducible refine gate_dst (N := 2) rfl ?_); (try (refine gate_guard (by rfl) ?_; dsimp only)); refine be_ (N := 2) (cs := #[.string (⟨#[]⟩ : ByteArray), .slice none 0 0]) (t := 32) ?_; intro gb495 hg w69 hbox hb; have BK495 := Aside0.mk (hbox); have GW495 := gw_ (w := w) hg; have GE495 := gw_ (w := w) hg; replace HB := hs_ hb; clear hb hbox hg) | ((with_reducible refine gc_ 96 23 Tryz.func96 #[.slice A0 l0.length c0, .int .i64 0, .int .i64 4] ?_); (with_reducible refine (impl_GetBcd.calls k _ _ l0 0 4 t496 t497 true _ ?side1 ?side2 A2.out).mono ?_); (case side1 => exact ca_ (Kd.C_below HR0.out HB.out)); (case side2 => exact HC0.out); rintro e w70 ⟨rfl, hb⟩; refine ⟨_, rfl, ?_⟩; replace BK495 := kb_ BK495 hb; replace HB := hs_ hb; clear hb) | ((with_reducible refine gc_ 97 33 Tryz.func97 #[.slice A0 l0.length c0, .int .i64 t497] ?_); (with_reducible refine (impl_GetBits.calls k _ _ l0 t497 t499 t500 false _ ?side1 ?side2 A4.out).mono ?_); (case side1 => exact ca_ (Kd.C_below HR0.out HB.out)); (case side2 => exact HC0.out); rintro e w71 ⟨v502, rfl, ho0, hb⟩; refine ⟨_, rfl, ?_⟩; have HO503 := Aside0.mk (Kd.R_lower ho0 (below_size bl_)); replace BK495 := kb_ BK495 hb; replace HB := hs_ hb; clear hb; (try clear ho0); obtain ⟨hcz72_0, hcz72_1, hfz72_0, hfz72_1⟩ := bx2_ BK495))
  refine bodyPost_ret (results_ct rfl _ _ gb495 32 #[.string (⟨#[]⟩ : ByteArray), .slice none 0 0] (0, 0) _ rfl (by (with_reducible repeat (first | refine blk_drewN ?_ _ | refine blk_drew ?_ | refine blk_alloc ?_ _)); apply bq2_1_0_; (with_reducible repeat (first | refine blk_drewN ?_ _ | refine blk_drew ?_ | refine blk_alloc ?_ _)); exact BK495.out) Tryz.underlying32 rfl (by kernel_rfl)) rfl ?_
  exact ⟨_, by first | rfl | (simp [errW_none, errW_some] <;> rfl) | (simp [*, errW_none, errW_some] <;> rfl), by first | exact Kd.R_nil _ _ _ _ _ | exact Kd.N_nil _ _ _ _ _ | exact Kd.V_nil _ _ _ _ _ | exact Kd.Q_nil _ _ _ _ _ | exact Kd.S_nil _ _ _ _ _, bl_⟩
 subst c5
 replace H := ip_ H
 obtain ⟨y504, hy504⟩ : ∃ y_ : List Int, y_ = (([] : List Int)) := ⟨_, rfl⟩
 replace H : (impl_Parse.l0 k l0 t496 t500 y504 false t499 (t499.length : Int) 0) = some (r1, r2, r3) := by first | (rw [hy504]; with_reducible exact H) | (have H2_ := (Option.bind_some _ _).symm.trans H; rw [hy504]; with_reducible exact H2_) | (have H2_ := (Option.bind_some _ _).symm.trans H; with_reducible exact H2_) | with_reducible exact H | (rw [hy504]; exact H) | exact H
 have Ny504 := Aside0.mk hy504
 clear hy504
 have H' := Aside0.mk H
 clear H
 go_enter Tryz.func58, Tryz.ntmps58
 go_wp2_with (first | ((with_reducible refine gate_dst (N := 2) rfl ?_); (try (refine gate_guard (by rfl) ?_; dsimp only)); refine be_ (N := 2) (cs := #[.string (⟨#[]⟩ : ByteArray), .slice none 0 0]) (t := 32) ?_; intro gb495 hg w6 hbox hb; have BK495 := Aside0.mk (hbox); have GW495 := gw_ (w := w) hg; have GE495 := gw_ (w := w) hg; replace HB := hs_ hb; clear hb hbox hg) | ((with_reducible refine gc_ 96 23 Tryz.func96 #[.slice A0 l0.length c0, .int .i64 0, .int .i64 4] ?_); (with_reducible refine (impl_GetBcd.calls k _ _ l0 0 4 t496 t497 true _ ?side1 ?side2 A2.out).mono ?_); (case side1 => exact ca_ (Kd.C_below HR0.out HB.out)); (case side2 => exact HC0.out); rintro e w7 ⟨rfl, hb⟩; refine ⟨_, rfl, ?_⟩; replace BK495 := kb_ BK495 hb; replace HB := hs_ hb; clear hb) | ((with_reducible refine gc_ 97 33 Tryz.func97 #[.slice A0 l0.length c0, .int .i64 t497] ?_); (with_reducible refine (impl_GetBits.calls k _ _ l0 t497 t499 t500 true _ ?side1 ?side2 A4.out).mono ?_); (case side1 => exact ca_ (Kd.C_below HR0.out HB.out)); (case side2 => exact HC0.out); rintro e w8 ⟨v502, rfl, ho0, hb⟩; refine ⟨_, rfl, ?_⟩; have HO503 := Aside0.mk (Kd.R_lower ho0 (below_size bl_)); replace BK495 := kb_ BK495 hb; replace HB := hs_ hb; clear hb; (try clear ho0)) | ((with_reducible refine gate_dst (N := 40) rfl ?_); (try (refine gate_guard (by rfl) ?_; dsimp only)); refine Kd.R_lit (Kd.int .i64) _ 3 ?hg (N := 40) ?hd (xs := ([] : List Int)) (inner := []) (ok := fun _ => True) (okp := fun _ => True) ?hr ?hp (fun _ hk => hk) trivial (Below.refl _ _) (Nat.le_refl _) (by simp) ?_; (case hd => rfl); (case hg => rfl); (case hr => first | (go_simp; done) | (go_simp; rfl)); (case hp => exact (Reps.none _ _)); intro v505 w9 ho10 hb hg_ hnew_; clear hg_ hnew_; (first | rw [← Ny504.out] at ho10 | (simp only [Int.reduceToNat] at ho10; rw [← Ny504.out] at ho10)); have HO506 := Aside0.mk (Kd.R_lower (Kd.R_new' ho10 (Kd.R_lt (ra_ HO503))) (below_size bl_)); replace HO503 := Aside0.mk (Kd.R_elder' (ra_ HO503) (Kd.R_base ho10) hb); replace BK495 := kb_ BK495 hb; replace HB := hs_ hb; clear hb ho10; obtain ⟨Ao11, co11, eo11⟩ := Kd.R_slice HO503.out; subst eo11))
 go_loopg [8, 9, 43] k (fun kq v8 v9 v43 w' => ∃ (x8_1 : List Int) (x9_1 : Bool) (x43_1 : Int) (x496000_1 : ByteArray), v9 = .bool x9_1 ∧ v43 = .int .i64 x43_1 ∧ Aside0 (impl_Parse.l0 kq l0 t496 t500 x8_1 x9_1 t499 (t499.length : Int) x43_1 = some (r1, r2, r3)) ∧ Aside0 (kq ≤ k) ∧ Aside0 (Kd.R (Kd.int .i64) 3 w' w.heap.size (fun k_ => some k_ ≠ ((.slice Ao11 t499.length co11) : Value).ownBlock) v8 x8_1) ∧ Aside0 (Kd.R (Kd.int .i64) 3 w' w.heap.size (fun k_ => some k_ ≠ (v8 : Value).ownBlock) (.slice Ao11 t499.length co11) t499) ∧ Aside0 (w'.heap[gb495]? = some (.cells #[.string x496000_1, (.slice none 0 0)] 32 (0, 0))) ∧ Aside0 (Below w.heap.size w w'))
 case atStart => exact ⟨(y504), (false), (0), ((⟨#[]⟩ : ByteArray)), sp_, sp_, H', ⟨Nat.le_refl _⟩, ⟨by (with_reducible repeat (first | apply Kd.R_alloc | apply Kd.R_drewN | apply Kd.R_drew)); exact Kd.R_mono HO506.out (fun _ hk => hk.2)⟩, ⟨by (with_reducible repeat (first | apply Kd.R_alloc | apply Kd.R_drewN | apply Kd.R_drew)); exact Kd.R_mono HO503.out (fun _ hk => hk.2)⟩, ⟨by (with_reducible repeat (first | refine blk_drewN ?_ _ | refine blk_drew ?_ | refine blk_alloc ?_ _)); exact BK495.out⟩, ⟨bl_⟩⟩
 case round =>
  clear H'
  obtain ⟨x8_1, x9_1, x43_1, x496000_1, rfl, rfl, HA, HK1, HO_8, HO_41, BK495, HB⟩ := hrel
  cases gk with
  | zero => exact absurd HA.out (by simp [impl_Parse.l0])
  | succ k1 =>
   have H := HA.out
   clear HA
   simp only [impl_Parse.l0] at H
   by_cases c12 : x43_1 < (t499.length : Int)
   ·rw [if_pos c12] at H
    have c12b0 := decide_eq_true c12
    clear c12
    by_cases c13 : 0 ≤ x43_1
    rotate_left
    ·rw [if_neg c13] at H
     exact absurd H (by simp)
    rw [if_pos c13] at H
    have c13b0 := decide_eq_true c13
    clear c13
    by_cases c14 : x43_1 < (t499.length : Int)
    rotate_left
    ·rw [if_neg c14] at H
     exact absurd H (by simp)
    rw [if_pos c14] at H
    have c14b0 := decide_eq_true c14
    clear c14
    by_cases c15 : (rd t499 x43_1) = 1
    ·rw [if_pos c15] at H
     have c15b0 := beq_iff_eq.mpr c15
     have c15b1 := bne_eq_false_iff_eq.mpr c15
     clear c15
     have H' := Aside0.mk H
     clear H
     have p507 : 0 ≤ (x43_1 : Int) := od_
     have q507 : x43_1 < (t499.length : Int) := od_
     obtain ⟨ad507, e507, hx507_0⟩ := Kd.at_int (Kd.R_reads' HO_41.out).2.2 x43_1 p507 q507
     cases e507
     replace p507 := eq_true p507
     replace q507 := eq_true q507
     go_wp2
     go_roundg k1
     case measure => have := HK1.out; omega
     case rel => exact ⟨(x8_1), (true), (wrap64 (x43_1 + 1)), (x496000_1), sp_, sp_, H', ⟨by have := HK1.out; omega⟩, ⟨ra_ HO_8⟩, ⟨ra_ HO_41⟩, ⟨by (with_reducible repeat (first | refine blk_drewN ?_ _ | refine blk_drew ?_ | refine blk_alloc ?_ _)); exact BK495.out⟩, ⟨bl_⟩⟩
    rw [if_neg c15] at H
    have c15b0 := beq_eq_false_iff_ne.mpr c15
    have c15b1 := bne_iff_ne.mpr c15
    obtain ⟨t508, A16, H⟩ := ob_ H
    by_cases c17 : t508 = 0
    ·rw [if_pos c17] at H
     have c17b0 := beq_iff_eq.mpr c17
     have c17b1 := bne_eq_false_iff_eq.mpr c17
     clear c17
     simp only [Option.some.injEq, Prod.mk.injEq] at H
     obtain ⟨rfl, rfl, rfl⟩ := H
     have p507 : 0 ≤ (x43_1 : Int) := od_
     have q507 : x43_1 < (t499.length : Int) := od_
     obtain ⟨ad507, e507, hx507_0⟩ := Kd.at_int (Kd.R_reads' HO_41.out).2.2 x43_1 p507 q507
     cases e507
     replace p507 := eq_true p507
     replace q507 := eq_true q507
     go_wp2_with (first | ((with_reducible refine gc_ 98 56 Tryz.func98 #[.int .i64 (rd t499 x43_1)] ?_); (with_reducible refine (impl_FieldKind.calls k1 (rd t499 x43_1) t508 _ A16.out).mono ?_); rintro e w18 ⟨rfl, hb⟩; refine ⟨_, rfl, ?_⟩; replace HO_8 := Aside0.mk (Kd.R_below (ra_ HO_8) hb); replace HO_41 := Aside0.mk (Kd.R_below (ra_ HO_41) hb); replace BK495 := kb_ BK495 hb; replace HB := hs_ hb; clear hb; obtain ⟨hcz19_0, hcz19_1, hfz19_0, hfz19_1⟩ := bx2_ BK495))
     refine bodyPost_ret (results_ct rfl _ _ gb495 32 #[.string (⟨#[]⟩ : ByteArray), .slice none 0 0] (0, 0) _ rfl (by (with_reducible repeat (first | refine blk_drewN ?_ _ | refine blk_drew ?_ | refine blk_alloc ?_ _)); apply bq2_1_0_; (with_reducible repeat (first | refine blk_drewN ?_ _ | refine blk_drew ?_ | refine blk_alloc ?_ _)); exact BK495.out) Tryz.underlying32 rfl (by kernel_rfl)) rfl ?_
     exact ⟨_, by first | rfl | (simp [errW_none, errW_some] <;> rfl) | (simp [*, errW_none, errW_some] <;> rfl), by first | exact Kd.R_nil _ _ _ _ _ | exact Kd.N_nil _ _ _ _ _ | exact Kd.V_nil _ _ _ _ _ | exact Kd.Q_nil _ _ _ _ _ | exact Kd.S_nil _ _ _ _ _, bl_⟩
    rw [if_neg c17] at H
    have c17b0 := beq_eq_false_iff_ne.mpr c17
    have c17b1 := bne_iff_ne.mpr c17
    by_cases c20 : x8_1.length < 17592186044416
    ·rw [if_pos c20] at H
     have LMc20 := Aside0.mk c20
     clear c20
     obtain ⟨y509, hy509⟩ : ∃ y_ : List Int, y_ = (x8_1 ++ [rd t499 x43_1]) := ⟨_, rfl⟩
     replace H : (impl_Parse.l0 k1 l0 t496 t500 y509 x9_1 t499 (t499.length : Int) (wrap64 (x43_1 + 1))) = some (r1, r2, r3) := by first | (rw [hy509]; with_reducible exact H) | (have H2_ := (Option.bind_some _ _).symm.trans H; rw [hy509]; with_reducible exact H2_) | (have H2_ := (Option.bind_some _ _).symm.trans H; with_reducible exact H2_) | with_reducible exact H | (rw [hy509]; exact H) | exact H
     have Ny509 := Aside0.mk hy509
     clear hy509
     have H' := Aside0.mk H
     clear H
     have p507 : 0 ≤ (x43_1 : Int) := od_
     have q507 : x43_1 < (t499.length : Int) := od_
     obtain ⟨ad507, e507, hx507_0⟩ := Kd.at_int (Kd.R_reads' HO_41.out).2.2 x43_1 p507 q507
     cases e507
     replace p507 := eq_true p507
     replace q507 := eq_true q507
     go_wp2_with (first | ((with_reducible refine gc_ 98 56 Tryz.func98 #[.int .i64 (rd t499 x43_1)] ?_); (with_reducible refine (impl_FieldKind.calls k1 (rd t499 x43_1) t508 _ A16.out).mono ?_); rintro e w21 ⟨rfl, hb⟩; refine ⟨_, rfl, ?_⟩; replace HO_8 := Aside0.mk (Kd.R_below (ra_ HO_8) hb); replace HO_41 := Aside0.mk (Kd.R_below (ra_ HO_41) hb); replace BK495 := kb_ BK495 hb; replace HB := hs_ hb; clear hb) | ((with_reducible refine gate_builtin (b := .append) (xs := #[.tmp 47, .tmp 49]) rfl ?_); (try (refine gate_guard (by rfl) ?_; dsimp only)); at_builtin; refine Kd.R_append (Kd.int .i64) (w0 := w) w.heap.size rfl (.tmp 47) (.tmp 49) 46 3 (.int .i64 0) 8 rfl Tryz.underlying46 info3 rfl (by decide) (by omega) u8 x8_1 (rd t499 x43_1) [.int .i64 (rd t499 x43_1)] (fun k_ => some k_ ≠ (.slice (some ad507) t499.length co11 : Value).ownBlock) (fun _ => False) rfl rfl ?aP (fun _ hk => hk.elim) ?aF ?aO ?aB ?aS ?aL ?_; (case aP => exact rfl); (case aB => exact bl_); (case aF => exact (fun k_ hk => Kd.fresh' (Kd.R_lt (ra_ HO_41)) k_ hk)); (case aO => exact (ra_ HO_8)); (case aS => exact (below_size bl_)); (case aL => have := LMc20.out; omega); intro v510 w22 ho hb hg hat; rw [← Ny509.out] at ho; have n0_ := Aside0.mk (Kd.R_after (ok := (fun _ => True)) (by (with_reducible repeat (first | apply Kd.R_alloc | apply Kd.R_drewN | apply Kd.R_drew)); exact Kd.R_mono HO_41.out (fun _ hk => ⟨trivial, hk⟩)) hg hat); have n1_ := Aside0.mk (blk_grown (bk_ BK495) hg (Kd.R_ne HO_8.out BK495.out (by decide))); have n2_ := Aside0.mk (hb); have n3_ := Aside0.mk (ho); clear HO_41; clear BK495; clear HB; clear HO_8; have HO_41 := n0_; have BK495 := n1_; have HB := n2_; have HO511 := n3_; clear n0_ n1_ n2_ n3_; clear ho hb hg hat))
     go_roundg k1
     case measure => have := HK1.out; omega
     case rel => exact ⟨(y509), (x9_1), (wrap64 (x43_1 + 1)), (x496000_1), sp_, sp_, H', ⟨by have := HK1.out; omega⟩, ⟨ra_ HO511⟩, ⟨by (with_reducible repeat (first | apply Kd.R_alloc | apply Kd.R_drewN | apply Kd.R_drew)); exact Kd.R_mono HO_41.out (fun _ hk => hk.2)⟩, ⟨by (with_reducible repeat (first | refine blk_drewN ?_ _ | refine blk_drew ?_ | refine blk_alloc ?_ _)); exact BK495.out⟩, ⟨bl_⟩⟩
    ·rw [if_neg c20] at H
     exact absurd H (by simp)
   rw [if_neg c12] at H
   have c12b0 := decide_eq_false c12
   clear c12
   have HC23 := Aside0.mk H
   clear H
   go_upto_if 60 with (fail)
   go_cut [5, 8] (fun v5 v8 wc => ∃ (kq : Nat) (x5_22 : Int) (x8_22 : List Int) (x496000_22 : ByteArray), v5 = .int .i64 x5_22 ∧ Aside0 (impl_Parse.j3 kq l0 t496 x5_22 x8_22 = some (r1, r2, r3)) ∧ Aside0 (kq ≤ k1) ∧ Aside0 (Kd.R (Kd.int .i64) 3 wc w.heap.size (fun _ => True) v8 x8_22) ∧ Aside0 (wc.heap[gb495]? = some (.cells #[.string x496000_22, (.slice none 0 0)] 32 (0, 0))) ∧ Aside0 (Below w.heap.size w wc))
   case first =>
    have H := HC23.out
    clear HC23
    by_cases c24 : x9_1 = true
    rotate_left
    ·replace c24 := Bool.eq_false_iff.mpr c24
     subst c24
     replace H := in_ H
     have H' := Aside0.mk H
     clear H
     go_wp2
     go_meet
     case rel => exact ⟨_, (t500), (x8_1), (x496000_1), sp_, H', ⟨by have := HK1.out; first | omega | exact Nat.le_refl _⟩, ⟨by (with_reducible repeat (first | apply Kd.R_alloc | apply Kd.R_drewN | apply Kd.R_drew)); exact Kd.R_mono HO_8.out (fun _ hk => trivial)⟩, ⟨by (with_reducible repeat (first | refine blk_drewN ?_ _ | refine blk_drew ?_ | refine blk_alloc ?_ _)); exact BK495.out⟩, ⟨bl_⟩⟩
    subst c24
    replace H := ip_ H
    obtain ⟨⟨t512, t513, t514⟩, A25, H⟩ := ob_ H
    (try dsimp only at H)
    have HC26 := Aside0.mk H
    clear H
    go_upto_region 20 with (first | ((with_reducible refine gc_ 97 64 Tryz.func97 #[.slice A0 l0.length c0, .int .i64 t500] ?_); (with_reducible refine (impl_GetBits.calls k1 _ _ l0 t500 t512 t513 t514 _ ?side1 ?side2 A25.out).mono ?_); (case side1 => exact ca_ (Kd.C_below HR0.out HB.out)); (case side2 => exact HC0.out); rintro e w27 ⟨v515, rfl, ho0, hb⟩; refine ⟨_, rfl, ?_⟩; have HO516 := Aside0.mk (Kd.R_lower (Kd.R_new' (Kd.R_new' ho0 (Kd.R_lt (ra_ HO_8))) (Kd.R_lt (ra_ HO_41))) (below_size bl_)); replace HO_8 := Aside0.mk (Kd.R_elder' (ra_ HO_8) (Kd.R_base ho0) hb); replace HO_41 := Aside0.mk (Kd.R_elder' (ra_ HO_41) (Kd.R_base ho0) hb); replace BK495 := kb_ BK495 hb; replace HB := hs_ hb; clear hb; (try clear ho0)))
    (try simp only [Act.put, List.setIfInBounds_toArray, List.set_cons_zero, List.set_cons_succ])
    go_cut [74] (fun v74 wc => ∃ (kq : Nat) (x74_25 : Bool), v74 = .bool x74_25 ∧ Aside0 (impl_Parse.j1 kq l0 t496 t513 x8_1 t512 x74_25 = some (r1, r2, r3)) ∧ Aside0 (kq ≤ k1) ∧ Aside0 (Kd.R (Kd.int .i64) 3 wc w.heap.size (fun k_ => some k_ ≠ (v515 : Value).ownBlock) u8 x8_1) ∧ Aside0 (Kd.R (Kd.int .i64) 3 wc w.heap.size (fun k_ => some k_ ≠ (u8 : Value).ownBlock) v515 t512) ∧ Aside0 (wc.heap[gb495]? = some (.cells #[.string x496000_1, (.slice none 0 0)] 32 (0, 0))) ∧ Aside0 (Below w.heap.size w wc))
    case first =>
     have H := HC26.out
     clear HC26
     by_cases c28 : t514 = true
     ·subst c28
      replace H := ip_ H
      have H' := Aside0.mk H
      clear H
      obtain ⟨Ao29, co29, eo29⟩ := Kd.R_slice HO516.out
      subst eo29
      go_wp2
      go_meet
      case rel => exact ⟨_, (((t512.length : Int) == 0)), sp_, H', ⟨by have := HK1.out; first | omega | exact Nat.le_refl _⟩, ⟨by (with_reducible repeat (first | apply Kd.R_alloc | apply Kd.R_drewN | apply Kd.R_drew)); exact Kd.R_mono HO_8.out (fun _ hk => hk.2)⟩, ⟨by (with_reducible repeat (first | apply Kd.R_alloc | apply Kd.R_drewN | apply Kd.R_drew)); exact Kd.R_mono HO516.out (fun _ hk => hk.1.2)⟩, ⟨by (with_reducible repeat (first | refine blk_drewN ?_ _ | refine blk_drew ?_ | refine blk_alloc ?_ _)); exact BK495.out⟩, ⟨bl_⟩⟩
     ·replace c28 := Bool.eq_false_iff.mpr c28
      subst c28
      replace H := in_ H
      have H' := Aside0.mk H
      clear H
      go_wp2
      go_meet
      case rel => exact ⟨_, (true), sp_, H', ⟨by have := HK1.out; first | omega | exact Nat.le_refl _⟩, ⟨by (with_reducible repeat (first | apply Kd.R_alloc | apply Kd.R_drewN | apply Kd.R_drew)); exact Kd.R_mono HO_8.out (fun _ hk => hk.2)⟩, ⟨by (with_reducible repeat (first | apply Kd.R_alloc | apply Kd.R_drewN | apply Kd.R_drew)); exact Kd.R_mono HO516.out (fun _ hk => hk.1.2)⟩, ⟨by (with_reducible repeat (first | refine blk_drewN ?_ _ | refine blk_drew ?_ | refine blk_alloc ?_ _)); exact BK495.out⟩, ⟨bl_⟩⟩
    case rest =>
     clear HC26
     obtain ⟨kq, x74_25, rfl, HA, HJ25, HO_8, HO_12, BK495, HB⟩ := hcut
     cases kq with
     | zero => exact absurd HA.out (by simp [impl_Parse.j1])
     | succ kj25 =>
      have H := HA.out
      clear HA
      simp only [impl_Parse.j1] at H
      by_cases c30 : x74_25 = true
      ·subst c30
       replace H := ip_ H
       simp only [Option.some.injEq, Prod.mk.injEq] at H
       obtain ⟨rfl, rfl, rfl⟩ := H
       obtain ⟨hcz31_0, hcz31_1, hfz31_0, hfz31_1⟩ := bx2_ BK495
       go_wp2
       refine bodyPost_ret (results_ct rfl _ _ gb495 32 #[.string (⟨#[]⟩ : ByteArray), .slice none 0 0] (0, 0) _ rfl (by (with_reducible repeat (first | refine blk_drewN ?_ _ | refine blk_drew ?_ | refine blk_alloc ?_ _)); apply bq2_1_0_; (with_reducible repeat (first | refine blk_drewN ?_ _ | refine blk_drew ?_ | refine blk_alloc ?_ _)); exact BK495.out) Tryz.underlying32 rfl (by kernel_rfl)) rfl ?_
       exact ⟨_, by first | rfl | (simp [errW_none, errW_some] <;> rfl) | (simp [*, errW_none, errW_some] <;> rfl), by first | exact Kd.R_nil _ _ _ _ _ | exact Kd.N_nil _ _ _ _ _ | exact Kd.V_nil _ _ _ _ _ | exact Kd.Q_nil _ _ _ _ _ | exact Kd.S_nil _ _ _ _ _, bl_⟩
      replace c30 := Bool.eq_false_iff.mpr c30
      subst c30
      replace H := in_ H
      have H' := Aside0.mk H
      clear H
      obtain ⟨Ao32, co32, eo32⟩ := Kd.R_slice HO_12.out
      subst eo32
      go_wp2
      go_loopg [8, 78] kj25 (fun kq v8 v78 w' => ∃ (x8_3 : List Int) (x78_3 : Int) (x496000_3 : ByteArray), v78 = .int .i64 x78_3 ∧ Aside0 (impl_Parse.l1 kq l0 t496 t513 x8_3 t512 (t512.length : Int) x78_3 = some (r1, r2, r3)) ∧ Aside0 (kq ≤ kj25) ∧ Aside0 (Kd.R (Kd.int .i64) 3 w' w.heap.size (fun k_ => some k_ ≠ ((.slice Ao32 t512.length co32) : Value).ownBlock) v8 x8_3) ∧ Aside0 (Kd.R (Kd.int .i64) 3 w' w.heap.size (fun k_ => some k_ ≠ (v8 : Value).ownBlock) (.slice Ao32 t512.length co32) t512) ∧ Aside0 (w'.heap[gb495]? = some (.cells #[.string x496000_3, (.slice none 0 0)] 32 (0, 0))) ∧ Aside0 (Below w.heap.size w w'))
      case atStart => exact ⟨(x8_1), (0), (x496000_1), sp_, H', ⟨Nat.le_refl _⟩, ⟨ra_ HO_8⟩, ⟨ra_ HO_12⟩, ⟨by (with_reducible repeat (first | refine blk_drewN ?_ _ | refine blk_drew ?_ | refine blk_alloc ?_ _)); exact BK495.out⟩, ⟨bl_⟩⟩
      case round =>
       clear H'
       obtain ⟨x8_3, x78_3, x496000_3, rfl, HA, HK3, HO_8, HO_76, BK495, HB⟩ := hrel
       cases gk with
       | zero => exact absurd HA.out (by simp [impl_Parse.l1])
       | succ k3 =>
        have H := HA.out
        clear HA
        simp only [impl_Parse.l1] at H
        by_cases c33 : x78_3 < (t512.length : Int)
        rotate_left
        ·rw [if_neg c33] at H
         have c33b0 := decide_eq_false c33
         clear c33
         have H' := Aside0.mk H
         clear H
         go_wp2
         go_meet
         case rel => exact ⟨_, (t513), (x8_3), (x496000_3), sp_, H', ⟨by have := HK1.out; have := HJ25.out; have := HK3.out; first | omega | exact Nat.le_refl _⟩, ⟨by (with_reducible repeat (first | apply Kd.R_alloc | apply Kd.R_drewN | apply Kd.R_drew)); exact Kd.R_mono HO_8.out (fun _ hk => trivial)⟩, ⟨by (with_reducible repeat (first | refine blk_drewN ?_ _ | refine blk_drew ?_ | refine blk_alloc ?_ _)); exact BK495.out⟩, ⟨bl_⟩⟩
        rw [if_pos c33] at H
        have c33b0 := decide_eq_true c33
        clear c33
        by_cases c34 : 0 ≤ x78_3
        rotate_left
        ·rw [if_neg c34] at H
         exact absurd H (by simp)
        rw [if_pos c34] at H
        have c34b0 := decide_eq_true c34
        clear c34
        by_cases c35 : x78_3 < (t512.length : Int)
        rotate_left
        ·rw [if_neg c35] at H
         exact absurd H (by simp)
        rw [if_pos c35] at H
        have c35b0 := decide_eq_true c35
        clear c35
        obtain ⟨t518, A36, H⟩ := ob_ H
        by_cases c37 : t518 = 0
        ·rw [if_pos c37] at H
         have c37b0 := beq_iff_eq.mpr c37
         have c37b1 := bne_eq_false_iff_eq.mpr c37
         clear c37
         simp only [Option.some.injEq, Prod.mk.injEq] at H
         obtain ⟨rfl, rfl, rfl⟩ := H
         have p517 : 0 ≤ (x78_3 : Int) := od_
         have q517 : x78_3 < (t512.length : Int) := od_
         obtain ⟨ad517, e517, hx517_0⟩ := Kd.at_int (Kd.R_reads' HO_76.out).2.2 x78_3 p517 q517
         cases e517
         replace p517 := eq_true p517
         replace q517 := eq_true q517
         go_wp2_with (first | ((with_reducible refine gc_ 98 84 Tryz.func98 #[.int .i64 (wrap64 ((rd t512 x78_3) + 64))] ?_); (with_reducible refine (impl_FieldKind.calls k3 (wrap64 ((rd t512 x78_3) + 64)) t518 _ A36.out).mono ?_); rintro e w38 ⟨rfl, hb⟩; refine ⟨_, rfl, ?_⟩; replace HO_8 := Aside0.mk (Kd.R_below (ra_ HO_8) hb); replace HO_76 := Aside0.mk (Kd.R_below (ra_ HO_76) hb); replace BK495 := kb_ BK495 hb; replace HB := hs_ hb; clear hb; obtain ⟨hcz39_0, hcz39_1, hfz39_0, hfz39_1⟩ := bx2_ BK495))
         refine bodyPost_ret (results_ct rfl _ _ gb495 32 #[.string (⟨#[]⟩ : ByteArray), .slice none 0 0] (0, 0) _ rfl (by (with_reducible repeat (first | refine blk_drewN ?_ _ | refine blk_drew ?_ | refine blk_alloc ?_ _)); apply bq2_1_0_; (with_reducible repeat (first | refine blk_drewN ?_ _ | refine blk_drew ?_ | refine blk_alloc ?_ _)); exact BK495.out) Tryz.underlying32 rfl (by kernel_rfl)) rfl ?_
         exact ⟨_, by first | rfl | (simp [errW_none, errW_some] <;> rfl) | (simp [*, errW_none, errW_some] <;> rfl), by first | exact Kd.R_nil _ _ _ _ _ | exact Kd.N_nil _ _ _ _ _ | exact Kd.V_nil _ _ _ _ _ | exact Kd.Q_nil _ _ _ _ _ | exact Kd.S_nil _ _ _ _ _, bl_⟩
        rw [if_neg c37] at H
        have c37b0 := beq_eq_false_iff_ne.mpr c37
        have c37b1 := bne_iff_ne.mpr c37
        by_cases c40 : x8_3.length < 17592186044416
        ·rw [if_pos c40] at H
         have LMc40 := Aside0.mk c40
         clear c40
         obtain ⟨y519, hy519⟩ : ∃ y_ : List Int, y_ = (x8_3 ++ [wrap64 ((rd t512 x78_3) + 64)]) := ⟨_, rfl⟩
         replace H : (impl_Parse.l1 k3 l0 t496 t513 y519 t512 (t512.length : Int) (wrap64 (x78_3 + 1))) = some (r1, r2, r3) := by first | (rw [hy519]; with_reducible exact H) | (have H2_ := (Option.bind_some _ _).symm.trans H; rw [hy519]; with_reducible exact H2_) | (have H2_ := (Option.bind_some _ _).symm.trans H; with_reducible exact H2_) | with_reducible exact H | (rw [hy519]; exact H) | exact H
         have Ny519 := Aside0.mk hy519
         clear hy519
         have H' := Aside0.mk H
         clear H
         have p517 : 0 ≤ (x78_3 : Int) := od_
         have q517 : x78_3 < (t512.length : Int) := od_
         obtain ⟨ad517, e517, hx517_0⟩ := Kd.at_int (Kd.R_reads' HO_76.out).2.2 x78_3 p517 q517
         cases e517
         replace p517 := eq_true p517
         replace q517 := eq_true q517
         go_wp2_with (first | ((with_reducible refine gc_ 98 84 Tryz.func98 #[.int .i64 (wrap64 ((rd t512 x78_3) + 64))] ?_); (with_reducible refine (impl_FieldKind.calls k3 (wrap64 ((rd t512 x78_3) + 64)) t518 _ A36.out).mono ?_); rintro e w41 ⟨rfl, hb⟩; refine ⟨_, rfl, ?_⟩; replace HO_8 := Aside0.mk (Kd.R_below (ra_ HO_8) hb); replace HO_76 := Aside0.mk (Kd.R_below (ra_ HO_76) hb); replace BK495 := kb_ BK495 hb; replace HB := hs_ hb; clear hb) | ((with_reducible refine gate_builtin (b := .append) (xs := #[.tmp 87, .tmp 90]) rfl ?_); (try (refine gate_guard (by rfl) ?_; dsimp only)); at_builtin; refine Kd.R_append (Kd.int .i64) (w0 := w) w.heap.size rfl (.tmp 87) (.tmp 90) 46 3 (.int .i64 0) 8 rfl Tryz.underlying46 info3 rfl (by decide) (by omega) u8 x8_3 (wrap64 ((rd t512 x78_3) + 64)) [.int .i64 (wrap64 ((rd t512 x78_3) + 64))] (fun k_ => some k_ ≠ (.slice (some ad517) t512.length co32 : Value).ownBlock) (fun _ => False) rfl rfl ?aP (fun _ hk => hk.elim) ?aF ?aO ?aB ?aS ?aL ?_; (case aP => exact rfl); (case aB => exact bl_); (case aF => exact (fun k_ hk => Kd.fresh' (Kd.R_lt (ra_ HO_76)) k_ hk)); (case aO => exact (ra_ HO_8)); (case aS => exact (below_size bl_)); (case aL => have := LMc40.out; omega); intro v520 w42 ho hb hg hat; rw [← Ny519.out] at ho; have n0_ := Aside0.mk (Kd.R_after (ok := (fun _ => True)) (by (with_reducible repeat (first | apply Kd.R_alloc | apply Kd.R_drewN | apply Kd.R_drew)); exact Kd.R_mono HO_76.out (fun _ hk => ⟨trivial, hk⟩)) hg hat); have n1_ := Aside0.mk (blk_grown (bk_ BK495) hg (Kd.R_ne HO_8.out BK495.out (by decide))); have n2_ := Aside0.mk (hb); have n3_ := Aside0.mk (ho); clear HO_76; clear BK495; clear HB; clear HO_8; have HO_76 := n0_; have BK495 := n1_; have HB := n2_; have HO521 := n3_; clear n0_ n1_ n2_ n3_; clear ho hb hg hat))
         go_roundg k3
         case measure => have := HK1.out; have := HJ25.out; have := HK3.out; omega
         case rel => exact ⟨(y519), (wrap64 (x78_3 + 1)), (x496000_3), sp_, H', ⟨by have := HK1.out; have := HJ25.out; have := HK3.out; omega⟩, ⟨ra_ HO521⟩, ⟨by (with_reducible repeat (first | apply Kd.R_alloc | apply Kd.R_drewN | apply Kd.R_drew)); exact Kd.R_mono HO_76.out (fun _ hk => hk.2)⟩, ⟨by (with_reducible repeat (first | refine blk_drewN ?_ _ | refine blk_drew ?_ | refine blk_alloc ?_ _)); exact BK495.out⟩, ⟨bl_⟩⟩
        ·rw [if_neg c40] at H
         exact absurd H (by simp)
   case rest =>
    clear HC23
    obtain ⟨kq, x5_22, x8_22, x496000_22, rfl, HA, HJ22, HO_8, BK495, HB⟩ := hcut
    cases kq with
    | zero => exact absurd HA.out (by simp [impl_Parse.j3])
    | succ kj22 =>
     have H := HA.out
     clear HA
     simp only [impl_Parse.j3] at H
     have H' := Aside0.mk H
     clear H
     go_wp2_with (first | ((with_reducible refine gate_dst (N := 15) rfl ?_); (try (refine gate_guard (by rfl) ?_; dsimp only)); refine be_ (N := 15) (cs := #[.string (⟨#[]⟩ : ByteArray), .slice none 0 0]) (t := 32) ?_; intro gb522 hg w43 hbox hb; replace HO_8 := Aside0.mk (Kd.R_below (ra_ HO_8) hb); have BK522 := Aside0.mk (hbox); have GW522 := gw_ (w := w) hg; have GE522 := gw_ (w := w) hg; replace HB := hs_ hb; have NB495_522 := Aside0.mk ((by rw [hg]; exact Nat.ne_of_lt (blk_lt (bk_ BK495)) : gb495 ≠ gb522)); have NB522_495 := Aside0.mk ((by rw [hg]; exact Nat.ne_of_gt (blk_lt (bk_ BK495)) : gb522 ≠ gb495)); replace BK495 := kb_ BK495 hb; clear hb hbox hg; have hnb44 := NB522_495.out; have hnc44 := NB495_522.out; obtain ⟨hcz45_0, hcz45_1, hfz45_0, hfz45_1⟩ := bx2_ BK522; obtain ⟨Ao46, co46, eo46⟩ := Kd.R_slice HO_8.out; subst eo46))
     go_loopg [5, 97] kj22 (fun kq v5 v97 w' => ∃ (x5_3 : Int) (x97_3 : Int) (x496000_3 : ByteArray) (x523001_3 : List (S91)) (u523001 : Value), v5 = .int .i64 x5_3 ∧ v97 = .int .i64 x97_3 ∧ Aside0 (impl_Parse.l2 kq l0 x5_3 x8_22 (x8_22.length : Int) x97_3 t496 x523001_3 = some (r1, r2, r3)) ∧ Aside0 (kq ≤ kj22) ∧ Aside0 (Kd.R (Kd.int .i64) 3 w' w.heap.size (fun _ => True) (.slice Ao46 x8_22.length co46) x8_22) ∧ Aside0 (Kd.R k91 91 w' w.heap.size (fun _ => True) u523001 x523001_3) ∧ Aside0 (w'.heap[gb495]? = some (.cells #[.string x496000_3, (.slice none 0 0)] 32 (0, 0))) ∧ Aside0 (w'.heap[gb522]? = some (.cells #[.string t496, u523001] 32 (0, 0))) ∧ Aside0 (Below w.heap.size w w'))
     case atStart => exact ⟨(x5_22), (0), (x496000_22), (([] : List (S91))), (.slice none 0 0), sp_, sp_, H', ⟨Nat.le_refl _⟩, ⟨by (with_reducible repeat (first | apply Kd.R_alloc | apply Kd.R_drewN | apply Kd.R_drew)); exact Kd.R_mono (Kd.R_far (p := ⟨gb522, 1, none⟩) (Kd.R_far (p := ⟨gb522, 0, none⟩) (Kd.R_types HO_8.out BK522.out (by decide)) (fun _ hk => hk.2) (.string t496)) (fun _ hk => hk.2) (.slice none 0 0)) (fun _ hk => trivial)⟩, ⟨by first | exact Kd.R_nil _ _ _ _ _ | exact Kd.N_nil _ _ _ _ _ | exact Kd.V_nil _ _ _ _ _ | exact Kd.Q_nil _ _ _ _ _ | exact Kd.S_nil _ _ _ _ _⟩, ⟨by (with_reducible repeat (first | refine blk_drewN ?_ _ | refine blk_drew ?_ | refine blk_alloc ?_ _)); refine blk_far ?_ NB495_522.out _; (with_reducible repeat (first | refine blk_drewN ?_ _ | refine blk_drew ?_ | refine blk_alloc ?_ _)); refine blk_far ?_ NB495_522.out _; (with_reducible repeat (first | refine blk_drewN ?_ _ | refine blk_drew ?_ | refine blk_alloc ?_ _)); exact BK495.out⟩, ⟨by (with_reducible repeat (first | refine blk_drewN ?_ _ | refine blk_drew ?_ | refine blk_alloc ?_ _)); apply bq2_1_0_; (with_reducible repeat (first | refine blk_drewN ?_ _ | refine blk_drew ?_ | refine blk_alloc ?_ _)); exact BK522.out⟩, ⟨bl_⟩⟩
     case round =>
      clear H'
      obtain ⟨x5_3, x97_3, x496000_3, x523001_3, u523001, rfl, rfl, HA, HK3, HO_95, HO_523001, BK495, BK522, HB⟩ := hrel
      cases gk with
      | zero => exact absurd HA.out (by simp [impl_Parse.l2])
      | succ k3 =>
       have H := HA.out
       clear HA
       simp only [impl_Parse.l2] at H
       by_cases c47 : x97_3 < (x8_22.length : Int)
       rotate_left
       ·rw [if_neg c47] at H
        have c47b0 := decide_eq_false c47
        clear c47
        by_cases c62 : x5_3 = (l0.length : Int)
        ·rw [if_pos c62] at H
         have c62b0 := beq_iff_eq.mpr c62
         have c62b1 := bne_eq_false_iff_eq.mpr c62
         clear c62
         simp only [Option.some.injEq, Prod.mk.injEq] at H
         obtain ⟨rfl, rfl, rfl⟩ := H
         have hnb63 := NB522_495.out
         have hnc63 := NB495_522.out
         obtain ⟨hcz64_0, hcz64_1, hfz64_0, hfz64_1⟩ := bx2_ BK522
         obtain ⟨hcz65_0, hcz65_1, hfz65_0, hfz65_1⟩ := bx2_ BK495
         obtain ⟨Ao66, co66, eo66⟩ := Kd.R_slice HO_523001.out
         subst eo66
         go_wp2
         refine bodyPost_ret (results_ct rfl _ _ gb495 32 #[.string t496, .slice Ao66 x523001_3.length co66] (0, 0) _ rfl (by (with_reducible repeat (first | refine blk_drewN ?_ _ | refine blk_drew ?_ | refine blk_alloc ?_ _)); apply bq2_1_0_; (with_reducible repeat (first | refine blk_drewN ?_ _ | refine blk_drew ?_ | refine blk_alloc ?_ _)); exact BK495.out) Tryz.underlying32 rfl (by kernel_rfl)) rfl ?_
         exact ⟨_, by first | rfl | (simp [errW_none, errW_some] <;> rfl) | (simp [*, errW_none, errW_some] <;> rfl), by (with_reducible repeat (first | apply Kd.R_alloc | apply Kd.R_drewN | apply Kd.R_drew)); exact Kd.R_mono (Kd.R_far (p := ⟨gb495, 1, none⟩) (Kd.R_far (p := ⟨gb495, 0, none⟩) (Kd.R_types HO_523001.out BK495.out (by decide)) (fun _ hk => hk.2) (.string t496)) (fun _ hk => hk.2) (.slice Ao66 x523001_3.length co66)) (fun _ hk => trivial), bl_⟩
        ·rw [if_neg c62] at H
         have c62b0 := beq_eq_false_iff_ne.mpr c62
         have c62b1 := bne_iff_ne.mpr c62
         simp only [Option.some.injEq, Prod.mk.injEq] at H
         obtain ⟨rfl, rfl, rfl⟩ := H
         have hnb67 := NB495_522.out
         have hnc67 := NB522_495.out
         obtain ⟨hcz68_0, hcz68_1, hfz68_0, hfz68_1⟩ := bx2_ BK495
         go_wp2
         refine bodyPost_ret (results_ct rfl _ _ gb495 32 #[.string (⟨#[]⟩ : ByteArray), .slice none 0 0] (0, 0) _ rfl (by (with_reducible repeat (first | refine blk_drewN ?_ _ | refine blk_drew ?_ | refine blk_alloc ?_ _)); apply bq2_1_0_; (with_reducible repeat (first | refine blk_drewN ?_ _ | refine blk_drew ?_ | refine blk_alloc ?_ _)); exact BK495.out) Tryz.underlying32 rfl (by kernel_rfl)) rfl ?_
         exact ⟨_, by first | rfl | (simp [errW_none, errW_some] <;> rfl) | (simp [*, errW_none, errW_some] <;> rfl), by first | exact Kd.R_nil _ _ _ _ _ | exact Kd.N_nil _ _ _ _ _ | exact Kd.V_nil _ _ _ _ _ | exact Kd.Q_nil _ _ _ _ _ | exact Kd.S_nil _ _ _ _ _, bl_⟩
       rw [if_pos c47] at H
       have c47b0 := decide_eq_true c47
       clear c47
       by_cases c48 : 0 ≤ x97_3
       rotate_left
       ·rw [if_neg c48] at H
        exact absurd H (by simp)
       rw [if_pos c48] at H
       have c48b0 := decide_eq_true c48
       clear c48
       by_cases c49 : x97_3 < (x8_22.length : Int)
       rotate_left
       ·rw [if_neg c49] at H
        exact absurd H (by simp)
       rw [if_pos c49] at H
       have c49b0 := decide_eq_true c49
       clear c49
       obtain ⟨⟨t524, t525, t526⟩, A50, H⟩ := ob_ H
       (try dsimp only at H)
       by_cases c51 : t526 = true
       ·subst c51
        replace H := ip_ H
        by_cases c52 : x523001_3.length < 5864062014805
        ·rw [if_pos c52] at H
         have LMc52 := Aside0.mk c52
         clear c52
         obtain ⟨y527, hy527⟩ : ∃ y_ : List (S91), y_ = (x523001_3 ++ [(⟨rd x8_22 x97_3, t524⟩ : S91)]) := ⟨_, rfl⟩
         replace H : (impl_Parse.l2 k3 l0 t525 x8_22 (x8_22.length : Int) (wrap64 (x97_3 + 1)) t496 y527) = some (r1, r2, r3) := by first | (rw [hy527]; with_reducible exact H) | (have H2_ := (Option.bind_some _ _).symm.trans H; rw [hy527]; with_reducible exact H2_) | (have H2_ := (Option.bind_some _ _).symm.trans H; with_reducible exact H2_) | with_reducible exact H | (rw [hy527]; exact H) | exact H
         have Ny527 := Aside0.mk hy527
         clear hy527
         have H' := Aside0.mk H
         clear H
         have p523 : 0 ≤ (x97_3 : Int) := od_
         have q523 : x97_3 < (x8_22.length : Int) := od_
         obtain ⟨ad523, e523, hx523_0⟩ := Kd.at_int (Kd.R_reads' HO_95.out).2.2 x97_3 p523 q523
         cases e523
         replace p523 := eq_true p523
         replace q523 := eq_true q523
         go_wp2_with (first | ((with_reducible refine gc_ 99 105 Tryz.func99 #[.slice A0 l0.length c0, .int .i64 x5_3, .int .i64 (rd x8_22 x97_3)] ?_); (with_reducible refine (impl_GetField.calls k3 _ _ l0 x5_3 (rd x8_22 x97_3) t524 t525 true _ ?side1 ?side2 A50.out).mono ?_); (case side1 => exact ca_ (Kd.C_below HR0.out HB.out)); (case side2 => exact HC0.out); rintro e w53 ⟨rfl, hb⟩; refine ⟨_, rfl, ?_⟩; replace HO_95 := Aside0.mk (Kd.R_below (ra_ HO_95) hb); replace HO_523001 := Aside0.mk (Kd.R_below (ra_ HO_523001) hb); replace BK495 := kb_ BK495 hb; replace BK522 := kb_ BK522 hb; replace HB := hs_ hb; clear hb; have hnb54 := NB522_495.out; have hnc54 := NB495_522.out; obtain ⟨hcz55_0, hcz55_1, hfz55_0, hfz55_1⟩ := bx2_ BK522) | ((with_reducible refine gate_builtin (b := .append) (xs := #[.tmp 113, .tmp 117]) rfl ?_); (try (refine gate_guard (by rfl) ?_; dsimp only)); at_builtin; refine Kd.R_append k91 (w0 := w) w.heap.size rfl (.tmp 113) (.tmp 117) 30 91 (.agg #[(.int .i64 0), (.string ⟨#[]⟩)]) 24 rfl Tryz.underlying30 info91 rfl (by decide) (by omega) u523001 x523001_3 (⟨rd x8_22 x97_3, t524⟩ : S91) [.int .i64 (rd x8_22 x97_3), .string t524] (fun _ => True) (fun _ => False) rfl rfl ?aP (fun _ hk => hk.elim) ?aF ?aO ?aB ?aS ?aL ?_; (case aP => exact k91_mkM _ _ _ (⟨rd x8_22 x97_3, t524⟩ : S91)); (case aB => exact bl_); (case aF => exact (fun _ _ => trivial)); (case aO => exact (ra_ HO_523001)); (case aS => exact (below_size bl_)); (case aL => have := LMc52.out; omega); intro v528 w56 ho hb hg hat; rw [← Ny527.out] at ho; have n0_ := Aside0.mk (Kd.R_over' (ra_ HO_95) (Kd.R_typed (ra_ HO_523001)) (by decide) hg); have n1_ := Aside0.mk (blk_grown (bk_ BK495) hg (Kd.R_ne HO_523001.out BK495.out (by decide))); have n2_ := Aside0.mk (blk_grown (bk_ BK522) hg (Kd.R_ne HO_523001.out BK522.out (by decide))); have n3_ := Aside0.mk (hb); have n4_ := Aside0.mk (ho); clear HO_95; clear BK495; clear BK522; clear HB; clear HO_523001; have HO_95 := n0_; have BK495 := n1_; have BK522 := n2_; have HB := n3_; have HO529 := n4_; clear n0_ n1_ n2_ n3_ n4_; clear ho hb hg hat; obtain ⟨Ao57, co57, eo57⟩ := Kd.R_slice HO529.out; subst eo57; obtain ⟨hcz58_0, hcz58_1, hfz58_0, hfz58_1⟩ := bx2_ BK522))
         go_roundg k3
         case measure => have := HK1.out; have := HJ22.out; have := HK3.out; omega
         case rel => exact ⟨(t525), (wrap64 (x97_3 + 1)), (x496000_3), (y527), (.slice Ao57 y527.length co57), sp_, sp_, H', ⟨by have := HK1.out; have := HJ22.out; have := HK3.out; omega⟩, ⟨by (with_reducible repeat (first | apply Kd.R_alloc | apply Kd.R_drewN | apply Kd.R_drew)); exact Kd.R_mono (Kd.R_far (p := ⟨gb522, 1, none⟩) (Kd.R_types HO_95.out BK522.out (by decide)) (fun _ hk => hk.2) (.slice Ao57 y527.length co57)) (fun _ hk => trivial)⟩, ⟨by (with_reducible repeat (first | apply Kd.R_alloc | apply Kd.R_drewN | apply Kd.R_drew)); exact Kd.R_mono (Kd.R_far (p := ⟨gb522, 1, none⟩) (Kd.R_types HO529.out BK522.out (by decide)) (fun _ hk => hk.2) (.slice Ao57 y527.length co57)) (fun _ hk => trivial)⟩, ⟨by (with_reducible repeat (first | refine blk_drewN ?_ _ | refine blk_drew ?_ | refine blk_alloc ?_ _)); refine blk_far ?_ NB495_522.out _; (with_reducible repeat (first | refine blk_drewN ?_ _ | refine blk_drew ?_ | refine blk_alloc ?_ _)); exact BK495.out⟩, ⟨by (with_reducible repeat (first | refine blk_drewN ?_ _ | refine blk_drew ?_ | refine blk_alloc ?_ _)); apply bq2_1_; (with_reducible repeat (first | refine blk_drewN ?_ _ | refine blk_drew ?_ | refine blk_alloc ?_ _)); exact BK522.out⟩, ⟨bl_⟩⟩
        ·rw [if_neg c52] at H
         exact absurd H (by simp)
       ·replace c51 := Bool.eq_false_iff.mpr c51
        subst c51
        replace H := in_ H
        simp only [Option.some.injEq, Prod.mk.injEq] at H
        obtain ⟨rfl, rfl, rfl⟩ := H
        have p523 : 0 ≤ (x97_3 : Int) := od_
        have q523 : x97_3 < (x8_22.length : Int) := od_
        obtain ⟨ad523, e523, hx523_0⟩ := Kd.at_int (Kd.R_reads' HO_95.out).2.2 x97_3 p523 q523
        cases e523
        replace p523 := eq_true p523
        replace q523 := eq_true q523
        go_wp2_with (first | ((with_reducible refine gc_ 99 105 Tryz.func99 #[.slice A0 l0.length c0, .int .i64 x5_3, .int .i64 (rd x8_22 x97_3)] ?_); (with_reducible refine (impl_GetField.calls k3 _ _ l0 x5_3 (rd x8_22 x97_3) t524 t525 false _ ?side1 ?side2 A50.out).mono ?_); (case side1 => exact ca_ (Kd.C_below HR0.out HB.out)); (case side2 => exact HC0.out); rintro e w59 ⟨rfl, hb⟩; refine ⟨_, rfl, ?_⟩; replace HO_95 := Aside0.mk (Kd.R_below (ra_ HO_95) hb); replace HO_523001 := Aside0.mk (Kd.R_below (ra_ HO_523001) hb); replace BK495 := kb_ BK495 hb; replace BK522 := kb_ BK522 hb; replace HB := hs_ hb; clear hb; have hnb60 := NB495_522.out; have hnc60 := NB522_495.out; obtain ⟨hcz61_0, hcz61_1, hfz61_0, hfz61_1⟩ := bx2_ BK495))
        refine bodyPost_ret (results_ct rfl _ _ gb495 32 #[.string (⟨#[]⟩ : ByteArray), .slice none 0 0] (0, 0) _ rfl (by (with_reducible repeat (first | refine blk_drewN ?_ _ | refine blk_drew ?_ | refine blk_alloc ?_ _)); apply bq2_1_0_; (with_reducible repeat (first | refine blk_drewN ?_ _ | refine blk_drew ?_ | refine blk_alloc ?_ _)); exact BK495.out) Tryz.underlying32 rfl (by kernel_rfl)) rfl ?_
        exact ⟨_, by first | rfl | (simp [errW_none, errW_some] <;> rfl) | (simp [*, errW_none, errW_some] <;> rfl), by first | exact Kd.R_nil _ _ _ _ _ | exact Kd.N_nil _ _ _ _ _ | exact Kd.V_nil _ _ _ _ _ | exact Kd.Q_nil _ _ _ _ _ | exact Kd.S_nil _ _ _ _ _, bl_⟩
/-! ### slices_Sort_string_string: function 59 -/
abbrev toL (xs : List ByteArray) : List (List UInt8) := xs.map fun s => s.data.toList
abbrev ofL (ys : List (List UInt8)) : List ByteArray := ys.map fun l => (⟨l.toArray⟩ : ByteArray)
theorem sos_row {e base g n cap : Nat} {ok : Nat → Prop} : ∀ (zs : List ByteArray) (i : Nat) (xs : List ByteArray) (W : World), i + zs.length = n →
  Kd.R Kd.string e W base ok (.slice (some ⟨g, 0, none⟩) n cap) xs → Kd.R Kd.string e (W.setCells g i (zs.map Value.string)) base ok (.slice (some ⟨g, 0, none⟩) n cap) (xs.take i ++ zs) ∧ W.grownBy (W.setCells g i (zs.map Value.string)) (some g)
 | [], i, xs, W, hi, h => by
  have hn := (Kd.R_reads' h).1
  simp only [List.length_nil] at hi
  rw [List.take_of_length_le (by omega), List.append_nil]
  exact ⟨h, World.grownBy.refl W _⟩
 | z :: zs, i, xs, W, hi, h => by
  have hn := (Kd.R_reads' h).1
  simp only [List.length_cons] at hi
  subst hn
  obtain ⟨h1, g1⟩ := Kd.R_put (enc := Value.string) (h1 := fun _ => rfl) h (i : Int) z
  rw [Int.toNat_natCast] at h1 g1
  obtain ⟨h2, g2⟩ := sos_row zs (i + 1) (xs.set i z) _ (by omega) h1
  rw [List.take_succ_eq_append_getElem (by rw [List.length_set]; omega), List.take_set_of_le (Nat.le_refl _), List.getElem_set_self, List.append_assoc, List.singleton_append] at h2
  exact ⟨h2, g1.trans g2⟩
theorem sos_holds {W : World} {e base g cap : Nat} {ok : Nat → Prop} {xs : List ByteArray} (h : Kd.R Kd.string e W base ok (.slice (some ⟨g, 0, none⟩) xs.length cap) xs) : Sort.Holds encStr W g 0 (toL xs).toArray := by
 intro j hj
 have hj' : j < xs.length := by simpa using hj
 obtain ⟨h1, h2⟩ := Kd.R_cell (enc := Value.string) (h1 := fun _ => rfl) ByteArray.empty h (j : Int) (by omega) (by omega)
 rw [Int.toNat_natCast] at h1 h2
 rw [Nat.zero_add]
 refine ⟨h1.trans ?_, h2⟩
 congr 1
 unfold rdOf
 rw [Int.toNat_natCast, List.getD_eq_getElem?_getD, List.getElem?_eq_getElem hj', getElem!_pos (toL xs).toArray j hj]
 simp [encStr]
theorem sos_grow {B : Nat} {w0 W : World} (os : Array Obj) (h : Below B w0 W) (hB : B ≤ W.heap.size) : Below B w0 (Sort.grow W os) :=
 h.trans ⟨rfl, rfl, rfl, by simp [Sort.grow], fun k hk => Sort.heap_grow_old W os (Nat.lt_of_lt_of_le hk hB)⟩
theorem sos_enc (ys : List (List UInt8)) : ys.map encStr = (ofL ys).map Value.string := by rw [ofL, List.map_map]; rfl
def slices_Sort_string_string.f (l0 : List ByteArray) : Option (List ByteArray) := if l0.length < 4611686018427387904 then some (ofL ((toL l0).mergeSort fun x y => decide (x ≤ y))) else none
set_option maxRecDepth 100000 in
theorem slices_Sort_string_string.calls (P0_ : Nat → Prop) (u9000_ : Value) (l0 : List ByteArray) (r : List ByteArray) (w0 w : World) (hB : Below w0.heap.size w0 w) (ho0 : Kd.R Kd.string 9 w w0.heap.size P0_ u9000_ l0) (h : slices_Sort_string_string.f l0 = some r) :
  Calls Tryz.prog 59 #[u9000_] w fun e w' => e = .returned (.tuple #[]) ∧ Kd.R Kd.string 9 w' w0.heap.size (fun k_ => (P0_ k_ ∨ w.heap.size ≤ k_)) u9000_ r ∧ Below w0.heap.size w0 w' ∧ Kept w w' (fun k_ => P0_ k_) := by
 unfold slices_Sort_string_string.f at h
 by_cases hl : l0.length < 4611686018427387904
 rotate_left
 ·rw [if_neg hl] at h; cases h
 rw [if_pos hl] at h
 obtain rfl := Option.some.inj h
 have hz : (toL l0).length = l0.length := List.length_map ..
 by_cases hp : 0 < l0.length
 ·obtain ⟨g, cap, rfl, hb, hlt, _⟩ := Kd.R_form ho0 hp
  refine Calls.mono (Go.calls_of_every_depth fun D => by have q_ := Go.Proofs.AnyS.slices_Sort_string_in Go.Proofs.YtohfefkjcnbejaaGreatDoor.Shelf.laysSortS D g 0 cap (toL l0) w (sos_holds ho0) hlt (by rw [hz]; exact hl); rw [hz] at q_; exact q_ : Calls Tryz.prog 59 #[.slice (some ⟨g, 0, none⟩) l0.length cap] w _) ?_
  rintro e w' ⟨rfl, q, os, rfl⟩
  rw [Lib.sorted_world encStr w g 0 q _ _ os (sos_holds ho0) (by simp), sos_enc]
  obtain ⟨h1, g1⟩ := sos_row (ofL ((toL l0).mergeSort fun x y => decide (x ≤ y))) 0 l0 (w.drewN q) (by simp) (Kd.R_drewN ho0 q)
  rw [List.take_zero, List.nil_append] at h1
  have gb : Below ((w.drewN q).setCells g 0 ((ofL ((toL l0).mergeSort fun x y => decide (x ≤ y))).map Value.string)).heap.size _ (Sort.grow _ os) := sos_grow os (Below.refl _ _) (Nat.le_refl _)
  have hbq : Below w0.heap.size w0 (w.drewN q) := pw_below_drewN hB q
  have hb2 := hbq.grown g1 hbq.size (fun k hk => by cases hk; exact hb)
  refine ⟨rfl, Kd.R_mono (Kd.R_below h1 gb) (fun _ hk => .inl hk), below_then hb2 hb2.size gb, Kept.below (Kept.of_grown g1 (Kept.drewN (Kept.refl w _) q) (fun k hk => by cases hk; exact .inl (ho0.1 g (by simp [Value.ownBlock])))) gb⟩
 ·have hnil : l0 = [] := List.eq_nil_of_length_eq_zero (by omega)
  subst hnil
  obtain ⟨A0, c0, rfl, _, _⟩ := Kd.R_reads ho0
  refine Calls.mono (Go.Proofs.Any.slices_Sort_string_none Go.Proofs.YtohfefkjcnbejaaGreatDoor.Shelf.laysSortS A0 c0 w : Calls Tryz.prog 59 #[.slice A0 0 c0] w _) ?_
  rintro e w' ⟨rfl, rfl⟩
  exact ⟨rfl, Kd.R_mono (by simpa using ho0) (fun _ hk => .inl hk), hB, Kept.refl _ _⟩
/-! ### slices_Compact_string_string: function 60 -/
def slices_Compact_string_string.f (l0 : List ByteArray) : Option (List ByteArray) := some (ofL (Lib.compact (toL l0)))
set_option maxRecDepth 100000 in
theorem slices_Compact_string_string.calls (P0_ : Nat → Prop) (u9000_ : Value) (l0 : List ByteArray) (r : List ByteArray) (w0 w : World) (hB : Below w0.heap.size w0 w) (ho0 : Kd.R Kd.string 9 w w0.heap.size P0_ u9000_ l0) (h : slices_Compact_string_string.f l0 = some r) :
  Calls Tryz.prog 60 #[u9000_] w fun e w' => ∃ v0_ : Value, e = .returned (v0_) ∧ Kd.R Kd.string 9 w' w0.heap.size (fun k_ => (P0_ k_ ∨ w.heap.size ≤ k_)) v0_ r ∧ Below w0.heap.size w0 w' ∧ Kept w w' (fun k_ => P0_ k_) := by
 obtain rfl := Option.some.inj h
 have hz : (toL l0).length = l0.length := List.length_map ..
 have hcl : (Lib.compact (toL l0)).length ≤ l0.length := by
  unfold Lib.compact Lib.compactUpTo
  rw [List.length_map]
  exact Nat.le_trans (List.length_filter_le _ _) (by simp)
 by_cases hp : 0 < l0.length
 ·obtain ⟨g, cap, rfl, hb, hlt, _⟩ := Kd.R_form ho0 hp
  obtain ⟨_, hc, hC⟩ := Kd.R_reads' ho0
  refine Calls.mono (by have q_ := Go.Proofs.Any.slices_Compact_string Go.Proofs.YtohfefkjcnbejaaGreatDoor.Shelf.laysCompactS g 0 cap (toL l0) w (sos_holds ho0) (by rw [hz]; exact hC.2.1) (by rw [hz]; exact hc); rw [hz] at q_; exact q_ : Calls Tryz.prog 60 #[.slice (some ⟨g, 0, none⟩) l0.length cap] w _) ?_
  rintro e w' ⟨rfl, q, rfl⟩
  rw [Lib.putRow_eq_setCells encStr w g 0 _ _ q (sos_holds ho0) (by simp; omega), sos_enc]
  obtain ⟨h1, g1⟩ := sos_row (ofL (Lib.compact (toL l0) ++ List.replicate (l0.length - (Lib.compact (toL l0)).length) [])) 0 l0 (w.drewN q) (by simp; omega) (Kd.R_drewN ho0 q)
  rw [List.take_zero, List.nil_append] at h1
  have hbq : Below w0.heap.size w0 (w.drewN q) := pw_below_drewN hB q
  have hb2 := hbq.grown g1 hbq.size (fun k hk => by cases hk; exact hb)
  have h2 := Kd.R_take h1 (m := (Lib.compact (toL l0)).length) (by simp)
  rw [show (ofL (Lib.compact (toL l0) ++ List.replicate (l0.length - (Lib.compact (toL l0)).length) [])).take (Lib.compact (toL l0)).length = ofL (Lib.compact (toL l0)) from by rw [ofL, List.map_append]; exact List.take_left' (List.length_map ..)] at h2
  have e1 : (ofL (Lib.compact (toL l0))).length = (Lib.compact (toL l0)).length := List.length_map ..
  exact ⟨_, rfl, Kd.R_mono h2 (fun _ hk => .inl hk), hb2, Kept.of_grown g1 (Kept.drewN (Kept.refl w _) q) (fun k hk => by cases hk; exact .inl (ho0.1 g (by simp [Value.ownBlock])))⟩
 ·have hnil : l0 = [] := List.eq_nil_of_length_eq_zero (by omega)
  subst hnil
  obtain ⟨A0, c0, rfl, _, _⟩ := Kd.R_reads ho0
  refine Calls.mono (Go.Proofs.Any.slices_Compact_string_empty Go.Proofs.YtohfefkjcnbejaaGreatDoor.Shelf.laysCompactS A0 c0 w : Calls Tryz.prog 60 #[.slice A0 0 c0] w _) ?_
  rintro e w' ⟨rfl, rfl⟩
  exact ⟨_, rfl, Kd.R_mono ho0 (fun _ hk => .inl hk), hB, Kept.refl _ _⟩
/-! ### impl_Asks: function 16 -/
def impl_Asks.j0 : Nat → Bool → Int → ByteArray → ByteArray → ByteArray → ByteArray → ByteArray → Int → Int → Option (List ByteArray)
 | 0, _, _, _, _, _, _, _, _, _ => none
 | k + 1, x23, x546000, x546001, x546002, x546003, x546004, x546005, x546006, x546007 => if x23 = true then (some ([] : List ByteArray)) else ((some (([x546001] : List ByteArray) : List ByteArray)).bind fun y546 => (if x546000 = 6 then (if y546.length < 8796093022208 then ((slices_Sort_string_string.f (y546 ++ [x546002])).bind fun t552 => ((slices_Compact_string_string.f t552).bind fun t553 => (some t553))) else (none)) else ((slices_Sort_string_string.f y546).bind fun t556 => ((slices_Compact_string_string.f t556).bind fun t557 => (some t557)))))
def impl_Asks.f (k : Nat) (l0 : List Int) : Option (List ByteArray) := (impl_Parse.f k l0).bind fun bt530 => ((impl_ReqOf.f k bt530.1 bt530.2.1).bind fun bt536 => (if bt530.2.2 = 0 then (impl_Asks.j0 k (bt536.2.2.2.2.2.2.2.2 != 0) bt536.1 bt536.2.1 bt536.2.2.1 bt536.2.2.2.1 bt536.2.2.2.2.1 bt536.2.2.2.2.2.1 bt536.2.2.2.2.2.2.1 bt536.2.2.2.2.2.2.2.1) else (impl_Asks.j0 k true bt536.1 bt536.2.1 bt536.2.2.1 bt536.2.2.2.1 bt536.2.2.2.2.1 bt536.2.2.2.2.2.1 bt536.2.2.2.2.2.2.1 bt536.2.2.2.2.2.2.2.1)))
set_option maxHeartbeats 8000000 in
set_option maxRecDepth 100000 in
theorem impl_Asks.calls (k : Nat) (A0 : Option Addr) (c0 : Nat) (l0 : List Int) (r : List ByteArray) (w : World) (hr0 : Kd.C (Kd.int .u8) w A0 l0.length l0) (hc0 : l0.length ≤ c0) (h : impl_Asks.f k l0 = some r) :
  Calls Tryz.prog 16 #[.slice A0 l0.length c0] w fun e w' => ∃ v0_ : Value, e = .returned (v0_) ∧ Kd.R Kd.string 9 w' w.heap.size (fun _ => True) v0_ r ∧ Below w.heap.size w w' := by
 have hu32 := Tryz.underlying32
 have hu27 := Tryz.underlying27
 have HR0 := Aside0.mk hr0
 have HC0 := Aside0.mk hc0
 clear hr0 hc0
 have HB := Aside0.mk (Below.refl w.heap.size w)
 have H : ((impl_Parse.f k l0).bind fun bt530 => ((impl_ReqOf.f k bt530.1 bt530.2.1).bind fun bt536 => (if bt530.2.2 = 0 then (impl_Asks.j0 k (bt536.2.2.2.2.2.2.2.2 != 0) bt536.1 bt536.2.1 bt536.2.2.1 bt536.2.2.2.1 bt536.2.2.2.2.1 bt536.2.2.2.2.2.1 bt536.2.2.2.2.2.2.1 bt536.2.2.2.2.2.2.2.1) else (impl_Asks.j0 k true bt536.1 bt536.2.1 bt536.2.2.1 bt536.2.2.2.1 bt536.2.2.2.2.1 bt536.2.2.2.2.2.1 bt536.2.2.2.2.2.2.1 bt536.2.2.2.2.2.2.2.1)))) = some r := h
 clear h
 obtain ⟨⟨t530, t531, t534⟩, A2, H⟩ := ob_ H
 (try dsimp only at H)
 obtain ⟨⟨t536, t537, t538, t539, t540, t541, t542, t543, t544⟩, A3, H⟩ := ob_ H
 (try dsimp only at H)
 have HC4 := Aside0.mk H
 clear H
 go_enter Tryz.func16, Tryz.ntmps16
 go_upto_region 3 with (first | ((with_reducible refine gc_ 58 10 Tryz.func58 #[.slice A0 l0.length c0] ?_); (with_reducible refine (impl_Parse.calls k _ _ l0 t530 t531 t534 _ ?side1 ?side2 A2.out).mono ?_); (case side1 => exact ca_ (HR0.out)); (case side2 => exact HC0.out); rintro e w5 ⟨v532, rfl, ho0, hb⟩; refine ⟨_, rfl, ?_⟩; have HO533 := Aside0.mk (Kd.R_lower ho0 (below_size bl_)); replace HB := hs_ hb; clear hb; (try clear ho0)) | ((with_reducible refine gate_dst (N := 3) rfl ?_); refine be_ (N := 3) (cs := #[.string (⟨#[]⟩ : ByteArray), .slice none 0 0]) (t := 32) ?_; intro gb535 hg w6 hbox hb; replace HO533 := Aside0.mk (Kd.R_below (ra_ HO533) hb); have BK535 := Aside0.mk (hbox); have GW535 := gw_ (w := w) hg; have GE535 := gw_ (w := w) hg; replace HB := hs_ hb; clear hb hbox hg; obtain ⟨hcz7_0, hcz7_1, hfz7_0, hfz7_1⟩ := bx2_ BK535; obtain ⟨Ao8, co8, eo8⟩ := Kd.R_slice HO533.out; subst eo8) | ((with_reducible refine gc_ 11 15 Tryz.func11 #[.agg #[.string t530, .slice Ao8 t531.length co8]] ?_); (with_reducible refine (impl_ReqOf.calls k t530 _ _ t531 t536 t537 t538 t539 t540 t541 t542 t543 t544 _ ?side1 ?side2 A3.out).mono ?_); (case side1 => refine (Kd.R_reads' (e := 91) (base := w.heap.size) (ok := fun k_ => True) (n := t531.length) (c := co8) ?_).2.2; exact (by (with_reducible repeat (first | apply Kd.R_alloc | apply Kd.R_drewN | apply Kd.R_drew)); exact (Kd.R_mono (Kd.R_far (p := ⟨gb535, 1, none⟩) (Kd.R_far (p := ⟨gb535, 0, none⟩) (Kd.R_types HO533.out BK535.out (by decide)) (fun _ hk => hk.2) (.string t530)) (fun _ hk => hk.2) (.slice Ao8 t531.length co8)) (fun _ h_ => h_.1)))); (case side2 => exact (Kd.R_reads' HO533.out).2.1); rintro e w9 ⟨rfl, hb⟩; refine ⟨_, rfl, ?_⟩; replace HO533 := Aside0.mk (Kd.R_below (by (with_reducible repeat (first | apply Kd.R_alloc | apply Kd.R_drewN | apply Kd.R_drew)); exact (Kd.R_mono (Kd.R_far (p := ⟨gb535, 1, none⟩) (Kd.R_far (p := ⟨gb535, 0, none⟩) (Kd.R_types HO533.out BK535.out (by decide)) (fun _ hk => hk.2) (.string t530)) (fun _ hk => hk.2) (.slice Ao8 t531.length co8)) (fun _ h_ => h_.1))) hb); replace BK535 := Aside0.mk (blk_below (g := gb535) (o := .cells #[.string t530, .slice Ao8 t531.length co8] 32 (0, 0)) (by (with_reducible repeat (first | refine blk_drewN ?_ _ | refine blk_drew ?_ | refine blk_alloc ?_ _)); apply bq2_1_0_; (with_reducible repeat (first | refine blk_drewN ?_ _ | refine blk_drew ?_ | refine blk_alloc ?_ _)); exact BK535.out) hb); replace HB := hs_ hb; clear hb) | ((with_reducible refine gate_dst (N := 5) rfl ?_); refine be_ (N := 5) (cs := #[.int .i64 0, .string (⟨#[]⟩ : ByteArray), .string (⟨#[]⟩ : ByteArray), .string (⟨#[]⟩ : ByteArray), .string (⟨#[]⟩ : ByteArray), .string (⟨#[]⟩ : ByteArray), .int .i64 0, .int .i64 0]) (t := 27) ?_; intro gb545 hg w10 hbox hb; replace HO533 := Aside0.mk (Kd.R_below (ra_ HO533) hb); have BK545 := Aside0.mk (hbox); have GW545 := gw_ (w := w) hg; have GE545 := gw_ (w := w) hg; replace HB := hs_ hb; have NB535_545 := Aside0.mk ((by rw [hg]; exact Nat.ne_of_lt (blk_lt (bk_ BK535)) : gb535 ≠ gb545)); have NB545_535 := Aside0.mk ((by rw [hg]; exact Nat.ne_of_gt (blk_lt (bk_ BK535)) : gb545 ≠ gb535)); replace BK535 := kb_ BK535 hb; clear hb hbox hg; have hnb11 := NB545_535.out; have hnc11 := NB535_545.out; obtain ⟨hcz12_0, hcz12_1, hcz12_2, hcz12_3, hcz12_4, hcz12_5, hcz12_6, hcz12_7, hfz12_0, hfz12_1, hfz12_2, hfz12_3, hfz12_4, hfz12_5, hfz12_6, hfz12_7⟩ := bx8_ BK545))
 (try simp only [Act.put, List.setIfInBounds_toArray, List.set_cons_zero, List.set_cons_succ])
 go_cut [23] (fun v23 wc => ∃ (kq : Nat) (x23_3 : Bool), v23 = .bool x23_3 ∧ Aside0 (impl_Asks.j0 kq x23_3 t536 t537 t538 t539 t540 t541 t542 t543 = some r) ∧ Aside0 (kq ≤ k) ∧ Aside0 (Kd.R k91 91 wc w.heap.size (fun _ => True) (.slice Ao8 t531.length co8) t531) ∧ Aside0 (wc.heap[gb535]? = some (.cells #[.string t530, (.slice Ao8 t531.length co8)] 32 (0, 0))) ∧ Aside0 (wc.heap[gb545]? = some (.cells #[.int .i64 t536, .string t537, .string t538, .string t539, .string t540, .string t541, .int .i64 t542, .int .i64 t543] 27 (0, 0))) ∧ Aside0 (Below w.heap.size w wc))
 case first =>
  have H := HC4.out
  clear HC4
  by_cases c13 : t534 = 0
  ·rw [if_pos c13] at H
   have c13b0 := beq_iff_eq.mpr c13
   have c13b1 := bne_eq_false_iff_eq.mpr c13
   clear c13
   (first | rw [c13b0] | (simp only [i64_w, i32_w]; rw [c13b0]) | skip)
   have H' := Aside0.mk H
   clear H
   go_wp2
   go_meet
   case rel => exact ⟨_, ((t544 != 0)), sp_, H', ⟨by first | omega | exact Nat.le_refl _⟩, ⟨by (with_reducible repeat (first | apply Kd.R_alloc | apply Kd.R_drewN | apply Kd.R_drew)); exact Kd.R_mono (Kd.R_far (p := ⟨gb545, 7, none⟩) (Kd.R_far (p := ⟨gb545, 6, none⟩) (Kd.R_far (p := ⟨gb545, 5, none⟩) (Kd.R_far (p := ⟨gb545, 4, none⟩) (Kd.R_far (p := ⟨gb545, 3, none⟩) (Kd.R_far (p := ⟨gb545, 2, none⟩) (Kd.R_far (p := ⟨gb545, 1, none⟩) (Kd.R_far (p := ⟨gb545, 0, none⟩) (Kd.R_types HO533.out BK545.out (by decide)) (fun _ hk => hk.2) (.int .i64 t536)) (fun _ hk => hk.2) (.string t537)) (fun _ hk => hk.2) (.string t538)) (fun _ hk => hk.2) (.string t539)) (fun _ hk => hk.2) (.string t540)) (fun _ hk => hk.2) (.string t541)) (fun _ hk => hk.2) (.int .i64 t542)) (fun _ hk => hk.2) (.int .i64 t543)) (fun _ hk => trivial)⟩, ⟨by (with_reducible repeat (first | refine blk_drewN ?_ _ | refine blk_drew ?_ | refine blk_alloc ?_ _)); refine blk_far ?_ NB535_545.out _; (with_reducible repeat (first | refine blk_drewN ?_ _ | refine blk_drew ?_ | refine blk_alloc ?_ _)); refine blk_far ?_ NB535_545.out _; (with_reducible repeat (first | refine blk_drewN ?_ _ | refine blk_drew ?_ | refine blk_alloc ?_ _)); refine blk_far ?_ NB535_545.out _; (with_reducible repeat (first | refine blk_drewN ?_ _ | refine blk_drew ?_ | refine blk_alloc ?_ _)); refine blk_far ?_ NB535_545.out _; (with_reducible repeat (first | refine blk_drewN ?_ _ | refine blk_drew ?_ | refine blk_alloc ?_ _)); refine blk_far ?_ NB535_545.out _; (with_reducible repeat (first | refine blk_drewN ?_ _ | refine blk_drew ?_ | refine blk_alloc ?_ _)); refine blk_far ?_ NB535_545.out _; (with_reducible repeat (first | refine blk_drewN ?_ _ | refine blk_drew ?_ | refine blk_alloc ?_ _)); refine blk_far ?_ NB535_545.out _; (with_reducible repeat (first | refine blk_drewN ?_ _ | refine blk_drew ?_ | refine blk_alloc ?_ _)); refine blk_far ?_ NB535_545.out _; (with_reducible repeat (first | refine blk_drewN ?_ _ | refine blk_drew ?_ | refine blk_alloc ?_ _)); exact BK535.out⟩, ⟨by (with_reducible repeat (first | refine blk_drewN ?_ _ | refine blk_drew ?_ | refine blk_alloc ?_ _)); apply bq8_7_6_5_4_3_2_1_0_; (with_reducible repeat (first | refine blk_drewN ?_ _ | refine blk_drew ?_ | refine blk_alloc ?_ _)); exact BK545.out⟩, ⟨bl_⟩⟩
  ·rw [if_neg c13] at H
   have c13b0 := beq_eq_false_iff_ne.mpr c13
   have c13b1 := bne_iff_ne.mpr c13
   (first | rw [c13b0] | (simp only [i64_w, i32_w]; rw [c13b0]) | skip)
   have H' := Aside0.mk H
   clear H
   go_wp2
   go_meet
   case rel => exact ⟨_, (true), sp_, H', ⟨by first | omega | exact Nat.le_refl _⟩, ⟨by (with_reducible repeat (first | apply Kd.R_alloc | apply Kd.R_drewN | apply Kd.R_drew)); exact Kd.R_mono (Kd.R_far (p := ⟨gb545, 7, none⟩) (Kd.R_far (p := ⟨gb545, 6, none⟩) (Kd.R_far (p := ⟨gb545, 5, none⟩) (Kd.R_far (p := ⟨gb545, 4, none⟩) (Kd.R_far (p := ⟨gb545, 3, none⟩) (Kd.R_far (p := ⟨gb545, 2, none⟩) (Kd.R_far (p := ⟨gb545, 1, none⟩) (Kd.R_far (p := ⟨gb545, 0, none⟩) (Kd.R_types HO533.out BK545.out (by decide)) (fun _ hk => hk.2) (.int .i64 t536)) (fun _ hk => hk.2) (.string t537)) (fun _ hk => hk.2) (.string t538)) (fun _ hk => hk.2) (.string t539)) (fun _ hk => hk.2) (.string t540)) (fun _ hk => hk.2) (.string t541)) (fun _ hk => hk.2) (.int .i64 t542)) (fun _ hk => hk.2) (.int .i64 t543)) (fun _ hk => trivial)⟩, ⟨by (with_reducible repeat (first | refine blk_drewN ?_ _ | refine blk_drew ?_ | refine blk_alloc ?_ _)); refine blk_far ?_ NB535_545.out _; (with_reducible repeat (first | refine blk_drewN ?_ _ | refine blk_drew ?_ | refine blk_alloc ?_ _)); refine blk_far ?_ NB535_545.out _; (with_reducible repeat (first | refine blk_drewN ?_ _ | refine blk_drew ?_ | refine blk_alloc ?_ _)); refine blk_far ?_ NB535_545.out _; (with_reducible repeat (first | refine blk_drewN ?_ _ | refine blk_drew ?_ | refine blk_alloc ?_ _)); refine blk_far ?_ NB535_545.out _; (with_reducible repeat (first | refine blk_drewN ?_ _ | refine blk_drew ?_ | refine blk_alloc ?_ _)); refine blk_far ?_ NB535_545.out _; (with_reducible repeat (first | refine blk_drewN ?_ _ | refine blk_drew ?_ | refine blk_alloc ?_ _)); refine blk_far ?_ NB535_545.out _; (with_reducible repeat (first | refine blk_drewN ?_ _ | refine blk_drew ?_ | refine blk_alloc ?_ _)); refine blk_far ?_ NB535_545.out _; (with_reducible repeat (first | refine blk_drewN ?_ _ | refine blk_drew ?_ | refine blk_alloc ?_ _)); refine blk_far ?_ NB535_545.out _; (with_reducible repeat (first | refine blk_drewN ?_ _ | refine blk_drew ?_ | refine blk_alloc ?_ _)); exact BK535.out⟩, ⟨by (with_reducible repeat (first | refine blk_drewN ?_ _ | refine blk_drew ?_ | refine blk_alloc ?_ _)); apply bq8_7_6_5_4_3_2_1_0_; (with_reducible repeat (first | refine blk_drewN ?_ _ | refine blk_drew ?_ | refine blk_alloc ?_ _)); exact BK545.out⟩, ⟨bl_⟩⟩
 case rest =>
  clear HC4
  obtain ⟨kq, x23_3, rfl, HA, HJ3, HO_536001, BK535, BK545, HB⟩ := hcut
  cases kq with
  | zero => exact absurd HA.out (by simp [impl_Asks.j0])
  | succ kj3 =>
   have H := HA.out
   clear HA
   simp only [impl_Asks.j0] at H
   by_cases c14 : x23_3 = true
   ·subst c14
    replace H := ip_ H
    obtain rfl := Option.some.inj H
    go_wp2
    go_ret
    exact ⟨_, by first | rfl | (simp [errW_none, errW_some] <;> rfl) | (simp [*, errW_none, errW_some] <;> rfl), by first | exact Kd.R_nil _ _ _ _ _ | exact Kd.N_nil _ _ _ _ _ | exact Kd.V_nil _ _ _ _ _ | exact Kd.Q_nil _ _ _ _ _ | exact Kd.S_nil _ _ _ _ _, bl_⟩
   replace c14 := Bool.eq_false_iff.mpr c14
   subst c14
   replace H := in_ H
   obtain ⟨y546, hy546⟩ : ∃ y_ : List ByteArray, y_ = (([t537] : List ByteArray)) := ⟨_, rfl⟩
   replace H : (if t536 = 6 then (if y546.length < 8796093022208 then ((slices_Sort_string_string.f (y546 ++ [t538])).bind fun t552 => ((slices_Compact_string_string.f t552).bind fun t553 => (some t553))) else (none)) else ((slices_Sort_string_string.f y546).bind fun t556 => ((slices_Compact_string_string.f t556).bind fun t557 => (some t557)))) = some r := by first | (rw [hy546]; with_reducible exact H) | (have H2_ := (Option.bind_some _ _).symm.trans H; rw [hy546]; with_reducible exact H2_) | (have H2_ := (Option.bind_some _ _).symm.trans H; with_reducible exact H2_) | with_reducible exact H | (rw [hy546]; exact H) | exact H
   have Ny546 := Aside0.mk hy546
   clear hy546
   by_cases c15 : t536 = 6
   ·rw [if_pos c15] at H
    have c15b0 := beq_iff_eq.mpr c15
    have c15b1 := bne_eq_false_iff_eq.mpr c15
    clear c15
    by_cases c16 : y546.length < 8796093022208
    ·rw [if_pos c16] at H
     have LMc16 := Aside0.mk c16
     clear c16
     obtain ⟨y549, hy549⟩ : ∃ y_ : List ByteArray, y_ = (y546 ++ [t538]) := ⟨_, rfl⟩
     replace H : ((slices_Sort_string_string.f y549).bind fun t552 => ((slices_Compact_string_string.f t552).bind fun t553 => (some t553))) = some r := by first | (rw [hy549]; with_reducible exact H) | (have H2_ := (Option.bind_some _ _).symm.trans H; rw [hy549]; with_reducible exact H2_) | (have H2_ := (Option.bind_some _ _).symm.trans H; with_reducible exact H2_) | with_reducible exact H | (rw [hy549]; exact H) | exact H
     have Ny549 := Aside0.mk hy549
     clear hy549
     obtain ⟨t552, A17, H⟩ := ob_ H
     obtain ⟨t553, A18, H⟩ := ob_ H
     obtain rfl := Option.some.inj H
     have hnb19 := NB545_535.out
     have hnc19 := NB535_545.out
     obtain ⟨hcz20_0, hcz20_1, hcz20_2, hcz20_3, hcz20_4, hcz20_5, hcz20_6, hcz20_7, hfz20_0, hfz20_1, hfz20_2, hfz20_3, hfz20_4, hfz20_5, hfz20_6, hfz20_7⟩ := bx8_ BK545
     go_wp2_with (first | ((with_reducible refine gate_dst (N := 26) rfl ?_); refine Kd.R_lit Kd.string _ 9 ?hg (N := 26) ?hd (xs := ([t537] : List ByteArray)) (inner := [.string t537]) (ok := fun _ => True) (okp := fun _ => True) ?hr ?hp (fun _ hk => hk) trivial (Below.refl _ _) (Nat.le_refl _) (by simp) ?_; (case hd => rfl); (case hg => rfl); (case hr => first | (go_simp; done) | (go_simp; rfl)); (case hp => exact (Reps.one (show Kd.M Kd.string _ _ _ t537 [.string t537] from rfl) (Reps.none _ _))); intro v547 w21 ho22 hb hg_ hnew_; clear hg_ hnew_; (first | rw [← Ny546.out] at ho22 | (simp only [Int.reduceToNat] at ho22; rw [← Ny546.out] at ho22)); replace HO_536001 := Aside0.mk (Kd.R_below (ra_ HO_536001) hb); have HO548 := Aside0.mk (Kd.R_lower ho22 (below_size bl_)); replace BK535 := kb_ BK535 hb; replace BK545 := kb_ BK545 hb; replace HB := hs_ hb; clear hb ho22; obtain ⟨hcz23_0, hcz23_1, hcz23_2, hcz23_3, hcz23_4, hcz23_5, hcz23_6, hcz23_7, hfz23_0, hfz23_1, hfz23_2, hfz23_3, hfz23_4, hfz23_5, hfz23_6, hfz23_7⟩ := bx8_ BK545) | ((with_reducible refine gate_builtin (b := .append) (xs := #[.tmp 30, .tmp 33]) rfl ?_); at_builtin; refine Kd.R_append Kd.string (w0 := w) w.heap.size rfl (.tmp 30) (.tmp 33) 38 9 (.string ⟨#[]⟩) 16 rfl Tryz.underlying38 info9 rfl (by decide) (by omega) v547 y546 t538 [.string t538] (fun _ => True) (fun _ => False) rfl rfl ?aP (fun _ hk => hk.elim) ?aF ?aO ?aB ?aS ?aL ?_; (case aP => exact rfl); (case aB => exact bl_); (case aF => exact (fun _ _ => trivial)); (case aO => exact (ra_ HO548)); (case aS => exact (below_size bl_)); (case aL => have := LMc16.out; omega); intro v550 w24 ho hb hg hat; rw [← Ny549.out] at ho; have n0_ := Aside0.mk (Kd.R_over' (ra_ HO_536001) (Kd.R_typed (ra_ HO548)) (by decide) hg); have n1_ := Aside0.mk (blk_grown (bk_ BK535) hg (Kd.R_ne HO548.out BK535.out (by decide))); have n2_ := Aside0.mk (blk_grown (bk_ BK545) hg (Kd.R_ne HO548.out BK545.out (by decide))); have n3_ := Aside0.mk (hb); have n4_ := Aside0.mk (ho); clear HO_536001; clear BK535; clear BK545; clear HB; clear HO548; have HO_536001 := n0_; have BK535 := n1_; have BK545 := n2_; have HB := n3_; have HO551 := n4_; clear n0_ n1_ n2_ n3_ n4_; clear ho hb hg hat; obtain ⟨Ao25, co25, eo25⟩ := Kd.R_slice HO551.out; subst eo25) | ((with_reducible refine gc_ 59 36 Tryz.func59 #[.slice Ao25 y549.length co25] ?_); (with_reducible refine (slices_Sort_string_string.calls (fun k_ => some k_ = (.slice Ao25 y549.length co25 : Value).ownBlock) (.slice Ao25 y549.length co25) y549 t552 w _ ?side1 ?side2 A17.out).mono ?_); (case side1 => repeat (first | (with_reducible first | exact HB.out | apply below_alloc | apply pw_below_drewN | apply below_drew1 | refine below_set ?_ GE535.out | refine below_set ?_ GE545.out) | exact HB.out)); (case side2 => exact Kd.R_tight rfl HO551.out); rintro e w26 ⟨rfl, hy0, hb, hkp⟩; refine ⟨_, rfl, ?_⟩; replace HO_536001 := Aside0.mk (Kd.R_mono (ok' := fun k_ => True) (Kd.R_keptB ((Kd.R_apart' HO_536001.out (Kd.R_typed HO551.out) (by decide))) hkp (fun k_ hk_ hs_ => (hk_.2) hs_)) (fun k_ hk_ => trivial)); replace BK535 := Aside0.mk (blk_kept (by (with_reducible repeat (first | refine blk_drewN ?_ _ | refine blk_drew ?_ | refine blk_alloc ?_ _)); exact BK535.out) hkp (fun hs_ => (fun e_ => (Kd.R_ne HO551.out BK535.out (by decide)) e_) hs_)); replace BK545 := Aside0.mk (blk_kept (by (with_reducible repeat (first | refine blk_drewN ?_ _ | refine blk_drew ?_ | refine blk_alloc ?_ _)); exact BK545.out) hkp (fun hs_ => (fun e_ => (Kd.R_ne HO551.out BK545.out (by decide)) e_) hs_)); replace HO551 := Aside0.mk (Kd.R_reok rfl hy0 (fun k_ e_ => HO551.out.1 k_ e_)); replace HB := Aside0.mk (hb); (try clear hb); (try clear hkp); (try clear hy0)) | ((with_reducible refine gc_ 60 38 Tryz.func60 #[.slice Ao25 y549.length co25] ?_); (with_reducible refine (slices_Compact_string_string.calls (fun k_ => some k_ = (.slice Ao25 y549.length co25 : Value).ownBlock) (.slice Ao25 y549.length co25) t552 t553 w _ ?side1 ?side2 A18.out).mono ?_); (case side1 => repeat (first | (with_reducible first | exact HB.out | apply below_alloc | apply pw_below_drewN | apply below_drew1 | refine below_set ?_ GE535.out | refine below_set ?_ GE545.out) | exact HB.out)); (case side2 => exact Kd.R_tight rfl HO551.out); rintro e w27 ⟨v554, rfl, ho0, hb, hkp⟩; refine ⟨_, rfl, ?_⟩; have n0_ := Aside0.mk (Kd.R_mono (ok' := fun k_ => True) (Kd.R_keptB ((Kd.R_apart' HO_536001.out (Kd.R_typed HO551.out) (by decide))) hkp (fun k_ hk_ hs_ => (hk_.2) hs_)) (fun k_ hk_ => trivial)); have n1_ := Aside0.mk (blk_kept (by (with_reducible repeat (first | refine blk_drewN ?_ _ | refine blk_drew ?_ | refine blk_alloc ?_ _)); exact BK535.out) hkp (fun hs_ => (fun e_ => (Kd.R_ne HO551.out BK535.out (by decide)) e_) hs_)); have n2_ := Aside0.mk (blk_kept (by (with_reducible repeat (first | refine blk_drewN ?_ _ | refine blk_drew ?_ | refine blk_alloc ?_ _)); exact BK545.out) hkp (fun hs_ => (fun e_ => (Kd.R_ne HO551.out BK545.out (by decide)) e_) hs_)); have n3_ := Aside0.mk (Kd.R_mono (ok' := fun k_ => True) ho0 (fun k_ hk_ => trivial)); have n4_ := Aside0.mk (hb); clear HO_536001; clear BK535; clear BK545; clear HB; clear HO551; have HO_536001 := n0_; have BK535 := n1_; have BK545 := n2_; have HO555 := n3_; have HB := n4_; clear n0_ n1_ n2_ n3_ n4_; (try clear hb); (try clear hkp); (try clear ho0)))
     go_ret
     exact ⟨_, by first | rfl | (simp [errW_none, errW_some] <;> rfl) | (simp [*, errW_none, errW_some] <;> rfl), ra_ HO555, bl_⟩
    ·rw [if_neg c16] at H
     exact absurd H (by simp)
   ·rw [if_neg c15] at H
    have c15b0 := beq_eq_false_iff_ne.mpr c15
    have c15b1 := bne_iff_ne.mpr c15
    obtain ⟨t556, A28, H⟩ := ob_ H
    obtain ⟨t557, A29, H⟩ := ob_ H
    obtain rfl := Option.some.inj H
    have hnb30 := NB545_535.out
    have hnc30 := NB535_545.out
    obtain ⟨hcz31_0, hcz31_1, hcz31_2, hcz31_3, hcz31_4, hcz31_5, hcz31_6, hcz31_7, hfz31_0, hfz31_1, hfz31_2, hfz31_3, hfz31_4, hfz31_5, hfz31_6, hfz31_7⟩ := bx8_ BK545
    go_wp2_with (first | ((with_reducible refine gate_dst (N := 26) rfl ?_); refine Kd.R_lit Kd.string _ 9 ?hg (N := 26) ?hd (xs := ([t537] : List ByteArray)) (inner := [.string t537]) (ok := fun _ => True) (okp := fun _ => True) ?hr ?hp (fun _ hk => hk) trivial (Below.refl _ _) (Nat.le_refl _) (by simp) ?_; (case hd => rfl); (case hg => rfl); (case hr => first | (go_simp; done) | (go_simp; rfl)); (case hp => exact (Reps.one (show Kd.M Kd.string _ _ _ t537 [.string t537] from rfl) (Reps.none _ _))); intro v547 w32 ho33 hb hg_ hnew_; clear hg_ hnew_; (first | rw [← Ny546.out] at ho33 | (simp only [Int.reduceToNat] at ho33; rw [← Ny546.out] at ho33)); replace HO_536001 := Aside0.mk (Kd.R_below (ra_ HO_536001) hb); have HO548 := Aside0.mk (Kd.R_lower ho33 (below_size bl_)); replace BK535 := kb_ BK535 hb; replace BK545 := kb_ BK545 hb; replace HB := hs_ hb; clear hb ho33; obtain ⟨hcz34_0, hcz34_1, hcz34_2, hcz34_3, hcz34_4, hcz34_5, hcz34_6, hcz34_7, hfz34_0, hfz34_1, hfz34_2, hfz34_3, hfz34_4, hfz34_5, hfz34_6, hfz34_7⟩ := bx8_ BK545; obtain ⟨Ao35, co35, eo35⟩ := Kd.R_slice HO548.out; subst eo35) | ((with_reducible refine gc_ 59 36 Tryz.func59 #[.slice Ao35 y546.length co35] ?_); (with_reducible refine (slices_Sort_string_string.calls (fun k_ => some k_ = (.slice Ao35 y546.length co35 : Value).ownBlock) (.slice Ao35 y546.length co35) y546 t556 w _ ?side1 ?side2 A28.out).mono ?_); (case side1 => repeat (first | (with_reducible first | exact HB.out | apply below_alloc | apply pw_below_drewN | apply below_drew1 | refine below_set ?_ GE535.out | refine below_set ?_ GE545.out) | exact HB.out)); (case side2 => exact Kd.R_tight rfl HO548.out); rintro e w36 ⟨rfl, hy0, hb, hkp⟩; refine ⟨_, rfl, ?_⟩; replace HO_536001 := Aside0.mk (Kd.R_mono (ok' := fun k_ => True) (Kd.R_keptB ((Kd.R_apart' HO_536001.out (Kd.R_typed HO548.out) (by decide))) hkp (fun k_ hk_ hs_ => (hk_.2) hs_)) (fun k_ hk_ => trivial)); replace BK535 := Aside0.mk (blk_kept (by (with_reducible repeat (first | refine blk_drewN ?_ _ | refine blk_drew ?_ | refine blk_alloc ?_ _)); exact BK535.out) hkp (fun hs_ => (fun e_ => (Kd.R_ne HO548.out BK535.out (by decide)) e_) hs_)); replace BK545 := Aside0.mk (blk_kept (by (with_reducible repeat (first | refine blk_drewN ?_ _ | refine blk_drew ?_ | refine blk_alloc ?_ _)); exact BK545.out) hkp (fun hs_ => (fun e_ => (Kd.R_ne HO548.out BK545.out (by decide)) e_) hs_)); replace HO548 := Aside0.mk (Kd.R_reok rfl hy0 (fun k_ e_ => HO548.out.1 k_ e_)); replace HB := Aside0.mk (hb); (try clear hb); (try clear hkp); (try clear hy0)) | ((with_reducible refine gc_ 60 38 Tryz.func60 #[.slice Ao35 y546.length co35] ?_); (with_reducible refine (slices_Compact_string_string.calls (fun k_ => some k_ = (.slice Ao35 y546.length co35 : Value).ownBlock) (.slice Ao35 y546.length co35) t556 t557 w _ ?side1 ?side2 A29.out).mono ?_); (case side1 => repeat (first | (with_reducible first | exact HB.out | apply below_alloc | apply pw_below_drewN | apply below_drew1 | refine below_set ?_ GE535.out | refine below_set ?_ GE545.out) | exact HB.out)); (case side2 => exact Kd.R_tight rfl HO548.out); rintro e w37 ⟨v558, rfl, ho0, hb, hkp⟩; refine ⟨_, rfl, ?_⟩; have n0_ := Aside0.mk (Kd.R_mono (ok' := fun k_ => True) (Kd.R_keptB ((Kd.R_apart' HO_536001.out (Kd.R_typed HO548.out) (by decide))) hkp (fun k_ hk_ hs_ => (hk_.2) hs_)) (fun k_ hk_ => trivial)); have n1_ := Aside0.mk (blk_kept (by (with_reducible repeat (first | refine blk_drewN ?_ _ | refine blk_drew ?_ | refine blk_alloc ?_ _)); exact BK535.out) hkp (fun hs_ => (fun e_ => (Kd.R_ne HO548.out BK535.out (by decide)) e_) hs_)); have n2_ := Aside0.mk (blk_kept (by (with_reducible repeat (first | refine blk_drewN ?_ _ | refine blk_drew ?_ | refine blk_alloc ?_ _)); exact BK545.out) hkp (fun hs_ => (fun e_ => (Kd.R_ne HO548.out BK545.out (by decide)) e_) hs_)); have n3_ := Aside0.mk (Kd.R_mono (ok' := fun k_ => True) ho0 (fun k_ hk_ => trivial)); have n4_ := Aside0.mk (hb); clear HO_536001; clear BK535; clear BK545; clear HB; clear HO548; have HO_536001 := n0_; have BK535 := n1_; have BK545 := n2_; have HO559 := n3_; have HB := n4_; clear n0_ n1_ n2_ n3_ n4_; (try clear hb); (try clear hkp); (try clear ho0)))
    go_ret
    exact ⟨_, by first | rfl | (simp [errW_none, errW_some] <;> rfl) | (simp [*, errW_none, errW_some] <;> rfl), ra_ HO559, bl_⟩
end Go.Proofs.YtohfefkjcnbejaaGreatDoor.QFnExactAsks
