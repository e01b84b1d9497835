-- by my own printer (myprint.py, over the kit's print.py)
import Derived.Test.YtohfefkjcnbejaaGreatDoorQFnExactReqOfx0
import Derived.Test.YtohfefkjcnbejaaGreatDoorQFnExactReqOfx8
import Derived.Test.YtohfefkjcnbejaaGreatDoorQFnExactReqOfx9
import Derived.Test.YtohfefkjcnbejaaGreatDoorQFnExactReqOfx11
import Derived.Test.YtohfefkjcnbejaaGreatDoorQFnExactReqOfx12
namespace Go.Proofs.YtohfefkjcnbejaaGreatDoor.QFnExactReqOf
open Go.RowKit Go.Proofs.YtohfefkjcnbejaaGreatDoorW.PrintWords Go.Proofs.YtohfefkjcnbejaaGreatDoorW.PrintLast Go.Proofs.YtohfefkjcnbejaaGreatDoorW.PrintMore
attribute [local go_sem] max2_int min2_int max_two min_two max_three min_three max_four min_four   -- for this text's walks alone
set_option linter.unusedVariables false
set_option linter.unusedSimpArgs false
attribute [local go_sem] my_geq my_leq my_gtr
/-! ### impl_ReqOk: function 55 -/
mutual
def impl_ReqOk.j0 : Nat → Bool → Int → ByteArray → ByteArray → ByteArray → ByteArray → ByteArray → Int → Int → Option (Bool)
 | 0, _, _, _, _, _, _, _, _, _ => none
 | k + 1, x32, x287000, x287001, x287002, x287003, x287004, x287005, x287006, x287007 => if x32 = true then (some false) else ((impl_uses.f k x287000 38).bind fun t296 => (if t296 = true then ((impl_HoldIdOk.f k x287003).bind fun t297 => (impl_ReqOk.j1 k t297 (x287006 == 0) (x287007 == 0) (x287002.toList == ([] : List UInt8)) x287000 x287001 x287002 x287003 x287004 x287005 x287006 x287007)) else (impl_ReqOk.j1 k (x287003.toList == ([] : List UInt8)) (x287006 == 0) (x287007 == 0) (x287002.toList == ([] : List UInt8)) x287000 x287001 x287002 x287003 x287004 x287005 x287006 x287007)))
def impl_ReqOk.j1 : Nat → Bool → Bool → Bool → Bool → Int → ByteArray → ByteArray → ByteArray → ByteArray → ByteArray → Int → Int → Option (Bool)
 | 0, _, _, _, _, _, _, _, _, _, _, _, _ => none
 | k + 1, x4, x5, x6, x7, x287000, x287001, x287002, x287003, x287004, x287005, x287006, x287007 => (impl_uses.f k x287000 4).bind fun t298 => (if t298 = true then ((impl_within.f x287006 0 999999999999).bind fun t299 => (impl_ReqOk.j2 k x4 t299 x6 x7 x287000 x287001 x287002 x287003 x287004 x287005 x287006 x287007)) else (impl_ReqOk.j2 k x4 x5 x6 x7 x287000 x287001 x287002 x287003 x287004 x287005 x287006 x287007))
def impl_ReqOk.j2 : Nat → Bool → Bool → Bool → Bool → Int → ByteArray → ByteArray → ByteArray → ByteArray → ByteArray → Int → Int → Option (Bool)
 | 0, _, _, _, _, _, _, _, _, _, _, _, _ => none
 | k + 1, x4, x5, x6, x7, x287000, x287001, x287002, x287003, x287004, x287005, x287006, x287007 => (impl_uses.f k x287000 14).bind fun t300 => (if t300 = true then ((impl_within.f x287007 0 9999).bind fun t301 => (impl_ReqOk.j3 k x4 x5 t301 x7 x287000 x287001 x287002 x287003 x287004 x287005 x287006 x287007)) else (impl_ReqOk.j3 k x4 x5 x6 x7 x287000 x287001 x287002 x287003 x287004 x287005 x287006 x287007))
def impl_ReqOk.j3 : Nat → Bool → Bool → Bool → Bool → Int → ByteArray → ByteArray → ByteArray → ByteArray → ByteArray → Int → Int → Option (Bool)
 | 0, _, _, _, _, _, _, _, _, _, _, _, _ => none
 | k + 1, x4, x5, x6, x7, x287000, x287001, x287002, x287003, x287004, x287005, x287006, x287007 => (impl_uses.f k x287000 103).bind fun t302 => (if t302 = true then ((impl_AcctIdOk.f k x287002).bind fun t303 => (if x4 = true then (if x5 = true then (if x6 = true then (some t303) else (some false)) else (some false)) else (some false))) else (if x4 = true then (if x5 = true then (if x6 = true then (some x7) else (some false)) else (some false)) else (some false)))
end
def impl_ReqOk.f (k : Nat) (a0_0 : Int) (a0_1 : ByteArray) (a0_2 : ByteArray) (a0_3 : ByteArray) (a0_4 : ByteArray) (a0_5 : ByteArray) (a0_6 : Int) (a0_7 : Int) : Option (Bool) := (impl_opOf.f a0_0).bind fun bt287 => (if bt287.2.2.1.toList = ([] : List UInt8) then (impl_ReqOk.j0 k true a0_0 a0_1 a0_2 a0_3 a0_4 a0_5 a0_6 a0_7) else (if a0_5.toList = bt287.1.toList then ((impl_AcctIdOk.f k a0_1).bind fun t294 => (if t294 = true then ((impl_isWide.f k a0_4 6).bind fun t295 => (impl_ReqOk.j0 k (!t295) a0_0 a0_1 a0_2 a0_3 a0_4 a0_5 a0_6 a0_7)) else (impl_ReqOk.j0 k true a0_0 a0_1 a0_2 a0_3 a0_4 a0_5 a0_6 a0_7))) else (impl_ReqOk.j0 k true a0_0 a0_1 a0_2 a0_3 a0_4 a0_5 a0_6 a0_7)))
set_option maxHeartbeats 8000000 in
set_option maxRecDepth 100000 in
theorem impl_ReqOk.calls (k : Nat) (a0_0 : Int) (a0_1 : ByteArray) (a0_2 : ByteArray) (a0_3 : ByteArray) (a0_4 : ByteArray) (a0_5 : ByteArray) (a0_6 : Int) (a0_7 : Int) (r : Bool) (w : World) (h : impl_ReqOk.f k a0_0 a0_1 a0_2 a0_3 a0_4 a0_5 a0_6 a0_7 = some r) :
  Calls Tryz.prog 55 #[.agg #[.int .i64 a0_0, .string a0_1, .string a0_2, .string a0_3, .string a0_4, .string a0_5, .int .i64 a0_6, .int .i64 a0_7]] w fun e w' => e = .returned (.bool r) ∧ Below w.heap.size w w' := by
 have hu27 := Tryz.underlying27
 have hu74 := Tryz.underlying74
 have HB := Aside0.mk (Below.refl w.heap.size w)
 have H : ((impl_opOf.f a0_0).bind fun bt287 => (if bt287.2.2.1.toList = ([] : List UInt8) then (impl_ReqOk.j0 k true a0_0 a0_1 a0_2 a0_3 a0_4 a0_5 a0_6 a0_7) else (if a0_5.toList = bt287.1.toList then ((impl_AcctIdOk.f k a0_1).bind fun t294 => (if t294 = true then ((impl_isWide.f k a0_4 6).bind fun t295 => (impl_ReqOk.j0 k (!t295) a0_0 a0_1 a0_2 a0_3 a0_4 a0_5 a0_6 a0_7)) else (impl_ReqOk.j0 k true a0_0 a0_1 a0_2 a0_3 a0_4 a0_5 a0_6 a0_7))) else (impl_ReqOk.j0 k true a0_0 a0_1 a0_2 a0_3 a0_4 a0_5 a0_6 a0_7)))) = some r := h
 clear h
 obtain ⟨⟨t287, t288, t289, t290⟩, A2, H⟩ := ob_ H
 (try dsimp only at H)
 have HC3 := Aside0.mk H
 clear H
 go_enter Tryz.func55, Tryz.ntmps55
 go_upto_region 2 with (first | ((with_reducible refine gate_dst (N := 1) rfl ?_); refine be_ (N := 1) (cs := #[.int .i64 a0_0, .string a0_1, .string a0_2, .string a0_3, .string a0_4, .string a0_5, .int .i64 a0_6, .int .i64 a0_7]) (t := 27) ?_; intro gb286 hg w4 hbox hb; have BK286 := Aside0.mk (hbox); have GW286 := gw_ (w := w) hg; have GE286 := gw_ (w := w) hg; replace HB := Aside0.mk (below_step bl_ hb); clear hb hbox hg; obtain ⟨hcz5_0, hcz5_1, hcz5_2, hcz5_3, hcz5_4, hcz5_5, hcz5_6, hcz5_7, hfz5_0, hfz5_1, hfz5_2, hfz5_3, hfz5_4, hfz5_5, hfz5_6, hfz5_7⟩ := bx8_ BK286) | (go_at_call 52; (with_reducible refine (impl_opOf.calls a0_0 t287 t288 t289 t290 _ A2.out).mono ?_); rintro e w6 ⟨v291, rfl, ho0, hb⟩; have HO292 := Aside0.mk (Kd.V_lower (Kd.V_mono (ok' := fun k_ => k_ ≠ gb286) ho0 (fun k_ hk_ => (Kd.freshB (bk_ BK286) k_ hk_))) (below_size bl_)); replace BK286 := Aside0.mk (blk_below (bk_ BK286) hb); replace HB := Aside0.mk (below_step bl_ hb); (try clear hb); (try clear hb2); (try clear hk); (try clear hi); (try clear ho0)) | ((with_reducible refine gate_dst (N := 3) rfl ?_); refine be_ (N := 3) (cs := #[.string (⟨#[]⟩ : ByteArray), .string (⟨#[]⟩ : ByteArray), .string (⟨#[]⟩ : ByteArray), .slice none 0 0]) (t := 74) ?_; intro gb293 hg w7 hbox hb; replace HO292 := Aside0.mk (Kd.V_below (Kd.V_elderB (by (with_reducible repeat (first | apply Kd.V_alloc | apply Kd.V_drewN | apply Kd.V_drew)); exact HO292.out) gb293 (Nat.le_of_eq hg.symm)) hb); have BK293 := Aside0.mk (hbox); have GW293 := gw_ (w := w) hg; have GE293 := gw_ (w := w) hg; replace HB := Aside0.mk (below_step bl_ hb); have NB286_293 := Aside0.mk ((by rw [hg]; exact Nat.ne_of_lt (blk_lt (bk_ BK286)) : gb286 ≠ gb293)); have NB293_286 := Aside0.mk ((by rw [hg]; exact Nat.ne_of_gt (blk_lt (bk_ BK286)) : gb293 ≠ gb286)); replace BK286 := Aside0.mk (blk_below (bk_ BK286) hb); clear hb hbox hg; have hnb8 := NB293_286.out; have hnc8 := NB286_293.out; obtain ⟨hcz9_0, hcz9_1, hcz9_2, hcz9_3, hfz9_0, hfz9_1, hfz9_2, hfz9_3⟩ := bx4_ BK293; obtain ⟨Ao10, co10, eo10⟩ := Kd.V_slice HO292.out; subst eo10))
 repeat (go_quiet (first | ((with_reducible refine gate_dst (N := 1) rfl ?_); refine be_ (N := 1) (cs := #[.int .i64 a0_0, .string a0_1, .string a0_2, .string a0_3, .string a0_4, .string a0_5, .int .i64 a0_6, .int .i64 a0_7]) (t := 27) ?_; intro gb286 hg w4 hbox hb; have BK286 := Aside0.mk (hbox); have GW286 := gw_ (w := w) hg; have GE286 := gw_ (w := w) hg; replace HB := Aside0.mk (below_step bl_ hb); clear hb hbox hg; obtain ⟨hcz5_0, hcz5_1, hcz5_2, hcz5_3, hcz5_4, hcz5_5, hcz5_6, hcz5_7, hfz5_0, hfz5_1, hfz5_2, hfz5_3, hfz5_4, hfz5_5, hfz5_6, hfz5_7⟩ := bx8_ BK286) | (go_at_call 52; (with_reducible refine (impl_opOf.calls a0_0 t287 t288 t289 t290 _ A2.out).mono ?_); rintro e w6 ⟨v291, rfl, ho0, hb⟩; have HO292 := Aside0.mk (Kd.V_lower (Kd.V_mono (ok' := fun k_ => k_ ≠ gb286) ho0 (fun k_ hk_ => (Kd.freshB (bk_ BK286) k_ hk_))) (below_size bl_)); replace BK286 := Aside0.mk (blk_below (bk_ BK286) hb); replace HB := Aside0.mk (below_step bl_ hb); (try clear hb); (try clear hb2); (try clear hk); (try clear hi); (try clear ho0)) | ((with_reducible refine gate_dst (N := 3) rfl ?_); refine be_ (N := 3) (cs := #[.string (⟨#[]⟩ : ByteArray), .string (⟨#[]⟩ : ByteArray), .string (⟨#[]⟩ : ByteArray), .slice none 0 0]) (t := 74) ?_; intro gb293 hg w7 hbox hb; replace HO292 := Aside0.mk (Kd.V_below (Kd.V_elderB (by (with_reducible repeat (first | apply Kd.V_alloc | apply Kd.V_drewN | apply Kd.V_drew)); exact HO292.out) gb293 (Nat.le_of_eq hg.symm)) hb); have BK293 := Aside0.mk (hbox); have GW293 := gw_ (w := w) hg; have GE293 := gw_ (w := w) hg; replace HB := Aside0.mk (below_step bl_ hb); have NB286_293 := Aside0.mk ((by rw [hg]; exact Nat.ne_of_lt (blk_lt (bk_ BK286)) : gb286 ≠ gb293)); have NB293_286 := Aside0.mk ((by rw [hg]; exact Nat.ne_of_gt (blk_lt (bk_ BK286)) : gb293 ≠ gb286)); replace BK286 := Aside0.mk (blk_below (bk_ BK286) hb); clear hb hbox hg; have hnb8 := NB293_286.out; have hnc8 := NB286_293.out; obtain ⟨hcz9_0, hcz9_1, hcz9_2, hcz9_3, hfz9_0, hfz9_1, hfz9_2, hfz9_3⟩ := bx4_ BK293; obtain ⟨Ao10, co10, eo10⟩ := Kd.V_slice HO292.out; subst eo10)); go_upto_region 2 with (first | ((with_reducible refine gate_dst (N := 1) rfl ?_); refine be_ (N := 1) (cs := #[.int .i64 a0_0, .string a0_1, .string a0_2, .string a0_3, .string a0_4, .string a0_5, .int .i64 a0_6, .int .i64 a0_7]) (t := 27) ?_; intro gb286 hg w4 hbox hb; have BK286 := Aside0.mk (hbox); have GW286 := gw_ (w := w) hg; have GE286 := gw_ (w := w) hg; replace HB := Aside0.mk (below_step bl_ hb); clear hb hbox hg; obtain ⟨hcz5_0, hcz5_1, hcz5_2, hcz5_3, hcz5_4, hcz5_5, hcz5_6, hcz5_7, hfz5_0, hfz5_1, hfz5_2, hfz5_3, hfz5_4, hfz5_5, hfz5_6, hfz5_7⟩ := bx8_ BK286) | (go_at_call 52; (with_reducible refine (impl_opOf.calls a0_0 t287 t288 t289 t290 _ A2.out).mono ?_); rintro e w6 ⟨v291, rfl, ho0, hb⟩; have HO292 := Aside0.mk (Kd.V_lower (Kd.V_mono (ok' := fun k_ => k_ ≠ gb286) ho0 (fun k_ hk_ => (Kd.freshB (bk_ BK286) k_ hk_))) (below_size bl_)); replace BK286 := Aside0.mk (blk_below (bk_ BK286) hb); replace HB := Aside0.mk (below_step bl_ hb); (try clear hb); (try clear hb2); (try clear hk); (try clear hi); (try clear ho0)) | ((with_reducible refine gate_dst (N := 3) rfl ?_); refine be_ (N := 3) (cs := #[.string (⟨#[]⟩ : ByteArray), .string (⟨#[]⟩ : ByteArray), .string (⟨#[]⟩ : ByteArray), .slice none 0 0]) (t := 74) ?_; intro gb293 hg w7 hbox hb; replace HO292 := Aside0.mk (Kd.V_below (Kd.V_elderB (by (with_reducible repeat (first | apply Kd.V_alloc | apply Kd.V_drewN | apply Kd.V_drew)); exact HO292.out) gb293 (Nat.le_of_eq hg.symm)) hb); have BK293 := Aside0.mk (hbox); have GW293 := gw_ (w := w) hg; have GE293 := gw_ (w := w) hg; replace HB := Aside0.mk (below_step bl_ hb); have NB286_293 := Aside0.mk ((by rw [hg]; exact Nat.ne_of_lt (blk_lt (bk_ BK286)) : gb286 ≠ gb293)); have NB293_286 := Aside0.mk ((by rw [hg]; exact Nat.ne_of_gt (blk_lt (bk_ BK286)) : gb293 ≠ gb286)); replace BK286 := Aside0.mk (blk_below (bk_ BK286) hb); clear hb hbox hg; have hnb8 := NB293_286.out; have hnc8 := NB286_293.out; obtain ⟨hcz9_0, hcz9_1, hcz9_2, hcz9_3, hfz9_0, hfz9_1, hfz9_2, hfz9_3⟩ := bx4_ BK293; obtain ⟨Ao10, co10, eo10⟩ := Kd.V_slice HO292.out; subst eo10)))
 (try simp only [Act.put, List.setIfInBounds_toArray, List.set_cons_zero, List.set_cons_succ])
 go_cut [32] (fun v32 wc => ∃ (kq : Nat) (x32_2 : Bool), v32 = .bool x32_2 ∧ Aside0 (impl_ReqOk.j0 kq x32_2 a0_0 a0_1 a0_2 a0_3 a0_4 a0_5 a0_6 a0_7 = some r) ∧ Aside0 (kq ≤ k) ∧ Aside0 (Kd.V (Kd.int .i64) 3 wc w.heap.size (fun k_ => k_ ≠ gb286 ∧ k_ ≠ gb293) (.slice Ao10 t290.length co10) t290) ∧ Aside0 (wc.heap[gb286]? = some (.cells #[.int .i64 a0_0, .string a0_1, .string a0_2, .string a0_3, .string a0_4, .string a0_5, .int .i64 a0_6, .int .i64 a0_7] 27 (0, 0))) ∧ Aside0 (wc.heap[gb293]? = some (.cells #[.string t287, .string t288, .string t289, (.slice Ao10 t290.length co10)] 74 (0, 0))) ∧ Aside0 (Below w.heap.size w wc))
 case first =>
  have H := HC3.out
  clear HC3
  by_cases c11 : t289.toList = ([] : List UInt8)
  ·rw [if_pos c11] at H
   have c11b0 : (t289.toList == ([] : List UInt8)) = true := beq_iff_eq.mpr c11
   have c11b1 : (t289.toList != ([] : List UInt8)) = false := bne_eq_false_iff_eq.mpr c11
   clear c11
   (first | rw [c11b0] | (simp only [i64_w, i32_w]; rw [c11b0]) | skip)
   have H' := Aside0.mk H
   clear H
   have hnb12 := NB293_286.out
   have hnc12 := NB286_293.out
   have hcz13_0 := cz_ BK293 0 (.string (⟨#[]⟩ : ByteArray))
   have hcz13_1 := cz_ BK293 1 (.string (⟨#[]⟩ : ByteArray))
   have hcz13_2 := cz_ BK293 2 (.string (⟨#[]⟩ : ByteArray))
   have hcz13_3 := cz_ BK293 3 (.slice none 0 0)
   have hfz13_0 := fz_ BK293 0
   have hfz13_1 := fz_ BK293 1
   have hfz13_2 := fz_ BK293 2
   have hfz13_3 := fz_ BK293 3
   go_wp2
   repeat (go_quiet (fail); try go_wp2)
   go_meet
   case rel => exact ⟨_, (true), sp_, H', ⟨by first | omega | exact Nat.le_refl _⟩, ⟨by (with_reducible repeat (first | apply Kd.V_alloc | apply Kd.V_drewN | apply Kd.V_drew)); exact Kd.V_mono (Kd.V_far (p := ⟨gb293, 3, none⟩) (Kd.V_far (p := ⟨gb293, 2, none⟩) (Kd.V_far (p := ⟨gb293, 1, none⟩) (Kd.V_far (p := ⟨gb293, 0, none⟩) (Kd.V_mono HO292.out (fun k_ hk => (⟨hk, hk.2⟩ : _ ∧ k_ ≠ gb293))) (fun _ hk => hk.2) (.string t287)) (fun _ hk => hk.2) (.string t288)) (fun _ hk => hk.2) (.string t289)) (fun _ hk => hk.2) (.slice Ao10 t290.length co10)) (fun _ hk => ⟨hk.1.1, hk.1.2⟩)⟩, ⟨by (with_reducible repeat (first | refine blk_drewN ?_ _ | refine blk_drew ?_ | refine blk_alloc ?_ _)); refine blk_far ?_ NB286_293.out _; (with_reducible repeat (first | refine blk_drewN ?_ _ | refine blk_drew ?_ | refine blk_alloc ?_ _)); refine blk_far ?_ NB286_293.out _; (with_reducible repeat (first | refine blk_drewN ?_ _ | refine blk_drew ?_ | refine blk_alloc ?_ _)); refine blk_far ?_ NB286_293.out _; (with_reducible repeat (first | refine blk_drewN ?_ _ | refine blk_drew ?_ | refine blk_alloc ?_ _)); refine blk_far ?_ NB286_293.out _; (with_reducible repeat (first | refine blk_drewN ?_ _ | refine blk_drew ?_ | refine blk_alloc ?_ _)); exact BK286.out⟩, ⟨by (with_reducible repeat (first | refine blk_drewN ?_ _ | refine blk_drew ?_ | refine blk_alloc ?_ _)); apply bq4_3_2_1_0_; (with_reducible repeat (first | refine blk_drewN ?_ _ | refine blk_drew ?_ | refine blk_alloc ?_ _)); exact BK293.out⟩, ⟨bl_⟩⟩
  ·rw [if_neg c11] at H
   have c11b0 : (t289.toList == ([] : List UInt8)) = false := beq_eq_false_iff_ne.mpr c11
   have c11b1 : (t289.toList != ([] : List UInt8)) = true := bne_iff_ne.mpr c11
   (first | rw [c11b0] | (simp only [i64_w, i32_w]; rw [c11b0]) | skip)
   by_cases c14 : a0_5.toList = t287.toList
   ·rw [if_pos c14] at H
    have c14b0 : (a0_5.toList == t287.toList) = true := beq_iff_eq.mpr c14
    have c14b1 : (a0_5.toList != t287.toList) = false := bne_eq_false_iff_eq.mpr c14
    clear c14
    obtain ⟨t294, A15, H⟩ := ob_ H
    by_cases c16 : t294 = true
    ·subst c16
     replace H := ip_ H
     obtain ⟨t295, A17, H⟩ := ob_ H
     have H' := Aside0.mk H
     clear H
     have hnb18 := NB293_286.out
     have hnc18 := NB286_293.out
     have hcz19_0 := cz_ BK293 0 (.string (⟨#[]⟩ : ByteArray))
     have hcz19_1 := cz_ BK293 1 (.string (⟨#[]⟩ : ByteArray))
     have hcz19_2 := cz_ BK293 2 (.string (⟨#[]⟩ : ByteArray))
     have hcz19_3 := cz_ BK293 3 (.slice none 0 0)
     have hfz19_0 := fz_ BK293 0
     have hfz19_1 := fz_ BK293 1
     have hfz19_2 := fz_ BK293 2
     have hfz19_3 := fz_ BK293 3
     have hcz20_0 := cz_ BK286 0 (.int .i64 a0_0)
     have hcz20_1 := cz_ BK286 1 (.string a0_1)
     have hcz20_2 := cz_ BK286 2 (.string a0_2)
     have hcz20_3 := cz_ BK286 3 (.string a0_3)
     have hcz20_4 := cz_ BK286 4 (.string a0_4)
     have hcz20_5 := cz_ BK286 5 (.string a0_5)
     have hcz20_6 := cz_ BK286 6 (.int .i64 a0_6)
     have hcz20_7 := cz_ BK286 7 (.int .i64 a0_7)
     have hfz20_0 := fz_ BK286 0
     have hfz20_1 := fz_ BK286 1
     have hfz20_2 := fz_ BK286 2
     have hfz20_3 := fz_ BK286 3
     have hfz20_4 := fz_ BK286 4
     have hfz20_5 := fz_ BK286 5
     have hfz20_6 := fz_ BK286 6
     have hfz20_7 := fz_ BK286 7
     go_wp2_with (first | (go_at_call 89; (with_reducible refine (impl_AcctIdOk.calls k a0_1 true _ A15.out).mono ?_); rintro e w' ⟨rfl, ⟨nd, rfl⟩⟩; (try first | exact ⟨rfl, _, World.drewN_drewN _ _ _⟩ | exact ⟨rfl, _, Eq.trans (World.drewN_drewN _ _ _) (congrArg (World.drewN _) (Nat.add_assoc _ _ _))⟩)) | (go_at_call 85; (with_reducible refine (impl_isWide.calls k a0_4 6 t295 _ A17.out).mono ?_); rintro e w' ⟨rfl, ⟨nd, rfl⟩⟩; (try first | exact ⟨rfl, _, World.drewN_drewN _ _ _⟩ | exact ⟨rfl, _, Eq.trans (World.drewN_drewN _ _ _) (congrArg (World.drewN _) (Nat.add_assoc _ _ _))⟩)))
     repeat (go_quiet (first | (go_at_call 89; (with_reducible refine (impl_AcctIdOk.calls k a0_1 true _ A15.out).mono ?_); rintro e w' ⟨rfl, ⟨nd, rfl⟩⟩; (try first | exact ⟨rfl, _, World.drewN_drewN _ _ _⟩ | exact ⟨rfl, _, Eq.trans (World.drewN_drewN _ _ _) (congrArg (World.drewN _) (Nat.add_assoc _ _ _))⟩)) | (go_at_call 85; (with_reducible refine (impl_isWide.calls k a0_4 6 t295 _ A17.out).mono ?_); rintro e w' ⟨rfl, ⟨nd, rfl⟩⟩; (try first | exact ⟨rfl, _, World.drewN_drewN _ _ _⟩ | exact ⟨rfl, _, Eq.trans (World.drewN_drewN _ _ _) (congrArg (World.drewN _) (Nat.add_assoc _ _ _))⟩))); try go_wp2_with (first | (go_at_call 89; (with_reducible refine (impl_AcctIdOk.calls k a0_1 true _ A15.out).mono ?_); rintro e w' ⟨rfl, ⟨nd, rfl⟩⟩; (try first | exact ⟨rfl, _, World.drewN_drewN _ _ _⟩ | exact ⟨rfl, _, Eq.trans (World.drewN_drewN _ _ _) (congrArg (World.drewN _) (Nat.add_assoc _ _ _))⟩)) | (go_at_call 85; (with_reducible refine (impl_isWide.calls k a0_4 6 t295 _ A17.out).mono ?_); rintro e w' ⟨rfl, ⟨nd, rfl⟩⟩; (try first | exact ⟨rfl, _, World.drewN_drewN _ _ _⟩ | exact ⟨rfl, _, Eq.trans (World.drewN_drewN _ _ _) (congrArg (World.drewN _) (Nat.add_assoc _ _ _))⟩))))
     go_meet
     case rel => exact ⟨_, (!t295), sp_, H', ⟨by first | omega | exact Nat.le_refl _⟩, ⟨by (with_reducible repeat (first | apply Kd.V_alloc | apply Kd.V_drewN | apply Kd.V_drew)); exact Kd.V_mono (Kd.V_far (p := ⟨gb293, 3, none⟩) (Kd.V_far (p := ⟨gb293, 2, none⟩) (Kd.V_far (p := ⟨gb293, 1, none⟩) (Kd.V_far (p := ⟨gb293, 0, none⟩) (Kd.V_mono HO292.out (fun k_ hk => (⟨hk, hk.2⟩ : _ ∧ k_ ≠ gb293))) (fun _ hk => hk.2) (.string t287)) (fun _ hk => hk.2) (.string t288)) (fun _ hk => hk.2) (.string t289)) (fun _ hk => hk.2) (.slice Ao10 t290.length co10)) (fun _ hk => ⟨hk.1.1, hk.1.2⟩)⟩, ⟨by (with_reducible repeat (first | refine blk_drewN ?_ _ | refine blk_drew ?_ | refine blk_alloc ?_ _)); refine blk_far ?_ NB286_293.out _; (with_reducible repeat (first | refine blk_drewN ?_ _ | refine blk_drew ?_ | refine blk_alloc ?_ _)); refine blk_far ?_ NB286_293.out _; (with_reducible repeat (first | refine blk_drewN ?_ _ | refine blk_drew ?_ | refine blk_alloc ?_ _)); refine blk_far ?_ NB286_293.out _; (with_reducible repeat (first | refine blk_drewN ?_ _ | refine blk_drew ?_ | refine blk_alloc ?_ _)); refine blk_far ?_ NB286_293.out _; (with_reducible repeat (first | refine blk_drewN ?_ _ | refine blk_drew ?_ | refine blk_alloc ?_ _)); exact BK286.out⟩, ⟨by (with_reducible repeat (first | refine blk_drewN ?_ _ | refine blk_drew ?_ | refine blk_alloc ?_ _)); apply bq4_3_2_1_0_; (with_reducible repeat (first | refine blk_drewN ?_ _ | refine blk_drew ?_ | refine blk_alloc ?_ _)); exact BK293.out⟩, ⟨bl_⟩⟩
    ·replace c16 := Bool.eq_false_iff.mpr c16
     subst c16
     replace H := in_ H
     have H' := Aside0.mk H
     clear H
     have hnb21 := NB293_286.out
     have hnc21 := NB286_293.out
     have hcz22_0 := cz_ BK293 0 (.string (⟨#[]⟩ : ByteArray))
     have hcz22_1 := cz_ BK293 1 (.string (⟨#[]⟩ : ByteArray))
     have hcz22_2 := cz_ BK293 2 (.string (⟨#[]⟩ : ByteArray))
     have hcz22_3 := cz_ BK293 3 (.slice none 0 0)
     have hfz22_0 := fz_ BK293 0
     have hfz22_1 := fz_ BK293 1
     have hfz22_2 := fz_ BK293 2
     have hfz22_3 := fz_ BK293 3
     have hcz23_0 := cz_ BK286 0 (.int .i64 a0_0)
     have hcz23_1 := cz_ BK286 1 (.string a0_1)
     have hcz23_2 := cz_ BK286 2 (.string a0_2)
     have hcz23_3 := cz_ BK286 3 (.string a0_3)
     have hcz23_4 := cz_ BK286 4 (.string a0_4)
     have hcz23_5 := cz_ BK286 5 (.string a0_5)
     have hcz23_6 := cz_ BK286 6 (.int .i64 a0_6)
     have hcz23_7 := cz_ BK286 7 (.int .i64 a0_7)
     have hfz23_0 := fz_ BK286 0
     have hfz23_1 := fz_ BK286 1
     have hfz23_2 := fz_ BK286 2
     have hfz23_3 := fz_ BK286 3
     have hfz23_4 := fz_ BK286 4
     have hfz23_5 := fz_ BK286 5
     have hfz23_6 := fz_ BK286 6
     have hfz23_7 := fz_ BK286 7
     go_wp2_with (first | (go_at_call 89; (with_reducible refine (impl_AcctIdOk.calls k a0_1 false _ A15.out).mono ?_); rintro e w' ⟨rfl, ⟨nd, rfl⟩⟩; (try first | exact ⟨rfl, _, World.drewN_drewN _ _ _⟩ | exact ⟨rfl, _, Eq.trans (World.drewN_drewN _ _ _) (congrArg (World.drewN _) (Nat.add_assoc _ _ _))⟩)))
     repeat (go_quiet (first | (go_at_call 89; (with_reducible refine (impl_AcctIdOk.calls k a0_1 false _ A15.out).mono ?_); rintro e w' ⟨rfl, ⟨nd, rfl⟩⟩; (try first | exact ⟨rfl, _, World.drewN_drewN _ _ _⟩ | exact ⟨rfl, _, Eq.trans (World.drewN_drewN _ _ _) (congrArg (World.drewN _) (Nat.add_assoc _ _ _))⟩))); try go_wp2_with (first | (go_at_call 89; (with_reducible refine (impl_AcctIdOk.calls k a0_1 false _ A15.out).mono ?_); rintro e w' ⟨rfl, ⟨nd, rfl⟩⟩; (try first | exact ⟨rfl, _, World.drewN_drewN _ _ _⟩ | exact ⟨rfl, _, Eq.trans (World.drewN_drewN _ _ _) (congrArg (World.drewN _) (Nat.add_assoc _ _ _))⟩))))
     go_meet
     case rel => exact ⟨_, (true), sp_, H', ⟨by first | omega | exact Nat.le_refl _⟩, ⟨by (with_reducible repeat (first | apply Kd.V_alloc | apply Kd.V_drewN | apply Kd.V_drew)); exact Kd.V_mono (Kd.V_far (p := ⟨gb293, 3, none⟩) (Kd.V_far (p := ⟨gb293, 2, none⟩) (Kd.V_far (p := ⟨gb293, 1, none⟩) (Kd.V_far (p := ⟨gb293, 0, none⟩) (Kd.V_mono HO292.out (fun k_ hk => (⟨hk, hk.2⟩ : _ ∧ k_ ≠ gb293))) (fun _ hk => hk.2) (.string t287)) (fun _ hk => hk.2) (.string t288)) (fun _ hk => hk.2) (.string t289)) (fun _ hk => hk.2) (.slice Ao10 t290.length co10)) (fun _ hk => ⟨hk.1.1, hk.1.2⟩)⟩, ⟨by (with_reducible repeat (first | refine blk_drewN ?_ _ | refine blk_drew ?_ | refine blk_alloc ?_ _)); refine blk_far ?_ NB286_293.out _; (with_reducible repeat (first | refine blk_drewN ?_ _ | refine blk_drew ?_ | refine blk_alloc ?_ _)); refine blk_far ?_ NB286_293.out _; (with_reducible repeat (first | refine blk_drewN ?_ _ | refine blk_drew ?_ | refine blk_alloc ?_ _)); refine blk_far ?_ NB286_293.out _; (with_reducible repeat (first | refine blk_drewN ?_ _ | refine blk_drew ?_ | refine blk_alloc ?_ _)); refine blk_far ?_ NB286_293.out _; (with_reducible repeat (first | refine blk_drewN ?_ _ | refine blk_drew ?_ | refine blk_alloc ?_ _)); exact BK286.out⟩, ⟨by (with_reducible repeat (first | refine blk_drewN ?_ _ | refine blk_drew ?_ | refine blk_alloc ?_ _)); apply bq4_3_2_1_0_; (with_reducible repeat (first | refine blk_drewN ?_ _ | refine blk_drew ?_ | refine blk_alloc ?_ _)); exact BK293.out⟩, ⟨bl_⟩⟩
   ·rw [if_neg c14] at H
    have c14b0 : (a0_5.toList == t287.toList) = false := beq_eq_false_iff_ne.mpr c14
    have c14b1 : (a0_5.toList != t287.toList) = true := bne_iff_ne.mpr c14
    have H' := Aside0.mk H
    clear H
    have hnb24 := NB293_286.out
    have hnc24 := NB286_293.out
    have hcz25_0 := cz_ BK293 0 (.string (⟨#[]⟩ : ByteArray))
    have hcz25_1 := cz_ BK293 1 (.string (⟨#[]⟩ : ByteArray))
    have hcz25_2 := cz_ BK293 2 (.string (⟨#[]⟩ : ByteArray))
    have hcz25_3 := cz_ BK293 3 (.slice none 0 0)
    have hfz25_0 := fz_ BK293 0
    have hfz25_1 := fz_ BK293 1
    have hfz25_2 := fz_ BK293 2
    have hfz25_3 := fz_ BK293 3
    have hcz26_0 := cz_ BK286 0 (.int .i64 a0_0)
    have hcz26_1 := cz_ BK286 1 (.string a0_1)
    have hcz26_2 := cz_ BK286 2 (.string a0_2)
    have hcz26_3 := cz_ BK286 3 (.string a0_3)
    have hcz26_4 := cz_ BK286 4 (.string a0_4)
    have hcz26_5 := cz_ BK286 5 (.string a0_5)
    have hcz26_6 := cz_ BK286 6 (.int .i64 a0_6)
    have hcz26_7 := cz_ BK286 7 (.int .i64 a0_7)
    have hfz26_0 := fz_ BK286 0
    have hfz26_1 := fz_ BK286 1
    have hfz26_2 := fz_ BK286 2
    have hfz26_3 := fz_ BK286 3
    have hfz26_4 := fz_ BK286 4
    have hfz26_5 := fz_ BK286 5
    have hfz26_6 := fz_ BK286 6
    have hfz26_7 := fz_ BK286 7
    go_wp2
    repeat (go_quiet (fail); try go_wp2)
    go_meet
    case rel => exact ⟨_, (true), sp_, H', ⟨by first | omega | exact Nat.le_refl _⟩, ⟨by (with_reducible repeat (first | apply Kd.V_alloc | apply Kd.V_drewN | apply Kd.V_drew)); exact Kd.V_mono (Kd.V_far (p := ⟨gb293, 3, none⟩) (Kd.V_far (p := ⟨gb293, 2, none⟩) (Kd.V_far (p := ⟨gb293, 1, none⟩) (Kd.V_far (p := ⟨gb293, 0, none⟩) (Kd.V_mono HO292.out (fun k_ hk => (⟨hk, hk.2⟩ : _ ∧ k_ ≠ gb293))) (fun _ hk => hk.2) (.string t287)) (fun _ hk => hk.2) (.string t288)) (fun _ hk => hk.2) (.string t289)) (fun _ hk => hk.2) (.slice Ao10 t290.length co10)) (fun _ hk => ⟨hk.1.1, hk.1.2⟩)⟩, ⟨by (with_reducible repeat (first | refine blk_drewN ?_ _ | refine blk_drew ?_ | refine blk_alloc ?_ _)); refine blk_far ?_ NB286_293.out _; (with_reducible repeat (first | refine blk_drewN ?_ _ | refine blk_drew ?_ | refine blk_alloc ?_ _)); refine blk_far ?_ NB286_293.out _; (with_reducible repeat (first | refine blk_drewN ?_ _ | refine blk_drew ?_ | refine blk_alloc ?_ _)); refine blk_far ?_ NB286_293.out _; (with_reducible repeat (first | refine blk_drewN ?_ _ | refine blk_drew ?_ | refine blk_alloc ?_ _)); refine blk_far ?_ NB286_293.out _; (with_reducible repeat (first | refine blk_drewN ?_ _ | refine blk_drew ?_ | refine blk_alloc ?_ _)); exact BK286.out⟩, ⟨by (with_reducible repeat (first | refine blk_drewN ?_ _ | refine blk_drew ?_ | refine blk_alloc ?_ _)); apply bq4_3_2_1_0_; (with_reducible repeat (first | refine blk_drewN ?_ _ | refine blk_drew ?_ | refine blk_alloc ?_ _)); exact BK293.out⟩, ⟨bl_⟩⟩
 case rest =>
  clear HC3
  try clear c1
  try clear c2
  try clear p2
  try clear c5
  try clear c8
  try clear c11
  try clear c11b0
  try clear c11b1
  try clear c12
  try clear c14
  try clear c14b0
  try clear c14b1
  try clear c16
  try clear c18
  try clear c21
  try clear c24
  try clear hcz13_0
  try clear hcz13_1
  try clear hcz13_2
  try clear hcz13_3
  try clear hcz19_0
  try clear hcz19_1
  try clear hcz19_2
  try clear hcz19_3
  try clear hcz20_0
  try clear hcz20_1
  try clear hcz20_2
  try clear hcz20_3
  try clear hcz20_4
  try clear hcz20_5
  try clear hcz20_6
  try clear hcz20_7
  try clear hcz22_0
  try clear hcz22_1
  try clear hcz22_2
  try clear hcz22_3
  try clear hcz23_0
  try clear hcz23_1
  try clear hcz23_2
  try clear hcz23_3
  try clear hcz23_4
  try clear hcz23_5
  try clear hcz23_6
  try clear hcz23_7
  try clear hcz25_0
  try clear hcz25_1
  try clear hcz25_2
  try clear hcz25_3
  try clear hcz26_0
  try clear hcz26_1
  try clear hcz26_2
  try clear hcz26_3
  try clear hcz26_4
  try clear hcz26_5
  try clear hcz26_6
  try clear hcz26_7
  try clear hcz5_0
  try clear hcz5_1
  try clear hcz5_2
  try clear hcz5_3
  try clear hcz5_4
  try clear hcz5_5
  try clear hcz5_6
  try clear hcz5_7
  try clear hcz9_0
  try clear hcz9_1
  try clear hcz9_2
  try clear hcz9_3
  try clear hfz13_0
  try clear hfz13_1
  try clear hfz13_2
  try clear hfz13_3
  try clear hfz19_0
  try clear hfz19_1
  try clear hfz19_2
  try clear hfz19_3
  try clear hfz20_0
  try clear hfz20_1
  try clear hfz20_2
  try clear hfz20_3
  try clear hfz20_4
  try clear hfz20_5
  try clear hfz20_6
  try clear hfz20_7
  try clear hfz22_0
  try clear hfz22_1
  try clear hfz22_2
  try clear hfz22_3
  try clear hfz23_0
  try clear hfz23_1
  try clear hfz23_2
  try clear hfz23_3
  try clear hfz23_4
  try clear hfz23_5
  try clear hfz23_6
  try clear hfz23_7
  try clear hfz25_0
  try clear hfz25_1
  try clear hfz25_2
  try clear hfz25_3
  try clear hfz26_0
  try clear hfz26_1
  try clear hfz26_2
  try clear hfz26_3
  try clear hfz26_4
  try clear hfz26_5
  try clear hfz26_6
  try clear hfz26_7
  try clear hfz5_0
  try clear hfz5_1
  try clear hfz5_2
  try clear hfz5_3
  try clear hfz5_4
  try clear hfz5_5
  try clear hfz5_6
  try clear hfz5_7
  try clear hfz9_0
  try clear hfz9_1
  try clear hfz9_2
  try clear hfz9_3
  obtain ⟨kq, x32_2, rfl, HA, HJ2, HO_294003, BK286, BK293, HB⟩ := hcut
  cases kq with
  | zero => exact absurd HA.out (by simp [impl_ReqOk.j0])
  | succ kj2 =>
   have H := HA.out
   clear HA
   simp only [impl_ReqOk.j0] at H
   by_cases c27 : x32_2 = true
   ·subst c27
    replace H := ip_ H
    obtain rfl := Option.some.inj H
    go_wp2
    repeat (go_quiet (fail); try go_wp2)
    go_ret
    exact ⟨sq_, bl_⟩
   ·replace c27 := Bool.eq_false_iff.mpr c27
    subst c27
    replace H := in_ H
    obtain ⟨t296, A28, H⟩ := ob_ H
    have HC29 := Aside0.mk H
    clear H
    have hnb30 := NB286_293.out
    have hnc30 := NB293_286.out
    have hcz31_0 := cz_ BK286 0 (.int .i64 a0_0)
    have hcz31_1 := cz_ BK286 1 (.string a0_1)
    have hcz31_2 := cz_ BK286 2 (.string a0_2)
    have hcz31_3 := cz_ BK286 3 (.string a0_3)
    have hcz31_4 := cz_ BK286 4 (.string a0_4)
    have hcz31_5 := cz_ BK286 5 (.string a0_5)
    have hcz31_6 := cz_ BK286 6 (.int .i64 a0_6)
    have hcz31_7 := cz_ BK286 7 (.int .i64 a0_7)
    have hfz31_0 := fz_ BK286 0
    have hfz31_1 := fz_ BK286 1
    have hfz31_2 := fz_ BK286 2
    have hfz31_3 := fz_ BK286 3
    have hfz31_4 := fz_ BK286 4
    have hfz31_5 := fz_ BK286 5
    have hfz31_6 := fz_ BK286 6
    have hfz31_7 := fz_ BK286 7
    go_upto_if 47 with (first | (go_at_call 90; (with_reducible refine (impl_uses.calls kj2 a0_0 38 t296 _ A28.out).mono ?_); rintro e w32 ⟨rfl, hb⟩; replace HO_294003 := Aside0.mk (Kd.V_below (by (with_reducible repeat (first | apply Kd.V_alloc | apply Kd.V_drewN | apply Kd.V_drew)); exact HO_294003.out) hb); replace BK286 := Aside0.mk (blk_below (bk_ BK286) hb); replace BK293 := Aside0.mk (blk_below (bk_ BK293) hb); replace HB := Aside0.mk (below_step bl_ hb); (try clear hb); (try clear hb2); (try clear hk); (try clear hi)))
    repeat (go_quiet (first | (go_at_call 90; (with_reducible refine (impl_uses.calls kj2 a0_0 38 t296 _ A28.out).mono ?_); rintro e w32 ⟨rfl, hb⟩; replace HO_294003 := Aside0.mk (Kd.V_below (by (with_reducible repeat (first | apply Kd.V_alloc | apply Kd.V_drewN | apply Kd.V_drew)); exact HO_294003.out) hb); replace BK286 := Aside0.mk (blk_below (bk_ BK286) hb); replace BK293 := Aside0.mk (blk_below (bk_ BK293) hb); replace HB := Aside0.mk (below_step bl_ hb); (try clear hb); (try clear hb2); (try clear hk); (try clear hi))); go_upto_if 47 with (first | (go_at_call 90; (with_reducible refine (impl_uses.calls kj2 a0_0 38 t296 _ A28.out).mono ?_); rintro e w32 ⟨rfl, hb⟩; replace HO_294003 := Aside0.mk (Kd.V_below (by (with_reducible repeat (first | apply Kd.V_alloc | apply Kd.V_drewN | apply Kd.V_drew)); exact HO_294003.out) hb); replace BK286 := Aside0.mk (blk_below (bk_ BK286) hb); replace BK293 := Aside0.mk (blk_below (bk_ BK293) hb); replace HB := Aside0.mk (below_step bl_ hb); (try clear hb); (try clear hb2); (try clear hk); (try clear hi))))
    (try simp only [Act.put, List.setIfInBounds_toArray, List.set_cons_zero, List.set_cons_succ])
    go_cut [4] (fun v4 wc => ∃ (kq : Nat) (x4_28 : Bool), v4 = .bool x4_28 ∧ Aside0 (impl_ReqOk.j1 kq x4_28 (a0_6 == 0) (a0_7 == 0) (a0_2.toList == ([] : List UInt8)) a0_0 a0_1 a0_2 a0_3 a0_4 a0_5 a0_6 a0_7 = some r) ∧ Aside0 (kq ≤ kj2) ∧ Aside0 (Kd.V (Kd.int .i64) 3 wc w.heap.size (fun k_ => k_ ≠ gb286 ∧ k_ ≠ gb293) (.slice Ao10 t290.length co10) t290) ∧ Aside0 (wc.heap[gb286]? = some (.cells #[.int .i64 a0_0, .string a0_1, .string a0_2, .string a0_3, .string a0_4, .string a0_5, .int .i64 a0_6, .int .i64 a0_7] 27 (0, 0))) ∧ Aside0 (wc.heap[gb293]? = some (.cells #[.string t287, .string t288, .string t289, (.slice Ao10 t290.length co10)] 74 (0, 0))) ∧ Aside0 (Below w.heap.size w wc))
    case first =>
     have H := HC29.out
     clear HC29
     by_cases c33 : t296 = true
     ·subst c33
      replace H := ip_ H
      obtain ⟨t297, A34, H⟩ := ob_ H
      have H' := Aside0.mk H
      clear H
      have hnb35 := NB286_293.out
      have hnc35 := NB293_286.out
      have hcz36_0 := cz_ BK286 0 (.int .i64 a0_0)
      have hcz36_1 := cz_ BK286 1 (.string a0_1)
      have hcz36_2 := cz_ BK286 2 (.string a0_2)
      have hcz36_3 := cz_ BK286 3 (.string a0_3)
      have hcz36_4 := cz_ BK286 4 (.string a0_4)
      have hcz36_5 := cz_ BK286 5 (.string a0_5)
      have hcz36_6 := cz_ BK286 6 (.int .i64 a0_6)
      have hcz36_7 := cz_ BK286 7 (.int .i64 a0_7)
      have hfz36_0 := fz_ BK286 0
      have hfz36_1 := fz_ BK286 1
      have hfz36_2 := fz_ BK286 2
      have hfz36_3 := fz_ BK286 3
      have hfz36_4 := fz_ BK286 4
      have hfz36_5 := fz_ BK286 5
      have hfz36_6 := fz_ BK286 6
      have hfz36_7 := fz_ BK286 7
      go_wp2_with (first | (go_at_call 91; (with_reducible refine (impl_HoldIdOk.calls kj2 a0_3 t297 _ A34.out).mono ?_); rintro e w' ⟨rfl, ⟨nd, rfl⟩⟩; (try first | exact ⟨rfl, _, World.drewN_drewN _ _ _⟩ | exact ⟨rfl, _, Eq.trans (World.drewN_drewN _ _ _) (congrArg (World.drewN _) (Nat.add_assoc _ _ _))⟩)))
      repeat (go_quiet (first | (go_at_call 91; (with_reducible refine (impl_HoldIdOk.calls kj2 a0_3 t297 _ A34.out).mono ?_); rintro e w' ⟨rfl, ⟨nd, rfl⟩⟩; (try first | exact ⟨rfl, _, World.drewN_drewN _ _ _⟩ | exact ⟨rfl, _, Eq.trans (World.drewN_drewN _ _ _) (congrArg (World.drewN _) (Nat.add_assoc _ _ _))⟩))); try go_wp2_with (first | (go_at_call 91; (with_reducible refine (impl_HoldIdOk.calls kj2 a0_3 t297 _ A34.out).mono ?_); rintro e w' ⟨rfl, ⟨nd, rfl⟩⟩; (try first | exact ⟨rfl, _, World.drewN_drewN _ _ _⟩ | exact ⟨rfl, _, Eq.trans (World.drewN_drewN _ _ _) (congrArg (World.drewN _) (Nat.add_assoc _ _ _))⟩))))
      go_meet
      case rel => exact ⟨_, (t297), sp_, H', ⟨by have := HJ2.out; first | omega | exact Nat.le_refl _⟩, ⟨by (with_reducible repeat (first | apply Kd.V_alloc | apply Kd.V_drewN | apply Kd.V_drew)); exact HO_294003.out⟩, ⟨by (with_reducible repeat (first | refine blk_drewN ?_ _ | refine blk_drew ?_ | refine blk_alloc ?_ _)); exact BK286.out⟩, ⟨by (with_reducible repeat (first | refine blk_drewN ?_ _ | refine blk_drew ?_ | refine blk_alloc ?_ _)); exact BK293.out⟩, ⟨bl_⟩⟩
     ·replace c33 := Bool.eq_false_iff.mpr c33
      subst c33
      replace H := in_ H
      have H' := Aside0.mk H
      clear H
      go_wp2
      repeat (go_quiet (fail); try go_wp2)
      go_meet
      case rel => exact ⟨_, ((a0_3.toList == ([] : List UInt8))), sp_, H', ⟨by have := HJ2.out; first | omega | exact Nat.le_refl _⟩, ⟨by (with_reducible repeat (first | apply Kd.V_alloc | apply Kd.V_drewN | apply Kd.V_drew)); exact HO_294003.out⟩, ⟨by (with_reducible repeat (first | refine blk_drewN ?_ _ | refine blk_drew ?_ | refine blk_alloc ?_ _)); exact BK286.out⟩, ⟨by (with_reducible repeat (first | refine blk_drewN ?_ _ | refine blk_drew ?_ | refine blk_alloc ?_ _)); exact BK293.out⟩, ⟨bl_⟩⟩
    case rest =>
     clear HC29
     try clear c1
     try clear c2
     try clear p2
     try clear c3
     try clear c5
     try clear c8
     try clear c11
     try clear c11b0
     try clear c11b1
     try clear c12
     try clear c14
     try clear c14b0
     try clear c14b1
     try clear c16
     try clear c18
     try clear c21
     try clear c24
     try clear c27
     try clear c30
     try clear c33
     try clear c35
     try clear hcz13_0
     try clear hcz13_1
     try clear hcz13_2
     try clear hcz13_3
     try clear hcz19_0
     try clear hcz19_1
     try clear hcz19_2
     try clear hcz19_3
     try clear hcz20_0
     try clear hcz20_1
     try clear hcz20_2
     try clear hcz20_3
     try clear hcz20_4
     try clear hcz20_5
     try clear hcz20_6
     try clear hcz20_7
     try clear hcz22_0
     try clear hcz22_1
     try clear hcz22_2
     try clear hcz22_3
     try clear hcz23_0
     try clear hcz23_1
     try clear hcz23_2
     try clear hcz23_3
     try clear hcz23_4
     try clear hcz23_5
     try clear hcz23_6
     try clear hcz23_7
     try clear hcz25_0
     try clear hcz25_1
     try clear hcz25_2
     try clear hcz25_3
     try clear hcz26_0
     try clear hcz26_1
     try clear hcz26_2
     try clear hcz26_3
     try clear hcz26_4
     try clear hcz26_5
     try clear hcz26_6
     try clear hcz26_7
     try clear hcz31_0
     try clear hcz31_1
     try clear hcz31_2
     try clear hcz31_3
     try clear hcz31_4
     try clear hcz31_5
     try clear hcz31_6
     try clear hcz31_7
     try clear hcz36_0
     try clear hcz36_1
     try clear hcz36_2
     try clear hcz36_3
     try clear hcz36_4
     try clear hcz36_5
     try clear hcz36_6
     try clear hcz36_7
     try clear hcz5_0
     try clear hcz5_1
     try clear hcz5_2
     try clear hcz5_3
     try clear hcz5_4
     try clear hcz5_5
     try clear hcz5_6
     try clear hcz5_7
     try clear hcz9_0
     try clear hcz9_1
     try clear hcz9_2
     try clear hcz9_3
     try clear hfz13_0
     try clear hfz13_1
     try clear hfz13_2
     try clear hfz13_3
     try clear hfz19_0
     try clear hfz19_1
     try clear hfz19_2
     try clear hfz19_3
     try clear hfz20_0
     try clear hfz20_1
     try clear hfz20_2
     try clear hfz20_3
     try clear hfz20_4
     try clear hfz20_5
     try clear hfz20_6
     try clear hfz20_7
     try clear hfz22_0
     try clear hfz22_1
     try clear hfz22_2
     try clear hfz22_3
     try clear hfz23_0
     try clear hfz23_1
     try clear hfz23_2
     try clear hfz23_3
     try clear hfz23_4
     try clear hfz23_5
     try clear hfz23_6
     try clear hfz23_7
     try clear hfz25_0
     try clear hfz25_1
     try clear hfz25_2
     try clear hfz25_3
     try clear hfz26_0
     try clear hfz26_1
     try clear hfz26_2
     try clear hfz26_3
     try clear hfz26_4
     try clear hfz26_5
     try clear hfz26_6
     try clear hfz26_7
     try clear hfz31_0
     try clear hfz31_1
     try clear hfz31_2
     try clear hfz31_3
     try clear hfz31_4
     try clear hfz31_5
     try clear hfz31_6
     try clear hfz31_7
     try clear hfz36_0
     try clear hfz36_1
     try clear hfz36_2
     try clear hfz36_3
     try clear hfz36_4
     try clear hfz36_5
     try clear hfz36_6
     try clear hfz36_7
     try clear hfz5_0
     try clear hfz5_1
     try clear hfz5_2
     try clear hfz5_3
     try clear hfz5_4
     try clear hfz5_5
     try clear hfz5_6
     try clear hfz5_7
     try clear hfz9_0
     try clear hfz9_1
     try clear hfz9_2
     try clear hfz9_3
     try clear p2
     obtain ⟨kq, x4_28, rfl, HA, HJ28, HO_294003, BK286, BK293, HB⟩ := hcut
     cases kq with
     | zero => exact absurd HA.out (by simp [impl_ReqOk.j1])
     | succ kj28 =>
      have H := HA.out
      clear HA
      simp only [impl_ReqOk.j1] at H
      obtain ⟨t298, A37, H⟩ := ob_ H
      have HC38 := Aside0.mk H
      clear H
      have hnb39 := NB286_293.out
      have hnc39 := NB293_286.out
      have hcz40_0 := cz_ BK286 0 (.int .i64 a0_0)
      have hcz40_1 := cz_ BK286 1 (.string a0_1)
      have hcz40_2 := cz_ BK286 2 (.string a0_2)
      have hcz40_3 := cz_ BK286 3 (.string a0_3)
      have hcz40_4 := cz_ BK286 4 (.string a0_4)
      have hcz40_5 := cz_ BK286 5 (.string a0_5)
      have hcz40_6 := cz_ BK286 6 (.int .i64 a0_6)
      have hcz40_7 := cz_ BK286 7 (.int .i64 a0_7)
      have hfz40_0 := fz_ BK286 0
      have hfz40_1 := fz_ BK286 1
      have hfz40_2 := fz_ BK286 2
      have hfz40_3 := fz_ BK286 3
      have hfz40_4 := fz_ BK286 4
      have hfz40_5 := fz_ BK286 5
      have hfz40_6 := fz_ BK286 6
      have hfz40_7 := fz_ BK286 7
      go_upto_if 53 with (first | (go_at_call 90; (with_reducible refine (impl_uses.calls kj28 a0_0 4 t298 _ A37.out).mono ?_); rintro e w41 ⟨rfl, hb⟩; replace HO_294003 := Aside0.mk (Kd.V_below (by (with_reducible repeat (first | apply Kd.V_alloc | apply Kd.V_drewN | apply Kd.V_drew)); exact HO_294003.out) hb); replace BK286 := Aside0.mk (blk_below (bk_ BK286) hb); replace BK293 := Aside0.mk (blk_below (bk_ BK293) hb); replace HB := Aside0.mk (below_step bl_ hb); (try clear hb); (try clear hb2); (try clear hk); (try clear hi)))
      repeat (go_quiet (first | (go_at_call 90; (with_reducible refine (impl_uses.calls kj28 a0_0 4 t298 _ A37.out).mono ?_); rintro e w41 ⟨rfl, hb⟩; replace HO_294003 := Aside0.mk (Kd.V_below (by (with_reducible repeat (first | apply Kd.V_alloc | apply Kd.V_drewN | apply Kd.V_drew)); exact HO_294003.out) hb); replace BK286 := Aside0.mk (blk_below (bk_ BK286) hb); replace BK293 := Aside0.mk (blk_below (bk_ BK293) hb); replace HB := Aside0.mk (below_step bl_ hb); (try clear hb); (try clear hb2); (try clear hk); (try clear hi))); go_upto_if 53 with (first | (go_at_call 90; (with_reducible refine (impl_uses.calls kj28 a0_0 4 t298 _ A37.out).mono ?_); rintro e w41 ⟨rfl, hb⟩; replace HO_294003 := Aside0.mk (Kd.V_below (by (with_reducible repeat (first | apply Kd.V_alloc | apply Kd.V_drewN | apply Kd.V_drew)); exact HO_294003.out) hb); replace BK286 := Aside0.mk (blk_below (bk_ BK286) hb); replace BK293 := Aside0.mk (blk_below (bk_ BK293) hb); replace HB := Aside0.mk (below_step bl_ hb); (try clear hb); (try clear hb2); (try clear hk); (try clear hi))))
      (try simp only [Act.put, List.setIfInBounds_toArray, List.set_cons_zero, List.set_cons_succ])
      go_cut [5] (fun v5 wc => ∃ (kq : Nat) (x5_37 : Bool), v5 = .bool x5_37 ∧ Aside0 (impl_ReqOk.j2 kq x4_28 x5_37 (a0_7 == 0) (a0_2.toList == ([] : List UInt8)) a0_0 a0_1 a0_2 a0_3 a0_4 a0_5 a0_6 a0_7 = some r) ∧ Aside0 (kq ≤ kj28) ∧ Aside0 (Kd.V (Kd.int .i64) 3 wc w.heap.size (fun k_ => k_ ≠ gb286 ∧ k_ ≠ gb293) (.slice Ao10 t290.length co10) t290) ∧ Aside0 (wc.heap[gb286]? = some (.cells #[.int .i64 a0_0, .string a0_1, .string a0_2, .string a0_3, .string a0_4, .string a0_5, .int .i64 a0_6, .int .i64 a0_7] 27 (0, 0))) ∧ Aside0 (wc.heap[gb293]? = some (.cells #[.string t287, .string t288, .string t289, (.slice Ao10 t290.length co10)] 74 (0, 0))) ∧ Aside0 (Below w.heap.size w wc))
      case first =>
       have H := HC38.out
       clear HC38
       by_cases c42 : t298 = true
       ·subst c42
        replace H := ip_ H
        obtain ⟨t299, A43, H⟩ := ob_ H
        have H' := Aside0.mk H
        clear H
        have hnb44 := NB286_293.out
        have hnc44 := NB293_286.out
        have hcz45_0 := cz_ BK286 0 (.int .i64 a0_0)
        have hcz45_1 := cz_ BK286 1 (.string a0_1)
        have hcz45_2 := cz_ BK286 2 (.string a0_2)
        have hcz45_3 := cz_ BK286 3 (.string a0_3)
        have hcz45_4 := cz_ BK286 4 (.string a0_4)
        have hcz45_5 := cz_ BK286 5 (.string a0_5)
        have hcz45_6 := cz_ BK286 6 (.int .i64 a0_6)
        have hcz45_7 := cz_ BK286 7 (.int .i64 a0_7)
        have hfz45_0 := fz_ BK286 0
        have hfz45_1 := fz_ BK286 1
        have hfz45_2 := fz_ BK286 2
        have hfz45_3 := fz_ BK286 3
        have hfz45_4 := fz_ BK286 4
        have hfz45_5 := fz_ BK286 5
        have hfz45_6 := fz_ BK286 6
        have hfz45_7 := fz_ BK286 7
        go_wp2_with (first | (go_at_call 71; (with_reducible refine (impl_within.calls a0_6 0 999999999999 t299 _ A43.out).mono ?_); rintro e w' ⟨rfl, ⟨nd, rfl⟩⟩; (try first | exact ⟨rfl, _, World.drewN_drewN _ _ _⟩ | exact ⟨rfl, _, Eq.trans (World.drewN_drewN _ _ _) (congrArg (World.drewN _) (Nat.add_assoc _ _ _))⟩)))
        repeat (go_quiet (first | (go_at_call 71; (with_reducible refine (impl_within.calls a0_6 0 999999999999 t299 _ A43.out).mono ?_); rintro e w' ⟨rfl, ⟨nd, rfl⟩⟩; (try first | exact ⟨rfl, _, World.drewN_drewN _ _ _⟩ | exact ⟨rfl, _, Eq.trans (World.drewN_drewN _ _ _) (congrArg (World.drewN _) (Nat.add_assoc _ _ _))⟩))); try go_wp2_with (first | (go_at_call 71; (with_reducible refine (impl_within.calls a0_6 0 999999999999 t299 _ A43.out).mono ?_); rintro e w' ⟨rfl, ⟨nd, rfl⟩⟩; (try first | exact ⟨rfl, _, World.drewN_drewN _ _ _⟩ | exact ⟨rfl, _, Eq.trans (World.drewN_drewN _ _ _) (congrArg (World.drewN _) (Nat.add_assoc _ _ _))⟩))))
        go_meet
        case rel => exact ⟨_, (t299), sp_, H', ⟨by have := HJ2.out; have := HJ28.out; first | omega | exact Nat.le_refl _⟩, ⟨by (with_reducible repeat (first | apply Kd.V_alloc | apply Kd.V_drewN | apply Kd.V_drew)); exact HO_294003.out⟩, ⟨by (with_reducible repeat (first | refine blk_drewN ?_ _ | refine blk_drew ?_ | refine blk_alloc ?_ _)); exact BK286.out⟩, ⟨by (with_reducible repeat (first | refine blk_drewN ?_ _ | refine blk_drew ?_ | refine blk_alloc ?_ _)); exact BK293.out⟩, ⟨bl_⟩⟩
       ·replace c42 := Bool.eq_false_iff.mpr c42
        subst c42
        replace H := in_ H
        have H' := Aside0.mk H
        clear H
        go_wp2
        repeat (go_quiet (fail); try go_wp2)
        go_meet
        case rel => exact ⟨_, ((a0_6 == 0)), sp_, H', ⟨by have := HJ2.out; have := HJ28.out; first | omega | exact Nat.le_refl _⟩, ⟨by (with_reducible repeat (first | apply Kd.V_alloc | apply Kd.V_drewN | apply Kd.V_drew)); exact HO_294003.out⟩, ⟨by (with_reducible repeat (first | refine blk_drewN ?_ _ | refine blk_drew ?_ | refine blk_alloc ?_ _)); exact BK286.out⟩, ⟨by (with_reducible repeat (first | refine blk_drewN ?_ _ | refine blk_drew ?_ | refine blk_alloc ?_ _)); exact BK293.out⟩, ⟨bl_⟩⟩
      case rest =>
       clear HC38
       try clear c1
       try clear c2
       try clear p2
       try clear c3
       try clear c4
       try clear c5
       try clear c8
       try clear c11
       try clear c11b0
       try clear c11b1
       try clear c12
       try clear c14
       try clear c14b0
       try clear c14b1
       try clear c16
       try clear c18
       try clear c21
       try clear c24
       try clear c27
       try clear c30
       try clear c33
       try clear c35
       try clear c39
       try clear c42
       try clear c44
       try clear hcz13_0
       try clear hcz13_1
       try clear hcz13_2
       try clear hcz13_3
       try clear hcz19_0
       try clear hcz19_1
       try clear hcz19_2
       try clear hcz19_3
       try clear hcz20_0
       try clear hcz20_1
       try clear hcz20_2
       try clear hcz20_3
       try clear hcz20_4
       try clear hcz20_5
       try clear hcz20_6
       try clear hcz20_7
       try clear hcz22_0
       try clear hcz22_1
       try clear hcz22_2
       try clear hcz22_3
       try clear hcz23_0
       try clear hcz23_1
       try clear hcz23_2
       try clear hcz23_3
       try clear hcz23_4
       try clear hcz23_5
       try clear hcz23_6
       try clear hcz23_7
       try clear hcz25_0
       try clear hcz25_1
       try clear hcz25_2
       try clear hcz25_3
       try clear hcz26_0
       try clear hcz26_1
       try clear hcz26_2
       try clear hcz26_3
       try clear hcz26_4
       try clear hcz26_5
       try clear hcz26_6
       try clear hcz26_7
       try clear hcz31_0
       try clear hcz31_1
       try clear hcz31_2
       try clear hcz31_3
       try clear hcz31_4
       try clear hcz31_5
       try clear hcz31_6
       try clear hcz31_7
       try clear hcz36_0
       try clear hcz36_1
       try clear hcz36_2
       try clear hcz36_3
       try clear hcz36_4
       try clear hcz36_5
       try clear hcz36_6
       try clear hcz36_7
       try clear hcz40_0
       try clear hcz40_1
       try clear hcz40_2
       try clear hcz40_3
       try clear hcz40_4
       try clear hcz40_5
       try clear hcz40_6
       try clear hcz40_7
       try clear hcz45_0
       try clear hcz45_1
       try clear hcz45_2
       try clear hcz45_3
       try clear hcz45_4
       try clear hcz45_5
       try clear hcz45_6
       try clear hcz45_7
       try clear hcz5_0
       try clear hcz5_1
       try clear hcz5_2
       try clear hcz5_3
       try clear hcz5_4
       try clear hcz5_5
       try clear hcz5_6
       try clear hcz5_7
       try clear hcz9_0
       try clear hcz9_1
       try clear hcz9_2
       try clear hcz9_3
       try clear hfz13_0
       try clear hfz13_1
       try clear hfz13_2
       try clear hfz13_3
       try clear hfz19_0
       try clear hfz19_1
       try clear hfz19_2
       try clear hfz19_3
       try clear hfz20_0
       try clear hfz20_1
       try clear hfz20_2
       try clear hfz20_3
       try clear hfz20_4
       try clear hfz20_5
       try clear hfz20_6
       try clear hfz20_7
       try clear hfz22_0
       try clear hfz22_1
       try clear hfz22_2
       try clear hfz22_3
       try clear hfz23_0
       try clear hfz23_1
       try clear hfz23_2
       try clear hfz23_3
       try clear hfz23_4
       try clear hfz23_5
       try clear hfz23_6
       try clear hfz23_7
       try clear hfz25_0
       try clear hfz25_1
       try clear hfz25_2
       try clear hfz25_3
       try clear hfz26_0
       try clear hfz26_1
       try clear hfz26_2
       try clear hfz26_3
       try clear hfz26_4
       try clear hfz26_5
       try clear hfz26_6
       try clear hfz26_7
       try clear hfz31_0
       try clear hfz31_1
       try clear hfz31_2
       try clear hfz31_3
       try clear hfz31_4
       try clear hfz31_5
       try clear hfz31_6
       try clear hfz31_7
       try clear hfz36_0
       try clear hfz36_1
       try clear hfz36_2
       try clear hfz36_3
       try clear hfz36_4
       try clear hfz36_5
       try clear hfz36_6
       try clear hfz36_7
       try clear hfz40_0
       try clear hfz40_1
       try clear hfz40_2
       try clear hfz40_3
       try clear hfz40_4
       try clear hfz40_5
       try clear hfz40_6
       try clear hfz40_7
       try clear hfz45_0
       try clear hfz45_1
       try clear hfz45_2
       try clear hfz45_3
       try clear hfz45_4
       try clear hfz45_5
       try clear hfz45_6
       try clear hfz45_7
       try clear hfz5_0
       try clear hfz5_1
       try clear hfz5_2
       try clear hfz5_3
       try clear hfz5_4
       try clear hfz5_5
       try clear hfz5_6
       try clear hfz5_7
       try clear hfz9_0
       try clear hfz9_1
       try clear hfz9_2
       try clear hfz9_3
       try clear p2
       obtain ⟨kq, x5_37, rfl, HA, HJ37, HO_294003, BK286, BK293, HB⟩ := hcut
       cases kq with
       | zero => exact absurd HA.out (by simp [impl_ReqOk.j2])
       | succ kj37 =>
        have H := HA.out
        clear HA
        simp only [impl_ReqOk.j2] at H
        obtain ⟨t300, A46, H⟩ := ob_ H
        have HC47 := Aside0.mk H
        clear H
        have hnb48 := NB286_293.out
        have hnc48 := NB293_286.out
        have hcz49_0 := cz_ BK286 0 (.int .i64 a0_0)
        have hcz49_1 := cz_ BK286 1 (.string a0_1)
        have hcz49_2 := cz_ BK286 2 (.string a0_2)
        have hcz49_3 := cz_ BK286 3 (.string a0_3)
        have hcz49_4 := cz_ BK286 4 (.string a0_4)
        have hcz49_5 := cz_ BK286 5 (.string a0_5)
        have hcz49_6 := cz_ BK286 6 (.int .i64 a0_6)
        have hcz49_7 := cz_ BK286 7 (.int .i64 a0_7)
        have hfz49_0 := fz_ BK286 0
        have hfz49_1 := fz_ BK286 1
        have hfz49_2 := fz_ BK286 2
        have hfz49_3 := fz_ BK286 3
        have hfz49_4 := fz_ BK286 4
        have hfz49_5 := fz_ BK286 5
        have hfz49_6 := fz_ BK286 6
        have hfz49_7 := fz_ BK286 7
        go_upto_if 59 with (first | (go_at_call 90; (with_reducible refine (impl_uses.calls kj37 a0_0 14 t300 _ A46.out).mono ?_); rintro e w50 ⟨rfl, hb⟩; replace HO_294003 := Aside0.mk (Kd.V_below (by (with_reducible repeat (first | apply Kd.V_alloc | apply Kd.V_drewN | apply Kd.V_drew)); exact HO_294003.out) hb); replace BK286 := Aside0.mk (blk_below (bk_ BK286) hb); replace BK293 := Aside0.mk (blk_below (bk_ BK293) hb); replace HB := Aside0.mk (below_step bl_ hb); (try clear hb); (try clear hb2); (try clear hk); (try clear hi)))
        repeat (go_quiet (first | (go_at_call 90; (with_reducible refine (impl_uses.calls kj37 a0_0 14 t300 _ A46.out).mono ?_); rintro e w50 ⟨rfl, hb⟩; replace HO_294003 := Aside0.mk (Kd.V_below (by (with_reducible repeat (first | apply Kd.V_alloc | apply Kd.V_drewN | apply Kd.V_drew)); exact HO_294003.out) hb); replace BK286 := Aside0.mk (blk_below (bk_ BK286) hb); replace BK293 := Aside0.mk (blk_below (bk_ BK293) hb); replace HB := Aside0.mk (below_step bl_ hb); (try clear hb); (try clear hb2); (try clear hk); (try clear hi))); go_upto_if 59 with (first | (go_at_call 90; (with_reducible refine (impl_uses.calls kj37 a0_0 14 t300 _ A46.out).mono ?_); rintro e w50 ⟨rfl, hb⟩; replace HO_294003 := Aside0.mk (Kd.V_below (by (with_reducible repeat (first | apply Kd.V_alloc | apply Kd.V_drewN | apply Kd.V_drew)); exact HO_294003.out) hb); replace BK286 := Aside0.mk (blk_below (bk_ BK286) hb); replace BK293 := Aside0.mk (blk_below (bk_ BK293) hb); replace HB := Aside0.mk (below_step bl_ hb); (try clear hb); (try clear hb2); (try clear hk); (try clear hi))))
        (try simp only [Act.put, List.setIfInBounds_toArray, List.set_cons_zero, List.set_cons_succ])
        go_cut [6] (fun v6 wc => ∃ (kq : Nat) (x6_46 : Bool), v6 = .bool x6_46 ∧ Aside0 (impl_ReqOk.j3 kq x4_28 x5_37 x6_46 (a0_2.toList == ([] : List UInt8)) a0_0 a0_1 a0_2 a0_3 a0_4 a0_5 a0_6 a0_7 = some r) ∧ Aside0 (kq ≤ kj37) ∧ Aside0 (Kd.V (Kd.int .i64) 3 wc w.heap.size (fun k_ => k_ ≠ gb286 ∧ k_ ≠ gb293) (.slice Ao10 t290.length co10) t290) ∧ Aside0 (wc.heap[gb286]? = some (.cells #[.int .i64 a0_0, .string a0_1, .string a0_2, .string a0_3, .string a0_4, .string a0_5, .int .i64 a0_6, .int .i64 a0_7] 27 (0, 0))) ∧ Aside0 (wc.heap[gb293]? = some (.cells #[.string t287, .string t288, .string t289, (.slice Ao10 t290.length co10)] 74 (0, 0))) ∧ Aside0 (Below w.heap.size w wc))
        case first =>
         have H := HC47.out
         clear HC47
         by_cases c51 : t300 = true
         ·subst c51
          replace H := ip_ H
          obtain ⟨t301, A52, H⟩ := ob_ H
          have H' := Aside0.mk H
          clear H
          have hnb53 := NB286_293.out
          have hnc53 := NB293_286.out
          have hcz54_0 := cz_ BK286 0 (.int .i64 a0_0)
          have hcz54_1 := cz_ BK286 1 (.string a0_1)
          have hcz54_2 := cz_ BK286 2 (.string a0_2)
          have hcz54_3 := cz_ BK286 3 (.string a0_3)
          have hcz54_4 := cz_ BK286 4 (.string a0_4)
          have hcz54_5 := cz_ BK286 5 (.string a0_5)
          have hcz54_6 := cz_ BK286 6 (.int .i64 a0_6)
          have hcz54_7 := cz_ BK286 7 (.int .i64 a0_7)
          have hfz54_0 := fz_ BK286 0
          have hfz54_1 := fz_ BK286 1
          have hfz54_2 := fz_ BK286 2
          have hfz54_3 := fz_ BK286 3
          have hfz54_4 := fz_ BK286 4
          have hfz54_5 := fz_ BK286 5
          have hfz54_6 := fz_ BK286 6
          have hfz54_7 := fz_ BK286 7
          go_wp2_with (first | (go_at_call 71; (with_reducible refine (impl_within.calls a0_7 0 9999 t301 _ A52.out).mono ?_); rintro e w' ⟨rfl, ⟨nd, rfl⟩⟩; (try first | exact ⟨rfl, _, World.drewN_drewN _ _ _⟩ | exact ⟨rfl, _, Eq.trans (World.drewN_drewN _ _ _) (congrArg (World.drewN _) (Nat.add_assoc _ _ _))⟩)))
          repeat (go_quiet (first | (go_at_call 71; (with_reducible refine (impl_within.calls a0_7 0 9999 t301 _ A52.out).mono ?_); rintro e w' ⟨rfl, ⟨nd, rfl⟩⟩; (try first | exact ⟨rfl, _, World.drewN_drewN _ _ _⟩ | exact ⟨rfl, _, Eq.trans (World.drewN_drewN _ _ _) (congrArg (World.drewN _) (Nat.add_assoc _ _ _))⟩))); try go_wp2_with (first | (go_at_call 71; (with_reducible refine (impl_within.calls a0_7 0 9999 t301 _ A52.out).mono ?_); rintro e w' ⟨rfl, ⟨nd, rfl⟩⟩; (try first | exact ⟨rfl, _, World.drewN_drewN _ _ _⟩ | exact ⟨rfl, _, Eq.trans (World.drewN_drewN _ _ _) (congrArg (World.drewN _) (Nat.add_assoc _ _ _))⟩))))
          go_meet
          case rel => exact ⟨_, (t301), sp_, H', ⟨by have := HJ2.out; have := HJ28.out; have := HJ37.out; first | omega | exact Nat.le_refl _⟩, ⟨by (with_reducible repeat (first | apply Kd.V_alloc | apply Kd.V_drewN | apply Kd.V_drew)); exact HO_294003.out⟩, ⟨by (with_reducible repeat (first | refine blk_drewN ?_ _ | refine blk_drew ?_ | refine blk_alloc ?_ _)); exact BK286.out⟩, ⟨by (with_reducible repeat (first | refine blk_drewN ?_ _ | refine blk_drew ?_ | refine blk_alloc ?_ _)); exact BK293.out⟩, ⟨bl_⟩⟩
         ·replace c51 := Bool.eq_false_iff.mpr c51
          subst c51
          replace H := in_ H
          have H' := Aside0.mk H
          clear H
          go_wp2
          repeat (go_quiet (fail); try go_wp2)
          go_meet
          case rel => exact ⟨_, ((a0_7 == 0)), sp_, H', ⟨by have := HJ2.out; have := HJ28.out; have := HJ37.out; first | omega | exact Nat.le_refl _⟩, ⟨by (with_reducible repeat (first | apply Kd.V_alloc | apply Kd.V_drewN | apply Kd.V_drew)); exact HO_294003.out⟩, ⟨by (with_reducible repeat (first | refine blk_drewN ?_ _ | refine blk_drew ?_ | refine blk_alloc ?_ _)); exact BK286.out⟩, ⟨by (with_reducible repeat (first | refine blk_drewN ?_ _ | refine blk_drew ?_ | refine blk_alloc ?_ _)); exact BK293.out⟩, ⟨bl_⟩⟩
        case rest =>
         clear HC47
         try clear c1
         try clear c2
         try clear p2
         try clear c3
         try clear c4
         try clear c5
         try clear c8
         try clear c11
         try clear c11b0
         try clear c11b1
         try clear c12
         try clear c14
         try clear c14b0
         try clear c14b1
         try clear c16
         try clear c18
         try clear c21
         try clear c24
         try clear c27
         try clear c30
         try clear c33
         try clear c35
         try clear c39
         try clear c42
         try clear c44
         try clear c48
         try clear c51
         try clear c53
         try clear hcz13_0
         try clear hcz13_1
         try clear hcz13_2
         try clear hcz13_3
         try clear hcz19_0
         try clear hcz19_1
         try clear hcz19_2
         try clear hcz19_3
         try clear hcz20_0
         try clear hcz20_1
         try clear hcz20_2
         try clear hcz20_3
         try clear hcz20_4
         try clear hcz20_5
         try clear hcz20_6
         try clear hcz20_7
         try clear hcz22_0
         try clear hcz22_1
         try clear hcz22_2
         try clear hcz22_3
         try clear hcz23_0
         try clear hcz23_1
         try clear hcz23_2
         try clear hcz23_3
         try clear hcz23_4
         try clear hcz23_5
         try clear hcz23_6
         try clear hcz23_7
         try clear hcz25_0
         try clear hcz25_1
         try clear hcz25_2
         try clear hcz25_3
         try clear hcz26_0
         try clear hcz26_1
         try clear hcz26_2
         try clear hcz26_3
         try clear hcz26_4
         try clear hcz26_5
         try clear hcz26_6
         try clear hcz26_7
         try clear hcz31_0
         try clear hcz31_1
         try clear hcz31_2
         try clear hcz31_3
         try clear hcz31_4
         try clear hcz31_5
         try clear hcz31_6
         try clear hcz31_7
         try clear hcz36_0
         try clear hcz36_1
         try clear hcz36_2
         try clear hcz36_3
         try clear hcz36_4
         try clear hcz36_5
         try clear hcz36_6
         try clear hcz36_7
         try clear hcz40_0
         try clear hcz40_1
         try clear hcz40_2
         try clear hcz40_3
         try clear hcz40_4
         try clear hcz40_5
         try clear hcz40_6
         try clear hcz40_7
         try clear hcz45_0
         try clear hcz45_1
         try clear hcz45_2
         try clear hcz45_3
         try clear hcz45_4
         try clear hcz45_5
         try clear hcz45_6
         try clear hcz45_7
         try clear hcz49_0
         try clear hcz49_1
         try clear hcz49_2
         try clear hcz49_3
         try clear hcz49_4
         try clear hcz49_5
         try clear hcz49_6
         try clear hcz49_7
         try clear hcz54_0
         try clear hcz54_1
         try clear hcz54_2
         try clear hcz54_3
         try clear hcz54_4
         try clear hcz54_5
         try clear hcz54_6
         try clear hcz54_7
         try clear hcz5_0
         try clear hcz5_1
         try clear hcz5_2
         try clear hcz5_3
         try clear hcz5_4
         try clear hcz5_5
         try clear hcz5_6
         try clear hcz5_7
         try clear hcz9_0
         try clear hcz9_1
         try clear hcz9_2
         try clear hcz9_3
         try clear hfz13_0
         try clear hfz13_1
         try clear hfz13_2
         try clear hfz13_3
         try clear hfz19_0
         try clear hfz19_1
         try clear hfz19_2
         try clear hfz19_3
         try clear hfz20_0
         try clear hfz20_1
         try clear hfz20_2
         try clear hfz20_3
         try clear hfz20_4
         try clear hfz20_5
         try clear hfz20_6
         try clear hfz20_7
         try clear hfz22_0
         try clear hfz22_1
         try clear hfz22_2
         try clear hfz22_3
         try clear hfz23_0
         try clear hfz23_1
         try clear hfz23_2
         try clear hfz23_3
         try clear hfz23_4
         try clear hfz23_5
         try clear hfz23_6
         try clear hfz23_7
         try clear hfz25_0
         try clear hfz25_1
         try clear hfz25_2
         try clear hfz25_3
         try clear hfz26_0
         try clear hfz26_1
         try clear hfz26_2
         try clear hfz26_3
         try clear hfz26_4
         try clear hfz26_5
         try clear hfz26_6
         try clear hfz26_7
         try clear hfz31_0
         try clear hfz31_1
         try clear hfz31_2
         try clear hfz31_3
         try clear hfz31_4
         try clear hfz31_5
         try clear hfz31_6
         try clear hfz31_7
         try clear hfz36_0
         try clear hfz36_1
         try clear hfz36_2
         try clear hfz36_3
         try clear hfz36_4
         try clear hfz36_5
         try clear hfz36_6
         try clear hfz36_7
         try clear hfz40_0
         try clear hfz40_1
         try clear hfz40_2
         try clear hfz40_3
         try clear hfz40_4
         try clear hfz40_5
         try clear hfz40_6
         try clear hfz40_7
         try clear hfz45_0
         try clear hfz45_1
         try clear hfz45_2
         try clear hfz45_3
         try clear hfz45_4
         try clear hfz45_5
         try clear hfz45_6
         try clear hfz45_7
         try clear hfz49_0
         try clear hfz49_1
         try clear hfz49_2
         try clear hfz49_3
         try clear hfz49_4
         try clear hfz49_5
         try clear hfz49_6
         try clear hfz49_7
         try clear hfz54_0
         try clear hfz54_1
         try clear hfz54_2
         try clear hfz54_3
         try clear hfz54_4
         try clear hfz54_5
         try clear hfz54_6
         try clear hfz54_7
         try clear hfz5_0
         try clear hfz5_1
         try clear hfz5_2
         try clear hfz5_3
         try clear hfz5_4
         try clear hfz5_5
         try clear hfz5_6
         try clear hfz5_7
         try clear hfz9_0
         try clear hfz9_1
         try clear hfz9_2
         try clear hfz9_3
         try clear p2
         obtain ⟨kq, x6_46, rfl, HA, HJ46, HO_294003, BK286, BK293, HB⟩ := hcut
         cases kq with
         | zero => exact absurd HA.out (by simp [impl_ReqOk.j3])
         | succ kj46 =>
          have H := HA.out
          clear HA
          simp only [impl_ReqOk.j3] at H
          obtain ⟨t302, A55, H⟩ := ob_ H
          by_cases c56 : t302 = true
          ·subst c56
           replace H := ip_ H
           obtain ⟨t303, A57, H⟩ := ob_ H
           by_cases c58 : x4_28 = true
           ·subst c58
            replace H := ip_ H
            by_cases c59 : x5_37 = true
            ·subst c59
             replace H := ip_ H
             by_cases c60 : x6_46 = true
             ·subst c60
              replace H := ip_ H
              obtain rfl := Option.some.inj H
              have hnb61 := NB286_293.out
              have hnc61 := NB293_286.out
              have hcz62_0 := cz_ BK286 0 (.int .i64 a0_0)
              have hcz62_1 := cz_ BK286 1 (.string a0_1)
              have hcz62_2 := cz_ BK286 2 (.string a0_2)
              have hcz62_3 := cz_ BK286 3 (.string a0_3)
              have hcz62_4 := cz_ BK286 4 (.string a0_4)
              have hcz62_5 := cz_ BK286 5 (.string a0_5)
              have hcz62_6 := cz_ BK286 6 (.int .i64 a0_6)
              have hcz62_7 := cz_ BK286 7 (.int .i64 a0_7)
              have hfz62_0 := fz_ BK286 0
              have hfz62_1 := fz_ BK286 1
              have hfz62_2 := fz_ BK286 2
              have hfz62_3 := fz_ BK286 3
              have hfz62_4 := fz_ BK286 4
              have hfz62_5 := fz_ BK286 5
              have hfz62_6 := fz_ BK286 6
              have hfz62_7 := fz_ BK286 7
              go_wp2_with (first | (go_at_call 90; (with_reducible refine (impl_uses.calls kj46 a0_0 103 true _ A55.out).mono ?_); rintro e w63 ⟨rfl, hb⟩; replace HO_294003 := Aside0.mk (Kd.V_below (by (with_reducible repeat (first | apply Kd.V_alloc | apply Kd.V_drewN | apply Kd.V_drew)); exact HO_294003.out) hb); replace BK286 := Aside0.mk (blk_below (bk_ BK286) hb); replace BK293 := Aside0.mk (blk_below (bk_ BK293) hb); replace HB := Aside0.mk (below_step bl_ hb); (try clear hb); (try clear hb2); (try clear hk); (try clear hi); obtain ⟨hcz64_0, hcz64_1, hcz64_2, hcz64_3, hcz64_4, hcz64_5, hcz64_6, hcz64_7, hfz64_0, hfz64_1, hfz64_2, hfz64_3, hfz64_4, hfz64_5, hfz64_6, hfz64_7⟩ := bx8_ BK286) | (go_at_call 89; (with_reducible refine (impl_AcctIdOk.calls kj46 a0_2 t303 _ A57.out).mono ?_); rintro e w' ⟨rfl, ⟨nd, rfl⟩⟩; (try first | exact ⟨rfl, _, World.drewN_drewN _ _ _⟩ | exact ⟨rfl, _, Eq.trans (World.drewN_drewN _ _ _) (congrArg (World.drewN _) (Nat.add_assoc _ _ _))⟩)))
              repeat (go_quiet (first | (go_at_call 90; (with_reducible refine (impl_uses.calls kj46 a0_0 103 true _ A55.out).mono ?_); rintro e w63 ⟨rfl, hb⟩; replace HO_294003 := Aside0.mk (Kd.V_below (by (with_reducible repeat (first | apply Kd.V_alloc | apply Kd.V_drewN | apply Kd.V_drew)); exact HO_294003.out) hb); replace BK286 := Aside0.mk (blk_below (bk_ BK286) hb); replace BK293 := Aside0.mk (blk_below (bk_ BK293) hb); replace HB := Aside0.mk (below_step bl_ hb); (try clear hb); (try clear hb2); (try clear hk); (try clear hi); obtain ⟨hcz64_0, hcz64_1, hcz64_2, hcz64_3, hcz64_4, hcz64_5, hcz64_6, hcz64_7, hfz64_0, hfz64_1, hfz64_2, hfz64_3, hfz64_4, hfz64_5, hfz64_6, hfz64_7⟩ := bx8_ BK286) | (go_at_call 89; (with_reducible refine (impl_AcctIdOk.calls kj46 a0_2 t303 _ A57.out).mono ?_); rintro e w' ⟨rfl, ⟨nd, rfl⟩⟩; (try first | exact ⟨rfl, _, World.drewN_drewN _ _ _⟩ | exact ⟨rfl, _, Eq.trans (World.drewN_drewN _ _ _) (congrArg (World.drewN _) (Nat.add_assoc _ _ _))⟩))); try go_wp2_with (first | (go_at_call 90; (with_reducible refine (impl_uses.calls kj46 a0_0 103 true _ A55.out).mono ?_); rintro e w63 ⟨rfl, hb⟩; replace HO_294003 := Aside0.mk (Kd.V_below (by (with_reducible repeat (first | apply Kd.V_alloc | apply Kd.V_drewN | apply Kd.V_drew)); exact HO_294003.out) hb); replace BK286 := Aside0.mk (blk_below (bk_ BK286) hb); replace BK293 := Aside0.mk (blk_below (bk_ BK293) hb); replace HB := Aside0.mk (below_step bl_ hb); (try clear hb); (try clear hb2); (try clear hk); (try clear hi); obtain ⟨hcz64_0, hcz64_1, hcz64_2, hcz64_3, hcz64_4, hcz64_5, hcz64_6, hcz64_7, hfz64_0, hfz64_1, hfz64_2, hfz64_3, hfz64_4, hfz64_5, hfz64_6, hfz64_7⟩ := bx8_ BK286) | (go_at_call 89; (with_reducible refine (impl_AcctIdOk.calls kj46 a0_2 t303 _ A57.out).mono ?_); rintro e w' ⟨rfl, ⟨nd, rfl⟩⟩; (try first | exact ⟨rfl, _, World.drewN_drewN _ _ _⟩ | exact ⟨rfl, _, Eq.trans (World.drewN_drewN _ _ _) (congrArg (World.drewN _) (Nat.add_assoc _ _ _))⟩))))
              go_ret
              exact ⟨sq_, bl_⟩
             ·replace c60 := Bool.eq_false_iff.mpr c60
              subst c60
              replace H := in_ H
              obtain rfl := Option.some.inj H
              have hnb65 := NB286_293.out
              have hnc65 := NB293_286.out
              have hcz66_0 := cz_ BK286 0 (.int .i64 a0_0)
              have hcz66_1 := cz_ BK286 1 (.string a0_1)
              have hcz66_2 := cz_ BK286 2 (.string a0_2)
              have hcz66_3 := cz_ BK286 3 (.string a0_3)
              have hcz66_4 := cz_ BK286 4 (.string a0_4)
              have hcz66_5 := cz_ BK286 5 (.string a0_5)
              have hcz66_6 := cz_ BK286 6 (.int .i64 a0_6)
              have hcz66_7 := cz_ BK286 7 (.int .i64 a0_7)
              have hfz66_0 := fz_ BK286 0
              have hfz66_1 := fz_ BK286 1
              have hfz66_2 := fz_ BK286 2
              have hfz66_3 := fz_ BK286 3
              have hfz66_4 := fz_ BK286 4
              have hfz66_5 := fz_ BK286 5
              have hfz66_6 := fz_ BK286 6
              have hfz66_7 := fz_ BK286 7
              go_wp2_with (first | (go_at_call 90; (with_reducible refine (impl_uses.calls kj46 a0_0 103 true _ A55.out).mono ?_); rintro e w67 ⟨rfl, hb⟩; replace HO_294003 := Aside0.mk (Kd.V_below (by (with_reducible repeat (first | apply Kd.V_alloc | apply Kd.V_drewN | apply Kd.V_drew)); exact HO_294003.out) hb); replace BK286 := Aside0.mk (blk_below (bk_ BK286) hb); replace BK293 := Aside0.mk (blk_below (bk_ BK293) hb); replace HB := Aside0.mk (below_step bl_ hb); (try clear hb); (try clear hb2); (try clear hk); (try clear hi); obtain ⟨hcz68_0, hcz68_1, hcz68_2, hcz68_3, hcz68_4, hcz68_5, hcz68_6, hcz68_7, hfz68_0, hfz68_1, hfz68_2, hfz68_3, hfz68_4, hfz68_5, hfz68_6, hfz68_7⟩ := bx8_ BK286) | (go_at_call 89; (with_reducible refine (impl_AcctIdOk.calls kj46 a0_2 t303 _ A57.out).mono ?_); rintro e w' ⟨rfl, ⟨nd, rfl⟩⟩; (try first | exact ⟨rfl, _, World.drewN_drewN _ _ _⟩ | exact ⟨rfl, _, Eq.trans (World.drewN_drewN _ _ _) (congrArg (World.drewN _) (Nat.add_assoc _ _ _))⟩)))
              repeat (go_quiet (first | (go_at_call 90; (with_reducible refine (impl_uses.calls kj46 a0_0 103 true _ A55.out).mono ?_); rintro e w67 ⟨rfl, hb⟩; replace HO_294003 := Aside0.mk (Kd.V_below (by (with_reducible repeat (first | apply Kd.V_alloc | apply Kd.V_drewN | apply Kd.V_drew)); exact HO_294003.out) hb); replace BK286 := Aside0.mk (blk_below (bk_ BK286) hb); replace BK293 := Aside0.mk (blk_below (bk_ BK293) hb); replace HB := Aside0.mk (below_step bl_ hb); (try clear hb); (try clear hb2); (try clear hk); (try clear hi); obtain ⟨hcz68_0, hcz68_1, hcz68_2, hcz68_3, hcz68_4, hcz68_5, hcz68_6, hcz68_7, hfz68_0, hfz68_1, hfz68_2, hfz68_3, hfz68_4, hfz68_5, hfz68_6, hfz68_7⟩ := bx8_ BK286) | (go_at_call 89; (with_reducible refine (impl_AcctIdOk.calls kj46 a0_2 t303 _ A57.out).mono ?_); rintro e w' ⟨rfl, ⟨nd, rfl⟩⟩; (try first | exact ⟨rfl, _, World.drewN_drewN _ _ _⟩ | exact ⟨rfl, _, Eq.trans (World.drewN_drewN _ _ _) (congrArg (World.drewN _) (Nat.add_assoc _ _ _))⟩))); try go_wp2_with (first | (go_at_call 90; (with_reducible refine (impl_uses.calls kj46 a0_0 103 true _ A55.out).mono ?_); rintro e w67 ⟨rfl, hb⟩; replace HO_294003 := Aside0.mk (Kd.V_below (by (with_reducible repeat (first | apply Kd.V_alloc | apply Kd.V_drewN | apply Kd.V_drew)); exact HO_294003.out) hb); replace BK286 := Aside0.mk (blk_below (bk_ BK286) hb); replace BK293 := Aside0.mk (blk_below (bk_ BK293) hb); replace HB := Aside0.mk (below_step bl_ hb); (try clear hb); (try clear hb2); (try clear hk); (try clear hi); obtain ⟨hcz68_0, hcz68_1, hcz68_2, hcz68_3, hcz68_4, hcz68_5, hcz68_6, hcz68_7, hfz68_0, hfz68_1, hfz68_2, hfz68_3, hfz68_4, hfz68_5, hfz68_6, hfz68_7⟩ := bx8_ BK286) | (go_at_call 89; (with_reducible refine (impl_AcctIdOk.calls kj46 a0_2 t303 _ A57.out).mono ?_); rintro e w' ⟨rfl, ⟨nd, rfl⟩⟩; (try first | exact ⟨rfl, _, World.drewN_drewN _ _ _⟩ | exact ⟨rfl, _, Eq.trans (World.drewN_drewN _ _ _) (congrArg (World.drewN _) (Nat.add_assoc _ _ _))⟩))))
              go_ret
              exact ⟨sq_, bl_⟩
            ·replace c59 := Bool.eq_false_iff.mpr c59
             subst c59
             replace H := in_ H
             obtain rfl := Option.some.inj H
             have hnb69 := NB286_293.out
             have hnc69 := NB293_286.out
             have hcz70_0 := cz_ BK286 0 (.int .i64 a0_0)
             have hcz70_1 := cz_ BK286 1 (.string a0_1)
             have hcz70_2 := cz_ BK286 2 (.string a0_2)
             have hcz70_3 := cz_ BK286 3 (.string a0_3)
             have hcz70_4 := cz_ BK286 4 (.string a0_4)
             have hcz70_5 := cz_ BK286 5 (.string a0_5)
             have hcz70_6 := cz_ BK286 6 (.int .i64 a0_6)
             have hcz70_7 := cz_ BK286 7 (.int .i64 a0_7)
             have hfz70_0 := fz_ BK286 0
             have hfz70_1 := fz_ BK286 1
             have hfz70_2 := fz_ BK286 2
             have hfz70_3 := fz_ BK286 3
             have hfz70_4 := fz_ BK286 4
             have hfz70_5 := fz_ BK286 5
             have hfz70_6 := fz_ BK286 6
             have hfz70_7 := fz_ BK286 7
             go_wp2_with (first | (go_at_call 90; (with_reducible refine (impl_uses.calls kj46 a0_0 103 true _ A55.out).mono ?_); rintro e w71 ⟨rfl, hb⟩; replace HO_294003 := Aside0.mk (Kd.V_below (by (with_reducible repeat (first | apply Kd.V_alloc | apply Kd.V_drewN | apply Kd.V_drew)); exact HO_294003.out) hb); replace BK286 := Aside0.mk (blk_below (bk_ BK286) hb); replace BK293 := Aside0.mk (blk_below (bk_ BK293) hb); replace HB := Aside0.mk (below_step bl_ hb); (try clear hb); (try clear hb2); (try clear hk); (try clear hi); obtain ⟨hcz72_0, hcz72_1, hcz72_2, hcz72_3, hcz72_4, hcz72_5, hcz72_6, hcz72_7, hfz72_0, hfz72_1, hfz72_2, hfz72_3, hfz72_4, hfz72_5, hfz72_6, hfz72_7⟩ := bx8_ BK286) | (go_at_call 89; (with_reducible refine (impl_AcctIdOk.calls kj46 a0_2 t303 _ A57.out).mono ?_); rintro e w' ⟨rfl, ⟨nd, rfl⟩⟩; (try first | exact ⟨rfl, _, World.drewN_drewN _ _ _⟩ | exact ⟨rfl, _, Eq.trans (World.drewN_drewN _ _ _) (congrArg (World.drewN _) (Nat.add_assoc _ _ _))⟩)))
             repeat (go_quiet (first | (go_at_call 90; (with_reducible refine (impl_uses.calls kj46 a0_0 103 true _ A55.out).mono ?_); rintro e w71 ⟨rfl, hb⟩; replace HO_294003 := Aside0.mk (Kd.V_below (by (with_reducible repeat (first | apply Kd.V_alloc | apply Kd.V_drewN | apply Kd.V_drew)); exact HO_294003.out) hb); replace BK286 := Aside0.mk (blk_below (bk_ BK286) hb); replace BK293 := Aside0.mk (blk_below (bk_ BK293) hb); replace HB := Aside0.mk (below_step bl_ hb); (try clear hb); (try clear hb2); (try clear hk); (try clear hi); obtain ⟨hcz72_0, hcz72_1, hcz72_2, hcz72_3, hcz72_4, hcz72_5, hcz72_6, hcz72_7, hfz72_0, hfz72_1, hfz72_2, hfz72_3, hfz72_4, hfz72_5, hfz72_6, hfz72_7⟩ := bx8_ BK286) | (go_at_call 89; (with_reducible refine (impl_AcctIdOk.calls kj46 a0_2 t303 _ A57.out).mono ?_); rintro e w' ⟨rfl, ⟨nd, rfl⟩⟩; (try first | exact ⟨rfl, _, World.drewN_drewN _ _ _⟩ | exact ⟨rfl, _, Eq.trans (World.drewN_drewN _ _ _) (congrArg (World.drewN _) (Nat.add_assoc _ _ _))⟩))); try go_wp2_with (first | (go_at_call 90; (with_reducible refine (impl_uses.calls kj46 a0_0 103 true _ A55.out).mono ?_); rintro e w71 ⟨rfl, hb⟩; replace HO_294003 := Aside0.mk (Kd.V_below (by (with_reducible repeat (first | apply Kd.V_alloc | apply Kd.V_drewN | apply Kd.V_drew)); exact HO_294003.out) hb); replace BK286 := Aside0.mk (blk_below (bk_ BK286) hb); replace BK293 := Aside0.mk (blk_below (bk_ BK293) hb); replace HB := Aside0.mk (below_step bl_ hb); (try clear hb); (try clear hb2); (try clear hk); (try clear hi); obtain ⟨hcz72_0, hcz72_1, hcz72_2, hcz72_3, hcz72_4, hcz72_5, hcz72_6, hcz72_7, hfz72_0, hfz72_1, hfz72_2, hfz72_3, hfz72_4, hfz72_5, hfz72_6, hfz72_7⟩ := bx8_ BK286) | (go_at_call 89; (with_reducible refine (impl_AcctIdOk.calls kj46 a0_2 t303 _ A57.out).mono ?_); rintro e w' ⟨rfl, ⟨nd, rfl⟩⟩; (try first | exact ⟨rfl, _, World.drewN_drewN _ _ _⟩ | exact ⟨rfl, _, Eq.trans (World.drewN_drewN _ _ _) (congrArg (World.drewN _) (Nat.add_assoc _ _ _))⟩))))
             go_ret
             exact ⟨sq_, bl_⟩
           ·replace c58 := Bool.eq_false_iff.mpr c58
            subst c58
            replace H := in_ H
            obtain rfl := Option.some.inj H
            have hnb73 := NB286_293.out
            have hnc73 := NB293_286.out
            have hcz74_0 := cz_ BK286 0 (.int .i64 a0_0)
            have hcz74_1 := cz_ BK286 1 (.string a0_1)
            have hcz74_2 := cz_ BK286 2 (.string a0_2)
            have hcz74_3 := cz_ BK286 3 (.string a0_3)
            have hcz74_4 := cz_ BK286 4 (.string a0_4)
            have hcz74_5 := cz_ BK286 5 (.string a0_5)
            have hcz74_6 := cz_ BK286 6 (.int .i64 a0_6)
            have hcz74_7 := cz_ BK286 7 (.int .i64 a0_7)
            have hfz74_0 := fz_ BK286 0
            have hfz74_1 := fz_ BK286 1
            have hfz74_2 := fz_ BK286 2
            have hfz74_3 := fz_ BK286 3
            have hfz74_4 := fz_ BK286 4
            have hfz74_5 := fz_ BK286 5
            have hfz74_6 := fz_ BK286 6
            have hfz74_7 := fz_ BK286 7
            go_wp2_with (first | (go_at_call 90; (with_reducible refine (impl_uses.calls kj46 a0_0 103 true _ A55.out).mono ?_); rintro e w75 ⟨rfl, hb⟩; replace HO_294003 := Aside0.mk (Kd.V_below (by (with_reducible repeat (first | apply Kd.V_alloc | apply Kd.V_drewN | apply Kd.V_drew)); exact HO_294003.out) hb); replace BK286 := Aside0.mk (blk_below (bk_ BK286) hb); replace BK293 := Aside0.mk (blk_below (bk_ BK293) hb); replace HB := Aside0.mk (below_step bl_ hb); (try clear hb); (try clear hb2); (try clear hk); (try clear hi); obtain ⟨hcz76_0, hcz76_1, hcz76_2, hcz76_3, hcz76_4, hcz76_5, hcz76_6, hcz76_7, hfz76_0, hfz76_1, hfz76_2, hfz76_3, hfz76_4, hfz76_5, hfz76_6, hfz76_7⟩ := bx8_ BK286) | (go_at_call 89; (with_reducible refine (impl_AcctIdOk.calls kj46 a0_2 t303 _ A57.out).mono ?_); rintro e w' ⟨rfl, ⟨nd, rfl⟩⟩; (try first | exact ⟨rfl, _, World.drewN_drewN _ _ _⟩ | exact ⟨rfl, _, Eq.trans (World.drewN_drewN _ _ _) (congrArg (World.drewN _) (Nat.add_assoc _ _ _))⟩)))
            repeat (go_quiet (first | (go_at_call 90; (with_reducible refine (impl_uses.calls kj46 a0_0 103 true _ A55.out).mono ?_); rintro e w75 ⟨rfl, hb⟩; replace HO_294003 := Aside0.mk (Kd.V_below (by (with_reducible repeat (first | apply Kd.V_alloc | apply Kd.V_drewN | apply Kd.V_drew)); exact HO_294003.out) hb); replace BK286 := Aside0.mk (blk_below (bk_ BK286) hb); replace BK293 := Aside0.mk (blk_below (bk_ BK293) hb); replace HB := Aside0.mk (below_step bl_ hb); (try clear hb); (try clear hb2); (try clear hk); (try clear hi); obtain ⟨hcz76_0, hcz76_1, hcz76_2, hcz76_3, hcz76_4, hcz76_5, hcz76_6, hcz76_7, hfz76_0, hfz76_1, hfz76_2, hfz76_3, hfz76_4, hfz76_5, hfz76_6, hfz76_7⟩ := bx8_ BK286) | (go_at_call 89; (with_reducible refine (impl_AcctIdOk.calls kj46 a0_2 t303 _ A57.out).mono ?_); rintro e w' ⟨rfl, ⟨nd, rfl⟩⟩; (try first | exact ⟨rfl, _, World.drewN_drewN _ _ _⟩ | exact ⟨rfl, _, Eq.trans (World.drewN_drewN _ _ _) (congrArg (World.drewN _) (Nat.add_assoc _ _ _))⟩))); try go_wp2_with (first | (go_at_call 90; (with_reducible refine (impl_uses.calls kj46 a0_0 103 true _ A55.out).mono ?_); rintro e w75 ⟨rfl, hb⟩; replace HO_294003 := Aside0.mk (Kd.V_below (by (with_reducible repeat (first | apply Kd.V_alloc | apply Kd.V_drewN | apply Kd.V_drew)); exact HO_294003.out) hb); replace BK286 := Aside0.mk (blk_below (bk_ BK286) hb); replace BK293 := Aside0.mk (blk_below (bk_ BK293) hb); replace HB := Aside0.mk (below_step bl_ hb); (try clear hb); (try clear hb2); (try clear hk); (try clear hi); obtain ⟨hcz76_0, hcz76_1, hcz76_2, hcz76_3, hcz76_4, hcz76_5, hcz76_6, hcz76_7, hfz76_0, hfz76_1, hfz76_2, hfz76_3, hfz76_4, hfz76_5, hfz76_6, hfz76_7⟩ := bx8_ BK286) | (go_at_call 89; (with_reducible refine (impl_AcctIdOk.calls kj46 a0_2 t303 _ A57.out).mono ?_); rintro e w' ⟨rfl, ⟨nd, rfl⟩⟩; (try first | exact ⟨rfl, _, World.drewN_drewN _ _ _⟩ | exact ⟨rfl, _, Eq.trans (World.drewN_drewN _ _ _) (congrArg (World.drewN _) (Nat.add_assoc _ _ _))⟩))))
            go_ret
            exact ⟨sq_, bl_⟩
          ·replace c56 := Bool.eq_false_iff.mpr c56
           subst c56
           replace H := in_ H
           by_cases c77 : x4_28 = true
           ·subst c77
            replace H := ip_ H
            by_cases c78 : x5_37 = true
            ·subst c78
             replace H := ip_ H
             by_cases c79 : x6_46 = true
             ·subst c79
              replace H := ip_ H
              obtain rfl := Option.some.inj H
              have hnb80 := NB286_293.out
              have hnc80 := NB293_286.out
              have hcz81_0 := cz_ BK286 0 (.int .i64 a0_0)
              have hcz81_1 := cz_ BK286 1 (.string a0_1)
              have hcz81_2 := cz_ BK286 2 (.string a0_2)
              have hcz81_3 := cz_ BK286 3 (.string a0_3)
              have hcz81_4 := cz_ BK286 4 (.string a0_4)
              have hcz81_5 := cz_ BK286 5 (.string a0_5)
              have hcz81_6 := cz_ BK286 6 (.int .i64 a0_6)
              have hcz81_7 := cz_ BK286 7 (.int .i64 a0_7)
              have hfz81_0 := fz_ BK286 0
              have hfz81_1 := fz_ BK286 1
              have hfz81_2 := fz_ BK286 2
              have hfz81_3 := fz_ BK286 3
              have hfz81_4 := fz_ BK286 4
              have hfz81_5 := fz_ BK286 5
              have hfz81_6 := fz_ BK286 6
              have hfz81_7 := fz_ BK286 7
              go_wp2_with (first | (go_at_call 90; (with_reducible refine (impl_uses.calls kj46 a0_0 103 false _ A55.out).mono ?_); rintro e w82 ⟨rfl, hb⟩; replace HO_294003 := Aside0.mk (Kd.V_below (by (with_reducible repeat (first | apply Kd.V_alloc | apply Kd.V_drewN | apply Kd.V_drew)); exact HO_294003.out) hb); replace BK286 := Aside0.mk (blk_below (bk_ BK286) hb); replace BK293 := Aside0.mk (blk_below (bk_ BK293) hb); replace HB := Aside0.mk (below_step bl_ hb); (try clear hb); (try clear hb2); (try clear hk); (try clear hi)))
              repeat (go_quiet (first | (go_at_call 90; (with_reducible refine (impl_uses.calls kj46 a0_0 103 false _ A55.out).mono ?_); rintro e w82 ⟨rfl, hb⟩; replace HO_294003 := Aside0.mk (Kd.V_below (by (with_reducible repeat (first | apply Kd.V_alloc | apply Kd.V_drewN | apply Kd.V_drew)); exact HO_294003.out) hb); replace BK286 := Aside0.mk (blk_below (bk_ BK286) hb); replace BK293 := Aside0.mk (blk_below (bk_ BK293) hb); replace HB := Aside0.mk (below_step bl_ hb); (try clear hb); (try clear hb2); (try clear hk); (try clear hi))); try go_wp2_with (first | (go_at_call 90; (with_reducible refine (impl_uses.calls kj46 a0_0 103 false _ A55.out).mono ?_); rintro e w82 ⟨rfl, hb⟩; replace HO_294003 := Aside0.mk (Kd.V_below (by (with_reducible repeat (first | apply Kd.V_alloc | apply Kd.V_drewN | apply Kd.V_drew)); exact HO_294003.out) hb); replace BK286 := Aside0.mk (blk_below (bk_ BK286) hb); replace BK293 := Aside0.mk (blk_below (bk_ BK293) hb); replace HB := Aside0.mk (below_step bl_ hb); (try clear hb); (try clear hb2); (try clear hk); (try clear hi))))
              go_ret
              exact ⟨sq_, bl_⟩
             ·replace c79 := Bool.eq_false_iff.mpr c79
              subst c79
              replace H := in_ H
              obtain rfl := Option.some.inj H
              have hnb83 := NB286_293.out
              have hnc83 := NB293_286.out
              have hcz84_0 := cz_ BK286 0 (.int .i64 a0_0)
              have hcz84_1 := cz_ BK286 1 (.string a0_1)
              have hcz84_2 := cz_ BK286 2 (.string a0_2)
              have hcz84_3 := cz_ BK286 3 (.string a0_3)
              have hcz84_4 := cz_ BK286 4 (.string a0_4)
              have hcz84_5 := cz_ BK286 5 (.string a0_5)
              have hcz84_6 := cz_ BK286 6 (.int .i64 a0_6)
              have hcz84_7 := cz_ BK286 7 (.int .i64 a0_7)
              have hfz84_0 := fz_ BK286 0
              have hfz84_1 := fz_ BK286 1
              have hfz84_2 := fz_ BK286 2
              have hfz84_3 := fz_ BK286 3
              have hfz84_4 := fz_ BK286 4
              have hfz84_5 := fz_ BK286 5
              have hfz84_6 := fz_ BK286 6
              have hfz84_7 := fz_ BK286 7
              go_wp2_with (first | (go_at_call 90; (with_reducible refine (impl_uses.calls kj46 a0_0 103 false _ A55.out).mono ?_); rintro e w85 ⟨rfl, hb⟩; replace HO_294003 := Aside0.mk (Kd.V_below (by (with_reducible repeat (first | apply Kd.V_alloc | apply Kd.V_drewN | apply Kd.V_drew)); exact HO_294003.out) hb); replace BK286 := Aside0.mk (blk_below (bk_ BK286) hb); replace BK293 := Aside0.mk (blk_below (bk_ BK293) hb); replace HB := Aside0.mk (below_step bl_ hb); (try clear hb); (try clear hb2); (try clear hk); (try clear hi)))
              repeat (go_quiet (first | (go_at_call 90; (with_reducible refine (impl_uses.calls kj46 a0_0 103 false _ A55.out).mono ?_); rintro e w85 ⟨rfl, hb⟩; replace HO_294003 := Aside0.mk (Kd.V_below (by (with_reducible repeat (first | apply Kd.V_alloc | apply Kd.V_drewN | apply Kd.V_drew)); exact HO_294003.out) hb); replace BK286 := Aside0.mk (blk_below (bk_ BK286) hb); replace BK293 := Aside0.mk (blk_below (bk_ BK293) hb); replace HB := Aside0.mk (below_step bl_ hb); (try clear hb); (try clear hb2); (try clear hk); (try clear hi))); try go_wp2_with (first | (go_at_call 90; (with_reducible refine (impl_uses.calls kj46 a0_0 103 false _ A55.out).mono ?_); rintro e w85 ⟨rfl, hb⟩; replace HO_294003 := Aside0.mk (Kd.V_below (by (with_reducible repeat (first | apply Kd.V_alloc | apply Kd.V_drewN | apply Kd.V_drew)); exact HO_294003.out) hb); replace BK286 := Aside0.mk (blk_below (bk_ BK286) hb); replace BK293 := Aside0.mk (blk_below (bk_ BK293) hb); replace HB := Aside0.mk (below_step bl_ hb); (try clear hb); (try clear hb2); (try clear hk); (try clear hi))))
              go_ret
              exact ⟨sq_, bl_⟩
            ·replace c78 := Bool.eq_false_iff.mpr c78
             subst c78
             replace H := in_ H
             obtain rfl := Option.some.inj H
             have hnb86 := NB286_293.out
             have hnc86 := NB293_286.out
             have hcz87_0 := cz_ BK286 0 (.int .i64 a0_0)
             have hcz87_1 := cz_ BK286 1 (.string a0_1)
             have hcz87_2 := cz_ BK286 2 (.string a0_2)
             have hcz87_3 := cz_ BK286 3 (.string a0_3)
             have hcz87_4 := cz_ BK286 4 (.string a0_4)
             have hcz87_5 := cz_ BK286 5 (.string a0_5)
             have hcz87_6 := cz_ BK286 6 (.int .i64 a0_6)
             have hcz87_7 := cz_ BK286 7 (.int .i64 a0_7)
             have hfz87_0 := fz_ BK286 0
             have hfz87_1 := fz_ BK286 1
             have hfz87_2 := fz_ BK286 2
             have hfz87_3 := fz_ BK286 3
             have hfz87_4 := fz_ BK286 4
             have hfz87_5 := fz_ BK286 5
             have hfz87_6 := fz_ BK286 6
             have hfz87_7 := fz_ BK286 7
             go_wp2_with (first | (go_at_call 90; (with_reducible refine (impl_uses.calls kj46 a0_0 103 false _ A55.out).mono ?_); rintro e w88 ⟨rfl, hb⟩; replace HO_294003 := Aside0.mk (Kd.V_below (by (with_reducible repeat (first | apply Kd.V_alloc | apply Kd.V_drewN | apply Kd.V_drew)); exact HO_294003.out) hb); replace BK286 := Aside0.mk (blk_below (bk_ BK286) hb); replace BK293 := Aside0.mk (blk_below (bk_ BK293) hb); replace HB := Aside0.mk (below_step bl_ hb); (try clear hb); (try clear hb2); (try clear hk); (try clear hi)))
             repeat (go_quiet (first | (go_at_call 90; (with_reducible refine (impl_uses.calls kj46 a0_0 103 false _ A55.out).mono ?_); rintro e w88 ⟨rfl, hb⟩; replace HO_294003 := Aside0.mk (Kd.V_below (by (with_reducible repeat (first | apply Kd.V_alloc | apply Kd.V_drewN | apply Kd.V_drew)); exact HO_294003.out) hb); replace BK286 := Aside0.mk (blk_below (bk_ BK286) hb); replace BK293 := Aside0.mk (blk_below (bk_ BK293) hb); replace HB := Aside0.mk (below_step bl_ hb); (try clear hb); (try clear hb2); (try clear hk); (try clear hi))); try go_wp2_with (first | (go_at_call 90; (with_reducible refine (impl_uses.calls kj46 a0_0 103 false _ A55.out).mono ?_); rintro e w88 ⟨rfl, hb⟩; replace HO_294003 := Aside0.mk (Kd.V_below (by (with_reducible repeat (first | apply Kd.V_alloc | apply Kd.V_drewN | apply Kd.V_drew)); exact HO_294003.out) hb); replace BK286 := Aside0.mk (blk_below (bk_ BK286) hb); replace BK293 := Aside0.mk (blk_below (bk_ BK293) hb); replace HB := Aside0.mk (below_step bl_ hb); (try clear hb); (try clear hb2); (try clear hk); (try clear hi))))
             go_ret
             exact ⟨sq_, bl_⟩
           ·replace c77 := Bool.eq_false_iff.mpr c77
            subst c77
            replace H := in_ H
            obtain rfl := Option.some.inj H
            have hnb89 := NB286_293.out
            have hnc89 := NB293_286.out
            have hcz90_0 := cz_ BK286 0 (.int .i64 a0_0)
            have hcz90_1 := cz_ BK286 1 (.string a0_1)
            have hcz90_2 := cz_ BK286 2 (.string a0_2)
            have hcz90_3 := cz_ BK286 3 (.string a0_3)
            have hcz90_4 := cz_ BK286 4 (.string a0_4)
            have hcz90_5 := cz_ BK286 5 (.string a0_5)
            have hcz90_6 := cz_ BK286 6 (.int .i64 a0_6)
            have hcz90_7 := cz_ BK286 7 (.int .i64 a0_7)
            have hfz90_0 := fz_ BK286 0
            have hfz90_1 := fz_ BK286 1
            have hfz90_2 := fz_ BK286 2
            have hfz90_3 := fz_ BK286 3
            have hfz90_4 := fz_ BK286 4
            have hfz90_5 := fz_ BK286 5
            have hfz90_6 := fz_ BK286 6
            have hfz90_7 := fz_ BK286 7
            go_wp2_with (first | (go_at_call 90; (with_reducible refine (impl_uses.calls kj46 a0_0 103 false _ A55.out).mono ?_); rintro e w91 ⟨rfl, hb⟩; replace HO_294003 := Aside0.mk (Kd.V_below (by (with_reducible repeat (first | apply Kd.V_alloc | apply Kd.V_drewN | apply Kd.V_drew)); exact HO_294003.out) hb); replace BK286 := Aside0.mk (blk_below (bk_ BK286) hb); replace BK293 := Aside0.mk (blk_below (bk_ BK293) hb); replace HB := Aside0.mk (below_step bl_ hb); (try clear hb); (try clear hb2); (try clear hk); (try clear hi)))
            repeat (go_quiet (first | (go_at_call 90; (with_reducible refine (impl_uses.calls kj46 a0_0 103 false _ A55.out).mono ?_); rintro e w91 ⟨rfl, hb⟩; replace HO_294003 := Aside0.mk (Kd.V_below (by (with_reducible repeat (first | apply Kd.V_alloc | apply Kd.V_drewN | apply Kd.V_drew)); exact HO_294003.out) hb); replace BK286 := Aside0.mk (blk_below (bk_ BK286) hb); replace BK293 := Aside0.mk (blk_below (bk_ BK293) hb); replace HB := Aside0.mk (below_step bl_ hb); (try clear hb); (try clear hb2); (try clear hk); (try clear hi))); try go_wp2_with (first | (go_at_call 90; (with_reducible refine (impl_uses.calls kj46 a0_0 103 false _ A55.out).mono ?_); rintro e w91 ⟨rfl, hb⟩; replace HO_294003 := Aside0.mk (Kd.V_below (by (with_reducible repeat (first | apply Kd.V_alloc | apply Kd.V_drewN | apply Kd.V_drew)); exact HO_294003.out) hb); replace BK286 := Aside0.mk (blk_below (bk_ BK286) hb); replace BK293 := Aside0.mk (blk_below (bk_ BK293) hb); replace HB := Aside0.mk (below_step bl_ hb); (try clear hb); (try clear hb2); (try clear hk); (try clear hi))))
            go_ret
            exact ⟨sq_, bl_⟩
end Go.Proofs.YtohfefkjcnbejaaGreatDoor.QFnExactReqOf
