-- by my own printer (myprint.py, over the kit's print.py)
import Derived.Test.YtbjpfknmkpnhjaaDoorQFnMoneyx0
import Derived.Test.YtbjpfknmkpnhjaaDoorQFnMoneyx1
import Derived.Test.YtbjpfknmkpnhjaaDoorQFnMoneyx3
import Derived.Test.YtbjpfknmkpnhjaaDoorQFnMoneyx6
import Derived.Test.YtbjpfknmkpnhjaaDoorQFnMoneyx8
namespace Go.Proofs.YtbjpfknmkpnhjaaDoor.QFnMoney
open Go.RowKit Go.Proofs.YtbjpfknmkpnhjaaDoorW.PrintWords Go.Proofs.YtbjpfknmkpnhjaaDoorW.PrintLast Go.Proofs.YtbjpfknmkpnhjaaDoorW.PrintMore
attribute [local go_sem] max2_int min2_int max_two min_two max_three min_three max_four min_four   -- for this text's walks alone
set_option linter.unusedVariables false
set_option linter.unusedSimpArgs false
attribute [local go_sem] my_geq my_leq my_gtr
/-! ### spec_l06Draw: function 53 -/
def spec_l06Draw.l0 : Nat → Int → Int → List Int → Int → Int → Int → Int → List Int → List Int → Option (Int × Int × List Int × List Int × Int × Int)
 | 0, _, _, _, _, _, _, _, _, _ => none
 | k + 1, x5, x6, x1000, x1001, x1002, x279000, x279001, x279002, x279003 => if x6 > 0 then ((spec_l01Below.f x1000 x1001 x1002 9).bind fun bt282 => ((spec_l01Below.f x1000 bt282.2.1 bt282.2.2 90).bind fun bt285 => ((spec_RingAdd.f k x279000 x279001 x279002 x279003 (wrap64 (x5 + bt282.1)) (wrap64 (1 + bt285.1))).bind fun bt288 => (spec_l06Draw.l0 k (wrap64 (x5 + bt282.1)) (wrap64 (x6 - 1)) x1000 bt285.2.1 bt285.2.2 bt288.1 bt288.2.1 bt288.2.2.1 bt288.2.2.2)))) else (some (x279000, x279001, x279002, x279003, x1001, x1002))
def spec_l06Draw.f (k : Nat) (s0_0 : List Int) (s0_1 : Int) (s0_2 : Int) : Option (Int × Int × List Int × List Int × Int × Int) := (spec_l01Below.f s0_0 s0_1 s0_2 5).bind fun bt263 => ((spec_l01Below.f s0_0 bt263.2.1 bt263.2.2 6).bind fun bt266 => ((spec_RingNew.f (wrap64 (1 + bt263.1)) (wrap64 (1 + bt266.1))).bind fun bt269 => ((spec_l01Below.f s0_0 bt266.2.1 bt266.2.2 5).bind fun bt279 => (spec_l06Draw.l0 k 0 bt279.1 s0_0 bt279.2.1 bt279.2.2 bt269.1 bt269.2.1 bt269.2.2.1 bt269.2.2.2.1))))
set_option maxHeartbeats 8000000 in
set_option maxRecDepth 100000 in
theorem spec_l06Draw.calls (k : Nat) (g : Nat) (s0_0 : List Int) (s0_1 : Int) (s0_2 : Int) (r1 : Int) (r2 : Int) (r3 : List Int) (r4 : List Int) (r5 : Int) (r6 : Int) (w0 w : World) (hI : IsS76 w0 w g s0_0 s0_1 s0_2) (hB : Below w0.heap.size w0 w) (h : spec_l06Draw.f k s0_0 s0_1 s0_2 = some (r1, r2, r3, r4, r5, r6)) :
  Calls Tryd.prog 53 #[.pointer (some ⟨g, 0, none⟩)] w fun e w' => ∃ v2_ v3_ : Value, e = .returned (.agg #[.int .i64 r1, .int .i64 r2, v2_, v3_]) ∧ Kd.R (Kd.int .i64) 3 w' w.heap.size (fun k_ => some k_ ≠ (v3_ : Value).ownBlock) v2_ r3 ∧ Kd.R (Kd.int .i64) 3 w' w.heap.size (fun k_ => some k_ ≠ (v2_ : Value).ownBlock) v3_ r4 ∧ IsS76 w0 w' g s0_0 r5 r6 ∧ Below w0.heap.size w0 w' ∧ KeepBut w w' g none := by
 have hu26 := Tryd.underlying26
 have HI0 := Aside0.mk hI
 have HK := Aside0.mk (KeepBut.refl w g none)
 have HL := Aside0.mk hB.size
 clear hI
 have HW0 := Aside0.mk hB.size
 have HB := Aside0.mk hB
 clear hB
 have H : ((spec_l01Below.f s0_0 s0_1 s0_2 5).bind fun bt263 => ((spec_l01Below.f s0_0 bt263.2.1 bt263.2.2 6).bind fun bt266 => ((spec_RingNew.f (wrap64 (1 + bt263.1)) (wrap64 (1 + bt266.1))).bind fun bt269 => ((spec_l01Below.f s0_0 bt266.2.1 bt266.2.2 5).bind fun bt279 => (spec_l06Draw.l0 k 0 bt279.1 s0_0 bt279.2.1 bt279.2.2 bt269.1 bt269.2.1 bt269.2.2.1 bt269.2.2.2.1))))) = some (r1, r2, r3, r4, r5, r6) := h
 clear h
 obtain ⟨⟨t263, t264, t265⟩, A2, H⟩ := ob_ H
 (try dsimp only at H)
 obtain ⟨⟨t266, t267, t268⟩, A3, H⟩ := ob_ H
 (try dsimp only at H)
 obtain ⟨⟨t269, t270, t271, t274, t277⟩, A4, H⟩ := ob_ H
 (try dsimp only at H)
 obtain ⟨⟨t279, t280, t281⟩, A5, H⟩ := ob_ H
 (try dsimp only at H)
 have H' := Aside0.mk H
 clear H
 go_enter Tryd.func53, Tryd.ntmps53
 go_wp2_with (first | ((with_reducible refine gate_dst (N := 2) rfl ?_); refine be_ (N := 2) (cs := #[.int .i64 0, .int .i64 0, .slice none 0 0, .slice none 0 0]) (t := 26) ?_; intro gb262 hg w6 hbox hb; replace HB := Aside0.mk (below_step (by repeat (first | (with_reducible first | exact HB.out | apply below_alloc | apply pw_below_drewN | apply below_drew1 | refine below_set ?_ (IsS76.ge HI0.out)) | exact HB.out)) hb); have BK262 := Aside0.mk (hbox); have GW262 := Aside0.mk ((by rw [hg]; exact (keep_size (w := w) (g := g) (row := none) (by repeat (first | (with_reducible first | exact HK.out | apply KeepBut.set_ | apply keep_drewN | apply keep_drew | apply keep_alloc) | exact HK.out))) : w.heap.size ≤ gb262)); have GE262 := Aside0.mk ((Nat.le_trans HW0.out (by rw [hg]; exact (keep_size (w := w) (g := g) (row := none) (by repeat (first | (with_reducible first | exact HK.out | apply KeepBut.set_ | apply keep_drewN | apply keep_drew | apply keep_alloc) | exact HK.out))) : w.heap.size ≤ gb262) : w0.heap.size ≤ gb262)); replace HK := Aside0.mk (KeepBut.trans (by repeat (first | (with_reducible first | exact HK.out | apply KeepBut.set_ | apply keep_drewN | apply keep_drew | apply keep_alloc) | exact HK.out)) (KeepBut.of_below hb g none) (.inl rfl)); have NB0_262 := Aside0.mk ((by rw [hg]; exact Nat.ne_of_lt (IsS76.lt (show IsS76 w0 _ g s0_0 s0_1 s0_2 from by repeat (first | (with_reducible first | exact HI0.out | apply IsS76.alloc | apply IsS76.drewN | apply IsS76.drew | apply IsS76.set_1 | apply IsS76.set_2) | exact HI0.out))) : g ≠ gb262)); have NB262_0 := Aside0.mk ((by rw [hg]; exact Nat.ne_of_gt (IsS76.lt (show IsS76 w0 _ g s0_0 s0_1 s0_2 from by repeat (first | (with_reducible first | exact HI0.out | apply IsS76.alloc | apply IsS76.drewN | apply IsS76.drew | apply IsS76.set_1 | apply IsS76.set_2) | exact HI0.out))) : gb262 ≠ g)); replace HI0 := Aside0.mk (IsS76.below (by repeat (first | (with_reducible first | exact HI0.out | apply IsS76.alloc | apply IsS76.drewN | apply IsS76.drew | apply IsS76.set_1 | apply IsS76.set_2) | exact HI0.out)) hb); clear hb hbox hg) | ((with_reducible refine gate_callee (f := 52) rfl ?_); refine goesL_ (some 9) rfl rfl Tryd.func52 (by kernel_rfl) rfl #[.pointer (some ⟨g, 0, none⟩), .int .i64 5] rfl gl_ ?_; (with_reducible refine (spec_l01Below.calls g s0_0 s0_1 s0_2 5 t263 t264 t265 w0 _ ?side1 ?side2 A2.out).mono ?_); (case side1 => repeat (first | (with_reducible first | exact HI0.out | apply IsS76.alloc | apply IsS76.drewN | apply IsS76.drew | apply IsS76.set_1 | apply IsS76.set_2 | refine IsS76.far ?_ NB0_262.out _) | exact HI0.out)); (case side2 => repeat (first | (with_reducible first | exact HB.out | apply below_alloc | apply pw_below_drewN | apply below_drew1 | refine below_set ?_ (IsS76.ge HI0.out) | refine below_set ?_ GE262.out) | exact HB.out)); rintro e w7 ⟨rfl, hi, hb, hk⟩; refine ⟨_, rfl, ?_⟩; replace BK262 := Aside0.mk (KeepBut.blk hk (g' := gb262) (o := .cells #[.int .i64 0, .int .i64 0, .slice none 0 0, .slice none 0 0] 26 (0, 0)) (by (with_reducible repeat (first | refine blk_drewN ?_ _ | refine blk_drew ?_ | refine blk_alloc ?_ _)); exact BK262.out) NB262_0.out (by simp)); replace HK := Aside0.mk (KeepBut.trans (by repeat (first | (with_reducible first | exact HK.out | apply KeepBut.set_ | apply keep_drewN | apply keep_drew | apply keep_alloc | refine keep_far ?_ GW262.out _) | exact HK.out)) hk (.inl rfl)); replace HB := Aside0.mk (hb); replace HI0 := Aside0.mk (hi); (try clear hb); (try clear hb2); (try clear hk); (try clear hi)) | ((with_reducible refine gate_callee (f := 52) rfl ?_); refine goesL_ (some 12) rfl rfl Tryd.func52 (by kernel_rfl) rfl #[.pointer (some ⟨g, 0, none⟩), .int .i64 6] rfl gl_ ?_; (with_reducible refine (spec_l01Below.calls g s0_0 t264 t265 6 t266 t267 t268 w0 _ ?side1 ?side2 A3.out).mono ?_); (case side1 => repeat (first | (with_reducible first | exact HI0.out | apply IsS76.alloc | apply IsS76.drewN | apply IsS76.drew | apply IsS76.set_1 | apply IsS76.set_2 | refine IsS76.far ?_ NB0_262.out _) | exact HI0.out)); (case side2 => repeat (first | (with_reducible first | exact HB.out | apply below_alloc | apply pw_below_drewN | apply below_drew1 | refine below_set ?_ (IsS76.ge HI0.out) | refine below_set ?_ GE262.out) | exact HB.out)); rintro e w8 ⟨rfl, hi, hb, hk⟩; refine ⟨_, rfl, ?_⟩; replace BK262 := Aside0.mk (KeepBut.blk hk (g' := gb262) (o := .cells #[.int .i64 0, .int .i64 0, .slice none 0 0, .slice none 0 0] 26 (0, 0)) (by (with_reducible repeat (first | refine blk_drewN ?_ _ | refine blk_drew ?_ | refine blk_alloc ?_ _)); exact BK262.out) NB262_0.out (by simp)); replace HK := Aside0.mk (KeepBut.trans (by repeat (first | (with_reducible first | exact HK.out | apply KeepBut.set_ | apply keep_drewN | apply keep_drew | apply keep_alloc | refine keep_far ?_ GW262.out _) | exact HK.out)) hk (.inl rfl)); replace HB := Aside0.mk (hb); replace HI0 := Aside0.mk (hi); (try clear hb); (try clear hb2); (try clear hk); (try clear hi)) | ((with_reducible refine gate_callee (f := 96) rfl ?_); refine goesL_ (some 14) rfl rfl Tryd.func96 (by kernel_rfl) rfl #[.int .i64 (wrap64 (1 + t263)), .int .i64 (wrap64 (1 + t266))] rfl gl_ ?_; (with_reducible refine (spec_RingNew.calls (wrap64 (1 + t263)) (wrap64 (1 + t266)) t269 t270 t271 t274 t277 _ A4.out).mono ?_); rintro e w9 ⟨v272, v275, rfl, ho0, ho1, hb⟩; refine ⟨_, rfl, ?_⟩; have HO273 := Aside0.mk (Kd.R_lower ho0 (keep_size (w := w) (g := g) (row := none) (by repeat (first | (with_reducible first | exact HK.out | apply KeepBut.set_ | apply keep_drewN | apply keep_drew | apply keep_alloc | refine keep_far ?_ GW262.out _) | exact HK.out)))); have HO276 := Aside0.mk (Kd.R_lower ho1 (keep_size (w := w) (g := g) (row := none) (by repeat (first | (with_reducible first | exact HK.out | apply KeepBut.set_ | apply keep_drewN | apply keep_drew | apply keep_alloc | refine keep_far ?_ GW262.out _) | exact HK.out)))); replace BK262 := Aside0.mk (blk_below (bk_ BK262) hb); replace HK := Aside0.mk (KeepBut.trans (by repeat (first | (with_reducible first | exact HK.out | apply KeepBut.set_ | apply keep_drewN | apply keep_drew | apply keep_alloc | refine keep_far ?_ GW262.out _) | exact HK.out)) (KeepBut.of_below hb g none) (.inl rfl)); replace HB := Aside0.mk (below_step (by repeat (first | (with_reducible first | exact HB.out | apply below_alloc | apply pw_below_drewN | apply below_drew1 | refine below_set ?_ (IsS76.ge HI0.out) | refine below_set ?_ GE262.out) | exact HB.out)) hb); replace HI0 := Aside0.mk (IsS76.below (by repeat (first | (with_reducible first | exact HI0.out | apply IsS76.alloc | apply IsS76.drewN | apply IsS76.drew | apply IsS76.set_1 | apply IsS76.set_2 | refine IsS76.far ?_ NB0_262.out _) | exact HI0.out)) hb); (try clear hb); (try clear hb2); (try clear hk); (try clear hi); (try clear ho0); (try clear ho1)) | ((with_reducible refine gate_dst (N := 3) rfl ?_); refine be_ (N := 3) (cs := #[.int .i64 0, .int .i64 0, .slice none 0 0, .slice none 0 0]) (t := 26) ?_; intro gb278 hg w10 hbox hb; replace HO273 := Aside0.mk (Kd.R_below (ra_ HO273) hb); replace HO276 := Aside0.mk (Kd.R_below (ra_ HO276) hb); replace HB := Aside0.mk (below_step (by repeat (first | (with_reducible first | exact HB.out | apply below_alloc | apply pw_below_drewN | apply below_drew1 | refine below_set ?_ (IsS76.ge HI0.out) | refine below_set ?_ GE262.out) | exact HB.out)) hb); have BK278 := Aside0.mk (hbox); have GW278 := Aside0.mk ((by rw [hg]; exact (keep_size (w := w) (g := g) (row := none) (by repeat (first | (with_reducible first | exact HK.out | apply KeepBut.set_ | apply keep_drewN | apply keep_drew | apply keep_alloc | refine keep_far ?_ GW262.out _) | exact HK.out))) : w.heap.size ≤ gb278)); have GE278 := Aside0.mk ((Nat.le_trans HW0.out (by rw [hg]; exact (keep_size (w := w) (g := g) (row := none) (by repeat (first | (with_reducible first | exact HK.out | apply KeepBut.set_ | apply keep_drewN | apply keep_drew | apply keep_alloc | refine keep_far ?_ GW262.out _) | exact HK.out))) : w.heap.size ≤ gb278) : w0.heap.size ≤ gb278)); replace HK := Aside0.mk (KeepBut.trans (by repeat (first | (with_reducible first | exact HK.out | apply KeepBut.set_ | apply keep_drewN | apply keep_drew | apply keep_alloc | refine keep_far ?_ GW262.out _) | exact HK.out)) (KeepBut.of_below hb g none) (.inl rfl)); have NB262_278 := Aside0.mk ((by rw [hg]; exact Nat.ne_of_lt (blk_lt (bk_ BK262)) : gb262 ≠ gb278)); have NB278_262 := Aside0.mk ((by rw [hg]; exact Nat.ne_of_gt (blk_lt (bk_ BK262)) : gb278 ≠ gb262)); replace BK262 := Aside0.mk (blk_below (bk_ BK262) hb); have NB0_278 := Aside0.mk ((by rw [hg]; exact Nat.ne_of_lt (IsS76.lt (show IsS76 w0 _ g s0_0 t267 t268 from by repeat (first | (with_reducible first | exact HI0.out | apply IsS76.alloc | apply IsS76.drewN | apply IsS76.drew | apply IsS76.set_1 | apply IsS76.set_2 | refine IsS76.far ?_ NB0_262.out _) | exact HI0.out))) : g ≠ gb278)); have NB278_0 := Aside0.mk ((by rw [hg]; exact Nat.ne_of_gt (IsS76.lt (show IsS76 w0 _ g s0_0 t267 t268 from by repeat (first | (with_reducible first | exact HI0.out | apply IsS76.alloc | apply IsS76.drewN | apply IsS76.drew | apply IsS76.set_1 | apply IsS76.set_2 | refine IsS76.far ?_ NB0_262.out _) | exact HI0.out))) : gb278 ≠ g)); replace HI0 := Aside0.mk (IsS76.below (by repeat (first | (with_reducible first | exact HI0.out | apply IsS76.alloc | apply IsS76.drewN | apply IsS76.drew | apply IsS76.set_1 | apply IsS76.set_2 | refine IsS76.far ?_ NB0_262.out _) | exact HI0.out)) hb); clear hb hbox hg; have hnb11 := NB278_262.out; have hnc11 := NB262_278.out; have hnb12 := NB278_0.out; have hnc12 := NB0_278.out; obtain ⟨hcz13_0, hcz13_1, hcz13_2, hcz13_3, hfz13_0, hfz13_1, hfz13_2, hfz13_3⟩ := bx4_ BK278; obtain ⟨Ao14, co14, eo14⟩ := Kd.R_slice HO273.out; subst eo14; obtain ⟨Ao15, co15, eo15⟩ := Kd.R_slice HO276.out; subst eo15) | ((with_reducible refine gate_callee (f := 52) rfl ?_); refine goesL_ (some 18) rfl rfl Tryd.func52 (by kernel_rfl) rfl #[.pointer (some ⟨g, 0, none⟩), .int .i64 5] rfl gl_ ?_; (with_reducible refine (spec_l01Below.calls g s0_0 t267 t268 5 t279 t280 t281 w0 _ ?side1 ?side2 A5.out).mono ?_); (case side1 => repeat (first | (with_reducible first | exact HI0.out | apply IsS76.alloc | apply IsS76.drewN | apply IsS76.drew | apply IsS76.set_1 | apply IsS76.set_2 | refine IsS76.far ?_ NB0_262.out _ | refine IsS76.far ?_ NB0_278.out _) | exact HI0.out)); (case side2 => repeat (first | (with_reducible first | exact HB.out | apply below_alloc | apply pw_below_drewN | apply below_drew1 | refine below_set ?_ (IsS76.ge HI0.out) | refine below_set ?_ GE262.out | refine below_set ?_ GE278.out) | exact HB.out)); rintro e w16 ⟨rfl, hi, hb, hk⟩; refine ⟨_, rfl, ?_⟩; replace BK262 := Aside0.mk (KeepBut.blk hk (g' := gb262) (o := .cells #[.int .i64 0, .int .i64 0, .slice none 0 0, .slice none 0 0] 26 (0, 0)) (by (with_reducible repeat (first | refine blk_drewN ?_ _ | refine blk_drew ?_ | refine blk_alloc ?_ _)); refine blk_far ?_ NB262_278.out _; (with_reducible repeat (first | refine blk_drewN ?_ _ | refine blk_drew ?_ | refine blk_alloc ?_ _)); refine blk_far ?_ NB262_278.out _; (with_reducible repeat (first | refine blk_drewN ?_ _ | refine blk_drew ?_ | refine blk_alloc ?_ _)); refine blk_far ?_ NB262_278.out _; (with_reducible repeat (first | refine blk_drewN ?_ _ | refine blk_drew ?_ | refine blk_alloc ?_ _)); refine blk_far ?_ NB262_278.out _; (with_reducible repeat (first | refine blk_drewN ?_ _ | refine blk_drew ?_ | refine blk_alloc ?_ _)); exact BK262.out) NB262_0.out (by simp)); replace HO273 := Aside0.mk (Kd.R_mono (Kd.R_keep (IsS76.apart (show IsS76 w0 _ g s0_0 t267 t268 from by repeat (first | (with_reducible first | exact HI0.out | apply IsS76.alloc | apply IsS76.drewN | apply IsS76.drew | apply IsS76.set_1 | apply IsS76.set_2 | refine IsS76.far ?_ NB0_262.out _ | refine IsS76.far ?_ NB0_278.out _) | exact HI0.out)) (by (with_reducible repeat (first | apply Kd.R_alloc | apply Kd.R_drewN | apply Kd.R_drew)); exact (Kd.R_mono (Kd.R_far (p := ⟨gb278, 3, none⟩) (Kd.R_far (p := ⟨gb278, 2, none⟩) (Kd.R_far (p := ⟨gb278, 1, none⟩) (Kd.R_far (p := ⟨gb278, 0, none⟩) (Kd.R_types HO273.out BK278.out (by decide)) (fun _ hk => hk.2) (.int .i64 t269)) (fun _ hk => hk.2) (.int .i64 t270)) (fun _ hk => hk.2) (.slice Ao14 t271.length co14)) (fun _ hk => hk.2) (.slice Ao15 t274.length co15)) (fun _ h_ => h_.1))) (by decide)) hk (fun _ h => h.2)) (fun _ h => h.1)); replace HO276 := Aside0.mk (Kd.R_mono (Kd.R_keep (IsS76.apart (show IsS76 w0 _ g s0_0 t267 t268 from by repeat (first | (with_reducible first | exact HI0.out | apply IsS76.alloc | apply IsS76.drewN | apply IsS76.drew | apply IsS76.set_1 | apply IsS76.set_2 | refine IsS76.far ?_ NB0_262.out _ | refine IsS76.far ?_ NB0_278.out _) | exact HI0.out)) (by (with_reducible repeat (first | apply Kd.R_alloc | apply Kd.R_drewN | apply Kd.R_drew)); exact (Kd.R_mono (Kd.R_far (p := ⟨gb278, 3, none⟩) (Kd.R_far (p := ⟨gb278, 2, none⟩) (Kd.R_far (p := ⟨gb278, 1, none⟩) (Kd.R_far (p := ⟨gb278, 0, none⟩) (Kd.R_types HO276.out BK278.out (by decide)) (fun _ hk => hk.2) (.int .i64 t269)) (fun _ hk => hk.2) (.int .i64 t270)) (fun _ hk => hk.2) (.slice Ao14 t271.length co14)) (fun _ hk => hk.2) (.slice Ao15 t274.length co15)) (fun _ h_ => h_.1))) (by decide)) hk (fun _ h => h.2)) (fun _ h => h.1)); replace BK278 := Aside0.mk (KeepBut.blk hk (g' := gb278) (o := .cells #[.int .i64 t269, .int .i64 t270, .slice Ao14 t271.length co14, .slice Ao15 t274.length co15] 26 (0, 0)) (by (with_reducible repeat (first | refine blk_drewN ?_ _ | refine blk_drew ?_ | refine blk_alloc ?_ _)); apply bq4_3_2_1_0_; (with_reducible repeat (first | refine blk_drewN ?_ _ | refine blk_drew ?_ | refine blk_alloc ?_ _)); exact BK278.out) NB278_0.out (by simp)); replace HK := Aside0.mk (KeepBut.trans (by repeat (first | (with_reducible first | exact HK.out | apply KeepBut.set_ | apply keep_drewN | apply keep_drew | apply keep_alloc | refine keep_far ?_ GW262.out _ | refine keep_far ?_ GW278.out _) | exact HK.out)) hk (.inl rfl)); replace HB := Aside0.mk (hb); replace HI0 := Aside0.mk (hi); (try clear hb); (try clear hb2); (try clear hk); (try clear hi)))
 go_loopg [5, 6] k (fun kq v5 v6 w' => ∃ (x5_1 : Int) (x6_1 : Int) (x1001_1 : Int) (x1002_1 : Int) (x279000_1 : Int) (x279001_1 : Int) (x279002_1 : List Int) (x279003_1 : List Int) (u279002 : Value) (u279003 : Value), v5 = .int .i64 x5_1 ∧ v6 = .int .i64 x6_1 ∧ Aside0 (spec_l06Draw.l0 kq x5_1 x6_1 s0_0 x1001_1 x1002_1 x279000_1 x279001_1 x279002_1 x279003_1 = some (r1, r2, r3, r4, r5, r6)) ∧ Aside0 (kq ≤ k) ∧ Aside0 (Kd.R (Kd.int .i64) 3 w' w.heap.size (fun k_ => some k_ ≠ (u279003 : Value).ownBlock) u279002 x279002_1) ∧ Aside0 (Kd.R (Kd.int .i64) 3 w' w.heap.size (fun k_ => some k_ ≠ (u279002 : Value).ownBlock) u279003 x279003_1) ∧ Aside0 (w'.heap[gb262]? = some (.cells #[.int .i64 0, .int .i64 0, (.slice none 0 0), (.slice none 0 0)] 26 (0, 0))) ∧ Aside0 (w'.heap[gb278]? = some (.cells #[.int .i64 x279000_1, .int .i64 x279001_1, u279002, u279003] 26 (0, 0))) ∧ Aside0 (IsS76 w0 w' g s0_0 x1001_1 x1002_1) ∧ Aside0 (KeepBut w w' g none) ∧ Aside0 (Below w0.heap.size w0 w'))
 case atStart => exact ⟨(0), (t279), (t280), (t281), (t269), (t270), (t271), (t274), (.slice Ao14 t271.length co14), (.slice Ao15 t274.length co15), sp_, sp_, H', ⟨Nat.le_refl _⟩, ⟨ra_ HO273⟩, ⟨ra_ HO276⟩, ⟨by (with_reducible repeat (first | refine blk_drewN ?_ _ | refine blk_drew ?_ | refine blk_alloc ?_ _)); exact BK262.out⟩, ⟨by (with_reducible repeat (first | refine blk_drewN ?_ _ | refine blk_drew ?_ | refine blk_alloc ?_ _)); exact BK278.out⟩, ⟨by repeat (first | (with_reducible first | exact HI0.out | apply IsS76.alloc | apply IsS76.drewN | apply IsS76.drew | apply IsS76.set_1 | apply IsS76.set_2 | refine IsS76.far ?_ NB0_262.out _ | refine IsS76.far ?_ NB0_278.out _) | exact HI0.out)⟩, ⟨by repeat (first | (with_reducible first | exact HK.out | apply KeepBut.set_ | apply keep_drewN | apply keep_drew | apply keep_alloc | refine keep_far ?_ GW262.out _ | refine keep_far ?_ GW278.out _) | exact HK.out)⟩, ⟨by repeat (first | (with_reducible first | exact HB.out | apply below_alloc | apply pw_below_drewN | apply below_drew1 | refine below_set ?_ (IsS76.ge HI0.out) | refine below_set ?_ GE262.out | refine below_set ?_ GE278.out) | exact HB.out)⟩⟩
 case round =>
  clear H'
  try clear c1
  try clear p2
  try clear c5
  try clear p6
  try clear c9
  try clear c11
  try clear c12
  try clear hcz13_0
  try clear hcz13_1
  try clear hcz13_2
  try clear hcz13_3
  try clear hfz13_0
  try clear hfz13_1
  try clear hfz13_2
  try clear hfz13_3
  obtain ⟨x5_1, x6_1, x1001_1, x1002_1, x279000_1, x279001_1, x279002_1, x279003_1, u279002, u279003, rfl, rfl, HA, HK1, HO_279002, HO_279003, BK262, BK278, HI0, HK, HB⟩ := hrel
  cases gk with
  | zero => exact absurd HA.out (by simp [spec_l06Draw.l0])
  | succ k1 =>
   have H := HA.out
   clear HA
   simp only [spec_l06Draw.l0] at H
   by_cases c17 : x6_1 > 0
   ·rw [if_pos c17] at H
    have c17b0 : decide (0 < x6_1) = true := decide_eq_true c17
    clear c17
    obtain ⟨⟨t282, t283, t284⟩, A18, H⟩ := ob_ H
    (try dsimp only at H)
    obtain ⟨⟨t285, t286, t287⟩, A19, H⟩ := ob_ H
    (try dsimp only at H)
    obtain ⟨⟨t288, t289, t290, t293⟩, A20, H⟩ := ob_ H
    (try dsimp only at H)
    have H' := Aside0.mk H
    clear H
    try go_wp2_with (first | ((with_reducible refine gate_callee (f := 52) rfl ?_); refine goesL_ (some 25) rfl rfl Tryd.func52 (by kernel_rfl) rfl #[.pointer (some ⟨g, 0, none⟩), .int .i64 9] rfl gl_ ?_; (with_reducible refine (spec_l01Below.calls g s0_0 x1001_1 x1002_1 9 t282 t283 t284 w0 _ ?side1 ?side2 A18.out).mono ?_); (case side1 => repeat (first | (with_reducible first | exact HI0.out | apply IsS76.alloc | apply IsS76.drewN | apply IsS76.drew | apply IsS76.set_1 | apply IsS76.set_2 | refine IsS76.far ?_ NB0_262.out _ | refine IsS76.far ?_ NB0_278.out _) | exact HI0.out)); (case side2 => repeat (first | (with_reducible first | exact HB.out | apply below_alloc | apply pw_below_drewN | apply below_drew1 | refine below_set ?_ (IsS76.ge HI0.out) | refine below_set ?_ GE262.out | refine below_set ?_ GE278.out) | exact HB.out)); rintro e w21 ⟨rfl, hi, hb, hk⟩; refine ⟨_, rfl, ?_⟩; replace HO_279002 := Aside0.mk (Kd.R_mono (Kd.R_keep (IsS76.apart (show IsS76 w0 _ g s0_0 x1001_1 x1002_1 from by repeat (first | (with_reducible first | exact HI0.out | apply IsS76.alloc | apply IsS76.drewN | apply IsS76.drew | apply IsS76.set_1 | apply IsS76.set_2 | refine IsS76.far ?_ NB0_262.out _ | refine IsS76.far ?_ NB0_278.out _) | exact HI0.out)) (ra_ HO_279002) (by decide)) hk (fun _ h => h.2)) (fun _ h => h.1)); replace HO_279003 := Aside0.mk (Kd.R_mono (Kd.R_keep (IsS76.apart (show IsS76 w0 _ g s0_0 x1001_1 x1002_1 from by repeat (first | (with_reducible first | exact HI0.out | apply IsS76.alloc | apply IsS76.drewN | apply IsS76.drew | apply IsS76.set_1 | apply IsS76.set_2 | refine IsS76.far ?_ NB0_262.out _ | refine IsS76.far ?_ NB0_278.out _) | exact HI0.out)) (ra_ HO_279003) (by decide)) hk (fun _ h => h.2)) (fun _ h => h.1)); replace BK262 := Aside0.mk (KeepBut.blk hk (g' := gb262) (o := .cells #[.int .i64 0, .int .i64 0, .slice none 0 0, .slice none 0 0] 26 (0, 0)) (by (with_reducible repeat (first | refine blk_drewN ?_ _ | refine blk_drew ?_ | refine blk_alloc ?_ _)); exact BK262.out) NB262_0.out (by simp)); replace BK278 := Aside0.mk (KeepBut.blk hk (g' := gb278) (o := .cells #[.int .i64 x279000_1, .int .i64 x279001_1, u279002, u279003] 26 (0, 0)) (by (with_reducible repeat (first | refine blk_drewN ?_ _ | refine blk_drew ?_ | refine blk_alloc ?_ _)); exact BK278.out) NB278_0.out (by simp)); replace HK := Aside0.mk (KeepBut.trans (by repeat (first | (with_reducible first | exact HK.out | apply KeepBut.set_ | apply keep_drewN | apply keep_drew | apply keep_alloc | refine keep_far ?_ GW262.out _ | refine keep_far ?_ GW278.out _) | exact HK.out)) hk (.inl rfl)); replace HB := Aside0.mk (hb); replace HI0 := Aside0.mk (hi); (try clear hb); (try clear hb2); (try clear hk); (try clear hi)))
    have n0_ := Aside0.mk (Kd.R_drew HO_279002.out)
    have n1_ := Aside0.mk (Kd.R_drew HO_279003.out)
    have n2_ := Aside0.mk (blk_drew BK262.out)
    have n3_ := Aside0.mk (blk_drew BK278.out)
    have n4_ := Aside0.mk (IsS76.drew HI0.out)
    have n5_ := Aside0.mk (keep_drew HK.out)
    have n6_ := Aside0.mk (below_drew1 HB.out)
    clear HO_279002
    clear HO_279003
    clear BK262
    clear BK278
    clear HI0
    clear HK
    clear HB
    have HO_279002 := n0_
    have HO_279003 := n1_
    have BK262 := n2_
    have BK278 := n3_
    have HI0 := n4_
    have HK := n5_
    have HB := n6_
    clear n0_ n1_ n2_ n3_ n4_ n5_ n6_
    refine start_ (n := 7) (S := fun w' => w'.cell? ⟨gb278, 0, none⟩ = some (.int .i64 x279000_1) ∧ w'.cell? ⟨gb278, 1, none⟩ = some (.int .i64 x279001_1) ∧ w'.cell? ⟨gb278, 2, none⟩ = some (u279002) ∧ w'.cell? ⟨gb278, 3, none⟩ = some (u279003)) (ds := [6]) #[false, false, false, false, false, false, false] (by kernel_rfl) rfl rfl ⟨cy_ BK278 0, cy_ BK278 1, cy_ BK278 2, cy_ BK278 3⟩ (fun hHeld => ?_)
    generalize w21.drew = w22 at HO_279002 HO_279003 BK262 BK278 HI0 HK HB hHeld ⊢
    refine pure_ (i := 1) (N := some 28) (v := ?_) (a' := ?_) #[false, true, false, false, false, false, false] rfl rfl (by kernel_rfl) (fun _ _ _ h => h) (Or.inl ⟨by rfl, ?_⟩) ?_ ?_
    rotate_left
    ·intro w'
     go_simp
     with_reducible rfl
    rotate_left
    ·simp only [Act.put, q_]
     rfl
    refine pure_ (i := 2) (N := some 29) (v := ?_) (a' := ?_) #[false, true, true, false, false, false, false] rfl rfl (by kernel_rfl) (fun _ _ _ h => h) (Or.inl ⟨by rfl, ?_⟩) ?_ ?_
    rotate_left
    ·intro w'
     go_simp
     with_reducible rfl
    rotate_left
    ·simp only [Act.put, q_]
     rfl
    refine take_ (i := 0) (N := some 27) (v := ?_) (a' := ?_) #[true, true, true, false, false, false, false] rfl rfl (by kernel_rfl) (fun _ _ _ h => h) (Or.inl ⟨by rfl, ?_⟩) hHeld ?_ ?_
    rotate_left
    ·rintro w' ⟨s0, s1, s2, s3⟩
     go_simp
     with_reducible rfl
    rotate_left
    ·simp only [Act.put, q_]
     rfl
    refine one_ (i := 3) (N := some 30) #[true, true, true, true, false, false, false] rfl rfl (by kernel_rfl) (by decide) (fun K hK => ?_)
    refine goes_ Tryd.func52 (by kernel_rfl) rfl #[.pointer (some ⟨g, 0, none⟩), .int .i64 90] (by rfl) rfl rfl gl_ ?_
    with_reducible refine (spec_l01Below.calls g s0_0 t283 t284 90 t285 t286 t287 w0 _ ?side1 ?side2 A19.out).mono ?_
    (case side1 => repeat (first | (with_reducible first | exact HI0.out | apply IsS76.alloc | apply IsS76.drewN | apply IsS76.drew | apply IsS76.set_1 | apply IsS76.set_2 | refine IsS76.far ?_ NB0_262.out _ | refine IsS76.far ?_ NB0_278.out _) | exact HI0.out))
    (case side2 => repeat (first | (with_reducible first | exact HB.out | apply below_alloc | apply pw_below_drewN | apply below_drew1 | refine below_set ?_ (IsS76.ge HI0.out) | refine below_set ?_ GE262.out | refine below_set ?_ GE278.out) | exact HB.out))
    rintro e w23 ⟨rfl, hi, hb, hk⟩
    refine ⟨_, rfl, ?_⟩
    have n0_ := Aside0.mk (Kd.R_mono (Kd.R_keep (IsS76.apart (show IsS76 w0 _ g s0_0 t283 t284 from by repeat (first | (with_reducible first | exact HI0.out | apply IsS76.alloc | apply IsS76.drewN | apply IsS76.drew | apply IsS76.set_1 | apply IsS76.set_2 | refine IsS76.far ?_ NB0_262.out _ | refine IsS76.far ?_ NB0_278.out _) | exact HI0.out)) (ra_ HO_279002) (by decide)) hk (fun _ h => h.2)) (fun _ h => h.1))
    have n1_ := Aside0.mk (Kd.R_mono (Kd.R_keep (IsS76.apart (show IsS76 w0 _ g s0_0 t283 t284 from by repeat (first | (with_reducible first | exact HI0.out | apply IsS76.alloc | apply IsS76.drewN | apply IsS76.drew | apply IsS76.set_1 | apply IsS76.set_2 | refine IsS76.far ?_ NB0_262.out _ | refine IsS76.far ?_ NB0_278.out _) | exact HI0.out)) (ra_ HO_279003) (by decide)) hk (fun _ h => h.2)) (fun _ h => h.1))
    have n2_ := Aside0.mk (KeepBut.blk hk (g' := gb262) (o := .cells #[.int .i64 0, .int .i64 0, .slice none 0 0, .slice none 0 0] 26 (0, 0)) (by (with_reducible repeat (first | refine blk_drewN ?_ _ | refine blk_drew ?_ | refine blk_alloc ?_ _)); exact BK262.out) NB262_0.out (by simp))
    have n3_ := Aside0.mk (KeepBut.blk hk (g' := gb278) (o := .cells #[.int .i64 x279000_1, .int .i64 x279001_1, u279002, u279003] 26 (0, 0)) (by (with_reducible repeat (first | refine blk_drewN ?_ _ | refine blk_drew ?_ | refine blk_alloc ?_ _)); exact BK278.out) NB278_0.out (by simp))
    have n4_ := Aside0.mk (KeepBut.trans (by repeat (first | (with_reducible first | exact HK.out | apply KeepBut.set_ | apply keep_drewN | apply keep_drew | apply keep_alloc | refine keep_far ?_ GW262.out _ | refine keep_far ?_ GW278.out _) | exact HK.out)) hk (.inl rfl))
    have n5_ := Aside0.mk (hb)
    have n6_ := Aside0.mk (hi)
    clear HO_279002
    clear HO_279003
    clear BK262
    clear BK278
    clear HK
    clear HB
    clear HI0
    have HO_279002 := n0_
    have HO_279003 := n1_
    have BK262 := n2_
    have BK278 := n3_
    have HK := n4_
    have HB := n5_
    have HI0 := n6_
    clear n0_ n1_ n2_ n3_ n4_ n5_ n6_
    (try clear hb)
    (try clear hb2)
    (try clear hk)
    (try clear hi)
    obtain ⟨Ao24, co24, eo24⟩ := Kd.R_slice HO_279002.out
    (first | subst eo24 | (injection eo24 with f1_ f2_ f3_; have f4_ := f1_.symm; have f5_ := f3_.symm; clear f1_ f2_ f3_; subst f4_; subst f5_))
    obtain ⟨Ao25, co25, eo25⟩ := Kd.R_slice HO_279003.out
    (first | subst eo25 | (injection eo25 with f1_ f2_ f3_; have f4_ := f1_.symm; have f5_ := f3_.symm; clear f1_ f2_ f3_; subst f4_; subst f5_))
    refine hK.out _ _ ⟨cy_ BK278 0, cy_ BK278 1, cy_ BK278 2, cy_ BK278 3⟩ (fun hHeld => ?_)
    clear hK K
    refine norm_ (a' := ?_) ?_ ?_
    rotate_left
    ·show Act.put _ (some 30) _ = _
     simp only [Act.put, q_]
     rfl
    refine pure_ (i := 4) (N := some 31) (v := ?_) (a' := ?_) #[true, true, true, true, true, false, false] rfl rfl (by kernel_rfl) (fun _ _ _ h => h) (Or.inl ⟨by rfl, ?_⟩) ?_ ?_
    rotate_left
    ·intro w'
     go_simp
     with_reducible rfl
    rotate_left
    ·simp only [Act.put, q_]
     rfl
    refine one_ (i := 5) (N := some 32) #[true, true, true, true, true, true, false] rfl rfl (by kernel_rfl) (by decide) (fun K hK => ?_)
    refine goes_ Tryd.func99 (by kernel_rfl) rfl #[.agg #[.int .i64 x279000_1, .int .i64 x279001_1, .slice Ao24 x279002_1.length co24, .slice Ao25 x279003_1.length co25], .int .i64 (wrap64 (x5_1 + t282)), .int .i64 (wrap64 (1 + t285))] (by rfl) rfl rfl gl_ ?_
    with_reducible refine (spec_RingAdd.calls k1 x279000_1 x279001_1 _ _ x279002_1 _ _ x279003_1 (wrap64 (x5_1 + t282)) (wrap64 (1 + t285)) t288 t289 t290 t293 _ ?side1 ?side2 ?side3 ?side4 A20.out).mono ?_
    (case side1 => exact ca_ ((Kd.R_reads' HO_279002.out).2.2))
    (case side2 => exact (Kd.R_reads' HO_279002.out).2.1)
    (case side3 => exact ca_ ((Kd.R_reads' HO_279003.out).2.2))
    (case side4 => exact (Kd.R_reads' HO_279003.out).2.1)
    rintro e w26 ⟨v291, v294, rfl, ho0, ho1, hb⟩
    refine ⟨_, rfl, ?_⟩
    have n0_ := Aside0.mk (Kd.R_mono (Kd.R_told (Kd.R_told (Kd.R_old (ra_ HO_279002) hb) (Kd.R_base ho0)) (Kd.R_base ho1)) (fun _ h_ => h_.1))
    have n1_ := Aside0.mk (Kd.R_mono (Kd.R_told (Kd.R_told (Kd.R_old (ra_ HO_279003) hb) (Kd.R_base ho0)) (Kd.R_base ho1)) (fun _ h_ => h_.1))
    have n2_ := Aside0.mk (Kd.R_lower (Kd.R_new' (Kd.R_new' ho0 (Kd.R_lt (ra_ HO_279002))) (Kd.R_lt (ra_ HO_279003))) (keep_size (w := w) (g := g) (row := none) (by repeat (first | (with_reducible first | exact HK.out | apply KeepBut.set_ | apply keep_drewN | apply keep_drew | apply keep_alloc | refine keep_far ?_ GW262.out _ | refine keep_far ?_ GW278.out _) | exact HK.out))))
    have n3_ := Aside0.mk (Kd.R_lower (Kd.R_new' (Kd.R_new' ho1 (Kd.R_lt (ra_ HO_279002))) (Kd.R_lt (ra_ HO_279003))) (keep_size (w := w) (g := g) (row := none) (by repeat (first | (with_reducible first | exact HK.out | apply KeepBut.set_ | apply keep_drewN | apply keep_drew | apply keep_alloc | refine keep_far ?_ GW262.out _ | refine keep_far ?_ GW278.out _) | exact HK.out))))
    have n4_ := Aside0.mk (blk_below (bk_ BK262) hb)
    have n5_ := Aside0.mk (blk_below (bk_ BK278) hb)
    have n6_ := Aside0.mk (IsS76.below (by repeat (first | (with_reducible first | exact HI0.out | apply IsS76.alloc | apply IsS76.drewN | apply IsS76.drew | apply IsS76.set_1 | apply IsS76.set_2 | refine IsS76.far ?_ NB0_262.out _ | refine IsS76.far ?_ NB0_278.out _) | exact HI0.out)) hb)
    have n7_ := Aside0.mk (KeepBut.trans (by repeat (first | (with_reducible first | exact HK.out | apply KeepBut.set_ | apply keep_drewN | apply keep_drew | apply keep_alloc | refine keep_far ?_ GW262.out _ | refine keep_far ?_ GW278.out _) | exact HK.out)) (KeepBut.of_below hb g none) (.inl rfl))
    have n8_ := Aside0.mk (below_step (by repeat (first | (with_reducible first | exact HB.out | apply below_alloc | apply pw_below_drewN | apply below_drew1 | refine below_set ?_ (IsS76.ge HI0.out) | refine below_set ?_ GE262.out | refine below_set ?_ GE278.out) | exact HB.out)) hb)
    clear HO_279002
    clear HO_279003
    clear BK262
    clear BK278
    clear HI0
    clear HK
    clear HB
    have HO_279002 := n0_
    have HO_279003 := n1_
    have HO292 := n2_
    have HO295 := n3_
    have BK262 := n4_
    have BK278 := n5_
    have HI0 := n6_
    have HK := n7_
    have HB := n8_
    clear n0_ n1_ n2_ n3_ n4_ n5_ n6_ n7_ n8_
    (try clear hb)
    (try clear hb2)
    (try clear hk)
    (try clear hi)
    (try clear ho0)
    (try clear ho1)
    obtain ⟨Ao29, co29, eo29⟩ := Kd.R_slice HO292.out
    (first | subst eo29 | (injection eo29 with f1_ f2_ f3_; have f4_ := f1_.symm; have f5_ := f3_.symm; clear f1_ f2_ f3_; subst f4_; subst f5_))
    obtain ⟨Ao31, co31, eo31⟩ := Kd.R_slice HO295.out
    (first | subst eo31 | (injection eo31 with f1_ f2_ f3_; have f4_ := f1_.symm; have f5_ := f3_.symm; clear f1_ f2_ f3_; subst f4_; subst f5_))
    refine hK.out _ _ ⟨cy_ BK278 0, cy_ BK278 1, cy_ BK278 2, cy_ BK278 3⟩ (fun hHeld => ?_)
    clear hK K
    refine norm_ (a' := ?_) ?_ ?_
    rotate_left
    ·show Act.put _ (some 32) _ = _
     simp only [Act.put, q_]
     rfl
    refine last_ (i := 6) (N := none) #[true, true, true, true, true, true, true] rfl rfl (by kernel_rfl) (by decide) (fun K hK => ?_)
    have hs27 : w26.cell? ⟨gb278, 0, none⟩ = some (.int .i64 x279000_1) := cy_ BK278 0
    have hfs27 := fz_ BK278 0
    have hns27_0 := NB262_278.out
    have hms27_0 := NB278_262.out
    have hs28 : w26.cell? ⟨gb278, 1, none⟩ = some (.int .i64 x279001_1) := cy_ BK278 1
    have hfs28 := fz_ BK278 1
    have hns28_0 := NB262_278.out
    have hms28_0 := NB278_262.out
    have hs30 : w26.cell? ⟨gb278, 2, none⟩ = some (.slice Ao24 x279002_1.length co24) := cy_ BK278 2
    have hfs30 := fz_ BK278 2
    have hns30_0 := NB262_278.out
    have hms30_0 := NB278_262.out
    have hs32 : w26.cell? ⟨gb278, 3, none⟩ = some (.slice Ao25 x279003_1.length co25) := cy_ BK278 3
    have hfs32 := fz_ BK278 3
    have hns32_0 := NB262_278.out
    have hms32_0 := NB278_262.out
    refine skip_ (w1 := ?_) (by rfl) rfl ?_ ?_
    rotate_left
    ·go_simp
     rfl
    refine hK.out _ _ ?_
    clear hK K
    refine done_ (by kernel_rfl) ?_
    try go_wp2
    go_roundg k1
    case measure => have := HK1.out; omega
    case rel => exact ⟨(wrap64 (x5_1 + t282)), (wrap64 (x6_1 - 1)), (t286), (t287), (t288), (t289), (t290), (t293), (.slice Ao29 t290.length co29), (.slice Ao31 t293.length co31), sp_, sp_, H', ⟨by have := HK1.out; omega⟩, ⟨by (with_reducible repeat (first | apply Kd.R_alloc | apply Kd.R_drewN | apply Kd.R_drew)); exact Kd.R_mono (Kd.R_far (p := ⟨gb278, 3, none⟩) (Kd.R_far (p := ⟨gb278, 2, none⟩) (Kd.R_far (p := ⟨gb278, 1, none⟩) (Kd.R_far (p := ⟨gb278, 0, none⟩) (Kd.R_types HO292.out BK278.out (by decide)) (fun _ hk => hk.2) (.int .i64 t288)) (fun _ hk => hk.2) (.int .i64 t289)) (fun _ hk => hk.2) (.slice Ao29 t290.length co29)) (fun _ hk => hk.2) (.slice Ao31 t293.length co31)) (fun _ hk => hk.1.1.1)⟩, ⟨by (with_reducible repeat (first | apply Kd.R_alloc | apply Kd.R_drewN | apply Kd.R_drew)); exact Kd.R_mono (Kd.R_far (p := ⟨gb278, 3, none⟩) (Kd.R_far (p := ⟨gb278, 2, none⟩) (Kd.R_far (p := ⟨gb278, 1, none⟩) (Kd.R_far (p := ⟨gb278, 0, none⟩) (Kd.R_types HO295.out BK278.out (by decide)) (fun _ hk => hk.2) (.int .i64 t288)) (fun _ hk => hk.2) (.int .i64 t289)) (fun _ hk => hk.2) (.slice Ao29 t290.length co29)) (fun _ hk => hk.2) (.slice Ao31 t293.length co31)) (fun _ hk => hk.1.1.1)⟩, ⟨by (with_reducible repeat (first | refine blk_drewN ?_ _ | refine blk_drew ?_ | refine blk_alloc ?_ _)); refine blk_far ?_ NB262_278.out _; (with_reducible repeat (first | refine blk_drewN ?_ _ | refine blk_drew ?_ | refine blk_alloc ?_ _)); refine blk_far ?_ NB262_278.out _; (with_reducible repeat (first | refine blk_drewN ?_ _ | refine blk_drew ?_ | refine blk_alloc ?_ _)); refine blk_far ?_ NB262_278.out _; (with_reducible repeat (first | refine blk_drewN ?_ _ | refine blk_drew ?_ | refine blk_alloc ?_ _)); refine blk_far ?_ NB262_278.out _; (with_reducible repeat (first | refine blk_drewN ?_ _ | refine blk_drew ?_ | refine blk_alloc ?_ _)); exact BK262.out⟩, ⟨by (with_reducible repeat (first | refine blk_drewN ?_ _ | refine blk_drew ?_ | refine blk_alloc ?_ _)); apply bq4_3_2_1_0_; (with_reducible repeat (first | refine blk_drewN ?_ _ | refine blk_drew ?_ | refine blk_alloc ?_ _)); exact BK278.out⟩, ⟨by repeat (first | (with_reducible first | exact HI0.out | apply IsS76.alloc | apply IsS76.drewN | apply IsS76.drew | apply IsS76.set_1 | apply IsS76.set_2 | refine IsS76.far ?_ NB0_262.out _ | refine IsS76.far ?_ NB0_278.out _) | exact HI0.out)⟩, ⟨by repeat (first | (with_reducible first | exact HK.out | apply KeepBut.set_ | apply keep_drewN | apply keep_drew | apply keep_alloc | refine keep_far ?_ GW262.out _ | refine keep_far ?_ GW278.out _) | exact HK.out)⟩, ⟨by repeat (first | (with_reducible first | exact HB.out | apply below_alloc | apply pw_below_drewN | apply below_drew1 | refine below_set ?_ (IsS76.ge HI0.out) | refine below_set ?_ GE262.out | refine below_set ?_ GE278.out) | exact HB.out)⟩⟩
   ·rw [if_neg c17] at H
    have c17b0 : decide (0 < x6_1) = false := decide_eq_false c17
    clear c17
    simp only [Option.some.injEq, Prod.mk.injEq] at H
    obtain ⟨rfl, rfl, rfl, rfl, rfl, rfl⟩ := H
    have hnb33 := NB278_262.out
    have hnc33 := NB262_278.out
    have hnb34 := NB278_0.out
    have hnc34 := NB0_278.out
    have hcz35_0 := cz_ BK278 0 (.int .i64 x279000_1)
    have hcz35_1 := cz_ BK278 1 (.int .i64 x279001_1)
    have hcz35_2 := cz_ BK278 2 (u279002)
    have hcz35_3 := cz_ BK278 3 (u279003)
    have hfz35_0 := fz_ BK278 0
    have hfz35_1 := fz_ BK278 1
    have hfz35_2 := fz_ BK278 2
    have hfz35_3 := fz_ BK278 3
    have hnb36 := NB262_0.out
    have hnc36 := NB0_262.out
    have hcz37_0 := cz_ BK262 0 (.int .i64 0)
    have hcz37_1 := cz_ BK262 1 (.int .i64 0)
    have hcz37_2 := cz_ BK262 2 (.slice none 0 0)
    have hcz37_3 := cz_ BK262 3 (.slice none 0 0)
    have hfz37_0 := fz_ BK262 0
    have hfz37_1 := fz_ BK262 1
    have hfz37_2 := fz_ BK262 2
    have hfz37_3 := fz_ BK262 3
    obtain ⟨Ao38, co38, eo38⟩ := Kd.R_slice HO_279002.out
    subst eo38
    obtain ⟨Ao39, co39, eo39⟩ := Kd.R_slice HO_279003.out
    subst eo39
    go_wp2
    refine bodyPost_ret (results_cell_row rfl _ _ gb262 26 #[.int .i64 x279000_1, .int .i64 x279001_1, .slice Ao38 x279002_1.length co38, .slice Ao39 x279003_1.length co39] (0, 0) _ rfl (by (with_reducible repeat (first | refine blk_drewN ?_ _ | refine blk_drew ?_ | refine blk_alloc ?_ _)); apply bq4_3_2_1_0_; (with_reducible repeat (first | refine blk_drewN ?_ _ | refine blk_drew ?_ | refine blk_alloc ?_ _)); exact BK262.out) Tryd.underlying26 rfl (by kernel_rfl)) rfl ?_
    exact ⟨_, _, by first | rfl | (simp [errW_none, errW_some] <;> rfl) | (simp [*, errW_none, errW_some] <;> rfl), by (with_reducible repeat (first | apply Kd.R_alloc | apply Kd.R_drewN | apply Kd.R_drew)); exact Kd.R_mono (Kd.R_far (p := ⟨gb262, 3, none⟩) (Kd.R_far (p := ⟨gb262, 2, none⟩) (Kd.R_far (p := ⟨gb262, 1, none⟩) (Kd.R_far (p := ⟨gb262, 0, none⟩) (Kd.R_types HO_279002.out BK262.out (by decide)) (fun _ hk => hk.2) (.int .i64 x279000_1)) (fun _ hk => hk.2) (.int .i64 x279001_1)) (fun _ hk => hk.2) (.slice Ao38 x279002_1.length co38)) (fun _ hk => hk.2) (.slice Ao39 x279003_1.length co39)) (fun _ hk => hk.1), by (with_reducible repeat (first | apply Kd.R_alloc | apply Kd.R_drewN | apply Kd.R_drew)); exact Kd.R_mono (Kd.R_far (p := ⟨gb262, 3, none⟩) (Kd.R_far (p := ⟨gb262, 2, none⟩) (Kd.R_far (p := ⟨gb262, 1, none⟩) (Kd.R_far (p := ⟨gb262, 0, none⟩) (Kd.R_types HO_279003.out BK262.out (by decide)) (fun _ hk => hk.2) (.int .i64 x279000_1)) (fun _ hk => hk.2) (.int .i64 x279001_1)) (fun _ hk => hk.2) (.slice Ao38 x279002_1.length co38)) (fun _ hk => hk.2) (.slice Ao39 x279003_1.length co39)) (fun _ hk => hk.1), by repeat (first | (with_reducible first | exact HI0.out | apply IsS76.alloc | apply IsS76.drewN | apply IsS76.drew | apply IsS76.set_1 | apply IsS76.set_2 | refine IsS76.far ?_ NB0_262.out _ | refine IsS76.far ?_ NB0_278.out _) | exact HI0.out), by repeat (first | (with_reducible first | exact HB.out | apply below_alloc | apply pw_below_drewN | apply below_drew1 | refine below_set ?_ (IsS76.ge HI0.out) | refine below_set ?_ GE262.out | refine below_set ?_ GE278.out) | exact HB.out), by repeat (first | (with_reducible first | exact HK.out | apply KeepBut.set_ | apply keep_drewN | apply keep_drew | apply keep_alloc | refine keep_far ?_ GW262.out _ | refine keep_far ?_ GW278.out _) | exact HK.out)⟩
/-! ### spec_HoldPut: function 100 -/
mutual
def spec_HoldPut.l0 : Nat → List (S116) → Bool → List (S116) → Int → Int → ByteArray → Int → Int → Option ((List (S116)) × Bool)
 | 0, _, _, _, _, _, _, _, _ => none
 | k + 1, x6, x7, x14, x15, x16, x297000, x297001, x297002 => if x16 < x15 then (if 0 ≤ x16 then (if x16 < (x14.length : Int) then (if x7 = true then (spec_HoldPut.j1 k x6 x7 x14 x15 x16 false x297000 x297001 x297002 ((rd_T116 x14 x16).f0) ((rd_T116 x14 x16).f1) ((rd_T116 x14 x16).f2)) else (spec_HoldPut.j1 k x6 x7 x14 x15 x16 (!(Op.bytesLess (((rd_T116 x14 x16).f0).toList) x297000.toList)) x297000 x297001 x297002 ((rd_T116 x14 x16).f0) ((rd_T116 x14 x16).f1) ((rd_T116 x14 x16).f2))) else (none)) else (none)) else (if x7 = true then ((spec_HoldsOk.f k x6).bind fun t312 => (if t312 = true then (some (x6, true)) else (some (([] : List (S116)), false)))) else (if x6.length < 4398046511104 then ((some (x6 ++ [(⟨x297000, x297001, x297002⟩ : S116)] : List (S116))).bind fun y313 => ((spec_HoldsOk.f k y313).bind fun t316 => (if t316 = true then (some (y313, true)) else (some (([] : List (S116)), false))))) else (none)))
def spec_HoldPut.j1 : Nat → List (S116) → Bool → List (S116) → Int → Int → Bool → ByteArray → Int → Int → ByteArray → Int → Int → Option ((List (S116)) × Bool)
 | 0, _, _, _, _, _, _, _, _, _, _, _, _ => none
 | k + 1, x6, x7, x14, x15, x16, x28, x297000, x297001, x297002, x303000, x303001, x303002 => if x28 = true then (if x6.length < 4398046511104 then ((some (x6 ++ [(⟨x297000, x297001, x297002⟩ : S116)] : List (S116))).bind fun y303 => (if x303000.toList = x297000.toList then (spec_HoldPut.l0 k y303 true x14 x15 (wrap64 (x16 + 1)) x297000 x297001 x297002) else (if y303.length < 4398046511104 then (spec_HoldPut.l0 k (y303 ++ [(⟨x303000, x303001, x303002⟩ : S116)]) true x14 x15 (wrap64 (x16 + 1)) x297000 x297001 x297002) else (none)))) else (none)) else (if x303000.toList = x297000.toList then (spec_HoldPut.l0 k x6 x7 x14 x15 (wrap64 (x16 + 1)) x297000 x297001 x297002) else (if x6.length < 4398046511104 then (spec_HoldPut.l0 k (x6 ++ [(⟨x303000, x303001, x303002⟩ : S116)]) x7 x14 x15 (wrap64 (x16 + 1)) x297000 x297001 x297002) else (none)))
end
def spec_HoldPut.f (k : Nat) (l0 : List (S116)) (a1_0 : ByteArray) (a1_1 : Int) (a1_2 : Int) : Option ((List (S116)) × Bool) := (spec_HoldsOk.f k l0).bind fun t297 => (if t297 = true then (spec_HoldPut.l0 k (([] : List (S116))) false l0 (l0.length : Int) 0 a1_0 a1_1 a1_2) else (some (([] : List (S116)), false)))
set_option maxHeartbeats 8000000 in
set_option maxRecDepth 100000 in
theorem spec_HoldPut.calls (k : Nat) (A0 : Option Addr) (c0 : Nat) (l0 : List (S116)) (a1_0 : ByteArray) (a1_1 : Int) (a1_2 : Int) (r1 : List (S116)) (r2 : Bool) (w : World) (hr0 : Kd.C k116 w A0 l0.length l0) (hc0 : l0.length ≤ c0) (h : spec_HoldPut.f k l0 a1_0 a1_1 a1_2 = some (r1, r2)) :
  Calls Tryd.prog 100 #[.slice A0 l0.length c0, .agg #[.string a1_0, .int .i64 a1_1, .int .i64 a1_2]] w fun e w' => ∃ v0_ : Value, e = .returned (.tuple #[v0_, .bool r2]) ∧ Kd.R k116 116 w' w.heap.size (fun _ => True) v0_ r1 ∧ Below w.heap.size w w' := by
 have hu116 := Tryd.underlying116
 have HR0 := Aside0.mk hr0
 have HC0 := Aside0.mk hc0
 clear hr0 hc0
 have HB := Aside0.mk (Below.refl w.heap.size w)
 have H : ((spec_HoldsOk.f k l0).bind fun t297 => (if t297 = true then (spec_HoldPut.l0 k (([] : List (S116))) false l0 (l0.length : Int) 0 a1_0 a1_1 a1_2) else (some (([] : List (S116)), false)))) = some (r1, r2) := h
 clear h
 obtain ⟨t297, A3, H⟩ := ob_ H
 by_cases c4 : t297 = true
 ·subst c4
  replace H := ip_ H
  obtain ⟨y298, hy298⟩ : ∃ y_ : List (S116), y_ = (([] : List (S116))) := ⟨_, rfl⟩
  replace H : (spec_HoldPut.l0 k y298 false l0 (l0.length : Int) 0 a1_0 a1_1 a1_2) = some (r1, r2) := by first | (rw [hy298]; with_reducible exact H) | (have H2_ := (Option.bind_some _ _).symm.trans H; rw [hy298]; with_reducible exact H2_) | (have H2_ := (Option.bind_some _ _).symm.trans H; with_reducible exact H2_) | with_reducible exact H | (rw [hy298]; exact H) | exact H
  have Ny298 := Aside0.mk hy298
  clear hy298
  have H' := Aside0.mk H
  clear H
  go_enter Tryd.func100, Tryd.ntmps100
  go_wp2_with (first | ((with_reducible refine gate_dst (N := 3) rfl ?_); refine be_ (N := 3) (cs := #[.string a1_0, .int .i64 a1_1, .int .i64 a1_2]) (t := 116) ?_; intro gb296 hg w5 hbox hb; have BK296 := Aside0.mk (hbox); have GW296 := gw_ (w := w) hg; have GE296 := gw_ (w := w) hg; replace HB := Aside0.mk (below_step bl_ hb); clear hb hbox hg) | ((with_reducible refine gate_callee (f := 134) rfl ?_); refine goesL_ (some 11) rfl rfl Tryd.func134 (by kernel_rfl) rfl #[.slice A0 l0.length c0] rfl gl_ ?_; (with_reducible refine (spec_HoldsOk.calls k _ _ l0 true _ ?side1 ?side2 A3.out).mono ?_); (case side1 => exact ca_ (Kd.C_below HR0.out HB.out)); (case side2 => exact HC0.out); rintro e w6 ⟨rfl, hb⟩; refine ⟨_, rfl, ?_⟩; replace BK296 := Aside0.mk (blk_below (bk_ BK296) hb); replace HB := Aside0.mk (below_step bl_ hb); (try clear hb); (try clear hb2); (try clear hk); (try clear hi)) | ((with_reducible refine gate_dst (N := 13) rfl ?_); refine Kd.R_lit k116 _ 116 ?hg (N := 13) ?hd (xs := ([] : List (S116))) (inner := []) (ok := fun _ => True) (okp := fun _ => True) ?hr ?hp (fun _ hk => hk) trivial (Below.refl _ _) (Nat.le_refl _) (by simp) ?_; (case hd => rfl); (case hg => rfl); (case hr => first | (go_simp; done) | (go_simp; rfl)); (case hp => exact (Reps.none _ _)); intro v299 w7 ho8 hb hg_ hnew_; clear hg_ hnew_; (first | rw [← Ny298.out] at ho8 | (simp only [Int.reduceToNat] at ho8; rw [← Ny298.out] at ho8)); have HO300 := Aside0.mk (Kd.R_lower (Kd.R_newB ho8 (bk_ BK296)) (below_size bl_)); replace BK296 := Aside0.mk (blk_below (bk_ BK296) hb); replace HB := Aside0.mk (below_step bl_ hb); clear hb ho8))
  go_loopg [6, 7, 16] k (fun kq v6 v7 v16 w' => ∃ (x6_1 : List (S116)) (x7_1 : Bool) (x16_1 : Int), v7 = .bool x7_1 ∧ v16 = .int .i64 x16_1 ∧ Aside0 (spec_HoldPut.l0 kq x6_1 x7_1 l0 (l0.length : Int) x16_1 a1_0 a1_1 a1_2 = some (r1, r2)) ∧ Aside0 (kq ≤ k) ∧ Aside0 (Kd.R k116 116 w' w.heap.size (fun k_ => k_ ≠ gb296) v6 x6_1) ∧ Aside0 (w'.heap[gb296]? = some (.cells #[.string a1_0, .int .i64 a1_1, .int .i64 a1_2] 116 (0, 0))) ∧ Aside0 (Below w.heap.size w w'))
  case atStart => exact ⟨(y298), (false), (0), sp_, sp_, H', ⟨Nat.le_refl _⟩, ⟨by (with_reducible repeat (first | apply Kd.R_alloc | apply Kd.R_drewN | apply Kd.R_drew)); exact Kd.R_mono HO300.out (fun _ hk => hk.2)⟩, ⟨by (with_reducible repeat (first | refine blk_drewN ?_ _ | refine blk_drew ?_ | refine blk_alloc ?_ _)); exact BK296.out⟩, ⟨bl_⟩⟩
  case round =>
   clear H'
   try clear c1
   try clear p2
   try clear c4
   obtain ⟨x6_1, x7_1, x16_1, rfl, rfl, HA, HK1, HO_6, BK296, HB⟩ := hrel
   cases gk with
   | zero => exact absurd HA.out (by simp [spec_HoldPut.l0])
   | succ k1 =>
    have H := HA.out
    clear HA
    simp only [spec_HoldPut.l0] at H
    by_cases c9 : x16_1 < (l0.length : Int)
    ·rw [if_pos c9] at H
     have c9b0 : decide (x16_1 < (l0.length : Int)) = true := decide_eq_true c9
     clear c9
     by_cases c10 : 0 ≤ x16_1
     ·rw [if_pos c10] at H
      have c10b0 : decide (0 ≤ x16_1) = true := decide_eq_true c10
      clear c10
      by_cases c11 : x16_1 < (l0.length : Int)
      ·rw [if_pos c11] at H
       have c11b0 : decide (x16_1 < (l0.length : Int)) = true := decide_eq_true c11
       clear c11
       have HC12 := Aside0.mk H
       clear H
       have p301 : 0 ≤ (x16_1 : Int) := od_
       have q301 : x16_1 < (l0.length : Int) := od_
       obtain ⟨ad301, e301, hx301_0, hx301_1, hx301_2⟩ := at_T116 HR0.out x16_1 p301 q301
       cases e301
       replace hx301_0 := kc_ HB hx301_0
       replace hx301_1 := kc_ HB hx301_1
       replace hx301_2 := kc_ HB hx301_2
       replace p301 := eq_true p301
       replace q301 := eq_true q301
       go_upto_region 8 with (first | ((with_reducible refine gate_dst (N := 9) rfl ?_); refine be_ (N := 9) (cs := #[.string (⟨#[]⟩ : ByteArray), .int .i64 0, .int .i64 0]) (t := 116) ?_; intro gb302 hg w13 hbox hb; replace HO_6 := Aside0.mk (Kd.R_below (Kd.R_elderB (ra_ HO_6) gb302 (Nat.le_of_eq hg.symm)) hb); have BK302 := Aside0.mk (hbox); have GW302 := gw_ (w := w) hg; have GE302 := gw_ (w := w) hg; replace HB := Aside0.mk (below_step bl_ hb); have NB296_302 := Aside0.mk ((by rw [hg]; exact Nat.ne_of_lt (blk_lt (bk_ BK296)) : gb296 ≠ gb302)); have NB302_296 := Aside0.mk ((by rw [hg]; exact Nat.ne_of_gt (blk_lt (bk_ BK296)) : gb302 ≠ gb296)); replace BK296 := Aside0.mk (blk_below (bk_ BK296) hb); clear hb hbox hg; have hnb14 := NB302_296.out; have hnc14 := NB296_302.out; obtain ⟨hcz15_0, hcz15_1, hcz15_2, hfz15_0, hfz15_1, hfz15_2⟩ := bx3_ BK302))
       (try simp only [Act.put, List.setIfInBounds_toArray, List.set_cons_zero, List.set_cons_succ])
       go_cut [28] (fun v28 wc => ∃ (kq : Nat) (x28_11 : Bool), v28 = .bool x28_11 ∧ Aside0 (spec_HoldPut.j1 kq x6_1 x7_1 l0 (l0.length : Int) x16_1 x28_11 a1_0 a1_1 a1_2 ((rd_T116 l0 x16_1).f0) ((rd_T116 l0 x16_1).f1) ((rd_T116 l0 x16_1).f2) = some (r1, r2)) ∧ Aside0 (kq ≤ k1) ∧ Aside0 (Kd.R k116 116 wc w.heap.size (fun k_ => k_ ≠ gb296 ∧ k_ ≠ gb302) u6 x6_1) ∧ Aside0 (wc.heap[gb296]? = some (.cells #[.string a1_0, .int .i64 a1_1, .int .i64 a1_2] 116 (0, 0))) ∧ Aside0 (wc.heap[gb302]? = some (.cells #[.string ((rd_T116 l0 x16_1).f0), .int .i64 ((rd_T116 l0 x16_1).f1), .int .i64 ((rd_T116 l0 x16_1).f2)] 116 (0, 0))) ∧ Aside0 (Below w.heap.size w wc))
       case first =>
        have H := HC12.out
        clear HC12
        by_cases c16 : x7_1 = true
        ·subst c16
         replace H := ip_ H
         have H' := Aside0.mk H
         clear H
         go_wp2
         go_meet
         case rel => exact ⟨_, (false), sp_, H', ⟨by have := HK1.out; first | omega | exact Nat.le_refl _⟩, ⟨by (with_reducible repeat (first | apply Kd.R_alloc | apply Kd.R_drewN | apply Kd.R_drew)); exact Kd.R_mono (Kd.R_far (p := ⟨gb302, 2, none⟩) (Kd.R_far (p := ⟨gb302, 1, none⟩) (Kd.R_far (p := ⟨gb302, 0, none⟩) (Kd.R_mono HO_6.out (fun k_ hk => (⟨hk, hk.2⟩ : _ ∧ k_ ≠ gb302))) (fun _ hk => hk.2) (.string ((rd_T116 l0 x16_1).f0))) (fun _ hk => hk.2) (.int .i64 ((rd_T116 l0 x16_1).f1))) (fun _ hk => hk.2) (.int .i64 ((rd_T116 l0 x16_1).f2))) (fun _ hk => ⟨hk.1.1, hk.1.2⟩)⟩, ⟨by (with_reducible repeat (first | refine blk_drewN ?_ _ | refine blk_drew ?_ | refine blk_alloc ?_ _)); refine blk_far ?_ NB296_302.out _; (with_reducible repeat (first | refine blk_drewN ?_ _ | refine blk_drew ?_ | refine blk_alloc ?_ _)); refine blk_far ?_ NB296_302.out _; (with_reducible repeat (first | refine blk_drewN ?_ _ | refine blk_drew ?_ | refine blk_alloc ?_ _)); refine blk_far ?_ NB296_302.out _; (with_reducible repeat (first | refine blk_drewN ?_ _ | refine blk_drew ?_ | refine blk_alloc ?_ _)); exact BK296.out⟩, ⟨by (with_reducible repeat (first | refine blk_drewN ?_ _ | refine blk_drew ?_ | refine blk_alloc ?_ _)); apply bq3_2_1_0_; (with_reducible repeat (first | refine blk_drewN ?_ _ | refine blk_drew ?_ | refine blk_alloc ?_ _)); exact BK302.out⟩, ⟨bl_⟩⟩
        ·replace c16 := Bool.eq_false_iff.mpr c16
         subst c16
         replace H := in_ H
         have H' := Aside0.mk H
         clear H
         have hnb17 := NB302_296.out
         have hnc17 := NB296_302.out
         have hcz18_0 := cz_ BK302 0 (.string (⟨#[]⟩ : ByteArray))
         have hcz18_1 := cz_ BK302 1 (.int .i64 0)
         have hcz18_2 := cz_ BK302 2 (.int .i64 0)
         have hfz18_0 := fz_ BK302 0
         have hfz18_1 := fz_ BK302 1
         have hfz18_2 := fz_ BK302 2
         have hcz19_0 := cz_ BK296 0 (.string a1_0)
         have hcz19_1 := cz_ BK296 1 (.int .i64 a1_1)
         have hcz19_2 := cz_ BK296 2 (.int .i64 a1_2)
         have hfz19_0 := fz_ BK296 0
         have hfz19_1 := fz_ BK296 1
         have hfz19_2 := fz_ BK296 2
         go_wp2
         go_meet
         case rel => exact ⟨_, (!(Op.bytesLess (((rd_T116 l0 x16_1).f0).toList) a1_0.toList)), sp_, H', ⟨by have := HK1.out; first | omega | exact Nat.le_refl _⟩, ⟨by (with_reducible repeat (first | apply Kd.R_alloc | apply Kd.R_drewN | apply Kd.R_drew)); exact Kd.R_mono (Kd.R_far (p := ⟨gb302, 2, none⟩) (Kd.R_far (p := ⟨gb302, 1, none⟩) (Kd.R_far (p := ⟨gb302, 0, none⟩) (Kd.R_mono HO_6.out (fun k_ hk => (⟨hk, hk.2⟩ : _ ∧ k_ ≠ gb302))) (fun _ hk => hk.2) (.string ((rd_T116 l0 x16_1).f0))) (fun _ hk => hk.2) (.int .i64 ((rd_T116 l0 x16_1).f1))) (fun _ hk => hk.2) (.int .i64 ((rd_T116 l0 x16_1).f2))) (fun _ hk => ⟨hk.1.1, hk.1.2⟩)⟩, ⟨by (with_reducible repeat (first | refine blk_drewN ?_ _ | refine blk_drew ?_ | refine blk_alloc ?_ _)); refine blk_far ?_ NB296_302.out _; (with_reducible repeat (first | refine blk_drewN ?_ _ | refine blk_drew ?_ | refine blk_alloc ?_ _)); refine blk_far ?_ NB296_302.out _; (with_reducible repeat (first | refine blk_drewN ?_ _ | refine blk_drew ?_ | refine blk_alloc ?_ _)); refine blk_far ?_ NB296_302.out _; (with_reducible repeat (first | refine blk_drewN ?_ _ | refine blk_drew ?_ | refine blk_alloc ?_ _)); exact BK296.out⟩, ⟨by (with_reducible repeat (first | refine blk_drewN ?_ _ | refine blk_drew ?_ | refine blk_alloc ?_ _)); apply bq3_2_1_0_; (with_reducible repeat (first | refine blk_drewN ?_ _ | refine blk_drew ?_ | refine blk_alloc ?_ _)); exact BK302.out⟩, ⟨bl_⟩⟩
       case rest =>
        clear HC12
        try clear c1
        try clear p2
        try clear p3
        try clear q3
        try clear hx3
        try clear c4
        try clear c9
        try clear c9b0
        try clear c10
        try clear c10b0
        try clear c11
        try clear c11b0
        try clear c13
        try clear c14
        try clear c16
        try clear c17
        try clear hcz15_0
        try clear hcz15_1
        try clear hcz15_2
        try clear hcz18_0
        try clear hcz18_1
        try clear hcz18_2
        try clear hcz19_0
        try clear hcz19_1
        try clear hcz19_2
        try clear hfz15_0
        try clear hfz15_1
        try clear hfz15_2
        try clear hfz18_0
        try clear hfz18_1
        try clear hfz18_2
        try clear hfz19_0
        try clear hfz19_1
        try clear hfz19_2
        try clear hx301_0
        try clear hx301_1
        try clear hx301_2
        try clear p2
        try clear p301
        try clear q301
        obtain ⟨kq, x28_11, rfl, HA, HJ11, HO_6, BK296, BK302, HB⟩ := hcut
        cases kq with
        | zero => exact absurd HA.out (by simp [spec_HoldPut.j1])
        | succ kj11 =>
         have H := HA.out
         clear HA
         simp only [spec_HoldPut.j1] at H
         by_cases c20 : x28_11 = true
         ·subst c20
          replace H := ip_ H
          by_cases c21 : x6_1.length < 4398046511104
          ·rw [if_pos c21] at H
           have LMc21 := Aside0.mk c21
           clear c21
           obtain ⟨y303, hy303⟩ : ∃ y_ : List (S116), y_ = (x6_1 ++ [(⟨a1_0, a1_1, a1_2⟩ : S116)]) := ⟨_, rfl⟩
           replace H : (if ((rd_T116 l0 x16_1).f0).toList = a1_0.toList then (spec_HoldPut.l0 kj11 y303 true l0 (l0.length : Int) (wrap64 (x16_1 + 1)) a1_0 a1_1 a1_2) else (if y303.length < 4398046511104 then (spec_HoldPut.l0 kj11 (y303 ++ [(⟨((rd_T116 l0 x16_1).f0), ((rd_T116 l0 x16_1).f1), ((rd_T116 l0 x16_1).f2)⟩ : S116)]) true l0 (l0.length : Int) (wrap64 (x16_1 + 1)) a1_0 a1_1 a1_2) else (none))) = some (r1, r2) := by first | (rw [hy303]; with_reducible exact H) | (have H2_ := (Option.bind_some _ _).symm.trans H; rw [hy303]; with_reducible exact H2_) | (have H2_ := (Option.bind_some _ _).symm.trans H; with_reducible exact H2_) | with_reducible exact H | (rw [hy303]; exact H) | exact H
           have Ny303 := Aside0.mk hy303
           clear hy303
           by_cases c22 : ((rd_T116 l0 x16_1).f0).toList = a1_0.toList
           ·rw [if_pos c22] at H
            have c22b0 : (((rd_T116 l0 x16_1).f0).toList == a1_0.toList) = true := beq_iff_eq.mpr c22
            have c22b1 : (((rd_T116 l0 x16_1).f0).toList != a1_0.toList) = false := bne_eq_false_iff_eq.mpr c22
            clear c22
            have H' := Aside0.mk H
            clear H
            have hnb23 := NB296_302.out
            have hnc23 := NB302_296.out
            have hcz24_0 := cz_ BK296 0 (.string a1_0)
            have hcz24_1 := cz_ BK296 1 (.int .i64 a1_1)
            have hcz24_2 := cz_ BK296 2 (.int .i64 a1_2)
            have hfz24_0 := fz_ BK296 0
            have hfz24_1 := fz_ BK296 1
            have hfz24_2 := fz_ BK296 2
            go_wp2_with (first | ((with_reducible refine gate_builtin (b := .append) (xs := #[.tmp 29, .tmp 31]) rfl ?_); at_builtin; refine Kd.R_append k116 (w0 := w) w.heap.size rfl (.tmp 29) (.tmp 31) 23 116 (.agg #[(.string ⟨#[]⟩), (.int .i64 0), (.int .i64 0)]) 32 rfl Tryd.underlying23 info116 rfl (by decide) (by omega) u6 x6_1 (⟨a1_0, a1_1, a1_2⟩ : S116) [.string a1_0, .int .i64 a1_1, .int .i64 a1_2] (fun k_ => k_ ≠ gb296 ∧ k_ ≠ gb302) (fun _ => False) rfl rfl ?aP (fun _ hk => hk.elim) ?aF ?aO ?aB ?aS ?aL ?_; (case aP => exact k116_mkM _ _ _ (⟨a1_0, a1_1, a1_2⟩ : S116)); (case aB => exact bl_); (case aF => exact (fun k_ hk => ⟨Kd.freshB (bk_ BK296) k_ hk, Kd.freshB (bk_ BK302) k_ hk⟩)); (case aO => exact (ra_ HO_6)); (case aS => exact (below_size bl_)); (case aL => have := LMc21.out; omega); intro v304 w25 ho hb hg hat; rw [← Ny303.out] at ho; have n0_ := Aside0.mk (blk_grown (bk_ BK296) hg (Kd.R_away HO_6.out (fun _ hk => hk.1))); have n1_ := Aside0.mk (blk_grown (bk_ BK302) hg (Kd.R_away HO_6.out (fun _ hk => hk.2))); have n2_ := Aside0.mk (hb); have n3_ := Aside0.mk (ho); clear BK296; clear BK302; clear HB; clear HO_6; have BK296 := n0_; have BK302 := n1_; have HB := n2_; have HO305 := n3_; clear n0_ n1_ n2_ n3_; clear ho hb hg hat; obtain ⟨hcz26_0, hcz26_1, hcz26_2, hfz26_0, hfz26_1, hfz26_2⟩ := bx3_ BK302; obtain ⟨hcz27_0, hcz27_1, hcz27_2, hfz27_0, hfz27_1, hfz27_2⟩ := bx3_ BK296))
            go_roundg kj11
            case measure => have := HK1.out; have := HJ11.out; omega
            case rel => exact ⟨(y303), (true), (wrap64 (x16_1 + 1)), sp_, sp_, H', ⟨by have := HK1.out; have := HJ11.out; omega⟩, ⟨by (with_reducible repeat (first | apply Kd.R_alloc | apply Kd.R_drewN | apply Kd.R_drew)); exact Kd.R_mono HO305.out (fun _ hk => hk.1)⟩, ⟨by (with_reducible repeat (first | refine blk_drewN ?_ _ | refine blk_drew ?_ | refine blk_alloc ?_ _)); exact BK296.out⟩, ⟨bl_⟩⟩
           ·rw [if_neg c22] at H
            have c22b0 : (((rd_T116 l0 x16_1).f0).toList == a1_0.toList) = false := beq_eq_false_iff_ne.mpr c22
            have c22b1 : (((rd_T116 l0 x16_1).f0).toList != a1_0.toList) = true := bne_iff_ne.mpr c22
            by_cases c28 : y303.length < 4398046511104
            ·rw [if_pos c28] at H
             have LMc28 := Aside0.mk c28
             clear c28
             obtain ⟨y306, hy306⟩ : ∃ y_ : List (S116), y_ = (y303 ++ [(⟨((rd_T116 l0 x16_1).f0), ((rd_T116 l0 x16_1).f1), ((rd_T116 l0 x16_1).f2)⟩ : S116)]) := ⟨_, rfl⟩
             replace H : (spec_HoldPut.l0 kj11 y306 true l0 (l0.length : Int) (wrap64 (x16_1 + 1)) a1_0 a1_1 a1_2) = some (r1, r2) := by first | (rw [hy306]; with_reducible exact H) | (have H2_ := (Option.bind_some _ _).symm.trans H; rw [hy306]; with_reducible exact H2_) | (have H2_ := (Option.bind_some _ _).symm.trans H; with_reducible exact H2_) | with_reducible exact H | (rw [hy306]; exact H) | exact H
             have Ny306 := Aside0.mk hy306
             clear hy306
             have H' := Aside0.mk H
             clear H
             have hnb29 := NB296_302.out
             have hnc29 := NB302_296.out
             have hcz30_0 := cz_ BK296 0 (.string a1_0)
             have hcz30_1 := cz_ BK296 1 (.int .i64 a1_1)
             have hcz30_2 := cz_ BK296 2 (.int .i64 a1_2)
             have hfz30_0 := fz_ BK296 0
             have hfz30_1 := fz_ BK296 1
             have hfz30_2 := fz_ BK296 2
             go_wp2_with (first | ((with_reducible refine gate_builtin (b := .append) (xs := #[.tmp 29, .tmp 31]) rfl ?_); at_builtin; refine Kd.R_append k116 (w0 := w) w.heap.size rfl (.tmp 29) (.tmp 31) 23 116 (.agg #[(.string ⟨#[]⟩), (.int .i64 0), (.int .i64 0)]) 32 rfl Tryd.underlying23 info116 rfl (by decide) (by omega) u6 x6_1 (⟨a1_0, a1_1, a1_2⟩ : S116) [.string a1_0, .int .i64 a1_1, .int .i64 a1_2] (fun k_ => k_ ≠ gb296 ∧ k_ ≠ gb302) (fun _ => False) rfl rfl ?aP (fun _ hk => hk.elim) ?aF ?aO ?aB ?aS ?aL ?_; (case aP => exact k116_mkM _ _ _ (⟨a1_0, a1_1, a1_2⟩ : S116)); (case aB => exact bl_); (case aF => exact (fun k_ hk => ⟨Kd.freshB (bk_ BK296) k_ hk, Kd.freshB (bk_ BK302) k_ hk⟩)); (case aO => exact (ra_ HO_6)); (case aS => exact (below_size bl_)); (case aL => have := LMc21.out; omega); intro v304 w31 ho hb hg hat; rw [← Ny303.out] at ho; have n0_ := Aside0.mk (blk_grown (bk_ BK296) hg (Kd.R_away HO_6.out (fun _ hk => hk.1))); have n1_ := Aside0.mk (blk_grown (bk_ BK302) hg (Kd.R_away HO_6.out (fun _ hk => hk.2))); have n2_ := Aside0.mk (hb); have n3_ := Aside0.mk (ho); clear BK296; clear BK302; clear HB; clear HO_6; have BK296 := n0_; have BK302 := n1_; have HB := n2_; have HO305 := n3_; clear n0_ n1_ n2_ n3_; clear ho hb hg hat; obtain ⟨hcz32_0, hcz32_1, hcz32_2, hfz32_0, hfz32_1, hfz32_2⟩ := bx3_ BK302; obtain ⟨hcz33_0, hcz33_1, hcz33_2, hfz33_0, hfz33_1, hfz33_2⟩ := bx3_ BK296) | ((with_reducible refine gate_builtin (b := .append) (xs := #[.tmp 38, .tmp 40]) rfl ?_); at_builtin; refine Kd.R_append k116 (w0 := w) w.heap.size rfl (.tmp 38) (.tmp 40) 23 116 (.agg #[(.string ⟨#[]⟩), (.int .i64 0), (.int .i64 0)]) 32 rfl Tryd.underlying23 info116 rfl (by decide) (by omega) v304 y303 (⟨((rd_T116 l0 x16_1).f0), ((rd_T116 l0 x16_1).f1), ((rd_T116 l0 x16_1).f2)⟩ : S116) [.string ((rd_T116 l0 x16_1).f0), .int .i64 ((rd_T116 l0 x16_1).f1), .int .i64 ((rd_T116 l0 x16_1).f2)] (fun k_ => k_ ≠ gb296 ∧ k_ ≠ gb302) (fun _ => False) rfl rfl ?aP (fun _ hk => hk.elim) ?aF ?aO ?aB ?aS ?aL ?_; (case aP => exact k116_mkM _ _ _ (⟨((rd_T116 l0 x16_1).f0), ((rd_T116 l0 x16_1).f1), ((rd_T116 l0 x16_1).f2)⟩ : S116)); (case aB => exact bl_); (case aF => exact (fun k_ hk => ⟨Kd.freshB (bk_ BK296) k_ hk, Kd.freshB (bk_ BK302) k_ hk⟩)); (case aO => exact (ra_ HO305)); (case aS => exact (below_size bl_)); (case aL => have := LMc28.out; omega); intro v307 w34 ho hb hg hat; rw [← Ny306.out] at ho; have n0_ := Aside0.mk (blk_grown (bk_ BK296) hg (Kd.R_away HO305.out (fun _ hk => hk.1))); have n1_ := Aside0.mk (blk_grown (bk_ BK302) hg (Kd.R_away HO305.out (fun _ hk => hk.2))); have n2_ := Aside0.mk (hb); have n3_ := Aside0.mk (ho); clear BK296; clear BK302; clear HB; clear HO305; have BK296 := n0_; have BK302 := n1_; have HB := n2_; have HO308 := n3_; clear n0_ n1_ n2_ n3_; clear ho hb hg hat))
             go_roundg kj11
             case measure => have := HK1.out; have := HJ11.out; omega
             case rel => exact ⟨(y306), (true), (wrap64 (x16_1 + 1)), sp_, sp_, H', ⟨by have := HK1.out; have := HJ11.out; omega⟩, ⟨by (with_reducible repeat (first | apply Kd.R_alloc | apply Kd.R_drewN | apply Kd.R_drew)); exact Kd.R_mono HO308.out (fun _ hk => hk.1)⟩, ⟨by (with_reducible repeat (first | refine blk_drewN ?_ _ | refine blk_drew ?_ | refine blk_alloc ?_ _)); exact BK296.out⟩, ⟨bl_⟩⟩
            ·rw [if_neg c28] at H
             exact absurd H (by simp)
          ·rw [if_neg c21] at H
           exact absurd H (by simp)
         ·replace c20 := Bool.eq_false_iff.mpr c20
          subst c20
          replace H := in_ H
          by_cases c35 : ((rd_T116 l0 x16_1).f0).toList = a1_0.toList
          ·rw [if_pos c35] at H
           have c35b0 : (((rd_T116 l0 x16_1).f0).toList == a1_0.toList) = true := beq_iff_eq.mpr c35
           have c35b1 : (((rd_T116 l0 x16_1).f0).toList != a1_0.toList) = false := bne_eq_false_iff_eq.mpr c35
           clear c35
           have H' := Aside0.mk H
           clear H
           have hnb36 := NB302_296.out
           have hnc36 := NB296_302.out
           have hcz37_0 := cz_ BK302 0 (.string ((rd_T116 l0 x16_1).f0))
           have hcz37_1 := cz_ BK302 1 (.int .i64 ((rd_T116 l0 x16_1).f1))
           have hcz37_2 := cz_ BK302 2 (.int .i64 ((rd_T116 l0 x16_1).f2))
           have hfz37_0 := fz_ BK302 0
           have hfz37_1 := fz_ BK302 1
           have hfz37_2 := fz_ BK302 2
           have hcz38_0 := cz_ BK296 0 (.string a1_0)
           have hcz38_1 := cz_ BK296 1 (.int .i64 a1_1)
           have hcz38_2 := cz_ BK296 2 (.int .i64 a1_2)
           have hfz38_0 := fz_ BK296 0
           have hfz38_1 := fz_ BK296 1
           have hfz38_2 := fz_ BK296 2
           go_wp2
           go_roundg kj11
           case measure => have := HK1.out; have := HJ11.out; omega
           case rel => exact ⟨(x6_1), (x7_1), (wrap64 (x16_1 + 1)), sp_, sp_, H', ⟨by have := HK1.out; have := HJ11.out; omega⟩, ⟨by (with_reducible repeat (first | apply Kd.R_alloc | apply Kd.R_drewN | apply Kd.R_drew)); exact Kd.R_mono HO_6.out (fun _ hk => hk.1)⟩, ⟨by (with_reducible repeat (first | refine blk_drewN ?_ _ | refine blk_drew ?_ | refine blk_alloc ?_ _)); exact BK296.out⟩, ⟨bl_⟩⟩
          ·rw [if_neg c35] at H
           have c35b0 : (((rd_T116 l0 x16_1).f0).toList == a1_0.toList) = false := beq_eq_false_iff_ne.mpr c35
           have c35b1 : (((rd_T116 l0 x16_1).f0).toList != a1_0.toList) = true := bne_iff_ne.mpr c35
           by_cases c39 : x6_1.length < 4398046511104
           ·rw [if_pos c39] at H
            have LMc39 := Aside0.mk c39
            clear c39
            obtain ⟨y309, hy309⟩ : ∃ y_ : List (S116), y_ = (x6_1 ++ [(⟨((rd_T116 l0 x16_1).f0), ((rd_T116 l0 x16_1).f1), ((rd_T116 l0 x16_1).f2)⟩ : S116)]) := ⟨_, rfl⟩
            replace H : (spec_HoldPut.l0 kj11 y309 x7_1 l0 (l0.length : Int) (wrap64 (x16_1 + 1)) a1_0 a1_1 a1_2) = some (r1, r2) := by first | (rw [hy309]; with_reducible exact H) | (have H2_ := (Option.bind_some _ _).symm.trans H; rw [hy309]; with_reducible exact H2_) | (have H2_ := (Option.bind_some _ _).symm.trans H; with_reducible exact H2_) | with_reducible exact H | (rw [hy309]; exact H) | exact H
            have Ny309 := Aside0.mk hy309
            clear hy309
            have H' := Aside0.mk H
            clear H
            have hnb40 := NB302_296.out
            have hnc40 := NB296_302.out
            have hcz41_0 := cz_ BK302 0 (.string ((rd_T116 l0 x16_1).f0))
            have hcz41_1 := cz_ BK302 1 (.int .i64 ((rd_T116 l0 x16_1).f1))
            have hcz41_2 := cz_ BK302 2 (.int .i64 ((rd_T116 l0 x16_1).f2))
            have hfz41_0 := fz_ BK302 0
            have hfz41_1 := fz_ BK302 1
            have hfz41_2 := fz_ BK302 2
            have hcz42_0 := cz_ BK296 0 (.string a1_0)
            have hcz42_1 := cz_ BK296 1 (.int .i64 a1_1)
            have hcz42_2 := cz_ BK296 2 (.int .i64 a1_2)
            have hfz42_0 := fz_ BK296 0
            have hfz42_1 := fz_ BK296 1
            have hfz42_2 := fz_ BK296 2
            go_wp2_with (first | ((with_reducible refine gate_builtin (b := .append) (xs := #[.tmp 38, .tmp 40]) rfl ?_); at_builtin; refine Kd.R_append k116 (w0 := w) w.heap.size rfl (.tmp 38) (.tmp 40) 23 116 (.agg #[(.string ⟨#[]⟩), (.int .i64 0), (.int .i64 0)]) 32 rfl Tryd.underlying23 info116 rfl (by decide) (by omega) u6 x6_1 (⟨((rd_T116 l0 x16_1).f0), ((rd_T116 l0 x16_1).f1), ((rd_T116 l0 x16_1).f2)⟩ : S116) [.string ((rd_T116 l0 x16_1).f0), .int .i64 ((rd_T116 l0 x16_1).f1), .int .i64 ((rd_T116 l0 x16_1).f2)] (fun k_ => k_ ≠ gb296 ∧ k_ ≠ gb302) (fun _ => False) rfl rfl ?aP (fun _ hk => hk.elim) ?aF ?aO ?aB ?aS ?aL ?_; (case aP => exact k116_mkM _ _ _ (⟨((rd_T116 l0 x16_1).f0), ((rd_T116 l0 x16_1).f1), ((rd_T116 l0 x16_1).f2)⟩ : S116)); (case aB => exact bl_); (case aF => exact (fun k_ hk => ⟨Kd.freshB (bk_ BK296) k_ hk, Kd.freshB (bk_ BK302) k_ hk⟩)); (case aO => exact (ra_ HO_6)); (case aS => exact (below_size bl_)); (case aL => have := LMc39.out; omega); intro v310 w43 ho hb hg hat; rw [← Ny309.out] at ho; have n0_ := Aside0.mk (blk_grown (bk_ BK296) hg (Kd.R_away HO_6.out (fun _ hk => hk.1))); have n1_ := Aside0.mk (blk_grown (bk_ BK302) hg (Kd.R_away HO_6.out (fun _ hk => hk.2))); have n2_ := Aside0.mk (hb); have n3_ := Aside0.mk (ho); clear BK296; clear BK302; clear HB; clear HO_6; have BK296 := n0_; have BK302 := n1_; have HB := n2_; have HO311 := n3_; clear n0_ n1_ n2_ n3_; clear ho hb hg hat))
            go_roundg kj11
            case measure => have := HK1.out; have := HJ11.out; omega
            case rel => exact ⟨(y309), (x7_1), (wrap64 (x16_1 + 1)), sp_, sp_, H', ⟨by have := HK1.out; have := HJ11.out; omega⟩, ⟨by (with_reducible repeat (first | apply Kd.R_alloc | apply Kd.R_drewN | apply Kd.R_drew)); exact Kd.R_mono HO311.out (fun _ hk => hk.1)⟩, ⟨by (with_reducible repeat (first | refine blk_drewN ?_ _ | refine blk_drew ?_ | refine blk_alloc ?_ _)); exact BK296.out⟩, ⟨bl_⟩⟩
           ·rw [if_neg c39] at H
            exact absurd H (by simp)
      ·rw [if_neg c11] at H
       exact absurd H (by simp)
     ·rw [if_neg c10] at H
      exact absurd H (by simp)
    ·rw [if_neg c9] at H
     have c9b0 : decide (x16_1 < (l0.length : Int)) = false := decide_eq_false c9
     clear c9
     by_cases c44 : x7_1 = true
     ·subst c44
      replace H := ip_ H
      obtain ⟨t312, A45, H⟩ := ob_ H
      by_cases c46 : t312 = true
      ·subst c46
       replace H := ip_ H
       simp only [Option.some.injEq, Prod.mk.injEq] at H
       obtain ⟨rfl, rfl⟩ := H
       obtain ⟨Ao47, co47, eo47⟩ := Kd.R_slice HO_6.out
       subst eo47
       go_wp2_with (first | ((with_reducible refine gate_callee (f := 134) rfl ?_); refine goesL_ (some 50) rfl rfl Tryd.func134 (by kernel_rfl) rfl #[.slice Ao47 x6_1.length co47] rfl gl_ ?_; (with_reducible refine (spec_HoldsOk.calls k1 _ _ x6_1 true _ ?side1 ?side2 A45.out).mono ?_); (case side1 => exact ca_ ((Kd.R_reads' HO_6.out).2.2)); (case side2 => exact (Kd.R_reads' HO_6.out).2.1); rintro e w48 ⟨rfl, hb⟩; refine ⟨_, rfl, ?_⟩; replace HO_6 := Aside0.mk (Kd.R_below (ra_ HO_6) hb); replace BK296 := Aside0.mk (blk_below (bk_ BK296) hb); replace HB := Aside0.mk (below_step bl_ hb); (try clear hb); (try clear hb2); (try clear hk); (try clear hi)))
       go_ret2
       exact ⟨_, by first | rfl | (simp [errW_none, errW_some] <;> rfl) | (simp [*, errW_none, errW_some] <;> rfl), by (with_reducible repeat (first | apply Kd.R_alloc | apply Kd.R_drewN | apply Kd.R_drew)); exact Kd.R_mono HO_6.out (fun _ hk => trivial), bl_⟩
      ·replace c46 := Bool.eq_false_iff.mpr c46
       subst c46
       replace H := in_ H
       simp only [Option.some.injEq, Prod.mk.injEq] at H
       obtain ⟨rfl, rfl⟩ := H
       obtain ⟨Ao49, co49, eo49⟩ := Kd.R_slice HO_6.out
       subst eo49
       go_wp2_with (first | ((with_reducible refine gate_callee (f := 134) rfl ?_); refine goesL_ (some 50) rfl rfl Tryd.func134 (by kernel_rfl) rfl #[.slice Ao49 x6_1.length co49] rfl gl_ ?_; (with_reducible refine (spec_HoldsOk.calls k1 _ _ x6_1 false _ ?side1 ?side2 A45.out).mono ?_); (case side1 => exact ca_ ((Kd.R_reads' HO_6.out).2.2)); (case side2 => exact (Kd.R_reads' HO_6.out).2.1); rintro e w50 ⟨rfl, hb⟩; refine ⟨_, rfl, ?_⟩; replace HO_6 := Aside0.mk (Kd.R_below (ra_ HO_6) hb); replace BK296 := Aside0.mk (blk_below (bk_ BK296) hb); replace HB := Aside0.mk (below_step bl_ hb); (try clear hb); (try clear hb2); (try clear hk); (try clear hi)))
       go_ret2
       exact ⟨_, by first | rfl | (simp [errW_none, errW_some] <;> rfl) | (simp [*, errW_none, errW_some] <;> rfl), by first | exact Kd.R_nil _ _ _ _ _ | exact Kd.N_nil _ _ _ _ _ | exact Kd.V_nil _ _ _ _ _ | exact Kd.Q_nil _ _ _ _ _ | exact Kd.S_nil _ _ _ _ _, bl_⟩
     ·replace c44 := Bool.eq_false_iff.mpr c44
      subst c44
      replace H := in_ H
      by_cases c51 : x6_1.length < 4398046511104
      ·rw [if_pos c51] at H
       have LMc51 := Aside0.mk c51
       clear c51
       obtain ⟨y313, hy313⟩ : ∃ y_ : List (S116), y_ = (x6_1 ++ [(⟨a1_0, a1_1, a1_2⟩ : S116)]) := ⟨_, rfl⟩
       replace H : ((spec_HoldsOk.f k1 y313).bind fun t316 => (if t316 = true then (some (y313, true)) else (some (([] : List (S116)), false)))) = some (r1, r2) := by first | (rw [hy313]; with_reducible exact H) | (have H2_ := (Option.bind_some _ _).symm.trans H; rw [hy313]; with_reducible exact H2_) | (have H2_ := (Option.bind_some _ _).symm.trans H; with_reducible exact H2_) | with_reducible exact H | (rw [hy313]; exact H) | exact H
       have Ny313 := Aside0.mk hy313
       clear hy313
       obtain ⟨t316, A52, H⟩ := ob_ H
       by_cases c53 : t316 = true
       ·subst c53
        replace H := ip_ H
        simp only [Option.some.injEq, Prod.mk.injEq] at H
        obtain ⟨rfl, rfl⟩ := H
        have hcz54_0 := cz_ BK296 0 (.string a1_0)
        have hcz54_1 := cz_ BK296 1 (.int .i64 a1_1)
        have hcz54_2 := cz_ BK296 2 (.int .i64 a1_2)
        have hfz54_0 := fz_ BK296 0
        have hfz54_1 := fz_ BK296 1
        have hfz54_2 := fz_ BK296 2
        go_wp2_with (first | ((with_reducible refine gate_builtin (b := .append) (xs := #[.tmp 45, .tmp 47]) rfl ?_); at_builtin; refine Kd.R_append k116 (w0 := w) w.heap.size rfl (.tmp 45) (.tmp 47) 23 116 (.agg #[(.string ⟨#[]⟩), (.int .i64 0), (.int .i64 0)]) 32 rfl Tryd.underlying23 info116 rfl (by decide) (by omega) u6 x6_1 (⟨a1_0, a1_1, a1_2⟩ : S116) [.string a1_0, .int .i64 a1_1, .int .i64 a1_2] (fun k_ => k_ ≠ gb296) (fun _ => False) rfl rfl ?aP (fun _ hk => hk.elim) ?aF ?aO ?aB ?aS ?aL ?_; (case aP => exact k116_mkM _ _ _ (⟨a1_0, a1_1, a1_2⟩ : S116)); (case aB => exact bl_); (case aF => exact (fun k_ hk => Kd.freshB (bk_ BK296) k_ hk)); (case aO => exact (ra_ HO_6)); (case aS => exact (below_size bl_)); (case aL => have := LMc51.out; omega); intro v314 w55 ho hb hg hat; rw [← Ny313.out] at ho; have n0_ := Aside0.mk (blk_grown (bk_ BK296) hg (Kd.R_away HO_6.out (fun _ hk => hk))); have n1_ := Aside0.mk (hb); have n2_ := Aside0.mk (ho); clear BK296; clear HB; clear HO_6; have BK296 := n0_; have HB := n1_; have HO315 := n2_; clear n0_ n1_ n2_; clear ho hb hg hat; obtain ⟨Ao56, co56, eo56⟩ := Kd.R_slice HO315.out; subst eo56) | ((with_reducible refine gate_callee (f := 134) rfl ?_); refine goesL_ (some 50) rfl rfl Tryd.func134 (by kernel_rfl) rfl #[.slice Ao56 y313.length co56] rfl gl_ ?_; (with_reducible refine (spec_HoldsOk.calls k1 _ _ y313 true _ ?side1 ?side2 A52.out).mono ?_); (case side1 => exact ca_ ((Kd.R_reads' HO315.out).2.2)); (case side2 => exact (Kd.R_reads' HO315.out).2.1); rintro e w57 ⟨rfl, hb⟩; refine ⟨_, rfl, ?_⟩; replace HO315 := Aside0.mk (Kd.R_below (ra_ HO315) hb); replace BK296 := Aside0.mk (blk_below (bk_ BK296) hb); replace HB := Aside0.mk (below_step bl_ hb); (try clear hb); (try clear hb2); (try clear hk); (try clear hi)))
        go_ret2
        exact ⟨_, by first | rfl | (simp [errW_none, errW_some] <;> rfl) | (simp [*, errW_none, errW_some] <;> rfl), by (with_reducible repeat (first | apply Kd.R_alloc | apply Kd.R_drewN | apply Kd.R_drew)); exact Kd.R_mono HO315.out (fun _ hk => trivial), bl_⟩
       ·replace c53 := Bool.eq_false_iff.mpr c53
        subst c53
        replace H := in_ H
        simp only [Option.some.injEq, Prod.mk.injEq] at H
        obtain ⟨rfl, rfl⟩ := H
        have hcz58_0 := cz_ BK296 0 (.string a1_0)
        have hcz58_1 := cz_ BK296 1 (.int .i64 a1_1)
        have hcz58_2 := cz_ BK296 2 (.int .i64 a1_2)
        have hfz58_0 := fz_ BK296 0
        have hfz58_1 := fz_ BK296 1
        have hfz58_2 := fz_ BK296 2
        go_wp2_with (first | ((with_reducible refine gate_builtin (b := .append) (xs := #[.tmp 45, .tmp 47]) rfl ?_); at_builtin; refine Kd.R_append k116 (w0 := w) w.heap.size rfl (.tmp 45) (.tmp 47) 23 116 (.agg #[(.string ⟨#[]⟩), (.int .i64 0), (.int .i64 0)]) 32 rfl Tryd.underlying23 info116 rfl (by decide) (by omega) u6 x6_1 (⟨a1_0, a1_1, a1_2⟩ : S116) [.string a1_0, .int .i64 a1_1, .int .i64 a1_2] (fun k_ => k_ ≠ gb296) (fun _ => False) rfl rfl ?aP (fun _ hk => hk.elim) ?aF ?aO ?aB ?aS ?aL ?_; (case aP => exact k116_mkM _ _ _ (⟨a1_0, a1_1, a1_2⟩ : S116)); (case aB => exact bl_); (case aF => exact (fun k_ hk => Kd.freshB (bk_ BK296) k_ hk)); (case aO => exact (ra_ HO_6)); (case aS => exact (below_size bl_)); (case aL => have := LMc51.out; omega); intro v314 w59 ho hb hg hat; rw [← Ny313.out] at ho; have n0_ := Aside0.mk (blk_grown (bk_ BK296) hg (Kd.R_away HO_6.out (fun _ hk => hk))); have n1_ := Aside0.mk (hb); have n2_ := Aside0.mk (ho); clear BK296; clear HB; clear HO_6; have BK296 := n0_; have HB := n1_; have HO315 := n2_; clear n0_ n1_ n2_; clear ho hb hg hat; obtain ⟨Ao60, co60, eo60⟩ := Kd.R_slice HO315.out; subst eo60) | ((with_reducible refine gate_callee (f := 134) rfl ?_); refine goesL_ (some 50) rfl rfl Tryd.func134 (by kernel_rfl) rfl #[.slice Ao60 y313.length co60] rfl gl_ ?_; (with_reducible refine (spec_HoldsOk.calls k1 _ _ y313 false _ ?side1 ?side2 A52.out).mono ?_); (case side1 => exact ca_ ((Kd.R_reads' HO315.out).2.2)); (case side2 => exact (Kd.R_reads' HO315.out).2.1); rintro e w61 ⟨rfl, hb⟩; refine ⟨_, rfl, ?_⟩; replace HO315 := Aside0.mk (Kd.R_below (ra_ HO315) hb); replace BK296 := Aside0.mk (blk_below (bk_ BK296) hb); replace HB := Aside0.mk (below_step bl_ hb); (try clear hb); (try clear hb2); (try clear hk); (try clear hi)))
        go_ret2
        exact ⟨_, by first | rfl | (simp [errW_none, errW_some] <;> rfl) | (simp [*, errW_none, errW_some] <;> rfl), by first | exact Kd.R_nil _ _ _ _ _ | exact Kd.N_nil _ _ _ _ _ | exact Kd.V_nil _ _ _ _ _ | exact Kd.Q_nil _ _ _ _ _ | exact Kd.S_nil _ _ _ _ _, bl_⟩
      ·rw [if_neg c51] at H
       exact absurd H (by simp)
 ·replace c4 := Bool.eq_false_iff.mpr c4
  subst c4
  replace H := in_ H
  simp only [Option.some.injEq, Prod.mk.injEq] at H
  obtain ⟨rfl, rfl⟩ := H
  go_enter Tryd.func100, Tryd.ntmps100
  go_wp2_with (first | ((with_reducible refine gate_dst (N := 3) rfl ?_); refine be_ (N := 3) (cs := #[.string a1_0, .int .i64 a1_1, .int .i64 a1_2]) (t := 116) ?_; intro gb296 hg w62 hbox hb; have BK296 := Aside0.mk (hbox); have GW296 := gw_ (w := w) hg; have GE296 := gw_ (w := w) hg; replace HB := Aside0.mk (below_step bl_ hb); clear hb hbox hg) | ((with_reducible refine gate_callee (f := 134) rfl ?_); refine goesL_ (some 11) rfl rfl Tryd.func134 (by kernel_rfl) rfl #[.slice A0 l0.length c0] rfl gl_ ?_; (with_reducible refine (spec_HoldsOk.calls k _ _ l0 false _ ?side1 ?side2 A3.out).mono ?_); (case side1 => exact ca_ (Kd.C_below HR0.out HB.out)); (case side2 => exact HC0.out); rintro e w63 ⟨rfl, hb⟩; refine ⟨_, rfl, ?_⟩; replace BK296 := Aside0.mk (blk_below (bk_ BK296) hb); replace HB := Aside0.mk (below_step bl_ hb); (try clear hb); (try clear hb2); (try clear hk); (try clear hi)))
  go_ret2
  exact ⟨_, by first | rfl | (simp [errW_none, errW_some] <;> rfl) | (simp [*, errW_none, errW_some] <;> rfl), by first | exact Kd.R_nil _ _ _ _ _ | exact Kd.N_nil _ _ _ _ _ | exact Kd.V_nil _ _ _ _ _ | exact Kd.Q_nil _ _ _ _ _ | exact Kd.S_nil _ _ _ _ _, bl_⟩
/-! ### spec_l01Str: function 59 -/
def spec_l01Str.f (s0_0 : List Int) (s0_1 : Int) (s0_2 : Int) (l1 : List ByteArray) : Option (ByteArray × Int × Int) := (spec_l01Below.f s0_0 s0_1 s0_2 (l1.length : Int)).bind fun bt317 => (if 0 ≤ bt317.1 then (if bt317.1 < (l1.length : Int) then (some (rdOf ByteArray.empty l1 bt317.1, bt317.2.1, bt317.2.2)) else (none)) else (none))
set_option maxHeartbeats 8000000 in
set_option maxRecDepth 100000 in
theorem spec_l01Str.calls (g : Nat) (s0_0 : List Int) (s0_1 : Int) (s0_2 : Int) (A1 : Option Addr) (c1 : Nat) (l1 : List ByteArray) (r1 : ByteArray) (r2 : Int) (r3 : Int) (w0 w : World) (hI : IsS76 w0 w g s0_0 s0_1 s0_2) (hB : Below w0.heap.size w0 w) (hr1 : Kd.C Kd.string w A1 l1.length l1) (hc1 : l1.length ≤ c1) (hf1 : ∀ ad, A1 = some ad → 0 < l1.length → ad.block ≠ g) (h : spec_l01Str.f s0_0 s0_1 s0_2 l1 = some (r1, r2, r3)) :
  Calls Tryd.prog 59 #[.pointer (some ⟨g, 0, none⟩), .slice A1 l1.length c1] w fun e w' => e = .returned (.string r1) ∧ IsS76 w0 w' g s0_0 r2 r3 ∧ Below w0.heap.size w0 w' ∧ KeepBut w w' g none := by
 have HR1 := Aside0.mk hr1
 have HC1 := Aside0.mk hc1
 clear hr1 hc1
 have HI0 := Aside0.mk hI
 have HK := Aside0.mk (KeepBut.refl w g none)
 have HL := Aside0.mk hB.size
 clear hI
 have HW0 := Aside0.mk hB.size
 have HB := Aside0.mk hB
 clear hB
 have H : ((spec_l01Below.f s0_0 s0_1 s0_2 (l1.length : Int)).bind fun bt317 => (if 0 ≤ bt317.1 then (if bt317.1 < (l1.length : Int) then (some (rdOf ByteArray.empty l1 bt317.1, bt317.2.1, bt317.2.2)) else (none)) else (none))) = some (r1, r2, r3) := h
 clear h
 obtain ⟨⟨t317, t318, t319⟩, A3, H⟩ := ob_ H
 (try dsimp only at H)
 by_cases c4 : 0 ≤ t317
 ·rw [if_pos c4] at H
  have c4b0 : decide (0 ≤ t317) = true := decide_eq_true c4
  clear c4
  by_cases c5 : t317 < (l1.length : Int)
  ·rw [if_pos c5] at H
   have c5b0 : decide (t317 < (l1.length : Int)) = true := decide_eq_true c5
   clear c5
   simp only [Option.some.injEq, Prod.mk.injEq] at H
   obtain ⟨rfl, rfl, rfl⟩ := H
   go_enter Tryd.func59, Tryd.ntmps59
   go_wp2_with (first | ((with_reducible refine gate_callee (f := 52) rfl ?_); refine goesL_ (some 9) rfl rfl Tryd.func52 (by kernel_rfl) rfl #[.pointer (some ⟨g, 0, none⟩), .int .i64 (l1.length : Int)] rfl gl_ ?_; (with_reducible refine (spec_l01Below.calls g s0_0 s0_1 s0_2 (l1.length : Int) t317 t318 t319 w0 _ ?side1 ?side2 A3.out).mono ?_); (case side1 => repeat (first | (with_reducible first | exact HI0.out | apply IsS76.alloc | apply IsS76.drewN | apply IsS76.drew | apply IsS76.set_1 | apply IsS76.set_2) | exact HI0.out)); (case side2 => repeat (first | (with_reducible first | exact HB.out | apply below_alloc | apply pw_below_drewN | apply below_drew1 | refine below_set ?_ (IsS76.ge HI0.out)) | exact HB.out)); rintro e w6 ⟨rfl, hi, hb, hk⟩; refine ⟨_, rfl, ?_⟩; replace HK := Aside0.mk (KeepBut.trans (by repeat (first | (with_reducible first | exact HK.out | apply KeepBut.set_ | apply keep_drewN | apply keep_drew | apply keep_alloc) | exact HK.out)) hk (.inl rfl)); replace HB := Aside0.mk (hb); replace HI0 := Aside0.mk (hi); (try clear hb); (try clear hb2); (try clear hk); (try clear hi); have p320 : 0 ≤ (t317 : Int) := od_; have q320 : t317 < (l1.length : Int) := od_; obtain ⟨ad320, e320, hx320_0⟩ := Kd.at_string HR1.out t317 p320 q320; cases e320; replace hx320_0 := keep_cell HK.out hx320_0 (by first | (rw [add_block]; exact hf1 _ rfl (by omega)) | exact hf1 _ rfl (by omega) | exact hf1 ad320 rfl (by omega)); replace p320 := eq_true p320; replace q320 := eq_true q320))
   go_ret
   exact ⟨by first | rfl | (simp [errW_none, errW_some] <;> rfl) | (simp [*, errW_none, errW_some] <;> rfl), by repeat (first | (with_reducible first | exact HI0.out | apply IsS76.alloc | apply IsS76.drewN | apply IsS76.drew | apply IsS76.set_1 | apply IsS76.set_2) | exact HI0.out), by repeat (first | (with_reducible first | exact HB.out | apply below_alloc | apply pw_below_drewN | apply below_drew1 | refine below_set ?_ (IsS76.ge HI0.out)) | exact HB.out), by repeat (first | (with_reducible first | exact HK.out | apply KeepBut.set_ | apply keep_drewN | apply keep_drew | apply keep_alloc) | exact HK.out)⟩
  ·rw [if_neg c5] at H
   exact absurd H (by simp)
 ·rw [if_neg c4] at H
  exact absurd H (by simp)
/-! ### spec_l07Id: function 140 -/
def spec_l07Id.f (s0_0 : List Int) (s0_1 : Int) (s0_2 : Int) : Option (ByteArray × Int × Int) := (spec_l01Str.f s0_0 s0_1 s0_2 (([(⟨#[97]⟩ : ByteArray), (⟨#[98]⟩ : ByteArray), (⟨#[99]⟩ : ByteArray), (⟨#[104, 49]⟩ : ByteArray), (⟨#[122, 57]⟩ : ByteArray)] : List ByteArray))).bind fun bt324 => (some (bt324.1, bt324.2.1, bt324.2.2))
set_option maxHeartbeats 8000000 in
set_option maxRecDepth 100000 in
theorem spec_l07Id.calls (g : Nat) (s0_0 : List Int) (s0_1 : Int) (s0_2 : Int) (r1 : ByteArray) (r2 : Int) (r3 : Int) (w0 w : World) (hI : IsS76 w0 w g s0_0 s0_1 s0_2) (hB : Below w0.heap.size w0 w) (h : spec_l07Id.f s0_0 s0_1 s0_2 = some (r1, r2, r3)) :
  Calls Tryd.prog 140 #[.pointer (some ⟨g, 0, none⟩)] w fun e w' => e = .returned (.string r1) ∧ IsS76 w0 w' g s0_0 r2 r3 ∧ Below w0.heap.size w0 w' ∧ KeepBut w w' g none := by
 have HI0 := Aside0.mk hI
 have HK := Aside0.mk (KeepBut.refl w g none)
 have HL := Aside0.mk hB.size
 clear hI
 have HW0 := Aside0.mk hB.size
 have HB := Aside0.mk hB
 clear hB
 have H : ((spec_l01Str.f s0_0 s0_1 s0_2 (([(⟨#[97]⟩ : ByteArray), (⟨#[98]⟩ : ByteArray), (⟨#[99]⟩ : ByteArray), (⟨#[104, 49]⟩ : ByteArray), (⟨#[122, 57]⟩ : ByteArray)] : List ByteArray))).bind fun bt324 => (some (bt324.1, bt324.2.1, bt324.2.2))) = some (r1, r2, r3) := h
 clear h
 obtain ⟨y321, hy321⟩ : ∃ y_ : List ByteArray, y_ = (([(⟨#[97]⟩ : ByteArray), (⟨#[98]⟩ : ByteArray), (⟨#[99]⟩ : ByteArray), (⟨#[104, 49]⟩ : ByteArray), (⟨#[122, 57]⟩ : ByteArray)] : List ByteArray)) := ⟨_, rfl⟩
 replace H : ((spec_l01Str.f s0_0 s0_1 s0_2 y321).bind fun bt324 => (some (bt324.1, bt324.2.1, bt324.2.2))) = some (r1, r2, r3) := by first | (rw [hy321]; with_reducible exact H) | (have H2_ := (Option.bind_some _ _).symm.trans H; rw [hy321]; with_reducible exact H2_) | (have H2_ := (Option.bind_some _ _).symm.trans H; with_reducible exact H2_) | with_reducible exact H | (rw [hy321]; exact H) | exact H
 have Ny321 := Aside0.mk hy321
 clear hy321
 obtain ⟨⟨t324, t325, t326⟩, A2, H⟩ := ob_ H
 (try dsimp only at H)
 simp only [Option.some.injEq, Prod.mk.injEq] at H
 obtain ⟨rfl, rfl, rfl⟩ := H
 go_enter Tryd.func140, Tryd.ntmps140
 go_wp2_with (first | ((with_reducible refine gate_dst (N := 4) rfl ?_); refine Kd.R_lit Kd.string _ 9 ?hg (N := 4) ?hd (xs := ([(⟨#[97]⟩ : ByteArray), (⟨#[98]⟩ : ByteArray), (⟨#[99]⟩ : ByteArray), (⟨#[104, 49]⟩ : ByteArray), (⟨#[122, 57]⟩ : ByteArray)] : List ByteArray)) (inner := [.string (⟨#[97]⟩ : ByteArray), .string (⟨#[98]⟩ : ByteArray), .string (⟨#[99]⟩ : ByteArray), .string (⟨#[104, 49]⟩ : ByteArray), .string (⟨#[122, 57]⟩ : ByteArray)]) (ok := fun _ => True) (okp := fun _ => True) ?hr ?hp (fun _ hk => hk) trivial (Below.refl _ _) (Nat.le_refl _) (by simp) ?_; (case hd => rfl); (case hg => rfl); (case hr => first | (go_simp; done) | (go_simp; rfl)); (case hp => exact (Reps.one (show Kd.M Kd.string _ _ _ (⟨#[97]⟩ : ByteArray) [.string (⟨#[97]⟩ : ByteArray)] from rfl) (Reps.one (show Kd.M Kd.string _ _ _ (⟨#[98]⟩ : ByteArray) [.string (⟨#[98]⟩ : ByteArray)] from rfl) (Reps.one (show Kd.M Kd.string _ _ _ (⟨#[99]⟩ : ByteArray) [.string (⟨#[99]⟩ : ByteArray)] from rfl) (Reps.one (show Kd.M Kd.string _ _ _ (⟨#[104, 49]⟩ : ByteArray) [.string (⟨#[104, 49]⟩ : ByteArray)] from rfl) (Reps.one (show Kd.M Kd.string _ _ _ (⟨#[122, 57]⟩ : ByteArray) [.string (⟨#[122, 57]⟩ : ByteArray)] from rfl) (Reps.none _ _))))))); intro v322 w3 ho4 hb hg_ hnew_; clear hg_ hnew_; (first | rw [← Ny321.out] at ho4 | (simp only [Int.reduceToNat] at ho4; rw [← Ny321.out] at ho4)); have HO323 := Aside0.mk (Kd.R_lower ho4 (keep_size (w := w) (g := g) (row := none) (by repeat (first | (with_reducible first | exact HK.out | apply KeepBut.set_ | apply keep_drewN | apply keep_drew | apply keep_alloc) | exact HK.out)))); replace HK := Aside0.mk (KeepBut.trans (by repeat (first | (with_reducible first | exact HK.out | apply KeepBut.set_ | apply keep_drewN | apply keep_drew | apply keep_alloc) | exact HK.out)) (KeepBut.of_below hb g none) (.inl rfl)); replace HB := Aside0.mk (below_step (by repeat (first | (with_reducible first | exact HB.out | apply below_alloc | apply pw_below_drewN | apply below_drew1 | refine below_set ?_ (IsS76.ge HI0.out)) | exact HB.out)) hb); replace HI0 := Aside0.mk (IsS76.below (by repeat (first | (with_reducible first | exact HI0.out | apply IsS76.alloc | apply IsS76.drewN | apply IsS76.drew | apply IsS76.set_1 | apply IsS76.set_2) | exact HI0.out)) hb); clear hb ho4; obtain ⟨Ao5, co5, eo5⟩ := Kd.R_slice HO323.out; subst eo5) | ((with_reducible refine gate_callee (f := 59) rfl ?_); refine goesL_ (some 5) rfl rfl Tryd.func59 (by kernel_rfl) rfl #[.pointer (some ⟨g, 0, none⟩), .slice Ao5 y321.length co5] rfl gl_ ?_; (with_reducible refine (spec_l01Str.calls g s0_0 s0_1 s0_2 _ _ y321 t324 t325 t326 w0 _ ?side1 ?side2 ?side3 ?side4 ?side5 A2.out).mono ?_); (case side1 => repeat (first | (with_reducible first | exact HI0.out | apply IsS76.alloc | apply IsS76.drewN | apply IsS76.drew | apply IsS76.set_1 | apply IsS76.set_2) | exact HI0.out)); (case side2 => repeat (first | (with_reducible first | exact HB.out | apply below_alloc | apply pw_below_drewN | apply below_drew1 | refine below_set ?_ (IsS76.ge HI0.out)) | exact HB.out)); (case side3 => exact ca_ ((Kd.R_reads' HO323.out).2.2)); (case side4 => exact (Kd.R_reads' HO323.out).2.1); (case side5 => exact far_slice (IsS76.own_ne HI0.out HO323.out (by decide))); rintro e w6 ⟨rfl, hi, hb, hk⟩; refine ⟨_, rfl, ?_⟩; replace HO323 := Aside0.mk (Kd.R_mono (Kd.R_keep (IsS76.apart (show IsS76 w0 _ g s0_0 s0_1 s0_2 from by repeat (first | (with_reducible first | exact HI0.out | apply IsS76.alloc | apply IsS76.drewN | apply IsS76.drew | apply IsS76.set_1 | apply IsS76.set_2) | exact HI0.out)) (ra_ HO323) (by decide)) hk (fun _ h => h.2)) (fun _ h => h.1)); replace HK := Aside0.mk (KeepBut.trans (by repeat (first | (with_reducible first | exact HK.out | apply KeepBut.set_ | apply keep_drewN | apply keep_drew | apply keep_alloc) | exact HK.out)) hk (.inl rfl)); replace HB := Aside0.mk (hb); replace HI0 := Aside0.mk (hi); (try clear hb); (try clear hb2); (try clear hk); (try clear hi)))
 go_ret
 exact ⟨by first | rfl | (simp [errW_none, errW_some] <;> rfl) | (simp [*, errW_none, errW_some] <;> rfl), by repeat (first | (with_reducible first | exact HI0.out | apply IsS76.alloc | apply IsS76.drewN | apply IsS76.drew | apply IsS76.set_1 | apply IsS76.set_2) | exact HI0.out), by repeat (first | (with_reducible first | exact HB.out | apply below_alloc | apply pw_below_drewN | apply below_drew1 | refine below_set ?_ (IsS76.ge HI0.out)) | exact HB.out), by repeat (first | (with_reducible first | exact HK.out | apply KeepBut.set_ | apply keep_drewN | apply keep_drew | apply keep_alloc) | exact HK.out)⟩
end Go.Proofs.YtbjpfknmkpnhjaaDoor.QFnMoney
