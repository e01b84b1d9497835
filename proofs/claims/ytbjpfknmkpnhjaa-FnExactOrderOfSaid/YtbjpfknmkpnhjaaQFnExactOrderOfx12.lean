-- by my own printer (myprint.py, over the kit's print.py)
import Derived.Test.YtbjpfknmkpnhjaaQFnExactOrderOfx0
import Derived.Test.YtbjpfknmkpnhjaaQFnExactOrderOfx2
import Derived.Test.YtbjpfknmkpnhjaaQFnExactOrderOfx3
import Derived.Test.YtbjpfknmkpnhjaaQFnExactOrderOfx5
import Derived.Test.YtbjpfknmkpnhjaaQFnExactOrderOfx10
import Derived.Test.YtbjpfknmkpnhjaaQFnExactOrderOfx11
namespace Go.Proofs.Ytbjpfknmkpnhjaa.QFnExactOrderOf
open Go.RowKit Go.Proofs.YtbjpfknmkpnhjaaW.PrintWords Go.Proofs.YtbjpfknmkpnhjaaW.PrintLast Go.Proofs.YtbjpfknmkpnhjaaW.PrintMore
attribute [local go_sem] max2_int min2_int max_two min_two max_three min_three max_four min_four   -- for this text's walks alone
set_option linter.unusedVariables false
set_option linter.unusedSimpArgs false
attribute [local go_sem] my_geq my_leq my_gtr
/-! ### laws_markTaskS: function 22 -/
def mw43 (x : S43) : Nat := 6 + mwL mw1 x.f0 + mwL mw1 x.f2 + mwL mw1 x.f8
set_option maxHeartbeats 8000000 in
set_option maxRecDepth 100000 in
theorem laws_markTaskS.skel (W0 : World) (P0_ : Nat → Prop) (base : Nat) (A0 : Option Addr) (c0 : Nat) (l0 : List (S43)) (a1 : Int) (w0 w : World) (hR : Kd.R k43 43 W0 base P0_ (.slice A0 l0.length c0) l0) (hS : Skel W0 w) (hB : Below w0.heap.size w0 w) (hb : w0.heap.size ≤ base) (h0 : 0 ≤ a1) (h1 : a1 + (mwL mw43 l0 : Nat) ≤ 9000000000000000000) :
  Calls Try.prog 22 #[.slice A0 l0.length c0, .int .i64 a1] w fun e w' => e = .returned (.int .i64 (a1 + (mwL mw43 l0 : Nat))) ∧ Skel W0 w' ∧ Below w0.heap.size w0 w' ∧ Kept w w' P0_ := by
 have hll := mwL_len mw43 (fun _ => by unfold mw43; omega) l0
 have hu30 := Try.underlying30
 have HR := Aside0.mk hR
 have HS := Aside0.mk (SkB.mk (P0 := P0_) hS (Kept.refl w P0_) hB)
 have HZ := Aside0.mk (show w0.heap.size ≤ base ∧ 0 ≤ a1 ∧ a1 + (mwL mw43 l0 : Nat) ≤ 9000000000000000000 ∧ l0.length ≤ mwL mw43 l0 from ⟨hb, h0, h1, hll⟩)
 clear hR hS hB hb h0 h1 hll
 go_enter Try.func22, Try.ntmps22
 go_wp2
 go_loopg [1, 5] (l0.length) (fun kq v1 v5 w' => ∃ (x1 : Int) (x5 : Int), v1 = .int .i64 x1 ∧ v5 = .int .i64 x5 ∧ Aside0 (0 ≤ x5 ∧ x5 ≤ (l0.length : Int) ∧ (kq : Int) = (l0.length : Int) - x5 ∧ x1 = a1 + (mwL mw43 (l0.take x5.toNat) : Nat)) ∧ Aside0 (SkB W0 w w0 P0_ w'))
 case atStart => exact ⟨a1, 0, rfl, rfl, ⟨by omega, by omega, by omega, by simp [mwL]⟩, HS⟩
 case round =>
  clear HS
  obtain ⟨x1, x5, rfl, rfl, HX, HS0⟩ := hrel
  obtain ⟨hx0, hx1, hx2, hx3⟩ := HX.out
  by_cases c1 : x5 < (l0.length : Int)
  ·obtain ⟨g, c, rfl, hM, he, hP, hbg⟩ := sk_elem HR.out z43 x5 hx0 c1
   have hM' : k43.M W0 base P0_ (rd_T43 l0 x5) c := hM
   clear hM
   have hM := hM'
   clear hM'
   obtain ⟨v0, v2, v8, rfl, r0, r2, r8⟩ := k43_openM hM
   obtain ⟨Ar0, cr0, rfl⟩ := Kd.R_slice r0
   have HR0 := Aside0.mk r0
   obtain ⟨Ar2, cr2, rfl⟩ := Kd.R_slice r2
   have HR2 := Aside0.mk r2
   obtain ⟨Ar8, cr8, rfl⟩ := Kd.R_slice r8
   have HR8 := Aside0.mk r8
   have hmw := mwL_step mw43 l0 z43 x5 hx0 c1
   have hml := mwL_le mw43 l0 (x5 + 1).toNat
   have hme : mw43 (l0.getD x5.toNat z43) = 6 + mwL mw1 (rd_T43 l0 x5).f0 + mwL mw1 (rd_T43 l0 x5).f2 + mwL mw1 (rd_T43 l0 x5).f8 := rfl
   have hz := HZ.out
   have w5 : wrap64 (x5 + 1) = x5 + 1 := mwid (by omega) (by omega)
   have HHE := Aside0.mk he
   have p0 := eq_true hx0
   have q0 := eq_true c1
   have HP := Aside0.mk hP
   have HBG := Aside0.mk (Nat.le_trans hz.1 hbg)
   have HMW := Aside0.mk (And.intro hmw (And.intro hml (And.intro hme (And.intro hx0 (And.intro c1 (And.intro hx2 hx3))))))
   have W5 := Aside0.mk w5
   have hc0 : wr.cell? ⟨g, x5.toNat * 9, none⟩ = some (.slice Ar0 (rd_T43 l0 x5).f0.length cr0) := SkB.slice (m := x5.toNat * 9) HS0.out HHE.out (j := 0) rfl
   clear he hP hbg c1 hmw hml hme hz w5 hx2 hx3 HX hx0 hx1 r0 r2 r8
   go_wp2_with (first | (go_at_call 31; (with_reducible refine (laws_markByteS.skel W0 P0_ base _ _ (rd_T43 l0 x5).f0 _ w0 _ ?hR ?hS ?hB ?hb ?h0 ?h1).mono ?_); (case hR => exact HR0.out); (case hS => exact (HS0.out).s); (case hB => exact (HS0.out).b); (case hb => exact HZ.out.1); (case h0 => have h := HMW.out; have h2 := HZ.out; (try unfold wrap64); omega); (case h1 => have h := HMW.out; have h2 := HZ.out; (try unfold wrap64); omega); rintro e wa ⟨rfl, hs, hb, hk⟩; have HS1 := Aside0.mk (SkB.mark HS0.out hs hb hk); clear hs hb hk hc0; obtain ⟨u1, hc1⟩ : ∃ u, wa.cell? ⟨g, x5.toNat * 9 + 1, none⟩ = some u := SkB.cell (m := x5.toNat * 9) HS1.out HHE.out (j := 1) rfl; have hc2 : wa.cell? ⟨g, x5.toNat * 9 + 2, none⟩ = some (.slice Ar2 (rd_T43 l0 x5).f2.length cr2) := SkB.slice (m := x5.toNat * 9) HS1.out HHE.out (j := 2) rfl; have hf := SkB.frozen HS1.out HHE.out) | (go_at_call 11; (with_reducible refine (laws_markIntS.skel W0 P0_ base _ _ (rd_T43 l0 x5).f2 _ w0 _ ?hR ?hS ?hB ?hb ?h0 ?h1).mono ?_); (case hR => exact HR2.out); (case hS => exact ((SkB.put (m := x5.toNat * 9) HS1.out HHE.out HP.out HBG.out (j := 1) rfl ⟨_, rfl⟩)).s); (case hB => exact ((SkB.put (m := x5.toNat * 9) HS1.out HHE.out HP.out HBG.out (j := 1) rfl ⟨_, rfl⟩)).b); (case hb => exact HZ.out.1); (case h0 => have h := HMW.out; have h2 := HZ.out; (try unfold wrap64); omega); (case h1 => have h := HMW.out; have h2 := HZ.out; (try unfold wrap64); omega); rintro e wb ⟨rfl, hs, hb, hk⟩; have HS2 := Aside0.mk (SkB.mark (SkB.put (m := x5.toNat * 9) HS1.out HHE.out HP.out HBG.out (j := 1) rfl ⟨_, rfl⟩) hs hb hk); clear hs hb hk hc1 hc2 hf; obtain ⟨u3, hc3⟩ : ∃ u, wb.cell? ⟨g, x5.toNat * 9 + 3, none⟩ = some u := SkB.cell (m := x5.toNat * 9) HS2.out HHE.out (j := 3) rfl; obtain ⟨u4, hc4⟩ : ∃ u, wb.cell? ⟨g, x5.toNat * 9 + 4, none⟩ = some u := SkB.cell (m := x5.toNat * 9) HS2.out HHE.out (j := 4) rfl; obtain ⟨u5, hc5⟩ : ∃ u, wb.cell? ⟨g, x5.toNat * 9 + 5, none⟩ = some u := SkB.cell (m := x5.toNat * 9) HS2.out HHE.out (j := 5) rfl; obtain ⟨u6, hc6⟩ : ∃ u, wb.cell? ⟨g, x5.toNat * 9 + 6, none⟩ = some u := SkB.cell (m := x5.toNat * 9) HS2.out HHE.out (j := 6) rfl; obtain ⟨u7, hc7⟩ : ∃ u, wb.cell? ⟨g, x5.toNat * 9 + 7, none⟩ = some u := SkB.cell (m := x5.toNat * 9) HS2.out HHE.out (j := 7) rfl; have hc8 : wb.cell? ⟨g, x5.toNat * 9 + 8, none⟩ = some (.slice Ar8 (rd_T43 l0 x5).f8.length cr8) := SkB.slice (m := x5.toNat * 9) HS2.out HHE.out (j := 8) rfl; have hf := SkB.frozen HS2.out HHE.out) | (go_at_call 31; (with_reducible refine (laws_markByteS.skel W0 P0_ base _ _ (rd_T43 l0 x5).f8 _ w0 _ ?hR ?hS ?hB ?hb ?h0 ?h1).mono ?_); (case hR => exact HR8.out); (case hS => exact ((SkB.put (m := x5.toNat * 9) (SkB.put (m := x5.toNat * 9) (SkB.put (m := x5.toNat * 9) (SkB.put (m := x5.toNat * 9) (SkB.put (m := x5.toNat * 9) HS2.out HHE.out HP.out HBG.out (j := 3) rfl ⟨_, rfl⟩) HHE.out HP.out HBG.out (j := 4) rfl ⟨_, rfl⟩) HHE.out HP.out HBG.out (j := 5) rfl ⟨_, rfl⟩) HHE.out HP.out HBG.out (j := 6) rfl ⟨_, rfl⟩) HHE.out HP.out HBG.out (j := 7) rfl ⟨_, rfl⟩)).s); (case hB => exact ((SkB.put (m := x5.toNat * 9) (SkB.put (m := x5.toNat * 9) (SkB.put (m := x5.toNat * 9) (SkB.put (m := x5.toNat * 9) (SkB.put (m := x5.toNat * 9) HS2.out HHE.out HP.out HBG.out (j := 3) rfl ⟨_, rfl⟩) HHE.out HP.out HBG.out (j := 4) rfl ⟨_, rfl⟩) HHE.out HP.out HBG.out (j := 5) rfl ⟨_, rfl⟩) HHE.out HP.out HBG.out (j := 6) rfl ⟨_, rfl⟩) HHE.out HP.out HBG.out (j := 7) rfl ⟨_, rfl⟩)).b); (case hb => exact HZ.out.1); (case h0 => have h := HMW.out; have h2 := HZ.out; (try unfold wrap64); omega); (case h1 => have h := HMW.out; have h2 := HZ.out; (try unfold wrap64); omega); rintro e wc ⟨rfl, hs, hb, hk⟩; have HS3 := Aside0.mk (SkB.mark (SkB.put (m := x5.toNat * 9) (SkB.put (m := x5.toNat * 9) (SkB.put (m := x5.toNat * 9) (SkB.put (m := x5.toNat * 9) (SkB.put (m := x5.toNat * 9) HS2.out HHE.out HP.out HBG.out (j := 3) rfl ⟨_, rfl⟩) HHE.out HP.out HBG.out (j := 4) rfl ⟨_, rfl⟩) HHE.out HP.out HBG.out (j := 5) rfl ⟨_, rfl⟩) HHE.out HP.out HBG.out (j := 6) rfl ⟨_, rfl⟩) HHE.out HP.out HBG.out (j := 7) rfl ⟨_, rfl⟩) hs hb hk); clear hs hb hk hc3 hc4 hc5 hc6 hc7 hc8 hf))
   go_roundg (gk - 1)
   case measure => have h := HMW.out; have h2 := HZ.out; omega
   case rel =>
    refine ⟨_, _, rfl, rfl, ⟨?_⟩, ⟨?_⟩⟩
    ·have h := HMW.out
     have h2 := HZ.out
     have h3 := W5.out
     rw [h3]
     refine ⟨by omega, by omega, by omega, ?_⟩
     unfold wrap64
     omega
    ·exact HS3.out
  ·have d0 : decide (x5 < (l0.length : Int)) = false := decide_eq_false c1
   have hz := HZ.out
   obtain rfl : x5 = (l0.length : Int) := by omega
   have e1 : x1 = a1 + (mwL mw43 l0 : Nat) := by rw [hx3, Int.toNat_natCast, List.take_length]
   subst e1
   clear c1 HX hx0 hx1 hx2 hx3 hz
   go_wp2
   go_ret
   exact ⟨rfl, HS0.out.s, HS0.out.b, HS0.out.k⟩
/-! ### laws_markWorld: function 10 -/
set_option maxHeartbeats 8000000 in
set_option maxRecDepth 100000 in
theorem laws_markWorld.skel (W0 : World) (P0_ : Nat → Prop) (base : Nat) (A0 : Option Addr) (c0 : Nat) (l0 : List S60) (b1 : Int) (b2 : Int) (A3 : Option Addr) (c3 : Nat) (l3 : List S43) (a1 : Int) (w0 w : World) (hR0 : Kd.R k60 60 W0 base P0_ (.slice A0 l0.length c0) l0) (hR3 : Kd.R k43 43 W0 base P0_ (.slice A3 l3.length c3) l3) (hS : Skel W0 w) (hB : Below w0.heap.size w0 w) (hb : w0.heap.size ≤ base) (h0 : 0 ≤ a1) (h1 : a1 + (mwL mw60 l0 : Nat) + (mwL mw43 l3 : Nat) ≤ 9000000000000000000) :
  Calls Try.prog 10 #[.agg #[.slice A0 l0.length c0, .int .i64 b1, .int .i64 b2, .slice A3 l3.length c3], .int .i64 a1] w fun e w' => e = .returned (.int .i64 (a1 + (mwL mw60 l0 : Nat) + (mwL mw43 l3 : Nat))) ∧ Skel W0 w' ∧ Below w0.heap.size w0 w' ∧ Kept w w' P0_ := by
 have hu32 := Try.underlying32
 have HZ := Aside0.mk (show w0.heap.size ≤ base ∧ 0 ≤ a1 ∧ a1 + (mwL mw60 l0 : Nat) + (mwL mw43 l3 : Nat) ≤ 9000000000000000000 from ⟨hb, h0, h1⟩)
 have HS := Aside0.mk (SkB.mk (P0 := fun k_ => P0_ k_ ∧ k_ < W0.heap.size) hS (Kept.refl w _) hB)
 have HR0 := Aside0.mk (Kd.R_mono (Kd.R_bound hR0) (ok' := fun k_ => P0_ k_ ∧ k_ < W0.heap.size) (fun k_ h_ => ⟨h_.1, h_.2.2.1⟩))
 have HR3 := Aside0.mk (Kd.R_mono (Kd.R_bound hR3) (ok' := fun k_ => P0_ k_ ∧ k_ < W0.heap.size) (fun k_ h_ => ⟨h_.1, h_.2.2.1⟩))
 clear hS hB hb h0 h1 hR0 hR3
 go_enter Try.func10, Try.ntmps10
 go_wp2_with (first | (go_at_call 21; (with_reducible refine (laws_markStripeS.skel W0 (fun k_ => P0_ k_ ∧ k_ < W0.heap.size) base _ _ l0 _ w0 _ ?hR ?hS ?hB ?hb ?h0 ?h1).mono ?_); (case hR => exact HR0.out); (case hS => exact ((SkB.below HS.out (below_alloc (Below.refl _ _) _))).s); (case hB => exact ((SkB.below HS.out (below_alloc (Below.refl _ _) _))).b); (case hb => exact HZ.out.1); (case h0 => have h := HZ.out; omega); (case h1 => have h := HZ.out; omega); rintro e wa ⟨rfl, hs, hb, hk⟩; have HS1 := Aside0.mk (SkB.mark (SkB.below HS.out (below_alloc (Below.refl _ _) _)) hs hb hk); have hx1 := (hk.2 w.heap.size (by simp) (fun e_ => by have h2 := e_.2; have h3 := HS.out.s.1; omega)).trans (heap_alloc_new w _); have x3 := blk_cell hx1 3; replace x3 := x3.trans (show _ = some (Value.slice A3 l3.length c3) from rfl); clear hs hb hk) | (go_at_call 22; (with_reducible refine (laws_markTaskS.skel W0 (fun k_ => P0_ k_ ∧ k_ < W0.heap.size) base _ _ l3 _ w0 _ ?hR ?hS ?hB ?hb ?h0 ?h1).mono ?_); (case hR => exact HR3.out); (case hS => exact (HS1.out).s); (case hB => exact (HS1.out).b); (case hb => exact HZ.out.1); (case h0 => have h := HZ.out; omega); (case h1 => have h := HZ.out; omega); rintro e wb ⟨rfl, hs, hb, hk⟩; have HS2 := Aside0.mk (SkB.mark HS1.out hs hb hk); clear hs hb hk))
 go_ret
 exact ⟨rfl, HS2.out.s, HS2.out.b, Kept.mono HS2.out.k (fun k hk => hk.1)⟩
/-! ### laws_heldIntS: function 12 -/
def laws_heldIntS.l0 : Nat → List Int → Int → Int → Option (Int)
 | 0, _, _, _ => none
 | k + 1, x0, x1, x5 => if x5 < (x0.length : Int) then (if 0 ≤ x5 then (if (rd x0 x5) = x1 then (laws_heldIntS.l0 k x0 (wrap64 (x1 + 1)) (wrap64 (x5 + 1))) else (some (-1))) else (none)) else (some x1)
def laws_heldIntS.f (k : Nat) (l0 : List Int) (a1 : Int) : Option (Int) := laws_heldIntS.l0 k l0 a1 0
set_option maxHeartbeats 8000000 in
set_option maxRecDepth 100000 in
theorem laws_heldIntS.calls (k : Nat) (A0 : Option Addr) (c0 : Nat) (l0 : List Int) (a1 : Int) (r : Int) (w : World) (hr0 : Kd.C (Kd.int .i64) w A0 l0.length l0) (hc0 : l0.length ≤ c0) (h : laws_heldIntS.f k l0 a1 = some r) :
  Calls Try.prog 12 #[.slice A0 l0.length c0, .int .i64 a1] w fun e w' => e = .returned (.int .i64 r) ∧ Drawn0 w w' := by
 have HR0 := Aside0.mk hr0
 have HC0 := Aside0.mk hc0
 clear hr0 hc0
 have H : (laws_heldIntS.l0 k l0 a1 0) = some r := h
 clear h
 have H' := Aside0.mk H
 clear H
 go_enter Try.func12, Try.ntmps12
 go_wp2
 go_loopg [1, 5] k (fun kq v1 v5 w' => ∃ (x1_1 : Int) (x5_1 : Int), v1 = .int .i64 x1_1 ∧ v5 = .int .i64 x5_1 ∧ Aside0 (laws_heldIntS.l0 kq l0 x1_1 x5_1 = some r) ∧ Aside0 (kq ≤ k) ∧ Drawn0 w w')
 case atStart => exact ⟨(a1), (0), sp_, sp_, H', ⟨Nat.le_refl _⟩, by repeat (first | exact Drawn0.refl _ | apply Drawn0.step)⟩
 case round =>
  clear H'
  try clear c1
  try clear p2
  obtain ⟨x1_1, x5_1, rfl, rfl, HA, HK1, ⟨m1, rfl⟩⟩ := hrel
  cases gk with
  | zero => exact absurd HA.out (by simp [laws_heldIntS.l0])
  | succ k1 =>
   have H := HA.out
   clear HA
   simp only [laws_heldIntS.l0] at H
   by_cases c3 : x5_1 < (l0.length : Int)
   ·rw [if_pos c3] at H
    have c3b0 : decide (x5_1 < (l0.length : Int)) = true := decide_eq_true c3
    clear c3
    by_cases c4 : 0 ≤ x5_1
    ·rw [if_pos c4] at H
     have c4b0 : decide (0 ≤ x5_1) = true := decide_eq_true c4
     clear c4
     by_cases c5 : (rd l0 x5_1) = x1_1
     ·rw [if_pos c5] at H
      have c5b0 : ((rd l0 x5_1) == x1_1) = true := beq_iff_eq.mpr c5
      have c5b1 : ((rd l0 x5_1) != x1_1) = false := bne_eq_false_iff_eq.mpr c5
      clear c5
      have H' := Aside0.mk H
      clear H
      have p384 : 0 ≤ (x5_1 : Int) := od_
      have q384 : x5_1 < (l0.length : Int) := od_
      obtain ⟨ad384, e384, hx384_0⟩ := Kd.at_int HR0.out x5_1 p384 q384
      cases e384
      replace p384 := eq_true p384
      replace q384 := eq_true q384
      go_wp2
      go_roundg k1
      case measure => have := HK1.out; omega
      case rel => exact ⟨(wrap64 (x1_1 + 1)), (wrap64 (x5_1 + 1)), sp_, sp_, H', ⟨by have := HK1.out; omega⟩, by repeat (first | exact Drawn0.refl _ | apply Drawn0.step)⟩
     ·rw [if_neg c5] at H
      have c5b0 : ((rd l0 x5_1) == x1_1) = false := beq_eq_false_iff_ne.mpr c5
      have c5b1 : ((rd l0 x5_1) != x1_1) = true := bne_iff_ne.mpr c5
      obtain rfl := Option.some.inj H
      have p384 : 0 ≤ (x5_1 : Int) := od_
      have q384 : x5_1 < (l0.length : Int) := od_
      obtain ⟨ad384, e384, hx384_0⟩ := Kd.at_int HR0.out x5_1 p384 q384
      cases e384
      replace p384 := eq_true p384
      replace q384 := eq_true q384
      go_wp2
      go_ret
      exact ⟨sp_, by repeat (first | exact Drawn0.refl _ | apply Drawn0.step)⟩
    ·rw [if_neg c4] at H
     exact absurd H (by simp)
   ·rw [if_neg c3] at H
    have c3b0 : decide (x5_1 < (l0.length : Int)) = false := decide_eq_false c3
    clear c3
    obtain rfl := Option.some.inj H
    go_wp2
    go_ret
    exact ⟨sp_, by repeat (first | exact Drawn0.refl _ | apply Drawn0.step)⟩
/-! ### laws_FnExactOrderOf: function 3 -/
theorem blk4 {W : World} {b e : Nat} {v0 v1 v2 v3 : Value} (h : W.heap[b]? = some (.cells #[v0, v1, v2, v3] e (0, 0))) : W.cell? ⟨b, 0, none⟩ = some v0 ∧ W.cell? ⟨b, 1, none⟩ = some v1 ∧ W.cell? ⟨b, 2, none⟩ = some v2 ∧ W.cell? ⟨b, 3, none⟩ = some v3 :=
 ⟨blk_cell h 0, blk_cell h 1, blk_cell h 2, blk_cell h 3⟩
def laws_FnExactOrderOf.f (k : Nat) (l0_0 : List (S55)) (a0_1 : Int) (a0_2 : Int) (l0_3 : List (S57)) : Option Bool := (laws_szWorld.f k l0_0 a0_1 a0_2 l0_3 1048576).bind fun t1 => (if t1 < 0 then some true else ((laws_toWorld.f k l0_0 a0_1 a0_2 l0_3).bind fun x => ((spec_OrderOf.f k x.1 x.2.1 x.2.2.1 x.2.2.2).bind fun s => ((impl_OrderOf.f k x.1 x.2.1 x.2.2.1 x.2.2.2).bind fun g => ((laws_eqIntS.f k g s).bind fun b1 => (if b1 = true then ((laws_eqWorld.f k x.1 x.2.1 x.2.2.1 x.2.2.2 x.1 x.2.1 x.2.2.1 x.2.2.2).bind fun b2 => (if b2 = true then (if 1 + (mwL mw60 x.1 : Nat) + (mwL mw43 x.2.2.2 : Nat) ≤ (9000000000000000000 : Int) then ((laws_markIntS.f k g 1).bind fun p => ((laws_heldIntS.f k p.2 1).bind fun q => (if q < 0 then some false else (if q = p.1 then some true else some false)))) else none) else some false)) else some false))))))
set_option maxHeartbeats 16000000 in
set_option maxRecDepth 100000 in
theorem laws_FnExactOrderOf.calls (k : Nat) (A0_0 : Option Addr) (c0_0 : Nat) (l0_0 : List (S55)) (a0_1 : Int) (a0_2 : Int) (A0_3 : Option Addr) (c0_3 : Nat) (l0_3 : List (S57)) (r : Bool) (w : World) (hr0_0 : Kd.C k55 w A0_0 l0_0.length l0_0) (hc0_0 : l0_0.length ≤ c0_0) (hr0_3 : Kd.C k57 w A0_3 l0_3.length l0_3) (hc0_3 : l0_3.length ≤ c0_3) (h : laws_FnExactOrderOf.f k l0_0 a0_1 a0_2 l0_3 = some true) :
  Calls Try.prog 3 #[.agg #[.slice A0_0 l0_0.length c0_0, .int .i64 a0_1, .int .i64 a0_2, .slice A0_3 l0_3.length c0_3]] w fun e w' => e = .returned (.bool true) ∧ Below w.heap.size w w' := by
 have hu25 := Try.underlying25
 have hu32 := Try.underlying32
 unfold laws_FnExactOrderOf.f at h
 have HR0_0 := Aside0.mk hr0_0
 have HC0_0 := Aside0.mk hc0_0
 clear hr0_0 hc0_0
 have HR0_3 := Aside0.mk hr0_3
 have HC0_3 := Aside0.mk hc0_3
 clear hr0_3 hc0_3
 have HB := Aside0.mk (Below.refl w.heap.size w)
 have m_ : Aside0 True := ⟨trivial⟩
 have M1 := m_
 replace h := Option.bind_eq_some_iff.1 h
 obtain ⟨t1, E_, h⟩ := h
 have E1 := Aside0.mk E_
 clear E_
 by_cases ct1 : t1 < 0
 ·clear h
  have t1b : decide (t1 < 0) = true := decide_eq_true ct1
  clear ct1
  go_enter Try.func3, Try.ntmps3
  go_wp2_with (first | (go_at_call 4; clear M1; (with_reducible refine (laws_szWorld.calls k _ _ l0_0 a0_1 a0_2 _ _ l0_3 1048576 t1 _ (Kd.C_below HR0_0.out (below_alloc HB.out _)) HC0_0.out (Kd.C_below HR0_3.out (below_alloc HB.out _)) HC0_3.out E1.out).mono ?_); rintro e w1 ⟨rfl, hb_⟩; have M2 := m_; have XA := Aside0.mk ((hb_.block _ (by simp)).trans (heap_alloc_new w _)); have HB := Aside0.mk (below_then (below_alloc HB.out _) (below_alloc HB.out _).size hb_); obtain ⟨ya0, ya1, ya2, ya3⟩ := blk4 XA.out; have yal := blk_lt XA.out; clear hb_))
  go_ret
  exact ⟨rfl, HB.out⟩
 rw [if_neg ct1] at h
 have t1b : decide (t1 < 0) = false := decide_eq_false ct1
 clear ct1
 replace h := Option.bind_eq_some_iff.1 h
 obtain ⟨⟨x0, x1, x2, x3⟩, E_, h⟩ := h
 have E2 := Aside0.mk E_
 clear E_
 simp only [] at h
 replace h := Option.bind_eq_some_iff.1 h
 obtain ⟨s, E_, h⟩ := h
 have E3 := Aside0.mk E_
 clear E_
 replace h := Option.bind_eq_some_iff.1 h
 obtain ⟨g, E_, h⟩ := h
 have E4 := Aside0.mk E_
 clear E_
 replace h := Option.bind_eq_some_iff.1 h
 obtain ⟨b1, E_, h⟩ := h
 have E5 := Aside0.mk E_
 clear E_
 by_cases b_ : b1 = true
 rotate_left
 ·rw [if_neg b_] at h; cases h
 rw [if_pos b_] at h
 subst b_
 replace h := Option.bind_eq_some_iff.1 h
 obtain ⟨b2, E_, h⟩ := h
 have E6 := Aside0.mk E_
 clear E_
 by_cases b_ : b2 = true
 rotate_left
 ·rw [if_neg b_] at h; cases h
 rw [if_pos b_] at h
 subst b_
 by_cases e_ : 1 + (mwL mw60 x0 : Nat) + (mwL mw43 x3 : Nat) ≤ (9000000000000000000 : Int)
 rotate_left
 ·rw [if_neg e_] at h; cases h
 rw [if_pos e_] at h
 have EN := Aside0.mk e_
 have nm1 : decide ((1 : Int) + (mwL mw60 x0 : Nat) + (mwL mw43 x3 : Nat) < 0) = false := decide_eq_false (by omega)
 clear e_
 replace h := Option.bind_eq_some_iff.1 h
 obtain ⟨⟨p1, gm⟩, E_, h⟩ := h
 have E7 := Aside0.mk E_
 clear E_
 simp only [] at h
 replace h := Option.bind_eq_some_iff.1 h
 obtain ⟨q1, E_, h⟩ := h
 have E8 := Aside0.mk E_
 clear E_
 by_cases e_ : q1 < 0
 ·rw [if_pos e_] at h; cases h
 rw [if_neg e_] at h
 have nq1 : decide (q1 < 0) = false := decide_eq_false e_
 clear e_
 by_cases e_ : q1 = p1
 rotate_left
 ·rw [if_neg e_] at h; cases h
 rw [if_pos e_] at h
 subst e_
 clear h
 go_enter Try.func3, Try.ntmps3
 go_wp2_with (first | (go_at_call 4; clear M1; (with_reducible refine (laws_szWorld.calls k _ _ l0_0 a0_1 a0_2 _ _ l0_3 1048576 t1 _ (Kd.C_below HR0_0.out (below_alloc HB.out _)) HC0_0.out (Kd.C_below HR0_3.out (below_alloc HB.out _)) HC0_3.out E1.out).mono ?_); rintro e w1 ⟨rfl, hb_⟩; have M2 := m_; have XA := Aside0.mk ((hb_.block _ (by simp)).trans (heap_alloc_new w _)); have HB := Aside0.mk (below_then (below_alloc HB.out _) (below_alloc HB.out _).size hb_); obtain ⟨ya0, ya1, ya2, ya3⟩ := blk4 XA.out; have yal := blk_lt XA.out; clear hb_) | (go_at_call 6; clear M2; (with_reducible refine (laws_toWorld.calls k _ _ l0_0 a0_1 a0_2 _ _ l0_3 x0 x1 x2 x3 _ (Kd.C_below HR0_0.out HB.out) HC0_0.out (Kd.C_below HR0_3.out HB.out) HC0_3.out E2.out).mono ?_); rintro e w2 ⟨v_, u_, rfl, o_, p_, hb_⟩; have M3 := m_; have o1_ := o_; have p1_ := (Kd.S_R p_); obtain ⟨AT, cT, rfl, _, _⟩ := Kd.R_reads o1_; obtain ⟨AU, cU, rfl, _, _⟩ := Kd.R_reads p1_; have HT := Aside0.mk o1_; have HU := Aside0.mk p1_; have XA := Aside0.mk ((hb_.block _ (blk_lt XA.out)).trans XA.out); have HB := Aside0.mk (below_then HB.out HB.out.size hb_); have Z0 := Aside0.mk (blk_lt XA.out); clear hb_ o_ p_ o1_ p1_) | (go_at_call 5; clear M3; (with_reducible refine (spec_OrderOf.calls k _ _ x0 x1 x2 _ _ x3 s _ (Kd.R_reads' HT.out).2.2 (Kd.R_reads' HT.out).2.1 (Kd.R_reads' HU.out).2.2 (Kd.R_reads' HU.out).2.1 E3.out).mono ?_); rintro e w3 ⟨v_, rfl, o_, hb_⟩; have M4 := m_; have Z3 := Aside0.mk hb_.size; obtain ⟨AW, cW, rfl, _, _⟩ := Kd.R_reads o_; have HW := Aside0.mk (Kd.R_lower (base' := w.heap.size) (Kd.R_mono (Kd.R_bound o_) (fun k_ h_ => (⟨h_.2.1, h_.2.2.1⟩ : w2.heap.size ≤ k_ ∧ k_ < w3.heap.size))) (HB.out.size)); have XA := Aside0.mk ((hb_.block _ (blk_lt XA.out)).trans XA.out); have HB := Aside0.mk (below_then HB.out HB.out.size hb_); obtain ⟨yb0, yb1, yb2, yb3⟩ := blk4 XA.out; have ybl := blk_lt XA.out; clear hb_ o_ HT HU) | (go_at_call 6; clear M4; (with_reducible refine (laws_toWorld.calls k _ _ l0_0 a0_1 a0_2 _ _ l0_3 x0 x1 x2 x3 _ (Kd.C_below HR0_0.out HB.out) HC0_0.out (Kd.C_below HR0_3.out HB.out) HC0_3.out E2.out).mono ?_); rintro e w4 ⟨v_, u_, rfl, o_, p_, hb_⟩; have M5 := m_; have Z4 := Aside0.mk hb_.size; have o1_ := o_; have p1_ := (Kd.S_R p_); obtain ⟨AX, cX, rfl, _, _⟩ := Kd.R_reads o1_; obtain ⟨AY, cY, rfl, _, _⟩ := Kd.R_reads p1_; have HX := Aside0.mk (Kd.R_lower (base' := w.heap.size) (Kd.R_mono (Kd.R_bound o1_) (fun k_ h_ => (⟨h_.2.1, h_.2.2.1⟩ : w3.heap.size ≤ k_ ∧ k_ < w4.heap.size))) (HB.out.size)); have HY := Aside0.mk (Kd.R_lower (base' := w.heap.size) (Kd.R_mono (Kd.R_bound p1_) (fun k_ h_ => (⟨h_.2.1, h_.2.2.1⟩ : w3.heap.size ≤ k_ ∧ k_ < w4.heap.size))) (HB.out.size)); have HW := Aside0.mk (Kd.R_below HW.out hb_); have XA := Aside0.mk ((hb_.block _ (blk_lt XA.out)).trans XA.out); have HB := Aside0.mk (below_then HB.out HB.out.size hb_); clear hb_ o_ p_ o1_ p1_) | (go_at_call 7; clear M5; (with_reducible refine (impl_OrderOf.calls k _ _ x0 x1 x2 _ _ x3 g _ (Kd.C_below (Kd.R_reads' HX.out).2.2 (below_alloc (Below.refl _ _) _)) (Kd.R_reads' HX.out).2.1 (Kd.C_below (Kd.R_reads' HY.out).2.2 (below_alloc (Below.refl _ _) _)) (Kd.R_reads' HY.out).2.1 E4.out).mono ?_); rintro e w5 ⟨v_, rfl, o_, hb_⟩; have M6 := m_; have Z5 := Aside0.mk (show w4.heap.size + 1 ≤ w5.heap.size by have := hb_.size; simpa using this); obtain ⟨AG, cG, rfl, _, _⟩ := Kd.R_reads o_; have XB := Aside0.mk ((hb_.block _ (by simp)).trans (heap_alloc_new w4 _)); have HG := Aside0.mk (Kd.R_lower (base' := w.heap.size) (Kd.R_mono (Kd.R_bound o_) (fun k_ h_ => (⟨by simpa using h_.2.1, h_.2.2.1⟩ : w4.heap.size + 1 ≤ k_ ∧ k_ < w5.heap.size))) (by have := HB.out.size; simp; omega)); have XA := Aside0.mk ((hb_.block _ (blk_lt (blk_alloc XA.out _))).trans (blk_alloc XA.out _)); have HX := Aside0.mk (Kd.R_below (Kd.R_below HX.out (below_alloc (Below.refl _ _) _)) hb_); have HY := Aside0.mk (Kd.R_below (Kd.R_below HY.out (below_alloc (Below.refl _ _) _)) hb_); have HW := Aside0.mk (Kd.R_below (Kd.R_below HW.out (below_alloc (Below.refl _ _) _)) hb_); have HB := Aside0.mk (below_then (below_alloc HB.out _) (below_alloc HB.out _).size hb_); clear hb_ o_) | (go_at_call 8; clear M6; (with_reducible refine (laws_eqIntS.calls k _ _ g _ _ s true _ (Kd.R_reads' HG.out).2.2 (Kd.R_reads' HG.out).2.1 (Kd.R_reads' HW.out).2.2 (Kd.R_reads' HW.out).2.1 E5.out).mono ?_); rintro e w6 ⟨rfl, hb_⟩; have M7 := m_; replace hb_ := hb_.below; have XA := Aside0.mk ((hb_.block _ (blk_lt XA.out)).trans XA.out); have XB := Aside0.mk ((hb_.block _ (blk_lt XB.out)).trans XB.out); have HX := Aside0.mk (Kd.R_below HX.out hb_); have HY := Aside0.mk (Kd.R_below HY.out hb_); have HG := Aside0.mk (Kd.R_below HG.out hb_); have HW := Aside0.mk (Kd.R_below HW.out hb_); have HB := Aside0.mk (below_then HB.out HB.out.size hb_); clear hb_))
 have XA := Aside0.mk (blk_drew XA.out)
 have XB := Aside0.mk (blk_drew XB.out)
 have HX := Aside0.mk (Kd.R_drew HX.out)
 have HY := Aside0.mk (Kd.R_drew HY.out)
 have HG := Aside0.mk (Kd.R_drew HG.out)
 have HW := Aside0.mk (Kd.R_drew HW.out)
 have HB := Aside0.mk (below_drew1 HB.out)
 refine start_ (n := 5) (S := fun w' => w'.cell? ⟨w.heap.size, 0, none⟩ = some (.slice A0_0 l0_0.length c0_0) ∧ w'.cell? ⟨w.heap.size, 1, none⟩ = some (.int .i64 a0_1) ∧ w'.cell? ⟨w.heap.size, 2, none⟩ = some (.int .i64 a0_2) ∧ w'.cell? ⟨w.heap.size, 3, none⟩ = some (.slice A0_3 l0_3.length c0_3) ∧ w'.cell? ⟨w4.heap.size, 0, none⟩ = some (.slice AX x0.length cX) ∧ w'.cell? ⟨w4.heap.size, 1, none⟩ = some (.int .i64 x1) ∧ w'.cell? ⟨w4.heap.size, 2, none⟩ = some (.int .i64 x2) ∧ w'.cell? ⟨w4.heap.size, 3, none⟩ = some (.slice AY x3.length cY)) (ds := []) #[false, false, false, false, false] (by kernel_rfl) rfl rfl ⟨cy_ XA 0, cy_ XA 1, cy_ XA 2, cy_ XA 3, cy_ XB 0, cy_ XB 1, cy_ XB 2, cy_ XB 3⟩ (fun hHeld => ?_)
 generalize w6.drew = we at XA XB HX HY HG HW HB hHeld ⊢
 refine take_ (i := 0) (N := some 27) (v := ?_) (a' := ?_) #[true, false, false, false, false] rfl rfl (by kernel_rfl) (fun _ _ _ h => h) (Or.inl ⟨by rfl, ?_⟩) hHeld ?_ ?_
 rotate_left
 ·rintro w' ⟨s0, s1, s2, s3, s4, s5, s6, s7⟩
  go_simp
  with_reducible rfl
 rotate_left
 ·simp only [Act.put, q_]
  rfl
 refine take_ (i := 1) (N := some 28) (v := ?_) (a' := ?_) #[true, true, false, false, false] rfl rfl (by kernel_rfl) (fun _ _ _ h => h) (Or.inl ⟨by rfl, ?_⟩) hHeld ?_ ?_
 rotate_left
 ·rintro w' ⟨s0, s1, s2, s3, s4, s5, s6, s7⟩
  go_simp
  with_reducible rfl
 rotate_left
 ·simp only [Act.put, q_]
  rfl
 refine one_ (i := 2) (N := some 29) #[true, true, true, false, false] rfl rfl (by kernel_rfl) (by decide) (fun K hK => ?_)
 refine goes_ Try.func6 (by kernel_rfl) rfl #[.agg #[.slice A0_0 l0_0.length c0_0, .int .i64 a0_1, .int .i64 a0_2, .slice A0_3 l0_3.length c0_3]] (by rfl) rfl rfl gl_ ?_
 with_reducible refine (laws_toWorld.calls k _ _ l0_0 a0_1 a0_2 _ _ l0_3 x0 x1 x2 x3 _ (Kd.C_below HR0_0.out HB.out) HC0_0.out (Kd.C_below HR0_3.out HB.out) HC0_3.out E2.out).mono ?_
 rintro e w7 ⟨v_, u_, rfl, o_, p_, hb_⟩
 refine ⟨_, rfl, ?_⟩
 have o1_ := o_
 have p1_ := (Kd.S_R p_)
 obtain ⟨AT, cT, rfl, _, _⟩ := Kd.R_reads o1_
 obtain ⟨AU, cU, rfl, _, _⟩ := Kd.R_reads p1_
 have HT := Aside0.mk o1_
 have HU := Aside0.mk p1_
 have XA := Aside0.mk ((hb_.block _ (blk_lt XA.out)).trans XA.out)
 have XB := Aside0.mk ((hb_.block _ (blk_lt XB.out)).trans XB.out)
 have HX := Aside0.mk (Kd.R_below HX.out hb_)
 have HY := Aside0.mk (Kd.R_below HY.out hb_)
 have HG := Aside0.mk (Kd.R_below HG.out hb_)
 have HW := Aside0.mk (Kd.R_below HW.out hb_)
 have HB := Aside0.mk (below_then HB.out HB.out.size hb_)
 clear hb_ o_ p_ o1_ p1_
 refine hK.out _ _ ⟨cy_ XA 0, cy_ XA 1, cy_ XA 2, cy_ XA 3, cy_ XB 0, cy_ XB 1, cy_ XB 2, cy_ XB 3⟩ (fun hHeld => ?_)
 clear hK K
 refine norm_ (a' := ?_) ?_ ?_
 rotate_left
 ·show Act.put _ (some 29) _ = _
  simp only [Act.put, q_]
  rfl
 refine one_ (i := 3) (N := some 30) #[true, true, true, true, false] rfl rfl (by kernel_rfl) (by decide) (fun K hK => ?_)
 refine goes_ Try.func9 (by kernel_rfl) rfl #[.agg #[.slice AX x0.length cX, .int .i64 x1, .int .i64 x2, .slice AY x3.length cY], .agg #[.slice AT x0.length cT, .int .i64 x1, .int .i64 x2, .slice AU x3.length cU]] (by rfl) rfl rfl gl_ ?_
 with_reducible refine (laws_eqWorld.calls k _ _ x0 x1 x2 _ _ x3 _ _ x0 x1 x2 _ _ x3 true _ (Kd.R_reads' HX.out).2.2 (Kd.R_reads' HX.out).2.1 (Kd.R_reads' HY.out).2.2 (Kd.R_reads' HY.out).2.1 (Kd.R_reads' HT.out).2.2 (Kd.R_reads' HT.out).2.1 (Kd.R_reads' HU.out).2.2 (Kd.R_reads' HU.out).2.1 E6.out).mono ?_
 rintro e w8 ⟨rfl, hb_⟩
 refine ⟨_, rfl, ?_⟩
 have XA := Aside0.mk ((hb_.block _ (blk_lt XA.out)).trans XA.out)
 have XB := Aside0.mk ((hb_.block _ (blk_lt XB.out)).trans XB.out)
 have HX := Aside0.mk (Kd.R_below HX.out hb_)
 have HY := Aside0.mk (Kd.R_below HY.out hb_)
 have HG := Aside0.mk (Kd.R_below HG.out hb_)
 have HW := Aside0.mk (Kd.R_below HW.out hb_)
 have HB := Aside0.mk (below_then HB.out HB.out.size hb_)
 clear hb_ HT HU
 refine hK.out _ _ ⟨cy_ XA 0, cy_ XA 1, cy_ XA 2, cy_ XA 3, cy_ XB 0, cy_ XB 1, cy_ XB 2, cy_ XB 3⟩ (fun hHeld => ?_)
 clear hK K
 refine norm_ (a' := ?_) ?_ ?_
 rotate_left
 ·show Act.put _ (some 30) _ = _
  simp only [Act.put, q_]
  rfl
 refine pure_ (i := 4) (N := some 31) (v := ?_) (a' := ?_) #[true, true, true, true, true] rfl rfl (by kernel_rfl) (fun _ _ _ h => h) (Or.inl ⟨by rfl, ?_⟩) ?_ ?_
 rotate_left
 ·intro w'
  go_simp
  with_reducible rfl
 rotate_left
 ·simp only [Act.put, q_]
  rfl
 refine done_ (by kernel_rfl) ?_
 obtain ⟨yd0, yd1, yd2, yd3⟩ := blk4 XB.out
 have ydl := blk_lt XB.out
 go_wp2_with (first | (go_at_call 10; clear M7; (with_reducible refine (laws_markWorld.skel _ (fun k_ => w3.heap.size ≤ k_ ∧ k_ < w4.heap.size) w.heap.size _ _ x0 x1 x2 _ _ x3 1 w _ HX.out HY.out (Skel.refl _) HB.out (Nat.le_refl _) (by decide) EN.out).mono ?_); rintro e w9 ⟨rfl, hs_, hb_, hk_⟩; have M8 := m_; have HG := Aside0.mk (Kd.R_step HG.out (fun k_ h_ l_ => hk_.2 k_ l_ (fun g_ => by have h1 := h_; have g1_ := g_; have z0_ := Z0.out; have z1_ := Z3.out; have z2_ := Z4.out; have z3_ := Z5.out; omega))); have HW := Aside0.mk (Kd.R_step HW.out (fun k_ h_ l_ => hk_.2 k_ l_ (fun g_ => by have h1 := h_; have g1_ := g_; have z0_ := Z0.out; have z1_ := Z3.out; have z2_ := Z4.out; have z3_ := Z5.out; omega))); have XA := Aside0.mk ((hk_.2 _ (blk_lt XA.out) (fun g_ => by have zz_ := Below.size (Below.refl w.heap.size w); have g1_ := g_; have z0_ := Z0.out; have z1_ := Z3.out; have z2_ := Z4.out; have z3_ := Z5.out; omega)).trans XA.out); have HB := Aside0.mk hb_; obtain ⟨yc0, yc1, yc2, yc3⟩ := blk4 XA.out; have ycl := blk_lt XA.out; clear hs_ hb_ hk_ HX HY XB) | (go_at_call 8; clear M8; (with_reducible refine (laws_eqIntS.calls k _ _ g _ _ s true _ (Kd.R_reads' HG.out).2.2 (Kd.R_reads' HG.out).2.1 (Kd.R_reads' HW.out).2.2 (Kd.R_reads' HW.out).2.1 E5.out).mono ?_); rintro e w10 ⟨rfl, hb_⟩; have M9 := m_; replace hb_ := hb_.below; have XA := Aside0.mk ((hb_.block _ (blk_lt XA.out)).trans XA.out); have HG := Aside0.mk (Kd.R_below HG.out hb_); have HW := Aside0.mk (Kd.R_below HW.out hb_); have HB := Aside0.mk (below_then HB.out HB.out.size hb_); clear hb_) | (go_at_call 11; clear M9; (with_reducible refine (laws_markIntS.calls k (fun k_ => w4.heap.size + 1 ≤ k_ ∧ k_ < w5.heap.size) _ g 1 q1 gm w _ HB.out HG.out E7.out).mono ?_); rintro e w11 ⟨rfl, ho_, hb_, hk_⟩; have M10 := m_; have HW := Aside0.mk (Kd.R_step HW.out (fun k_ h_ l_ => hk_.2 k_ l_ (fun g_ => by have h1 := h_; have g1_ := g_; have z0_ := Z0.out; have z1_ := Z3.out; have z2_ := Z4.out; have z3_ := Z5.out; omega))); have XA := Aside0.mk ((hk_.2 _ (blk_lt XA.out) (fun g_ => by have zz_ := Below.size (Below.refl w.heap.size w); have g1_ := g_; have z0_ := Z0.out; have z1_ := Z3.out; have z2_ := Z4.out; have z3_ := Z5.out; omega)).trans XA.out); have HB := Aside0.mk hb_; have HG := Aside0.mk ho_; have l_ := (Kd.R_reads' HG.out).1; rw [l_] at HG ⊢; clear ho_ hb_ hk_ l_) | (go_at_call 12; clear M10; (with_reducible refine (laws_heldIntS.calls k _ _ gm 1 q1 _ (Kd.R_reads' HG.out).2.2 (Kd.R_reads' HG.out).2.1 E8.out).mono ?_); rintro e w12 ⟨rfl, hd_⟩; have M11 := m_; have hb_ := hd_.below; have XA := Aside0.mk ((hb_.block _ (blk_lt XA.out)).trans XA.out); have HG := Aside0.mk (Kd.R_below HG.out hb_); have HW := Aside0.mk (Kd.R_below HW.out hb_); have HB := Aside0.mk (below_then HB.out HB.out.size hb_); obtain ⟨ye0, ye1, ye2, ye3⟩ := blk4 XA.out; have yel := blk_lt XA.out; clear hb_ hd_) | (go_at_call 6; clear M11; (with_reducible refine (laws_toWorld.calls k _ _ l0_0 a0_1 a0_2 _ _ l0_3 x0 x1 x2 x3 _ (Kd.C_below HR0_0.out HB.out) HC0_0.out (Kd.C_below HR0_3.out HB.out) HC0_3.out E2.out).mono ?_); rintro e w13 ⟨v_, u_, rfl, o_, p_, hb_⟩; have M12 := m_; have o1_ := o_; have p1_ := (Kd.S_R p_); obtain ⟨AT, cT, rfl, _, _⟩ := Kd.R_reads o1_; obtain ⟨AU, cU, rfl, _, _⟩ := Kd.R_reads p1_; have HT := Aside0.mk o1_; have HU := Aside0.mk p1_; have HG := Aside0.mk (Kd.R_below HG.out hb_); have HW := Aside0.mk (Kd.R_below HW.out hb_); have HB := Aside0.mk (below_then HB.out HB.out.size hb_); clear hb_ o_ p_ o1_ p1_) | (go_at_call 7; clear M12; (with_reducible refine (impl_OrderOf.calls k _ _ x0 x1 x2 _ _ x3 g _ (Kd.R_reads' HT.out).2.2 (Kd.R_reads' HT.out).2.1 (Kd.R_reads' HU.out).2.2 (Kd.R_reads' HU.out).2.1 E4.out).mono ?_); rintro e w14 ⟨v_, rfl, o_, hb_⟩; have M13 := m_; obtain ⟨AH, cH, rfl, _, _⟩ := Kd.R_reads o_; have HH := Aside0.mk o_; have HG := Aside0.mk (Kd.R_below HG.out hb_); have HW := Aside0.mk (Kd.R_below HW.out hb_); have HB := Aside0.mk (below_then HB.out HB.out.size hb_); clear hb_ o_ HT HU) | (go_at_call 8; clear M13; (with_reducible refine (laws_eqIntS.calls k _ _ g _ _ s true _ (Kd.R_reads' HH.out).2.2 (Kd.R_reads' HH.out).2.1 (Kd.R_reads' HW.out).2.2 (Kd.R_reads' HW.out).2.1 E5.out).mono ?_); rintro e w15 ⟨rfl, hb_⟩; have M14 := m_; replace hb_ := hb_.below; have HG := Aside0.mk (Kd.R_below HG.out hb_); have HB := Aside0.mk (below_then HB.out HB.out.size hb_); clear hb_ HH) | (go_at_call 12; clear M14; (with_reducible refine (laws_heldIntS.calls k _ _ gm 1 q1 _ (Kd.R_reads' HG.out).2.2 (Kd.R_reads' HG.out).2.1 E8.out).mono ?_); rintro e w16 ⟨rfl, hd_⟩; have M15 := m_; have hb_ := hd_.below; have HB := Aside0.mk (below_then HB.out HB.out.size hb_); clear hb_ hd_))
 go_ret
 exact ⟨rfl, HB.out⟩
def ok108 (x : S108) : Prop := (x.f0.size ≤ maxLen) ∧ ((Lit.int .i64 x.f1).wf = true) ∧ ((Lit.int .i64 x.f2).wf = true)
def ok87 (x : S87) : Prop := ((Lit.int .i64 x.f0).wf = true) ∧ ((Lit.int .i64 x.f1).wf = true) ∧ (x.f2.length ≤ maxLen ∧ ∀ y0 ∈ x.f2, (Lit.int .i64 y0).wf = true) ∧ (x.f3.length ≤ maxLen ∧ ∀ y0 ∈ x.f3, (Lit.int .i64 y0).wf = true)
def ok110 (x : S110) : Prop := (x.f0.size ≤ maxLen) ∧ (x.f1.size ≤ maxLen) ∧ (x.f2.length ≤ maxLen ∧ ∀ y0 ∈ x.f2, (Lit.int .u8 y0).wf = true)
def ok90 (x : S90) : Prop := (x.f0.size ≤ maxLen) ∧ ((Lit.int .i64 x.f1).wf = true) ∧ ((Lit.int .i64 x.f2).wf = true) ∧ ((Lit.int .i64 x.f3).wf = true) ∧ ((Lit.int .i64 x.f4).wf = true) ∧ (x.f5.length ≤ maxLen ∧ ∀ y0 ∈ x.f5, ok108 y0) ∧ (ok87 x.f6) ∧ (x.f7.length ≤ maxLen ∧ ∀ y0 ∈ x.f7, ok110 y0)
def ok55 (x : S55) : Prop := ((Lit.int .i64 x.f0).wf = true) ∧ (x.f1.length ≤ maxLen ∧ ∀ y0 ∈ x.f1, ok90 y0)
def ok57 (x : S57) : Prop := (x.f0.length ≤ maxLen ∧ ∀ y0 ∈ x.f0, (Lit.int .u8 y0).wf = true) ∧ ((Lit.int .i64 x.f1).wf = true) ∧ (x.f2.length ≤ maxLen ∧ ∀ y0 ∈ x.f2, (Lit.int .i64 y0).wf = true) ∧ ((Lit.int .i64 x.f3).wf = true) ∧ ((Lit.int .i64 x.f4).wf = true) ∧ ((Lit.int .i64 x.f5).wf = true) ∧ ((Lit.int .i64 x.f6).wf = true) ∧ ((Lit.int .i64 x.f7).wf = true) ∧ (x.f8.length ≤ maxLen ∧ ∀ y0 ∈ x.f8, (Lit.int .u8 y0).wf = true)
def ok25 (x : S25) : Prop := (x.f0.length ≤ maxLen ∧ ∀ y0 ∈ x.f0, ok55 y0) ∧ ((Lit.int .i64 x.f1).wf = true) ∧ ((Lit.int .i64 x.f2).wf = true) ∧ (x.f3.length ≤ maxLen ∧ ∀ y0 ∈ x.f3, ok57 y0)
/-- THE ONE PURE STATEMENT of laws_FnExactOrderOf. -/
def laws_FnExactOrderOf.Pure : Prop := ∀ (s0 : S25), (ok25 s0) → ∃ k, laws_FnExactOrderOf.f k s0.f0 s0.f1 s0.f2 s0.f3 = some true
end Go.Proofs.Ytbjpfknmkpnhjaa.QFnExactOrderOf
