-- by my own printer (myprint.py, over the kit's print.py)
import Derived.Test.YtepjnalkpfnmcaaQFnExactHoldPutx0
import Derived.Test.YtepjnalkpfnmcaaQFnExactHoldPutx5
import Derived.Test.YtepjnalkpfnmcaaQFnExactHoldPutx7
import Derived.Test.YtepjnalkpfnmcaaQFnExactHoldPutx8
namespace Go.Proofs.Ytepjnalkpfnmcaa.QFnExactHoldPut
open Go.RowKit Go.Proofs.YtepjnalkpfnmcaaW.PrintWords Go.Proofs.YtepjnalkpfnmcaaW.PrintLast Go.Proofs.YtepjnalkpfnmcaaW.PrintMore
attribute [local go_sem] max2_int min2_int max_two min_two max_three min_three max_four min_four   -- for this text's walks alone
set_option linter.unusedVariables false
set_option linter.unusedSimpArgs false
attribute [local go_sem] my_geq my_leq my_gtr
/-! ### impl_HoldPut: function 65 -/
mutual
def impl_HoldPut.j1 : Nat → List (S93) → Int → ByteArray → Int → Int → Option ((List (S93)) × Bool)
 | 0, _, _, _, _, _ => none
 | k + 1, x6, x7, x188000, x188001, x188002 => (impl_Hold_126.f x6 x7 (([(⟨x188000, x188001, x188002⟩ : S93)] : List (S93)))).bind fun t196 => ((impl_HoldsOk.f k t196).bind fun t199 => (if t199 = true then (some (t196, true)) else (some (([] : List (S93)), false))))
def impl_HoldPut.l0 : Nat → List (S93) → Int → ByteArray → Int → Int → Option ((List (S93)) × Bool)
 | 0, _, _, _, _, _ => none
 | k + 1, x6, x7, x188000, x188001, x188002 => if x7 < (x6.length : Int) then (if 0 ≤ x7 then (if (Op.bytesLess (((rd_T93 x6 x7).f0).toList) x188000.toList) = true then (impl_HoldPut.l0 k x6 (wrap64 (x7 + 1)) x188000 x188001 x188002) else (impl_HoldPut.j1 k x6 x7 x188000 x188001 x188002)) else (none)) else (impl_HoldPut.j1 k x6 x7 x188000 x188001 x188002)
end
def impl_HoldPut.f (k : Nat) (l0 : List (S93)) (a1_0 : ByteArray) (a1_1 : Int) (a1_2 : Int) : Option ((List (S93)) × Bool) := (impl_HoldsOk.f k l0).bind fun t188 => (if t188 = true then ((impl_HoldDrop.f l0 a1_0).bind fun t189 => (impl_HoldPut.l0 k t189 0 a1_0 a1_1 a1_2)) else (some (([] : List (S93)), false)))
set_option maxHeartbeats 8000000 in
set_option maxRecDepth 100000 in
theorem impl_HoldPut.calls (k : Nat) (A0 : Option Addr) (c0 : Nat) (l0 : List (S93)) (a1_0 : ByteArray) (a1_1 : Int) (a1_2 : Int) (r1 : List (S93)) (r2 : Bool) (w : World) (hr0 : Kd.C k93 w A0 l0.length l0) (hc0 : l0.length ≤ c0) (h : impl_HoldPut.f k l0 a1_0 a1_1 a1_2 = some (r1, r2)) :
  Calls Try.prog 65 #[.slice A0 l0.length c0, .agg #[.string a1_0, .int .i64 a1_1, .int .i64 a1_2]] w fun e w' => ∃ v0_ : Value, e = .returned (.tuple #[v0_, .bool r2]) ∧ Kd.R k93 93 w' w.heap.size (fun _ => True) v0_ r1 ∧ Below w.heap.size w w' := by
 have hu93 := Try.underlying93
 have HR0 := Aside0.mk hr0
 have HC0 := Aside0.mk hc0
 clear hr0 hc0
 have HB := Aside0.mk (Below.refl w.heap.size w)
 have H : ((impl_HoldsOk.f k l0).bind fun t188 => (if t188 = true then ((impl_HoldDrop.f l0 a1_0).bind fun t189 => (impl_HoldPut.l0 k t189 0 a1_0 a1_1 a1_2)) else (some (([] : List (S93)), false)))) = some (r1, r2) := h
 clear h
 obtain ⟨t188, A3, H⟩ := ob_ H
 by_cases c4 : t188 = true
 ·subst c4
  replace H := ip_ H
  obtain ⟨t189, A5, H⟩ := ob_ H
  have HC6 := Aside0.mk H
  clear H
  go_enter Try.func65, Try.ntmps65
  go_upto_block 0 with (first | ((with_reducible refine gate_dst (N := 3) rfl ?_); refine be_ (N := 3) (cs := #[.string a1_0, .int .i64 a1_1, .int .i64 a1_2]) (t := 93) ?_; intro gb187 hg w7 hbox hb; have BK187 := Aside0.mk (hbox); have GW187 := gw_ (w := w) hg; have GE187 := gw_ (w := w) hg; replace HB := Aside0.mk (below_step bl_ hb); clear hb hbox hg) | (go_at_call 125; (with_reducible refine (impl_HoldsOk.calls k _ _ l0 true _ ?side1 ?side2 A3.out).mono ?_); (case side1 => exact ca_ (Kd.C_below HR0.out HB.out)); (case side2 => exact HC0.out); rintro e w8 ⟨rfl, hb⟩; replace BK187 := Aside0.mk (blk_below (bk_ BK187) hb); replace HB := Aside0.mk (below_step bl_ hb); (try clear hb); (try clear hb2); (try clear hk); (try clear hi); obtain ⟨hcz9_0, hcz9_1, hcz9_2, hfz9_0, hfz9_1, hfz9_2⟩ := bx3_ BK187) | (go_at_call 18; (with_reducible refine (impl_HoldDrop.calls _ _ l0 a1_0 t189 _ ?side1 ?side2 A5.out).mono ?_); (case side1 => exact ca_ (Kd.C_below HR0.out HB.out)); (case side2 => exact HC0.out); rintro e w10 ⟨v190, rfl, ho0, hb⟩; have HO191 := Aside0.mk (Kd.R_lower (Kd.R_newB ho0 (bk_ BK187)) (below_size bl_)); replace BK187 := Aside0.mk (blk_below (bk_ BK187) hb); replace HB := Aside0.mk (below_step bl_ hb); (try clear hb); (try clear hb2); (try clear hk); (try clear hi); (try clear ho0)))
  repeat (go_quiet (first | ((with_reducible refine gate_dst (N := 3) rfl ?_); refine be_ (N := 3) (cs := #[.string a1_0, .int .i64 a1_1, .int .i64 a1_2]) (t := 93) ?_; intro gb187 hg w7 hbox hb; have BK187 := Aside0.mk (hbox); have GW187 := gw_ (w := w) hg; have GE187 := gw_ (w := w) hg; replace HB := Aside0.mk (below_step bl_ hb); clear hb hbox hg) | (go_at_call 125; (with_reducible refine (impl_HoldsOk.calls k _ _ l0 true _ ?side1 ?side2 A3.out).mono ?_); (case side1 => exact ca_ (Kd.C_below HR0.out HB.out)); (case side2 => exact HC0.out); rintro e w8 ⟨rfl, hb⟩; replace BK187 := Aside0.mk (blk_below (bk_ BK187) hb); replace HB := Aside0.mk (below_step bl_ hb); (try clear hb); (try clear hb2); (try clear hk); (try clear hi); obtain ⟨hcz9_0, hcz9_1, hcz9_2, hfz9_0, hfz9_1, hfz9_2⟩ := bx3_ BK187) | (go_at_call 18; (with_reducible refine (impl_HoldDrop.calls _ _ l0 a1_0 t189 _ ?side1 ?side2 A5.out).mono ?_); (case side1 => exact ca_ (Kd.C_below HR0.out HB.out)); (case side2 => exact HC0.out); rintro e w10 ⟨v190, rfl, ho0, hb⟩; have HO191 := Aside0.mk (Kd.R_lower (Kd.R_newB ho0 (bk_ BK187)) (below_size bl_)); replace BK187 := Aside0.mk (blk_below (bk_ BK187) hb); replace HB := Aside0.mk (below_step bl_ hb); (try clear hb); (try clear hb2); (try clear hk); (try clear hi); (try clear ho0))); go_upto_block 0 with (first | ((with_reducible refine gate_dst (N := 3) rfl ?_); refine be_ (N := 3) (cs := #[.string a1_0, .int .i64 a1_1, .int .i64 a1_2]) (t := 93) ?_; intro gb187 hg w7 hbox hb; have BK187 := Aside0.mk (hbox); have GW187 := gw_ (w := w) hg; have GE187 := gw_ (w := w) hg; replace HB := Aside0.mk (below_step bl_ hb); clear hb hbox hg) | (go_at_call 125; (with_reducible refine (impl_HoldsOk.calls k _ _ l0 true _ ?side1 ?side2 A3.out).mono ?_); (case side1 => exact ca_ (Kd.C_below HR0.out HB.out)); (case side2 => exact HC0.out); rintro e w8 ⟨rfl, hb⟩; replace BK187 := Aside0.mk (blk_below (bk_ BK187) hb); replace HB := Aside0.mk (below_step bl_ hb); (try clear hb); (try clear hb2); (try clear hk); (try clear hi); obtain ⟨hcz9_0, hcz9_1, hcz9_2, hfz9_0, hfz9_1, hfz9_2⟩ := bx3_ BK187) | (go_at_call 18; (with_reducible refine (impl_HoldDrop.calls _ _ l0 a1_0 t189 _ ?side1 ?side2 A5.out).mono ?_); (case side1 => exact ca_ (Kd.C_below HR0.out HB.out)); (case side2 => exact HC0.out); rintro e w10 ⟨v190, rfl, ho0, hb⟩; have HO191 := Aside0.mk (Kd.R_lower (Kd.R_newB ho0 (bk_ BK187)) (below_size bl_)); replace BK187 := Aside0.mk (blk_below (bk_ BK187) hb); replace HB := Aside0.mk (below_step bl_ hb); (try clear hb); (try clear hb2); (try clear hk); (try clear hi); (try clear ho0))))
  (try simp only [Act.put, List.setIfInBounds_toArray, List.set_cons_zero, List.set_cons_succ])
  go_cut [7] (fun v7 wc => ∃ (kq : Nat) (x7_5 : Int), v7 = .int .i64 x7_5 ∧ Aside0 (impl_HoldPut.j1 kq t189 x7_5 a1_0 a1_1 a1_2 = some (r1, r2)) ∧ Aside0 (kq ≤ k) ∧ Aside0 (Kd.R k93 93 wc w.heap.size (fun k_ => k_ ≠ gb187) v190 t189) ∧ Aside0 (wc.heap[gb187]? = some (.cells #[.string a1_0, .int .i64 a1_1, .int .i64 a1_2] 93 (0, 0))) ∧ Aside0 (Below w.heap.size w wc))
  case first =>
   have H := HC6.out
   clear HC6
   have H' := Aside0.mk H
   clear H
   go_wp2
   repeat (go_quiet (fail); try go_wp2)
   go_loopg [7] k (fun kq v7 w' => ∃ (x7_1 : Int), v7 = .int .i64 x7_1 ∧ Aside0 (impl_HoldPut.l0 kq t189 x7_1 a1_0 a1_1 a1_2 = some (r1, r2)) ∧ Aside0 (kq ≤ k) ∧ Aside0 (Kd.R k93 93 w' w.heap.size (fun k_ => k_ ≠ gb187) v190 t189) ∧ Aside0 (w'.heap[gb187]? = some (.cells #[.string a1_0, .int .i64 a1_1, .int .i64 a1_2] 93 (0, 0))) ∧ Aside0 (Below w.heap.size w w'))
   case atStart => exact ⟨(0), sp_, H', ⟨Nat.le_refl _⟩, ⟨by (with_reducible repeat (first | apply Kd.R_alloc | apply Kd.R_drewN | apply Kd.R_drew)); exact Kd.R_mono HO191.out (fun _ hk => hk.2)⟩, ⟨by (with_reducible repeat (first | refine blk_drewN ?_ _ | refine blk_drew ?_ | refine blk_alloc ?_ _)); exact BK187.out⟩, ⟨bl_⟩⟩
   case round =>
    clear H'
    try clear p2
    try clear c4
    try clear c6
    try clear hcz9_0
    try clear hcz9_1
    try clear hcz9_2
    try clear hfz9_0
    try clear hfz9_1
    try clear hfz9_2
    obtain ⟨x7_1, rfl, HA, HK1, HO_6, BK187, HB⟩ := hrel
    cases gk with
    | zero => exact absurd HA.out (by simp [impl_HoldPut.l0])
    | succ k1 =>
     have H := HA.out
     clear HA
     simp only [impl_HoldPut.l0] at H
     by_cases c11 : x7_1 < (t189.length : Int)
     ·rw [if_pos c11] at H
      have c11b0 : decide (x7_1 < (t189.length : Int)) = true := decide_eq_true c11
      clear c11
      (first | rw [c11b0] | (simp only [i64_w, i32_w]; rw [c11b0]) | skip)
      by_cases c12 : 0 ≤ x7_1
      ·rw [if_pos c12] at H
       have c12b0 : decide (0 ≤ x7_1) = true := decide_eq_true c12
       clear c12
       by_cases c13 : (Op.bytesLess (((rd_T93 t189 x7_1).f0).toList) a1_0.toList) = true
       ·rw [if_pos c13] at H
        have c13b0 : (Op.bytesLess (((rd_T93 t189 x7_1).f0).toList) a1_0.toList) = true := c13
        clear c13
        have H' := Aside0.mk H
        clear H
        obtain ⟨Ao14, co14, eo14⟩ := Kd.R_slice HO_6.out
        subst eo14
        have p192 : 0 ≤ (x7_1 : Int) := od_
        have q192 : x7_1 < (t189.length : Int) := od_
        obtain ⟨ad192, e192, hx192_0, hx192_1, hx192_2⟩ := at_T93 (Kd.R_reads' HO_6.out).2.2 x7_1 p192 q192
        cases e192
        replace p192 := eq_true p192
        replace q192 := eq_true q192
        have hcz15_0 := cz_ BK187 0 (.string a1_0)
        have hcz15_1 := cz_ BK187 1 (.int .i64 a1_1)
        have hcz15_2 := cz_ BK187 2 (.int .i64 a1_2)
        have hfz15_0 := fz_ BK187 0
        have hfz15_1 := fz_ BK187 1
        have hfz15_2 := fz_ BK187 2
        go_wp2
        repeat (go_quiet (fail); try go_wp2)
        go_roundg k1
        case measure => have := HK1.out; omega
        case rel => exact ⟨(wrap64 (x7_1 + 1)), sp_, H', ⟨by have := HK1.out; omega⟩, ⟨ra_ HO_6⟩, ⟨by (with_reducible repeat (first | refine blk_drewN ?_ _ | refine blk_drew ?_ | refine blk_alloc ?_ _)); exact BK187.out⟩, ⟨bl_⟩⟩
       ·rw [if_neg c13] at H
        have c13b0 : (Op.bytesLess (((rd_T93 t189 x7_1).f0).toList) a1_0.toList) = false := by simpa using c13
        clear c13
        have H' := Aside0.mk H
        clear H
        obtain ⟨Ao16, co16, eo16⟩ := Kd.R_slice HO_6.out
        subst eo16
        have p192 : 0 ≤ (x7_1 : Int) := od_
        have q192 : x7_1 < (t189.length : Int) := od_
        obtain ⟨ad192, e192, hx192_0, hx192_1, hx192_2⟩ := at_T93 (Kd.R_reads' HO_6.out).2.2 x7_1 p192 q192
        cases e192
        replace p192 := eq_true p192
        replace q192 := eq_true q192
        have hcz17_0 := cz_ BK187 0 (.string a1_0)
        have hcz17_1 := cz_ BK187 1 (.int .i64 a1_1)
        have hcz17_2 := cz_ BK187 2 (.int .i64 a1_2)
        have hfz17_0 := fz_ BK187 0
        have hfz17_1 := fz_ BK187 1
        have hfz17_2 := fz_ BK187 2
        go_wp2
        repeat (go_quiet (fail); try go_wp2)
        go_meet
        case rel => exact ⟨_, (x7_1), sp_, H', ⟨by have := HK1.out; first | omega | exact Nat.le_refl _⟩, ⟨ra_ HO_6⟩, ⟨by (with_reducible repeat (first | refine blk_drewN ?_ _ | refine blk_drew ?_ | refine blk_alloc ?_ _)); exact BK187.out⟩, ⟨bl_⟩⟩
      ·rw [if_neg c12] at H
       exact absurd H (by simp)
     ·rw [if_neg c11] at H
      have c11b0 : decide (x7_1 < (t189.length : Int)) = false := decide_eq_false c11
      clear c11
      (first | rw [c11b0] | (simp only [i64_w, i32_w]; rw [c11b0]) | skip)
      have H' := Aside0.mk H
      clear H
      obtain ⟨Ao18, co18, eo18⟩ := Kd.R_slice HO_6.out
      subst eo18
      go_wp2
      repeat (go_quiet (fail); try go_wp2)
      go_meet
      case rel => exact ⟨_, (x7_1), sp_, H', ⟨by have := HK1.out; first | omega | exact Nat.le_refl _⟩, ⟨ra_ HO_6⟩, ⟨by (with_reducible repeat (first | refine blk_drewN ?_ _ | refine blk_drew ?_ | refine blk_alloc ?_ _)); exact BK187.out⟩, ⟨bl_⟩⟩
  case rest =>
   clear HC6
   try clear c1
   try clear p1
   try clear q1
   try clear hx1
   try clear p2
   try clear c4
   try clear c6
   try clear p6
   try clear c11
   try clear c11b0
   try clear c12
   try clear c12b0
   try clear c13
   try clear c13b0
   try clear hcz15_0
   try clear hcz15_1
   try clear hcz15_2
   try clear hcz17_0
   try clear hcz17_1
   try clear hcz17_2
   try clear hcz9_0
   try clear hcz9_1
   try clear hcz9_2
   try clear hfz15_0
   try clear hfz15_1
   try clear hfz15_2
   try clear hfz17_0
   try clear hfz17_1
   try clear hfz17_2
   try clear hfz9_0
   try clear hfz9_1
   try clear hfz9_2
   try clear hx192_0
   try clear hx192_1
   try clear hx192_2
   try clear p192
   try clear p2
   try clear q192
   obtain ⟨kq, x7_5, rfl, HA, HJ5, HO_6, BK187, HB⟩ := hcut
   cases kq with
   | zero => exact absurd HA.out (by simp [impl_HoldPut.j1])
   | succ kj5 =>
    have H := HA.out
    clear HA
    simp only [impl_HoldPut.j1] at H
    obtain ⟨y193, hy193⟩ : ∃ y_ : List (S93), y_ = (([(⟨a1_0, a1_1, a1_2⟩ : S93)] : List (S93))) := ⟨_, rfl⟩
    replace H : ((impl_Hold_126.f t189 x7_5 y193).bind fun t196 => ((impl_HoldsOk.f kj5 t196).bind fun t199 => (if t199 = true then (some (t196, true)) else (some (([] : List (S93)), false))))) = some (r1, r2) := by first | (rw [hy193]; with_reducible exact H) | (have H2_ := (Option.bind_some _ _).symm.trans H; rw [hy193]; with_reducible exact H2_) | (have H2_ := (Option.bind_some _ _).symm.trans H; with_reducible exact H2_) | with_reducible exact H | (rw [hy193]; exact H) | exact H
    have Ny193 := Aside0.mk hy193
    clear hy193
    obtain ⟨t196, A19, H⟩ := ob_ H
    obtain ⟨t199, A20, H⟩ := ob_ H
    by_cases c21 : t199 = true
    ·subst c21
     replace H := ip_ H
     simp only [Option.some.injEq, Prod.mk.injEq] at H
     obtain ⟨rfl, rfl⟩ := H
     have hcz22_0 := cz_ BK187 0 (.string a1_0)
     have hcz22_1 := cz_ BK187 1 (.int .i64 a1_1)
     have hcz22_2 := cz_ BK187 2 (.int .i64 a1_2)
     have hfz22_0 := fz_ BK187 0
     have hfz22_1 := fz_ BK187 1
     have hfz22_2 := fz_ BK187 2
     go_wp2_with (first | ((with_reducible refine gate_dst (N := 34) rfl ?_); refine Kd.R_lit k93 _ 93 ?hg (N := 34) ?hd (xs := ([(⟨a1_0, a1_1, a1_2⟩ : S93)] : List (S93))) (inner := [.string a1_0, .int .i64 a1_1, .int .i64 a1_2]) (ok := fun _ => True) (okp := fun _ => True) ?hr ?hp (fun _ hk => hk) trivial (Below.refl _ _) (Nat.le_refl _) (by simp) ?_; (case hd => rfl); (case hg => rfl); (case hr => first | (go_simp; done) | (go_simp; rfl)); (case hp => exact (Reps.c3 (show Kd.M k93 _ _ _ (⟨a1_0, a1_1, a1_2⟩ : S93) [.string a1_0, .int .i64 a1_1, .int .i64 a1_2] from (k93_mkM _ _ _ (⟨a1_0, a1_1, a1_2⟩ : S93) )) (Reps.none _ _))); intro v194 w23 ho24 hb hg_ hnew_; clear hg_ hnew_; (first | rw [← Ny193.out] at ho24 | (simp only [Int.reduceToNat] at ho24; rw [← Ny193.out] at ho24)); have HO195 := Aside0.mk (Kd.R_lower (Kd.R_newB (Kd.R_new' ho24 (Kd.R_lt (ra_ HO_6))) (bk_ BK187)) (below_size bl_)); replace HO_6 := Aside0.mk (Kd.R_elder' (ra_ HO_6) (Kd.R_base ho24) hb); replace BK187 := Aside0.mk (blk_below (bk_ BK187) hb); replace HB := Aside0.mk (below_step bl_ hb); clear hb ho24; obtain ⟨Ao25, co25, eo25⟩ := Kd.R_slice HO_6.out; subst eo25; obtain ⟨Ao26, co26, eo26⟩ := Kd.R_slice HO195.out; subst eo26) | (go_at_call 126; (with_reducible refine (impl_Hold_126.calls (fun k_ => some k_ = (.slice Ao25 t189.length co25 : Value).ownBlock) (.slice Ao25 t189.length co25) t189 x7_5 _ _ y193 t196 w _ ?side1 ?side2 ?side3 ?side4 A19.out).mono ?_); (case side1 => repeat (first | (with_reducible first | exact HB.out | apply below_alloc | apply pw_below_drewN | apply below_drew1 | refine below_set ?_ GE187.out) | exact HB.out)); (case side2 => exact Kd.R_tight rfl HO_6.out); (case side3 => exact ⟨_, _, HO195.out, fun k_ hk_ hs_ => (hk_.1.2) hs_⟩); (case side4 => exact (Kd.R_reads' HO195.out).2.1); rintro e w27 ⟨v197, rfl, ho0, hb, hkp⟩; have n0_ := Aside0.mk (blk_kept (by (with_reducible repeat (first | refine blk_drewN ?_ _ | refine blk_drew ?_ | refine blk_alloc ?_ _)); exact BK187.out) hkp (fun hs_ => (fun e_ => (Kd.R_away HO_6.out (fun _ hk => hk.1)) e_) hs_)); have n1_ := Aside0.mk (Kd.R_mono (ok' := fun k_ => k_ ≠ gb187 ∧ some k_ ≠ (v197 : Value).ownBlock) (Kd.R_keptB (HO195.out) hkp (fun k_ hk_ hs_ => (hk_.1.2) hs_)) (fun k_ hk_ => ⟨hk_.1.2, fun e_ => Or.elim (ho0.1 k_ e_.symm) (fun hs_ => hk_.2.1 hs_) (fun hn_ => Nat.not_le.2 hk_.2.2 hn_)⟩)); have n2_ := Aside0.mk (Kd.R_mono (ok' := fun k_ => some k_ ≠ (.slice Ao26 y193.length co26 : Value).ownBlock ∧ k_ ≠ gb187) ho0 (fun k_ hk_ => ⟨Or.elim hk_ (fun hs_ => fun e_ => (((HO195.out).1 k_ e_.symm).1.2) hs_) (fun hn_ => (Kd.fresh' (Kd.R_lt (ra_ HO195)) k_ hn_)), Or.elim hk_ (fun hs_ => fun e_ => (Kd.R_away HO_6.out (fun _ hk => hk.1)) (by rw [← e_]; exact hs_)) (fun hn_ => (Kd.freshB (bk_ BK187) k_ hn_))⟩)); have n3_ := Aside0.mk (hb); clear BK187; clear HO195; clear HB; clear HO_6; have BK187 := n0_; have HO195 := n1_; have HO198 := n2_; have HB := n3_; clear n0_ n1_ n2_ n3_; (try clear hb); (try clear hkp); (try clear ho0); obtain ⟨Ao28, co28, eo28⟩ := Kd.R_slice HO198.out; subst eo28) | (go_at_call 125; (with_reducible refine (impl_HoldsOk.calls kj5 _ _ t196 true _ ?side1 ?side2 A20.out).mono ?_); (case side1 => exact ca_ ((Kd.R_reads' HO198.out).2.2)); (case side2 => exact (Kd.R_reads' HO198.out).2.1); rintro e w29 ⟨rfl, hb⟩; replace HO195 := Aside0.mk (Kd.R_below (ra_ HO195) hb); replace HO198 := Aside0.mk (Kd.R_below (ra_ HO198) hb); replace BK187 := Aside0.mk (blk_below (bk_ BK187) hb); replace HB := Aside0.mk (below_step bl_ hb); (try clear hb); (try clear hb2); (try clear hk); (try clear hi)))
     repeat (go_quiet (first | ((with_reducible refine gate_dst (N := 34) rfl ?_); refine Kd.R_lit k93 _ 93 ?hg (N := 34) ?hd (xs := ([(⟨a1_0, a1_1, a1_2⟩ : S93)] : List (S93))) (inner := [.string a1_0, .int .i64 a1_1, .int .i64 a1_2]) (ok := fun _ => True) (okp := fun _ => True) ?hr ?hp (fun _ hk => hk) trivial (Below.refl _ _) (Nat.le_refl _) (by simp) ?_; (case hd => rfl); (case hg => rfl); (case hr => first | (go_simp; done) | (go_simp; rfl)); (case hp => exact (Reps.c3 (show Kd.M k93 _ _ _ (⟨a1_0, a1_1, a1_2⟩ : S93) [.string a1_0, .int .i64 a1_1, .int .i64 a1_2] from (k93_mkM _ _ _ (⟨a1_0, a1_1, a1_2⟩ : S93) )) (Reps.none _ _))); intro v194 w23 ho24 hb hg_ hnew_; clear hg_ hnew_; (first | rw [← Ny193.out] at ho24 | (simp only [Int.reduceToNat] at ho24; rw [← Ny193.out] at ho24)); have HO195 := Aside0.mk (Kd.R_lower (Kd.R_newB (Kd.R_new' ho24 (Kd.R_lt (ra_ HO_6))) (bk_ BK187)) (below_size bl_)); replace HO_6 := Aside0.mk (Kd.R_elder' (ra_ HO_6) (Kd.R_base ho24) hb); replace BK187 := Aside0.mk (blk_below (bk_ BK187) hb); replace HB := Aside0.mk (below_step bl_ hb); clear hb ho24; obtain ⟨Ao25, co25, eo25⟩ := Kd.R_slice HO_6.out; subst eo25; obtain ⟨Ao26, co26, eo26⟩ := Kd.R_slice HO195.out; subst eo26) | (go_at_call 126; (with_reducible refine (impl_Hold_126.calls (fun k_ => some k_ = (.slice Ao25 t189.length co25 : Value).ownBlock) (.slice Ao25 t189.length co25) t189 x7_5 _ _ y193 t196 w _ ?side1 ?side2 ?side3 ?side4 A19.out).mono ?_); (case side1 => repeat (first | (with_reducible first | exact HB.out | apply below_alloc | apply pw_below_drewN | apply below_drew1 | refine below_set ?_ GE187.out) | exact HB.out)); (case side2 => exact Kd.R_tight rfl HO_6.out); (case side3 => exact ⟨_, _, HO195.out, fun k_ hk_ hs_ => (hk_.1.2) hs_⟩); (case side4 => exact (Kd.R_reads' HO195.out).2.1); rintro e w27 ⟨v197, rfl, ho0, hb, hkp⟩; have n0_ := Aside0.mk (blk_kept (by (with_reducible repeat (first | refine blk_drewN ?_ _ | refine blk_drew ?_ | refine blk_alloc ?_ _)); exact BK187.out) hkp (fun hs_ => (fun e_ => (Kd.R_away HO_6.out (fun _ hk => hk.1)) e_) hs_)); have n1_ := Aside0.mk (Kd.R_mono (ok' := fun k_ => k_ ≠ gb187 ∧ some k_ ≠ (v197 : Value).ownBlock) (Kd.R_keptB (HO195.out) hkp (fun k_ hk_ hs_ => (hk_.1.2) hs_)) (fun k_ hk_ => ⟨hk_.1.2, fun e_ => Or.elim (ho0.1 k_ e_.symm) (fun hs_ => hk_.2.1 hs_) (fun hn_ => Nat.not_le.2 hk_.2.2 hn_)⟩)); have n2_ := Aside0.mk (Kd.R_mono (ok' := fun k_ => some k_ ≠ (.slice Ao26 y193.length co26 : Value).ownBlock ∧ k_ ≠ gb187) ho0 (fun k_ hk_ => ⟨Or.elim hk_ (fun hs_ => fun e_ => (((HO195.out).1 k_ e_.symm).1.2) hs_) (fun hn_ => (Kd.fresh' (Kd.R_lt (ra_ HO195)) k_ hn_)), Or.elim hk_ (fun hs_ => fun e_ => (Kd.R_away HO_6.out (fun _ hk => hk.1)) (by rw [← e_]; exact hs_)) (fun hn_ => (Kd.freshB (bk_ BK187) k_ hn_))⟩)); have n3_ := Aside0.mk (hb); clear BK187; clear HO195; clear HB; clear HO_6; have BK187 := n0_; have HO195 := n1_; have HO198 := n2_; have HB := n3_; clear n0_ n1_ n2_ n3_; (try clear hb); (try clear hkp); (try clear ho0); obtain ⟨Ao28, co28, eo28⟩ := Kd.R_slice HO198.out; subst eo28) | (go_at_call 125; (with_reducible refine (impl_HoldsOk.calls kj5 _ _ t196 true _ ?side1 ?side2 A20.out).mono ?_); (case side1 => exact ca_ ((Kd.R_reads' HO198.out).2.2)); (case side2 => exact (Kd.R_reads' HO198.out).2.1); rintro e w29 ⟨rfl, hb⟩; replace HO195 := Aside0.mk (Kd.R_below (ra_ HO195) hb); replace HO198 := Aside0.mk (Kd.R_below (ra_ HO198) hb); replace BK187 := Aside0.mk (blk_below (bk_ BK187) hb); replace HB := Aside0.mk (below_step bl_ hb); (try clear hb); (try clear hb2); (try clear hk); (try clear hi))); try go_wp2_with (first | ((with_reducible refine gate_dst (N := 34) rfl ?_); refine Kd.R_lit k93 _ 93 ?hg (N := 34) ?hd (xs := ([(⟨a1_0, a1_1, a1_2⟩ : S93)] : List (S93))) (inner := [.string a1_0, .int .i64 a1_1, .int .i64 a1_2]) (ok := fun _ => True) (okp := fun _ => True) ?hr ?hp (fun _ hk => hk) trivial (Below.refl _ _) (Nat.le_refl _) (by simp) ?_; (case hd => rfl); (case hg => rfl); (case hr => first | (go_simp; done) | (go_simp; rfl)); (case hp => exact (Reps.c3 (show Kd.M k93 _ _ _ (⟨a1_0, a1_1, a1_2⟩ : S93) [.string a1_0, .int .i64 a1_1, .int .i64 a1_2] from (k93_mkM _ _ _ (⟨a1_0, a1_1, a1_2⟩ : S93) )) (Reps.none _ _))); intro v194 w23 ho24 hb hg_ hnew_; clear hg_ hnew_; (first | rw [← Ny193.out] at ho24 | (simp only [Int.reduceToNat] at ho24; rw [← Ny193.out] at ho24)); have HO195 := Aside0.mk (Kd.R_lower (Kd.R_newB (Kd.R_new' ho24 (Kd.R_lt (ra_ HO_6))) (bk_ BK187)) (below_size bl_)); replace HO_6 := Aside0.mk (Kd.R_elder' (ra_ HO_6) (Kd.R_base ho24) hb); replace BK187 := Aside0.mk (blk_below (bk_ BK187) hb); replace HB := Aside0.mk (below_step bl_ hb); clear hb ho24; obtain ⟨Ao25, co25, eo25⟩ := Kd.R_slice HO_6.out; subst eo25; obtain ⟨Ao26, co26, eo26⟩ := Kd.R_slice HO195.out; subst eo26) | (go_at_call 126; (with_reducible refine (impl_Hold_126.calls (fun k_ => some k_ = (.slice Ao25 t189.length co25 : Value).ownBlock) (.slice Ao25 t189.length co25) t189 x7_5 _ _ y193 t196 w _ ?side1 ?side2 ?side3 ?side4 A19.out).mono ?_); (case side1 => repeat (first | (with_reducible first | exact HB.out | apply below_alloc | apply pw_below_drewN | apply below_drew1 | refine below_set ?_ GE187.out) | exact HB.out)); (case side2 => exact Kd.R_tight rfl HO_6.out); (case side3 => exact ⟨_, _, HO195.out, fun k_ hk_ hs_ => (hk_.1.2) hs_⟩); (case side4 => exact (Kd.R_reads' HO195.out).2.1); rintro e w27 ⟨v197, rfl, ho0, hb, hkp⟩; have n0_ := Aside0.mk (blk_kept (by (with_reducible repeat (first | refine blk_drewN ?_ _ | refine blk_drew ?_ | refine blk_alloc ?_ _)); exact BK187.out) hkp (fun hs_ => (fun e_ => (Kd.R_away HO_6.out (fun _ hk => hk.1)) e_) hs_)); have n1_ := Aside0.mk (Kd.R_mono (ok' := fun k_ => k_ ≠ gb187 ∧ some k_ ≠ (v197 : Value).ownBlock) (Kd.R_keptB (HO195.out) hkp (fun k_ hk_ hs_ => (hk_.1.2) hs_)) (fun k_ hk_ => ⟨hk_.1.2, fun e_ => Or.elim (ho0.1 k_ e_.symm) (fun hs_ => hk_.2.1 hs_) (fun hn_ => Nat.not_le.2 hk_.2.2 hn_)⟩)); have n2_ := Aside0.mk (Kd.R_mono (ok' := fun k_ => some k_ ≠ (.slice Ao26 y193.length co26 : Value).ownBlock ∧ k_ ≠ gb187) ho0 (fun k_ hk_ => ⟨Or.elim hk_ (fun hs_ => fun e_ => (((HO195.out).1 k_ e_.symm).1.2) hs_) (fun hn_ => (Kd.fresh' (Kd.R_lt (ra_ HO195)) k_ hn_)), Or.elim hk_ (fun hs_ => fun e_ => (Kd.R_away HO_6.out (fun _ hk => hk.1)) (by rw [← e_]; exact hs_)) (fun hn_ => (Kd.freshB (bk_ BK187) k_ hn_))⟩)); have n3_ := Aside0.mk (hb); clear BK187; clear HO195; clear HB; clear HO_6; have BK187 := n0_; have HO195 := n1_; have HO198 := n2_; have HB := n3_; clear n0_ n1_ n2_ n3_; (try clear hb); (try clear hkp); (try clear ho0); obtain ⟨Ao28, co28, eo28⟩ := Kd.R_slice HO198.out; subst eo28) | (go_at_call 125; (with_reducible refine (impl_HoldsOk.calls kj5 _ _ t196 true _ ?side1 ?side2 A20.out).mono ?_); (case side1 => exact ca_ ((Kd.R_reads' HO198.out).2.2)); (case side2 => exact (Kd.R_reads' HO198.out).2.1); rintro e w29 ⟨rfl, hb⟩; replace HO195 := Aside0.mk (Kd.R_below (ra_ HO195) hb); replace HO198 := Aside0.mk (Kd.R_below (ra_ HO198) hb); replace BK187 := Aside0.mk (blk_below (bk_ BK187) hb); replace HB := Aside0.mk (below_step bl_ hb); (try clear hb); (try clear hb2); (try clear hk); (try clear hi))))
     go_ret2
     exact ⟨_, by first | rfl | (simp [errW_none, errW_some] <;> rfl) | (simp [*, errW_none, errW_some] <;> rfl), by (with_reducible repeat (first | apply Kd.R_alloc | apply Kd.R_drewN | apply Kd.R_drew)); exact Kd.R_mono HO198.out (fun _ hk => trivial), bl_⟩
    ·replace c21 := Bool.eq_false_iff.mpr c21
     subst c21
     replace H := in_ H
     simp only [Option.some.injEq, Prod.mk.injEq] at H
     obtain ⟨rfl, rfl⟩ := H
     have hcz30_0 := cz_ BK187 0 (.string a1_0)
     have hcz30_1 := cz_ BK187 1 (.int .i64 a1_1)
     have hcz30_2 := cz_ BK187 2 (.int .i64 a1_2)
     have hfz30_0 := fz_ BK187 0
     have hfz30_1 := fz_ BK187 1
     have hfz30_2 := fz_ BK187 2
     go_wp2_with (first | ((with_reducible refine gate_dst (N := 34) rfl ?_); refine Kd.R_lit k93 _ 93 ?hg (N := 34) ?hd (xs := ([(⟨a1_0, a1_1, a1_2⟩ : S93)] : List (S93))) (inner := [.string a1_0, .int .i64 a1_1, .int .i64 a1_2]) (ok := fun _ => True) (okp := fun _ => True) ?hr ?hp (fun _ hk => hk) trivial (Below.refl _ _) (Nat.le_refl _) (by simp) ?_; (case hd => rfl); (case hg => rfl); (case hr => first | (go_simp; done) | (go_simp; rfl)); (case hp => exact (Reps.c3 (show Kd.M k93 _ _ _ (⟨a1_0, a1_1, a1_2⟩ : S93) [.string a1_0, .int .i64 a1_1, .int .i64 a1_2] from (k93_mkM _ _ _ (⟨a1_0, a1_1, a1_2⟩ : S93) )) (Reps.none _ _))); intro v194 w31 ho32 hb hg_ hnew_; clear hg_ hnew_; (first | rw [← Ny193.out] at ho32 | (simp only [Int.reduceToNat] at ho32; rw [← Ny193.out] at ho32)); have HO195 := Aside0.mk (Kd.R_lower (Kd.R_newB (Kd.R_new' ho32 (Kd.R_lt (ra_ HO_6))) (bk_ BK187)) (below_size bl_)); replace HO_6 := Aside0.mk (Kd.R_elder' (ra_ HO_6) (Kd.R_base ho32) hb); replace BK187 := Aside0.mk (blk_below (bk_ BK187) hb); replace HB := Aside0.mk (below_step bl_ hb); clear hb ho32; obtain ⟨Ao33, co33, eo33⟩ := Kd.R_slice HO_6.out; subst eo33; obtain ⟨Ao34, co34, eo34⟩ := Kd.R_slice HO195.out; subst eo34) | (go_at_call 126; (with_reducible refine (impl_Hold_126.calls (fun k_ => some k_ = (.slice Ao33 t189.length co33 : Value).ownBlock) (.slice Ao33 t189.length co33) t189 x7_5 _ _ y193 t196 w _ ?side1 ?side2 ?side3 ?side4 A19.out).mono ?_); (case side1 => repeat (first | (with_reducible first | exact HB.out | apply below_alloc | apply pw_below_drewN | apply below_drew1 | refine below_set ?_ GE187.out) | exact HB.out)); (case side2 => exact Kd.R_tight rfl HO_6.out); (case side3 => exact ⟨_, _, HO195.out, fun k_ hk_ hs_ => (hk_.1.2) hs_⟩); (case side4 => exact (Kd.R_reads' HO195.out).2.1); rintro e w35 ⟨v197, rfl, ho0, hb, hkp⟩; have n0_ := Aside0.mk (blk_kept (by (with_reducible repeat (first | refine blk_drewN ?_ _ | refine blk_drew ?_ | refine blk_alloc ?_ _)); exact BK187.out) hkp (fun hs_ => (fun e_ => (Kd.R_away HO_6.out (fun _ hk => hk.1)) e_) hs_)); have n1_ := Aside0.mk (Kd.R_mono (ok' := fun k_ => k_ ≠ gb187 ∧ some k_ ≠ (v197 : Value).ownBlock) (Kd.R_keptB (HO195.out) hkp (fun k_ hk_ hs_ => (hk_.1.2) hs_)) (fun k_ hk_ => ⟨hk_.1.2, fun e_ => Or.elim (ho0.1 k_ e_.symm) (fun hs_ => hk_.2.1 hs_) (fun hn_ => Nat.not_le.2 hk_.2.2 hn_)⟩)); have n2_ := Aside0.mk (Kd.R_mono (ok' := fun k_ => some k_ ≠ (.slice Ao34 y193.length co34 : Value).ownBlock ∧ k_ ≠ gb187) ho0 (fun k_ hk_ => ⟨Or.elim hk_ (fun hs_ => fun e_ => (((HO195.out).1 k_ e_.symm).1.2) hs_) (fun hn_ => (Kd.fresh' (Kd.R_lt (ra_ HO195)) k_ hn_)), Or.elim hk_ (fun hs_ => fun e_ => (Kd.R_away HO_6.out (fun _ hk => hk.1)) (by rw [← e_]; exact hs_)) (fun hn_ => (Kd.freshB (bk_ BK187) k_ hn_))⟩)); have n3_ := Aside0.mk (hb); clear BK187; clear HO195; clear HB; clear HO_6; have BK187 := n0_; have HO195 := n1_; have HO198 := n2_; have HB := n3_; clear n0_ n1_ n2_ n3_; (try clear hb); (try clear hkp); (try clear ho0); obtain ⟨Ao36, co36, eo36⟩ := Kd.R_slice HO198.out; subst eo36) | (go_at_call 125; (with_reducible refine (impl_HoldsOk.calls kj5 _ _ t196 false _ ?side1 ?side2 A20.out).mono ?_); (case side1 => exact ca_ ((Kd.R_reads' HO198.out).2.2)); (case side2 => exact (Kd.R_reads' HO198.out).2.1); rintro e w37 ⟨rfl, hb⟩; replace HO195 := Aside0.mk (Kd.R_below (ra_ HO195) hb); replace HO198 := Aside0.mk (Kd.R_below (ra_ HO198) hb); replace BK187 := Aside0.mk (blk_below (bk_ BK187) hb); replace HB := Aside0.mk (below_step bl_ hb); (try clear hb); (try clear hb2); (try clear hk); (try clear hi)))
     repeat (go_quiet (first | ((with_reducible refine gate_dst (N := 34) rfl ?_); refine Kd.R_lit k93 _ 93 ?hg (N := 34) ?hd (xs := ([(⟨a1_0, a1_1, a1_2⟩ : S93)] : List (S93))) (inner := [.string a1_0, .int .i64 a1_1, .int .i64 a1_2]) (ok := fun _ => True) (okp := fun _ => True) ?hr ?hp (fun _ hk => hk) trivial (Below.refl _ _) (Nat.le_refl _) (by simp) ?_; (case hd => rfl); (case hg => rfl); (case hr => first | (go_simp; done) | (go_simp; rfl)); (case hp => exact (Reps.c3 (show Kd.M k93 _ _ _ (⟨a1_0, a1_1, a1_2⟩ : S93) [.string a1_0, .int .i64 a1_1, .int .i64 a1_2] from (k93_mkM _ _ _ (⟨a1_0, a1_1, a1_2⟩ : S93) )) (Reps.none _ _))); intro v194 w31 ho32 hb hg_ hnew_; clear hg_ hnew_; (first | rw [← Ny193.out] at ho32 | (simp only [Int.reduceToNat] at ho32; rw [← Ny193.out] at ho32)); have HO195 := Aside0.mk (Kd.R_lower (Kd.R_newB (Kd.R_new' ho32 (Kd.R_lt (ra_ HO_6))) (bk_ BK187)) (below_size bl_)); replace HO_6 := Aside0.mk (Kd.R_elder' (ra_ HO_6) (Kd.R_base ho32) hb); replace BK187 := Aside0.mk (blk_below (bk_ BK187) hb); replace HB := Aside0.mk (below_step bl_ hb); clear hb ho32; obtain ⟨Ao33, co33, eo33⟩ := Kd.R_slice HO_6.out; subst eo33; obtain ⟨Ao34, co34, eo34⟩ := Kd.R_slice HO195.out; subst eo34) | (go_at_call 126; (with_reducible refine (impl_Hold_126.calls (fun k_ => some k_ = (.slice Ao33 t189.length co33 : Value).ownBlock) (.slice Ao33 t189.length co33) t189 x7_5 _ _ y193 t196 w _ ?side1 ?side2 ?side3 ?side4 A19.out).mono ?_); (case side1 => repeat (first | (with_reducible first | exact HB.out | apply below_alloc | apply pw_below_drewN | apply below_drew1 | refine below_set ?_ GE187.out) | exact HB.out)); (case side2 => exact Kd.R_tight rfl HO_6.out); (case side3 => exact ⟨_, _, HO195.out, fun k_ hk_ hs_ => (hk_.1.2) hs_⟩); (case side4 => exact (Kd.R_reads' HO195.out).2.1); rintro e w35 ⟨v197, rfl, ho0, hb, hkp⟩; have n0_ := Aside0.mk (blk_kept (by (with_reducible repeat (first | refine blk_drewN ?_ _ | refine blk_drew ?_ | refine blk_alloc ?_ _)); exact BK187.out) hkp (fun hs_ => (fun e_ => (Kd.R_away HO_6.out (fun _ hk => hk.1)) e_) hs_)); have n1_ := Aside0.mk (Kd.R_mono (ok' := fun k_ => k_ ≠ gb187 ∧ some k_ ≠ (v197 : Value).ownBlock) (Kd.R_keptB (HO195.out) hkp (fun k_ hk_ hs_ => (hk_.1.2) hs_)) (fun k_ hk_ => ⟨hk_.1.2, fun e_ => Or.elim (ho0.1 k_ e_.symm) (fun hs_ => hk_.2.1 hs_) (fun hn_ => Nat.not_le.2 hk_.2.2 hn_)⟩)); have n2_ := Aside0.mk (Kd.R_mono (ok' := fun k_ => some k_ ≠ (.slice Ao34 y193.length co34 : Value).ownBlock ∧ k_ ≠ gb187) ho0 (fun k_ hk_ => ⟨Or.elim hk_ (fun hs_ => fun e_ => (((HO195.out).1 k_ e_.symm).1.2) hs_) (fun hn_ => (Kd.fresh' (Kd.R_lt (ra_ HO195)) k_ hn_)), Or.elim hk_ (fun hs_ => fun e_ => (Kd.R_away HO_6.out (fun _ hk => hk.1)) (by rw [← e_]; exact hs_)) (fun hn_ => (Kd.freshB (bk_ BK187) k_ hn_))⟩)); have n3_ := Aside0.mk (hb); clear BK187; clear HO195; clear HB; clear HO_6; have BK187 := n0_; have HO195 := n1_; have HO198 := n2_; have HB := n3_; clear n0_ n1_ n2_ n3_; (try clear hb); (try clear hkp); (try clear ho0); obtain ⟨Ao36, co36, eo36⟩ := Kd.R_slice HO198.out; subst eo36) | (go_at_call 125; (with_reducible refine (impl_HoldsOk.calls kj5 _ _ t196 false _ ?side1 ?side2 A20.out).mono ?_); (case side1 => exact ca_ ((Kd.R_reads' HO198.out).2.2)); (case side2 => exact (Kd.R_reads' HO198.out).2.1); rintro e w37 ⟨rfl, hb⟩; replace HO195 := Aside0.mk (Kd.R_below (ra_ HO195) hb); replace HO198 := Aside0.mk (Kd.R_below (ra_ HO198) hb); replace BK187 := Aside0.mk (blk_below (bk_ BK187) hb); replace HB := Aside0.mk (below_step bl_ hb); (try clear hb); (try clear hb2); (try clear hk); (try clear hi))); try go_wp2_with (first | ((with_reducible refine gate_dst (N := 34) rfl ?_); refine Kd.R_lit k93 _ 93 ?hg (N := 34) ?hd (xs := ([(⟨a1_0, a1_1, a1_2⟩ : S93)] : List (S93))) (inner := [.string a1_0, .int .i64 a1_1, .int .i64 a1_2]) (ok := fun _ => True) (okp := fun _ => True) ?hr ?hp (fun _ hk => hk) trivial (Below.refl _ _) (Nat.le_refl _) (by simp) ?_; (case hd => rfl); (case hg => rfl); (case hr => first | (go_simp; done) | (go_simp; rfl)); (case hp => exact (Reps.c3 (show Kd.M k93 _ _ _ (⟨a1_0, a1_1, a1_2⟩ : S93) [.string a1_0, .int .i64 a1_1, .int .i64 a1_2] from (k93_mkM _ _ _ (⟨a1_0, a1_1, a1_2⟩ : S93) )) (Reps.none _ _))); intro v194 w31 ho32 hb hg_ hnew_; clear hg_ hnew_; (first | rw [← Ny193.out] at ho32 | (simp only [Int.reduceToNat] at ho32; rw [← Ny193.out] at ho32)); have HO195 := Aside0.mk (Kd.R_lower (Kd.R_newB (Kd.R_new' ho32 (Kd.R_lt (ra_ HO_6))) (bk_ BK187)) (below_size bl_)); replace HO_6 := Aside0.mk (Kd.R_elder' (ra_ HO_6) (Kd.R_base ho32) hb); replace BK187 := Aside0.mk (blk_below (bk_ BK187) hb); replace HB := Aside0.mk (below_step bl_ hb); clear hb ho32; obtain ⟨Ao33, co33, eo33⟩ := Kd.R_slice HO_6.out; subst eo33; obtain ⟨Ao34, co34, eo34⟩ := Kd.R_slice HO195.out; subst eo34) | (go_at_call 126; (with_reducible refine (impl_Hold_126.calls (fun k_ => some k_ = (.slice Ao33 t189.length co33 : Value).ownBlock) (.slice Ao33 t189.length co33) t189 x7_5 _ _ y193 t196 w _ ?side1 ?side2 ?side3 ?side4 A19.out).mono ?_); (case side1 => repeat (first | (with_reducible first | exact HB.out | apply below_alloc | apply pw_below_drewN | apply below_drew1 | refine below_set ?_ GE187.out) | exact HB.out)); (case side2 => exact Kd.R_tight rfl HO_6.out); (case side3 => exact ⟨_, _, HO195.out, fun k_ hk_ hs_ => (hk_.1.2) hs_⟩); (case side4 => exact (Kd.R_reads' HO195.out).2.1); rintro e w35 ⟨v197, rfl, ho0, hb, hkp⟩; have n0_ := Aside0.mk (blk_kept (by (with_reducible repeat (first | refine blk_drewN ?_ _ | refine blk_drew ?_ | refine blk_alloc ?_ _)); exact BK187.out) hkp (fun hs_ => (fun e_ => (Kd.R_away HO_6.out (fun _ hk => hk.1)) e_) hs_)); have n1_ := Aside0.mk (Kd.R_mono (ok' := fun k_ => k_ ≠ gb187 ∧ some k_ ≠ (v197 : Value).ownBlock) (Kd.R_keptB (HO195.out) hkp (fun k_ hk_ hs_ => (hk_.1.2) hs_)) (fun k_ hk_ => ⟨hk_.1.2, fun e_ => Or.elim (ho0.1 k_ e_.symm) (fun hs_ => hk_.2.1 hs_) (fun hn_ => Nat.not_le.2 hk_.2.2 hn_)⟩)); have n2_ := Aside0.mk (Kd.R_mono (ok' := fun k_ => some k_ ≠ (.slice Ao34 y193.length co34 : Value).ownBlock ∧ k_ ≠ gb187) ho0 (fun k_ hk_ => ⟨Or.elim hk_ (fun hs_ => fun e_ => (((HO195.out).1 k_ e_.symm).1.2) hs_) (fun hn_ => (Kd.fresh' (Kd.R_lt (ra_ HO195)) k_ hn_)), Or.elim hk_ (fun hs_ => fun e_ => (Kd.R_away HO_6.out (fun _ hk => hk.1)) (by rw [← e_]; exact hs_)) (fun hn_ => (Kd.freshB (bk_ BK187) k_ hn_))⟩)); have n3_ := Aside0.mk (hb); clear BK187; clear HO195; clear HB; clear HO_6; have BK187 := n0_; have HO195 := n1_; have HO198 := n2_; have HB := n3_; clear n0_ n1_ n2_ n3_; (try clear hb); (try clear hkp); (try clear ho0); obtain ⟨Ao36, co36, eo36⟩ := Kd.R_slice HO198.out; subst eo36) | (go_at_call 125; (with_reducible refine (impl_HoldsOk.calls kj5 _ _ t196 false _ ?side1 ?side2 A20.out).mono ?_); (case side1 => exact ca_ ((Kd.R_reads' HO198.out).2.2)); (case side2 => exact (Kd.R_reads' HO198.out).2.1); rintro e w37 ⟨rfl, hb⟩; replace HO195 := Aside0.mk (Kd.R_below (ra_ HO195) hb); replace HO198 := Aside0.mk (Kd.R_below (ra_ HO198) hb); replace BK187 := Aside0.mk (blk_below (bk_ BK187) hb); replace HB := Aside0.mk (below_step bl_ hb); (try clear hb); (try clear hb2); (try clear hk); (try clear hi))))
     go_ret2
     exact ⟨_, by first | rfl | (simp [errW_none, errW_some] <;> rfl) | (simp [*, errW_none, errW_some] <;> rfl), by first | exact Kd.R_nil _ _ _ _ _ | exact Kd.N_nil _ _ _ _ _ | exact Kd.V_nil _ _ _ _ _ | exact Kd.Q_nil _ _ _ _ _ | exact Kd.S_nil _ _ _ _ _, bl_⟩
 ·replace c4 := Bool.eq_false_iff.mpr c4
  subst c4
  replace H := in_ H
  simp only [Option.some.injEq, Prod.mk.injEq] at H
  obtain ⟨rfl, rfl⟩ := H
  go_enter Try.func65, Try.ntmps65
  go_wp2_with (first | ((with_reducible refine gate_dst (N := 3) rfl ?_); refine be_ (N := 3) (cs := #[.string a1_0, .int .i64 a1_1, .int .i64 a1_2]) (t := 93) ?_; intro gb187 hg w38 hbox hb; have BK187 := Aside0.mk (hbox); have GW187 := gw_ (w := w) hg; have GE187 := gw_ (w := w) hg; replace HB := Aside0.mk (below_step bl_ hb); clear hb hbox hg) | (go_at_call 125; (with_reducible refine (impl_HoldsOk.calls k _ _ l0 false _ ?side1 ?side2 A3.out).mono ?_); (case side1 => exact ca_ (Kd.C_below HR0.out HB.out)); (case side2 => exact HC0.out); rintro e w39 ⟨rfl, hb⟩; replace BK187 := Aside0.mk (blk_below (bk_ BK187) hb); replace HB := Aside0.mk (below_step bl_ hb); (try clear hb); (try clear hb2); (try clear hk); (try clear hi)))
  repeat (go_quiet (first | ((with_reducible refine gate_dst (N := 3) rfl ?_); refine be_ (N := 3) (cs := #[.string a1_0, .int .i64 a1_1, .int .i64 a1_2]) (t := 93) ?_; intro gb187 hg w38 hbox hb; have BK187 := Aside0.mk (hbox); have GW187 := gw_ (w := w) hg; have GE187 := gw_ (w := w) hg; replace HB := Aside0.mk (below_step bl_ hb); clear hb hbox hg) | (go_at_call 125; (with_reducible refine (impl_HoldsOk.calls k _ _ l0 false _ ?side1 ?side2 A3.out).mono ?_); (case side1 => exact ca_ (Kd.C_below HR0.out HB.out)); (case side2 => exact HC0.out); rintro e w39 ⟨rfl, hb⟩; replace BK187 := Aside0.mk (blk_below (bk_ BK187) hb); replace HB := Aside0.mk (below_step bl_ hb); (try clear hb); (try clear hb2); (try clear hk); (try clear hi))); try go_wp2_with (first | ((with_reducible refine gate_dst (N := 3) rfl ?_); refine be_ (N := 3) (cs := #[.string a1_0, .int .i64 a1_1, .int .i64 a1_2]) (t := 93) ?_; intro gb187 hg w38 hbox hb; have BK187 := Aside0.mk (hbox); have GW187 := gw_ (w := w) hg; have GE187 := gw_ (w := w) hg; replace HB := Aside0.mk (below_step bl_ hb); clear hb hbox hg) | (go_at_call 125; (with_reducible refine (impl_HoldsOk.calls k _ _ l0 false _ ?side1 ?side2 A3.out).mono ?_); (case side1 => exact ca_ (Kd.C_below HR0.out HB.out)); (case side2 => exact HC0.out); rintro e w39 ⟨rfl, hb⟩; replace BK187 := Aside0.mk (blk_below (bk_ BK187) hb); replace HB := Aside0.mk (below_step bl_ hb); (try clear hb); (try clear hb2); (try clear hk); (try clear hi))))
  go_ret2
  exact ⟨_, by first | rfl | (simp [errW_none, errW_some] <;> rfl) | (simp [*, errW_none, errW_some] <;> rfl), by first | exact Kd.R_nil _ _ _ _ _ | exact Kd.N_nil _ _ _ _ _ | exact Kd.V_nil _ _ _ _ _ | exact Kd.Q_nil _ _ _ _ _ | exact Kd.S_nil _ _ _ _ _, bl_⟩
end Go.Proofs.Ytepjnalkpfnmcaa.QFnExactHoldPut
