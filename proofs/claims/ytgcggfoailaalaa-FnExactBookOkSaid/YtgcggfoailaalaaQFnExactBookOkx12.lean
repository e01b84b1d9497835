-- by my own printer (myprint.py, over the kit's print.py)
import Derived.Test.YtgcggfoailaalaaQFnExactBookOkx0
import Derived.Test.YtgcggfoailaalaaQFnExactBookOkx11
namespace Go.Proofs.Ytgcggfoailaalaa.QFnExactBookOk
open Go.RowKit Go.Proofs.YtgcggfoailaalaaW.PrintWords Go.Proofs.YtgcggfoailaalaaW.PrintLast Go.Proofs.YtgcggfoailaalaaW.PrintMore
attribute [local go_sem] max2_int min2_int max_two min_two max_three min_three max_four min_four   -- for this text's walks alone
set_option linter.unusedVariables false
set_option linter.unusedSimpArgs false
attribute [local go_sem] my_geq my_leq my_gtr
/-! ### impl_SlotsOk: function 75 -/
def impl_SlotsOk.l0 : Nat → List (S144) → List (S144) → Int → Int → Option (Bool)
 | 0, _, _, _, _ => none
 | k + 1, x0, x5, x6, x7 => if x7 < x6 then (if 0 ≤ x7 then (if x7 < (x5.length : Int) then ((impl_SlotOk.f k ((rd_T144 x5 x7).f0) ((rd_T144 x5 x7).f1) ((rd_T144 x5 x7).f2)).bind fun t321 => (if t321 = true then ((impl_slotAt.f x0 ((rd_T144 x5 x7).f0) ((rd_T144 x5 x7).f1)).bind fun t322 => (if t322 = x7 then (impl_SlotsOk.l0 k x0 x5 x6 (wrap64 (x7 + 1))) else (some false))) else (some false))) else (none)) else (none)) else (some (decide ((x0.length : Int) ≤ 6)))
def impl_SlotsOk.f (k : Nat) (l0 : List (S144)) : Option (Bool) := impl_SlotsOk.l0 k l0 l0 (l0.length : Int) 0
theorem impl_SlotsOk.mono_l : ∀ k, (∀ y0 y1 y2 y3, LeO (impl_SlotsOk.l0 k y0 y1 y2 y3) (impl_SlotsOk.l0 (k + 1) y0 y1 y2 y3))
 | 0 => fun _ _ _ _ r h => by simp [impl_SlotsOk.l0] at h
 | k + 1 => by
  have ih0 := impl_SlotsOk.mono_l k
  ·intro y0 y1 y2 y3
   unfold impl_SlotsOk.l0
   repeat' first
   | (with_reducible exact ih0 _ _ _ _)
   | (with_reducible exact impl_SlotOk.mono _ _ _ _)
   | (with_reducible exact LeO.refl _)
   | (with_reducible exact LeO.none _)
   | (with_reducible refine LeO.ite ?_ ?_)
   | (with_reducible refine LeO.bind ?_ (fun _ => ?_))
theorem impl_SlotsOk.mono : ∀ a0 k, LeO (impl_SlotsOk.f k a0) (impl_SlotsOk.f (k + 1) a0) := by
 intro a0 k
 have ih0 := impl_SlotsOk.mono_l k
 unfold impl_SlotsOk.f
 repeat' first
   | (with_reducible exact ih0 _ _ _ _)
   | (with_reducible exact impl_SlotOk.mono _ _ _ _)
   | (with_reducible exact LeO.refl _)
   | (with_reducible exact LeO.none _)
   | (with_reducible refine LeO.ite ?_ ?_)
   | (with_reducible refine LeO.bind ?_ (fun _ => ?_))
set_option maxHeartbeats 8000000 in
set_option maxRecDepth 100000 in
theorem impl_SlotsOk.calls (k : Nat) (A0 : Option Addr) (c0 : Nat) (l0 : List (S144)) (r : Bool) (w : World) (hr0 : Kd.C k144 w A0 l0.length l0) (hc0 : l0.length ≤ c0) (h : impl_SlotsOk.f k l0 = some r) :
  Calls Try.prog 75 #[.slice A0 l0.length c0] w fun e w' => e = .returned (.bool r) ∧ Below w.heap.size w w' := by
 have hu144 := Try.underlying144
 have HR0 := Aside0.mk hr0
 have HC0 := Aside0.mk hc0
 clear hr0 hc0
 have HB := Aside0.mk (Below.refl w.heap.size w)
 have H : (impl_SlotsOk.l0 k l0 l0 (l0.length : Int) 0) = some r := h
 clear h
 have H' := Aside0.mk H
 clear H
 go_enter Try.func75, Try.ntmps75
 go_wp2
 go_loopg [7] k (fun kq v7 w' => ∃ (x7_1 : Int), v7 = .int .i64 x7_1 ∧ Aside0 (impl_SlotsOk.l0 kq l0 l0 (l0.length : Int) x7_1 = some r) ∧ Aside0 (kq ≤ k) ∧ Aside0 (Below w.heap.size w w'))
 case atStart => exact ⟨(0), sp_, H', ⟨Nat.le_refl _⟩, ⟨bl_⟩⟩
 case round =>
  clear H'
  obtain ⟨x7_1, rfl, HA, HK1, HB⟩ := hrel
  cases gk with
  | zero => exact absurd HA.out (by simp [impl_SlotsOk.l0])
  | succ k1 =>
   have H := HA.out
   clear HA
   simp only [impl_SlotsOk.l0] at H
   by_cases c2 : x7_1 < (l0.length : Int)
   ·rw [if_pos c2] at H
    have c2b0 : decide (x7_1 < (l0.length : Int)) = true := decide_eq_true c2
    clear c2
    by_cases c3 : 0 ≤ x7_1
    ·rw [if_pos c3] at H
     have c3b0 : decide (0 ≤ x7_1) = true := decide_eq_true c3
     clear c3
     by_cases c4 : x7_1 < (l0.length : Int)
     ·rw [if_pos c4] at H
      have c4b0 : decide (x7_1 < (l0.length : Int)) = true := decide_eq_true c4
      clear c4
      replace H := Option.bind_eq_some_iff.mp H
      obtain ⟨t321, A50, H⟩ := H
      replace H : (if t321 = true then ((impl_slotAt.f l0 ((rd_T144 l0 x7_1).f0) ((rd_T144 l0 x7_1).f1)).bind fun t322 => (if t322 = x7_1 then (impl_SlotsOk.l0 k1 l0 l0 (l0.length : Int) (wrap64 (x7_1 + 1))) else (some false))) else (some false)) = some r := H
      have A5 := Aside0.mk A50
      clear A50
      by_cases c6 : t321 = true
      ·subst c6
       have H1 : ((impl_slotAt.f l0 ((rd_T144 l0 x7_1).f0) ((rd_T144 l0 x7_1).f1)).bind fun t322 => (if t322 = x7_1 then (impl_SlotsOk.l0 k1 l0 l0 (l0.length : Int) (wrap64 (x7_1 + 1))) else (some false))) = some r := by rw [if_pos rfl] at H; exact H
       clear H
       have H := H1
       clear H1
       replace H := Option.bind_eq_some_iff.mp H
       obtain ⟨t322, A70, H⟩ := H
       replace H : (if t322 = x7_1 then (impl_SlotsOk.l0 k1 l0 l0 (l0.length : Int) (wrap64 (x7_1 + 1))) else (some false)) = some r := H
       have A7 := Aside0.mk A70
       clear A70
       by_cases c8 : t322 = x7_1
       ·rw [if_pos c8] at H
        have c8b0 : (t322 == x7_1) = true := beq_iff_eq.mpr c8
        have c8b1 : (t322 != x7_1) = false := bne_eq_false_iff_eq.mpr c8
        clear c8
        have H' := Aside0.mk H
        clear H
        have p319 : 0 ≤ (x7_1 : Int) := od_
        have q319 : x7_1 < (l0.length : Int) := od_
        obtain ⟨ad319, A319_2, c319_2, e319, hx319_0, hx319_1, hx319_2, hl319_2, hi319_2⟩ := at_T144 HR0.out x7_1 p319 q319
        cases e319
        replace hx319_0 := kc_ HB hx319_0
        replace hx319_1 := kc_ HB hx319_1
        replace hx319_2 := kc_ HB hx319_2
        have HR319_2 := Aside0.mk hi319_2
        have HC319_2 := Aside0.mk hl319_2
        clear hi319_2 hl319_2
        replace p319 := eq_true p319
        replace q319 := eq_true q319
        go_wp2_with (first | ((with_reducible refine gate_dst (N := 4) rfl ?_); refine box_event ?hg (N := 4) ?hd (cs := #[.string (⟨#[]⟩ : ByteArray), .string (⟨#[]⟩ : ByteArray), .slice none 0 0]) (t := 144) ?hr ?_; (case hd => rfl); (case hg => rfl); (case hr => first | (go_simp; done) | (go_simp; rfl)); intro gb320 hg w9 hbox hb; have n0_ := Aside0.mk (below_step bl_ hb); have n1_ := Aside0.mk (hbox); have n2_ := gw_ (w := w) hg; have n3_ := gw_ (w := w) hg; clear HB; have HB := n0_; have BK320 := n1_; have GW320 := n2_; have GE320 := n3_; clear n0_ n1_ n2_ n3_; clear hb hbox hg; have hcz10_0 := cz_ BK320 0 (.string (⟨#[]⟩ : ByteArray)); have hcz10_1 := cz_ BK320 1 (.string (⟨#[]⟩ : ByteArray)); have hcz10_2 := cz_ BK320 2 (.slice none 0 0); have hfz10_0 := fz_ BK320 0; have hfz10_1 := fz_ BK320 1; have hfz10_2 := fz_ BK320 2) | ((with_reducible refine gate_callee (f := 135) rfl ?_); refine goesL_ (some 13) rfl rfl Try.func135 (by kernel_rfl) rfl #[.agg #[.string ((rd_T144 l0 x7_1).f0), .string ((rd_T144 l0 x7_1).f1), .slice A319_2 ((rd_T144 l0 x7_1).f2).length c319_2]] rfl gl_ ?_; (with_reducible refine (impl_SlotOk.calls k1 ((rd_T144 l0 x7_1).f0) ((rd_T144 l0 x7_1).f1) _ _ ((rd_T144 l0 x7_1).f2) true _ ?side1 ?side2 A5.out).mono ?_); (case side1 => exact Kd.C_below HR319_2.out bl_); (case side2 => exact HC319_2.out); rintro e w11 ⟨rfl, hb⟩; refine ⟨_, rfl, ?_⟩; have n0_ := Aside0.mk (blk_below (g := gb320) (o := .cells #[.string ((rd_T144 l0 x7_1).f0), .string ((rd_T144 l0 x7_1).f1), .slice A319_2 ((rd_T144 l0 x7_1).f2).length c319_2] 144 (0, 0)) (by (with_reducible repeat (first | refine blk_drewN ?_ _ | refine blk_drew ?_ | refine blk_alloc ?_ _)); refine blk_put (cs := #[.string ((rd_T144 l0 x7_1).f0), .string ((rd_T144 l0 x7_1).f1), .slice none 0 0]) ?_ 2 _ rfl; refine blk_put (cs := #[.string ((rd_T144 l0 x7_1).f0), .string (⟨#[]⟩ : ByteArray), .slice none 0 0]) ?_ 1 _ rfl; refine blk_put (cs := #[.string (⟨#[]⟩ : ByteArray), .string (⟨#[]⟩ : ByteArray), .slice none 0 0]) ?_ 0 _ rfl; (with_reducible repeat (first | refine blk_drewN ?_ _ | refine blk_drew ?_ | refine blk_alloc ?_ _)); exact BK320.out) hb); have n1_ := Aside0.mk (below_step bl_ hb); clear BK320; clear HB; have BK320 := n0_; have HB := n1_; clear n0_ n1_; (try clear hb); (try clear hb2); (try clear hk); (try clear hi); have hcz12_0 := cz_ BK320 0 (.string ((rd_T144 l0 x7_1).f0)); have hcz12_1 := cz_ BK320 1 (.string ((rd_T144 l0 x7_1).f1)); have hcz12_2 := cz_ BK320 2 (.slice A319_2 ((rd_T144 l0 x7_1).f2).length c319_2); have hfz12_0 := fz_ BK320 0; have hfz12_1 := fz_ BK320 1; have hfz12_2 := fz_ BK320 2) | (go_at_call 136; (with_reducible refine (impl_slotAt.calls _ _ l0 ((rd_T144 l0 x7_1).f0) ((rd_T144 l0 x7_1).f1) t322 _ ?side1 ?side2 A7.out).mono ?_); (case side1 => exact ca_ (Kd.C_below HR0.out HB.out)); (case side2 => exact HC0.out); rintro e w13 ⟨rfl, hb⟩; have n0_ := Aside0.mk (blk_below (bk_ BK320) hb); have n1_ := Aside0.mk (below_step bl_ hb); clear BK320; clear HB; have BK320 := n0_; have HB := n1_; clear n0_ n1_; (try clear hb); (try clear hb2); (try clear hk); (try clear hi)))
        go_roundg k1
        case measure => have := HK1.out; omega
        case rel => exact ⟨(wrap64 (x7_1 + 1)), sp_, H', ⟨by have := HK1.out; omega⟩, ⟨bl_⟩⟩
       ·rw [if_neg c8] at H
        have c8b0 : (t322 == x7_1) = false := beq_eq_false_iff_ne.mpr c8
        have c8b1 : (t322 != x7_1) = true := bne_iff_ne.mpr c8
        obtain rfl := Option.some.inj H
        have p319 : 0 ≤ (x7_1 : Int) := od_
        have q319 : x7_1 < (l0.length : Int) := od_
        obtain ⟨ad319, A319_2, c319_2, e319, hx319_0, hx319_1, hx319_2, hl319_2, hi319_2⟩ := at_T144 HR0.out x7_1 p319 q319
        cases e319
        replace hx319_0 := kc_ HB hx319_0
        replace hx319_1 := kc_ HB hx319_1
        replace hx319_2 := kc_ HB hx319_2
        have HR319_2 := Aside0.mk hi319_2
        have HC319_2 := Aside0.mk hl319_2
        clear hi319_2 hl319_2
        replace p319 := eq_true p319
        replace q319 := eq_true q319
        go_wp2_with (first | ((with_reducible refine gate_dst (N := 4) rfl ?_); refine box_event ?hg (N := 4) ?hd (cs := #[.string (⟨#[]⟩ : ByteArray), .string (⟨#[]⟩ : ByteArray), .slice none 0 0]) (t := 144) ?hr ?_; (case hd => rfl); (case hg => rfl); (case hr => first | (go_simp; done) | (go_simp; rfl)); intro gb320 hg w14 hbox hb; have n0_ := Aside0.mk (below_step bl_ hb); have n1_ := Aside0.mk (hbox); have n2_ := gw_ (w := w) hg; have n3_ := gw_ (w := w) hg; clear HB; have HB := n0_; have BK320 := n1_; have GW320 := n2_; have GE320 := n3_; clear n0_ n1_ n2_ n3_; clear hb hbox hg; have hcz15_0 := cz_ BK320 0 (.string (⟨#[]⟩ : ByteArray)); have hcz15_1 := cz_ BK320 1 (.string (⟨#[]⟩ : ByteArray)); have hcz15_2 := cz_ BK320 2 (.slice none 0 0); have hfz15_0 := fz_ BK320 0; have hfz15_1 := fz_ BK320 1; have hfz15_2 := fz_ BK320 2) | ((with_reducible refine gate_callee (f := 135) rfl ?_); refine goesL_ (some 13) rfl rfl Try.func135 (by kernel_rfl) rfl #[.agg #[.string ((rd_T144 l0 x7_1).f0), .string ((rd_T144 l0 x7_1).f1), .slice A319_2 ((rd_T144 l0 x7_1).f2).length c319_2]] rfl gl_ ?_; (with_reducible refine (impl_SlotOk.calls k1 ((rd_T144 l0 x7_1).f0) ((rd_T144 l0 x7_1).f1) _ _ ((rd_T144 l0 x7_1).f2) true _ ?side1 ?side2 A5.out).mono ?_); (case side1 => exact Kd.C_below HR319_2.out bl_); (case side2 => exact HC319_2.out); rintro e w16 ⟨rfl, hb⟩; refine ⟨_, rfl, ?_⟩; have n0_ := Aside0.mk (blk_below (g := gb320) (o := .cells #[.string ((rd_T144 l0 x7_1).f0), .string ((rd_T144 l0 x7_1).f1), .slice A319_2 ((rd_T144 l0 x7_1).f2).length c319_2] 144 (0, 0)) (by (with_reducible repeat (first | refine blk_drewN ?_ _ | refine blk_drew ?_ | refine blk_alloc ?_ _)); refine blk_put (cs := #[.string ((rd_T144 l0 x7_1).f0), .string ((rd_T144 l0 x7_1).f1), .slice none 0 0]) ?_ 2 _ rfl; refine blk_put (cs := #[.string ((rd_T144 l0 x7_1).f0), .string (⟨#[]⟩ : ByteArray), .slice none 0 0]) ?_ 1 _ rfl; refine blk_put (cs := #[.string (⟨#[]⟩ : ByteArray), .string (⟨#[]⟩ : ByteArray), .slice none 0 0]) ?_ 0 _ rfl; (with_reducible repeat (first | refine blk_drewN ?_ _ | refine blk_drew ?_ | refine blk_alloc ?_ _)); exact BK320.out) hb); have n1_ := Aside0.mk (below_step bl_ hb); clear BK320; clear HB; have BK320 := n0_; have HB := n1_; clear n0_ n1_; (try clear hb); (try clear hb2); (try clear hk); (try clear hi); have hcz17_0 := cz_ BK320 0 (.string ((rd_T144 l0 x7_1).f0)); have hcz17_1 := cz_ BK320 1 (.string ((rd_T144 l0 x7_1).f1)); have hcz17_2 := cz_ BK320 2 (.slice A319_2 ((rd_T144 l0 x7_1).f2).length c319_2); have hfz17_0 := fz_ BK320 0; have hfz17_1 := fz_ BK320 1; have hfz17_2 := fz_ BK320 2) | (go_at_call 136; (with_reducible refine (impl_slotAt.calls _ _ l0 ((rd_T144 l0 x7_1).f0) ((rd_T144 l0 x7_1).f1) t322 _ ?side1 ?side2 A7.out).mono ?_); (case side1 => exact ca_ (Kd.C_below HR0.out HB.out)); (case side2 => exact HC0.out); rintro e w18 ⟨rfl, hb⟩; have n0_ := Aside0.mk (blk_below (bk_ BK320) hb); have n1_ := Aside0.mk (below_step bl_ hb); clear BK320; clear HB; have BK320 := n0_; have HB := n1_; clear n0_ n1_; (try clear hb); (try clear hb2); (try clear hk); (try clear hi)))
        go_ret
        exact ⟨sq_, bl_⟩
      ·replace c6 := Bool.eq_false_iff.mpr c6
       subst c6
       have H1 : (some false) = some r := by rw [if_neg (show ¬ (false = true) by decide)] at H; exact H
       clear H
       have H := H1
       clear H1
       obtain rfl := Option.some.inj H
       have p319 : 0 ≤ (x7_1 : Int) := od_
       have q319 : x7_1 < (l0.length : Int) := od_
       obtain ⟨ad319, A319_2, c319_2, e319, hx319_0, hx319_1, hx319_2, hl319_2, hi319_2⟩ := at_T144 HR0.out x7_1 p319 q319
       cases e319
       replace hx319_0 := kc_ HB hx319_0
       replace hx319_1 := kc_ HB hx319_1
       replace hx319_2 := kc_ HB hx319_2
       have HR319_2 := Aside0.mk hi319_2
       have HC319_2 := Aside0.mk hl319_2
       clear hi319_2 hl319_2
       replace p319 := eq_true p319
       replace q319 := eq_true q319
       go_wp2_with (first | ((with_reducible refine gate_dst (N := 4) rfl ?_); refine box_event ?hg (N := 4) ?hd (cs := #[.string (⟨#[]⟩ : ByteArray), .string (⟨#[]⟩ : ByteArray), .slice none 0 0]) (t := 144) ?hr ?_; (case hd => rfl); (case hg => rfl); (case hr => first | (go_simp; done) | (go_simp; rfl)); intro gb320 hg w19 hbox hb; have n0_ := Aside0.mk (below_step bl_ hb); have n1_ := Aside0.mk (hbox); have n2_ := gw_ (w := w) hg; have n3_ := gw_ (w := w) hg; clear HB; have HB := n0_; have BK320 := n1_; have GW320 := n2_; have GE320 := n3_; clear n0_ n1_ n2_ n3_; clear hb hbox hg; have hcz20_0 := cz_ BK320 0 (.string (⟨#[]⟩ : ByteArray)); have hcz20_1 := cz_ BK320 1 (.string (⟨#[]⟩ : ByteArray)); have hcz20_2 := cz_ BK320 2 (.slice none 0 0); have hfz20_0 := fz_ BK320 0; have hfz20_1 := fz_ BK320 1; have hfz20_2 := fz_ BK320 2) | ((with_reducible refine gate_callee (f := 135) rfl ?_); refine goesL_ (some 13) rfl rfl Try.func135 (by kernel_rfl) rfl #[.agg #[.string ((rd_T144 l0 x7_1).f0), .string ((rd_T144 l0 x7_1).f1), .slice A319_2 ((rd_T144 l0 x7_1).f2).length c319_2]] rfl gl_ ?_; (with_reducible refine (impl_SlotOk.calls k1 ((rd_T144 l0 x7_1).f0) ((rd_T144 l0 x7_1).f1) _ _ ((rd_T144 l0 x7_1).f2) false _ ?side1 ?side2 A5.out).mono ?_); (case side1 => exact Kd.C_below HR319_2.out bl_); (case side2 => exact HC319_2.out); rintro e w21 ⟨rfl, hb⟩; refine ⟨_, rfl, ?_⟩; have n0_ := Aside0.mk (blk_below (g := gb320) (o := .cells #[.string ((rd_T144 l0 x7_1).f0), .string ((rd_T144 l0 x7_1).f1), .slice A319_2 ((rd_T144 l0 x7_1).f2).length c319_2] 144 (0, 0)) (by (with_reducible repeat (first | refine blk_drewN ?_ _ | refine blk_drew ?_ | refine blk_alloc ?_ _)); refine blk_put (cs := #[.string ((rd_T144 l0 x7_1).f0), .string ((rd_T144 l0 x7_1).f1), .slice none 0 0]) ?_ 2 _ rfl; refine blk_put (cs := #[.string ((rd_T144 l0 x7_1).f0), .string (⟨#[]⟩ : ByteArray), .slice none 0 0]) ?_ 1 _ rfl; refine blk_put (cs := #[.string (⟨#[]⟩ : ByteArray), .string (⟨#[]⟩ : ByteArray), .slice none 0 0]) ?_ 0 _ rfl; (with_reducible repeat (first | refine blk_drewN ?_ _ | refine blk_drew ?_ | refine blk_alloc ?_ _)); exact BK320.out) hb); have n1_ := Aside0.mk (below_step bl_ hb); clear BK320; clear HB; have BK320 := n0_; have HB := n1_; clear n0_ n1_; (try clear hb); (try clear hb2); (try clear hk); (try clear hi)))
       go_ret
       exact ⟨sq_, bl_⟩
     ·rw [if_neg c4] at H
      exact absurd H (by simp)
    ·rw [if_neg c3] at H
     exact absurd H (by simp)
   ·rw [if_neg c2] at H
    have c2b0 : decide (x7_1 < (l0.length : Int)) = false := decide_eq_false c2
    clear c2
    obtain rfl := Option.some.inj H
    go_wp2
    go_ret
    exact ⟨sq_, bl_⟩

/-! ### impl_AddSat: function 76 -/
def impl_AddSat.f (a0 : Int) (a1 : Int) : Option (Int) := if (mx 0 (mn a0 4611686018427387904)) > (4611686018427387904 - (mx 0 (mn a1 4611686018427387904))) then (some 4611686018427387904) else (some (wrap64 ((mx 0 (mn a0 4611686018427387904)) + (mx 0 (mn a1 4611686018427387904)))))
set_option maxHeartbeats 8000000 in
set_option maxRecDepth 100000 in
theorem impl_AddSat.calls (a0 : Int) (a1 : Int) (r : Int) (w : World) (h : impl_AddSat.f a0 a1 = some r) :
  Calls Try.prog 76 #[.int .i64 a0, .int .i64 a1] w fun e w' => e = .returned (.int .i64 r) ∧ Below w.heap.size w w' := by
 have HB := Aside0.mk (Below.refl w.heap.size w)
 have H : (if (mx 0 (mn a0 4611686018427387904)) > (4611686018427387904 - (mx 0 (mn a1 4611686018427387904))) then (some 4611686018427387904) else (some (wrap64 ((mx 0 (mn a0 4611686018427387904)) + (mx 0 (mn a1 4611686018427387904)))))) = some r := h
 clear h
 obtain ⟨ji3, hji3⟩ : ∃ j_ : Int, (mn a0 4611686018427387904) = j_ := ⟨_, rfl⟩
 replace H : (if (mx 0 (ji3)) > (4611686018427387904 - (mx 0 (mn a1 4611686018427387904))) then (some 4611686018427387904) else (some (wrap64 ((mx 0 (ji3)) + (mx 0 (mn a1 4611686018427387904)))))) = some r := by first | (rw [hji3] at H; exact H) | (simp only [hji3] at H ⊢; exact H)
 (try (have hji3h : ji3 ≤ 4611686018427387904 := by (rw [← hji3]; unfold mn; (repeat' split) <;> omega)))
 (try (have hji3g : ji3 ≤ 64 := by omega))
 have hji3_ : (if 4611686018427387904 < a0 then 4611686018427387904 else a0) = ji3 := hji3
 obtain ⟨ji4, hji4⟩ : ∃ j_ : Int, (mx 0 (ji3)) = j_ := ⟨_, rfl⟩
 replace H : (if (ji4) > (4611686018427387904 - (mx 0 (mn a1 4611686018427387904))) then (some 4611686018427387904) else (some (wrap64 ((ji4) + (mx 0 (mn a1 4611686018427387904)))))) = some r := by first | (rw [hji4] at H; exact H) | (simp only [hji4] at H ⊢; exact H)
 have hji4_ : (if 0 < (ji3) then (ji3) else 0) = ji4 := hji4
 obtain ⟨ji5, hji5⟩ : ∃ j_ : Int, (mn a1 4611686018427387904) = j_ := ⟨_, rfl⟩
 replace H : (if (ji4) > (4611686018427387904 - (mx 0 (ji5))) then (some 4611686018427387904) else (some (wrap64 ((ji4) + (mx 0 (ji5)))))) = some r := by first | (rw [hji5] at H; exact H) | (simp only [hji5] at H ⊢; exact H)
 (try (have hji5h : ji5 ≤ 4611686018427387904 := by (rw [← hji5]; unfold mn; (repeat' split) <;> omega)))
 (try (have hji5g : ji5 ≤ 64 := by omega))
 have hji5_ : (if 4611686018427387904 < a1 then 4611686018427387904 else a1) = ji5 := hji5
 obtain ⟨ji6, hji6⟩ : ∃ j_ : Int, (mx 0 (ji5)) = j_ := ⟨_, rfl⟩
 replace H : (if (ji4) > (4611686018427387904 - (ji6)) then (some 4611686018427387904) else (some (wrap64 ((ji4) + (ji6))))) = some r := by first | (rw [hji6] at H; exact H) | (simp only [hji6] at H ⊢; exact H)
 have hji6_ : (if 0 < (ji5) then (ji5) else 0) = ji6 := hji6
 by_cases c7 : (ji4) > (4611686018427387904 - (ji6))
 ·rw [if_pos c7] at H
  have c7b0 : decide ((4611686018427387904 - (ji6)) < (ji4)) = true := decide_eq_true c7
  clear c7
  obtain rfl := Option.some.inj H
  go_enter Try.func76, Try.ntmps76
  go_wp2
  go_ret
  exact ⟨by first | rfl | (simp [errW_none, errW_some] <;> rfl) | (simp only [← hji3, ← hji4, ← hji5, ← hji6]; first | rfl | (simp [errW_none, errW_some] <;> rfl)) | (simp [*, errW_none, errW_some] <;> rfl), bl_⟩
 ·rw [if_neg c7] at H
  have c7b0 : decide ((4611686018427387904 - (ji6)) < (ji4)) = false := decide_eq_false c7
  clear c7
  obtain rfl := Option.some.inj H
  go_enter Try.func76, Try.ntmps76
  go_wp2
  go_ret
  exact ⟨by first | rfl | (simp [errW_none, errW_some] <;> rfl) | (simp only [← hji3, ← hji4, ← hji5, ← hji6]; first | rfl | (simp [errW_none, errW_some] <;> rfl)) | (simp [*, errW_none, errW_some] <;> rfl), bl_⟩

/-! ### impl_Stored: function 77 -/
def impl_Stored.l0 : Nat → Int → List (S142) → Int → Int → Option (Int)
 | 0, _, _, _, _ => none
 | k + 1, x3, x6, x7, x8 => if x8 < x7 then (if 0 ≤ x8 then (if x8 < (x6.length : Int) then ((impl_AddSat.f x3 ((rd_T142 x6 x8).f1)).bind fun t325 => (impl_Stored.l0 k t325 x6 x7 (wrap64 (x8 + 1)))) else (none)) else (none)) else (some x3)
def impl_Stored.f (k : Nat) (l0 : List (S142)) : Option (Int) := impl_Stored.l0 k 0 l0 (l0.length : Int) 0
theorem impl_Stored.mono_l : ∀ k, (∀ y0 y1 y2 y3, LeO (impl_Stored.l0 k y0 y1 y2 y3) (impl_Stored.l0 (k + 1) y0 y1 y2 y3))
 | 0 => fun _ _ _ _ r h => by simp [impl_Stored.l0] at h
 | k + 1 => by
  have ih0 := impl_Stored.mono_l k
  ·intro y0 y1 y2 y3
   unfold impl_Stored.l0
   repeat' first
   | (with_reducible exact ih0 _ _ _ _)
   | (with_reducible exact LeO.refl _)
   | (with_reducible exact LeO.none _)
   | (with_reducible refine LeO.ite ?_ ?_)
   | (with_reducible refine LeO.bind ?_ (fun _ => ?_))
theorem impl_Stored.mono : ∀ a0 k, LeO (impl_Stored.f k a0) (impl_Stored.f (k + 1) a0) := by
 intro a0 k
 have ih0 := impl_Stored.mono_l k
 unfold impl_Stored.f
 repeat' first
   | (with_reducible exact ih0 _ _ _ _)
   | (with_reducible exact LeO.refl _)
   | (with_reducible exact LeO.none _)
   | (with_reducible refine LeO.ite ?_ ?_)
   | (with_reducible refine LeO.bind ?_ (fun _ => ?_))
set_option maxHeartbeats 8000000 in
set_option maxRecDepth 100000 in
theorem impl_Stored.calls (k : Nat) (A0 : Option Addr) (c0 : Nat) (l0 : List (S142)) (r : Int) (w : World) (hr0 : Kd.C k142 w A0 l0.length l0) (hc0 : l0.length ≤ c0) (h : impl_Stored.f k l0 = some r) :
  Calls Try.prog 77 #[.slice A0 l0.length c0] w fun e w' => e = .returned (.int .i64 r) ∧ Below w.heap.size w w' := by
 have hu142 := Try.underlying142
 have HR0 := Aside0.mk hr0
 have HC0 := Aside0.mk hc0
 clear hr0 hc0
 have HB := Aside0.mk (Below.refl w.heap.size w)
 have H : (impl_Stored.l0 k 0 l0 (l0.length : Int) 0) = some r := h
 clear h
 have H' := Aside0.mk H
 clear H
 go_enter Try.func77, Try.ntmps77
 go_wp2
 go_loopg [3, 8] k (fun kq v3 v8 w' => ∃ (x3_1 : Int) (x8_1 : Int), v3 = .int .i64 x3_1 ∧ v8 = .int .i64 x8_1 ∧ Aside0 (impl_Stored.l0 kq x3_1 l0 (l0.length : Int) x8_1 = some r) ∧ Aside0 (kq ≤ k) ∧ Aside0 (Below w.heap.size w w'))
 case atStart => exact ⟨(0), (0), sp_, sp_, H', ⟨Nat.le_refl _⟩, ⟨bl_⟩⟩
 case round =>
  clear H'
  obtain ⟨x3_1, x8_1, rfl, rfl, HA, HK1, HB⟩ := hrel
  cases gk with
  | zero => exact absurd HA.out (by simp [impl_Stored.l0])
  | succ k1 =>
   have H := HA.out
   clear HA
   simp only [impl_Stored.l0] at H
   by_cases c2 : x8_1 < (l0.length : Int)
   ·rw [if_pos c2] at H
    have c2b0 : decide (x8_1 < (l0.length : Int)) = true := decide_eq_true c2
    clear c2
    by_cases c3 : 0 ≤ x8_1
    ·rw [if_pos c3] at H
     have c3b0 : decide (0 ≤ x8_1) = true := decide_eq_true c3
     clear c3
     by_cases c4 : x8_1 < (l0.length : Int)
     ·rw [if_pos c4] at H
      have c4b0 : decide (x8_1 < (l0.length : Int)) = true := decide_eq_true c4
      clear c4
      replace H := Option.bind_eq_some_iff.mp H
      obtain ⟨t325, A50, H⟩ := H
      replace H : (impl_Stored.l0 k1 t325 l0 (l0.length : Int) (wrap64 (x8_1 + 1))) = some r := H
      have A5 := Aside0.mk A50
      clear A50
      have H' := Aside0.mk H
      clear H
      have p323 : 0 ≤ (x8_1 : Int) := od_
      have q323 : x8_1 < (l0.length : Int) := od_
      obtain ⟨ad323, e323, hx323_0, hx323_1, hx323_2⟩ := at_T142 HR0.out x8_1 p323 q323
      cases e323
      replace hx323_0 := kc_ HB hx323_0
      replace hx323_1 := kc_ HB hx323_1
      replace hx323_2 := kc_ HB hx323_2
      replace p323 := eq_true p323
      replace q323 := eq_true q323
      go_wp2_with (first | ((with_reducible refine gate_dst (N := 5) rfl ?_); refine box_event ?hg (N := 5) ?hd (cs := #[.string (⟨#[]⟩ : ByteArray), .int .i64 0, .int .i64 0]) (t := 142) ?hr ?_; (case hd => rfl); (case hg => rfl); (case hr => first | (go_simp; done) | (go_simp; rfl)); intro gb324 hg w6 hbox hb; have n0_ := Aside0.mk (below_step bl_ hb); have n1_ := Aside0.mk (hbox); have n2_ := gw_ (w := w) hg; have n3_ := gw_ (w := w) hg; clear HB; have HB := n0_; have BK324 := n1_; have GW324 := n2_; have GE324 := n3_; clear n0_ n1_ n2_ n3_; clear hb hbox hg; have hcz7_0 := cz_ BK324 0 (.string (⟨#[]⟩ : ByteArray)); have hcz7_1 := cz_ BK324 1 (.int .i64 0); have hcz7_2 := cz_ BK324 2 (.int .i64 0); have hfz7_0 := fz_ BK324 0; have hfz7_1 := fz_ BK324 1; have hfz7_2 := fz_ BK324 2) | ((with_reducible refine gate_callee (f := 76) rfl ?_); refine goesL_ (some 15) rfl rfl Try.func76 (by kernel_rfl) rfl #[.int .i64 x3_1, .int .i64 ((rd_T142 l0 x8_1).f1)] rfl gl_ ?_; (with_reducible refine (impl_AddSat.calls x3_1 ((rd_T142 l0 x8_1).f1) t325 _ A5.out).mono ?_); rintro e w8 ⟨rfl, hb⟩; refine ⟨_, rfl, ?_⟩; have n0_ := Aside0.mk (blk_below (g := gb324) (o := .cells #[.string ((rd_T142 l0 x8_1).f0), .int .i64 ((rd_T142 l0 x8_1).f1), .int .i64 ((rd_T142 l0 x8_1).f2)] 142 (0, 0)) (by (with_reducible repeat (first | refine blk_drewN ?_ _ | refine blk_drew ?_ | refine blk_alloc ?_ _)); refine blk_put (cs := #[.string ((rd_T142 l0 x8_1).f0), .int .i64 ((rd_T142 l0 x8_1).f1), .int .i64 0]) ?_ 2 _ rfl; refine blk_put (cs := #[.string ((rd_T142 l0 x8_1).f0), .int .i64 0, .int .i64 0]) ?_ 1 _ rfl; refine blk_put (cs := #[.string (⟨#[]⟩ : ByteArray), .int .i64 0, .int .i64 0]) ?_ 0 _ rfl; (with_reducible repeat (first | refine blk_drewN ?_ _ | refine blk_drew ?_ | refine blk_alloc ?_ _)); exact BK324.out) hb); have n1_ := Aside0.mk (below_step bl_ hb); clear BK324; clear HB; have BK324 := n0_; have HB := n1_; clear n0_ n1_; (try clear hb); (try clear hb2); (try clear hk); (try clear hi)))
      go_roundg k1
      case measure => have := HK1.out; omega
      case rel => exact ⟨(t325), (wrap64 (x8_1 + 1)), sp_, sp_, H', ⟨by have := HK1.out; omega⟩, ⟨bl_⟩⟩
     ·rw [if_neg c4] at H
      exact absurd H (by simp)
    ·rw [if_neg c3] at H
     exact absurd H (by simp)
   ·rw [if_neg c2] at H
    have c2b0 : decide (x8_1 < (l0.length : Int)) = false := decide_eq_false c2
    clear c2
    obtain rfl := Option.some.inj H
    go_wp2
    go_ret
    exact ⟨sq_, bl_⟩
end Go.Proofs.Ytgcggfoailaalaa.QFnExactBookOk
