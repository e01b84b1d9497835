-- by my own printer (myprint.py, over the kit's print.py)
import Derived.Test.YtgcggfoailaalaaQFnExactBookOkx0
import Derived.Test.YtgcggfoailaalaaQFnExactBookOkx2
namespace Go.Proofs.Ytgcggfoailaalaa.QFnExactBookOk
open Go.RowKit Go.Proofs.YtgcggfoailaalaaW.PrintWords Go.Proofs.YtgcggfoailaalaaW.PrintLast Go.Proofs.YtgcggfoailaalaaW.PrintMore
attribute [local go_sem] max2_int min2_int max_two min_two max_three min_three max_four min_four   -- for this text's walks alone
set_option linter.unusedVariables false
set_option linter.unusedSimpArgs false
attribute [local go_sem] my_geq my_leq my_gtr
/-! ### spec_RingOk: function 63 -/
mutual
def spec_RingOk.j0 : Nat → Bool → Int → Int → List Int → List Int → Option (Bool)
 | 0, _, _, _, _, _ => none
 | k + 1, x29, x134000, x134001, x134002, x134003 => if x29 = true then (some false) else (spec_RingOk.l0 k (x134002.length : Int) 0 x134000 x134001 x134002 x134003)
def spec_RingOk.l0 : Nat → Int → Int → Int → Int → List Int → List Int → Option (Bool)
 | 0, _, _, _, _, _, _ => none
 | k + 1, x32, x33, x134000, x134001, x134002, x134003 => if x33 < x32 then (if 0 ≤ x33 then (if x33 < (x134002.length : Int) then ((spec_l01Money.f (rd x134002 x33)).bind fun t138 => (if t138 = true then (if x33 < (x134003.length : Int) then ((spec_l01Money.f (rd x134003 x33)).bind fun t140 => (if t140 = true then (spec_RingOk.l0 k x32 (wrap64 (x33 + 1)) x134000 x134001 x134002 x134003) else (some false))) else (none)) else (some false))) else (none)) else (none)) else (some true)
end
def spec_RingOk.f (k : Nat) (a0_0 : Int) (a0_1 : Int) (l0_2 : List Int) (l0_3 : List Int) : Option (Bool) := (spec_l01In.f a0_0 1 1000).bind fun t134 => (if t134 = true then ((spec_l01In.f (l0_2.length : Int) 1 8).bind fun t135 => (if t135 = true then (if (l0_3.length : Int) = (l0_2.length : Int) then ((spec_l06Time.f a0_1).bind fun t136 => (spec_RingOk.j0 k (!t136) a0_0 a0_1 l0_2 l0_3)) else (spec_RingOk.j0 k true a0_0 a0_1 l0_2 l0_3)) else (spec_RingOk.j0 k true a0_0 a0_1 l0_2 l0_3))) else (spec_RingOk.j0 k true a0_0 a0_1 l0_2 l0_3))
theorem spec_RingOk.mono_l : ∀ k, (∀ y0 y1 y2 y3 y4, LeO (spec_RingOk.j0 k y0 y1 y2 y3 y4) (spec_RingOk.j0 (k + 1) y0 y1 y2 y3 y4)) ∧ (∀ y0 y1 y2 y3 y4 y5, LeO (spec_RingOk.l0 k y0 y1 y2 y3 y4 y5) (spec_RingOk.l0 (k + 1) y0 y1 y2 y3 y4 y5))
 | 0 => ⟨fun _ _ _ _ _ r h => by simp [spec_RingOk.j0] at h, fun _ _ _ _ _ _ r h => by simp [spec_RingOk.l0] at h⟩
 | k + 1 => by
  obtain ⟨ih0, ih1⟩ := spec_RingOk.mono_l k
  refine ⟨?_, ?_⟩
  ·intro y0 y1 y2 y3 y4
   unfold spec_RingOk.j0
   repeat' first
   | (with_reducible exact ih0 _ _ _ _ _)
   | (with_reducible exact ih1 _ _ _ _ _ _)
   | (with_reducible exact LeO.refl _)
   | (with_reducible exact LeO.none _)
   | (with_reducible refine LeO.ite ?_ ?_)
   | (with_reducible refine LeO.bind ?_ (fun _ => ?_))
  ·intro y0 y1 y2 y3 y4 y5
   unfold spec_RingOk.l0
   repeat' first
   | (with_reducible exact ih0 _ _ _ _ _)
   | (with_reducible exact ih1 _ _ _ _ _ _)
   | (with_reducible exact LeO.refl _)
   | (with_reducible exact LeO.none _)
   | (with_reducible refine LeO.ite ?_ ?_)
   | (with_reducible refine LeO.bind ?_ (fun _ => ?_))
theorem spec_RingOk.mono : ∀ a0 a1 a2 a3 k, LeO (spec_RingOk.f k a0 a1 a2 a3) (spec_RingOk.f (k + 1) a0 a1 a2 a3) := by
 intro a0 a1 a2 a3 k
 obtain ⟨ih0, ih1⟩ := spec_RingOk.mono_l k
 unfold spec_RingOk.f
 repeat' first
   | (with_reducible exact ih0 _ _ _ _ _)
   | (with_reducible exact ih1 _ _ _ _ _ _)
   | (with_reducible exact LeO.refl _)
   | (with_reducible exact LeO.none _)
   | (with_reducible refine LeO.ite ?_ ?_)
   | (with_reducible refine LeO.bind ?_ (fun _ => ?_))
set_option maxHeartbeats 8000000 in
set_option maxRecDepth 100000 in
theorem spec_RingOk.calls (k : Nat) (a0_0 : Int) (a0_1 : Int) (A0_2 : Option Addr) (c0_2 : Nat) (l0_2 : List Int) (A0_3 : Option Addr) (c0_3 : Nat) (l0_3 : List Int) (r : Bool) (w : World) (hr0_2 : Kd.C (Kd.int .i64) w A0_2 l0_2.length l0_2) (hc0_2 : l0_2.length ≤ c0_2) (hr0_3 : Kd.C (Kd.int .i64) w A0_3 l0_3.length l0_3) (hc0_3 : l0_3.length ≤ c0_3) (h : spec_RingOk.f k a0_0 a0_1 l0_2 l0_3 = some r) :
  Calls Try.prog 63 #[.agg #[.int .i64 a0_0, .int .i64 a0_1, .slice A0_2 l0_2.length c0_2, .slice A0_3 l0_3.length c0_3]] w fun e w' => e = .returned (.bool r) ∧ Below w.heap.size w w' := by
 have hu45 := Try.underlying45
 have HR0_2 := Aside0.mk hr0_2
 have HC0_2 := Aside0.mk hc0_2
 clear hr0_2 hc0_2
 have HR0_3 := Aside0.mk hr0_3
 have HC0_3 := Aside0.mk hc0_3
 clear hr0_3 hc0_3
 have HB := Aside0.mk (Below.refl w.heap.size w)
 have H : ((spec_l01In.f a0_0 1 1000).bind fun t134 => (if t134 = true then ((spec_l01In.f (l0_2.length : Int) 1 8).bind fun t135 => (if t135 = true then (if (l0_3.length : Int) = (l0_2.length : Int) then ((spec_l06Time.f a0_1).bind fun t136 => (spec_RingOk.j0 k (!t136) a0_0 a0_1 l0_2 l0_3)) else (spec_RingOk.j0 k true a0_0 a0_1 l0_2 l0_3)) else (spec_RingOk.j0 k true a0_0 a0_1 l0_2 l0_3))) else (spec_RingOk.j0 k true a0_0 a0_1 l0_2 l0_3))) = some r := h
 clear h
 have HC2 := Aside0.mk H
 clear H
 go_enter Try.func63, Try.ntmps63
 go_upto_region 1 with (first | ((with_reducible refine gate_dst (N := 1) rfl ?_); (try (refine gate_guard (by rfl) ?_; dsimp only)); refine box_event ?hg (N := 1) ?hd (cs := #[.int .i64 a0_0, .int .i64 a0_1, .slice A0_2 l0_2.length c0_2, .slice A0_3 l0_3.length c0_3]) (t := 45) ?hr ?_; (case hd => rfl); (case hg => rfl); (case hr => first | (go_simp; done) | (go_simp; rfl)); intro gb133 hg w3 hbox hb; have n0_ := Aside0.mk (below_step bl_ hb); have n1_ := Aside0.mk (hbox); have n2_ := gw_ (w := w) hg; have n3_ := gw_ (w := w) hg; clear HB; have HB := n0_; have BK133 := n1_; have GW133 := n2_; have GE133 := n3_; clear n0_ n1_ n2_ n3_; clear hb hbox hg))
 (try simp only [Act.put, List.setIfInBounds_toArray, List.set_cons_zero, List.set_cons_succ])
 go_cut [29] (fun v29 wc => ∃ (kq : Nat) (x29_1 : Bool), v29 = .bool x29_1 ∧ Aside0 (spec_RingOk.j0 kq x29_1 a0_0 a0_1 l0_2 l0_3 = some r) ∧ Aside0 (kq ≤ k) ∧ Aside0 (wc.heap[gb133]? = some (.cells #[.int .i64 a0_0, .int .i64 a0_1, (.slice A0_2 l0_2.length c0_2), (.slice A0_3 l0_3.length c0_3)] 45 (0, 0))) ∧ Aside0 (Below w.heap.size w wc))
 case first =>
  have H := HC2.out
  clear HC2
  replace H := Option.bind_eq_some_iff.mp H
  obtain ⟨t134, A40, H⟩ := H
  replace H : (if t134 = true then ((spec_l01In.f (l0_2.length : Int) 1 8).bind fun t135 => (if t135 = true then (if (l0_3.length : Int) = (l0_2.length : Int) then ((spec_l06Time.f a0_1).bind fun t136 => (spec_RingOk.j0 k (!t136) a0_0 a0_1 l0_2 l0_3)) else (spec_RingOk.j0 k true a0_0 a0_1 l0_2 l0_3)) else (spec_RingOk.j0 k true a0_0 a0_1 l0_2 l0_3))) else (spec_RingOk.j0 k true a0_0 a0_1 l0_2 l0_3)) = some r := H
  have A4 := Aside0.mk A40
  clear A40
  by_cases c5 : t134 = true
  ·subst c5
   have H1 : ((spec_l01In.f (l0_2.length : Int) 1 8).bind fun t135 => (if t135 = true then (if (l0_3.length : Int) = (l0_2.length : Int) then ((spec_l06Time.f a0_1).bind fun t136 => (spec_RingOk.j0 k (!t136) a0_0 a0_1 l0_2 l0_3)) else (spec_RingOk.j0 k true a0_0 a0_1 l0_2 l0_3)) else (spec_RingOk.j0 k true a0_0 a0_1 l0_2 l0_3))) = some r := by rw [if_pos rfl] at H; exact H
   clear H
   have H := H1
   clear H1
   replace H := Option.bind_eq_some_iff.mp H
   obtain ⟨t135, A60, H⟩ := H
   replace H : (if t135 = true then (if (l0_3.length : Int) = (l0_2.length : Int) then ((spec_l06Time.f a0_1).bind fun t136 => (spec_RingOk.j0 k (!t136) a0_0 a0_1 l0_2 l0_3)) else (spec_RingOk.j0 k true a0_0 a0_1 l0_2 l0_3)) else (spec_RingOk.j0 k true a0_0 a0_1 l0_2 l0_3)) = some r := H
   have A6 := Aside0.mk A60
   clear A60
   by_cases c7 : t135 = true
   ·subst c7
    have H1 : (if (l0_3.length : Int) = (l0_2.length : Int) then ((spec_l06Time.f a0_1).bind fun t136 => (spec_RingOk.j0 k (!t136) a0_0 a0_1 l0_2 l0_3)) else (spec_RingOk.j0 k true a0_0 a0_1 l0_2 l0_3)) = some r := by rw [if_pos rfl] at H; exact H
    clear H
    have H := H1
    clear H1
    by_cases c8 : (l0_3.length : Int) = (l0_2.length : Int)
    ·rw [if_pos c8] at H
     have c8b0 : ((l0_3.length : Int) == (l0_2.length : Int)) = true := beq_iff_eq.mpr c8
     have c8b1 : ((l0_3.length : Int) != (l0_2.length : Int)) = false := bne_eq_false_iff_eq.mpr c8
     have c8b2 : (l0_3.length == l0_2.length) = true := by first | simpa using c8 | (simp at c8 ⊢; omega)
     clear c8
     (first | rw [c8b0] | (simp only [i64_w, i32_w]; rw [c8b0]) | skip)
     replace H := Option.bind_eq_some_iff.mp H
     obtain ⟨t136, A90, H⟩ := H
     replace H : (spec_RingOk.j0 k (!t136) a0_0 a0_1 l0_2 l0_3) = some r := H
     have A9 := Aside0.mk A90
     clear A90
     have H' := Aside0.mk H
     clear H
     have hcz10_0 := cz_ BK133 0 (.int .i64 a0_0)
     have hcz10_1 := cz_ BK133 1 (.int .i64 a0_1)
     have hcz10_2 := cz_ BK133 2 (.slice A0_2 l0_2.length c0_2)
     have hcz10_3 := cz_ BK133 3 (.slice A0_3 l0_3.length c0_3)
     
     
     
     
     go_wp2_with (first | ((with_reducible refine gate_callee (f := 60) rfl ?_); refine goesL_ (some 6) rfl rfl Try.func60 (by kernel_rfl) rfl #[.int .i64 a0_0, .int .i64 1, .int .i64 1000] rfl gl_ ?_; (with_reducible refine (spec_l01In.calls a0_0 1 1000 true _ A4.out).mono ?_); rintro e w' ⟨rfl, ⟨nd, rfl⟩⟩; refine ⟨_, rfl, ?_⟩) | (go_at_call 60; (with_reducible refine (spec_l01In.calls (l0_2.length : Int) 1 8 true _ A6.out).mono ?_); rintro e w' ⟨rfl, ⟨nd, rfl⟩⟩) | (go_at_call 89; (with_reducible refine (spec_l06Time.calls a0_1 t136 _ A9.out).mono ?_); rintro e w' ⟨rfl, ⟨nd, rfl⟩⟩))
     go_meet
     case rel => exact ⟨_, (!t136), sp_, H', ⟨by first | omega | exact Nat.le_refl _⟩, ⟨by (with_reducible repeat (first | refine blk_drewN ?_ _ | refine blk_drew ?_ | refine blk_alloc ?_ _)); exact BK133.out⟩, ⟨bl_⟩⟩
    ·rw [if_neg c8] at H
     have c8b0 : ((l0_3.length : Int) == (l0_2.length : Int)) = false := beq_eq_false_iff_ne.mpr c8
     have c8b1 : ((l0_3.length : Int) != (l0_2.length : Int)) = true := bne_iff_ne.mpr c8
     have c8b2 : (l0_3.length == l0_2.length) = false := by first | simpa using c8 | (simp at c8 ⊢; omega)
     (first | rw [c8b0] | (simp only [i64_w, i32_w]; rw [c8b0]) | skip)
     have H' := Aside0.mk H
     clear H
     have hcz11_0 := cz_ BK133 0 (.int .i64 a0_0)
     have hcz11_1 := cz_ BK133 1 (.int .i64 a0_1)
     have hcz11_2 := cz_ BK133 2 (.slice A0_2 l0_2.length c0_2)
     have hcz11_3 := cz_ BK133 3 (.slice A0_3 l0_3.length c0_3)
     
     
     
     
     go_wp2_with (first | ((with_reducible refine gate_callee (f := 60) rfl ?_); refine goesL_ (some 6) rfl rfl Try.func60 (by kernel_rfl) rfl #[.int .i64 a0_0, .int .i64 1, .int .i64 1000] rfl gl_ ?_; (with_reducible refine (spec_l01In.calls a0_0 1 1000 true _ A4.out).mono ?_); rintro e w' ⟨rfl, ⟨nd, rfl⟩⟩; refine ⟨_, rfl, ?_⟩) | (go_at_call 60; (with_reducible refine (spec_l01In.calls (l0_2.length : Int) 1 8 true _ A6.out).mono ?_); rintro e w' ⟨rfl, ⟨nd, rfl⟩⟩))
     go_meet
     case rel => exact ⟨_, (true), sp_, H', ⟨by first | omega | exact Nat.le_refl _⟩, ⟨by (with_reducible repeat (first | refine blk_drewN ?_ _ | refine blk_drew ?_ | refine blk_alloc ?_ _)); exact BK133.out⟩, ⟨bl_⟩⟩
   ·replace c7 := Bool.eq_false_iff.mpr c7
    subst c7
    have H1 : (spec_RingOk.j0 k true a0_0 a0_1 l0_2 l0_3) = some r := by rw [if_neg (show ¬ (false = true) by decide)] at H; exact H
    clear H
    have H := H1
    clear H1
    have H' := Aside0.mk H
    clear H
    have hcz12_0 := cz_ BK133 0 (.int .i64 a0_0)
    have hcz12_1 := cz_ BK133 1 (.int .i64 a0_1)
    have hcz12_2 := cz_ BK133 2 (.slice A0_2 l0_2.length c0_2)
    have hcz12_3 := cz_ BK133 3 (.slice A0_3 l0_3.length c0_3)
    
    
    
    
    go_wp2_with (first | ((with_reducible refine gate_callee (f := 60) rfl ?_); refine goesL_ (some 6) rfl rfl Try.func60 (by kernel_rfl) rfl #[.int .i64 a0_0, .int .i64 1, .int .i64 1000] rfl gl_ ?_; (with_reducible refine (spec_l01In.calls a0_0 1 1000 true _ A4.out).mono ?_); rintro e w' ⟨rfl, ⟨nd, rfl⟩⟩; refine ⟨_, rfl, ?_⟩) | (go_at_call 60; (with_reducible refine (spec_l01In.calls (l0_2.length : Int) 1 8 false _ A6.out).mono ?_); rintro e w' ⟨rfl, ⟨nd, rfl⟩⟩))
    go_meet
    case rel => exact ⟨_, (true), sp_, H', ⟨by first | omega | exact Nat.le_refl _⟩, ⟨by (with_reducible repeat (first | refine blk_drewN ?_ _ | refine blk_drew ?_ | refine blk_alloc ?_ _)); exact BK133.out⟩, ⟨bl_⟩⟩
  ·replace c5 := Bool.eq_false_iff.mpr c5
   subst c5
   have H1 : (spec_RingOk.j0 k true a0_0 a0_1 l0_2 l0_3) = some r := by rw [if_neg (show ¬ (false = true) by decide)] at H; exact H
   clear H
   have H := H1
   clear H1
   have H' := Aside0.mk H
   clear H
   have hcz13_0 := cz_ BK133 0 (.int .i64 a0_0)
   have hcz13_1 := cz_ BK133 1 (.int .i64 a0_1)
   have hcz13_2 := cz_ BK133 2 (.slice A0_2 l0_2.length c0_2)
   have hcz13_3 := cz_ BK133 3 (.slice A0_3 l0_3.length c0_3)
   
   
   
   
   go_wp2_with (first | ((with_reducible refine gate_callee (f := 60) rfl ?_); refine goesL_ (some 6) rfl rfl Try.func60 (by kernel_rfl) rfl #[.int .i64 a0_0, .int .i64 1, .int .i64 1000] rfl gl_ ?_; (with_reducible refine (spec_l01In.calls a0_0 1 1000 false _ A4.out).mono ?_); rintro e w' ⟨rfl, ⟨nd, rfl⟩⟩; refine ⟨_, rfl, ?_⟩))
   go_meet
   case rel => exact ⟨_, (true), sp_, H', ⟨by first | omega | exact Nat.le_refl _⟩, ⟨by (with_reducible repeat (first | refine blk_drewN ?_ _ | refine blk_drew ?_ | refine blk_alloc ?_ _)); exact BK133.out⟩, ⟨bl_⟩⟩
 case rest =>
  clear HC2
  try clear p2
  try clear c5
  try clear c6
  try clear c7
  try clear c8
  try clear c8b0
  try clear c8b1
  try clear c8b2
  try clear hcz10_0
  try clear hcz10_1
  try clear hcz10_2
  try clear hcz10_3
  try clear hcz11_0
  try clear hcz11_1
  try clear hcz11_2
  try clear hcz11_3
  try clear hcz12_0
  try clear hcz12_1
  try clear hcz12_2
  try clear hcz12_3
  try clear hcz13_0
  try clear hcz13_1
  try clear hcz13_2
  try clear hcz13_3
  obtain ⟨kq, x29_1, rfl, HA, HJ1, BK133, HB⟩ := hcut
  cases kq with
  | zero => exact absurd HA.out (by simp [spec_RingOk.j0])
  | succ kj1 =>
   have H := HA.out
   clear HA
   simp only [spec_RingOk.j0] at H
   by_cases c14 : x29_1 = true
   ·subst c14
    have H1 : (some false) = some r := by rw [if_pos rfl] at H; exact H
    clear H
    have H := H1
    clear H1
    obtain rfl := Option.some.inj H
    go_wp2
    go_ret
    exact ⟨sq_, bl_⟩
   ·replace c14 := Bool.eq_false_iff.mpr c14
    subst c14
    have H1 : (spec_RingOk.l0 kj1 (l0_2.length : Int) 0 a0_0 a0_1 l0_2 l0_3) = some r := by rw [if_neg (show ¬ (false = true) by decide)] at H; exact H
    clear H
    have H := H1
    clear H1
    have H' := Aside0.mk H
    clear H
    have hcz15_0 := cz_ BK133 0 (.int .i64 a0_0)
    have hcz15_1 := cz_ BK133 1 (.int .i64 a0_1)
    have hcz15_2 := cz_ BK133 2 (.slice A0_2 l0_2.length c0_2)
    have hcz15_3 := cz_ BK133 3 (.slice A0_3 l0_3.length c0_3)
    
    
    
    
    go_wp2
    go_loopg [33] kj1 (fun kq v33 w' => ∃ (x33_2 : Int), v33 = .int .i64 x33_2 ∧ Aside0 (spec_RingOk.l0 kq (l0_2.length : Int) x33_2 a0_0 a0_1 l0_2 l0_3 = some r) ∧ Aside0 (kq ≤ kj1) ∧ Aside0 (w'.heap[gb133]? = some (.cells #[.int .i64 a0_0, .int .i64 a0_1, (.slice A0_2 l0_2.length c0_2), (.slice A0_3 l0_3.length c0_3)] 45 (0, 0))) ∧ Aside0 (Below w.heap.size w w'))
    case atStart => exact ⟨(0), sp_, H', ⟨Nat.le_refl _⟩, ⟨by (with_reducible repeat (first | refine blk_drewN ?_ _ | refine blk_drew ?_ | refine blk_alloc ?_ _)); exact BK133.out⟩, ⟨bl_⟩⟩
    case round =>
     clear H'
     try clear c1
     try clear p2
     try clear c5
     try clear c6
     try clear c7
     try clear c8
     try clear c8b0
     try clear c8b1
     try clear c8b2
     try clear c14
     try clear hcz10_0
     try clear hcz10_1
     try clear hcz10_2
     try clear hcz10_3
     try clear hcz11_0
     try clear hcz11_1
     try clear hcz11_2
     try clear hcz11_3
     try clear hcz12_0
     try clear hcz12_1
     try clear hcz12_2
     try clear hcz12_3
     try clear hcz13_0
     try clear hcz13_1
     try clear hcz13_2
     try clear hcz13_3
     try clear hcz15_0
     try clear hcz15_1
     try clear hcz15_2
     try clear hcz15_3
     try clear p2
     obtain ⟨x33_2, rfl, HA, HK2, BK133, HB⟩ := hrel
     cases gk with
     | zero => exact absurd HA.out (by simp [spec_RingOk.l0])
     | succ k2 =>
      have H := HA.out
      clear HA
      simp only [spec_RingOk.l0] at H
      by_cases c16 : x33_2 < (l0_2.length : Int)
      ·rw [if_pos c16] at H
       have c16b0 : decide (x33_2 < (l0_2.length : Int)) = true := decide_eq_true c16
       clear c16
       by_cases c17 : 0 ≤ x33_2
       ·rw [if_pos c17] at H
        have c17b0 : decide (0 ≤ x33_2) = true := decide_eq_true c17
        clear c17
        by_cases c18 : x33_2 < (l0_2.length : Int)
        ·rw [if_pos c18] at H
         have c18b0 : decide (x33_2 < (l0_2.length : Int)) = true := decide_eq_true c18
         clear c18
         replace H := Option.bind_eq_some_iff.mp H
         obtain ⟨t138, A190, H⟩ := H
         replace H : (if t138 = true then (if x33_2 < (l0_3.length : Int) then ((spec_l01Money.f (rd l0_3 x33_2)).bind fun t140 => (if t140 = true then (spec_RingOk.l0 k2 (l0_2.length : Int) (wrap64 (x33_2 + 1)) a0_0 a0_1 l0_2 l0_3) else (some false))) else (none)) else (some false)) = some r := H
         have A19 := Aside0.mk A190
         clear A190
         by_cases c20 : t138 = true
         ·subst c20
          have H1 : (if x33_2 < (l0_3.length : Int) then ((spec_l01Money.f (rd l0_3 x33_2)).bind fun t140 => (if t140 = true then (spec_RingOk.l0 k2 (l0_2.length : Int) (wrap64 (x33_2 + 1)) a0_0 a0_1 l0_2 l0_3) else (some false))) else (none)) = some r := by rw [if_pos rfl] at H; exact H
          clear H
          have H := H1
          clear H1
          by_cases c21 : x33_2 < (l0_3.length : Int)
          ·rw [if_pos c21] at H
           have c21b0 : decide (x33_2 < (l0_3.length : Int)) = true := decide_eq_true c21
           clear c21
           replace H := Option.bind_eq_some_iff.mp H
           obtain ⟨t140, A220, H⟩ := H
           replace H : (if t140 = true then (spec_RingOk.l0 k2 (l0_2.length : Int) (wrap64 (x33_2 + 1)) a0_0 a0_1 l0_2 l0_3) else (some false)) = some r := H
           have A22 := Aside0.mk A220
           clear A220
           by_cases c23 : t140 = true
           ·subst c23
            have H1 : (spec_RingOk.l0 k2 (l0_2.length : Int) (wrap64 (x33_2 + 1)) a0_0 a0_1 l0_2 l0_3) = some r := by rw [if_pos rfl] at H; exact H
            clear H
            have H := H1
            clear H1
            have H' := Aside0.mk H
            clear H
            have hcz24_0 := cz_ BK133 0 (.int .i64 a0_0)
            have hcz24_1 := cz_ BK133 1 (.int .i64 a0_1)
            have hcz24_2 := cz_ BK133 2 (.slice A0_2 l0_2.length c0_2)
            have hcz24_3 := cz_ BK133 3 (.slice A0_3 l0_3.length c0_3)
            
            
            
            
            have p137 : 0 ≤ (x33_2 : Int) := od_
            have q137 : x33_2 < (l0_2.length : Int) := od_
            obtain ⟨ad137, e137, hx137_0⟩ := Kd.at_int HR0_2.out x33_2 p137 q137
            cases e137
            replace hx137_0 := kc_ HB hx137_0
            replace p137 := eq_true p137
            replace q137 := eq_true q137
            go_wp2_with (first | ((with_reducible refine gate_callee (f := 61) rfl ?_); refine goesL_ (some 41) rfl rfl Try.func61 (by kernel_rfl) rfl #[.int .i64 (rd l0_2 x33_2)] rfl gl_ ?_; (with_reducible refine (spec_l01Money.calls (rd l0_2 x33_2) true _ A19.out).mono ?_); rintro e w' ⟨rfl, ⟨nd, rfl⟩⟩; refine ⟨_, rfl, ?_⟩; have p139 : 0 ≤ (x33_2 : Int) := od_; have q139 : x33_2 < (l0_3.length : Int) := od_; obtain ⟨ad139, e139, hx139_0⟩ := Kd.at_int HR0_3.out x33_2 p139 q139; cases e139; replace hx139_0 := kc_ HB hx139_0; replace p139 := eq_true p139; replace q139 := eq_true q139) | (go_at_call 61; (with_reducible refine (spec_l01Money.calls (rd l0_3 x33_2) true _ A22.out).mono ?_); rintro e w' ⟨rfl, ⟨nd, rfl⟩⟩))
            go_roundg k2
            case measure => have := HJ1.out; have := HK2.out; omega
            case rel => exact ⟨(wrap64 (x33_2 + 1)), sp_, H', ⟨by have := HJ1.out; have := HK2.out; omega⟩, ⟨by (with_reducible repeat (first | refine blk_drewN ?_ _ | refine blk_drew ?_ | refine blk_alloc ?_ _)); exact BK133.out⟩, ⟨bl_⟩⟩
           ·replace c23 := Bool.eq_false_iff.mpr c23
            subst c23
            have H1 : (some false) = some r := by rw [if_neg (show ¬ (false = true) by decide)] at H; exact H
            clear H
            have H := H1
            clear H1
            obtain rfl := Option.some.inj H
            have hcz25_0 := cz_ BK133 0 (.int .i64 a0_0)
            have hcz25_1 := cz_ BK133 1 (.int .i64 a0_1)
            have hcz25_2 := cz_ BK133 2 (.slice A0_2 l0_2.length c0_2)
            have hcz25_3 := cz_ BK133 3 (.slice A0_3 l0_3.length c0_3)
            
            
            
            
            have p137 : 0 ≤ (x33_2 : Int) := od_
            have q137 : x33_2 < (l0_2.length : Int) := od_
            obtain ⟨ad137, e137, hx137_0⟩ := Kd.at_int HR0_2.out x33_2 p137 q137
            cases e137
            replace hx137_0 := kc_ HB hx137_0
            replace p137 := eq_true p137
            replace q137 := eq_true q137
            go_wp2_with (first | ((with_reducible refine gate_callee (f := 61) rfl ?_); refine goesL_ (some 41) rfl rfl Try.func61 (by kernel_rfl) rfl #[.int .i64 (rd l0_2 x33_2)] rfl gl_ ?_; (with_reducible refine (spec_l01Money.calls (rd l0_2 x33_2) true _ A19.out).mono ?_); rintro e w' ⟨rfl, ⟨nd, rfl⟩⟩; refine ⟨_, rfl, ?_⟩; have p139 : 0 ≤ (x33_2 : Int) := od_; have q139 : x33_2 < (l0_3.length : Int) := od_; obtain ⟨ad139, e139, hx139_0⟩ := Kd.at_int HR0_3.out x33_2 p139 q139; cases e139; replace hx139_0 := kc_ HB hx139_0; replace p139 := eq_true p139; replace q139 := eq_true q139) | (go_at_call 61; (with_reducible refine (spec_l01Money.calls (rd l0_3 x33_2) false _ A22.out).mono ?_); rintro e w' ⟨rfl, ⟨nd, rfl⟩⟩))
            go_ret
            exact ⟨sq_, bl_⟩
          ·rw [if_neg c21] at H
           exact absurd H (by simp)
         ·replace c20 := Bool.eq_false_iff.mpr c20
          subst c20
          have H1 : (some false) = some r := by rw [if_neg (show ¬ (false = true) by decide)] at H; exact H
          clear H
          have H := H1
          clear H1
          obtain rfl := Option.some.inj H
          have hcz26_0 := cz_ BK133 0 (.int .i64 a0_0)
          have hcz26_1 := cz_ BK133 1 (.int .i64 a0_1)
          have hcz26_2 := cz_ BK133 2 (.slice A0_2 l0_2.length c0_2)
          have hcz26_3 := cz_ BK133 3 (.slice A0_3 l0_3.length c0_3)
          
          
          
          
          have p137 : 0 ≤ (x33_2 : Int) := od_
          have q137 : x33_2 < (l0_2.length : Int) := od_
          obtain ⟨ad137, e137, hx137_0⟩ := Kd.at_int HR0_2.out x33_2 p137 q137
          cases e137
          replace hx137_0 := kc_ HB hx137_0
          replace p137 := eq_true p137
          replace q137 := eq_true q137
          go_wp2_with (first | ((with_reducible refine gate_callee (f := 61) rfl ?_); refine goesL_ (some 41) rfl rfl Try.func61 (by kernel_rfl) rfl #[.int .i64 (rd l0_2 x33_2)] rfl gl_ ?_; (with_reducible refine (spec_l01Money.calls (rd l0_2 x33_2) false _ A19.out).mono ?_); rintro e w' ⟨rfl, ⟨nd, rfl⟩⟩; refine ⟨_, rfl, ?_⟩))
          go_ret
          exact ⟨sq_, bl_⟩
        ·rw [if_neg c18] at H
         exact absurd H (by simp)
       ·rw [if_neg c17] at H
        exact absurd H (by simp)
      ·rw [if_neg c16] at H
       have c16b0 : decide (x33_2 < (l0_2.length : Int)) = false := decide_eq_false c16
       clear c16
       obtain rfl := Option.some.inj H
       go_wp2
       go_ret
       exact ⟨sq_, bl_⟩

/-! ### spec_SlotOk: function 126 -/
def spec_SlotOk.f (k : Nat) (a0_0 : ByteArray) (a0_1 : ByteArray) (l0_2 : List Int) : Option (Bool) := (spec_Digits.f k a0_0).bind fun t142 => (if t142 = true then (if (a0_0.size : Int) = 6 then ((spec_Digits.f k a0_1).bind fun t143 => (if t143 = true then (if (a0_1.size : Int) = 4 then ((spec_l01In.f (l0_2.length : Int) 1 200).bind fun t144 => (some t144)) else (some false)) else (some false))) else (some false)) else (some false))
theorem spec_SlotOk.mono : ∀ a0 a1 a2 k, LeO (spec_SlotOk.f k a0 a1 a2) (spec_SlotOk.f (k + 1) a0 a1 a2) := by
 intro a0 a1 a2 k
 unfold spec_SlotOk.f
 repeat' first
   | (with_reducible exact spec_Digits.mono _ _)
   | (with_reducible exact LeO.refl _)
   | (with_reducible exact LeO.none _)
   | (with_reducible refine LeO.ite ?_ ?_)
   | (with_reducible refine LeO.bind ?_ (fun _ => ?_))
set_option maxHeartbeats 8000000 in
set_option maxRecDepth 100000 in
theorem spec_SlotOk.calls (k : Nat) (a0_0 : ByteArray) (a0_1 : ByteArray) (A0_2 : Option Addr) (c0_2 : Nat) (l0_2 : List Int) (r : Bool) (w : World) (hr0_2 : Kd.C (Kd.int .u8) w A0_2 l0_2.length l0_2) (hc0_2 : l0_2.length ≤ c0_2) (h : spec_SlotOk.f k a0_0 a0_1 l0_2 = some r) :
  Calls Try.prog 126 #[.agg #[.string a0_0, .string a0_1, .slice A0_2 l0_2.length c0_2]] w fun e w' => e = .returned (.bool r) ∧ Below w.heap.size w w' := by
 have hu144 := Try.underlying144
 have HR0_2 := Aside0.mk hr0_2
 have HC0_2 := Aside0.mk hc0_2
 clear hr0_2 hc0_2
 have HB := Aside0.mk (Below.refl w.heap.size w)
 have H : ((spec_Digits.f k a0_0).bind fun t142 => (if t142 = true then (if (a0_0.size : Int) = 6 then ((spec_Digits.f k a0_1).bind fun t143 => (if t143 = true then (if (a0_1.size : Int) = 4 then ((spec_l01In.f (l0_2.length : Int) 1 200).bind fun t144 => (some t144)) else (some false)) else (some false))) else (some false)) else (some false))) = some r := h
 clear h
 replace H := Option.bind_eq_some_iff.mp H
 obtain ⟨t142, A20, H⟩ := H
 replace H : (if t142 = true then (if (a0_0.size : Int) = 6 then ((spec_Digits.f k a0_1).bind fun t143 => (if t143 = true then (if (a0_1.size : Int) = 4 then ((spec_l01In.f (l0_2.length : Int) 1 200).bind fun t144 => (some t144)) else (some false)) else (some false))) else (some false)) else (some false)) = some r := H
 have A2 := Aside0.mk A20
 clear A20
 by_cases c3 : t142 = true
 ·subst c3
  have H1 : (if (a0_0.size : Int) = 6 then ((spec_Digits.f k a0_1).bind fun t143 => (if t143 = true then (if (a0_1.size : Int) = 4 then ((spec_l01In.f (l0_2.length : Int) 1 200).bind fun t144 => (some t144)) else (some false)) else (some false))) else (some false)) = some r := by rw [if_pos rfl] at H; exact H
  clear H
  have H := H1
  clear H1
  by_cases c4 : (a0_0.size : Int) = 6
  ·rw [if_pos c4] at H
   have c4b0 : ((a0_0.size : Int) == 6) = true := beq_iff_eq.mpr c4
   have c4b1 : ((a0_0.size : Int) != 6) = false := bne_eq_false_iff_eq.mpr c4
   clear c4
   replace H := Option.bind_eq_some_iff.mp H
   obtain ⟨t143, A50, H⟩ := H
   replace H : (if t143 = true then (if (a0_1.size : Int) = 4 then ((spec_l01In.f (l0_2.length : Int) 1 200).bind fun t144 => (some t144)) else (some false)) else (some false)) = some r := H
   have A5 := Aside0.mk A50
   clear A50
   by_cases c6 : t143 = true
   ·subst c6
    have H1 : (if (a0_1.size : Int) = 4 then ((spec_l01In.f (l0_2.length : Int) 1 200).bind fun t144 => (some t144)) else (some false)) = some r := by rw [if_pos rfl] at H; exact H
    clear H
    have H := H1
    clear H1
    by_cases c7 : (a0_1.size : Int) = 4
    ·rw [if_pos c7] at H
     have c7b0 : ((a0_1.size : Int) == 4) = true := beq_iff_eq.mpr c7
     have c7b1 : ((a0_1.size : Int) != 4) = false := bne_eq_false_iff_eq.mpr c7
     clear c7
     replace H := Option.bind_eq_some_iff.mp H
     obtain ⟨t144, A80, H⟩ := H
     replace H : (some t144) = some r := H
     have A8 := Aside0.mk A80
     clear A80
     obtain rfl := Option.some.inj H
     go_enter Try.func126, Try.ntmps126
     go_wp2_with (first | ((with_reducible refine gate_dst (N := 1) rfl ?_); (try (refine gate_guard (by rfl) ?_; dsimp only)); refine box_event ?hg (N := 1) ?hd (cs := #[.string a0_0, .string a0_1, .slice A0_2 l0_2.length c0_2]) (t := 144) ?hr ?_; (case hd => rfl); (case hg => rfl); (case hr => first | (go_simp; done) | (go_simp; rfl)); intro gb141 hg w9 hbox hb; have n0_ := Aside0.mk (below_step bl_ hb); have n1_ := Aside0.mk (hbox); have n2_ := gw_ (w := w) hg; have n3_ := gw_ (w := w) hg; clear HB; have HB := n0_; have BK141 := n1_; have GW141 := n2_; have GE141 := n3_; clear n0_ n1_ n2_ n3_; clear hb hbox hg; have hcz10_0 := cz_ BK141 0 (.string a0_0); have hcz10_1 := cz_ BK141 1 (.string a0_1); have hcz10_2 := cz_ BK141 2 (.slice A0_2 l0_2.length c0_2); have hfz10_0 := fz_ BK141 0; have hfz10_1 := fz_ BK141 1; have hfz10_2 := fz_ BK141 2) | ((with_reducible refine gate_callee (f := 154) rfl ?_); refine goesL_ (some 5) rfl rfl Try.func154 (by kernel_rfl) rfl #[.string a0_0] rfl gl_ ?_; (with_reducible refine (spec_Digits.calls k a0_0 true _ A2.out).mono ?_); rintro e w' ⟨rfl, ⟨nd, rfl⟩⟩; refine ⟨_, rfl, ?_⟩) | (go_at_call 154; (with_reducible refine (spec_Digits.calls k a0_1 true _ A5.out).mono ?_); rintro e w' ⟨rfl, ⟨nd, rfl⟩⟩) | (go_at_call 60; (with_reducible refine (spec_l01In.calls (l0_2.length : Int) 1 200 t144 _ A8.out).mono ?_); rintro e w' ⟨rfl, ⟨nd, rfl⟩⟩))
     go_ret
     exact ⟨sq_, bl_⟩
    ·rw [if_neg c7] at H
     have c7b0 : ((a0_1.size : Int) == 4) = false := beq_eq_false_iff_ne.mpr c7
     have c7b1 : ((a0_1.size : Int) != 4) = true := bne_iff_ne.mpr c7
     obtain rfl := Option.some.inj H
     go_enter Try.func126, Try.ntmps126
     go_wp2_with (first | ((with_reducible refine gate_dst (N := 1) rfl ?_); (try (refine gate_guard (by rfl) ?_; dsimp only)); refine box_event ?hg (N := 1) ?hd (cs := #[.string a0_0, .string a0_1, .slice A0_2 l0_2.length c0_2]) (t := 144) ?hr ?_; (case hd => rfl); (case hg => rfl); (case hr => first | (go_simp; done) | (go_simp; rfl)); intro gb141 hg w11 hbox hb; have n0_ := Aside0.mk (below_step bl_ hb); have n1_ := Aside0.mk (hbox); have n2_ := gw_ (w := w) hg; have n3_ := gw_ (w := w) hg; clear HB; have HB := n0_; have BK141 := n1_; have GW141 := n2_; have GE141 := n3_; clear n0_ n1_ n2_ n3_; clear hb hbox hg; have hcz12_0 := cz_ BK141 0 (.string a0_0); have hcz12_1 := cz_ BK141 1 (.string a0_1); have hcz12_2 := cz_ BK141 2 (.slice A0_2 l0_2.length c0_2); have hfz12_0 := fz_ BK141 0; have hfz12_1 := fz_ BK141 1; have hfz12_2 := fz_ BK141 2) | ((with_reducible refine gate_callee (f := 154) rfl ?_); refine goesL_ (some 5) rfl rfl Try.func154 (by kernel_rfl) rfl #[.string a0_0] rfl gl_ ?_; (with_reducible refine (spec_Digits.calls k a0_0 true _ A2.out).mono ?_); rintro e w' ⟨rfl, ⟨nd, rfl⟩⟩; refine ⟨_, rfl, ?_⟩) | (go_at_call 154; (with_reducible refine (spec_Digits.calls k a0_1 true _ A5.out).mono ?_); rintro e w' ⟨rfl, ⟨nd, rfl⟩⟩))
     go_ret
     exact ⟨sq_, bl_⟩
   ·replace c6 := Bool.eq_false_iff.mpr c6
    subst c6
    have H1 : (some false) = some r := by rw [if_neg (show ¬ (false = true) by decide)] at H; exact H
    clear H
    have H := H1
    clear H1
    obtain rfl := Option.some.inj H
    go_enter Try.func126, Try.ntmps126
    go_wp2_with (first | ((with_reducible refine gate_dst (N := 1) rfl ?_); (try (refine gate_guard (by rfl) ?_; dsimp only)); refine box_event ?hg (N := 1) ?hd (cs := #[.string a0_0, .string a0_1, .slice A0_2 l0_2.length c0_2]) (t := 144) ?hr ?_; (case hd => rfl); (case hg => rfl); (case hr => first | (go_simp; done) | (go_simp; rfl)); intro gb141 hg w13 hbox hb; have n0_ := Aside0.mk (below_step bl_ hb); have n1_ := Aside0.mk (hbox); have n2_ := gw_ (w := w) hg; have n3_ := gw_ (w := w) hg; clear HB; have HB := n0_; have BK141 := n1_; have GW141 := n2_; have GE141 := n3_; clear n0_ n1_ n2_ n3_; clear hb hbox hg; have hcz14_0 := cz_ BK141 0 (.string a0_0); have hcz14_1 := cz_ BK141 1 (.string a0_1); have hcz14_2 := cz_ BK141 2 (.slice A0_2 l0_2.length c0_2); have hfz14_0 := fz_ BK141 0; have hfz14_1 := fz_ BK141 1; have hfz14_2 := fz_ BK141 2) | ((with_reducible refine gate_callee (f := 154) rfl ?_); refine goesL_ (some 5) rfl rfl Try.func154 (by kernel_rfl) rfl #[.string a0_0] rfl gl_ ?_; (with_reducible refine (spec_Digits.calls k a0_0 true _ A2.out).mono ?_); rintro e w' ⟨rfl, ⟨nd, rfl⟩⟩; refine ⟨_, rfl, ?_⟩) | (go_at_call 154; (with_reducible refine (spec_Digits.calls k a0_1 false _ A5.out).mono ?_); rintro e w' ⟨rfl, ⟨nd, rfl⟩⟩))
    go_ret
    exact ⟨sq_, bl_⟩
  ·rw [if_neg c4] at H
   have c4b0 : ((a0_0.size : Int) == 6) = false := beq_eq_false_iff_ne.mpr c4
   have c4b1 : ((a0_0.size : Int) != 6) = true := bne_iff_ne.mpr c4
   obtain rfl := Option.some.inj H
   go_enter Try.func126, Try.ntmps126
   go_wp2_with (first | ((with_reducible refine gate_dst (N := 1) rfl ?_); (try (refine gate_guard (by rfl) ?_; dsimp only)); refine box_event ?hg (N := 1) ?hd (cs := #[.string a0_0, .string a0_1, .slice A0_2 l0_2.length c0_2]) (t := 144) ?hr ?_; (case hd => rfl); (case hg => rfl); (case hr => first | (go_simp; done) | (go_simp; rfl)); intro gb141 hg w15 hbox hb; have n0_ := Aside0.mk (below_step bl_ hb); have n1_ := Aside0.mk (hbox); have n2_ := gw_ (w := w) hg; have n3_ := gw_ (w := w) hg; clear HB; have HB := n0_; have BK141 := n1_; have GW141 := n2_; have GE141 := n3_; clear n0_ n1_ n2_ n3_; clear hb hbox hg; have hcz16_0 := cz_ BK141 0 (.string a0_0); have hcz16_1 := cz_ BK141 1 (.string a0_1); have hcz16_2 := cz_ BK141 2 (.slice A0_2 l0_2.length c0_2); have hfz16_0 := fz_ BK141 0; have hfz16_1 := fz_ BK141 1; have hfz16_2 := fz_ BK141 2) | ((with_reducible refine gate_callee (f := 154) rfl ?_); refine goesL_ (some 5) rfl rfl Try.func154 (by kernel_rfl) rfl #[.string a0_0] rfl gl_ ?_; (with_reducible refine (spec_Digits.calls k a0_0 true _ A2.out).mono ?_); rintro e w' ⟨rfl, ⟨nd, rfl⟩⟩; refine ⟨_, rfl, ?_⟩))
   go_ret
   exact ⟨sq_, bl_⟩
 ·replace c3 := Bool.eq_false_iff.mpr c3
  subst c3
  have H1 : (some false) = some r := by rw [if_neg (show ¬ (false = true) by decide)] at H; exact H
  clear H
  have H := H1
  clear H1
  obtain rfl := Option.some.inj H
  go_enter Try.func126, Try.ntmps126
  go_wp2_with (first | ((with_reducible refine gate_dst (N := 1) rfl ?_); (try (refine gate_guard (by rfl) ?_; dsimp only)); refine box_event ?hg (N := 1) ?hd (cs := #[.string a0_0, .string a0_1, .slice A0_2 l0_2.length c0_2]) (t := 144) ?hr ?_; (case hd => rfl); (case hg => rfl); (case hr => first | (go_simp; done) | (go_simp; rfl)); intro gb141 hg w17 hbox hb; have n0_ := Aside0.mk (below_step bl_ hb); have n1_ := Aside0.mk (hbox); have n2_ := gw_ (w := w) hg; have n3_ := gw_ (w := w) hg; clear HB; have HB := n0_; have BK141 := n1_; have GW141 := n2_; have GE141 := n3_; clear n0_ n1_ n2_ n3_; clear hb hbox hg; have hcz18_0 := cz_ BK141 0 (.string a0_0); have hcz18_1 := cz_ BK141 1 (.string a0_1); have hcz18_2 := cz_ BK141 2 (.slice A0_2 l0_2.length c0_2); have hfz18_0 := fz_ BK141 0; have hfz18_1 := fz_ BK141 1; have hfz18_2 := fz_ BK141 2) | ((with_reducible refine gate_callee (f := 154) rfl ?_); refine goesL_ (some 5) rfl rfl Try.func154 (by kernel_rfl) rfl #[.string a0_0] rfl gl_ ?_; (with_reducible refine (spec_Digits.calls k a0_0 false _ A2.out).mono ?_); rintro e w' ⟨rfl, ⟨nd, rfl⟩⟩; refine ⟨_, rfl, ?_⟩))
  go_ret
  exact ⟨sq_, bl_⟩

/-! ### spec_SlotsOk: function 64 -/
mutual
def spec_SlotsOk.l0 : Nat → List (S144) → List (S144) → Int → Int → Option (Bool)
 | 0, _, _, _, _ => none
 | k + 1, x0, x7, x8, x9 => if x9 < x8 then (if 0 ≤ x9 then (if x9 < (x7.length : Int) then ((spec_SlotOk.f k ((rd_T144 x7 x9).f0) ((rd_T144 x7 x9).f1) ((rd_T144 x7 x9).f2)).bind fun t147 => (if t147 = true then (if x9 ≤ (x0.length : Int) then ((some (x0.take (x9 : Int).toNat : List (S144))).bind fun y148 => (spec_SlotsOk.l1 k x0 x7 x8 x9 y148 (y148.length : Int) 0 ((rd_T144 x7 x9).f0) ((rd_T144 x7 x9).f1) ((rd_T144 x7 x9).f2))) else (none)) else (some false))) else (none)) else (none)) else (some (decide ((x0.length : Int) ≤ 6)))
def spec_SlotsOk.l1 : Nat → List (S144) → List (S144) → Int → Int → List (S144) → Int → Int → ByteArray → ByteArray → List Int → Option (Bool)
 | 0, _, _, _, _, _, _, _, _, _, _ => none
 | k + 1, x0, x7, x8, x9, x19, x20, x21, x147000, x147001, x147002 => if x21 < x20 then (if 0 ≤ x21 then (if x21 < (x19.length : Int) then (if ((rd_T144 x19 x21).f0).toList = x147000.toList then (if ((rd_T144 x19 x21).f1).toList = x147001.toList then (some false) else (spec_SlotsOk.l1 k x0 x7 x8 x9 x19 x20 (wrap64 (x21 + 1)) x147000 x147001 x147002)) else (spec_SlotsOk.l1 k x0 x7 x8 x9 x19 x20 (wrap64 (x21 + 1)) x147000 x147001 x147002)) else (none)) else (none)) else (spec_SlotsOk.l0 k x0 x7 x8 (wrap64 (x9 + 1)))
end
def spec_SlotsOk.f (k : Nat) (l0 : List (S144)) : Option (Bool) := spec_SlotsOk.l0 k l0 l0 (l0.length : Int) 0
theorem spec_SlotsOk.mono_l : ∀ k, (∀ y0 y1 y2 y3, LeO (spec_SlotsOk.l0 k y0 y1 y2 y3) (spec_SlotsOk.l0 (k + 1) y0 y1 y2 y3)) ∧ (∀ y0 y1 y2 y3 y4 y5 y6 y7 y8 y9, LeO (spec_SlotsOk.l1 k y0 y1 y2 y3 y4 y5 y6 y7 y8 y9) (spec_SlotsOk.l1 (k + 1) y0 y1 y2 y3 y4 y5 y6 y7 y8 y9))
 | 0 => ⟨fun _ _ _ _ r h => by simp [spec_SlotsOk.l0] at h, fun _ _ _ _ _ _ _ _ _ _ r h => by simp [spec_SlotsOk.l1] at h⟩
 | k + 1 => by
  obtain ⟨ih0, ih1⟩ := spec_SlotsOk.mono_l k
  refine ⟨?_, ?_⟩
  ·intro y0 y1 y2 y3
   unfold spec_SlotsOk.l0
   repeat' first
   | (with_reducible exact ih0 _ _ _ _)
   | (with_reducible exact ih1 _ _ _ _ _ _ _ _ _ _)
   | (with_reducible exact spec_SlotOk.mono _ _ _ _)
   | (with_reducible exact LeO.refl _)
   | (with_reducible exact LeO.none _)
   | (with_reducible refine LeO.ite ?_ ?_)
   | (with_reducible refine LeO.bind ?_ (fun _ => ?_))
  ·intro y0 y1 y2 y3 y4 y5 y6 y7 y8 y9
   unfold spec_SlotsOk.l1
   repeat' first
   | (with_reducible exact ih0 _ _ _ _)
   | (with_reducible exact ih1 _ _ _ _ _ _ _ _ _ _)
   | (with_reducible exact spec_SlotOk.mono _ _ _ _)
   | (with_reducible exact LeO.refl _)
   | (with_reducible exact LeO.none _)
   | (with_reducible refine LeO.ite ?_ ?_)
   | (with_reducible refine LeO.bind ?_ (fun _ => ?_))
theorem spec_SlotsOk.mono : ∀ a0 k, LeO (spec_SlotsOk.f k a0) (spec_SlotsOk.f (k + 1) a0) := by
 intro a0 k
 obtain ⟨ih0, ih1⟩ := spec_SlotsOk.mono_l k
 unfold spec_SlotsOk.f
 repeat' first
   | (with_reducible exact ih0 _ _ _ _)
   | (with_reducible exact ih1 _ _ _ _ _ _ _ _ _ _)
   | (with_reducible exact spec_SlotOk.mono _ _ _ _)
   | (with_reducible exact LeO.refl _)
   | (with_reducible exact LeO.none _)
   | (with_reducible refine LeO.ite ?_ ?_)
   | (with_reducible refine LeO.bind ?_ (fun _ => ?_))
set_option maxHeartbeats 8000000 in
set_option maxRecDepth 100000 in
theorem spec_SlotsOk.calls (k : Nat) (A0 : Option Addr) (c0 : Nat) (l0 : List (S144)) (r : Bool) (w : World) (hr0 : Kd.C k144 w A0 l0.length l0) (hc0 : l0.length ≤ c0) (h : spec_SlotsOk.f k l0 = some r) :
  Calls Try.prog 64 #[.slice A0 l0.length c0] w fun e w' => e = .returned (.bool r) ∧ Below w.heap.size w w' := by
 have hu144 := Try.underlying144
 have HR0 := Aside0.mk hr0
 have HC0 := Aside0.mk hc0
 clear hr0 hc0
 have HB := Aside0.mk (Below.refl w.heap.size w)
 have H : (spec_SlotsOk.l0 k l0 l0 (l0.length : Int) 0) = some r := h
 clear h
 have H' := Aside0.mk H
 clear H
 go_enter Try.func64, Try.ntmps64
 go_wp2
 go_loopg [9] k (fun kq v9 w' => ∃ (x9_1 : Int), v9 = .int .i64 x9_1 ∧ Aside0 (spec_SlotsOk.l0 kq l0 l0 (l0.length : Int) x9_1 = some r) ∧ Aside0 (kq ≤ k) ∧ Aside0 (Below w.heap.size w w'))
 case atStart => exact ⟨(0), sp_, H', ⟨Nat.le_refl _⟩, ⟨bl_⟩⟩
 case round =>
  clear H'
  obtain ⟨x9_1, rfl, HA, HK1, HB⟩ := hrel
  cases gk with
  | zero => exact absurd HA.out (by simp [spec_SlotsOk.l0])
  | succ k1 =>
   have H := HA.out
   clear HA
   simp only [spec_SlotsOk.l0] at H
   by_cases c2 : x9_1 < (l0.length : Int)
   ·rw [if_pos c2] at H
    have c2b0 : decide (x9_1 < (l0.length : Int)) = true := decide_eq_true c2
    clear c2
    by_cases c3 : 0 ≤ x9_1
    ·rw [if_pos c3] at H
     have c3b0 : decide (0 ≤ x9_1) = true := decide_eq_true c3
     clear c3
     by_cases c4 : x9_1 < (l0.length : Int)
     ·rw [if_pos c4] at H
      have c4b0 : decide (x9_1 < (l0.length : Int)) = true := decide_eq_true c4
      clear c4
      replace H := Option.bind_eq_some_iff.mp H
      obtain ⟨t147, A50, H⟩ := H
      replace H : (if t147 = true then (if x9_1 ≤ (l0.length : Int) then ((some (l0.take (x9_1 : Int).toNat : List (S144))).bind fun y148 => (spec_SlotsOk.l1 k1 l0 l0 (l0.length : Int) x9_1 y148 (y148.length : Int) 0 ((rd_T144 l0 x9_1).f0) ((rd_T144 l0 x9_1).f1) ((rd_T144 l0 x9_1).f2))) else (none)) else (some false)) = some r := H
      have A5 := Aside0.mk A50
      clear A50
      by_cases c6 : t147 = true
      ·subst c6
       have H1 : (if x9_1 ≤ (l0.length : Int) then ((some (l0.take (x9_1 : Int).toNat : List (S144))).bind fun y148 => (spec_SlotsOk.l1 k1 l0 l0 (l0.length : Int) x9_1 y148 (y148.length : Int) 0 ((rd_T144 l0 x9_1).f0) ((rd_T144 l0 x9_1).f1) ((rd_T144 l0 x9_1).f2))) else (none)) = some r := by rw [if_pos rfl] at H; exact H
       clear H
       have H := H1
       clear H1
       have c7b0 := eq_true (od_ : 0 ≤ x9_1)
       by_cases c8 : x9_1 ≤ (l0.length : Int)
       ·rw [if_pos c8] at H
        have c8b0 := eq_true c8
        have c8b1 : decide (x9_1 ≤ (l0.length : Int)) = true := decide_eq_true c8
        clear c8
        obtain ⟨y148, hy148⟩ : ∃ y_ : List (S144), y_ = (l0.take (x9_1 : Int).toNat) := ⟨_, rfl⟩
        replace H : (spec_SlotsOk.l1 k1 l0 l0 (l0.length : Int) x9_1 y148 (y148.length : Int) 0 ((rd_T144 l0 x9_1).f0) ((rd_T144 l0 x9_1).f1) ((rd_T144 l0 x9_1).f2)) = some r := by first | (rw [hy148]; with_reducible exact H) | (have H2_ := (Option.bind_some _ _).symm.trans H; rw [hy148]; with_reducible exact H2_) | (have H2_ := (Option.bind_some _ _).symm.trans H; with_reducible exact H2_) | with_reducible exact H | (rw [hy148]; exact H) | exact H
        have Ny148 := Aside0.mk hy148
        clear hy148
        have H' := Aside0.mk H
        clear H
        have p145 : 0 ≤ (x9_1 : Int) := od_
        have q145 : x9_1 < (l0.length : Int) := od_
        obtain ⟨ad145, A145_2, c145_2, e145, hx145_0, hx145_1, hx145_2, hl145_2, hi145_2⟩ := at_T144 HR0.out x9_1 p145 q145
        cases e145
        replace hx145_0 := kc_ HB hx145_0
        replace hx145_1 := kc_ HB hx145_1
        replace hx145_2 := kc_ HB hx145_2
        have HR145_2 := Aside0.mk hi145_2
        have HC145_2 := Aside0.mk hl145_2
        clear hi145_2 hl145_2
        replace p145 := eq_true p145
        replace q145 := eq_true q145
        go_wp2_with (first | ((with_reducible refine gate_dst (N := 4) rfl ?_); refine box_event ?hg (N := 4) ?hd (cs := #[.string (⟨#[]⟩ : ByteArray), .string (⟨#[]⟩ : ByteArray), .slice none 0 0]) (t := 144) ?hr ?_; (case hd => rfl); (case hg => rfl); (case hr => first | (go_simp; done) | (go_simp; rfl)); intro gb146 hg w9 hbox hb; have n0_ := Aside0.mk (below_step bl_ hb); have n1_ := Aside0.mk (hbox); have n2_ := gw_ (w := w) hg; have n3_ := gw_ (w := w) hg; clear HB; have HB := n0_; have BK146 := n1_; have GW146 := n2_; have GE146 := n3_; clear n0_ n1_ n2_ n3_; clear hb hbox hg; have hcz10_0 := cz_ BK146 0 (.string (⟨#[]⟩ : ByteArray)); have hcz10_1 := cz_ BK146 1 (.string (⟨#[]⟩ : ByteArray)); have hcz10_2 := cz_ BK146 2 (.slice none 0 0); have hfz10_0 := fz_ BK146 0; have hfz10_1 := fz_ BK146 1; have hfz10_2 := fz_ BK146 2) | ((with_reducible refine gate_callee (f := 126) rfl ?_); refine goesL_ (some 15) rfl rfl Try.func126 (by kernel_rfl) rfl #[.agg #[.string ((rd_T144 l0 x9_1).f0), .string ((rd_T144 l0 x9_1).f1), .slice A145_2 ((rd_T144 l0 x9_1).f2).length c145_2]] rfl gl_ ?_; (with_reducible refine (spec_SlotOk.calls k1 ((rd_T144 l0 x9_1).f0) ((rd_T144 l0 x9_1).f1) _ _ ((rd_T144 l0 x9_1).f2) true _ ?side1 ?side2 A5.out).mono ?_); (case side1 => exact Kd.C_below HR145_2.out bl_); (case side2 => exact HC145_2.out); rintro e w11 ⟨rfl, hb⟩; refine ⟨_, rfl, ?_⟩; have n0_ := Aside0.mk (blk_below (g := gb146) (o := .cells #[.string ((rd_T144 l0 x9_1).f0), .string ((rd_T144 l0 x9_1).f1), .slice A145_2 ((rd_T144 l0 x9_1).f2).length c145_2] 144 (0, 0)) (by (with_reducible repeat (first | refine blk_drewN ?_ _ | refine blk_drew ?_ | refine blk_alloc ?_ _)); refine blk_put (cs := #[.string ((rd_T144 l0 x9_1).f0), .string ((rd_T144 l0 x9_1).f1), .slice none 0 0]) ?_ 2 _ rfl; refine blk_put (cs := #[.string ((rd_T144 l0 x9_1).f0), .string (⟨#[]⟩ : ByteArray), .slice none 0 0]) ?_ 1 _ rfl; refine blk_put (cs := #[.string (⟨#[]⟩ : ByteArray), .string (⟨#[]⟩ : ByteArray), .slice none 0 0]) ?_ 0 _ rfl; (with_reducible repeat (first | refine blk_drewN ?_ _ | refine blk_drew ?_ | refine blk_alloc ?_ _)); exact BK146.out) hb); have n1_ := Aside0.mk (below_step bl_ hb); clear BK146; clear HB; have BK146 := n0_; have HB := n1_; clear n0_ n1_; (try clear hb); (try clear hb2); (try clear hk); (try clear hi); have q12 : (x9_1 : Int) ≤ ((l0.length : Int) : Int) := od_; obtain ⟨i012, hi012, _, hsz12, _⟩ := info_parts info144; have hroom12 : l0.length ≤ c0 := HC0.out; have hC12 : Kd.C k144 _ (some ad145) l0.length l0 := HR0.out; have hcut12 := cut_to (P := Try.prog) 46 144 .i64 Try.underlying46 hi012 (some ad145) l0.length c0 x9_1 od_ q12 hroom12; have hr12 := Kd.C_take (m := (x9_1 : Int).toNat) hC12 (by omega); have hy12 : y148.length = (x9_1 : Int).toNat := (by rw [Ny148.out, List.length_take]; omega); rw [← Ny148.out] at hr12; rw [← hy12] at hcut12; have HR151 := Aside0.mk hr12; have HC151 := Aside0.mk (show y148.length ≤ c0 from by omega); clear hr12 hC12 hroom12 hi012 hsz12; have KY12 := Aside0.mk hy12; clear hy12; replace q12 := eq_true q12))
        go_loopg [21] k1 (fun kq v21 w' => ∃ (x21_2 : Int), v21 = .int .i64 x21_2 ∧ Aside0 (spec_SlotsOk.l1 kq l0 l0 (l0.length : Int) x9_1 y148 (y148.length : Int) x21_2 ((rd_T144 l0 x9_1).f0) ((rd_T144 l0 x9_1).f1) ((rd_T144 l0 x9_1).f2) = some r) ∧ Aside0 (kq ≤ k1) ∧ Aside0 (w'.heap[gb146]? = some (.cells #[.string ((rd_T144 l0 x9_1).f0), .string ((rd_T144 l0 x9_1).f1), (.slice A145_2 ((rd_T144 l0 x9_1).f2).length c145_2)] 144 (0, 0))) ∧ Aside0 (Below w.heap.size w w'))
        case atStart => exact ⟨(0), sp_, H', ⟨Nat.le_refl _⟩, ⟨by (with_reducible repeat (first | refine blk_drewN ?_ _ | refine blk_drew ?_ | refine blk_alloc ?_ _)); exact BK146.out⟩, ⟨bl_⟩⟩
        case round =>
         clear H'
         try clear c1
         try clear p1
         try clear q1
         try clear hx1
         try clear c2
         try clear c2b0
         try clear p2
         try clear c3
         try clear c3b0
         try clear c4
         try clear c4b0
         try clear c6
         try clear c7
         try clear c7b0
         try clear c8
         try clear c8b0
         try clear c8b1
         try clear c12
         try clear q12
         try clear hcz10_0
         try clear hcz10_1
         try clear hcz10_2
         try clear hfz10_0
         try clear hfz10_1
         try clear hfz10_2
         try clear hx145_0
         try clear hx145_1
         try clear hx145_2
         try clear p145
         try clear q12
         try clear q145
         obtain ⟨x21_2, rfl, HA, HK2, BK146, HB⟩ := hrel
         cases gk with
         | zero => exact absurd HA.out (by simp [spec_SlotsOk.l1])
         | succ k2 =>
          have H := HA.out
          clear HA
          simp only [spec_SlotsOk.l1] at H
          by_cases c13 : x21_2 < (y148.length : Int)
          ·rw [if_pos c13] at H
           have c13b0 : decide (x21_2 < (y148.length : Int)) = true := decide_eq_true c13
           clear c13
           by_cases c14 : 0 ≤ x21_2
           ·rw [if_pos c14] at H
            have c14b0 : decide (0 ≤ x21_2) = true := decide_eq_true c14
            clear c14
            by_cases c15 : x21_2 < (y148.length : Int)
            ·rw [if_pos c15] at H
             have c15b0 : decide (x21_2 < (y148.length : Int)) = true := decide_eq_true c15
             clear c15
             by_cases c16 : ((rd_T144 y148 x21_2).f0).toList = ((rd_T144 l0 x9_1).f0).toList
             ·rw [if_pos c16] at H
              have c16b0 : (((rd_T144 y148 x21_2).f0).toList == ((rd_T144 l0 x9_1).f0).toList) = true := beq_iff_eq.mpr c16
              have c16b1 : (((rd_T144 y148 x21_2).f0).toList != ((rd_T144 l0 x9_1).f0).toList) = false := bne_eq_false_iff_eq.mpr c16
              clear c16
              by_cases c17 : ((rd_T144 y148 x21_2).f1).toList = ((rd_T144 l0 x9_1).f1).toList
              ·rw [if_pos c17] at H
               have c17b0 : (((rd_T144 y148 x21_2).f1).toList == ((rd_T144 l0 x9_1).f1).toList) = true := beq_iff_eq.mpr c17
               have c17b1 : (((rd_T144 y148 x21_2).f1).toList != ((rd_T144 l0 x9_1).f1).toList) = false := bne_eq_false_iff_eq.mpr c17
               clear c17
               obtain rfl := Option.some.inj H
               have p152 : 0 ≤ (x21_2 : Int) := od_
               have q152 : x21_2 < (y148.length : Int) := od_
               obtain ⟨ad152, A152_2, c152_2, e152, hx152_0, hx152_1, hx152_2, hl152_2, hi152_2⟩ := at_T144 HR151.out x21_2 p152 q152
               obtain rfl : ad145 = ad152 := (by injection e152)
               replace hx152_0 := kc_ HB hx152_0
               replace hx152_1 := kc_ HB hx152_1
               replace hx152_2 := kc_ HB hx152_2
               have HR152_2 := Aside0.mk hi152_2
               have HC152_2 := Aside0.mk hl152_2
               clear hi152_2 hl152_2
               replace p152 := eq_true p152
               replace q152 := eq_true q152
               go_wp2_with (first | ((with_reducible refine gate_dst (N := 6) rfl ?_); refine box_event ?hg (N := 6) ?hd (cs := #[.string (⟨#[]⟩ : ByteArray), .string (⟨#[]⟩ : ByteArray), .slice none 0 0]) (t := 144) ?hr ?_; (case hd => rfl); (case hg => rfl); (case hr => first | (go_simp; done) | (go_simp; rfl)); intro gb153 hg w18 hbox hb; have n0_ := Aside0.mk (blk_below (bk_ BK146) hb); have n1_ := Aside0.mk (below_step bl_ hb); have n2_ := Aside0.mk (hbox); have n3_ := gw_ (w := w) hg; have n4_ := gw_ (w := w) hg; have n5_ := Aside0.mk ((by rw [hg]; exact Nat.ne_of_lt (blk_lt (bk_ BK146)) : gb146 ≠ gb153)); have n6_ := Aside0.mk ((by rw [hg]; exact Nat.ne_of_gt (blk_lt (bk_ BK146)) : gb153 ≠ gb146)); clear BK146; clear HB; have BK146 := n0_; have HB := n1_; have BK153 := n2_; have GW153 := n3_; have GE153 := n4_; have NB146_153 := n5_; have NB153_146 := n6_; clear n0_ n1_ n2_ n3_ n4_ n5_ n6_; clear hb hbox hg; have hnb19 := NB153_146.out; have hnc19 := NB146_153.out; have hcz20_0 := cz_ BK153 0 (.string (⟨#[]⟩ : ByteArray)); have hcz20_1 := cz_ BK153 1 (.string (⟨#[]⟩ : ByteArray)); have hcz20_2 := cz_ BK153 2 (.slice none 0 0); have hfz20_0 := fz_ BK153 0; have hfz20_1 := fz_ BK153 1; have hfz20_2 := fz_ BK153 2; have hcz21_0 := cz_ BK146 0 (.string ((rd_T144 l0 x9_1).f0)); have hcz21_1 := cz_ BK146 1 (.string ((rd_T144 l0 x9_1).f1)); have hcz21_2 := cz_ BK146 2 (.slice A145_2 ((rd_T144 l0 x9_1).f2).length c145_2); have hfz21_0 := fz_ BK146 0; have hfz21_1 := fz_ BK146 1; have hfz21_2 := fz_ BK146 2))
               go_ret
               exact ⟨sq_, bl_⟩
              ·rw [if_neg c17] at H
               have c17b0 : (((rd_T144 y148 x21_2).f1).toList == ((rd_T144 l0 x9_1).f1).toList) = false := beq_eq_false_iff_ne.mpr c17
               have c17b1 : (((rd_T144 y148 x21_2).f1).toList != ((rd_T144 l0 x9_1).f1).toList) = true := bne_iff_ne.mpr c17
               have H' := Aside0.mk H
               clear H
               have p152 : 0 ≤ (x21_2 : Int) := od_
               have q152 : x21_2 < (y148.length : Int) := od_
               obtain ⟨ad152, A152_2, c152_2, e152, hx152_0, hx152_1, hx152_2, hl152_2, hi152_2⟩ := at_T144 HR151.out x21_2 p152 q152
               obtain rfl : ad145 = ad152 := (by injection e152)
               replace hx152_0 := kc_ HB hx152_0
               replace hx152_1 := kc_ HB hx152_1
               replace hx152_2 := kc_ HB hx152_2
               have HR152_2 := Aside0.mk hi152_2
               have HC152_2 := Aside0.mk hl152_2
               clear hi152_2 hl152_2
               replace p152 := eq_true p152
               replace q152 := eq_true q152
               go_wp2_with (first | ((with_reducible refine gate_dst (N := 6) rfl ?_); refine box_event ?hg (N := 6) ?hd (cs := #[.string (⟨#[]⟩ : ByteArray), .string (⟨#[]⟩ : ByteArray), .slice none 0 0]) (t := 144) ?hr ?_; (case hd => rfl); (case hg => rfl); (case hr => first | (go_simp; done) | (go_simp; rfl)); intro gb153 hg w22 hbox hb; have n0_ := Aside0.mk (blk_below (bk_ BK146) hb); have n1_ := Aside0.mk (below_step bl_ hb); have n2_ := Aside0.mk (hbox); have n3_ := gw_ (w := w) hg; have n4_ := gw_ (w := w) hg; have n5_ := Aside0.mk ((by rw [hg]; exact Nat.ne_of_lt (blk_lt (bk_ BK146)) : gb146 ≠ gb153)); have n6_ := Aside0.mk ((by rw [hg]; exact Nat.ne_of_gt (blk_lt (bk_ BK146)) : gb153 ≠ gb146)); clear BK146; clear HB; have BK146 := n0_; have HB := n1_; have BK153 := n2_; have GW153 := n3_; have GE153 := n4_; have NB146_153 := n5_; have NB153_146 := n6_; clear n0_ n1_ n2_ n3_ n4_ n5_ n6_; clear hb hbox hg; have hnb23 := NB153_146.out; have hnc23 := NB146_153.out; have hcz24_0 := cz_ BK153 0 (.string (⟨#[]⟩ : ByteArray)); have hcz24_1 := cz_ BK153 1 (.string (⟨#[]⟩ : ByteArray)); have hcz24_2 := cz_ BK153 2 (.slice none 0 0); have hfz24_0 := fz_ BK153 0; have hfz24_1 := fz_ BK153 1; have hfz24_2 := fz_ BK153 2; have hcz25_0 := cz_ BK146 0 (.string ((rd_T144 l0 x9_1).f0)); have hcz25_1 := cz_ BK146 1 (.string ((rd_T144 l0 x9_1).f1)); have hcz25_2 := cz_ BK146 2 (.slice A145_2 ((rd_T144 l0 x9_1).f2).length c145_2); have hfz25_0 := fz_ BK146 0; have hfz25_1 := fz_ BK146 1; have hfz25_2 := fz_ BK146 2))
               go_roundg k2
               case measure => have := HK1.out; have := HK2.out; omega
               case rel => exact ⟨(wrap64 (x21_2 + 1)), sp_, H', ⟨by have := HK1.out; have := HK2.out; omega⟩, ⟨by (with_reducible repeat (first | refine blk_drewN ?_ _ | refine blk_drew ?_ | refine blk_alloc ?_ _)); refine blk_far ?_ NB146_153.out _; (with_reducible repeat (first | refine blk_drewN ?_ _ | refine blk_drew ?_ | refine blk_alloc ?_ _)); refine blk_far ?_ NB146_153.out _; (with_reducible repeat (first | refine blk_drewN ?_ _ | refine blk_drew ?_ | refine blk_alloc ?_ _)); refine blk_far ?_ NB146_153.out _; (with_reducible repeat (first | refine blk_drewN ?_ _ | refine blk_drew ?_ | refine blk_alloc ?_ _)); exact BK146.out⟩, ⟨bl_⟩⟩
             ·rw [if_neg c16] at H
              have c16b0 : (((rd_T144 y148 x21_2).f0).toList == ((rd_T144 l0 x9_1).f0).toList) = false := beq_eq_false_iff_ne.mpr c16
              have c16b1 : (((rd_T144 y148 x21_2).f0).toList != ((rd_T144 l0 x9_1).f0).toList) = true := bne_iff_ne.mpr c16
              have H' := Aside0.mk H
              clear H
              have p152 : 0 ≤ (x21_2 : Int) := od_
              have q152 : x21_2 < (y148.length : Int) := od_
              obtain ⟨ad152, A152_2, c152_2, e152, hx152_0, hx152_1, hx152_2, hl152_2, hi152_2⟩ := at_T144 HR151.out x21_2 p152 q152
              obtain rfl : ad145 = ad152 := (by injection e152)
              replace hx152_0 := kc_ HB hx152_0
              replace hx152_1 := kc_ HB hx152_1
              replace hx152_2 := kc_ HB hx152_2
              have HR152_2 := Aside0.mk hi152_2
              have HC152_2 := Aside0.mk hl152_2
              clear hi152_2 hl152_2
              replace p152 := eq_true p152
              replace q152 := eq_true q152
              go_wp2_with (first | ((with_reducible refine gate_dst (N := 6) rfl ?_); refine box_event ?hg (N := 6) ?hd (cs := #[.string (⟨#[]⟩ : ByteArray), .string (⟨#[]⟩ : ByteArray), .slice none 0 0]) (t := 144) ?hr ?_; (case hd => rfl); (case hg => rfl); (case hr => first | (go_simp; done) | (go_simp; rfl)); intro gb153 hg w26 hbox hb; have n0_ := Aside0.mk (blk_below (bk_ BK146) hb); have n1_ := Aside0.mk (below_step bl_ hb); have n2_ := Aside0.mk (hbox); have n3_ := gw_ (w := w) hg; have n4_ := gw_ (w := w) hg; have n5_ := Aside0.mk ((by rw [hg]; exact Nat.ne_of_lt (blk_lt (bk_ BK146)) : gb146 ≠ gb153)); have n6_ := Aside0.mk ((by rw [hg]; exact Nat.ne_of_gt (blk_lt (bk_ BK146)) : gb153 ≠ gb146)); clear BK146; clear HB; have BK146 := n0_; have HB := n1_; have BK153 := n2_; have GW153 := n3_; have GE153 := n4_; have NB146_153 := n5_; have NB153_146 := n6_; clear n0_ n1_ n2_ n3_ n4_ n5_ n6_; clear hb hbox hg; have hnb27 := NB153_146.out; have hnc27 := NB146_153.out; have hcz28_0 := cz_ BK153 0 (.string (⟨#[]⟩ : ByteArray)); have hcz28_1 := cz_ BK153 1 (.string (⟨#[]⟩ : ByteArray)); have hcz28_2 := cz_ BK153 2 (.slice none 0 0); have hfz28_0 := fz_ BK153 0; have hfz28_1 := fz_ BK153 1; have hfz28_2 := fz_ BK153 2; have hcz29_0 := cz_ BK146 0 (.string ((rd_T144 l0 x9_1).f0)); have hcz29_1 := cz_ BK146 1 (.string ((rd_T144 l0 x9_1).f1)); have hcz29_2 := cz_ BK146 2 (.slice A145_2 ((rd_T144 l0 x9_1).f2).length c145_2); have hfz29_0 := fz_ BK146 0; have hfz29_1 := fz_ BK146 1; have hfz29_2 := fz_ BK146 2))
              go_roundg k2
              case measure => have := HK1.out; have := HK2.out; omega
              case rel => exact ⟨(wrap64 (x21_2 + 1)), sp_, H', ⟨by have := HK1.out; have := HK2.out; omega⟩, ⟨by (with_reducible repeat (first | refine blk_drewN ?_ _ | refine blk_drew ?_ | refine blk_alloc ?_ _)); refine blk_far ?_ NB146_153.out _; (with_reducible repeat (first | refine blk_drewN ?_ _ | refine blk_drew ?_ | refine blk_alloc ?_ _)); refine blk_far ?_ NB146_153.out _; (with_reducible repeat (first | refine blk_drewN ?_ _ | refine blk_drew ?_ | refine blk_alloc ?_ _)); refine blk_far ?_ NB146_153.out _; (with_reducible repeat (first | refine blk_drewN ?_ _ | refine blk_drew ?_ | refine blk_alloc ?_ _)); exact BK146.out⟩, ⟨bl_⟩⟩
            ·rw [if_neg c15] at H
             exact absurd H (by simp)
           ·rw [if_neg c14] at H
            exact absurd H (by simp)
          ·rw [if_neg c13] at H
           have c13b0 : decide (x21_2 < (y148.length : Int)) = false := decide_eq_false c13
           clear c13
           have H' := Aside0.mk H
           clear H
           go_wp2
           go_roundg k2
           case measure => have := HK1.out; have := HK2.out; omega
           case rel => exact ⟨(wrap64 (x9_1 + 1)), sp_, H', ⟨by have := HK1.out; have := HK2.out; omega⟩, ⟨bl_⟩⟩
       ·rw [if_neg c8] at H
        exact absurd H (by simp)
      ·replace c6 := Bool.eq_false_iff.mpr c6
       subst c6
       have H1 : (some false) = some r := by rw [if_neg (show ¬ (false = true) by decide)] at H; exact H
       clear H
       have H := H1
       clear H1
       obtain rfl := Option.some.inj H
       have p145 : 0 ≤ (x9_1 : Int) := od_
       have q145 : x9_1 < (l0.length : Int) := od_
       obtain ⟨ad145, A145_2, c145_2, e145, hx145_0, hx145_1, hx145_2, hl145_2, hi145_2⟩ := at_T144 HR0.out x9_1 p145 q145
       cases e145
       replace hx145_0 := kc_ HB hx145_0
       replace hx145_1 := kc_ HB hx145_1
       replace hx145_2 := kc_ HB hx145_2
       have HR145_2 := Aside0.mk hi145_2
       have HC145_2 := Aside0.mk hl145_2
       clear hi145_2 hl145_2
       replace p145 := eq_true p145
       replace q145 := eq_true q145
       go_wp2_with (first | ((with_reducible refine gate_dst (N := 4) rfl ?_); refine box_event ?hg (N := 4) ?hd (cs := #[.string (⟨#[]⟩ : ByteArray), .string (⟨#[]⟩ : ByteArray), .slice none 0 0]) (t := 144) ?hr ?_; (case hd => rfl); (case hg => rfl); (case hr => first | (go_simp; done) | (go_simp; rfl)); intro gb146 hg w30 hbox hb; have n0_ := Aside0.mk (below_step bl_ hb); have n1_ := Aside0.mk (hbox); have n2_ := gw_ (w := w) hg; have n3_ := gw_ (w := w) hg; clear HB; have HB := n0_; have BK146 := n1_; have GW146 := n2_; have GE146 := n3_; clear n0_ n1_ n2_ n3_; clear hb hbox hg; have hcz31_0 := cz_ BK146 0 (.string (⟨#[]⟩ : ByteArray)); have hcz31_1 := cz_ BK146 1 (.string (⟨#[]⟩ : ByteArray)); have hcz31_2 := cz_ BK146 2 (.slice none 0 0); have hfz31_0 := fz_ BK146 0; have hfz31_1 := fz_ BK146 1; have hfz31_2 := fz_ BK146 2) | ((with_reducible refine gate_callee (f := 126) rfl ?_); refine goesL_ (some 15) rfl rfl Try.func126 (by kernel_rfl) rfl #[.agg #[.string ((rd_T144 l0 x9_1).f0), .string ((rd_T144 l0 x9_1).f1), .slice A145_2 ((rd_T144 l0 x9_1).f2).length c145_2]] rfl gl_ ?_; (with_reducible refine (spec_SlotOk.calls k1 ((rd_T144 l0 x9_1).f0) ((rd_T144 l0 x9_1).f1) _ _ ((rd_T144 l0 x9_1).f2) false _ ?side1 ?side2 A5.out).mono ?_); (case side1 => exact Kd.C_below HR145_2.out bl_); (case side2 => exact HC145_2.out); rintro e w32 ⟨rfl, hb⟩; refine ⟨_, rfl, ?_⟩; have n0_ := Aside0.mk (blk_below (g := gb146) (o := .cells #[.string ((rd_T144 l0 x9_1).f0), .string ((rd_T144 l0 x9_1).f1), .slice A145_2 ((rd_T144 l0 x9_1).f2).length c145_2] 144 (0, 0)) (by (with_reducible repeat (first | refine blk_drewN ?_ _ | refine blk_drew ?_ | refine blk_alloc ?_ _)); refine blk_put (cs := #[.string ((rd_T144 l0 x9_1).f0), .string ((rd_T144 l0 x9_1).f1), .slice none 0 0]) ?_ 2 _ rfl; refine blk_put (cs := #[.string ((rd_T144 l0 x9_1).f0), .string (⟨#[]⟩ : ByteArray), .slice none 0 0]) ?_ 1 _ rfl; refine blk_put (cs := #[.string (⟨#[]⟩ : ByteArray), .string (⟨#[]⟩ : ByteArray), .slice none 0 0]) ?_ 0 _ rfl; (with_reducible repeat (first | refine blk_drewN ?_ _ | refine blk_drew ?_ | refine blk_alloc ?_ _)); exact BK146.out) hb); have n1_ := Aside0.mk (below_step bl_ hb); clear BK146; clear HB; have BK146 := n0_; have HB := n1_; clear n0_ n1_; (try clear hb); (try clear hb2); (try clear hk); (try clear hi)))
       go_ret
       exact ⟨sq_, bl_⟩
     ·rw [if_neg c4] at H
      exact absurd H (by simp)
    ·rw [if_neg c3] at H
     exact absurd H (by simp)
   ·rw [if_neg c2] at H
    have c2b0 : decide (x9_1 < (l0.length : Int)) = false := decide_eq_false c2
    clear c2
    obtain rfl := Option.some.inj H
    go_wp2
    go_ret
    exact ⟨sq_, bl_⟩
end Go.Proofs.Ytgcggfoailaalaa.QFnExactBookOk
