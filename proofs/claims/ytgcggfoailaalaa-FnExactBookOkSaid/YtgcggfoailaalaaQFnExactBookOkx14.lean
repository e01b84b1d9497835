-- by my own printer (myprint.py, over the kit's print.py)
import Derived.Test.YtgcggfoailaalaaQFnExactBookOkx0
import Derived.Test.YtgcggfoailaalaaQFnExactBookOkx13
namespace Go.Proofs.Ytgcggfoailaalaa.QFnExactBookOk
open Go.RowKit Go.Proofs.YtgcggfoailaalaaW.PrintWords Go.Proofs.YtgcggfoailaalaaW.PrintLast Go.Proofs.YtgcggfoailaalaaW.PrintMore
attribute [local go_sem] max2_int min2_int max_two min_two max_three min_three max_four min_four   -- for this text's walks alone
set_option linter.unusedVariables false
set_option linter.unusedSimpArgs false
attribute [local go_sem] my_geq my_leq my_gtr
abbrev tb19_0_14 : Array Bool := #[b0, b0, b0, b0, b0, b0, b0, b0, b0, b0, b0, b0, b0, b0, b0, b0, b0, b0, b0]
abbrev tb19_1_14 : Array Bool := #[b1, b0, b0, b0, b0, b0, b0, b0, b0, b0, b0, b0, b0, b0, b0, b0, b0, b0, b0]
abbrev tb19_1aff_14 : Array Bool := #[b1, b1, b1, b1, b1, b1, b1, b1, b0, b1, b0, b1, b1, b0, b0, b0, b0, b0, b0]
abbrev tb19_1bff_14 : Array Bool := #[b1, b1, b1, b1, b1, b1, b1, b1, b1, b1, b0, b1, b1, b0, b0, b0, b0, b0, b0]
abbrev tb19_1f_14 : Array Bool := #[b1, b1, b1, b1, b1, b0, b0, b0, b0, b0, b0, b0, b0, b0, b0, b0, b0, b0, b0]
abbrev tb19_1ff_14 : Array Bool := #[b1, b1, b1, b1, b1, b1, b1, b1, b1, b0, b0, b0, b0, b0, b0, b0, b0, b0, b0]
abbrev tb19_1fff_14 : Array Bool := #[b1, b1, b1, b1, b1, b1, b1, b1, b1, b1, b1, b1, b1, b0, b0, b0, b0, b0, b0]
abbrev tb19_1ffff_14 : Array Bool := #[b1, b1, b1, b1, b1, b1, b1, b1, b1, b1, b1, b1, b1, b1, b1, b1, b1, b0, b0]
abbrev tb19_2ff_14 : Array Bool := #[b1, b1, b1, b1, b1, b1, b1, b1, b0, b1, b0, b0, b0, b0, b0, b0, b0, b0, b0]
abbrev tb19_3_14 : Array Bool := #[b1, b1, b0, b0, b0, b0, b0, b0, b0, b0, b0, b0, b0, b0, b0, b0, b0, b0, b0]
abbrev tb19_3f_14 : Array Bool := #[b1, b1, b1, b1, b1, b1, b0, b0, b0, b0, b0, b0, b0, b0, b0, b0, b0, b0, b0]
abbrev tb19_3ff_14 : Array Bool := #[b1, b1, b1, b1, b1, b1, b1, b1, b1, b1, b0, b0, b0, b0, b0, b0, b0, b0, b0]
abbrev tb19_3fff_14 : Array Bool := #[b1, b1, b1, b1, b1, b1, b1, b1, b1, b1, b1, b1, b1, b1, b0, b0, b0, b0, b0]
abbrev tb19_3ffff_14 : Array Bool := #[b1, b1, b1, b1, b1, b1, b1, b1, b1, b1, b1, b1, b1, b1, b1, b1, b1, b1, b0]
abbrev tb19_7_14 : Array Bool := #[b1, b1, b1, b0, b0, b0, b0, b0, b0, b0, b0, b0, b0, b0, b0, b0, b0, b0, b0]
abbrev tb19_7f_14 : Array Bool := #[b1, b1, b1, b1, b1, b1, b1, b0, b0, b0, b0, b0, b0, b0, b0, b0, b0, b0, b0]
abbrev tb19_7ff_14 : Array Bool := #[b1, b1, b1, b1, b1, b1, b1, b1, b1, b1, b1, b0, b0, b0, b0, b0, b0, b0, b0]
abbrev tb19_7fff_14 : Array Bool := #[b1, b1, b1, b1, b1, b1, b1, b1, b1, b1, b1, b1, b1, b1, b1, b0, b0, b0, b0]
abbrev tb19_7ffff_14 : Array Bool := #[b1, b1, b1, b1, b1, b1, b1, b1, b1, b1, b1, b1, b1, b1, b1, b1, b1, b1, b1]
abbrev tb19_aff_14 : Array Bool := #[b1, b1, b1, b1, b1, b1, b1, b1, b0, b1, b0, b1, b0, b0, b0, b0, b0, b0, b0]
abbrev tb19_f_14 : Array Bool := #[b1, b1, b1, b1, b0, b0, b0, b0, b0, b0, b0, b0, b0, b0, b0, b0, b0, b0, b0]
abbrev tb19_ff_14 : Array Bool := #[b1, b1, b1, b1, b1, b1, b1, b1, b0, b0, b0, b0, b0, b0, b0, b0, b0, b0, b0]
abbrev tb19_fff_14 : Array Bool := #[b1, b1, b1, b1, b1, b1, b1, b1, b1, b1, b1, b1, b0, b0, b0, b0, b0, b0, b0]
abbrev tb19_ffff_14 : Array Bool := #[b1, b1, b1, b1, b1, b1, b1, b1, b1, b1, b1, b1, b1, b1, b1, b1, b0, b0, b0]
/-! ### impl_BookOk: function 31 -/
def impl_BookOk.l0 : Nat → List (S48) → Int → Int → List (S48) → Option (Bool)
 | 0, _, _, _, _ => none
 | k + 1, x6, x7, x8, x338000 => if x8 < x7 then (if 0 ≤ x8 then (if x8 < (x6.length : Int) then ((impl_AcctOk.f k ((rd_T48 x6 x8).f0) ((rd_T48 x6 x8).f1) ((rd_T48 x6 x8).f2) ((rd_T48 x6 x8).f3) ((rd_T48 x6 x8).f4) ((rd_T48 x6 x8).f5) ((rd_T48 x6 x8).f6.f0) ((rd_T48 x6 x8).f6.f1) ((rd_T48 x6 x8).f6.f2) ((rd_T48 x6 x8).f6.f3) ((rd_T48 x6 x8).f7)).bind fun t340 => (if t340 = true then (if x8 > 0 then (if 0 ≤ (wrap64 (x8 - 1)) then (if (wrap64 (x8 - 1)) < (x338000.length : Int) then (if ((Op.bytesLess (((rd_T48 x338000 (wrap64 (x8 - 1))).f0).toList) (((rd_T48 x6 x8).f0).toList)) = true) then (impl_BookOk.l0 k x6 x7 (wrap64 (x8 + 1)) x338000) else (some false)) else (none)) else (none)) else (impl_BookOk.l0 k x6 x7 (wrap64 (x8 + 1)) x338000)) else (some false))) else (none)) else (none)) else (some (decide ((x338000.length : Int) ≤ 6)))
def impl_BookOk.f (k : Nat) (l0_0 : List (S48)) : Option (Bool) := impl_BookOk.l0 k l0_0 (l0_0.length : Int) 0 l0_0
theorem impl_BookOk.mono_l : ∀ k, (∀ y0 y1 y2 y3, LeO (impl_BookOk.l0 k y0 y1 y2 y3) (impl_BookOk.l0 (k + 1) y0 y1 y2 y3))
 | 0 => fun _ _ _ _ r h => by simp [impl_BookOk.l0] at h
 | k + 1 => by
  have ih0 := impl_BookOk.mono_l k
  ·intro y0 y1 y2 y3
   unfold impl_BookOk.l0
   repeat' first
   | (with_reducible exact ih0 _ _ _ _)
   | (with_reducible exact impl_AcctOk.mono _ _ _ _ _ _ _ _ _ _ _ _)
   | (with_reducible exact LeO.refl _)
   | (with_reducible exact LeO.none _)
   | (with_reducible refine LeO.ite ?_ ?_)
   | (with_reducible refine LeO.bind ?_ (fun _ => ?_))
theorem impl_BookOk.mono : ∀ a0 k, LeO (impl_BookOk.f k a0) (impl_BookOk.f (k + 1) a0) := by
 intro a0 k
 have ih0 := impl_BookOk.mono_l k
 unfold impl_BookOk.f
 repeat' first
   | (with_reducible exact ih0 _ _ _ _)
   | (with_reducible exact impl_AcctOk.mono _ _ _ _ _ _ _ _ _ _ _ _)
   | (with_reducible exact LeO.refl _)
   | (with_reducible exact LeO.none _)
   | (with_reducible refine LeO.ite ?_ ?_)
   | (with_reducible refine LeO.bind ?_ (fun _ => ?_))
def impl_BookOk.T4 : Bool × List (List Nat × List Nat) := (true, [([], []), ([0], [0]), ([1], [1]), ([2, 1], [2]), ([3], [3]), ([4, 3], [3, 4]), ([5, 3, 3], [3, 5]), ([6], [6]), ([7, 6], [6, 7]), ([6], [6]), ([9, 6], [6, 9]), ([6], [6]), ([11, 6], [6, 11]), ([10, 12, 6], [6, 10, 12]), ([13, 6], [6, 13]), ([14, 6], [6, 14]), ([8, 15, 6], [6, 8, 15]), ([6, 16, 3], [3, 6, 16]), ([3, 17], [3, 17])])
def impl_BookOk.B4 : List Nat := [0, 1, 3, 7, 15, 31, 63, 127, 255, 127, 639, 127, 2175, 7807, 15999, 32383, 65535, 131071, 262143]
theorem impl_BookOk.tab4 : rtab .any (opsOf Try.f31 4) = impl_BookOk.T4 := by kernel_rfl
theorem impl_BookOk.bits4 : waitsOk impl_BookOk.T4.2 impl_BookOk.B4 = true := by kernel_rfl
set_option maxHeartbeats 8000000 in
set_option maxRecDepth 100000 in
theorem impl_BookOk.calls (k : Nat) (A0_0 : Option Addr) (c0_0 : Nat) (l0_0 : List (S48)) (r : Bool) (w : World) (hr0_0 : Kd.C k48 w A0_0 l0_0.length l0_0) (hc0_0 : l0_0.length ≤ c0_0) (h : impl_BookOk.f k l0_0 = some r) :
  Calls Try.prog 31 #[.agg #[.slice A0_0 l0_0.length c0_0]] w fun e w' => e = .returned (.bool r) ∧ Below w.heap.size w w' := by
 have hu64 := Try.underlying64
 have hu48 := Try.underlying48
 have HR0_0 := Aside0.mk hr0_0
 have HC0_0 := Aside0.mk hc0_0
 clear hr0_0 hc0_0
 have HB := Aside0.mk (Below.refl w.heap.size w)
 have H : (impl_BookOk.l0 k l0_0 (l0_0.length : Int) 0 l0_0) = some r := h
 clear h
 have H' := Aside0.mk H
 clear H
 go_enter Try.func31, Try.ntmps31
 go_wp2_with (first | ((with_reducible refine gate_dst (N := 1) rfl ?_); refine box_event ?hg (N := 1) ?hd (cs := #[.slice A0_0 l0_0.length c0_0]) (t := 64) ?hr ?_; (case hd => rfl); (case hg => rfl); (case hr => first | (go_simp; done) | (go_simp; rfl)); intro gb337 hg w2 hbox hb; have n0_ := Aside0.mk (below_step bl_ hb); have n1_ := Aside0.mk (hbox); have n2_ := gw_ (w := w) hg; have n3_ := gw_ (w := w) hg; clear HB; have HB := n0_; have BK337 := n1_; have GW337 := n2_; have GE337 := n3_; clear n0_ n1_ n2_ n3_; clear hb hbox hg; have hcz3_0 := cz_ BK337 0 (.slice A0_0 l0_0.length c0_0); have hfz3_0 := fz_ BK337 0))
 go_loopg [8] k (fun kq v8 w' => ∃ (x8_1 : Int), v8 = .int .i64 x8_1 ∧ Aside0 (impl_BookOk.l0 kq l0_0 (l0_0.length : Int) x8_1 l0_0 = some r) ∧ Aside0 (kq ≤ k) ∧ Aside0 (w'.heap[gb337]? = some (.cells #[(.slice A0_0 l0_0.length c0_0)] 64 (0, 0))) ∧ Aside0 (Below w.heap.size w w'))
 case atStart => exact ⟨(0), sp_, H', ⟨Nat.le_refl _⟩, ⟨by (with_reducible repeat (first | refine blk_drewN ?_ _ | refine blk_drew ?_ | refine blk_alloc ?_ _)); exact BK337.out⟩, ⟨bl_⟩⟩
 case round =>
  clear H'
  try clear p2
  try clear c3
  try clear hcz3_0
  try clear hfz3_0
  obtain ⟨x8_1, rfl, HA, HK1, BK337, HB⟩ := hrel
  cases gk with
  | zero => exact absurd HA.out (by simp [impl_BookOk.l0])
  | succ k1 =>
   have H := HA.out
   clear HA
   simp only [impl_BookOk.l0] at H
   by_cases c4 : x8_1 < (l0_0.length : Int)
   ·rw [if_pos c4] at H
    have c4b0 : decide (x8_1 < (l0_0.length : Int)) = true := decide_eq_true c4
    clear c4
    by_cases c5 : 0 ≤ x8_1
    ·rw [if_pos c5] at H
     have c5b0 : decide (0 ≤ x8_1) = true := decide_eq_true c5
     clear c5
     by_cases c6 : x8_1 < (l0_0.length : Int)
     ·rw [if_pos c6] at H
      have c6b0 : decide (x8_1 < (l0_0.length : Int)) = true := decide_eq_true c6
      clear c6
      replace H := Option.bind_eq_some_iff.mp H
      obtain ⟨t340, A70, H⟩ := H
      replace H : (if t340 = true then (if x8_1 > 0 then (if 0 ≤ (wrap64 (x8_1 - 1)) then (if (wrap64 (x8_1 - 1)) < (l0_0.length : Int) then (if ((Op.bytesLess (((rd_T48 l0_0 (wrap64 (x8_1 - 1))).f0).toList) (((rd_T48 l0_0 x8_1).f0).toList)) = true) then (impl_BookOk.l0 k1 l0_0 (l0_0.length : Int) (wrap64 (x8_1 + 1)) l0_0) else (some false)) else (none)) else (none)) else (impl_BookOk.l0 k1 l0_0 (l0_0.length : Int) (wrap64 (x8_1 + 1)) l0_0)) else (some false)) = some r := H
      have A7 := Aside0.mk A70
      clear A70
      by_cases c8 : t340 = true
      ·subst c8
       have H1 : (if x8_1 > 0 then (if 0 ≤ (wrap64 (x8_1 - 1)) then (if (wrap64 (x8_1 - 1)) < (l0_0.length : Int) then (if ((Op.bytesLess (((rd_T48 l0_0 (wrap64 (x8_1 - 1))).f0).toList) (((rd_T48 l0_0 x8_1).f0).toList)) = true) then (impl_BookOk.l0 k1 l0_0 (l0_0.length : Int) (wrap64 (x8_1 + 1)) l0_0) else (some false)) else (none)) else (none)) else (impl_BookOk.l0 k1 l0_0 (l0_0.length : Int) (wrap64 (x8_1 + 1)) l0_0)) = some r := by rw [if_pos rfl] at H; exact H
       clear H
       have H := H1
       clear H1
       by_cases c9 : x8_1 > 0
       ·rw [if_pos c9] at H
        have c9b0 : decide (0 < x8_1) = true := decide_eq_true c9
        clear c9
        obtain ⟨ji10, hji10⟩ : ∃ j_ : Int, (wrap64 (x8_1 - 1)) = j_ := ⟨_, rfl⟩
        replace H : (if 0 ≤ (ji10) then (if (ji10) < (l0_0.length : Int) then (if ((Op.bytesLess (((rd_T48 l0_0 (ji10)).f0).toList) (((rd_T48 l0_0 x8_1).f0).toList)) = true) then (impl_BookOk.l0 k1 l0_0 (l0_0.length : Int) (wrap64 (x8_1 + 1)) l0_0) else (some false)) else (none)) else (none)) = some r := by first | (rw [hji10] at H; exact H) | (simp only [hji10] at H ⊢; exact H)
        (try rw [hji10] at A7)
        have hji10w : (IntKind.i64.wrap (x8_1 - 1)) = ji10 := (i64_w _).trans hji10
        by_cases c11 : 0 ≤ (ji10)
        ·rw [if_pos c11] at H
         have c11b0 : decide (0 ≤ (ji10)) = true := decide_eq_true c11
         clear c11
         by_cases c12 : (ji10) < (l0_0.length : Int)
         ·rw [if_pos c12] at H
          have c12b0 : decide ((ji10) < (l0_0.length : Int)) = true := decide_eq_true c12
          clear c12
          by_cases c13 : ((Op.bytesLess (((rd_T48 l0_0 (ji10)).f0).toList) (((rd_T48 l0_0 x8_1).f0).toList)) = true)
          ·rw [if_pos c13] at H
           have c13b0 : (Op.bytesLess (((rd_T48 l0_0 (ji10)).f0).toList) (((rd_T48 l0_0 x8_1).f0).toList)) = true := c13
           clear c13
           have H' := Aside0.mk H
           clear H
           have p338 : 0 ≤ (x8_1 : Int) := od_
           have q338 : x8_1 < (l0_0.length : Int) := od_
           obtain ⟨ad338, A338_5, c338_5, A338_8, c338_8, A338_9, c338_9, A338_10, c338_10, e338, hx338_0, hx338_1, hx338_2, hx338_3, hx338_4, hx338_5, hx338_6, hx338_7, hx338_8, hx338_9, hx338_10, hl338_5, hi338_5, hl338_8, hi338_8, hl338_9, hi338_9, hl338_10, hi338_10⟩ := at_T48 HR0_0.out x8_1 p338 q338
           cases e338
           replace hx338_0 := kc_ HB hx338_0
           replace hx338_1 := kc_ HB hx338_1
           replace hx338_2 := kc_ HB hx338_2
           replace hx338_3 := kc_ HB hx338_3
           replace hx338_4 := kc_ HB hx338_4
           replace hx338_5 := kc_ HB hx338_5
           replace hx338_6 := kc_ HB hx338_6
           replace hx338_7 := kc_ HB hx338_7
           replace hx338_8 := kc_ HB hx338_8
           replace hx338_9 := kc_ HB hx338_9
           replace hx338_10 := kc_ HB hx338_10
           have HR338_5 := Aside0.mk hi338_5
           have HC338_5 := Aside0.mk hl338_5
           clear hi338_5 hl338_5
           have HR338_8 := Aside0.mk hi338_8
           have HC338_8 := Aside0.mk hl338_8
           clear hi338_8 hl338_8
           have HR338_9 := Aside0.mk hi338_9
           have HC338_9 := Aside0.mk hl338_9
           clear hi338_9 hl338_9
           have HR338_10 := Aside0.mk hi338_10
           have HC338_10 := Aside0.mk hl338_10
           clear hi338_10 hl338_10
           replace p338 := eq_true p338
           replace q338 := eq_true q338
           try go_wp2_with (first | ((with_reducible refine gate_dst (N := 4) rfl ?_); refine box_event ?hg (N := 4) ?hd (cs := #[.string (⟨#[]⟩ : ByteArray), .int .i64 0, .int .i64 0, .int .i64 0, .int .i64 0, .slice none 0 0, .int .i64 0, .int .i64 0, .slice none 0 0, .slice none 0 0, .slice none 0 0]) (t := 48) ?hr ?_; (case hd => rfl); (case hg => rfl); (case hr => first | (go_simp; done) | (go_simp; rfl)); intro gb339 hg w14 hbox hb; have n0_ := Aside0.mk (blk_below (bk_ BK337) hb); have n1_ := Aside0.mk (below_step bl_ hb); have n2_ := Aside0.mk (hbox); have n3_ := gw_ (w := w) hg; have n4_ := gw_ (w := w) hg; have n5_ := Aside0.mk ((by rw [hg]; exact Nat.ne_of_lt (blk_lt (bk_ BK337)) : gb337 ≠ gb339)); have n6_ := Aside0.mk ((by rw [hg]; exact Nat.ne_of_gt (blk_lt (bk_ BK337)) : gb339 ≠ gb337)); clear BK337; clear HB; have BK337 := n0_; have HB := n1_; have BK339 := n2_; have GW339 := n3_; have GE339 := n4_; have NB337_339 := n5_; have NB339_337 := n6_; clear n0_ n1_ n2_ n3_ n4_ n5_ n6_; clear hb hbox hg; have hnb15 := NB339_337.out; have hnc15 := NB337_339.out; have hcz16_0 := cz_ BK339 0 (.string (⟨#[]⟩ : ByteArray)); have hcz16_1 := cz_ BK339 1 (.int .i64 0); have hcz16_2 := cz_ BK339 2 (.int .i64 0); have hcz16_3 := cz_ BK339 3 (.int .i64 0); have hcz16_4 := cz_ BK339 4 (.int .i64 0); have hcz16_5 := cz_ BK339 5 (.slice none 0 0); have hcz16_6 := cz_ BK339 6 (.int .i64 0); have hcz16_7 := cz_ BK339 7 (.int .i64 0); have hcz16_8 := cz_ BK339 8 (.slice none 0 0); have hcz16_9 := cz_ BK339 9 (.slice none 0 0); have hcz16_10 := cz_ BK339 10 (.slice none 0 0); have hfz16_0 := fz_ BK339 0; have hfz16_1 := fz_ BK339 1; have hfz16_2 := fz_ BK339 2; have hfz16_3 := fz_ BK339 3; have hfz16_4 := fz_ BK339 4; have hfz16_5 := fz_ BK339 5; have hfz16_6 := fz_ BK339 6; have hfz16_7 := fz_ BK339 7; have hfz16_8 := fz_ BK339 8; have hfz16_9 := fz_ BK339 9; have hfz16_10 := fz_ BK339 10))
           have n0_ : Aside0 ((((((((((((w14.setCell ⟨gb339, 0, none⟩ (.string ((rd_T48 l0_0 x8_1).f0))).setCell ⟨gb339, 1, none⟩ (.int .i64 ((rd_T48 l0_0 x8_1).f1))).setCell ⟨gb339, 2, none⟩ (.int .i64 ((rd_T48 l0_0 x8_1).f2))).setCell ⟨gb339, 3, none⟩ (.int .i64 ((rd_T48 l0_0 x8_1).f3))).setCell ⟨gb339, 4, none⟩ (.int .i64 ((rd_T48 l0_0 x8_1).f4))).setCell ⟨gb339, 5, none⟩ (.slice A338_5 ((rd_T48 l0_0 x8_1).f5).length c338_5)).setCell ⟨gb339, 6, none⟩ (.int .i64 ((rd_T48 l0_0 x8_1).f6.f0))).setCell ⟨gb339, 7, none⟩ (.int .i64 ((rd_T48 l0_0 x8_1).f6.f1))).setCell ⟨gb339, 8, none⟩ (.slice A338_8 ((rd_T48 l0_0 x8_1).f6.f2).length c338_8)).setCell ⟨gb339, 9, none⟩ (.slice A338_9 ((rd_T48 l0_0 x8_1).f6.f3).length c338_9)).setCell ⟨gb339, 10, none⟩ (.slice A338_10 ((rd_T48 l0_0 x8_1).f7).length c338_10)).heap[gb337]? = some (.cells #[.slice (some ad338) l0_0.length c0_0] 64 (0, 0))) := ⟨by (with_reducible repeat (first | refine blk_drewN ?_ _ | refine blk_drew ?_ | refine blk_alloc ?_ _)); refine blk_far ?_ NB337_339.out _; (with_reducible repeat (first | refine blk_drewN ?_ _ | refine blk_drew ?_ | refine blk_alloc ?_ _)); refine blk_far ?_ NB337_339.out _; (with_reducible repeat (first | refine blk_drewN ?_ _ | refine blk_drew ?_ | refine blk_alloc ?_ _)); refine blk_far ?_ NB337_339.out _; (with_reducible repeat (first | refine blk_drewN ?_ _ | refine blk_drew ?_ | refine blk_alloc ?_ _)); refine blk_far ?_ NB337_339.out _; (with_reducible repeat (first | refine blk_drewN ?_ _ | refine blk_drew ?_ | refine blk_alloc ?_ _)); refine blk_far ?_ NB337_339.out _; (with_reducible repeat (first | refine blk_drewN ?_ _ | refine blk_drew ?_ | refine blk_alloc ?_ _)); refine blk_far ?_ NB337_339.out _; (with_reducible repeat (first | refine blk_drewN ?_ _ | refine blk_drew ?_ | refine blk_alloc ?_ _)); refine blk_far ?_ NB337_339.out _; (with_reducible repeat (first | refine blk_drewN ?_ _ | refine blk_drew ?_ | refine blk_alloc ?_ _)); refine blk_far ?_ NB337_339.out _; (with_reducible repeat (first | refine blk_drewN ?_ _ | refine blk_drew ?_ | refine blk_alloc ?_ _)); refine blk_far ?_ NB337_339.out _; (with_reducible repeat (first | refine blk_drewN ?_ _ | refine blk_drew ?_ | refine blk_alloc ?_ _)); refine blk_far ?_ NB337_339.out _; (with_reducible repeat (first | refine blk_drewN ?_ _ | refine blk_drew ?_ | refine blk_alloc ?_ _)); refine blk_far ?_ NB337_339.out _; (with_reducible repeat (first | refine blk_drewN ?_ _ | refine blk_drew ?_ | refine blk_alloc ?_ _)); exact BK337.out⟩
           have n1_ : Aside0 ((((((((((((w14.setCell ⟨gb339, 0, none⟩ (.string ((rd_T48 l0_0 x8_1).f0))).setCell ⟨gb339, 1, none⟩ (.int .i64 ((rd_T48 l0_0 x8_1).f1))).setCell ⟨gb339, 2, none⟩ (.int .i64 ((rd_T48 l0_0 x8_1).f2))).setCell ⟨gb339, 3, none⟩ (.int .i64 ((rd_T48 l0_0 x8_1).f3))).setCell ⟨gb339, 4, none⟩ (.int .i64 ((rd_T48 l0_0 x8_1).f4))).setCell ⟨gb339, 5, none⟩ (.slice A338_5 ((rd_T48 l0_0 x8_1).f5).length c338_5)).setCell ⟨gb339, 6, none⟩ (.int .i64 ((rd_T48 l0_0 x8_1).f6.f0))).setCell ⟨gb339, 7, none⟩ (.int .i64 ((rd_T48 l0_0 x8_1).f6.f1))).setCell ⟨gb339, 8, none⟩ (.slice A338_8 ((rd_T48 l0_0 x8_1).f6.f2).length c338_8)).setCell ⟨gb339, 9, none⟩ (.slice A338_9 ((rd_T48 l0_0 x8_1).f6.f3).length c338_9)).setCell ⟨gb339, 10, none⟩ (.slice A338_10 ((rd_T48 l0_0 x8_1).f7).length c338_10)).heap[gb339]? = some (.cells #[.string ((rd_T48 l0_0 x8_1).f0), .int .i64 ((rd_T48 l0_0 x8_1).f1), .int .i64 ((rd_T48 l0_0 x8_1).f2), .int .i64 ((rd_T48 l0_0 x8_1).f3), .int .i64 ((rd_T48 l0_0 x8_1).f4), .slice A338_5 ((rd_T48 l0_0 x8_1).f5).length c338_5, .int .i64 ((rd_T48 l0_0 x8_1).f6.f0), .int .i64 ((rd_T48 l0_0 x8_1).f6.f1), .slice A338_8 ((rd_T48 l0_0 x8_1).f6.f2).length c338_8, .slice A338_9 ((rd_T48 l0_0 x8_1).f6.f3).length c338_9, .slice A338_10 ((rd_T48 l0_0 x8_1).f7).length c338_10] 48 (0, 0))) := ⟨by (with_reducible repeat (first | refine blk_drewN ?_ _ | refine blk_drew ?_ | refine blk_alloc ?_ _)); refine blk_put (cs := #[.string ((rd_T48 l0_0 x8_1).f0), .int .i64 ((rd_T48 l0_0 x8_1).f1), .int .i64 ((rd_T48 l0_0 x8_1).f2), .int .i64 ((rd_T48 l0_0 x8_1).f3), .int .i64 ((rd_T48 l0_0 x8_1).f4), .slice A338_5 ((rd_T48 l0_0 x8_1).f5).length c338_5, .int .i64 ((rd_T48 l0_0 x8_1).f6.f0), .int .i64 ((rd_T48 l0_0 x8_1).f6.f1), .slice A338_8 ((rd_T48 l0_0 x8_1).f6.f2).length c338_8, .slice A338_9 ((rd_T48 l0_0 x8_1).f6.f3).length c338_9, .slice none 0 0]) ?_ 10 _ rfl; refine blk_put (cs := #[.string ((rd_T48 l0_0 x8_1).f0), .int .i64 ((rd_T48 l0_0 x8_1).f1), .int .i64 ((rd_T48 l0_0 x8_1).f2), .int .i64 ((rd_T48 l0_0 x8_1).f3), .int .i64 ((rd_T48 l0_0 x8_1).f4), .slice A338_5 ((rd_T48 l0_0 x8_1).f5).length c338_5, .int .i64 ((rd_T48 l0_0 x8_1).f6.f0), .int .i64 ((rd_T48 l0_0 x8_1).f6.f1), .slice A338_8 ((rd_T48 l0_0 x8_1).f6.f2).length c338_8, .slice none 0 0, .slice none 0 0]) ?_ 9 _ rfl; refine blk_put (cs := #[.string ((rd_T48 l0_0 x8_1).f0), .int .i64 ((rd_T48 l0_0 x8_1).f1), .int .i64 ((rd_T48 l0_0 x8_1).f2), .int .i64 ((rd_T48 l0_0 x8_1).f3), .int .i64 ((rd_T48 l0_0 x8_1).f4), .slice A338_5 ((rd_T48 l0_0 x8_1).f5).length c338_5, .int .i64 ((rd_T48 l0_0 x8_1).f6.f0), .int .i64 ((rd_T48 l0_0 x8_1).f6.f1), .slice none 0 0, .slice none 0 0, .slice none 0 0]) ?_ 8 _ rfl; refine blk_put (cs := #[.string ((rd_T48 l0_0 x8_1).f0), .int .i64 ((rd_T48 l0_0 x8_1).f1), .int .i64 ((rd_T48 l0_0 x8_1).f2), .int .i64 ((rd_T48 l0_0 x8_1).f3), .int .i64 ((rd_T48 l0_0 x8_1).f4), .slice A338_5 ((rd_T48 l0_0 x8_1).f5).length c338_5, .int .i64 ((rd_T48 l0_0 x8_1).f6.f0), .int .i64 0, .slice none 0 0, .slice none 0 0, .slice none 0 0]) ?_ 7 _ rfl; refine blk_put (cs := #[.string ((rd_T48 l0_0 x8_1).f0), .int .i64 ((rd_T48 l0_0 x8_1).f1), .int .i64 ((rd_T48 l0_0 x8_1).f2), .int .i64 ((rd_T48 l0_0 x8_1).f3), .int .i64 ((rd_T48 l0_0 x8_1).f4), .slice A338_5 ((rd_T48 l0_0 x8_1).f5).length c338_5, .int .i64 0, .int .i64 0, .slice none 0 0, .slice none 0 0, .slice none 0 0]) ?_ 6 _ rfl; refine blk_put (cs := #[.string ((rd_T48 l0_0 x8_1).f0), .int .i64 ((rd_T48 l0_0 x8_1).f1), .int .i64 ((rd_T48 l0_0 x8_1).f2), .int .i64 ((rd_T48 l0_0 x8_1).f3), .int .i64 ((rd_T48 l0_0 x8_1).f4), .slice none 0 0, .int .i64 0, .int .i64 0, .slice none 0 0, .slice none 0 0, .slice none 0 0]) ?_ 5 _ rfl; refine blk_put (cs := #[.string ((rd_T48 l0_0 x8_1).f0), .int .i64 ((rd_T48 l0_0 x8_1).f1), .int .i64 ((rd_T48 l0_0 x8_1).f2), .int .i64 ((rd_T48 l0_0 x8_1).f3), .int .i64 0, .slice none 0 0, .int .i64 0, .int .i64 0, .slice none 0 0, .slice none 0 0, .slice none 0 0]) ?_ 4 _ rfl; refine blk_put (cs := #[.string ((rd_T48 l0_0 x8_1).f0), .int .i64 ((rd_T48 l0_0 x8_1).f1), .int .i64 ((rd_T48 l0_0 x8_1).f2), .int .i64 0, .int .i64 0, .slice none 0 0, .int .i64 0, .int .i64 0, .slice none 0 0, .slice none 0 0, .slice none 0 0]) ?_ 3 _ rfl; refine blk_put (cs := #[.string ((rd_T48 l0_0 x8_1).f0), .int .i64 ((rd_T48 l0_0 x8_1).f1), .int .i64 0, .int .i64 0, .int .i64 0, .slice none 0 0, .int .i64 0, .int .i64 0, .slice none 0 0, .slice none 0 0, .slice none 0 0]) ?_ 2 _ rfl; refine blk_put (cs := #[.string ((rd_T48 l0_0 x8_1).f0), .int .i64 0, .int .i64 0, .int .i64 0, .int .i64 0, .slice none 0 0, .int .i64 0, .int .i64 0, .slice none 0 0, .slice none 0 0, .slice none 0 0]) ?_ 1 _ rfl; refine blk_put (cs := #[.string (⟨#[]⟩ : ByteArray), .int .i64 0, .int .i64 0, .int .i64 0, .int .i64 0, .slice none 0 0, .int .i64 0, .int .i64 0, .slice none 0 0, .slice none 0 0, .slice none 0 0]) ?_ 0 _ rfl; (with_reducible repeat (first | refine blk_drewN ?_ _ | refine blk_drew ?_ | refine blk_alloc ?_ _)); exact BK339.out⟩
           have n2_ : Aside0 (Below w.heap.size w (((((((((((w14.setCell ⟨gb339, 0, none⟩ (.string ((rd_T48 l0_0 x8_1).f0))).setCell ⟨gb339, 1, none⟩ (.int .i64 ((rd_T48 l0_0 x8_1).f1))).setCell ⟨gb339, 2, none⟩ (.int .i64 ((rd_T48 l0_0 x8_1).f2))).setCell ⟨gb339, 3, none⟩ (.int .i64 ((rd_T48 l0_0 x8_1).f3))).setCell ⟨gb339, 4, none⟩ (.int .i64 ((rd_T48 l0_0 x8_1).f4))).setCell ⟨gb339, 5, none⟩ (.slice A338_5 ((rd_T48 l0_0 x8_1).f5).length c338_5)).setCell ⟨gb339, 6, none⟩ (.int .i64 ((rd_T48 l0_0 x8_1).f6.f0))).setCell ⟨gb339, 7, none⟩ (.int .i64 ((rd_T48 l0_0 x8_1).f6.f1))).setCell ⟨gb339, 8, none⟩ (.slice A338_8 ((rd_T48 l0_0 x8_1).f6.f2).length c338_8)).setCell ⟨gb339, 9, none⟩ (.slice A338_9 ((rd_T48 l0_0 x8_1).f6.f3).length c338_9)).setCell ⟨gb339, 10, none⟩ (.slice A338_10 ((rd_T48 l0_0 x8_1).f7).length c338_10))) := ⟨bl_⟩
           (try clear BK337)
           (try clear BK339)
           (try clear HB)
           generalize (((((((((((w14.setCell ⟨gb339, 0, none⟩ (.string ((rd_T48 l0_0 x8_1).f0))).setCell ⟨gb339, 1, none⟩ (.int .i64 ((rd_T48 l0_0 x8_1).f1))).setCell ⟨gb339, 2, none⟩ (.int .i64 ((rd_T48 l0_0 x8_1).f2))).setCell ⟨gb339, 3, none⟩ (.int .i64 ((rd_T48 l0_0 x8_1).f3))).setCell ⟨gb339, 4, none⟩ (.int .i64 ((rd_T48 l0_0 x8_1).f4))).setCell ⟨gb339, 5, none⟩ (.slice A338_5 ((rd_T48 l0_0 x8_1).f5).length c338_5)).setCell ⟨gb339, 6, none⟩ (.int .i64 ((rd_T48 l0_0 x8_1).f6.f0))).setCell ⟨gb339, 7, none⟩ (.int .i64 ((rd_T48 l0_0 x8_1).f6.f1))).setCell ⟨gb339, 8, none⟩ (.slice A338_8 ((rd_T48 l0_0 x8_1).f6.f2).length c338_8)).setCell ⟨gb339, 9, none⟩ (.slice A338_9 ((rd_T48 l0_0 x8_1).f6.f3).length c338_9)).setCell ⟨gb339, 10, none⟩ (.slice A338_10 ((rd_T48 l0_0 x8_1).f7).length c338_10)) = w17 at n0_ n1_ n2_ ⊢
           have BK337 := n0_
           have BK339 := n1_
           have HB := n2_
           clear n0_ n1_ n2_
           have n0_ := Aside0.mk (blk_drew BK337.out)
           have n1_ := Aside0.mk (blk_drew BK339.out)
           have n2_ := Aside0.mk (below_drew1 HB.out)
           clear BK337
           clear BK339
           clear HB
           have BK337 := n0_
           have BK339 := n1_
           have HB := n2_
           clear n0_ n1_ n2_
           have p341 : 0 ≤ ((ji10) : Int) := od_
           have q341 : (ji10) < (l0_0.length : Int) := od_
           obtain ⟨ad341, A341_5, c341_5, A341_8, c341_8, A341_9, c341_9, A341_10, c341_10, e341, hx341_0, hx341_1, hx341_2, hx341_3, hx341_4, hx341_5, hx341_6, hx341_7, hx341_8, hx341_9, hx341_10, hl341_5, hi341_5, hl341_8, hi341_8, hl341_9, hi341_9, hl341_10, hi341_10⟩ := at_T48 HR0_0.out (ji10) p341 q341
           have hw341_10 := hx341_10
           have hw341_9 := hx341_9
           have hw341_8 := hx341_8
           have hw341_7 := hx341_7
           have hw341_6 := hx341_6
           have hw341_5 := hx341_5
           have hw341_4 := hx341_4
           have hw341_3 := hx341_3
           have hw341_2 := hx341_2
           have hw341_1 := hx341_1
           have hw341_0 := hx341_0
           obtain rfl : ad338 = ad341 := (by injection e341)
           replace hx341_0 := kc_ HB hx341_0
           replace hx341_1 := kc_ HB hx341_1
           replace hx341_2 := kc_ HB hx341_2
           replace hx341_3 := kc_ HB hx341_3
           replace hx341_4 := kc_ HB hx341_4
           replace hx341_5 := kc_ HB hx341_5
           replace hx341_6 := kc_ HB hx341_6
           replace hx341_7 := kc_ HB hx341_7
           replace hx341_8 := kc_ HB hx341_8
           replace hx341_9 := kc_ HB hx341_9
           replace hx341_10 := kc_ HB hx341_10
           have HR341_5 := Aside0.mk hi341_5
           have HC341_5 := Aside0.mk hl341_5
           clear hi341_5 hl341_5
           have HR341_8 := Aside0.mk hi341_8
           have HC341_8 := Aside0.mk hl341_8
           clear hi341_8 hl341_8
           have HR341_9 := Aside0.mk hi341_9
           have HC341_9 := Aside0.mk hl341_9
           clear hi341_9 hl341_9
           have HR341_10 := Aside0.mk hi341_10
           have HC341_10 := Aside0.mk hl341_10
           clear hi341_10 hl341_10
           replace p341 := eq_true p341
           replace q341 := eq_true q341
           refine start_ (n := 19) (S := fun w' => w'.cell? ⟨gb339, 0, none⟩ = some (.string ((rd_T48 l0_0 x8_1).f0)) ∧ w'.cell? ⟨gb339, 1, none⟩ = some (.int .i64 ((rd_T48 l0_0 x8_1).f1)) ∧ w'.cell? ⟨gb339, 2, none⟩ = some (.int .i64 ((rd_T48 l0_0 x8_1).f2)) ∧ w'.cell? ⟨gb339, 3, none⟩ = some (.int .i64 ((rd_T48 l0_0 x8_1).f3)) ∧ w'.cell? ⟨gb339, 4, none⟩ = some (.int .i64 ((rd_T48 l0_0 x8_1).f4)) ∧ w'.cell? ⟨gb339, 5, none⟩ = some (.slice A338_5 ((rd_T48 l0_0 x8_1).f5).length c338_5) ∧ w'.cell? ⟨gb339, 6, none⟩ = some (.int .i64 ((rd_T48 l0_0 x8_1).f6.f0)) ∧ w'.cell? ⟨gb339, 7, none⟩ = some (.int .i64 ((rd_T48 l0_0 x8_1).f6.f1)) ∧ w'.cell? ⟨gb339, 8, none⟩ = some (.slice A338_8 ((rd_T48 l0_0 x8_1).f6.f2).length c338_8) ∧ w'.cell? ⟨gb339, 9, none⟩ = some (.slice A338_9 ((rd_T48 l0_0 x8_1).f6.f3).length c338_9) ∧ w'.cell? ⟨gb339, 10, none⟩ = some (.slice A338_10 ((rd_T48 l0_0 x8_1).f7).length c338_10) ∧ w'.cell? ⟨gb337, 0, none⟩ = some (.slice (some ad338) l0_0.length c0_0) ∧ w'.cell? (ad338.add (((ji10)).toNat * 11)) = some (.string ((rd_T48 l0_0 (ji10)).f0)) ∧ w'.cell? ⟨(ad338.add (((ji10)).toNat * 11)).block, (ad338.add (((ji10)).toNat * 11)).off + 1, none⟩ = some (.int .i64 ((rd_T48 l0_0 (ji10)).f1)) ∧ w'.cell? ⟨(ad338.add (((ji10)).toNat * 11)).block, (ad338.add (((ji10)).toNat * 11)).off + 2, none⟩ = some (.int .i64 ((rd_T48 l0_0 (ji10)).f2)) ∧ w'.cell? ⟨(ad338.add (((ji10)).toNat * 11)).block, (ad338.add (((ji10)).toNat * 11)).off + 3, none⟩ = some (.int .i64 ((rd_T48 l0_0 (ji10)).f3)) ∧ w'.cell? ⟨(ad338.add (((ji10)).toNat * 11)).block, (ad338.add (((ji10)).toNat * 11)).off + 4, none⟩ = some (.int .i64 ((rd_T48 l0_0 (ji10)).f4)) ∧ w'.cell? ⟨(ad338.add (((ji10)).toNat * 11)).block, (ad338.add (((ji10)).toNat * 11)).off + 5, none⟩ = some (.slice A341_5 ((rd_T48 l0_0 (ji10)).f5).length c341_5) ∧ w'.cell? ⟨(ad338.add (((ji10)).toNat * 11)).block, (ad338.add (((ji10)).toNat * 11)).off + 6, none⟩ = some (.int .i64 ((rd_T48 l0_0 (ji10)).f6.f0)) ∧ w'.cell? ⟨(ad338.add (((ji10)).toNat * 11)).block, (ad338.add (((ji10)).toNat * 11)).off + 7, none⟩ = some (.int .i64 ((rd_T48 l0_0 (ji10)).f6.f1)) ∧ w'.cell? ⟨(ad338.add (((ji10)).toNat * 11)).block, (ad338.add (((ji10)).toNat * 11)).off + 8, none⟩ = some (.slice A341_8 ((rd_T48 l0_0 (ji10)).f6.f2).length c341_8) ∧ w'.cell? ⟨(ad338.add (((ji10)).toNat * 11)).block, (ad338.add (((ji10)).toNat * 11)).off + 9, none⟩ = some (.slice A341_9 ((rd_T48 l0_0 (ji10)).f6.f3).length c341_9) ∧ w'.cell? ⟨(ad338.add (((ji10)).toNat * 11)).block, (ad338.add (((ji10)).toNat * 11)).off + 10, none⟩ = some (.slice A341_10 ((rd_T48 l0_0 (ji10)).f7).length c341_10)) (ds := []) tb19_0_14 (by kernel_rfl) rfl rfl ⟨cy_ BK339 0, cy_ BK339 1, cy_ BK339 2, cy_ BK339 3, cy_ BK339 4, cy_ BK339 5, cy_ BK339 6, cy_ BK339 7, cy_ BK339 8, cy_ BK339 9, cy_ BK339 10, cy_ BK337 0, (kc_ HB hw341_0), (kc_ HB hw341_1), (kc_ HB hw341_2), (kc_ HB hw341_3), (kc_ HB hw341_4), (kc_ HB hw341_5), (kc_ HB hw341_6), (kc_ HB hw341_7), (kc_ HB hw341_8), (kc_ HB hw341_9), (kc_ HB hw341_10)⟩ (fun hHeld => ?_); refine with_tabW impl_BookOk.tab4 impl_BookOk.bits4 (fun HT_ HW_ => ?_)
           generalize w17.drew = w18 at BK337 BK339 HB HR341_10 HR341_5 HR341_8 HR341_9 hx341_0 hx341_1 hx341_10 hx341_2 hx341_3 hx341_4 hx341_5 hx341_6 hx341_7 hx341_8 hx341_9 hHeld ⊢
           refine take_ (i := 0) (N := some 13) (v := ?_) (a' := ?_) tb19_1_14 rfl rfl (take_ofW HT_.out HW_.out (by kernel_rfl)) (fun _ _ _ h => h) (Or.inl ⟨by rfl, ?_⟩) hHeld ?_ ?_
           rotate_left
           ·rintro w' ⟨s0, s1, s2, s3, s4, s5, s6, s7, s8, s9, s10, s11, s12, s13, s14, s15, s16, s17, s18, s19, s20, s21, s22⟩
            go_simp
            with_reducible rfl
           rotate_left
           ·simp only [Act.put, q_]
            rfl
           refine one_ (i := 1) (N := some 14) tb19_3_14 rfl rfl (one_of HT_.out (by kernel_rfl)) (by decide) (fun K hK => ?_)
           refine goes_ Try.func20 (by kernel_rfl) rfl #[.agg #[.string ((rd_T48 l0_0 x8_1).f0), .int .i64 ((rd_T48 l0_0 x8_1).f1), .int .i64 ((rd_T48 l0_0 x8_1).f2), .int .i64 ((rd_T48 l0_0 x8_1).f3), .int .i64 ((rd_T48 l0_0 x8_1).f4), .slice A338_5 ((rd_T48 l0_0 x8_1).f5).length c338_5, .int .i64 ((rd_T48 l0_0 x8_1).f6.f0), .int .i64 ((rd_T48 l0_0 x8_1).f6.f1), .slice A338_8 ((rd_T48 l0_0 x8_1).f6.f2).length c338_8, .slice A338_9 ((rd_T48 l0_0 x8_1).f6.f3).length c338_9, .slice A338_10 ((rd_T48 l0_0 x8_1).f7).length c338_10]] (by rfl) rfl rfl gl_ ?_
           with_reducible refine (impl_AcctOk.calls k1 ((rd_T48 l0_0 x8_1).f0) ((rd_T48 l0_0 x8_1).f1) ((rd_T48 l0_0 x8_1).f2) ((rd_T48 l0_0 x8_1).f3) ((rd_T48 l0_0 x8_1).f4) _ _ ((rd_T48 l0_0 x8_1).f5) ((rd_T48 l0_0 x8_1).f6.f0) ((rd_T48 l0_0 x8_1).f6.f1) _ _ ((rd_T48 l0_0 x8_1).f6.f2) _ _ ((rd_T48 l0_0 x8_1).f6.f3) _ _ ((rd_T48 l0_0 x8_1).f7) true _ ?side1 ?side2 ?side3 ?side4 ?side5 ?side6 ?side7 ?side8 A7.out).mono ?_
           (case side1 => exact ca_ (Kd.C_below HR338_5.out HB.out))
           (case side2 => exact HC338_5.out)
           (case side3 => exact ca_ (Kd.C_below HR338_8.out HB.out))
           (case side4 => exact HC338_8.out)
           (case side5 => exact ca_ (Kd.C_below HR338_9.out HB.out))
           (case side6 => exact HC338_9.out)
           (case side7 => exact ca_ (Kd.C_below HR338_10.out HB.out))
           (case side8 => exact HC338_10.out)
           rintro e w19 ⟨rfl, hb⟩
           refine ⟨_, rfl, ?_⟩
           have n0_ := Aside0.mk (blk_below (bk_ BK337) hb)
           have n1_ := Aside0.mk (blk_below (bk_ BK339) hb)
           have n2_ := Aside0.mk (below_step bl_ hb)
           clear BK337
           clear BK339
           clear HB
           have BK337 := n0_
           have BK339 := n1_
           have HB := n2_
           clear n0_ n1_ n2_
           (try clear hb)
           (try clear hb2)
           (try clear hk)
           (try clear hi)
           refine hK.out _ _ ⟨cy_ BK339 0, cy_ BK339 1, cy_ BK339 2, cy_ BK339 3, cy_ BK339 4, cy_ BK339 5, cy_ BK339 6, cy_ BK339 7, cy_ BK339 8, cy_ BK339 9, cy_ BK339 10, cy_ BK337 0, (kc_ HB hw341_0), (kc_ HB hw341_1), (kc_ HB hw341_2), (kc_ HB hw341_3), (kc_ HB hw341_4), (kc_ HB hw341_5), (kc_ HB hw341_6), (kc_ HB hw341_7), (kc_ HB hw341_8), (kc_ HB hw341_9), (kc_ HB hw341_10)⟩ (fun hHeld => ?_)
           clear hK K
           refine norm_ (a' := ?_) ?_ ?_
           rotate_left
           ·show Act.put _ (some 14) _ = _
            simp only [Act.put, q_]
            rfl
           refine pl_ HT_ 2 15 tb19_7_14 ?_
           refine pl_ HT_ 3 16 tb19_f_14 ?_
           refine pl_ HT_ 4 17 tb19_1f_14 ?_
           refine pl_ HT_ 5 18 tb19_3f_14 ?_
           refine pl_ HT_ 6 19 tb19_7f_14 ?_
           refine pl_ HT_ 7 20 tb19_ff_14 ?_
           refine pl_ HT_ 9 22 tb19_2ff_14 ?_
           refine pl_ HT_ 11 24 tb19_aff_14 ?_
           refine pl_ HT_ 12 25 tb19_1aff_14 ?_
           refine take_ (i := 8) (N := some 21) (v := ?_) (a' := ?_) tb19_1bff_14 rfl rfl (take_ofW HT_.out HW_.out (by kernel_rfl)) (fun _ _ _ h => h) (Or.inl ⟨by rfl, ?_⟩) hHeld ?_ ?_
           rotate_left
           ·rintro w' ⟨s0, s1, s2, s3, s4, s5, s6, s7, s8, s9, s10, s11, s12, s13, s14, s15, s16, s17, s18, s19, s20, s21, s22⟩
            go_simp
            with_reducible rfl
           rotate_left
           ·simp only [Act.put, q_]
            rfl
           refine take_ (i := 10) (N := some 23) (v := ?_) (a' := ?_) tb19_1fff_14 rfl rfl (take_ofW HT_.out HW_.out (by kernel_rfl)) (fun _ _ _ h => h) (Or.inl ⟨by rfl, ?_⟩) hHeld ?_ ?_
           rotate_left
           ·rintro w' ⟨s0, s1, s2, s3, s4, s5, s6, s7, s8, s9, s10, s11, s12, s13, s14, s15, s16, s17, s18, s19, s20, s21, s22⟩
            go_simp
            with_reducible rfl
           rotate_left
           ·simp only [Act.put, q_]
            rfl
           refine pl_ HT_ 13 26 tb19_3fff_14 ?_
           refine pl_ HT_ 14 27 tb19_7fff_14 ?_
           refine take_ (i := 15) (N := some 28) (v := ?_) (a' := ?_) tb19_ffff_14 rfl rfl (take_ofW HT_.out HW_.out (by kernel_rfl)) (fun _ _ _ h => h) (Or.inl ⟨by rfl, ?_⟩) hHeld ?_ ?_
           rotate_left
           ·rintro w' ⟨s0, s1, s2, s3, s4, s5, s6, s7, s8, s9, s10, s11, s12, s13, s14, s15, s16, s17, s18, s19, s20, s21, s22⟩
            go_simp
            with_reducible rfl
           rotate_left
           ·simp only [Act.put, q_]
            rfl
           refine pl_ HT_ 16 29 tb19_1ffff_14 ?_
           refine pl_ HT_ 17 30 tb19_3ffff_14 ?_
           refine pl_ HT_ 18 31 tb19_7ffff_14 ?_
           refine done_ (done_of HT_.out (by kernel_rfl)) ?_
           try go_wp2
           go_roundg k1
           case measure => have := HK1.out; omega
           case rel => exact ⟨(wrap64 (x8_1 + 1)), sp_, H', ⟨by have := HK1.out; omega⟩, ⟨by (with_reducible repeat (first | refine blk_drewN ?_ _ | refine blk_drew ?_ | refine blk_alloc ?_ _)); exact BK337.out⟩, ⟨bl_⟩⟩
          ·rw [if_neg c13] at H
           have c13b0 : (Op.bytesLess (((rd_T48 l0_0 (ji10)).f0).toList) (((rd_T48 l0_0 x8_1).f0).toList)) = false := by simpa using c13
           clear c13
           obtain rfl := Option.some.inj H
           have p338 : 0 ≤ (x8_1 : Int) := od_
           have q338 : x8_1 < (l0_0.length : Int) := od_
           obtain ⟨ad338, A338_5, c338_5, A338_8, c338_8, A338_9, c338_9, A338_10, c338_10, e338, hx338_0, hx338_1, hx338_2, hx338_3, hx338_4, hx338_5, hx338_6, hx338_7, hx338_8, hx338_9, hx338_10, hl338_5, hi338_5, hl338_8, hi338_8, hl338_9, hi338_9, hl338_10, hi338_10⟩ := at_T48 HR0_0.out x8_1 p338 q338
           cases e338
           replace hx338_0 := kc_ HB hx338_0
           replace hx338_1 := kc_ HB hx338_1
           replace hx338_2 := kc_ HB hx338_2
           replace hx338_3 := kc_ HB hx338_3
           replace hx338_4 := kc_ HB hx338_4
           replace hx338_5 := kc_ HB hx338_5
           replace hx338_6 := kc_ HB hx338_6
           replace hx338_7 := kc_ HB hx338_7
           replace hx338_8 := kc_ HB hx338_8
           replace hx338_9 := kc_ HB hx338_9
           replace hx338_10 := kc_ HB hx338_10
           have HR338_5 := Aside0.mk hi338_5
           have HC338_5 := Aside0.mk hl338_5
           clear hi338_5 hl338_5
           have HR338_8 := Aside0.mk hi338_8
           have HC338_8 := Aside0.mk hl338_8
           clear hi338_8 hl338_8
           have HR338_9 := Aside0.mk hi338_9
           have HC338_9 := Aside0.mk hl338_9
           clear hi338_9 hl338_9
           have HR338_10 := Aside0.mk hi338_10
           have HC338_10 := Aside0.mk hl338_10
           clear hi338_10 hl338_10
           replace p338 := eq_true p338
           replace q338 := eq_true q338
           try go_wp2_with (first | ((with_reducible refine gate_dst (N := 4) rfl ?_); refine box_event ?hg (N := 4) ?hd (cs := #[.string (⟨#[]⟩ : ByteArray), .int .i64 0, .int .i64 0, .int .i64 0, .int .i64 0, .slice none 0 0, .int .i64 0, .int .i64 0, .slice none 0 0, .slice none 0 0, .slice none 0 0]) (t := 48) ?hr ?_; (case hd => rfl); (case hg => rfl); (case hr => first | (go_simp; done) | (go_simp; rfl)); intro gb339 hg w20 hbox hb; have n0_ := Aside0.mk (blk_below (bk_ BK337) hb); have n1_ := Aside0.mk (below_step bl_ hb); have n2_ := Aside0.mk (hbox); have n3_ := gw_ (w := w) hg; have n4_ := gw_ (w := w) hg; have n5_ := Aside0.mk ((by rw [hg]; exact Nat.ne_of_lt (blk_lt (bk_ BK337)) : gb337 ≠ gb339)); have n6_ := Aside0.mk ((by rw [hg]; exact Nat.ne_of_gt (blk_lt (bk_ BK337)) : gb339 ≠ gb337)); clear BK337; clear HB; have BK337 := n0_; have HB := n1_; have BK339 := n2_; have GW339 := n3_; have GE339 := n4_; have NB337_339 := n5_; have NB339_337 := n6_; clear n0_ n1_ n2_ n3_ n4_ n5_ n6_; clear hb hbox hg; have hnb21 := NB339_337.out; have hnc21 := NB337_339.out; have hcz22_0 := cz_ BK339 0 (.string (⟨#[]⟩ : ByteArray)); have hcz22_1 := cz_ BK339 1 (.int .i64 0); have hcz22_2 := cz_ BK339 2 (.int .i64 0); have hcz22_3 := cz_ BK339 3 (.int .i64 0); have hcz22_4 := cz_ BK339 4 (.int .i64 0); have hcz22_5 := cz_ BK339 5 (.slice none 0 0); have hcz22_6 := cz_ BK339 6 (.int .i64 0); have hcz22_7 := cz_ BK339 7 (.int .i64 0); have hcz22_8 := cz_ BK339 8 (.slice none 0 0); have hcz22_9 := cz_ BK339 9 (.slice none 0 0); have hcz22_10 := cz_ BK339 10 (.slice none 0 0); have hfz22_0 := fz_ BK339 0; have hfz22_1 := fz_ BK339 1; have hfz22_2 := fz_ BK339 2; have hfz22_3 := fz_ BK339 3; have hfz22_4 := fz_ BK339 4; have hfz22_5 := fz_ BK339 5; have hfz22_6 := fz_ BK339 6; have hfz22_7 := fz_ BK339 7; have hfz22_8 := fz_ BK339 8; have hfz22_9 := fz_ BK339 9; have hfz22_10 := fz_ BK339 10))
           have n0_ : Aside0 ((((((((((((w20.setCell ⟨gb339, 0, none⟩ (.string ((rd_T48 l0_0 x8_1).f0))).setCell ⟨gb339, 1, none⟩ (.int .i64 ((rd_T48 l0_0 x8_1).f1))).setCell ⟨gb339, 2, none⟩ (.int .i64 ((rd_T48 l0_0 x8_1).f2))).setCell ⟨gb339, 3, none⟩ (.int .i64 ((rd_T48 l0_0 x8_1).f3))).setCell ⟨gb339, 4, none⟩ (.int .i64 ((rd_T48 l0_0 x8_1).f4))).setCell ⟨gb339, 5, none⟩ (.slice A338_5 ((rd_T48 l0_0 x8_1).f5).length c338_5)).setCell ⟨gb339, 6, none⟩ (.int .i64 ((rd_T48 l0_0 x8_1).f6.f0))).setCell ⟨gb339, 7, none⟩ (.int .i64 ((rd_T48 l0_0 x8_1).f6.f1))).setCell ⟨gb339, 8, none⟩ (.slice A338_8 ((rd_T48 l0_0 x8_1).f6.f2).length c338_8)).setCell ⟨gb339, 9, none⟩ (.slice A338_9 ((rd_T48 l0_0 x8_1).f6.f3).length c338_9)).setCell ⟨gb339, 10, none⟩ (.slice A338_10 ((rd_T48 l0_0 x8_1).f7).length c338_10)).heap[gb337]? = some (.cells #[.slice (some ad338) l0_0.length c0_0] 64 (0, 0))) := ⟨by (with_reducible repeat (first | refine blk_drewN ?_ _ | refine blk_drew ?_ | refine blk_alloc ?_ _)); refine blk_far ?_ NB337_339.out _; (with_reducible repeat (first | refine blk_drewN ?_ _ | refine blk_drew ?_ | refine blk_alloc ?_ _)); refine blk_far ?_ NB337_339.out _; (with_reducible repeat (first | refine blk_drewN ?_ _ | refine blk_drew ?_ | refine blk_alloc ?_ _)); refine blk_far ?_ NB337_339.out _; (with_reducible repeat (first | refine blk_drewN ?_ _ | refine blk_drew ?_ | refine blk_alloc ?_ _)); refine blk_far ?_ NB337_339.out _; (with_reducible repeat (first | refine blk_drewN ?_ _ | refine blk_drew ?_ | refine blk_alloc ?_ _)); refine blk_far ?_ NB337_339.out _; (with_reducible repeat (first | refine blk_drewN ?_ _ | refine blk_drew ?_ | refine blk_alloc ?_ _)); refine blk_far ?_ NB337_339.out _; (with_reducible repeat (first | refine blk_drewN ?_ _ | refine blk_drew ?_ | refine blk_alloc ?_ _)); refine blk_far ?_ NB337_339.out _; (with_reducible repeat (first | refine blk_drewN ?_ _ | refine blk_drew ?_ | refine blk_alloc ?_ _)); refine blk_far ?_ NB337_339.out _; (with_reducible repeat (first | refine blk_drewN ?_ _ | refine blk_drew ?_ | refine blk_alloc ?_ _)); refine blk_far ?_ NB337_339.out _; (with_reducible repeat (first | refine blk_drewN ?_ _ | refine blk_drew ?_ | refine blk_alloc ?_ _)); refine blk_far ?_ NB337_339.out _; (with_reducible repeat (first | refine blk_drewN ?_ _ | refine blk_drew ?_ | refine blk_alloc ?_ _)); refine blk_far ?_ NB337_339.out _; (with_reducible repeat (first | refine blk_drewN ?_ _ | refine blk_drew ?_ | refine blk_alloc ?_ _)); exact BK337.out⟩
           have n1_ : Aside0 ((((((((((((w20.setCell ⟨gb339, 0, none⟩ (.string ((rd_T48 l0_0 x8_1).f0))).setCell ⟨gb339, 1, none⟩ (.int .i64 ((rd_T48 l0_0 x8_1).f1))).setCell ⟨gb339, 2, none⟩ (.int .i64 ((rd_T48 l0_0 x8_1).f2))).setCell ⟨gb339, 3, none⟩ (.int .i64 ((rd_T48 l0_0 x8_1).f3))).setCell ⟨gb339, 4, none⟩ (.int .i64 ((rd_T48 l0_0 x8_1).f4))).setCell ⟨gb339, 5, none⟩ (.slice A338_5 ((rd_T48 l0_0 x8_1).f5).length c338_5)).setCell ⟨gb339, 6, none⟩ (.int .i64 ((rd_T48 l0_0 x8_1).f6.f0))).setCell ⟨gb339, 7, none⟩ (.int .i64 ((rd_T48 l0_0 x8_1).f6.f1))).setCell ⟨gb339, 8, none⟩ (.slice A338_8 ((rd_T48 l0_0 x8_1).f6.f2).length c338_8)).setCell ⟨gb339, 9, none⟩ (.slice A338_9 ((rd_T48 l0_0 x8_1).f6.f3).length c338_9)).setCell ⟨gb339, 10, none⟩ (.slice A338_10 ((rd_T48 l0_0 x8_1).f7).length c338_10)).heap[gb339]? = some (.cells #[.string ((rd_T48 l0_0 x8_1).f0), .int .i64 ((rd_T48 l0_0 x8_1).f1), .int .i64 ((rd_T48 l0_0 x8_1).f2), .int .i64 ((rd_T48 l0_0 x8_1).f3), .int .i64 ((rd_T48 l0_0 x8_1).f4), .slice A338_5 ((rd_T48 l0_0 x8_1).f5).length c338_5, .int .i64 ((rd_T48 l0_0 x8_1).f6.f0), .int .i64 ((rd_T48 l0_0 x8_1).f6.f1), .slice A338_8 ((rd_T48 l0_0 x8_1).f6.f2).length c338_8, .slice A338_9 ((rd_T48 l0_0 x8_1).f6.f3).length c338_9, .slice A338_10 ((rd_T48 l0_0 x8_1).f7).length c338_10] 48 (0, 0))) := ⟨by (with_reducible repeat (first | refine blk_drewN ?_ _ | refine blk_drew ?_ | refine blk_alloc ?_ _)); refine blk_put (cs := #[.string ((rd_T48 l0_0 x8_1).f0), .int .i64 ((rd_T48 l0_0 x8_1).f1), .int .i64 ((rd_T48 l0_0 x8_1).f2), .int .i64 ((rd_T48 l0_0 x8_1).f3), .int .i64 ((rd_T48 l0_0 x8_1).f4), .slice A338_5 ((rd_T48 l0_0 x8_1).f5).length c338_5, .int .i64 ((rd_T48 l0_0 x8_1).f6.f0), .int .i64 ((rd_T48 l0_0 x8_1).f6.f1), .slice A338_8 ((rd_T48 l0_0 x8_1).f6.f2).length c338_8, .slice A338_9 ((rd_T48 l0_0 x8_1).f6.f3).length c338_9, .slice none 0 0]) ?_ 10 _ rfl; refine blk_put (cs := #[.string ((rd_T48 l0_0 x8_1).f0), .int .i64 ((rd_T48 l0_0 x8_1).f1), .int .i64 ((rd_T48 l0_0 x8_1).f2), .int .i64 ((rd_T48 l0_0 x8_1).f3), .int .i64 ((rd_T48 l0_0 x8_1).f4), .slice A338_5 ((rd_T48 l0_0 x8_1).f5).length c338_5, .int .i64 ((rd_T48 l0_0 x8_1).f6.f0), .int .i64 ((rd_T48 l0_0 x8_1).f6.f1), .slice A338_8 ((rd_T48 l0_0 x8_1).f6.f2).length c338_8, .slice none 0 0, .slice none 0 0]) ?_ 9 _ rfl; refine blk_put (cs := #[.string ((rd_T48 l0_0 x8_1).f0), .int .i64 ((rd_T48 l0_0 x8_1).f1), .int .i64 ((rd_T48 l0_0 x8_1).f2), .int .i64 ((rd_T48 l0_0 x8_1).f3), .int .i64 ((rd_T48 l0_0 x8_1).f4), .slice A338_5 ((rd_T48 l0_0 x8_1).f5).length c338_5, .int .i64 ((rd_T48 l0_0 x8_1).f6.f0), .int .i64 ((rd_T48 l0_0 x8_1).f6.f1), .slice none 0 0, .slice none 0 0, .slice none 0 0]) ?_ 8 _ rfl; refine blk_put (cs := #[.string ((rd_T48 l0_0 x8_1).f0), .int .i64 ((rd_T48 l0_0 x8_1).f1), .int .i64 ((rd_T48 l0_0 x8_1).f2), .int .i64 ((rd_T48 l0_0 x8_1).f3), .int .i64 ((rd_T48 l0_0 x8_1).f4), .slice A338_5 ((rd_T48 l0_0 x8_1).f5).length c338_5, .int .i64 ((rd_T48 l0_0 x8_1).f6.f0), .int .i64 0, .slice none 0 0, .slice none 0 0, .slice none 0 0]) ?_ 7 _ rfl; refine blk_put (cs := #[.string ((rd_T48 l0_0 x8_1).f0), .int .i64 ((rd_T48 l0_0 x8_1).f1), .int .i64 ((rd_T48 l0_0 x8_1).f2), .int .i64 ((rd_T48 l0_0 x8_1).f3), .int .i64 ((rd_T48 l0_0 x8_1).f4), .slice A338_5 ((rd_T48 l0_0 x8_1).f5).length c338_5, .int .i64 0, .int .i64 0, .slice none 0 0, .slice none 0 0, .slice none 0 0]) ?_ 6 _ rfl; refine blk_put (cs := #[.string ((rd_T48 l0_0 x8_1).f0), .int .i64 ((rd_T48 l0_0 x8_1).f1), .int .i64 ((rd_T48 l0_0 x8_1).f2), .int .i64 ((rd_T48 l0_0 x8_1).f3), .int .i64 ((rd_T48 l0_0 x8_1).f4), .slice none 0 0, .int .i64 0, .int .i64 0, .slice none 0 0, .slice none 0 0, .slice none 0 0]) ?_ 5 _ rfl; refine blk_put (cs := #[.string ((rd_T48 l0_0 x8_1).f0), .int .i64 ((rd_T48 l0_0 x8_1).f1), .int .i64 ((rd_T48 l0_0 x8_1).f2), .int .i64 ((rd_T48 l0_0 x8_1).f3), .int .i64 0, .slice none 0 0, .int .i64 0, .int .i64 0, .slice none 0 0, .slice none 0 0, .slice none 0 0]) ?_ 4 _ rfl; refine blk_put (cs := #[.string ((rd_T48 l0_0 x8_1).f0), .int .i64 ((rd_T48 l0_0 x8_1).f1), .int .i64 ((rd_T48 l0_0 x8_1).f2), .int .i64 0, .int .i64 0, .slice none 0 0, .int .i64 0, .int .i64 0, .slice none 0 0, .slice none 0 0, .slice none 0 0]) ?_ 3 _ rfl; refine blk_put (cs := #[.string ((rd_T48 l0_0 x8_1).f0), .int .i64 ((rd_T48 l0_0 x8_1).f1), .int .i64 0, .int .i64 0, .int .i64 0, .slice none 0 0, .int .i64 0, .int .i64 0, .slice none 0 0, .slice none 0 0, .slice none 0 0]) ?_ 2 _ rfl; refine blk_put (cs := #[.string ((rd_T48 l0_0 x8_1).f0), .int .i64 0, .int .i64 0, .int .i64 0, .int .i64 0, .slice none 0 0, .int .i64 0, .int .i64 0, .slice none 0 0, .slice none 0 0, .slice none 0 0]) ?_ 1 _ rfl; refine blk_put (cs := #[.string (⟨#[]⟩ : ByteArray), .int .i64 0, .int .i64 0, .int .i64 0, .int .i64 0, .slice none 0 0, .int .i64 0, .int .i64 0, .slice none 0 0, .slice none 0 0, .slice none 0 0]) ?_ 0 _ rfl; (with_reducible repeat (first | refine blk_drewN ?_ _ | refine blk_drew ?_ | refine blk_alloc ?_ _)); exact BK339.out⟩
           have n2_ : Aside0 (Below w.heap.size w (((((((((((w20.setCell ⟨gb339, 0, none⟩ (.string ((rd_T48 l0_0 x8_1).f0))).setCell ⟨gb339, 1, none⟩ (.int .i64 ((rd_T48 l0_0 x8_1).f1))).setCell ⟨gb339, 2, none⟩ (.int .i64 ((rd_T48 l0_0 x8_1).f2))).setCell ⟨gb339, 3, none⟩ (.int .i64 ((rd_T48 l0_0 x8_1).f3))).setCell ⟨gb339, 4, none⟩ (.int .i64 ((rd_T48 l0_0 x8_1).f4))).setCell ⟨gb339, 5, none⟩ (.slice A338_5 ((rd_T48 l0_0 x8_1).f5).length c338_5)).setCell ⟨gb339, 6, none⟩ (.int .i64 ((rd_T48 l0_0 x8_1).f6.f0))).setCell ⟨gb339, 7, none⟩ (.int .i64 ((rd_T48 l0_0 x8_1).f6.f1))).setCell ⟨gb339, 8, none⟩ (.slice A338_8 ((rd_T48 l0_0 x8_1).f6.f2).length c338_8)).setCell ⟨gb339, 9, none⟩ (.slice A338_9 ((rd_T48 l0_0 x8_1).f6.f3).length c338_9)).setCell ⟨gb339, 10, none⟩ (.slice A338_10 ((rd_T48 l0_0 x8_1).f7).length c338_10))) := ⟨bl_⟩
           (try clear BK337)
           (try clear BK339)
           (try clear HB)
           generalize (((((((((((w20.setCell ⟨gb339, 0, none⟩ (.string ((rd_T48 l0_0 x8_1).f0))).setCell ⟨gb339, 1, none⟩ (.int .i64 ((rd_T48 l0_0 x8_1).f1))).setCell ⟨gb339, 2, none⟩ (.int .i64 ((rd_T48 l0_0 x8_1).f2))).setCell ⟨gb339, 3, none⟩ (.int .i64 ((rd_T48 l0_0 x8_1).f3))).setCell ⟨gb339, 4, none⟩ (.int .i64 ((rd_T48 l0_0 x8_1).f4))).setCell ⟨gb339, 5, none⟩ (.slice A338_5 ((rd_T48 l0_0 x8_1).f5).length c338_5)).setCell ⟨gb339, 6, none⟩ (.int .i64 ((rd_T48 l0_0 x8_1).f6.f0))).setCell ⟨gb339, 7, none⟩ (.int .i64 ((rd_T48 l0_0 x8_1).f6.f1))).setCell ⟨gb339, 8, none⟩ (.slice A338_8 ((rd_T48 l0_0 x8_1).f6.f2).length c338_8)).setCell ⟨gb339, 9, none⟩ (.slice A338_9 ((rd_T48 l0_0 x8_1).f6.f3).length c338_9)).setCell ⟨gb339, 10, none⟩ (.slice A338_10 ((rd_T48 l0_0 x8_1).f7).length c338_10)) = w23 at n0_ n1_ n2_ ⊢
           have BK337 := n0_
           have BK339 := n1_
           have HB := n2_
           clear n0_ n1_ n2_
           have n0_ := Aside0.mk (blk_drew BK337.out)
           have n1_ := Aside0.mk (blk_drew BK339.out)
           have n2_ := Aside0.mk (below_drew1 HB.out)
           clear BK337
           clear BK339
           clear HB
           have BK337 := n0_
           have BK339 := n1_
           have HB := n2_
           clear n0_ n1_ n2_
           have p341 : 0 ≤ ((ji10) : Int) := od_
           have q341 : (ji10) < (l0_0.length : Int) := od_
           obtain ⟨ad341, A341_5, c341_5, A341_8, c341_8, A341_9, c341_9, A341_10, c341_10, e341, hx341_0, hx341_1, hx341_2, hx341_3, hx341_4, hx341_5, hx341_6, hx341_7, hx341_8, hx341_9, hx341_10, hl341_5, hi341_5, hl341_8, hi341_8, hl341_9, hi341_9, hl341_10, hi341_10⟩ := at_T48 HR0_0.out (ji10) p341 q341
           have hw341_10 := hx341_10
           have hw341_9 := hx341_9
           have hw341_8 := hx341_8
           have hw341_7 := hx341_7
           have hw341_6 := hx341_6
           have hw341_5 := hx341_5
           have hw341_4 := hx341_4
           have hw341_3 := hx341_3
           have hw341_2 := hx341_2
           have hw341_1 := hx341_1
           have hw341_0 := hx341_0
           obtain rfl : ad338 = ad341 := (by injection e341)
           replace hx341_0 := kc_ HB hx341_0
           replace hx341_1 := kc_ HB hx341_1
           replace hx341_2 := kc_ HB hx341_2
           replace hx341_3 := kc_ HB hx341_3
           replace hx341_4 := kc_ HB hx341_4
           replace hx341_5 := kc_ HB hx341_5
           replace hx341_6 := kc_ HB hx341_6
           replace hx341_7 := kc_ HB hx341_7
           replace hx341_8 := kc_ HB hx341_8
           replace hx341_9 := kc_ HB hx341_9
           replace hx341_10 := kc_ HB hx341_10
           have HR341_5 := Aside0.mk hi341_5
           have HC341_5 := Aside0.mk hl341_5
           clear hi341_5 hl341_5
           have HR341_8 := Aside0.mk hi341_8
           have HC341_8 := Aside0.mk hl341_8
           clear hi341_8 hl341_8
           have HR341_9 := Aside0.mk hi341_9
           have HC341_9 := Aside0.mk hl341_9
           clear hi341_9 hl341_9
           have HR341_10 := Aside0.mk hi341_10
           have HC341_10 := Aside0.mk hl341_10
           clear hi341_10 hl341_10
           replace p341 := eq_true p341
           replace q341 := eq_true q341
           refine start_ (n := 19) (S := fun w' => w'.cell? ⟨gb339, 0, none⟩ = some (.string ((rd_T48 l0_0 x8_1).f0)) ∧ w'.cell? ⟨gb339, 1, none⟩ = some (.int .i64 ((rd_T48 l0_0 x8_1).f1)) ∧ w'.cell? ⟨gb339, 2, none⟩ = some (.int .i64 ((rd_T48 l0_0 x8_1).f2)) ∧ w'.cell? ⟨gb339, 3, none⟩ = some (.int .i64 ((rd_T48 l0_0 x8_1).f3)) ∧ w'.cell? ⟨gb339, 4, none⟩ = some (.int .i64 ((rd_T48 l0_0 x8_1).f4)) ∧ w'.cell? ⟨gb339, 5, none⟩ = some (.slice A338_5 ((rd_T48 l0_0 x8_1).f5).length c338_5) ∧ w'.cell? ⟨gb339, 6, none⟩ = some (.int .i64 ((rd_T48 l0_0 x8_1).f6.f0)) ∧ w'.cell? ⟨gb339, 7, none⟩ = some (.int .i64 ((rd_T48 l0_0 x8_1).f6.f1)) ∧ w'.cell? ⟨gb339, 8, none⟩ = some (.slice A338_8 ((rd_T48 l0_0 x8_1).f6.f2).length c338_8) ∧ w'.cell? ⟨gb339, 9, none⟩ = some (.slice A338_9 ((rd_T48 l0_0 x8_1).f6.f3).length c338_9) ∧ w'.cell? ⟨gb339, 10, none⟩ = some (.slice A338_10 ((rd_T48 l0_0 x8_1).f7).length c338_10) ∧ w'.cell? ⟨gb337, 0, none⟩ = some (.slice (some ad338) l0_0.length c0_0) ∧ w'.cell? (ad338.add (((ji10)).toNat * 11)) = some (.string ((rd_T48 l0_0 (ji10)).f0)) ∧ w'.cell? ⟨(ad338.add (((ji10)).toNat * 11)).block, (ad338.add (((ji10)).toNat * 11)).off + 1, none⟩ = some (.int .i64 ((rd_T48 l0_0 (ji10)).f1)) ∧ w'.cell? ⟨(ad338.add (((ji10)).toNat * 11)).block, (ad338.add (((ji10)).toNat * 11)).off + 2, none⟩ = some (.int .i64 ((rd_T48 l0_0 (ji10)).f2)) ∧ w'.cell? ⟨(ad338.add (((ji10)).toNat * 11)).block, (ad338.add (((ji10)).toNat * 11)).off + 3, none⟩ = some (.int .i64 ((rd_T48 l0_0 (ji10)).f3)) ∧ w'.cell? ⟨(ad338.add (((ji10)).toNat * 11)).block, (ad338.add (((ji10)).toNat * 11)).off + 4, none⟩ = some (.int .i64 ((rd_T48 l0_0 (ji10)).f4)) ∧ w'.cell? ⟨(ad338.add (((ji10)).toNat * 11)).block, (ad338.add (((ji10)).toNat * 11)).off + 5, none⟩ = some (.slice A341_5 ((rd_T48 l0_0 (ji10)).f5).length c341_5) ∧ w'.cell? ⟨(ad338.add (((ji10)).toNat * 11)).block, (ad338.add (((ji10)).toNat * 11)).off + 6, none⟩ = some (.int .i64 ((rd_T48 l0_0 (ji10)).f6.f0)) ∧ w'.cell? ⟨(ad338.add (((ji10)).toNat * 11)).block, (ad338.add (((ji10)).toNat * 11)).off + 7, none⟩ = some (.int .i64 ((rd_T48 l0_0 (ji10)).f6.f1)) ∧ w'.cell? ⟨(ad338.add (((ji10)).toNat * 11)).block, (ad338.add (((ji10)).toNat * 11)).off + 8, none⟩ = some (.slice A341_8 ((rd_T48 l0_0 (ji10)).f6.f2).length c341_8) ∧ w'.cell? ⟨(ad338.add (((ji10)).toNat * 11)).block, (ad338.add (((ji10)).toNat * 11)).off + 9, none⟩ = some (.slice A341_9 ((rd_T48 l0_0 (ji10)).f6.f3).length c341_9) ∧ w'.cell? ⟨(ad338.add (((ji10)).toNat * 11)).block, (ad338.add (((ji10)).toNat * 11)).off + 10, none⟩ = some (.slice A341_10 ((rd_T48 l0_0 (ji10)).f7).length c341_10)) (ds := []) tb19_0_14 (by kernel_rfl) rfl rfl ⟨cy_ BK339 0, cy_ BK339 1, cy_ BK339 2, cy_ BK339 3, cy_ BK339 4, cy_ BK339 5, cy_ BK339 6, cy_ BK339 7, cy_ BK339 8, cy_ BK339 9, cy_ BK339 10, cy_ BK337 0, (kc_ HB hw341_0), (kc_ HB hw341_1), (kc_ HB hw341_2), (kc_ HB hw341_3), (kc_ HB hw341_4), (kc_ HB hw341_5), (kc_ HB hw341_6), (kc_ HB hw341_7), (kc_ HB hw341_8), (kc_ HB hw341_9), (kc_ HB hw341_10)⟩ (fun hHeld => ?_); refine with_tabW impl_BookOk.tab4 impl_BookOk.bits4 (fun HT_ HW_ => ?_)
           generalize w23.drew = w24 at BK337 BK339 HB HR341_10 HR341_5 HR341_8 HR341_9 hx341_0 hx341_1 hx341_10 hx341_2 hx341_3 hx341_4 hx341_5 hx341_6 hx341_7 hx341_8 hx341_9 hHeld ⊢
           refine take_ (i := 0) (N := some 13) (v := ?_) (a' := ?_) tb19_1_14 rfl rfl (take_ofW HT_.out HW_.out (by kernel_rfl)) (fun _ _ _ h => h) (Or.inl ⟨by rfl, ?_⟩) hHeld ?_ ?_
           rotate_left
           ·rintro w' ⟨s0, s1, s2, s3, s4, s5, s6, s7, s8, s9, s10, s11, s12, s13, s14, s15, s16, s17, s18, s19, s20, s21, s22⟩
            go_simp
            with_reducible rfl
           rotate_left
           ·simp only [Act.put, q_]
            rfl
           refine one_ (i := 1) (N := some 14) tb19_3_14 rfl rfl (one_of HT_.out (by kernel_rfl)) (by decide) (fun K hK => ?_)
           refine goes_ Try.func20 (by kernel_rfl) rfl #[.agg #[.string ((rd_T48 l0_0 x8_1).f0), .int .i64 ((rd_T48 l0_0 x8_1).f1), .int .i64 ((rd_T48 l0_0 x8_1).f2), .int .i64 ((rd_T48 l0_0 x8_1).f3), .int .i64 ((rd_T48 l0_0 x8_1).f4), .slice A338_5 ((rd_T48 l0_0 x8_1).f5).length c338_5, .int .i64 ((rd_T48 l0_0 x8_1).f6.f0), .int .i64 ((rd_T48 l0_0 x8_1).f6.f1), .slice A338_8 ((rd_T48 l0_0 x8_1).f6.f2).length c338_8, .slice A338_9 ((rd_T48 l0_0 x8_1).f6.f3).length c338_9, .slice A338_10 ((rd_T48 l0_0 x8_1).f7).length c338_10]] (by rfl) rfl rfl gl_ ?_
           with_reducible refine (impl_AcctOk.calls k1 ((rd_T48 l0_0 x8_1).f0) ((rd_T48 l0_0 x8_1).f1) ((rd_T48 l0_0 x8_1).f2) ((rd_T48 l0_0 x8_1).f3) ((rd_T48 l0_0 x8_1).f4) _ _ ((rd_T48 l0_0 x8_1).f5) ((rd_T48 l0_0 x8_1).f6.f0) ((rd_T48 l0_0 x8_1).f6.f1) _ _ ((rd_T48 l0_0 x8_1).f6.f2) _ _ ((rd_T48 l0_0 x8_1).f6.f3) _ _ ((rd_T48 l0_0 x8_1).f7) true _ ?side1 ?side2 ?side3 ?side4 ?side5 ?side6 ?side7 ?side8 A7.out).mono ?_
           (case side1 => exact ca_ (Kd.C_below HR338_5.out HB.out))
           (case side2 => exact HC338_5.out)
           (case side3 => exact ca_ (Kd.C_below HR338_8.out HB.out))
           (case side4 => exact HC338_8.out)
           (case side5 => exact ca_ (Kd.C_below HR338_9.out HB.out))
           (case side6 => exact HC338_9.out)
           (case side7 => exact ca_ (Kd.C_below HR338_10.out HB.out))
           (case side8 => exact HC338_10.out)
           rintro e w25 ⟨rfl, hb⟩
           refine ⟨_, rfl, ?_⟩
           have n0_ := Aside0.mk (blk_below (bk_ BK337) hb)
           have n1_ := Aside0.mk (blk_below (bk_ BK339) hb)
           have n2_ := Aside0.mk (below_step bl_ hb)
           clear BK337
           clear BK339
           clear HB
           have BK337 := n0_
           have BK339 := n1_
           have HB := n2_
           clear n0_ n1_ n2_
           (try clear hb)
           (try clear hb2)
           (try clear hk)
           (try clear hi)
           refine hK.out _ _ ⟨cy_ BK339 0, cy_ BK339 1, cy_ BK339 2, cy_ BK339 3, cy_ BK339 4, cy_ BK339 5, cy_ BK339 6, cy_ BK339 7, cy_ BK339 8, cy_ BK339 9, cy_ BK339 10, cy_ BK337 0, (kc_ HB hw341_0), (kc_ HB hw341_1), (kc_ HB hw341_2), (kc_ HB hw341_3), (kc_ HB hw341_4), (kc_ HB hw341_5), (kc_ HB hw341_6), (kc_ HB hw341_7), (kc_ HB hw341_8), (kc_ HB hw341_9), (kc_ HB hw341_10)⟩ (fun hHeld => ?_)
           clear hK K
           refine norm_ (a' := ?_) ?_ ?_
           rotate_left
           ·show Act.put _ (some 14) _ = _
            simp only [Act.put, q_]
            rfl
           refine pl_ HT_ 2 15 tb19_7_14 ?_
           refine pl_ HT_ 3 16 tb19_f_14 ?_
           refine pl_ HT_ 4 17 tb19_1f_14 ?_
           refine pl_ HT_ 5 18 tb19_3f_14 ?_
           refine pl_ HT_ 6 19 tb19_7f_14 ?_
           refine pl_ HT_ 7 20 tb19_ff_14 ?_
           refine pl_ HT_ 9 22 tb19_2ff_14 ?_
           refine pl_ HT_ 11 24 tb19_aff_14 ?_
           refine pl_ HT_ 12 25 tb19_1aff_14 ?_
           refine take_ (i := 8) (N := some 21) (v := ?_) (a' := ?_) tb19_1bff_14 rfl rfl (take_ofW HT_.out HW_.out (by kernel_rfl)) (fun _ _ _ h => h) (Or.inl ⟨by rfl, ?_⟩) hHeld ?_ ?_
           rotate_left
           ·rintro w' ⟨s0, s1, s2, s3, s4, s5, s6, s7, s8, s9, s10, s11, s12, s13, s14, s15, s16, s17, s18, s19, s20, s21, s22⟩
            go_simp
            with_reducible rfl
           rotate_left
           ·simp only [Act.put, q_]
            rfl
           refine take_ (i := 10) (N := some 23) (v := ?_) (a' := ?_) tb19_1fff_14 rfl rfl (take_ofW HT_.out HW_.out (by kernel_rfl)) (fun _ _ _ h => h) (Or.inl ⟨by rfl, ?_⟩) hHeld ?_ ?_
           rotate_left
           ·rintro w' ⟨s0, s1, s2, s3, s4, s5, s6, s7, s8, s9, s10, s11, s12, s13, s14, s15, s16, s17, s18, s19, s20, s21, s22⟩
            go_simp
            with_reducible rfl
           rotate_left
           ·simp only [Act.put, q_]
            rfl
           refine pl_ HT_ 13 26 tb19_3fff_14 ?_
           refine pl_ HT_ 14 27 tb19_7fff_14 ?_
           refine take_ (i := 15) (N := some 28) (v := ?_) (a' := ?_) tb19_ffff_14 rfl rfl (take_ofW HT_.out HW_.out (by kernel_rfl)) (fun _ _ _ h => h) (Or.inl ⟨by rfl, ?_⟩) hHeld ?_ ?_
           rotate_left
           ·rintro w' ⟨s0, s1, s2, s3, s4, s5, s6, s7, s8, s9, s10, s11, s12, s13, s14, s15, s16, s17, s18, s19, s20, s21, s22⟩
            go_simp
            with_reducible rfl
           rotate_left
           ·simp only [Act.put, q_]
            rfl
           refine pl_ HT_ 16 29 tb19_1ffff_14 ?_
           refine pl_ HT_ 17 30 tb19_3ffff_14 ?_
           refine pl_ HT_ 18 31 tb19_7ffff_14 ?_
           refine done_ (done_of HT_.out (by kernel_rfl)) ?_
           try go_wp2
           go_ret
           exact ⟨by first | rfl | (simp [errW_none, errW_some] <;> rfl) | (simp only [← hji10]; first | rfl | (simp [errW_none, errW_some] <;> rfl)) | (simp [*, errW_none, errW_some] <;> rfl), bl_⟩
         ·rw [if_neg c12] at H
          exact absurd H (by simp)
        ·rw [if_neg c11] at H
         exact absurd H (by simp)
       ·rw [if_neg c9] at H
        have c9b0 : decide (0 < x8_1) = false := decide_eq_false c9
        clear c9
        have H' := Aside0.mk H
        clear H
        have p338 : 0 ≤ (x8_1 : Int) := od_
        have q338 : x8_1 < (l0_0.length : Int) := od_
        obtain ⟨ad338, A338_5, c338_5, A338_8, c338_8, A338_9, c338_9, A338_10, c338_10, e338, hx338_0, hx338_1, hx338_2, hx338_3, hx338_4, hx338_5, hx338_6, hx338_7, hx338_8, hx338_9, hx338_10, hl338_5, hi338_5, hl338_8, hi338_8, hl338_9, hi338_9, hl338_10, hi338_10⟩ := at_T48 HR0_0.out x8_1 p338 q338
        cases e338
        replace hx338_0 := kc_ HB hx338_0
        replace hx338_1 := kc_ HB hx338_1
        replace hx338_2 := kc_ HB hx338_2
        replace hx338_3 := kc_ HB hx338_3
        replace hx338_4 := kc_ HB hx338_4
        replace hx338_5 := kc_ HB hx338_5
        replace hx338_6 := kc_ HB hx338_6
        replace hx338_7 := kc_ HB hx338_7
        replace hx338_8 := kc_ HB hx338_8
        replace hx338_9 := kc_ HB hx338_9
        replace hx338_10 := kc_ HB hx338_10
        have HR338_5 := Aside0.mk hi338_5
        have HC338_5 := Aside0.mk hl338_5
        clear hi338_5 hl338_5
        have HR338_8 := Aside0.mk hi338_8
        have HC338_8 := Aside0.mk hl338_8
        clear hi338_8 hl338_8
        have HR338_9 := Aside0.mk hi338_9
        have HC338_9 := Aside0.mk hl338_9
        clear hi338_9 hl338_9
        have HR338_10 := Aside0.mk hi338_10
        have HC338_10 := Aside0.mk hl338_10
        clear hi338_10 hl338_10
        replace p338 := eq_true p338
        replace q338 := eq_true q338
        try go_wp2_with (first | ((with_reducible refine gate_dst (N := 4) rfl ?_); refine box_event ?hg (N := 4) ?hd (cs := #[.string (⟨#[]⟩ : ByteArray), .int .i64 0, .int .i64 0, .int .i64 0, .int .i64 0, .slice none 0 0, .int .i64 0, .int .i64 0, .slice none 0 0, .slice none 0 0, .slice none 0 0]) (t := 48) ?hr ?_; (case hd => rfl); (case hg => rfl); (case hr => first | (go_simp; done) | (go_simp; rfl)); intro gb339 hg w26 hbox hb; have n0_ := Aside0.mk (blk_below (bk_ BK337) hb); have n1_ := Aside0.mk (below_step bl_ hb); have n2_ := Aside0.mk (hbox); have n3_ := gw_ (w := w) hg; have n4_ := gw_ (w := w) hg; have n5_ := Aside0.mk ((by rw [hg]; exact Nat.ne_of_lt (blk_lt (bk_ BK337)) : gb337 ≠ gb339)); have n6_ := Aside0.mk ((by rw [hg]; exact Nat.ne_of_gt (blk_lt (bk_ BK337)) : gb339 ≠ gb337)); clear BK337; clear HB; have BK337 := n0_; have HB := n1_; have BK339 := n2_; have GW339 := n3_; have GE339 := n4_; have NB337_339 := n5_; have NB339_337 := n6_; clear n0_ n1_ n2_ n3_ n4_ n5_ n6_; clear hb hbox hg; have hnb27 := NB339_337.out; have hnc27 := NB337_339.out; have hcz28_0 := cz_ BK339 0 (.string (⟨#[]⟩ : ByteArray)); have hcz28_1 := cz_ BK339 1 (.int .i64 0); have hcz28_2 := cz_ BK339 2 (.int .i64 0); have hcz28_3 := cz_ BK339 3 (.int .i64 0); have hcz28_4 := cz_ BK339 4 (.int .i64 0); have hcz28_5 := cz_ BK339 5 (.slice none 0 0); have hcz28_6 := cz_ BK339 6 (.int .i64 0); have hcz28_7 := cz_ BK339 7 (.int .i64 0); have hcz28_8 := cz_ BK339 8 (.slice none 0 0); have hcz28_9 := cz_ BK339 9 (.slice none 0 0); have hcz28_10 := cz_ BK339 10 (.slice none 0 0); have hfz28_0 := fz_ BK339 0; have hfz28_1 := fz_ BK339 1; have hfz28_2 := fz_ BK339 2; have hfz28_3 := fz_ BK339 3; have hfz28_4 := fz_ BK339 4; have hfz28_5 := fz_ BK339 5; have hfz28_6 := fz_ BK339 6; have hfz28_7 := fz_ BK339 7; have hfz28_8 := fz_ BK339 8; have hfz28_9 := fz_ BK339 9; have hfz28_10 := fz_ BK339 10))
        have n0_ : Aside0 ((((((((((((w26.setCell ⟨gb339, 0, none⟩ (.string ((rd_T48 l0_0 x8_1).f0))).setCell ⟨gb339, 1, none⟩ (.int .i64 ((rd_T48 l0_0 x8_1).f1))).setCell ⟨gb339, 2, none⟩ (.int .i64 ((rd_T48 l0_0 x8_1).f2))).setCell ⟨gb339, 3, none⟩ (.int .i64 ((rd_T48 l0_0 x8_1).f3))).setCell ⟨gb339, 4, none⟩ (.int .i64 ((rd_T48 l0_0 x8_1).f4))).setCell ⟨gb339, 5, none⟩ (.slice A338_5 ((rd_T48 l0_0 x8_1).f5).length c338_5)).setCell ⟨gb339, 6, none⟩ (.int .i64 ((rd_T48 l0_0 x8_1).f6.f0))).setCell ⟨gb339, 7, none⟩ (.int .i64 ((rd_T48 l0_0 x8_1).f6.f1))).setCell ⟨gb339, 8, none⟩ (.slice A338_8 ((rd_T48 l0_0 x8_1).f6.f2).length c338_8)).setCell ⟨gb339, 9, none⟩ (.slice A338_9 ((rd_T48 l0_0 x8_1).f6.f3).length c338_9)).setCell ⟨gb339, 10, none⟩ (.slice A338_10 ((rd_T48 l0_0 x8_1).f7).length c338_10)).heap[gb337]? = some (.cells #[.slice (some ad338) l0_0.length c0_0] 64 (0, 0))) := ⟨by (with_reducible repeat (first | refine blk_drewN ?_ _ | refine blk_drew ?_ | refine blk_alloc ?_ _)); refine blk_far ?_ NB337_339.out _; (with_reducible repeat (first | refine blk_drewN ?_ _ | refine blk_drew ?_ | refine blk_alloc ?_ _)); refine blk_far ?_ NB337_339.out _; (with_reducible repeat (first | refine blk_drewN ?_ _ | refine blk_drew ?_ | refine blk_alloc ?_ _)); refine blk_far ?_ NB337_339.out _; (with_reducible repeat (first | refine blk_drewN ?_ _ | refine blk_drew ?_ | refine blk_alloc ?_ _)); refine blk_far ?_ NB337_339.out _; (with_reducible repeat (first | refine blk_drewN ?_ _ | refine blk_drew ?_ | refine blk_alloc ?_ _)); refine blk_far ?_ NB337_339.out _; (with_reducible repeat (first | refine blk_drewN ?_ _ | refine blk_drew ?_ | refine blk_alloc ?_ _)); refine blk_far ?_ NB337_339.out _; (with_reducible repeat (first | refine blk_drewN ?_ _ | refine blk_drew ?_ | refine blk_alloc ?_ _)); refine blk_far ?_ NB337_339.out _; (with_reducible repeat (first | refine blk_drewN ?_ _ | refine blk_drew ?_ | refine blk_alloc ?_ _)); refine blk_far ?_ NB337_339.out _; (with_reducible repeat (first | refine blk_drewN ?_ _ | refine blk_drew ?_ | refine blk_alloc ?_ _)); refine blk_far ?_ NB337_339.out _; (with_reducible repeat (first | refine blk_drewN ?_ _ | refine blk_drew ?_ | refine blk_alloc ?_ _)); refine blk_far ?_ NB337_339.out _; (with_reducible repeat (first | refine blk_drewN ?_ _ | refine blk_drew ?_ | refine blk_alloc ?_ _)); refine blk_far ?_ NB337_339.out _; (with_reducible repeat (first | refine blk_drewN ?_ _ | refine blk_drew ?_ | refine blk_alloc ?_ _)); exact BK337.out⟩
        have n1_ : Aside0 ((((((((((((w26.setCell ⟨gb339, 0, none⟩ (.string ((rd_T48 l0_0 x8_1).f0))).setCell ⟨gb339, 1, none⟩ (.int .i64 ((rd_T48 l0_0 x8_1).f1))).setCell ⟨gb339, 2, none⟩ (.int .i64 ((rd_T48 l0_0 x8_1).f2))).setCell ⟨gb339, 3, none⟩ (.int .i64 ((rd_T48 l0_0 x8_1).f3))).setCell ⟨gb339, 4, none⟩ (.int .i64 ((rd_T48 l0_0 x8_1).f4))).setCell ⟨gb339, 5, none⟩ (.slice A338_5 ((rd_T48 l0_0 x8_1).f5).length c338_5)).setCell ⟨gb339, 6, none⟩ (.int .i64 ((rd_T48 l0_0 x8_1).f6.f0))).setCell ⟨gb339, 7, none⟩ (.int .i64 ((rd_T48 l0_0 x8_1).f6.f1))).setCell ⟨gb339, 8, none⟩ (.slice A338_8 ((rd_T48 l0_0 x8_1).f6.f2).length c338_8)).setCell ⟨gb339, 9, none⟩ (.slice A338_9 ((rd_T48 l0_0 x8_1).f6.f3).length c338_9)).setCell ⟨gb339, 10, none⟩ (.slice A338_10 ((rd_T48 l0_0 x8_1).f7).length c338_10)).heap[gb339]? = some (.cells #[.string ((rd_T48 l0_0 x8_1).f0), .int .i64 ((rd_T48 l0_0 x8_1).f1), .int .i64 ((rd_T48 l0_0 x8_1).f2), .int .i64 ((rd_T48 l0_0 x8_1).f3), .int .i64 ((rd_T48 l0_0 x8_1).f4), .slice A338_5 ((rd_T48 l0_0 x8_1).f5).length c338_5, .int .i64 ((rd_T48 l0_0 x8_1).f6.f0), .int .i64 ((rd_T48 l0_0 x8_1).f6.f1), .slice A338_8 ((rd_T48 l0_0 x8_1).f6.f2).length c338_8, .slice A338_9 ((rd_T48 l0_0 x8_1).f6.f3).length c338_9, .slice A338_10 ((rd_T48 l0_0 x8_1).f7).length c338_10] 48 (0, 0))) := ⟨by (with_reducible repeat (first | refine blk_drewN ?_ _ | refine blk_drew ?_ | refine blk_alloc ?_ _)); refine blk_put (cs := #[.string ((rd_T48 l0_0 x8_1).f0), .int .i64 ((rd_T48 l0_0 x8_1).f1), .int .i64 ((rd_T48 l0_0 x8_1).f2), .int .i64 ((rd_T48 l0_0 x8_1).f3), .int .i64 ((rd_T48 l0_0 x8_1).f4), .slice A338_5 ((rd_T48 l0_0 x8_1).f5).length c338_5, .int .i64 ((rd_T48 l0_0 x8_1).f6.f0), .int .i64 ((rd_T48 l0_0 x8_1).f6.f1), .slice A338_8 ((rd_T48 l0_0 x8_1).f6.f2).length c338_8, .slice A338_9 ((rd_T48 l0_0 x8_1).f6.f3).length c338_9, .slice none 0 0]) ?_ 10 _ rfl; refine blk_put (cs := #[.string ((rd_T48 l0_0 x8_1).f0), .int .i64 ((rd_T48 l0_0 x8_1).f1), .int .i64 ((rd_T48 l0_0 x8_1).f2), .int .i64 ((rd_T48 l0_0 x8_1).f3), .int .i64 ((rd_T48 l0_0 x8_1).f4), .slice A338_5 ((rd_T48 l0_0 x8_1).f5).length c338_5, .int .i64 ((rd_T48 l0_0 x8_1).f6.f0), .int .i64 ((rd_T48 l0_0 x8_1).f6.f1), .slice A338_8 ((rd_T48 l0_0 x8_1).f6.f2).length c338_8, .slice none 0 0, .slice none 0 0]) ?_ 9 _ rfl; refine blk_put (cs := #[.string ((rd_T48 l0_0 x8_1).f0), .int .i64 ((rd_T48 l0_0 x8_1).f1), .int .i64 ((rd_T48 l0_0 x8_1).f2), .int .i64 ((rd_T48 l0_0 x8_1).f3), .int .i64 ((rd_T48 l0_0 x8_1).f4), .slice A338_5 ((rd_T48 l0_0 x8_1).f5).length c338_5, .int .i64 ((rd_T48 l0_0 x8_1).f6.f0), .int .i64 ((rd_T48 l0_0 x8_1).f6.f1), .slice none 0 0, .slice none 0 0, .slice none 0 0]) ?_ 8 _ rfl; refine blk_put (cs := #[.string ((rd_T48 l0_0 x8_1).f0), .int .i64 ((rd_T48 l0_0 x8_1).f1), .int .i64 ((rd_T48 l0_0 x8_1).f2), .int .i64 ((rd_T48 l0_0 x8_1).f3), .int .i64 ((rd_T48 l0_0 x8_1).f4), .slice A338_5 ((rd_T48 l0_0 x8_1).f5).length c338_5, .int .i64 ((rd_T48 l0_0 x8_1).f6.f0), .int .i64 0, .slice none 0 0, .slice none 0 0, .slice none 0 0]) ?_ 7 _ rfl; refine blk_put (cs := #[.string ((rd_T48 l0_0 x8_1).f0), .int .i64 ((rd_T48 l0_0 x8_1).f1), .int .i64 ((rd_T48 l0_0 x8_1).f2), .int .i64 ((rd_T48 l0_0 x8_1).f3), .int .i64 ((rd_T48 l0_0 x8_1).f4), .slice A338_5 ((rd_T48 l0_0 x8_1).f5).length c338_5, .int .i64 0, .int .i64 0, .slice none 0 0, .slice none 0 0, .slice none 0 0]) ?_ 6 _ rfl; refine blk_put (cs := #[.string ((rd_T48 l0_0 x8_1).f0), .int .i64 ((rd_T48 l0_0 x8_1).f1), .int .i64 ((rd_T48 l0_0 x8_1).f2), .int .i64 ((rd_T48 l0_0 x8_1).f3), .int .i64 ((rd_T48 l0_0 x8_1).f4), .slice none 0 0, .int .i64 0, .int .i64 0, .slice none 0 0, .slice none 0 0, .slice none 0 0]) ?_ 5 _ rfl; refine blk_put (cs := #[.string ((rd_T48 l0_0 x8_1).f0), .int .i64 ((rd_T48 l0_0 x8_1).f1), .int .i64 ((rd_T48 l0_0 x8_1).f2), .int .i64 ((rd_T48 l0_0 x8_1).f3), .int .i64 0, .slice none 0 0, .int .i64 0, .int .i64 0, .slice none 0 0, .slice none 0 0, .slice none 0 0]) ?_ 4 _ rfl; refine blk_put (cs := #[.string ((rd_T48 l0_0 x8_1).f0), .int .i64 ((rd_T48 l0_0 x8_1).f1), .int .i64 ((rd_T48 l0_0 x8_1).f2), .int .i64 0, .int .i64 0, .slice none 0 0, .int .i64 0, .int .i64 0, .slice none 0 0, .slice none 0 0, .slice none 0 0]) ?_ 3 _ rfl; refine blk_put (cs := #[.string ((rd_T48 l0_0 x8_1).f0), .int .i64 ((rd_T48 l0_0 x8_1).f1), .int .i64 0, .int .i64 0, .int .i64 0, .slice none 0 0, .int .i64 0, .int .i64 0, .slice none 0 0, .slice none 0 0, .slice none 0 0]) ?_ 2 _ rfl; refine blk_put (cs := #[.string ((rd_T48 l0_0 x8_1).f0), .int .i64 0, .int .i64 0, .int .i64 0, .int .i64 0, .slice none 0 0, .int .i64 0, .int .i64 0, .slice none 0 0, .slice none 0 0, .slice none 0 0]) ?_ 1 _ rfl; refine blk_put (cs := #[.string (⟨#[]⟩ : ByteArray), .int .i64 0, .int .i64 0, .int .i64 0, .int .i64 0, .slice none 0 0, .int .i64 0, .int .i64 0, .slice none 0 0, .slice none 0 0, .slice none 0 0]) ?_ 0 _ rfl; (with_reducible repeat (first | refine blk_drewN ?_ _ | refine blk_drew ?_ | refine blk_alloc ?_ _)); exact BK339.out⟩
        have n2_ : Aside0 (Below w.heap.size w (((((((((((w26.setCell ⟨gb339, 0, none⟩ (.string ((rd_T48 l0_0 x8_1).f0))).setCell ⟨gb339, 1, none⟩ (.int .i64 ((rd_T48 l0_0 x8_1).f1))).setCell ⟨gb339, 2, none⟩ (.int .i64 ((rd_T48 l0_0 x8_1).f2))).setCell ⟨gb339, 3, none⟩ (.int .i64 ((rd_T48 l0_0 x8_1).f3))).setCell ⟨gb339, 4, none⟩ (.int .i64 ((rd_T48 l0_0 x8_1).f4))).setCell ⟨gb339, 5, none⟩ (.slice A338_5 ((rd_T48 l0_0 x8_1).f5).length c338_5)).setCell ⟨gb339, 6, none⟩ (.int .i64 ((rd_T48 l0_0 x8_1).f6.f0))).setCell ⟨gb339, 7, none⟩ (.int .i64 ((rd_T48 l0_0 x8_1).f6.f1))).setCell ⟨gb339, 8, none⟩ (.slice A338_8 ((rd_T48 l0_0 x8_1).f6.f2).length c338_8)).setCell ⟨gb339, 9, none⟩ (.slice A338_9 ((rd_T48 l0_0 x8_1).f6.f3).length c338_9)).setCell ⟨gb339, 10, none⟩ (.slice A338_10 ((rd_T48 l0_0 x8_1).f7).length c338_10))) := ⟨bl_⟩
        (try clear BK337)
        (try clear BK339)
        (try clear HB)
        generalize (((((((((((w26.setCell ⟨gb339, 0, none⟩ (.string ((rd_T48 l0_0 x8_1).f0))).setCell ⟨gb339, 1, none⟩ (.int .i64 ((rd_T48 l0_0 x8_1).f1))).setCell ⟨gb339, 2, none⟩ (.int .i64 ((rd_T48 l0_0 x8_1).f2))).setCell ⟨gb339, 3, none⟩ (.int .i64 ((rd_T48 l0_0 x8_1).f3))).setCell ⟨gb339, 4, none⟩ (.int .i64 ((rd_T48 l0_0 x8_1).f4))).setCell ⟨gb339, 5, none⟩ (.slice A338_5 ((rd_T48 l0_0 x8_1).f5).length c338_5)).setCell ⟨gb339, 6, none⟩ (.int .i64 ((rd_T48 l0_0 x8_1).f6.f0))).setCell ⟨gb339, 7, none⟩ (.int .i64 ((rd_T48 l0_0 x8_1).f6.f1))).setCell ⟨gb339, 8, none⟩ (.slice A338_8 ((rd_T48 l0_0 x8_1).f6.f2).length c338_8)).setCell ⟨gb339, 9, none⟩ (.slice A338_9 ((rd_T48 l0_0 x8_1).f6.f3).length c338_9)).setCell ⟨gb339, 10, none⟩ (.slice A338_10 ((rd_T48 l0_0 x8_1).f7).length c338_10)) = w29 at n0_ n1_ n2_ ⊢
        have BK337 := n0_
        have BK339 := n1_
        have HB := n2_
        clear n0_ n1_ n2_
        have n0_ := Aside0.mk (blk_drew BK337.out)
        have n1_ := Aside0.mk (blk_drew BK339.out)
        have n2_ := Aside0.mk (below_drew1 HB.out)
        clear BK337
        clear BK339
        clear HB
        have BK337 := n0_
        have BK339 := n1_
        have HB := n2_
        clear n0_ n1_ n2_
        refine start_ (n := 19) (S := fun w' => w'.cell? ⟨gb339, 0, none⟩ = some (.string ((rd_T48 l0_0 x8_1).f0)) ∧ w'.cell? ⟨gb339, 1, none⟩ = some (.int .i64 ((rd_T48 l0_0 x8_1).f1)) ∧ w'.cell? ⟨gb339, 2, none⟩ = some (.int .i64 ((rd_T48 l0_0 x8_1).f2)) ∧ w'.cell? ⟨gb339, 3, none⟩ = some (.int .i64 ((rd_T48 l0_0 x8_1).f3)) ∧ w'.cell? ⟨gb339, 4, none⟩ = some (.int .i64 ((rd_T48 l0_0 x8_1).f4)) ∧ w'.cell? ⟨gb339, 5, none⟩ = some (.slice A338_5 ((rd_T48 l0_0 x8_1).f5).length c338_5) ∧ w'.cell? ⟨gb339, 6, none⟩ = some (.int .i64 ((rd_T48 l0_0 x8_1).f6.f0)) ∧ w'.cell? ⟨gb339, 7, none⟩ = some (.int .i64 ((rd_T48 l0_0 x8_1).f6.f1)) ∧ w'.cell? ⟨gb339, 8, none⟩ = some (.slice A338_8 ((rd_T48 l0_0 x8_1).f6.f2).length c338_8) ∧ w'.cell? ⟨gb339, 9, none⟩ = some (.slice A338_9 ((rd_T48 l0_0 x8_1).f6.f3).length c338_9) ∧ w'.cell? ⟨gb339, 10, none⟩ = some (.slice A338_10 ((rd_T48 l0_0 x8_1).f7).length c338_10)) (ds := []) tb19_0_14 (by kernel_rfl) rfl rfl ⟨cy_ BK339 0, cy_ BK339 1, cy_ BK339 2, cy_ BK339 3, cy_ BK339 4, cy_ BK339 5, cy_ BK339 6, cy_ BK339 7, cy_ BK339 8, cy_ BK339 9, cy_ BK339 10⟩ (fun hHeld => ?_); refine with_tabW impl_BookOk.tab4 impl_BookOk.bits4 (fun HT_ HW_ => ?_)
        generalize w29.drew = w30 at BK337 BK339 HB hHeld ⊢
        refine pt_ HT_ HW_ hHeld 0 13 tb19_1_14 ?_
        refine one_ (i := 1) (N := some 14) tb19_3_14 rfl rfl (one_of HT_.out (by kernel_rfl)) (by decide) (fun K hK => ?_)
        refine goes_ Try.func20 (by kernel_rfl) rfl #[.agg #[.string ((rd_T48 l0_0 x8_1).f0), .int .i64 ((rd_T48 l0_0 x8_1).f1), .int .i64 ((rd_T48 l0_0 x8_1).f2), .int .i64 ((rd_T48 l0_0 x8_1).f3), .int .i64 ((rd_T48 l0_0 x8_1).f4), .slice A338_5 ((rd_T48 l0_0 x8_1).f5).length c338_5, .int .i64 ((rd_T48 l0_0 x8_1).f6.f0), .int .i64 ((rd_T48 l0_0 x8_1).f6.f1), .slice A338_8 ((rd_T48 l0_0 x8_1).f6.f2).length c338_8, .slice A338_9 ((rd_T48 l0_0 x8_1).f6.f3).length c338_9, .slice A338_10 ((rd_T48 l0_0 x8_1).f7).length c338_10]] (by rfl) rfl rfl gl_ ?_
        with_reducible refine (impl_AcctOk.calls k1 ((rd_T48 l0_0 x8_1).f0) ((rd_T48 l0_0 x8_1).f1) ((rd_T48 l0_0 x8_1).f2) ((rd_T48 l0_0 x8_1).f3) ((rd_T48 l0_0 x8_1).f4) _ _ ((rd_T48 l0_0 x8_1).f5) ((rd_T48 l0_0 x8_1).f6.f0) ((rd_T48 l0_0 x8_1).f6.f1) _ _ ((rd_T48 l0_0 x8_1).f6.f2) _ _ ((rd_T48 l0_0 x8_1).f6.f3) _ _ ((rd_T48 l0_0 x8_1).f7) true _ ?side1 ?side2 ?side3 ?side4 ?side5 ?side6 ?side7 ?side8 A7.out).mono ?_
        (case side1 => exact ca_ (Kd.C_below HR338_5.out HB.out))
        (case side2 => exact HC338_5.out)
        (case side3 => exact ca_ (Kd.C_below HR338_8.out HB.out))
        (case side4 => exact HC338_8.out)
        (case side5 => exact ca_ (Kd.C_below HR338_9.out HB.out))
        (case side6 => exact HC338_9.out)
        (case side7 => exact ca_ (Kd.C_below HR338_10.out HB.out))
        (case side8 => exact HC338_10.out)
        rintro e w31 ⟨rfl, hb⟩
        refine ⟨_, rfl, ?_⟩
        have n0_ := Aside0.mk (blk_below (bk_ BK337) hb)
        have n1_ := Aside0.mk (blk_below (bk_ BK339) hb)
        have n2_ := Aside0.mk (below_step bl_ hb)
        clear BK337
        clear BK339
        clear HB
        have BK337 := n0_
        have BK339 := n1_
        have HB := n2_
        clear n0_ n1_ n2_
        (try clear hb)
        (try clear hb2)
        (try clear hk)
        (try clear hi)
        refine hK.out _ _ ⟨cy_ BK339 0, cy_ BK339 1, cy_ BK339 2, cy_ BK339 3, cy_ BK339 4, cy_ BK339 5, cy_ BK339 6, cy_ BK339 7, cy_ BK339 8, cy_ BK339 9, cy_ BK339 10⟩ (fun hHeld => ?_)
        clear hK K
        refine norm_ (a' := ?_) ?_ ?_
        rotate_left
        ·show Act.put _ (some 14) _ = _
         simp only [Act.put, q_]
         rfl
        refine pl_ HT_ 2 15 tb19_7_14 ?_
        refine pl_ HT_ 3 16 tb19_f_14 ?_
        refine pl_ HT_ 4 17 tb19_1f_14 ?_
        refine pl_ HT_ 5 18 tb19_3f_14 ?_
        refine pl_ HT_ 6 19 tb19_7f_14 ?_
        refine pr_ HT_ 7 20 tb19_ff_14 ?_
        refine pr_ HT_ 8 21 tb19_1ff_14 ?_
        refine pr_ HT_ 9 22 tb19_3ff_14 ?_
        refine pr_ HT_ 10 23 tb19_7ff_14 ?_
        refine pr_ HT_ 11 24 tb19_fff_14 ?_
        refine pr_ HT_ 12 25 tb19_1fff_14 ?_
        refine pr_ HT_ 13 26 tb19_3fff_14 ?_
        refine pr_ HT_ 14 27 tb19_7fff_14 ?_
        refine pr_ HT_ 15 28 tb19_ffff_14 ?_
        refine pr_ HT_ 16 29 tb19_1ffff_14 ?_
        refine pl_ HT_ 17 30 tb19_3ffff_14 ?_
        refine pl_ HT_ 18 31 tb19_7ffff_14 ?_
        refine done_ (done_of HT_.out (by kernel_rfl)) ?_
        try go_wp2
        go_roundg k1
        case measure => have := HK1.out; omega
        case rel => exact ⟨(wrap64 (x8_1 + 1)), sp_, H', ⟨by have := HK1.out; omega⟩, ⟨by (with_reducible repeat (first | refine blk_drewN ?_ _ | refine blk_drew ?_ | refine blk_alloc ?_ _)); exact BK337.out⟩, ⟨bl_⟩⟩
      ·replace c8 := Bool.eq_false_iff.mpr c8
       subst c8
       have H1 : (some false) = some r := by rw [if_neg (show ¬ (false = true) by decide)] at H; exact H
       clear H
       have H := H1
       clear H1
       obtain rfl := Option.some.inj H
       have p338 : 0 ≤ (x8_1 : Int) := od_
       have q338 : x8_1 < (l0_0.length : Int) := od_
       obtain ⟨ad338, A338_5, c338_5, A338_8, c338_8, A338_9, c338_9, A338_10, c338_10, e338, hx338_0, hx338_1, hx338_2, hx338_3, hx338_4, hx338_5, hx338_6, hx338_7, hx338_8, hx338_9, hx338_10, hl338_5, hi338_5, hl338_8, hi338_8, hl338_9, hi338_9, hl338_10, hi338_10⟩ := at_T48 HR0_0.out x8_1 p338 q338
       cases e338
       replace hx338_0 := kc_ HB hx338_0
       replace hx338_1 := kc_ HB hx338_1
       replace hx338_2 := kc_ HB hx338_2
       replace hx338_3 := kc_ HB hx338_3
       replace hx338_4 := kc_ HB hx338_4
       replace hx338_5 := kc_ HB hx338_5
       replace hx338_6 := kc_ HB hx338_6
       replace hx338_7 := kc_ HB hx338_7
       replace hx338_8 := kc_ HB hx338_8
       replace hx338_9 := kc_ HB hx338_9
       replace hx338_10 := kc_ HB hx338_10
       have HR338_5 := Aside0.mk hi338_5
       have HC338_5 := Aside0.mk hl338_5
       clear hi338_5 hl338_5
       have HR338_8 := Aside0.mk hi338_8
       have HC338_8 := Aside0.mk hl338_8
       clear hi338_8 hl338_8
       have HR338_9 := Aside0.mk hi338_9
       have HC338_9 := Aside0.mk hl338_9
       clear hi338_9 hl338_9
       have HR338_10 := Aside0.mk hi338_10
       have HC338_10 := Aside0.mk hl338_10
       clear hi338_10 hl338_10
       replace p338 := eq_true p338
       replace q338 := eq_true q338
       try go_wp2_with (first | ((with_reducible refine gate_dst (N := 4) rfl ?_); refine box_event ?hg (N := 4) ?hd (cs := #[.string (⟨#[]⟩ : ByteArray), .int .i64 0, .int .i64 0, .int .i64 0, .int .i64 0, .slice none 0 0, .int .i64 0, .int .i64 0, .slice none 0 0, .slice none 0 0, .slice none 0 0]) (t := 48) ?hr ?_; (case hd => rfl); (case hg => rfl); (case hr => first | (go_simp; done) | (go_simp; rfl)); intro gb339 hg w32 hbox hb; have n0_ := Aside0.mk (blk_below (bk_ BK337) hb); have n1_ := Aside0.mk (below_step bl_ hb); have n2_ := Aside0.mk (hbox); have n3_ := gw_ (w := w) hg; have n4_ := gw_ (w := w) hg; have n5_ := Aside0.mk ((by rw [hg]; exact Nat.ne_of_lt (blk_lt (bk_ BK337)) : gb337 ≠ gb339)); have n6_ := Aside0.mk ((by rw [hg]; exact Nat.ne_of_gt (blk_lt (bk_ BK337)) : gb339 ≠ gb337)); clear BK337; clear HB; have BK337 := n0_; have HB := n1_; have BK339 := n2_; have GW339 := n3_; have GE339 := n4_; have NB337_339 := n5_; have NB339_337 := n6_; clear n0_ n1_ n2_ n3_ n4_ n5_ n6_; clear hb hbox hg; have hnb33 := NB339_337.out; have hnc33 := NB337_339.out; have hcz34_0 := cz_ BK339 0 (.string (⟨#[]⟩ : ByteArray)); have hcz34_1 := cz_ BK339 1 (.int .i64 0); have hcz34_2 := cz_ BK339 2 (.int .i64 0); have hcz34_3 := cz_ BK339 3 (.int .i64 0); have hcz34_4 := cz_ BK339 4 (.int .i64 0); have hcz34_5 := cz_ BK339 5 (.slice none 0 0); have hcz34_6 := cz_ BK339 6 (.int .i64 0); have hcz34_7 := cz_ BK339 7 (.int .i64 0); have hcz34_8 := cz_ BK339 8 (.slice none 0 0); have hcz34_9 := cz_ BK339 9 (.slice none 0 0); have hcz34_10 := cz_ BK339 10 (.slice none 0 0); have hfz34_0 := fz_ BK339 0; have hfz34_1 := fz_ BK339 1; have hfz34_2 := fz_ BK339 2; have hfz34_3 := fz_ BK339 3; have hfz34_4 := fz_ BK339 4; have hfz34_5 := fz_ BK339 5; have hfz34_6 := fz_ BK339 6; have hfz34_7 := fz_ BK339 7; have hfz34_8 := fz_ BK339 8; have hfz34_9 := fz_ BK339 9; have hfz34_10 := fz_ BK339 10))
       have n0_ : Aside0 ((((((((((((w32.setCell ⟨gb339, 0, none⟩ (.string ((rd_T48 l0_0 x8_1).f0))).setCell ⟨gb339, 1, none⟩ (.int .i64 ((rd_T48 l0_0 x8_1).f1))).setCell ⟨gb339, 2, none⟩ (.int .i64 ((rd_T48 l0_0 x8_1).f2))).setCell ⟨gb339, 3, none⟩ (.int .i64 ((rd_T48 l0_0 x8_1).f3))).setCell ⟨gb339, 4, none⟩ (.int .i64 ((rd_T48 l0_0 x8_1).f4))).setCell ⟨gb339, 5, none⟩ (.slice A338_5 ((rd_T48 l0_0 x8_1).f5).length c338_5)).setCell ⟨gb339, 6, none⟩ (.int .i64 ((rd_T48 l0_0 x8_1).f6.f0))).setCell ⟨gb339, 7, none⟩ (.int .i64 ((rd_T48 l0_0 x8_1).f6.f1))).setCell ⟨gb339, 8, none⟩ (.slice A338_8 ((rd_T48 l0_0 x8_1).f6.f2).length c338_8)).setCell ⟨gb339, 9, none⟩ (.slice A338_9 ((rd_T48 l0_0 x8_1).f6.f3).length c338_9)).setCell ⟨gb339, 10, none⟩ (.slice A338_10 ((rd_T48 l0_0 x8_1).f7).length c338_10)).heap[gb337]? = some (.cells #[.slice (some ad338) l0_0.length c0_0] 64 (0, 0))) := ⟨by (with_reducible repeat (first | refine blk_drewN ?_ _ | refine blk_drew ?_ | refine blk_alloc ?_ _)); refine blk_far ?_ NB337_339.out _; (with_reducible repeat (first | refine blk_drewN ?_ _ | refine blk_drew ?_ | refine blk_alloc ?_ _)); refine blk_far ?_ NB337_339.out _; (with_reducible repeat (first | refine blk_drewN ?_ _ | refine blk_drew ?_ | refine blk_alloc ?_ _)); refine blk_far ?_ NB337_339.out _; (with_reducible repeat (first | refine blk_drewN ?_ _ | refine blk_drew ?_ | refine blk_alloc ?_ _)); refine blk_far ?_ NB337_339.out _; (with_reducible repeat (first | refine blk_drewN ?_ _ | refine blk_drew ?_ | refine blk_alloc ?_ _)); refine blk_far ?_ NB337_339.out _; (with_reducible repeat (first | refine blk_drewN ?_ _ | refine blk_drew ?_ | refine blk_alloc ?_ _)); refine blk_far ?_ NB337_339.out _; (with_reducible repeat (first | refine blk_drewN ?_ _ | refine blk_drew ?_ | refine blk_alloc ?_ _)); refine blk_far ?_ NB337_339.out _; (with_reducible repeat (first | refine blk_drewN ?_ _ | refine blk_drew ?_ | refine blk_alloc ?_ _)); refine blk_far ?_ NB337_339.out _; (with_reducible repeat (first | refine blk_drewN ?_ _ | refine blk_drew ?_ | refine blk_alloc ?_ _)); refine blk_far ?_ NB337_339.out _; (with_reducible repeat (first | refine blk_drewN ?_ _ | refine blk_drew ?_ | refine blk_alloc ?_ _)); refine blk_far ?_ NB337_339.out _; (with_reducible repeat (first | refine blk_drewN ?_ _ | refine blk_drew ?_ | refine blk_alloc ?_ _)); refine blk_far ?_ NB337_339.out _; (with_reducible repeat (first | refine blk_drewN ?_ _ | refine blk_drew ?_ | refine blk_alloc ?_ _)); exact BK337.out⟩
       have n1_ : Aside0 ((((((((((((w32.setCell ⟨gb339, 0, none⟩ (.string ((rd_T48 l0_0 x8_1).f0))).setCell ⟨gb339, 1, none⟩ (.int .i64 ((rd_T48 l0_0 x8_1).f1))).setCell ⟨gb339, 2, none⟩ (.int .i64 ((rd_T48 l0_0 x8_1).f2))).setCell ⟨gb339, 3, none⟩ (.int .i64 ((rd_T48 l0_0 x8_1).f3))).setCell ⟨gb339, 4, none⟩ (.int .i64 ((rd_T48 l0_0 x8_1).f4))).setCell ⟨gb339, 5, none⟩ (.slice A338_5 ((rd_T48 l0_0 x8_1).f5).length c338_5)).setCell ⟨gb339, 6, none⟩ (.int .i64 ((rd_T48 l0_0 x8_1).f6.f0))).setCell ⟨gb339, 7, none⟩ (.int .i64 ((rd_T48 l0_0 x8_1).f6.f1))).setCell ⟨gb339, 8, none⟩ (.slice A338_8 ((rd_T48 l0_0 x8_1).f6.f2).length c338_8)).setCell ⟨gb339, 9, none⟩ (.slice A338_9 ((rd_T48 l0_0 x8_1).f6.f3).length c338_9)).setCell ⟨gb339, 10, none⟩ (.slice A338_10 ((rd_T48 l0_0 x8_1).f7).length c338_10)).heap[gb339]? = some (.cells #[.string ((rd_T48 l0_0 x8_1).f0), .int .i64 ((rd_T48 l0_0 x8_1).f1), .int .i64 ((rd_T48 l0_0 x8_1).f2), .int .i64 ((rd_T48 l0_0 x8_1).f3), .int .i64 ((rd_T48 l0_0 x8_1).f4), .slice A338_5 ((rd_T48 l0_0 x8_1).f5).length c338_5, .int .i64 ((rd_T48 l0_0 x8_1).f6.f0), .int .i64 ((rd_T48 l0_0 x8_1).f6.f1), .slice A338_8 ((rd_T48 l0_0 x8_1).f6.f2).length c338_8, .slice A338_9 ((rd_T48 l0_0 x8_1).f6.f3).length c338_9, .slice A338_10 ((rd_T48 l0_0 x8_1).f7).length c338_10] 48 (0, 0))) := ⟨by (with_reducible repeat (first | refine blk_drewN ?_ _ | refine blk_drew ?_ | refine blk_alloc ?_ _)); refine blk_put (cs := #[.string ((rd_T48 l0_0 x8_1).f0), .int .i64 ((rd_T48 l0_0 x8_1).f1), .int .i64 ((rd_T48 l0_0 x8_1).f2), .int .i64 ((rd_T48 l0_0 x8_1).f3), .int .i64 ((rd_T48 l0_0 x8_1).f4), .slice A338_5 ((rd_T48 l0_0 x8_1).f5).length c338_5, .int .i64 ((rd_T48 l0_0 x8_1).f6.f0), .int .i64 ((rd_T48 l0_0 x8_1).f6.f1), .slice A338_8 ((rd_T48 l0_0 x8_1).f6.f2).length c338_8, .slice A338_9 ((rd_T48 l0_0 x8_1).f6.f3).length c338_9, .slice none 0 0]) ?_ 10 _ rfl; refine blk_put (cs := #[.string ((rd_T48 l0_0 x8_1).f0), .int .i64 ((rd_T48 l0_0 x8_1).f1), .int .i64 ((rd_T48 l0_0 x8_1).f2), .int .i64 ((rd_T48 l0_0 x8_1).f3), .int .i64 ((rd_T48 l0_0 x8_1).f4), .slice A338_5 ((rd_T48 l0_0 x8_1).f5).length c338_5, .int .i64 ((rd_T48 l0_0 x8_1).f6.f0), .int .i64 ((rd_T48 l0_0 x8_1).f6.f1), .slice A338_8 ((rd_T48 l0_0 x8_1).f6.f2).length c338_8, .slice none 0 0, .slice none 0 0]) ?_ 9 _ rfl; refine blk_put (cs := #[.string ((rd_T48 l0_0 x8_1).f0), .int .i64 ((rd_T48 l0_0 x8_1).f1), .int .i64 ((rd_T48 l0_0 x8_1).f2), .int .i64 ((rd_T48 l0_0 x8_1).f3), .int .i64 ((rd_T48 l0_0 x8_1).f4), .slice A338_5 ((rd_T48 l0_0 x8_1).f5).length c338_5, .int .i64 ((rd_T48 l0_0 x8_1).f6.f0), .int .i64 ((rd_T48 l0_0 x8_1).f6.f1), .slice none 0 0, .slice none 0 0, .slice none 0 0]) ?_ 8 _ rfl; refine blk_put (cs := #[.string ((rd_T48 l0_0 x8_1).f0), .int .i64 ((rd_T48 l0_0 x8_1).f1), .int .i64 ((rd_T48 l0_0 x8_1).f2), .int .i64 ((rd_T48 l0_0 x8_1).f3), .int .i64 ((rd_T48 l0_0 x8_1).f4), .slice A338_5 ((rd_T48 l0_0 x8_1).f5).length c338_5, .int .i64 ((rd_T48 l0_0 x8_1).f6.f0), .int .i64 0, .slice none 0 0, .slice none 0 0, .slice none 0 0]) ?_ 7 _ rfl; refine blk_put (cs := #[.string ((rd_T48 l0_0 x8_1).f0), .int .i64 ((rd_T48 l0_0 x8_1).f1), .int .i64 ((rd_T48 l0_0 x8_1).f2), .int .i64 ((rd_T48 l0_0 x8_1).f3), .int .i64 ((rd_T48 l0_0 x8_1).f4), .slice A338_5 ((rd_T48 l0_0 x8_1).f5).length c338_5, .int .i64 0, .int .i64 0, .slice none 0 0, .slice none 0 0, .slice none 0 0]) ?_ 6 _ rfl; refine blk_put (cs := #[.string ((rd_T48 l0_0 x8_1).f0), .int .i64 ((rd_T48 l0_0 x8_1).f1), .int .i64 ((rd_T48 l0_0 x8_1).f2), .int .i64 ((rd_T48 l0_0 x8_1).f3), .int .i64 ((rd_T48 l0_0 x8_1).f4), .slice none 0 0, .int .i64 0, .int .i64 0, .slice none 0 0, .slice none 0 0, .slice none 0 0]) ?_ 5 _ rfl; refine blk_put (cs := #[.string ((rd_T48 l0_0 x8_1).f0), .int .i64 ((rd_T48 l0_0 x8_1).f1), .int .i64 ((rd_T48 l0_0 x8_1).f2), .int .i64 ((rd_T48 l0_0 x8_1).f3), .int .i64 0, .slice none 0 0, .int .i64 0, .int .i64 0, .slice none 0 0, .slice none 0 0, .slice none 0 0]) ?_ 4 _ rfl; refine blk_put (cs := #[.string ((rd_T48 l0_0 x8_1).f0), .int .i64 ((rd_T48 l0_0 x8_1).f1), .int .i64 ((rd_T48 l0_0 x8_1).f2), .int .i64 0, .int .i64 0, .slice none 0 0, .int .i64 0, .int .i64 0, .slice none 0 0, .slice none 0 0, .slice none 0 0]) ?_ 3 _ rfl; refine blk_put (cs := #[.string ((rd_T48 l0_0 x8_1).f0), .int .i64 ((rd_T48 l0_0 x8_1).f1), .int .i64 0, .int .i64 0, .int .i64 0, .slice none 0 0, .int .i64 0, .int .i64 0, .slice none 0 0, .slice none 0 0, .slice none 0 0]) ?_ 2 _ rfl; refine blk_put (cs := #[.string ((rd_T48 l0_0 x8_1).f0), .int .i64 0, .int .i64 0, .int .i64 0, .int .i64 0, .slice none 0 0, .int .i64 0, .int .i64 0, .slice none 0 0, .slice none 0 0, .slice none 0 0]) ?_ 1 _ rfl; refine blk_put (cs := #[.string (⟨#[]⟩ : ByteArray), .int .i64 0, .int .i64 0, .int .i64 0, .int .i64 0, .slice none 0 0, .int .i64 0, .int .i64 0, .slice none 0 0, .slice none 0 0, .slice none 0 0]) ?_ 0 _ rfl; (with_reducible repeat (first | refine blk_drewN ?_ _ | refine blk_drew ?_ | refine blk_alloc ?_ _)); exact BK339.out⟩
       have n2_ : Aside0 (Below w.heap.size w (((((((((((w32.setCell ⟨gb339, 0, none⟩ (.string ((rd_T48 l0_0 x8_1).f0))).setCell ⟨gb339, 1, none⟩ (.int .i64 ((rd_T48 l0_0 x8_1).f1))).setCell ⟨gb339, 2, none⟩ (.int .i64 ((rd_T48 l0_0 x8_1).f2))).setCell ⟨gb339, 3, none⟩ (.int .i64 ((rd_T48 l0_0 x8_1).f3))).setCell ⟨gb339, 4, none⟩ (.int .i64 ((rd_T48 l0_0 x8_1).f4))).setCell ⟨gb339, 5, none⟩ (.slice A338_5 ((rd_T48 l0_0 x8_1).f5).length c338_5)).setCell ⟨gb339, 6, none⟩ (.int .i64 ((rd_T48 l0_0 x8_1).f6.f0))).setCell ⟨gb339, 7, none⟩ (.int .i64 ((rd_T48 l0_0 x8_1).f6.f1))).setCell ⟨gb339, 8, none⟩ (.slice A338_8 ((rd_T48 l0_0 x8_1).f6.f2).length c338_8)).setCell ⟨gb339, 9, none⟩ (.slice A338_9 ((rd_T48 l0_0 x8_1).f6.f3).length c338_9)).setCell ⟨gb339, 10, none⟩ (.slice A338_10 ((rd_T48 l0_0 x8_1).f7).length c338_10))) := ⟨bl_⟩
       (try clear BK337)
       (try clear BK339)
       (try clear HB)
       generalize (((((((((((w32.setCell ⟨gb339, 0, none⟩ (.string ((rd_T48 l0_0 x8_1).f0))).setCell ⟨gb339, 1, none⟩ (.int .i64 ((rd_T48 l0_0 x8_1).f1))).setCell ⟨gb339, 2, none⟩ (.int .i64 ((rd_T48 l0_0 x8_1).f2))).setCell ⟨gb339, 3, none⟩ (.int .i64 ((rd_T48 l0_0 x8_1).f3))).setCell ⟨gb339, 4, none⟩ (.int .i64 ((rd_T48 l0_0 x8_1).f4))).setCell ⟨gb339, 5, none⟩ (.slice A338_5 ((rd_T48 l0_0 x8_1).f5).length c338_5)).setCell ⟨gb339, 6, none⟩ (.int .i64 ((rd_T48 l0_0 x8_1).f6.f0))).setCell ⟨gb339, 7, none⟩ (.int .i64 ((rd_T48 l0_0 x8_1).f6.f1))).setCell ⟨gb339, 8, none⟩ (.slice A338_8 ((rd_T48 l0_0 x8_1).f6.f2).length c338_8)).setCell ⟨gb339, 9, none⟩ (.slice A338_9 ((rd_T48 l0_0 x8_1).f6.f3).length c338_9)).setCell ⟨gb339, 10, none⟩ (.slice A338_10 ((rd_T48 l0_0 x8_1).f7).length c338_10)) = w35 at n0_ n1_ n2_ ⊢
       have BK337 := n0_
       have BK339 := n1_
       have HB := n2_
       clear n0_ n1_ n2_
       have n0_ := Aside0.mk (blk_drew BK337.out)
       have n1_ := Aside0.mk (blk_drew BK339.out)
       have n2_ := Aside0.mk (below_drew1 HB.out)
       clear BK337
       clear BK339
       clear HB
       have BK337 := n0_
       have BK339 := n1_
       have HB := n2_
       clear n0_ n1_ n2_
       refine start_ (n := 19) (S := fun w' => w'.cell? ⟨gb339, 0, none⟩ = some (.string ((rd_T48 l0_0 x8_1).f0)) ∧ w'.cell? ⟨gb339, 1, none⟩ = some (.int .i64 ((rd_T48 l0_0 x8_1).f1)) ∧ w'.cell? ⟨gb339, 2, none⟩ = some (.int .i64 ((rd_T48 l0_0 x8_1).f2)) ∧ w'.cell? ⟨gb339, 3, none⟩ = some (.int .i64 ((rd_T48 l0_0 x8_1).f3)) ∧ w'.cell? ⟨gb339, 4, none⟩ = some (.int .i64 ((rd_T48 l0_0 x8_1).f4)) ∧ w'.cell? ⟨gb339, 5, none⟩ = some (.slice A338_5 ((rd_T48 l0_0 x8_1).f5).length c338_5) ∧ w'.cell? ⟨gb339, 6, none⟩ = some (.int .i64 ((rd_T48 l0_0 x8_1).f6.f0)) ∧ w'.cell? ⟨gb339, 7, none⟩ = some (.int .i64 ((rd_T48 l0_0 x8_1).f6.f1)) ∧ w'.cell? ⟨gb339, 8, none⟩ = some (.slice A338_8 ((rd_T48 l0_0 x8_1).f6.f2).length c338_8) ∧ w'.cell? ⟨gb339, 9, none⟩ = some (.slice A338_9 ((rd_T48 l0_0 x8_1).f6.f3).length c338_9) ∧ w'.cell? ⟨gb339, 10, none⟩ = some (.slice A338_10 ((rd_T48 l0_0 x8_1).f7).length c338_10)) (ds := []) tb19_0_14 (by kernel_rfl) rfl rfl ⟨cy_ BK339 0, cy_ BK339 1, cy_ BK339 2, cy_ BK339 3, cy_ BK339 4, cy_ BK339 5, cy_ BK339 6, cy_ BK339 7, cy_ BK339 8, cy_ BK339 9, cy_ BK339 10⟩ (fun hHeld => ?_); refine with_tabW impl_BookOk.tab4 impl_BookOk.bits4 (fun HT_ HW_ => ?_)
       generalize w35.drew = w36 at BK337 BK339 HB hHeld ⊢
       refine pt_ HT_ HW_ hHeld 0 13 tb19_1_14 ?_
       refine one_ (i := 1) (N := some 14) tb19_3_14 rfl rfl (one_of HT_.out (by kernel_rfl)) (by decide) (fun K hK => ?_)
       refine goes_ Try.func20 (by kernel_rfl) rfl #[.agg #[.string ((rd_T48 l0_0 x8_1).f0), .int .i64 ((rd_T48 l0_0 x8_1).f1), .int .i64 ((rd_T48 l0_0 x8_1).f2), .int .i64 ((rd_T48 l0_0 x8_1).f3), .int .i64 ((rd_T48 l0_0 x8_1).f4), .slice A338_5 ((rd_T48 l0_0 x8_1).f5).length c338_5, .int .i64 ((rd_T48 l0_0 x8_1).f6.f0), .int .i64 ((rd_T48 l0_0 x8_1).f6.f1), .slice A338_8 ((rd_T48 l0_0 x8_1).f6.f2).length c338_8, .slice A338_9 ((rd_T48 l0_0 x8_1).f6.f3).length c338_9, .slice A338_10 ((rd_T48 l0_0 x8_1).f7).length c338_10]] (by rfl) rfl rfl gl_ ?_
       with_reducible refine (impl_AcctOk.calls k1 ((rd_T48 l0_0 x8_1).f0) ((rd_T48 l0_0 x8_1).f1) ((rd_T48 l0_0 x8_1).f2) ((rd_T48 l0_0 x8_1).f3) ((rd_T48 l0_0 x8_1).f4) _ _ ((rd_T48 l0_0 x8_1).f5) ((rd_T48 l0_0 x8_1).f6.f0) ((rd_T48 l0_0 x8_1).f6.f1) _ _ ((rd_T48 l0_0 x8_1).f6.f2) _ _ ((rd_T48 l0_0 x8_1).f6.f3) _ _ ((rd_T48 l0_0 x8_1).f7) false _ ?side1 ?side2 ?side3 ?side4 ?side5 ?side6 ?side7 ?side8 A7.out).mono ?_
       (case side1 => exact ca_ (Kd.C_below HR338_5.out HB.out))
       (case side2 => exact HC338_5.out)
       (case side3 => exact ca_ (Kd.C_below HR338_8.out HB.out))
       (case side4 => exact HC338_8.out)
       (case side5 => exact ca_ (Kd.C_below HR338_9.out HB.out))
       (case side6 => exact HC338_9.out)
       (case side7 => exact ca_ (Kd.C_below HR338_10.out HB.out))
       (case side8 => exact HC338_10.out)
       rintro e w37 ⟨rfl, hb⟩
       refine ⟨_, rfl, ?_⟩
       have n0_ := Aside0.mk (blk_below (bk_ BK337) hb)
       have n1_ := Aside0.mk (blk_below (bk_ BK339) hb)
       have n2_ := Aside0.mk (below_step bl_ hb)
       clear BK337
       clear BK339
       clear HB
       have BK337 := n0_
       have BK339 := n1_
       have HB := n2_
       clear n0_ n1_ n2_
       (try clear hb)
       (try clear hb2)
       (try clear hk)
       (try clear hi)
       refine hK.out _ _ ⟨cy_ BK339 0, cy_ BK339 1, cy_ BK339 2, cy_ BK339 3, cy_ BK339 4, cy_ BK339 5, cy_ BK339 6, cy_ BK339 7, cy_ BK339 8, cy_ BK339 9, cy_ BK339 10⟩ (fun hHeld => ?_)
       clear hK K
       refine norm_ (a' := ?_) ?_ ?_
       rotate_left
       ·show Act.put _ (some 14) _ = _
        simp only [Act.put, q_]
        rfl
       refine pl_ HT_ 2 15 tb19_7_14 ?_
       refine pl_ HT_ 3 16 tb19_f_14 ?_
       refine pr_ HT_ 4 17 tb19_1f_14 ?_
       refine pr_ HT_ 5 18 tb19_3f_14 ?_
       refine pr_ HT_ 6 19 tb19_7f_14 ?_
       refine pr_ HT_ 7 20 tb19_ff_14 ?_
       refine pr_ HT_ 8 21 tb19_1ff_14 ?_
       refine pr_ HT_ 9 22 tb19_3ff_14 ?_
       refine pr_ HT_ 10 23 tb19_7ff_14 ?_
       refine pr_ HT_ 11 24 tb19_fff_14 ?_
       refine pr_ HT_ 12 25 tb19_1fff_14 ?_
       refine pr_ HT_ 13 26 tb19_3fff_14 ?_
       refine pr_ HT_ 14 27 tb19_7fff_14 ?_
       refine pr_ HT_ 15 28 tb19_ffff_14 ?_
       refine pr_ HT_ 16 29 tb19_1ffff_14 ?_
       refine pr_ HT_ 17 30 tb19_3ffff_14 ?_
       refine pl_ HT_ 18 31 tb19_7ffff_14 ?_
       refine done_ (done_of HT_.out (by kernel_rfl)) ?_
       try go_wp2
       go_ret
       exact ⟨sq_, bl_⟩
     ·rw [if_neg c6] at H
      exact absurd H (by simp)
    ·rw [if_neg c5] at H
     exact absurd H (by simp)
   ·rw [if_neg c4] at H
    have c4b0 : decide (x8_1 < (l0_0.length : Int)) = false := decide_eq_false c4
    clear c4
    obtain rfl := Option.some.inj H
    have hcz38_0 := cz_ BK337 0 (.slice A0_0 l0_0.length c0_0)
    have hfz38_0 := fz_ BK337 0
    go_wp2
    go_ret
    exact ⟨sq_, bl_⟩
end Go.Proofs.Ytgcggfoailaalaa.QFnExactBookOk
