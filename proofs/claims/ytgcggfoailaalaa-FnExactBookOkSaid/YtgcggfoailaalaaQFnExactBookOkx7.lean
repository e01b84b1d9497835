-- by my own printer (myprint.py, over the kit's print.py)
import Derived.Test.YtgcggfoailaalaaQFnExactBookOkx0
import Derived.Test.YtgcggfoailaalaaQFnExactBookOkx6
namespace Go.Proofs.Ytgcggfoailaalaa.QFnExactBookOk
open Go.RowKit Go.Proofs.YtgcggfoailaalaaW.PrintWords Go.Proofs.YtgcggfoailaalaaW.PrintLast Go.Proofs.YtgcggfoailaalaaW.PrintMore
attribute [local go_sem] max2_int min2_int max_two min_two max_three min_three max_four min_four   -- for this text's walks alone
set_option linter.unusedVariables false
set_option linter.unusedSimpArgs false
attribute [local go_sem] my_geq my_leq my_gtr
abbrev tb19_0_7 : Array Bool := #[b0, b0, b0, b0, b0, b0, b0, b0, b0, b0, b0, b0, b0, b0, b0, b0, b0, b0, b0]
abbrev tb19_1_7 : Array Bool := #[b1, b0, b0, b0, b0, b0, b0, b0, b0, b0, b0, b0, b0, b0, b0, b0, b0, b0, b0]
abbrev tb19_1f_7 : Array Bool := #[b1, b1, b1, b1, b1, b0, b0, b0, b0, b0, b0, b0, b0, b0, b0, b0, b0, b0, b0]
abbrev tb19_1ff_7 : Array Bool := #[b1, b1, b1, b1, b1, b1, b1, b1, b1, b0, b0, b0, b0, b0, b0, b0, b0, b0, b0]
abbrev tb19_1fff_7 : Array Bool := #[b1, b1, b1, b1, b1, b1, b1, b1, b1, b1, b1, b1, b1, b0, b0, b0, b0, b0, b0]
abbrev tb19_1ffff_7 : Array Bool := #[b1, b1, b1, b1, b1, b1, b1, b1, b1, b1, b1, b1, b1, b1, b1, b1, b1, b0, b0]
abbrev tb19_2ff_7 : Array Bool := #[b1, b1, b1, b1, b1, b1, b1, b1, b0, b1, b0, b0, b0, b0, b0, b0, b0, b0, b0]
abbrev tb19_3_7 : Array Bool := #[b1, b1, b0, b0, b0, b0, b0, b0, b0, b0, b0, b0, b0, b0, b0, b0, b0, b0, b0]
abbrev tb19_3f_7 : Array Bool := #[b1, b1, b1, b1, b1, b1, b0, b0, b0, b0, b0, b0, b0, b0, b0, b0, b0, b0, b0]
abbrev tb19_3ff_7 : Array Bool := #[b1, b1, b1, b1, b1, b1, b1, b1, b1, b1, b0, b0, b0, b0, b0, b0, b0, b0, b0]
abbrev tb19_3fff_7 : Array Bool := #[b1, b1, b1, b1, b1, b1, b1, b1, b1, b1, b1, b1, b1, b1, b0, b0, b0, b0, b0]
abbrev tb19_3ffff_7 : Array Bool := #[b1, b1, b1, b1, b1, b1, b1, b1, b1, b1, b1, b1, b1, b1, b1, b1, b1, b1, b0]
abbrev tb19_46ff_7 : Array Bool := #[b1, b1, b1, b1, b1, b1, b1, b1, b0, b1, b1, b0, b0, b0, b1, b0, b0, b0, b0]
abbrev tb19_47ff_7 : Array Bool := #[b1, b1, b1, b1, b1, b1, b1, b1, b1, b1, b1, b0, b0, b0, b1, b0, b0, b0, b0]
abbrev tb19_4fff_7 : Array Bool := #[b1, b1, b1, b1, b1, b1, b1, b1, b1, b1, b1, b1, b0, b0, b1, b0, b0, b0, b0]
abbrev tb19_5fff_7 : Array Bool := #[b1, b1, b1, b1, b1, b1, b1, b1, b1, b1, b1, b1, b1, b0, b1, b0, b0, b0, b0]
abbrev tb19_6ff_7 : Array Bool := #[b1, b1, b1, b1, b1, b1, b1, b1, b0, b1, b1, b0, b0, b0, b0, b0, b0, b0, b0]
abbrev tb19_7_7 : Array Bool := #[b1, b1, b1, b0, b0, b0, b0, b0, b0, b0, b0, b0, b0, b0, b0, b0, b0, b0, b0]
abbrev tb19_7f_7 : Array Bool := #[b1, b1, b1, b1, b1, b1, b1, b0, b0, b0, b0, b0, b0, b0, b0, b0, b0, b0, b0]
abbrev tb19_7ff_7 : Array Bool := #[b1, b1, b1, b1, b1, b1, b1, b1, b1, b1, b1, b0, b0, b0, b0, b0, b0, b0, b0]
abbrev tb19_7fff_7 : Array Bool := #[b1, b1, b1, b1, b1, b1, b1, b1, b1, b1, b1, b1, b1, b1, b1, b0, b0, b0, b0]
abbrev tb19_7ffff_7 : Array Bool := #[b1, b1, b1, b1, b1, b1, b1, b1, b1, b1, b1, b1, b1, b1, b1, b1, b1, b1, b1]
abbrev tb19_f_7 : Array Bool := #[b1, b1, b1, b1, b0, b0, b0, b0, b0, b0, b0, b0, b0, b0, b0, b0, b0, b0, b0]
abbrev tb19_ff_7 : Array Bool := #[b1, b1, b1, b1, b1, b1, b1, b1, b0, b0, b0, b0, b0, b0, b0, b0, b0, b0, b0]
abbrev tb19_fff_7 : Array Bool := #[b1, b1, b1, b1, b1, b1, b1, b1, b1, b1, b1, b1, b0, b0, b0, b0, b0, b0, b0]
abbrev tb19_ffff_7 : Array Bool := #[b1, b1, b1, b1, b1, b1, b1, b1, b1, b1, b1, b1, b1, b1, b1, b1, b0, b0, b0]
/-! ### spec_BookOk: function 29 -/
def spec_BookOk.l0 : Nat → List (S48) → Int → Int → List (S48) → Option (Bool)
 | 0, _, _, _, _ => none
 | k + 1, x6, x7, x8, x175000 => if x8 < x7 then (if 0 ≤ x8 then (if x8 < (x6.length : Int) then ((spec_AcctOk.f k ((rd_T48 x6 x8).f0) ((rd_T48 x6 x8).f1) ((rd_T48 x6 x8).f2) ((rd_T48 x6 x8).f3) ((rd_T48 x6 x8).f4) ((rd_T48 x6 x8).f5) ((rd_T48 x6 x8).f6.f0) ((rd_T48 x6 x8).f6.f1) ((rd_T48 x6 x8).f6.f2) ((rd_T48 x6 x8).f6.f3) ((rd_T48 x6 x8).f7)).bind fun t177 => (if t177 = true then (if x8 > 0 then (if 0 ≤ (wrap64 (x8 - 1)) then (if (wrap64 (x8 - 1)) < (x175000.length : Int) then (if ((Op.bytesLess (((rd_T48 x175000 (wrap64 (x8 - 1))).f0).toList) (((rd_T48 x6 x8).f0).toList)) = true) then (spec_BookOk.l0 k x6 x7 (wrap64 (x8 + 1)) x175000) else (some false)) else (none)) else (none)) else (spec_BookOk.l0 k x6 x7 (wrap64 (x8 + 1)) x175000)) else (some false))) else (none)) else (none)) else (some (decide ((x175000.length : Int) ≤ 6)))
def spec_BookOk.f (k : Nat) (l0_0 : List (S48)) : Option (Bool) := spec_BookOk.l0 k l0_0 (l0_0.length : Int) 0 l0_0
theorem spec_BookOk.mono_l : ∀ k, (∀ y0 y1 y2 y3, LeO (spec_BookOk.l0 k y0 y1 y2 y3) (spec_BookOk.l0 (k + 1) y0 y1 y2 y3))
 | 0 => fun _ _ _ _ r h => by simp [spec_BookOk.l0] at h
 | k + 1 => by
  have ih0 := spec_BookOk.mono_l k
  ·intro y0 y1 y2 y3
   unfold spec_BookOk.l0
   repeat' first
   | (with_reducible exact ih0 _ _ _ _)
   | (with_reducible exact spec_AcctOk.mono _ _ _ _ _ _ _ _ _ _ _ _)
   | (with_reducible exact LeO.refl _)
   | (with_reducible exact LeO.none _)
   | (with_reducible refine LeO.ite ?_ ?_)
   | (with_reducible refine LeO.bind ?_ (fun _ => ?_))
theorem spec_BookOk.mono : ∀ a0 k, LeO (spec_BookOk.f k a0) (spec_BookOk.f (k + 1) a0) := by
 intro a0 k
 have ih0 := spec_BookOk.mono_l k
 unfold spec_BookOk.f
 repeat' first
   | (with_reducible exact ih0 _ _ _ _)
   | (with_reducible exact spec_AcctOk.mono _ _ _ _ _ _ _ _ _ _ _ _)
   | (with_reducible exact LeO.refl _)
   | (with_reducible exact LeO.none _)
   | (with_reducible refine LeO.ite ?_ ?_)
   | (with_reducible refine LeO.bind ?_ (fun _ => ?_))
def spec_BookOk.T4 : Bool × List (List Nat × List Nat) := (true, [([], []), ([0], [0]), ([1], [1]), ([2, 1], [2]), ([3], [3]), ([4, 3], [3, 4]), ([5, 3, 3], [3, 5]), ([6], [6]), ([7, 6], [6, 7]), ([6], [6]), ([9, 6], [6, 9]), ([8, 10, 6], [6, 8, 10]), ([11, 6], [6, 11]), ([12, 6], [6, 12]), ([6], [6]), ([14, 6], [6, 14]), ([13, 15, 6], [6, 13, 15]), ([6, 16, 3], [3, 6, 16]), ([3, 17], [3, 17])])
def spec_BookOk.B4 : List Nat := [0, 1, 3, 7, 15, 31, 63, 127, 255, 127, 639, 2047, 4095, 8191, 127, 16511, 65535, 131071, 262143]
theorem spec_BookOk.tab4 : rtab .any (opsOf Try.f29 4) = spec_BookOk.T4 := by kernel_rfl
theorem spec_BookOk.bits4 : waitsOk spec_BookOk.T4.2 spec_BookOk.B4 = true := by kernel_rfl
set_option maxHeartbeats 8000000 in
set_option maxRecDepth 100000 in
theorem spec_BookOk.calls (k : Nat) (A0_0 : Option Addr) (c0_0 : Nat) (l0_0 : List (S48)) (r : Bool) (w : World) (hr0_0 : Kd.C k48 w A0_0 l0_0.length l0_0) (hc0_0 : l0_0.length ≤ c0_0) (h : spec_BookOk.f k l0_0 = some r) :
  Calls Try.prog 29 #[.agg #[.slice A0_0 l0_0.length c0_0]] w fun e w' => e = .returned (.bool r) ∧ Below w.heap.size w w' := by
 have hu64 := Try.underlying64
 have hu48 := Try.underlying48
 have HR0_0 := Aside0.mk hr0_0
 have HC0_0 := Aside0.mk hc0_0
 clear hr0_0 hc0_0
 have HB := Aside0.mk (Below.refl w.heap.size w)
 have H : (spec_BookOk.l0 k l0_0 (l0_0.length : Int) 0 l0_0) = some r := h
 clear h
 have H' := Aside0.mk H
 clear H
 go_enter Try.func29, Try.ntmps29
 go_wp2_with (first | ((with_reducible refine gate_dst (N := 1) rfl ?_); refine box_event ?hg (N := 1) ?hd (cs := #[.slice A0_0 l0_0.length c0_0]) (t := 64) ?hr ?_; (case hd => rfl); (case hg => rfl); (case hr => first | (go_simp; done) | (go_simp; rfl)); intro gb174 hg w2 hbox hb; have n0_ := Aside0.mk (below_step bl_ hb); have n1_ := Aside0.mk (hbox); have n2_ := gw_ (w := w) hg; have n3_ := gw_ (w := w) hg; clear HB; have HB := n0_; have BK174 := n1_; have GW174 := n2_; have GE174 := n3_; clear n0_ n1_ n2_ n3_; clear hb hbox hg; have hcz3_0 := cz_ BK174 0 (.slice A0_0 l0_0.length c0_0); have hfz3_0 := fz_ BK174 0))
 go_loopg [8] k (fun kq v8 w' => ∃ (x8_1 : Int), v8 = .int .i64 x8_1 ∧ Aside0 (spec_BookOk.l0 kq l0_0 (l0_0.length : Int) x8_1 l0_0 = some r) ∧ Aside0 (kq ≤ k) ∧ Aside0 (w'.heap[gb174]? = some (.cells #[(.slice A0_0 l0_0.length c0_0)] 64 (0, 0))) ∧ Aside0 (Below w.heap.size w w'))
 case atStart => exact ⟨(0), sp_, H', ⟨Nat.le_refl _⟩, ⟨by (with_reducible repeat (first | refine blk_drewN ?_ _ | refine blk_drew ?_ | refine blk_alloc ?_ _)); exact BK174.out⟩, ⟨bl_⟩⟩
 case round =>
  clear H'
  try clear c2
  try clear p2
  try clear hcz3_0
  try clear hfz3_0
  obtain ⟨x8_1, rfl, HA, HK1, BK174, HB⟩ := hrel
  cases gk with
  | zero => exact absurd HA.out (by simp [spec_BookOk.l0])
  | succ k1 =>
   have H := HA.out
   clear HA
   simp only [spec_BookOk.l0] at H
   by_cases c4 : x8_1 < (l0_0.length : Int)
   ·rw [if_pos c4] at H
    have c4b0 : decide (x8_1 < (l0_0.length : Int)) = true := decide_eq_true c4
    clear c4
    by_cases c5 : 0 ≤ x8_1
    ·rw [if_pos c5] at H
     have c5b0 : decide (0 ≤ x8_1) = true := decide_eq_true c5
     clear c5
     by_cases c6 : x8_1 < (l0_0.length : Int)
     ·rw [if_pos c6] at H
      have c6b0 : decide (x8_1 < (l0_0.length : Int)) = true := decide_eq_true c6
      clear c6
      replace H := Option.bind_eq_some_iff.mp H
      obtain ⟨t177, A70, H⟩ := H
      replace H : (if t177 = true then (if x8_1 > 0 then (if 0 ≤ (wrap64 (x8_1 - 1)) then (if (wrap64 (x8_1 - 1)) < (l0_0.length : Int) then (if ((Op.bytesLess (((rd_T48 l0_0 (wrap64 (x8_1 - 1))).f0).toList) (((rd_T48 l0_0 x8_1).f0).toList)) = true) then (spec_BookOk.l0 k1 l0_0 (l0_0.length : Int) (wrap64 (x8_1 + 1)) l0_0) else (some false)) else (none)) else (none)) else (spec_BookOk.l0 k1 l0_0 (l0_0.length : Int) (wrap64 (x8_1 + 1)) l0_0)) else (some false)) = some r := H
      have A7 := Aside0.mk A70
      clear A70
      by_cases c8 : t177 = true
      ·subst c8
       have H1 : (if x8_1 > 0 then (if 0 ≤ (wrap64 (x8_1 - 1)) then (if (wrap64 (x8_1 - 1)) < (l0_0.length : Int) then (if ((Op.bytesLess (((rd_T48 l0_0 (wrap64 (x8_1 - 1))).f0).toList) (((rd_T48 l0_0 x8_1).f0).toList)) = true) then (spec_BookOk.l0 k1 l0_0 (l0_0.length : Int) (wrap64 (x8_1 + 1)) l0_0) else (some false)) else (none)) else (none)) else (spec_BookOk.l0 k1 l0_0 (l0_0.length : Int) (wrap64 (x8_1 + 1)) l0_0)) = some r := by rw [if_pos rfl] at H; exact H
       clear H
       have H := H1
       clear H1
       by_cases c9 : x8_1 > 0
       ·rw [if_pos c9] at H
        have c9b0 : decide (0 < x8_1) = true := decide_eq_true c9
        clear c9
        obtain ⟨ji10, hji10⟩ : ∃ j_ : Int, (wrap64 (x8_1 - 1)) = j_ := ⟨_, rfl⟩
        replace H : (if 0 ≤ (ji10) then (if (ji10) < (l0_0.length : Int) then (if ((Op.bytesLess (((rd_T48 l0_0 (ji10)).f0).toList) (((rd_T48 l0_0 x8_1).f0).toList)) = true) then (spec_BookOk.l0 k1 l0_0 (l0_0.length : Int) (wrap64 (x8_1 + 1)) l0_0) else (some false)) else (none)) else (none)) = some r := by first | (rw [hji10] at H; exact H) | (simp only [hji10] at H ⊢; exact H)
        (try rw [hji10] at A7)
        have hji10w : (IntKind.i64.wrap (x8_1 - 1)) = ji10 := (i64_w _).trans hji10
        by_cases c11 : 0 ≤ (ji10)
        ·rw [if_pos c11] at H
         have c11b0 : decide (0 ≤ (ji10)) = true := decide_eq_true c11
         clear c11
         by_cases c12 : (ji10) < (l0_0.length : Int)
         ·rw [if_pos c12] at H
          have c12b0 : decide ((ji10) < (l0_0.length : Int)) = true := decide_eq_true c12
          clear c12
          by_cases c13 : ((Op.bytesLess (((rd_T48 l0_0 (ji10)).f0).toList) (((rd_T48 l0_0 x8_1).f0).toList)) = true)
          ·rw [if_pos c13] at H
           have c13b0 : (Op.bytesLess (((rd_T48 l0_0 (ji10)).f0).toList) (((rd_T48 l0_0 x8_1).f0).toList)) = true := c13
           clear c13
           have H' := Aside0.mk H
           clear H
           have p175 : 0 ≤ (x8_1 : Int) := od_
           have q175 : x8_1 < (l0_0.length : Int) := od_
           obtain ⟨ad175, A175_5, c175_5, A175_8, c175_8, A175_9, c175_9, A175_10, c175_10, e175, hx175_0, hx175_1, hx175_2, hx175_3, hx175_4, hx175_5, hx175_6, hx175_7, hx175_8, hx175_9, hx175_10, hl175_5, hi175_5, hl175_8, hi175_8, hl175_9, hi175_9, hl175_10, hi175_10⟩ := at_T48 HR0_0.out x8_1 p175 q175
           cases e175
           replace hx175_0 := kc_ HB hx175_0
           replace hx175_1 := kc_ HB hx175_1
           replace hx175_2 := kc_ HB hx175_2
           replace hx175_3 := kc_ HB hx175_3
           replace hx175_4 := kc_ HB hx175_4
           replace hx175_5 := kc_ HB hx175_5
           replace hx175_6 := kc_ HB hx175_6
           replace hx175_7 := kc_ HB hx175_7
           replace hx175_8 := kc_ HB hx175_8
           replace hx175_9 := kc_ HB hx175_9
           replace hx175_10 := kc_ HB hx175_10
           have HR175_5 := Aside0.mk hi175_5
           have HC175_5 := Aside0.mk hl175_5
           clear hi175_5 hl175_5
           have HR175_8 := Aside0.mk hi175_8
           have HC175_8 := Aside0.mk hl175_8
           clear hi175_8 hl175_8
           have HR175_9 := Aside0.mk hi175_9
           have HC175_9 := Aside0.mk hl175_9
           clear hi175_9 hl175_9
           have HR175_10 := Aside0.mk hi175_10
           have HC175_10 := Aside0.mk hl175_10
           clear hi175_10 hl175_10
           replace p175 := eq_true p175
           replace q175 := eq_true q175
           try go_wp2_with (first | ((with_reducible refine gate_dst (N := 4) rfl ?_); refine box_event ?hg (N := 4) ?hd (cs := #[.string (⟨#[]⟩ : ByteArray), .int .i64 0, .int .i64 0, .int .i64 0, .int .i64 0, .slice none 0 0, .int .i64 0, .int .i64 0, .slice none 0 0, .slice none 0 0, .slice none 0 0]) (t := 48) ?hr ?_; (case hd => rfl); (case hg => rfl); (case hr => first | (go_simp; done) | (go_simp; rfl)); intro gb176 hg w14 hbox hb; have n0_ := Aside0.mk (blk_below (bk_ BK174) hb); have n1_ := Aside0.mk (below_step bl_ hb); have n2_ := Aside0.mk (hbox); have n3_ := gw_ (w := w) hg; have n4_ := gw_ (w := w) hg; have n5_ := Aside0.mk ((by rw [hg]; exact Nat.ne_of_lt (blk_lt (bk_ BK174)) : gb174 ≠ gb176)); have n6_ := Aside0.mk ((by rw [hg]; exact Nat.ne_of_gt (blk_lt (bk_ BK174)) : gb176 ≠ gb174)); clear BK174; clear HB; have BK174 := n0_; have HB := n1_; have BK176 := n2_; have GW176 := n3_; have GE176 := n4_; have NB174_176 := n5_; have NB176_174 := n6_; clear n0_ n1_ n2_ n3_ n4_ n5_ n6_; clear hb hbox hg; have hnb15 := NB176_174.out; have hnc15 := NB174_176.out; have hcz16_0 := cz_ BK176 0 (.string (⟨#[]⟩ : ByteArray)); have hcz16_1 := cz_ BK176 1 (.int .i64 0); have hcz16_2 := cz_ BK176 2 (.int .i64 0); have hcz16_3 := cz_ BK176 3 (.int .i64 0); have hcz16_4 := cz_ BK176 4 (.int .i64 0); have hcz16_5 := cz_ BK176 5 (.slice none 0 0); have hcz16_6 := cz_ BK176 6 (.int .i64 0); have hcz16_7 := cz_ BK176 7 (.int .i64 0); have hcz16_8 := cz_ BK176 8 (.slice none 0 0); have hcz16_9 := cz_ BK176 9 (.slice none 0 0); have hcz16_10 := cz_ BK176 10 (.slice none 0 0); have hfz16_0 := fz_ BK176 0; have hfz16_1 := fz_ BK176 1; have hfz16_2 := fz_ BK176 2; have hfz16_3 := fz_ BK176 3; have hfz16_4 := fz_ BK176 4; have hfz16_5 := fz_ BK176 5; have hfz16_6 := fz_ BK176 6; have hfz16_7 := fz_ BK176 7; have hfz16_8 := fz_ BK176 8; have hfz16_9 := fz_ BK176 9; have hfz16_10 := fz_ BK176 10))
           have n0_ : Aside0 ((((((((((((w14.setCell ⟨gb176, 0, none⟩ (.string ((rd_T48 l0_0 x8_1).f0))).setCell ⟨gb176, 1, none⟩ (.int .i64 ((rd_T48 l0_0 x8_1).f1))).setCell ⟨gb176, 2, none⟩ (.int .i64 ((rd_T48 l0_0 x8_1).f2))).setCell ⟨gb176, 3, none⟩ (.int .i64 ((rd_T48 l0_0 x8_1).f3))).setCell ⟨gb176, 4, none⟩ (.int .i64 ((rd_T48 l0_0 x8_1).f4))).setCell ⟨gb176, 5, none⟩ (.slice A175_5 ((rd_T48 l0_0 x8_1).f5).length c175_5)).setCell ⟨gb176, 6, none⟩ (.int .i64 ((rd_T48 l0_0 x8_1).f6.f0))).setCell ⟨gb176, 7, none⟩ (.int .i64 ((rd_T48 l0_0 x8_1).f6.f1))).setCell ⟨gb176, 8, none⟩ (.slice A175_8 ((rd_T48 l0_0 x8_1).f6.f2).length c175_8)).setCell ⟨gb176, 9, none⟩ (.slice A175_9 ((rd_T48 l0_0 x8_1).f6.f3).length c175_9)).setCell ⟨gb176, 10, none⟩ (.slice A175_10 ((rd_T48 l0_0 x8_1).f7).length c175_10)).heap[gb174]? = some (.cells #[.slice (some ad175) l0_0.length c0_0] 64 (0, 0))) := ⟨by (with_reducible repeat (first | refine blk_drewN ?_ _ | refine blk_drew ?_ | refine blk_alloc ?_ _)); refine blk_far ?_ NB174_176.out _; (with_reducible repeat (first | refine blk_drewN ?_ _ | refine blk_drew ?_ | refine blk_alloc ?_ _)); refine blk_far ?_ NB174_176.out _; (with_reducible repeat (first | refine blk_drewN ?_ _ | refine blk_drew ?_ | refine blk_alloc ?_ _)); refine blk_far ?_ NB174_176.out _; (with_reducible repeat (first | refine blk_drewN ?_ _ | refine blk_drew ?_ | refine blk_alloc ?_ _)); refine blk_far ?_ NB174_176.out _; (with_reducible repeat (first | refine blk_drewN ?_ _ | refine blk_drew ?_ | refine blk_alloc ?_ _)); refine blk_far ?_ NB174_176.out _; (with_reducible repeat (first | refine blk_drewN ?_ _ | refine blk_drew ?_ | refine blk_alloc ?_ _)); refine blk_far ?_ NB174_176.out _; (with_reducible repeat (first | refine blk_drewN ?_ _ | refine blk_drew ?_ | refine blk_alloc ?_ _)); refine blk_far ?_ NB174_176.out _; (with_reducible repeat (first | refine blk_drewN ?_ _ | refine blk_drew ?_ | refine blk_alloc ?_ _)); refine blk_far ?_ NB174_176.out _; (with_reducible repeat (first | refine blk_drewN ?_ _ | refine blk_drew ?_ | refine blk_alloc ?_ _)); refine blk_far ?_ NB174_176.out _; (with_reducible repeat (first | refine blk_drewN ?_ _ | refine blk_drew ?_ | refine blk_alloc ?_ _)); refine blk_far ?_ NB174_176.out _; (with_reducible repeat (first | refine blk_drewN ?_ _ | refine blk_drew ?_ | refine blk_alloc ?_ _)); refine blk_far ?_ NB174_176.out _; (with_reducible repeat (first | refine blk_drewN ?_ _ | refine blk_drew ?_ | refine blk_alloc ?_ _)); exact BK174.out⟩
           have n1_ : Aside0 ((((((((((((w14.setCell ⟨gb176, 0, none⟩ (.string ((rd_T48 l0_0 x8_1).f0))).setCell ⟨gb176, 1, none⟩ (.int .i64 ((rd_T48 l0_0 x8_1).f1))).setCell ⟨gb176, 2, none⟩ (.int .i64 ((rd_T48 l0_0 x8_1).f2))).setCell ⟨gb176, 3, none⟩ (.int .i64 ((rd_T48 l0_0 x8_1).f3))).setCell ⟨gb176, 4, none⟩ (.int .i64 ((rd_T48 l0_0 x8_1).f4))).setCell ⟨gb176, 5, none⟩ (.slice A175_5 ((rd_T48 l0_0 x8_1).f5).length c175_5)).setCell ⟨gb176, 6, none⟩ (.int .i64 ((rd_T48 l0_0 x8_1).f6.f0))).setCell ⟨gb176, 7, none⟩ (.int .i64 ((rd_T48 l0_0 x8_1).f6.f1))).setCell ⟨gb176, 8, none⟩ (.slice A175_8 ((rd_T48 l0_0 x8_1).f6.f2).length c175_8)).setCell ⟨gb176, 9, none⟩ (.slice A175_9 ((rd_T48 l0_0 x8_1).f6.f3).length c175_9)).setCell ⟨gb176, 10, none⟩ (.slice A175_10 ((rd_T48 l0_0 x8_1).f7).length c175_10)).heap[gb176]? = some (.cells #[.string ((rd_T48 l0_0 x8_1).f0), .int .i64 ((rd_T48 l0_0 x8_1).f1), .int .i64 ((rd_T48 l0_0 x8_1).f2), .int .i64 ((rd_T48 l0_0 x8_1).f3), .int .i64 ((rd_T48 l0_0 x8_1).f4), .slice A175_5 ((rd_T48 l0_0 x8_1).f5).length c175_5, .int .i64 ((rd_T48 l0_0 x8_1).f6.f0), .int .i64 ((rd_T48 l0_0 x8_1).f6.f1), .slice A175_8 ((rd_T48 l0_0 x8_1).f6.f2).length c175_8, .slice A175_9 ((rd_T48 l0_0 x8_1).f6.f3).length c175_9, .slice A175_10 ((rd_T48 l0_0 x8_1).f7).length c175_10] 48 (0, 0))) := ⟨by (with_reducible repeat (first | refine blk_drewN ?_ _ | refine blk_drew ?_ | refine blk_alloc ?_ _)); refine blk_put (cs := #[.string ((rd_T48 l0_0 x8_1).f0), .int .i64 ((rd_T48 l0_0 x8_1).f1), .int .i64 ((rd_T48 l0_0 x8_1).f2), .int .i64 ((rd_T48 l0_0 x8_1).f3), .int .i64 ((rd_T48 l0_0 x8_1).f4), .slice A175_5 ((rd_T48 l0_0 x8_1).f5).length c175_5, .int .i64 ((rd_T48 l0_0 x8_1).f6.f0), .int .i64 ((rd_T48 l0_0 x8_1).f6.f1), .slice A175_8 ((rd_T48 l0_0 x8_1).f6.f2).length c175_8, .slice A175_9 ((rd_T48 l0_0 x8_1).f6.f3).length c175_9, .slice none 0 0]) ?_ 10 _ rfl; refine blk_put (cs := #[.string ((rd_T48 l0_0 x8_1).f0), .int .i64 ((rd_T48 l0_0 x8_1).f1), .int .i64 ((rd_T48 l0_0 x8_1).f2), .int .i64 ((rd_T48 l0_0 x8_1).f3), .int .i64 ((rd_T48 l0_0 x8_1).f4), .slice A175_5 ((rd_T48 l0_0 x8_1).f5).length c175_5, .int .i64 ((rd_T48 l0_0 x8_1).f6.f0), .int .i64 ((rd_T48 l0_0 x8_1).f6.f1), .slice A175_8 ((rd_T48 l0_0 x8_1).f6.f2).length c175_8, .slice none 0 0, .slice none 0 0]) ?_ 9 _ rfl; refine blk_put (cs := #[.string ((rd_T48 l0_0 x8_1).f0), .int .i64 ((rd_T48 l0_0 x8_1).f1), .int .i64 ((rd_T48 l0_0 x8_1).f2), .int .i64 ((rd_T48 l0_0 x8_1).f3), .int .i64 ((rd_T48 l0_0 x8_1).f4), .slice A175_5 ((rd_T48 l0_0 x8_1).f5).length c175_5, .int .i64 ((rd_T48 l0_0 x8_1).f6.f0), .int .i64 ((rd_T48 l0_0 x8_1).f6.f1), .slice none 0 0, .slice none 0 0, .slice none 0 0]) ?_ 8 _ rfl; refine blk_put (cs := #[.string ((rd_T48 l0_0 x8_1).f0), .int .i64 ((rd_T48 l0_0 x8_1).f1), .int .i64 ((rd_T48 l0_0 x8_1).f2), .int .i64 ((rd_T48 l0_0 x8_1).f3), .int .i64 ((rd_T48 l0_0 x8_1).f4), .slice A175_5 ((rd_T48 l0_0 x8_1).f5).length c175_5, .int .i64 ((rd_T48 l0_0 x8_1).f6.f0), .int .i64 0, .slice none 0 0, .slice none 0 0, .slice none 0 0]) ?_ 7 _ rfl; refine blk_put (cs := #[.string ((rd_T48 l0_0 x8_1).f0), .int .i64 ((rd_T48 l0_0 x8_1).f1), .int .i64 ((rd_T48 l0_0 x8_1).f2), .int .i64 ((rd_T48 l0_0 x8_1).f3), .int .i64 ((rd_T48 l0_0 x8_1).f4), .slice A175_5 ((rd_T48 l0_0 x8_1).f5).length c175_5, .int .i64 0, .int .i64 0, .slice none 0 0, .slice none 0 0, .slice none 0 0]) ?_ 6 _ rfl; refine blk_put (cs := #[.string ((rd_T48 l0_0 x8_1).f0), .int .i64 ((rd_T48 l0_0 x8_1).f1), .int .i64 ((rd_T48 l0_0 x8_1).f2), .int .i64 ((rd_T48 l0_0 x8_1).f3), .int .i64 ((rd_T48 l0_0 x8_1).f4), .slice none 0 0, .int .i64 0, .int .i64 0, .slice none 0 0, .slice none 0 0, .slice none 0 0]) ?_ 5 _ rfl; refine blk_put (cs := #[.string ((rd_T48 l0_0 x8_1).f0), .int .i64 ((rd_T48 l0_0 x8_1).f1), .int .i64 ((rd_T48 l0_0 x8_1).f2), .int .i64 ((rd_T48 l0_0 x8_1).f3), .int .i64 0, .slice none 0 0, .int .i64 0, .int .i64 0, .slice none 0 0, .slice none 0 0, .slice none 0 0]) ?_ 4 _ rfl; refine blk_put (cs := #[.string ((rd_T48 l0_0 x8_1).f0), .int .i64 ((rd_T48 l0_0 x8_1).f1), .int .i64 ((rd_T48 l0_0 x8_1).f2), .int .i64 0, .int .i64 0, .slice none 0 0, .int .i64 0, .int .i64 0, .slice none 0 0, .slice none 0 0, .slice none 0 0]) ?_ 3 _ rfl; refine blk_put (cs := #[.string ((rd_T48 l0_0 x8_1).f0), .int .i64 ((rd_T48 l0_0 x8_1).f1), .int .i64 0, .int .i64 0, .int .i64 0, .slice none 0 0, .int .i64 0, .int .i64 0, .slice none 0 0, .slice none 0 0, .slice none 0 0]) ?_ 2 _ rfl; refine blk_put (cs := #[.string ((rd_T48 l0_0 x8_1).f0), .int .i64 0, .int .i64 0, .int .i64 0, .int .i64 0, .slice none 0 0, .int .i64 0, .int .i64 0, .slice none 0 0, .slice none 0 0, .slice none 0 0]) ?_ 1 _ rfl; refine blk_put (cs := #[.string (⟨#[]⟩ : ByteArray), .int .i64 0, .int .i64 0, .int .i64 0, .int .i64 0, .slice none 0 0, .int .i64 0, .int .i64 0, .slice none 0 0, .slice none 0 0, .slice none 0 0]) ?_ 0 _ rfl; (with_reducible repeat (first | refine blk_drewN ?_ _ | refine blk_drew ?_ | refine blk_alloc ?_ _)); exact BK176.out⟩
           have n2_ : Aside0 (Below w.heap.size w (((((((((((w14.setCell ⟨gb176, 0, none⟩ (.string ((rd_T48 l0_0 x8_1).f0))).setCell ⟨gb176, 1, none⟩ (.int .i64 ((rd_T48 l0_0 x8_1).f1))).setCell ⟨gb176, 2, none⟩ (.int .i64 ((rd_T48 l0_0 x8_1).f2))).setCell ⟨gb176, 3, none⟩ (.int .i64 ((rd_T48 l0_0 x8_1).f3))).setCell ⟨gb176, 4, none⟩ (.int .i64 ((rd_T48 l0_0 x8_1).f4))).setCell ⟨gb176, 5, none⟩ (.slice A175_5 ((rd_T48 l0_0 x8_1).f5).length c175_5)).setCell ⟨gb176, 6, none⟩ (.int .i64 ((rd_T48 l0_0 x8_1).f6.f0))).setCell ⟨gb176, 7, none⟩ (.int .i64 ((rd_T48 l0_0 x8_1).f6.f1))).setCell ⟨gb176, 8, none⟩ (.slice A175_8 ((rd_T48 l0_0 x8_1).f6.f2).length c175_8)).setCell ⟨gb176, 9, none⟩ (.slice A175_9 ((rd_T48 l0_0 x8_1).f6.f3).length c175_9)).setCell ⟨gb176, 10, none⟩ (.slice A175_10 ((rd_T48 l0_0 x8_1).f7).length c175_10))) := ⟨bl_⟩
           (try clear BK174)
           (try clear BK176)
           (try clear HB)
           generalize (((((((((((w14.setCell ⟨gb176, 0, none⟩ (.string ((rd_T48 l0_0 x8_1).f0))).setCell ⟨gb176, 1, none⟩ (.int .i64 ((rd_T48 l0_0 x8_1).f1))).setCell ⟨gb176, 2, none⟩ (.int .i64 ((rd_T48 l0_0 x8_1).f2))).setCell ⟨gb176, 3, none⟩ (.int .i64 ((rd_T48 l0_0 x8_1).f3))).setCell ⟨gb176, 4, none⟩ (.int .i64 ((rd_T48 l0_0 x8_1).f4))).setCell ⟨gb176, 5, none⟩ (.slice A175_5 ((rd_T48 l0_0 x8_1).f5).length c175_5)).setCell ⟨gb176, 6, none⟩ (.int .i64 ((rd_T48 l0_0 x8_1).f6.f0))).setCell ⟨gb176, 7, none⟩ (.int .i64 ((rd_T48 l0_0 x8_1).f6.f1))).setCell ⟨gb176, 8, none⟩ (.slice A175_8 ((rd_T48 l0_0 x8_1).f6.f2).length c175_8)).setCell ⟨gb176, 9, none⟩ (.slice A175_9 ((rd_T48 l0_0 x8_1).f6.f3).length c175_9)).setCell ⟨gb176, 10, none⟩ (.slice A175_10 ((rd_T48 l0_0 x8_1).f7).length c175_10)) = w17 at n0_ n1_ n2_ ⊢
           have BK174 := n0_
           have BK176 := n1_
           have HB := n2_
           clear n0_ n1_ n2_
           have n0_ := Aside0.mk (blk_drew BK174.out)
           have n1_ := Aside0.mk (blk_drew BK176.out)
           have n2_ := Aside0.mk (below_drew1 HB.out)
           clear BK174
           clear BK176
           clear HB
           have BK174 := n0_
           have BK176 := n1_
           have HB := n2_
           clear n0_ n1_ n2_
           have p178 : 0 ≤ ((ji10) : Int) := od_
           have q178 : (ji10) < (l0_0.length : Int) := od_
           obtain ⟨ad178, A178_5, c178_5, A178_8, c178_8, A178_9, c178_9, A178_10, c178_10, e178, hx178_0, hx178_1, hx178_2, hx178_3, hx178_4, hx178_5, hx178_6, hx178_7, hx178_8, hx178_9, hx178_10, hl178_5, hi178_5, hl178_8, hi178_8, hl178_9, hi178_9, hl178_10, hi178_10⟩ := at_T48 HR0_0.out (ji10) p178 q178
           have hw178_10 := hx178_10
           have hw178_9 := hx178_9
           have hw178_8 := hx178_8
           have hw178_7 := hx178_7
           have hw178_6 := hx178_6
           have hw178_5 := hx178_5
           have hw178_4 := hx178_4
           have hw178_3 := hx178_3
           have hw178_2 := hx178_2
           have hw178_1 := hx178_1
           have hw178_0 := hx178_0
           obtain rfl : ad175 = ad178 := (by injection e178)
           replace hx178_0 := kc_ HB hx178_0
           replace hx178_1 := kc_ HB hx178_1
           replace hx178_2 := kc_ HB hx178_2
           replace hx178_3 := kc_ HB hx178_3
           replace hx178_4 := kc_ HB hx178_4
           replace hx178_5 := kc_ HB hx178_5
           replace hx178_6 := kc_ HB hx178_6
           replace hx178_7 := kc_ HB hx178_7
           replace hx178_8 := kc_ HB hx178_8
           replace hx178_9 := kc_ HB hx178_9
           replace hx178_10 := kc_ HB hx178_10
           have HR178_5 := Aside0.mk hi178_5
           have HC178_5 := Aside0.mk hl178_5
           clear hi178_5 hl178_5
           have HR178_8 := Aside0.mk hi178_8
           have HC178_8 := Aside0.mk hl178_8
           clear hi178_8 hl178_8
           have HR178_9 := Aside0.mk hi178_9
           have HC178_9 := Aside0.mk hl178_9
           clear hi178_9 hl178_9
           have HR178_10 := Aside0.mk hi178_10
           have HC178_10 := Aside0.mk hl178_10
           clear hi178_10 hl178_10
           replace p178 := eq_true p178
           replace q178 := eq_true q178
           refine start_ (n := 19) (S := fun w' => w'.cell? ⟨gb176, 0, none⟩ = some (.string ((rd_T48 l0_0 x8_1).f0)) ∧ w'.cell? ⟨gb176, 1, none⟩ = some (.int .i64 ((rd_T48 l0_0 x8_1).f1)) ∧ w'.cell? ⟨gb176, 2, none⟩ = some (.int .i64 ((rd_T48 l0_0 x8_1).f2)) ∧ w'.cell? ⟨gb176, 3, none⟩ = some (.int .i64 ((rd_T48 l0_0 x8_1).f3)) ∧ w'.cell? ⟨gb176, 4, none⟩ = some (.int .i64 ((rd_T48 l0_0 x8_1).f4)) ∧ w'.cell? ⟨gb176, 5, none⟩ = some (.slice A175_5 ((rd_T48 l0_0 x8_1).f5).length c175_5) ∧ w'.cell? ⟨gb176, 6, none⟩ = some (.int .i64 ((rd_T48 l0_0 x8_1).f6.f0)) ∧ w'.cell? ⟨gb176, 7, none⟩ = some (.int .i64 ((rd_T48 l0_0 x8_1).f6.f1)) ∧ w'.cell? ⟨gb176, 8, none⟩ = some (.slice A175_8 ((rd_T48 l0_0 x8_1).f6.f2).length c175_8) ∧ w'.cell? ⟨gb176, 9, none⟩ = some (.slice A175_9 ((rd_T48 l0_0 x8_1).f6.f3).length c175_9) ∧ w'.cell? ⟨gb176, 10, none⟩ = some (.slice A175_10 ((rd_T48 l0_0 x8_1).f7).length c175_10) ∧ w'.cell? ⟨gb174, 0, none⟩ = some (.slice (some ad175) l0_0.length c0_0) ∧ w'.cell? (ad175.add (((ji10)).toNat * 11)) = some (.string ((rd_T48 l0_0 (ji10)).f0)) ∧ w'.cell? ⟨(ad175.add (((ji10)).toNat * 11)).block, (ad175.add (((ji10)).toNat * 11)).off + 1, none⟩ = some (.int .i64 ((rd_T48 l0_0 (ji10)).f1)) ∧ w'.cell? ⟨(ad175.add (((ji10)).toNat * 11)).block, (ad175.add (((ji10)).toNat * 11)).off + 2, none⟩ = some (.int .i64 ((rd_T48 l0_0 (ji10)).f2)) ∧ w'.cell? ⟨(ad175.add (((ji10)).toNat * 11)).block, (ad175.add (((ji10)).toNat * 11)).off + 3, none⟩ = some (.int .i64 ((rd_T48 l0_0 (ji10)).f3)) ∧ w'.cell? ⟨(ad175.add (((ji10)).toNat * 11)).block, (ad175.add (((ji10)).toNat * 11)).off + 4, none⟩ = some (.int .i64 ((rd_T48 l0_0 (ji10)).f4)) ∧ w'.cell? ⟨(ad175.add (((ji10)).toNat * 11)).block, (ad175.add (((ji10)).toNat * 11)).off + 5, none⟩ = some (.slice A178_5 ((rd_T48 l0_0 (ji10)).f5).length c178_5) ∧ w'.cell? ⟨(ad175.add (((ji10)).toNat * 11)).block, (ad175.add (((ji10)).toNat * 11)).off + 6, none⟩ = some (.int .i64 ((rd_T48 l0_0 (ji10)).f6.f0)) ∧ w'.cell? ⟨(ad175.add (((ji10)).toNat * 11)).block, (ad175.add (((ji10)).toNat * 11)).off + 7, none⟩ = some (.int .i64 ((rd_T48 l0_0 (ji10)).f6.f1)) ∧ w'.cell? ⟨(ad175.add (((ji10)).toNat * 11)).block, (ad175.add (((ji10)).toNat * 11)).off + 8, none⟩ = some (.slice A178_8 ((rd_T48 l0_0 (ji10)).f6.f2).length c178_8) ∧ w'.cell? ⟨(ad175.add (((ji10)).toNat * 11)).block, (ad175.add (((ji10)).toNat * 11)).off + 9, none⟩ = some (.slice A178_9 ((rd_T48 l0_0 (ji10)).f6.f3).length c178_9) ∧ w'.cell? ⟨(ad175.add (((ji10)).toNat * 11)).block, (ad175.add (((ji10)).toNat * 11)).off + 10, none⟩ = some (.slice A178_10 ((rd_T48 l0_0 (ji10)).f7).length c178_10)) (ds := []) tb19_0_7 (by kernel_rfl) rfl rfl ⟨cy_ BK176 0, cy_ BK176 1, cy_ BK176 2, cy_ BK176 3, cy_ BK176 4, cy_ BK176 5, cy_ BK176 6, cy_ BK176 7, cy_ BK176 8, cy_ BK176 9, cy_ BK176 10, cy_ BK174 0, (kc_ HB hw178_0), (kc_ HB hw178_1), (kc_ HB hw178_2), (kc_ HB hw178_3), (kc_ HB hw178_4), (kc_ HB hw178_5), (kc_ HB hw178_6), (kc_ HB hw178_7), (kc_ HB hw178_8), (kc_ HB hw178_9), (kc_ HB hw178_10)⟩ (fun hHeld => ?_); refine with_tabW spec_BookOk.tab4 spec_BookOk.bits4 (fun HT_ HW_ => ?_)
           generalize w17.drew = w18 at BK174 BK176 HB HR178_10 HR178_5 HR178_8 HR178_9 hx178_0 hx178_1 hx178_10 hx178_2 hx178_3 hx178_4 hx178_5 hx178_6 hx178_7 hx178_8 hx178_9 hHeld ⊢
           refine take_ (i := 0) (N := some 13) (v := ?_) (a' := ?_) tb19_1_7 rfl rfl (take_ofW HT_.out HW_.out (by kernel_rfl)) (fun _ _ _ h => h) (Or.inl ⟨by rfl, ?_⟩) hHeld ?_ ?_
           rotate_left
           ·rintro w' ⟨s0, s1, s2, s3, s4, s5, s6, s7, s8, s9, s10, s11, s12, s13, s14, s15, s16, s17, s18, s19, s20, s21, s22⟩
            go_simp
            with_reducible rfl
           rotate_left
           ·simp only [Act.put, q_]
            rfl
           refine one_ (i := 1) (N := some 14) tb19_3_7 rfl rfl (one_of HT_.out (by kernel_rfl)) (by decide) (fun K hK => ?_)
           refine goes_ Try.func18 (by kernel_rfl) rfl #[.agg #[.string ((rd_T48 l0_0 x8_1).f0), .int .i64 ((rd_T48 l0_0 x8_1).f1), .int .i64 ((rd_T48 l0_0 x8_1).f2), .int .i64 ((rd_T48 l0_0 x8_1).f3), .int .i64 ((rd_T48 l0_0 x8_1).f4), .slice A175_5 ((rd_T48 l0_0 x8_1).f5).length c175_5, .int .i64 ((rd_T48 l0_0 x8_1).f6.f0), .int .i64 ((rd_T48 l0_0 x8_1).f6.f1), .slice A175_8 ((rd_T48 l0_0 x8_1).f6.f2).length c175_8, .slice A175_9 ((rd_T48 l0_0 x8_1).f6.f3).length c175_9, .slice A175_10 ((rd_T48 l0_0 x8_1).f7).length c175_10]] (by rfl) rfl rfl gl_ ?_
           with_reducible refine (spec_AcctOk.calls k1 ((rd_T48 l0_0 x8_1).f0) ((rd_T48 l0_0 x8_1).f1) ((rd_T48 l0_0 x8_1).f2) ((rd_T48 l0_0 x8_1).f3) ((rd_T48 l0_0 x8_1).f4) _ _ ((rd_T48 l0_0 x8_1).f5) ((rd_T48 l0_0 x8_1).f6.f0) ((rd_T48 l0_0 x8_1).f6.f1) _ _ ((rd_T48 l0_0 x8_1).f6.f2) _ _ ((rd_T48 l0_0 x8_1).f6.f3) _ _ ((rd_T48 l0_0 x8_1).f7) true _ ?side1 ?side2 ?side3 ?side4 ?side5 ?side6 ?side7 ?side8 A7.out).mono ?_
           (case side1 => exact ca_ (Kd.C_below HR175_5.out HB.out))
           (case side2 => exact HC175_5.out)
           (case side3 => exact ca_ (Kd.C_below HR175_8.out HB.out))
           (case side4 => exact HC175_8.out)
           (case side5 => exact ca_ (Kd.C_below HR175_9.out HB.out))
           (case side6 => exact HC175_9.out)
           (case side7 => exact ca_ (Kd.C_below HR175_10.out HB.out))
           (case side8 => exact HC175_10.out)
           rintro e w19 ⟨rfl, hb⟩
           refine ⟨_, rfl, ?_⟩
           have n0_ := Aside0.mk (blk_below (bk_ BK174) hb)
           have n1_ := Aside0.mk (blk_below (bk_ BK176) hb)
           have n2_ := Aside0.mk (below_step bl_ hb)
           clear BK174
           clear BK176
           clear HB
           have BK174 := n0_
           have BK176 := n1_
           have HB := n2_
           clear n0_ n1_ n2_
           (try clear hb)
           (try clear hb2)
           (try clear hk)
           (try clear hi)
           refine hK.out _ _ ⟨cy_ BK176 0, cy_ BK176 1, cy_ BK176 2, cy_ BK176 3, cy_ BK176 4, cy_ BK176 5, cy_ BK176 6, cy_ BK176 7, cy_ BK176 8, cy_ BK176 9, cy_ BK176 10, cy_ BK174 0, (kc_ HB hw178_0), (kc_ HB hw178_1), (kc_ HB hw178_2), (kc_ HB hw178_3), (kc_ HB hw178_4), (kc_ HB hw178_5), (kc_ HB hw178_6), (kc_ HB hw178_7), (kc_ HB hw178_8), (kc_ HB hw178_9), (kc_ HB hw178_10)⟩ (fun hHeld => ?_)
           clear hK K
           refine norm_ (a' := ?_) ?_ ?_
           rotate_left
           ·show Act.put _ (some 14) _ = _
            simp only [Act.put, q_]
            rfl
           refine pl_ HT_ 2 15 tb19_7_7 ?_
           refine pl_ HT_ 3 16 tb19_f_7 ?_
           refine pl_ HT_ 4 17 tb19_1f_7 ?_
           refine pl_ HT_ 5 18 tb19_3f_7 ?_
           refine pl_ HT_ 6 19 tb19_7f_7 ?_
           refine pl_ HT_ 7 20 tb19_ff_7 ?_
           refine pl_ HT_ 9 22 tb19_2ff_7 ?_
           refine pl_ HT_ 10 23 tb19_6ff_7 ?_
           refine pl_ HT_ 14 27 tb19_46ff_7 ?_
           refine take_ (i := 8) (N := some 21) (v := ?_) (a' := ?_) tb19_47ff_7 rfl rfl (take_ofW HT_.out HW_.out (by kernel_rfl)) (fun _ _ _ h => h) (Or.inl ⟨by rfl, ?_⟩) hHeld ?_ ?_
           rotate_left
           ·rintro w' ⟨s0, s1, s2, s3, s4, s5, s6, s7, s8, s9, s10, s11, s12, s13, s14, s15, s16, s17, s18, s19, s20, s21, s22⟩
            go_simp
            with_reducible rfl
           rotate_left
           ·simp only [Act.put, q_]
            rfl
           refine pl_ HT_ 11 24 tb19_4fff_7 ?_
           refine pl_ HT_ 12 25 tb19_5fff_7 ?_
           refine take_ (i := 13) (N := some 26) (v := ?_) (a' := ?_) tb19_7fff_7 rfl rfl (take_ofW HT_.out HW_.out (by kernel_rfl)) (fun _ _ _ h => h) (Or.inl ⟨by rfl, ?_⟩) hHeld ?_ ?_
           rotate_left
           ·rintro w' ⟨s0, s1, s2, s3, s4, s5, s6, s7, s8, s9, s10, s11, s12, s13, s14, s15, s16, s17, s18, s19, s20, s21, s22⟩
            go_simp
            with_reducible rfl
           rotate_left
           ·simp only [Act.put, q_]
            rfl
           refine take_ (i := 15) (N := some 28) (v := ?_) (a' := ?_) tb19_ffff_7 rfl rfl (take_ofW HT_.out HW_.out (by kernel_rfl)) (fun _ _ _ h => h) (Or.inl ⟨by rfl, ?_⟩) hHeld ?_ ?_
           rotate_left
           ·rintro w' ⟨s0, s1, s2, s3, s4, s5, s6, s7, s8, s9, s10, s11, s12, s13, s14, s15, s16, s17, s18, s19, s20, s21, s22⟩
            go_simp
            with_reducible rfl
           rotate_left
           ·simp only [Act.put, q_]
            rfl
           refine pl_ HT_ 16 29 tb19_1ffff_7 ?_
           refine pl_ HT_ 17 30 tb19_3ffff_7 ?_
           refine pl_ HT_ 18 31 tb19_7ffff_7 ?_
           refine done_ (done_of HT_.out (by kernel_rfl)) ?_
           try go_wp2
           go_roundg k1
           case measure => have := HK1.out; omega
           case rel => exact ⟨(wrap64 (x8_1 + 1)), sp_, H', ⟨by have := HK1.out; omega⟩, ⟨by (with_reducible repeat (first | refine blk_drewN ?_ _ | refine blk_drew ?_ | refine blk_alloc ?_ _)); exact BK174.out⟩, ⟨bl_⟩⟩
          ·rw [if_neg c13] at H
           have c13b0 : (Op.bytesLess (((rd_T48 l0_0 (ji10)).f0).toList) (((rd_T48 l0_0 x8_1).f0).toList)) = false := by simpa using c13
           clear c13
           obtain rfl := Option.some.inj H
           have p175 : 0 ≤ (x8_1 : Int) := od_
           have q175 : x8_1 < (l0_0.length : Int) := od_
           obtain ⟨ad175, A175_5, c175_5, A175_8, c175_8, A175_9, c175_9, A175_10, c175_10, e175, hx175_0, hx175_1, hx175_2, hx175_3, hx175_4, hx175_5, hx175_6, hx175_7, hx175_8, hx175_9, hx175_10, hl175_5, hi175_5, hl175_8, hi175_8, hl175_9, hi175_9, hl175_10, hi175_10⟩ := at_T48 HR0_0.out x8_1 p175 q175
           cases e175
           replace hx175_0 := kc_ HB hx175_0
           replace hx175_1 := kc_ HB hx175_1
           replace hx175_2 := kc_ HB hx175_2
           replace hx175_3 := kc_ HB hx175_3
           replace hx175_4 := kc_ HB hx175_4
           replace hx175_5 := kc_ HB hx175_5
           replace hx175_6 := kc_ HB hx175_6
           replace hx175_7 := kc_ HB hx175_7
           replace hx175_8 := kc_ HB hx175_8
           replace hx175_9 := kc_ HB hx175_9
           replace hx175_10 := kc_ HB hx175_10
           have HR175_5 := Aside0.mk hi175_5
           have HC175_5 := Aside0.mk hl175_5
           clear hi175_5 hl175_5
           have HR175_8 := Aside0.mk hi175_8
           have HC175_8 := Aside0.mk hl175_8
           clear hi175_8 hl175_8
           have HR175_9 := Aside0.mk hi175_9
           have HC175_9 := Aside0.mk hl175_9
           clear hi175_9 hl175_9
           have HR175_10 := Aside0.mk hi175_10
           have HC175_10 := Aside0.mk hl175_10
           clear hi175_10 hl175_10
           replace p175 := eq_true p175
           replace q175 := eq_true q175
           try go_wp2_with (first | ((with_reducible refine gate_dst (N := 4) rfl ?_); refine box_event ?hg (N := 4) ?hd (cs := #[.string (⟨#[]⟩ : ByteArray), .int .i64 0, .int .i64 0, .int .i64 0, .int .i64 0, .slice none 0 0, .int .i64 0, .int .i64 0, .slice none 0 0, .slice none 0 0, .slice none 0 0]) (t := 48) ?hr ?_; (case hd => rfl); (case hg => rfl); (case hr => first | (go_simp; done) | (go_simp; rfl)); intro gb176 hg w20 hbox hb; have n0_ := Aside0.mk (blk_below (bk_ BK174) hb); have n1_ := Aside0.mk (below_step bl_ hb); have n2_ := Aside0.mk (hbox); have n3_ := gw_ (w := w) hg; have n4_ := gw_ (w := w) hg; have n5_ := Aside0.mk ((by rw [hg]; exact Nat.ne_of_lt (blk_lt (bk_ BK174)) : gb174 ≠ gb176)); have n6_ := Aside0.mk ((by rw [hg]; exact Nat.ne_of_gt (blk_lt (bk_ BK174)) : gb176 ≠ gb174)); clear BK174; clear HB; have BK174 := n0_; have HB := n1_; have BK176 := n2_; have GW176 := n3_; have GE176 := n4_; have NB174_176 := n5_; have NB176_174 := n6_; clear n0_ n1_ n2_ n3_ n4_ n5_ n6_; clear hb hbox hg; have hnb21 := NB176_174.out; have hnc21 := NB174_176.out; have hcz22_0 := cz_ BK176 0 (.string (⟨#[]⟩ : ByteArray)); have hcz22_1 := cz_ BK176 1 (.int .i64 0); have hcz22_2 := cz_ BK176 2 (.int .i64 0); have hcz22_3 := cz_ BK176 3 (.int .i64 0); have hcz22_4 := cz_ BK176 4 (.int .i64 0); have hcz22_5 := cz_ BK176 5 (.slice none 0 0); have hcz22_6 := cz_ BK176 6 (.int .i64 0); have hcz22_7 := cz_ BK176 7 (.int .i64 0); have hcz22_8 := cz_ BK176 8 (.slice none 0 0); have hcz22_9 := cz_ BK176 9 (.slice none 0 0); have hcz22_10 := cz_ BK176 10 (.slice none 0 0); have hfz22_0 := fz_ BK176 0; have hfz22_1 := fz_ BK176 1; have hfz22_2 := fz_ BK176 2; have hfz22_3 := fz_ BK176 3; have hfz22_4 := fz_ BK176 4; have hfz22_5 := fz_ BK176 5; have hfz22_6 := fz_ BK176 6; have hfz22_7 := fz_ BK176 7; have hfz22_8 := fz_ BK176 8; have hfz22_9 := fz_ BK176 9; have hfz22_10 := fz_ BK176 10))
           have n0_ : Aside0 ((((((((((((w20.setCell ⟨gb176, 0, none⟩ (.string ((rd_T48 l0_0 x8_1).f0))).setCell ⟨gb176, 1, none⟩ (.int .i64 ((rd_T48 l0_0 x8_1).f1))).setCell ⟨gb176, 2, none⟩ (.int .i64 ((rd_T48 l0_0 x8_1).f2))).setCell ⟨gb176, 3, none⟩ (.int .i64 ((rd_T48 l0_0 x8_1).f3))).setCell ⟨gb176, 4, none⟩ (.int .i64 ((rd_T48 l0_0 x8_1).f4))).setCell ⟨gb176, 5, none⟩ (.slice A175_5 ((rd_T48 l0_0 x8_1).f5).length c175_5)).setCell ⟨gb176, 6, none⟩ (.int .i64 ((rd_T48 l0_0 x8_1).f6.f0))).setCell ⟨gb176, 7, none⟩ (.int .i64 ((rd_T48 l0_0 x8_1).f6.f1))).setCell ⟨gb176, 8, none⟩ (.slice A175_8 ((rd_T48 l0_0 x8_1).f6.f2).length c175_8)).setCell ⟨gb176, 9, none⟩ (.slice A175_9 ((rd_T48 l0_0 x8_1).f6.f3).length c175_9)).setCell ⟨gb176, 10, none⟩ (.slice A175_10 ((rd_T48 l0_0 x8_1).f7).length c175_10)).heap[gb174]? = some (.cells #[.slice (some ad175) l0_0.length c0_0] 64 (0, 0))) := ⟨by (with_reducible repeat (first | refine blk_drewN ?_ _ | refine blk_drew ?_ | refine blk_alloc ?_ _)); refine blk_far ?_ NB174_176.out _; (with_reducible repeat (first | refine blk_drewN ?_ _ | refine blk_drew ?_ | refine blk_alloc ?_ _)); refine blk_far ?_ NB174_176.out _; (with_reducible repeat (first | refine blk_drewN ?_ _ | refine blk_drew ?_ | refine blk_alloc ?_ _)); refine blk_far ?_ NB174_176.out _; (with_reducible repeat (first | refine blk_drewN ?_ _ | refine blk_drew ?_ | refine blk_alloc ?_ _)); refine blk_far ?_ NB174_176.out _; (with_reducible repeat (first | refine blk_drewN ?_ _ | refine blk_drew ?_ | refine blk_alloc ?_ _)); refine blk_far ?_ NB174_176.out _; (with_reducible repeat (first | refine blk_drewN ?_ _ | refine blk_drew ?_ | refine blk_alloc ?_ _)); refine blk_far ?_ NB174_176.out _; (with_reducible repeat (first | refine blk_drewN ?_ _ | refine blk_drew ?_ | refine blk_alloc ?_ _)); refine blk_far ?_ NB174_176.out _; (with_reducible repeat (first | refine blk_drewN ?_ _ | refine blk_drew ?_ | refine blk_alloc ?_ _)); refine blk_far ?_ NB174_176.out _; (with_reducible repeat (first | refine blk_drewN ?_ _ | refine blk_drew ?_ | refine blk_alloc ?_ _)); refine blk_far ?_ NB174_176.out _; (with_reducible repeat (first | refine blk_drewN ?_ _ | refine blk_drew ?_ | refine blk_alloc ?_ _)); refine blk_far ?_ NB174_176.out _; (with_reducible repeat (first | refine blk_drewN ?_ _ | refine blk_drew ?_ | refine blk_alloc ?_ _)); refine blk_far ?_ NB174_176.out _; (with_reducible repeat (first | refine blk_drewN ?_ _ | refine blk_drew ?_ | refine blk_alloc ?_ _)); exact BK174.out⟩
           have n1_ : Aside0 ((((((((((((w20.setCell ⟨gb176, 0, none⟩ (.string ((rd_T48 l0_0 x8_1).f0))).setCell ⟨gb176, 1, none⟩ (.int .i64 ((rd_T48 l0_0 x8_1).f1))).setCell ⟨gb176, 2, none⟩ (.int .i64 ((rd_T48 l0_0 x8_1).f2))).setCell ⟨gb176, 3, none⟩ (.int .i64 ((rd_T48 l0_0 x8_1).f3))).setCell ⟨gb176, 4, none⟩ (.int .i64 ((rd_T48 l0_0 x8_1).f4))).setCell ⟨gb176, 5, none⟩ (.slice A175_5 ((rd_T48 l0_0 x8_1).f5).length c175_5)).setCell ⟨gb176, 6, none⟩ (.int .i64 ((rd_T48 l0_0 x8_1).f6.f0))).setCell ⟨gb176, 7, none⟩ (.int .i64 ((rd_T48 l0_0 x8_1).f6.f1))).setCell ⟨gb176, 8, none⟩ (.slice A175_8 ((rd_T48 l0_0 x8_1).f6.f2).length c175_8)).setCell ⟨gb176, 9, none⟩ (.slice A175_9 ((rd_T48 l0_0 x8_1).f6.f3).length c175_9)).setCell ⟨gb176, 10, none⟩ (.slice A175_10 ((rd_T48 l0_0 x8_1).f7).length c175_10)).heap[gb176]? = some (.cells #[.string ((rd_T48 l0_0 x8_1).f0), .int .i64 ((rd_T48 l0_0 x8_1).f1), .int .i64 ((rd_T48 l0_0 x8_1).f2), .int .i64 ((rd_T48 l0_0 x8_1).f3), .int .i64 ((rd_T48 l0_0 x8_1).f4), .slice A175_5 ((rd_T48 l0_0 x8_1).f5).length c175_5, .int .i64 ((rd_T48 l0_0 x8_1).f6.f0), .int .i64 ((rd_T48 l0_0 x8_1).f6.f1), .slice A175_8 ((rd_T48 l0_0 x8_1).f6.f2).length c175_8, .slice A175_9 ((rd_T48 l0_0 x8_1).f6.f3).length c175_9, .slice A175_10 ((rd_T48 l0_0 x8_1).f7).length c175_10] 48 (0, 0))) := ⟨by (with_reducible repeat (first | refine blk_drewN ?_ _ | refine blk_drew ?_ | refine blk_alloc ?_ _)); refine blk_put (cs := #[.string ((rd_T48 l0_0 x8_1).f0), .int .i64 ((rd_T48 l0_0 x8_1).f1), .int .i64 ((rd_T48 l0_0 x8_1).f2), .int .i64 ((rd_T48 l0_0 x8_1).f3), .int .i64 ((rd_T48 l0_0 x8_1).f4), .slice A175_5 ((rd_T48 l0_0 x8_1).f5).length c175_5, .int .i64 ((rd_T48 l0_0 x8_1).f6.f0), .int .i64 ((rd_T48 l0_0 x8_1).f6.f1), .slice A175_8 ((rd_T48 l0_0 x8_1).f6.f2).length c175_8, .slice A175_9 ((rd_T48 l0_0 x8_1).f6.f3).length c175_9, .slice none 0 0]) ?_ 10 _ rfl; refine blk_put (cs := #[.string ((rd_T48 l0_0 x8_1).f0), .int .i64 ((rd_T48 l0_0 x8_1).f1), .int .i64 ((rd_T48 l0_0 x8_1).f2), .int .i64 ((rd_T48 l0_0 x8_1).f3), .int .i64 ((rd_T48 l0_0 x8_1).f4), .slice A175_5 ((rd_T48 l0_0 x8_1).f5).length c175_5, .int .i64 ((rd_T48 l0_0 x8_1).f6.f0), .int .i64 ((rd_T48 l0_0 x8_1).f6.f1), .slice A175_8 ((rd_T48 l0_0 x8_1).f6.f2).length c175_8, .slice none 0 0, .slice none 0 0]) ?_ 9 _ rfl; refine blk_put (cs := #[.string ((rd_T48 l0_0 x8_1).f0), .int .i64 ((rd_T48 l0_0 x8_1).f1), .int .i64 ((rd_T48 l0_0 x8_1).f2), .int .i64 ((rd_T48 l0_0 x8_1).f3), .int .i64 ((rd_T48 l0_0 x8_1).f4), .slice A175_5 ((rd_T48 l0_0 x8_1).f5).length c175_5, .int .i64 ((rd_T48 l0_0 x8_1).f6.f0), .int .i64 ((rd_T48 l0_0 x8_1).f6.f1), .slice none 0 0, .slice none 0 0, .slice none 0 0]) ?_ 8 _ rfl; refine blk_put (cs := #[.string ((rd_T48 l0_0 x8_1).f0), .int .i64 ((rd_T48 l0_0 x8_1).f1), .int .i64 ((rd_T48 l0_0 x8_1).f2), .int .i64 ((rd_T48 l0_0 x8_1).f3), .int .i64 ((rd_T48 l0_0 x8_1).f4), .slice A175_5 ((rd_T48 l0_0 x8_1).f5).length c175_5, .int .i64 ((rd_T48 l0_0 x8_1).f6.f0), .int .i64 0, .slice none 0 0, .slice none 0 0, .slice none 0 0]) ?_ 7 _ rfl; refine blk_put (cs := #[.string ((rd_T48 l0_0 x8_1).f0), .int .i64 ((rd_T48 l0_0 x8_1).f1), .int .i64 ((rd_T48 l0_0 x8_1).f2), .int .i64 ((rd_T48 l0_0 x8_1).f3), .int .i64 ((rd_T48 l0_0 x8_1).f4), .slice A175_5 ((rd_T48 l0_0 x8_1).f5).length c175_5, .int .i64 0, .int .i64 0, .slice none 0 0, .slice none 0 0, .slice none 0 0]) ?_ 6 _ rfl; refine blk_put (cs := #[.string ((rd_T48 l0_0 x8_1).f0), .int .i64 ((rd_T48 l0_0 x8_1).f1), .int .i64 ((rd_T48 l0_0 x8_1).f2), .int .i64 ((rd_T48 l0_0 x8_1).f3), .int .i64 ((rd_T48 l0_0 x8_1).f4), .slice none 0 0, .int .i64 0, .int .i64 0, .slice none 0 0, .slice none 0 0, .slice none 0 0]) ?_ 5 _ rfl; refine blk_put (cs := #[.string ((rd_T48 l0_0 x8_1).f0), .int .i64 ((rd_T48 l0_0 x8_1).f1), .int .i64 ((rd_T48 l0_0 x8_1).f2), .int .i64 ((rd_T48 l0_0 x8_1).f3), .int .i64 0, .slice none 0 0, .int .i64 0, .int .i64 0, .slice none 0 0, .slice none 0 0, .slice none 0 0]) ?_ 4 _ rfl; refine blk_put (cs := #[.string ((rd_T48 l0_0 x8_1).f0), .int .i64 ((rd_T48 l0_0 x8_1).f1), .int .i64 ((rd_T48 l0_0 x8_1).f2), .int .i64 0, .int .i64 0, .slice none 0 0, .int .i64 0, .int .i64 0, .slice none 0 0, .slice none 0 0, .slice none 0 0]) ?_ 3 _ rfl; refine blk_put (cs := #[.string ((rd_T48 l0_0 x8_1).f0), .int .i64 ((rd_T48 l0_0 x8_1).f1), .int .i64 0, .int .i64 0, .int .i64 0, .slice none 0 0, .int .i64 0, .int .i64 0, .slice none 0 0, .slice none 0 0, .slice none 0 0]) ?_ 2 _ rfl; refine blk_put (cs := #[.string ((rd_T48 l0_0 x8_1).f0), .int .i64 0, .int .i64 0, .int .i64 0, .int .i64 0, .slice none 0 0, .int .i64 0, .int .i64 0, .slice none 0 0, .slice none 0 0, .slice none 0 0]) ?_ 1 _ rfl; refine blk_put (cs := #[.string (⟨#[]⟩ : ByteArray), .int .i64 0, .int .i64 0, .int .i64 0, .int .i64 0, .slice none 0 0, .int .i64 0, .int .i64 0, .slice none 0 0, .slice none 0 0, .slice none 0 0]) ?_ 0 _ rfl; (with_reducible repeat (first | refine blk_drewN ?_ _ | refine blk_drew ?_ | refine blk_alloc ?_ _)); exact BK176.out⟩
           have n2_ : Aside0 (Below w.heap.size w (((((((((((w20.setCell ⟨gb176, 0, none⟩ (.string ((rd_T48 l0_0 x8_1).f0))).setCell ⟨gb176, 1, none⟩ (.int .i64 ((rd_T48 l0_0 x8_1).f1))).setCell ⟨gb176, 2, none⟩ (.int .i64 ((rd_T48 l0_0 x8_1).f2))).setCell ⟨gb176, 3, none⟩ (.int .i64 ((rd_T48 l0_0 x8_1).f3))).setCell ⟨gb176, 4, none⟩ (.int .i64 ((rd_T48 l0_0 x8_1).f4))).setCell ⟨gb176, 5, none⟩ (.slice A175_5 ((rd_T48 l0_0 x8_1).f5).length c175_5)).setCell ⟨gb176, 6, none⟩ (.int .i64 ((rd_T48 l0_0 x8_1).f6.f0))).setCell ⟨gb176, 7, none⟩ (.int .i64 ((rd_T48 l0_0 x8_1).f6.f1))).setCell ⟨gb176, 8, none⟩ (.slice A175_8 ((rd_T48 l0_0 x8_1).f6.f2).length c175_8)).setCell ⟨gb176, 9, none⟩ (.slice A175_9 ((rd_T48 l0_0 x8_1).f6.f3).length c175_9)).setCell ⟨gb176, 10, none⟩ (.slice A175_10 ((rd_T48 l0_0 x8_1).f7).length c175_10))) := ⟨bl_⟩
           (try clear BK174)
           (try clear BK176)
           (try clear HB)
           generalize (((((((((((w20.setCell ⟨gb176, 0, none⟩ (.string ((rd_T48 l0_0 x8_1).f0))).setCell ⟨gb176, 1, none⟩ (.int .i64 ((rd_T48 l0_0 x8_1).f1))).setCell ⟨gb176, 2, none⟩ (.int .i64 ((rd_T48 l0_0 x8_1).f2))).setCell ⟨gb176, 3, none⟩ (.int .i64 ((rd_T48 l0_0 x8_1).f3))).setCell ⟨gb176, 4, none⟩ (.int .i64 ((rd_T48 l0_0 x8_1).f4))).setCell ⟨gb176, 5, none⟩ (.slice A175_5 ((rd_T48 l0_0 x8_1).f5).length c175_5)).setCell ⟨gb176, 6, none⟩ (.int .i64 ((rd_T48 l0_0 x8_1).f6.f0))).setCell ⟨gb176, 7, none⟩ (.int .i64 ((rd_T48 l0_0 x8_1).f6.f1))).setCell ⟨gb176, 8, none⟩ (.slice A175_8 ((rd_T48 l0_0 x8_1).f6.f2).length c175_8)).setCell ⟨gb176, 9, none⟩ (.slice A175_9 ((rd_T48 l0_0 x8_1).f6.f3).length c175_9)).setCell ⟨gb176, 10, none⟩ (.slice A175_10 ((rd_T48 l0_0 x8_1).f7).length c175_10)) = w23 at n0_ n1_ n2_ ⊢
           have BK174 := n0_
           have BK176 := n1_
           have HB := n2_
           clear n0_ n1_ n2_
           have n0_ := Aside0.mk (blk_drew BK174.out)
           have n1_ := Aside0.mk (blk_drew BK176.out)
           have n2_ := Aside0.mk (below_drew1 HB.out)
           clear BK174
           clear BK176
           clear HB
           have BK174 := n0_
           have BK176 := n1_
           have HB := n2_
           clear n0_ n1_ n2_
           have p178 : 0 ≤ ((ji10) : Int) := od_
           have q178 : (ji10) < (l0_0.length : Int) := od_
           obtain ⟨ad178, A178_5, c178_5, A178_8, c178_8, A178_9, c178_9, A178_10, c178_10, e178, hx178_0, hx178_1, hx178_2, hx178_3, hx178_4, hx178_5, hx178_6, hx178_7, hx178_8, hx178_9, hx178_10, hl178_5, hi178_5, hl178_8, hi178_8, hl178_9, hi178_9, hl178_10, hi178_10⟩ := at_T48 HR0_0.out (ji10) p178 q178
           have hw178_10 := hx178_10
           have hw178_9 := hx178_9
           have hw178_8 := hx178_8
           have hw178_7 := hx178_7
           have hw178_6 := hx178_6
           have hw178_5 := hx178_5
           have hw178_4 := hx178_4
           have hw178_3 := hx178_3
           have hw178_2 := hx178_2
           have hw178_1 := hx178_1
           have hw178_0 := hx178_0
           obtain rfl : ad175 = ad178 := (by injection e178)
           replace hx178_0 := kc_ HB hx178_0
           replace hx178_1 := kc_ HB hx178_1
           replace hx178_2 := kc_ HB hx178_2
           replace hx178_3 := kc_ HB hx178_3
           replace hx178_4 := kc_ HB hx178_4
           replace hx178_5 := kc_ HB hx178_5
           replace hx178_6 := kc_ HB hx178_6
           replace hx178_7 := kc_ HB hx178_7
           replace hx178_8 := kc_ HB hx178_8
           replace hx178_9 := kc_ HB hx178_9
           replace hx178_10 := kc_ HB hx178_10
           have HR178_5 := Aside0.mk hi178_5
           have HC178_5 := Aside0.mk hl178_5
           clear hi178_5 hl178_5
           have HR178_8 := Aside0.mk hi178_8
           have HC178_8 := Aside0.mk hl178_8
           clear hi178_8 hl178_8
           have HR178_9 := Aside0.mk hi178_9
           have HC178_9 := Aside0.mk hl178_9
           clear hi178_9 hl178_9
           have HR178_10 := Aside0.mk hi178_10
           have HC178_10 := Aside0.mk hl178_10
           clear hi178_10 hl178_10
           replace p178 := eq_true p178
           replace q178 := eq_true q178
           refine start_ (n := 19) (S := fun w' => w'.cell? ⟨gb176, 0, none⟩ = some (.string ((rd_T48 l0_0 x8_1).f0)) ∧ w'.cell? ⟨gb176, 1, none⟩ = some (.int .i64 ((rd_T48 l0_0 x8_1).f1)) ∧ w'.cell? ⟨gb176, 2, none⟩ = some (.int .i64 ((rd_T48 l0_0 x8_1).f2)) ∧ w'.cell? ⟨gb176, 3, none⟩ = some (.int .i64 ((rd_T48 l0_0 x8_1).f3)) ∧ w'.cell? ⟨gb176, 4, none⟩ = some (.int .i64 ((rd_T48 l0_0 x8_1).f4)) ∧ w'.cell? ⟨gb176, 5, none⟩ = some (.slice A175_5 ((rd_T48 l0_0 x8_1).f5).length c175_5) ∧ w'.cell? ⟨gb176, 6, none⟩ = some (.int .i64 ((rd_T48 l0_0 x8_1).f6.f0)) ∧ w'.cell? ⟨gb176, 7, none⟩ = some (.int .i64 ((rd_T48 l0_0 x8_1).f6.f1)) ∧ w'.cell? ⟨gb176, 8, none⟩ = some (.slice A175_8 ((rd_T48 l0_0 x8_1).f6.f2).length c175_8) ∧ w'.cell? ⟨gb176, 9, none⟩ = some (.slice A175_9 ((rd_T48 l0_0 x8_1).f6.f3).length c175_9) ∧ w'.cell? ⟨gb176, 10, none⟩ = some (.slice A175_10 ((rd_T48 l0_0 x8_1).f7).length c175_10) ∧ w'.cell? ⟨gb174, 0, none⟩ = some (.slice (some ad175) l0_0.length c0_0) ∧ w'.cell? (ad175.add (((ji10)).toNat * 11)) = some (.string ((rd_T48 l0_0 (ji10)).f0)) ∧ w'.cell? ⟨(ad175.add (((ji10)).toNat * 11)).block, (ad175.add (((ji10)).toNat * 11)).off + 1, none⟩ = some (.int .i64 ((rd_T48 l0_0 (ji10)).f1)) ∧ w'.cell? ⟨(ad175.add (((ji10)).toNat * 11)).block, (ad175.add (((ji10)).toNat * 11)).off + 2, none⟩ = some (.int .i64 ((rd_T48 l0_0 (ji10)).f2)) ∧ w'.cell? ⟨(ad175.add (((ji10)).toNat * 11)).block, (ad175.add (((ji10)).toNat * 11)).off + 3, none⟩ = some (.int .i64 ((rd_T48 l0_0 (ji10)).f3)) ∧ w'.cell? ⟨(ad175.add (((ji10)).toNat * 11)).block, (ad175.add (((ji10)).toNat * 11)).off + 4, none⟩ = some (.int .i64 ((rd_T48 l0_0 (ji10)).f4)) ∧ w'.cell? ⟨(ad175.add (((ji10)).toNat * 11)).block, (ad175.add (((ji10)).toNat * 11)).off + 5, none⟩ = some (.slice A178_5 ((rd_T48 l0_0 (ji10)).f5).length c178_5) ∧ w'.cell? ⟨(ad175.add (((ji10)).toNat * 11)).block, (ad175.add (((ji10)).toNat * 11)).off + 6, none⟩ = some (.int .i64 ((rd_T48 l0_0 (ji10)).f6.f0)) ∧ w'.cell? ⟨(ad175.add (((ji10)).toNat * 11)).block, (ad175.add (((ji10)).toNat * 11)).off + 7, none⟩ = some (.int .i64 ((rd_T48 l0_0 (ji10)).f6.f1)) ∧ w'.cell? ⟨(ad175.add (((ji10)).toNat * 11)).block, (ad175.add (((ji10)).toNat * 11)).off + 8, none⟩ = some (.slice A178_8 ((rd_T48 l0_0 (ji10)).f6.f2).length c178_8) ∧ w'.cell? ⟨(ad175.add (((ji10)).toNat * 11)).block, (ad175.add (((ji10)).toNat * 11)).off + 9, none⟩ = some (.slice A178_9 ((rd_T48 l0_0 (ji10)).f6.f3).length c178_9) ∧ w'.cell? ⟨(ad175.add (((ji10)).toNat * 11)).block, (ad175.add (((ji10)).toNat * 11)).off + 10, none⟩ = some (.slice A178_10 ((rd_T48 l0_0 (ji10)).f7).length c178_10)) (ds := []) tb19_0_7 (by kernel_rfl) rfl rfl ⟨cy_ BK176 0, cy_ BK176 1, cy_ BK176 2, cy_ BK176 3, cy_ BK176 4, cy_ BK176 5, cy_ BK176 6, cy_ BK176 7, cy_ BK176 8, cy_ BK176 9, cy_ BK176 10, cy_ BK174 0, (kc_ HB hw178_0), (kc_ HB hw178_1), (kc_ HB hw178_2), (kc_ HB hw178_3), (kc_ HB hw178_4), (kc_ HB hw178_5), (kc_ HB hw178_6), (kc_ HB hw178_7), (kc_ HB hw178_8), (kc_ HB hw178_9), (kc_ HB hw178_10)⟩ (fun hHeld => ?_); refine with_tabW spec_BookOk.tab4 spec_BookOk.bits4 (fun HT_ HW_ => ?_)
           generalize w23.drew = w24 at BK174 BK176 HB HR178_10 HR178_5 HR178_8 HR178_9 hx178_0 hx178_1 hx178_10 hx178_2 hx178_3 hx178_4 hx178_5 hx178_6 hx178_7 hx178_8 hx178_9 hHeld ⊢
           refine take_ (i := 0) (N := some 13) (v := ?_) (a' := ?_) tb19_1_7 rfl rfl (take_ofW HT_.out HW_.out (by kernel_rfl)) (fun _ _ _ h => h) (Or.inl ⟨by rfl, ?_⟩) hHeld ?_ ?_
           rotate_left
           ·rintro w' ⟨s0, s1, s2, s3, s4, s5, s6, s7, s8, s9, s10, s11, s12, s13, s14, s15, s16, s17, s18, s19, s20, s21, s22⟩
            go_simp
            with_reducible rfl
           rotate_left
           ·simp only [Act.put, q_]
            rfl
           refine one_ (i := 1) (N := some 14) tb19_3_7 rfl rfl (one_of HT_.out (by kernel_rfl)) (by decide) (fun K hK => ?_)
           refine goes_ Try.func18 (by kernel_rfl) rfl #[.agg #[.string ((rd_T48 l0_0 x8_1).f0), .int .i64 ((rd_T48 l0_0 x8_1).f1), .int .i64 ((rd_T48 l0_0 x8_1).f2), .int .i64 ((rd_T48 l0_0 x8_1).f3), .int .i64 ((rd_T48 l0_0 x8_1).f4), .slice A175_5 ((rd_T48 l0_0 x8_1).f5).length c175_5, .int .i64 ((rd_T48 l0_0 x8_1).f6.f0), .int .i64 ((rd_T48 l0_0 x8_1).f6.f1), .slice A175_8 ((rd_T48 l0_0 x8_1).f6.f2).length c175_8, .slice A175_9 ((rd_T48 l0_0 x8_1).f6.f3).length c175_9, .slice A175_10 ((rd_T48 l0_0 x8_1).f7).length c175_10]] (by rfl) rfl rfl gl_ ?_
           with_reducible refine (spec_AcctOk.calls k1 ((rd_T48 l0_0 x8_1).f0) ((rd_T48 l0_0 x8_1).f1) ((rd_T48 l0_0 x8_1).f2) ((rd_T48 l0_0 x8_1).f3) ((rd_T48 l0_0 x8_1).f4) _ _ ((rd_T48 l0_0 x8_1).f5) ((rd_T48 l0_0 x8_1).f6.f0) ((rd_T48 l0_0 x8_1).f6.f1) _ _ ((rd_T48 l0_0 x8_1).f6.f2) _ _ ((rd_T48 l0_0 x8_1).f6.f3) _ _ ((rd_T48 l0_0 x8_1).f7) true _ ?side1 ?side2 ?side3 ?side4 ?side5 ?side6 ?side7 ?side8 A7.out).mono ?_
           (case side1 => exact ca_ (Kd.C_below HR175_5.out HB.out))
           (case side2 => exact HC175_5.out)
           (case side3 => exact ca_ (Kd.C_below HR175_8.out HB.out))
           (case side4 => exact HC175_8.out)
           (case side5 => exact ca_ (Kd.C_below HR175_9.out HB.out))
           (case side6 => exact HC175_9.out)
           (case side7 => exact ca_ (Kd.C_below HR175_10.out HB.out))
           (case side8 => exact HC175_10.out)
           rintro e w25 ⟨rfl, hb⟩
           refine ⟨_, rfl, ?_⟩
           have n0_ := Aside0.mk (blk_below (bk_ BK174) hb)
           have n1_ := Aside0.mk (blk_below (bk_ BK176) hb)
           have n2_ := Aside0.mk (below_step bl_ hb)
           clear BK174
           clear BK176
           clear HB
           have BK174 := n0_
           have BK176 := n1_
           have HB := n2_
           clear n0_ n1_ n2_
           (try clear hb)
           (try clear hb2)
           (try clear hk)
           (try clear hi)
           refine hK.out _ _ ⟨cy_ BK176 0, cy_ BK176 1, cy_ BK176 2, cy_ BK176 3, cy_ BK176 4, cy_ BK176 5, cy_ BK176 6, cy_ BK176 7, cy_ BK176 8, cy_ BK176 9, cy_ BK176 10, cy_ BK174 0, (kc_ HB hw178_0), (kc_ HB hw178_1), (kc_ HB hw178_2), (kc_ HB hw178_3), (kc_ HB hw178_4), (kc_ HB hw178_5), (kc_ HB hw178_6), (kc_ HB hw178_7), (kc_ HB hw178_8), (kc_ HB hw178_9), (kc_ HB hw178_10)⟩ (fun hHeld => ?_)
           clear hK K
           refine norm_ (a' := ?_) ?_ ?_
           rotate_left
           ·show Act.put _ (some 14) _ = _
            simp only [Act.put, q_]
            rfl
           refine pl_ HT_ 2 15 tb19_7_7 ?_
           refine pl_ HT_ 3 16 tb19_f_7 ?_
           refine pl_ HT_ 4 17 tb19_1f_7 ?_
           refine pl_ HT_ 5 18 tb19_3f_7 ?_
           refine pl_ HT_ 6 19 tb19_7f_7 ?_
           refine pl_ HT_ 7 20 tb19_ff_7 ?_
           refine pl_ HT_ 9 22 tb19_2ff_7 ?_
           refine pl_ HT_ 10 23 tb19_6ff_7 ?_
           refine pl_ HT_ 14 27 tb19_46ff_7 ?_
           refine take_ (i := 8) (N := some 21) (v := ?_) (a' := ?_) tb19_47ff_7 rfl rfl (take_ofW HT_.out HW_.out (by kernel_rfl)) (fun _ _ _ h => h) (Or.inl ⟨by rfl, ?_⟩) hHeld ?_ ?_
           rotate_left
           ·rintro w' ⟨s0, s1, s2, s3, s4, s5, s6, s7, s8, s9, s10, s11, s12, s13, s14, s15, s16, s17, s18, s19, s20, s21, s22⟩
            go_simp
            with_reducible rfl
           rotate_left
           ·simp only [Act.put, q_]
            rfl
           refine pl_ HT_ 11 24 tb19_4fff_7 ?_
           refine pl_ HT_ 12 25 tb19_5fff_7 ?_
           refine take_ (i := 13) (N := some 26) (v := ?_) (a' := ?_) tb19_7fff_7 rfl rfl (take_ofW HT_.out HW_.out (by kernel_rfl)) (fun _ _ _ h => h) (Or.inl ⟨by rfl, ?_⟩) hHeld ?_ ?_
           rotate_left
           ·rintro w' ⟨s0, s1, s2, s3, s4, s5, s6, s7, s8, s9, s10, s11, s12, s13, s14, s15, s16, s17, s18, s19, s20, s21, s22⟩
            go_simp
            with_reducible rfl
           rotate_left
           ·simp only [Act.put, q_]
            rfl
           refine take_ (i := 15) (N := some 28) (v := ?_) (a' := ?_) tb19_ffff_7 rfl rfl (take_ofW HT_.out HW_.out (by kernel_rfl)) (fun _ _ _ h => h) (Or.inl ⟨by rfl, ?_⟩) hHeld ?_ ?_
           rotate_left
           ·rintro w' ⟨s0, s1, s2, s3, s4, s5, s6, s7, s8, s9, s10, s11, s12, s13, s14, s15, s16, s17, s18, s19, s20, s21, s22⟩
            go_simp
            with_reducible rfl
           rotate_left
           ·simp only [Act.put, q_]
            rfl
           refine pl_ HT_ 16 29 tb19_1ffff_7 ?_
           refine pl_ HT_ 17 30 tb19_3ffff_7 ?_
           refine pl_ HT_ 18 31 tb19_7ffff_7 ?_
           refine done_ (done_of HT_.out (by kernel_rfl)) ?_
           try go_wp2
           go_ret
           exact ⟨by first | rfl | (simp [errW_none, errW_some] <;> rfl) | (simp only [← hji10]; first | rfl | (simp [errW_none, errW_some] <;> rfl)) | (simp [*, errW_none, errW_some] <;> rfl), bl_⟩
         ·rw [if_neg c12] at H
          exact absurd H (by simp)
        ·rw [if_neg c11] at H
         exact absurd H (by simp)
       ·rw [if_neg c9] at H
        have c9b0 : decide (0 < x8_1) = false := decide_eq_false c9
        clear c9
        have H' := Aside0.mk H
        clear H
        have p175 : 0 ≤ (x8_1 : Int) := od_
        have q175 : x8_1 < (l0_0.length : Int) := od_
        obtain ⟨ad175, A175_5, c175_5, A175_8, c175_8, A175_9, c175_9, A175_10, c175_10, e175, hx175_0, hx175_1, hx175_2, hx175_3, hx175_4, hx175_5, hx175_6, hx175_7, hx175_8, hx175_9, hx175_10, hl175_5, hi175_5, hl175_8, hi175_8, hl175_9, hi175_9, hl175_10, hi175_10⟩ := at_T48 HR0_0.out x8_1 p175 q175
        cases e175
        replace hx175_0 := kc_ HB hx175_0
        replace hx175_1 := kc_ HB hx175_1
        replace hx175_2 := kc_ HB hx175_2
        replace hx175_3 := kc_ HB hx175_3
        replace hx175_4 := kc_ HB hx175_4
        replace hx175_5 := kc_ HB hx175_5
        replace hx175_6 := kc_ HB hx175_6
        replace hx175_7 := kc_ HB hx175_7
        replace hx175_8 := kc_ HB hx175_8
        replace hx175_9 := kc_ HB hx175_9
        replace hx175_10 := kc_ HB hx175_10
        have HR175_5 := Aside0.mk hi175_5
        have HC175_5 := Aside0.mk hl175_5
        clear hi175_5 hl175_5
        have HR175_8 := Aside0.mk hi175_8
        have HC175_8 := Aside0.mk hl175_8
        clear hi175_8 hl175_8
        have HR175_9 := Aside0.mk hi175_9
        have HC175_9 := Aside0.mk hl175_9
        clear hi175_9 hl175_9
        have HR175_10 := Aside0.mk hi175_10
        have HC175_10 := Aside0.mk hl175_10
        clear hi175_10 hl175_10
        replace p175 := eq_true p175
        replace q175 := eq_true q175
        try go_wp2_with (first | ((with_reducible refine gate_dst (N := 4) rfl ?_); refine box_event ?hg (N := 4) ?hd (cs := #[.string (⟨#[]⟩ : ByteArray), .int .i64 0, .int .i64 0, .int .i64 0, .int .i64 0, .slice none 0 0, .int .i64 0, .int .i64 0, .slice none 0 0, .slice none 0 0, .slice none 0 0]) (t := 48) ?hr ?_; (case hd => rfl); (case hg => rfl); (case hr => first | (go_simp; done) | (go_simp; rfl)); intro gb176 hg w26 hbox hb; have n0_ := Aside0.mk (blk_below (bk_ BK174) hb); have n1_ := Aside0.mk (below_step bl_ hb); have n2_ := Aside0.mk (hbox); have n3_ := gw_ (w := w) hg; have n4_ := gw_ (w := w) hg; have n5_ := Aside0.mk ((by rw [hg]; exact Nat.ne_of_lt (blk_lt (bk_ BK174)) : gb174 ≠ gb176)); have n6_ := Aside0.mk ((by rw [hg]; exact Nat.ne_of_gt (blk_lt (bk_ BK174)) : gb176 ≠ gb174)); clear BK174; clear HB; have BK174 := n0_; have HB := n1_; have BK176 := n2_; have GW176 := n3_; have GE176 := n4_; have NB174_176 := n5_; have NB176_174 := n6_; clear n0_ n1_ n2_ n3_ n4_ n5_ n6_; clear hb hbox hg; have hnb27 := NB176_174.out; have hnc27 := NB174_176.out; have hcz28_0 := cz_ BK176 0 (.string (⟨#[]⟩ : ByteArray)); have hcz28_1 := cz_ BK176 1 (.int .i64 0); have hcz28_2 := cz_ BK176 2 (.int .i64 0); have hcz28_3 := cz_ BK176 3 (.int .i64 0); have hcz28_4 := cz_ BK176 4 (.int .i64 0); have hcz28_5 := cz_ BK176 5 (.slice none 0 0); have hcz28_6 := cz_ BK176 6 (.int .i64 0); have hcz28_7 := cz_ BK176 7 (.int .i64 0); have hcz28_8 := cz_ BK176 8 (.slice none 0 0); have hcz28_9 := cz_ BK176 9 (.slice none 0 0); have hcz28_10 := cz_ BK176 10 (.slice none 0 0); have hfz28_0 := fz_ BK176 0; have hfz28_1 := fz_ BK176 1; have hfz28_2 := fz_ BK176 2; have hfz28_3 := fz_ BK176 3; have hfz28_4 := fz_ BK176 4; have hfz28_5 := fz_ BK176 5; have hfz28_6 := fz_ BK176 6; have hfz28_7 := fz_ BK176 7; have hfz28_8 := fz_ BK176 8; have hfz28_9 := fz_ BK176 9; have hfz28_10 := fz_ BK176 10))
        have n0_ : Aside0 ((((((((((((w26.setCell ⟨gb176, 0, none⟩ (.string ((rd_T48 l0_0 x8_1).f0))).setCell ⟨gb176, 1, none⟩ (.int .i64 ((rd_T48 l0_0 x8_1).f1))).setCell ⟨gb176, 2, none⟩ (.int .i64 ((rd_T48 l0_0 x8_1).f2))).setCell ⟨gb176, 3, none⟩ (.int .i64 ((rd_T48 l0_0 x8_1).f3))).setCell ⟨gb176, 4, none⟩ (.int .i64 ((rd_T48 l0_0 x8_1).f4))).setCell ⟨gb176, 5, none⟩ (.slice A175_5 ((rd_T48 l0_0 x8_1).f5).length c175_5)).setCell ⟨gb176, 6, none⟩ (.int .i64 ((rd_T48 l0_0 x8_1).f6.f0))).setCell ⟨gb176, 7, none⟩ (.int .i64 ((rd_T48 l0_0 x8_1).f6.f1))).setCell ⟨gb176, 8, none⟩ (.slice A175_8 ((rd_T48 l0_0 x8_1).f6.f2).length c175_8)).setCell ⟨gb176, 9, none⟩ (.slice A175_9 ((rd_T48 l0_0 x8_1).f6.f3).length c175_9)).setCell ⟨gb176, 10, none⟩ (.slice A175_10 ((rd_T48 l0_0 x8_1).f7).length c175_10)).heap[gb174]? = some (.cells #[.slice (some ad175) l0_0.length c0_0] 64 (0, 0))) := ⟨by (with_reducible repeat (first | refine blk_drewN ?_ _ | refine blk_drew ?_ | refine blk_alloc ?_ _)); refine blk_far ?_ NB174_176.out _; (with_reducible repeat (first | refine blk_drewN ?_ _ | refine blk_drew ?_ | refine blk_alloc ?_ _)); refine blk_far ?_ NB174_176.out _; (with_reducible repeat (first | refine blk_drewN ?_ _ | refine blk_drew ?_ | refine blk_alloc ?_ _)); refine blk_far ?_ NB174_176.out _; (with_reducible repeat (first | refine blk_drewN ?_ _ | refine blk_drew ?_ | refine blk_alloc ?_ _)); refine blk_far ?_ NB174_176.out _; (with_reducible repeat (first | refine blk_drewN ?_ _ | refine blk_drew ?_ | refine blk_alloc ?_ _)); refine blk_far ?_ NB174_176.out _; (with_reducible repeat (first | refine blk_drewN ?_ _ | refine blk_drew ?_ | refine blk_alloc ?_ _)); refine blk_far ?_ NB174_176.out _; (with_reducible repeat (first | refine blk_drewN ?_ _ | refine blk_drew ?_ | refine blk_alloc ?_ _)); refine blk_far ?_ NB174_176.out _; (with_reducible repeat (first | refine blk_drewN ?_ _ | refine blk_drew ?_ | refine blk_alloc ?_ _)); refine blk_far ?_ NB174_176.out _; (with_reducible repeat (first | refine blk_drewN ?_ _ | refine blk_drew ?_ | refine blk_alloc ?_ _)); refine blk_far ?_ NB174_176.out _; (with_reducible repeat (first | refine blk_drewN ?_ _ | refine blk_drew ?_ | refine blk_alloc ?_ _)); refine blk_far ?_ NB174_176.out _; (with_reducible repeat (first | refine blk_drewN ?_ _ | refine blk_drew ?_ | refine blk_alloc ?_ _)); refine blk_far ?_ NB174_176.out _; (with_reducible repeat (first | refine blk_drewN ?_ _ | refine blk_drew ?_ | refine blk_alloc ?_ _)); exact BK174.out⟩
        have n1_ : Aside0 ((((((((((((w26.setCell ⟨gb176, 0, none⟩ (.string ((rd_T48 l0_0 x8_1).f0))).setCell ⟨gb176, 1, none⟩ (.int .i64 ((rd_T48 l0_0 x8_1).f1))).setCell ⟨gb176, 2, none⟩ (.int .i64 ((rd_T48 l0_0 x8_1).f2))).setCell ⟨gb176, 3, none⟩ (.int .i64 ((rd_T48 l0_0 x8_1).f3))).setCell ⟨gb176, 4, none⟩ (.int .i64 ((rd_T48 l0_0 x8_1).f4))).setCell ⟨gb176, 5, none⟩ (.slice A175_5 ((rd_T48 l0_0 x8_1).f5).length c175_5)).setCell ⟨gb176, 6, none⟩ (.int .i64 ((rd_T48 l0_0 x8_1).f6.f0))).setCell ⟨gb176, 7, none⟩ (.int .i64 ((rd_T48 l0_0 x8_1).f6.f1))).setCell ⟨gb176, 8, none⟩ (.slice A175_8 ((rd_T48 l0_0 x8_1).f6.f2).length c175_8)).setCell ⟨gb176, 9, none⟩ (.slice A175_9 ((rd_T48 l0_0 x8_1).f6.f3).length c175_9)).setCell ⟨gb176, 10, none⟩ (.slice A175_10 ((rd_T48 l0_0 x8_1).f7).length c175_10)).heap[gb176]? = some (.cells #[.string ((rd_T48 l0_0 x8_1).f0), .int .i64 ((rd_T48 l0_0 x8_1).f1), .int .i64 ((rd_T48 l0_0 x8_1).f2), .int .i64 ((rd_T48 l0_0 x8_1).f3), .int .i64 ((rd_T48 l0_0 x8_1).f4), .slice A175_5 ((rd_T48 l0_0 x8_1).f5).length c175_5, .int .i64 ((rd_T48 l0_0 x8_1).f6.f0), .int .i64 ((rd_T48 l0_0 x8_1).f6.f1), .slice A175_8 ((rd_T48 l0_0 x8_1).f6.f2).length c175_8, .slice A175_9 ((rd_T48 l0_0 x8_1).f6.f3).length c175_9, .slice A175_10 ((rd_T48 l0_0 x8_1).f7).length c175_10] 48 (0, 0))) := ⟨by (with_reducible repeat (first | refine blk_drewN ?_ _ | refine blk_drew ?_ | refine blk_alloc ?_ _)); refine blk_put (cs := #[.string ((rd_T48 l0_0 x8_1).f0), .int .i64 ((rd_T48 l0_0 x8_1).f1), .int .i64 ((rd_T48 l0_0 x8_1).f2), .int .i64 ((rd_T48 l0_0 x8_1).f3), .int .i64 ((rd_T48 l0_0 x8_1).f4), .slice A175_5 ((rd_T48 l0_0 x8_1).f5).length c175_5, .int .i64 ((rd_T48 l0_0 x8_1).f6.f0), .int .i64 ((rd_T48 l0_0 x8_1).f6.f1), .slice A175_8 ((rd_T48 l0_0 x8_1).f6.f2).length c175_8, .slice A175_9 ((rd_T48 l0_0 x8_1).f6.f3).length c175_9, .slice none 0 0]) ?_ 10 _ rfl; refine blk_put (cs := #[.string ((rd_T48 l0_0 x8_1).f0), .int .i64 ((rd_T48 l0_0 x8_1).f1), .int .i64 ((rd_T48 l0_0 x8_1).f2), .int .i64 ((rd_T48 l0_0 x8_1).f3), .int .i64 ((rd_T48 l0_0 x8_1).f4), .slice A175_5 ((rd_T48 l0_0 x8_1).f5).length c175_5, .int .i64 ((rd_T48 l0_0 x8_1).f6.f0), .int .i64 ((rd_T48 l0_0 x8_1).f6.f1), .slice A175_8 ((rd_T48 l0_0 x8_1).f6.f2).length c175_8, .slice none 0 0, .slice none 0 0]) ?_ 9 _ rfl; refine blk_put (cs := #[.string ((rd_T48 l0_0 x8_1).f0), .int .i64 ((rd_T48 l0_0 x8_1).f1), .int .i64 ((rd_T48 l0_0 x8_1).f2), .int .i64 ((rd_T48 l0_0 x8_1).f3), .int .i64 ((rd_T48 l0_0 x8_1).f4), .slice A175_5 ((rd_T48 l0_0 x8_1).f5).length c175_5, .int .i64 ((rd_T48 l0_0 x8_1).f6.f0), .int .i64 ((rd_T48 l0_0 x8_1).f6.f1), .slice none 0 0, .slice none 0 0, .slice none 0 0]) ?_ 8 _ rfl; refine blk_put (cs := #[.string ((rd_T48 l0_0 x8_1).f0), .int .i64 ((rd_T48 l0_0 x8_1).f1), .int .i64 ((rd_T48 l0_0 x8_1).f2), .int .i64 ((rd_T48 l0_0 x8_1).f3), .int .i64 ((rd_T48 l0_0 x8_1).f4), .slice A175_5 ((rd_T48 l0_0 x8_1).f5).length c175_5, .int .i64 ((rd_T48 l0_0 x8_1).f6.f0), .int .i64 0, .slice none 0 0, .slice none 0 0, .slice none 0 0]) ?_ 7 _ rfl; refine blk_put (cs := #[.string ((rd_T48 l0_0 x8_1).f0), .int .i64 ((rd_T48 l0_0 x8_1).f1), .int .i64 ((rd_T48 l0_0 x8_1).f2), .int .i64 ((rd_T48 l0_0 x8_1).f3), .int .i64 ((rd_T48 l0_0 x8_1).f4), .slice A175_5 ((rd_T48 l0_0 x8_1).f5).length c175_5, .int .i64 0, .int .i64 0, .slice none 0 0, .slice none 0 0, .slice none 0 0]) ?_ 6 _ rfl; refine blk_put (cs := #[.string ((rd_T48 l0_0 x8_1).f0), .int .i64 ((rd_T48 l0_0 x8_1).f1), .int .i64 ((rd_T48 l0_0 x8_1).f2), .int .i64 ((rd_T48 l0_0 x8_1).f3), .int .i64 ((rd_T48 l0_0 x8_1).f4), .slice none 0 0, .int .i64 0, .int .i64 0, .slice none 0 0, .slice none 0 0, .slice none 0 0]) ?_ 5 _ rfl; refine blk_put (cs := #[.string ((rd_T48 l0_0 x8_1).f0), .int .i64 ((rd_T48 l0_0 x8_1).f1), .int .i64 ((rd_T48 l0_0 x8_1).f2), .int .i64 ((rd_T48 l0_0 x8_1).f3), .int .i64 0, .slice none 0 0, .int .i64 0, .int .i64 0, .slice none 0 0, .slice none 0 0, .slice none 0 0]) ?_ 4 _ rfl; refine blk_put (cs := #[.string ((rd_T48 l0_0 x8_1).f0), .int .i64 ((rd_T48 l0_0 x8_1).f1), .int .i64 ((rd_T48 l0_0 x8_1).f2), .int .i64 0, .int .i64 0, .slice none 0 0, .int .i64 0, .int .i64 0, .slice none 0 0, .slice none 0 0, .slice none 0 0]) ?_ 3 _ rfl; refine blk_put (cs := #[.string ((rd_T48 l0_0 x8_1).f0), .int .i64 ((rd_T48 l0_0 x8_1).f1), .int .i64 0, .int .i64 0, .int .i64 0, .slice none 0 0, .int .i64 0, .int .i64 0, .slice none 0 0, .slice none 0 0, .slice none 0 0]) ?_ 2 _ rfl; refine blk_put (cs := #[.string ((rd_T48 l0_0 x8_1).f0), .int .i64 0, .int .i64 0, .int .i64 0, .int .i64 0, .slice none 0 0, .int .i64 0, .int .i64 0, .slice none 0 0, .slice none 0 0, .slice none 0 0]) ?_ 1 _ rfl; refine blk_put (cs := #[.string (⟨#[]⟩ : ByteArray), .int .i64 0, .int .i64 0, .int .i64 0, .int .i64 0, .slice none 0 0, .int .i64 0, .int .i64 0, .slice none 0 0, .slice none 0 0, .slice none 0 0]) ?_ 0 _ rfl; (with_reducible repeat (first | refine blk_drewN ?_ _ | refine blk_drew ?_ | refine blk_alloc ?_ _)); exact BK176.out⟩
        have n2_ : Aside0 (Below w.heap.size w (((((((((((w26.setCell ⟨gb176, 0, none⟩ (.string ((rd_T48 l0_0 x8_1).f0))).setCell ⟨gb176, 1, none⟩ (.int .i64 ((rd_T48 l0_0 x8_1).f1))).setCell ⟨gb176, 2, none⟩ (.int .i64 ((rd_T48 l0_0 x8_1).f2))).setCell ⟨gb176, 3, none⟩ (.int .i64 ((rd_T48 l0_0 x8_1).f3))).setCell ⟨gb176, 4, none⟩ (.int .i64 ((rd_T48 l0_0 x8_1).f4))).setCell ⟨gb176, 5, none⟩ (.slice A175_5 ((rd_T48 l0_0 x8_1).f5).length c175_5)).setCell ⟨gb176, 6, none⟩ (.int .i64 ((rd_T48 l0_0 x8_1).f6.f0))).setCell ⟨gb176, 7, none⟩ (.int .i64 ((rd_T48 l0_0 x8_1).f6.f1))).setCell ⟨gb176, 8, none⟩ (.slice A175_8 ((rd_T48 l0_0 x8_1).f6.f2).length c175_8)).setCell ⟨gb176, 9, none⟩ (.slice A175_9 ((rd_T48 l0_0 x8_1).f6.f3).length c175_9)).setCell ⟨gb176, 10, none⟩ (.slice A175_10 ((rd_T48 l0_0 x8_1).f7).length c175_10))) := ⟨bl_⟩
        (try clear BK174)
        (try clear BK176)
        (try clear HB)
        generalize (((((((((((w26.setCell ⟨gb176, 0, none⟩ (.string ((rd_T48 l0_0 x8_1).f0))).setCell ⟨gb176, 1, none⟩ (.int .i64 ((rd_T48 l0_0 x8_1).f1))).setCell ⟨gb176, 2, none⟩ (.int .i64 ((rd_T48 l0_0 x8_1).f2))).setCell ⟨gb176, 3, none⟩ (.int .i64 ((rd_T48 l0_0 x8_1).f3))).setCell ⟨gb176, 4, none⟩ (.int .i64 ((rd_T48 l0_0 x8_1).f4))).setCell ⟨gb176, 5, none⟩ (.slice A175_5 ((rd_T48 l0_0 x8_1).f5).length c175_5)).setCell ⟨gb176, 6, none⟩ (.int .i64 ((rd_T48 l0_0 x8_1).f6.f0))).setCell ⟨gb176, 7, none⟩ (.int .i64 ((rd_T48 l0_0 x8_1).f6.f1))).setCell ⟨gb176, 8, none⟩ (.slice A175_8 ((rd_T48 l0_0 x8_1).f6.f2).length c175_8)).setCell ⟨gb176, 9, none⟩ (.slice A175_9 ((rd_T48 l0_0 x8_1).f6.f3).length c175_9)).setCell ⟨gb176, 10, none⟩ (.slice A175_10 ((rd_T48 l0_0 x8_1).f7).length c175_10)) = w29 at n0_ n1_ n2_ ⊢
        have BK174 := n0_
        have BK176 := n1_
        have HB := n2_
        clear n0_ n1_ n2_
        have n0_ := Aside0.mk (blk_drew BK174.out)
        have n1_ := Aside0.mk (blk_drew BK176.out)
        have n2_ := Aside0.mk (below_drew1 HB.out)
        clear BK174
        clear BK176
        clear HB
        have BK174 := n0_
        have BK176 := n1_
        have HB := n2_
        clear n0_ n1_ n2_
        refine start_ (n := 19) (S := fun w' => w'.cell? ⟨gb176, 0, none⟩ = some (.string ((rd_T48 l0_0 x8_1).f0)) ∧ w'.cell? ⟨gb176, 1, none⟩ = some (.int .i64 ((rd_T48 l0_0 x8_1).f1)) ∧ w'.cell? ⟨gb176, 2, none⟩ = some (.int .i64 ((rd_T48 l0_0 x8_1).f2)) ∧ w'.cell? ⟨gb176, 3, none⟩ = some (.int .i64 ((rd_T48 l0_0 x8_1).f3)) ∧ w'.cell? ⟨gb176, 4, none⟩ = some (.int .i64 ((rd_T48 l0_0 x8_1).f4)) ∧ w'.cell? ⟨gb176, 5, none⟩ = some (.slice A175_5 ((rd_T48 l0_0 x8_1).f5).length c175_5) ∧ w'.cell? ⟨gb176, 6, none⟩ = some (.int .i64 ((rd_T48 l0_0 x8_1).f6.f0)) ∧ w'.cell? ⟨gb176, 7, none⟩ = some (.int .i64 ((rd_T48 l0_0 x8_1).f6.f1)) ∧ w'.cell? ⟨gb176, 8, none⟩ = some (.slice A175_8 ((rd_T48 l0_0 x8_1).f6.f2).length c175_8) ∧ w'.cell? ⟨gb176, 9, none⟩ = some (.slice A175_9 ((rd_T48 l0_0 x8_1).f6.f3).length c175_9) ∧ w'.cell? ⟨gb176, 10, none⟩ = some (.slice A175_10 ((rd_T48 l0_0 x8_1).f7).length c175_10)) (ds := []) tb19_0_7 (by kernel_rfl) rfl rfl ⟨cy_ BK176 0, cy_ BK176 1, cy_ BK176 2, cy_ BK176 3, cy_ BK176 4, cy_ BK176 5, cy_ BK176 6, cy_ BK176 7, cy_ BK176 8, cy_ BK176 9, cy_ BK176 10⟩ (fun hHeld => ?_); refine with_tabW spec_BookOk.tab4 spec_BookOk.bits4 (fun HT_ HW_ => ?_)
        generalize w29.drew = w30 at BK174 BK176 HB hHeld ⊢
        refine pt_ HT_ HW_ hHeld 0 13 tb19_1_7 ?_
        refine one_ (i := 1) (N := some 14) tb19_3_7 rfl rfl (one_of HT_.out (by kernel_rfl)) (by decide) (fun K hK => ?_)
        refine goes_ Try.func18 (by kernel_rfl) rfl #[.agg #[.string ((rd_T48 l0_0 x8_1).f0), .int .i64 ((rd_T48 l0_0 x8_1).f1), .int .i64 ((rd_T48 l0_0 x8_1).f2), .int .i64 ((rd_T48 l0_0 x8_1).f3), .int .i64 ((rd_T48 l0_0 x8_1).f4), .slice A175_5 ((rd_T48 l0_0 x8_1).f5).length c175_5, .int .i64 ((rd_T48 l0_0 x8_1).f6.f0), .int .i64 ((rd_T48 l0_0 x8_1).f6.f1), .slice A175_8 ((rd_T48 l0_0 x8_1).f6.f2).length c175_8, .slice A175_9 ((rd_T48 l0_0 x8_1).f6.f3).length c175_9, .slice A175_10 ((rd_T48 l0_0 x8_1).f7).length c175_10]] (by rfl) rfl rfl gl_ ?_
        with_reducible refine (spec_AcctOk.calls k1 ((rd_T48 l0_0 x8_1).f0) ((rd_T48 l0_0 x8_1).f1) ((rd_T48 l0_0 x8_1).f2) ((rd_T48 l0_0 x8_1).f3) ((rd_T48 l0_0 x8_1).f4) _ _ ((rd_T48 l0_0 x8_1).f5) ((rd_T48 l0_0 x8_1).f6.f0) ((rd_T48 l0_0 x8_1).f6.f1) _ _ ((rd_T48 l0_0 x8_1).f6.f2) _ _ ((rd_T48 l0_0 x8_1).f6.f3) _ _ ((rd_T48 l0_0 x8_1).f7) true _ ?side1 ?side2 ?side3 ?side4 ?side5 ?side6 ?side7 ?side8 A7.out).mono ?_
        (case side1 => exact ca_ (Kd.C_below HR175_5.out HB.out))
        (case side2 => exact HC175_5.out)
        (case side3 => exact ca_ (Kd.C_below HR175_8.out HB.out))
        (case side4 => exact HC175_8.out)
        (case side5 => exact ca_ (Kd.C_below HR175_9.out HB.out))
        (case side6 => exact HC175_9.out)
        (case side7 => exact ca_ (Kd.C_below HR175_10.out HB.out))
        (case side8 => exact HC175_10.out)
        rintro e w31 ⟨rfl, hb⟩
        refine ⟨_, rfl, ?_⟩
        have n0_ := Aside0.mk (blk_below (bk_ BK174) hb)
        have n1_ := Aside0.mk (blk_below (bk_ BK176) hb)
        have n2_ := Aside0.mk (below_step bl_ hb)
        clear BK174
        clear BK176
        clear HB
        have BK174 := n0_
        have BK176 := n1_
        have HB := n2_
        clear n0_ n1_ n2_
        (try clear hb)
        (try clear hb2)
        (try clear hk)
        (try clear hi)
        refine hK.out _ _ ⟨cy_ BK176 0, cy_ BK176 1, cy_ BK176 2, cy_ BK176 3, cy_ BK176 4, cy_ BK176 5, cy_ BK176 6, cy_ BK176 7, cy_ BK176 8, cy_ BK176 9, cy_ BK176 10⟩ (fun hHeld => ?_)
        clear hK K
        refine norm_ (a' := ?_) ?_ ?_
        rotate_left
        ·show Act.put _ (some 14) _ = _
         simp only [Act.put, q_]
         rfl
        refine pl_ HT_ 2 15 tb19_7_7 ?_
        refine pl_ HT_ 3 16 tb19_f_7 ?_
        refine pl_ HT_ 4 17 tb19_1f_7 ?_
        refine pl_ HT_ 5 18 tb19_3f_7 ?_
        refine pl_ HT_ 6 19 tb19_7f_7 ?_
        refine pr_ HT_ 7 20 tb19_ff_7 ?_
        refine pr_ HT_ 8 21 tb19_1ff_7 ?_
        refine pr_ HT_ 9 22 tb19_3ff_7 ?_
        refine pr_ HT_ 10 23 tb19_7ff_7 ?_
        refine pr_ HT_ 11 24 tb19_fff_7 ?_
        refine pr_ HT_ 12 25 tb19_1fff_7 ?_
        refine pr_ HT_ 13 26 tb19_3fff_7 ?_
        refine pr_ HT_ 14 27 tb19_7fff_7 ?_
        refine pr_ HT_ 15 28 tb19_ffff_7 ?_
        refine pr_ HT_ 16 29 tb19_1ffff_7 ?_
        refine pl_ HT_ 17 30 tb19_3ffff_7 ?_
        refine pl_ HT_ 18 31 tb19_7ffff_7 ?_
        refine done_ (done_of HT_.out (by kernel_rfl)) ?_
        try go_wp2
        go_roundg k1
        case measure => have := HK1.out; omega
        case rel => exact ⟨(wrap64 (x8_1 + 1)), sp_, H', ⟨by have := HK1.out; omega⟩, ⟨by (with_reducible repeat (first | refine blk_drewN ?_ _ | refine blk_drew ?_ | refine blk_alloc ?_ _)); exact BK174.out⟩, ⟨bl_⟩⟩
      ·replace c8 := Bool.eq_false_iff.mpr c8
       subst c8
       have H1 : (some false) = some r := by rw [if_neg (show ¬ (false = true) by decide)] at H; exact H
       clear H
       have H := H1
       clear H1
       obtain rfl := Option.some.inj H
       have p175 : 0 ≤ (x8_1 : Int) := od_
       have q175 : x8_1 < (l0_0.length : Int) := od_
       obtain ⟨ad175, A175_5, c175_5, A175_8, c175_8, A175_9, c175_9, A175_10, c175_10, e175, hx175_0, hx175_1, hx175_2, hx175_3, hx175_4, hx175_5, hx175_6, hx175_7, hx175_8, hx175_9, hx175_10, hl175_5, hi175_5, hl175_8, hi175_8, hl175_9, hi175_9, hl175_10, hi175_10⟩ := at_T48 HR0_0.out x8_1 p175 q175
       cases e175
       replace hx175_0 := kc_ HB hx175_0
       replace hx175_1 := kc_ HB hx175_1
       replace hx175_2 := kc_ HB hx175_2
       replace hx175_3 := kc_ HB hx175_3
       replace hx175_4 := kc_ HB hx175_4
       replace hx175_5 := kc_ HB hx175_5
       replace hx175_6 := kc_ HB hx175_6
       replace hx175_7 := kc_ HB hx175_7
       replace hx175_8 := kc_ HB hx175_8
       replace hx175_9 := kc_ HB hx175_9
       replace hx175_10 := kc_ HB hx175_10
       have HR175_5 := Aside0.mk hi175_5
       have HC175_5 := Aside0.mk hl175_5
       clear hi175_5 hl175_5
       have HR175_8 := Aside0.mk hi175_8
       have HC175_8 := Aside0.mk hl175_8
       clear hi175_8 hl175_8
       have HR175_9 := Aside0.mk hi175_9
       have HC175_9 := Aside0.mk hl175_9
       clear hi175_9 hl175_9
       have HR175_10 := Aside0.mk hi175_10
       have HC175_10 := Aside0.mk hl175_10
       clear hi175_10 hl175_10
       replace p175 := eq_true p175
       replace q175 := eq_true q175
       try go_wp2_with (first | ((with_reducible refine gate_dst (N := 4) rfl ?_); refine box_event ?hg (N := 4) ?hd (cs := #[.string (⟨#[]⟩ : ByteArray), .int .i64 0, .int .i64 0, .int .i64 0, .int .i64 0, .slice none 0 0, .int .i64 0, .int .i64 0, .slice none 0 0, .slice none 0 0, .slice none 0 0]) (t := 48) ?hr ?_; (case hd => rfl); (case hg => rfl); (case hr => first | (go_simp; done) | (go_simp; rfl)); intro gb176 hg w32 hbox hb; have n0_ := Aside0.mk (blk_below (bk_ BK174) hb); have n1_ := Aside0.mk (below_step bl_ hb); have n2_ := Aside0.mk (hbox); have n3_ := gw_ (w := w) hg; have n4_ := gw_ (w := w) hg; have n5_ := Aside0.mk ((by rw [hg]; exact Nat.ne_of_lt (blk_lt (bk_ BK174)) : gb174 ≠ gb176)); have n6_ := Aside0.mk ((by rw [hg]; exact Nat.ne_of_gt (blk_lt (bk_ BK174)) : gb176 ≠ gb174)); clear BK174; clear HB; have BK174 := n0_; have HB := n1_; have BK176 := n2_; have GW176 := n3_; have GE176 := n4_; have NB174_176 := n5_; have NB176_174 := n6_; clear n0_ n1_ n2_ n3_ n4_ n5_ n6_; clear hb hbox hg; have hnb33 := NB176_174.out; have hnc33 := NB174_176.out; have hcz34_0 := cz_ BK176 0 (.string (⟨#[]⟩ : ByteArray)); have hcz34_1 := cz_ BK176 1 (.int .i64 0); have hcz34_2 := cz_ BK176 2 (.int .i64 0); have hcz34_3 := cz_ BK176 3 (.int .i64 0); have hcz34_4 := cz_ BK176 4 (.int .i64 0); have hcz34_5 := cz_ BK176 5 (.slice none 0 0); have hcz34_6 := cz_ BK176 6 (.int .i64 0); have hcz34_7 := cz_ BK176 7 (.int .i64 0); have hcz34_8 := cz_ BK176 8 (.slice none 0 0); have hcz34_9 := cz_ BK176 9 (.slice none 0 0); have hcz34_10 := cz_ BK176 10 (.slice none 0 0); have hfz34_0 := fz_ BK176 0; have hfz34_1 := fz_ BK176 1; have hfz34_2 := fz_ BK176 2; have hfz34_3 := fz_ BK176 3; have hfz34_4 := fz_ BK176 4; have hfz34_5 := fz_ BK176 5; have hfz34_6 := fz_ BK176 6; have hfz34_7 := fz_ BK176 7; have hfz34_8 := fz_ BK176 8; have hfz34_9 := fz_ BK176 9; have hfz34_10 := fz_ BK176 10))
       have n0_ : Aside0 ((((((((((((w32.setCell ⟨gb176, 0, none⟩ (.string ((rd_T48 l0_0 x8_1).f0))).setCell ⟨gb176, 1, none⟩ (.int .i64 ((rd_T48 l0_0 x8_1).f1))).setCell ⟨gb176, 2, none⟩ (.int .i64 ((rd_T48 l0_0 x8_1).f2))).setCell ⟨gb176, 3, none⟩ (.int .i64 ((rd_T48 l0_0 x8_1).f3))).setCell ⟨gb176, 4, none⟩ (.int .i64 ((rd_T48 l0_0 x8_1).f4))).setCell ⟨gb176, 5, none⟩ (.slice A175_5 ((rd_T48 l0_0 x8_1).f5).length c175_5)).setCell ⟨gb176, 6, none⟩ (.int .i64 ((rd_T48 l0_0 x8_1).f6.f0))).setCell ⟨gb176, 7, none⟩ (.int .i64 ((rd_T48 l0_0 x8_1).f6.f1))).setCell ⟨gb176, 8, none⟩ (.slice A175_8 ((rd_T48 l0_0 x8_1).f6.f2).length c175_8)).setCell ⟨gb176, 9, none⟩ (.slice A175_9 ((rd_T48 l0_0 x8_1).f6.f3).length c175_9)).setCell ⟨gb176, 10, none⟩ (.slice A175_10 ((rd_T48 l0_0 x8_1).f7).length c175_10)).heap[gb174]? = some (.cells #[.slice (some ad175) l0_0.length c0_0] 64 (0, 0))) := ⟨by (with_reducible repeat (first | refine blk_drewN ?_ _ | refine blk_drew ?_ | refine blk_alloc ?_ _)); refine blk_far ?_ NB174_176.out _; (with_reducible repeat (first | refine blk_drewN ?_ _ | refine blk_drew ?_ | refine blk_alloc ?_ _)); refine blk_far ?_ NB174_176.out _; (with_reducible repeat (first | refine blk_drewN ?_ _ | refine blk_drew ?_ | refine blk_alloc ?_ _)); refine blk_far ?_ NB174_176.out _; (with_reducible repeat (first | refine blk_drewN ?_ _ | refine blk_drew ?_ | refine blk_alloc ?_ _)); refine blk_far ?_ NB174_176.out _; (with_reducible repeat (first | refine blk_drewN ?_ _ | refine blk_drew ?_ | refine blk_alloc ?_ _)); refine blk_far ?_ NB174_176.out _; (with_reducible repeat (first | refine blk_drewN ?_ _ | refine blk_drew ?_ | refine blk_alloc ?_ _)); refine blk_far ?_ NB174_176.out _; (with_reducible repeat (first | refine blk_drewN ?_ _ | refine blk_drew ?_ | refine blk_alloc ?_ _)); refine blk_far ?_ NB174_176.out _; (with_reducible repeat (first | refine blk_drewN ?_ _ | refine blk_drew ?_ | refine blk_alloc ?_ _)); refine blk_far ?_ NB174_176.out _; (with_reducible repeat (first | refine blk_drewN ?_ _ | refine blk_drew ?_ | refine blk_alloc ?_ _)); refine blk_far ?_ NB174_176.out _; (with_reducible repeat (first | refine blk_drewN ?_ _ | refine blk_drew ?_ | refine blk_alloc ?_ _)); refine blk_far ?_ NB174_176.out _; (with_reducible repeat (first | refine blk_drewN ?_ _ | refine blk_drew ?_ | refine blk_alloc ?_ _)); refine blk_far ?_ NB174_176.out _; (with_reducible repeat (first | refine blk_drewN ?_ _ | refine blk_drew ?_ | refine blk_alloc ?_ _)); exact BK174.out⟩
       have n1_ : Aside0 ((((((((((((w32.setCell ⟨gb176, 0, none⟩ (.string ((rd_T48 l0_0 x8_1).f0))).setCell ⟨gb176, 1, none⟩ (.int .i64 ((rd_T48 l0_0 x8_1).f1))).setCell ⟨gb176, 2, none⟩ (.int .i64 ((rd_T48 l0_0 x8_1).f2))).setCell ⟨gb176, 3, none⟩ (.int .i64 ((rd_T48 l0_0 x8_1).f3))).setCell ⟨gb176, 4, none⟩ (.int .i64 ((rd_T48 l0_0 x8_1).f4))).setCell ⟨gb176, 5, none⟩ (.slice A175_5 ((rd_T48 l0_0 x8_1).f5).length c175_5)).setCell ⟨gb176, 6, none⟩ (.int .i64 ((rd_T48 l0_0 x8_1).f6.f0))).setCell ⟨gb176, 7, none⟩ (.int .i64 ((rd_T48 l0_0 x8_1).f6.f1))).setCell ⟨gb176, 8, none⟩ (.slice A175_8 ((rd_T48 l0_0 x8_1).f6.f2).length c175_8)).setCell ⟨gb176, 9, none⟩ (.slice A175_9 ((rd_T48 l0_0 x8_1).f6.f3).length c175_9)).setCell ⟨gb176, 10, none⟩ (.slice A175_10 ((rd_T48 l0_0 x8_1).f7).length c175_10)).heap[gb176]? = some (.cells #[.string ((rd_T48 l0_0 x8_1).f0), .int .i64 ((rd_T48 l0_0 x8_1).f1), .int .i64 ((rd_T48 l0_0 x8_1).f2), .int .i64 ((rd_T48 l0_0 x8_1).f3), .int .i64 ((rd_T48 l0_0 x8_1).f4), .slice A175_5 ((rd_T48 l0_0 x8_1).f5).length c175_5, .int .i64 ((rd_T48 l0_0 x8_1).f6.f0), .int .i64 ((rd_T48 l0_0 x8_1).f6.f1), .slice A175_8 ((rd_T48 l0_0 x8_1).f6.f2).length c175_8, .slice A175_9 ((rd_T48 l0_0 x8_1).f6.f3).length c175_9, .slice A175_10 ((rd_T48 l0_0 x8_1).f7).length c175_10] 48 (0, 0))) := ⟨by (with_reducible repeat (first | refine blk_drewN ?_ _ | refine blk_drew ?_ | refine blk_alloc ?_ _)); refine blk_put (cs := #[.string ((rd_T48 l0_0 x8_1).f0), .int .i64 ((rd_T48 l0_0 x8_1).f1), .int .i64 ((rd_T48 l0_0 x8_1).f2), .int .i64 ((rd_T48 l0_0 x8_1).f3), .int .i64 ((rd_T48 l0_0 x8_1).f4), .slice A175_5 ((rd_T48 l0_0 x8_1).f5).length c175_5, .int .i64 ((rd_T48 l0_0 x8_1).f6.f0), .int .i64 ((rd_T48 l0_0 x8_1).f6.f1), .slice A175_8 ((rd_T48 l0_0 x8_1).f6.f2).length c175_8, .slice A175_9 ((rd_T48 l0_0 x8_1).f6.f3).length c175_9, .slice none 0 0]) ?_ 10 _ rfl; refine blk_put (cs := #[.string ((rd_T48 l0_0 x8_1).f0), .int .i64 ((rd_T48 l0_0 x8_1).f1), .int .i64 ((rd_T48 l0_0 x8_1).f2), .int .i64 ((rd_T48 l0_0 x8_1).f3), .int .i64 ((rd_T48 l0_0 x8_1).f4), .slice A175_5 ((rd_T48 l0_0 x8_1).f5).length c175_5, .int .i64 ((rd_T48 l0_0 x8_1).f6.f0), .int .i64 ((rd_T48 l0_0 x8_1).f6.f1), .slice A175_8 ((rd_T48 l0_0 x8_1).f6.f2).length c175_8, .slice none 0 0, .slice none 0 0]) ?_ 9 _ rfl; refine blk_put (cs := #[.string ((rd_T48 l0_0 x8_1).f0), .int .i64 ((rd_T48 l0_0 x8_1).f1), .int .i64 ((rd_T48 l0_0 x8_1).f2), .int .i64 ((rd_T48 l0_0 x8_1).f3), .int .i64 ((rd_T48 l0_0 x8_1).f4), .slice A175_5 ((rd_T48 l0_0 x8_1).f5).length c175_5, .int .i64 ((rd_T48 l0_0 x8_1).f6.f0), .int .i64 ((rd_T48 l0_0 x8_1).f6.f1), .slice none 0 0, .slice none 0 0, .slice none 0 0]) ?_ 8 _ rfl; refine blk_put (cs := #[.string ((rd_T48 l0_0 x8_1).f0), .int .i64 ((rd_T48 l0_0 x8_1).f1), .int .i64 ((rd_T48 l0_0 x8_1).f2), .int .i64 ((rd_T48 l0_0 x8_1).f3), .int .i64 ((rd_T48 l0_0 x8_1).f4), .slice A175_5 ((rd_T48 l0_0 x8_1).f5).length c175_5, .int .i64 ((rd_T48 l0_0 x8_1).f6.f0), .int .i64 0, .slice none 0 0, .slice none 0 0, .slice none 0 0]) ?_ 7 _ rfl; refine blk_put (cs := #[.string ((rd_T48 l0_0 x8_1).f0), .int .i64 ((rd_T48 l0_0 x8_1).f1), .int .i64 ((rd_T48 l0_0 x8_1).f2), .int .i64 ((rd_T48 l0_0 x8_1).f3), .int .i64 ((rd_T48 l0_0 x8_1).f4), .slice A175_5 ((rd_T48 l0_0 x8_1).f5).length c175_5, .int .i64 0, .int .i64 0, .slice none 0 0, .slice none 0 0, .slice none 0 0]) ?_ 6 _ rfl; refine blk_put (cs := #[.string ((rd_T48 l0_0 x8_1).f0), .int .i64 ((rd_T48 l0_0 x8_1).f1), .int .i64 ((rd_T48 l0_0 x8_1).f2), .int .i64 ((rd_T48 l0_0 x8_1).f3), .int .i64 ((rd_T48 l0_0 x8_1).f4), .slice none 0 0, .int .i64 0, .int .i64 0, .slice none 0 0, .slice none 0 0, .slice none 0 0]) ?_ 5 _ rfl; refine blk_put (cs := #[.string ((rd_T48 l0_0 x8_1).f0), .int .i64 ((rd_T48 l0_0 x8_1).f1), .int .i64 ((rd_T48 l0_0 x8_1).f2), .int .i64 ((rd_T48 l0_0 x8_1).f3), .int .i64 0, .slice none 0 0, .int .i64 0, .int .i64 0, .slice none 0 0, .slice none 0 0, .slice none 0 0]) ?_ 4 _ rfl; refine blk_put (cs := #[.string ((rd_T48 l0_0 x8_1).f0), .int .i64 ((rd_T48 l0_0 x8_1).f1), .int .i64 ((rd_T48 l0_0 x8_1).f2), .int .i64 0, .int .i64 0, .slice none 0 0, .int .i64 0, .int .i64 0, .slice none 0 0, .slice none 0 0, .slice none 0 0]) ?_ 3 _ rfl; refine blk_put (cs := #[.string ((rd_T48 l0_0 x8_1).f0), .int .i64 ((rd_T48 l0_0 x8_1).f1), .int .i64 0, .int .i64 0, .int .i64 0, .slice none 0 0, .int .i64 0, .int .i64 0, .slice none 0 0, .slice none 0 0, .slice none 0 0]) ?_ 2 _ rfl; refine blk_put (cs := #[.string ((rd_T48 l0_0 x8_1).f0), .int .i64 0, .int .i64 0, .int .i64 0, .int .i64 0, .slice none 0 0, .int .i64 0, .int .i64 0, .slice none 0 0, .slice none 0 0, .slice none 0 0]) ?_ 1 _ rfl; refine blk_put (cs := #[.string (⟨#[]⟩ : ByteArray), .int .i64 0, .int .i64 0, .int .i64 0, .int .i64 0, .slice none 0 0, .int .i64 0, .int .i64 0, .slice none 0 0, .slice none 0 0, .slice none 0 0]) ?_ 0 _ rfl; (with_reducible repeat (first | refine blk_drewN ?_ _ | refine blk_drew ?_ | refine blk_alloc ?_ _)); exact BK176.out⟩
       have n2_ : Aside0 (Below w.heap.size w (((((((((((w32.setCell ⟨gb176, 0, none⟩ (.string ((rd_T48 l0_0 x8_1).f0))).setCell ⟨gb176, 1, none⟩ (.int .i64 ((rd_T48 l0_0 x8_1).f1))).setCell ⟨gb176, 2, none⟩ (.int .i64 ((rd_T48 l0_0 x8_1).f2))).setCell ⟨gb176, 3, none⟩ (.int .i64 ((rd_T48 l0_0 x8_1).f3))).setCell ⟨gb176, 4, none⟩ (.int .i64 ((rd_T48 l0_0 x8_1).f4))).setCell ⟨gb176, 5, none⟩ (.slice A175_5 ((rd_T48 l0_0 x8_1).f5).length c175_5)).setCell ⟨gb176, 6, none⟩ (.int .i64 ((rd_T48 l0_0 x8_1).f6.f0))).setCell ⟨gb176, 7, none⟩ (.int .i64 ((rd_T48 l0_0 x8_1).f6.f1))).setCell ⟨gb176, 8, none⟩ (.slice A175_8 ((rd_T48 l0_0 x8_1).f6.f2).length c175_8)).setCell ⟨gb176, 9, none⟩ (.slice A175_9 ((rd_T48 l0_0 x8_1).f6.f3).length c175_9)).setCell ⟨gb176, 10, none⟩ (.slice A175_10 ((rd_T48 l0_0 x8_1).f7).length c175_10))) := ⟨bl_⟩
       (try clear BK174)
       (try clear BK176)
       (try clear HB)
       generalize (((((((((((w32.setCell ⟨gb176, 0, none⟩ (.string ((rd_T48 l0_0 x8_1).f0))).setCell ⟨gb176, 1, none⟩ (.int .i64 ((rd_T48 l0_0 x8_1).f1))).setCell ⟨gb176, 2, none⟩ (.int .i64 ((rd_T48 l0_0 x8_1).f2))).setCell ⟨gb176, 3, none⟩ (.int .i64 ((rd_T48 l0_0 x8_1).f3))).setCell ⟨gb176, 4, none⟩ (.int .i64 ((rd_T48 l0_0 x8_1).f4))).setCell ⟨gb176, 5, none⟩ (.slice A175_5 ((rd_T48 l0_0 x8_1).f5).length c175_5)).setCell ⟨gb176, 6, none⟩ (.int .i64 ((rd_T48 l0_0 x8_1).f6.f0))).setCell ⟨gb176, 7, none⟩ (.int .i64 ((rd_T48 l0_0 x8_1).f6.f1))).setCell ⟨gb176, 8, none⟩ (.slice A175_8 ((rd_T48 l0_0 x8_1).f6.f2).length c175_8)).setCell ⟨gb176, 9, none⟩ (.slice A175_9 ((rd_T48 l0_0 x8_1).f6.f3).length c175_9)).setCell ⟨gb176, 10, none⟩ (.slice A175_10 ((rd_T48 l0_0 x8_1).f7).length c175_10)) = w35 at n0_ n1_ n2_ ⊢
       have BK174 := n0_
       have BK176 := n1_
       have HB := n2_
       clear n0_ n1_ n2_
       have n0_ := Aside0.mk (blk_drew BK174.out)
       have n1_ := Aside0.mk (blk_drew BK176.out)
       have n2_ := Aside0.mk (below_drew1 HB.out)
       clear BK174
       clear BK176
       clear HB
       have BK174 := n0_
       have BK176 := n1_
       have HB := n2_
       clear n0_ n1_ n2_
       refine start_ (n := 19) (S := fun w' => w'.cell? ⟨gb176, 0, none⟩ = some (.string ((rd_T48 l0_0 x8_1).f0)) ∧ w'.cell? ⟨gb176, 1, none⟩ = some (.int .i64 ((rd_T48 l0_0 x8_1).f1)) ∧ w'.cell? ⟨gb176, 2, none⟩ = some (.int .i64 ((rd_T48 l0_0 x8_1).f2)) ∧ w'.cell? ⟨gb176, 3, none⟩ = some (.int .i64 ((rd_T48 l0_0 x8_1).f3)) ∧ w'.cell? ⟨gb176, 4, none⟩ = some (.int .i64 ((rd_T48 l0_0 x8_1).f4)) ∧ w'.cell? ⟨gb176, 5, none⟩ = some (.slice A175_5 ((rd_T48 l0_0 x8_1).f5).length c175_5) ∧ w'.cell? ⟨gb176, 6, none⟩ = some (.int .i64 ((rd_T48 l0_0 x8_1).f6.f0)) ∧ w'.cell? ⟨gb176, 7, none⟩ = some (.int .i64 ((rd_T48 l0_0 x8_1).f6.f1)) ∧ w'.cell? ⟨gb176, 8, none⟩ = some (.slice A175_8 ((rd_T48 l0_0 x8_1).f6.f2).length c175_8) ∧ w'.cell? ⟨gb176, 9, none⟩ = some (.slice A175_9 ((rd_T48 l0_0 x8_1).f6.f3).length c175_9) ∧ w'.cell? ⟨gb176, 10, none⟩ = some (.slice A175_10 ((rd_T48 l0_0 x8_1).f7).length c175_10)) (ds := []) tb19_0_7 (by kernel_rfl) rfl rfl ⟨cy_ BK176 0, cy_ BK176 1, cy_ BK176 2, cy_ BK176 3, cy_ BK176 4, cy_ BK176 5, cy_ BK176 6, cy_ BK176 7, cy_ BK176 8, cy_ BK176 9, cy_ BK176 10⟩ (fun hHeld => ?_); refine with_tabW spec_BookOk.tab4 spec_BookOk.bits4 (fun HT_ HW_ => ?_)
       generalize w35.drew = w36 at BK174 BK176 HB hHeld ⊢
       refine pt_ HT_ HW_ hHeld 0 13 tb19_1_7 ?_
       refine one_ (i := 1) (N := some 14) tb19_3_7 rfl rfl (one_of HT_.out (by kernel_rfl)) (by decide) (fun K hK => ?_)
       refine goes_ Try.func18 (by kernel_rfl) rfl #[.agg #[.string ((rd_T48 l0_0 x8_1).f0), .int .i64 ((rd_T48 l0_0 x8_1).f1), .int .i64 ((rd_T48 l0_0 x8_1).f2), .int .i64 ((rd_T48 l0_0 x8_1).f3), .int .i64 ((rd_T48 l0_0 x8_1).f4), .slice A175_5 ((rd_T48 l0_0 x8_1).f5).length c175_5, .int .i64 ((rd_T48 l0_0 x8_1).f6.f0), .int .i64 ((rd_T48 l0_0 x8_1).f6.f1), .slice A175_8 ((rd_T48 l0_0 x8_1).f6.f2).length c175_8, .slice A175_9 ((rd_T48 l0_0 x8_1).f6.f3).length c175_9, .slice A175_10 ((rd_T48 l0_0 x8_1).f7).length c175_10]] (by rfl) rfl rfl gl_ ?_
       with_reducible refine (spec_AcctOk.calls k1 ((rd_T48 l0_0 x8_1).f0) ((rd_T48 l0_0 x8_1).f1) ((rd_T48 l0_0 x8_1).f2) ((rd_T48 l0_0 x8_1).f3) ((rd_T48 l0_0 x8_1).f4) _ _ ((rd_T48 l0_0 x8_1).f5) ((rd_T48 l0_0 x8_1).f6.f0) ((rd_T48 l0_0 x8_1).f6.f1) _ _ ((rd_T48 l0_0 x8_1).f6.f2) _ _ ((rd_T48 l0_0 x8_1).f6.f3) _ _ ((rd_T48 l0_0 x8_1).f7) false _ ?side1 ?side2 ?side3 ?side4 ?side5 ?side6 ?side7 ?side8 A7.out).mono ?_
       (case side1 => exact ca_ (Kd.C_below HR175_5.out HB.out))
       (case side2 => exact HC175_5.out)
       (case side3 => exact ca_ (Kd.C_below HR175_8.out HB.out))
       (case side4 => exact HC175_8.out)
       (case side5 => exact ca_ (Kd.C_below HR175_9.out HB.out))
       (case side6 => exact HC175_9.out)
       (case side7 => exact ca_ (Kd.C_below HR175_10.out HB.out))
       (case side8 => exact HC175_10.out)
       rintro e w37 ⟨rfl, hb⟩
       refine ⟨_, rfl, ?_⟩
       have n0_ := Aside0.mk (blk_below (bk_ BK174) hb)
       have n1_ := Aside0.mk (blk_below (bk_ BK176) hb)
       have n2_ := Aside0.mk (below_step bl_ hb)
       clear BK174
       clear BK176
       clear HB
       have BK174 := n0_
       have BK176 := n1_
       have HB := n2_
       clear n0_ n1_ n2_
       (try clear hb)
       (try clear hb2)
       (try clear hk)
       (try clear hi)
       refine hK.out _ _ ⟨cy_ BK176 0, cy_ BK176 1, cy_ BK176 2, cy_ BK176 3, cy_ BK176 4, cy_ BK176 5, cy_ BK176 6, cy_ BK176 7, cy_ BK176 8, cy_ BK176 9, cy_ BK176 10⟩ (fun hHeld => ?_)
       clear hK K
       refine norm_ (a' := ?_) ?_ ?_
       rotate_left
       ·show Act.put _ (some 14) _ = _
        simp only [Act.put, q_]
        rfl
       refine pl_ HT_ 2 15 tb19_7_7 ?_
       refine pl_ HT_ 3 16 tb19_f_7 ?_
       refine pr_ HT_ 4 17 tb19_1f_7 ?_
       refine pr_ HT_ 5 18 tb19_3f_7 ?_
       refine pr_ HT_ 6 19 tb19_7f_7 ?_
       refine pr_ HT_ 7 20 tb19_ff_7 ?_
       refine pr_ HT_ 8 21 tb19_1ff_7 ?_
       refine pr_ HT_ 9 22 tb19_3ff_7 ?_
       refine pr_ HT_ 10 23 tb19_7ff_7 ?_
       refine pr_ HT_ 11 24 tb19_fff_7 ?_
       refine pr_ HT_ 12 25 tb19_1fff_7 ?_
       refine pr_ HT_ 13 26 tb19_3fff_7 ?_
       refine pr_ HT_ 14 27 tb19_7fff_7 ?_
       refine pr_ HT_ 15 28 tb19_ffff_7 ?_
       refine pr_ HT_ 16 29 tb19_1ffff_7 ?_
       refine pr_ HT_ 17 30 tb19_3ffff_7 ?_
       refine pl_ HT_ 18 31 tb19_7ffff_7 ?_
       refine done_ (done_of HT_.out (by kernel_rfl)) ?_
       try go_wp2
       go_ret
       exact ⟨sq_, bl_⟩
     ·rw [if_neg c6] at H
      exact absurd H (by simp)
    ·rw [if_neg c5] at H
     exact absurd H (by simp)
   ·rw [if_neg c4] at H
    have c4b0 : decide (x8_1 < (l0_0.length : Int)) = false := decide_eq_false c4
    clear c4
    obtain rfl := Option.some.inj H
    have hcz38_0 := cz_ BK174 0 (.slice A0_0 l0_0.length c0_0)
    have hfz38_0 := fz_ BK174 0
    go_wp2
    go_ret
    exact ⟨sq_, bl_⟩
end Go.Proofs.Ytgcggfoailaalaa.QFnExactBookOk
