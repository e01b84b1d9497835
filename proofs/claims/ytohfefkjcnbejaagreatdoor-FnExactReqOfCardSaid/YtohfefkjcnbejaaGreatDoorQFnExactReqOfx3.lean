-- by my own printer (myprint.py, over the kit's print.py)
import Derived.Test.YtohfefkjcnbejaaGreatDoorQFnExactReqOfx0
import Derived.Test.YtohfefkjcnbejaaGreatDoorQFnExactReqOfx1
import Derived.Test.YtohfefkjcnbejaaGreatDoorQFnExactReqOfx2
namespace Go.Proofs.YtohfefkjcnbejaaGreatDoor.QFnExactReqOf
open Go.RowKit Go.Proofs.YtohfefkjcnbejaaGreatDoorW.PrintWords Go.Proofs.YtohfefkjcnbejaaGreatDoorW.PrintLast Go.Proofs.YtohfefkjcnbejaaGreatDoorW.PrintMore
attribute [local go_sem] max2_int min2_int max_two min_two max_three min_three max_four min_four   -- for this text's walks alone
set_option linter.unusedVariables false
set_option linter.unusedSimpArgs false
attribute [local go_sem] my_geq my_leq my_gtr
/-! ### spec_MsgOk: function 36 -/
mutual
def spec_MsgOk.j0 : Nat → Bool → ByteArray → List (S91) → Option (Bool)
 | 0, _, _, _ => none
 | k + 1, x14, x114000, x114001 => if x14 = true then (some false) else (spec_MsgOk.l0 k x114001 (x114001.length : Int) 0 x114000 x114001)
def spec_MsgOk.l0 : Nat → List (S91) → Int → Int → ByteArray → List (S91) → Option (Bool)
 | 0, _, _, _, _, _ => none
 | k + 1, x16, x17, x18, x114000, x114001 => if x18 < x17 then (if 0 ≤ x18 then (if x18 < (x16.length : Int) then ((spec_FieldOk.f k ((rd_T91 x16 x18).f0) ((rd_T91 x16 x18).f1)).bind fun t117 => (if t117 = true then (if x18 > 0 then (if 0 ≤ (wrap64 (x18 - 1)) then (if (wrap64 (x18 - 1)) < (x114001.length : Int) then (if ((rd_T91 x114001 (wrap64 (x18 - 1))).f0) ≥ ((rd_T91 x16 x18).f0) then (some false) else (spec_MsgOk.l0 k x16 x17 (wrap64 (x18 + 1)) x114000 x114001)) else (none)) else (none)) else (spec_MsgOk.l0 k x16 x17 (wrap64 (x18 + 1)) x114000 x114001)) else (some false))) else (none)) else (none)) else (some true)
end
def spec_MsgOk.f (k : Nat) (a0_0 : ByteArray) (l0_1 : List (S91)) : Option (Bool) := (spec_Digits.f k a0_0).bind fun t114 => (if t114 = true then (spec_MsgOk.j0 k ((a0_0.size : Int) != 4) a0_0 l0_1) else (spec_MsgOk.j0 k true a0_0 l0_1))
set_option maxHeartbeats 8000000 in
set_option maxRecDepth 100000 in
theorem spec_MsgOk.calls (k : Nat) (a0_0 : ByteArray) (A0_1 : Option Addr) (c0_1 : Nat) (l0_1 : List (S91)) (r : Bool) (w : World) (hr0_1 : Kd.C k91 w A0_1 l0_1.length l0_1) (hc0_1 : l0_1.length ≤ c0_1) (h : spec_MsgOk.f k a0_0 l0_1 = some r) :
  Calls Tryz.prog 36 #[.agg #[.string a0_0, .slice A0_1 l0_1.length c0_1]] w fun e w' => e = .returned (.bool r) ∧ Below w.heap.size w w' := by
 have hu32 := Tryz.underlying32
 have hu91 := Tryz.underlying91
 have HR0_1 := Aside0.mk hr0_1
 have HC0_1 := Aside0.mk hc0_1
 clear hr0_1 hc0_1
 have HB := Aside0.mk (Below.refl w.heap.size w)
 have H : ((spec_Digits.f k a0_0).bind fun t114 => (if t114 = true then (spec_MsgOk.j0 k ((a0_0.size : Int) != 4) a0_0 l0_1) else (spec_MsgOk.j0 k true a0_0 l0_1))) = some r := h
 clear h
 have HC2 := Aside0.mk H
 clear H
 go_enter Tryz.func36, Tryz.ntmps36
 go_upto_region 1 with (first | ((with_reducible refine gate_dst (N := 1) rfl ?_); (try (refine gate_guard (by rfl) ?_; dsimp only)); refine be_ (N := 1) (cs := #[.string a0_0, .slice A0_1 l0_1.length c0_1]) (t := 32) ?_; intro gb113 hg w3 hbox hb; have BK113 := Aside0.mk (hbox); have GW113 := gw_ (w := w) hg; have GE113 := gw_ (w := w) hg; replace HB := Aside0.mk (below_step bl_ hb); clear hb hbox hg))
 repeat (go_quiet (first | ((with_reducible refine gate_dst (N := 1) rfl ?_); (try (refine gate_guard (by rfl) ?_; dsimp only)); refine be_ (N := 1) (cs := #[.string a0_0, .slice A0_1 l0_1.length c0_1]) (t := 32) ?_; intro gb113 hg w3 hbox hb; have BK113 := Aside0.mk (hbox); have GW113 := gw_ (w := w) hg; have GE113 := gw_ (w := w) hg; replace HB := Aside0.mk (below_step bl_ hb); clear hb hbox hg)); go_upto_region 1 with (first | ((with_reducible refine gate_dst (N := 1) rfl ?_); (try (refine gate_guard (by rfl) ?_; dsimp only)); refine be_ (N := 1) (cs := #[.string a0_0, .slice A0_1 l0_1.length c0_1]) (t := 32) ?_; intro gb113 hg w3 hbox hb; have BK113 := Aside0.mk (hbox); have GW113 := gw_ (w := w) hg; have GE113 := gw_ (w := w) hg; replace HB := Aside0.mk (below_step bl_ hb); clear hb hbox hg)))
 (try simp only [Act.put, List.setIfInBounds_toArray, List.set_cons_zero, List.set_cons_succ])
 go_cut [14] (fun v14 wc => ∃ (kq : Nat) (x14_1 : Bool), v14 = .bool x14_1 ∧ Aside0 (spec_MsgOk.j0 kq x14_1 a0_0 l0_1 = some r) ∧ Aside0 (kq ≤ k) ∧ Aside0 (wc.heap[gb113]? = some (.cells #[.string a0_0, (.slice A0_1 l0_1.length c0_1)] 32 (0, 0))) ∧ Aside0 (Below w.heap.size w wc))
 case first =>
  have H := HC2.out
  clear HC2
  obtain ⟨t114, A4, H⟩ := ob_ H
  by_cases c5 : t114 = true
  ·subst c5
   replace H := ip_ H
   have H' := Aside0.mk H
   clear H
   have hcz6_0 := cz_ BK113 0 (.string a0_0)
   have hcz6_1 := cz_ BK113 1 (.slice A0_1 l0_1.length c0_1)
   have hfz6_0 := fz_ BK113 0
   have hfz6_1 := fz_ BK113 1
   go_wp2_with (first | (go_at_call 76; (with_reducible refine (spec_Digits.calls k a0_0 true _ A4.out).mono ?_); rintro e w' ⟨rfl, ⟨nd, rfl⟩⟩; (try first | exact ⟨rfl, _, World.drewN_drewN _ _ _⟩ | exact ⟨rfl, _, Eq.trans (World.drewN_drewN _ _ _) (congrArg (World.drewN _) (Nat.add_assoc _ _ _))⟩)))
   repeat (go_quiet (first | (go_at_call 76; (with_reducible refine (spec_Digits.calls k a0_0 true _ A4.out).mono ?_); rintro e w' ⟨rfl, ⟨nd, rfl⟩⟩; (try first | exact ⟨rfl, _, World.drewN_drewN _ _ _⟩ | exact ⟨rfl, _, Eq.trans (World.drewN_drewN _ _ _) (congrArg (World.drewN _) (Nat.add_assoc _ _ _))⟩))); try go_wp2_with (first | (go_at_call 76; (with_reducible refine (spec_Digits.calls k a0_0 true _ A4.out).mono ?_); rintro e w' ⟨rfl, ⟨nd, rfl⟩⟩; (try first | exact ⟨rfl, _, World.drewN_drewN _ _ _⟩ | exact ⟨rfl, _, Eq.trans (World.drewN_drewN _ _ _) (congrArg (World.drewN _) (Nat.add_assoc _ _ _))⟩))))
   go_meet
   case rel => exact ⟨_, (((a0_0.size : Int) != 4)), sp_, H', ⟨by first | omega | exact Nat.le_refl _⟩, ⟨by (with_reducible repeat (first | refine blk_drewN ?_ _ | refine blk_drew ?_ | refine blk_alloc ?_ _)); exact BK113.out⟩, ⟨bl_⟩⟩
  ·replace c5 := Bool.eq_false_iff.mpr c5
   subst c5
   replace H := in_ H
   have H' := Aside0.mk H
   clear H
   have hcz7_0 := cz_ BK113 0 (.string a0_0)
   have hcz7_1 := cz_ BK113 1 (.slice A0_1 l0_1.length c0_1)
   have hfz7_0 := fz_ BK113 0
   have hfz7_1 := fz_ BK113 1
   go_wp2_with (first | (go_at_call 76; (with_reducible refine (spec_Digits.calls k a0_0 false _ A4.out).mono ?_); rintro e w' ⟨rfl, ⟨nd, rfl⟩⟩; (try first | exact ⟨rfl, _, World.drewN_drewN _ _ _⟩ | exact ⟨rfl, _, Eq.trans (World.drewN_drewN _ _ _) (congrArg (World.drewN _) (Nat.add_assoc _ _ _))⟩)))
   repeat (go_quiet (first | (go_at_call 76; (with_reducible refine (spec_Digits.calls k a0_0 false _ A4.out).mono ?_); rintro e w' ⟨rfl, ⟨nd, rfl⟩⟩; (try first | exact ⟨rfl, _, World.drewN_drewN _ _ _⟩ | exact ⟨rfl, _, Eq.trans (World.drewN_drewN _ _ _) (congrArg (World.drewN _) (Nat.add_assoc _ _ _))⟩))); try go_wp2_with (first | (go_at_call 76; (with_reducible refine (spec_Digits.calls k a0_0 false _ A4.out).mono ?_); rintro e w' ⟨rfl, ⟨nd, rfl⟩⟩; (try first | exact ⟨rfl, _, World.drewN_drewN _ _ _⟩ | exact ⟨rfl, _, Eq.trans (World.drewN_drewN _ _ _) (congrArg (World.drewN _) (Nat.add_assoc _ _ _))⟩))))
   go_meet
   case rel => exact ⟨_, (true), sp_, H', ⟨by first | omega | exact Nat.le_refl _⟩, ⟨by (with_reducible repeat (first | refine blk_drewN ?_ _ | refine blk_drew ?_ | refine blk_alloc ?_ _)); exact BK113.out⟩, ⟨bl_⟩⟩
 case rest =>
  clear HC2
  try clear p2
  try clear c3
  try clear c5
  try clear hcz6_0
  try clear hcz6_1
  try clear hcz7_0
  try clear hcz7_1
  try clear hfz6_0
  try clear hfz6_1
  try clear hfz7_0
  try clear hfz7_1
  obtain ⟨kq, x14_1, rfl, HA, HJ1, BK113, HB⟩ := hcut
  cases kq with
  | zero => exact absurd HA.out (by simp [spec_MsgOk.j0])
  | succ kj1 =>
   have H := HA.out
   clear HA
   simp only [spec_MsgOk.j0] at H
   by_cases c8 : x14_1 = true
   ·subst c8
    replace H := ip_ H
    obtain rfl := Option.some.inj H
    go_wp2
    repeat (go_quiet (fail); try go_wp2)
    go_ret
    exact ⟨sq_, bl_⟩
   ·replace c8 := Bool.eq_false_iff.mpr c8
    subst c8
    replace H := in_ H
    have H' := Aside0.mk H
    clear H
    have hcz9_0 := cz_ BK113 0 (.string a0_0)
    have hcz9_1 := cz_ BK113 1 (.slice A0_1 l0_1.length c0_1)
    have hfz9_0 := fz_ BK113 0
    have hfz9_1 := fz_ BK113 1
    go_wp2
    repeat (go_quiet (fail); try go_wp2)
    go_loopg [18] kj1 (fun kq v18 w' => ∃ (x18_2 : Int), v18 = .int .i64 x18_2 ∧ Aside0 (spec_MsgOk.l0 kq l0_1 (l0_1.length : Int) x18_2 a0_0 l0_1 = some r) ∧ Aside0 (kq ≤ kj1) ∧ Aside0 (w'.heap[gb113]? = some (.cells #[.string a0_0, (.slice A0_1 l0_1.length c0_1)] 32 (0, 0))) ∧ Aside0 (Below w.heap.size w w'))
    case atStart => exact ⟨(0), sp_, H', ⟨Nat.le_refl _⟩, ⟨by (with_reducible repeat (first | refine blk_drewN ?_ _ | refine blk_drew ?_ | refine blk_alloc ?_ _)); exact BK113.out⟩, ⟨bl_⟩⟩
    case round =>
     clear H'
     try clear p2
     try clear c3
     try clear c5
     try clear c8
     try clear hcz6_0
     try clear hcz6_1
     try clear hcz7_0
     try clear hcz7_1
     try clear hcz9_0
     try clear hcz9_1
     try clear hfz6_0
     try clear hfz6_1
     try clear hfz7_0
     try clear hfz7_1
     try clear hfz9_0
     try clear hfz9_1
     try clear p2
     obtain ⟨x18_2, rfl, HA, HK2, BK113, HB⟩ := hrel
     cases gk with
     | zero => exact absurd HA.out (by simp [spec_MsgOk.l0])
     | succ k2 =>
      have H := HA.out
      clear HA
      simp only [spec_MsgOk.l0] at H
      by_cases c10 : x18_2 < (l0_1.length : Int)
      ·rw [if_pos c10] at H
       have c10b0 : decide (x18_2 < (l0_1.length : Int)) = true := decide_eq_true c10
       clear c10
       by_cases c11 : 0 ≤ x18_2
       ·rw [if_pos c11] at H
        have c11b0 : decide (0 ≤ x18_2) = true := decide_eq_true c11
        clear c11
        by_cases c12 : x18_2 < (l0_1.length : Int)
        ·rw [if_pos c12] at H
         have c12b0 : decide (x18_2 < (l0_1.length : Int)) = true := decide_eq_true c12
         clear c12
         obtain ⟨t117, A13, H⟩ := ob_ H
         by_cases c14 : t117 = true
         ·subst c14
          replace H := ip_ H
          by_cases c15 : x18_2 > 0
          ·rw [if_pos c15] at H
           have c15b0 : decide (0 < x18_2) = true := decide_eq_true c15
           clear c15
           obtain ⟨ji16, hji16⟩ : ∃ j_ : Int, (wrap64 (x18_2 - 1)) = j_ := ⟨_, rfl⟩
           replace H : (if 0 ≤ (ji16) then (if (ji16) < (l0_1.length : Int) then (if ((rd_T91 l0_1 (ji16)).f0) ≥ ((rd_T91 l0_1 x18_2).f0) then (some false) else (spec_MsgOk.l0 k2 l0_1 (l0_1.length : Int) (wrap64 (x18_2 + 1)) a0_0 l0_1)) else (none)) else (none)) = some r := by first | (rw [hji16] at H; exact H) | (simp only [hji16] at H ⊢; exact H)
           (try rw [hji16] at A13)
           have hji16w : (IntKind.i64.wrap (x18_2 - 1)) = ji16 := (i64_w _).trans hji16
           by_cases c17 : 0 ≤ (ji16)
           ·rw [if_pos c17] at H
            have c17b0 : decide (0 ≤ (ji16)) = true := decide_eq_true c17
            clear c17
            by_cases c18 : (ji16) < (l0_1.length : Int)
            ·rw [if_pos c18] at H
             have c18b0 : decide ((ji16) < (l0_1.length : Int)) = true := decide_eq_true c18
             clear c18
             by_cases c19 : ((rd_T91 l0_1 (ji16)).f0) ≥ ((rd_T91 l0_1 x18_2).f0)
             ·rw [if_pos c19] at H
              have c19b0 : decide (((rd_T91 l0_1 x18_2).f0) ≤ ((rd_T91 l0_1 (ji16)).f0)) = true := decide_eq_true c19
              clear c19
              obtain rfl := Option.some.inj H
              have p115 : 0 ≤ (x18_2 : Int) := od_
              have q115 : x18_2 < (l0_1.length : Int) := od_
              obtain ⟨ad115, e115, hx115_0, hx115_1⟩ := at_T91 HR0_1.out x18_2 p115 q115
              cases e115
              replace hx115_0 := kc_ HB hx115_0
              replace hx115_1 := kc_ HB hx115_1
              replace p115 := eq_true p115
              replace q115 := eq_true q115
              go_wp2_with (first | ((with_reducible refine gate_dst (N := 4) rfl ?_); (try (refine gate_guard (by rfl) ?_; dsimp only)); refine be_ (N := 4) (cs := #[.int .i64 0, .string (⟨#[]⟩ : ByteArray)]) (t := 91) ?_; intro gb116 hg w20 hbox hb; have BK116 := Aside0.mk (hbox); have GW116 := gw_ (w := w) hg; have GE116 := gw_ (w := w) hg; replace HB := Aside0.mk (below_step bl_ hb); have NB113_116 := Aside0.mk ((by rw [hg]; exact Nat.ne_of_lt (blk_lt (bk_ BK113)) : gb113 ≠ gb116)); have NB116_113 := Aside0.mk ((by rw [hg]; exact Nat.ne_of_gt (blk_lt (bk_ BK113)) : gb116 ≠ gb113)); replace BK113 := Aside0.mk (blk_below (bk_ BK113) hb); clear hb hbox hg; have hnb21 := NB116_113.out; have hnc21 := NB113_116.out; obtain ⟨hcz22_0, hcz22_1, hfz22_0, hfz22_1⟩ := bx2_ BK116) | (go_at_call 77; (with_reducible refine (spec_FieldOk.calls k2 ((rd_T91 l0_1 x18_2).f0) ((rd_T91 l0_1 x18_2).f1) true _ A13.out).mono ?_); rintro e w' ⟨rfl, ⟨nd, rfl⟩⟩; (try first | exact ⟨rfl, _, World.drewN_drewN _ _ _⟩ | exact ⟨rfl, _, Eq.trans (World.drewN_drewN _ _ _) (congrArg (World.drewN _) (Nat.add_assoc _ _ _))⟩); obtain ⟨hcz23_0, hcz23_1, hfz23_0, hfz23_1⟩ := bx2_ BK113; have p118 : 0 ≤ ((ji16) : Int) := od_; have q118 : (ji16) < (l0_1.length : Int) := od_; obtain ⟨ad118, e118, hx118_0, hx118_1⟩ := at_T91 HR0_1.out (ji16) p118 q118; obtain rfl : ad115 = ad118 := (by injection e118); have hn118_0 : ad115.block ≠ gb116 := nl_ hx118_0 GW116; have hn118_1 : ad115.block ≠ gb116 := nl_ hx118_0 GW116; replace hx118_0 := kc_ HB hx118_0; replace hx118_1 := kc_ HB hx118_1; replace hx118_0 := cf0_1_ (fr_ hn118_0) hx118_0; replace hx118_1 := cf0_1_ (fr_ hn118_0) hx118_1; (try have hy118_0 := gcf0_1_ (fr_ hn118_0) hx118_0); (try have hy118_1 := gcf0_1_ (fr_ hn118_0) hx118_1); clear hn118_0; clear hn118_1; replace p118 := eq_true p118; replace q118 := eq_true q118))
              repeat (go_quiet (first | ((with_reducible refine gate_dst (N := 4) rfl ?_); (try (refine gate_guard (by rfl) ?_; dsimp only)); refine be_ (N := 4) (cs := #[.int .i64 0, .string (⟨#[]⟩ : ByteArray)]) (t := 91) ?_; intro gb116 hg w20 hbox hb; have BK116 := Aside0.mk (hbox); have GW116 := gw_ (w := w) hg; have GE116 := gw_ (w := w) hg; replace HB := Aside0.mk (below_step bl_ hb); have NB113_116 := Aside0.mk ((by rw [hg]; exact Nat.ne_of_lt (blk_lt (bk_ BK113)) : gb113 ≠ gb116)); have NB116_113 := Aside0.mk ((by rw [hg]; exact Nat.ne_of_gt (blk_lt (bk_ BK113)) : gb116 ≠ gb113)); replace BK113 := Aside0.mk (blk_below (bk_ BK113) hb); clear hb hbox hg; have hnb21 := NB116_113.out; have hnc21 := NB113_116.out; obtain ⟨hcz22_0, hcz22_1, hfz22_0, hfz22_1⟩ := bx2_ BK116) | (go_at_call 77; (with_reducible refine (spec_FieldOk.calls k2 ((rd_T91 l0_1 x18_2).f0) ((rd_T91 l0_1 x18_2).f1) true _ A13.out).mono ?_); rintro e w' ⟨rfl, ⟨nd, rfl⟩⟩; (try first | exact ⟨rfl, _, World.drewN_drewN _ _ _⟩ | exact ⟨rfl, _, Eq.trans (World.drewN_drewN _ _ _) (congrArg (World.drewN _) (Nat.add_assoc _ _ _))⟩); obtain ⟨hcz23_0, hcz23_1, hfz23_0, hfz23_1⟩ := bx2_ BK113; have p118 : 0 ≤ ((ji16) : Int) := od_; have q118 : (ji16) < (l0_1.length : Int) := od_; obtain ⟨ad118, e118, hx118_0, hx118_1⟩ := at_T91 HR0_1.out (ji16) p118 q118; obtain rfl : ad115 = ad118 := (by injection e118); have hn118_0 : ad115.block ≠ gb116 := nl_ hx118_0 GW116; have hn118_1 : ad115.block ≠ gb116 := nl_ hx118_0 GW116; replace hx118_0 := kc_ HB hx118_0; replace hx118_1 := kc_ HB hx118_1; replace hx118_0 := cf0_1_ (fr_ hn118_0) hx118_0; replace hx118_1 := cf0_1_ (fr_ hn118_0) hx118_1; (try have hy118_0 := gcf0_1_ (fr_ hn118_0) hx118_0); (try have hy118_1 := gcf0_1_ (fr_ hn118_0) hx118_1); clear hn118_0; clear hn118_1; replace p118 := eq_true p118; replace q118 := eq_true q118)); try go_wp2_with (first | ((with_reducible refine gate_dst (N := 4) rfl ?_); (try (refine gate_guard (by rfl) ?_; dsimp only)); refine be_ (N := 4) (cs := #[.int .i64 0, .string (⟨#[]⟩ : ByteArray)]) (t := 91) ?_; intro gb116 hg w20 hbox hb; have BK116 := Aside0.mk (hbox); have GW116 := gw_ (w := w) hg; have GE116 := gw_ (w := w) hg; replace HB := Aside0.mk (below_step bl_ hb); have NB113_116 := Aside0.mk ((by rw [hg]; exact Nat.ne_of_lt (blk_lt (bk_ BK113)) : gb113 ≠ gb116)); have NB116_113 := Aside0.mk ((by rw [hg]; exact Nat.ne_of_gt (blk_lt (bk_ BK113)) : gb116 ≠ gb113)); replace BK113 := Aside0.mk (blk_below (bk_ BK113) hb); clear hb hbox hg; have hnb21 := NB116_113.out; have hnc21 := NB113_116.out; obtain ⟨hcz22_0, hcz22_1, hfz22_0, hfz22_1⟩ := bx2_ BK116) | (go_at_call 77; (with_reducible refine (spec_FieldOk.calls k2 ((rd_T91 l0_1 x18_2).f0) ((rd_T91 l0_1 x18_2).f1) true _ A13.out).mono ?_); rintro e w' ⟨rfl, ⟨nd, rfl⟩⟩; (try first | exact ⟨rfl, _, World.drewN_drewN _ _ _⟩ | exact ⟨rfl, _, Eq.trans (World.drewN_drewN _ _ _) (congrArg (World.drewN _) (Nat.add_assoc _ _ _))⟩); obtain ⟨hcz23_0, hcz23_1, hfz23_0, hfz23_1⟩ := bx2_ BK113; have p118 : 0 ≤ ((ji16) : Int) := od_; have q118 : (ji16) < (l0_1.length : Int) := od_; obtain ⟨ad118, e118, hx118_0, hx118_1⟩ := at_T91 HR0_1.out (ji16) p118 q118; obtain rfl : ad115 = ad118 := (by injection e118); have hn118_0 : ad115.block ≠ gb116 := nl_ hx118_0 GW116; have hn118_1 : ad115.block ≠ gb116 := nl_ hx118_0 GW116; replace hx118_0 := kc_ HB hx118_0; replace hx118_1 := kc_ HB hx118_1; replace hx118_0 := cf0_1_ (fr_ hn118_0) hx118_0; replace hx118_1 := cf0_1_ (fr_ hn118_0) hx118_1; (try have hy118_0 := gcf0_1_ (fr_ hn118_0) hx118_0); (try have hy118_1 := gcf0_1_ (fr_ hn118_0) hx118_1); clear hn118_0; clear hn118_1; replace p118 := eq_true p118; replace q118 := eq_true q118)))
              go_ret
              exact ⟨by first | rfl | (simp [errW_none, errW_some] <;> rfl) | (simp only [← hji16]; first | rfl | (simp [errW_none, errW_some] <;> rfl)) | (simp [*, errW_none, errW_some] <;> rfl), bl_⟩
             ·rw [if_neg c19] at H
              have c19b0 : decide (((rd_T91 l0_1 x18_2).f0) ≤ ((rd_T91 l0_1 (ji16)).f0)) = false := decide_eq_false c19
              clear c19
              have H' := Aside0.mk H
              clear H
              have p115 : 0 ≤ (x18_2 : Int) := od_
              have q115 : x18_2 < (l0_1.length : Int) := od_
              obtain ⟨ad115, e115, hx115_0, hx115_1⟩ := at_T91 HR0_1.out x18_2 p115 q115
              cases e115
              replace hx115_0 := kc_ HB hx115_0
              replace hx115_1 := kc_ HB hx115_1
              replace p115 := eq_true p115
              replace q115 := eq_true q115
              go_wp2_with (first | ((with_reducible refine gate_dst (N := 4) rfl ?_); (try (refine gate_guard (by rfl) ?_; dsimp only)); refine be_ (N := 4) (cs := #[.int .i64 0, .string (⟨#[]⟩ : ByteArray)]) (t := 91) ?_; intro gb116 hg w24 hbox hb; have BK116 := Aside0.mk (hbox); have GW116 := gw_ (w := w) hg; have GE116 := gw_ (w := w) hg; replace HB := Aside0.mk (below_step bl_ hb); have NB113_116 := Aside0.mk ((by rw [hg]; exact Nat.ne_of_lt (blk_lt (bk_ BK113)) : gb113 ≠ gb116)); have NB116_113 := Aside0.mk ((by rw [hg]; exact Nat.ne_of_gt (blk_lt (bk_ BK113)) : gb116 ≠ gb113)); replace BK113 := Aside0.mk (blk_below (bk_ BK113) hb); clear hb hbox hg; have hnb25 := NB116_113.out; have hnc25 := NB113_116.out; obtain ⟨hcz26_0, hcz26_1, hfz26_0, hfz26_1⟩ := bx2_ BK116) | (go_at_call 77; (with_reducible refine (spec_FieldOk.calls k2 ((rd_T91 l0_1 x18_2).f0) ((rd_T91 l0_1 x18_2).f1) true _ A13.out).mono ?_); rintro e w' ⟨rfl, ⟨nd, rfl⟩⟩; (try first | exact ⟨rfl, _, World.drewN_drewN _ _ _⟩ | exact ⟨rfl, _, Eq.trans (World.drewN_drewN _ _ _) (congrArg (World.drewN _) (Nat.add_assoc _ _ _))⟩); obtain ⟨hcz27_0, hcz27_1, hfz27_0, hfz27_1⟩ := bx2_ BK113; have p118 : 0 ≤ ((ji16) : Int) := od_; have q118 : (ji16) < (l0_1.length : Int) := od_; obtain ⟨ad118, e118, hx118_0, hx118_1⟩ := at_T91 HR0_1.out (ji16) p118 q118; obtain rfl : ad115 = ad118 := (by injection e118); have hn118_0 : ad115.block ≠ gb116 := nl_ hx118_0 GW116; have hn118_1 : ad115.block ≠ gb116 := nl_ hx118_0 GW116; replace hx118_0 := kc_ HB hx118_0; replace hx118_1 := kc_ HB hx118_1; replace hx118_0 := cf0_1_ (fr_ hn118_0) hx118_0; replace hx118_1 := cf0_1_ (fr_ hn118_0) hx118_1; (try have hy118_0 := gcf0_1_ (fr_ hn118_0) hx118_0); (try have hy118_1 := gcf0_1_ (fr_ hn118_0) hx118_1); clear hn118_0; clear hn118_1; replace p118 := eq_true p118; replace q118 := eq_true q118))
              repeat (go_quiet (first | ((with_reducible refine gate_dst (N := 4) rfl ?_); (try (refine gate_guard (by rfl) ?_; dsimp only)); refine be_ (N := 4) (cs := #[.int .i64 0, .string (⟨#[]⟩ : ByteArray)]) (t := 91) ?_; intro gb116 hg w24 hbox hb; have BK116 := Aside0.mk (hbox); have GW116 := gw_ (w := w) hg; have GE116 := gw_ (w := w) hg; replace HB := Aside0.mk (below_step bl_ hb); have NB113_116 := Aside0.mk ((by rw [hg]; exact Nat.ne_of_lt (blk_lt (bk_ BK113)) : gb113 ≠ gb116)); have NB116_113 := Aside0.mk ((by rw [hg]; exact Nat.ne_of_gt (blk_lt (bk_ BK113)) : gb116 ≠ gb113)); replace BK113 := Aside0.mk (blk_below (bk_ BK113) hb); clear hb hbox hg; have hnb25 := NB116_113.out; have hnc25 := NB113_116.out; obtain ⟨hcz26_0, hcz26_1, hfz26_0, hfz26_1⟩ := bx2_ BK116) | (go_at_call 77; (with_reducible refine (spec_FieldOk.calls k2 ((rd_T91 l0_1 x18_2).f0) ((rd_T91 l0_1 x18_2).f1) true _ A13.out).mono ?_); rintro e w' ⟨rfl, ⟨nd, rfl⟩⟩; (try first | exact ⟨rfl, _, World.drewN_drewN _ _ _⟩ | exact ⟨rfl, _, Eq.trans (World.drewN_drewN _ _ _) (congrArg (World.drewN _) (Nat.add_assoc _ _ _))⟩); obtain ⟨hcz27_0, hcz27_1, hfz27_0, hfz27_1⟩ := bx2_ BK113; have p118 : 0 ≤ ((ji16) : Int) := od_; have q118 : (ji16) < (l0_1.length : Int) := od_; obtain ⟨ad118, e118, hx118_0, hx118_1⟩ := at_T91 HR0_1.out (ji16) p118 q118; obtain rfl : ad115 = ad118 := (by injection e118); have hn118_0 : ad115.block ≠ gb116 := nl_ hx118_0 GW116; have hn118_1 : ad115.block ≠ gb116 := nl_ hx118_0 GW116; replace hx118_0 := kc_ HB hx118_0; replace hx118_1 := kc_ HB hx118_1; replace hx118_0 := cf0_1_ (fr_ hn118_0) hx118_0; replace hx118_1 := cf0_1_ (fr_ hn118_0) hx118_1; (try have hy118_0 := gcf0_1_ (fr_ hn118_0) hx118_0); (try have hy118_1 := gcf0_1_ (fr_ hn118_0) hx118_1); clear hn118_0; clear hn118_1; replace p118 := eq_true p118; replace q118 := eq_true q118)); try go_wp2_with (first | ((with_reducible refine gate_dst (N := 4) rfl ?_); (try (refine gate_guard (by rfl) ?_; dsimp only)); refine be_ (N := 4) (cs := #[.int .i64 0, .string (⟨#[]⟩ : ByteArray)]) (t := 91) ?_; intro gb116 hg w24 hbox hb; have BK116 := Aside0.mk (hbox); have GW116 := gw_ (w := w) hg; have GE116 := gw_ (w := w) hg; replace HB := Aside0.mk (below_step bl_ hb); have NB113_116 := Aside0.mk ((by rw [hg]; exact Nat.ne_of_lt (blk_lt (bk_ BK113)) : gb113 ≠ gb116)); have NB116_113 := Aside0.mk ((by rw [hg]; exact Nat.ne_of_gt (blk_lt (bk_ BK113)) : gb116 ≠ gb113)); replace BK113 := Aside0.mk (blk_below (bk_ BK113) hb); clear hb hbox hg; have hnb25 := NB116_113.out; have hnc25 := NB113_116.out; obtain ⟨hcz26_0, hcz26_1, hfz26_0, hfz26_1⟩ := bx2_ BK116) | (go_at_call 77; (with_reducible refine (spec_FieldOk.calls k2 ((rd_T91 l0_1 x18_2).f0) ((rd_T91 l0_1 x18_2).f1) true _ A13.out).mono ?_); rintro e w' ⟨rfl, ⟨nd, rfl⟩⟩; (try first | exact ⟨rfl, _, World.drewN_drewN _ _ _⟩ | exact ⟨rfl, _, Eq.trans (World.drewN_drewN _ _ _) (congrArg (World.drewN _) (Nat.add_assoc _ _ _))⟩); obtain ⟨hcz27_0, hcz27_1, hfz27_0, hfz27_1⟩ := bx2_ BK113; have p118 : 0 ≤ ((ji16) : Int) := od_; have q118 : (ji16) < (l0_1.length : Int) := od_; obtain ⟨ad118, e118, hx118_0, hx118_1⟩ := at_T91 HR0_1.out (ji16) p118 q118; obtain rfl : ad115 = ad118 := (by injection e118); have hn118_0 : ad115.block ≠ gb116 := nl_ hx118_0 GW116; have hn118_1 : ad115.block ≠ gb116 := nl_ hx118_0 GW116; replace hx118_0 := kc_ HB hx118_0; replace hx118_1 := kc_ HB hx118_1; replace hx118_0 := cf0_1_ (fr_ hn118_0) hx118_0; replace hx118_1 := cf0_1_ (fr_ hn118_0) hx118_1; (try have hy118_0 := gcf0_1_ (fr_ hn118_0) hx118_0); (try have hy118_1 := gcf0_1_ (fr_ hn118_0) hx118_1); clear hn118_0; clear hn118_1; replace p118 := eq_true p118; replace q118 := eq_true q118)))
              go_roundg k2
              case measure => have := HJ1.out; have := HK2.out; omega
              case rel => exact ⟨(wrap64 (x18_2 + 1)), sp_, H', ⟨by have := HJ1.out; have := HK2.out; omega⟩, ⟨by (with_reducible repeat (first | refine blk_drewN ?_ _ | refine blk_drew ?_ | refine blk_alloc ?_ _)); refine blk_far ?_ NB113_116.out _; (with_reducible repeat (first | refine blk_drewN ?_ _ | refine blk_drew ?_ | refine blk_alloc ?_ _)); refine blk_far ?_ NB113_116.out _; (with_reducible repeat (first | refine blk_drewN ?_ _ | refine blk_drew ?_ | refine blk_alloc ?_ _)); exact BK113.out⟩, ⟨bl_⟩⟩
            ·rw [if_neg c18] at H
             exact absurd H (by simp)
           ·rw [if_neg c17] at H
            exact absurd H (by simp)
          ·rw [if_neg c15] at H
           have c15b0 : decide (0 < x18_2) = false := decide_eq_false c15
           clear c15
           have H' := Aside0.mk H
           clear H
           have p115 : 0 ≤ (x18_2 : Int) := od_
           have q115 : x18_2 < (l0_1.length : Int) := od_
           obtain ⟨ad115, e115, hx115_0, hx115_1⟩ := at_T91 HR0_1.out x18_2 p115 q115
           cases e115
           replace hx115_0 := kc_ HB hx115_0
           replace hx115_1 := kc_ HB hx115_1
           replace p115 := eq_true p115
           replace q115 := eq_true q115
           go_wp2_with (first | ((with_reducible refine gate_dst (N := 4) rfl ?_); (try (refine gate_guard (by rfl) ?_; dsimp only)); refine be_ (N := 4) (cs := #[.int .i64 0, .string (⟨#[]⟩ : ByteArray)]) (t := 91) ?_; intro gb116 hg w28 hbox hb; have BK116 := Aside0.mk (hbox); have GW116 := gw_ (w := w) hg; have GE116 := gw_ (w := w) hg; replace HB := Aside0.mk (below_step bl_ hb); have NB113_116 := Aside0.mk ((by rw [hg]; exact Nat.ne_of_lt (blk_lt (bk_ BK113)) : gb113 ≠ gb116)); have NB116_113 := Aside0.mk ((by rw [hg]; exact Nat.ne_of_gt (blk_lt (bk_ BK113)) : gb116 ≠ gb113)); replace BK113 := Aside0.mk (blk_below (bk_ BK113) hb); clear hb hbox hg; have hnb29 := NB116_113.out; have hnc29 := NB113_116.out; obtain ⟨hcz30_0, hcz30_1, hfz30_0, hfz30_1⟩ := bx2_ BK116) | (go_at_call 77; (with_reducible refine (spec_FieldOk.calls k2 ((rd_T91 l0_1 x18_2).f0) ((rd_T91 l0_1 x18_2).f1) true _ A13.out).mono ?_); rintro e w' ⟨rfl, ⟨nd, rfl⟩⟩; (try first | exact ⟨rfl, _, World.drewN_drewN _ _ _⟩ | exact ⟨rfl, _, Eq.trans (World.drewN_drewN _ _ _) (congrArg (World.drewN _) (Nat.add_assoc _ _ _))⟩)))
           repeat (go_quiet (first | ((with_reducible refine gate_dst (N := 4) rfl ?_); (try (refine gate_guard (by rfl) ?_; dsimp only)); refine be_ (N := 4) (cs := #[.int .i64 0, .string (⟨#[]⟩ : ByteArray)]) (t := 91) ?_; intro gb116 hg w28 hbox hb; have BK116 := Aside0.mk (hbox); have GW116 := gw_ (w := w) hg; have GE116 := gw_ (w := w) hg; replace HB := Aside0.mk (below_step bl_ hb); have NB113_116 := Aside0.mk ((by rw [hg]; exact Nat.ne_of_lt (blk_lt (bk_ BK113)) : gb113 ≠ gb116)); have NB116_113 := Aside0.mk ((by rw [hg]; exact Nat.ne_of_gt (blk_lt (bk_ BK113)) : gb116 ≠ gb113)); replace BK113 := Aside0.mk (blk_below (bk_ BK113) hb); clear hb hbox hg; have hnb29 := NB116_113.out; have hnc29 := NB113_116.out; obtain ⟨hcz30_0, hcz30_1, hfz30_0, hfz30_1⟩ := bx2_ BK116) | (go_at_call 77; (with_reducible refine (spec_FieldOk.calls k2 ((rd_T91 l0_1 x18_2).f0) ((rd_T91 l0_1 x18_2).f1) true _ A13.out).mono ?_); rintro e w' ⟨rfl, ⟨nd, rfl⟩⟩; (try first | exact ⟨rfl, _, World.drewN_drewN _ _ _⟩ | exact ⟨rfl, _, Eq.trans (World.drewN_drewN _ _ _) (congrArg (World.drewN _) (Nat.add_assoc _ _ _))⟩))); try go_wp2_with (first | ((with_reducible refine gate_dst (N := 4) rfl ?_); (try (refine gate_guard (by rfl) ?_; dsimp only)); refine be_ (N := 4) (cs := #[.int .i64 0, .string (⟨#[]⟩ : ByteArray)]) (t := 91) ?_; intro gb116 hg w28 hbox hb; have BK116 := Aside0.mk (hbox); have GW116 := gw_ (w := w) hg; have GE116 := gw_ (w := w) hg; replace HB := Aside0.mk (below_step bl_ hb); have NB113_116 := Aside0.mk ((by rw [hg]; exact Nat.ne_of_lt (blk_lt (bk_ BK113)) : gb113 ≠ gb116)); have NB116_113 := Aside0.mk ((by rw [hg]; exact Nat.ne_of_gt (blk_lt (bk_ BK113)) : gb116 ≠ gb113)); replace BK113 := Aside0.mk (blk_below (bk_ BK113) hb); clear hb hbox hg; have hnb29 := NB116_113.out; have hnc29 := NB113_116.out; obtain ⟨hcz30_0, hcz30_1, hfz30_0, hfz30_1⟩ := bx2_ BK116) | (go_at_call 77; (with_reducible refine (spec_FieldOk.calls k2 ((rd_T91 l0_1 x18_2).f0) ((rd_T91 l0_1 x18_2).f1) true _ A13.out).mono ?_); rintro e w' ⟨rfl, ⟨nd, rfl⟩⟩; (try first | exact ⟨rfl, _, World.drewN_drewN _ _ _⟩ | exact ⟨rfl, _, Eq.trans (World.drewN_drewN _ _ _) (congrArg (World.drewN _) (Nat.add_assoc _ _ _))⟩))))
           go_roundg k2
           case measure => have := HJ1.out; have := HK2.out; omega
           case rel => exact ⟨(wrap64 (x18_2 + 1)), sp_, H', ⟨by have := HJ1.out; have := HK2.out; omega⟩, ⟨by (with_reducible repeat (first | refine blk_drewN ?_ _ | refine blk_drew ?_ | refine blk_alloc ?_ _)); refine blk_far ?_ NB113_116.out _; (with_reducible repeat (first | refine blk_drewN ?_ _ | refine blk_drew ?_ | refine blk_alloc ?_ _)); refine blk_far ?_ NB113_116.out _; (with_reducible repeat (first | refine blk_drewN ?_ _ | refine blk_drew ?_ | refine blk_alloc ?_ _)); exact BK113.out⟩, ⟨bl_⟩⟩
         ·replace c14 := Bool.eq_false_iff.mpr c14
          subst c14
          replace H := in_ H
          obtain rfl := Option.some.inj H
          have p115 : 0 ≤ (x18_2 : Int) := od_
          have q115 : x18_2 < (l0_1.length : Int) := od_
          obtain ⟨ad115, e115, hx115_0, hx115_1⟩ := at_T91 HR0_1.out x18_2 p115 q115
          cases e115
          replace hx115_0 := kc_ HB hx115_0
          replace hx115_1 := kc_ HB hx115_1
          replace p115 := eq_true p115
          replace q115 := eq_true q115
          go_wp2_with (first | ((with_reducible refine gate_dst (N := 4) rfl ?_); (try (refine gate_guard (by rfl) ?_; dsimp only)); refine be_ (N := 4) (cs := #[.int .i64 0, .string (⟨#[]⟩ : ByteArray)]) (t := 91) ?_; intro gb116 hg w31 hbox hb; have BK116 := Aside0.mk (hbox); have GW116 := gw_ (w := w) hg; have GE116 := gw_ (w := w) hg; replace HB := Aside0.mk (below_step bl_ hb); have NB113_116 := Aside0.mk ((by rw [hg]; exact Nat.ne_of_lt (blk_lt (bk_ BK113)) : gb113 ≠ gb116)); have NB116_113 := Aside0.mk ((by rw [hg]; exact Nat.ne_of_gt (blk_lt (bk_ BK113)) : gb116 ≠ gb113)); replace BK113 := Aside0.mk (blk_below (bk_ BK113) hb); clear hb hbox hg; have hnb32 := NB116_113.out; have hnc32 := NB113_116.out; obtain ⟨hcz33_0, hcz33_1, hfz33_0, hfz33_1⟩ := bx2_ BK116) | (go_at_call 77; (with_reducible refine (spec_FieldOk.calls k2 ((rd_T91 l0_1 x18_2).f0) ((rd_T91 l0_1 x18_2).f1) false _ A13.out).mono ?_); rintro e w' ⟨rfl, ⟨nd, rfl⟩⟩; (try first | exact ⟨rfl, _, World.drewN_drewN _ _ _⟩ | exact ⟨rfl, _, Eq.trans (World.drewN_drewN _ _ _) (congrArg (World.drewN _) (Nat.add_assoc _ _ _))⟩)))
          repeat (go_quiet (first | ((with_reducible refine gate_dst (N := 4) rfl ?_); (try (refine gate_guard (by rfl) ?_; dsimp only)); refine be_ (N := 4) (cs := #[.int .i64 0, .string (⟨#[]⟩ : ByteArray)]) (t := 91) ?_; intro gb116 hg w31 hbox hb; have BK116 := Aside0.mk (hbox); have GW116 := gw_ (w := w) hg; have GE116 := gw_ (w := w) hg; replace HB := Aside0.mk (below_step bl_ hb); have NB113_116 := Aside0.mk ((by rw [hg]; exact Nat.ne_of_lt (blk_lt (bk_ BK113)) : gb113 ≠ gb116)); have NB116_113 := Aside0.mk ((by rw [hg]; exact Nat.ne_of_gt (blk_lt (bk_ BK113)) : gb116 ≠ gb113)); replace BK113 := Aside0.mk (blk_below (bk_ BK113) hb); clear hb hbox hg; have hnb32 := NB116_113.out; have hnc32 := NB113_116.out; obtain ⟨hcz33_0, hcz33_1, hfz33_0, hfz33_1⟩ := bx2_ BK116) | (go_at_call 77; (with_reducible refine (spec_FieldOk.calls k2 ((rd_T91 l0_1 x18_2).f0) ((rd_T91 l0_1 x18_2).f1) false _ A13.out).mono ?_); rintro e w' ⟨rfl, ⟨nd, rfl⟩⟩; (try first | exact ⟨rfl, _, World.drewN_drewN _ _ _⟩ | exact ⟨rfl, _, Eq.trans (World.drewN_drewN _ _ _) (congrArg (World.drewN _) (Nat.add_assoc _ _ _))⟩))); try go_wp2_with (first | ((with_reducible refine gate_dst (N := 4) rfl ?_); (try (refine gate_guard (by rfl) ?_; dsimp only)); refine be_ (N := 4) (cs := #[.int .i64 0, .string (⟨#[]⟩ : ByteArray)]) (t := 91) ?_; intro gb116 hg w31 hbox hb; have BK116 := Aside0.mk (hbox); have GW116 := gw_ (w := w) hg; have GE116 := gw_ (w := w) hg; replace HB := Aside0.mk (below_step bl_ hb); have NB113_116 := Aside0.mk ((by rw [hg]; exact Nat.ne_of_lt (blk_lt (bk_ BK113)) : gb113 ≠ gb116)); have NB116_113 := Aside0.mk ((by rw [hg]; exact Nat.ne_of_gt (blk_lt (bk_ BK113)) : gb116 ≠ gb113)); replace BK113 := Aside0.mk (blk_below (bk_ BK113) hb); clear hb hbox hg; have hnb32 := NB116_113.out; have hnc32 := NB113_116.out; obtain ⟨hcz33_0, hcz33_1, hfz33_0, hfz33_1⟩ := bx2_ BK116) | (go_at_call 77; (with_reducible refine (spec_FieldOk.calls k2 ((rd_T91 l0_1 x18_2).f0) ((rd_T91 l0_1 x18_2).f1) false _ A13.out).mono ?_); rintro e w' ⟨rfl, ⟨nd, rfl⟩⟩; (try first | exact ⟨rfl, _, World.drewN_drewN _ _ _⟩ | exact ⟨rfl, _, Eq.trans (World.drewN_drewN _ _ _) (congrArg (World.drewN _) (Nat.add_assoc _ _ _))⟩))))
          go_ret
          exact ⟨sq_, bl_⟩
        ·rw [if_neg c12] at H
         exact absurd H (by simp)
       ·rw [if_neg c11] at H
        exact absurd H (by simp)
      ·rw [if_neg c10] at H
       have c10b0 : decide (x18_2 < (l0_1.length : Int)) = false := decide_eq_false c10
       clear c10
       obtain rfl := Option.some.inj H
       go_wp2
       repeat (go_quiet (fail); try go_wp2)
       go_ret
       exact ⟨sq_, bl_⟩
/-! ### spec_MtiKnown: function 37 -/
def spec_MtiKnown.f (a0 : ByteArray) : Option (Bool) := if a0.toList = ([48, 49, 48, 48] : List UInt8) then (some true) else (if a0.toList = ([48, 50, 48, 48] : List UInt8) then (some true) else (some (a0.toList == ([48, 50, 50, 48] : List UInt8))))
set_option maxHeartbeats 8000000 in
set_option maxRecDepth 100000 in
theorem spec_MtiKnown.calls (a0 : ByteArray) (r : Bool) (w : World) (h : spec_MtiKnown.f a0 = some r) :
  Calls Tryz.prog 37 #[.string a0] w fun e w' => e = .returned (.bool r) ∧ Drawn0 w w' := by
 have H : (if a0.toList = ([48, 49, 48, 48] : List UInt8) then (some true) else (if a0.toList = ([48, 50, 48, 48] : List UInt8) then (some true) else (some (a0.toList == ([48, 50, 50, 48] : List UInt8))))) = some r := h
 clear h
 by_cases c2 : a0.toList = ([48, 49, 48, 48] : List UInt8)
 ·rw [if_pos c2] at H
  have c2b0 : (a0.toList == ([48, 49, 48, 48] : List UInt8)) = true := beq_iff_eq.mpr c2
  have c2b1 : (a0.toList != ([48, 49, 48, 48] : List UInt8)) = false := bne_eq_false_iff_eq.mpr c2
  clear c2
  obtain rfl := Option.some.inj H
  go_enter Tryz.func37, Tryz.ntmps37
  go_wp2
  go_ret
  exact ⟨sp_, by repeat (first | exact Drawn0.refl _ | apply Drawn0.step)⟩
 ·rw [if_neg c2] at H
  have c2b0 : (a0.toList == ([48, 49, 48, 48] : List UInt8)) = false := beq_eq_false_iff_ne.mpr c2
  have c2b1 : (a0.toList != ([48, 49, 48, 48] : List UInt8)) = true := bne_iff_ne.mpr c2
  by_cases c3 : a0.toList = ([48, 50, 48, 48] : List UInt8)
  ·rw [if_pos c3] at H
   have c3b0 : (a0.toList == ([48, 50, 48, 48] : List UInt8)) = true := beq_iff_eq.mpr c3
   have c3b1 : (a0.toList != ([48, 50, 48, 48] : List UInt8)) = false := bne_eq_false_iff_eq.mpr c3
   clear c3
   obtain rfl := Option.some.inj H
   go_enter Tryz.func37, Tryz.ntmps37
   go_wp2
   go_ret
   exact ⟨sp_, by repeat (first | exact Drawn0.refl _ | apply Drawn0.step)⟩
  ·rw [if_neg c3] at H
   have c3b0 : (a0.toList == ([48, 50, 48, 48] : List UInt8)) = false := beq_eq_false_iff_ne.mpr c3
   have c3b1 : (a0.toList != ([48, 50, 48, 48] : List UInt8)) = true := bne_iff_ne.mpr c3
   obtain rfl := Option.some.inj H
   go_enter Tryz.func37, Tryz.ntmps37
   go_wp2
   go_ret
   exact ⟨sp_, by repeat (first | exact Drawn0.refl _ | apply Drawn0.step)⟩
/-! ### spec_FieldOf: function 38 -/
def spec_FieldOf.l0 : Nat → Int → List (S91) → Int → Int → Option (ByteArray × Bool)
 | 0, _, _, _, _ => none
 | k + 1, x1, x9, x10, x11 => if x11 < x10 then (if 0 ≤ x11 then (if x11 < (x9.length : Int) then (if ((rd_T91 x9 x11).f0) = x1 then (some ((rd_T91 x9 x11).f1, true)) else (spec_FieldOf.l0 k x1 x9 x10 (wrap64 (x11 + 1)))) else (none)) else (none)) else (some ((⟨#[]⟩ : ByteArray), false))
def spec_FieldOf.f (k : Nat) (a0_0 : ByteArray) (l0_1 : List (S91)) (a1 : Int) : Option (ByteArray × Bool) := spec_FieldOf.l0 k a1 l0_1 (l0_1.length : Int) 0
set_option maxHeartbeats 8000000 in
set_option maxRecDepth 100000 in
theorem spec_FieldOf.calls (k : Nat) (a0_0 : ByteArray) (A0_1 : Option Addr) (c0_1 : Nat) (l0_1 : List (S91)) (a1 : Int) (r1 : ByteArray) (r2 : Bool) (w : World) (hr0_1 : Kd.C k91 w A0_1 l0_1.length l0_1) (hc0_1 : l0_1.length ≤ c0_1) (h : spec_FieldOf.f k a0_0 l0_1 a1 = some (r1, r2)) :
  Calls Tryz.prog 38 #[.agg #[.string a0_0, .slice A0_1 l0_1.length c0_1], .int .i64 a1] w fun e w' => e = .returned (.tuple #[.string r1, .bool r2]) ∧ Below w.heap.size w w' := by
 have hu32 := Tryz.underlying32
 have hu91 := Tryz.underlying91
 have HR0_1 := Aside0.mk hr0_1
 have HC0_1 := Aside0.mk hc0_1
 clear hr0_1 hc0_1
 have HB := Aside0.mk (Below.refl w.heap.size w)
 have H : (spec_FieldOf.l0 k a1 l0_1 (l0_1.length : Int) 0) = some (r1, r2) := h
 clear h
 have H' := Aside0.mk H
 clear H
 go_enter Tryz.func38, Tryz.ntmps38
 go_wp2_with (first | ((with_reducible refine gate_dst (N := 2) rfl ?_); refine be_ (N := 2) (cs := #[.string a0_0, .slice A0_1 l0_1.length c0_1]) (t := 32) ?_; intro gb119 hg w3 hbox hb; have BK119 := Aside0.mk (hbox); have GW119 := gw_ (w := w) hg; have GE119 := gw_ (w := w) hg; replace HB := Aside0.mk (below_step bl_ hb); clear hb hbox hg; obtain ⟨hcz4_0, hcz4_1, hfz4_0, hfz4_1⟩ := bx2_ BK119))
 go_loopg [11] k (fun kq v11 w' => ∃ (x11_1 : Int), v11 = .int .i64 x11_1 ∧ Aside0 (spec_FieldOf.l0 kq a1 l0_1 (l0_1.length : Int) x11_1 = some (r1, r2)) ∧ Aside0 (kq ≤ k) ∧ Aside0 (w'.heap[gb119]? = some (.cells #[.string a0_0, (.slice A0_1 l0_1.length c0_1)] 32 (0, 0))) ∧ Aside0 (Below w.heap.size w w'))
 case atStart => exact ⟨(0), sp_, H', ⟨Nat.le_refl _⟩, ⟨by (with_reducible repeat (first | refine blk_drewN ?_ _ | refine blk_drew ?_ | refine blk_alloc ?_ _)); exact BK119.out⟩, ⟨bl_⟩⟩
 case round =>
  clear H'
  try clear p2
  try clear c3
  try clear hcz4_0
  try clear hcz4_1
  try clear hfz4_0
  try clear hfz4_1
  obtain ⟨x11_1, rfl, HA, HK1, BK119, HB⟩ := hrel
  cases gk with
  | zero => exact absurd HA.out (by simp [spec_FieldOf.l0])
  | succ k1 =>
   have H := HA.out
   clear HA
   simp only [spec_FieldOf.l0] at H
   by_cases c5 : x11_1 < (l0_1.length : Int)
   ·rw [if_pos c5] at H
    have c5b0 : decide (x11_1 < (l0_1.length : Int)) = true := decide_eq_true c5
    clear c5
    by_cases c6 : 0 ≤ x11_1
    ·rw [if_pos c6] at H
     have c6b0 : decide (0 ≤ x11_1) = true := decide_eq_true c6
     clear c6
     by_cases c7 : x11_1 < (l0_1.length : Int)
     ·rw [if_pos c7] at H
      have c7b0 : decide (x11_1 < (l0_1.length : Int)) = true := decide_eq_true c7
      clear c7
      by_cases c8 : ((rd_T91 l0_1 x11_1).f0) = a1
      ·rw [if_pos c8] at H
       have c8b0 : (((rd_T91 l0_1 x11_1).f0) == a1) = true := beq_iff_eq.mpr c8
       have c8b1 : (((rd_T91 l0_1 x11_1).f0) != a1) = false := bne_eq_false_iff_eq.mpr c8
       clear c8
       simp only [Option.some.injEq, Prod.mk.injEq] at H
       obtain ⟨rfl, rfl⟩ := H
       have p120 : 0 ≤ (x11_1 : Int) := od_
       have q120 : x11_1 < (l0_1.length : Int) := od_
       obtain ⟨ad120, e120, hx120_0, hx120_1⟩ := at_T91 HR0_1.out x11_1 p120 q120
       cases e120
       replace hx120_0 := kc_ HB hx120_0
       replace hx120_1 := kc_ HB hx120_1
       replace p120 := eq_true p120
       replace q120 := eq_true q120
       go_wp2_with (first | ((with_reducible refine gate_dst (N := 7) rfl ?_); refine be_ (N := 7) (cs := #[.int .i64 0, .string (⟨#[]⟩ : ByteArray)]) (t := 91) ?_; intro gb121 hg w9 hbox hb; have BK121 := Aside0.mk (hbox); have GW121 := gw_ (w := w) hg; have GE121 := gw_ (w := w) hg; replace HB := Aside0.mk (below_step bl_ hb); have NB119_121 := Aside0.mk ((by rw [hg]; exact Nat.ne_of_lt (blk_lt (bk_ BK119)) : gb119 ≠ gb121)); have NB121_119 := Aside0.mk ((by rw [hg]; exact Nat.ne_of_gt (blk_lt (bk_ BK119)) : gb121 ≠ gb119)); replace BK119 := Aside0.mk (blk_below (bk_ BK119) hb); clear hb hbox hg; have hnb10 := NB121_119.out; have hnc10 := NB119_121.out; obtain ⟨hcz11_0, hcz11_1, hfz11_0, hfz11_1⟩ := bx2_ BK121))
       go_ret2
       exact ⟨sq_, bl_⟩
      ·rw [if_neg c8] at H
       have c8b0 : (((rd_T91 l0_1 x11_1).f0) == a1) = false := beq_eq_false_iff_ne.mpr c8
       have c8b1 : (((rd_T91 l0_1 x11_1).f0) != a1) = true := bne_iff_ne.mpr c8
       have H' := Aside0.mk H
       clear H
       have p120 : 0 ≤ (x11_1 : Int) := od_
       have q120 : x11_1 < (l0_1.length : Int) := od_
       obtain ⟨ad120, e120, hx120_0, hx120_1⟩ := at_T91 HR0_1.out x11_1 p120 q120
       cases e120
       replace hx120_0 := kc_ HB hx120_0
       replace hx120_1 := kc_ HB hx120_1
       replace p120 := eq_true p120
       replace q120 := eq_true q120
       go_wp2_with (first | ((with_reducible refine gate_dst (N := 7) rfl ?_); refine be_ (N := 7) (cs := #[.int .i64 0, .string (⟨#[]⟩ : ByteArray)]) (t := 91) ?_; intro gb121 hg w12 hbox hb; have BK121 := Aside0.mk (hbox); have GW121 := gw_ (w := w) hg; have GE121 := gw_ (w := w) hg; replace HB := Aside0.mk (below_step bl_ hb); have NB119_121 := Aside0.mk ((by rw [hg]; exact Nat.ne_of_lt (blk_lt (bk_ BK119)) : gb119 ≠ gb121)); have NB121_119 := Aside0.mk ((by rw [hg]; exact Nat.ne_of_gt (blk_lt (bk_ BK119)) : gb121 ≠ gb119)); replace BK119 := Aside0.mk (blk_below (bk_ BK119) hb); clear hb hbox hg; have hnb13 := NB121_119.out; have hnc13 := NB119_121.out; obtain ⟨hcz14_0, hcz14_1, hfz14_0, hfz14_1⟩ := bx2_ BK121))
       go_roundg k1
       case measure => have := HK1.out; omega
       case rel => exact ⟨(wrap64 (x11_1 + 1)), sp_, H', ⟨by have := HK1.out; omega⟩, ⟨by (with_reducible repeat (first | refine blk_drewN ?_ _ | refine blk_drew ?_ | refine blk_alloc ?_ _)); refine blk_far ?_ NB119_121.out _; (with_reducible repeat (first | refine blk_drewN ?_ _ | refine blk_drew ?_ | refine blk_alloc ?_ _)); refine blk_far ?_ NB119_121.out _; (with_reducible repeat (first | refine blk_drewN ?_ _ | refine blk_drew ?_ | refine blk_alloc ?_ _)); exact BK119.out⟩, ⟨bl_⟩⟩
     ·rw [if_neg c7] at H
      exact absurd H (by simp)
    ·rw [if_neg c6] at H
     exact absurd H (by simp)
   ·rw [if_neg c5] at H
    have c5b0 : decide (x11_1 < (l0_1.length : Int)) = false := decide_eq_false c5
    clear c5
    simp only [Option.some.injEq, Prod.mk.injEq] at H
    obtain ⟨rfl, rfl⟩ := H
    go_wp2
    go_ret2
    exact ⟨sq_, bl_⟩
/-! ### spec_l11Op: function 80 -/
def spec_l11Op.f (a0 : Int) : Option (Bool) := (spec_l01In.f a0 1 8).bind fun t122 => (some t122)
set_option maxHeartbeats 8000000 in
set_option maxRecDepth 100000 in
theorem spec_l11Op.calls (a0 : Int) (r : Bool) (w : World) (h : spec_l11Op.f a0 = some r) :
  Calls Tryz.prog 80 #[.int .i64 a0] w fun e w' => e = .returned (.bool r) ∧ Drawn0 w w' := by
 have H : ((spec_l01In.f a0 1 8).bind fun t122 => (some t122)) = some r := h
 clear h
 obtain ⟨t122, A2, H⟩ := ob_ H
 obtain rfl := Option.some.inj H
 go_enter Tryz.func80, Tryz.ntmps80
 go_wp2_with (first | ((with_reducible refine gate_callee (f := 67) rfl ?_); refine goesL_ (some 4) rfl rfl Tryz.func67 (by kernel_rfl) rfl #[.int .i64 a0, .int .i64 1, .int .i64 8] rfl gl_ ?_; (with_reducible refine (spec_l01In.calls a0 1 8 t122 _ A2.out).mono ?_); rintro e w' ⟨rfl, ⟨nd, rfl⟩⟩; refine ⟨_, rfl, ?_⟩))
 go_ret
 exact ⟨sp_, by repeat (first | exact Drawn0.refl _ | apply Drawn0.step)⟩
/-! ### spec_l11Mtis: function 109 -/
def spec_l11Mtis.f  : Option (List ByteArray) := some (([(⟨#[]⟩ : ByteArray), (⟨#[48, 49, 48, 48]⟩ : ByteArray), (⟨#[48, 49, 48, 48]⟩ : ByteArray), (⟨#[48, 50, 50, 48]⟩ : ByteArray), (⟨#[48, 50, 50, 48]⟩ : ByteArray), (⟨#[48, 50, 50, 48]⟩ : ByteArray), (⟨#[48, 50, 48, 48]⟩ : ByteArray), (⟨#[48, 49, 48, 48]⟩ : ByteArray), (⟨#[48, 50, 48, 48]⟩ : ByteArray)] : List ByteArray))
set_option maxHeartbeats 8000000 in
set_option maxRecDepth 100000 in
theorem spec_l11Mtis.calls  (r : List ByteArray) (w : World) (h : spec_l11Mtis.f  = some r) :
  Calls Tryz.prog 109 #[] w fun e w' => ∃ v0_ : Value, e = .returned (v0_) ∧ Kd.R Kd.string 9 w' w.heap.size (fun _ => True) v0_ r ∧ Below w.heap.size w w' := by
 have HB := Aside0.mk (Below.refl w.heap.size w)
 have H : (some (([(⟨#[]⟩ : ByteArray), (⟨#[48, 49, 48, 48]⟩ : ByteArray), (⟨#[48, 49, 48, 48]⟩ : ByteArray), (⟨#[48, 50, 50, 48]⟩ : ByteArray), (⟨#[48, 50, 50, 48]⟩ : ByteArray), (⟨#[48, 50, 50, 48]⟩ : ByteArray), (⟨#[48, 50, 48, 48]⟩ : ByteArray), (⟨#[48, 49, 48, 48]⟩ : ByteArray), (⟨#[48, 50, 48, 48]⟩ : ByteArray)] : List ByteArray))) = some r := h
 clear h
 obtain ⟨y123, hy123⟩ : ∃ y_ : List ByteArray, y_ = (([(⟨#[]⟩ : ByteArray), (⟨#[48, 49, 48, 48]⟩ : ByteArray), (⟨#[48, 49, 48, 48]⟩ : ByteArray), (⟨#[48, 50, 50, 48]⟩ : ByteArray), (⟨#[48, 50, 50, 48]⟩ : ByteArray), (⟨#[48, 50, 50, 48]⟩ : ByteArray), (⟨#[48, 50, 48, 48]⟩ : ByteArray), (⟨#[48, 49, 48, 48]⟩ : ByteArray), (⟨#[48, 50, 48, 48]⟩ : ByteArray)] : List ByteArray)) := ⟨_, rfl⟩
 replace H : (some y123) = some r := by first | (rw [hy123]; with_reducible exact H) | (have H2_ := (Option.bind_some _ _).symm.trans H; rw [hy123]; with_reducible exact H2_) | (have H2_ := (Option.bind_some _ _).symm.trans H; with_reducible exact H2_) | with_reducible exact H | (rw [hy123]; exact H) | exact H
 have Ny123 := Aside0.mk hy123
 clear hy123
 obtain rfl := Option.some.inj H
 go_enter Tryz.func109, Tryz.ntmps109
 go_wp2_with (first | ((with_reducible refine gate_dst (N := 1) rfl ?_); refine Kd.R_lit Kd.string _ 9 ?hg (N := 1) ?hd (xs := ([(⟨#[]⟩ : ByteArray), (⟨#[48, 49, 48, 48]⟩ : ByteArray), (⟨#[48, 49, 48, 48]⟩ : ByteArray), (⟨#[48, 50, 50, 48]⟩ : ByteArray), (⟨#[48, 50, 50, 48]⟩ : ByteArray), (⟨#[48, 50, 50, 48]⟩ : ByteArray), (⟨#[48, 50, 48, 48]⟩ : ByteArray), (⟨#[48, 49, 48, 48]⟩ : ByteArray), (⟨#[48, 50, 48, 48]⟩ : ByteArray)] : List ByteArray)) (inner := [.string (⟨#[]⟩ : ByteArray), .string (⟨#[48, 49, 48, 48]⟩ : ByteArray), .string (⟨#[48, 49, 48, 48]⟩ : ByteArray), .string (⟨#[48, 50, 50, 48]⟩ : ByteArray), .string (⟨#[48, 50, 50, 48]⟩ : ByteArray), .string (⟨#[48, 50, 50, 48]⟩ : ByteArray), .string (⟨#[48, 50, 48, 48]⟩ : ByteArray), .string (⟨#[48, 49, 48, 48]⟩ : ByteArray), .string (⟨#[48, 50, 48, 48]⟩ : ByteArray)]) (ok := fun _ => True) (okp := fun _ => True) ?hr ?hp (fun _ hk => hk) trivial (Below.refl _ _) (Nat.le_refl _) (by simp) ?_; (case hd => rfl); (case hg => rfl); (case hr => first | (go_simp; done) | (go_simp; rfl)); (case hp => exact (Reps.one (show Kd.M Kd.string _ _ _ (⟨#[]⟩ : ByteArray) [.string (⟨#[]⟩ : ByteArray)] from rfl) (Reps.one (show Kd.M Kd.string _ _ _ (⟨#[48, 49, 48, 48]⟩ : ByteArray) [.string (⟨#[48, 49, 48, 48]⟩ : ByteArray)] from rfl) (Reps.one (show Kd.M Kd.string _ _ _ (⟨#[48, 49, 48, 48]⟩ : ByteArray) [.string (⟨#[48, 49, 48, 48]⟩ : ByteArray)] from rfl) (Reps.one (show Kd.M Kd.string _ _ _ (⟨#[48, 50, 50, 48]⟩ : ByteArray) [.string (⟨#[48, 50, 50, 48]⟩ : ByteArray)] from rfl) (Reps.one (show Kd.M Kd.string _ _ _ (⟨#[48, 50, 50, 48]⟩ : ByteArray) [.string (⟨#[48, 50, 50, 48]⟩ : ByteArray)] from rfl) (Reps.one (show Kd.M Kd.string _ _ _ (⟨#[48, 50, 50, 48]⟩ : ByteArray) [.string (⟨#[48, 50, 50, 48]⟩ : ByteArray)] from rfl) (Reps.one (show Kd.M Kd.string _ _ _ (⟨#[48, 50, 48, 48]⟩ : ByteArray) [.string (⟨#[48, 50, 48, 48]⟩ : ByteArray)] from rfl) (Reps.one (show Kd.M Kd.string _ _ _ (⟨#[48, 49, 48, 48]⟩ : ByteArray) [.string (⟨#[48, 49, 48, 48]⟩ : ByteArray)] from rfl) (Reps.one (show Kd.M Kd.string _ _ _ (⟨#[48, 50, 48, 48]⟩ : ByteArray) [.string (⟨#[48, 50, 48, 48]⟩ : ByteArray)] from rfl) (Reps.none _ _))))))))))); intro v124 w1 ho2 hb hg_ hnew_; clear hg_ hnew_; (first | rw [← Ny123.out] at ho2 | (simp only [Int.reduceToNat] at ho2; rw [← Ny123.out] at ho2)); have HO125 := Aside0.mk (Kd.R_lower ho2 (below_size bl_)); replace HB := Aside0.mk (below_step bl_ hb); clear hb ho2))
 go_ret
 exact ⟨_, by first | rfl | (simp [errW_none, errW_some] <;> rfl) | (simp [*, errW_none, errW_some] <;> rfl), ra_ HO125, bl_⟩
/-! ### spec_OpMti: function 78 -/
def spec_OpMti.f (a0 : Int) : Option (ByteArray) := (spec_l11Op.f a0).bind fun t126 => (if t126 = true then ((spec_l11Mtis.f).bind fun t127 => (if 0 ≤ a0 then (if a0 < (t127.length : Int) then (some (rdOf ByteArray.empty t127 a0)) else (none)) else (none))) else (some (⟨#[]⟩ : ByteArray)))
set_option maxHeartbeats 8000000 in
set_option maxRecDepth 100000 in
theorem spec_OpMti.calls (a0 : Int) (r : ByteArray) (w : World) (h : spec_OpMti.f a0 = some r) :
  Calls Tryz.prog 78 #[.int .i64 a0] w fun e w' => e = .returned (.string r) ∧ Below w.heap.size w w' := by
 have HB := Aside0.mk (Below.refl w.heap.size w)
 have H : ((spec_l11Op.f a0).bind fun t126 => (if t126 = true then ((spec_l11Mtis.f).bind fun t127 => (if 0 ≤ a0 then (if a0 < (t127.length : Int) then (some (rdOf ByteArray.empty t127 a0)) else (none)) else (none))) else (some (⟨#[]⟩ : ByteArray)))) = some r := h
 clear h
 obtain ⟨t126, A2, H⟩ := ob_ H
 by_cases c3 : t126 = true
 ·subst c3
  replace H := ip_ H
  obtain ⟨t127, A4, H⟩ := ob_ H
  by_cases c5 : 0 ≤ a0
  ·rw [if_pos c5] at H
   have c5b0 : decide (0 ≤ a0) = true := decide_eq_true c5
   clear c5
   by_cases c6 : a0 < (t127.length : Int)
   ·rw [if_pos c6] at H
    have c6b0 : decide (a0 < (t127.length : Int)) = true := decide_eq_true c6
    clear c6
    obtain rfl := Option.some.inj H
    go_enter Tryz.func78, Tryz.ntmps78
    go_wp2_with (first | ((with_reducible refine gate_callee (f := 80) rfl ?_); refine goesL_ (some 4) rfl rfl Tryz.func80 (by kernel_rfl) rfl #[.int .i64 a0] rfl gl_ ?_; (with_reducible refine (spec_l11Op.calls a0 true _ A2.out).mono ?_); rintro e w' ⟨rfl, ⟨nd, rfl⟩⟩; refine ⟨_, rfl, ?_⟩) | ((with_reducible refine gate_callee (f := 109) rfl ?_); refine goesL_ (some 6) rfl rfl Tryz.func109 (by kernel_rfl) rfl #[] rfl gl_ ?_; (with_reducible refine (spec_l11Mtis.calls  t127 _ A4.out).mono ?_); rintro e w7 ⟨v128, rfl, ho0, hb⟩; refine ⟨_, rfl, ?_⟩; have HO129 := Aside0.mk (Kd.R_lower ho0 (below_size bl_)); replace HB := Aside0.mk (below_step bl_ hb); (try clear hb); (try clear hb2); (try clear hk); (try clear hi); (try clear ho0); obtain ⟨Ao8, co8, eo8⟩ := Kd.R_slice HO129.out; subst eo8; have p130 : 0 ≤ (a0 : Int) := od_; have q130 : a0 < (t127.length : Int) := od_; obtain ⟨ad130, e130, hx130_0⟩ := Kd.at_string (Kd.R_reads' HO129.out).2.2 a0 p130 q130; cases e130; replace p130 := eq_true p130; replace q130 := eq_true q130))
    go_ret
    exact ⟨sq_, bl_⟩
   ·rw [if_neg c6] at H
    exact absurd H (by simp)
  ·rw [if_neg c5] at H
   exact absurd H (by simp)
 ·replace c3 := Bool.eq_false_iff.mpr c3
  subst c3
  replace H := in_ H
  obtain rfl := Option.some.inj H
  go_enter Tryz.func78, Tryz.ntmps78
  go_wp2_with (first | ((with_reducible refine gate_callee (f := 80) rfl ?_); refine goesL_ (some 4) rfl rfl Tryz.func80 (by kernel_rfl) rfl #[.int .i64 a0] rfl gl_ ?_; (with_reducible refine (spec_l11Op.calls a0 false _ A2.out).mono ?_); rintro e w' ⟨rfl, ⟨nd, rfl⟩⟩; refine ⟨_, rfl, ?_⟩))
  go_ret
  exact ⟨sq_, bl_⟩
/-! ### spec_l11Codes: function 110 -/
def spec_l11Codes.f  : Option (List ByteArray) := some (([(⟨#[]⟩ : ByteArray), (⟨#[48, 48]⟩ : ByteArray), (⟨#[48, 50]⟩ : ByteArray), (⟨#[48, 49]⟩ : ByteArray), (⟨#[48, 48]⟩ : ByteArray), (⟨#[50, 48]⟩ : ByteArray), (⟨#[52, 48]⟩ : ByteArray), (⟨#[51, 49]⟩ : ByteArray), (⟨#[57, 48]⟩ : ByteArray)] : List ByteArray))
set_option maxHeartbeats 8000000 in
set_option maxRecDepth 100000 in
theorem spec_l11Codes.calls  (r : List ByteArray) (w : World) (h : spec_l11Codes.f  = some r) :
  Calls Tryz.prog 110 #[] w fun e w' => ∃ v0_ : Value, e = .returned (v0_) ∧ Kd.R Kd.string 9 w' w.heap.size (fun _ => True) v0_ r ∧ Below w.heap.size w w' := by
 have HB := Aside0.mk (Below.refl w.heap.size w)
 have H : (some (([(⟨#[]⟩ : ByteArray), (⟨#[48, 48]⟩ : ByteArray), (⟨#[48, 50]⟩ : ByteArray), (⟨#[48, 49]⟩ : ByteArray), (⟨#[48, 48]⟩ : ByteArray), (⟨#[50, 48]⟩ : ByteArray), (⟨#[52, 48]⟩ : ByteArray), (⟨#[51, 49]⟩ : ByteArray), (⟨#[57, 48]⟩ : ByteArray)] : List ByteArray))) = some r := h
 clear h
 obtain ⟨y131, hy131⟩ : ∃ y_ : List ByteArray, y_ = (([(⟨#[]⟩ : ByteArray), (⟨#[48, 48]⟩ : ByteArray), (⟨#[48, 50]⟩ : ByteArray), (⟨#[48, 49]⟩ : ByteArray), (⟨#[48, 48]⟩ : ByteArray), (⟨#[50, 48]⟩ : ByteArray), (⟨#[52, 48]⟩ : ByteArray), (⟨#[51, 49]⟩ : ByteArray), (⟨#[57, 48]⟩ : ByteArray)] : List ByteArray)) := ⟨_, rfl⟩
 replace H : (some y131) = some r := by first | (rw [hy131]; with_reducible exact H) | (have H2_ := (Option.bind_some _ _).symm.trans H; rw [hy131]; with_reducible exact H2_) | (have H2_ := (Option.bind_some _ _).symm.trans H; with_reducible exact H2_) | with_reducible exact H | (rw [hy131]; exact H) | exact H
 have Ny131 := Aside0.mk hy131
 clear hy131
 obtain rfl := Option.some.inj H
 go_enter Tryz.func110, Tryz.ntmps110
 go_wp2_with (first | ((with_reducible refine gate_dst (N := 1) rfl ?_); refine Kd.R_lit Kd.string _ 9 ?hg (N := 1) ?hd (xs := ([(⟨#[]⟩ : ByteArray), (⟨#[48, 48]⟩ : ByteArray), (⟨#[48, 50]⟩ : ByteArray), (⟨#[48, 49]⟩ : ByteArray), (⟨#[48, 48]⟩ : ByteArray), (⟨#[50, 48]⟩ : ByteArray), (⟨#[52, 48]⟩ : ByteArray), (⟨#[51, 49]⟩ : ByteArray), (⟨#[57, 48]⟩ : ByteArray)] : List ByteArray)) (inner := [.string (⟨#[]⟩ : ByteArray), .string (⟨#[48, 48]⟩ : ByteArray), .string (⟨#[48, 50]⟩ : ByteArray), .string (⟨#[48, 49]⟩ : ByteArray), .string (⟨#[48, 48]⟩ : ByteArray), .string (⟨#[50, 48]⟩ : ByteArray), .string (⟨#[52, 48]⟩ : ByteArray), .string (⟨#[51, 49]⟩ : ByteArray), .string (⟨#[57, 48]⟩ : ByteArray)]) (ok := fun _ => True) (okp := fun _ => True) ?hr ?hp (fun _ hk => hk) trivial (Below.refl _ _) (Nat.le_refl _) (by simp) ?_; (case hd => rfl); (case hg => rfl); (case hr => first | (go_simp; done) | (go_simp; rfl)); (case hp => exact (Reps.one (show Kd.M Kd.string _ _ _ (⟨#[]⟩ : ByteArray) [.string (⟨#[]⟩ : ByteArray)] from rfl) (Reps.one (show Kd.M Kd.string _ _ _ (⟨#[48, 48]⟩ : ByteArray) [.string (⟨#[48, 48]⟩ : ByteArray)] from rfl) (Reps.one (show Kd.M Kd.string _ _ _ (⟨#[48, 50]⟩ : ByteArray) [.string (⟨#[48, 50]⟩ : ByteArray)] from rfl) (Reps.one (show Kd.M Kd.string _ _ _ (⟨#[48, 49]⟩ : ByteArray) [.string (⟨#[48, 49]⟩ : ByteArray)] from rfl) (Reps.one (show Kd.M Kd.string _ _ _ (⟨#[48, 48]⟩ : ByteArray) [.string (⟨#[48, 48]⟩ : ByteArray)] from rfl) (Reps.one (show Kd.M Kd.string _ _ _ (⟨#[50, 48]⟩ : ByteArray) [.string (⟨#[50, 48]⟩ : ByteArray)] from rfl) (Reps.one (show Kd.M Kd.string _ _ _ (⟨#[52, 48]⟩ : ByteArray) [.string (⟨#[52, 48]⟩ : ByteArray)] from rfl) (Reps.one (show Kd.M Kd.string _ _ _ (⟨#[51, 49]⟩ : ByteArray) [.string (⟨#[51, 49]⟩ : ByteArray)] from rfl) (Reps.one (show Kd.M Kd.string _ _ _ (⟨#[57, 48]⟩ : ByteArray) [.string (⟨#[57, 48]⟩ : ByteArray)] from rfl) (Reps.none _ _))))))))))); intro v132 w1 ho2 hb hg_ hnew_; clear hg_ hnew_; (first | rw [← Ny131.out] at ho2 | (simp only [Int.reduceToNat] at ho2; rw [← Ny131.out] at ho2)); have HO133 := Aside0.mk (Kd.R_lower ho2 (below_size bl_)); replace HB := Aside0.mk (below_step bl_ hb); clear hb ho2))
 go_ret
 exact ⟨_, by first | rfl | (simp [errW_none, errW_some] <;> rfl) | (simp [*, errW_none, errW_some] <;> rfl), ra_ HO133, bl_⟩
/-! ### spec_OpCode: function 79 -/
def spec_OpCode.f (a0 : Int) : Option (ByteArray) := (spec_l11Op.f a0).bind fun t134 => (if t134 = true then ((spec_l11Codes.f).bind fun t135 => (if 0 ≤ a0 then (if a0 < (t135.length : Int) then (some (rdOf ByteArray.empty t135 a0)) else (none)) else (none))) else (some (⟨#[]⟩ : ByteArray)))
set_option maxHeartbeats 8000000 in
set_option maxRecDepth 100000 in
theorem spec_OpCode.calls (a0 : Int) (r : ByteArray) (w : World) (h : spec_OpCode.f a0 = some r) :
  Calls Tryz.prog 79 #[.int .i64 a0] w fun e w' => e = .returned (.string r) ∧ Below w.heap.size w w' := by
 have HB := Aside0.mk (Below.refl w.heap.size w)
 have H : ((spec_l11Op.f a0).bind fun t134 => (if t134 = true then ((spec_l11Codes.f).bind fun t135 => (if 0 ≤ a0 then (if a0 < (t135.length : Int) then (some (rdOf ByteArray.empty t135 a0)) else (none)) else (none))) else (some (⟨#[]⟩ : ByteArray)))) = some r := h
 clear h
 obtain ⟨t134, A2, H⟩ := ob_ H
 by_cases c3 : t134 = true
 ·subst c3
  replace H := ip_ H
  obtain ⟨t135, A4, H⟩ := ob_ H
  by_cases c5 : 0 ≤ a0
  ·rw [if_pos c5] at H
   have c5b0 : decide (0 ≤ a0) = true := decide_eq_true c5
   clear c5
   by_cases c6 : a0 < (t135.length : Int)
   ·rw [if_pos c6] at H
    have c6b0 : decide (a0 < (t135.length : Int)) = true := decide_eq_true c6
    clear c6
    obtain rfl := Option.some.inj H
    go_enter Tryz.func79, Tryz.ntmps79
    go_wp2_with (first | ((with_reducible refine gate_callee (f := 80) rfl ?_); refine goesL_ (some 4) rfl rfl Tryz.func80 (by kernel_rfl) rfl #[.int .i64 a0] rfl gl_ ?_; (with_reducible refine (spec_l11Op.calls a0 true _ A2.out).mono ?_); rintro e w' ⟨rfl, ⟨nd, rfl⟩⟩; refine ⟨_, rfl, ?_⟩) | ((with_reducible refine gate_callee (f := 110) rfl ?_); refine goesL_ (some 6) rfl rfl Tryz.func110 (by kernel_rfl) rfl #[] rfl gl_ ?_; (with_reducible refine (spec_l11Codes.calls  t135 _ A4.out).mono ?_); rintro e w7 ⟨v136, rfl, ho0, hb⟩; refine ⟨_, rfl, ?_⟩; have HO137 := Aside0.mk (Kd.R_lower ho0 (below_size bl_)); replace HB := Aside0.mk (below_step bl_ hb); (try clear hb); (try clear hb2); (try clear hk); (try clear hi); (try clear ho0); obtain ⟨Ao8, co8, eo8⟩ := Kd.R_slice HO137.out; subst eo8; have p138 : 0 ≤ (a0 : Int) := od_; have q138 : a0 < (t135.length : Int) := od_; obtain ⟨ad138, e138, hx138_0⟩ := Kd.at_string (Kd.R_reads' HO137.out).2.2 a0 p138 q138; cases e138; replace p138 := eq_true p138; replace q138 := eq_true q138))
    go_ret
    exact ⟨sq_, bl_⟩
   ·rw [if_neg c6] at H
    exact absurd H (by simp)
  ·rw [if_neg c5] at H
   exact absurd H (by simp)
 ·replace c3 := Bool.eq_false_iff.mpr c3
  subst c3
  replace H := in_ H
  obtain rfl := Option.some.inj H
  go_enter Tryz.func79, Tryz.ntmps79
  go_wp2_with (first | ((with_reducible refine gate_callee (f := 80) rfl ?_); refine goesL_ (some 4) rfl rfl Tryz.func80 (by kernel_rfl) rfl #[.int .i64 a0] rfl gl_ ?_; (with_reducible refine (spec_l11Op.calls a0 false _ A2.out).mono ?_); rintro e w' ⟨rfl, ⟨nd, rfl⟩⟩; refine ⟨_, rfl, ?_⟩))
  go_ret
  exact ⟨sq_, bl_⟩
end Go.Proofs.YtohfefkjcnbejaaGreatDoor.QFnExactReqOf
