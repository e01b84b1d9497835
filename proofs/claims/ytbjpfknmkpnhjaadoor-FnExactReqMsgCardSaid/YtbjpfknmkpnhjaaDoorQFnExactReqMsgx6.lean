-- by my own printer (myprint.py, over the kit's print.py)
import Derived.Test.YtbjpfknmkpnhjaaDoorQFnExactReqMsgx0
import Derived.Test.YtbjpfknmkpnhjaaDoorQFnExactReqMsgx1
import Derived.Test.YtbjpfknmkpnhjaaDoorQFnExactReqMsgx5
namespace Go.Proofs.YtbjpfknmkpnhjaaDoor.QFnExactReqMsg
open Go.RowKit Go.Proofs.YtbjpfknmkpnhjaaDoorW.PrintWords Go.Proofs.YtbjpfknmkpnhjaaDoorW.PrintLast Go.Proofs.YtbjpfknmkpnhjaaDoorW.PrintMore
attribute [local go_sem] max2_int min2_int max_two min_two max_three min_three max_four min_four   -- for this text's walks alone
set_option linter.unusedVariables false
set_option linter.unusedSimpArgs false
attribute [local go_sem] my_geq my_leq my_gtr
/-! ### spec_MsgOk: function 70 -/
mutual
def spec_MsgOk.j0 : Nat → Bool → ByteArray → List (S67) → Option (Bool)
 | 0, _, _, _ => none
 | k + 1, x14, x142000, x142001 => if x14 = true then (some false) else (spec_MsgOk.l0 k x142001 (x142001.length : Int) 0 x142000 x142001)
def spec_MsgOk.l0 : Nat → List (S67) → Int → Int → ByteArray → List (S67) → Option (Bool)
 | 0, _, _, _, _, _ => none
 | k + 1, x16, x17, x18, x142000, x142001 => if x18 < x17 then (if 0 ≤ x18 then (if x18 < (x16.length : Int) then ((spec_FieldOk.f k ((rd_T67 x16 x18).f0) ((rd_T67 x16 x18).f1)).bind fun t145 => (if t145 = true then (if x18 > 0 then (if 0 ≤ (wrap64 (x18 - 1)) then (if (wrap64 (x18 - 1)) < (x142001.length : Int) then (if ((rd_T67 x142001 (wrap64 (x18 - 1))).f0) ≥ ((rd_T67 x16 x18).f0) then (some false) else (spec_MsgOk.l0 k x16 x17 (wrap64 (x18 + 1)) x142000 x142001)) else (none)) else (none)) else (spec_MsgOk.l0 k x16 x17 (wrap64 (x18 + 1)) x142000 x142001)) else (some false))) else (none)) else (none)) else (some true)
end
def spec_MsgOk.f (k : Nat) (a0_0 : ByteArray) (l0_1 : List (S67)) : Option (Bool) := (spec_Digits.f k a0_0).bind fun t142 => (if t142 = true then (spec_MsgOk.j0 k ((a0_0.size : Int) != 4) a0_0 l0_1) else (spec_MsgOk.j0 k true a0_0 l0_1))
set_option maxHeartbeats 8000000 in
set_option maxRecDepth 100000 in
theorem spec_MsgOk.calls (k : Nat) (a0_0 : ByteArray) (A0_1 : Option Addr) (c0_1 : Nat) (l0_1 : List (S67)) (r : Bool) (w : World) (hr0_1 : Kd.C k67 w A0_1 l0_1.length l0_1) (hc0_1 : l0_1.length ≤ c0_1) (h : spec_MsgOk.f k a0_0 l0_1 = some r) :
  Calls Tryd.prog 70 #[.agg #[.string a0_0, .slice A0_1 l0_1.length c0_1]] w fun e w' => e = .returned (.bool r) ∧ Below w.heap.size w w' := by
 have hu42 := Tryd.underlying42
 have hu67 := Tryd.underlying67
 have HR0_1 := Aside0.mk hr0_1
 have HC0_1 := Aside0.mk hc0_1
 clear hr0_1 hc0_1
 have HB := Aside0.mk (Below.refl w.heap.size w)
 have H : ((spec_Digits.f k a0_0).bind fun t142 => (if t142 = true then (spec_MsgOk.j0 k ((a0_0.size : Int) != 4) a0_0 l0_1) else (spec_MsgOk.j0 k true a0_0 l0_1))) = some r := h
 clear h
 have HC2 := Aside0.mk H
 clear H
 go_enter Tryd.func70, Tryd.ntmps70
 go_upto_region 1 with (first | ((with_reducible refine gate_dst (N := 1) rfl ?_); (try (refine gate_guard (by rfl) ?_; dsimp only)); refine be_ (N := 1) (cs := #[.string a0_0, .slice A0_1 l0_1.length c0_1]) (t := 42) ?_; intro gb141 hg w3 hbox hb; have BK141 := Aside0.mk (hbox); have GW141 := gw_ (w := w) hg; have GE141 := gw_ (w := w) hg; replace HB := Aside0.mk (below_step bl_ hb); clear hb hbox hg))
 repeat (go_quiet (first | ((with_reducible refine gate_dst (N := 1) rfl ?_); (try (refine gate_guard (by rfl) ?_; dsimp only)); refine be_ (N := 1) (cs := #[.string a0_0, .slice A0_1 l0_1.length c0_1]) (t := 42) ?_; intro gb141 hg w3 hbox hb; have BK141 := Aside0.mk (hbox); have GW141 := gw_ (w := w) hg; have GE141 := gw_ (w := w) hg; replace HB := Aside0.mk (below_step bl_ hb); clear hb hbox hg)); go_upto_region 1 with (first | ((with_reducible refine gate_dst (N := 1) rfl ?_); (try (refine gate_guard (by rfl) ?_; dsimp only)); refine be_ (N := 1) (cs := #[.string a0_0, .slice A0_1 l0_1.length c0_1]) (t := 42) ?_; intro gb141 hg w3 hbox hb; have BK141 := Aside0.mk (hbox); have GW141 := gw_ (w := w) hg; have GE141 := gw_ (w := w) hg; replace HB := Aside0.mk (below_step bl_ hb); clear hb hbox hg)))
 (try simp only [Act.put, List.setIfInBounds_toArray, List.set_cons_zero, List.set_cons_succ])
 go_cut [14] (fun v14 wc => ∃ (kq : Nat) (x14_1 : Bool), v14 = .bool x14_1 ∧ Aside0 (spec_MsgOk.j0 kq x14_1 a0_0 l0_1 = some r) ∧ Aside0 (kq ≤ k) ∧ Aside0 (wc.heap[gb141]? = some (.cells #[.string a0_0, (.slice A0_1 l0_1.length c0_1)] 42 (0, 0))) ∧ Aside0 (Below w.heap.size w wc))
 case first =>
  have H := HC2.out
  clear HC2
  obtain ⟨t142, A4, H⟩ := ob_ H
  by_cases c5 : t142 = true
  ·subst c5
   replace H := ip_ H
   have H' := Aside0.mk H
   clear H
   have hcz6_0 := cz_ BK141 0 (.string a0_0)
   have hcz6_1 := cz_ BK141 1 (.slice A0_1 l0_1.length c0_1)
   have hfz6_0 := fz_ BK141 0
   have hfz6_1 := fz_ BK141 1
   go_wp2_with (first | (go_at_call 67; (with_reducible refine (spec_Digits.calls k a0_0 true _ A4.out).mono ?_); rintro e w' ⟨rfl, ⟨nd, rfl⟩⟩; (try first | exact ⟨rfl, _, World.drewN_drewN _ _ _⟩ | exact ⟨rfl, _, Eq.trans (World.drewN_drewN _ _ _) (congrArg (World.drewN _) (Nat.add_assoc _ _ _))⟩)))
   repeat (go_quiet (first | (go_at_call 67; (with_reducible refine (spec_Digits.calls k a0_0 true _ A4.out).mono ?_); rintro e w' ⟨rfl, ⟨nd, rfl⟩⟩; (try first | exact ⟨rfl, _, World.drewN_drewN _ _ _⟩ | exact ⟨rfl, _, Eq.trans (World.drewN_drewN _ _ _) (congrArg (World.drewN _) (Nat.add_assoc _ _ _))⟩))); try go_wp2_with (first | (go_at_call 67; (with_reducible refine (spec_Digits.calls k a0_0 true _ A4.out).mono ?_); rintro e w' ⟨rfl, ⟨nd, rfl⟩⟩; (try first | exact ⟨rfl, _, World.drewN_drewN _ _ _⟩ | exact ⟨rfl, _, Eq.trans (World.drewN_drewN _ _ _) (congrArg (World.drewN _) (Nat.add_assoc _ _ _))⟩))))
   go_meet
   case rel => exact ⟨_, (((a0_0.size : Int) != 4)), sp_, H', ⟨by first | omega | exact Nat.le_refl _⟩, ⟨by (with_reducible repeat (first | refine blk_drewN ?_ _ | refine blk_drew ?_ | refine blk_alloc ?_ _)); exact BK141.out⟩, ⟨bl_⟩⟩
  ·replace c5 := Bool.eq_false_iff.mpr c5
   subst c5
   replace H := in_ H
   have H' := Aside0.mk H
   clear H
   have hcz7_0 := cz_ BK141 0 (.string a0_0)
   have hcz7_1 := cz_ BK141 1 (.slice A0_1 l0_1.length c0_1)
   have hfz7_0 := fz_ BK141 0
   have hfz7_1 := fz_ BK141 1
   go_wp2_with (first | (go_at_call 67; (with_reducible refine (spec_Digits.calls k a0_0 false _ A4.out).mono ?_); rintro e w' ⟨rfl, ⟨nd, rfl⟩⟩; (try first | exact ⟨rfl, _, World.drewN_drewN _ _ _⟩ | exact ⟨rfl, _, Eq.trans (World.drewN_drewN _ _ _) (congrArg (World.drewN _) (Nat.add_assoc _ _ _))⟩)))
   repeat (go_quiet (first | (go_at_call 67; (with_reducible refine (spec_Digits.calls k a0_0 false _ A4.out).mono ?_); rintro e w' ⟨rfl, ⟨nd, rfl⟩⟩; (try first | exact ⟨rfl, _, World.drewN_drewN _ _ _⟩ | exact ⟨rfl, _, Eq.trans (World.drewN_drewN _ _ _) (congrArg (World.drewN _) (Nat.add_assoc _ _ _))⟩))); try go_wp2_with (first | (go_at_call 67; (with_reducible refine (spec_Digits.calls k a0_0 false _ A4.out).mono ?_); rintro e w' ⟨rfl, ⟨nd, rfl⟩⟩; (try first | exact ⟨rfl, _, World.drewN_drewN _ _ _⟩ | exact ⟨rfl, _, Eq.trans (World.drewN_drewN _ _ _) (congrArg (World.drewN _) (Nat.add_assoc _ _ _))⟩))))
   go_meet
   case rel => exact ⟨_, (true), sp_, H', ⟨by first | omega | exact Nat.le_refl _⟩, ⟨by (with_reducible repeat (first | refine blk_drewN ?_ _ | refine blk_drew ?_ | refine blk_alloc ?_ _)); exact BK141.out⟩, ⟨bl_⟩⟩
 case rest =>
  clear HC2
  try clear p2
  try clear c5
  try clear c7
  try clear hcz6_0
  try clear hcz6_1
  try clear hcz7_0
  try clear hcz7_1
  try clear hfz6_0
  try clear hfz6_1
  try clear hfz7_0
  try clear hfz7_1
  obtain ⟨kq, x14_1, rfl, HA, HJ1, BK141, HB⟩ := hcut
  cases kq with
  | zero => exact absurd HA.out (by simp [spec_MsgOk.j0])
  | succ kj1 =>
   have H := HA.out
   clear HA
   simp only [spec_MsgOk.j0] at H
   by_cases c8 : x14_1 = true
   ·subst c8
    replace H := ip_ H
    obtain rfl := Option.some.inj H
    go_wp2
    repeat (go_quiet (fail); try go_wp2)
    go_ret
    exact ⟨sq_, bl_⟩
   ·replace c8 := Bool.eq_false_iff.mpr c8
    subst c8
    replace H := in_ H
    have H' := Aside0.mk H
    clear H
    have hcz9_0 := cz_ BK141 0 (.string a0_0)
    have hcz9_1 := cz_ BK141 1 (.slice A0_1 l0_1.length c0_1)
    have hfz9_0 := fz_ BK141 0
    have hfz9_1 := fz_ BK141 1
    go_wp2
    repeat (go_quiet (fail); try go_wp2)
    go_loopg [18] kj1 (fun kq v18 w' => ∃ (x18_2 : Int), v18 = .int .i64 x18_2 ∧ Aside0 (spec_MsgOk.l0 kq l0_1 (l0_1.length : Int) x18_2 a0_0 l0_1 = some r) ∧ Aside0 (kq ≤ kj1) ∧ Aside0 (w'.heap[gb141]? = some (.cells #[.string a0_0, (.slice A0_1 l0_1.length c0_1)] 42 (0, 0))) ∧ Aside0 (Below w.heap.size w w'))
    case atStart => exact ⟨(0), sp_, H', ⟨Nat.le_refl _⟩, ⟨by (with_reducible repeat (first | refine blk_drewN ?_ _ | refine blk_drew ?_ | refine blk_alloc ?_ _)); exact BK141.out⟩, ⟨bl_⟩⟩
    case round =>
     clear H'
     try clear p2
     try clear c5
     try clear c7
     try clear c8
     try clear hcz6_0
     try clear hcz6_1
     try clear hcz7_0
     try clear hcz7_1
     try clear hcz9_0
     try clear hcz9_1
     try clear hfz6_0
     try clear hfz6_1
     try clear hfz7_0
     try clear hfz7_1
     try clear hfz9_0
     try clear hfz9_1
     try clear p2
     obtain ⟨x18_2, rfl, HA, HK2, BK141, HB⟩ := hrel
     cases gk with
     | zero => exact absurd HA.out (by simp [spec_MsgOk.l0])
     | succ k2 =>
      have H := HA.out
      clear HA
      simp only [spec_MsgOk.l0] at H
      by_cases c10 : x18_2 < (l0_1.length : Int)
      ·rw [if_pos c10] at H
       have c10b0 : decide (x18_2 < (l0_1.length : Int)) = true := decide_eq_true c10
       clear c10
       by_cases c11 : 0 ≤ x18_2
       ·rw [if_pos c11] at H
        have c11b0 : decide (0 ≤ x18_2) = true := decide_eq_true c11
        clear c11
        by_cases c12 : x18_2 < (l0_1.length : Int)
        ·rw [if_pos c12] at H
         have c12b0 : decide (x18_2 < (l0_1.length : Int)) = true := decide_eq_true c12
         clear c12
         obtain ⟨t145, A13, H⟩ := ob_ H
         by_cases c14 : t145 = true
         ·subst c14
          replace H := ip_ H
          by_cases c15 : x18_2 > 0
          ·rw [if_pos c15] at H
           have c15b0 : decide (0 < x18_2) = true := decide_eq_true c15
           clear c15
           obtain ⟨ji16, hji16⟩ : ∃ j_ : Int, (wrap64 (x18_2 - 1)) = j_ := ⟨_, rfl⟩
           replace H : (if 0 ≤ (ji16) then (if (ji16) < (l0_1.length : Int) then (if ((rd_T67 l0_1 (ji16)).f0) ≥ ((rd_T67 l0_1 x18_2).f0) then (some false) else (spec_MsgOk.l0 k2 l0_1 (l0_1.length : Int) (wrap64 (x18_2 + 1)) a0_0 l0_1)) else (none)) else (none)) = some r := by first | (rw [hji16] at H; exact H) | (simp only [hji16] at H ⊢; exact H)
           (try rw [hji16] at A13)
           have hji16w : (IntKind.i64.wrap (x18_2 - 1)) = ji16 := (i64_w _).trans hji16
           by_cases c17 : 0 ≤ (ji16)
           ·rw [if_pos c17] at H
            have c17b0 : decide (0 ≤ (ji16)) = true := decide_eq_true c17
            clear c17
            by_cases c18 : (ji16) < (l0_1.length : Int)
            ·rw [if_pos c18] at H
             have c18b0 : decide ((ji16) < (l0_1.length : Int)) = true := decide_eq_true c18
             clear c18
             by_cases c19 : ((rd_T67 l0_1 (ji16)).f0) ≥ ((rd_T67 l0_1 x18_2).f0)
             ·rw [if_pos c19] at H
              have c19b0 : decide (((rd_T67 l0_1 x18_2).f0) ≤ ((rd_T67 l0_1 (ji16)).f0)) = true := decide_eq_true c19
              clear c19
              obtain rfl := Option.some.inj H
              have p143 : 0 ≤ (x18_2 : Int) := od_
              have q143 : x18_2 < (l0_1.length : Int) := od_
              obtain ⟨ad143, e143, hx143_0, hx143_1⟩ := at_T67 HR0_1.out x18_2 p143 q143
              cases e143
              replace hx143_0 := kc_ HB hx143_0
              replace hx143_1 := kc_ HB hx143_1
              replace p143 := eq_true p143
              replace q143 := eq_true q143
              go_wp2_with (first | ((with_reducible refine gate_dst (N := 4) rfl ?_); (try (refine gate_guard (by rfl) ?_; dsimp only)); refine be_ (N := 4) (cs := #[.int .i64 0, .string (⟨#[]⟩ : ByteArray)]) (t := 67) ?_; intro gb144 hg w20 hbox hb; have BK144 := Aside0.mk (hbox); have GW144 := gw_ (w := w) hg; have GE144 := gw_ (w := w) hg; replace HB := Aside0.mk (below_step bl_ hb); have NB141_144 := Aside0.mk ((by rw [hg]; exact Nat.ne_of_lt (blk_lt (bk_ BK141)) : gb141 ≠ gb144)); have NB144_141 := Aside0.mk ((by rw [hg]; exact Nat.ne_of_gt (blk_lt (bk_ BK141)) : gb144 ≠ gb141)); replace BK141 := Aside0.mk (blk_below (bk_ BK141) hb); clear hb hbox hg; have hnb21 := NB144_141.out; have hnc21 := NB141_144.out; obtain ⟨hcz22_0, hcz22_1, hfz22_0, hfz22_1⟩ := bx2_ BK144) | (go_at_call 71; (with_reducible refine (spec_FieldOk.calls k2 ((rd_T67 l0_1 x18_2).f0) ((rd_T67 l0_1 x18_2).f1) true _ A13.out).mono ?_); rintro e w' ⟨rfl, ⟨nd, rfl⟩⟩; (try first | exact ⟨rfl, _, World.drewN_drewN _ _ _⟩ | exact ⟨rfl, _, Eq.trans (World.drewN_drewN _ _ _) (congrArg (World.drewN _) (Nat.add_assoc _ _ _))⟩); obtain ⟨hcz23_0, hcz23_1, hfz23_0, hfz23_1⟩ := bx2_ BK141; have p146 : 0 ≤ ((ji16) : Int) := od_; have q146 : (ji16) < (l0_1.length : Int) := od_; obtain ⟨ad146, e146, hx146_0, hx146_1⟩ := at_T67 HR0_1.out (ji16) p146 q146; obtain rfl : ad143 = ad146 := (by injection e146); have hn146_0 : ad143.block ≠ gb144 := nl_ hx146_0 GW144; have hn146_1 : ad143.block ≠ gb144 := nl_ hx146_0 GW144; replace hx146_0 := kc_ HB hx146_0; replace hx146_1 := kc_ HB hx146_1; replace hx146_0 := cf0_1_ (fr_ hn146_0) hx146_0; replace hx146_1 := cf0_1_ (fr_ hn146_0) hx146_1; (try have hy146_0 := gcf0_1_ (fr_ hn146_0) hx146_0); (try have hy146_1 := gcf0_1_ (fr_ hn146_0) hx146_1); clear hn146_0; clear hn146_1; replace p146 := eq_true p146; replace q146 := eq_true q146))
              repeat (go_quiet (first | ((with_reducible refine gate_dst (N := 4) rfl ?_); (try (refine gate_guard (by rfl) ?_; dsimp only)); refine be_ (N := 4) (cs := #[.int .i64 0, .string (⟨#[]⟩ : ByteArray)]) (t := 67) ?_; intro gb144 hg w20 hbox hb; have BK144 := Aside0.mk (hbox); have GW144 := gw_ (w := w) hg; have GE144 := gw_ (w := w) hg; replace HB := Aside0.mk (below_step bl_ hb); have NB141_144 := Aside0.mk ((by rw [hg]; exact Nat.ne_of_lt (blk_lt (bk_ BK141)) : gb141 ≠ gb144)); have NB144_141 := Aside0.mk ((by rw [hg]; exact Nat.ne_of_gt (blk_lt (bk_ BK141)) : gb144 ≠ gb141)); replace BK141 := Aside0.mk (blk_below (bk_ BK141) hb); clear hb hbox hg; have hnb21 := NB144_141.out; have hnc21 := NB141_144.out; obtain ⟨hcz22_0, hcz22_1, hfz22_0, hfz22_1⟩ := bx2_ BK144) | (go_at_call 71; (with_reducible refine (spec_FieldOk.calls k2 ((rd_T67 l0_1 x18_2).f0) ((rd_T67 l0_1 x18_2).f1) true _ A13.out).mono ?_); rintro e w' ⟨rfl, ⟨nd, rfl⟩⟩; (try first | exact ⟨rfl, _, World.drewN_drewN _ _ _⟩ | exact ⟨rfl, _, Eq.trans (World.drewN_drewN _ _ _) (congrArg (World.drewN _) (Nat.add_assoc _ _ _))⟩); obtain ⟨hcz23_0, hcz23_1, hfz23_0, hfz23_1⟩ := bx2_ BK141; have p146 : 0 ≤ ((ji16) : Int) := od_; have q146 : (ji16) < (l0_1.length : Int) := od_; obtain ⟨ad146, e146, hx146_0, hx146_1⟩ := at_T67 HR0_1.out (ji16) p146 q146; obtain rfl : ad143 = ad146 := (by injection e146); have hn146_0 : ad143.block ≠ gb144 := nl_ hx146_0 GW144; have hn146_1 : ad143.block ≠ gb144 := nl_ hx146_0 GW144; replace hx146_0 := kc_ HB hx146_0; replace hx146_1 := kc_ HB hx146_1; replace hx146_0 := cf0_1_ (fr_ hn146_0) hx146_0; replace hx146_1 := cf0_1_ (fr_ hn146_0) hx146_1; (try have hy146_0 := gcf0_1_ (fr_ hn146_0) hx146_0); (try have hy146_1 := gcf0_1_ (fr_ hn146_0) hx146_1); clear hn146_0; clear hn146_1; replace p146 := eq_true p146; replace q146 := eq_true q146)); try go_wp2_with (first | ((with_reducible refine gate_dst (N := 4) rfl ?_); (try (refine gate_guard (by rfl) ?_; dsimp only)); refine be_ (N := 4) (cs := #[.int .i64 0, .string (⟨#[]⟩ : ByteArray)]) (t := 67) ?_; intro gb144 hg w20 hbox hb; have BK144 := Aside0.mk (hbox); have GW144 := gw_ (w := w) hg; have GE144 := gw_ (w := w) hg; replace HB := Aside0.mk (below_step bl_ hb); have NB141_144 := Aside0.mk ((by rw [hg]; exact Nat.ne_of_lt (blk_lt (bk_ BK141)) : gb141 ≠ gb144)); have NB144_141 := Aside0.mk ((by rw [hg]; exact Nat.ne_of_gt (blk_lt (bk_ BK141)) : gb144 ≠ gb141)); replace BK141 := Aside0.mk (blk_below (bk_ BK141) hb); clear hb hbox hg; have hnb21 := NB144_141.out; have hnc21 := NB141_144.out; obtain ⟨hcz22_0, hcz22_1, hfz22_0, hfz22_1⟩ := bx2_ BK144) | (go_at_call 71; (with_reducible refine (spec_FieldOk.calls k2 ((rd_T67 l0_1 x18_2).f0) ((rd_T67 l0_1 x18_2).f1) true _ A13.out).mono ?_); rintro e w' ⟨rfl, ⟨nd, rfl⟩⟩; (try first | exact ⟨rfl, _, World.drewN_drewN _ _ _⟩ | exact ⟨rfl, _, Eq.trans (World.drewN_drewN _ _ _) (congrArg (World.drewN _) (Nat.add_assoc _ _ _))⟩); obtain ⟨hcz23_0, hcz23_1, hfz23_0, hfz23_1⟩ := bx2_ BK141; have p146 : 0 ≤ ((ji16) : Int) := od_; have q146 : (ji16) < (l0_1.length : Int) := od_; obtain ⟨ad146, e146, hx146_0, hx146_1⟩ := at_T67 HR0_1.out (ji16) p146 q146; obtain rfl : ad143 = ad146 := (by injection e146); have hn146_0 : ad143.block ≠ gb144 := nl_ hx146_0 GW144; have hn146_1 : ad143.block ≠ gb144 := nl_ hx146_0 GW144; replace hx146_0 := kc_ HB hx146_0; replace hx146_1 := kc_ HB hx146_1; replace hx146_0 := cf0_1_ (fr_ hn146_0) hx146_0; replace hx146_1 := cf0_1_ (fr_ hn146_0) hx146_1; (try have hy146_0 := gcf0_1_ (fr_ hn146_0) hx146_0); (try have hy146_1 := gcf0_1_ (fr_ hn146_0) hx146_1); clear hn146_0; clear hn146_1; replace p146 := eq_true p146; replace q146 := eq_true q146)))
              go_ret
              exact ⟨by first | rfl | (simp [errW_none, errW_some] <;> rfl) | (simp only [← hji16]; first | rfl | (simp [errW_none, errW_some] <;> rfl)) | (simp [*, errW_none, errW_some] <;> rfl), bl_⟩
             ·rw [if_neg c19] at H
              have c19b0 : decide (((rd_T67 l0_1 x18_2).f0) ≤ ((rd_T67 l0_1 (ji16)).f0)) = false := decide_eq_false c19
              clear c19
              have H' := Aside0.mk H
              clear H
              have p143 : 0 ≤ (x18_2 : Int) := od_
              have q143 : x18_2 < (l0_1.length : Int) := od_
              obtain ⟨ad143, e143, hx143_0, hx143_1⟩ := at_T67 HR0_1.out x18_2 p143 q143
              cases e143
              replace hx143_0 := kc_ HB hx143_0
              replace hx143_1 := kc_ HB hx143_1
              replace p143 := eq_true p143
              replace q143 := eq_true q143
              go_wp2_with (first | ((with_reducible refine gate_dst (N := 4) rfl ?_); (try (refine gate_guard (by rfl) ?_; dsimp only)); refine be_ (N := 4) (cs := #[.int .i64 0, .string (⟨#[]⟩ : ByteArray)]) (t := 67) ?_; intro gb144 hg w24 hbox hb; have BK144 := Aside0.mk (hbox); have GW144 := gw_ (w := w) hg; have GE144 := gw_ (w := w) hg; replace HB := Aside0.mk (below_step bl_ hb); have NB141_144 := Aside0.mk ((by rw [hg]; exact Nat.ne_of_lt (blk_lt (bk_ BK141)) : gb141 ≠ gb144)); have NB144_141 := Aside0.mk ((by rw [hg]; exact Nat.ne_of_gt (blk_lt (bk_ BK141)) : gb144 ≠ gb141)); replace BK141 := Aside0.mk (blk_below (bk_ BK141) hb); clear hb hbox hg; have hnb25 := NB144_141.out; have hnc25 := NB141_144.out; obtain ⟨hcz26_0, hcz26_1, hfz26_0, hfz26_1⟩ := bx2_ BK144) | (go_at_call 71; (with_reducible refine (spec_FieldOk.calls k2 ((rd_T67 l0_1 x18_2).f0) ((rd_T67 l0_1 x18_2).f1) true _ A13.out).mono ?_); rintro e w' ⟨rfl, ⟨nd, rfl⟩⟩; (try first | exact ⟨rfl, _, World.drewN_drewN _ _ _⟩ | exact ⟨rfl, _, Eq.trans (World.drewN_drewN _ _ _) (congrArg (World.drewN _) (Nat.add_assoc _ _ _))⟩); obtain ⟨hcz27_0, hcz27_1, hfz27_0, hfz27_1⟩ := bx2_ BK141; have p146 : 0 ≤ ((ji16) : Int) := od_; have q146 : (ji16) < (l0_1.length : Int) := od_; obtain ⟨ad146, e146, hx146_0, hx146_1⟩ := at_T67 HR0_1.out (ji16) p146 q146; obtain rfl : ad143 = ad146 := (by injection e146); have hn146_0 : ad143.block ≠ gb144 := nl_ hx146_0 GW144; have hn146_1 : ad143.block ≠ gb144 := nl_ hx146_0 GW144; replace hx146_0 := kc_ HB hx146_0; replace hx146_1 := kc_ HB hx146_1; replace hx146_0 := cf0_1_ (fr_ hn146_0) hx146_0; replace hx146_1 := cf0_1_ (fr_ hn146_0) hx146_1; (try have hy146_0 := gcf0_1_ (fr_ hn146_0) hx146_0); (try have hy146_1 := gcf0_1_ (fr_ hn146_0) hx146_1); clear hn146_0; clear hn146_1; replace p146 := eq_true p146; replace q146 := eq_true q146))
              repeat (go_quiet (first | ((with_reducible refine gate_dst (N := 4) rfl ?_); (try (refine gate_guard (by rfl) ?_; dsimp only)); refine be_ (N := 4) (cs := #[.int .i64 0, .string (⟨#[]⟩ : ByteArray)]) (t := 67) ?_; intro gb144 hg w24 hbox hb; have BK144 := Aside0.mk (hbox); have GW144 := gw_ (w := w) hg; have GE144 := gw_ (w := w) hg; replace HB := Aside0.mk (below_step bl_ hb); have NB141_144 := Aside0.mk ((by rw [hg]; exact Nat.ne_of_lt (blk_lt (bk_ BK141)) : gb141 ≠ gb144)); have NB144_141 := Aside0.mk ((by rw [hg]; exact Nat.ne_of_gt (blk_lt (bk_ BK141)) : gb144 ≠ gb141)); replace BK141 := Aside0.mk (blk_below (bk_ BK141) hb); clear hb hbox hg; have hnb25 := NB144_141.out; have hnc25 := NB141_144.out; obtain ⟨hcz26_0, hcz26_1, hfz26_0, hfz26_1⟩ := bx2_ BK144) | (go_at_call 71; (with_reducible refine (spec_FieldOk.calls k2 ((rd_T67 l0_1 x18_2).f0) ((rd_T67 l0_1 x18_2).f1) true _ A13.out).mono ?_); rintro e w' ⟨rfl, ⟨nd, rfl⟩⟩; (try first | exact ⟨rfl, _, World.drewN_drewN _ _ _⟩ | exact ⟨rfl, _, Eq.trans (World.drewN_drewN _ _ _) (congrArg (World.drewN _) (Nat.add_assoc _ _ _))⟩); obtain ⟨hcz27_0, hcz27_1, hfz27_0, hfz27_1⟩ := bx2_ BK141; have p146 : 0 ≤ ((ji16) : Int) := od_; have q146 : (ji16) < (l0_1.length : Int) := od_; obtain ⟨ad146, e146, hx146_0, hx146_1⟩ := at_T67 HR0_1.out (ji16) p146 q146; obtain rfl : ad143 = ad146 := (by injection e146); have hn146_0 : ad143.block ≠ gb144 := nl_ hx146_0 GW144; have hn146_1 : ad143.block ≠ gb144 := nl_ hx146_0 GW144; replace hx146_0 := kc_ HB hx146_0; replace hx146_1 := kc_ HB hx146_1; replace hx146_0 := cf0_1_ (fr_ hn146_0) hx146_0; replace hx146_1 := cf0_1_ (fr_ hn146_0) hx146_1; (try have hy146_0 := gcf0_1_ (fr_ hn146_0) hx146_0); (try have hy146_1 := gcf0_1_ (fr_ hn146_0) hx146_1); clear hn146_0; clear hn146_1; replace p146 := eq_true p146; replace q146 := eq_true q146)); try go_wp2_with (first | ((with_reducible refine gate_dst (N := 4) rfl ?_); (try (refine gate_guard (by rfl) ?_; dsimp only)); refine be_ (N := 4) (cs := #[.int .i64 0, .string (⟨#[]⟩ : ByteArray)]) (t := 67) ?_; intro gb144 hg w24 hbox hb; have BK144 := Aside0.mk (hbox); have GW144 := gw_ (w := w) hg; have GE144 := gw_ (w := w) hg; replace HB := Aside0.mk (below_step bl_ hb); have NB141_144 := Aside0.mk ((by rw [hg]; exact Nat.ne_of_lt (blk_lt (bk_ BK141)) : gb141 ≠ gb144)); have NB144_141 := Aside0.mk ((by rw [hg]; exact Nat.ne_of_gt (blk_lt (bk_ BK141)) : gb144 ≠ gb141)); replace BK141 := Aside0.mk (blk_below (bk_ BK141) hb); clear hb hbox hg; have hnb25 := NB144_141.out; have hnc25 := NB141_144.out; obtain ⟨hcz26_0, hcz26_1, hfz26_0, hfz26_1⟩ := bx2_ BK144) | (go_at_call 71; (with_reducible refine (spec_FieldOk.calls k2 ((rd_T67 l0_1 x18_2).f0) ((rd_T67 l0_1 x18_2).f1) true _ A13.out).mono ?_); rintro e w' ⟨rfl, ⟨nd, rfl⟩⟩; (try first | exact ⟨rfl, _, World.drewN_drewN _ _ _⟩ | exact ⟨rfl, _, Eq.trans (World.drewN_drewN _ _ _) (congrArg (World.drewN _) (Nat.add_assoc _ _ _))⟩); obtain ⟨hcz27_0, hcz27_1, hfz27_0, hfz27_1⟩ := bx2_ BK141; have p146 : 0 ≤ ((ji16) : Int) := od_; have q146 : (ji16) < (l0_1.length : Int) := od_; obtain ⟨ad146, e146, hx146_0, hx146_1⟩ := at_T67 HR0_1.out (ji16) p146 q146; obtain rfl : ad143 = ad146 := (by injection e146); have hn146_0 : ad143.block ≠ gb144 := nl_ hx146_0 GW144; have hn146_1 : ad143.block ≠ gb144 := nl_ hx146_0 GW144; replace hx146_0 := kc_ HB hx146_0; replace hx146_1 := kc_ HB hx146_1; replace hx146_0 := cf0_1_ (fr_ hn146_0) hx146_0; replace hx146_1 := cf0_1_ (fr_ hn146_0) hx146_1; (try have hy146_0 := gcf0_1_ (fr_ hn146_0) hx146_0); (try have hy146_1 := gcf0_1_ (fr_ hn146_0) hx146_1); clear hn146_0; clear hn146_1; replace p146 := eq_true p146; replace q146 := eq_true q146)))
              go_roundg k2
              case measure => have := HJ1.out; have := HK2.out; omega
              case rel => exact ⟨(wrap64 (x18_2 + 1)), sp_, H', ⟨by have := HJ1.out; have := HK2.out; omega⟩, ⟨by (with_reducible repeat (first | refine blk_drewN ?_ _ | refine blk_drew ?_ | refine blk_alloc ?_ _)); refine blk_far ?_ NB141_144.out _; (with_reducible repeat (first | refine blk_drewN ?_ _ | refine blk_drew ?_ | refine blk_alloc ?_ _)); refine blk_far ?_ NB141_144.out _; (with_reducible repeat (first | refine blk_drewN ?_ _ | refine blk_drew ?_ | refine blk_alloc ?_ _)); exact BK141.out⟩, ⟨bl_⟩⟩
            ·rw [if_neg c18] at H
             exact absurd H (by simp)
           ·rw [if_neg c17] at H
            exact absurd H (by simp)
          ·rw [if_neg c15] at H
           have c15b0 : decide (0 < x18_2) = false := decide_eq_false c15
           clear c15
           have H' := Aside0.mk H
           clear H
           have p143 : 0 ≤ (x18_2 : Int) := od_
           have q143 : x18_2 < (l0_1.length : Int) := od_
           obtain ⟨ad143, e143, hx143_0, hx143_1⟩ := at_T67 HR0_1.out x18_2 p143 q143
           cases e143
           replace hx143_0 := kc_ HB hx143_0
           replace hx143_1 := kc_ HB hx143_1
           replace p143 := eq_true p143
           replace q143 := eq_true q143
           go_wp2_with (first | ((with_reducible refine gate_dst (N := 4) rfl ?_); (try (refine gate_guard (by rfl) ?_; dsimp only)); refine be_ (N := 4) (cs := #[.int .i64 0, .string (⟨#[]⟩ : ByteArray)]) (t := 67) ?_; intro gb144 hg w28 hbox hb; have BK144 := Aside0.mk (hbox); have GW144 := gw_ (w := w) hg; have GE144 := gw_ (w := w) hg; replace HB := Aside0.mk (below_step bl_ hb); have NB141_144 := Aside0.mk ((by rw [hg]; exact Nat.ne_of_lt (blk_lt (bk_ BK141)) : gb141 ≠ gb144)); have NB144_141 := Aside0.mk ((by rw [hg]; exact Nat.ne_of_gt (blk_lt (bk_ BK141)) : gb144 ≠ gb141)); replace BK141 := Aside0.mk (blk_below (bk_ BK141) hb); clear hb hbox hg; have hnb29 := NB144_141.out; have hnc29 := NB141_144.out; obtain ⟨hcz30_0, hcz30_1, hfz30_0, hfz30_1⟩ := bx2_ BK144) | (go_at_call 71; (with_reducible refine (spec_FieldOk.calls k2 ((rd_T67 l0_1 x18_2).f0) ((rd_T67 l0_1 x18_2).f1) true _ A13.out).mono ?_); rintro e w' ⟨rfl, ⟨nd, rfl⟩⟩; (try first | exact ⟨rfl, _, World.drewN_drewN _ _ _⟩ | exact ⟨rfl, _, Eq.trans (World.drewN_drewN _ _ _) (congrArg (World.drewN _) (Nat.add_assoc _ _ _))⟩)))
           repeat (go_quiet (first | ((with_reducible refine gate_dst (N := 4) rfl ?_); (try (refine gate_guard (by rfl) ?_; dsimp only)); refine be_ (N := 4) (cs := #[.int .i64 0, .string (⟨#[]⟩ : ByteArray)]) (t := 67) ?_; intro gb144 hg w28 hbox hb; have BK144 := Aside0.mk (hbox); have GW144 := gw_ (w := w) hg; have GE144 := gw_ (w := w) hg; replace HB := Aside0.mk (below_step bl_ hb); have NB141_144 := Aside0.mk ((by rw [hg]; exact Nat.ne_of_lt (blk_lt (bk_ BK141)) : gb141 ≠ gb144)); have NB144_141 := Aside0.mk ((by rw [hg]; exact Nat.ne_of_gt (blk_lt (bk_ BK141)) : gb144 ≠ gb141)); replace BK141 := Aside0.mk (blk_below (bk_ BK141) hb); clear hb hbox hg; have hnb29 := NB144_141.out; have hnc29 := NB141_144.out; obtain ⟨hcz30_0, hcz30_1, hfz30_0, hfz30_1⟩ := bx2_ BK144) | (go_at_call 71; (with_reducible refine (spec_FieldOk.calls k2 ((rd_T67 l0_1 x18_2).f0) ((rd_T67 l0_1 x18_2).f1) true _ A13.out).mono ?_); rintro e w' ⟨rfl, ⟨nd, rfl⟩⟩; (try first | exact ⟨rfl, _, World.drewN_drewN _ _ _⟩ | exact ⟨rfl, _, Eq.trans (World.drewN_drewN _ _ _) (congrArg (World.drewN _) (Nat.add_assoc _ _ _))⟩))); try go_wp2_with (first | ((with_reducible refine gate_dst (N := 4) rfl ?_); (try (refine gate_guard (by rfl) ?_; dsimp only)); refine be_ (N := 4) (cs := #[.int .i64 0, .string (⟨#[]⟩ : ByteArray)]) (t := 67) ?_; intro gb144 hg w28 hbox hb; have BK144 := Aside0.mk (hbox); have GW144 := gw_ (w := w) hg; have GE144 := gw_ (w := w) hg; replace HB := Aside0.mk (below_step bl_ hb); have NB141_144 := Aside0.mk ((by rw [hg]; exact Nat.ne_of_lt (blk_lt (bk_ BK141)) : gb141 ≠ gb144)); have NB144_141 := Aside0.mk ((by rw [hg]; exact Nat.ne_of_gt (blk_lt (bk_ BK141)) : gb144 ≠ gb141)); replace BK141 := Aside0.mk (blk_below (bk_ BK141) hb); clear hb hbox hg; have hnb29 := NB144_141.out; have hnc29 := NB141_144.out; obtain ⟨hcz30_0, hcz30_1, hfz30_0, hfz30_1⟩ := bx2_ BK144) | (go_at_call 71; (with_reducible refine (spec_FieldOk.calls k2 ((rd_T67 l0_1 x18_2).f0) ((rd_T67 l0_1 x18_2).f1) true _ A13.out).mono ?_); rintro e w' ⟨rfl, ⟨nd, rfl⟩⟩; (try first | exact ⟨rfl, _, World.drewN_drewN _ _ _⟩ | exact ⟨rfl, _, Eq.trans (World.drewN_drewN _ _ _) (congrArg (World.drewN _) (Nat.add_assoc _ _ _))⟩))))
           go_roundg k2
           case measure => have := HJ1.out; have := HK2.out; omega
           case rel => exact ⟨(wrap64 (x18_2 + 1)), sp_, H', ⟨by have := HJ1.out; have := HK2.out; omega⟩, ⟨by (with_reducible repeat (first | refine blk_drewN ?_ _ | refine blk_drew ?_ | refine blk_alloc ?_ _)); refine blk_far ?_ NB141_144.out _; (with_reducible repeat (first | refine blk_drewN ?_ _ | refine blk_drew ?_ | refine blk_alloc ?_ _)); refine blk_far ?_ NB141_144.out _; (with_reducible repeat (first | refine blk_drewN ?_ _ | refine blk_drew ?_ | refine blk_alloc ?_ _)); exact BK141.out⟩, ⟨bl_⟩⟩
         ·replace c14 := Bool.eq_false_iff.mpr c14
          subst c14
          replace H := in_ H
          obtain rfl := Option.some.inj H
          have p143 : 0 ≤ (x18_2 : Int) := od_
          have q143 : x18_2 < (l0_1.length : Int) := od_
          obtain ⟨ad143, e143, hx143_0, hx143_1⟩ := at_T67 HR0_1.out x18_2 p143 q143
          cases e143
          replace hx143_0 := kc_ HB hx143_0
          replace hx143_1 := kc_ HB hx143_1
          replace p143 := eq_true p143
          replace q143 := eq_true q143
          go_wp2_with (first | ((with_reducible refine gate_dst (N := 4) rfl ?_); (try (refine gate_guard (by rfl) ?_; dsimp only)); refine be_ (N := 4) (cs := #[.int .i64 0, .string (⟨#[]⟩ : ByteArray)]) (t := 67) ?_; intro gb144 hg w31 hbox hb; have BK144 := Aside0.mk (hbox); have GW144 := gw_ (w := w) hg; have GE144 := gw_ (w := w) hg; replace HB := Aside0.mk (below_step bl_ hb); have NB141_144 := Aside0.mk ((by rw [hg]; exact Nat.ne_of_lt (blk_lt (bk_ BK141)) : gb141 ≠ gb144)); have NB144_141 := Aside0.mk ((by rw [hg]; exact Nat.ne_of_gt (blk_lt (bk_ BK141)) : gb144 ≠ gb141)); replace BK141 := Aside0.mk (blk_below (bk_ BK141) hb); clear hb hbox hg; have hnb32 := NB144_141.out; have hnc32 := NB141_144.out; obtain ⟨hcz33_0, hcz33_1, hfz33_0, hfz33_1⟩ := bx2_ BK144) | (go_at_call 71; (with_reducible refine (spec_FieldOk.calls k2 ((rd_T67 l0_1 x18_2).f0) ((rd_T67 l0_1 x18_2).f1) false _ A13.out).mono ?_); rintro e w' ⟨rfl, ⟨nd, rfl⟩⟩; (try first | exact ⟨rfl, _, World.drewN_drewN _ _ _⟩ | exact ⟨rfl, _, Eq.trans (World.drewN_drewN _ _ _) (congrArg (World.drewN _) (Nat.add_assoc _ _ _))⟩)))
          repeat (go_quiet (first | ((with_reducible refine gate_dst (N := 4) rfl ?_); (try (refine gate_guard (by rfl) ?_; dsimp only)); refine be_ (N := 4) (cs := #[.int .i64 0, .string (⟨#[]⟩ : ByteArray)]) (t := 67) ?_; intro gb144 hg w31 hbox hb; have BK144 := Aside0.mk (hbox); have GW144 := gw_ (w := w) hg; have GE144 := gw_ (w := w) hg; replace HB := Aside0.mk (below_step bl_ hb); have NB141_144 := Aside0.mk ((by rw [hg]; exact Nat.ne_of_lt (blk_lt (bk_ BK141)) : gb141 ≠ gb144)); have NB144_141 := Aside0.mk ((by rw [hg]; exact Nat.ne_of_gt (blk_lt (bk_ BK141)) : gb144 ≠ gb141)); replace BK141 := Aside0.mk (blk_below (bk_ BK141) hb); clear hb hbox hg; have hnb32 := NB144_141.out; have hnc32 := NB141_144.out; obtain ⟨hcz33_0, hcz33_1, hfz33_0, hfz33_1⟩ := bx2_ BK144) | (go_at_call 71; (with_reducible refine (spec_FieldOk.calls k2 ((rd_T67 l0_1 x18_2).f0) ((rd_T67 l0_1 x18_2).f1) false _ A13.out).mono ?_); rintro e w' ⟨rfl, ⟨nd, rfl⟩⟩; (try first | exact ⟨rfl, _, World.drewN_drewN _ _ _⟩ | exact ⟨rfl, _, Eq.trans (World.drewN_drewN _ _ _) (congrArg (World.drewN _) (Nat.add_assoc _ _ _))⟩))); try go_wp2_with (first | ((with_reducible refine gate_dst (N := 4) rfl ?_); (try (refine gate_guard (by rfl) ?_; dsimp only)); refine be_ (N := 4) (cs := #[.int .i64 0, .string (⟨#[]⟩ : ByteArray)]) (t := 67) ?_; intro gb144 hg w31 hbox hb; have BK144 := Aside0.mk (hbox); have GW144 := gw_ (w := w) hg; have GE144 := gw_ (w := w) hg; replace HB := Aside0.mk (below_step bl_ hb); have NB141_144 := Aside0.mk ((by rw [hg]; exact Nat.ne_of_lt (blk_lt (bk_ BK141)) : gb141 ≠ gb144)); have NB144_141 := Aside0.mk ((by rw [hg]; exact Nat.ne_of_gt (blk_lt (bk_ BK141)) : gb144 ≠ gb141)); replace BK141 := Aside0.mk (blk_below (bk_ BK141) hb); clear hb hbox hg; have hnb32 := NB144_141.out; have hnc32 := NB141_144.out; obtain ⟨hcz33_0, hcz33_1, hfz33_0, hfz33_1⟩ := bx2_ BK144) | (go_at_call 71; (with_reducible refine (spec_FieldOk.calls k2 ((rd_T67 l0_1 x18_2).f0) ((rd_T67 l0_1 x18_2).f1) false _ A13.out).mono ?_); rintro e w' ⟨rfl, ⟨nd, rfl⟩⟩; (try first | exact ⟨rfl, _, World.drewN_drewN _ _ _⟩ | exact ⟨rfl, _, Eq.trans (World.drewN_drewN _ _ _) (congrArg (World.drewN _) (Nat.add_assoc _ _ _))⟩))))
          go_ret
          exact ⟨sq_, bl_⟩
        ·rw [if_neg c12] at H
         exact absurd H (by simp)
       ·rw [if_neg c11] at H
        exact absurd H (by simp)
      ·rw [if_neg c10] at H
       have c10b0 : decide (x18_2 < (l0_1.length : Int)) = false := decide_eq_false c10
       clear c10
       obtain rfl := Option.some.inj H
       go_wp2
       repeat (go_quiet (fail); try go_wp2)
       go_ret
       exact ⟨sq_, bl_⟩
end Go.Proofs.YtbjpfknmkpnhjaaDoor.QFnExactReqMsg
