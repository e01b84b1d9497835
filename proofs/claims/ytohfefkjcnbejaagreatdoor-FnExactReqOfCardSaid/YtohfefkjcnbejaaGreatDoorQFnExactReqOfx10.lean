-- by my own printer (myprint.py, over the kit's print.py)
import Derived.Test.YtohfefkjcnbejaaGreatDoorQFnExactReqOfx0
import Derived.Test.YtohfefkjcnbejaaGreatDoorQFnExactReqOfx9
namespace Go.Proofs.YtohfefkjcnbejaaGreatDoor.QFnExactReqOf
open Go.RowKit Go.Proofs.YtohfefkjcnbejaaGreatDoorW.PrintWords Go.Proofs.YtohfefkjcnbejaaGreatDoorW.PrintLast Go.Proofs.YtohfefkjcnbejaaGreatDoorW.PrintMore
attribute [local go_sem] max2_int min2_int max_two min_two max_three min_three max_four min_four   -- for this text's walks alone
set_option linter.unusedVariables false
set_option linter.unusedSimpArgs false
attribute [local go_sem] my_geq my_leq my_gtr
abbrev tb22_0_10 : Array Bool := #[b0, b0, b0, b0, b0, b0, b0, b0, b0, b0, b0, b0, b0, b0, b0, b0, b0, b0, b0, b0, b0, b0]
abbrev tb22_1_10 : Array Bool := #[b1, b0, b0, b0, b0, b0, b0, b0, b0, b0, b0, b0, b0, b0, b0, b0, b0, b0, b0, b0, b0, b0]
abbrev tb22_17ff_10 : Array Bool := #[b1, b1, b1, b1, b1, b1, b1, b1, b1, b1, b1, b0, b1, b0, b0, b0, b0, b0, b0, b0, b0, b0]
abbrev tb22_1f_10 : Array Bool := #[b1, b1, b1, b1, b1, b0, b0, b0, b0, b0, b0, b0, b0, b0, b0, b0, b0, b0, b0, b0, b0, b0]
abbrev tb22_1ff_10 : Array Bool := #[b1, b1, b1, b1, b1, b1, b1, b1, b1, b0, b0, b0, b0, b0, b0, b0, b0, b0, b0, b0, b0, b0]
abbrev tb22_1fff_10 : Array Bool := #[b1, b1, b1, b1, b1, b1, b1, b1, b1, b1, b1, b1, b1, b0, b0, b0, b0, b0, b0, b0, b0, b0]
abbrev tb22_1ffff_10 : Array Bool := #[b1, b1, b1, b1, b1, b1, b1, b1, b1, b1, b1, b1, b1, b1, b1, b1, b1, b0, b0, b0, b0, b0]
abbrev tb22_1fffff_10 : Array Bool := #[b1, b1, b1, b1, b1, b1, b1, b1, b1, b1, b1, b1, b1, b1, b1, b1, b1, b1, b1, b1, b1, b0]
abbrev tb22_3f_10 : Array Bool := #[b1, b1, b1, b1, b1, b1, b0, b0, b0, b0, b0, b0, b0, b0, b0, b0, b0, b0, b0, b0, b0, b0]
abbrev tb22_3ff_10 : Array Bool := #[b1, b1, b1, b1, b1, b1, b1, b1, b1, b1, b0, b0, b0, b0, b0, b0, b0, b0, b0, b0, b0, b0]
abbrev tb22_3fff_10 : Array Bool := #[b1, b1, b1, b1, b1, b1, b1, b1, b1, b1, b1, b1, b1, b1, b0, b0, b0, b0, b0, b0, b0, b0]
abbrev tb22_3ffff_10 : Array Bool := #[b1, b1, b1, b1, b1, b1, b1, b1, b1, b1, b1, b1, b1, b1, b1, b1, b1, b1, b0, b0, b0, b0]
abbrev tb22_3fffff_10 : Array Bool := #[b1, b1, b1, b1, b1, b1, b1, b1, b1, b1, b1, b1, b1, b1, b1, b1, b1, b1, b1, b1, b1, b1]
abbrev tb22_5_10 : Array Bool := #[b1, b0, b1, b0, b0, b0, b0, b0, b0, b0, b0, b0, b0, b0, b0, b0, b0, b0, b0, b0, b0, b0]
abbrev tb22_57ff_10 : Array Bool := #[b1, b1, b1, b1, b1, b1, b1, b1, b1, b1, b1, b0, b1, b0, b1, b0, b0, b0, b0, b0, b0, b0]
abbrev tb22_7_10 : Array Bool := #[b1, b1, b1, b0, b0, b0, b0, b0, b0, b0, b0, b0, b0, b0, b0, b0, b0, b0, b0, b0, b0, b0]
abbrev tb22_7f_10 : Array Bool := #[b1, b1, b1, b1, b1, b1, b1, b0, b0, b0, b0, b0, b0, b0, b0, b0, b0, b0, b0, b0, b0, b0]
abbrev tb22_7ff_10 : Array Bool := #[b1, b1, b1, b1, b1, b1, b1, b1, b1, b1, b1, b0, b0, b0, b0, b0, b0, b0, b0, b0, b0, b0]
abbrev tb22_7fff_10 : Array Bool := #[b1, b1, b1, b1, b1, b1, b1, b1, b1, b1, b1, b1, b1, b1, b1, b0, b0, b0, b0, b0, b0, b0]
abbrev tb22_7ffff_10 : Array Bool := #[b1, b1, b1, b1, b1, b1, b1, b1, b1, b1, b1, b1, b1, b1, b1, b1, b1, b1, b1, b0, b0, b0]
abbrev tb22_d7ff_10 : Array Bool := #[b1, b1, b1, b1, b1, b1, b1, b1, b1, b1, b1, b0, b1, b0, b1, b1, b0, b0, b0, b0, b0, b0]
abbrev tb22_dfff_10 : Array Bool := #[b1, b1, b1, b1, b1, b1, b1, b1, b1, b1, b1, b1, b1, b0, b1, b1, b0, b0, b0, b0, b0, b0]
abbrev tb22_f_10 : Array Bool := #[b1, b1, b1, b1, b0, b0, b0, b0, b0, b0, b0, b0, b0, b0, b0, b0, b0, b0, b0, b0, b0, b0]
abbrev tb22_ff_10 : Array Bool := #[b1, b1, b1, b1, b1, b1, b1, b1, b0, b0, b0, b0, b0, b0, b0, b0, b0, b0, b0, b0, b0, b0]
abbrev tb22_fff_10 : Array Bool := #[b1, b1, b1, b1, b1, b1, b1, b1, b1, b1, b1, b1, b0, b0, b0, b0, b0, b0, b0, b0, b0, b0]
abbrev tb22_ffff_10 : Array Bool := #[b1, b1, b1, b1, b1, b1, b1, b1, b1, b1, b1, b1, b1, b1, b1, b1, b0, b0, b0, b0, b0, b0]
abbrev tb22_fffff_10 : Array Bool := #[b1, b1, b1, b1, b1, b1, b1, b1, b1, b1, b1, b1, b1, b1, b1, b1, b1, b1, b1, b1, b0, b0]
/-! ### impl_MsgOk: function 46 -/
def impl_MsgOk.l0 : Nat → List (S91) → Int → Int → ByteArray → List (S91) → Option (Bool)
 | 0, _, _, _, _, _ => none
 | k + 1, x6, x7, x8, x231000, x231001 => if x8 < x7 then (if 0 ≤ x8 then (if x8 < (x6.length : Int) then ((impl_FieldOk.f k ((rd_T91 x6 x8).f0) ((rd_T91 x6 x8).f1)).bind fun t233 => (if t233 = true then (if x8 > 0 then (if 0 ≤ (wrap64 (x8 - 1)) then (if (wrap64 (x8 - 1)) < (x231001.length : Int) then (if ((rd_T91 x6 x8).f0) ≤ ((rd_T91 x231001 (wrap64 (x8 - 1))).f0) then (some false) else (impl_MsgOk.l0 k x6 x7 (wrap64 (x8 + 1)) x231000 x231001)) else (none)) else (none)) else (impl_MsgOk.l0 k x6 x7 (wrap64 (x8 + 1)) x231000 x231001)) else (some false))) else (none)) else (none)) else ((impl_isWide.f k x231000 4).bind fun t235 => (some t235))
def impl_MsgOk.f (k : Nat) (a0_0 : ByteArray) (l0_1 : List (S91)) : Option (Bool) := impl_MsgOk.l0 k l0_1 (l0_1.length : Int) 0 a0_0 l0_1
def impl_MsgOk.T4 : Bool × List (List Nat × List Nat) := (true, [([], []), ([0], [0]), ([], []), ([2], [2]), ([1, 3], [1, 3]), ([4], [4]), ([5, 4], [5]), ([6], [6]), ([7, 6], [6, 7]), ([8, 6, 6], [6, 8]), ([9], [9]), ([10, 9], [9, 10]), ([9], [9]), ([12, 9], [9, 12]), ([9], [9]), ([14, 9], [9, 14]), ([13, 15, 9], [9, 13, 15]), ([16, 9], [9, 16]), ([17, 9], [9, 17]), ([11, 18, 9], [9, 11, 18]), ([9, 19, 6], [6, 9, 19]), ([6, 20], [6, 20])])
def impl_MsgOk.B4 : List Nat := [0, 1, 0, 4, 15, 31, 63, 127, 255, 511, 1023, 2047, 1023, 5119, 1023, 17407, 62463, 127999, 259071, 524287, 1048575, 2097151]
theorem impl_MsgOk.tab4 : rtab .any (opsOf Tryz.f46 4) = impl_MsgOk.T4 := by kernel_rfl
theorem impl_MsgOk.bits4 : waitsOk impl_MsgOk.T4.2 impl_MsgOk.B4 = true := by kernel_rfl
set_option maxHeartbeats 8000000 in
set_option maxRecDepth 100000 in
theorem impl_MsgOk.calls (k : Nat) (a0_0 : ByteArray) (A0_1 : Option Addr) (c0_1 : Nat) (l0_1 : List (S91)) (r : Bool) (w : World) (hr0_1 : Kd.C k91 w A0_1 l0_1.length l0_1) (hc0_1 : l0_1.length ≤ c0_1) (h : impl_MsgOk.f k a0_0 l0_1 = some r) :
  Calls Tryz.prog 46 #[.agg #[.string a0_0, .slice A0_1 l0_1.length c0_1]] w fun e w' => e = .returned (.bool r) ∧ Below w.heap.size w w' := by
 have hu32 := Tryz.underlying32
 have hu91 := Tryz.underlying91
 have HR0_1 := Aside0.mk hr0_1
 have HC0_1 := Aside0.mk hc0_1
 clear hr0_1 hc0_1
 have HB := Aside0.mk (Below.refl w.heap.size w)
 have H : (impl_MsgOk.l0 k l0_1 (l0_1.length : Int) 0 a0_0 l0_1) = some r := h
 clear h
 have H' := Aside0.mk H
 clear H
 go_enter Tryz.func46, Tryz.ntmps46
 go_wp2_with (first | ((with_reducible refine gate_dst (N := 1) rfl ?_); refine be_ (N := 1) (cs := #[.string a0_0, .slice A0_1 l0_1.length c0_1]) (t := 32) ?_; intro gb230 hg w2 hbox hb; have BK230 := Aside0.mk (hbox); have GW230 := gw_ (w := w) hg; have GE230 := gw_ (w := w) hg; replace HB := Aside0.mk (below_step bl_ hb); clear hb hbox hg; obtain ⟨hcz3_0, hcz3_1, hfz3_0, hfz3_1⟩ := bx2_ BK230))
 go_loopg [8] k (fun kq v8 w' => ∃ (x8_1 : Int), v8 = .int .i64 x8_1 ∧ Aside0 (impl_MsgOk.l0 kq l0_1 (l0_1.length : Int) x8_1 a0_0 l0_1 = some r) ∧ Aside0 (kq ≤ k) ∧ Aside0 (w'.heap[gb230]? = some (.cells #[.string a0_0, (.slice A0_1 l0_1.length c0_1)] 32 (0, 0))) ∧ Aside0 (Below w.heap.size w w'))
 case atStart => exact ⟨(0), sp_, H', ⟨Nat.le_refl _⟩, ⟨by (with_reducible repeat (first | refine blk_drewN ?_ _ | refine blk_drew ?_ | refine blk_alloc ?_ _)); exact BK230.out⟩, ⟨bl_⟩⟩
 case round =>
  clear H'
  try clear p2
  try clear hcz3_0
  try clear hcz3_1
  try clear hfz3_0
  try clear hfz3_1
  obtain ⟨x8_1, rfl, HA, HK1, BK230, HB⟩ := hrel
  cases gk with
  | zero => exact absurd HA.out (by simp [impl_MsgOk.l0])
  | succ k1 =>
   have H := HA.out
   clear HA
   simp only [impl_MsgOk.l0] at H
   by_cases c4 : x8_1 < (l0_1.length : Int)
   ·rw [if_pos c4] at H
    have c4b0 : decide (x8_1 < (l0_1.length : Int)) = true := decide_eq_true c4
    clear c4
    by_cases c5 : 0 ≤ x8_1
    ·rw [if_pos c5] at H
     have c5b0 : decide (0 ≤ x8_1) = true := decide_eq_true c5
     clear c5
     by_cases c6 : x8_1 < (l0_1.length : Int)
     ·rw [if_pos c6] at H
      have c6b0 : decide (x8_1 < (l0_1.length : Int)) = true := decide_eq_true c6
      clear c6
      obtain ⟨t233, A7, H⟩ := ob_ H
      by_cases c8 : t233 = true
      ·subst c8
       replace H := ip_ H
       by_cases c9 : x8_1 > 0
       ·rw [if_pos c9] at H
        have c9b0 : decide (0 < x8_1) = true := decide_eq_true c9
        clear c9
        obtain ⟨ji10, hji10⟩ : ∃ j_ : Int, (wrap64 (x8_1 - 1)) = j_ := ⟨_, rfl⟩
        replace H : (if 0 ≤ (ji10) then (if (ji10) < (l0_1.length : Int) then (if ((rd_T91 l0_1 x8_1).f0) ≤ ((rd_T91 l0_1 (ji10)).f0) then (some false) else (impl_MsgOk.l0 k1 l0_1 (l0_1.length : Int) (wrap64 (x8_1 + 1)) a0_0 l0_1)) else (none)) else (none)) = some r := by first | (rw [hji10] at H; exact H) | (simp only [hji10] at H ⊢; exact H)
        (try rw [hji10] at A7)
        have hji10w : (IntKind.i64.wrap (x8_1 - 1)) = ji10 := (i64_w _).trans hji10
        by_cases c11 : 0 ≤ (ji10)
        ·rw [if_pos c11] at H
         have c11b0 : decide (0 ≤ (ji10)) = true := decide_eq_true c11
         clear c11
         by_cases c12 : (ji10) < (l0_1.length : Int)
         ·rw [if_pos c12] at H
          have c12b0 : decide ((ji10) < (l0_1.length : Int)) = true := decide_eq_true c12
          clear c12
          by_cases c13 : ((rd_T91 l0_1 x8_1).f0) ≤ ((rd_T91 l0_1 (ji10)).f0)
          ·rw [if_pos c13] at H
           have c13b0 : decide (((rd_T91 l0_1 x8_1).f0) ≤ ((rd_T91 l0_1 (ji10)).f0)) = true := decide_eq_true c13
           clear c13
           obtain rfl := Option.some.inj H
           have p231 : 0 ≤ (x8_1 : Int) := od_
           have q231 : x8_1 < (l0_1.length : Int) := od_
           obtain ⟨ad231, e231, hx231_0, hx231_1⟩ := at_T91 HR0_1.out x8_1 p231 q231
           cases e231
           replace hx231_0 := kc_ HB hx231_0
           replace hx231_1 := kc_ HB hx231_1
           replace p231 := eq_true p231
           replace q231 := eq_true q231
           try go_wp2_with (first | ((with_reducible refine gate_dst (N := 4) rfl ?_); refine be_ (N := 4) (cs := #[.int .i64 0, .string (⟨#[]⟩ : ByteArray)]) (t := 91) ?_; intro gb232 hg w14 hbox hb; have BK232 := Aside0.mk (hbox); have GW232 := gw_ (w := w) hg; have GE232 := gw_ (w := w) hg; replace HB := Aside0.mk (below_step bl_ hb); have NB230_232 := Aside0.mk ((by rw [hg]; exact Nat.ne_of_lt (blk_lt (bk_ BK230)) : gb230 ≠ gb232)); have NB232_230 := Aside0.mk ((by rw [hg]; exact Nat.ne_of_gt (blk_lt (bk_ BK230)) : gb232 ≠ gb230)); replace BK230 := Aside0.mk (blk_below (bk_ BK230) hb); clear hb hbox hg; have hnb15 := NB232_230.out; have hnc15 := NB230_232.out; obtain ⟨hcz16_0, hcz16_1, hfz16_0, hfz16_1⟩ := bx2_ BK232))
           have n0_ : Aside0 (((w14.setCell ⟨gb232, 0, none⟩ (.int .i64 ((rd_T91 l0_1 x8_1).f0))).setCell ⟨gb232, 1, none⟩ (.string ((rd_T91 l0_1 x8_1).f1))).heap[gb230]? = some (.cells #[.string a0_0, .slice (some ad231) l0_1.length c0_1] 32 (0, 0))) := ⟨by (with_reducible repeat (first | refine blk_drewN ?_ _ | refine blk_drew ?_ | refine blk_alloc ?_ _)); refine blk_far ?_ NB230_232.out _; (with_reducible repeat (first | refine blk_drewN ?_ _ | refine blk_drew ?_ | refine blk_alloc ?_ _)); refine blk_far ?_ NB230_232.out _; (with_reducible repeat (first | refine blk_drewN ?_ _ | refine blk_drew ?_ | refine blk_alloc ?_ _)); exact BK230.out⟩
           have n1_ : Aside0 (((w14.setCell ⟨gb232, 0, none⟩ (.int .i64 ((rd_T91 l0_1 x8_1).f0))).setCell ⟨gb232, 1, none⟩ (.string ((rd_T91 l0_1 x8_1).f1))).heap[gb232]? = some (.cells #[.int .i64 ((rd_T91 l0_1 x8_1).f0), .string ((rd_T91 l0_1 x8_1).f1)] 91 (0, 0))) := ⟨by (with_reducible repeat (first | refine blk_drewN ?_ _ | refine blk_drew ?_ | refine blk_alloc ?_ _)); apply bq2_1_0_; (with_reducible repeat (first | refine blk_drewN ?_ _ | refine blk_drew ?_ | refine blk_alloc ?_ _)); exact BK232.out⟩
           have n2_ : Aside0 (Below w.heap.size w ((w14.setCell ⟨gb232, 0, none⟩ (.int .i64 ((rd_T91 l0_1 x8_1).f0))).setCell ⟨gb232, 1, none⟩ (.string ((rd_T91 l0_1 x8_1).f1)))) := ⟨bl_⟩
           (try clear BK230)
           (try clear BK232)
           (try clear HB)
           generalize ((w14.setCell ⟨gb232, 0, none⟩ (.int .i64 ((rd_T91 l0_1 x8_1).f0))).setCell ⟨gb232, 1, none⟩ (.string ((rd_T91 l0_1 x8_1).f1))) = w17 at n0_ n1_ n2_ ⊢
           have BK230 := n0_
           have BK232 := n1_
           have HB := n2_
           clear n0_ n1_ n2_
           have n0_ := Aside0.mk (blk_drew BK230.out)
           have n1_ := Aside0.mk (blk_drew BK232.out)
           have n2_ := Aside0.mk (below_drew1 HB.out)
           clear BK230
           clear BK232
           clear HB
           have BK230 := n0_
           have BK232 := n1_
           have HB := n2_
           clear n0_ n1_ n2_
           have p234 : 0 ≤ ((ji10) : Int) := od_
           have q234 : (ji10) < (l0_1.length : Int) := od_
           obtain ⟨ad234, e234, hx234_0, hx234_1⟩ := at_T91 HR0_1.out (ji10) p234 q234
           have hw234_1 := hx234_1
           have hw234_0 := hx234_0
           obtain rfl : ad231 = ad234 := (by injection e234)
           replace hx234_0 := kc_ HB hx234_0
           replace hx234_1 := kc_ HB hx234_1
           replace p234 := eq_true p234
           replace q234 := eq_true q234
           refine start_ (n := 22) (S := fun w' => w'.cell? ⟨gb232, 0, none⟩ = some (.int .i64 ((rd_T91 l0_1 x8_1).f0)) ∧ w'.cell? ⟨gb232, 1, none⟩ = some (.string ((rd_T91 l0_1 x8_1).f1)) ∧ w'.cell? ⟨gb230, 0, none⟩ = some (.string a0_0) ∧ w'.cell? ⟨gb230, 1, none⟩ = some (.slice (some ad231) l0_1.length c0_1) ∧ w'.cell? (ad231.add (((ji10)).toNat * 2)) = some (.int .i64 ((rd_T91 l0_1 (ji10)).f0)) ∧ w'.cell? ⟨(ad231.add (((ji10)).toNat * 2)).block, (ad231.add (((ji10)).toNat * 2)).off + 1, none⟩ = some (.string ((rd_T91 l0_1 (ji10)).f1))) (ds := []) tb22_0_10 (by kernel_rfl) rfl rfl ⟨cy_ BK232 0, cy_ BK232 1, cy_ BK230 0, cy_ BK230 1, (kc_ HB hw234_0), (kc_ HB hw234_1)⟩ (fun hHeld => ?_); refine with_tabW impl_MsgOk.tab4 impl_MsgOk.bits4 (fun HT_ HW_ => ?_)
           generalize w17.drew = w18 at BK230 BK232 HB hx234_0 hx234_1 hHeld ⊢
           refine pl_ HT_ 0 13 tb22_1_10 ?_
           refine pl_ HT_ 2 15 tb22_5_10 ?_
           refine take_ (i := 1) (N := some 14) (v := ?_) (a' := ?_) tb22_7_10 rfl rfl (take_ofW HT_.out HW_.out (by kernel_rfl)) (fun _ _ _ h => h) (Or.inl ⟨by rfl, ?_⟩) hHeld ?_ ?_
           rotate_left
           ·rintro w' ⟨s0, s1, s2, s3, s4, s5⟩
            go_simp
            with_reducible rfl
           rotate_left
           ·simp only [Act.put, q_]
            rfl
           refine take_ (i := 3) (N := some 16) (v := ?_) (a' := ?_) tb22_f_10 rfl rfl (take_ofW HT_.out HW_.out (by kernel_rfl)) (fun _ _ _ h => h) (Or.inl ⟨by rfl, ?_⟩) hHeld ?_ ?_
           rotate_left
           ·rintro w' ⟨s0, s1, s2, s3, s4, s5⟩
            go_simp
            with_reducible rfl
           rotate_left
           ·simp only [Act.put, q_]
            rfl
           refine one_ (i := 4) (N := some 17) tb22_1f_10 rfl rfl (one_of HT_.out (by kernel_rfl)) (by decide) (fun K hK => ?_)
           refine goes_ Tryz.func84 (by kernel_rfl) rfl #[.int .i64 ((rd_T91 l0_1 x8_1).f0), .string ((rd_T91 l0_1 x8_1).f1)] (by rfl) rfl rfl gl_ ?_
           with_reducible refine (impl_FieldOk.calls k1 ((rd_T91 l0_1 x8_1).f0) ((rd_T91 l0_1 x8_1).f1) true _ A7.out).mono ?_
           rintro e w19 ⟨rfl, hb⟩
           refine ⟨_, rfl, ?_⟩
           have n0_ := Aside0.mk (blk_below (bk_ BK230) hb)
           have n1_ := Aside0.mk (blk_below (bk_ BK232) hb)
           have n2_ := Aside0.mk (below_step bl_ hb)
           clear BK230
           clear BK232
           clear HB
           have BK230 := n0_
           have BK232 := n1_
           have HB := n2_
           clear n0_ n1_ n2_
           (try clear hb)
           (try clear hb2)
           (try clear hk)
           (try clear hi)
           refine hK.out _ _ ⟨cy_ BK232 0, cy_ BK232 1, cy_ BK230 0, cy_ BK230 1, (kc_ HB hw234_0), (kc_ HB hw234_1)⟩ (fun hHeld => ?_)
           clear hK K
           refine norm_ (a' := ?_) ?_ ?_
           rotate_left
           ·show Act.put _ (some 17) _ = _
            simp only [Act.put, q_]
            rfl
           refine pl_ HT_ 5 18 tb22_3f_10 ?_
           refine pl_ HT_ 6 19 tb22_7f_10 ?_
           refine pl_ HT_ 7 20 tb22_ff_10 ?_
           refine pl_ HT_ 8 21 tb22_1ff_10 ?_
           refine pl_ HT_ 9 22 tb22_3ff_10 ?_
           refine pl_ HT_ 10 23 tb22_7ff_10 ?_
           refine pl_ HT_ 12 25 tb22_17ff_10 ?_
           refine pl_ HT_ 14 27 tb22_57ff_10 ?_
           refine pl_ HT_ 15 28 tb22_d7ff_10 ?_
           refine take_ (i := 11) (N := some 24) (v := ?_) (a' := ?_) tb22_dfff_10 rfl rfl (take_ofW HT_.out HW_.out (by kernel_rfl)) (fun _ _ _ h => h) (Or.inl ⟨by rfl, ?_⟩) hHeld ?_ ?_
           rotate_left
           ·rintro w' ⟨s0, s1, s2, s3, s4, s5⟩
            go_simp
            with_reducible rfl
           rotate_left
           ·simp only [Act.put, q_]
            rfl
           refine take_ (i := 13) (N := some 26) (v := ?_) (a' := ?_) tb22_ffff_10 rfl rfl (take_ofW HT_.out HW_.out (by kernel_rfl)) (fun _ _ _ h => h) (Or.inl ⟨by rfl, ?_⟩) hHeld ?_ ?_
           rotate_left
           ·rintro w' ⟨s0, s1, s2, s3, s4, s5⟩
            go_simp
            with_reducible rfl
           rotate_left
           ·simp only [Act.put, q_]
            rfl
           refine pl_ HT_ 16 29 tb22_1ffff_10 ?_
           refine pl_ HT_ 17 30 tb22_3ffff_10 ?_
           refine take_ (i := 18) (N := some 31) (v := ?_) (a' := ?_) tb22_7ffff_10 rfl rfl (take_ofW HT_.out HW_.out (by kernel_rfl)) (fun _ _ _ h => h) (Or.inl ⟨by rfl, ?_⟩) hHeld ?_ ?_
           rotate_left
           ·rintro w' ⟨s0, s1, s2, s3, s4, s5⟩
            go_simp
            with_reducible rfl
           rotate_left
           ·simp only [Act.put, q_]
            rfl
           refine pl_ HT_ 19 32 tb22_fffff_10 ?_
           refine pl_ HT_ 20 33 tb22_1fffff_10 ?_
           refine pl_ HT_ 21 34 tb22_3fffff_10 ?_
           refine done_ (done_of HT_.out (by kernel_rfl)) ?_
           try go_wp2
           go_ret
           exact ⟨by first | rfl | (simp [errW_none, errW_some] <;> rfl) | (simp only [← hji10]; first | rfl | (simp [errW_none, errW_some] <;> rfl)) | (simp [*, errW_none, errW_some] <;> rfl), bl_⟩
          ·rw [if_neg c13] at H
           have c13b0 : decide (((rd_T91 l0_1 x8_1).f0) ≤ ((rd_T91 l0_1 (ji10)).f0)) = false := decide_eq_false c13
           clear c13
           have H' := Aside0.mk H
           clear H
           have p231 : 0 ≤ (x8_1 : Int) := od_
           have q231 : x8_1 < (l0_1.length : Int) := od_
           obtain ⟨ad231, e231, hx231_0, hx231_1⟩ := at_T91 HR0_1.out x8_1 p231 q231
           cases e231
           replace hx231_0 := kc_ HB hx231_0
           replace hx231_1 := kc_ HB hx231_1
           replace p231 := eq_true p231
           replace q231 := eq_true q231
           try go_wp2_with (first | ((with_reducible refine gate_dst (N := 4) rfl ?_); refine be_ (N := 4) (cs := #[.int .i64 0, .string (⟨#[]⟩ : ByteArray)]) (t := 91) ?_; intro gb232 hg w20 hbox hb; have BK232 := Aside0.mk (hbox); have GW232 := gw_ (w := w) hg; have GE232 := gw_ (w := w) hg; replace HB := Aside0.mk (below_step bl_ hb); have NB230_232 := Aside0.mk ((by rw [hg]; exact Nat.ne_of_lt (blk_lt (bk_ BK230)) : gb230 ≠ gb232)); have NB232_230 := Aside0.mk ((by rw [hg]; exact Nat.ne_of_gt (blk_lt (bk_ BK230)) : gb232 ≠ gb230)); replace BK230 := Aside0.mk (blk_below (bk_ BK230) hb); clear hb hbox hg; have hnb21 := NB232_230.out; have hnc21 := NB230_232.out; obtain ⟨hcz22_0, hcz22_1, hfz22_0, hfz22_1⟩ := bx2_ BK232))
           have n0_ : Aside0 (((w20.setCell ⟨gb232, 0, none⟩ (.int .i64 ((rd_T91 l0_1 x8_1).f0))).setCell ⟨gb232, 1, none⟩ (.string ((rd_T91 l0_1 x8_1).f1))).heap[gb230]? = some (.cells #[.string a0_0, .slice (some ad231) l0_1.length c0_1] 32 (0, 0))) := ⟨by (with_reducible repeat (first | refine blk_drewN ?_ _ | refine blk_drew ?_ | refine blk_alloc ?_ _)); refine blk_far ?_ NB230_232.out _; (with_reducible repeat (first | refine blk_drewN ?_ _ | refine blk_drew ?_ | refine blk_alloc ?_ _)); refine blk_far ?_ NB230_232.out _; (with_reducible repeat (first | refine blk_drewN ?_ _ | refine blk_drew ?_ | refine blk_alloc ?_ _)); exact BK230.out⟩
           have n1_ : Aside0 (((w20.setCell ⟨gb232, 0, none⟩ (.int .i64 ((rd_T91 l0_1 x8_1).f0))).setCell ⟨gb232, 1, none⟩ (.string ((rd_T91 l0_1 x8_1).f1))).heap[gb232]? = some (.cells #[.int .i64 ((rd_T91 l0_1 x8_1).f0), .string ((rd_T91 l0_1 x8_1).f1)] 91 (0, 0))) := ⟨by (with_reducible repeat (first | refine blk_drewN ?_ _ | refine blk_drew ?_ | refine blk_alloc ?_ _)); apply bq2_1_0_; (with_reducible repeat (first | refine blk_drewN ?_ _ | refine blk_drew ?_ | refine blk_alloc ?_ _)); exact BK232.out⟩
           have n2_ : Aside0 (Below w.heap.size w ((w20.setCell ⟨gb232, 0, none⟩ (.int .i64 ((rd_T91 l0_1 x8_1).f0))).setCell ⟨gb232, 1, none⟩ (.string ((rd_T91 l0_1 x8_1).f1)))) := ⟨bl_⟩
           (try clear BK230)
           (try clear BK232)
           (try clear HB)
           generalize ((w20.setCell ⟨gb232, 0, none⟩ (.int .i64 ((rd_T91 l0_1 x8_1).f0))).setCell ⟨gb232, 1, none⟩ (.string ((rd_T91 l0_1 x8_1).f1))) = w23 at n0_ n1_ n2_ ⊢
           have BK230 := n0_
           have BK232 := n1_
           have HB := n2_
           clear n0_ n1_ n2_
           have n0_ := Aside0.mk (blk_drew BK230.out)
           have n1_ := Aside0.mk (blk_drew BK232.out)
           have n2_ := Aside0.mk (below_drew1 HB.out)
           clear BK230
           clear BK232
           clear HB
           have BK230 := n0_
           have BK232 := n1_
           have HB := n2_
           clear n0_ n1_ n2_
           have p234 : 0 ≤ ((ji10) : Int) := od_
           have q234 : (ji10) < (l0_1.length : Int) := od_
           obtain ⟨ad234, e234, hx234_0, hx234_1⟩ := at_T91 HR0_1.out (ji10) p234 q234
           have hw234_1 := hx234_1
           have hw234_0 := hx234_0
           obtain rfl : ad231 = ad234 := (by injection e234)
           replace hx234_0 := kc_ HB hx234_0
           replace hx234_1 := kc_ HB hx234_1
           replace p234 := eq_true p234
           replace q234 := eq_true q234
           refine start_ (n := 22) (S := fun w' => w'.cell? ⟨gb232, 0, none⟩ = some (.int .i64 ((rd_T91 l0_1 x8_1).f0)) ∧ w'.cell? ⟨gb232, 1, none⟩ = some (.string ((rd_T91 l0_1 x8_1).f1)) ∧ w'.cell? ⟨gb230, 0, none⟩ = some (.string a0_0) ∧ w'.cell? ⟨gb230, 1, none⟩ = some (.slice (some ad231) l0_1.length c0_1) ∧ w'.cell? (ad231.add (((ji10)).toNat * 2)) = some (.int .i64 ((rd_T91 l0_1 (ji10)).f0)) ∧ w'.cell? ⟨(ad231.add (((ji10)).toNat * 2)).block, (ad231.add (((ji10)).toNat * 2)).off + 1, none⟩ = some (.string ((rd_T91 l0_1 (ji10)).f1))) (ds := []) tb22_0_10 (by kernel_rfl) rfl rfl ⟨cy_ BK232 0, cy_ BK232 1, cy_ BK230 0, cy_ BK230 1, (kc_ HB hw234_0), (kc_ HB hw234_1)⟩ (fun hHeld => ?_); refine with_tabW impl_MsgOk.tab4 impl_MsgOk.bits4 (fun HT_ HW_ => ?_)
           generalize w23.drew = w24 at BK230 BK232 HB hx234_0 hx234_1 hHeld ⊢
           refine pl_ HT_ 0 13 tb22_1_10 ?_
           refine pl_ HT_ 2 15 tb22_5_10 ?_
           refine take_ (i := 1) (N := some 14) (v := ?_) (a' := ?_) tb22_7_10 rfl rfl (take_ofW HT_.out HW_.out (by kernel_rfl)) (fun _ _ _ h => h) (Or.inl ⟨by rfl, ?_⟩) hHeld ?_ ?_
           rotate_left
           ·rintro w' ⟨s0, s1, s2, s3, s4, s5⟩
            go_simp
            with_reducible rfl
           rotate_left
           ·simp only [Act.put, q_]
            rfl
           refine take_ (i := 3) (N := some 16) (v := ?_) (a' := ?_) tb22_f_10 rfl rfl (take_ofW HT_.out HW_.out (by kernel_rfl)) (fun _ _ _ h => h) (Or.inl ⟨by rfl, ?_⟩) hHeld ?_ ?_
           rotate_left
           ·rintro w' ⟨s0, s1, s2, s3, s4, s5⟩
            go_simp
            with_reducible rfl
           rotate_left
           ·simp only [Act.put, q_]
            rfl
           refine one_ (i := 4) (N := some 17) tb22_1f_10 rfl rfl (one_of HT_.out (by kernel_rfl)) (by decide) (fun K hK => ?_)
           refine goes_ Tryz.func84 (by kernel_rfl) rfl #[.int .i64 ((rd_T91 l0_1 x8_1).f0), .string ((rd_T91 l0_1 x8_1).f1)] (by rfl) rfl rfl gl_ ?_
           with_reducible refine (impl_FieldOk.calls k1 ((rd_T91 l0_1 x8_1).f0) ((rd_T91 l0_1 x8_1).f1) true _ A7.out).mono ?_
           rintro e w25 ⟨rfl, hb⟩
           refine ⟨_, rfl, ?_⟩
           have n0_ := Aside0.mk (blk_below (bk_ BK230) hb)
           have n1_ := Aside0.mk (blk_below (bk_ BK232) hb)
           have n2_ := Aside0.mk (below_step bl_ hb)
           clear BK230
           clear BK232
           clear HB
           have BK230 := n0_
           have BK232 := n1_
           have HB := n2_
           clear n0_ n1_ n2_
           (try clear hb)
           (try clear hb2)
           (try clear hk)
           (try clear hi)
           refine hK.out _ _ ⟨cy_ BK232 0, cy_ BK232 1, cy_ BK230 0, cy_ BK230 1, (kc_ HB hw234_0), (kc_ HB hw234_1)⟩ (fun hHeld => ?_)
           clear hK K
           refine norm_ (a' := ?_) ?_ ?_
           rotate_left
           ·show Act.put _ (some 17) _ = _
            simp only [Act.put, q_]
            rfl
           refine pl_ HT_ 5 18 tb22_3f_10 ?_
           refine pl_ HT_ 6 19 tb22_7f_10 ?_
           refine pl_ HT_ 7 20 tb22_ff_10 ?_
           refine pl_ HT_ 8 21 tb22_1ff_10 ?_
           refine pl_ HT_ 9 22 tb22_3ff_10 ?_
           refine pl_ HT_ 10 23 tb22_7ff_10 ?_
           refine pl_ HT_ 12 25 tb22_17ff_10 ?_
           refine pl_ HT_ 14 27 tb22_57ff_10 ?_
           refine pl_ HT_ 15 28 tb22_d7ff_10 ?_
           refine take_ (i := 11) (N := some 24) (v := ?_) (a' := ?_) tb22_dfff_10 rfl rfl (take_ofW HT_.out HW_.out (by kernel_rfl)) (fun _ _ _ h => h) (Or.inl ⟨by rfl, ?_⟩) hHeld ?_ ?_
           rotate_left
           ·rintro w' ⟨s0, s1, s2, s3, s4, s5⟩
            go_simp
            with_reducible rfl
           rotate_left
           ·simp only [Act.put, q_]
            rfl
           refine take_ (i := 13) (N := some 26) (v := ?_) (a' := ?_) tb22_ffff_10 rfl rfl (take_ofW HT_.out HW_.out (by kernel_rfl)) (fun _ _ _ h => h) (Or.inl ⟨by rfl, ?_⟩) hHeld ?_ ?_
           rotate_left
           ·rintro w' ⟨s0, s1, s2, s3, s4, s5⟩
            go_simp
            with_reducible rfl
           rotate_left
           ·simp only [Act.put, q_]
            rfl
           refine pl_ HT_ 16 29 tb22_1ffff_10 ?_
           refine pl_ HT_ 17 30 tb22_3ffff_10 ?_
           refine take_ (i := 18) (N := some 31) (v := ?_) (a' := ?_) tb22_7ffff_10 rfl rfl (take_ofW HT_.out HW_.out (by kernel_rfl)) (fun _ _ _ h => h) (Or.inl ⟨by rfl, ?_⟩) hHeld ?_ ?_
           rotate_left
           ·rintro w' ⟨s0, s1, s2, s3, s4, s5⟩
            go_simp
            with_reducible rfl
           rotate_left
           ·simp only [Act.put, q_]
            rfl
           refine pl_ HT_ 19 32 tb22_fffff_10 ?_
           refine pl_ HT_ 20 33 tb22_1fffff_10 ?_
           refine pl_ HT_ 21 34 tb22_3fffff_10 ?_
           refine done_ (done_of HT_.out (by kernel_rfl)) ?_
           try go_wp2
           go_roundg k1
           case measure => have := HK1.out; omega
           case rel => exact ⟨(wrap64 (x8_1 + 1)), sp_, H', ⟨by have := HK1.out; omega⟩, ⟨by (with_reducible repeat (first | refine blk_drewN ?_ _ | refine blk_drew ?_ | refine blk_alloc ?_ _)); exact BK230.out⟩, ⟨bl_⟩⟩
         ·rw [if_neg c12] at H
          exact absurd H (by simp)
        ·rw [if_neg c11] at H
         exact absurd H (by simp)
       ·rw [if_neg c9] at H
        have c9b0 : decide (0 < x8_1) = false := decide_eq_false c9
        clear c9
        have H' := Aside0.mk H
        clear H
        have p231 : 0 ≤ (x8_1 : Int) := od_
        have q231 : x8_1 < (l0_1.length : Int) := od_
        obtain ⟨ad231, e231, hx231_0, hx231_1⟩ := at_T91 HR0_1.out x8_1 p231 q231
        cases e231
        replace hx231_0 := kc_ HB hx231_0
        replace hx231_1 := kc_ HB hx231_1
        replace p231 := eq_true p231
        replace q231 := eq_true q231
        try go_wp2_with (first | ((with_reducible refine gate_dst (N := 4) rfl ?_); refine be_ (N := 4) (cs := #[.int .i64 0, .string (⟨#[]⟩ : ByteArray)]) (t := 91) ?_; intro gb232 hg w26 hbox hb; have BK232 := Aside0.mk (hbox); have GW232 := gw_ (w := w) hg; have GE232 := gw_ (w := w) hg; replace HB := Aside0.mk (below_step bl_ hb); have NB230_232 := Aside0.mk ((by rw [hg]; exact Nat.ne_of_lt (blk_lt (bk_ BK230)) : gb230 ≠ gb232)); have NB232_230 := Aside0.mk ((by rw [hg]; exact Nat.ne_of_gt (blk_lt (bk_ BK230)) : gb232 ≠ gb230)); replace BK230 := Aside0.mk (blk_below (bk_ BK230) hb); clear hb hbox hg; have hnb27 := NB232_230.out; have hnc27 := NB230_232.out; obtain ⟨hcz28_0, hcz28_1, hfz28_0, hfz28_1⟩ := bx2_ BK232))
        have n0_ : Aside0 (((w26.setCell ⟨gb232, 0, none⟩ (.int .i64 ((rd_T91 l0_1 x8_1).f0))).setCell ⟨gb232, 1, none⟩ (.string ((rd_T91 l0_1 x8_1).f1))).heap[gb230]? = some (.cells #[.string a0_0, .slice (some ad231) l0_1.length c0_1] 32 (0, 0))) := ⟨by (with_reducible repeat (first | refine blk_drewN ?_ _ | refine blk_drew ?_ | refine blk_alloc ?_ _)); refine blk_far ?_ NB230_232.out _; (with_reducible repeat (first | refine blk_drewN ?_ _ | refine blk_drew ?_ | refine blk_alloc ?_ _)); refine blk_far ?_ NB230_232.out _; (with_reducible repeat (first | refine blk_drewN ?_ _ | refine blk_drew ?_ | refine blk_alloc ?_ _)); exact BK230.out⟩
        have n1_ : Aside0 (((w26.setCell ⟨gb232, 0, none⟩ (.int .i64 ((rd_T91 l0_1 x8_1).f0))).setCell ⟨gb232, 1, none⟩ (.string ((rd_T91 l0_1 x8_1).f1))).heap[gb232]? = some (.cells #[.int .i64 ((rd_T91 l0_1 x8_1).f0), .string ((rd_T91 l0_1 x8_1).f1)] 91 (0, 0))) := ⟨by (with_reducible repeat (first | refine blk_drewN ?_ _ | refine blk_drew ?_ | refine blk_alloc ?_ _)); apply bq2_1_0_; (with_reducible repeat (first | refine blk_drewN ?_ _ | refine blk_drew ?_ | refine blk_alloc ?_ _)); exact BK232.out⟩
        have n2_ : Aside0 (Below w.heap.size w ((w26.setCell ⟨gb232, 0, none⟩ (.int .i64 ((rd_T91 l0_1 x8_1).f0))).setCell ⟨gb232, 1, none⟩ (.string ((rd_T91 l0_1 x8_1).f1)))) := ⟨bl_⟩
        (try clear BK230)
        (try clear BK232)
        (try clear HB)
        generalize ((w26.setCell ⟨gb232, 0, none⟩ (.int .i64 ((rd_T91 l0_1 x8_1).f0))).setCell ⟨gb232, 1, none⟩ (.string ((rd_T91 l0_1 x8_1).f1))) = w29 at n0_ n1_ n2_ ⊢
        have BK230 := n0_
        have BK232 := n1_
        have HB := n2_
        clear n0_ n1_ n2_
        have n0_ := Aside0.mk (blk_drew BK230.out)
        have n1_ := Aside0.mk (blk_drew BK232.out)
        have n2_ := Aside0.mk (below_drew1 HB.out)
        clear BK230
        clear BK232
        clear HB
        have BK230 := n0_
        have BK232 := n1_
        have HB := n2_
        clear n0_ n1_ n2_
        refine start_ (n := 22) (S := fun w' => w'.cell? ⟨gb232, 0, none⟩ = some (.int .i64 ((rd_T91 l0_1 x8_1).f0)) ∧ w'.cell? ⟨gb232, 1, none⟩ = some (.string ((rd_T91 l0_1 x8_1).f1))) (ds := []) tb22_0_10 (by kernel_rfl) rfl rfl ⟨cy_ BK232 0, cy_ BK232 1⟩ (fun hHeld => ?_); refine with_tabW impl_MsgOk.tab4 impl_MsgOk.bits4 (fun HT_ HW_ => ?_)
        generalize w29.drew = w30 at BK230 BK232 HB hHeld ⊢
        refine pl_ HT_ 0 13 tb22_1_10 ?_
        refine pl_ HT_ 2 15 tb22_5_10 ?_
        refine take_ (i := 1) (N := some 14) (v := ?_) (a' := ?_) tb22_7_10 rfl rfl (take_ofW HT_.out HW_.out (by kernel_rfl)) (fun _ _ _ h => h) (Or.inl ⟨by rfl, ?_⟩) hHeld ?_ ?_
        rotate_left
        ·rintro w' ⟨s0, s1⟩
         go_simp
         with_reducible rfl
        rotate_left
        ·simp only [Act.put, q_]
         rfl
        refine take_ (i := 3) (N := some 16) (v := ?_) (a' := ?_) tb22_f_10 rfl rfl (take_ofW HT_.out HW_.out (by kernel_rfl)) (fun _ _ _ h => h) (Or.inl ⟨by rfl, ?_⟩) hHeld ?_ ?_
        rotate_left
        ·rintro w' ⟨s0, s1⟩
         go_simp
         with_reducible rfl
        rotate_left
        ·simp only [Act.put, q_]
         rfl
        refine one_ (i := 4) (N := some 17) tb22_1f_10 rfl rfl (one_of HT_.out (by kernel_rfl)) (by decide) (fun K hK => ?_)
        refine goes_ Tryz.func84 (by kernel_rfl) rfl #[.int .i64 ((rd_T91 l0_1 x8_1).f0), .string ((rd_T91 l0_1 x8_1).f1)] (by rfl) rfl rfl gl_ ?_
        with_reducible refine (impl_FieldOk.calls k1 ((rd_T91 l0_1 x8_1).f0) ((rd_T91 l0_1 x8_1).f1) true _ A7.out).mono ?_
        rintro e w31 ⟨rfl, hb⟩
        refine ⟨_, rfl, ?_⟩
        have n0_ := Aside0.mk (blk_below (bk_ BK230) hb)
        have n1_ := Aside0.mk (blk_below (bk_ BK232) hb)
        have n2_ := Aside0.mk (below_step bl_ hb)
        clear BK230
        clear BK232
        clear HB
        have BK230 := n0_
        have BK232 := n1_
        have HB := n2_
        clear n0_ n1_ n2_
        (try clear hb)
        (try clear hb2)
        (try clear hk)
        (try clear hi)
        refine hK.out _ _ ⟨cy_ BK232 0, cy_ BK232 1⟩ (fun hHeld => ?_)
        clear hK K
        refine norm_ (a' := ?_) ?_ ?_
        rotate_left
        ·show Act.put _ (some 17) _ = _
         simp only [Act.put, q_]
         rfl
        refine pl_ HT_ 5 18 tb22_3f_10 ?_
        refine pl_ HT_ 6 19 tb22_7f_10 ?_
        refine pl_ HT_ 7 20 tb22_ff_10 ?_
        refine pl_ HT_ 8 21 tb22_1ff_10 ?_
        refine pl_ HT_ 9 22 tb22_3ff_10 ?_
        refine pr_ HT_ 10 23 tb22_7ff_10 ?_
        refine pr_ HT_ 11 24 tb22_fff_10 ?_
        refine pr_ HT_ 12 25 tb22_1fff_10 ?_
        refine pr_ HT_ 13 26 tb22_3fff_10 ?_
        refine pr_ HT_ 14 27 tb22_7fff_10 ?_
        refine pr_ HT_ 15 28 tb22_ffff_10 ?_
        refine pr_ HT_ 16 29 tb22_1ffff_10 ?_
        refine pr_ HT_ 17 30 tb22_3ffff_10 ?_
        refine pr_ HT_ 18 31 tb22_7ffff_10 ?_
        refine pr_ HT_ 19 32 tb22_fffff_10 ?_
        refine pl_ HT_ 20 33 tb22_1fffff_10 ?_
        refine pl_ HT_ 21 34 tb22_3fffff_10 ?_
        refine done_ (done_of HT_.out (by kernel_rfl)) ?_
        try go_wp2
        go_roundg k1
        case measure => have := HK1.out; omega
        case rel => exact ⟨(wrap64 (x8_1 + 1)), sp_, H', ⟨by have := HK1.out; omega⟩, ⟨by (with_reducible repeat (first | refine blk_drewN ?_ _ | refine blk_drew ?_ | refine blk_alloc ?_ _)); exact BK230.out⟩, ⟨bl_⟩⟩
      ·replace c8 := Bool.eq_false_iff.mpr c8
       subst c8
       replace H := in_ H
       obtain rfl := Option.some.inj H
       have p231 : 0 ≤ (x8_1 : Int) := od_
       have q231 : x8_1 < (l0_1.length : Int) := od_
       obtain ⟨ad231, e231, hx231_0, hx231_1⟩ := at_T91 HR0_1.out x8_1 p231 q231
       cases e231
       replace hx231_0 := kc_ HB hx231_0
       replace hx231_1 := kc_ HB hx231_1
       replace p231 := eq_true p231
       replace q231 := eq_true q231
       try go_wp2_with (first | ((with_reducible refine gate_dst (N := 4) rfl ?_); refine be_ (N := 4) (cs := #[.int .i64 0, .string (⟨#[]⟩ : ByteArray)]) (t := 91) ?_; intro gb232 hg w32 hbox hb; have BK232 := Aside0.mk (hbox); have GW232 := gw_ (w := w) hg; have GE232 := gw_ (w := w) hg; replace HB := Aside0.mk (below_step bl_ hb); have NB230_232 := Aside0.mk ((by rw [hg]; exact Nat.ne_of_lt (blk_lt (bk_ BK230)) : gb230 ≠ gb232)); have NB232_230 := Aside0.mk ((by rw [hg]; exact Nat.ne_of_gt (blk_lt (bk_ BK230)) : gb232 ≠ gb230)); replace BK230 := Aside0.mk (blk_below (bk_ BK230) hb); clear hb hbox hg; have hnb33 := NB232_230.out; have hnc33 := NB230_232.out; obtain ⟨hcz34_0, hcz34_1, hfz34_0, hfz34_1⟩ := bx2_ BK232))
       have n0_ : Aside0 (((w32.setCell ⟨gb232, 0, none⟩ (.int .i64 ((rd_T91 l0_1 x8_1).f0))).setCell ⟨gb232, 1, none⟩ (.string ((rd_T91 l0_1 x8_1).f1))).heap[gb230]? = some (.cells #[.string a0_0, .slice (some ad231) l0_1.length c0_1] 32 (0, 0))) := ⟨by (with_reducible repeat (first | refine blk_drewN ?_ _ | refine blk_drew ?_ | refine blk_alloc ?_ _)); refine blk_far ?_ NB230_232.out _; (with_reducible repeat (first | refine blk_drewN ?_ _ | refine blk_drew ?_ | refine blk_alloc ?_ _)); refine blk_far ?_ NB230_232.out _; (with_reducible repeat (first | refine blk_drewN ?_ _ | refine blk_drew ?_ | refine blk_alloc ?_ _)); exact BK230.out⟩
       have n1_ : Aside0 (((w32.setCell ⟨gb232, 0, none⟩ (.int .i64 ((rd_T91 l0_1 x8_1).f0))).setCell ⟨gb232, 1, none⟩ (.string ((rd_T91 l0_1 x8_1).f1))).heap[gb232]? = some (.cells #[.int .i64 ((rd_T91 l0_1 x8_1).f0), .string ((rd_T91 l0_1 x8_1).f1)] 91 (0, 0))) := ⟨by (with_reducible repeat (first | refine blk_drewN ?_ _ | refine blk_drew ?_ | refine blk_alloc ?_ _)); apply bq2_1_0_; (with_reducible repeat (first | refine blk_drewN ?_ _ | refine blk_drew ?_ | refine blk_alloc ?_ _)); exact BK232.out⟩
       have n2_ : Aside0 (Below w.heap.size w ((w32.setCell ⟨gb232, 0, none⟩ (.int .i64 ((rd_T91 l0_1 x8_1).f0))).setCell ⟨gb232, 1, none⟩ (.string ((rd_T91 l0_1 x8_1).f1)))) := ⟨bl_⟩
       (try clear BK230)
       (try clear BK232)
       (try clear HB)
       generalize ((w32.setCell ⟨gb232, 0, none⟩ (.int .i64 ((rd_T91 l0_1 x8_1).f0))).setCell ⟨gb232, 1, none⟩ (.string ((rd_T91 l0_1 x8_1).f1))) = w35 at n0_ n1_ n2_ ⊢
       have BK230 := n0_
       have BK232 := n1_
       have HB := n2_
       clear n0_ n1_ n2_
       have n0_ := Aside0.mk (blk_drew BK230.out)
       have n1_ := Aside0.mk (blk_drew BK232.out)
       have n2_ := Aside0.mk (below_drew1 HB.out)
       clear BK230
       clear BK232
       clear HB
       have BK230 := n0_
       have BK232 := n1_
       have HB := n2_
       clear n0_ n1_ n2_
       refine start_ (n := 22) (S := fun w' => w'.cell? ⟨gb232, 0, none⟩ = some (.int .i64 ((rd_T91 l0_1 x8_1).f0)) ∧ w'.cell? ⟨gb232, 1, none⟩ = some (.string ((rd_T91 l0_1 x8_1).f1))) (ds := []) tb22_0_10 (by kernel_rfl) rfl rfl ⟨cy_ BK232 0, cy_ BK232 1⟩ (fun hHeld => ?_); refine with_tabW impl_MsgOk.tab4 impl_MsgOk.bits4 (fun HT_ HW_ => ?_)
       generalize w35.drew = w36 at BK230 BK232 HB hHeld ⊢
       refine pl_ HT_ 0 13 tb22_1_10 ?_
       refine pl_ HT_ 2 15 tb22_5_10 ?_
       refine take_ (i := 1) (N := some 14) (v := ?_) (a' := ?_) tb22_7_10 rfl rfl (take_ofW HT_.out HW_.out (by kernel_rfl)) (fun _ _ _ h => h) (Or.inl ⟨by rfl, ?_⟩) hHeld ?_ ?_
       rotate_left
       ·rintro w' ⟨s0, s1⟩
        go_simp
        with_reducible rfl
       rotate_left
       ·simp only [Act.put, q_]
        rfl
       refine take_ (i := 3) (N := some 16) (v := ?_) (a' := ?_) tb22_f_10 rfl rfl (take_ofW HT_.out HW_.out (by kernel_rfl)) (fun _ _ _ h => h) (Or.inl ⟨by rfl, ?_⟩) hHeld ?_ ?_
       rotate_left
       ·rintro w' ⟨s0, s1⟩
        go_simp
        with_reducible rfl
       rotate_left
       ·simp only [Act.put, q_]
        rfl
       refine one_ (i := 4) (N := some 17) tb22_1f_10 rfl rfl (one_of HT_.out (by kernel_rfl)) (by decide) (fun K hK => ?_)
       refine goes_ Tryz.func84 (by kernel_rfl) rfl #[.int .i64 ((rd_T91 l0_1 x8_1).f0), .string ((rd_T91 l0_1 x8_1).f1)] (by rfl) rfl rfl gl_ ?_
       with_reducible refine (impl_FieldOk.calls k1 ((rd_T91 l0_1 x8_1).f0) ((rd_T91 l0_1 x8_1).f1) false _ A7.out).mono ?_
       rintro e w37 ⟨rfl, hb⟩
       refine ⟨_, rfl, ?_⟩
       have n0_ := Aside0.mk (blk_below (bk_ BK230) hb)
       have n1_ := Aside0.mk (blk_below (bk_ BK232) hb)
       have n2_ := Aside0.mk (below_step bl_ hb)
       clear BK230
       clear BK232
       clear HB
       have BK230 := n0_
       have BK232 := n1_
       have HB := n2_
       clear n0_ n1_ n2_
       (try clear hb)
       (try clear hb2)
       (try clear hk)
       (try clear hi)
       refine hK.out _ _ ⟨cy_ BK232 0, cy_ BK232 1⟩ (fun hHeld => ?_)
       clear hK K
       refine norm_ (a' := ?_) ?_ ?_
       rotate_left
       ·show Act.put _ (some 17) _ = _
        simp only [Act.put, q_]
        rfl
       refine pl_ HT_ 5 18 tb22_3f_10 ?_
       refine pl_ HT_ 6 19 tb22_7f_10 ?_
       refine pr_ HT_ 7 20 tb22_ff_10 ?_
       refine pr_ HT_ 8 21 tb22_1ff_10 ?_
       refine pr_ HT_ 9 22 tb22_3ff_10 ?_
       refine pr_ HT_ 10 23 tb22_7ff_10 ?_
       refine pr_ HT_ 11 24 tb22_fff_10 ?_
       refine pr_ HT_ 12 25 tb22_1fff_10 ?_
       refine pr_ HT_ 13 26 tb22_3fff_10 ?_
       refine pr_ HT_ 14 27 tb22_7fff_10 ?_
       refine pr_ HT_ 15 28 tb22_ffff_10 ?_
       refine pr_ HT_ 16 29 tb22_1ffff_10 ?_
       refine pr_ HT_ 17 30 tb22_3ffff_10 ?_
       refine pr_ HT_ 18 31 tb22_7ffff_10 ?_
       refine pr_ HT_ 19 32 tb22_fffff_10 ?_
       refine pr_ HT_ 20 33 tb22_1fffff_10 ?_
       refine pl_ HT_ 21 34 tb22_3fffff_10 ?_
       refine done_ (done_of HT_.out (by kernel_rfl)) ?_
       try go_wp2
       go_ret
       exact ⟨sq_, bl_⟩
     ·rw [if_neg c6] at H
      exact absurd H (by simp)
    ·rw [if_neg c5] at H
     exact absurd H (by simp)
   ·rw [if_neg c4] at H
    have c4b0 : decide (x8_1 < (l0_1.length : Int)) = false := decide_eq_false c4
    clear c4
    obtain ⟨t235, A38, H⟩ := ob_ H
    obtain rfl := Option.some.inj H
    have hcz39_0 := cz_ BK230 0 (.string a0_0)
    have hcz39_1 := cz_ BK230 1 (.slice A0_1 l0_1.length c0_1)
    have hfz39_0 := fz_ BK230 0
    have hfz39_1 := fz_ BK230 1
    go_wp2_with (first | ((with_reducible refine gate_callee (f := 85) rfl ?_); refine goesL_ (some 38) rfl rfl Tryz.func85 (by kernel_rfl) rfl #[.string a0_0, .int .i64 4] rfl gl_ ?_; (with_reducible refine (impl_isWide.calls k1 a0_0 4 t235 _ A38.out).mono ?_); rintro e w' ⟨rfl, ⟨nd, rfl⟩⟩; refine ⟨_, rfl, ?_⟩))
    go_ret
    exact ⟨sq_, bl_⟩
end Go.Proofs.YtohfefkjcnbejaaGreatDoor.QFnExactReqOf
