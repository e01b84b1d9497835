-- by my own printer (myprint.py, over the kit's print.py)
import Derived.Test.YtohfefkjcnbejaaGreatDoorQFnExactReqOfx0
import Derived.Test.YtohfefkjcnbejaaGreatDoorQFnExactReqOfx3
import Derived.Test.YtohfefkjcnbejaaGreatDoorQFnExactReqOfx4
import Derived.Test.YtohfefkjcnbejaaGreatDoorQFnExactReqOfx6
namespace Go.Proofs.YtohfefkjcnbejaaGreatDoor.QFnExactReqOf
open Go.RowKit Go.Proofs.YtohfefkjcnbejaaGreatDoorW.PrintWords Go.Proofs.YtohfefkjcnbejaaGreatDoorW.PrintLast Go.Proofs.YtohfefkjcnbejaaGreatDoorW.PrintMore
attribute [local go_sem] max2_int min2_int max_two min_two max_three min_three max_four min_four   -- for this text's walks alone
set_option linter.unusedVariables false
set_option linter.unusedSimpArgs false
attribute [local go_sem] my_geq my_leq my_gtr
abbrev tb9_0_7 : Array Bool := #[b0, b0, b0, b0, b0, b0, b0, b0, b0]
abbrev tb9_1_7 : Array Bool := #[b1, b0, b0, b0, b0, b0, b0, b0, b0]
abbrev tb9_15_7 : Array Bool := #[b1, b0, b1, b0, b1, b0, b0, b0, b0]
abbrev tb9_17_7 : Array Bool := #[b1, b1, b1, b0, b1, b0, b0, b0, b0]
abbrev tb9_1ff_7 : Array Bool := #[b1, b1, b1, b1, b1, b1, b1, b1, b1]
abbrev tb9_37_7 : Array Bool := #[b1, b1, b1, b0, b1, b1, b0, b0, b0]
abbrev tb9_3f_7 : Array Bool := #[b1, b1, b1, b1, b1, b1, b0, b0, b0]
abbrev tb9_5_7 : Array Bool := #[b1, b0, b1, b0, b0, b0, b0, b0, b0]
abbrev tb9_7f_7 : Array Bool := #[b1, b1, b1, b1, b1, b1, b1, b0, b0]
abbrev tb9_b7_7 : Array Bool := #[b1, b1, b1, b0, b1, b1, b0, b1, b0]
abbrev tb9_bf_7 : Array Bool := #[b1, b1, b1, b1, b1, b1, b0, b1, b0]
abbrev tb9_ff_7 : Array Bool := #[b1, b1, b1, b1, b1, b1, b1, b1, b0]
/-! ### spec_ReqOf: function 9 -/
mutual
def spec_ReqOf.j0 : Nat → Bool → ByteArray → List (S91) → Int → ByteArray → ByteArray → ByteArray → ByteArray → ByteArray → Int → Int → Option (Int × ByteArray × ByteArray × ByteArray × ByteArray × ByteArray × Int × Int × Int)
 | 0, _, _, _, _, _, _, _, _, _, _, _ => none
 | k + 1, x5, x166000, x166001, x173000, x173001, x173002, x173003, x173004, x173005, x173006, x173007 => (spec_l11Amount.f x173000).bind fun t181 => (if t181 = true then ((spec_FieldOf.f k x166000 x166001 4).bind fun bt182 => ((spec_Narrow.f k bt182.1).bind fun bt184 => (if x5 = true then (spec_ReqOf.j1 k bt182.2 x166000 x166001 x173000 x173001 x173002 x173003 x173004 x173005 bt184.1 x173007) else (spec_ReqOf.j1 k false x166000 x166001 x173000 x173001 x173002 x173003 x173004 x173005 bt184.1 x173007)))) else (spec_ReqOf.j1 k x5 x166000 x166001 x173000 x173001 x173002 x173003 x173004 x173005 x173006 x173007))
def spec_ReqOf.j1 : Nat → Bool → ByteArray → List (S91) → Int → ByteArray → ByteArray → ByteArray → ByteArray → ByteArray → Int → Int → Option (Int × ByteArray × ByteArray × ByteArray × ByteArray × ByteArray × Int × Int × Int)
 | 0, _, _, _, _, _, _, _, _, _, _, _ => none
 | k + 1, x5, x166000, x166001, x173000, x173001, x173002, x173003, x173004, x173005, x173006, x173007 => if x173000 = 1 then ((spec_FieldOf.f k x166000 x166001 14).bind fun bt186 => ((spec_Narrow.f k bt186.1).bind fun bt188 => (if x5 = true then (spec_ReqOf.j2 k bt186.2 x166000 x166001 x173000 x173001 x173002 x173003 x173004 x173005 x173006 bt188.1) else (spec_ReqOf.j2 k false x166000 x166001 x173000 x173001 x173002 x173003 x173004 x173005 x173006 bt188.1)))) else (spec_ReqOf.j2 k x5 x166000 x166001 x173000 x173001 x173002 x173003 x173004 x173005 x173006 x173007)
def spec_ReqOf.j2 : Nat → Bool → ByteArray → List (S91) → Int → ByteArray → ByteArray → ByteArray → ByteArray → ByteArray → Int → Int → Option (Int × ByteArray × ByteArray × ByteArray × ByteArray × ByteArray × Int × Int × Int)
 | 0, _, _, _, _, _, _, _, _, _, _, _ => none
 | k + 1, x5, x166000, x166001, x173000, x173001, x173002, x173003, x173004, x173005, x173006, x173007 => if x173000 = 6 then ((spec_FieldOf.f k x166000 x166001 103).bind fun bt190 => (if x5 = true then ((spec_ReqOk.f k x173000 x173001 bt190.1 x173003 x173004 x173005 x173006 x173007).bind fun t192 => (if t192 = true then (some (x173000, x173001, bt190.1, x173003, x173004, x173005, x173006, x173007, 0)) else (some (0, (⟨#[]⟩ : ByteArray), (⟨#[]⟩ : ByteArray), (⟨#[]⟩ : ByteArray), (⟨#[]⟩ : ByteArray), (⟨#[]⟩ : ByteArray), 0, 0, 1)))) else (some (0, (⟨#[]⟩ : ByteArray), (⟨#[]⟩ : ByteArray), (⟨#[]⟩ : ByteArray), (⟨#[]⟩ : ByteArray), (⟨#[]⟩ : ByteArray), 0, 0, 1)))) else (if x5 = true then ((spec_ReqOk.f k x173000 x173001 x173002 x173003 x173004 x173005 x173006 x173007).bind fun t193 => (if t193 = true then (some (x173000, x173001, x173002, x173003, x173004, x173005, x173006, x173007, 0)) else (some (0, (⟨#[]⟩ : ByteArray), (⟨#[]⟩ : ByteArray), (⟨#[]⟩ : ByteArray), (⟨#[]⟩ : ByteArray), (⟨#[]⟩ : ByteArray), 0, 0, 1)))) else (some (0, (⟨#[]⟩ : ByteArray), (⟨#[]⟩ : ByteArray), (⟨#[]⟩ : ByteArray), (⟨#[]⟩ : ByteArray), (⟨#[]⟩ : ByteArray), 0, 0, 1)))
end
def spec_ReqOf.f (k : Nat) (a0_0 : ByteArray) (l0_1 : List (S91)) : Option (Int × ByteArray × ByteArray × ByteArray × ByteArray × ByteArray × Int × Int × Int) := (spec_MsgOk.f k a0_0 l0_1).bind fun t167 => (if t167 = true then ((spec_MtiKnown.f a0_0).bind fun t168 => (if t168 = true then ((spec_FieldOf.f k a0_0 l0_1 3).bind fun bt169 => (if bt169.2 = true then ((spec_l11Which.f k a0_0 bt169.1).bind fun t171 => ((spec_FieldOf.f k a0_0 l0_1 2).bind fun bt173 => ((spec_FieldOf.f k a0_0 l0_1 11).bind fun bt175 => ((spec_l11Hold.f t171).bind fun t177 => (if t177 = true then ((spec_FieldOf.f k a0_0 l0_1 38).bind fun bt178 => ((spec_FieldBare.f k bt178.1).bind fun t180 => (spec_ReqOf.j0 k bt169.2 a0_0 l0_1 t171 bt173.1 (⟨#[]⟩ : ByteArray) t180 bt175.1 a0_0 0 0))) else (spec_ReqOf.j0 k bt169.2 a0_0 l0_1 t171 bt173.1 (⟨#[]⟩ : ByteArray) (⟨#[]⟩ : ByteArray) bt175.1 a0_0 0 0)))))) else (some (0, (⟨#[]⟩ : ByteArray), (⟨#[]⟩ : ByteArray), (⟨#[]⟩ : ByteArray), (⟨#[]⟩ : ByteArray), (⟨#[]⟩ : ByteArray), 0, 0, 1)))) else (some (0, (⟨#[]⟩ : ByteArray), (⟨#[]⟩ : ByteArray), (⟨#[]⟩ : ByteArray), (⟨#[]⟩ : ByteArray), (⟨#[]⟩ : ByteArray), 0, 0, 2)))) else (some (0, (⟨#[]⟩ : ByteArray), (⟨#[]⟩ : ByteArray), (⟨#[]⟩ : ByteArray), (⟨#[]⟩ : ByteArray), (⟨#[]⟩ : ByteArray), 0, 0, 1)))
def spec_ReqOf.T8 : Bool × List (List Nat × List Nat) := (true, [([], []), ([0], [0]), ([], []), ([1, 2], [1, 2]), ([], []), ([4], [4]), ([3, 5], [3, 5]), ([], []), ([7, 6, 3, 0, 1, 2, 3, 4, 5, 6, 7], [6, 7])])
def spec_ReqOf.B8 : List Nat := [0, 1, 0, 7, 0, 16, 63, 0, 255]
theorem spec_ReqOf.tab8 : rtab .any (opsOf Tryz.f9 8) = spec_ReqOf.T8 := by kernel_rfl
theorem spec_ReqOf.bits8 : waitsOk spec_ReqOf.T8.2 spec_ReqOf.B8 = true := by kernel_rfl
set_option maxHeartbeats 8000000 in
set_option maxRecDepth 100000 in
theorem spec_ReqOf.calls (k : Nat) (a0_0 : ByteArray) (A0_1 : Option Addr) (c0_1 : Nat) (l0_1 : List (S91)) (r1 : Int) (r2 : ByteArray) (r3 : ByteArray) (r4 : ByteArray) (r5 : ByteArray) (r6 : ByteArray) (r7 : Int) (r8 : Int) (r9 : Int) (w : World) (hr0_1 : Kd.C k91 w A0_1 l0_1.length l0_1) (hc0_1 : l0_1.length ≤ c0_1) (h : spec_ReqOf.f k a0_0 l0_1 = some (r1, r2, r3, r4, r5, r6, r7, r8, r9)) :
  Calls Tryz.prog 9 #[.agg #[.string a0_0, .slice A0_1 l0_1.length c0_1]] w fun e w' => e = .returned (.tuple #[.agg #[.int .i64 r1, .string r2, .string r3, .string r4, .string r5, .string r6, .int .i64 r7, .int .i64 r8], .int .i64 r9]) ∧ Below w.heap.size w w' := by
 have hu32 := Tryz.underlying32
 have hu27 := Tryz.underlying27
 have HR0_1 := Aside0.mk hr0_1
 have HC0_1 := Aside0.mk hc0_1
 clear hr0_1 hc0_1
 have HB := Aside0.mk (Below.refl w.heap.size w)
 have H : ((spec_MsgOk.f k a0_0 l0_1).bind fun t167 => (if t167 = true then ((spec_MtiKnown.f a0_0).bind fun t168 => (if t168 = true then ((spec_FieldOf.f k a0_0 l0_1 3).bind fun bt169 => (if bt169.2 = true then ((spec_l11Which.f k a0_0 bt169.1).bind fun t171 => ((spec_FieldOf.f k a0_0 l0_1 2).bind fun bt173 => ((spec_FieldOf.f k a0_0 l0_1 11).bind fun bt175 => ((spec_l11Hold.f t171).bind fun t177 => (if t177 = true then ((spec_FieldOf.f k a0_0 l0_1 38).bind fun bt178 => ((spec_FieldBare.f k bt178.1).bind fun t180 => (spec_ReqOf.j0 k bt169.2 a0_0 l0_1 t171 bt173.1 (⟨#[]⟩ : ByteArray) t180 bt175.1 a0_0 0 0))) else (spec_ReqOf.j0 k bt169.2 a0_0 l0_1 t171 bt173.1 (⟨#[]⟩ : ByteArray) (⟨#[]⟩ : ByteArray) bt175.1 a0_0 0 0)))))) else (some (0, (⟨#[]⟩ : ByteArray), (⟨#[]⟩ : ByteArray), (⟨#[]⟩ : ByteArray), (⟨#[]⟩ : ByteArray), (⟨#[]⟩ : ByteArray), 0, 0, 1)))) else (some (0, (⟨#[]⟩ : ByteArray), (⟨#[]⟩ : ByteArray), (⟨#[]⟩ : ByteArray), (⟨#[]⟩ : ByteArray), (⟨#[]⟩ : ByteArray), 0, 0, 2)))) else (some (0, (⟨#[]⟩ : ByteArray), (⟨#[]⟩ : ByteArray), (⟨#[]⟩ : ByteArray), (⟨#[]⟩ : ByteArray), (⟨#[]⟩ : ByteArray), 0, 0, 1)))) = some (r1, r2, r3, r4, r5, r6, r7, r8, r9) := h
 clear h
 obtain ⟨t167, A2, H⟩ := ob_ H
 by_cases c3 : t167 = true
 ·subst c3
  replace H := ip_ H
  obtain ⟨t168, A4, H⟩ := ob_ H
  by_cases c5 : t168 = true
  ·subst c5
   replace H := ip_ H
   obtain ⟨⟨t169, t170⟩, A6, H⟩ := ob_ H
   (try dsimp only at H)
   by_cases c7 : t170 = true
   ·subst c7
    replace H := ip_ H
    obtain ⟨t171, A8, H⟩ := ob_ H
    obtain ⟨⟨t173, t174⟩, A9, H⟩ := ob_ H
    (try dsimp only at H)
    obtain ⟨⟨t175, t176⟩, A10, H⟩ := ob_ H
    (try dsimp only at H)
    obtain ⟨t177, A11, H⟩ := ob_ H
    have HC12 := Aside0.mk H
    clear H
    go_enter Tryz.func9, Tryz.ntmps9
    try go_wp2_with (first | ((with_reducible refine gate_dst (N := 1) rfl ?_); refine be_ (N := 1) (cs := #[.string a0_0, .slice A0_1 l0_1.length c0_1]) (t := 32) ?_; intro gb165 hg w13 hbox hb; have BK165 := Aside0.mk (hbox); have GW165 := gw_ (w := w) hg; have GE165 := gw_ (w := w) hg; replace HB := Aside0.mk (below_step bl_ hb); clear hb hbox hg) | ((with_reducible refine gate_dst (N := 2) rfl ?_); refine be_ (N := 2) (cs := #[.int .i64 0, .string (⟨#[]⟩ : ByteArray), .string (⟨#[]⟩ : ByteArray), .string (⟨#[]⟩ : ByteArray), .string (⟨#[]⟩ : ByteArray), .string (⟨#[]⟩ : ByteArray), .int .i64 0, .int .i64 0]) (t := 27) ?_; intro gb166 hg w14 hbox hb; have BK166 := Aside0.mk (hbox); have GW166 := gw_ (w := w) hg; have GE166 := gw_ (w := w) hg; replace HB := Aside0.mk (below_step bl_ hb); have NB165_166 := Aside0.mk ((by rw [hg]; exact Nat.ne_of_lt (blk_lt (bk_ BK165)) : gb165 ≠ gb166)); have NB166_165 := Aside0.mk ((by rw [hg]; exact Nat.ne_of_gt (blk_lt (bk_ BK165)) : gb166 ≠ gb165)); replace BK165 := Aside0.mk (blk_below (bk_ BK165) hb); clear hb hbox hg; have hnb15 := NB165_166.out; have hnc15 := NB166_165.out; obtain ⟨hcz16_0, hcz16_1, hfz16_0, hfz16_1⟩ := bx2_ BK165) | ((with_reducible refine gate_callee (f := 36) rfl ?_); refine goesL_ (some 14) rfl rfl Tryz.func36 (by kernel_rfl) rfl #[.agg #[.string a0_0, .slice A0_1 l0_1.length c0_1]] rfl gl_ ?_; (with_reducible refine (spec_MsgOk.calls k a0_0 _ _ l0_1 true _ ?side1 ?side2 A2.out).mono ?_); (case side1 => exact ca_ (Kd.C_below HR0_1.out HB.out)); (case side2 => exact HC0_1.out); rintro e w17 ⟨rfl, hb⟩; refine ⟨_, rfl, ?_⟩; replace BK165 := Aside0.mk (blk_below (bk_ BK165) hb); replace BK166 := Aside0.mk (blk_below (bk_ BK166) hb); replace HB := Aside0.mk (below_step bl_ hb); (try clear hb); (try clear hb2); (try clear hk); (try clear hi); obtain ⟨hcz18_0, hcz18_1, hfz18_0, hfz18_1⟩ := bx2_ BK165) | ((with_reducible refine gate_callee (f := 37) rfl ?_); refine goesL_ (some 19) rfl rfl Tryz.func37 (by kernel_rfl) rfl #[.string a0_0] rfl gl_ ?_; (with_reducible refine (spec_MtiKnown.calls a0_0 true _ A4.out).mono ?_); rintro e w' ⟨rfl, ⟨nd, rfl⟩⟩; refine ⟨_, rfl, ?_⟩; (try (rw [drewN_self w17]; generalize hq_ : World.drewN w17 _ = w17; have n0_ : Aside0 (w17.heap[gb165]? = some (.cells #[.string a0_0, .slice A0_1 l0_1.length c0_1] 32 (0, 0))) := ⟨by rw [← hq_]; exact (by (with_reducible repeat (first | refine blk_drewN ?_ _ | refine blk_drew ?_ | refine blk_alloc ?_ _)); exact BK165.out)⟩; have n1_ : Aside0 (w17.heap[gb166]? = some (.cells #[.int .i64 0, .string (⟨#[]⟩ : ByteArray), .string (⟨#[]⟩ : ByteArray), .string (⟨#[]⟩ : ByteArray), .string (⟨#[]⟩ : ByteArray), .string (⟨#[]⟩ : ByteArray), .int .i64 0, .int .i64 0] 27 (0, 0))) := ⟨by rw [← hq_]; exact (by (with_reducible repeat (first | refine blk_drewN ?_ _ | refine blk_drew ?_ | refine blk_alloc ?_ _)); exact BK166.out)⟩; have n2_ : Aside0 (Below w.heap.size w w17) := ⟨by rw [← hq_]; exact bl_⟩; clear BK165 BK166 HB hq_; have BK165 := n0_; have BK166 := n1_; have HB := n2_; clear n0_ n1_ n2_)); obtain ⟨hcz19_0, hcz19_1, hfz19_0, hfz19_1⟩ := bx2_ BK165) | ((with_reducible refine gate_callee (f := 38) rfl ?_); refine goesL_ (some 24) rfl rfl Tryz.func38 (by kernel_rfl) rfl #[.agg #[.string a0_0, .slice A0_1 l0_1.length c0_1], .int .i64 3] rfl gl_ ?_; (with_reducible refine (spec_FieldOf.calls k a0_0 _ _ l0_1 3 t169 true _ ?side1 ?side2 A6.out).mono ?_); (case side1 => exact ca_ (Kd.C_below HR0_1.out HB.out)); (case side2 => exact HC0_1.out); rintro e w20 ⟨rfl, hb⟩; refine ⟨_, rfl, ?_⟩; replace BK165 := Aside0.mk (blk_below (bk_ BK165) hb); replace BK166 := Aside0.mk (blk_below (bk_ BK166) hb); replace HB := Aside0.mk (below_step bl_ hb); (try clear hb); (try clear hb2); (try clear hk); (try clear hi)))
    have n0_ := Aside0.mk (blk_drew BK165.out)
    have n1_ := Aside0.mk (blk_drew BK166.out)
    have n2_ := Aside0.mk (below_drew1 HB.out)
    clear BK165
    clear BK166
    clear HB
    have BK165 := n0_
    have BK166 := n1_
    have HB := n2_
    clear n0_ n1_ n2_
    refine start_ (n := 9) (S := fun w' => w'.cell? ⟨gb165, 0, none⟩ = some (.string a0_0) ∧ w'.cell? ⟨gb165, 1, none⟩ = some (.slice A0_1 l0_1.length c0_1)) (ds := []) tb9_0_7 (by kernel_rfl) rfl rfl ⟨cy_ BK165 0, cy_ BK165 1⟩ (fun hHeld => ?_); refine with_tabW spec_ReqOf.tab8 spec_ReqOf.bits8 (fun HT_ HW_ => ?_)
    generalize w20.drew = w21 at BK165 BK166 HB hHeld ⊢
    refine pl_ HT_ 0 30 tb9_1_7 ?_
    refine pl_ HT_ 2 32 tb9_5_7 ?_
    refine pl_ HT_ 4 34 tb9_15_7 ?_
    refine take_ (i := 1) (N := some 31) (v := ?_) (a' := ?_) tb9_17_7 rfl rfl (take_ofW HT_.out HW_.out (by kernel_rfl)) (fun _ _ _ h => h) (Or.inl ⟨by rfl, ?_⟩) hHeld ?_ ?_
    rotate_left
    ·rintro w' ⟨s0, s1⟩
     go_simp
     with_reducible rfl
    rotate_left
    ·simp only [Act.put, q_]
     rfl
    refine take_ (i := 5) (N := some 35) (v := ?_) (a' := ?_) tb9_37_7 rfl rfl (take_ofW HT_.out HW_.out (by kernel_rfl)) (fun _ _ _ h => h) (Or.inl ⟨by rfl, ?_⟩) hHeld ?_ ?_
    rotate_left
    ·rintro w' ⟨s0, s1⟩
     go_simp
     with_reducible rfl
    rotate_left
    ·simp only [Act.put, q_]
     rfl
    refine join_ (σ := Nat) 1 tb9_ff_7 (fun s_ => [(33, .int .i64 t171), (6, .pointer (some ⟨s_, 0, none⟩)), (36, .agg #[.int .i64 t171, .string (⟨#[]⟩ : ByteArray), .string (⟨#[]⟩ : ByteArray), .string (⟨#[]⟩ : ByteArray), .string (⟨#[]⟩ : ByteArray), .string a0_0, .int .i64 0, .int .i64 0])]) (fun s_ w' => (w'.cell? ⟨gb165, 0, none⟩ = some (.string a0_0) ∧ w'.cell? ⟨gb165, 1, none⟩ = some (.slice A0_1 l0_1.length c0_1)) ∧ (w'.heap[gb165]? = some (.cells #[.string a0_0, .slice A0_1 l0_1.length c0_1] 32 (0, 0))) ∧ (w'.heap[gb166]? = some (.cells #[.int .i64 0, .string (⟨#[]⟩ : ByteArray), .string (⟨#[]⟩ : ByteArray), .string (⟨#[]⟩ : ByteArray), .string (⟨#[]⟩ : ByteArray), .string (⟨#[]⟩ : ByteArray), .int .i64 0, .int .i64 0] 27 (0, 0))) ∧ (w'.heap[s_]? = some (.cells #[.int .i64 0, .string (⟨#[]⟩ : ByteArray), .string (⟨#[]⟩ : ByteArray), .string (⟨#[]⟩ : ByteArray), .string (⟨#[]⟩ : ByteArray), .string (⟨#[]⟩ : ByteArray), .int .i64 0, .int .i64 0] 27 (0, 0))) ∧ (w.heap.size ≤ s_) ∧ (w.heap.size ≤ s_) ∧ (gb165 ≠ s_) ∧ (s_ ≠ gb165) ∧ (gb166 ≠ s_) ∧ (s_ ≠ gb166) ∧ (Below w.heap.size w w')) ?_ ?_
    rotate_left
    ·intro hCont
     refine two_ (i := 3) (j := 7) (Ni := some 33) (Nj := some 6) tb9_3f_7 tb9_b7_7 rfl rfl rfl rfl (two_of HT_.out (by kernel_rfl)) (by decide) (by decide) (fun K hK => ?_) (fun K hK => ?_)
     ·skip
      refine goes_ Tryz.func39 (by kernel_rfl) rfl #[.string a0_0, .string t169] (by rfl) rfl rfl gl_ ?_
      with_reducible refine (spec_l11Which.calls k a0_0 t169 t171 _ A8.out).mono ?_
      rintro e w22 ⟨rfl, hb⟩
      refine ⟨_, rfl, ?_⟩
      have n0_ := Aside0.mk (blk_below (bk_ BK165) hb)
      have n1_ := Aside0.mk (blk_below (bk_ BK166) hb)
      have n2_ := Aside0.mk (below_step bl_ hb)
      clear BK165
      clear BK166
      clear HB
      have BK165 := n0_
      have BK166 := n1_
      have HB := n2_
      clear n0_ n1_ n2_
      (try clear hb)
      (try clear hb2)
      (try clear hk)
      (try clear hi)
      refine hK.out _ _ ⟨cy_ BK165 0, cy_ BK165 1⟩ (fun hHeld => ?_)
      clear hK K
      refine norm_ (a' := ?_) ?_ ?_
      rotate_left
      ·show Act.put _ (some 33) _ = _
       simp only [Act.put, q_]
       rfl
      refine pl_ HT_ 6 36 tb9_7f_7 ?_
      refine one_ (i := 7) (N := some 6) tb9_ff_7 rfl rfl (one_of HT_.out (by kernel_rfl)) (by decide) (fun K hK => ?_)
      refine box_step ?hg (N := 6) ?hd (cs := #[.int .i64 0, .string (⟨#[]⟩ : ByteArray), .string (⟨#[]⟩ : ByteArray), .string (⟨#[]⟩ : ByteArray), .string (⟨#[]⟩ : ByteArray), .string (⟨#[]⟩ : ByteArray), .int .i64 0, .int .i64 0]) (t := 27) ?hr ?_; (case hd => rfl); (case hg => rfl); (case hr => first | (go_simp; done) | (go_simp; rfl))
      intro gb172 hg w23 hbox hb
      have n0_ := Aside0.mk (blk_below (bk_ BK165) hb)
      have n1_ := Aside0.mk (blk_below (bk_ BK166) hb)
      have n2_ := Aside0.mk (below_step bl_ hb)
      have n3_ := Aside0.mk (hbox)
      have n4_ := gw_ (w := w) hg
      have n5_ := gw_ (w := w) hg
      have n6_ := Aside0.mk ((by rw [hg]; exact Nat.ne_of_lt (blk_lt (bk_ BK165)) : gb165 ≠ gb172))
      have n7_ := Aside0.mk ((by rw [hg]; exact Nat.ne_of_gt (blk_lt (bk_ BK165)) : gb172 ≠ gb165))
      have n8_ := Aside0.mk ((by rw [hg]; exact Nat.ne_of_lt (blk_lt (bk_ BK166)) : gb166 ≠ gb172))
      have n9_ := Aside0.mk ((by rw [hg]; exact Nat.ne_of_gt (blk_lt (bk_ BK166)) : gb172 ≠ gb166))
      clear BK165
      clear BK166
      clear HB
      have BK165 := n0_
      have BK166 := n1_
      have HB := n2_
      have BK172 := n3_
      have GW172 := n4_
      have GE172 := n5_
      have NB165_172 := n6_
      have NB172_165 := n7_
      have NB166_172 := n8_
      have NB172_166 := n9_
      clear n0_ n1_ n2_ n3_ n4_ n5_ n6_ n7_ n8_ n9_
      clear hb hbox hg
      refine hK.out _ _ ⟨cy_ BK165 0, cy_ BK165 1⟩ (fun hHeld => ?_)
      clear hK K
      refine norm_ (a' := ?_) ?_ ?_
      rotate_left
      ·show Act.put _ (some 6) _ = _
       simp only [Act.put, q_]
       rfl
      exact norm_ (by simp only [putAll, Act.put, List.setIfInBounds_toArray, List.set_cons_zero, List.set_cons_succ]) (hCont (gb172) _ ⟨hHeld, (by (with_reducible repeat (first | refine blk_drewN ?_ _ | refine blk_drew ?_ | refine blk_alloc ?_ _)); exact BK165.out), (by (with_reducible repeat (first | refine blk_drewN ?_ _ | refine blk_drew ?_ | refine blk_alloc ?_ _)); exact BK166.out), (by (with_reducible repeat (first | refine blk_drewN ?_ _ | refine blk_drew ?_ | refine blk_alloc ?_ _)); exact BK172.out), GW172.out, GE172.out, NB165_172.out, NB172_165.out, NB166_172.out, NB172_166.out, bl_⟩)
     ·skip
      refine box_step ?hg (N := 6) ?hd (cs := #[.int .i64 0, .string (⟨#[]⟩ : ByteArray), .string (⟨#[]⟩ : ByteArray), .string (⟨#[]⟩ : ByteArray), .string (⟨#[]⟩ : ByteArray), .string (⟨#[]⟩ : ByteArray), .int .i64 0, .int .i64 0]) (t := 27) ?hr ?_; (case hd => rfl); (case hg => rfl); (case hr => first | (go_simp; done) | (go_simp; rfl))
      intro gb172 hg w22 hbox hb
      have n0_ := Aside0.mk (blk_below (bk_ BK165) hb)
      have n1_ := Aside0.mk (blk_below (bk_ BK166) hb)
      have n2_ := Aside0.mk (below_step bl_ hb)
      have n3_ := Aside0.mk (hbox)
      have n4_ := gw_ (w := w) hg
      have n5_ := gw_ (w := w) hg
      have n6_ := Aside0.mk ((by rw [hg]; exact Nat.ne_of_lt (blk_lt (bk_ BK165)) : gb165 ≠ gb172))
      have n7_ := Aside0.mk ((by rw [hg]; exact Nat.ne_of_gt (blk_lt (bk_ BK165)) : gb172 ≠ gb165))
      have n8_ := Aside0.mk ((by rw [hg]; exact Nat.ne_of_lt (blk_lt (bk_ BK166)) : gb166 ≠ gb172))
      have n9_ := Aside0.mk ((by rw [hg]; exact Nat.ne_of_gt (blk_lt (bk_ BK166)) : gb172 ≠ gb166))
      clear BK165
      clear BK166
      clear HB
      have BK165 := n0_
      have BK166 := n1_
      have HB := n2_
      have BK172 := n3_
      have GW172 := n4_
      have GE172 := n5_
      have NB165_172 := n6_
      have NB172_165 := n7_
      have NB166_172 := n8_
      have NB172_166 := n9_
      clear n0_ n1_ n2_ n3_ n4_ n5_ n6_ n7_ n8_ n9_
      clear hb hbox hg
      refine hK.out _ _ ⟨cy_ BK165 0, cy_ BK165 1⟩ (fun hHeld => ?_)
      clear hK K
      refine norm_ (a' := ?_) ?_ ?_
      rotate_left
      ·show Act.put _ (some 6) _ = _
       simp only [Act.put, q_]
       rfl
      refine one_ (i := 3) (N := some 33) tb9_bf_7 rfl rfl (one_of HT_.out (by kernel_rfl)) (by decide) (fun K hK => ?_)
      refine goes_ Tryz.func39 (by kernel_rfl) rfl #[.string a0_0, .string t169] (by rfl) rfl rfl gl_ ?_
      with_reducible refine (spec_l11Which.calls k a0_0 t169 t171 _ A8.out).mono ?_
      rintro e w23 ⟨rfl, hb⟩
      refine ⟨_, rfl, ?_⟩
      have n0_ := Aside0.mk (blk_below (bk_ BK165) hb)
      have n1_ := Aside0.mk (blk_below (bk_ BK166) hb)
      have n2_ := Aside0.mk (blk_below (bk_ BK172) hb)
      have n3_ := Aside0.mk (below_step bl_ hb)
      clear BK165
      clear BK166
      clear BK172
      clear HB
      have BK165 := n0_
      have BK166 := n1_
      have BK172 := n2_
      have HB := n3_
      clear n0_ n1_ n2_ n3_
      (try clear hb)
      (try clear hb2)
      (try clear hk)
      (try clear hi)
      refine hK.out _ _ ⟨cy_ BK165 0, cy_ BK165 1⟩ (fun hHeld => ?_)
      clear hK K
      refine norm_ (a' := ?_) ?_ ?_
      rotate_left
      ·show Act.put _ (some 33) _ = _
       simp only [Act.put, q_]
       rfl
      refine pl_ HT_ 6 36 tb9_ff_7 ?_
      exact norm_ (by simp only [putAll, Act.put, List.setIfInBounds_toArray, List.set_cons_zero, List.set_cons_succ]) (hCont (gb172) _ ⟨hHeld, (by (with_reducible repeat (first | refine blk_drewN ?_ _ | refine blk_drew ?_ | refine blk_alloc ?_ _)); exact BK165.out), (by (with_reducible repeat (first | refine blk_drewN ?_ _ | refine blk_drew ?_ | refine blk_alloc ?_ _)); exact BK166.out), (by (with_reducible repeat (first | refine blk_drewN ?_ _ | refine blk_drew ?_ | refine blk_alloc ?_ _)); exact BK172.out), GW172.out, GE172.out, NB165_172.out, NB172_165.out, NB166_172.out, NB172_166.out, bl_⟩)
    rintro gb172 w24 ⟨hS_, h0_, h1_, h2_, h3_, h4_, h5_, h6_, h7_, h8_, h9_⟩
    have n0_ : Aside0 (w24.heap[gb165]? = some (.cells #[.string a0_0, .slice A0_1 l0_1.length c0_1] 32 (0, 0))) := ⟨h0_⟩
    have n1_ : Aside0 (w24.heap[gb166]? = some (.cells #[.int .i64 0, .string (⟨#[]⟩ : ByteArray), .string (⟨#[]⟩ : ByteArray), .string (⟨#[]⟩ : ByteArray), .string (⟨#[]⟩ : ByteArray), .string (⟨#[]⟩ : ByteArray), .int .i64 0, .int .i64 0] 27 (0, 0))) := ⟨h1_⟩
    have n2_ : Aside0 (w24.heap[gb172]? = some (.cells #[.int .i64 0, .string (⟨#[]⟩ : ByteArray), .string (⟨#[]⟩ : ByteArray), .string (⟨#[]⟩ : ByteArray), .string (⟨#[]⟩ : ByteArray), .string (⟨#[]⟩ : ByteArray), .int .i64 0, .int .i64 0] 27 (0, 0))) := ⟨h2_⟩
    have n3_ : Aside0 (w.heap.size ≤ gb172) := ⟨h3_⟩
    have n4_ : Aside0 (w.heap.size ≤ gb172) := ⟨h4_⟩
    have n5_ : Aside0 (gb165 ≠ gb172) := ⟨h5_⟩
    have n6_ : Aside0 (gb172 ≠ gb165) := ⟨h6_⟩
    have n7_ : Aside0 (gb166 ≠ gb172) := ⟨h7_⟩
    have n8_ : Aside0 (gb172 ≠ gb166) := ⟨h8_⟩
    have n9_ : Aside0 (Below w.heap.size w w24) := ⟨h9_⟩
    clear BK165
    clear BK166
    clear HB
    clear h0_ h1_ h2_ h3_ h4_ h5_ h6_ h7_ h8_ h9_
    have BK165 := n0_
    have BK166 := n1_
    have BK172 := n2_
    have GW172 := n3_
    have GE172 := n4_
    have NB165_172 := n5_
    have NB172_165 := n6_
    have NB166_172 := n7_
    have NB172_166 := n8_
    have HB := n9_
    clear n0_ n1_ n2_ n3_ n4_ n5_ n6_ n7_ n8_ n9_
    have hHeld : w24.cell? ⟨gb165, 0, none⟩ = some (.string a0_0) ∧ w24.cell? ⟨gb165, 1, none⟩ = some (.slice A0_1 l0_1.length c0_1) := hS_
    refine norm_ (a' := ?_) ?_ ?_
    rotate_left
    ·simp only [putAll, Act.put, List.setIfInBounds_toArray, List.set_cons_zero, List.set_cons_succ]
     rfl
    refine one_ (i := 8) (N := none) tb9_1ff_7 rfl rfl (one_of HT_.out (by kernel_rfl)) (by decide) (fun K hK => ?_)
    have hs25 : w24.cell? ⟨gb172, 0, none⟩ = some (.int .i64 0) := cy_ BK172 0
    have hfs25 := fz_ BK172 0
    have hns25_0 := NB165_172.out
    have hns25_1 := NB166_172.out
    have hms25_0 := NB172_165.out
    have hms25_1 := NB172_166.out
    have hs26 : w24.cell? ⟨gb172, 1, none⟩ = some (.string (⟨#[]⟩ : ByteArray)) := cy_ BK172 1
    have hfs26 := fz_ BK172 1
    have hns26_0 := NB165_172.out
    have hns26_1 := NB166_172.out
    have hms26_0 := NB172_165.out
    have hms26_1 := NB172_166.out
    have hs27 : w24.cell? ⟨gb172, 2, none⟩ = some (.string (⟨#[]⟩ : ByteArray)) := cy_ BK172 2
    have hfs27 := fz_ BK172 2
    have hns27_0 := NB165_172.out
    have hns27_1 := NB166_172.out
    have hms27_0 := NB172_165.out
    have hms27_1 := NB172_166.out
    have hs28 : w24.cell? ⟨gb172, 3, none⟩ = some (.string (⟨#[]⟩ : ByteArray)) := cy_ BK172 3
    have hfs28 := fz_ BK172 3
    have hns28_0 := NB165_172.out
    have hns28_1 := NB166_172.out
    have hms28_0 := NB172_165.out
    have hms28_1 := NB172_166.out
    have hs29 : w24.cell? ⟨gb172, 4, none⟩ = some (.string (⟨#[]⟩ : ByteArray)) := cy_ BK172 4
    have hfs29 := fz_ BK172 4
    have hns29_0 := NB165_172.out
    have hns29_1 := NB166_172.out
    have hms29_0 := NB172_165.out
    have hms29_1 := NB172_166.out
    have hs30 : w24.cell? ⟨gb172, 5, none⟩ = some (.string (⟨#[]⟩ : ByteArray)) := cy_ BK172 5
    have hfs30 := fz_ BK172 5
    have hns30_0 := NB165_172.out
    have hns30_1 := NB166_172.out
    have hms30_0 := NB172_165.out
    have hms30_1 := NB172_166.out
    have hs31 : w24.cell? ⟨gb172, 6, none⟩ = some (.int .i64 0) := cy_ BK172 6
    have hfs31 := fz_ BK172 6
    have hns31_0 := NB165_172.out
    have hns31_1 := NB166_172.out
    have hms31_0 := NB172_165.out
    have hms31_1 := NB172_166.out
    have hs32 : w24.cell? ⟨gb172, 7, none⟩ = some (.int .i64 0) := cy_ BK172 7
    have hfs32 := fz_ BK172 7
    have hns32_0 := NB165_172.out
    have hns32_1 := NB166_172.out
    have hms32_0 := NB172_165.out
    have hms32_1 := NB172_166.out
    refine skip_ (w1 := ?_) (by rfl) rfl ?_ ?_
    rotate_left
    ·go_simp
     rfl
    refine hK.out _ _ ⟨((cell_far (p := ⟨gb172, _, none⟩) NB165_172.out _).trans (((cell_far (p := ⟨gb172, _, none⟩) NB165_172.out _).trans (((cell_far (p := ⟨gb172, _, none⟩) NB165_172.out _).trans (((cell_far (p := ⟨gb172, _, none⟩) NB165_172.out _).trans (((cell_far (p := ⟨gb172, _, none⟩) NB165_172.out _).trans (((cell_far (p := ⟨gb172, _, none⟩) NB165_172.out _).trans (((cell_far (p := ⟨gb172, _, none⟩) NB165_172.out _).trans (((cell_far (p := ⟨gb172, _, none⟩) NB165_172.out _).trans (hHeld.1)))))))))))))))), ((cell_far (p := ⟨gb172, _, none⟩) NB165_172.out _).trans (((cell_far (p := ⟨gb172, _, none⟩) NB165_172.out _).trans (((cell_far (p := ⟨gb172, _, none⟩) NB165_172.out _).trans (((cell_far (p := ⟨gb172, _, none⟩) NB165_172.out _).trans (((cell_far (p := ⟨gb172, _, none⟩) NB165_172.out _).trans (((cell_far (p := ⟨gb172, _, none⟩) NB165_172.out _).trans (((cell_far (p := ⟨gb172, _, none⟩) NB165_172.out _).trans (((cell_far (p := ⟨gb172, _, none⟩) NB165_172.out _).trans (hHeld.2))))))))))))))))⟩ (fun hHeld => ?_)
    clear hK K
    refine done_ (done_of HT_.out (by kernel_rfl)) ?_
    have hnb33 := NB165_172.out
    have hnc33 := NB172_165.out
    have hcz34_0 := cz_ BK165 0 (.string a0_0)
    have hcz34_1 := cz_ BK165 1 (.slice A0_1 l0_1.length c0_1)
    have hfz34_0 := fz_ BK165 0
    have hfz34_1 := fz_ BK165 1
    go_upto_if 51 with (first | ((with_reducible refine gate_callee (f := 38) rfl ?_); refine goesL_ (some 39) rfl rfl Tryz.func38 (by kernel_rfl) rfl #[.agg #[.string a0_0, .slice A0_1 l0_1.length c0_1], .int .i64 2] rfl gl_ ?_; (with_reducible refine (spec_FieldOf.calls k a0_0 _ _ l0_1 2 t173 t174 _ ?side1 ?side2 A9.out).mono ?_); (case side1 => exact Kd.C_below HR0_1.out bl_); (case side2 => exact HC0_1.out); rintro e w35 ⟨rfl, hb⟩; refine ⟨_, rfl, ?_⟩; replace BK165 := Aside0.mk (blk_below (g := gb165) (o := .cells #[.string a0_0, .slice A0_1 l0_1.length c0_1] 32 (0, 0)) (by (with_reducible repeat (first | refine blk_drewN ?_ _ | refine blk_drew ?_ | refine blk_alloc ?_ _)); refine blk_far ?_ NB165_172.out _; (with_reducible repeat (first | refine blk_drewN ?_ _ | refine blk_drew ?_ | refine blk_alloc ?_ _)); refine blk_far ?_ NB165_172.out _; (with_reducible repeat (first | refine blk_drewN ?_ _ | refine blk_drew ?_ | refine blk_alloc ?_ _)); refine blk_far ?_ NB165_172.out _; (with_reducible repeat (first | refine blk_drewN ?_ _ | refine blk_drew ?_ | refine blk_alloc ?_ _)); refine blk_far ?_ NB165_172.out _; (with_reducible repeat (first | refine blk_drewN ?_ _ | refine blk_drew ?_ | refine blk_alloc ?_ _)); refine blk_far ?_ NB165_172.out _; (with_reducible repeat (first | refine blk_drewN ?_ _ | refine blk_drew ?_ | refine blk_alloc ?_ _)); refine blk_far ?_ NB165_172.out _; (with_reducible repeat (first | refine blk_drewN ?_ _ | refine blk_drew ?_ | refine blk_alloc ?_ _)); refine blk_far ?_ NB165_172.out _; (with_reducible repeat (first | refine blk_drewN ?_ _ | refine blk_drew ?_ | refine blk_alloc ?_ _)); refine blk_far ?_ NB165_172.out _; (with_reducible repeat (first | refine blk_drewN ?_ _ | refine blk_drew ?_ | refine blk_alloc ?_ _)); exact BK165.out) hb); replace BK166 := Aside0.mk (blk_below (g := gb166) (o := .cells #[.int .i64 0, .string (⟨#[]⟩ : ByteArray), .string (⟨#[]⟩ : ByteArray), .string (⟨#[]⟩ : ByteArray), .string (⟨#[]⟩ : ByteArray), .string (⟨#[]⟩ : ByteArray), .int .i64 0, .int .i64 0] 27 (0, 0)) (by (with_reducible repeat (first | refine blk_drewN ?_ _ | refine blk_drew ?_ | refine blk_alloc ?_ _)); refine blk_far ?_ NB166_172.out _; (with_reducible repeat (first | refine blk_drewN ?_ _ | refine blk_drew ?_ | refine blk_alloc ?_ _)); refine blk_far ?_ NB166_172.out _; (with_reducible repeat (first | refine blk_drewN ?_ _ | refine blk_drew ?_ | refine blk_alloc ?_ _)); refine blk_far ?_ NB166_172.out _; (with_reducible repeat (first | refine blk_drewN ?_ _ | refine blk_drew ?_ | refine blk_alloc ?_ _)); refine blk_far ?_ NB166_172.out _; (with_reducible repeat (first | refine blk_drewN ?_ _ | refine blk_drew ?_ | refine blk_alloc ?_ _)); refine blk_far ?_ NB166_172.out _; (with_reducible repeat (first | refine blk_drewN ?_ _ | refine blk_drew ?_ | refine blk_alloc ?_ _)); refine blk_far ?_ NB166_172.out _; (with_reducible repeat (first | refine blk_drewN ?_ _ | refine blk_drew ?_ | refine blk_alloc ?_ _)); refine blk_far ?_ NB166_172.out _; (with_reducible repeat (first | refine blk_drewN ?_ _ | refine blk_drew ?_ | refine blk_alloc ?_ _)); refine blk_far ?_ NB166_172.out _; (with_reducible repeat (first | refine blk_drewN ?_ _ | refine blk_drew ?_ | refine blk_alloc ?_ _)); exact BK166.out) hb); replace BK172 := Aside0.mk (blk_below (g := gb172) (o := .cells #[.int .i64 t171, .string (⟨#[]⟩ : ByteArray), .string (⟨#[]⟩ : ByteArray), .string (⟨#[]⟩ : ByteArray), .string (⟨#[]⟩ : ByteArray), .string a0_0, .int .i64 0, .int .i64 0] 27 (0, 0)) (by (with_reducible repeat (first | refine blk_drewN ?_ _ | refine blk_drew ?_ | refine blk_alloc ?_ _)); apply bq8_7_6_5_4_3_2_1_0_; (with_reducible repeat (first | refine blk_drewN ?_ _ | refine blk_drew ?_ | refine blk_alloc ?_ _)); exact BK172.out) hb); replace HB := Aside0.mk (below_step bl_ hb); (try clear hb); (try clear hb2); (try clear hk); (try clear hi); have hnb36 := NB172_166.out; have hnc36 := NB166_172.out; obtain ⟨hcz37_0, hcz37_1, hcz37_2, hcz37_3, hcz37_4, hcz37_5, hcz37_6, hcz37_7, hfz37_0, hfz37_1, hfz37_2, hfz37_3, hfz37_4, hfz37_5, hfz37_6, hfz37_7⟩ := bx8_ BK172; obtain ⟨hcz38_0, hcz38_1, hfz38_0, hfz38_1⟩ := bx2_ BK165) | ((with_reducible refine gate_callee (f := 38) rfl ?_); refine goesL_ (some 45) rfl rfl Tryz.func38 (by kernel_rfl) rfl #[.agg #[.string a0_0, .slice A0_1 l0_1.length c0_1], .int .i64 11] rfl gl_ ?_; (with_reducible refine (spec_FieldOf.calls k a0_0 _ _ l0_1 11 t175 t176 _ ?side1 ?side2 A10.out).mono ?_); (case side1 => exact Kd.C_below HR0_1.out bl_); (case side2 => exact HC0_1.out); rintro e w39 ⟨rfl, hb⟩; refine ⟨_, rfl, ?_⟩; replace BK165 := Aside0.mk (blk_below (g := gb165) (o := .cells #[.string a0_0, .slice A0_1 l0_1.length c0_1] 32 (0, 0)) (by (with_reducible repeat (first | refine blk_drewN ?_ _ | refine blk_drew ?_ | refine blk_alloc ?_ _)); refine blk_far ?_ NB165_172.out _; (with_reducible repeat (first | refine blk_drewN ?_ _ | refine blk_drew ?_ | refine blk_alloc ?_ _)); exact BK165.out) hb); replace BK166 := Aside0.mk (blk_below (g := gb166) (o := .cells #[.int .i64 0, .string (⟨#[]⟩ : ByteArray), .string (⟨#[]⟩ : ByteArray), .string (⟨#[]⟩ : ByteArray), .string (⟨#[]⟩ : ByteArray), .string (⟨#[]⟩ : ByteArray), .int .i64 0, .int .i64 0] 27 (0, 0)) (by (with_reducible repeat (first | refine blk_drewN ?_ _ | refine blk_drew ?_ | refine blk_alloc ?_ _)); refine blk_far ?_ NB166_172.out _; (with_reducible repeat (first | refine blk_drewN ?_ _ | refine blk_drew ?_ | refine blk_alloc ?_ _)); exact BK166.out) hb); replace BK172 := Aside0.mk (blk_below (g := gb172) (o := .cells #[.int .i64 t171, .string t173, .string (⟨#[]⟩ : ByteArray), .string (⟨#[]⟩ : ByteArray), .string (⟨#[]⟩ : ByteArray), .string a0_0, .int .i64 0, .int .i64 0] 27 (0, 0)) (by (with_reducible repeat (first | refine blk_drewN ?_ _ | refine blk_drew ?_ | refine blk_alloc ?_ _)); apply bq8_1_; (with_reducible repeat (first | refine blk_drewN ?_ _ | refine blk_drew ?_ | refine blk_alloc ?_ _)); exact BK172.out) hb); replace HB := Aside0.mk (below_step bl_ hb); (try clear hb); (try clear hb2); (try clear hk); (try clear hi); obtain ⟨hcz40_0, hcz40_1, hcz40_2, hcz40_3, hcz40_4, hcz40_5, hcz40_6, hcz40_7, hfz40_0, hfz40_1, hfz40_2, hfz40_3, hfz40_4, hfz40_5, hfz40_6, hfz40_7⟩ := bx8_ BK172) | ((with_reducible refine gate_callee (f := 40) rfl ?_); refine goesL_ (some 51) rfl rfl Tryz.func40 (by kernel_rfl) rfl #[.int .i64 t171] rfl gl_ ?_; (with_reducible refine (spec_l11Hold.calls t171 t177 _ A11.out).mono ?_); rintro e w' ⟨rfl, ⟨nd, rfl⟩⟩; refine ⟨_, rfl, ?_⟩))
    (try simp only [Act.put, List.setIfInBounds_toArray, List.set_cons_zero, List.set_cons_succ])
    go_cut [] (fun wc => ∃ (kq : Nat) (x173003_11 : ByteArray), Aside0 (spec_ReqOf.j0 kq true a0_0 l0_1 t171 t173 (⟨#[]⟩ : ByteArray) x173003_11 t175 a0_0 0 0 = some (r1, r2, r3, r4, r5, r6, r7, r8, r9)) ∧ Aside0 (kq ≤ k) ∧ Aside0 (wc.heap[gb165]? = some (.cells #[.string a0_0, (.slice A0_1 l0_1.length c0_1)] 32 (0, 0))) ∧ Aside0 (wc.heap[gb166]? = some (.cells #[.int .i64 0, .string (⟨#[]⟩ : ByteArray), .string (⟨#[]⟩ : ByteArray), .string (⟨#[]⟩ : ByteArray), .string (⟨#[]⟩ : ByteArray), .string (⟨#[]⟩ : ByteArray), .int .i64 0, .int .i64 0] 27 (0, 0))) ∧ Aside0 (wc.heap[gb172]? = some (.cells #[.int .i64 t171, .string t173, .string (⟨#[]⟩ : ByteArray), .string x173003_11, .string t175, .string a0_0, .int .i64 0, .int .i64 0] 27 (0, 0))) ∧ Aside0 (Below w.heap.size w wc))
    case first =>
     have H := HC12.out
     clear HC12
     by_cases c41 : t177 = true
     ·subst c41
      replace H := ip_ H
      obtain ⟨⟨t178, t179⟩, A42, H⟩ := ob_ H
      (try dsimp only at H)
      obtain ⟨t180, A43, H⟩ := ob_ H
      have H' := Aside0.mk H
      clear H
      have hnb44 := NB165_166.out
      have hnc44 := NB166_165.out
      have hnb45 := NB165_172.out
      have hnc45 := NB172_165.out
      have hcz46_0 := cz_ BK165 0 (.string a0_0)
      have hcz46_1 := cz_ BK165 1 (.slice A0_1 l0_1.length c0_1)
      have hfz46_0 := fz_ BK165 0
      have hfz46_1 := fz_ BK165 1
      go_wp2_with (first | ((with_reducible refine gate_callee (f := 38) rfl ?_); refine goesL_ (some 54) rfl rfl Tryz.func38 (by kernel_rfl) rfl #[.agg #[.string a0_0, .slice A0_1 l0_1.length c0_1], .int .i64 38] rfl gl_ ?_; (with_reducible refine (spec_FieldOf.calls k a0_0 _ _ l0_1 38 t178 t179 _ ?side1 ?side2 A42.out).mono ?_); (case side1 => exact Kd.C_below HR0_1.out bl_); (case side2 => exact HC0_1.out); rintro e w47 ⟨rfl, hb⟩; refine ⟨_, rfl, ?_⟩; replace BK165 := Aside0.mk (blk_below (g := gb165) (o := .cells #[.string a0_0, .slice A0_1 l0_1.length c0_1] 32 (0, 0)) (by (with_reducible repeat (first | refine blk_drewN ?_ _ | refine blk_drew ?_ | refine blk_alloc ?_ _)); refine blk_far ?_ NB165_172.out _; (with_reducible repeat (first | refine blk_drewN ?_ _ | refine blk_drew ?_ | refine blk_alloc ?_ _)); exact BK165.out) hb); replace BK166 := Aside0.mk (blk_below (g := gb166) (o := .cells #[.int .i64 0, .string (⟨#[]⟩ : ByteArray), .string (⟨#[]⟩ : ByteArray), .string (⟨#[]⟩ : ByteArray), .string (⟨#[]⟩ : ByteArray), .string (⟨#[]⟩ : ByteArray), .int .i64 0, .int .i64 0] 27 (0, 0)) (by (with_reducible repeat (first | refine blk_drewN ?_ _ | refine blk_drew ?_ | refine blk_alloc ?_ _)); refine blk_far ?_ NB166_172.out _; (with_reducible repeat (first | refine blk_drewN ?_ _ | refine blk_drew ?_ | refine blk_alloc ?_ _)); exact BK166.out) hb); replace BK172 := Aside0.mk (blk_below (g := gb172) (o := .cells #[.int .i64 t171, .string t173, .string (⟨#[]⟩ : ByteArray), .string (⟨#[]⟩ : ByteArray), .string t175, .string a0_0, .int .i64 0, .int .i64 0] 27 (0, 0)) (by (with_reducible repeat (first | refine blk_drewN ?_ _ | refine blk_drew ?_ | refine blk_alloc ?_ _)); apply bq8_4_; (with_reducible repeat (first | refine blk_drewN ?_ _ | refine blk_drew ?_ | refine blk_alloc ?_ _)); exact BK172.out) hb); replace HB := Aside0.mk (below_step bl_ hb); (try clear hb); (try clear hb2); (try clear hk); (try clear hi)) | ((with_reducible refine gate_callee (f := 41) rfl ?_); refine goesL_ (some 58) rfl rfl Tryz.func41 (by kernel_rfl) rfl #[.string t178] rfl gl_ ?_; (with_reducible refine (spec_FieldBare.calls k t178 t180 _ A43.out).mono ?_); rintro e w' ⟨rfl, ⟨nd, rfl⟩⟩; refine ⟨_, rfl, ?_⟩; (try (rw [drewN_self w47]; generalize hq_ : World.drewN w47 _ = w47; have n0_ : Aside0 (w47.heap[gb165]? = some (.cells #[.string a0_0, .slice A0_1 l0_1.length c0_1] 32 (0, 0))) := ⟨by rw [← hq_]; exact (by (with_reducible repeat (first | refine blk_drewN ?_ _ | refine blk_drew ?_ | refine blk_alloc ?_ _)); exact BK165.out)⟩; have n1_ : Aside0 (w47.heap[gb166]? = some (.cells #[.int .i64 0, .string (⟨#[]⟩ : ByteArray), .string (⟨#[]⟩ : ByteArray), .string (⟨#[]⟩ : ByteArray), .string (⟨#[]⟩ : ByteArray), .string (⟨#[]⟩ : ByteArray), .int .i64 0, .int .i64 0] 27 (0, 0))) := ⟨by rw [← hq_]; exact (by (with_reducible repeat (first | refine blk_drewN ?_ _ | refine blk_drew ?_ | refine blk_alloc ?_ _)); exact BK166.out)⟩; have n2_ : Aside0 (w47.heap[gb172]? = some (.cells #[.int .i64 t171, .string t173, .string (⟨#[]⟩ : ByteArray), .string (⟨#[]⟩ : ByteArray), .string t175, .string a0_0, .int .i64 0, .int .i64 0] 27 (0, 0))) := ⟨by rw [← hq_]; exact (by (with_reducible repeat (first | refine blk_drewN ?_ _ | refine blk_drew ?_ | refine blk_alloc ?_ _)); exact BK172.out)⟩; have n3_ : Aside0 (Below w.heap.size w w47) := ⟨by rw [← hq_]; exact bl_⟩; clear BK165 BK166 BK172 HB hq_; have BK165 := n0_; have BK166 := n1_; have BK172 := n2_; have HB := n3_; clear n0_ n1_ n2_ n3_)); have hnb48 := NB172_166.out; have hnc48 := NB166_172.out; obtain ⟨hcz49_0, hcz49_1, hcz49_2, hcz49_3, hcz49_4, hcz49_5, hcz49_6, hcz49_7, hfz49_0, hfz49_1, hfz49_2, hfz49_3, hfz49_4, hfz49_5, hfz49_6, hfz49_7⟩ := bx8_ BK172))
      go_meet
      case rel => exact ⟨_, (t180), H', ⟨by first | omega | exact Nat.le_refl _⟩, ⟨by (with_reducible repeat (first | refine blk_drewN ?_ _ | refine blk_drew ?_ | refine blk_alloc ?_ _)); refine blk_far ?_ NB165_172.out _; (with_reducible repeat (first | refine blk_drewN ?_ _ | refine blk_drew ?_ | refine blk_alloc ?_ _)); exact BK165.out⟩, ⟨by (with_reducible repeat (first | refine blk_drewN ?_ _ | refine blk_drew ?_ | refine blk_alloc ?_ _)); refine blk_far ?_ NB166_172.out _; (with_reducible repeat (first | refine blk_drewN ?_ _ | refine blk_drew ?_ | refine blk_alloc ?_ _)); exact BK166.out⟩, ⟨by (with_reducible repeat (first | refine blk_drewN ?_ _ | refine blk_drew ?_ | refine blk_alloc ?_ _)); apply bq8_3_; (with_reducible repeat (first | refine blk_drewN ?_ _ | refine blk_drew ?_ | refine blk_alloc ?_ _)); exact BK172.out⟩, ⟨bl_⟩⟩
     ·replace c41 := Bool.eq_false_iff.mpr c41
      subst c41
      replace H := in_ H
      have H' := Aside0.mk H
      clear H
      go_wp2
      go_meet
      case rel => exact ⟨_, ((⟨#[]⟩ : ByteArray)), H', ⟨by first | omega | exact Nat.le_refl _⟩, ⟨by (with_reducible repeat (first | refine blk_drewN ?_ _ | refine blk_drew ?_ | refine blk_alloc ?_ _)); refine blk_far ?_ NB165_172.out _; (with_reducible repeat (first | refine blk_drewN ?_ _ | refine blk_drew ?_ | refine blk_alloc ?_ _)); exact BK165.out⟩, ⟨by (with_reducible repeat (first | refine blk_drewN ?_ _ | refine blk_drew ?_ | refine blk_alloc ?_ _)); refine blk_far ?_ NB166_172.out _; (with_reducible repeat (first | refine blk_drewN ?_ _ | refine blk_drew ?_ | refine blk_alloc ?_ _)); exact BK166.out⟩, ⟨by (with_reducible repeat (first | refine blk_drewN ?_ _ | refine blk_drew ?_ | refine blk_alloc ?_ _)); apply bq8_4_; (with_reducible repeat (first | refine blk_drewN ?_ _ | refine blk_drew ?_ | refine blk_alloc ?_ _)); exact BK172.out⟩, ⟨bl_⟩⟩
    case rest =>
     clear HC12
     try clear c1
     try clear p2
     try clear c3
     try clear c4
     try clear c5
     try clear c7
     try clear c9
     try clear c15
     try clear c33
     try clear c36
     try clear c37
     try clear c38
     try clear c39
     try clear c40
     try clear c41
     try clear c44
     try clear c45
     try clear c48
     try clear hcz16_0
     try clear hcz16_1
     try clear hcz18_0
     try clear hcz18_1
     try clear hcz19_0
     try clear hcz19_1
     try clear hcz34_0
     try clear hcz34_1
     try clear hcz37_0
     try clear hcz37_1
     try clear hcz37_2
     try clear hcz37_3
     try clear hcz37_4
     try clear hcz37_5
     try clear hcz37_6
     try clear hcz37_7
     try clear hcz38_0
     try clear hcz38_1
     try clear hcz40_0
     try clear hcz40_1
     try clear hcz40_2
     try clear hcz40_3
     try clear hcz40_4
     try clear hcz40_5
     try clear hcz40_6
     try clear hcz40_7
     try clear hcz46_0
     try clear hcz46_1
     try clear hcz49_0
     try clear hcz49_1
     try clear hcz49_2
     try clear hcz49_3
     try clear hcz49_4
     try clear hcz49_5
     try clear hcz49_6
     try clear hcz49_7
     try clear hfz16_0
     try clear hfz16_1
     try clear hfz18_0
     try clear hfz18_1
     try clear hfz19_0
     try clear hfz19_1
     try clear hfz34_0
     try clear hfz34_1
     try clear hfz37_0
     try clear hfz37_1
     try clear hfz37_2
     try clear hfz37_3
     try clear hfz37_4
     try clear hfz37_5
     try clear hfz37_6
     try clear hfz37_7
     try clear hfz38_0
     try clear hfz38_1
     try clear hfz40_0
     try clear hfz40_1
     try clear hfz40_2
     try clear hfz40_3
     try clear hfz40_4
     try clear hfz40_5
     try clear hfz40_6
     try clear hfz40_7
     try clear hfz46_0
     try clear hfz46_1
     try clear hfz49_0
     try clear hfz49_1
     try clear hfz49_2
     try clear hfz49_3
     try clear hfz49_4
     try clear hfz49_5
     try clear hfz49_6
     try clear hfz49_7
     obtain ⟨kq, x173003_11, HA, HJ11, BK165, BK166, BK172, HB⟩ := hcut
     cases kq with
     | zero => exact absurd HA.out (by simp [spec_ReqOf.j0])
     | succ kj11 =>
      have H := HA.out
      clear HA
      simp only [spec_ReqOf.j0] at H
      obtain ⟨t181, A50, H⟩ := ob_ H
      have HC51 := Aside0.mk H
      clear H
      have hnb52 := NB172_165.out
      have hnc52 := NB165_172.out
      have hnb53 := NB172_166.out
      have hnc53 := NB166_172.out
      have hcz54_0 := cz_ BK172 0 (.int .i64 t171)
      have hcz54_1 := cz_ BK172 1 (.string t173)
      have hcz54_2 := cz_ BK172 2 (.string (⟨#[]⟩ : ByteArray))
      have hcz54_3 := cz_ BK172 3 (.string x173003_11)
      have hcz54_4 := cz_ BK172 4 (.string t175)
      have hcz54_5 := cz_ BK172 5 (.string a0_0)
      have hcz54_6 := cz_ BK172 6 (.int .i64 0)
      have hcz54_7 := cz_ BK172 7 (.int .i64 0)
      have hfz54_0 := fz_ BK172 0
      have hfz54_1 := fz_ BK172 1
      have hfz54_2 := fz_ BK172 2
      have hfz54_3 := fz_ BK172 3
      have hfz54_4 := fz_ BK172 4
      have hfz54_5 := fz_ BK172 5
      have hfz54_6 := fz_ BK172 6
      have hfz54_7 := fz_ BK172 7
      go_upto_if 62 with (first | ((with_reducible refine gate_callee (f := 42) rfl ?_); refine goesL_ (some 62) rfl rfl Tryz.func42 (by kernel_rfl) rfl #[.int .i64 t171] rfl gl_ ?_; (with_reducible refine (spec_l11Amount.calls t171 t181 _ A50.out).mono ?_); rintro e w' ⟨rfl, ⟨nd, rfl⟩⟩; refine ⟨_, rfl, ?_⟩))
      (try simp only [Act.put, List.setIfInBounds_toArray, List.set_cons_zero, List.set_cons_succ])
      go_cut [5] (fun v5 wc => ∃ (kq : Nat) (x5_50 : Bool) (x173006_50 : Int), v5 = .bool x5_50 ∧ Aside0 (spec_ReqOf.j1 kq x5_50 a0_0 l0_1 t171 t173 (⟨#[]⟩ : ByteArray) x173003_11 t175 a0_0 x173006_50 0 = some (r1, r2, r3, r4, r5, r6, r7, r8, r9)) ∧ Aside0 (kq ≤ kj11) ∧ Aside0 (wc.heap[gb165]? = some (.cells #[.string a0_0, (.slice A0_1 l0_1.length c0_1)] 32 (0, 0))) ∧ Aside0 (wc.heap[gb166]? = some (.cells #[.int .i64 0, .string (⟨#[]⟩ : ByteArray), .string (⟨#[]⟩ : ByteArray), .string (⟨#[]⟩ : ByteArray), .string (⟨#[]⟩ : ByteArray), .string (⟨#[]⟩ : ByteArray), .int .i64 0, .int .i64 0] 27 (0, 0))) ∧ Aside0 (wc.heap[gb172]? = some (.cells #[.int .i64 t171, .string t173, .string (⟨#[]⟩ : ByteArray), .string x173003_11, .string t175, .string a0_0, .int .i64 x173006_50, .int .i64 0] 27 (0, 0))) ∧ Aside0 (Below w.heap.size w wc))
      case first =>
       have H := HC51.out
       clear HC51
       by_cases c55 : t181 = true
       ·subst c55
        replace H := ip_ H
        obtain ⟨⟨t182, t183⟩, A56, H⟩ := ob_ H
        (try dsimp only at H)
        obtain ⟨⟨t184, t185⟩, A57, H⟩ := ob_ H
        (try dsimp only at H)
        by_cases c58 : true = true
        ·clear c58
         have H1 : (spec_ReqOf.j1 kj11 t183 a0_0 l0_1 t171 t173 (⟨#[]⟩ : ByteArray) x173003_11 t175 a0_0 t184 0) = some (r1, r2, r3, r4, r5, r6, r7, r8, r9) := by first | (rw [if_pos rfl] at H; exact H) | exact H
         clear H
         have H := H1
         clear H1
         have H' := Aside0.mk H
         clear H
         have hnb59 := NB165_166.out
         have hnc59 := NB166_165.out
         have hnb60 := NB165_172.out
         have hnc60 := NB172_165.out
         have hcz61_0 := cz_ BK165 0 (.string a0_0)
         have hcz61_1 := cz_ BK165 1 (.slice A0_1 l0_1.length c0_1)
         have hfz61_0 := fz_ BK165 0
         have hfz61_1 := fz_ BK165 1
         go_wp2_with (first | ((with_reducible refine gate_callee (f := 38) rfl ?_); refine goesL_ (some 65) rfl rfl Tryz.func38 (by kernel_rfl) rfl #[.agg #[.string a0_0, .slice A0_1 l0_1.length c0_1], .int .i64 4] rfl gl_ ?_; (with_reducible refine (spec_FieldOf.calls kj11 a0_0 _ _ l0_1 4 t182 t183 _ ?side1 ?side2 A56.out).mono ?_); (case side1 => exact ca_ (Kd.C_below HR0_1.out bl_)); (case side2 => exact HC0_1.out); rintro e w62 ⟨rfl, hb⟩; refine ⟨_, rfl, ?_⟩; replace BK165 := Aside0.mk (blk_below (bk_ BK165) hb); replace BK166 := Aside0.mk (blk_below (bk_ BK166) hb); replace BK172 := Aside0.mk (blk_below (bk_ BK172) hb); replace HB := Aside0.mk (below_step bl_ hb); (try clear hb); (try clear hb2); (try clear hk); (try clear hi)) | ((with_reducible refine gate_callee (f := 43) rfl ?_); refine goesL_ (some 70) rfl rfl Tryz.func43 (by kernel_rfl) rfl #[.string t182] rfl gl_ ?_; (with_reducible refine (spec_Narrow.calls kj11 t182 t184 t185 _ A57.out).mono ?_); rintro e w' ⟨rfl, ⟨nd, rfl⟩⟩; refine ⟨_, rfl, ?_⟩; (try (rw [drewN_self w62]; generalize hq_ : World.drewN w62 _ = w62; have n0_ : Aside0 (w62.heap[gb165]? = some (.cells #[.string a0_0, .slice A0_1 l0_1.length c0_1] 32 (0, 0))) := ⟨by rw [← hq_]; exact (by (with_reducible repeat (first | refine blk_drewN ?_ _ | refine blk_drew ?_ | refine blk_alloc ?_ _)); exact BK165.out)⟩; have n1_ : Aside0 (w62.heap[gb166]? = some (.cells #[.int .i64 0, .string (⟨#[]⟩ : ByteArray), .string (⟨#[]⟩ : ByteArray), .string (⟨#[]⟩ : ByteArray), .string (⟨#[]⟩ : ByteArray), .string (⟨#[]⟩ : ByteArray), .int .i64 0, .int .i64 0] 27 (0, 0))) := ⟨by rw [← hq_]; exact (by (with_reducible repeat (first | refine blk_drewN ?_ _ | refine blk_drew ?_ | refine blk_alloc ?_ _)); exact BK166.out)⟩; have n2_ : Aside0 (w62.heap[gb172]? = some (.cells #[.int .i64 t171, .string t173, .string (⟨#[]⟩ : ByteArray), .string x173003_11, .string t175, .string a0_0, .int .i64 0, .int .i64 0] 27 (0, 0))) := ⟨by rw [← hq_]; exact (by (with_reducible repeat (first | refine blk_drewN ?_ _ | refine blk_drew ?_ | refine blk_alloc ?_ _)); exact BK172.out)⟩; have n3_ : Aside0 (Below w.heap.size w w62) := ⟨by rw [← hq_]; exact bl_⟩; clear BK165 BK166 BK172 HB hq_; have BK165 := n0_; have BK166 := n1_; have BK172 := n2_; have HB := n3_; clear n0_ n1_ n2_ n3_)); have hnb63 := NB172_166.out; have hnc63 := NB166_172.out; obtain ⟨hcz64_0, hcz64_1, hcz64_2, hcz64_3, hcz64_4, hcz64_5, hcz64_6, hcz64_7, hfz64_0, hfz64_1, hfz64_2, hfz64_3, hfz64_4, hfz64_5, hfz64_6, hfz64_7⟩ := bx8_ BK172))
         go_meet
         case rel => exact ⟨_, (t183), (t184), sp_, H', ⟨by have := HJ11.out; first | omega | exact Nat.le_refl _⟩, ⟨by (with_reducible repeat (first | refine blk_drewN ?_ _ | refine blk_drew ?_ | refine blk_alloc ?_ _)); refine blk_far ?_ NB165_172.out _; (with_reducible repeat (first | refine blk_drewN ?_ _ | refine blk_drew ?_ | refine blk_alloc ?_ _)); exact BK165.out⟩, ⟨by (with_reducible repeat (first | refine blk_drewN ?_ _ | refine blk_drew ?_ | refine blk_alloc ?_ _)); refine blk_far ?_ NB166_172.out _; (with_reducible repeat (first | refine blk_drewN ?_ _ | refine blk_drew ?_ | refine blk_alloc ?_ _)); exact BK166.out⟩, ⟨by (with_reducible repeat (first | refine blk_drewN ?_ _ | refine blk_drew ?_ | refine blk_alloc ?_ _)); apply bq8_6_; (with_reducible repeat (first | refine blk_drewN ?_ _ | refine blk_drew ?_ | refine blk_alloc ?_ _)); exact BK172.out⟩, ⟨bl_⟩⟩
        ·exact absurd rfl c58
       ·replace c55 := Bool.eq_false_iff.mpr c55
        subst c55
        replace H := in_ H
        have H' := Aside0.mk H
        clear H
        go_wp2
        go_meet
        case rel => exact ⟨_, (true), (0), sp_, H', ⟨by have := HJ11.out; first | omega | exact Nat.le_refl _⟩, ⟨by (with_reducible repeat (first | refine blk_drewN ?_ _ | refine blk_drew ?_ | refine blk_alloc ?_ _)); exact BK165.out⟩, ⟨by (with_reducible repeat (first | refine blk_drewN ?_ _ | refine blk_drew ?_ | refine blk_alloc ?_ _)); exact BK166.out⟩, ⟨by (with_reducible repeat (first | refine blk_drewN ?_ _ | refine blk_drew ?_ | refine blk_alloc ?_ _)); exact BK172.out⟩, ⟨bl_⟩⟩
      case rest =>
       clear HC51
       try clear c1
       try clear p2
       try clear c3
       try clear c4
       try clear c5
       try clear c6
       try clear c7
       try clear c9
       try clear c15
       try clear c33
       try clear c36
       try clear c37
       try clear c38
       try clear c39
       try clear c40
       try clear c41
       try clear c42
       try clear c43
       try clear c44
       try clear c45
       try clear c48
       try clear c52
       try clear c53
       try clear c55
       try clear c58
       try clear c59
       try clear c60
       try clear c63
       try clear c65
       try clear c66
       try clear c69
       try clear hcz16_0
       try clear hcz16_1
       try clear hcz18_0
       try clear hcz18_1
       try clear hcz19_0
       try clear hcz19_1
       try clear hcz34_0
       try clear hcz34_1
       try clear hcz37_0
       try clear hcz37_1
       try clear hcz37_2
       try clear hcz37_3
       try clear hcz37_4
       try clear hcz37_5
       try clear hcz37_6
       try clear hcz37_7
       try clear hcz38_0
       try clear hcz38_1
       try clear hcz40_0
       try clear hcz40_1
       try clear hcz40_2
       try clear hcz40_3
       try clear hcz40_4
       try clear hcz40_5
       try clear hcz40_6
       try clear hcz40_7
       try clear hcz46_0
       try clear hcz46_1
       try clear hcz49_0
       try clear hcz49_1
       try clear hcz49_2
       try clear hcz49_3
       try clear hcz49_4
       try clear hcz49_5
       try clear hcz49_6
       try clear hcz49_7
       try clear hcz54_0
       try clear hcz54_1
       try clear hcz54_2
       try clear hcz54_3
       try clear hcz54_4
       try clear hcz54_5
       try clear hcz54_6
       try clear hcz54_7
       try clear hcz61_0
       try clear hcz61_1
       try clear hcz64_0
       try clear hcz64_1
       try clear hcz64_2
       try clear hcz64_3
       try clear hcz64_4
       try clear hcz64_5
       try clear hcz64_6
       try clear hcz64_7
       try clear hcz67_0
       try clear hcz67_1
       try clear hcz70_0
       try clear hcz70_1
       try clear hcz70_2
       try clear hcz70_3
       try clear hcz70_4
       try clear hcz70_5
       try clear hcz70_6
       try clear hcz70_7
       try clear hfz16_0
       try clear hfz16_1
       try clear hfz18_0
       try clear hfz18_1
       try clear hfz19_0
       try clear hfz19_1
       try clear hfz34_0
       try clear hfz34_1
       try clear hfz37_0
       try clear hfz37_1
       try clear hfz37_2
       try clear hfz37_3
       try clear hfz37_4
       try clear hfz37_5
       try clear hfz37_6
       try clear hfz37_7
       try clear hfz38_0
       try clear hfz38_1
       try clear hfz40_0
       try clear hfz40_1
       try clear hfz40_2
       try clear hfz40_3
       try clear hfz40_4
       try clear hfz40_5
       try clear hfz40_6
       try clear hfz40_7
       try clear hfz46_0
       try clear hfz46_1
       try clear hfz49_0
       try clear hfz49_1
       try clear hfz49_2
       try clear hfz49_3
       try clear hfz49_4
       try clear hfz49_5
       try clear hfz49_6
       try clear hfz49_7
       try clear hfz54_0
       try clear hfz54_1
       try clear hfz54_2
       try clear hfz54_3
       try clear hfz54_4
       try clear hfz54_5
       try clear hfz54_6
       try clear hfz54_7
       try clear hfz61_0
       try clear hfz61_1
       try clear hfz64_0
       try clear hfz64_1
       try clear hfz64_2
       try clear hfz64_3
       try clear hfz64_4
       try clear hfz64_5
       try clear hfz64_6
       try clear hfz64_7
       try clear hfz67_0
       try clear hfz67_1
       try clear hfz70_0
       try clear hfz70_1
       try clear hfz70_2
       try clear hfz70_3
       try clear hfz70_4
       try clear hfz70_5
       try clear hfz70_6
       try clear hfz70_7
       try clear p2
       obtain ⟨kq, x5_50, x173006_50, rfl, HA, HJ50, BK165, BK166, BK172, HB⟩ := hcut
       cases kq with
       | zero => exact absurd HA.out (by simp [spec_ReqOf.j1])
       | succ kj50 =>
        have H := HA.out
        clear HA
        simp only [spec_ReqOf.j1] at H
        have HC71 := Aside0.mk H
        clear H
        have hnb72 := NB172_165.out
        have hnc72 := NB165_172.out
        have hnb73 := NB172_166.out
        have hnc73 := NB166_172.out
        have hcz74_0 := cz_ BK172 0 (.int .i64 t171)
        have hcz74_1 := cz_ BK172 1 (.string t173)
        have hcz74_2 := cz_ BK172 2 (.string (⟨#[]⟩ : ByteArray))
        have hcz74_3 := cz_ BK172 3 (.string x173003_11)
        have hcz74_4 := cz_ BK172 4 (.string t175)
        have hcz74_5 := cz_ BK172 5 (.string a0_0)
        have hcz74_6 := cz_ BK172 6 (.int .i64 x173006_50)
        have hcz74_7 := cz_ BK172 7 (.int .i64 0)
        have hfz74_0 := fz_ BK172 0
        have hfz74_1 := fz_ BK172 1
        have hfz74_2 := fz_ BK172 2
        have hfz74_3 := fz_ BK172 3
        have hfz74_4 := fz_ BK172 4
        have hfz74_5 := fz_ BK172 5
        have hfz74_6 := fz_ BK172 6
        have hfz74_7 := fz_ BK172 7
        go_upto_if 80 with (fail)
        go_cut [5] (fun v5 wc => ∃ (kq : Nat) (x5_70 : Bool) (x173007_70 : Int), v5 = .bool x5_70 ∧ Aside0 (spec_ReqOf.j2 kq x5_70 a0_0 l0_1 t171 t173 (⟨#[]⟩ : ByteArray) x173003_11 t175 a0_0 x173006_50 x173007_70 = some (r1, r2, r3, r4, r5, r6, r7, r8, r9)) ∧ Aside0 (kq ≤ kj50) ∧ Aside0 (wc.heap[gb165]? = some (.cells #[.string a0_0, (.slice A0_1 l0_1.length c0_1)] 32 (0, 0))) ∧ Aside0 (wc.heap[gb166]? = some (.cells #[.int .i64 0, .string (⟨#[]⟩ : ByteArray), .string (⟨#[]⟩ : ByteArray), .string (⟨#[]⟩ : ByteArray), .string (⟨#[]⟩ : ByteArray), .string (⟨#[]⟩ : ByteArray), .int .i64 0, .int .i64 0] 27 (0, 0))) ∧ Aside0 (wc.heap[gb172]? = some (.cells #[.int .i64 t171, .string t173, .string (⟨#[]⟩ : ByteArray), .string x173003_11, .string t175, .string a0_0, .int .i64 x173006_50, .int .i64 x173007_70] 27 (0, 0))) ∧ Aside0 (Below w.heap.size w wc))
        case first =>
         have H := HC71.out
         clear HC71
         by_cases c75 : t171 = 1
         ·rw [if_pos c75] at H
          have c75b0 : (t171 == 1) = true := beq_iff_eq.mpr c75
          have c75b1 : (t171 != 1) = false := bne_eq_false_iff_eq.mpr c75
          clear c75
          (first | rw [c75b0] | (simp only [i64_w, i32_w]; rw [c75b0]) | skip)
          obtain ⟨⟨t186, t187⟩, A76, H⟩ := ob_ H
          (try dsimp only at H)
          obtain ⟨⟨t188, t189⟩, A77, H⟩ := ob_ H
          (try dsimp only at H)
          by_cases c78 : x5_50 = true
          ·subst c78
           replace H := ip_ H
           have H' := Aside0.mk H
           clear H
           have hnb79 := NB165_166.out
           have hnc79 := NB166_165.out
           have hnb80 := NB165_172.out
           have hnc80 := NB172_165.out
           have hcz81_0 := cz_ BK165 0 (.string a0_0)
           have hcz81_1 := cz_ BK165 1 (.slice A0_1 l0_1.length c0_1)
           have hfz81_0 := fz_ BK165 0
           have hfz81_1 := fz_ BK165 1
           go_wp2_with (first | ((with_reducible refine gate_callee (f := 38) rfl ?_); refine goesL_ (some 83) rfl rfl Tryz.func38 (by kernel_rfl) rfl #[.agg #[.string a0_0, .slice A0_1 l0_1.length c0_1], .int .i64 14] rfl gl_ ?_; (with_reducible refine (spec_FieldOf.calls kj50 a0_0 _ _ l0_1 14 t186 t187 _ ?side1 ?side2 A76.out).mono ?_); (case side1 => exact ca_ (Kd.C_below HR0_1.out HB.out)); (case side2 => exact HC0_1.out); rintro e w82 ⟨rfl, hb⟩; refine ⟨_, rfl, ?_⟩; replace BK165 := Aside0.mk (blk_below (bk_ BK165) hb); replace BK166 := Aside0.mk (blk_below (bk_ BK166) hb); replace BK172 := Aside0.mk (blk_below (bk_ BK172) hb); replace HB := Aside0.mk (below_step bl_ hb); (try clear hb); (try clear hb2); (try clear hk); (try clear hi)) | ((with_reducible refine gate_callee (f := 43) rfl ?_); refine goesL_ (some 88) rfl rfl Tryz.func43 (by kernel_rfl) rfl #[.string t186] rfl gl_ ?_; (with_reducible refine (spec_Narrow.calls kj50 t186 t188 t189 _ A77.out).mono ?_); rintro e w' ⟨rfl, ⟨nd, rfl⟩⟩; refine ⟨_, rfl, ?_⟩; (try (rw [drewN_self w82]; generalize hq_ : World.drewN w82 _ = w82; have n0_ : Aside0 (w82.heap[gb165]? = some (.cells #[.string a0_0, .slice A0_1 l0_1.length c0_1] 32 (0, 0))) := ⟨by rw [← hq_]; exact (by (with_reducible repeat (first | refine blk_drewN ?_ _ | refine blk_drew ?_ | refine blk_alloc ?_ _)); exact BK165.out)⟩; have n1_ : Aside0 (w82.heap[gb166]? = some (.cells #[.int .i64 0, .string (⟨#[]⟩ : ByteArray), .string (⟨#[]⟩ : ByteArray), .string (⟨#[]⟩ : ByteArray), .string (⟨#[]⟩ : ByteArray), .string (⟨#[]⟩ : ByteArray), .int .i64 0, .int .i64 0] 27 (0, 0))) := ⟨by rw [← hq_]; exact (by (with_reducible repeat (first | refine blk_drewN ?_ _ | refine blk_drew ?_ | refine blk_alloc ?_ _)); exact BK166.out)⟩; have n2_ : Aside0 (w82.heap[gb172]? = some (.cells #[.int .i64 t171, .string t173, .string (⟨#[]⟩ : ByteArray), .string x173003_11, .string t175, .string a0_0, .int .i64 x173006_50, .int .i64 0] 27 (0, 0))) := ⟨by rw [← hq_]; exact (by (with_reducible repeat (first | refine blk_drewN ?_ _ | refine blk_drew ?_ | refine blk_alloc ?_ _)); exact BK172.out)⟩; have n3_ : Aside0 (Below w.heap.size w w82) := ⟨by rw [← hq_]; exact bl_⟩; clear BK165 BK166 BK172 HB hq_; have BK165 := n0_; have BK166 := n1_; have BK172 := n2_; have HB := n3_; clear n0_ n1_ n2_ n3_)); have hnb83 := NB172_166.out; have hnc83 := NB166_172.out; obtain ⟨hcz84_0, hcz84_1, hcz84_2, hcz84_3, hcz84_4, hcz84_5, hcz84_6, hcz84_7, hfz84_0, hfz84_1, hfz84_2, hfz84_3, hfz84_4, hfz84_5, hfz84_6, hfz84_7⟩ := bx8_ BK172))
           go_meet
           case rel => exact ⟨_, (t187), (t188), sp_, H', ⟨by have := HJ11.out; have := HJ50.out; first | omega | exact Nat.le_refl _⟩, ⟨by (with_reducible repeat (first | refine blk_drewN ?_ _ | refine blk_drew ?_ | refine blk_alloc ?_ _)); refine blk_far ?_ NB165_172.out _; (with_reducible repeat (first | refine blk_drewN ?_ _ | refine blk_drew ?_ | refine blk_alloc ?_ _)); exact BK165.out⟩, ⟨by (with_reducible repeat (first | refine blk_drewN ?_ _ | refine blk_drew ?_ | refine blk_alloc ?_ _)); refine blk_far ?_ NB166_172.out _; (with_reducible repeat (first | refine blk_drewN ?_ _ | refine blk_drew ?_ | refine blk_alloc ?_ _)); exact BK166.out⟩, ⟨by (with_reducible repeat (first | refine blk_drewN ?_ _ | refine blk_drew ?_ | refine blk_alloc ?_ _)); apply bq8_7_; (with_reducible repeat (first | refine blk_drewN ?_ _ | refine blk_drew ?_ | refine blk_alloc ?_ _)); exact BK172.out⟩, ⟨bl_⟩⟩
          ·replace c78 := Bool.eq_false_iff.mpr c78
           subst c78
           replace H := in_ H
           have H' := Aside0.mk H
           clear H
           have hnb85 := NB165_166.out
           have hnc85 := NB166_165.out
           have hnb86 := NB165_172.out
           have hnc86 := NB172_165.out
           have hcz87_0 := cz_ BK165 0 (.string a0_0)
           have hcz87_1 := cz_ BK165 1 (.slice A0_1 l0_1.length c0_1)
           have hfz87_0 := fz_ BK165 0
           have hfz87_1 := fz_ BK165 1
           go_wp2_with (first | ((with_reducible refine gate_callee (f := 38) rfl ?_); refine goesL_ (some 83) rfl rfl Tryz.func38 (by kernel_rfl) rfl #[.agg #[.string a0_0, .slice A0_1 l0_1.length c0_1], .int .i64 14] rfl gl_ ?_; (with_reducible refine (spec_FieldOf.calls kj50 a0_0 _ _ l0_1 14 t186 t187 _ ?side1 ?side2 A76.out).mono ?_); (case side1 => exact ca_ (Kd.C_below HR0_1.out HB.out)); (case side2 => exact HC0_1.out); rintro e w88 ⟨rfl, hb⟩; refine ⟨_, rfl, ?_⟩; replace BK165 := Aside0.mk (blk_below (bk_ BK165) hb); replace BK166 := Aside0.mk (blk_below (bk_ BK166) hb); replace BK172 := Aside0.mk (blk_below (bk_ BK172) hb); replace HB := Aside0.mk (below_step bl_ hb); (try clear hb); (try clear hb2); (try clear hk); (try clear hi)) | ((with_reducible refine gate_callee (f := 43) rfl ?_); refine goesL_ (some 88) rfl rfl Tryz.func43 (by kernel_rfl) rfl #[.string t186] rfl gl_ ?_; (with_reducible refine (spec_Narrow.calls kj50 t186 t188 t189 _ A77.out).mono ?_); rintro e w' ⟨rfl, ⟨nd, rfl⟩⟩; refine ⟨_, rfl, ?_⟩; (try (rw [drewN_self w88]; generalize hq_ : World.drewN w88 _ = w88; have n0_ : Aside0 (w88.heap[gb165]? = some (.cells #[.string a0_0, .slice A0_1 l0_1.length c0_1] 32 (0, 0))) := ⟨by rw [← hq_]; exact (by (with_reducible repeat (first | refine blk_drewN ?_ _ | refine blk_drew ?_ | refine blk_alloc ?_ _)); exact BK165.out)⟩; have n1_ : Aside0 (w88.heap[gb166]? = some (.cells #[.int .i64 0, .string (⟨#[]⟩ : ByteArray), .string (⟨#[]⟩ : ByteArray), .string (⟨#[]⟩ : ByteArray), .string (⟨#[]⟩ : ByteArray), .string (⟨#[]⟩ : ByteArray), .int .i64 0, .int .i64 0] 27 (0, 0))) := ⟨by rw [← hq_]; exact (by (with_reducible repeat (first | refine blk_drewN ?_ _ | refine blk_drew ?_ | refine blk_alloc ?_ _)); exact BK166.out)⟩; have n2_ : Aside0 (w88.heap[gb172]? = some (.cells #[.int .i64 t171, .string t173, .string (⟨#[]⟩ : ByteArray), .string x173003_11, .string t175, .string a0_0, .int .i64 x173006_50, .int .i64 0] 27 (0, 0))) := ⟨by rw [← hq_]; exact (by (with_reducible repeat (first | refine blk_drewN ?_ _ | refine blk_drew ?_ | refine blk_alloc ?_ _)); exact BK172.out)⟩; have n3_ : Aside0 (Below w.heap.size w w88) := ⟨by rw [← hq_]; exact bl_⟩; clear BK165 BK166 BK172 HB hq_; have BK165 := n0_; have BK166 := n1_; have BK172 := n2_; have HB := n3_; clear n0_ n1_ n2_ n3_)); have hnb89 := NB172_166.out; have hnc89 := NB166_172.out; obtain ⟨hcz90_0, hcz90_1, hcz90_2, hcz90_3, hcz90_4, hcz90_5, hcz90_6, hcz90_7, hfz90_0, hfz90_1, hfz90_2, hfz90_3, hfz90_4, hfz90_5, hfz90_6, hfz90_7⟩ := bx8_ BK172))
           go_meet
           case rel => exact ⟨_, (false), (t188), sp_, H', ⟨by have := HJ11.out; have := HJ50.out; first | omega | exact Nat.le_refl _⟩, ⟨by (with_reducible repeat (first | refine blk_drewN ?_ _ | refine blk_drew ?_ | refine blk_alloc ?_ _)); refine blk_far ?_ NB165_172.out _; (with_reducible repeat (first | refine blk_drewN ?_ _ | refine blk_drew ?_ | refine blk_alloc ?_ _)); exact BK165.out⟩, ⟨by (with_reducible repeat (first | refine blk_drewN ?_ _ | refine blk_drew ?_ | refine blk_alloc ?_ _)); refine blk_far ?_ NB166_172.out _; (with_reducible repeat (first | refine blk_drewN ?_ _ | refine blk_drew ?_ | refine blk_alloc ?_ _)); exact BK166.out⟩, ⟨by (with_reducible repeat (first | refine blk_drewN ?_ _ | refine blk_drew ?_ | refine blk_alloc ?_ _)); apply bq8_7_; (with_reducible repeat (first | refine blk_drewN ?_ _ | refine blk_drew ?_ | refine blk_alloc ?_ _)); exact BK172.out⟩, ⟨bl_⟩⟩
         ·rw [if_neg c75] at H
          have c75b0 : (t171 == 1) = false := beq_eq_false_iff_ne.mpr c75
          have c75b1 : (t171 != 1) = true := bne_iff_ne.mpr c75
          (first | rw [c75b0] | (simp only [i64_w, i32_w]; rw [c75b0]) | skip)
          have H' := Aside0.mk H
          clear H
          go_wp2
          go_meet
          case rel => exact ⟨_, (x5_50), (0), sp_, H', ⟨by have := HJ11.out; have := HJ50.out; first | omega | exact Nat.le_refl _⟩, ⟨by (with_reducible repeat (first | refine blk_drewN ?_ _ | refine blk_drew ?_ | refine blk_alloc ?_ _)); exact BK165.out⟩, ⟨by (with_reducible repeat (first | refine blk_drewN ?_ _ | refine blk_drew ?_ | refine blk_alloc ?_ _)); exact BK166.out⟩, ⟨by (with_reducible repeat (first | refine blk_drewN ?_ _ | refine blk_drew ?_ | refine blk_alloc ?_ _)); exact BK172.out⟩, ⟨bl_⟩⟩
        case rest =>
         clear HC71
         try clear c1
         try clear p2
         try clear c3
         try clear c4
         try clear c5
         try clear c6
         try clear c7
         try clear c8
         try clear c9
         try clear c15
         try clear c33
         try clear c36
         try clear c37
         try clear c38
         try clear c39
         try clear c40
         try clear c41
         try clear c42
         try clear c43
         try clear c44
         try clear c45
         try clear c48
         try clear c52
         try clear c53
         try clear c55
         try clear c58
         try clear c59
         try clear c60
         try clear c63
         try clear c65
         try clear c66
         try clear c69
         try clear c72
         try clear c73
         try clear c75
         try clear c75b0
         try clear c75b1
         try clear c78
         try clear c79
         try clear c80
         try clear c83
         try clear c85
         try clear c86
         try clear c89
         try clear hcz16_0
         try clear hcz16_1
         try clear hcz18_0
         try clear hcz18_1
         try clear hcz19_0
         try clear hcz19_1
         try clear hcz34_0
         try clear hcz34_1
         try clear hcz37_0
         try clear hcz37_1
         try clear hcz37_2
         try clear hcz37_3
         try clear hcz37_4
         try clear hcz37_5
         try clear hcz37_6
         try clear hcz37_7
         try clear hcz38_0
         try clear hcz38_1
         try clear hcz40_0
         try clear hcz40_1
         try clear hcz40_2
         try clear hcz40_3
         try clear hcz40_4
         try clear hcz40_5
         try clear hcz40_6
         try clear hcz40_7
         try clear hcz46_0
         try clear hcz46_1
         try clear hcz49_0
         try clear hcz49_1
         try clear hcz49_2
         try clear hcz49_3
         try clear hcz49_4
         try clear hcz49_5
         try clear hcz49_6
         try clear hcz49_7
         try clear hcz54_0
         try clear hcz54_1
         try clear hcz54_2
         try clear hcz54_3
         try clear hcz54_4
         try clear hcz54_5
         try clear hcz54_6
         try clear hcz54_7
         try clear hcz61_0
         try clear hcz61_1
         try clear hcz64_0
         try clear hcz64_1
         try clear hcz64_2
         try clear hcz64_3
         try clear hcz64_4
         try clear hcz64_5
         try clear hcz64_6
         try clear hcz64_7
         try clear hcz67_0
         try clear hcz67_1
         try clear hcz70_0
         try clear hcz70_1
         try clear hcz70_2
         try clear hcz70_3
         try clear hcz70_4
         try clear hcz70_5
         try clear hcz70_6
         try clear hcz70_7
         try clear hcz74_0
         try clear hcz74_1
         try clear hcz74_2
         try clear hcz74_3
         try clear hcz74_4
         try clear hcz74_5
         try clear hcz74_6
         try clear hcz74_7
         try clear hcz81_0
         try clear hcz81_1
         try clear hcz84_0
         try clear hcz84_1
         try clear hcz84_2
         try clear hcz84_3
         try clear hcz84_4
         try clear hcz84_5
         try clear hcz84_6
         try clear hcz84_7
         try clear hcz87_0
         try clear hcz87_1
         try clear hcz90_0
         try clear hcz90_1
         try clear hcz90_2
         try clear hcz90_3
         try clear hcz90_4
         try clear hcz90_5
         try clear hcz90_6
         try clear hcz90_7
         try clear hfz16_0
         try clear hfz16_1
         try clear hfz18_0
         try clear hfz18_1
         try clear hfz19_0
         try clear hfz19_1
         try clear hfz34_0
         try clear hfz34_1
         try clear hfz37_0
         try clear hfz37_1
         try clear hfz37_2
         try clear hfz37_3
         try clear hfz37_4
         try clear hfz37_5
         try clear hfz37_6
         try clear hfz37_7
         try clear hfz38_0
         try clear hfz38_1
         try clear hfz40_0
         try clear hfz40_1
         try clear hfz40_2
         try clear hfz40_3
         try clear hfz40_4
         try clear hfz40_5
         try clear hfz40_6
         try clear hfz40_7
         try clear hfz46_0
         try clear hfz46_1
         try clear hfz49_0
         try clear hfz49_1
         try clear hfz49_2
         try clear hfz49_3
         try clear hfz49_4
         try clear hfz49_5
         try clear hfz49_6
         try clear hfz49_7
         try clear hfz54_0
         try clear hfz54_1
         try clear hfz54_2
         try clear hfz54_3
         try clear hfz54_4
         try clear hfz54_5
         try clear hfz54_6
         try clear hfz54_7
         try clear hfz61_0
         try clear hfz61_1
         try clear hfz64_0
         try clear hfz64_1
         try clear hfz64_2
         try clear hfz64_3
         try clear hfz64_4
         try clear hfz64_5
         try clear hfz64_6
         try clear hfz64_7
         try clear hfz67_0
         try clear hfz67_1
         try clear hfz70_0
         try clear hfz70_1
         try clear hfz70_2
         try clear hfz70_3
         try clear hfz70_4
         try clear hfz70_5
         try clear hfz70_6
         try clear hfz70_7
         try clear hfz74_0
         try clear hfz74_1
         try clear hfz74_2
         try clear hfz74_3
         try clear hfz74_4
         try clear hfz74_5
         try clear hfz74_6
         try clear hfz74_7
         try clear hfz81_0
         try clear hfz81_1
         try clear hfz84_0
         try clear hfz84_1
         try clear hfz84_2
         try clear hfz84_3
         try clear hfz84_4
         try clear hfz84_5
         try clear hfz84_6
         try clear hfz84_7
         try clear hfz87_0
         try clear hfz87_1
         try clear hfz90_0
         try clear hfz90_1
         try clear hfz90_2
         try clear hfz90_3
         try clear hfz90_4
         try clear hfz90_5
         try clear hfz90_6
         try clear hfz90_7
         try clear p2
         obtain ⟨kq, x5_70, x173007_70, rfl, HA, HJ70, BK165, BK166, BK172, HB⟩ := hcut
         cases kq with
         | zero => exact absurd HA.out (by simp [spec_ReqOf.j2])
         | succ kj70 =>
          have H := HA.out
          clear HA
          simp only [spec_ReqOf.j2] at H
          by_cases c91 : t171 = 6
          ·rw [if_pos c91] at H
           have c91b0 : (t171 == 6) = true := beq_iff_eq.mpr c91
           have c91b1 : (t171 != 6) = false := bne_eq_false_iff_eq.mpr c91
           clear c91
           obtain ⟨⟨t190, t191⟩, A92, H⟩ := ob_ H
           (try dsimp only at H)
           by_cases c93 : x5_70 = true
           ·subst c93
            replace H := ip_ H
            obtain ⟨t192, A94, H⟩ := ob_ H
            by_cases c95 : t192 = true
            ·subst c95
             replace H := ip_ H
             simp only [Option.some.injEq, Prod.mk.injEq] at H
             obtain ⟨rfl, rfl, rfl, rfl, rfl, rfl, rfl, rfl, rfl⟩ := H
             have hnb96 := NB172_165.out
             have hnc96 := NB165_172.out
             have hnb97 := NB172_166.out
             have hnc97 := NB166_172.out
             have hcz98_0 := cz_ BK172 0 (.int .i64 t171)
             have hcz98_1 := cz_ BK172 1 (.string t173)
             have hcz98_2 := cz_ BK172 2 (.string (⟨#[]⟩ : ByteArray))
             have hcz98_3 := cz_ BK172 3 (.string x173003_11)
             have hcz98_4 := cz_ BK172 4 (.string t175)
             have hcz98_5 := cz_ BK172 5 (.string a0_0)
             have hcz98_6 := cz_ BK172 6 (.int .i64 x173006_50)
             have hcz98_7 := cz_ BK172 7 (.int .i64 x173007_70)
             have hfz98_0 := fz_ BK172 0
             have hfz98_1 := fz_ BK172 1
             have hfz98_2 := fz_ BK172 2
             have hfz98_3 := fz_ BK172 3
             have hfz98_4 := fz_ BK172 4
             have hfz98_5 := fz_ BK172 5
             have hfz98_6 := fz_ BK172 6
             have hfz98_7 := fz_ BK172 7
             have hnb99 := NB165_166.out
             have hnc99 := NB166_165.out
             have hcz100_0 := cz_ BK165 0 (.string a0_0)
             have hcz100_1 := cz_ BK165 1 (.slice A0_1 l0_1.length c0_1)
             have hfz100_0 := fz_ BK165 0
             have hfz100_1 := fz_ BK165 1
             go_wp2_with (first | ((with_reducible refine gate_callee (f := 38) rfl ?_); refine goesL_ (some 101) rfl rfl Tryz.func38 (by kernel_rfl) rfl #[.agg #[.string a0_0, .slice A0_1 l0_1.length c0_1], .int .i64 103] rfl gl_ ?_; (with_reducible refine (spec_FieldOf.calls kj70 a0_0 _ _ l0_1 103 t190 t191 _ ?side1 ?side2 A92.out).mono ?_); (case side1 => exact ca_ (Kd.C_below HR0_1.out HB.out)); (case side2 => exact HC0_1.out); rintro e w101 ⟨rfl, hb⟩; refine ⟨_, rfl, ?_⟩; replace BK165 := Aside0.mk (blk_below (bk_ BK165) hb); replace BK166 := Aside0.mk (blk_below (bk_ BK166) hb); replace BK172 := Aside0.mk (blk_below (bk_ BK172) hb); replace HB := Aside0.mk (below_step bl_ hb); (try clear hb); (try clear hb2); (try clear hk); (try clear hi); obtain ⟨hcz102_0, hcz102_1, hcz102_2, hcz102_3, hcz102_4, hcz102_5, hcz102_6, hcz102_7, hfz102_0, hfz102_1, hfz102_2, hfz102_3, hfz102_4, hfz102_5, hfz102_6, hfz102_7⟩ := bx8_ BK172) | (go_at_call 44; (with_reducible refine (spec_ReqOk.calls kj70 t171 t173 t190 x173003_11 t175 a0_0 x173006_50 x173007_70 true _ A94.out).mono ?_); rintro e w103 ⟨rfl, hb⟩; replace BK165 := Aside0.mk (blk_below (g := gb165) (o := .cells #[.string a0_0, .slice A0_1 l0_1.length c0_1] 32 (0, 0)) (by (with_reducible repeat (first | refine blk_drewN ?_ _ | refine blk_drew ?_ | refine blk_alloc ?_ _)); refine blk_far ?_ NB165_172.out _; (with_reducible repeat (first | refine blk_drewN ?_ _ | refine blk_drew ?_ | refine blk_alloc ?_ _)); exact BK165.out) hb); replace BK166 := Aside0.mk (blk_below (g := gb166) (o := .cells #[.int .i64 0, .string (⟨#[]⟩ : ByteArray), .string (⟨#[]⟩ : ByteArray), .string (⟨#[]⟩ : ByteArray), .string (⟨#[]⟩ : ByteArray), .string (⟨#[]⟩ : ByteArray), .int .i64 0, .int .i64 0] 27 (0, 0)) (by (with_reducible repeat (first | refine blk_drewN ?_ _ | refine blk_drew ?_ | refine blk_alloc ?_ _)); refine blk_far ?_ NB166_172.out _; (with_reducible repeat (first | refine blk_drewN ?_ _ | refine blk_drew ?_ | refine blk_alloc ?_ _)); exact BK166.out) hb); replace BK172 := Aside0.mk (blk_below (g := gb172) (o := .cells #[.int .i64 t171, .string t173, .string t190, .string x173003_11, .string t175, .string a0_0, .int .i64 x173006_50, .int .i64 x173007_70] 27 (0, 0)) (by (with_reducible repeat (first | refine blk_drewN ?_ _ | refine blk_drew ?_ | refine blk_alloc ?_ _)); apply bq8_2_; (with_reducible repeat (first | refine blk_drewN ?_ _ | refine blk_drew ?_ | refine blk_alloc ?_ _)); exact BK172.out) hb); replace HB := Aside0.mk (below_step bl_ hb); (try clear hb); (try clear hb2); (try clear hk); (try clear hi); obtain ⟨hcz104_0, hcz104_1, hcz104_2, hcz104_3, hcz104_4, hcz104_5, hcz104_6, hcz104_7, hfz104_0, hfz104_1, hfz104_2, hfz104_3, hfz104_4, hfz104_5, hfz104_6, hfz104_7⟩ := bx8_ BK172; obtain ⟨hcz105_0, hcz105_1, hcz105_2, hcz105_3, hcz105_4, hcz105_5, hcz105_6, hcz105_7, hfz105_0, hfz105_1, hfz105_2, hfz105_3, hfz105_4, hfz105_5, hfz105_6, hfz105_7⟩ := bx8_ BK166))
             refine bodyPost_ret (results_ct rfl _ _ gb166 27 #[.int .i64 t171, .string t173, .string t190, .string x173003_11, .string t175, .string a0_0, .int .i64 x173006_50, .int .i64 x173007_70] (0, 0) _ rfl (by (with_reducible repeat (first | refine blk_drewN ?_ _ | refine blk_drew ?_ | refine blk_alloc ?_ _)); apply bq8_7_6_5_4_3_2_1_0_; (with_reducible repeat (first | refine blk_drewN ?_ _ | refine blk_drew ?_ | refine blk_alloc ?_ _)); exact BK166.out) Tryz.underlying27 rfl (by kernel_rfl)) rfl ?_
             exact ⟨sq_, bl_⟩
            ·replace c95 := Bool.eq_false_iff.mpr c95
             subst c95
             replace H := in_ H
             simp only [Option.some.injEq, Prod.mk.injEq] at H
             obtain ⟨rfl, rfl, rfl, rfl, rfl, rfl, rfl, rfl, rfl⟩ := H
             have hnb106 := NB172_165.out
             have hnc106 := NB165_172.out
             have hnb107 := NB172_166.out
             have hnc107 := NB166_172.out
             have hcz108_0 := cz_ BK172 0 (.int .i64 t171)
             have hcz108_1 := cz_ BK172 1 (.string t173)
             have hcz108_2 := cz_ BK172 2 (.string (⟨#[]⟩ : ByteArray))
             have hcz108_3 := cz_ BK172 3 (.string x173003_11)
             have hcz108_4 := cz_ BK172 4 (.string t175)
             have hcz108_5 := cz_ BK172 5 (.string a0_0)
             have hcz108_6 := cz_ BK172 6 (.int .i64 x173006_50)
             have hcz108_7 := cz_ BK172 7 (.int .i64 x173007_70)
             have hfz108_0 := fz_ BK172 0
             have hfz108_1 := fz_ BK172 1
             have hfz108_2 := fz_ BK172 2
             have hfz108_3 := fz_ BK172 3
             have hfz108_4 := fz_ BK172 4
             have hfz108_5 := fz_ BK172 5
             have hfz108_6 := fz_ BK172 6
             have hfz108_7 := fz_ BK172 7
             have hnb109 := NB165_166.out
             have hnc109 := NB166_165.out
             have hcz110_0 := cz_ BK165 0 (.string a0_0)
             have hcz110_1 := cz_ BK165 1 (.slice A0_1 l0_1.length c0_1)
             have hfz110_0 := fz_ BK165 0
             have hfz110_1 := fz_ BK165 1
             go_wp2_with (first | ((with_reducible refine gate_callee (f := 38) rfl ?_); refine goesL_ (some 101) rfl rfl Tryz.func38 (by kernel_rfl) rfl #[.agg #[.string a0_0, .slice A0_1 l0_1.length c0_1], .int .i64 103] rfl gl_ ?_; (with_reducible refine (spec_FieldOf.calls kj70 a0_0 _ _ l0_1 103 t190 t191 _ ?side1 ?side2 A92.out).mono ?_); (case side1 => exact ca_ (Kd.C_below HR0_1.out HB.out)); (case side2 => exact HC0_1.out); rintro e w111 ⟨rfl, hb⟩; refine ⟨_, rfl, ?_⟩; replace BK165 := Aside0.mk (blk_below (bk_ BK165) hb); replace BK166 := Aside0.mk (blk_below (bk_ BK166) hb); replace BK172 := Aside0.mk (blk_below (bk_ BK172) hb); replace HB := Aside0.mk (below_step bl_ hb); (try clear hb); (try clear hb2); (try clear hk); (try clear hi); obtain ⟨hcz112_0, hcz112_1, hcz112_2, hcz112_3, hcz112_4, hcz112_5, hcz112_6, hcz112_7, hfz112_0, hfz112_1, hfz112_2, hfz112_3, hfz112_4, hfz112_5, hfz112_6, hfz112_7⟩ := bx8_ BK172) | (go_at_call 44; (with_reducible refine (spec_ReqOk.calls kj70 t171 t173 t190 x173003_11 t175 a0_0 x173006_50 x173007_70 false _ A94.out).mono ?_); rintro e w113 ⟨rfl, hb⟩; replace BK165 := Aside0.mk (blk_below (g := gb165) (o := .cells #[.string a0_0, .slice A0_1 l0_1.length c0_1] 32 (0, 0)) (by (with_reducible repeat (first | refine blk_drewN ?_ _ | refine blk_drew ?_ | refine blk_alloc ?_ _)); refine blk_far ?_ NB165_172.out _; (with_reducible repeat (first | refine blk_drewN ?_ _ | refine blk_drew ?_ | refine blk_alloc ?_ _)); exact BK165.out) hb); replace BK166 := Aside0.mk (blk_below (g := gb166) (o := .cells #[.int .i64 0, .string (⟨#[]⟩ : ByteArray), .string (⟨#[]⟩ : ByteArray), .string (⟨#[]⟩ : ByteArray), .string (⟨#[]⟩ : ByteArray), .string (⟨#[]⟩ : ByteArray), .int .i64 0, .int .i64 0] 27 (0, 0)) (by (with_reducible repeat (first | refine blk_drewN ?_ _ | refine blk_drew ?_ | refine blk_alloc ?_ _)); refine blk_far ?_ NB166_172.out _; (with_reducible repeat (first | refine blk_drewN ?_ _ | refine blk_drew ?_ | refine blk_alloc ?_ _)); exact BK166.out) hb); replace BK172 := Aside0.mk (blk_below (g := gb172) (o := .cells #[.int .i64 t171, .string t173, .string t190, .string x173003_11, .string t175, .string a0_0, .int .i64 x173006_50, .int .i64 x173007_70] 27 (0, 0)) (by (with_reducible repeat (first | refine blk_drewN ?_ _ | refine blk_drew ?_ | refine blk_alloc ?_ _)); apply bq8_2_; (with_reducible repeat (first | refine blk_drewN ?_ _ | refine blk_drew ?_ | refine blk_alloc ?_ _)); exact BK172.out) hb); replace HB := Aside0.mk (below_step bl_ hb); (try clear hb); (try clear hb2); (try clear hk); (try clear hi); obtain ⟨hcz114_0, hcz114_1, hcz114_2, hcz114_3, hcz114_4, hcz114_5, hcz114_6, hcz114_7, hfz114_0, hfz114_1, hfz114_2, hfz114_3, hfz114_4, hfz114_5, hfz114_6, hfz114_7⟩ := bx8_ BK166))
             refine bodyPost_ret (results_ct rfl _ _ gb166 27 #[.int .i64 0, .string (⟨#[]⟩ : ByteArray), .string (⟨#[]⟩ : ByteArray), .string (⟨#[]⟩ : ByteArray), .string (⟨#[]⟩ : ByteArray), .string (⟨#[]⟩ : ByteArray), .int .i64 0, .int .i64 0] (0, 0) _ rfl (by (with_reducible repeat (first | refine blk_drewN ?_ _ | refine blk_drew ?_ | refine blk_alloc ?_ _)); apply bq8_7_6_5_4_3_2_1_0_; (with_reducible repeat (first | refine blk_drewN ?_ _ | refine blk_drew ?_ | refine blk_alloc ?_ _)); exact BK166.out) Tryz.underlying27 rfl (by kernel_rfl)) rfl ?_
             exact ⟨sq_, bl_⟩
           ·replace c93 := Bool.eq_false_iff.mpr c93
            subst c93
            replace H := in_ H
            simp only [Option.some.injEq, Prod.mk.injEq] at H
            obtain ⟨rfl, rfl, rfl, rfl, rfl, rfl, rfl, rfl, rfl⟩ := H
            have hnb115 := NB172_165.out
            have hnc115 := NB165_172.out
            have hnb116 := NB172_166.out
            have hnc116 := NB166_172.out
            have hcz117_0 := cz_ BK172 0 (.int .i64 t171)
            have hcz117_1 := cz_ BK172 1 (.string t173)
            have hcz117_2 := cz_ BK172 2 (.string (⟨#[]⟩ : ByteArray))
            have hcz117_3 := cz_ BK172 3 (.string x173003_11)
            have hcz117_4 := cz_ BK172 4 (.string t175)
            have hcz117_5 := cz_ BK172 5 (.string a0_0)
            have hcz117_6 := cz_ BK172 6 (.int .i64 x173006_50)
            have hcz117_7 := cz_ BK172 7 (.int .i64 x173007_70)
            have hfz117_0 := fz_ BK172 0
            have hfz117_1 := fz_ BK172 1
            have hfz117_2 := fz_ BK172 2
            have hfz117_3 := fz_ BK172 3
            have hfz117_4 := fz_ BK172 4
            have hfz117_5 := fz_ BK172 5
            have hfz117_6 := fz_ BK172 6
            have hfz117_7 := fz_ BK172 7
            have hnb118 := NB165_166.out
            have hnc118 := NB166_165.out
            have hcz119_0 := cz_ BK165 0 (.string a0_0)
            have hcz119_1 := cz_ BK165 1 (.slice A0_1 l0_1.length c0_1)
            have hfz119_0 := fz_ BK165 0
            have hfz119_1 := fz_ BK165 1
            go_wp2_with (first | ((with_reducible refine gate_callee (f := 38) rfl ?_); refine goesL_ (some 101) rfl rfl Tryz.func38 (by kernel_rfl) rfl #[.agg #[.string a0_0, .slice A0_1 l0_1.length c0_1], .int .i64 103] rfl gl_ ?_; (with_reducible refine (spec_FieldOf.calls kj70 a0_0 _ _ l0_1 103 t190 t191 _ ?side1 ?side2 A92.out).mono ?_); (case side1 => exact ca_ (Kd.C_below HR0_1.out HB.out)); (case side2 => exact HC0_1.out); rintro e w120 ⟨rfl, hb⟩; refine ⟨_, rfl, ?_⟩; replace BK165 := Aside0.mk (blk_below (bk_ BK165) hb); replace BK166 := Aside0.mk (blk_below (bk_ BK166) hb); replace BK172 := Aside0.mk (blk_below (bk_ BK172) hb); replace HB := Aside0.mk (below_step bl_ hb); (try clear hb); (try clear hb2); (try clear hk); (try clear hi); obtain ⟨hcz121_0, hcz121_1, hcz121_2, hcz121_3, hcz121_4, hcz121_5, hcz121_6, hcz121_7, hfz121_0, hfz121_1, hfz121_2, hfz121_3, hfz121_4, hfz121_5, hfz121_6, hfz121_7⟩ := bx8_ BK172; obtain ⟨hcz122_0, hcz122_1, hcz122_2, hcz122_3, hcz122_4, hcz122_5, hcz122_6, hcz122_7, hfz122_0, hfz122_1, hfz122_2, hfz122_3, hfz122_4, hfz122_5, hfz122_6, hfz122_7⟩ := bx8_ BK166))
            refine bodyPost_ret (results_ct rfl _ _ gb166 27 #[.int .i64 0, .string (⟨#[]⟩ : ByteArray), .string (⟨#[]⟩ : ByteArray), .string (⟨#[]⟩ : ByteArray), .string (⟨#[]⟩ : ByteArray), .string (⟨#[]⟩ : ByteArray), .int .i64 0, .int .i64 0] (0, 0) _ rfl (by (with_reducible repeat (first | refine blk_drewN ?_ _ | refine blk_drew ?_ | refine blk_alloc ?_ _)); apply bq8_7_6_5_4_3_2_1_0_; (with_reducible repeat (first | refine blk_drewN ?_ _ | refine blk_drew ?_ | refine blk_alloc ?_ _)); refine blk_far ?_ NB166_172.out _; (with_reducible repeat (first | refine blk_drewN ?_ _ | refine blk_drew ?_ | refine blk_alloc ?_ _)); exact BK166.out) Tryz.underlying27 rfl (by kernel_rfl)) rfl ?_
            exact ⟨sq_, bl_⟩
          ·rw [if_neg c91] at H
           have c91b0 : (t171 == 6) = false := beq_eq_false_iff_ne.mpr c91
           have c91b1 : (t171 != 6) = true := bne_iff_ne.mpr c91
           by_cases c123 : x5_70 = true
           ·subst c123
            replace H := ip_ H
            obtain ⟨t193, A124, H⟩ := ob_ H
            by_cases c125 : t193 = true
            ·subst c125
             replace H := ip_ H
             simp only [Option.some.injEq, Prod.mk.injEq] at H
             obtain ⟨rfl, rfl, rfl, rfl, rfl, rfl, rfl, rfl, rfl⟩ := H
             have hnb126 := NB172_165.out
             have hnc126 := NB165_172.out
             have hnb127 := NB172_166.out
             have hnc127 := NB166_172.out
             have hcz128_0 := cz_ BK172 0 (.int .i64 t171)
             have hcz128_1 := cz_ BK172 1 (.string t173)
             have hcz128_2 := cz_ BK172 2 (.string (⟨#[]⟩ : ByteArray))
             have hcz128_3 := cz_ BK172 3 (.string x173003_11)
             have hcz128_4 := cz_ BK172 4 (.string t175)
             have hcz128_5 := cz_ BK172 5 (.string a0_0)
             have hcz128_6 := cz_ BK172 6 (.int .i64 x173006_50)
             have hcz128_7 := cz_ BK172 7 (.int .i64 x173007_70)
             have hfz128_0 := fz_ BK172 0
             have hfz128_1 := fz_ BK172 1
             have hfz128_2 := fz_ BK172 2
             have hfz128_3 := fz_ BK172 3
             have hfz128_4 := fz_ BK172 4
             have hfz128_5 := fz_ BK172 5
             have hfz128_6 := fz_ BK172 6
             have hfz128_7 := fz_ BK172 7
             go_wp2_with (first | (go_at_call 44; (with_reducible refine (spec_ReqOk.calls kj70 t171 t173 (⟨#[]⟩ : ByteArray) x173003_11 t175 a0_0 x173006_50 x173007_70 true _ A124.out).mono ?_); rintro e w129 ⟨rfl, hb⟩; replace BK165 := Aside0.mk (blk_below (bk_ BK165) hb); replace BK166 := Aside0.mk (blk_below (bk_ BK166) hb); replace BK172 := Aside0.mk (blk_below (bk_ BK172) hb); replace HB := Aside0.mk (below_step bl_ hb); (try clear hb); (try clear hb2); (try clear hk); (try clear hi); obtain ⟨hcz130_0, hcz130_1, hcz130_2, hcz130_3, hcz130_4, hcz130_5, hcz130_6, hcz130_7, hfz130_0, hfz130_1, hfz130_2, hfz130_3, hfz130_4, hfz130_5, hfz130_6, hfz130_7⟩ := bx8_ BK172; have hnb131 := NB166_165.out; have hnc131 := NB165_166.out; obtain ⟨hcz132_0, hcz132_1, hcz132_2, hcz132_3, hcz132_4, hcz132_5, hcz132_6, hcz132_7, hfz132_0, hfz132_1, hfz132_2, hfz132_3, hfz132_4, hfz132_5, hfz132_6, hfz132_7⟩ := bx8_ BK166))
             refine bodyPost_ret (results_ct rfl _ _ gb166 27 #[.int .i64 t171, .string t173, .string (⟨#[]⟩ : ByteArray), .string x173003_11, .string t175, .string a0_0, .int .i64 x173006_50, .int .i64 x173007_70] (0, 0) _ rfl (by (with_reducible repeat (first | refine blk_drewN ?_ _ | refine blk_drew ?_ | refine blk_alloc ?_ _)); apply bq8_7_6_5_4_3_2_1_0_; (with_reducible repeat (first | refine blk_drewN ?_ _ | refine blk_drew ?_ | refine blk_alloc ?_ _)); exact BK166.out) Tryz.underlying27 rfl (by kernel_rfl)) rfl ?_
             exact ⟨sq_, bl_⟩
            ·replace c125 := Bool.eq_false_iff.mpr c125
             subst c125
             replace H := in_ H
             simp only [Option.some.injEq, Prod.mk.injEq] at H
             obtain ⟨rfl, rfl, rfl, rfl, rfl, rfl, rfl, rfl, rfl⟩ := H
             have hnb133 := NB172_165.out
             have hnc133 := NB165_172.out
             have hnb134 := NB172_166.out
             have hnc134 := NB166_172.out
             have hcz135_0 := cz_ BK172 0 (.int .i64 t171)
             have hcz135_1 := cz_ BK172 1 (.string t173)
             have hcz135_2 := cz_ BK172 2 (.string (⟨#[]⟩ : ByteArray))
             have hcz135_3 := cz_ BK172 3 (.string x173003_11)
             have hcz135_4 := cz_ BK172 4 (.string t175)
             have hcz135_5 := cz_ BK172 5 (.string a0_0)
             have hcz135_6 := cz_ BK172 6 (.int .i64 x173006_50)
             have hcz135_7 := cz_ BK172 7 (.int .i64 x173007_70)
             have hfz135_0 := fz_ BK172 0
             have hfz135_1 := fz_ BK172 1
             have hfz135_2 := fz_ BK172 2
             have hfz135_3 := fz_ BK172 3
             have hfz135_4 := fz_ BK172 4
             have hfz135_5 := fz_ BK172 5
             have hfz135_6 := fz_ BK172 6
             have hfz135_7 := fz_ BK172 7
             go_wp2_with (first | (go_at_call 44; (with_reducible refine (spec_ReqOk.calls kj70 t171 t173 (⟨#[]⟩ : ByteArray) x173003_11 t175 a0_0 x173006_50 x173007_70 false _ A124.out).mono ?_); rintro e w136 ⟨rfl, hb⟩; replace BK165 := Aside0.mk (blk_below (bk_ BK165) hb); replace BK166 := Aside0.mk (blk_below (bk_ BK166) hb); replace BK172 := Aside0.mk (blk_below (bk_ BK172) hb); replace HB := Aside0.mk (below_step bl_ hb); (try clear hb); (try clear hb2); (try clear hk); (try clear hi); have hnb137 := NB166_165.out; have hnc137 := NB165_166.out; obtain ⟨hcz138_0, hcz138_1, hcz138_2, hcz138_3, hcz138_4, hcz138_5, hcz138_6, hcz138_7, hfz138_0, hfz138_1, hfz138_2, hfz138_3, hfz138_4, hfz138_5, hfz138_6, hfz138_7⟩ := bx8_ BK166))
             refine bodyPost_ret (results_ct rfl _ _ gb166 27 #[.int .i64 0, .string (⟨#[]⟩ : ByteArray), .string (⟨#[]⟩ : ByteArray), .string (⟨#[]⟩ : ByteArray), .string (⟨#[]⟩ : ByteArray), .string (⟨#[]⟩ : ByteArray), .int .i64 0, .int .i64 0] (0, 0) _ rfl (by (with_reducible repeat (first | refine blk_drewN ?_ _ | refine blk_drew ?_ | refine blk_alloc ?_ _)); apply bq8_7_6_5_4_3_2_1_0_; (with_reducible repeat (first | refine blk_drewN ?_ _ | refine blk_drew ?_ | refine blk_alloc ?_ _)); exact BK166.out) Tryz.underlying27 rfl (by kernel_rfl)) rfl ?_
             exact ⟨sq_, bl_⟩
           ·replace c123 := Bool.eq_false_iff.mpr c123
            subst c123
            replace H := in_ H
            simp only [Option.some.injEq, Prod.mk.injEq] at H
            obtain ⟨rfl, rfl, rfl, rfl, rfl, rfl, rfl, rfl, rfl⟩ := H
            have hnb139 := NB172_165.out
            have hnc139 := NB165_172.out
            have hnb140 := NB172_166.out
            have hnc140 := NB166_172.out
            have hcz141_0 := cz_ BK172 0 (.int .i64 t171)
            have hcz141_1 := cz_ BK172 1 (.string t173)
            have hcz141_2 := cz_ BK172 2 (.string (⟨#[]⟩ : ByteArray))
            have hcz141_3 := cz_ BK172 3 (.string x173003_11)
            have hcz141_4 := cz_ BK172 4 (.string t175)
            have hcz141_5 := cz_ BK172 5 (.string a0_0)
            have hcz141_6 := cz_ BK172 6 (.int .i64 x173006_50)
            have hcz141_7 := cz_ BK172 7 (.int .i64 x173007_70)
            have hfz141_0 := fz_ BK172 0
            have hfz141_1 := fz_ BK172 1
            have hfz141_2 := fz_ BK172 2
            have hfz141_3 := fz_ BK172 3
            have hfz141_4 := fz_ BK172 4
            have hfz141_5 := fz_ BK172 5
            have hfz141_6 := fz_ BK172 6
            have hfz141_7 := fz_ BK172 7
            have hnb142 := NB166_165.out
            have hnc142 := NB165_166.out
            have hcz143_0 := cz_ BK166 0 (.int .i64 0)
            have hcz143_1 := cz_ BK166 1 (.string (⟨#[]⟩ : ByteArray))
            have hcz143_2 := cz_ BK166 2 (.string (⟨#[]⟩ : ByteArray))
            have hcz143_3 := cz_ BK166 3 (.string (⟨#[]⟩ : ByteArray))
            have hcz143_4 := cz_ BK166 4 (.string (⟨#[]⟩ : ByteArray))
            have hcz143_5 := cz_ BK166 5 (.string (⟨#[]⟩ : ByteArray))
            have hcz143_6 := cz_ BK166 6 (.int .i64 0)
            have hcz143_7 := cz_ BK166 7 (.int .i64 0)
            have hfz143_0 := fz_ BK166 0
            have hfz143_1 := fz_ BK166 1
            have hfz143_2 := fz_ BK166 2
            have hfz143_3 := fz_ BK166 3
            have hfz143_4 := fz_ BK166 4
            have hfz143_5 := fz_ BK166 5
            have hfz143_6 := fz_ BK166 6
            have hfz143_7 := fz_ BK166 7
            go_wp2
            refine bodyPost_ret (results_ct rfl _ _ gb166 27 #[.int .i64 0, .string (⟨#[]⟩ : ByteArray), .string (⟨#[]⟩ : ByteArray), .string (⟨#[]⟩ : ByteArray), .string (⟨#[]⟩ : ByteArray), .string (⟨#[]⟩ : ByteArray), .int .i64 0, .int .i64 0] (0, 0) _ rfl (by (with_reducible repeat (first | refine blk_drewN ?_ _ | refine blk_drew ?_ | refine blk_alloc ?_ _)); apply bq8_7_6_5_4_3_2_1_0_; (with_reducible repeat (first | refine blk_drewN ?_ _ | refine blk_drew ?_ | refine blk_alloc ?_ _)); exact BK166.out) Tryz.underlying27 rfl (by kernel_rfl)) rfl ?_
            exact ⟨sq_, bl_⟩
   ·replace c7 := Bool.eq_false_iff.mpr c7
    subst c7
    replace H := in_ H
    simp only [Option.some.injEq, Prod.mk.injEq] at H
    obtain ⟨rfl, rfl, rfl, rfl, rfl, rfl, rfl, rfl, rfl⟩ := H
    go_enter Tryz.func9, Tryz.ntmps9
    go_wp2_with (first | ((with_reducible refine gate_dst (N := 1) rfl ?_); refine be_ (N := 1) (cs := #[.string a0_0, .slice A0_1 l0_1.length c0_1]) (t := 32) ?_; intro gb165 hg w144 hbox hb; have BK165 := Aside0.mk (hbox); have GW165 := gw_ (w := w) hg; have GE165 := gw_ (w := w) hg; replace HB := Aside0.mk (below_step bl_ hb); clear hb hbox hg) | ((with_reducible refine gate_dst (N := 2) rfl ?_); refine be_ (N := 2) (cs := #[.int .i64 0, .string (⟨#[]⟩ : ByteArray), .string (⟨#[]⟩ : ByteArray), .string (⟨#[]⟩ : ByteArray), .string (⟨#[]⟩ : ByteArray), .string (⟨#[]⟩ : ByteArray), .int .i64 0, .int .i64 0]) (t := 27) ?_; intro gb166 hg w145 hbox hb; have BK166 := Aside0.mk (hbox); have GW166 := gw_ (w := w) hg; have GE166 := gw_ (w := w) hg; replace HB := Aside0.mk (below_step bl_ hb); have NB165_166 := Aside0.mk ((by rw [hg]; exact Nat.ne_of_lt (blk_lt (bk_ BK165)) : gb165 ≠ gb166)); have NB166_165 := Aside0.mk ((by rw [hg]; exact Nat.ne_of_gt (blk_lt (bk_ BK165)) : gb166 ≠ gb165)); replace BK165 := Aside0.mk (blk_below (bk_ BK165) hb); clear hb hbox hg; have hnb146 := NB165_166.out; have hnc146 := NB166_165.out; obtain ⟨hcz147_0, hcz147_1, hfz147_0, hfz147_1⟩ := bx2_ BK165) | ((with_reducible refine gate_callee (f := 36) rfl ?_); refine goesL_ (some 14) rfl rfl Tryz.func36 (by kernel_rfl) rfl #[.agg #[.string a0_0, .slice A0_1 l0_1.length c0_1]] rfl gl_ ?_; (with_reducible refine (spec_MsgOk.calls k a0_0 _ _ l0_1 true _ ?side1 ?side2 A2.out).mono ?_); (case side1 => exact ca_ (Kd.C_below HR0_1.out HB.out)); (case side2 => exact HC0_1.out); rintro e w148 ⟨rfl, hb⟩; refine ⟨_, rfl, ?_⟩; replace BK165 := Aside0.mk (blk_below (bk_ BK165) hb); replace BK166 := Aside0.mk (blk_below (bk_ BK166) hb); replace HB := Aside0.mk (below_step bl_ hb); (try clear hb); (try clear hb2); (try clear hk); (try clear hi); obtain ⟨hcz149_0, hcz149_1, hfz149_0, hfz149_1⟩ := bx2_ BK165) | ((with_reducible refine gate_callee (f := 37) rfl ?_); refine goesL_ (some 19) rfl rfl Tryz.func37 (by kernel_rfl) rfl #[.string a0_0] rfl gl_ ?_; (with_reducible refine (spec_MtiKnown.calls a0_0 true _ A4.out).mono ?_); rintro e w' ⟨rfl, ⟨nd, rfl⟩⟩; refine ⟨_, rfl, ?_⟩; (try (rw [drewN_self w148]; generalize hq_ : World.drewN w148 _ = w148; have n0_ : Aside0 (w148.heap[gb165]? = some (.cells #[.string a0_0, .slice A0_1 l0_1.length c0_1] 32 (0, 0))) := ⟨by rw [← hq_]; exact (by (with_reducible repeat (first | refine blk_drewN ?_ _ | refine blk_drew ?_ | refine blk_alloc ?_ _)); exact BK165.out)⟩; have n1_ : Aside0 (w148.heap[gb166]? = some (.cells #[.int .i64 0, .string (⟨#[]⟩ : ByteArray), .string (⟨#[]⟩ : ByteArray), .string (⟨#[]⟩ : ByteArray), .string (⟨#[]⟩ : ByteArray), .string (⟨#[]⟩ : ByteArray), .int .i64 0, .int .i64 0] 27 (0, 0))) := ⟨by rw [← hq_]; exact (by (with_reducible repeat (first | refine blk_drewN ?_ _ | refine blk_drew ?_ | refine blk_alloc ?_ _)); exact BK166.out)⟩; have n2_ : Aside0 (Below w.heap.size w w148) := ⟨by rw [← hq_]; exact bl_⟩; clear BK165 BK166 HB hq_; have BK165 := n0_; have BK166 := n1_; have HB := n2_; clear n0_ n1_ n2_)); obtain ⟨hcz150_0, hcz150_1, hfz150_0, hfz150_1⟩ := bx2_ BK165) | ((with_reducible refine gate_callee (f := 38) rfl ?_); refine goesL_ (some 24) rfl rfl Tryz.func38 (by kernel_rfl) rfl #[.agg #[.string a0_0, .slice A0_1 l0_1.length c0_1], .int .i64 3] rfl gl_ ?_; (with_reducible refine (spec_FieldOf.calls k a0_0 _ _ l0_1 3 t169 false _ ?side1 ?side2 A6.out).mono ?_); (case side1 => exact ca_ (Kd.C_below HR0_1.out HB.out)); (case side2 => exact HC0_1.out); rintro e w151 ⟨rfl, hb⟩; refine ⟨_, rfl, ?_⟩; replace BK165 := Aside0.mk (blk_below (bk_ BK165) hb); replace BK166 := Aside0.mk (blk_below (bk_ BK166) hb); replace HB := Aside0.mk (below_step bl_ hb); (try clear hb); (try clear hb2); (try clear hk); (try clear hi); obtain ⟨hcz152_0, hcz152_1, hcz152_2, hcz152_3, hcz152_4, hcz152_5, hcz152_6, hcz152_7, hfz152_0, hfz152_1, hfz152_2, hfz152_3, hfz152_4, hfz152_5, hfz152_6, hfz152_7⟩ := bx8_ BK166))
    refine bodyPost_ret (results_ct rfl _ _ gb166 27 #[.int .i64 0, .string (⟨#[]⟩ : ByteArray), .string (⟨#[]⟩ : ByteArray), .string (⟨#[]⟩ : ByteArray), .string (⟨#[]⟩ : ByteArray), .string (⟨#[]⟩ : ByteArray), .int .i64 0, .int .i64 0] (0, 0) _ rfl (by (with_reducible repeat (first | refine blk_drewN ?_ _ | refine blk_drew ?_ | refine blk_alloc ?_ _)); apply bq8_7_6_5_4_3_2_1_0_; (with_reducible repeat (first | refine blk_drewN ?_ _ | refine blk_drew ?_ | refine blk_alloc ?_ _)); exact BK166.out) Tryz.underlying27 rfl (by kernel_rfl)) rfl ?_
    exact ⟨sq_, bl_⟩
  ·replace c5 := Bool.eq_false_iff.mpr c5
   subst c5
   replace H := in_ H
   simp only [Option.some.injEq, Prod.mk.injEq] at H
   obtain ⟨rfl, rfl, rfl, rfl, rfl, rfl, rfl, rfl, rfl⟩ := H
   go_enter Tryz.func9, Tryz.ntmps9
   go_wp2_with (first | ((with_reducible refine gate_dst (N := 1) rfl ?_); refine be_ (N := 1) (cs := #[.string a0_0, .slice A0_1 l0_1.length c0_1]) (t := 32) ?_; intro gb165 hg w153 hbox hb; have BK165 := Aside0.mk (hbox); have GW165 := gw_ (w := w) hg; have GE165 := gw_ (w := w) hg; replace HB := Aside0.mk (below_step bl_ hb); clear hb hbox hg) | ((with_reducible refine gate_dst (N := 2) rfl ?_); refine be_ (N := 2) (cs := #[.int .i64 0, .string (⟨#[]⟩ : ByteArray), .string (⟨#[]⟩ : ByteArray), .string (⟨#[]⟩ : ByteArray), .string (⟨#[]⟩ : ByteArray), .string (⟨#[]⟩ : ByteArray), .int .i64 0, .int .i64 0]) (t := 27) ?_; intro gb166 hg w154 hbox hb; have BK166 := Aside0.mk (hbox); have GW166 := gw_ (w := w) hg; have GE166 := gw_ (w := w) hg; replace HB := Aside0.mk (below_step bl_ hb); have NB165_166 := Aside0.mk ((by rw [hg]; exact Nat.ne_of_lt (blk_lt (bk_ BK165)) : gb165 ≠ gb166)); have NB166_165 := Aside0.mk ((by rw [hg]; exact Nat.ne_of_gt (blk_lt (bk_ BK165)) : gb166 ≠ gb165)); replace BK165 := Aside0.mk (blk_below (bk_ BK165) hb); clear hb hbox hg; have hnb155 := NB165_166.out; have hnc155 := NB166_165.out; obtain ⟨hcz156_0, hcz156_1, hfz156_0, hfz156_1⟩ := bx2_ BK165) | ((with_reducible refine gate_callee (f := 36) rfl ?_); refine goesL_ (some 14) rfl rfl Tryz.func36 (by kernel_rfl) rfl #[.agg #[.string a0_0, .slice A0_1 l0_1.length c0_1]] rfl gl_ ?_; (with_reducible refine (spec_MsgOk.calls k a0_0 _ _ l0_1 true _ ?side1 ?side2 A2.out).mono ?_); (case side1 => exact ca_ (Kd.C_below HR0_1.out HB.out)); (case side2 => exact HC0_1.out); rintro e w157 ⟨rfl, hb⟩; refine ⟨_, rfl, ?_⟩; replace BK165 := Aside0.mk (blk_below (bk_ BK165) hb); replace BK166 := Aside0.mk (blk_below (bk_ BK166) hb); replace HB := Aside0.mk (below_step bl_ hb); (try clear hb); (try clear hb2); (try clear hk); (try clear hi); obtain ⟨hcz158_0, hcz158_1, hfz158_0, hfz158_1⟩ := bx2_ BK165) | ((with_reducible refine gate_callee (f := 37) rfl ?_); refine goesL_ (some 19) rfl rfl Tryz.func37 (by kernel_rfl) rfl #[.string a0_0] rfl gl_ ?_; (with_reducible refine (spec_MtiKnown.calls a0_0 false _ A4.out).mono ?_); rintro e w' ⟨rfl, ⟨nd, rfl⟩⟩; refine ⟨_, rfl, ?_⟩; (try (rw [drewN_self w157]; generalize hq_ : World.drewN w157 _ = w157; have n0_ : Aside0 (w157.heap[gb165]? = some (.cells #[.string a0_0, .slice A0_1 l0_1.length c0_1] 32 (0, 0))) := ⟨by rw [← hq_]; exact (by (with_reducible repeat (first | refine blk_drewN ?_ _ | refine blk_drew ?_ | refine blk_alloc ?_ _)); exact BK165.out)⟩; have n1_ : Aside0 (w157.heap[gb166]? = some (.cells #[.int .i64 0, .string (⟨#[]⟩ : ByteArray), .string (⟨#[]⟩ : ByteArray), .string (⟨#[]⟩ : ByteArray), .string (⟨#[]⟩ : ByteArray), .string (⟨#[]⟩ : ByteArray), .int .i64 0, .int .i64 0] 27 (0, 0))) := ⟨by rw [← hq_]; exact (by (with_reducible repeat (first | refine blk_drewN ?_ _ | refine blk_drew ?_ | refine blk_alloc ?_ _)); exact BK166.out)⟩; have n2_ : Aside0 (Below w.heap.size w w157) := ⟨by rw [← hq_]; exact bl_⟩; clear BK165 BK166 HB hq_; have BK165 := n0_; have BK166 := n1_; have HB := n2_; clear n0_ n1_ n2_)); obtain ⟨hcz159_0, hcz159_1, hcz159_2, hcz159_3, hcz159_4, hcz159_5, hcz159_6, hcz159_7, hfz159_0, hfz159_1, hfz159_2, hfz159_3, hfz159_4, hfz159_5, hfz159_6, hfz159_7⟩ := bx8_ BK166))
   refine bodyPost_ret (results_ct rfl _ _ gb166 27 #[.int .i64 0, .string (⟨#[]⟩ : ByteArray), .string (⟨#[]⟩ : ByteArray), .string (⟨#[]⟩ : ByteArray), .string (⟨#[]⟩ : ByteArray), .string (⟨#[]⟩ : ByteArray), .int .i64 0, .int .i64 0] (0, 0) _ rfl (by (with_reducible repeat (first | refine blk_drewN ?_ _ | refine blk_drew ?_ | refine blk_alloc ?_ _)); apply bq8_7_6_5_4_3_2_1_0_; (with_reducible repeat (first | refine blk_drewN ?_ _ | refine blk_drew ?_ | refine blk_alloc ?_ _)); exact BK166.out) Tryz.underlying27 rfl (by kernel_rfl)) rfl ?_
   exact ⟨sq_, bl_⟩
 ·replace c3 := Bool.eq_false_iff.mpr c3
  subst c3
  replace H := in_ H
  simp only [Option.some.injEq, Prod.mk.injEq] at H
  obtain ⟨rfl, rfl, rfl, rfl, rfl, rfl, rfl, rfl, rfl⟩ := H
  go_enter Tryz.func9, Tryz.ntmps9
  go_wp2_with (first | ((with_reducible refine gate_dst (N := 1) rfl ?_); refine be_ (N := 1) (cs := #[.string a0_0, .slice A0_1 l0_1.length c0_1]) (t := 32) ?_; intro gb165 hg w160 hbox hb; have BK165 := Aside0.mk (hbox); have GW165 := gw_ (w := w) hg; have GE165 := gw_ (w := w) hg; replace HB := Aside0.mk (below_step bl_ hb); clear hb hbox hg) | ((with_reducible refine gate_dst (N := 2) rfl ?_); refine be_ (N := 2) (cs := #[.int .i64 0, .string (⟨#[]⟩ : ByteArray), .string (⟨#[]⟩ : ByteArray), .string (⟨#[]⟩ : ByteArray), .string (⟨#[]⟩ : ByteArray), .string (⟨#[]⟩ : ByteArray), .int .i64 0, .int .i64 0]) (t := 27) ?_; intro gb166 hg w161 hbox hb; have BK166 := Aside0.mk (hbox); have GW166 := gw_ (w := w) hg; have GE166 := gw_ (w := w) hg; replace HB := Aside0.mk (below_step bl_ hb); have NB165_166 := Aside0.mk ((by rw [hg]; exact Nat.ne_of_lt (blk_lt (bk_ BK165)) : gb165 ≠ gb166)); have NB166_165 := Aside0.mk ((by rw [hg]; exact Nat.ne_of_gt (blk_lt (bk_ BK165)) : gb166 ≠ gb165)); replace BK165 := Aside0.mk (blk_below (bk_ BK165) hb); clear hb hbox hg; have hnb162 := NB165_166.out; have hnc162 := NB166_165.out; obtain ⟨hcz163_0, hcz163_1, hfz163_0, hfz163_1⟩ := bx2_ BK165) | ((with_reducible refine gate_callee (f := 36) rfl ?_); refine goesL_ (some 14) rfl rfl Tryz.func36 (by kernel_rfl) rfl #[.agg #[.string a0_0, .slice A0_1 l0_1.length c0_1]] rfl gl_ ?_; (with_reducible refine (spec_MsgOk.calls k a0_0 _ _ l0_1 false _ ?side1 ?side2 A2.out).mono ?_); (case side1 => exact ca_ (Kd.C_below HR0_1.out HB.out)); (case side2 => exact HC0_1.out); rintro e w164 ⟨rfl, hb⟩; refine ⟨_, rfl, ?_⟩; replace BK165 := Aside0.mk (blk_below (bk_ BK165) hb); replace BK166 := Aside0.mk (blk_below (bk_ BK166) hb); replace HB := Aside0.mk (below_step bl_ hb); (try clear hb); (try clear hb2); (try clear hk); (try clear hi); obtain ⟨hcz165_0, hcz165_1, hcz165_2, hcz165_3, hcz165_4, hcz165_5, hcz165_6, hcz165_7, hfz165_0, hfz165_1, hfz165_2, hfz165_3, hfz165_4, hfz165_5, hfz165_6, hfz165_7⟩ := bx8_ BK166))
  refine bodyPost_ret (results_ct rfl _ _ gb166 27 #[.int .i64 0, .string (⟨#[]⟩ : ByteArray), .string (⟨#[]⟩ : ByteArray), .string (⟨#[]⟩ : ByteArray), .string (⟨#[]⟩ : ByteArray), .string (⟨#[]⟩ : ByteArray), .int .i64 0, .int .i64 0] (0, 0) _ rfl (by (with_reducible repeat (first | refine blk_drewN ?_ _ | refine blk_drew ?_ | refine blk_alloc ?_ _)); apply bq8_7_6_5_4_3_2_1_0_; (with_reducible repeat (first | refine blk_drewN ?_ _ | refine blk_drew ?_ | refine blk_alloc ?_ _)); exact BK166.out) Tryz.underlying27 rfl (by kernel_rfl)) rfl ?_
  exact ⟨sq_, bl_⟩
end Go.Proofs.YtohfefkjcnbejaaGreatDoor.QFnExactReqOf
