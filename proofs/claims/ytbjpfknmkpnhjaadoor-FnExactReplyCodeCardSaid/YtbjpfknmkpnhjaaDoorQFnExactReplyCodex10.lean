-- by my own printer (myprint.py, over the kit's print.py)
import Derived.Test.YtbjpfknmkpnhjaaDoorQFnExactReplyCodex0
import Derived.Test.YtbjpfknmkpnhjaaDoorQFnExactReplyCodex6
import Derived.Test.YtbjpfknmkpnhjaaDoorQFnExactReplyCodex7
import Derived.Test.YtbjpfknmkpnhjaaDoorQFnExactReplyCodex9
namespace Go.Proofs.YtbjpfknmkpnhjaaDoor.QFnExactReplyCode
open Go.RowKit Go.Proofs.YtbjpfknmkpnhjaaDoorW.PrintWords Go.Proofs.YtbjpfknmkpnhjaaDoorW.PrintLast Go.Proofs.YtbjpfknmkpnhjaaDoorW.PrintMore
attribute [local go_sem] max2_int min2_int max_two min_two max_three min_three max_four min_four   -- for this text's walks alone
set_option linter.unusedVariables false
set_option linter.unusedSimpArgs false
attribute [local go_sem] my_geq my_leq my_gtr
/-! ### impl_Parse: function 47 -/
mutual
def impl_Parse.l0 : Nat → List Int → ByteArray → Int → List Int → Bool → List Int → Int → Int → Option (ByteArray × (List (S67)) × Int)
 | 0, _, _, _, _, _, _, _, _ => none
 | k + 1, x0, x4, x5, x8, x9, x41, x42, x43 => if x43 < x42 then (if 0 ≤ x43 then (if x43 < (x41.length : Int) then (if (rd x41 x43) = 1 then (impl_Parse.l0 k x0 x4 x5 x8 true x41 x42 (wrap64 (x43 + 1))) else ((impl_FieldKind.f k (rd x41 x43)).bind fun t305 => (if t305 = 0 then (some ((⟨#[]⟩ : ByteArray), ([] : List (S67)), 2)) else (if x8.length < 17592186044416 then (impl_Parse.l0 k x0 x4 x5 (x8 ++ [rd x41 x43]) x9 x41 x42 (wrap64 (x43 + 1))) else (none))))) else (none)) else (none)) else (if x9 = true then ((impl_GetBits.f k x0 x5).bind fun bt309 => (if bt309.2.2 = true then (impl_Parse.j1 k x0 x4 bt309.2.1 x8 bt309.1 ((bt309.1.length : Int) == 0)) else (impl_Parse.j1 k x0 x4 bt309.2.1 x8 bt309.1 true))) else (impl_Parse.j3 k x0 x4 x5 x8))
def impl_Parse.j3 : Nat → List Int → ByteArray → Int → List Int → Option (ByteArray × (List (S67)) × Int)
 | 0, _, _, _, _ => none
 | k + 1, x0, x4, x5, x8 => impl_Parse.l2 k x0 x5 x8 (x8.length : Int) 0 x4 ([] : List (S67))
def impl_Parse.l2 : Nat → List Int → Int → List Int → Int → Int → ByteArray → List (S67) → Option (ByteArray × (List (S67)) × Int)
 | 0, _, _, _, _, _, _, _ => none
 | k + 1, x0, x5, x95, x96, x97, x320000, x320001 => if x97 < x96 then (if 0 ≤ x97 then (if x97 < (x95.length : Int) then ((impl_GetField.f k x0 x5 (rd x95 x97)).bind fun bt321 => (if bt321.2.2 = true then (if x320001.length < 5864062014805 then (impl_Parse.l2 k x0 bt321.2.1 x95 x96 (wrap64 (x97 + 1)) x320000 (x320001 ++ [(⟨rd x95 x97, bt321.1⟩ : S67)])) else (none)) else (some ((⟨#[]⟩ : ByteArray), ([] : List (S67)), 3)))) else (none)) else (none)) else (if x5 = (x0.length : Int) then (some (x320000, x320001, 0)) else (some ((⟨#[]⟩ : ByteArray), ([] : List (S67)), 4)))
def impl_Parse.j1 : Nat → List Int → ByteArray → Int → List Int → List Int → Bool → Option (ByteArray × (List (S67)) × Int)
 | 0, _, _, _, _, _, _ => none
 | k + 1, x0, x4, x5, x8, x12, x74 => if x74 = true then (some ((⟨#[]⟩ : ByteArray), ([] : List (S67)), 2)) else (impl_Parse.l1 k x0 x4 x5 x8 x12 (x12.length : Int) 0)
def impl_Parse.l1 : Nat → List Int → ByteArray → Int → List Int → List Int → Int → Int → Option (ByteArray × (List (S67)) × Int)
 | 0, _, _, _, _, _, _, _ => none
 | k + 1, x0, x4, x5, x8, x76, x77, x78 => if x78 < x77 then (if 0 ≤ x78 then (if x78 < (x76.length : Int) then ((impl_FieldKind.f k (wrap64 ((rd x76 x78) + 64))).bind fun t315 => (if t315 = 0 then (some ((⟨#[]⟩ : ByteArray), ([] : List (S67)), 2)) else (if x8.length < 17592186044416 then (impl_Parse.l1 k x0 x4 x5 (x8 ++ [wrap64 ((rd x76 x78) + 64)]) x76 x77 (wrap64 (x78 + 1))) else (none)))) else (none)) else (none)) else (impl_Parse.j3 k x0 x4 x5 x8)
end
def impl_Parse.f (k : Nat) (l0 : List Int) : Option (ByteArray × (List (S67)) × Int) := (impl_GetBcd.f k l0 0 4).bind fun bt293 => (if bt293.2.2 = true then ((impl_GetBits.f k l0 bt293.2.1).bind fun bt296 => (if bt296.2.2 = true then (impl_Parse.l0 k l0 bt293.1 bt296.2.1 (([] : List Int)) false bt296.1 (bt296.1.length : Int) 0) else (some ((⟨#[]⟩ : ByteArray), ([] : List (S67)), 2)))) else (some ((⟨#[]⟩ : ByteArray), ([] : List (S67)), 1)))
set_option maxHeartbeats 8000000 in
set_option maxRecDepth 100000 in
theorem impl_Parse.calls (k : Nat) (A0 : Option Addr) (c0 : Nat) (l0 : List Int) (r1 : ByteArray) (r2 : List (S67)) (r3 : Int) (w : World) (hr0 : Kd.C (Kd.int .u8) w A0 l0.length l0) (hc0 : l0.length ≤ c0) (h : impl_Parse.f k l0 = some (r1, r2, r3)) :
  Calls Tryd.prog 47 #[.slice A0 l0.length c0] w fun e w' => ∃ v1_ : Value, e = .returned (.tuple #[.agg #[.string r1, v1_], .int .i64 r3]) ∧ Kd.R k67 67 w' w.heap.size (fun _ => True) v1_ r2 ∧ Below w.heap.size w w' := by
 have hu42 := Tryd.underlying42
 have hu67 := Tryd.underlying67
 have HR0 := Aside0.mk hr0
 have HC0 := Aside0.mk hc0
 clear hr0 hc0
 have HB := Aside0.mk (Below.refl w.heap.size w)
 have H : ((impl_GetBcd.f k l0 0 4).bind fun bt293 => (if bt293.2.2 = true then ((impl_GetBits.f k l0 bt293.2.1).bind fun bt296 => (if bt296.2.2 = true then (impl_Parse.l0 k l0 bt293.1 bt296.2.1 (([] : List Int)) false bt296.1 (bt296.1.length : Int) 0) else (some ((⟨#[]⟩ : ByteArray), ([] : List (S67)), 2)))) else (some ((⟨#[]⟩ : ByteArray), ([] : List (S67)), 1)))) = some (r1, r2, r3) := h
 clear h
 obtain ⟨⟨t293, t294, t295⟩, A2, H⟩ := ob_ H
 (try dsimp only at H)
 by_cases c3 : t295 = true
 ·subst c3
  replace H := ip_ H
  obtain ⟨⟨t296, t297, t298⟩, A4, H⟩ := ob_ H
  (try dsimp only at H)
  by_cases c5 : t298 = true
  ·subst c5
   replace H := ip_ H
   obtain ⟨y301, hy301⟩ : ∃ y_ : List Int, y_ = (([] : List Int)) := ⟨_, rfl⟩
   replace H : (impl_Parse.l0 k l0 t293 t297 y301 false t296 (t296.length : Int) 0) = some (r1, r2, r3) := by first | (rw [hy301]; with_reducible exact H) | (have H2_ := (Option.bind_some _ _).symm.trans H; rw [hy301]; with_reducible exact H2_) | (have H2_ := (Option.bind_some _ _).symm.trans H; with_reducible exact H2_) | with_reducible exact H | (rw [hy301]; exact H) | exact H
   have Ny301 := Aside0.mk hy301
   clear hy301
   have H' := Aside0.mk H
   clear H
   go_enter Tryd.func47, Tryd.ntmps47
   go_wp2_with (first | ((with_reducible refine gate_dst (N := 2) rfl ?_); (try (refine gate_guard (by rfl) ?_; dsimp only)); refine be_ (N := 2) (cs := #[.string (⟨#[]⟩ : ByteArray), .slice none 0 0]) (t := 42) ?_; intro gb292 hg w6 hbox hb; have BK292 := Aside0.mk (hbox); have GW292 := gw_ (w := w) hg; have GE292 := gw_ (w := w) hg; replace HB := Aside0.mk (below_step bl_ hb); clear hb hbox hg) | ((with_reducible refine gate_callee (f := 91) rfl ?_); refine goesL_ (some 23) rfl rfl Tryd.func91 (by kernel_rfl) rfl #[.slice A0 l0.length c0, .int .i64 0, .int .i64 4] rfl gl_ ?_; (with_reducible refine (impl_GetBcd.calls k _ _ l0 0 4 t293 t294 true _ ?side1 ?side2 A2.out).mono ?_); (case side1 => exact ca_ (Kd.C_below HR0.out HB.out)); (case side2 => exact HC0.out); rintro e w7 ⟨rfl, hb⟩; refine ⟨_, rfl, ?_⟩; replace BK292 := Aside0.mk (blk_below (bk_ BK292) hb); replace HB := Aside0.mk (below_step bl_ hb); (try clear hb); (try clear hb2); (try clear hk); (try clear hi)) | ((with_reducible refine gate_callee (f := 92) rfl ?_); refine goesL_ (some 33) rfl rfl Tryd.func92 (by kernel_rfl) rfl #[.slice A0 l0.length c0, .int .i64 t294] rfl gl_ ?_; (with_reducible refine (impl_GetBits.calls k _ _ l0 t294 t296 t297 true _ ?side1 ?side2 A4.out).mono ?_); (case side1 => exact ca_ (Kd.C_below HR0.out HB.out)); (case side2 => exact HC0.out); rintro e w8 ⟨v299, rfl, ho0, hb⟩; refine ⟨_, rfl, ?_⟩; have HO300 := Aside0.mk (Kd.R_lower ho0 (below_size bl_)); replace BK292 := Aside0.mk (blk_below (bk_ BK292) hb); replace HB := Aside0.mk (below_step bl_ hb); (try clear hb); (try clear hb2); (try clear hk); (try clear hi); (try clear ho0)) | ((with_reducible refine gate_dst (N := 40) rfl ?_); (try (refine gate_guard (by rfl) ?_; dsimp only)); refine Kd.R_lit (Kd.int .i64) _ 3 ?hg (N := 40) ?hd (xs := ([] : List Int)) (inner := []) (ok := fun _ => True) (okp := fun _ => True) ?hr ?hp (fun _ hk => hk) trivial (Below.refl _ _) (Nat.le_refl _) (by simp) ?_; (case hd => rfl); (case hg => rfl); (case hr => first | (go_simp; done) | (go_simp; rfl)); (case hp => exact (Reps.none _ _)); intro v302 w9 ho10 hb hg_ hnew_; clear hg_ hnew_; (first | rw [← Ny301.out] at ho10 | (simp only [Int.reduceToNat] at ho10; rw [← Ny301.out] at ho10)); have HO303 := Aside0.mk (Kd.R_lower (Kd.R_new' ho10 (Kd.R_lt (ra_ HO300))) (below_size bl_)); replace HO300 := Aside0.mk (Kd.R_elder' (ra_ HO300) (Kd.R_base ho10) hb); replace BK292 := Aside0.mk (blk_below (bk_ BK292) hb); replace HB := Aside0.mk (below_step bl_ hb); clear hb ho10; obtain ⟨Ao11, co11, eo11⟩ := Kd.R_slice HO300.out; subst eo11))
   go_loopg [8, 9, 43] k (fun kq v8 v9 v43 w' => ∃ (x8_1 : List Int) (x9_1 : Bool) (x43_1 : Int) (x293000_1 : ByteArray), v9 = .bool x9_1 ∧ v43 = .int .i64 x43_1 ∧ Aside0 (impl_Parse.l0 kq l0 t293 t297 x8_1 x9_1 t296 (t296.length : Int) x43_1 = some (r1, r2, r3)) ∧ Aside0 (kq ≤ k) ∧ Aside0 (Kd.R (Kd.int .i64) 3 w' w.heap.size (fun k_ => some k_ ≠ ((.slice Ao11 t296.length co11) : Value).ownBlock) v8 x8_1) ∧ Aside0 (Kd.R (Kd.int .i64) 3 w' w.heap.size (fun k_ => some k_ ≠ (v8 : Value).ownBlock) (.slice Ao11 t296.length co11) t296) ∧ Aside0 (w'.heap[gb292]? = some (.cells #[.string x293000_1, (.slice none 0 0)] 42 (0, 0))) ∧ Aside0 (Below w.heap.size w w'))
   case atStart => exact ⟨(y301), (false), (0), ((⟨#[]⟩ : ByteArray)), sp_, sp_, H', ⟨Nat.le_refl _⟩, ⟨by (with_reducible repeat (first | apply Kd.R_alloc | apply Kd.R_drewN | apply Kd.R_drew)); exact Kd.R_mono HO303.out (fun _ hk => hk.2)⟩, ⟨by (with_reducible repeat (first | apply Kd.R_alloc | apply Kd.R_drewN | apply Kd.R_drew)); exact Kd.R_mono HO300.out (fun _ hk => hk.2)⟩, ⟨by (with_reducible repeat (first | refine blk_drewN ?_ _ | refine blk_drew ?_ | refine blk_alloc ?_ _)); exact BK292.out⟩, ⟨bl_⟩⟩
   case round =>
    clear H'
    try clear p2
    try clear c3
    try clear c4
    try clear c5
    try clear c9
    obtain ⟨x8_1, x9_1, x43_1, x293000_1, rfl, rfl, HA, HK1, HO_8, HO_41, BK292, HB⟩ := hrel
    cases gk with
    | zero => exact absurd HA.out (by simp [impl_Parse.l0])
    | succ k1 =>
     have H := HA.out
     clear HA
     simp only [impl_Parse.l0] at H
     by_cases c12 : x43_1 < (t296.length : Int)
     ·rw [if_pos c12] at H
      have c12b0 : decide (x43_1 < (t296.length : Int)) = true := decide_eq_true c12
      clear c12
      by_cases c13 : 0 ≤ x43_1
      ·rw [if_pos c13] at H
       have c13b0 : decide (0 ≤ x43_1) = true := decide_eq_true c13
       clear c13
       by_cases c14 : x43_1 < (t296.length : Int)
       ·rw [if_pos c14] at H
        have c14b0 : decide (x43_1 < (t296.length : Int)) = true := decide_eq_true c14
        clear c14
        by_cases c15 : (rd t296 x43_1) = 1
        ·rw [if_pos c15] at H
         have c15b0 : ((rd t296 x43_1) == 1) = true := beq_iff_eq.mpr c15
         have c15b1 : ((rd t296 x43_1) != 1) = false := bne_eq_false_iff_eq.mpr c15
         clear c15
         have H' := Aside0.mk H
         clear H
         have p304 : 0 ≤ (x43_1 : Int) := od_
         have q304 : x43_1 < (t296.length : Int) := od_
         obtain ⟨ad304, e304, hx304_0⟩ := Kd.at_int (Kd.R_reads' HO_41.out).2.2 x43_1 p304 q304
         cases e304
         replace p304 := eq_true p304
         replace q304 := eq_true q304
         go_wp2
         go_roundg k1
         case measure => have := HK1.out; omega
         case rel => exact ⟨(x8_1), (true), (wrap64 (x43_1 + 1)), (x293000_1), sp_, sp_, H', ⟨by have := HK1.out; omega⟩, ⟨ra_ HO_8⟩, ⟨ra_ HO_41⟩, ⟨by (with_reducible repeat (first | refine blk_drewN ?_ _ | refine blk_drew ?_ | refine blk_alloc ?_ _)); exact BK292.out⟩, ⟨bl_⟩⟩
        ·rw [if_neg c15] at H
         have c15b0 : ((rd t296 x43_1) == 1) = false := beq_eq_false_iff_ne.mpr c15
         have c15b1 : ((rd t296 x43_1) != 1) = true := bne_iff_ne.mpr c15
         obtain ⟨t305, A16, H⟩ := ob_ H
         by_cases c17 : t305 = 0
         ·rw [if_pos c17] at H
          have c17b0 : (t305 == 0) = true := beq_iff_eq.mpr c17
          have c17b1 : (t305 != 0) = false := bne_eq_false_iff_eq.mpr c17
          clear c17
          simp only [Option.some.injEq, Prod.mk.injEq] at H
          obtain ⟨rfl, rfl, rfl⟩ := H
          have p304 : 0 ≤ (x43_1 : Int) := od_
          have q304 : x43_1 < (t296.length : Int) := od_
          obtain ⟨ad304, e304, hx304_0⟩ := Kd.at_int (Kd.R_reads' HO_41.out).2.2 x43_1 p304 q304
          cases e304
          replace p304 := eq_true p304
          replace q304 := eq_true q304
          go_wp2_with (first | ((with_reducible refine gate_callee (f := 82) rfl ?_); refine goesL_ (some 56) rfl rfl Tryd.func82 (by kernel_rfl) rfl #[.int .i64 (rd t296 x43_1)] rfl gl_ ?_; (with_reducible refine (impl_FieldKind.calls k1 (rd t296 x43_1) t305 _ A16.out).mono ?_); rintro e w18 ⟨rfl, hb⟩; refine ⟨_, rfl, ?_⟩; replace HO_8 := Aside0.mk (Kd.R_below (ra_ HO_8) hb); replace HO_41 := Aside0.mk (Kd.R_below (ra_ HO_41) hb); replace BK292 := Aside0.mk (blk_below (bk_ BK292) hb); replace HB := Aside0.mk (below_step bl_ hb); (try clear hb); (try clear hb2); (try clear hk); (try clear hi); obtain ⟨hcz19_0, hcz19_1, hfz19_0, hfz19_1⟩ := bx2_ BK292))
          refine bodyPost_ret (results_ct rfl _ _ gb292 42 #[.string (⟨#[]⟩ : ByteArray), .slice none 0 0] (0, 0) _ rfl (by (with_reducible repeat (first | refine blk_drewN ?_ _ | refine blk_drew ?_ | refine blk_alloc ?_ _)); apply bq2_1_0_; (with_reducible repeat (first | refine blk_drewN ?_ _ | refine blk_drew ?_ | refine blk_alloc ?_ _)); exact BK292.out) Tryd.underlying42 rfl (by kernel_rfl)) rfl ?_
          exact ⟨_, by first | rfl | (simp [errW_none, errW_some] <;> rfl) | (simp [*, errW_none, errW_some] <;> rfl), by first | exact Kd.R_nil _ _ _ _ _ | exact Kd.N_nil _ _ _ _ _ | exact Kd.V_nil _ _ _ _ _ | exact Kd.Q_nil _ _ _ _ _ | exact Kd.S_nil _ _ _ _ _, bl_⟩
         ·rw [if_neg c17] at H
          have c17b0 : (t305 == 0) = false := beq_eq_false_iff_ne.mpr c17
          have c17b1 : (t305 != 0) = true := bne_iff_ne.mpr c17
          by_cases c20 : x8_1.length < 17592186044416
          ·rw [if_pos c20] at H
           have LMc20 := Aside0.mk c20
           clear c20
           obtain ⟨y306, hy306⟩ : ∃ y_ : List Int, y_ = (x8_1 ++ [rd t296 x43_1]) := ⟨_, rfl⟩
           replace H : (impl_Parse.l0 k1 l0 t293 t297 y306 x9_1 t296 (t296.length : Int) (wrap64 (x43_1 + 1))) = some (r1, r2, r3) := by first | (rw [hy306]; with_reducible exact H) | (have H2_ := (Option.bind_some _ _).symm.trans H; rw [hy306]; with_reducible exact H2_) | (have H2_ := (Option.bind_some _ _).symm.trans H; with_reducible exact H2_) | with_reducible exact H | (rw [hy306]; exact H) | exact H
           have Ny306 := Aside0.mk hy306
           clear hy306
           have H' := Aside0.mk H
           clear H
           have p304 : 0 ≤ (x43_1 : Int) := od_
           have q304 : x43_1 < (t296.length : Int) := od_
           obtain ⟨ad304, e304, hx304_0⟩ := Kd.at_int (Kd.R_reads' HO_41.out).2.2 x43_1 p304 q304
           cases e304
           replace p304 := eq_true p304
           replace q304 := eq_true q304
           go_wp2_with (first | ((with_reducible refine gate_callee (f := 82) rfl ?_); refine goesL_ (some 56) rfl rfl Tryd.func82 (by kernel_rfl) rfl #[.int .i64 (rd t296 x43_1)] rfl gl_ ?_; (with_reducible refine (impl_FieldKind.calls k1 (rd t296 x43_1) t305 _ A16.out).mono ?_); rintro e w21 ⟨rfl, hb⟩; refine ⟨_, rfl, ?_⟩; replace HO_8 := Aside0.mk (Kd.R_below (ra_ HO_8) hb); replace HO_41 := Aside0.mk (Kd.R_below (ra_ HO_41) hb); replace BK292 := Aside0.mk (blk_below (bk_ BK292) hb); replace HB := Aside0.mk (below_step bl_ hb); (try clear hb); (try clear hb2); (try clear hk); (try clear hi)) | ((with_reducible refine gate_builtin (b := .append) (xs := #[.tmp 47, .tmp 49]) rfl ?_); (try (refine gate_guard (by rfl) ?_; dsimp only)); at_builtin; refine Kd.R_append (Kd.int .i64) (w0 := w) w.heap.size rfl (.tmp 47) (.tmp 49) 24 3 (.int .i64 0) 8 rfl Tryd.underlying24 info3 rfl (by decide) (by omega) u8 x8_1 (rd t296 x43_1) [.int .i64 (rd t296 x43_1)] (fun k_ => some k_ ≠ (.slice (some ad304) t296.length co11 : Value).ownBlock) (fun _ => False) rfl rfl ?aP (fun _ hk => hk.elim) ?aF ?aO ?aB ?aS ?aL ?_; (case aP => exact rfl); (case aB => exact bl_); (case aF => exact (fun k_ hk => Kd.fresh' (Kd.R_lt (ra_ HO_41)) k_ hk)); (case aO => exact (ra_ HO_8)); (case aS => exact (below_size bl_)); (case aL => have := LMc20.out; omega); intro v307 w22 ho hb hg hat; rw [← Ny306.out] at ho; have n0_ := Aside0.mk (Kd.R_after (ok := (fun _ => True)) (by (with_reducible repeat (first | apply Kd.R_alloc | apply Kd.R_drewN | apply Kd.R_drew)); exact Kd.R_mono HO_41.out (fun _ hk => ⟨trivial, hk⟩)) hg hat); have n1_ := Aside0.mk (blk_grown (bk_ BK292) hg (Kd.R_ne HO_8.out BK292.out (by decide))); have n2_ := Aside0.mk (hb); have n3_ := Aside0.mk (ho); clear HO_41; clear BK292; clear HB; clear HO_8; have HO_41 := n0_; have BK292 := n1_; have HB := n2_; have HO308 := n3_; clear n0_ n1_ n2_ n3_; clear ho hb hg hat))
           go_roundg k1
           case measure => have := HK1.out; omega
           case rel => exact ⟨(y306), (x9_1), (wrap64 (x43_1 + 1)), (x293000_1), sp_, sp_, H', ⟨by have := HK1.out; omega⟩, ⟨ra_ HO308⟩, ⟨by (with_reducible repeat (first | apply Kd.R_alloc | apply Kd.R_drewN | apply Kd.R_drew)); exact Kd.R_mono HO_41.out (fun _ hk => hk.2)⟩, ⟨by (with_reducible repeat (first | refine blk_drewN ?_ _ | refine blk_drew ?_ | refine blk_alloc ?_ _)); exact BK292.out⟩, ⟨bl_⟩⟩
          ·rw [if_neg c20] at H
           exact absurd H (by simp)
       ·rw [if_neg c14] at H
        exact absurd H (by simp)
      ·rw [if_neg c13] at H
       exact absurd H (by simp)
     ·rw [if_neg c12] at H
      have c12b0 : decide (x43_1 < (t296.length : Int)) = false := decide_eq_false c12
      clear c12
      have HC23 := Aside0.mk H
      clear H
      go_upto_if 60 with (fail)
      go_cut [5, 8] (fun v5 v8 wc => ∃ (kq : Nat) (x5_22 : Int) (x8_22 : List Int) (x293000_22 : ByteArray), v5 = .int .i64 x5_22 ∧ Aside0 (impl_Parse.j3 kq l0 t293 x5_22 x8_22 = some (r1, r2, r3)) ∧ Aside0 (kq ≤ k1) ∧ Aside0 (Kd.R (Kd.int .i64) 3 wc w.heap.size (fun _ => True) v8 x8_22) ∧ Aside0 (wc.heap[gb292]? = some (.cells #[.string x293000_22, (.slice none 0 0)] 42 (0, 0))) ∧ Aside0 (Below w.heap.size w wc))
      case first =>
       have H := HC23.out
       clear HC23
       by_cases c24 : x9_1 = true
       ·subst c24
        replace H := ip_ H
        obtain ⟨⟨t309, t310, t311⟩, A25, H⟩ := ob_ H
        (try dsimp only at H)
        have HC26 := Aside0.mk H
        clear H
        go_upto_region 20 with (first | ((with_reducible refine gate_callee (f := 92) rfl ?_); refine goesL_ (some 64) rfl rfl Tryd.func92 (by kernel_rfl) rfl #[.slice A0 l0.length c0, .int .i64 t297] rfl gl_ ?_; (with_reducible refine (impl_GetBits.calls k1 _ _ l0 t297 t309 t310 t311 _ ?side1 ?side2 A25.out).mono ?_); (case side1 => exact ca_ (Kd.C_below HR0.out HB.out)); (case side2 => exact HC0.out); rintro e w27 ⟨v312, rfl, ho0, hb⟩; refine ⟨_, rfl, ?_⟩; have HO313 := Aside0.mk (Kd.R_lower (Kd.R_new' (Kd.R_new' ho0 (Kd.R_lt (ra_ HO_8))) (Kd.R_lt (ra_ HO_41))) (below_size bl_)); replace HO_8 := Aside0.mk (Kd.R_elder' (ra_ HO_8) (Kd.R_base ho0) hb); replace HO_41 := Aside0.mk (Kd.R_elder' (ra_ HO_41) (Kd.R_base ho0) hb); replace BK292 := Aside0.mk (blk_below (bk_ BK292) hb); replace HB := Aside0.mk (below_step bl_ hb); (try clear hb); (try clear hb2); (try clear hk); (try clear hi); (try clear ho0)))
        (try simp only [Act.put, List.setIfInBounds_toArray, List.set_cons_zero, List.set_cons_succ])
        go_cut [74] (fun v74 wc => ∃ (kq : Nat) (x74_25 : Bool), v74 = .bool x74_25 ∧ Aside0 (impl_Parse.j1 kq l0 t293 t310 x8_1 t309 x74_25 = some (r1, r2, r3)) ∧ Aside0 (kq ≤ k1) ∧ Aside0 (Kd.R (Kd.int .i64) 3 wc w.heap.size (fun k_ => some k_ ≠ (v312 : Value).ownBlock) u8 x8_1) ∧ Aside0 (Kd.R (Kd.int .i64) 3 wc w.heap.size (fun k_ => some k_ ≠ (u8 : Value).ownBlock) v312 t309) ∧ Aside0 (wc.heap[gb292]? = some (.cells #[.string x293000_1, (.slice none 0 0)] 42 (0, 0))) ∧ Aside0 (Below w.heap.size w wc))
        case first =>
         have H := HC26.out
         clear HC26
         by_cases c28 : t311 = true
         ·subst c28
          replace H := ip_ H
          have H' := Aside0.mk H
          clear H
          obtain ⟨Ao29, co29, eo29⟩ := Kd.R_slice HO313.out
          subst eo29
          go_wp2
          go_meet
          case rel => exact ⟨_, (((t309.length : Int) == 0)), sp_, H', ⟨by have := HK1.out; first | omega | exact Nat.le_refl _⟩, ⟨by (with_reducible repeat (first | apply Kd.R_alloc | apply Kd.R_drewN | apply Kd.R_drew)); exact Kd.R_mono HO_8.out (fun _ hk => hk.2)⟩, ⟨by (with_reducible repeat (first | apply Kd.R_alloc | apply Kd.R_drewN | apply Kd.R_drew)); exact Kd.R_mono HO313.out (fun _ hk => hk.1.2)⟩, ⟨by (with_reducible repeat (first | refine blk_drewN ?_ _ | refine blk_drew ?_ | refine blk_alloc ?_ _)); exact BK292.out⟩, ⟨bl_⟩⟩
         ·replace c28 := Bool.eq_false_iff.mpr c28
          subst c28
          replace H := in_ H
          have H' := Aside0.mk H
          clear H
          go_wp2
          go_meet
          case rel => exact ⟨_, (true), sp_, H', ⟨by have := HK1.out; first | omega | exact Nat.le_refl _⟩, ⟨by (with_reducible repeat (first | apply Kd.R_alloc | apply Kd.R_drewN | apply Kd.R_drew)); exact Kd.R_mono HO_8.out (fun _ hk => hk.2)⟩, ⟨by (with_reducible repeat (first | apply Kd.R_alloc | apply Kd.R_drewN | apply Kd.R_drew)); exact Kd.R_mono HO313.out (fun _ hk => hk.1.2)⟩, ⟨by (with_reducible repeat (first | refine blk_drewN ?_ _ | refine blk_drew ?_ | refine blk_alloc ?_ _)); exact BK292.out⟩, ⟨bl_⟩⟩
        case rest =>
         clear HC26
         try clear c1
         try clear c2
         try clear p2
         try clear c3
         try clear p3
         try clear q3
         try clear hx3
         try clear c4
         try clear c5
         try clear p6
         try clear c8
         try clear c9
         try clear c12
         try clear c12b0
         try clear c13
         try clear c13b0
         try clear c14
         try clear c14b0
         try clear c15
         try clear c15b0
         try clear c15b1
         try clear c17
         try clear c17b0
         try clear c17b1
         try clear c20
         try clear c24
         try clear c28
         try clear hcz19_0
         try clear hcz19_1
         try clear hfz19_0
         try clear hfz19_1
         try clear hx304_0
         try clear p2
         try clear p304
         try clear q304
         obtain ⟨kq, x74_25, rfl, HA, HJ25, HO_8, HO_12, BK292, HB⟩ := hcut
         cases kq with
         | zero => exact absurd HA.out (by simp [impl_Parse.j1])
         | succ kj25 =>
          have H := HA.out
          clear HA
          simp only [impl_Parse.j1] at H
          by_cases c30 : x74_25 = true
          ·subst c30
           replace H := ip_ H
           simp only [Option.some.injEq, Prod.mk.injEq] at H
           obtain ⟨rfl, rfl, rfl⟩ := H
           have hcz31_0 := cz_ BK292 0 (.string x293000_1)
           have hcz31_1 := cz_ BK292 1 (.slice none 0 0)
           have hfz31_0 := fz_ BK292 0
           have hfz31_1 := fz_ BK292 1
           go_wp2
           refine bodyPost_ret (results_ct rfl _ _ gb292 42 #[.string (⟨#[]⟩ : ByteArray), .slice none 0 0] (0, 0) _ rfl (by (with_reducible repeat (first | refine blk_drewN ?_ _ | refine blk_drew ?_ | refine blk_alloc ?_ _)); apply bq2_1_0_; (with_reducible repeat (first | refine blk_drewN ?_ _ | refine blk_drew ?_ | refine blk_alloc ?_ _)); exact BK292.out) Tryd.underlying42 rfl (by kernel_rfl)) rfl ?_
           exact ⟨_, by first | rfl | (simp [errW_none, errW_some] <;> rfl) | (simp [*, errW_none, errW_some] <;> rfl), by first | exact Kd.R_nil _ _ _ _ _ | exact Kd.N_nil _ _ _ _ _ | exact Kd.V_nil _ _ _ _ _ | exact Kd.Q_nil _ _ _ _ _ | exact Kd.S_nil _ _ _ _ _, bl_⟩
          ·replace c30 := Bool.eq_false_iff.mpr c30
           subst c30
           replace H := in_ H
           have H' := Aside0.mk H
           clear H
           obtain ⟨Ao32, co32, eo32⟩ := Kd.R_slice HO_12.out
           subst eo32
           go_wp2
           go_loopg [8, 78] kj25 (fun kq v8 v78 w' => ∃ (x8_3 : List Int) (x78_3 : Int) (x293000_3 : ByteArray), v78 = .int .i64 x78_3 ∧ Aside0 (impl_Parse.l1 kq l0 t293 t310 x8_3 t309 (t309.length : Int) x78_3 = some (r1, r2, r3)) ∧ Aside0 (kq ≤ kj25) ∧ Aside0 (Kd.R (Kd.int .i64) 3 w' w.heap.size (fun k_ => some k_ ≠ ((.slice Ao32 t309.length co32) : Value).ownBlock) v8 x8_3) ∧ Aside0 (Kd.R (Kd.int .i64) 3 w' w.heap.size (fun k_ => some k_ ≠ (v8 : Value).ownBlock) (.slice Ao32 t309.length co32) t309) ∧ Aside0 (w'.heap[gb292]? = some (.cells #[.string x293000_3, (.slice none 0 0)] 42 (0, 0))) ∧ Aside0 (Below w.heap.size w w'))
           case atStart => exact ⟨(x8_1), (0), (x293000_1), sp_, H', ⟨Nat.le_refl _⟩, ⟨ra_ HO_8⟩, ⟨ra_ HO_12⟩, ⟨by (with_reducible repeat (first | refine blk_drewN ?_ _ | refine blk_drew ?_ | refine blk_alloc ?_ _)); exact BK292.out⟩, ⟨bl_⟩⟩
           case round =>
            clear H'
            try clear c1
            try clear c2
            try clear p2
            try clear c3
            try clear p3
            try clear q3
            try clear hx3
            try clear c4
            try clear c5
            try clear p6
            try clear c8
            try clear c9
            try clear c12
            try clear c12b0
            try clear c13
            try clear c13b0
            try clear c14
            try clear c14b0
            try clear c15
            try clear c15b0
            try clear c15b1
            try clear c17
            try clear c17b0
            try clear c17b1
            try clear c20
            try clear c24
            try clear c28
            try clear c30
            try clear p30
            try clear q30
            try clear hx30
            try clear hcz19_0
            try clear hcz19_1
            try clear hcz31_0
            try clear hcz31_1
            try clear hfz19_0
            try clear hfz19_1
            try clear hfz31_0
            try clear hfz31_1
            try clear hx304_0
            try clear p2
            try clear p3
            try clear p304
            try clear p6
            try clear q3
            try clear q304
            obtain ⟨x8_3, x78_3, x293000_3, rfl, HA, HK3, HO_8, HO_76, BK292, HB⟩ := hrel
            cases gk with
            | zero => exact absurd HA.out (by simp [impl_Parse.l1])
            | succ k3 =>
             have H := HA.out
             clear HA
             simp only [impl_Parse.l1] at H
             by_cases c33 : x78_3 < (t309.length : Int)
             ·rw [if_pos c33] at H
              have c33b0 : decide (x78_3 < (t309.length : Int)) = true := decide_eq_true c33
              clear c33
              by_cases c34 : 0 ≤ x78_3
              ·rw [if_pos c34] at H
               have c34b0 : decide (0 ≤ x78_3) = true := decide_eq_true c34
               clear c34
               by_cases c35 : x78_3 < (t309.length : Int)
               ·rw [if_pos c35] at H
                have c35b0 : decide (x78_3 < (t309.length : Int)) = true := decide_eq_true c35
                clear c35
                obtain ⟨t315, A36, H⟩ := ob_ H
                by_cases c37 : t315 = 0
                ·rw [if_pos c37] at H
                 have c37b0 : (t315 == 0) = true := beq_iff_eq.mpr c37
                 have c37b1 : (t315 != 0) = false := bne_eq_false_iff_eq.mpr c37
                 clear c37
                 simp only [Option.some.injEq, Prod.mk.injEq] at H
                 obtain ⟨rfl, rfl, rfl⟩ := H
                 have p314 : 0 ≤ (x78_3 : Int) := od_
                 have q314 : x78_3 < (t309.length : Int) := od_
                 obtain ⟨ad314, e314, hx314_0⟩ := Kd.at_int (Kd.R_reads' HO_76.out).2.2 x78_3 p314 q314
                 cases e314
                 replace p314 := eq_true p314
                 replace q314 := eq_true q314
                 go_wp2_with (first | ((with_reducible refine gate_callee (f := 82) rfl ?_); refine goesL_ (some 84) rfl rfl Tryd.func82 (by kernel_rfl) rfl #[.int .i64 (wrap64 ((rd t309 x78_3) + 64))] rfl gl_ ?_; (with_reducible refine (impl_FieldKind.calls k3 (wrap64 ((rd t309 x78_3) + 64)) t315 _ A36.out).mono ?_); rintro e w38 ⟨rfl, hb⟩; refine ⟨_, rfl, ?_⟩; replace HO_8 := Aside0.mk (Kd.R_below (ra_ HO_8) hb); replace HO_76 := Aside0.mk (Kd.R_below (ra_ HO_76) hb); replace BK292 := Aside0.mk (blk_below (bk_ BK292) hb); replace HB := Aside0.mk (below_step bl_ hb); (try clear hb); (try clear hb2); (try clear hk); (try clear hi); obtain ⟨hcz39_0, hcz39_1, hfz39_0, hfz39_1⟩ := bx2_ BK292))
                 refine bodyPost_ret (results_ct rfl _ _ gb292 42 #[.string (⟨#[]⟩ : ByteArray), .slice none 0 0] (0, 0) _ rfl (by (with_reducible repeat (first | refine blk_drewN ?_ _ | refine blk_drew ?_ | refine blk_alloc ?_ _)); apply bq2_1_0_; (with_reducible repeat (first | refine blk_drewN ?_ _ | refine blk_drew ?_ | refine blk_alloc ?_ _)); exact BK292.out) Tryd.underlying42 rfl (by kernel_rfl)) rfl ?_
                 exact ⟨_, by first | rfl | (simp [errW_none, errW_some] <;> rfl) | (simp [*, errW_none, errW_some] <;> rfl), by first | exact Kd.R_nil _ _ _ _ _ | exact Kd.N_nil _ _ _ _ _ | exact Kd.V_nil _ _ _ _ _ | exact Kd.Q_nil _ _ _ _ _ | exact Kd.S_nil _ _ _ _ _, bl_⟩
                ·rw [if_neg c37] at H
                 have c37b0 : (t315 == 0) = false := beq_eq_false_iff_ne.mpr c37
                 have c37b1 : (t315 != 0) = true := bne_iff_ne.mpr c37
                 by_cases c40 : x8_3.length < 17592186044416
                 ·rw [if_pos c40] at H
                  have LMc40 := Aside0.mk c40
                  clear c40
                  obtain ⟨y316, hy316⟩ : ∃ y_ : List Int, y_ = (x8_3 ++ [wrap64 ((rd t309 x78_3) + 64)]) := ⟨_, rfl⟩
                  replace H : (impl_Parse.l1 k3 l0 t293 t310 y316 t309 (t309.length : Int) (wrap64 (x78_3 + 1))) = some (r1, r2, r3) := by first | (rw [hy316]; with_reducible exact H) | (have H2_ := (Option.bind_some _ _).symm.trans H; rw [hy316]; with_reducible exact H2_) | (have H2_ := (Option.bind_some _ _).symm.trans H; with_reducible exact H2_) | with_reducible exact H | (rw [hy316]; exact H) | exact H
                  have Ny316 := Aside0.mk hy316
                  clear hy316
                  have H' := Aside0.mk H
                  clear H
                  have p314 : 0 ≤ (x78_3 : Int) := od_
                  have q314 : x78_3 < (t309.length : Int) := od_
                  obtain ⟨ad314, e314, hx314_0⟩ := Kd.at_int (Kd.R_reads' HO_76.out).2.2 x78_3 p314 q314
                  cases e314
                  replace p314 := eq_true p314
                  replace q314 := eq_true q314
                  go_wp2_with (first | ((with_reducible refine gate_callee (f := 82) rfl ?_); refine goesL_ (some 84) rfl rfl Tryd.func82 (by kernel_rfl) rfl #[.int .i64 (wrap64 ((rd t309 x78_3) + 64))] rfl gl_ ?_; (with_reducible refine (impl_FieldKind.calls k3 (wrap64 ((rd t309 x78_3) + 64)) t315 _ A36.out).mono ?_); rintro e w41 ⟨rfl, hb⟩; refine ⟨_, rfl, ?_⟩; replace HO_8 := Aside0.mk (Kd.R_below (ra_ HO_8) hb); replace HO_76 := Aside0.mk (Kd.R_below (ra_ HO_76) hb); replace BK292 := Aside0.mk (blk_below (bk_ BK292) hb); replace HB := Aside0.mk (below_step bl_ hb); (try clear hb); (try clear hb2); (try clear hk); (try clear hi)) | ((with_reducible refine gate_builtin (b := .append) (xs := #[.tmp 87, .tmp 90]) rfl ?_); (try (refine gate_guard (by rfl) ?_; dsimp only)); at_builtin; refine Kd.R_append (Kd.int .i64) (w0 := w) w.heap.size rfl (.tmp 87) (.tmp 90) 24 3 (.int .i64 0) 8 rfl Tryd.underlying24 info3 rfl (by decide) (by omega) u8 x8_3 (wrap64 ((rd t309 x78_3) + 64)) [.int .i64 (wrap64 ((rd t309 x78_3) + 64))] (fun k_ => some k_ ≠ (.slice (some ad314) t309.length co32 : Value).ownBlock) (fun _ => False) rfl rfl ?aP (fun _ hk => hk.elim) ?aF ?aO ?aB ?aS ?aL ?_; (case aP => exact rfl); (case aB => exact bl_); (case aF => exact (fun k_ hk => Kd.fresh' (Kd.R_lt (ra_ HO_76)) k_ hk)); (case aO => exact (ra_ HO_8)); (case aS => exact (below_size bl_)); (case aL => have := LMc40.out; omega); intro v317 w42 ho hb hg hat; rw [← Ny316.out] at ho; have n0_ := Aside0.mk (Kd.R_after (ok := (fun _ => True)) (by (with_reducible repeat (first | apply Kd.R_alloc | apply Kd.R_drewN | apply Kd.R_drew)); exact Kd.R_mono HO_76.out (fun _ hk => ⟨trivial, hk⟩)) hg hat); have n1_ := Aside0.mk (blk_grown (bk_ BK292) hg (Kd.R_ne HO_8.out BK292.out (by decide))); have n2_ := Aside0.mk (hb); have n3_ := Aside0.mk (ho); clear HO_76; clear BK292; clear HB; clear HO_8; have HO_76 := n0_; have BK292 := n1_; have HB := n2_; have HO318 := n3_; clear n0_ n1_ n2_ n3_; clear ho hb hg hat))
                  go_roundg k3
                  case measure => have := HK1.out; have := HJ25.out; have := HK3.out; omega
                  case rel => exact ⟨(y316), (wrap64 (x78_3 + 1)), (x293000_3), sp_, H', ⟨by have := HK1.out; have := HJ25.out; have := HK3.out; omega⟩, ⟨ra_ HO318⟩, ⟨by (with_reducible repeat (first | apply Kd.R_alloc | apply Kd.R_drewN | apply Kd.R_drew)); exact Kd.R_mono HO_76.out (fun _ hk => hk.2)⟩, ⟨by (with_reducible repeat (first | refine blk_drewN ?_ _ | refine blk_drew ?_ | refine blk_alloc ?_ _)); exact BK292.out⟩, ⟨bl_⟩⟩
                 ·rw [if_neg c40] at H
                  exact absurd H (by simp)
               ·rw [if_neg c35] at H
                exact absurd H (by simp)
              ·rw [if_neg c34] at H
               exact absurd H (by simp)
             ·rw [if_neg c33] at H
              have c33b0 : decide (x78_3 < (t309.length : Int)) = false := decide_eq_false c33
              clear c33
              have H' := Aside0.mk H
              clear H
              go_wp2
              go_meet
              case rel => exact ⟨_, (t310), (x8_3), (x293000_3), sp_, H', ⟨by have := HK1.out; have := HJ25.out; have := HK3.out; first | omega | exact Nat.le_refl _⟩, ⟨by (with_reducible repeat (first | apply Kd.R_alloc | apply Kd.R_drewN | apply Kd.R_drew)); exact Kd.R_mono HO_8.out (fun _ hk => trivial)⟩, ⟨by (with_reducible repeat (first | refine blk_drewN ?_ _ | refine blk_drew ?_ | refine blk_alloc ?_ _)); exact BK292.out⟩, ⟨bl_⟩⟩
       ·replace c24 := Bool.eq_false_iff.mpr c24
        subst c24
        replace H := in_ H
        have H' := Aside0.mk H
        clear H
        go_wp2
        go_meet
        case rel => exact ⟨_, (t297), (x8_1), (x293000_1), sp_, H', ⟨by have := HK1.out; first | omega | exact Nat.le_refl _⟩, ⟨by (with_reducible repeat (first | apply Kd.R_alloc | apply Kd.R_drewN | apply Kd.R_drew)); exact Kd.R_mono HO_8.out (fun _ hk => trivial)⟩, ⟨by (with_reducible repeat (first | refine blk_drewN ?_ _ | refine blk_drew ?_ | refine blk_alloc ?_ _)); exact BK292.out⟩, ⟨bl_⟩⟩
      case rest =>
       clear HC23
       try clear c1
       try clear c2
       try clear p2
       try clear c3
       try clear p3
       try clear q3
       try clear hx3
       try clear c4
       try clear c5
       try clear p6
       try clear c8
       try clear c9
       try clear c12
       try clear c12b0
       try clear c13
       try clear c13b0
       try clear c14
       try clear c14b0
       try clear c15
       try clear c15b0
       try clear c15b1
       try clear c17
       try clear c17b0
       try clear c17b1
       try clear c20
       try clear c24
       try clear c28
       try clear c30
       try clear p30
       try clear q30
       try clear hx30
       try clear p31
       try clear q31
       try clear hx31
       try clear c33
       try clear c33b0
       try clear c34
       try clear c34b0
       try clear c35
       try clear c35b0
       try clear c37
       try clear c37b0
       try clear c37b1
       try clear c40
       try clear hcz19_0
       try clear hcz19_1
       try clear hcz31_0
       try clear hcz31_1
       try clear hcz39_0
       try clear hcz39_1
       try clear hfz19_0
       try clear hfz19_1
       try clear hfz31_0
       try clear hfz31_1
       try clear hfz39_0
       try clear hfz39_1
       try clear hx304_0
       try clear hx314_0
       try clear p2
       try clear p3
       try clear p30
       try clear p304
       try clear p314
       try clear p6
       try clear q3
       try clear q30
       try clear q304
       try clear q314
       obtain ⟨kq, x5_22, x8_22, x293000_22, rfl, HA, HJ22, HO_8, BK292, HB⟩ := hcut
       cases kq with
       | zero => exact absurd HA.out (by simp [impl_Parse.j3])
       | succ kj22 =>
        have H := HA.out
        clear HA
        simp only [impl_Parse.j3] at H
        have H' := Aside0.mk H
        clear H
        go_wp2_with (first | ((with_reducible refine gate_dst (N := 15) rfl ?_); (try (refine gate_guard (by rfl) ?_; dsimp only)); refine be_ (N := 15) (cs := #[.string (⟨#[]⟩ : ByteArray), .slice none 0 0]) (t := 42) ?_; intro gb319 hg w43 hbox hb; replace HO_8 := Aside0.mk (Kd.R_below (ra_ HO_8) hb); have BK319 := Aside0.mk (hbox); have GW319 := gw_ (w := w) hg; have GE319 := gw_ (w := w) hg; replace HB := Aside0.mk (below_step bl_ hb); have NB292_319 := Aside0.mk ((by rw [hg]; exact Nat.ne_of_lt (blk_lt (bk_ BK292)) : gb292 ≠ gb319)); have NB319_292 := Aside0.mk ((by rw [hg]; exact Nat.ne_of_gt (blk_lt (bk_ BK292)) : gb319 ≠ gb292)); replace BK292 := Aside0.mk (blk_below (bk_ BK292) hb); clear hb hbox hg; have hnb44 := NB319_292.out; have hnc44 := NB292_319.out; obtain ⟨hcz45_0, hcz45_1, hfz45_0, hfz45_1⟩ := bx2_ BK319; obtain ⟨Ao46, co46, eo46⟩ := Kd.R_slice HO_8.out; subst eo46))
        go_loopg [5, 97] kj22 (fun kq v5 v97 w' => ∃ (x5_3 : Int) (x97_3 : Int) (x293000_3 : ByteArray) (x320001_3 : List (S67)) (u320001 : Value), v5 = .int .i64 x5_3 ∧ v97 = .int .i64 x97_3 ∧ Aside0 (impl_Parse.l2 kq l0 x5_3 x8_22 (x8_22.length : Int) x97_3 t293 x320001_3 = some (r1, r2, r3)) ∧ Aside0 (kq ≤ kj22) ∧ Aside0 (Kd.R (Kd.int .i64) 3 w' w.heap.size (fun _ => True) (.slice Ao46 x8_22.length co46) x8_22) ∧ Aside0 (Kd.R k67 67 w' w.heap.size (fun _ => True) u320001 x320001_3) ∧ Aside0 (w'.heap[gb292]? = some (.cells #[.string x293000_3, (.slice none 0 0)] 42 (0, 0))) ∧ Aside0 (w'.heap[gb319]? = some (.cells #[.string t293, u320001] 42 (0, 0))) ∧ Aside0 (Below w.heap.size w w'))
        case atStart => exact ⟨(x5_22), (0), (x293000_22), (([] : List (S67))), (.slice none 0 0), sp_, sp_, H', ⟨Nat.le_refl _⟩, ⟨by (with_reducible repeat (first | apply Kd.R_alloc | apply Kd.R_drewN | apply Kd.R_drew)); exact Kd.R_mono (Kd.R_far (p := ⟨gb319, 1, none⟩) (Kd.R_far (p := ⟨gb319, 0, none⟩) (Kd.R_types HO_8.out BK319.out (by decide)) (fun _ hk => hk.2) (.string t293)) (fun _ hk => hk.2) (.slice none 0 0)) (fun _ hk => trivial)⟩, ⟨by first | exact Kd.R_nil _ _ _ _ _ | exact Kd.N_nil _ _ _ _ _ | exact Kd.V_nil _ _ _ _ _ | exact Kd.Q_nil _ _ _ _ _ | exact Kd.S_nil _ _ _ _ _⟩, ⟨by (with_reducible repeat (first | refine blk_drewN ?_ _ | refine blk_drew ?_ | refine blk_alloc ?_ _)); refine blk_far ?_ NB292_319.out _; (with_reducible repeat (first | refine blk_drewN ?_ _ | refine blk_drew ?_ | refine blk_alloc ?_ _)); refine blk_far ?_ NB292_319.out _; (with_reducible repeat (first | refine blk_drewN ?_ _ | refine blk_drew ?_ | refine blk_alloc ?_ _)); exact BK292.out⟩, ⟨by (with_reducible repeat (first | refine blk_drewN ?_ _ | refine blk_drew ?_ | refine blk_alloc ?_ _)); apply bq2_1_0_; (with_reducible repeat (first | refine blk_drewN ?_ _ | refine blk_drew ?_ | refine blk_alloc ?_ _)); exact BK319.out⟩, ⟨bl_⟩⟩
        case round =>
         clear H'
         try clear c1
         try clear c2
         try clear p2
         try clear c3
         try clear p3
         try clear q3
         try clear hx3
         try clear c4
         try clear c5
         try clear p6
         try clear c8
         try clear c9
         try clear c12
         try clear c12b0
         try clear c13
         try clear c13b0
         try clear c14
         try clear c14b0
         try clear c15
         try clear c15b0
         try clear c15b1
         try clear c17
         try clear c17b0
         try clear c17b1
         try clear c20
         try clear c24
         try clear c28
         try clear c30
         try clear p30
         try clear q30
         try clear hx30
         try clear p31
         try clear q31
         try clear hx31
         try clear c33
         try clear c33b0
         try clear c34
         try clear c34b0
         try clear c35
         try clear c35b0
         try clear c37
         try clear c37b0
         try clear c37b1
         try clear c40
         try clear c44
         try clear hcz19_0
         try clear hcz19_1
         try clear hcz31_0
         try clear hcz31_1
         try clear hcz39_0
         try clear hcz39_1
         try clear hcz45_0
         try clear hcz45_1
         try clear hfz19_0
         try clear hfz19_1
         try clear hfz31_0
         try clear hfz31_1
         try clear hfz39_0
         try clear hfz39_1
         try clear hfz45_0
         try clear hfz45_1
         try clear hx304_0
         try clear hx314_0
         try clear p2
         try clear p3
         try clear p30
         try clear p304
         try clear p31
         try clear p314
         try clear p6
         try clear q3
         try clear q30
         try clear q304
         try clear q31
         try clear q314
         obtain ⟨x5_3, x97_3, x293000_3, x320001_3, u320001, rfl, rfl, HA, HK3, HO_95, HO_320001, BK292, BK319, HB⟩ := hrel
         cases gk with
         | zero => exact absurd HA.out (by simp [impl_Parse.l2])
         | succ k3 =>
          have H := HA.out
          clear HA
          simp only [impl_Parse.l2] at H
          by_cases c47 : x97_3 < (x8_22.length : Int)
          ·rw [if_pos c47] at H
           have c47b0 : decide (x97_3 < (x8_22.length : Int)) = true := decide_eq_true c47
           clear c47
           by_cases c48 : 0 ≤ x97_3
           ·rw [if_pos c48] at H
            have c48b0 : decide (0 ≤ x97_3) = true := decide_eq_true c48
            clear c48
            by_cases c49 : x97_3 < (x8_22.length : Int)
            ·rw [if_pos c49] at H
             have c49b0 : decide (x97_3 < (x8_22.length : Int)) = true := decide_eq_true c49
             clear c49
             obtain ⟨⟨t321, t322, t323⟩, A50, H⟩ := ob_ H
             (try dsimp only at H)
             by_cases c51 : t323 = true
             ·subst c51
              replace H := ip_ H
              by_cases c52 : x320001_3.length < 5864062014805
              ·rw [if_pos c52] at H
               have LMc52 := Aside0.mk c52
               clear c52
               obtain ⟨y324, hy324⟩ : ∃ y_ : List (S67), y_ = (x320001_3 ++ [(⟨rd x8_22 x97_3, t321⟩ : S67)]) := ⟨_, rfl⟩
               replace H : (impl_Parse.l2 k3 l0 t322 x8_22 (x8_22.length : Int) (wrap64 (x97_3 + 1)) t293 y324) = some (r1, r2, r3) := by first | (rw [hy324]; with_reducible exact H) | (have H2_ := (Option.bind_some _ _).symm.trans H; rw [hy324]; with_reducible exact H2_) | (have H2_ := (Option.bind_some _ _).symm.trans H; with_reducible exact H2_) | with_reducible exact H | (rw [hy324]; exact H) | exact H
               have Ny324 := Aside0.mk hy324
               clear hy324
               have H' := Aside0.mk H
               clear H
               have p320 : 0 ≤ (x97_3 : Int) := od_
               have q320 : x97_3 < (x8_22.length : Int) := od_
               obtain ⟨ad320, e320, hx320_0⟩ := Kd.at_int (Kd.R_reads' HO_95.out).2.2 x97_3 p320 q320
               cases e320
               replace p320 := eq_true p320
               replace q320 := eq_true q320
               go_wp2_with (first | ((with_reducible refine gate_callee (f := 93) rfl ?_); refine goesL_ (some 105) rfl rfl Tryd.func93 (by kernel_rfl) rfl #[.slice A0 l0.length c0, .int .i64 x5_3, .int .i64 (rd x8_22 x97_3)] rfl gl_ ?_; (with_reducible refine (impl_GetField.calls k3 _ _ l0 x5_3 (rd x8_22 x97_3) t321 t322 true _ ?side1 ?side2 A50.out).mono ?_); (case side1 => exact ca_ (Kd.C_below HR0.out HB.out)); (case side2 => exact HC0.out); rintro e w53 ⟨rfl, hb⟩; refine ⟨_, rfl, ?_⟩; replace HO_95 := Aside0.mk (Kd.R_below (ra_ HO_95) hb); replace HO_320001 := Aside0.mk (Kd.R_below (ra_ HO_320001) hb); replace BK292 := Aside0.mk (blk_below (bk_ BK292) hb); replace BK319 := Aside0.mk (blk_below (bk_ BK319) hb); replace HB := Aside0.mk (below_step bl_ hb); (try clear hb); (try clear hb2); (try clear hk); (try clear hi); have hnb54 := NB319_292.out; have hnc54 := NB292_319.out; obtain ⟨hcz55_0, hcz55_1, hfz55_0, hfz55_1⟩ := bx2_ BK319) | ((with_reducible refine gate_builtin (b := .append) (xs := #[.tmp 113, .tmp 117]) rfl ?_); (try (refine gate_guard (by rfl) ?_; dsimp only)); at_builtin; refine Kd.R_append k67 (w0 := w) w.heap.size rfl (.tmp 113) (.tmp 117) 40 67 (.agg #[(.int .i64 0), (.string ⟨#[]⟩)]) 24 rfl Tryd.underlying40 info67 rfl (by decide) (by omega) u320001 x320001_3 (⟨rd x8_22 x97_3, t321⟩ : S67) [.int .i64 (rd x8_22 x97_3), .string t321] (fun _ => True) (fun _ => False) rfl rfl ?aP (fun _ hk => hk.elim) ?aF ?aO ?aB ?aS ?aL ?_; (case aP => exact k67_mkM _ _ _ (⟨rd x8_22 x97_3, t321⟩ : S67)); (case aB => exact bl_); (case aF => exact (fun _ _ => trivial)); (case aO => exact (ra_ HO_320001)); (case aS => exact (below_size bl_)); (case aL => have := LMc52.out; omega); intro v325 w56 ho hb hg hat; rw [← Ny324.out] at ho; have n0_ := Aside0.mk (Kd.R_over' (ra_ HO_95) (Kd.R_typed (ra_ HO_320001)) (by decide) hg); have n1_ := Aside0.mk (blk_grown (bk_ BK292) hg (Kd.R_ne HO_320001.out BK292.out (by decide))); have n2_ := Aside0.mk (blk_grown (bk_ BK319) hg (Kd.R_ne HO_320001.out BK319.out (by decide))); have n3_ := Aside0.mk (hb); have n4_ := Aside0.mk (ho); clear HO_95; clear BK292; clear BK319; clear HB; clear HO_320001; have HO_95 := n0_; have BK292 := n1_; have BK319 := n2_; have HB := n3_; have HO326 := n4_; clear n0_ n1_ n2_ n3_ n4_; clear ho hb hg hat; obtain ⟨Ao57, co57, eo57⟩ := Kd.R_slice HO326.out; subst eo57; obtain ⟨hcz58_0, hcz58_1, hfz58_0, hfz58_1⟩ := bx2_ BK319))
               go_roundg k3
               case measure => have := HK1.out; have := HJ22.out; have := HK3.out; omega
               case rel => exact ⟨(t322), (wrap64 (x97_3 + 1)), (x293000_3), (y324), (.slice Ao57 y324.length co57), sp_, sp_, H', ⟨by have := HK1.out; have := HJ22.out; have := HK3.out; omega⟩, ⟨by (with_reducible repeat (first | apply Kd.R_alloc | apply Kd.R_drewN | apply Kd.R_drew)); exact Kd.R_mono (Kd.R_far (p := ⟨gb319, 1, none⟩) (Kd.R_types HO_95.out BK319.out (by decide)) (fun _ hk => hk.2) (.slice Ao57 y324.length co57)) (fun _ hk => trivial)⟩, ⟨by (with_reducible repeat (first | apply Kd.R_alloc | apply Kd.R_drewN | apply Kd.R_drew)); exact Kd.R_mono (Kd.R_far (p := ⟨gb319, 1, none⟩) (Kd.R_types HO326.out BK319.out (by decide)) (fun _ hk => hk.2) (.slice Ao57 y324.length co57)) (fun _ hk => trivial)⟩, ⟨by (with_reducible repeat (first | refine blk_drewN ?_ _ | refine blk_drew ?_ | refine blk_alloc ?_ _)); refine blk_far ?_ NB292_319.out _; (with_reducible repeat (first | refine blk_drewN ?_ _ | refine blk_drew ?_ | refine blk_alloc ?_ _)); exact BK292.out⟩, ⟨by (with_reducible repeat (first | refine blk_drewN ?_ _ | refine blk_drew ?_ | refine blk_alloc ?_ _)); apply bq2_1_; (with_reducible repeat (first | refine blk_drewN ?_ _ | refine blk_drew ?_ | refine blk_alloc ?_ _)); exact BK319.out⟩, ⟨bl_⟩⟩
              ·rw [if_neg c52] at H
               exact absurd H (by simp)
             ·replace c51 := Bool.eq_false_iff.mpr c51
              subst c51
              replace H := in_ H
              simp only [Option.some.injEq, Prod.mk.injEq] at H
              obtain ⟨rfl, rfl, rfl⟩ := H
              have p320 : 0 ≤ (x97_3 : Int) := od_
              have q320 : x97_3 < (x8_22.length : Int) := od_
              obtain ⟨ad320, e320, hx320_0⟩ := Kd.at_int (Kd.R_reads' HO_95.out).2.2 x97_3 p320 q320
              cases e320
              replace p320 := eq_true p320
              replace q320 := eq_true q320
              go_wp2_with (first | ((with_reducible refine gate_callee (f := 93) rfl ?_); refine goesL_ (some 105) rfl rfl Tryd.func93 (by kernel_rfl) rfl #[.slice A0 l0.length c0, .int .i64 x5_3, .int .i64 (rd x8_22 x97_3)] rfl gl_ ?_; (with_reducible refine (impl_GetField.calls k3 _ _ l0 x5_3 (rd x8_22 x97_3) t321 t322 false _ ?side1 ?side2 A50.out).mono ?_); (case side1 => exact ca_ (Kd.C_below HR0.out HB.out)); (case side2 => exact HC0.out); rintro e w59 ⟨rfl, hb⟩; refine ⟨_, rfl, ?_⟩; replace HO_95 := Aside0.mk (Kd.R_below (ra_ HO_95) hb); replace HO_320001 := Aside0.mk (Kd.R_below (ra_ HO_320001) hb); replace BK292 := Aside0.mk (blk_below (bk_ BK292) hb); replace BK319 := Aside0.mk (blk_below (bk_ BK319) hb); replace HB := Aside0.mk (below_step bl_ hb); (try clear hb); (try clear hb2); (try clear hk); (try clear hi); have hnb60 := NB292_319.out; have hnc60 := NB319_292.out; obtain ⟨hcz61_0, hcz61_1, hfz61_0, hfz61_1⟩ := bx2_ BK292))
              refine bodyPost_ret (results_ct rfl _ _ gb292 42 #[.string (⟨#[]⟩ : ByteArray), .slice none 0 0] (0, 0) _ rfl (by (with_reducible repeat (first | refine blk_drewN ?_ _ | refine blk_drew ?_ | refine blk_alloc ?_ _)); apply bq2_1_0_; (with_reducible repeat (first | refine blk_drewN ?_ _ | refine blk_drew ?_ | refine blk_alloc ?_ _)); exact BK292.out) Tryd.underlying42 rfl (by kernel_rfl)) rfl ?_
              exact ⟨_, by first | rfl | (simp [errW_none, errW_some] <;> rfl) | (simp [*, errW_none, errW_some] <;> rfl), by first | exact Kd.R_nil _ _ _ _ _ | exact Kd.N_nil _ _ _ _ _ | exact Kd.V_nil _ _ _ _ _ | exact Kd.Q_nil _ _ _ _ _ | exact Kd.S_nil _ _ _ _ _, bl_⟩
            ·rw [if_neg c49] at H
             exact absurd H (by simp)
           ·rw [if_neg c48] at H
            exact absurd H (by simp)
          ·rw [if_neg c47] at H
           have c47b0 : decide (x97_3 < (x8_22.length : Int)) = false := decide_eq_false c47
           clear c47
           by_cases c62 : x5_3 = (l0.length : Int)
           ·rw [if_pos c62] at H
            have c62b0 : (x5_3 == (l0.length : Int)) = true := beq_iff_eq.mpr c62
            have c62b1 : (x5_3 != (l0.length : Int)) = false := bne_eq_false_iff_eq.mpr c62
            clear c62
            simp only [Option.some.injEq, Prod.mk.injEq] at H
            obtain ⟨rfl, rfl, rfl⟩ := H
            have hnb63 := NB319_292.out
            have hnc63 := NB292_319.out
            have hcz64_0 := cz_ BK319 0 (.string t293)
            have hcz64_1 := cz_ BK319 1 (u320001)
            have hfz64_0 := fz_ BK319 0
            have hfz64_1 := fz_ BK319 1
            have hcz65_0 := cz_ BK292 0 (.string x293000_3)
            have hcz65_1 := cz_ BK292 1 (.slice none 0 0)
            have hfz65_0 := fz_ BK292 0
            have hfz65_1 := fz_ BK292 1
            obtain ⟨Ao66, co66, eo66⟩ := Kd.R_slice HO_320001.out
            subst eo66
            go_wp2
            refine bodyPost_ret (results_ct rfl _ _ gb292 42 #[.string t293, .slice Ao66 x320001_3.length co66] (0, 0) _ rfl (by (with_reducible repeat (first | refine blk_drewN ?_ _ | refine blk_drew ?_ | refine blk_alloc ?_ _)); apply bq2_1_0_; (with_reducible repeat (first | refine blk_drewN ?_ _ | refine blk_drew ?_ | refine blk_alloc ?_ _)); exact BK292.out) Tryd.underlying42 rfl (by kernel_rfl)) rfl ?_
            exact ⟨_, by first | rfl | (simp [errW_none, errW_some] <;> rfl) | (simp [*, errW_none, errW_some] <;> rfl), by (with_reducible repeat (first | apply Kd.R_alloc | apply Kd.R_drewN | apply Kd.R_drew)); exact Kd.R_mono (Kd.R_far (p := ⟨gb292, 1, none⟩) (Kd.R_far (p := ⟨gb292, 0, none⟩) (Kd.R_types HO_320001.out BK292.out (by decide)) (fun _ hk => hk.2) (.string t293)) (fun _ hk => hk.2) (.slice Ao66 x320001_3.length co66)) (fun _ hk => trivial), bl_⟩
           ·rw [if_neg c62] at H
            have c62b0 : (x5_3 == (l0.length : Int)) = false := beq_eq_false_iff_ne.mpr c62
            have c62b1 : (x5_3 != (l0.length : Int)) = true := bne_iff_ne.mpr c62
            simp only [Option.some.injEq, Prod.mk.injEq] at H
            obtain ⟨rfl, rfl, rfl⟩ := H
            have hnb67 := NB292_319.out
            have hnc67 := NB319_292.out
            have hcz68_0 := cz_ BK292 0 (.string x293000_3)
            have hcz68_1 := cz_ BK292 1 (.slice none 0 0)
            have hfz68_0 := fz_ BK292 0
            have hfz68_1 := fz_ BK292 1
            go_wp2
            refine bodyPost_ret (results_ct rfl _ _ gb292 42 #[.string (⟨#[]⟩ : ByteArray), .slice none 0 0] (0, 0) _ rfl (by (with_reducible repeat (first | refine blk_drewN ?_ _ | refine blk_drew ?_ | refine blk_alloc ?_ _)); apply bq2_1_0_; (with_reducible repeat (first | refine blk_drewN ?_ _ | refine blk_drew ?_ | refine blk_alloc ?_ _)); exact BK292.out) Tryd.underlying42 rfl (by kernel_rfl)) rfl ?_
            exact ⟨_, by first | rfl | (simp [errW_none, errW_some] <;> rfl) | (simp [*, errW_none, errW_some] <;> rfl), by first | exact Kd.R_nil _ _ _ _ _ | exact Kd.N_nil _ _ _ _ _ | exact Kd.V_nil _ _ _ _ _ | exact Kd.Q_nil _ _ _ _ _ | exact Kd.S_nil _ _ _ _ _, bl_⟩
  ·replace c5 := Bool.eq_false_iff.mpr c5
   subst c5
   replace H := in_ H
   simp only [Option.some.injEq, Prod.mk.injEq] at H
   obtain ⟨rfl, rfl, rfl⟩ := H
   go_enter Tryd.func47, Tryd.ntmps47
   go_wp2_with (first | ((with_reducible refine gate_dst (N := 2) rfl ?_); (try (refine gate_guard (by rfl) ?_; dsimp only)); refine be_ (N := 2) (cs := #[.string (⟨#[]⟩ : ByteArray), .slice none 0 0]) (t := 42) ?_; intro gb292 hg w69 hbox hb; have BK292 := Aside0.mk (hbox); have GW292 := gw_ (w := w) hg; have GE292 := gw_ (w := w) hg; replace HB := Aside0.mk (below_step bl_ hb); clear hb hbox hg) | ((with_reducible refine gate_callee (f := 91) rfl ?_); refine goesL_ (some 23) rfl rfl Tryd.func91 (by kernel_rfl) rfl #[.slice A0 l0.length c0, .int .i64 0, .int .i64 4] rfl gl_ ?_; (with_reducible refine (impl_GetBcd.calls k _ _ l0 0 4 t293 t294 true _ ?side1 ?side2 A2.out).mono ?_); (case side1 => exact ca_ (Kd.C_below HR0.out HB.out)); (case side2 => exact HC0.out); rintro e w70 ⟨rfl, hb⟩; refine ⟨_, rfl, ?_⟩; replace BK292 := Aside0.mk (blk_below (bk_ BK292) hb); replace HB := Aside0.mk (below_step bl_ hb); (try clear hb); (try clear hb2); (try clear hk); (try clear hi)) | ((with_reducible refine gate_callee (f := 92) rfl ?_); refine goesL_ (some 33) rfl rfl Tryd.func92 (by kernel_rfl) rfl #[.slice A0 l0.length c0, .int .i64 t294] rfl gl_ ?_; (with_reducible refine (impl_GetBits.calls k _ _ l0 t294 t296 t297 false _ ?side1 ?side2 A4.out).mono ?_); (case side1 => exact ca_ (Kd.C_below HR0.out HB.out)); (case side2 => exact HC0.out); rintro e w71 ⟨v299, rfl, ho0, hb⟩; refine ⟨_, rfl, ?_⟩; have HO300 := Aside0.mk (Kd.R_lower ho0 (below_size bl_)); replace BK292 := Aside0.mk (blk_below (bk_ BK292) hb); replace HB := Aside0.mk (below_step bl_ hb); (try clear hb); (try clear hb2); (try clear hk); (try clear hi); (try clear ho0); obtain ⟨hcz72_0, hcz72_1, hfz72_0, hfz72_1⟩ := bx2_ BK292))
   refine bodyPost_ret (results_ct rfl _ _ gb292 42 #[.string (⟨#[]⟩ : ByteArray), .slice none 0 0] (0, 0) _ rfl (by (with_reducible repeat (first | refine blk_drewN ?_ _ | refine blk_drew ?_ | refine blk_alloc ?_ _)); apply bq2_1_0_; (with_reducible repeat (first | refine blk_drewN ?_ _ | refine blk_drew ?_ | refine blk_alloc ?_ _)); exact BK292.out) Tryd.underlying42 rfl (by kernel_rfl)) rfl ?_
   exact ⟨_, by first | rfl | (simp [errW_none, errW_some] <;> rfl) | (simp [*, errW_none, errW_some] <;> rfl), by first | exact Kd.R_nil _ _ _ _ _ | exact Kd.N_nil _ _ _ _ _ | exact Kd.V_nil _ _ _ _ _ | exact Kd.Q_nil _ _ _ _ _ | exact Kd.S_nil _ _ _ _ _, bl_⟩
 ·replace c3 := Bool.eq_false_iff.mpr c3
  subst c3
  replace H := in_ H
  simp only [Option.some.injEq, Prod.mk.injEq] at H
  obtain ⟨rfl, rfl, rfl⟩ := H
  go_enter Tryd.func47, Tryd.ntmps47
  go_wp2_with (first | ((with_reducible refine gate_dst (N := 2) rfl ?_); (try (refine gate_guard (by rfl) ?_; dsimp only)); refine be_ (N := 2) (cs := #[.string (⟨#[]⟩ : ByteArray), .slice none 0 0]) (t := 42) ?_; intro gb292 hg w73 hbox hb; have BK292 := Aside0.mk (hbox); have GW292 := gw_ (w := w) hg; have GE292 := gw_ (w := w) hg; replace HB := Aside0.mk (below_step bl_ hb); clear hb hbox hg) | ((with_reducible refine gate_callee (f := 91) rfl ?_); refine goesL_ (some 23) rfl rfl Tryd.func91 (by kernel_rfl) rfl #[.slice A0 l0.length c0, .int .i64 0, .int .i64 4] rfl gl_ ?_; (with_reducible refine (impl_GetBcd.calls k _ _ l0 0 4 t293 t294 false _ ?side1 ?side2 A2.out).mono ?_); (case side1 => exact ca_ (Kd.C_below HR0.out HB.out)); (case side2 => exact HC0.out); rintro e w74 ⟨rfl, hb⟩; refine ⟨_, rfl, ?_⟩; replace BK292 := Aside0.mk (blk_below (bk_ BK292) hb); replace HB := Aside0.mk (below_step bl_ hb); (try clear hb); (try clear hb2); (try clear hk); (try clear hi); obtain ⟨hcz75_0, hcz75_1, hfz75_0, hfz75_1⟩ := bx2_ BK292))
  refine bodyPost_ret (results_ct rfl _ _ gb292 42 #[.string (⟨#[]⟩ : ByteArray), .slice none 0 0] (0, 0) _ rfl (by (with_reducible repeat (first | refine blk_drewN ?_ _ | refine blk_drew ?_ | refine blk_alloc ?_ _)); apply bq2_1_0_; (with_reducible repeat (first | refine blk_drewN ?_ _ | refine blk_drew ?_ | refine blk_alloc ?_ _)); exact BK292.out) Tryd.underlying42 rfl (by kernel_rfl)) rfl ?_
  exact ⟨_, by first | rfl | (simp [errW_none, errW_some] <;> rfl) | (simp [*, errW_none, errW_some] <;> rfl), by first | exact Kd.R_nil _ _ _ _ _ | exact Kd.N_nil _ _ _ _ _ | exact Kd.V_nil _ _ _ _ _ | exact Kd.Q_nil _ _ _ _ _ | exact Kd.S_nil _ _ _ _ _, bl_⟩
end Go.Proofs.YtbjpfknmkpnhjaaDoor.QFnExactReplyCode
