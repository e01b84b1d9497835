-- by my own printer (myprint.py, over the kit's print.py)
import Derived.Test.YtbjpfknmkpnhjaaDoorQFnExactReplyCodex0
import Derived.Test.YtbjpfknmkpnhjaaDoorQFnExactReplyCodex2
namespace Go.Proofs.YtbjpfknmkpnhjaaDoor.QFnExactReplyCode
open Go.RowKit Go.Proofs.YtbjpfknmkpnhjaaDoorW.PrintWords Go.Proofs.YtbjpfknmkpnhjaaDoorW.PrintLast Go.Proofs.YtbjpfknmkpnhjaaDoorW.PrintMore
attribute [local go_sem] max2_int min2_int max_two min_two max_three min_three max_four min_four   -- for this text's walks alone
set_option linter.unusedVariables false
set_option linter.unusedSimpArgs false
attribute [local go_sem] my_geq my_leq my_gtr
/-! ### spec_l04Nos: function 88 -/
mutual
def spec_l04Nos.l0 : Nat → List Int → Int → List Int → Bool → List Int → Int → Int → Option (List Int × Int × Bool)
 | 0, _, _, _, _, _, _, _ => none
 | k + 1, x0, x6, x8, x9, x28, x29, x30 => if x30 < x29 then (if 0 ≤ x30 then (if x30 < (x28.length : Int) then (if (rd x28 x30) = 1 then (spec_l04Nos.l0 k x0 x6 x8 true x28 x29 (wrap64 (x30 + 1))) else (if x8.length < 17592186044416 then (spec_l04Nos.l0 k x0 x6 (x8 ++ [rd x28 x30]) x9 x28 x29 (wrap64 (x30 + 1))) else (none))) else (none)) else (none)) else (if x9 = true then ((spec_GetBits.f k x0 x6).bind fun bt127 => (if bt127.2.2 = true then (spec_l04Nos.j1 k x8 bt127.1 bt127.2.1 ((bt127.1.length : Int) == 0)) else (spec_l04Nos.j1 k x8 bt127.1 bt127.2.1 true))) else (spec_l04Nos.j3 k x6 x8))
def spec_l04Nos.j3 : Nat → Int → List Int → Option (List Int × Int × Bool)
 | 0, _, _ => none
 | k + 1, x6, x8 => spec_l04Nos.l2 k x6 x8 x8 (x8.length : Int) 0
def spec_l04Nos.l2 : Nat → Int → List Int → List Int → Int → Int → Option (List Int × Int × Bool)
 | 0, _, _, _, _, _ => none
 | k + 1, x6, x8, x69, x70, x71 => if x71 < x70 then (if 0 ≤ x71 then (if x71 < (x69.length : Int) then ((spec_FieldKind.f k (rd x69 x71)).bind fun t137 => (if t137 = 0 then (some (([] : List Int), 0, false)) else (spec_l04Nos.l2 k x6 x8 x69 x70 (wrap64 (x71 + 1))))) else (none)) else (none)) else (some (x8, x6, true))
def spec_l04Nos.j1 : Nat → List Int → List Int → Int → Bool → Option (List Int × Int × Bool)
 | 0, _, _, _, _ => none
 | k + 1, x8, x12, x13, x55 => if x55 = true then (some (([] : List Int), 0, false)) else (spec_l04Nos.l1 k x8 x13 x12 (x12.length : Int) 0)
def spec_l04Nos.l1 : Nat → List Int → Int → List Int → Int → Int → Option (List Int × Int × Bool)
 | 0, _, _, _, _, _ => none
 | k + 1, x8, x13, x56, x57, x58 => if x58 < x57 then (if 0 ≤ x58 then (if x58 < (x56.length : Int) then (if x8.length < 17592186044416 then (spec_l04Nos.l1 k (x8 ++ [wrap64 ((rd x56 x58) + 64)]) x13 x56 x57 (wrap64 (x58 + 1))) else (none)) else (none)) else (none)) else (spec_l04Nos.j3 k x13 x8)
end
def spec_l04Nos.f (k : Nat) (l0 : List Int) : Option (List Int × Int × Bool) := (spec_GetBits.f k l0 2).bind fun bt115 => (if bt115.2.2 = true then (spec_l04Nos.l0 k l0 bt115.2.1 (([] : List Int)) false bt115.1 (bt115.1.length : Int) 0) else (some (([] : List Int), 0, false)))
set_option maxHeartbeats 8000000 in
set_option maxRecDepth 100000 in
theorem spec_l04Nos.calls (k : Nat) (A0 : Option Addr) (c0 : Nat) (l0 : List Int) (r1 : List Int) (r2 : Int) (r3 : Bool) (w : World) (hr0 : Kd.C (Kd.int .u8) w A0 l0.length l0) (hc0 : l0.length ≤ c0) (h : spec_l04Nos.f k l0 = some (r1, r2, r3)) :
  Calls Tryd.prog 88 #[.slice A0 l0.length c0] w fun e w' => ∃ v0_ : Value, e = .returned (.tuple #[v0_, .int .i64 r2, .bool r3]) ∧ Kd.R (Kd.int .i64) 3 w' w.heap.size (fun _ => True) v0_ r1 ∧ Below w.heap.size w w' := by
 have HR0 := Aside0.mk hr0
 have HC0 := Aside0.mk hc0
 clear hr0 hc0
 have HB := Aside0.mk (Below.refl w.heap.size w)
 have H : ((spec_GetBits.f k l0 2).bind fun bt115 => (if bt115.2.2 = true then (spec_l04Nos.l0 k l0 bt115.2.1 (([] : List Int)) false bt115.1 (bt115.1.length : Int) 0) else (some (([] : List Int), 0, false)))) = some (r1, r2, r3) := h
 clear h
 obtain ⟨⟨t115, t116, t117⟩, A2, H⟩ := ob_ H
 (try dsimp only at H)
 by_cases c3 : t117 = true
 ·subst c3
  replace H := ip_ H
  obtain ⟨y120, hy120⟩ : ∃ y_ : List Int, y_ = (([] : List Int)) := ⟨_, rfl⟩
  replace H : (spec_l04Nos.l0 k l0 t116 y120 false t115 (t115.length : Int) 0) = some (r1, r2, r3) := by first | (rw [hy120]; with_reducible exact H) | (have H2_ := (Option.bind_some _ _).symm.trans H; rw [hy120]; with_reducible exact H2_) | (have H2_ := (Option.bind_some _ _).symm.trans H; with_reducible exact H2_) | with_reducible exact H | (rw [hy120]; exact H) | exact H
  have Ny120 := Aside0.mk hy120
  clear hy120
  have H' := Aside0.mk H
  clear H
  go_enter Tryd.func88, Tryd.ntmps88
  go_wp2_with (first | ((with_reducible refine gate_callee (f := 128) rfl ?_); refine goesL_ (some 21) rfl rfl Tryd.func128 (by kernel_rfl) rfl #[.slice A0 l0.length c0, .int .i64 2] rfl gl_ ?_; (with_reducible refine (spec_GetBits.calls k _ _ l0 2 t115 t116 true _ ?side1 ?side2 A2.out).mono ?_); (case side1 => exact ca_ (HR0.out)); (case side2 => exact HC0.out); rintro e w4 ⟨v118, rfl, ho0, hb⟩; refine ⟨_, rfl, ?_⟩; have HO119 := Aside0.mk (Kd.R_lower ho0 (below_size bl_)); replace HB := Aside0.mk (below_step bl_ hb); (try clear hb); (try clear hb2); (try clear hk); (try clear hi); (try clear ho0)) | ((with_reducible refine gate_dst (N := 27) rfl ?_); (try (refine gate_guard (by rfl) ?_; dsimp only)); refine Kd.R_lit (Kd.int .i64) _ 3 ?hg (N := 27) ?hd (xs := ([] : List Int)) (inner := []) (ok := fun _ => True) (okp := fun _ => True) ?hr ?hp (fun _ hk => hk) trivial (Below.refl _ _) (Nat.le_refl _) (by simp) ?_; (case hd => rfl); (case hg => rfl); (case hr => first | (go_simp; done) | (go_simp; rfl)); (case hp => exact (Reps.none _ _)); intro v121 w5 ho6 hb hg_ hnew_; clear hg_ hnew_; (first | rw [← Ny120.out] at ho6 | (simp only [Int.reduceToNat] at ho6; rw [← Ny120.out] at ho6)); have HO122 := Aside0.mk (Kd.R_lower (Kd.R_new' ho6 (Kd.R_lt (ra_ HO119))) (below_size bl_)); replace HO119 := Aside0.mk (Kd.R_elder' (ra_ HO119) (Kd.R_base ho6) hb); replace HB := Aside0.mk (below_step bl_ hb); clear hb ho6; obtain ⟨Ao7, co7, eo7⟩ := Kd.R_slice HO119.out; subst eo7))
  go_loopg [8, 9, 30] k (fun kq v8 v9 v30 w' => ∃ (x8_1 : List Int) (x9_1 : Bool) (x30_1 : Int), v9 = .bool x9_1 ∧ v30 = .int .i64 x30_1 ∧ Aside0 (spec_l04Nos.l0 kq l0 t116 x8_1 x9_1 t115 (t115.length : Int) x30_1 = some (r1, r2, r3)) ∧ Aside0 (kq ≤ k) ∧ Aside0 (Kd.R (Kd.int .i64) 3 w' w.heap.size (fun k_ => some k_ ≠ ((.slice Ao7 t115.length co7) : Value).ownBlock) v8 x8_1) ∧ Aside0 (Kd.R (Kd.int .i64) 3 w' w.heap.size (fun k_ => some k_ ≠ (v8 : Value).ownBlock) (.slice Ao7 t115.length co7) t115) ∧ Aside0 (Below w.heap.size w w'))
  case atStart => exact ⟨(y120), (false), (0), sp_, sp_, H', ⟨Nat.le_refl _⟩, ⟨by (with_reducible repeat (first | apply Kd.R_alloc | apply Kd.R_drewN | apply Kd.R_drew)); exact Kd.R_mono HO122.out (fun _ hk => hk.2)⟩, ⟨by (with_reducible repeat (first | apply Kd.R_alloc | apply Kd.R_drewN | apply Kd.R_drew)); exact Kd.R_mono HO119.out (fun _ hk => hk.2)⟩, ⟨bl_⟩⟩
  case round =>
   clear H'
   try clear c1
   try clear p2
   try clear c3
   obtain ⟨x8_1, x9_1, x30_1, rfl, rfl, HA, HK1, HO_8, HO_28, HB⟩ := hrel
   cases gk with
   | zero => exact absurd HA.out (by simp [spec_l04Nos.l0])
   | succ k1 =>
    have H := HA.out
    clear HA
    simp only [spec_l04Nos.l0] at H
    by_cases c8 : x30_1 < (t115.length : Int)
    ·rw [if_pos c8] at H
     have c8b0 : decide (x30_1 < (t115.length : Int)) = true := decide_eq_true c8
     clear c8
     by_cases c9 : 0 ≤ x30_1
     ·rw [if_pos c9] at H
      have c9b0 : decide (0 ≤ x30_1) = true := decide_eq_true c9
      clear c9
      by_cases c10 : x30_1 < (t115.length : Int)
      ·rw [if_pos c10] at H
       have c10b0 : decide (x30_1 < (t115.length : Int)) = true := decide_eq_true c10
       clear c10
       by_cases c11 : (rd t115 x30_1) = 1
       ·rw [if_pos c11] at H
        have c11b0 : ((rd t115 x30_1) == 1) = true := beq_iff_eq.mpr c11
        have c11b1 : ((rd t115 x30_1) != 1) = false := bne_eq_false_iff_eq.mpr c11
        clear c11
        have H' := Aside0.mk H
        clear H
        have p123 : 0 ≤ (x30_1 : Int) := od_
        have q123 : x30_1 < (t115.length : Int) := od_
        obtain ⟨ad123, e123, hx123_0⟩ := Kd.at_int (Kd.R_reads' HO_28.out).2.2 x30_1 p123 q123
        cases e123
        replace p123 := eq_true p123
        replace q123 := eq_true q123
        go_wp2
        go_roundg k1
        case measure => have := HK1.out; omega
        case rel => exact ⟨(x8_1), (true), (wrap64 (x30_1 + 1)), sp_, sp_, H', ⟨by have := HK1.out; omega⟩, ⟨ra_ HO_8⟩, ⟨ra_ HO_28⟩, ⟨bl_⟩⟩
       ·rw [if_neg c11] at H
        have c11b0 : ((rd t115 x30_1) == 1) = false := beq_eq_false_iff_ne.mpr c11
        have c11b1 : ((rd t115 x30_1) != 1) = true := bne_iff_ne.mpr c11
        by_cases c12 : x8_1.length < 17592186044416
        ·rw [if_pos c12] at H
         have LMc12 := Aside0.mk c12
         clear c12
         obtain ⟨y124, hy124⟩ : ∃ y_ : List Int, y_ = (x8_1 ++ [rd t115 x30_1]) := ⟨_, rfl⟩
         replace H : (spec_l04Nos.l0 k1 l0 t116 y124 x9_1 t115 (t115.length : Int) (wrap64 (x30_1 + 1))) = some (r1, r2, r3) := by first | (rw [hy124]; with_reducible exact H) | (have H2_ := (Option.bind_some _ _).symm.trans H; rw [hy124]; with_reducible exact H2_) | (have H2_ := (Option.bind_some _ _).symm.trans H; with_reducible exact H2_) | with_reducible exact H | (rw [hy124]; exact H) | exact H
         have Ny124 := Aside0.mk hy124
         clear hy124
         have H' := Aside0.mk H
         clear H
         have p123 : 0 ≤ (x30_1 : Int) := od_
         have q123 : x30_1 < (t115.length : Int) := od_
         obtain ⟨ad123, e123, hx123_0⟩ := Kd.at_int (Kd.R_reads' HO_28.out).2.2 x30_1 p123 q123
         cases e123
         replace p123 := eq_true p123
         replace q123 := eq_true q123
         go_wp2_with (first | ((with_reducible refine gate_builtin (b := .append) (xs := #[.tmp 36, .tmp 38]) rfl ?_); (try (refine gate_guard (by rfl) ?_; dsimp only)); at_builtin; refine Kd.R_append (Kd.int .i64) (w0 := w) w.heap.size rfl (.tmp 36) (.tmp 38) 24 3 (.int .i64 0) 8 rfl Tryd.underlying24 info3 rfl (by decide) (by omega) u8 x8_1 (rd t115 x30_1) [.int .i64 (rd t115 x30_1)] (fun k_ => some k_ ≠ (.slice (some ad123) t115.length co7 : Value).ownBlock) (fun _ => False) rfl rfl ?aP (fun _ hk => hk.elim) ?aF ?aO ?aB ?aS ?aL ?_; (case aP => exact rfl); (case aB => exact bl_); (case aF => exact (fun k_ hk => Kd.fresh' (Kd.R_lt (ra_ HO_28)) k_ hk)); (case aO => exact (ra_ HO_8)); (case aS => exact (below_size bl_)); (case aL => have := LMc12.out; omega); intro v125 w13 ho hb hg hat; rw [← Ny124.out] at ho; have n0_ := Aside0.mk (Kd.R_after (ok := (fun _ => True)) (by (with_reducible repeat (first | apply Kd.R_alloc | apply Kd.R_drewN | apply Kd.R_drew)); exact Kd.R_mono HO_28.out (fun _ hk => ⟨trivial, hk⟩)) hg hat); have n1_ := Aside0.mk (hb); have n2_ := Aside0.mk (ho); clear HO_28; clear HB; clear HO_8; have HO_28 := n0_; have HB := n1_; have HO126 := n2_; clear n0_ n1_ n2_; clear ho hb hg hat))
         go_roundg k1
         case measure => have := HK1.out; omega
         case rel => exact ⟨(y124), (x9_1), (wrap64 (x30_1 + 1)), sp_, sp_, H', ⟨by have := HK1.out; omega⟩, ⟨ra_ HO126⟩, ⟨by (with_reducible repeat (first | apply Kd.R_alloc | apply Kd.R_drewN | apply Kd.R_drew)); exact Kd.R_mono HO_28.out (fun _ hk => hk.2)⟩, ⟨bl_⟩⟩
        ·rw [if_neg c12] at H
         exact absurd H (by simp)
      ·rw [if_neg c10] at H
       exact absurd H (by simp)
     ·rw [if_neg c9] at H
      exact absurd H (by simp)
    ·rw [if_neg c8] at H
     have c8b0 : decide (x30_1 < (t115.length : Int)) = false := decide_eq_false c8
     clear c8
     have HC14 := Aside0.mk H
     clear H
     go_upto_if 41 with (fail)
     go_cut [6, 8] (fun v6 v8 wc => ∃ (kq : Nat) (x6_13 : Int) (x8_13 : List Int), v6 = .int .i64 x6_13 ∧ Aside0 (spec_l04Nos.j3 kq x6_13 x8_13 = some (r1, r2, r3)) ∧ Aside0 (kq ≤ k1) ∧ Aside0 (Kd.R (Kd.int .i64) 3 wc w.heap.size (fun _ => True) v8 x8_13) ∧ Aside0 (Below w.heap.size w wc))
     case first =>
      have H := HC14.out
      clear HC14
      by_cases c15 : x9_1 = true
      ·subst c15
       replace H := ip_ H
       obtain ⟨⟨t127, t128, t129⟩, A16, H⟩ := ob_ H
       (try dsimp only at H)
       have HC17 := Aside0.mk H
       clear H
       go_upto_region 15 with (first | ((with_reducible refine gate_callee (f := 128) rfl ?_); refine goesL_ (some 45) rfl rfl Tryd.func128 (by kernel_rfl) rfl #[.slice A0 l0.length c0, .int .i64 t116] rfl gl_ ?_; (with_reducible refine (spec_GetBits.calls k1 _ _ l0 t116 t127 t128 t129 _ ?side1 ?side2 A16.out).mono ?_); (case side1 => exact ca_ (Kd.C_below HR0.out HB.out)); (case side2 => exact HC0.out); rintro e w18 ⟨v130, rfl, ho0, hb⟩; refine ⟨_, rfl, ?_⟩; have HO131 := Aside0.mk (Kd.R_lower (Kd.R_new' (Kd.R_new' ho0 (Kd.R_lt (ra_ HO_8))) (Kd.R_lt (ra_ HO_28))) (below_size bl_)); replace HO_8 := Aside0.mk (Kd.R_elder' (ra_ HO_8) (Kd.R_base ho0) hb); replace HO_28 := Aside0.mk (Kd.R_elder' (ra_ HO_28) (Kd.R_base ho0) hb); replace HB := Aside0.mk (below_step bl_ hb); (try clear hb); (try clear hb2); (try clear hk); (try clear hi); (try clear ho0)))
       (try simp only [Act.put, List.setIfInBounds_toArray, List.set_cons_zero, List.set_cons_succ])
       go_cut [55] (fun v55 wc => ∃ (kq : Nat) (x55_16 : Bool), v55 = .bool x55_16 ∧ Aside0 (spec_l04Nos.j1 kq x8_1 t127 t128 x55_16 = some (r1, r2, r3)) ∧ Aside0 (kq ≤ k1) ∧ Aside0 (Kd.R (Kd.int .i64) 3 wc w.heap.size (fun k_ => some k_ ≠ (v130 : Value).ownBlock) u8 x8_1) ∧ Aside0 (Kd.R (Kd.int .i64) 3 wc w.heap.size (fun k_ => some k_ ≠ (u8 : Value).ownBlock) v130 t127) ∧ Aside0 (Below w.heap.size w wc))
       case first =>
        have H := HC17.out
        clear HC17
        by_cases c19 : t129 = true
        ·subst c19
         replace H := ip_ H
         have H' := Aside0.mk H
         clear H
         obtain ⟨Ao20, co20, eo20⟩ := Kd.R_slice HO131.out
         subst eo20
         go_wp2
         go_meet
         case rel => exact ⟨_, (((t127.length : Int) == 0)), sp_, H', ⟨by have := HK1.out; first | omega | exact Nat.le_refl _⟩, ⟨by (with_reducible repeat (first | apply Kd.R_alloc | apply Kd.R_drewN | apply Kd.R_drew)); exact Kd.R_mono HO_8.out (fun _ hk => hk.2)⟩, ⟨by (with_reducible repeat (first | apply Kd.R_alloc | apply Kd.R_drewN | apply Kd.R_drew)); exact Kd.R_mono HO131.out (fun _ hk => hk.1.2)⟩, ⟨bl_⟩⟩
        ·replace c19 := Bool.eq_false_iff.mpr c19
         subst c19
         replace H := in_ H
         have H' := Aside0.mk H
         clear H
         go_wp2
         go_meet
         case rel => exact ⟨_, (true), sp_, H', ⟨by have := HK1.out; first | omega | exact Nat.le_refl _⟩, ⟨by (with_reducible repeat (first | apply Kd.R_alloc | apply Kd.R_drewN | apply Kd.R_drew)); exact Kd.R_mono HO_8.out (fun _ hk => hk.2)⟩, ⟨by (with_reducible repeat (first | apply Kd.R_alloc | apply Kd.R_drewN | apply Kd.R_drew)); exact Kd.R_mono HO131.out (fun _ hk => hk.1.2)⟩, ⟨bl_⟩⟩
       case rest =>
        clear HC17
        try clear c1
        try clear p1
        try clear q1
        try clear hx1
        try clear p2
        try clear c3
        try clear p6
        try clear c8
        try clear c8b0
        try clear c9
        try clear c9b0
        try clear c10
        try clear c10b0
        try clear c11
        try clear c11b0
        try clear c11b1
        try clear c12
        try clear p12
        try clear q12
        try clear hx12
        try clear c15
        try clear c19
        try clear hx123_0
        try clear p123
        try clear p2
        try clear q123
        obtain ⟨kq, x55_16, rfl, HA, HJ16, HO_8, HO_12, HB⟩ := hcut
        cases kq with
        | zero => exact absurd HA.out (by simp [spec_l04Nos.j1])
        | succ kj16 =>
         have H := HA.out
         clear HA
         simp only [spec_l04Nos.j1] at H
         by_cases c21 : x55_16 = true
         ·subst c21
          replace H := ip_ H
          simp only [Option.some.injEq, Prod.mk.injEq] at H
          obtain ⟨rfl, rfl, rfl⟩ := H
          go_wp2
          go_ret3
          exact ⟨_, by first | rfl | (simp [errW_none, errW_some] <;> rfl) | (simp [*, errW_none, errW_some] <;> rfl), by first | exact Kd.R_nil _ _ _ _ _ | exact Kd.N_nil _ _ _ _ _ | exact Kd.V_nil _ _ _ _ _ | exact Kd.Q_nil _ _ _ _ _ | exact Kd.S_nil _ _ _ _ _, bl_⟩
         ·replace c21 := Bool.eq_false_iff.mpr c21
          subst c21
          replace H := in_ H
          have H' := Aside0.mk H
          clear H
          obtain ⟨Ao22, co22, eo22⟩ := Kd.R_slice HO_12.out
          subst eo22
          go_wp2
          go_loopg [8, 58] kj16 (fun kq v8 v58 w' => ∃ (x8_3 : List Int) (x58_3 : Int), v58 = .int .i64 x58_3 ∧ Aside0 (spec_l04Nos.l1 kq x8_3 t128 t127 (t127.length : Int) x58_3 = some (r1, r2, r3)) ∧ Aside0 (kq ≤ kj16) ∧ Aside0 (Kd.R (Kd.int .i64) 3 w' w.heap.size (fun k_ => some k_ ≠ ((.slice Ao22 t127.length co22) : Value).ownBlock) v8 x8_3) ∧ Aside0 (Kd.R (Kd.int .i64) 3 w' w.heap.size (fun k_ => some k_ ≠ (v8 : Value).ownBlock) (.slice Ao22 t127.length co22) t127) ∧ Aside0 (Below w.heap.size w w'))
          case atStart => exact ⟨(x8_1), (0), sp_, H', ⟨Nat.le_refl _⟩, ⟨ra_ HO_8⟩, ⟨ra_ HO_12⟩, ⟨bl_⟩⟩
          case round =>
           clear H'
           try clear c1
           try clear p1
           try clear q1
           try clear hx1
           try clear c2
           try clear p2
           try clear c3
           try clear p6
           try clear c8
           try clear c8b0
           try clear c9
           try clear c9b0
           try clear c10
           try clear c10b0
           try clear c11
           try clear c11b0
           try clear c11b1
           try clear c12
           try clear p12
           try clear q12
           try clear hx12
           try clear c15
           try clear c19
           try clear c21
           try clear hx123_0
           try clear p1
           try clear p12
           try clear p123
           try clear p2
           try clear p6
           try clear q1
           try clear q12
           try clear q123
           obtain ⟨x8_3, x58_3, rfl, HA, HK3, HO_8, HO_56, HB⟩ := hrel
           cases gk with
           | zero => exact absurd HA.out (by simp [spec_l04Nos.l1])
           | succ k3 =>
            have H := HA.out
            clear HA
            simp only [spec_l04Nos.l1] at H
            by_cases c23 : x58_3 < (t127.length : Int)
            ·rw [if_pos c23] at H
             have c23b0 : decide (x58_3 < (t127.length : Int)) = true := decide_eq_true c23
             clear c23
             by_cases c24 : 0 ≤ x58_3
             ·rw [if_pos c24] at H
              have c24b0 : decide (0 ≤ x58_3) = true := decide_eq_true c24
              clear c24
              by_cases c25 : x58_3 < (t127.length : Int)
              ·rw [if_pos c25] at H
               have c25b0 : decide (x58_3 < (t127.length : Int)) = true := decide_eq_true c25
               clear c25
               by_cases c26 : x8_3.length < 17592186044416
               ·rw [if_pos c26] at H
                have LMc26 := Aside0.mk c26
                clear c26
                obtain ⟨y133, hy133⟩ : ∃ y_ : List Int, y_ = (x8_3 ++ [wrap64 ((rd t127 x58_3) + 64)]) := ⟨_, rfl⟩
                replace H : (spec_l04Nos.l1 k3 y133 t128 t127 (t127.length : Int) (wrap64 (x58_3 + 1))) = some (r1, r2, r3) := by first | (rw [hy133]; with_reducible exact H) | (have H2_ := (Option.bind_some _ _).symm.trans H; rw [hy133]; with_reducible exact H2_) | (have H2_ := (Option.bind_some _ _).symm.trans H; with_reducible exact H2_) | with_reducible exact H | (rw [hy133]; exact H) | exact H
                have Ny133 := Aside0.mk hy133
                clear hy133
                have H' := Aside0.mk H
                clear H
                have p132 : 0 ≤ (x58_3 : Int) := od_
                have q132 : x58_3 < (t127.length : Int) := od_
                obtain ⟨ad132, e132, hx132_0⟩ := Kd.at_int (Kd.R_reads' HO_56.out).2.2 x58_3 p132 q132
                cases e132
                replace p132 := eq_true p132
                replace q132 := eq_true q132
                go_wp2_with (first | ((with_reducible refine gate_builtin (b := .append) (xs := #[.tmp 62, .tmp 65]) rfl ?_); (try (refine gate_guard (by rfl) ?_; dsimp only)); at_builtin; refine Kd.R_append (Kd.int .i64) (w0 := w) w.heap.size rfl (.tmp 62) (.tmp 65) 24 3 (.int .i64 0) 8 rfl Tryd.underlying24 info3 rfl (by decide) (by omega) u8 x8_3 (wrap64 ((rd t127 x58_3) + 64)) [.int .i64 (wrap64 ((rd t127 x58_3) + 64))] (fun k_ => some k_ ≠ (.slice (some ad132) t127.length co22 : Value).ownBlock) (fun _ => False) rfl rfl ?aP (fun _ hk => hk.elim) ?aF ?aO ?aB ?aS ?aL ?_; (case aP => exact rfl); (case aB => exact bl_); (case aF => exact (fun k_ hk => Kd.fresh' (Kd.R_lt (ra_ HO_56)) k_ hk)); (case aO => exact (ra_ HO_8)); (case aS => exact (below_size bl_)); (case aL => have := LMc26.out; omega); intro v134 w27 ho hb hg hat; rw [← Ny133.out] at ho; have n0_ := Aside0.mk (Kd.R_after (ok := (fun _ => True)) (by (with_reducible repeat (first | apply Kd.R_alloc | apply Kd.R_drewN | apply Kd.R_drew)); exact Kd.R_mono HO_56.out (fun _ hk => ⟨trivial, hk⟩)) hg hat); have n1_ := Aside0.mk (hb); have n2_ := Aside0.mk (ho); clear HO_56; clear HB; clear HO_8; have HO_56 := n0_; have HB := n1_; have HO135 := n2_; clear n0_ n1_ n2_; clear ho hb hg hat))
                go_roundg k3
                case measure => have := HK1.out; have := HJ16.out; have := HK3.out; omega
                case rel => exact ⟨(y133), (wrap64 (x58_3 + 1)), sp_, H', ⟨by have := HK1.out; have := HJ16.out; have := HK3.out; omega⟩, ⟨ra_ HO135⟩, ⟨by (with_reducible repeat (first | apply Kd.R_alloc | apply Kd.R_drewN | apply Kd.R_drew)); exact Kd.R_mono HO_56.out (fun _ hk => hk.2)⟩, ⟨bl_⟩⟩
               ·rw [if_neg c26] at H
                exact absurd H (by simp)
              ·rw [if_neg c25] at H
               exact absurd H (by simp)
             ·rw [if_neg c24] at H
              exact absurd H (by simp)
            ·rw [if_neg c23] at H
             have c23b0 : decide (x58_3 < (t127.length : Int)) = false := decide_eq_false c23
             clear c23
             have H' := Aside0.mk H
             clear H
             go_wp2
             go_meet
             case rel => exact ⟨_, (t128), (x8_3), sp_, H', ⟨by have := HK1.out; have := HJ16.out; have := HK3.out; first | omega | exact Nat.le_refl _⟩, ⟨by (with_reducible repeat (first | apply Kd.R_alloc | apply Kd.R_drewN | apply Kd.R_drew)); exact Kd.R_mono HO_8.out (fun _ hk => trivial)⟩, ⟨bl_⟩⟩
      ·replace c15 := Bool.eq_false_iff.mpr c15
       subst c15
       replace H := in_ H
       have H' := Aside0.mk H
       clear H
       go_wp2
       go_meet
       case rel => exact ⟨_, (t116), (x8_1), sp_, H', ⟨by have := HK1.out; first | omega | exact Nat.le_refl _⟩, ⟨by (with_reducible repeat (first | apply Kd.R_alloc | apply Kd.R_drewN | apply Kd.R_drew)); exact Kd.R_mono HO_8.out (fun _ hk => trivial)⟩, ⟨bl_⟩⟩
     case rest =>
      clear HC14
      try clear c1
      try clear p1
      try clear q1
      try clear hx1
      try clear c2
      try clear p2
      try clear c3
      try clear p6
      try clear c8
      try clear c8b0
      try clear c9
      try clear c9b0
      try clear c10
      try clear c10b0
      try clear c11
      try clear c11b0
      try clear c11b1
      try clear c12
      try clear p12
      try clear q12
      try clear hx12
      try clear p13
      try clear q13
      try clear hx13
      try clear c15
      try clear c19
      try clear c21
      try clear c23
      try clear c23b0
      try clear c24
      try clear c24b0
      try clear c25
      try clear c25b0
      try clear c26
      try clear hx123_0
      try clear hx132_0
      try clear p1
      try clear p12
      try clear p123
      try clear p132
      try clear p2
      try clear p6
      try clear q1
      try clear q12
      try clear q123
      try clear q132
      obtain ⟨kq, x6_13, x8_13, rfl, HA, HJ13, HO_8, HB⟩ := hcut
      cases kq with
      | zero => exact absurd HA.out (by simp [spec_l04Nos.j3])
      | succ kj13 =>
       have H := HA.out
       clear HA
       simp only [spec_l04Nos.j3] at H
       have H' := Aside0.mk H
       clear H
       obtain ⟨Ao28, co28, eo28⟩ := Kd.R_slice HO_8.out
       subst eo28
       go_wp2
       go_loopg [71] kj13 (fun kq v71 w' => ∃ (x71_3 : Int), v71 = .int .i64 x71_3 ∧ Aside0 (spec_l04Nos.l2 kq x6_13 x8_13 x8_13 (x8_13.length : Int) x71_3 = some (r1, r2, r3)) ∧ Aside0 (kq ≤ kj13) ∧ Aside0 (Kd.R (Kd.int .i64) 3 w' w.heap.size (fun _ => True) (.slice Ao28 x8_13.length co28) x8_13) ∧ Aside0 (Kd.R (Kd.int .i64) 3 w' w.heap.size (fun _ => True) (.slice Ao28 x8_13.length co28) x8_13) ∧ Aside0 (Below w.heap.size w w'))
       case atStart => exact ⟨(0), sp_, H', ⟨Nat.le_refl _⟩, ⟨ra_ HO_8⟩, ⟨ra_ HO_8⟩, ⟨bl_⟩⟩
       case round =>
        clear H'
        try clear c1
        try clear p1
        try clear q1
        try clear hx1
        try clear c2
        try clear p2
        try clear c3
        try clear p6
        try clear c8
        try clear c8b0
        try clear c9
        try clear c9b0
        try clear c10
        try clear c10b0
        try clear c11
        try clear c11b0
        try clear c11b1
        try clear c12
        try clear p12
        try clear q12
        try clear hx12
        try clear p13
        try clear q13
        try clear hx13
        try clear c15
        try clear c19
        try clear c21
        try clear c23
        try clear c23b0
        try clear c24
        try clear c24b0
        try clear c25
        try clear c25b0
        try clear c26
        try clear hx123_0
        try clear hx132_0
        try clear p1
        try clear p12
        try clear p123
        try clear p13
        try clear p132
        try clear p2
        try clear p6
        try clear q1
        try clear q12
        try clear q123
        try clear q13
        try clear q132
        obtain ⟨x71_3, rfl, HA, HK3, HO_8, HO_69, HB⟩ := hrel
        cases gk with
        | zero => exact absurd HA.out (by simp [spec_l04Nos.l2])
        | succ k3 =>
         have H := HA.out
         clear HA
         simp only [spec_l04Nos.l2] at H
         by_cases c29 : x71_3 < (x8_13.length : Int)
         ·rw [if_pos c29] at H
          have c29b0 : decide (x71_3 < (x8_13.length : Int)) = true := decide_eq_true c29
          clear c29
          by_cases c30 : 0 ≤ x71_3
          ·rw [if_pos c30] at H
           have c30b0 : decide (0 ≤ x71_3) = true := decide_eq_true c30
           clear c30
           by_cases c31 : x71_3 < (x8_13.length : Int)
           ·rw [if_pos c31] at H
            have c31b0 : decide (x71_3 < (x8_13.length : Int)) = true := decide_eq_true c31
            clear c31
            obtain ⟨t137, A32, H⟩ := ob_ H
            by_cases c33 : t137 = 0
            ·rw [if_pos c33] at H
             have c33b0 : (t137 == 0) = true := beq_iff_eq.mpr c33
             have c33b1 : (t137 != 0) = false := bne_eq_false_iff_eq.mpr c33
             clear c33
             simp only [Option.some.injEq, Prod.mk.injEq] at H
             obtain ⟨rfl, rfl, rfl⟩ := H
             have p136 : 0 ≤ (x71_3 : Int) := od_
             have q136 : x71_3 < (x8_13.length : Int) := od_
             obtain ⟨ad136, e136, hx136_0⟩ := Kd.at_int (Kd.R_reads' HO_69.out).2.2 x71_3 p136 q136
             cases e136
             replace p136 := eq_true p136
             replace q136 := eq_true q136
             go_wp2_with (first | ((with_reducible refine gate_callee (f := 74) rfl ?_); refine goesL_ (some 76) rfl rfl Tryd.func74 (by kernel_rfl) rfl #[.int .i64 (rd x8_13 x71_3)] rfl gl_ ?_; (with_reducible refine (spec_FieldKind.calls k3 (rd x8_13 x71_3) t137 _ A32.out).mono ?_); rintro e w' ⟨rfl, ⟨nd, rfl⟩⟩; refine ⟨_, rfl, ?_⟩))
             go_ret3
             exact ⟨_, by first | rfl | (simp [errW_none, errW_some] <;> rfl) | (simp [*, errW_none, errW_some] <;> rfl), by first | exact Kd.R_nil _ _ _ _ _ | exact Kd.N_nil _ _ _ _ _ | exact Kd.V_nil _ _ _ _ _ | exact Kd.Q_nil _ _ _ _ _ | exact Kd.S_nil _ _ _ _ _, bl_⟩
            ·rw [if_neg c33] at H
             have c33b0 : (t137 == 0) = false := beq_eq_false_iff_ne.mpr c33
             have c33b1 : (t137 != 0) = true := bne_iff_ne.mpr c33
             have H' := Aside0.mk H
             clear H
             have p136 : 0 ≤ (x71_3 : Int) := od_
             have q136 : x71_3 < (x8_13.length : Int) := od_
             obtain ⟨ad136, e136, hx136_0⟩ := Kd.at_int (Kd.R_reads' HO_69.out).2.2 x71_3 p136 q136
             cases e136
             replace p136 := eq_true p136
             replace q136 := eq_true q136
             go_wp2_with (first | ((with_reducible refine gate_callee (f := 74) rfl ?_); refine goesL_ (some 76) rfl rfl Tryd.func74 (by kernel_rfl) rfl #[.int .i64 (rd x8_13 x71_3)] rfl gl_ ?_; (with_reducible refine (spec_FieldKind.calls k3 (rd x8_13 x71_3) t137 _ A32.out).mono ?_); rintro e w' ⟨rfl, ⟨nd, rfl⟩⟩; refine ⟨_, rfl, ?_⟩))
             go_roundg k3
             case measure => have := HK1.out; have := HJ13.out; have := HK3.out; omega
             case rel => exact ⟨(wrap64 (x71_3 + 1)), sp_, H', ⟨by have := HK1.out; have := HJ13.out; have := HK3.out; omega⟩, ⟨ra_ HO_8⟩, ⟨ra_ HO_69⟩, ⟨bl_⟩⟩
           ·rw [if_neg c31] at H
            exact absurd H (by simp)
          ·rw [if_neg c30] at H
           exact absurd H (by simp)
         ·rw [if_neg c29] at H
          have c29b0 : decide (x71_3 < (x8_13.length : Int)) = false := decide_eq_false c29
          clear c29
          simp only [Option.some.injEq, Prod.mk.injEq] at H
          obtain ⟨rfl, rfl, rfl⟩ := H
          go_wp2
          go_ret3
          exact ⟨_, by first | rfl | (simp [errW_none, errW_some] <;> rfl) | (simp [*, errW_none, errW_some] <;> rfl), ra_ HO_8, bl_⟩
 ·replace c3 := Bool.eq_false_iff.mpr c3
  subst c3
  replace H := in_ H
  simp only [Option.some.injEq, Prod.mk.injEq] at H
  obtain ⟨rfl, rfl, rfl⟩ := H
  go_enter Tryd.func88, Tryd.ntmps88
  go_wp2_with (first | ((with_reducible refine gate_callee (f := 128) rfl ?_); refine goesL_ (some 21) rfl rfl Tryd.func128 (by kernel_rfl) rfl #[.slice A0 l0.length c0, .int .i64 2] rfl gl_ ?_; (with_reducible refine (spec_GetBits.calls k _ _ l0 2 t115 t116 false _ ?side1 ?side2 A2.out).mono ?_); (case side1 => exact ca_ (HR0.out)); (case side2 => exact HC0.out); rintro e w34 ⟨v118, rfl, ho0, hb⟩; refine ⟨_, rfl, ?_⟩; have HO119 := Aside0.mk (Kd.R_lower ho0 (below_size bl_)); replace HB := Aside0.mk (below_step bl_ hb); (try clear hb); (try clear hb2); (try clear hk); (try clear hi); (try clear ho0)))
  go_ret3
  exact ⟨_, by first | rfl | (simp [errW_none, errW_some] <;> rfl) | (simp [*, errW_none, errW_some] <;> rfl), by first | exact Kd.R_nil _ _ _ _ _ | exact Kd.N_nil _ _ _ _ _ | exact Kd.V_nil _ _ _ _ _ | exact Kd.Q_nil _ _ _ _ _ | exact Kd.S_nil _ _ _ _ _, bl_⟩
/-! ### spec_l01In: function 69 -/
def spec_l01In.f (a0 : Int) (a1 : Int) (a2 : Int) : Option (Bool) := if a0 ≥ a1 then (some (decide (a0 ≤ a2))) else (some false)
set_option maxHeartbeats 8000000 in
set_option maxRecDepth 100000 in
theorem spec_l01In.calls (a0 : Int) (a1 : Int) (a2 : Int) (r : Bool) (w : World) (h : spec_l01In.f a0 a1 a2 = some r) :
  Calls Tryd.prog 69 #[.int .i64 a0, .int .i64 a1, .int .i64 a2] w fun e w' => e = .returned (.bool r) ∧ Drawn0 w w' := by
 have H : (if a0 ≥ a1 then (some (decide (a0 ≤ a2))) else (some false)) = some r := h
 clear h
 by_cases c4 : a0 ≥ a1
 ·rw [if_pos c4] at H
  have c4b0 : decide (a1 ≤ a0) = true := decide_eq_true c4
  clear c4
  obtain rfl := Option.some.inj H
  go_enter Tryd.func69, Tryd.ntmps69
  go_wp2
  go_ret
  exact ⟨sp_, by repeat (first | exact Drawn0.refl _ | apply Drawn0.step)⟩
 ·rw [if_neg c4] at H
  have c4b0 : decide (a1 ≤ a0) = false := decide_eq_false c4
  clear c4
  obtain rfl := Option.some.inj H
  go_enter Tryd.func69, Tryd.ntmps69
  go_wp2
  go_ret
  exact ⟨sp_, by repeat (first | exact Drawn0.refl _ | apply Drawn0.step)⟩
end Go.Proofs.YtbjpfknmkpnhjaaDoor.QFnExactReplyCode
