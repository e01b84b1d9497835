-- by my own printer (myprint.py, over the kit's print.py)
import Derived.Test.YtbjpfknmkpnhjaaDoorQFnExactReplyCodex0
import Derived.Test.YtbjpfknmkpnhjaaDoorQFnExactReplyCodex6
import Derived.Test.YtbjpfknmkpnhjaaDoorQFnExactReplyCodex7
import Derived.Test.YtbjpfknmkpnhjaaDoorQFnExactReplyCodex8
namespace Go.Proofs.YtbjpfknmkpnhjaaDoor.QFnExactReplyCode
open Go.RowKit Go.Proofs.YtbjpfknmkpnhjaaDoorW.PrintWords Go.Proofs.YtbjpfknmkpnhjaaDoorW.PrintLast Go.Proofs.YtbjpfknmkpnhjaaDoorW.PrintMore
attribute [local go_sem] max2_int min2_int max_two min_two max_three min_three max_four min_four   -- for this text's walks alone
set_option linter.unusedVariables false
set_option linter.unusedSimpArgs false
attribute [local go_sem] my_geq my_leq my_gtr
/-! ### impl_GetField: function 93 -/
mutual
def impl_GetField.j0 : Nat → List Int → Int → Int → Int → Int → Bool → Bool → Option (ByteArray × Int × Bool)
 | 0, _, _, _, _, _, _, _ => none
 | k + 1, x0, x1, x2, x9, x11, x12, x27 => if x27 = true then ((impl_lenDigits.f k x2).bind fun t279 => ((impl_GetLen.f k x0 x1 t279).bind fun bt280 => (impl_GetField.j1 k x0 bt280.2.1 x2 bt280.1 x11 bt280.2.2))) else (impl_GetField.j1 k x0 x1 x2 x9 x11 x12)
def impl_GetField.j1 : Nat → List Int → Int → Int → Int → Int → Bool → Option (ByteArray × Int × Bool)
 | 0, _, _, _, _, _, _ => none
 | k + 1, x0, x1, x2, x9, x11, x12 => if x12 = true then (if x11 = 1 then (impl_GetField.j2 k x0 x1 x2 x9 true) else (impl_GetField.j2 k x0 x1 x2 x9 (x11 == 3))) else (some ((⟨#[]⟩ : ByteArray), 0, false))
def impl_GetField.j2 : Nat → List Int → Int → Int → Int → Bool → Option (ByteArray × Int × Bool)
 | 0, _, _, _, _, _ => none
 | k + 1, x0, x1, x2, x9, x44 => if x44 = true then ((impl_GetBcd.f k x0 x1 x9).bind fun bt283 => (if bt283.2.2 = true then ((impl_FieldOk.f k x2 bt283.1).bind fun t286 => (if t286 = true then (some (bt283.1, bt283.2.1, true)) else (some ((⟨#[]⟩ : ByteArray), 0, false)))) else (some ((⟨#[]⟩ : ByteArray), 0, false)))) else ((impl_piece.f x0 x1 x9).bind fun bt287 => (if bt287.2 = true then ((impl_FieldOk.f k x2 (strOfNums bt287.1)).bind fun t291 => (if t291 = true then (some (strOfNums bt287.1, wrap64 (x1 + x9), true)) else (some ((⟨#[]⟩ : ByteArray), 0, false)))) else (some ((⟨#[]⟩ : ByteArray), 0, false))))
end
def impl_GetField.f (k : Nat) (l0 : List Int) (a1 : Int) (a2 : Int) : Option (ByteArray × Int × Bool) := (impl_FieldSize.f k a2).bind fun t277 => ((impl_FieldKind.f k a2).bind fun t278 => (if t278 = 3 then (impl_GetField.j0 k l0 a1 a2 t277 t278 true true) else (if t278 = 4 then (impl_GetField.j0 k l0 a1 a2 t277 t278 true true) else (impl_GetField.j0 k l0 a1 a2 t277 t278 true (t278 == 5)))))
set_option maxHeartbeats 8000000 in
set_option maxRecDepth 100000 in
theorem impl_GetField.calls (k : Nat) (A0 : Option Addr) (c0 : Nat) (l0 : List Int) (a1 : Int) (a2 : Int) (r1 : ByteArray) (r2 : Int) (r3 : Bool) (w : World) (hr0 : Kd.C (Kd.int .u8) w A0 l0.length l0) (hc0 : l0.length ≤ c0) (h : impl_GetField.f k l0 a1 a2 = some (r1, r2, r3)) :
  Calls Tryd.prog 93 #[.slice A0 l0.length c0, .int .i64 a1, .int .i64 a2] w fun e w' => e = .returned (.tuple #[.string r1, .int .i64 r2, .bool r3]) ∧ Below w.heap.size w w' := by
 have HR0 := Aside0.mk hr0
 have HC0 := Aside0.mk hc0
 clear hr0 hc0
 have HB := Aside0.mk (Below.refl w.heap.size w)
 have H : ((impl_FieldSize.f k a2).bind fun t277 => ((impl_FieldKind.f k a2).bind fun t278 => (if t278 = 3 then (impl_GetField.j0 k l0 a1 a2 t277 t278 true true) else (if t278 = 4 then (impl_GetField.j0 k l0 a1 a2 t277 t278 true true) else (impl_GetField.j0 k l0 a1 a2 t277 t278 true (t278 == 5)))))) = some (r1, r2, r3) := h
 clear h
 obtain ⟨t277, A4, H⟩ := ob_ H
 obtain ⟨t278, A5, H⟩ := ob_ H
 have HC6 := Aside0.mk H
 clear H
 go_enter Tryd.func93, Tryd.ntmps93
 go_upto_region 2 with (first | ((with_reducible refine gate_callee (f := 81) rfl ?_); refine goesL_ (some 15) rfl rfl Tryd.func81 (by kernel_rfl) rfl #[.int .i64 a2] rfl gl_ ?_; (with_reducible refine (impl_FieldSize.calls k a2 t277 _ A4.out).mono ?_); rintro e w7 ⟨rfl, hb⟩; refine ⟨_, rfl, ?_⟩; replace HB := Aside0.mk (below_step bl_ hb); (try clear hb); (try clear hb2); (try clear hk); (try clear hi)) | ((with_reducible refine gate_callee (f := 82) rfl ?_); refine goesL_ (some 17) rfl rfl Tryd.func82 (by kernel_rfl) rfl #[.int .i64 a2] rfl gl_ ?_; (with_reducible refine (impl_FieldKind.calls k a2 t278 _ A5.out).mono ?_); rintro e w8 ⟨rfl, hb⟩; refine ⟨_, rfl, ?_⟩; replace HB := Aside0.mk (below_step bl_ hb); (try clear hb); (try clear hb2); (try clear hk); (try clear hi)))
 (try simp only [Act.put, List.setIfInBounds_toArray, List.set_cons_zero, List.set_cons_succ])
 go_cut [27] (fun v27 wc => ∃ (kq : Nat) (x27_5 : Bool), v27 = .bool x27_5 ∧ Aside0 (impl_GetField.j0 kq l0 a1 a2 t277 t278 true x27_5 = some (r1, r2, r3)) ∧ Aside0 (kq ≤ k) ∧ Aside0 (Below w.heap.size w wc))
 case first =>
  have H := HC6.out
  clear HC6
  by_cases c9 : t278 = 3
  ·rw [if_pos c9] at H
   have c9b0 : (t278 == 3) = true := beq_iff_eq.mpr c9
   have c9b1 : (t278 != 3) = false := bne_eq_false_iff_eq.mpr c9
   clear c9
   (first | rw [c9b0] | (simp only [i64_w, i32_w]; rw [c9b0]) | skip)
   have H' := Aside0.mk H
   clear H
   go_wp2
   go_meet
   case rel => exact ⟨_, (true), sp_, H', ⟨by first | omega | exact Nat.le_refl _⟩, ⟨bl_⟩⟩
  ·rw [if_neg c9] at H
   have c9b0 : (t278 == 3) = false := beq_eq_false_iff_ne.mpr c9
   have c9b1 : (t278 != 3) = true := bne_iff_ne.mpr c9
   (first | rw [c9b0] | (simp only [i64_w, i32_w]; rw [c9b0]) | skip)
   by_cases c10 : t278 = 4
   ·rw [if_pos c10] at H
    have c10b0 : (t278 == 4) = true := beq_iff_eq.mpr c10
    have c10b1 : (t278 != 4) = false := bne_eq_false_iff_eq.mpr c10
    clear c10
    have H' := Aside0.mk H
    clear H
    go_wp2
    go_meet
    case rel => exact ⟨_, (true), sp_, H', ⟨by first | omega | exact Nat.le_refl _⟩, ⟨bl_⟩⟩
   ·rw [if_neg c10] at H
    have c10b0 : (t278 == 4) = false := beq_eq_false_iff_ne.mpr c10
    have c10b1 : (t278 != 4) = true := bne_iff_ne.mpr c10
    have H' := Aside0.mk H
    clear H
    go_wp2
    go_meet
    case rel => exact ⟨_, ((t278 == 5)), sp_, H', ⟨by first | omega | exact Nat.le_refl _⟩, ⟨bl_⟩⟩
 case rest =>
  clear HC6
  try clear c1
  try clear p2
  try clear c8
  try clear c9
  try clear c9b0
  try clear c9b1
  try clear c10
  try clear c10b0
  try clear c10b1
  obtain ⟨kq, x27_5, rfl, HA, HJ5, HB⟩ := hcut
  cases kq with
  | zero => exact absurd HA.out (by simp [impl_GetField.j0])
  | succ kj5 =>
   have H := HA.out
   clear HA
   simp only [impl_GetField.j0] at H
   have HC11 := Aside0.mk H
   clear H
   go_upto_if 27 with (fail)
   go_cut [1, 9, 12] (fun v1 v9 v12 wc => ∃ (kq : Nat) (x1_10 : Int) (x9_10 : Int) (x12_10 : Bool), v1 = .int .i64 x1_10 ∧ v9 = .int .i64 x9_10 ∧ v12 = .bool x12_10 ∧ Aside0 (impl_GetField.j1 kq l0 x1_10 a2 x9_10 t278 x12_10 = some (r1, r2, r3)) ∧ Aside0 (kq ≤ kj5) ∧ Aside0 (Below w.heap.size w wc))
   case first =>
    have H := HC11.out
    clear HC11
    by_cases c12 : x27_5 = true
    ·subst c12
     replace H := ip_ H
     obtain ⟨t279, A13, H⟩ := ob_ H
     obtain ⟨⟨t280, t281, t282⟩, A14, H⟩ := ob_ H
     (try dsimp only at H)
     have H' := Aside0.mk H
     clear H
     go_wp2_with (first | ((with_reducible refine gate_callee (f := 133) rfl ?_); refine goesL_ (some 32) rfl rfl Tryd.func133 (by kernel_rfl) rfl #[.int .i64 a2] rfl gl_ ?_; (with_reducible refine (impl_lenDigits.calls kj5 a2 t279 _ A13.out).mono ?_); rintro e w15 ⟨rfl, hb⟩; refine ⟨_, rfl, ?_⟩; replace HB := Aside0.mk (below_step bl_ hb); (try clear hb); (try clear hb2); (try clear hk); (try clear hi)) | ((with_reducible refine gate_callee (f := 132) rfl ?_); refine goesL_ (some 33) rfl rfl Tryd.func132 (by kernel_rfl) rfl #[.slice A0 l0.length c0, .int .i64 a1, .int .i64 t279] rfl gl_ ?_; (with_reducible refine (impl_GetLen.calls kj5 _ _ l0 a1 t279 t280 t281 t282 _ ?side1 ?side2 A14.out).mono ?_); (case side1 => exact ca_ (Kd.C_below HR0.out HB.out)); (case side2 => exact HC0.out); rintro e w16 ⟨rfl, hb⟩; refine ⟨_, rfl, ?_⟩; replace HB := Aside0.mk (below_step bl_ hb); (try clear hb); (try clear hb2); (try clear hk); (try clear hi)))
     go_meet
     case rel => exact ⟨_, (t281), (t280), (t282), sp_, sp_, sp_, H', ⟨by have := HJ5.out; first | omega | exact Nat.le_refl _⟩, ⟨bl_⟩⟩
    ·replace c12 := Bool.eq_false_iff.mpr c12
     subst c12
     replace H := in_ H
     have H' := Aside0.mk H
     clear H
     go_wp2
     go_meet
     case rel => exact ⟨_, (a1), (t277), (true), sp_, sp_, sp_, H', ⟨by have := HJ5.out; first | omega | exact Nat.le_refl _⟩, ⟨bl_⟩⟩
   case rest =>
    clear HC11
    try clear c1
    try clear p2
    try clear c8
    try clear c9
    try clear c9b0
    try clear c9b1
    try clear c10
    try clear c10b0
    try clear c10b1
    try clear c12
    try clear c13
    try clear p2
    obtain ⟨kq, x1_10, x9_10, x12_10, rfl, rfl, rfl, HA, HJ10, HB⟩ := hcut
    cases kq with
    | zero => exact absurd HA.out (by simp [impl_GetField.j1])
    | succ kj10 =>
     have H := HA.out
     clear HA
     simp only [impl_GetField.j1] at H
     by_cases c17 : x12_10 = true
     ·subst c17
      replace H := ip_ H
      have HC18 := Aside0.mk H
      clear H
      go_upto_region 6 with (fail)
      go_cut [44] (fun v44 wc => ∃ (kq : Nat) (x44_17 : Bool), v44 = .bool x44_17 ∧ Aside0 (impl_GetField.j2 kq l0 x1_10 a2 x9_10 x44_17 = some (r1, r2, r3)) ∧ Aside0 (kq ≤ kj10) ∧ Aside0 (Below w.heap.size w wc))
      case first =>
       have H := HC18.out
       clear HC18
       by_cases c19 : t278 = 1
       ·rw [if_pos c19] at H
        have c19b0 : (t278 == 1) = true := beq_iff_eq.mpr c19
        have c19b1 : (t278 != 1) = false := bne_eq_false_iff_eq.mpr c19
        clear c19
        (first | rw [c19b0] | (simp only [i64_w, i32_w]; rw [c19b0]) | skip)
        have H' := Aside0.mk H
        clear H
        go_wp2
        go_meet
        case rel => exact ⟨_, (true), sp_, H', ⟨by have := HJ5.out; have := HJ10.out; first | omega | exact Nat.le_refl _⟩, ⟨bl_⟩⟩
       ·rw [if_neg c19] at H
        have c19b0 : (t278 == 1) = false := beq_eq_false_iff_ne.mpr c19
        have c19b1 : (t278 != 1) = true := bne_iff_ne.mpr c19
        (first | rw [c19b0] | (simp only [i64_w, i32_w]; rw [c19b0]) | skip)
        have H' := Aside0.mk H
        clear H
        go_wp2
        go_meet
        case rel => exact ⟨_, ((t278 == 3)), sp_, H', ⟨by have := HJ5.out; have := HJ10.out; first | omega | exact Nat.le_refl _⟩, ⟨bl_⟩⟩
      case rest =>
       clear HC18
       try clear c1
       try clear p2
       try clear c8
       try clear c9
       try clear c9b0
       try clear c9b1
       try clear c10
       try clear c10b0
       try clear c10b1
       try clear c12
       try clear c13
       try clear c17
       try clear c19
       try clear c19b0
       try clear c19b1
       try clear p2
       obtain ⟨kq, x44_17, rfl, HA, HJ17, HB⟩ := hcut
       cases kq with
       | zero => exact absurd HA.out (by simp [impl_GetField.j2])
       | succ kj17 =>
        have H := HA.out
        clear HA
        simp only [impl_GetField.j2] at H
        by_cases c20 : x44_17 = true
        ·subst c20
         replace H := ip_ H
         obtain ⟨⟨t283, t284, t285⟩, A21, H⟩ := ob_ H
         (try dsimp only at H)
         by_cases c22 : t285 = true
         ·subst c22
          replace H := ip_ H
          obtain ⟨t286, A23, H⟩ := ob_ H
          by_cases c24 : t286 = true
          ·subst c24
           replace H := ip_ H
           simp only [Option.some.injEq, Prod.mk.injEq] at H
           obtain ⟨rfl, rfl, rfl⟩ := H
           go_wp2_with (first | ((with_reducible refine gate_callee (f := 91) rfl ?_); refine goesL_ (some 49) rfl rfl Tryd.func91 (by kernel_rfl) rfl #[.slice A0 l0.length c0, .int .i64 x1_10, .int .i64 x9_10] rfl gl_ ?_; (with_reducible refine (impl_GetBcd.calls kj17 _ _ l0 x1_10 x9_10 t283 t284 true _ ?side1 ?side2 A21.out).mono ?_); (case side1 => exact ca_ (Kd.C_below HR0.out HB.out)); (case side2 => exact HC0.out); rintro e w25 ⟨rfl, hb⟩; refine ⟨_, rfl, ?_⟩; replace HB := Aside0.mk (below_step bl_ hb); (try clear hb); (try clear hb2); (try clear hk); (try clear hi)) | (go_at_call 83; (with_reducible refine (impl_FieldOk.calls kj17 a2 t283 true _ A23.out).mono ?_); rintro e w26 ⟨rfl, hb⟩; replace HB := Aside0.mk (below_step bl_ hb); (try clear hb); (try clear hb2); (try clear hk); (try clear hi)))
           go_ret3
           exact ⟨sq_, bl_⟩
          ·replace c24 := Bool.eq_false_iff.mpr c24
           subst c24
           replace H := in_ H
           simp only [Option.some.injEq, Prod.mk.injEq] at H
           obtain ⟨rfl, rfl, rfl⟩ := H
           go_wp2_with (first | ((with_reducible refine gate_callee (f := 91) rfl ?_); refine goesL_ (some 49) rfl rfl Tryd.func91 (by kernel_rfl) rfl #[.slice A0 l0.length c0, .int .i64 x1_10, .int .i64 x9_10] rfl gl_ ?_; (with_reducible refine (impl_GetBcd.calls kj17 _ _ l0 x1_10 x9_10 t283 t284 true _ ?side1 ?side2 A21.out).mono ?_); (case side1 => exact ca_ (Kd.C_below HR0.out HB.out)); (case side2 => exact HC0.out); rintro e w27 ⟨rfl, hb⟩; refine ⟨_, rfl, ?_⟩; replace HB := Aside0.mk (below_step bl_ hb); (try clear hb); (try clear hb2); (try clear hk); (try clear hi)) | (go_at_call 83; (with_reducible refine (impl_FieldOk.calls kj17 a2 t283 false _ A23.out).mono ?_); rintro e w28 ⟨rfl, hb⟩; replace HB := Aside0.mk (below_step bl_ hb); (try clear hb); (try clear hb2); (try clear hk); (try clear hi)))
           go_ret3
           exact ⟨sq_, bl_⟩
         ·replace c22 := Bool.eq_false_iff.mpr c22
          subst c22
          replace H := in_ H
          simp only [Option.some.injEq, Prod.mk.injEq] at H
          obtain ⟨rfl, rfl, rfl⟩ := H
          go_wp2_with (first | ((with_reducible refine gate_callee (f := 91) rfl ?_); refine goesL_ (some 49) rfl rfl Tryd.func91 (by kernel_rfl) rfl #[.slice A0 l0.length c0, .int .i64 x1_10, .int .i64 x9_10] rfl gl_ ?_; (with_reducible refine (impl_GetBcd.calls kj17 _ _ l0 x1_10 x9_10 t283 t284 false _ ?side1 ?side2 A21.out).mono ?_); (case side1 => exact ca_ (Kd.C_below HR0.out HB.out)); (case side2 => exact HC0.out); rintro e w29 ⟨rfl, hb⟩; refine ⟨_, rfl, ?_⟩; replace HB := Aside0.mk (below_step bl_ hb); (try clear hb); (try clear hb2); (try clear hk); (try clear hi)))
          go_ret3
          exact ⟨sq_, bl_⟩
        ·replace c20 := Bool.eq_false_iff.mpr c20
         subst c20
         replace H := in_ H
         obtain ⟨⟨t287, t290⟩, A30, H⟩ := ob_ H
         (try dsimp only at H)
         by_cases c31 : t290 = true
         ·subst c31
          replace H := ip_ H
          obtain ⟨t291, A32, H⟩ := ob_ H
          by_cases c33 : t291 = true
          ·subst c33
           replace H := ip_ H
           simp only [Option.some.injEq, Prod.mk.injEq] at H
           obtain ⟨rfl, rfl, rfl⟩ := H
           go_wp2_with (first | ((with_reducible refine gate_callee (f := 131) rfl ?_); refine goesL_ (some 57) rfl rfl Tryd.func131 (by kernel_rfl) rfl #[.slice A0 l0.length c0, .int .i64 x1_10, .int .i64 x9_10] rfl gl_ ?_; (with_reducible refine (impl_piece.calls (fun k_ => k_ < w.heap.size) _ _ l0 x1_10 x9_10 t287 true _ ?side1 A30.out).mono ?_); (case side1 => exact Kd.V_mk HC0.out (Kd.F_below (Kd.C_F (Kd.heap_int .u8) HR0.out) bl_)); rintro e w34 ⟨v288, rfl, ho0, hb⟩; refine ⟨_, rfl, ?_⟩; have HO289 := Aside0.mk (Kd.V_lower (Kd.V_mono (ok' := fun k_ => True) ho0 (fun k_ hk_ => trivial)) (below_size bl_)); replace HB := Aside0.mk (below_step bl_ hb); (try clear hb); (try clear hb2); (try clear hk); (try clear hi); (try clear ho0); obtain ⟨Aq35, cq35, eq35⟩ := Kd.V_slice HO289.out; subst eq35; have hcv35 := Kd.C_string (P := Tryd.prog) (A := Aq35) (c := cq35) Tryd.underlying22 Tryd.underlying5 Tryd.underlying9 ((Kd.V_reads' HO289.out).2.2); have hcu35 := fun (n_ : Nat) => Kd.C_string (P := Tryd.prog) (A := Aq35) (c := cq35) Tryd.underlying22 Tryd.underlying5 Tryd.underlying9 (Kd.C_drewN ((Kd.V_reads' HO289.out).2.2) n_)) | (go_at_call 83; (with_reducible refine (impl_FieldOk.calls kj17 a2 (strOfNums t287) true _ A32.out).mono ?_); rintro e w36 ⟨rfl, hb⟩; replace HO289 := Aside0.mk (Kd.V_below (by (with_reducible repeat (first | apply Kd.V_alloc | apply Kd.V_drewN | apply Kd.V_drew)); exact HO289.out) hb); replace HB := Aside0.mk (below_step bl_ hb); (try clear hb); (try clear hb2); (try clear hk); (try clear hi)))
           go_ret3
           exact ⟨sq_, bl_⟩
          ·replace c33 := Bool.eq_false_iff.mpr c33
           subst c33
           replace H := in_ H
           simp only [Option.some.injEq, Prod.mk.injEq] at H
           obtain ⟨rfl, rfl, rfl⟩ := H
           go_wp2_with (first | ((with_reducible refine gate_callee (f := 131) rfl ?_); refine goesL_ (some 57) rfl rfl Tryd.func131 (by kernel_rfl) rfl #[.slice A0 l0.length c0, .int .i64 x1_10, .int .i64 x9_10] rfl gl_ ?_; (with_reducible refine (impl_piece.calls (fun k_ => k_ < w.heap.size) _ _ l0 x1_10 x9_10 t287 true _ ?side1 A30.out).mono ?_); (case side1 => exact Kd.V_mk HC0.out (Kd.F_below (Kd.C_F (Kd.heap_int .u8) HR0.out) bl_)); rintro e w37 ⟨v288, rfl, ho0, hb⟩; refine ⟨_, rfl, ?_⟩; have HO289 := Aside0.mk (Kd.V_lower (Kd.V_mono (ok' := fun k_ => True) ho0 (fun k_ hk_ => trivial)) (below_size bl_)); replace HB := Aside0.mk (below_step bl_ hb); (try clear hb); (try clear hb2); (try clear hk); (try clear hi); (try clear ho0); obtain ⟨Aq38, cq38, eq38⟩ := Kd.V_slice HO289.out; subst eq38; have hcv38 := Kd.C_string (P := Tryd.prog) (A := Aq38) (c := cq38) Tryd.underlying22 Tryd.underlying5 Tryd.underlying9 ((Kd.V_reads' HO289.out).2.2); have hcu38 := fun (n_ : Nat) => Kd.C_string (P := Tryd.prog) (A := Aq38) (c := cq38) Tryd.underlying22 Tryd.underlying5 Tryd.underlying9 (Kd.C_drewN ((Kd.V_reads' HO289.out).2.2) n_)) | (go_at_call 83; (with_reducible refine (impl_FieldOk.calls kj17 a2 (strOfNums t287) false _ A32.out).mono ?_); rintro e w39 ⟨rfl, hb⟩; replace HO289 := Aside0.mk (Kd.V_below (by (with_reducible repeat (first | apply Kd.V_alloc | apply Kd.V_drewN | apply Kd.V_drew)); exact HO289.out) hb); replace HB := Aside0.mk (below_step bl_ hb); (try clear hb); (try clear hb2); (try clear hk); (try clear hi)))
           go_ret3
           exact ⟨sq_, bl_⟩
         ·replace c31 := Bool.eq_false_iff.mpr c31
          subst c31
          replace H := in_ H
          simp only [Option.some.injEq, Prod.mk.injEq] at H
          obtain ⟨rfl, rfl, rfl⟩ := H
          go_wp2_with (first | ((with_reducible refine gate_callee (f := 131) rfl ?_); refine goesL_ (some 57) rfl rfl Tryd.func131 (by kernel_rfl) rfl #[.slice A0 l0.length c0, .int .i64 x1_10, .int .i64 x9_10] rfl gl_ ?_; (with_reducible refine (impl_piece.calls (fun k_ => k_ < w.heap.size) _ _ l0 x1_10 x9_10 t287 false _ ?side1 A30.out).mono ?_); (case side1 => exact Kd.V_mk HC0.out (Kd.F_below (Kd.C_F (Kd.heap_int .u8) HR0.out) bl_)); rintro e w40 ⟨v288, rfl, ho0, hb⟩; refine ⟨_, rfl, ?_⟩; have HO289 := Aside0.mk (Kd.V_lower (Kd.V_mono (ok' := fun k_ => True) ho0 (fun k_ hk_ => trivial)) (below_size bl_)); replace HB := Aside0.mk (below_step bl_ hb); (try clear hb); (try clear hb2); (try clear hk); (try clear hi); (try clear ho0); obtain ⟨Aq41, cq41, eq41⟩ := Kd.V_slice HO289.out; subst eq41; have hcv41 := Kd.C_string (P := Tryd.prog) (A := Aq41) (c := cq41) Tryd.underlying22 Tryd.underlying5 Tryd.underlying9 ((Kd.V_reads' HO289.out).2.2); have hcu41 := fun (n_ : Nat) => Kd.C_string (P := Tryd.prog) (A := Aq41) (c := cq41) Tryd.underlying22 Tryd.underlying5 Tryd.underlying9 (Kd.C_drewN ((Kd.V_reads' HO289.out).2.2) n_)))
          go_ret3
          exact ⟨sq_, bl_⟩
     ·replace c17 := Bool.eq_false_iff.mpr c17
      subst c17
      replace H := in_ H
      simp only [Option.some.injEq, Prod.mk.injEq] at H
      obtain ⟨rfl, rfl, rfl⟩ := H
      go_wp2
      go_ret3
      exact ⟨sq_, bl_⟩
end Go.Proofs.YtbjpfknmkpnhjaaDoor.QFnExactReplyCode
