-- by my own printer (myprint.py, over the kit's print.py)
import Derived.Test.YtbjpfknmkpnhjaaDoorQFnExactReplyCodex0
import Derived.Test.YtbjpfknmkpnhjaaDoorQFnExactReplyCodex6
namespace Go.Proofs.YtbjpfknmkpnhjaaDoor.QFnExactReplyCode
open Go.RowKit Go.Proofs.YtbjpfknmkpnhjaaDoorW.PrintWords Go.Proofs.YtbjpfknmkpnhjaaDoorW.PrintLast Go.Proofs.YtbjpfknmkpnhjaaDoorW.PrintMore
attribute [local go_sem] max2_int min2_int max_two min_two max_three min_three max_four min_four   -- for this text's walks alone
set_option linter.unusedVariables false
set_option linter.unusedSimpArgs false
attribute [local go_sem] my_geq my_leq my_gtr
/-! ### impl_piece: function 131 -/
def impl_piece.f (l0 : List Int) (a1 : Int) (a2 : Int) : Option (List Int × Bool) := (impl_within.f a1 0 (l0.length : Int)).bind fun t212 => (if t212 = true then (if a2 < 0 then (some (([] : List Int), false)) else (if a2 > (wrap64 ((l0.length : Int) - a1)) then (some (([] : List Int), false)) else (if 0 ≤ a1 then (if a1 ≤ (wrap64 (a1 + a2)) then (if (wrap64 (a1 + a2)) ≤ (l0.length : Int) then (some (((l0.take ((wrap64 (a1 + a2)) : Int).toNat).drop (a1 : Int).toNat), true)) else (none)) else (none)) else (none)))) else (some (([] : List Int), false)))
set_option maxHeartbeats 8000000 in
set_option maxRecDepth 100000 in
theorem impl_piece.calls (P0_ : Nat → Prop) (A0 : Option Addr) (c0 : Nat) (l0 : List Int) (a1 : Int) (a2 : Int) (r1 : List Int) (r2 : Bool) (w : World) (hs0 : Kd.V (Kd.int .u8) 5 w w.heap.size (fun k_ => P0_ k_) (.slice A0 l0.length c0) l0) (h : impl_piece.f l0 a1 a2 = some (r1, r2)) :
  Calls Tryd.prog 131 #[.slice A0 l0.length c0, .int .i64 a1, .int .i64 a2] w fun e w' => ∃ v0_ : Value, e = .returned (.tuple #[v0_, .bool r2]) ∧ Kd.V (Kd.int .u8) 5 w' w.heap.size (fun k_ => (P0_ k_ ∨ w.heap.size ≤ k_)) v0_ r1 ∧ Below w.heap.size w w' := by
 have HO0 := Aside0.mk (show Kd.V (Kd.int .u8) 5 w w.heap.size (fun k_ => (P0_ k_ ∨ w.heap.size ≤ k_)) (.slice A0 l0.length c0) l0 from Kd.V_mono hs0 (fun k_ hk => .inl hk))
 have HB := Aside0.mk (Below.refl w.heap.size w)
 have H : ((impl_within.f a1 0 (l0.length : Int)).bind fun t212 => (if t212 = true then (if a2 < 0 then (some (([] : List Int), false)) else (if a2 > (wrap64 ((l0.length : Int) - a1)) then (some (([] : List Int), false)) else (if 0 ≤ a1 then (if a1 ≤ (wrap64 (a1 + a2)) then (if (wrap64 (a1 + a2)) ≤ (l0.length : Int) then (some (((l0.take ((wrap64 (a1 + a2)) : Int).toNat).drop (a1 : Int).toNat), true)) else (none)) else (none)) else (none)))) else (some (([] : List Int), false)))) = some (r1, r2) := h
 clear h
 obtain ⟨t212, A4, H⟩ := ob_ H
 by_cases c5 : t212 = true
 ·subst c5
  replace H := ip_ H
  by_cases c6 : a2 < 0
  ·rw [if_pos c6] at H
   have c6b0 : decide (a2 < 0) = true := decide_eq_true c6
   clear c6
   simp only [Option.some.injEq, Prod.mk.injEq] at H
   obtain ⟨rfl, rfl⟩ := H
   go_enter Tryd.func131, Tryd.ntmps131
   go_wp2_with (first | ((with_reducible refine gate_callee (f := 60) rfl ?_); refine goesL_ (some 11) rfl rfl Tryd.func60 (by kernel_rfl) rfl #[.int .i64 a1, .int .i64 0, .int .i64 (l0.length : Int)] rfl gl_ ?_; (with_reducible refine (impl_within.calls a1 0 (l0.length : Int) true _ A4.out).mono ?_); rintro e w' ⟨rfl, ⟨nd, rfl⟩⟩; refine ⟨_, rfl, ?_⟩))
   go_ret2
   exact ⟨_, by first | rfl | (simp [errW_none, errW_some] <;> rfl) | (simp [*, errW_none, errW_some] <;> rfl), (Kd.V_nil _ _ _ _ _), bl_⟩
  ·rw [if_neg c6] at H
   have c6b0 : decide (a2 < 0) = false := decide_eq_false c6
   clear c6
   by_cases c7 : a2 > (wrap64 ((l0.length : Int) - a1))
   ·rw [if_pos c7] at H
    have c7b0 : decide ((wrap64 ((l0.length : Int) - a1)) < a2) = true := decide_eq_true c7
    clear c7
    simp only [Option.some.injEq, Prod.mk.injEq] at H
    obtain ⟨rfl, rfl⟩ := H
    go_enter Tryd.func131, Tryd.ntmps131
    go_wp2_with (first | ((with_reducible refine gate_callee (f := 60) rfl ?_); refine goesL_ (some 11) rfl rfl Tryd.func60 (by kernel_rfl) rfl #[.int .i64 a1, .int .i64 0, .int .i64 (l0.length : Int)] rfl gl_ ?_; (with_reducible refine (impl_within.calls a1 0 (l0.length : Int) true _ A4.out).mono ?_); rintro e w' ⟨rfl, ⟨nd, rfl⟩⟩; refine ⟨_, rfl, ?_⟩))
    go_ret2
    exact ⟨_, by first | rfl | (simp [errW_none, errW_some] <;> rfl) | (simp [*, errW_none, errW_some] <;> rfl), (Kd.V_nil _ _ _ _ _), bl_⟩
   ·rw [if_neg c7] at H
    have c7b0 : decide ((wrap64 ((l0.length : Int) - a1)) < a2) = false := decide_eq_false c7
    clear c7
    by_cases c8 : 0 ≤ a1
    ·rw [if_pos c8] at H
     have c8b0 := eq_true c8
     have c8b1 : decide (0 ≤ a1) = true := decide_eq_true c8
     clear c8
     by_cases c9 : a1 ≤ (wrap64 (a1 + a2))
     ·rw [if_pos c9] at H
      have c9b0 := eq_true c9
      have c9b1 : decide (a1 ≤ (wrap64 (a1 + a2))) = true := decide_eq_true c9
      by_cases c10 : (wrap64 (a1 + a2)) ≤ (l0.length : Int)
      ·rw [if_pos c10] at H
       have c10b0 := eq_true c10
       have c10b1 : decide ((wrap64 (a1 + a2)) ≤ (l0.length : Int)) = true := decide_eq_true c10
       obtain ⟨y213, hy213⟩ : ∃ y_ : List Int, y_ = ((l0.take ((wrap64 (a1 + a2)) : Int).toNat).drop (a1 : Int).toNat) := ⟨_, rfl⟩
       replace H : (some (y213, true)) = some (r1, r2) := by first | (rw [hy213]; with_reducible exact H) | (have H2_ := (Option.bind_some _ _).symm.trans H; rw [hy213]; with_reducible exact H2_) | (have H2_ := (Option.bind_some _ _).symm.trans H; with_reducible exact H2_) | with_reducible exact H | (rw [hy213]; exact H) | exact H
       have Ny213 := Aside0.mk hy213
       clear hy213
       simp only [Option.some.injEq, Prod.mk.injEq] at H
       obtain ⟨rfl, rfl⟩ := H
       go_enter Tryd.func131, Tryd.ntmps131
       go_wp2_with (first | ((with_reducible refine gate_callee (f := 60) rfl ?_); refine goesL_ (some 11) rfl rfl Tryd.func60 (by kernel_rfl) rfl #[.int .i64 a1, .int .i64 0, .int .i64 (l0.length : Int)] rfl gl_ ?_; (with_reducible refine (impl_within.calls a1 0 (l0.length : Int) true _ A4.out).mono ?_); rintro e w' ⟨rfl, ⟨nd, rfl⟩⟩; refine ⟨_, rfl, ?_⟩; have q11 : ((wrap64 (a1 + a2)) : Int) ≤ ((l0.length : Int) : Int) := od_; obtain ⟨i011, hi011, _, hsz11, _⟩ := info_parts info5; have hroom11 : l0.length ≤ c0 := (Kd.V_reads' HO0.out).2.1; have hC11 : Kd.F (Kd.int .u8) _ _ A0 l0.length l0 := (Kd.V_at (base := w.heap.size) HO0.out).2.2; have ql11 : (a1 : Int) ≤ ((wrap64 (a1 + a2)) : Int) := od_; have q011 : (0 : Int) ≤ (a1 : Int) := od_; have hcut11 := cut_mid (P := Tryd.prog) 22 5 .i64 .i64 Tryd.underlying22 hi011 1 hsz11 A0 l0.length c0 a1 (wrap64 (a1 + a2)) q011 ql11 q11 hroom11; have hr11 := Kd.F_mid (lo := (a1 : Int).toNat) (hi := ((wrap64 (a1 + a2)) : Int).toNat) (c := c0) hC11 (by omega) (by omega) hroom11; obtain ⟨A11, hA11⟩ : ∃ A1, A1 = (if c0 = (a1 : Int).toNat then A0 else (A0 : Option Addr).map (·.add ((a1 : Int).toNat * 1))) := ⟨_, rfl⟩; obtain ⟨c11, hc11⟩ : ∃ c1, c1 = c0 - (a1 : Int).toNat := ⟨_, rfl⟩; have hy11 : y213.length = ((wrap64 (a1 + a2)) : Int).toNat - (a1 : Int).toNat := (by rw [Ny213.out, List.length_drop, List.length_take] <;> omega); rw [show ((l0).take ((wrap64 (a1 + a2)) : Int).toNat).drop (a1 : Int).toNat = y213 from Ny213.out.symm] at hr11; replace hr11 : Kd.F (Kd.int .u8) _ _ A11 y213.length y213 := (by rw [hA11]; exact hr11); rw [← hy11, ← hA11, ← hc11] at hcut11; have HO217 := Aside0.mk (show Kd.V (Kd.int .u8) 5 _ w.heap.size _ (.slice A11 y213.length c11) y213 from Kd.V_mk (by rw [hy11, hc11]; exact Nat.sub_le_sub_right (Nat.le_trans (by omega) hroom11) _) hr11); have HC217 := Aside0.mk (show y213.length ≤ c11 from by rw [hy11, hc11]; exact Nat.sub_le_sub_right (Nat.le_trans (by omega) hroom11) _); clear hr11 hC11 hroom11 hi011 hsz11 hc11; have KY11 := Aside0.mk hy11; have KA11 := Aside0.mk hA11; clear hy11 hA11; replace q11 := eq_true q11))
       go_ret2
       exact ⟨_, by first | rfl | (simp [errW_none, errW_some] <;> rfl) | (simp [*, errW_none, errW_some] <;> rfl), by (with_reducible repeat (first | apply Kd.V_alloc | apply Kd.V_drewN | apply Kd.V_drew)); exact HO217.out, bl_⟩
      ·rw [if_neg c10] at H
       exact absurd H (by simp)
     ·rw [if_neg c9] at H
      exact absurd H (by simp)
    ·rw [if_neg c8] at H
     exact absurd H (by simp)
 ·replace c5 := Bool.eq_false_iff.mpr c5
  subst c5
  replace H := in_ H
  simp only [Option.some.injEq, Prod.mk.injEq] at H
  obtain ⟨rfl, rfl⟩ := H
  go_enter Tryd.func131, Tryd.ntmps131
  go_wp2_with (first | ((with_reducible refine gate_callee (f := 60) rfl ?_); refine goesL_ (some 11) rfl rfl Tryd.func60 (by kernel_rfl) rfl #[.int .i64 a1, .int .i64 0, .int .i64 (l0.length : Int)] rfl gl_ ?_; (with_reducible refine (impl_within.calls a1 0 (l0.length : Int) false _ A4.out).mono ?_); rintro e w' ⟨rfl, ⟨nd, rfl⟩⟩; refine ⟨_, rfl, ?_⟩))
  go_ret2
  exact ⟨_, by first | rfl | (simp [errW_none, errW_some] <;> rfl) | (simp [*, errW_none, errW_some] <;> rfl), (Kd.V_nil _ _ _ _ _), bl_⟩
/-! ### impl_GetBcd: function 91 -/
def impl_GetBcd.l0 : Nat → Int → Int → List Int → Bool → List Int → List Int → Int → Int → Option (ByteArray × Int × Bool)
 | 0, _, _, _, _, _, _, _, _ => none
 | k + 1, x1, x2, x9, x10, x11, x27, x28, x29 => if x29 < x28 then (if 0 ≤ x29 then (if x29 < (x27.length : Int) then ((some (([(48 + ((rd x27 x29) / 16)) % 256, (48 + (Go.bits .and .u8 (rd x27 x29) 15)) % 256] : List Int) : List Int)).bind fun y227 => (if x11.length + y227.length < 140737488355328 then (impl_GetBcd.l0 k x1 x2 x9 x10 (x11 ++ y227) x27 x28 (wrap64 (x29 + 1))) else (none))) else (none)) else (none)) else (if x10 = true then ((impl_Digits.f k (strOfNums x11)).bind fun t233 => (if t233 = true then (if (Int.tmod x2 2) = 1 then (if 0 < (x11.length : Int) then (if (rd x11 0) = 48 then (if 0 ≤ (wrap64 ((x11.length : Int) - x2)) then (if (wrap64 ((x11.length : Int) - x2)) ≤ (x11.length : Int) then (some (strOfNums (x11.drop ((wrap64 ((x11.length : Int) - x2)) : Int).toNat), wrap64 (x1 + (x9.length : Int)), true)) else (none)) else (none)) else (some ((⟨#[]⟩ : ByteArray), 0, false))) else (none)) else (if 0 ≤ (wrap64 ((x11.length : Int) - x2)) then (if (wrap64 ((x11.length : Int) - x2)) ≤ (x11.length : Int) then (some (strOfNums (x11.drop ((wrap64 ((x11.length : Int) - x2)) : Int).toNat), wrap64 (x1 + (x9.length : Int)), true)) else (none)) else (none))) else (some ((⟨#[]⟩ : ByteArray), 0, false)))) else (some ((⟨#[]⟩ : ByteArray), 0, false)))
def impl_GetBcd.f (k : Nat) (l0 : List Int) (a1 : Int) (a2 : Int) : Option (ByteArray × Int × Bool) := (impl_within.f a2 1 38).bind fun t218 => (if t218 = true then ((impl_piece.f l0 a1 (wrap64 (Int.tdiv (wrap64 (a2 + 1)) 2))).bind fun bt219 => (impl_GetBcd.l0 k a1 a2 bt219.1 bt219.2 (([] : List Int)) bt219.1 (bt219.1.length : Int) 0)) else (some ((⟨#[]⟩ : ByteArray), 0, false)))
set_option maxHeartbeats 8000000 in
set_option maxRecDepth 100000 in
theorem impl_GetBcd.calls (k : Nat) (A0 : Option Addr) (c0 : Nat) (l0 : List Int) (a1 : Int) (a2 : Int) (r1 : ByteArray) (r2 : Int) (r3 : Bool) (w : World) (hr0 : Kd.C (Kd.int .u8) w A0 l0.length l0) (hc0 : l0.length ≤ c0) (h : impl_GetBcd.f k l0 a1 a2 = some (r1, r2, r3)) :
  Calls Tryd.prog 91 #[.slice A0 l0.length c0, .int .i64 a1, .int .i64 a2] w fun e w' => e = .returned (.tuple #[.string r1, .int .i64 r2, .bool r3]) ∧ Below w.heap.size w w' := by
 have HR0 := Aside0.mk hr0
 have HC0 := Aside0.mk hc0
 clear hr0 hc0
 have HB := Aside0.mk (Below.refl w.heap.size w)
 have H : ((impl_within.f a2 1 38).bind fun t218 => (if t218 = true then ((impl_piece.f l0 a1 (wrap64 (Int.tdiv (wrap64 (a2 + 1)) 2))).bind fun bt219 => (impl_GetBcd.l0 k a1 a2 bt219.1 bt219.2 (([] : List Int)) bt219.1 (bt219.1.length : Int) 0)) else (some ((⟨#[]⟩ : ByteArray), 0, false)))) = some (r1, r2, r3) := h
 clear h
 obtain ⟨t218, A4, H⟩ := ob_ H
 by_cases c5 : t218 = true
 ·subst c5
  replace H := ip_ H
  obtain ⟨⟨t219, t222⟩, A6, H⟩ := ob_ H
  (try dsimp only at H)
  obtain ⟨y223, hy223⟩ : ∃ y_ : List Int, y_ = (([] : List Int)) := ⟨_, rfl⟩
  replace H : (impl_GetBcd.l0 k a1 a2 t219 t222 y223 t219 (t219.length : Int) 0) = some (r1, r2, r3) := by first | (rw [hy223]; with_reducible exact H) | (have H2_ := (Option.bind_some _ _).symm.trans H; rw [hy223]; with_reducible exact H2_) | (have H2_ := (Option.bind_some _ _).symm.trans H; with_reducible exact H2_) | with_reducible exact H | (rw [hy223]; exact H) | exact H
  have Ny223 := Aside0.mk hy223
  clear hy223
  have H' := Aside0.mk H
  clear H
  go_enter Tryd.func91, Tryd.ntmps91
  go_wp2_with (first | ((with_reducible refine gate_callee (f := 60) rfl ?_); refine goesL_ (some 15) rfl rfl Tryd.func60 (by kernel_rfl) rfl #[.int .i64 a2, .int .i64 1, .int .i64 38] rfl gl_ ?_; (with_reducible refine (impl_within.calls a2 1 38 true _ A4.out).mono ?_); rintro e w' ⟨rfl, ⟨nd, rfl⟩⟩; refine ⟨_, rfl, ?_⟩) | ((with_reducible refine gate_callee (f := 131) rfl ?_); refine goesL_ (some 23) rfl rfl Tryd.func131 (by kernel_rfl) rfl #[.slice A0 l0.length c0, .int .i64 a1, .int .i64 (wrap64 (Int.tdiv (wrap64 (a2 + 1)) 2))] rfl gl_ ?_; (with_reducible refine (impl_piece.calls (fun k_ => k_ < w.heap.size) _ _ l0 a1 (wrap64 (Int.tdiv (wrap64 (a2 + 1)) 2)) t219 t222 _ ?side1 A6.out).mono ?_); (case side1 => exact Kd.V_mk HC0.out (Kd.F_below (Kd.C_F (Kd.heap_int .u8) HR0.out) bl_)); rintro e w7 ⟨v220, rfl, ho0, hb⟩; refine ⟨_, rfl, ?_⟩; have HO221 := Aside0.mk (Kd.V_lower (Kd.V_mono (ok' := fun k_ => True) ho0 (fun k_ hk_ => trivial)) (below_size bl_)); replace HB := Aside0.mk (below_step bl_ hb); (try clear hb); (try clear hb2); (try clear hk); (try clear hi); (try clear ho0)) | ((with_reducible refine gate_dst (N := 26) rfl ?_); refine Kd.R_lit (Kd.int .u8) _ 5 ?hg (N := 26) ?hd (xs := ([] : List Int)) (inner := []) (ok := fun _ => True) (okp := fun _ => True) ?hr ?hp (fun _ hk => hk) trivial (Below.refl _ _) (Nat.le_refl _) (by simp) ?_; (case hd => rfl); (case hg => rfl); (case hr => first | (go_simp; done) | (go_simp; rfl)); (case hp => exact (Reps.none _ _)); intro v224 w8 ho9 hb hg_ hnew_; clear hg_ hnew_; (first | rw [← Ny223.out] at ho9 | (simp only [Int.reduceToNat] at ho9; rw [← Ny223.out] at ho9)); replace HO221 := Aside0.mk (Kd.V_elder' (by (with_reducible repeat (first | apply Kd.V_alloc | apply Kd.V_drewN | apply Kd.V_drew)); exact HO221.out) (Kd.R_base ho9) hb); have HO225 := Aside0.mk (Kd.R_lower ho9 (below_size bl_)); replace HB := Aside0.mk (below_step bl_ hb); clear hb ho9; obtain ⟨Ao10, co10, eo10⟩ := Kd.V_slice HO221.out; subst eo10))
  go_loopg [11, 29] k (fun kq v11 v29 w' => ∃ (x11_1 : List Int) (x29_1 : Int), v29 = .int .i64 x29_1 ∧ Aside0 (impl_GetBcd.l0 kq a1 a2 t219 t222 x11_1 t219 (t219.length : Int) x29_1 = some (r1, r2, r3)) ∧ Aside0 (kq ≤ k) ∧ Aside0 (Kd.V (Kd.int .u8) 5 w' w.heap.size (fun k_ => some k_ ≠ (v11 : Value).ownBlock) (.slice Ao10 t219.length co10) t219) ∧ Aside0 (Kd.R (Kd.int .u8) 5 w' w.heap.size (fun _ => True) v11 x11_1) ∧ Aside0 (Kd.V (Kd.int .u8) 5 w' w.heap.size (fun k_ => some k_ ≠ (v11 : Value).ownBlock) (.slice Ao10 t219.length co10) t219) ∧ Aside0 (Below w.heap.size w w'))
  case atStart => exact ⟨(y223), (0), sp_, H', ⟨Nat.le_refl _⟩, ⟨by (with_reducible repeat (first | apply Kd.V_alloc | apply Kd.V_drewN | apply Kd.V_drew)); exact Kd.V_mono HO221.out (fun _ hk => hk.2)⟩, ⟨ra_ HO225⟩, ⟨by (with_reducible repeat (first | apply Kd.V_alloc | apply Kd.V_drewN | apply Kd.V_drew)); exact Kd.V_mono HO221.out (fun _ hk => hk.2)⟩, ⟨bl_⟩⟩
  case round =>
   clear H'
   try clear c1
   try clear p2
   try clear c5
   try clear c6
   try clear p6
   try clear c9
   obtain ⟨x11_1, x29_1, rfl, HA, HK1, HO_9, HO_11, HO_27, HB⟩ := hrel
   cases gk with
   | zero => exact absurd HA.out (by simp [impl_GetBcd.l0])
   | succ k1 =>
    have H := HA.out
    clear HA
    simp only [impl_GetBcd.l0] at H
    by_cases c11 : x29_1 < (t219.length : Int)
    ·rw [if_pos c11] at H
     have c11b0 : decide (x29_1 < (t219.length : Int)) = true := decide_eq_true c11
     clear c11
     by_cases c12 : 0 ≤ x29_1
     ·rw [if_pos c12] at H
      have c12b0 : decide (0 ≤ x29_1) = true := decide_eq_true c12
      clear c12
      by_cases c13 : x29_1 < (t219.length : Int)
      ·rw [if_pos c13] at H
       have c13b0 : decide (x29_1 < (t219.length : Int)) = true := decide_eq_true c13
       clear c13
       obtain ⟨y227, hy227⟩ : ∃ y_ : List Int, y_ = (([(48 + ((rd t219 x29_1) / 16)) % 256, (48 + (Go.bits .and .u8 (rd t219 x29_1) 15)) % 256] : List Int)) := ⟨_, rfl⟩
       replace H : (if x11_1.length + y227.length < 140737488355328 then (impl_GetBcd.l0 k1 a1 a2 t219 t222 (x11_1 ++ y227) t219 (t219.length : Int) (wrap64 (x29_1 + 1))) else (none)) = some (r1, r2, r3) := by first | (rw [hy227]; with_reducible exact H) | (have H2_ := (Option.bind_some _ _).symm.trans H; rw [hy227]; with_reducible exact H2_) | (have H2_ := (Option.bind_some _ _).symm.trans H; with_reducible exact H2_) | with_reducible exact H | (rw [hy227]; exact H) | exact H
       have Ny227 := Aside0.mk hy227
       clear hy227
       by_cases c14 : x11_1.length + y227.length < 140737488355328
       ·rw [if_pos c14] at H
        have LMc14 := Aside0.mk c14
        clear c14
        obtain ⟨y230, hy230⟩ : ∃ y_ : List Int, y_ = (x11_1 ++ y227) := ⟨_, rfl⟩
        replace H : (impl_GetBcd.l0 k1 a1 a2 t219 t222 y230 t219 (t219.length : Int) (wrap64 (x29_1 + 1))) = some (r1, r2, r3) := by first | (rw [hy230]; with_reducible exact H) | (have H2_ := (Option.bind_some _ _).symm.trans H; rw [hy230]; with_reducible exact H2_) | (have H2_ := (Option.bind_some _ _).symm.trans H; with_reducible exact H2_) | with_reducible exact H | (rw [hy230]; exact H) | exact H
        have Ny230 := Aside0.mk hy230
        clear hy230
        have H' := Aside0.mk H
        clear H
        have p226 : 0 ≤ (x29_1 : Int) := od_
        have q226 : x29_1 < (t219.length : Int) := od_
        obtain ⟨ad226, e226, hx226_0⟩ := Kd.at_int (Kd.V_reads' HO_27.out).2.2 x29_1 p226 q226
        cases e226
        replace p226 := eq_true p226
        replace q226 := eq_true q226
        go_wp2_with (first | ((with_reducible refine gate_dst (N := 40) rfl ?_); refine Kd.R_lit (Kd.int .u8) _ 5 ?hg (N := 40) ?hd (xs := ([(48 + ((rd t219 x29_1) / 16)) % 256, (48 + (Go.bits .and .u8 (rd t219 x29_1) 15)) % 256] : List Int)) (inner := [.int .u8 ((48 + ((rd t219 x29_1) / 16)) % 256), .int .u8 ((48 + (Go.bits .and .u8 (rd t219 x29_1) 15)) % 256)]) (ok := fun _ => True) (okp := fun _ => True) ?hr ?hp (fun _ hk => hk) trivial (Below.refl _ _) (Nat.le_refl _) (by simp) ?_; (case hd => rfl); (case hg => rfl); (case hr => first | (go_simp; done) | (go_simp; rfl)); (case hp => exact (Reps.one (show Kd.M (Kd.int .u8) _ _ _ ((48 + ((rd t219 x29_1) / 16)) % 256) [.int .u8 ((48 + ((rd t219 x29_1) / 16)) % 256)] from rfl) (Reps.one (show Kd.M (Kd.int .u8) _ _ _ ((48 + (Go.bits .and .u8 (rd t219 x29_1) 15)) % 256) [.int .u8 ((48 + (Go.bits .and .u8 (rd t219 x29_1) 15)) % 256)] from rfl) (Reps.none _ _)))); intro v228 w15 ho16 hb hg_ hnew_; clear hg_ hnew_; (first | rw [← Ny227.out] at ho16 | (simp only [Int.reduceToNat] at ho16; rw [← Ny227.out] at ho16)); replace HO_9 := Aside0.mk (Kd.V_elder' (by (with_reducible repeat (first | apply Kd.V_alloc | apply Kd.V_drewN | apply Kd.V_drew)); exact HO_9.out) (Kd.R_base ho16) hb); replace HO_27 := Aside0.mk (Kd.V_elder' (by (with_reducible repeat (first | apply Kd.V_alloc | apply Kd.V_drewN | apply Kd.V_drew)); exact HO_27.out) (Kd.R_base ho16) hb); have HO229 := Aside0.mk (Kd.R_lower (Kd.R_new' ho16 (Kd.R_lt (ra_ HO_11))) (below_size bl_)); replace HO_11 := Aside0.mk (Kd.R_elder' (ra_ HO_11) (Kd.R_base ho16) hb); replace HB := Aside0.mk (below_step bl_ hb); clear hb ho16; obtain ⟨Ao18, co18, eo18⟩ := Kd.R_slice HO229.out; subst eo18) | ((with_reducible refine gate_builtin (b := .append) (xs := #[.tmp 33, .tmp 40]) rfl ?_); at_builtin; refine Kd.R_append_rows (Kd.int .u8) (w0 := w) w.heap.size rfl (.tmp 33) (.tmp 40) 22 5 (.int .u8 0) 1 rfl Tryd.underlying22 info5 rfl (by decide) (by omega) u11 x11_1 y227 _ _ _ (fun k_ => some k_ ≠ (.slice Ao18 y227.length co18 : Value).ownBlock) (fun _ => False) rfl rfl ?aO ?aR (fun _ _ h => h) (fun _ h => h.elim) ?aF ?aB ?aS ?aL ?_; (case aR => exact ca_ ((Kd.R_reads' HO229.out).2.2)); (case aB => exact bl_); (case aF => exact (fun k_ hk => Kd.fresh' (Kd.R_lt (ra_ HO229)) k_ hk)); (case aO => exact (by (with_reducible repeat (first | apply Kd.R_alloc | apply Kd.R_drewN | apply Kd.R_drew)); exact Kd.R_mono HO_11.out (fun _ hk => hk.2))); (case aS => exact (below_size bl_)); (case aL => have := LMc14.out; omega); intro v231 w17 ho hb hg hat; rw [← Ny230.out] at ho; have n0_ := Aside0.mk (Kd.V_afterv (ok := (fun k_ => some k_ ≠ (.slice Ao18 y227.length co18 : Value).ownBlock)) (by (with_reducible repeat (first | apply Kd.V_alloc | apply Kd.V_drewN | apply Kd.V_drew)); exact Kd.V_mono HO_9.out (fun _ hk => ⟨hk.2, hk.1⟩)) hg hat); have n1_ := Aside0.mk (Kd.V_afterv (ok := (fun k_ => some k_ ≠ (.slice Ao18 y227.length co18 : Value).ownBlock)) (by (with_reducible repeat (first | apply Kd.V_alloc | apply Kd.V_drewN | apply Kd.V_drew)); exact Kd.V_mono HO_27.out (fun _ hk => ⟨hk.2, hk.1⟩)) hg hat); have n2_ := Aside0.mk (Kd.R_after (ok := (fun _ => True)) (ra_ HO229) hg hat); have n3_ := Aside0.mk (hb); have n4_ := Aside0.mk (ho); clear HO_9; clear HO_27; clear HO229; clear HB; clear HO_11; have HO_9 := n0_; have HO_27 := n1_; have HO229 := n2_; have HB := n3_; have HO232 := n4_; clear n0_ n1_ n2_ n3_ n4_; clear ho hb hg hat))
        go_roundg k1
        case measure => have := HK1.out; omega
        case rel => exact ⟨(y230), (wrap64 (x29_1 + 1)), sp_, H', ⟨by have := HK1.out; omega⟩, ⟨by (with_reducible repeat (first | apply Kd.V_alloc | apply Kd.V_drewN | apply Kd.V_drew)); exact Kd.V_mono HO_9.out (fun _ hk => hk.2)⟩, ⟨by (with_reducible repeat (first | apply Kd.R_alloc | apply Kd.R_drewN | apply Kd.R_drew)); exact Kd.R_mono HO232.out (fun _ hk => trivial)⟩, ⟨by (with_reducible repeat (first | apply Kd.V_alloc | apply Kd.V_drewN | apply Kd.V_drew)); exact Kd.V_mono HO_27.out (fun _ hk => hk.2)⟩, ⟨bl_⟩⟩
       ·rw [if_neg c14] at H
        exact absurd H (by simp)
      ·rw [if_neg c13] at H
       exact absurd H (by simp)
     ·rw [if_neg c12] at H
      exact absurd H (by simp)
    ·rw [if_neg c11] at H
     have c11b0 : decide (x29_1 < (t219.length : Int)) = false := decide_eq_false c11
     clear c11
     by_cases c19 : t222 = true
     ·subst c19
      replace H := ip_ H
      obtain ⟨t233, A20, H⟩ := ob_ H
      by_cases c21 : t233 = true
      ·subst c21
       replace H := ip_ H
       by_cases c22 : (Int.tmod a2 2) = 1
       ·rw [if_pos c22] at H
        have c22b0 : ((Int.tmod a2 2) == 1) = true := beq_iff_eq.mpr c22
        have c22b1 : ((Int.tmod a2 2) != 1) = false := bne_eq_false_iff_eq.mpr c22
        clear c22
        by_cases c23 : 0 < (x11_1.length : Int)
        ·rw [if_pos c23] at H
         have c23b0 : decide (0 < (x11_1.length : Int)) = true := decide_eq_true c23
         have c23b1 : decide (0 < x11_1.length) = true := decide_eq_true (by omega)
         clear c23
         by_cases c24 : (rd x11_1 0) = 48
         ·rw [if_pos c24] at H
          have c24b0 : ((rd x11_1 0) == 48) = true := beq_iff_eq.mpr c24
          have c24b1 : ((rd x11_1 0) != 48) = false := bne_eq_false_iff_eq.mpr c24
          clear c24
          obtain ⟨ji25, hji25⟩ : ∃ j_ : Int, (wrap64 ((x11_1.length : Int) - a2)) = j_ := ⟨_, rfl⟩
          replace H : (if 0 ≤ (ji25) then (if (ji25) ≤ (x11_1.length : Int) then (some (strOfNums (x11_1.drop ((ji25) : Int).toNat), wrap64 (a1 + (t219.length : Int)), true)) else (none)) else (none)) = some (r1, r2, r3) := by first | (rw [hji25] at H; exact H) | (simp only [hji25] at H ⊢; exact H)
          (try rw [hji25] at A20)
          have hji25w : (IntKind.i64.wrap ((x11_1.length : Int) - a2)) = ji25 := (i64_w _).trans hji25
          by_cases c26 : 0 ≤ (ji25)
          ·rw [if_pos c26] at H
           have c26b0 := eq_true c26
           have c26b1 : decide (0 ≤ (ji25)) = true := decide_eq_true c26
           clear c26
           by_cases c27 : (ji25) ≤ (x11_1.length : Int)
           ·rw [if_pos c27] at H
            have c27b0 := eq_true c27
            have c27b1 : decide ((ji25) ≤ (x11_1.length : Int)) = true := decide_eq_true c27
            clear c27
            obtain ⟨y235, hy235⟩ : ∃ y_ : List Int, y_ = (x11_1.drop ((ji25) : Int).toNat) := ⟨_, rfl⟩
            replace H : (some (strOfNums y235, wrap64 (a1 + (t219.length : Int)), true)) = some (r1, r2, r3) := by first | (rw [hy235]; with_reducible exact H) | (have H2_ := (Option.bind_some _ _).symm.trans H; rw [hy235]; with_reducible exact H2_) | (have H2_ := (Option.bind_some _ _).symm.trans H; with_reducible exact H2_) | with_reducible exact H | (rw [hy235]; exact H) | exact H
            have Ny235 := Aside0.mk hy235
            clear hy235
            simp only [Option.some.injEq, Prod.mk.injEq] at H
            obtain ⟨rfl, rfl, rfl⟩ := H
            have hcv28 := own_string (P := Tryd.prog) Tryd.underlying22 Tryd.underlying5 Tryd.underlying9 (Kd.own_of_R HO_11.out)
            go_wp2_with (first | (go_at_call 118; (with_reducible refine (impl_Digits.calls k1 (strOfNums x11_1) true _ A20.out).mono ?_); rintro e w' ⟨rfl, ⟨nd, rfl⟩⟩; obtain ⟨Ao29, co29, eo29⟩ := Kd.R_slice HO_11.out; subst eo29; have p234 : 0 ≤ (0 : Int) := (by omega); have q234 : 0 < (x11_1.length : Int) := od_; obtain ⟨ad234, e234, hx234_0⟩ := Kd.at_int (Kd.R_reads' HO_11.out).2.2 0 p234 q234; cases e234; have qi234 : (0 < x11_1.length) = True := eq_true (by omega); (try rw [show ((0 : Int)).toNat = 0 from rfl] at hx234_0); (try rw [Addr.add_zero'] at hx234_0); replace p234 := eq_true p234; replace q234 := eq_true q234; have q30 : ((ji25) : Int) ≤ ((x11_1.length : Int) : Int) := od_; obtain ⟨i030, hi030, _, hsz30, _⟩ := info_parts info5; have hroom30 : x11_1.length ≤ co29 := (Kd.R_reads' HO_11.out).2.1; have hC30 : Kd.C (Kd.int .u8) _ (some ad234) x11_1.length x11_1 := (Kd.R_reads' HO_11.out).2.2; have q030 : (0 : Int) ≤ ((ji25) : Int) := od_; have hcut30 := cut_from (P := Tryd.prog) 22 5 .i64 Tryd.underlying22 hi030 1 hsz30 (some ad234) x11_1.length co29 (ji25) q030 q30; have hr30 := Kd.C_drop (m := ((ji25) : Int).toNat) (c := co29) hC30 (by omega) hroom30; obtain ⟨A30, hA30⟩ : ∃ A1, A1 = (if co29 = ((ji25) : Int).toNat then (some ad234) else ((some ad234) : Option Addr).map (·.add (((ji25) : Int).toNat * 1))) := ⟨_, rfl⟩; obtain ⟨c30, hc30⟩ : ∃ c1, c1 = co29 - ((ji25) : Int).toNat := ⟨_, rfl⟩; have hy30 : y235.length = x11_1.length - ((ji25) : Int).toNat := (by rw [Ny235.out, List.length_drop] <;> omega); rw [show (x11_1).drop ((ji25) : Int).toNat = y235 from Ny235.out.symm] at hr30; replace hr30 : Kd.C (Kd.int .u8) _ A30 y235.length y235 := (by rw [hA30]; exact hr30); rw [← hy30, ← hA30, ← hc30] at hcut30; have HR238 := Aside0.mk hr30; have HC238 := Aside0.mk (show y235.length ≤ c30 from by rw [hy30, hc30]; exact Nat.sub_le_sub_right hroom30 _); clear hr30 hC30 hroom30 hi030 hsz30 hc30; have KY30 := Aside0.mk hy30; have KA30 := Aside0.mk hA30; clear hy30 hA30; have KL30 := Aside0.mk (show ((ji25) : Int).toNat ≤ x11_1.length from by omega); replace q30 := eq_true q30; have hcv31 := Kd.C_string (P := Tryd.prog) (A := A30) (c := c30) Tryd.underlying22 Tryd.underlying5 Tryd.underlying9 (by repeat (first | (with_reducible exact HR238.out) | (with_reducible refine Kd.C_alloc ?_ _) | (with_reducible refine Kd.C_drewN ?_ _) | (with_reducible refine Kd.C_drew ?_) | exact HR238.out)); have hcu31 := fun (n_ : Nat) => Kd.C_string (P := Tryd.prog) (A := A30) (c := c30) Tryd.underlying22 Tryd.underlying5 Tryd.underlying9 (Kd.C_drewN HR238.out n_)))
            go_ret3
            exact ⟨by first | rfl | (simp [errW_none, errW_some] <;> rfl) | (simp only [← hji25]; first | rfl | (simp [errW_none, errW_some] <;> rfl)) | (simp [*, errW_none, errW_some] <;> rfl), bl_⟩
           ·rw [if_neg c27] at H
            exact absurd H (by simp)
          ·rw [if_neg c26] at H
           exact absurd H (by simp)
         ·rw [if_neg c24] at H
          have c24b0 : ((rd x11_1 0) == 48) = false := beq_eq_false_iff_ne.mpr c24
          have c24b1 : ((rd x11_1 0) != 48) = true := bne_iff_ne.mpr c24
          simp only [Option.some.injEq, Prod.mk.injEq] at H
          obtain ⟨rfl, rfl, rfl⟩ := H
          have hcv32 := own_string (P := Tryd.prog) Tryd.underlying22 Tryd.underlying5 Tryd.underlying9 (Kd.own_of_R HO_11.out)
          go_wp2_with (first | (go_at_call 118; (with_reducible refine (impl_Digits.calls k1 (strOfNums x11_1) true _ A20.out).mono ?_); rintro e w' ⟨rfl, ⟨nd, rfl⟩⟩; obtain ⟨Ao33, co33, eo33⟩ := Kd.R_slice HO_11.out; subst eo33; have p234 : 0 ≤ (0 : Int) := (by omega); have q234 : 0 < (x11_1.length : Int) := od_; obtain ⟨ad234, e234, hx234_0⟩ := Kd.at_int (Kd.R_reads' HO_11.out).2.2 0 p234 q234; cases e234; have qi234 : (0 < x11_1.length) = True := eq_true (by omega); (try rw [show ((0 : Int)).toNat = 0 from rfl] at hx234_0); (try rw [Addr.add_zero'] at hx234_0); replace p234 := eq_true p234; replace q234 := eq_true q234))
          go_ret3
          exact ⟨sq_, bl_⟩
        ·rw [if_neg c23] at H
         exact absurd H (by simp)
       ·rw [if_neg c22] at H
        have c22b0 : ((Int.tmod a2 2) == 1) = false := beq_eq_false_iff_ne.mpr c22
        have c22b1 : ((Int.tmod a2 2) != 1) = true := bne_iff_ne.mpr c22
        obtain ⟨ji34, hji34⟩ : ∃ j_ : Int, (wrap64 ((x11_1.length : Int) - a2)) = j_ := ⟨_, rfl⟩
        replace H : (if 0 ≤ (ji34) then (if (ji34) ≤ (x11_1.length : Int) then (some (strOfNums (x11_1.drop ((ji34) : Int).toNat), wrap64 (a1 + (t219.length : Int)), true)) else (none)) else (none)) = some (r1, r2, r3) := by first | (rw [hji34] at H; exact H) | (simp only [hji34] at H ⊢; exact H)
        (try rw [hji34] at A20)
        have hji34w : (IntKind.i64.wrap ((x11_1.length : Int) - a2)) = ji34 := (i64_w _).trans hji34
        by_cases c35 : 0 ≤ (ji34)
        ·rw [if_pos c35] at H
         have c35b0 := eq_true c35
         have c35b1 : decide (0 ≤ (ji34)) = true := decide_eq_true c35
         clear c35
         by_cases c36 : (ji34) ≤ (x11_1.length : Int)
         ·rw [if_pos c36] at H
          have c36b0 := eq_true c36
          have c36b1 : decide ((ji34) ≤ (x11_1.length : Int)) = true := decide_eq_true c36
          clear c36
          obtain ⟨y239, hy239⟩ : ∃ y_ : List Int, y_ = (x11_1.drop ((ji34) : Int).toNat) := ⟨_, rfl⟩
          replace H : (some (strOfNums y239, wrap64 (a1 + (t219.length : Int)), true)) = some (r1, r2, r3) := by first | (rw [hy239]; with_reducible exact H) | (have H2_ := (Option.bind_some _ _).symm.trans H; rw [hy239]; with_reducible exact H2_) | (have H2_ := (Option.bind_some _ _).symm.trans H; with_reducible exact H2_) | with_reducible exact H | (rw [hy239]; exact H) | exact H
          have Ny239 := Aside0.mk hy239
          clear hy239
          simp only [Option.some.injEq, Prod.mk.injEq] at H
          obtain ⟨rfl, rfl, rfl⟩ := H
          have hcv37 := own_string (P := Tryd.prog) Tryd.underlying22 Tryd.underlying5 Tryd.underlying9 (Kd.own_of_R HO_11.out)
          go_wp2_with (first | (go_at_call 118; (with_reducible refine (impl_Digits.calls k1 (strOfNums x11_1) true _ A20.out).mono ?_); rintro e w' ⟨rfl, ⟨nd, rfl⟩⟩; obtain ⟨Ao38, co38, eo38⟩ := Kd.R_slice HO_11.out; subst eo38; have q39 : ((ji34) : Int) ≤ ((x11_1.length : Int) : Int) := od_; obtain ⟨i039, hi039, _, hsz39, _⟩ := info_parts info5; have hroom39 : x11_1.length ≤ co38 := (Kd.R_reads' HO_11.out).2.1; have hC39 : Kd.C (Kd.int .u8) _ Ao38 x11_1.length x11_1 := (Kd.R_reads' HO_11.out).2.2; have q039 : (0 : Int) ≤ ((ji34) : Int) := od_; have hcut39 := cut_from (P := Tryd.prog) 22 5 .i64 Tryd.underlying22 hi039 1 hsz39 Ao38 x11_1.length co38 (ji34) q039 q39; have hr39 := Kd.C_drop (m := ((ji34) : Int).toNat) (c := co38) hC39 (by omega) hroom39; obtain ⟨A39, hA39⟩ : ∃ A1, A1 = (if co38 = ((ji34) : Int).toNat then Ao38 else (Ao38 : Option Addr).map (·.add (((ji34) : Int).toNat * 1))) := ⟨_, rfl⟩; obtain ⟨c39, hc39⟩ : ∃ c1, c1 = co38 - ((ji34) : Int).toNat := ⟨_, rfl⟩; have hy39 : y239.length = x11_1.length - ((ji34) : Int).toNat := (by rw [Ny239.out, List.length_drop] <;> omega); rw [show (x11_1).drop ((ji34) : Int).toNat = y239 from Ny239.out.symm] at hr39; replace hr39 : Kd.C (Kd.int .u8) _ A39 y239.length y239 := (by rw [hA39]; exact hr39); rw [← hy39, ← hA39, ← hc39] at hcut39; have HR242 := Aside0.mk hr39; have HC242 := Aside0.mk (show y239.length ≤ c39 from by rw [hy39, hc39]; exact Nat.sub_le_sub_right hroom39 _); clear hr39 hC39 hroom39 hi039 hsz39 hc39; have KY39 := Aside0.mk hy39; have KA39 := Aside0.mk hA39; clear hy39 hA39; have KL39 := Aside0.mk (show ((ji34) : Int).toNat ≤ x11_1.length from by omega); replace q39 := eq_true q39; have hcv40 := Kd.C_string (P := Tryd.prog) (A := A39) (c := c39) Tryd.underlying22 Tryd.underlying5 Tryd.underlying9 (by repeat (first | (with_reducible exact HR242.out) | (with_reducible refine Kd.C_alloc ?_ _) | (with_reducible refine Kd.C_drewN ?_ _) | (with_reducible refine Kd.C_drew ?_) | exact HR242.out)); have hcu40 := fun (n_ : Nat) => Kd.C_string (P := Tryd.prog) (A := A39) (c := c39) Tryd.underlying22 Tryd.underlying5 Tryd.underlying9 (Kd.C_drewN HR242.out n_)))
          go_ret3
          exact ⟨by first | rfl | (simp [errW_none, errW_some] <;> rfl) | (simp only [← hji34]; first | rfl | (simp [errW_none, errW_some] <;> rfl)) | (simp [*, errW_none, errW_some] <;> rfl), bl_⟩
         ·rw [if_neg c36] at H
          exact absurd H (by simp)
        ·rw [if_neg c35] at H
         exact absurd H (by simp)
      ·replace c21 := Bool.eq_false_iff.mpr c21
       subst c21
       replace H := in_ H
       simp only [Option.some.injEq, Prod.mk.injEq] at H
       obtain ⟨rfl, rfl, rfl⟩ := H
       have hcv41 := own_string (P := Tryd.prog) Tryd.underlying22 Tryd.underlying5 Tryd.underlying9 (Kd.own_of_R HO_11.out)
       go_wp2_with (first | (go_at_call 118; (with_reducible refine (impl_Digits.calls k1 (strOfNums x11_1) false _ A20.out).mono ?_); rintro e w' ⟨rfl, ⟨nd, rfl⟩⟩))
       go_ret3
       exact ⟨sq_, bl_⟩
     ·replace c19 := Bool.eq_false_iff.mpr c19
      subst c19
      replace H := in_ H
      simp only [Option.some.injEq, Prod.mk.injEq] at H
      obtain ⟨rfl, rfl, rfl⟩ := H
      go_wp2
      go_ret3
      exact ⟨sq_, bl_⟩
 ·replace c5 := Bool.eq_false_iff.mpr c5
  subst c5
  replace H := in_ H
  simp only [Option.some.injEq, Prod.mk.injEq] at H
  obtain ⟨rfl, rfl, rfl⟩ := H
  go_enter Tryd.func91, Tryd.ntmps91
  go_wp2_with (first | ((with_reducible refine gate_callee (f := 60) rfl ?_); refine goesL_ (some 15) rfl rfl Tryd.func60 (by kernel_rfl) rfl #[.int .i64 a2, .int .i64 1, .int .i64 38] rfl gl_ ?_; (with_reducible refine (impl_within.calls a2 1 38 false _ A4.out).mono ?_); rintro e w' ⟨rfl, ⟨nd, rfl⟩⟩; refine ⟨_, rfl, ?_⟩))
  go_ret3
  exact ⟨sq_, bl_⟩
/-! ### impl_GetBits: function 92 -/
def impl_GetBits.l0 : Nat → Int → List Int → List Int → Int → Option (List Int × Int × Bool)
 | 0, _, _, _, _ => none
 | k + 1, x1, x7, x9, x10 => if x10 ≤ 64 then (if 0 ≤ (wrap64 (Int.tdiv (wrap64 (x10 - 1)) 8)) then (if (wrap64 (Int.tdiv (wrap64 (x10 - 1)) 8)) < (x7.length : Int) then (if 0 ≤ (Int.tmod (wrap64 (x10 - 1)) 8) then (if (Go.bits .and .u8 (rd x7 (wrap64 (Int.tdiv (wrap64 (x10 - 1)) 8))) (shr .u8 128 (Int.tmod (wrap64 (x10 - 1)) 8))) = 0 then (impl_GetBits.l0 k x1 x7 x9 (wrap64 (x10 + 1))) else (if x9.length < 17592186044416 then (impl_GetBits.l0 k x1 x7 (x9 ++ [x10]) (wrap64 (x10 + 1))) else (none))) else (none)) else (none)) else (none)) else (some (x9, wrap64 (x1 + 8), true))
def impl_GetBits.f (k : Nat) (l0 : List Int) (a1 : Int) : Option (List Int × Int × Bool) := (impl_piece.f l0 a1 8).bind fun bt243 => (if bt243.2 = true then (impl_GetBits.l0 k a1 bt243.1 (([] : List Int)) 1) else (some (([] : List Int), 0, false)))
set_option maxHeartbeats 8000000 in
set_option maxRecDepth 100000 in
theorem impl_GetBits.calls (k : Nat) (A0 : Option Addr) (c0 : Nat) (l0 : List Int) (a1 : Int) (r1 : List Int) (r2 : Int) (r3 : Bool) (w : World) (hr0 : Kd.C (Kd.int .u8) w A0 l0.length l0) (hc0 : l0.length ≤ c0) (h : impl_GetBits.f k l0 a1 = some (r1, r2, r3)) :
  Calls Tryd.prog 92 #[.slice A0 l0.length c0, .int .i64 a1] w fun e w' => ∃ v0_ : Value, e = .returned (.tuple #[v0_, .int .i64 r2, .bool r3]) ∧ Kd.R (Kd.int .i64) 3 w' w.heap.size (fun _ => True) v0_ r1 ∧ Below w.heap.size w w' := by
 have HR0 := Aside0.mk hr0
 have HC0 := Aside0.mk hc0
 clear hr0 hc0
 have HB := Aside0.mk (Below.refl w.heap.size w)
 have H : ((impl_piece.f l0 a1 8).bind fun bt243 => (if bt243.2 = true then (impl_GetBits.l0 k a1 bt243.1 (([] : List Int)) 1) else (some (([] : List Int), 0, false)))) = some (r1, r2, r3) := h
 clear h
 obtain ⟨⟨t243, t246⟩, A3, H⟩ := ob_ H
 (try dsimp only at H)
 by_cases c4 : t246 = true
 ·subst c4
  replace H := ip_ H
  obtain ⟨y247, hy247⟩ : ∃ y_ : List Int, y_ = (([] : List Int)) := ⟨_, rfl⟩
  replace H : (impl_GetBits.l0 k a1 t243 y247 1) = some (r1, r2, r3) := by first | (rw [hy247]; with_reducible exact H) | (have H2_ := (Option.bind_some _ _).symm.trans H; rw [hy247]; with_reducible exact H2_) | (have H2_ := (Option.bind_some _ _).symm.trans H; with_reducible exact H2_) | with_reducible exact H | (rw [hy247]; exact H) | exact H
  have Ny247 := Aside0.mk hy247
  clear hy247
  have H' := Aside0.mk H
  clear H
  go_enter Tryd.func92, Tryd.ntmps92
  go_wp2_with (first | (go_at_call 131; (with_reducible refine (impl_piece.calls (fun k_ => k_ < w.heap.size) _ _ l0 a1 8 t243 true _ ?side1 A3.out).mono ?_); (case side1 => exact Kd.V_mk HC0.out (Kd.F_below (Kd.C_F (Kd.heap_int .u8) HR0.out) bl_)); rintro e w5 ⟨v244, rfl, ho0, hb⟩; have HO245 := Aside0.mk (Kd.V_lower (Kd.V_mono (ok' := fun k_ => True) ho0 (fun k_ hk_ => trivial)) (below_size bl_)); replace HB := Aside0.mk (below_step bl_ hb); (try clear hb); (try clear hb2); (try clear hk); (try clear hi); (try clear ho0)) | ((with_reducible refine gate_dst (N := 19) rfl ?_); refine Kd.R_lit (Kd.int .i64) _ 3 ?hg (N := 19) ?hd (xs := ([] : List Int)) (inner := []) (ok := fun _ => True) (okp := fun _ => True) ?hr ?hp (fun _ hk => hk) trivial (Below.refl _ _) (Nat.le_refl _) (by simp) ?_; (case hd => rfl); (case hg => rfl); (case hr => first | (go_simp; done) | (go_simp; rfl)); (case hp => exact (Reps.none _ _)); intro v248 w6 ho7 hb hg_ hnew_; clear hg_ hnew_; (first | rw [← Ny247.out] at ho7 | (simp only [Int.reduceToNat] at ho7; rw [← Ny247.out] at ho7)); replace HO245 := Aside0.mk (Kd.V_elder' (by (with_reducible repeat (first | apply Kd.V_alloc | apply Kd.V_drewN | apply Kd.V_drew)); exact HO245.out) (Kd.R_base ho7) hb); have HO249 := Aside0.mk (Kd.R_lower ho7 (below_size bl_)); replace HB := Aside0.mk (below_step bl_ hb); clear hb ho7))
  repeat (go_quiet (first | (go_at_call 131; (with_reducible refine (impl_piece.calls (fun k_ => k_ < w.heap.size) _ _ l0 a1 8 t243 true _ ?side1 A3.out).mono ?_); (case side1 => exact Kd.V_mk HC0.out (Kd.F_below (Kd.C_F (Kd.heap_int .u8) HR0.out) bl_)); rintro e w5 ⟨v244, rfl, ho0, hb⟩; have HO245 := Aside0.mk (Kd.V_lower (Kd.V_mono (ok' := fun k_ => True) ho0 (fun k_ hk_ => trivial)) (below_size bl_)); replace HB := Aside0.mk (below_step bl_ hb); (try clear hb); (try clear hb2); (try clear hk); (try clear hi); (try clear ho0)) | ((with_reducible refine gate_dst (N := 19) rfl ?_); refine Kd.R_lit (Kd.int .i64) _ 3 ?hg (N := 19) ?hd (xs := ([] : List Int)) (inner := []) (ok := fun _ => True) (okp := fun _ => True) ?hr ?hp (fun _ hk => hk) trivial (Below.refl _ _) (Nat.le_refl _) (by simp) ?_; (case hd => rfl); (case hg => rfl); (case hr => first | (go_simp; done) | (go_simp; rfl)); (case hp => exact (Reps.none _ _)); intro v248 w6 ho7 hb hg_ hnew_; clear hg_ hnew_; (first | rw [← Ny247.out] at ho7 | (simp only [Int.reduceToNat] at ho7; rw [← Ny247.out] at ho7)); replace HO245 := Aside0.mk (Kd.V_elder' (by (with_reducible repeat (first | apply Kd.V_alloc | apply Kd.V_drewN | apply Kd.V_drew)); exact HO245.out) (Kd.R_base ho7) hb); have HO249 := Aside0.mk (Kd.R_lower ho7 (below_size bl_)); replace HB := Aside0.mk (below_step bl_ hb); clear hb ho7)); try go_wp2_with (first | (go_at_call 131; (with_reducible refine (impl_piece.calls (fun k_ => k_ < w.heap.size) _ _ l0 a1 8 t243 true _ ?side1 A3.out).mono ?_); (case side1 => exact Kd.V_mk HC0.out (Kd.F_below (Kd.C_F (Kd.heap_int .u8) HR0.out) bl_)); rintro e w5 ⟨v244, rfl, ho0, hb⟩; have HO245 := Aside0.mk (Kd.V_lower (Kd.V_mono (ok' := fun k_ => True) ho0 (fun k_ hk_ => trivial)) (below_size bl_)); replace HB := Aside0.mk (below_step bl_ hb); (try clear hb); (try clear hb2); (try clear hk); (try clear hi); (try clear ho0)) | ((with_reducible refine gate_dst (N := 19) rfl ?_); refine Kd.R_lit (Kd.int .i64) _ 3 ?hg (N := 19) ?hd (xs := ([] : List Int)) (inner := []) (ok := fun _ => True) (okp := fun _ => True) ?hr ?hp (fun _ hk => hk) trivial (Below.refl _ _) (Nat.le_refl _) (by simp) ?_; (case hd => rfl); (case hg => rfl); (case hr => first | (go_simp; done) | (go_simp; rfl)); (case hp => exact (Reps.none _ _)); intro v248 w6 ho7 hb hg_ hnew_; clear hg_ hnew_; (first | rw [← Ny247.out] at ho7 | (simp only [Int.reduceToNat] at ho7; rw [← Ny247.out] at ho7)); replace HO245 := Aside0.mk (Kd.V_elder' (by (with_reducible repeat (first | apply Kd.V_alloc | apply Kd.V_drewN | apply Kd.V_drew)); exact HO245.out) (Kd.R_base ho7) hb); have HO249 := Aside0.mk (Kd.R_lower ho7 (below_size bl_)); replace HB := Aside0.mk (below_step bl_ hb); clear hb ho7)))
  go_loopg [9, 10] k (fun kq v9 v10 w' => ∃ (x9_1 : List Int) (x10_1 : Int), v10 = .int .i64 x10_1 ∧ Aside0 (impl_GetBits.l0 kq a1 t243 x9_1 x10_1 = some (r1, r2, r3)) ∧ Aside0 (kq ≤ k) ∧ Aside0 (Kd.V (Kd.int .u8) 5 w' w.heap.size (fun k_ => some k_ ≠ (v9 : Value).ownBlock) v244 t243) ∧ Aside0 (Kd.R (Kd.int .i64) 3 w' w.heap.size (fun _ => True) v9 x9_1) ∧ Aside0 (Below w.heap.size w w'))
  case atStart => exact ⟨(y247), (1), sp_, H', ⟨Nat.le_refl _⟩, ⟨by (with_reducible repeat (first | apply Kd.V_alloc | apply Kd.V_drewN | apply Kd.V_drew)); exact Kd.V_mono HO245.out (fun _ hk => hk.2)⟩, ⟨ra_ HO249⟩, ⟨bl_⟩⟩
  case round =>
   clear H'
   try clear p2
   try clear c4
   obtain ⟨x9_1, x10_1, rfl, HA, HK1, HO_7, HO_9, HB⟩ := hrel
   cases gk with
   | zero => exact absurd HA.out (by simp [impl_GetBits.l0])
   | succ k1 =>
    have H := HA.out
    clear HA
    simp only [impl_GetBits.l0] at H
    by_cases c8 : x10_1 ≤ 64
    ·rw [if_pos c8] at H
     have c8b0 : decide (x10_1 ≤ 64) = true := decide_eq_true c8
     clear c8
     obtain ⟨ji9, hji9⟩ : ∃ j_ : Int, (wrap64 (Int.tdiv (wrap64 (x10_1 - 1)) 8)) = j_ := ⟨_, rfl⟩
     replace H : (if 0 ≤ (ji9) then (if (ji9) < (t243.length : Int) then (if 0 ≤ (Int.tmod (wrap64 (x10_1 - 1)) 8) then (if (Go.bits .and .u8 (rd t243 (ji9)) (shr .u8 128 (Int.tmod (wrap64 (x10_1 - 1)) 8))) = 0 then (impl_GetBits.l0 k1 a1 t243 x9_1 (wrap64 (x10_1 + 1))) else (if x9_1.length < 17592186044416 then (impl_GetBits.l0 k1 a1 t243 (x9_1 ++ [x10_1]) (wrap64 (x10_1 + 1))) else (none))) else (none)) else (none)) else (none)) = some (r1, r2, r3) := by first | (rw [hji9] at H; exact H) | (simp only [hji9] at H ⊢; exact H)
     have hji9w : (IntKind.i64.wrap (Int.tdiv (wrap64 (x10_1 - 1)) 8)) = ji9 := (i64_w _).trans hji9
     by_cases c10 : 0 ≤ (ji9)
     ·rw [if_pos c10] at H
      have c10b0 : decide (0 ≤ (ji9)) = true := decide_eq_true c10
      clear c10
      by_cases c11 : (ji9) < (t243.length : Int)
      ·rw [if_pos c11] at H
       have c11b0 : decide ((ji9) < (t243.length : Int)) = true := decide_eq_true c11
       clear c11
       obtain ⟨ji12, hji12⟩ : ∃ j_ : Int, (Int.tmod (wrap64 (x10_1 - 1)) 8) = j_ := ⟨_, rfl⟩
       replace H : (if 0 ≤ (ji12) then (if (Go.bits .and .u8 (rd t243 (ji9)) (shr .u8 128 (ji12))) = 0 then (impl_GetBits.l0 k1 a1 t243 x9_1 (wrap64 (x10_1 + 1))) else (if x9_1.length < 17592186044416 then (impl_GetBits.l0 k1 a1 t243 (x9_1 ++ [x10_1]) (wrap64 (x10_1 + 1))) else (none))) else (none)) = some (r1, r2, r3) := by first | (rw [hji12] at H; exact H) | (simp only [hji12] at H ⊢; exact H)
       by_cases c13 : 0 ≤ (ji12)
       ·rw [if_pos c13] at H
        have c13b0 := eq_true c13
        have c13b1 : decide (0 ≤ (ji12)) = true := decide_eq_true c13
        clear c13
        obtain ⟨ji14, hji14⟩ : ∃ j_ : Int, (shr .u8 128 (ji12)) = j_ := ⟨_, rfl⟩
        replace H : (if (Go.bits .and .u8 (rd t243 (ji9)) (ji14)) = 0 then (impl_GetBits.l0 k1 a1 t243 x9_1 (wrap64 (x10_1 + 1))) else (if x9_1.length < 17592186044416 then (impl_GetBits.l0 k1 a1 t243 (x9_1 ++ [x10_1]) (wrap64 (x10_1 + 1))) else (none))) = some (r1, r2, r3) := by first | (rw [hji14] at H; exact H) | (simp only [hji14] at H ⊢; exact H)
        have hji14_ : (128 / 2 ^ min (ji12).toNat 8) = ji14 := hji14
        have hji14z : (ji12) ≤ 8 → (128 / 2 ^ (ji12).toNat) = ji14 := shr_small hji14
        by_cases c15 : (Go.bits .and .u8 (rd t243 (ji9)) (ji14)) = 0
        ·rw [if_pos c15] at H
         have c15b0 : ((Go.bits .and .u8 (rd t243 (ji9)) (ji14)) == 0) = true := beq_iff_eq.mpr c15
         have c15b1 : ((Go.bits .and .u8 (rd t243 (ji9)) (ji14)) != 0) = false := bne_eq_false_iff_eq.mpr c15
         clear c15
         have H' := Aside0.mk H
         clear H
         obtain ⟨Ao16, co16, eo16⟩ := Kd.V_slice HO_7.out
         subst eo16
         have p250 : 0 ≤ ((ji9) : Int) := od_
         have q250 : (ji9) < (t243.length : Int) := od_
         obtain ⟨ad250, e250, hx250_0⟩ := Kd.at_int (Kd.V_reads' HO_7.out).2.2 (ji9) p250 q250
         cases e250
         replace p250 := eq_true p250
         replace q250 := eq_true q250
         go_wp2
         repeat (go_quiet (fail); try go_wp2)
         go_roundg k1
         case measure => have := HK1.out; omega
         case rel => exact ⟨(x9_1), (wrap64 (x10_1 + 1)), sp_, H', ⟨by have := HK1.out; omega⟩, ⟨by (with_reducible repeat (first | apply Kd.V_alloc | apply Kd.V_drewN | apply Kd.V_drew)); exact HO_7.out⟩, ⟨ra_ HO_9⟩, ⟨bl_⟩⟩
        ·rw [if_neg c15] at H
         have c15b0 : ((Go.bits .and .u8 (rd t243 (ji9)) (ji14)) == 0) = false := beq_eq_false_iff_ne.mpr c15
         have c15b1 : ((Go.bits .and .u8 (rd t243 (ji9)) (ji14)) != 0) = true := bne_iff_ne.mpr c15
         by_cases c17 : x9_1.length < 17592186044416
         ·rw [if_pos c17] at H
          have LMc17 := Aside0.mk c17
          clear c17
          obtain ⟨y251, hy251⟩ : ∃ y_ : List Int, y_ = (x9_1 ++ [x10_1]) := ⟨_, rfl⟩
          replace H : (impl_GetBits.l0 k1 a1 t243 y251 (wrap64 (x10_1 + 1))) = some (r1, r2, r3) := by first | (rw [hy251]; with_reducible exact H) | (have H2_ := (Option.bind_some _ _).symm.trans H; rw [hy251]; with_reducible exact H2_) | (have H2_ := (Option.bind_some _ _).symm.trans H; with_reducible exact H2_) | with_reducible exact H | (rw [hy251]; exact H) | exact H
          have Ny251 := Aside0.mk hy251
          clear hy251
          have H' := Aside0.mk H
          clear H
          obtain ⟨Ao18, co18, eo18⟩ := Kd.V_slice HO_7.out
          subst eo18
          have p250 : 0 ≤ ((ji9) : Int) := od_
          have q250 : (ji9) < (t243.length : Int) := od_
          obtain ⟨ad250, e250, hx250_0⟩ := Kd.at_int (Kd.V_reads' HO_7.out).2.2 (ji9) p250 q250
          cases e250
          replace p250 := eq_true p250
          replace q250 := eq_true q250
          go_wp2_with (first | ((with_reducible refine gate_builtin (b := .append) (xs := #[.tmp 36, .tmp 38]) rfl ?_); at_builtin; refine Kd.R_append (Kd.int .i64) (w0 := w) w.heap.size rfl (.tmp 36) (.tmp 38) 24 3 (.int .i64 0) 8 rfl Tryd.underlying24 info3 rfl (by decide) (by omega) u9 x9_1 x10_1 [.int .i64 x10_1] (fun _ => True) (fun _ => False) rfl rfl ?aP (fun _ hk => hk.elim) ?aF ?aO ?aB ?aS ?aL ?_; (case aP => exact rfl); (case aB => exact bl_); (case aF => exact (fun _ _ => trivial)); (case aO => exact (ra_ HO_9)); (case aS => exact (below_size bl_)); (case aL => have := LMc17.out; omega); intro v252 w19 ho hb hg hat; rw [← Ny251.out] at ho; have n0_ := Aside0.mk (Kd.V_afterv (ok := (fun _ => True)) (by (with_reducible repeat (first | apply Kd.V_alloc | apply Kd.V_drewN | apply Kd.V_drew)); exact Kd.V_mono HO_7.out (fun _ hk => ⟨trivial, hk⟩)) hg hat); have n1_ := Aside0.mk (hb); have n2_ := Aside0.mk (ho); clear HO_7; clear HB; clear HO_9; have HO_7 := n0_; have HB := n1_; have HO253 := n2_; clear n0_ n1_ n2_; clear ho hb hg hat))
          repeat (go_quiet (first | ((with_reducible refine gate_builtin (b := .append) (xs := #[.tmp 36, .tmp 38]) rfl ?_); at_builtin; refine Kd.R_append (Kd.int .i64) (w0 := w) w.heap.size rfl (.tmp 36) (.tmp 38) 24 3 (.int .i64 0) 8 rfl Tryd.underlying24 info3 rfl (by decide) (by omega) u9 x9_1 x10_1 [.int .i64 x10_1] (fun _ => True) (fun _ => False) rfl rfl ?aP (fun _ hk => hk.elim) ?aF ?aO ?aB ?aS ?aL ?_; (case aP => exact rfl); (case aB => exact bl_); (case aF => exact (fun _ _ => trivial)); (case aO => exact (ra_ HO_9)); (case aS => exact (below_size bl_)); (case aL => have := LMc17.out; omega); intro v252 w19 ho hb hg hat; rw [← Ny251.out] at ho; have n0_ := Aside0.mk (Kd.V_afterv (ok := (fun _ => True)) (by (with_reducible repeat (first | apply Kd.V_alloc | apply Kd.V_drewN | apply Kd.V_drew)); exact Kd.V_mono HO_7.out (fun _ hk => ⟨trivial, hk⟩)) hg hat); have n1_ := Aside0.mk (hb); have n2_ := Aside0.mk (ho); clear HO_7; clear HB; clear HO_9; have HO_7 := n0_; have HB := n1_; have HO253 := n2_; clear n0_ n1_ n2_; clear ho hb hg hat)); try go_wp2_with (first | ((with_reducible refine gate_builtin (b := .append) (xs := #[.tmp 36, .tmp 38]) rfl ?_); at_builtin; refine Kd.R_append (Kd.int .i64) (w0 := w) w.heap.size rfl (.tmp 36) (.tmp 38) 24 3 (.int .i64 0) 8 rfl Tryd.underlying24 info3 rfl (by decide) (by omega) u9 x9_1 x10_1 [.int .i64 x10_1] (fun _ => True) (fun _ => False) rfl rfl ?aP (fun _ hk => hk.elim) ?aF ?aO ?aB ?aS ?aL ?_; (case aP => exact rfl); (case aB => exact bl_); (case aF => exact (fun _ _ => trivial)); (case aO => exact (ra_ HO_9)); (case aS => exact (below_size bl_)); (case aL => have := LMc17.out; omega); intro v252 w19 ho hb hg hat; rw [← Ny251.out] at ho; have n0_ := Aside0.mk (Kd.V_afterv (ok := (fun _ => True)) (by (with_reducible repeat (first | apply Kd.V_alloc | apply Kd.V_drewN | apply Kd.V_drew)); exact Kd.V_mono HO_7.out (fun _ hk => ⟨trivial, hk⟩)) hg hat); have n1_ := Aside0.mk (hb); have n2_ := Aside0.mk (ho); clear HO_7; clear HB; clear HO_9; have HO_7 := n0_; have HB := n1_; have HO253 := n2_; clear n0_ n1_ n2_; clear ho hb hg hat)))
          go_roundg k1
          case measure => have := HK1.out; omega
          case rel => exact ⟨(y251), (wrap64 (x10_1 + 1)), sp_, H', ⟨by have := HK1.out; omega⟩, ⟨by (with_reducible repeat (first | apply Kd.V_alloc | apply Kd.V_drewN | apply Kd.V_drew)); exact Kd.V_mono HO_7.out (fun _ hk => hk.2)⟩, ⟨ra_ HO253⟩, ⟨bl_⟩⟩
         ·rw [if_neg c17] at H
          exact absurd H (by simp)
       ·rw [if_neg c13] at H
        exact absurd H (by simp)
      ·rw [if_neg c11] at H
       exact absurd H (by simp)
     ·rw [if_neg c10] at H
      exact absurd H (by simp)
    ·rw [if_neg c8] at H
     have c8b0 : decide (x10_1 ≤ 64) = false := decide_eq_false c8
     clear c8
     simp only [Option.some.injEq, Prod.mk.injEq] at H
     obtain ⟨rfl, rfl, rfl⟩ := H
     go_wp2
     repeat (go_quiet (fail); try go_wp2)
     go_ret3
     exact ⟨_, by first | rfl | (simp [errW_none, errW_some] <;> rfl) | (simp [*, errW_none, errW_some] <;> rfl), ra_ HO_9, bl_⟩
 ·replace c4 := Bool.eq_false_iff.mpr c4
  subst c4
  replace H := in_ H
  simp only [Option.some.injEq, Prod.mk.injEq] at H
  obtain ⟨rfl, rfl, rfl⟩ := H
  go_enter Tryd.func92, Tryd.ntmps92
  go_wp2_with (first | (go_at_call 131; (with_reducible refine (impl_piece.calls (fun k_ => k_ < w.heap.size) _ _ l0 a1 8 t243 false _ ?side1 A3.out).mono ?_); (case side1 => exact Kd.V_mk HC0.out (Kd.F_below (Kd.C_F (Kd.heap_int .u8) HR0.out) bl_)); rintro e w20 ⟨v244, rfl, ho0, hb⟩; have HO245 := Aside0.mk (Kd.V_lower (Kd.V_mono (ok' := fun k_ => True) ho0 (fun k_ hk_ => trivial)) (below_size bl_)); replace HB := Aside0.mk (below_step bl_ hb); (try clear hb); (try clear hb2); (try clear hk); (try clear hi); (try clear ho0)))
  repeat (go_quiet (first | (go_at_call 131; (with_reducible refine (impl_piece.calls (fun k_ => k_ < w.heap.size) _ _ l0 a1 8 t243 false _ ?side1 A3.out).mono ?_); (case side1 => exact Kd.V_mk HC0.out (Kd.F_below (Kd.C_F (Kd.heap_int .u8) HR0.out) bl_)); rintro e w20 ⟨v244, rfl, ho0, hb⟩; have HO245 := Aside0.mk (Kd.V_lower (Kd.V_mono (ok' := fun k_ => True) ho0 (fun k_ hk_ => trivial)) (below_size bl_)); replace HB := Aside0.mk (below_step bl_ hb); (try clear hb); (try clear hb2); (try clear hk); (try clear hi); (try clear ho0))); try go_wp2_with (first | (go_at_call 131; (with_reducible refine (impl_piece.calls (fun k_ => k_ < w.heap.size) _ _ l0 a1 8 t243 false _ ?side1 A3.out).mono ?_); (case side1 => exact Kd.V_mk HC0.out (Kd.F_below (Kd.C_F (Kd.heap_int .u8) HR0.out) bl_)); rintro e w20 ⟨v244, rfl, ho0, hb⟩; have HO245 := Aside0.mk (Kd.V_lower (Kd.V_mono (ok' := fun k_ => True) ho0 (fun k_ hk_ => trivial)) (below_size bl_)); replace HB := Aside0.mk (below_step bl_ hb); (try clear hb); (try clear hb2); (try clear hk); (try clear hi); (try clear ho0))))
  go_ret3
  exact ⟨_, by first | rfl | (simp [errW_none, errW_some] <;> rfl) | (simp [*, errW_none, errW_some] <;> rfl), by first | exact Kd.R_nil _ _ _ _ _ | exact Kd.N_nil _ _ _ _ _ | exact Kd.V_nil _ _ _ _ _ | exact Kd.Q_nil _ _ _ _ _ | exact Kd.S_nil _ _ _ _ _, bl_⟩
/-! ### impl_FieldSize: function 81 -/
def impl_FieldSize.f (k : Nat) (a0 : Int) : Option (Int) := (impl_rowOf.f k a0).bind fun bt254 => (some bt254.2.2)
set_option maxHeartbeats 8000000 in
set_option maxRecDepth 100000 in
theorem impl_FieldSize.calls (k : Nat) (a0 : Int) (r : Int) (w : World) (h : impl_FieldSize.f k a0 = some r) :
  Calls Tryd.prog 81 #[.int .i64 a0] w fun e w' => e = .returned (.int .i64 r) ∧ Below w.heap.size w w' := by
 have hfl144_2 : ∀ (x0_ x1_ x2_ : Value) (w : World), (Instr.field 144 (.agg #[x0_, x1_, x2_]) 2).run Tryd.prog w = .ok x2_ w := by intros; kernel_rfl
 have HB := Aside0.mk (Below.refl w.heap.size w)
 have H : ((impl_rowOf.f k a0).bind fun bt254 => (some bt254.2.2)) = some r := h
 clear h
 obtain ⟨⟨t254, t255, t256⟩, A2, H⟩ := ob_ H
 (try dsimp only at H)
 obtain rfl := Option.some.inj H
 go_enter Tryd.func81, Tryd.ntmps81
 go_wp2_with (first | ((with_reducible refine gate_callee (f := 125) rfl ?_); refine goesL_ (some 4) rfl rfl Tryd.func125 (by kernel_rfl) rfl #[.int .i64 a0] rfl gl_ ?_; (with_reducible refine (impl_rowOf.calls k a0 t254 t255 t256 _ A2.out).mono ?_); rintro e w3 ⟨rfl, hb⟩; refine ⟨_, rfl, ?_⟩; replace HB := Aside0.mk (below_step bl_ hb); (try clear hb); (try clear hb2); (try clear hk); (try clear hi)))
 go_ret
 exact ⟨sq_, bl_⟩
/-! ### impl_Printable: function 126 -/
def impl_Printable.l0 : Nat → ByteArray → Int → Int → Option (Bool)
 | 0, _, _, _ => none
 | k + 1, x0, x5, x6 => if x6 < x5 then (if 0 ≤ x6 then (if x6 < (x0.size : Int) then (if (bt x0 x6) < 32 then (some false) else (if (bt x0 x6) > 126 then (some false) else (impl_Printable.l0 k x0 x5 (wrap64 (x6 + 1))))) else (none)) else (none)) else (some true)
def impl_Printable.f (k : Nat) (a0 : ByteArray) : Option (Bool) := impl_Printable.l0 k a0 (a0.size : Int) 0
set_option maxHeartbeats 8000000 in
set_option maxRecDepth 100000 in
theorem impl_Printable.calls (k : Nat) (a0 : ByteArray) (r : Bool) (w : World) (h : impl_Printable.f k a0 = some r) :
  Calls Tryd.prog 126 #[.string a0] w fun e w' => e = .returned (.bool r) ∧ Drawn0 w w' := by
 have H : (impl_Printable.l0 k a0 (a0.size : Int) 0) = some r := h
 clear h
 have H' := Aside0.mk H
 clear H
 go_enter Tryd.func126, Tryd.ntmps126
 go_wp2
 go_loopg [6] k (fun kq v6 w' => ∃ (x6_1 : Int), v6 = .int .i64 x6_1 ∧ Aside0 (impl_Printable.l0 kq a0 (a0.size : Int) x6_1 = some r) ∧ Aside0 (kq ≤ k) ∧ Drawn0 w w')
 case atStart => exact ⟨(0), sp_, H', ⟨Nat.le_refl _⟩, by repeat (first | exact Drawn0.refl _ | apply Drawn0.step)⟩
 case round =>
  clear H'
  try clear c1
  obtain ⟨x6_1, rfl, HA, HK1, ⟨m1, rfl⟩⟩ := hrel
  cases gk with
  | zero => exact absurd HA.out (by simp [impl_Printable.l0])
  | succ k1 =>
   have H := HA.out
   clear HA
   simp only [impl_Printable.l0] at H
   by_cases c2 : x6_1 < (a0.size : Int)
   ·rw [if_pos c2] at H
    have c2b0 : decide (x6_1 < (a0.size : Int)) = true := decide_eq_true c2
    clear c2
    by_cases c3 : 0 ≤ x6_1
    ·rw [if_pos c3] at H
     have c3b0 : decide (0 ≤ x6_1) = true := decide_eq_true c3
     clear c3
     by_cases c4 : x6_1 < (a0.size : Int)
     ·rw [if_pos c4] at H
      have c4b0 : decide (x6_1 < (a0.size : Int)) = true := decide_eq_true c4
      clear c4
      by_cases c6 : (bt a0 x6_1) < 32
      ·rw [if_pos c6] at H
       have c6b0 : decide ((bt a0 x6_1) < 32) = true := decide_eq_true c6
       clear c6
       obtain rfl := Option.some.inj H
       have p5 : 0 ≤ (x6_1 : Int) := od_
       have q5 : x6_1 < (a0.size : Int) := od_
       have hx5 := bt_at a0 x6_1
       replace p5 := eq_true p5
       replace q5 := eq_true q5
       go_wp2
       go_ret
       exact ⟨sp_, by repeat (first | exact Drawn0.refl _ | apply Drawn0.step)⟩
      ·rw [if_neg c6] at H
       have c6b0 : decide ((bt a0 x6_1) < 32) = false := decide_eq_false c6
       clear c6
       by_cases c8 : (bt a0 x6_1) > 126
       ·rw [if_pos c8] at H
        have c8b0 : decide (126 < (bt a0 x6_1)) = true := decide_eq_true c8
        clear c8
        obtain rfl := Option.some.inj H
        have p5 : 0 ≤ (x6_1 : Int) := od_
        have q5 : x6_1 < (a0.size : Int) := od_
        have hx5 := bt_at a0 x6_1
        replace p5 := eq_true p5
        replace q5 := eq_true q5
        have p7 : 0 ≤ (x6_1 : Int) := od_
        have q7 : x6_1 < (a0.size : Int) := od_
        have hx7 := bt_at a0 x6_1
        replace p7 := eq_true p7
        replace q7 := eq_true q7
        go_wp2
        go_ret
        exact ⟨sp_, by repeat (first | exact Drawn0.refl _ | apply Drawn0.step)⟩
       ·rw [if_neg c8] at H
        have c8b0 : decide (126 < (bt a0 x6_1)) = false := decide_eq_false c8
        clear c8
        have H' := Aside0.mk H
        clear H
        have p5 : 0 ≤ (x6_1 : Int) := od_
        have q5 : x6_1 < (a0.size : Int) := od_
        have hx5 := bt_at a0 x6_1
        replace p5 := eq_true p5
        replace q5 := eq_true q5
        have p7 : 0 ≤ (x6_1 : Int) := od_
        have q7 : x6_1 < (a0.size : Int) := od_
        have hx7 := bt_at a0 x6_1
        replace p7 := eq_true p7
        replace q7 := eq_true q7
        go_wp2
        go_roundg k1
        case measure => have := HK1.out; omega
        case rel => exact ⟨(wrap64 (x6_1 + 1)), sp_, H', ⟨by have := HK1.out; omega⟩, by repeat (first | exact Drawn0.refl _ | apply Drawn0.step)⟩
     ·rw [if_neg c4] at H
      exact absurd H (by simp)
    ·rw [if_neg c3] at H
     exact absurd H (by simp)
   ·rw [if_neg c2] at H
    have c2b0 : decide (x6_1 < (a0.size : Int)) = false := decide_eq_false c2
    clear c2
    obtain rfl := Option.some.inj H
    go_wp2
    go_ret
    exact ⟨sp_, by repeat (first | exact Drawn0.refl _ | apply Drawn0.step)⟩
end Go.Proofs.YtbjpfknmkpnhjaaDoor.QFnExactReplyCode
