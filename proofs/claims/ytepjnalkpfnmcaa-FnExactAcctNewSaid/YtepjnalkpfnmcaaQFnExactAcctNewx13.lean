-- by my own printer (myprint.py, over the kit's print.py)
import Derived.Test.YtepjnalkpfnmcaaQFnExactAcctNewx0
import Derived.Test.YtepjnalkpfnmcaaQFnExactAcctNewx12
namespace Go.Proofs.Ytepjnalkpfnmcaa.QFnExactAcctNew
open Go.RowKit Go.Proofs.YtepjnalkpfnmcaaW.PrintWords Go.Proofs.YtepjnalkpfnmcaaW.PrintLast Go.Proofs.YtepjnalkpfnmcaaW.PrintMore
attribute [local go_sem] max2_int min2_int max_two min_two max_three min_three max_four min_four   -- for this text's walks alone
set_option linter.unusedVariables false
set_option linter.unusedSimpArgs false
attribute [local go_sem] my_geq my_leq my_gtr
abbrev tb8_0_13 : Array Bool := #[b0, b0, b0, b0, b0, b0, b0, b0]
abbrev tb8_1_13 : Array Bool := #[b1, b0, b0, b0, b0, b0, b0, b0]
abbrev tb8_2f_13 : Array Bool := #[b1, b1, b1, b1, b0, b1, b0, b0]
abbrev tb8_3_13 : Array Bool := #[b1, b1, b0, b0, b0, b0, b0, b0]
abbrev tb8_3f_13 : Array Bool := #[b1, b1, b1, b1, b1, b1, b0, b0]
abbrev tb8_7_13 : Array Bool := #[b1, b1, b1, b0, b0, b0, b0, b0]
abbrev tb8_7f_13 : Array Bool := #[b1, b1, b1, b1, b1, b1, b1, b0]
abbrev tb8_f_13 : Array Bool := #[b1, b1, b1, b1, b0, b0, b0, b0]
abbrev tb8_ff_13 : Array Bool := #[b1, b1, b1, b1, b1, b1, b1, b1]
/-! ### laws_markIntS: function 73 -/
def laws_markIntS.l0 : Nat → List Int → Int → Int → Option (Int × List Int)
 | 0, _, _, _ => none
 | k + 1, x0, x1, x5 => if x5 < (x0.length : Int) then (if 0 ≤ x5 then (laws_markIntS.l0 k (x0.set (x5 : Int).toNat x1) (wrap64 (x1 + 1)) (wrap64 (x5 + 1))) else (none)) else (some (x1, x0))
def laws_markIntS.f (k : Nat) (l0 : List Int) (a1 : Int) : Option (Int × List Int) := laws_markIntS.l0 k l0 a1 0
set_option maxHeartbeats 8000000 in
set_option maxRecDepth 100000 in
theorem laws_markIntS.calls (k : Nat) (P0_ : Nat → Prop) (u9000_ : Value) (l0 : List Int) (a1 : Int) (r1 : Int) (r2 : List Int) (w0 w : World) (hB : Below w0.heap.size w0 w) (ho0 : Kd.R (Kd.int .i64) 3 w w0.heap.size P0_ u9000_ l0) (h : laws_markIntS.f k l0 a1 = some (r1, r2)) :
  Calls Try.prog 73 #[u9000_, .int .i64 a1] w fun e w' => e = .returned (.int .i64 r1) ∧ Kd.R (Kd.int .i64) 3 w' w0.heap.size (fun k_ => (P0_ k_ ∨ w.heap.size ≤ k_)) u9000_ r2 ∧ Below w0.heap.size w0 w' ∧ Kept w w' (fun k_ => P0_ k_) := by
 have HO0 := Aside0.mk (show Kd.R (Kd.int .i64) 3 w w0.heap.size (fun k_ => (P0_ k_ ∨ w.heap.size ≤ k_)) u9000_ l0 from Kd.R_mono ho0 (fun k_ hk => (.inl hk)))
 have HK := Aside0.mk (Kept.refl w (fun k_ => P0_ k_))
 have HW0 := Aside0.mk hB.size
 have HB := Aside0.mk hB
 clear hB
 have H : (laws_markIntS.l0 k l0 a1 0) = some (r1, r2) := h
 clear h
 have H' := Aside0.mk H
 clear H
 go_enter Try.func73, Try.ntmps73
 go_wp2
 go_loopg [1, 5] k (fun kq v1 v5 w' => ∃ (x0_1 : List Int) (x1_1 : Int) (x5_1 : Int), v1 = .int .i64 x1_1 ∧ v5 = .int .i64 x5_1 ∧ Aside0 (laws_markIntS.l0 kq x0_1 x1_1 x5_1 = some (r1, r2)) ∧ Aside0 (kq ≤ k) ∧ Aside0 (Kd.R (Kd.int .i64) 3 w' w0.heap.size (fun k_ => (P0_ k_ ∨ w.heap.size ≤ k_)) u9000_ x0_1) ∧ Aside0 (Kept w w' (fun k_ => P0_ k_)) ∧ Aside0 (Below w0.heap.size w0 w'))
 case atStart => exact ⟨(l0), (a1), (0), sp_, sp_, H', ⟨Nat.le_refl _⟩, ⟨ra_ HO0⟩, ⟨by repeat (first | (with_reducible first | exact HK.out | apply Kept.alloc | apply Kept.drewN | apply Kept.drew) | exact HK.out)⟩, ⟨bl_⟩⟩
 case round =>
  clear H'
  try clear p2
  obtain ⟨x0_1, x1_1, x5_1, rfl, rfl, HA, HK1, HO_0, HK, HB⟩ := hrel
  cases gk with
  | zero => exact absurd HA.out (by simp [laws_markIntS.l0])
  | succ k1 =>
   have H := HA.out
   clear HA
   simp only [laws_markIntS.l0] at H
   by_cases c3 : x5_1 < (x0_1.length : Int)
   ·rw [if_pos c3] at H
    have c3b0 : decide (x5_1 < (x0_1.length : Int)) = true := decide_eq_true c3
    clear c3
    by_cases c4 : 0 ≤ x5_1
    ·rw [if_pos c4] at H
     have c4b0 : decide (0 ≤ x5_1) = true := decide_eq_true c4
     clear c4
     obtain ⟨y297, hy297⟩ : ∃ y_ : List Int, y_ = (x0_1.set (x5_1 : Int).toNat x1_1) := ⟨_, rfl⟩
     replace H : (laws_markIntS.l0 k1 y297 (wrap64 (x1_1 + 1)) (wrap64 (x5_1 + 1))) = some (r1, r2) := by first | (rw [hy297]; with_reducible exact H) | (have H2_ := (Option.bind_some _ _).symm.trans H; rw [hy297]; with_reducible exact H2_) | (have H2_ := (Option.bind_some _ _).symm.trans H; with_reducible exact H2_) | with_reducible exact H | (rw [hy297]; exact H) | exact H
     have Ny297 := Aside0.mk hy297
     clear hy297
     have H' := Aside0.mk H
     clear H
     obtain ⟨Ao6, co6, eo6⟩ := Kd.R_slice HO_0.out
     subst eo6
     have p5 : 0 ≤ (x5_1 : Int) := od_
     have q5 : (x5_1 : Int) < ((x0_1.length : Int) : Int) := od_
     obtain ⟨go5, co5, eo5, gb5, gl5, cl5, HG5⟩ := Kd.R_form HO_0.out (by omega)
     (first | cases eo5 | (injection eo5 with ea_ en_ ec_; (first | subst ea_ | (injection ea_ with ea_; subst ea_)); subst ec_; clear en_))
     have GB5 := Aside0.mk gb5
     have GG5 := Aside0.mk HG5
     clear gb5 gl5 HG5
     have HMgo5 := Aside0.mk (show (P0_ go5 ∨ w.heap.size ≤ go5) from (HO_0.out.1 _ rfl))
     obtain ⟨hx5_0, hf5_0⟩ := Kd.R_celln 0 HO_0.out (x5_1 : Int) p5 q5
     replace p5 := eq_true p5
     replace q5 := eq_true q5
     have HP7 := Kd.R_putg HO_0.out (x5_1 : Int) x1_1
     go_wp2_with (first | ((with_reducible refine gate_store (t := 3) (p := 15) rfl ?_); refine store_event (t := 3) (p := 15) (v := ?vo_w8) (w1 := (wr.setCell ⟨go5, (x5_1 : Int).toNat, none⟩ (.int .i64 x1_1))) ?hg ?ho ?hn ?hr ?_; (case ho => rfl); (case hg => rfl); (case hn => rfl); (case hr => first | (go_simp; done) | (go_simp; rfl)); intro w8 hw; have hg : wr.grownBy w8 (some go5) := (by rw [hw]; exact HP7.2); have hp_ : Kd.R (Kd.int .i64) 3 w8 w0.heap.size (fun k_ => (P0_ k_ ∨ w.heap.size ≤ k_)) (.slice (some ⟨go5, 0, none⟩) x0_1.length co6) y297 := (by rw [hw, Ny297.out]; exact HP7.1); clear HP7; replace HB := Aside0.mk ((by rw [hw]; exact below_set (HB.out) GB5.out : Below w0.heap.size w0 w8)); replace HK := Aside0.mk (Kept.of_grown (S := (fun k_ => P0_ k_)) hg (by repeat (first | (with_reducible first | exact HK.out | apply Kept.alloc | apply Kept.drewN | apply Kept.drew) | exact HK.out)) (fun k_ e_ => (HO_0.out.1 k_ e_))); replace HO_0 := Aside0.mk (hp_); clear hg hw hp_))
     go_roundg k1
     case measure => have := HK1.out; omega
     case rel => exact ⟨(y297), (wrap64 (x1_1 + 1)), (wrap64 (x5_1 + 1)), sp_, sp_, H', ⟨by have := HK1.out; omega⟩, ⟨ra_ HO_0⟩, ⟨by repeat (first | (with_reducible first | exact HK.out | apply Kept.alloc | apply Kept.drewN | apply Kept.drew) | exact HK.out)⟩, ⟨bl_⟩⟩
    ·rw [if_neg c4] at H
     exact absurd H (by simp)
   ·rw [if_neg c3] at H
    have c3b0 : decide (x5_1 < (x0_1.length : Int)) = false := decide_eq_false c3
    clear c3
    simp only [Option.some.injEq, Prod.mk.injEq] at H
    obtain ⟨rfl, rfl⟩ := H
    obtain ⟨Ao9, co9, eo9⟩ := Kd.R_slice HO_0.out
    subst eo9
    go_wp2
    go_ret
    exact ⟨by first | rfl | (simp [errW_none, errW_some] <;> rfl) | (simp [*, errW_none, errW_some] <;> rfl), ra_ HO_0, bl_, by repeat (first | (with_reducible first | exact HK.out | apply Kept.alloc | apply Kept.drewN | apply Kept.drew) | exact HK.out)⟩
/-! ### laws_markRing: function 119 -/
def laws_markRing.f (k : Nat) (a0_0 : Int) (a0_1 : Int) (l0_2 : List Int) (l0_3 : List Int) (a1 : Int) : Option (Int × List Int × List Int) := (laws_markIntS.f k l0_2 a1).bind fun bt299 => ((laws_markIntS.f k l0_3 bt299.1).bind fun bt301 => (some (bt301.1, bt299.2, bt301.2)))
set_option maxHeartbeats 8000000 in
set_option maxRecDepth 100000 in
theorem laws_markRing.calls (k : Nat) (a0_0 : Int) (a0_1 : Int) (P0_2_ : Nat → Prop) (u9000_ : Value) (l0_2 : List Int) (P0_3_ : Nat → Prop) (u9001_ : Value) (l0_3 : List Int) (a1 : Int) (r1 : Int) (r2 : List Int) (r3 : List Int) (w0 w : World) (hB : Below w0.heap.size w0 w) (ho0_2 : Kd.R (Kd.int .i64) 3 w w0.heap.size P0_2_ u9000_ l0_2) (hp0_2_0_3 : ∀ k_, P0_2_ k_ → ¬ P0_3_ k_) (ho0_3 : Kd.R (Kd.int .i64) 3 w w0.heap.size P0_3_ u9001_ l0_3) (hp0_3_0_2 : ∀ k_, P0_3_ k_ → ¬ P0_2_ k_) (h : laws_markRing.f k a0_0 a0_1 l0_2 l0_3 a1 = some (r1, r2, r3)) :
  Calls Try.prog 119 #[.agg #[.int .i64 a0_0, .int .i64 a0_1, u9000_, u9001_], .int .i64 a1] w fun e w' => e = .returned (.int .i64 r1) ∧ Kd.R (Kd.int .i64) 3 w' w0.heap.size (fun k_ => ((P0_2_ k_ ∨ P0_3_ k_) ∨ w.heap.size ≤ k_)) u9000_ r2 ∧ Kd.R (Kd.int .i64) 3 w' w0.heap.size (fun k_ => ((P0_2_ k_ ∨ P0_3_ k_) ∨ w.heap.size ≤ k_)) u9001_ r3 ∧ Below w0.heap.size w0 w' ∧ Kept w w' (fun k_ => P0_2_ k_ ∨ P0_3_ k_) := by
 have hu40 := Try.underlying40
 have HO0_2 := Aside0.mk (show Kd.R (Kd.int .i64) 3 w w0.heap.size (fun k_ => ((P0_2_ k_ ∨ P0_3_ k_) ∨ w.heap.size ≤ k_) ∧ some k_ ≠ (u9001_ : Value).ownBlock) u9000_ l0_2 from Kd.R_mono ho0_2 (fun k_ hk => ⟨(.inl (.inl hk)), fun e_ => hp0_2_0_3 k_ hk (ho0_3.1 k_ e_.symm)⟩))
 have HO0_3 := Aside0.mk (show Kd.R (Kd.int .i64) 3 w w0.heap.size (fun k_ => ((P0_2_ k_ ∨ P0_3_ k_) ∨ w.heap.size ≤ k_) ∧ some k_ ≠ (u9000_ : Value).ownBlock) u9001_ l0_3 from Kd.R_mono ho0_3 (fun k_ hk => ⟨(.inl (.inr hk)), fun e_ => hp0_3_0_2 k_ hk (ho0_2.1 k_ e_.symm)⟩))
 have HK := Aside0.mk (Kept.refl w (fun k_ => P0_2_ k_ ∨ P0_3_ k_))
 have HW0 := Aside0.mk hB.size
 have HB := Aside0.mk hB
 clear hB
 have H : ((laws_markIntS.f k l0_2 a1).bind fun bt299 => ((laws_markIntS.f k l0_3 bt299.1).bind fun bt301 => (some (bt301.1, bt299.2, bt301.2)))) = some (r1, r2, r3) := h
 clear h
 obtain ⟨⟨t299, t300⟩, A3, H⟩ := ob_ H
 (try dsimp only at H)
 obtain ⟨⟨t301, t302⟩, A4, H⟩ := ob_ H
 (try dsimp only at H)
 simp only [Option.some.injEq, Prod.mk.injEq] at H
 obtain ⟨rfl, rfl, rfl⟩ := H
 obtain ⟨Ao5, co5, eo5⟩ := Kd.R_slice HO0_2.out
 subst eo5
 obtain ⟨Ao6, co6, eo6⟩ := Kd.R_slice HO0_3.out
 subst eo6
 go_enter Try.func119, Try.ntmps119
 go_wp2_with (first | ((with_reducible refine gate_dst (N := 2) rfl ?_); refine be_ (N := 2) (cs := #[.int .i64 a0_0, .int .i64 a0_1, .slice Ao5 l0_2.length co5, .slice Ao6 l0_3.length co6]) (t := 40) ?_; intro gb298 hg w7 hbox hb; replace HO0_2 := Aside0.mk (Kd.R_below (ra_ HO0_2) hb); replace HO0_3 := Aside0.mk (Kd.R_below (ra_ HO0_3) hb); have BK298 := Aside0.mk (hbox); have GW298 := Aside0.mk ((by rw [hg]; exact (by first | exact HK.out.1 | exact (show Kept w _ (fun k_ => P0_2_ k_ ∨ P0_3_ k_) from by repeat (first | (with_reducible first | exact HK.out | apply Kept.alloc | apply Kept.drewN | apply Kept.drew) | exact HK.out)).1) : w.heap.size ≤ gb298)); replace HK := Aside0.mk (Kept.below (S := (fun k_ => P0_2_ k_ ∨ P0_3_ k_)) (by repeat (first | (with_reducible first | exact HK.out | apply Kept.alloc | apply Kept.drewN | apply Kept.drew) | exact HK.out)) hb); have GE298 := Aside0.mk ((by rw [hg]; exact (below_size bl_) : w0.heap.size ≤ gb298)); replace HB := Aside0.mk (below_step bl_ hb); clear hb hbox hg; obtain ⟨hcz8_0, hcz8_1, hcz8_2, hcz8_3, hfz8_0, hfz8_1, hfz8_2, hfz8_3⟩ := bx4_ BK298) | ((with_reducible refine gate_callee (f := 73) rfl ?_); refine goesL_ (some 8) rfl rfl Try.func73 (by kernel_rfl) rfl #[.slice Ao5 l0_2.length co5, .int .i64 a1] rfl gl_ ?_; (with_reducible refine (laws_markIntS.calls k (fun k_ => some k_ = (.slice Ao5 l0_2.length co5 : Value).ownBlock) (.slice Ao5 l0_2.length co5) l0_2 a1 t299 t300 w0 _ ?side1 ?side2 A3.out).mono ?_); (case side1 => repeat (first | (with_reducible first | exact HB.out | apply below_alloc | apply pw_below_drewN | apply below_drew1 | refine below_set ?_ GE298.out) | exact HB.out)); (case side2 => exact Kd.R_tight rfl HO0_2.out); rintro e w9 ⟨rfl, hy0, hb, hkp⟩; refine ⟨_, rfl, ?_⟩; replace HO0_3 := Aside0.mk (Kd.R_mono (ok' := fun k_ => ((P0_2_ k_ ∨ P0_3_ k_) ∨ w.heap.size ≤ k_) ∧ some k_ ≠ (.slice Ao5 l0_2.length co5 : Value).ownBlock) (Kd.R_keptB (HO0_3.out) hkp (fun k_ hk_ hs_ => (hk_.2) hs_)) (fun k_ hk_ => ⟨hk_.1.1, hk_.1.2⟩)); replace BK298 := Aside0.mk (blk_kept (by (with_reducible repeat (first | refine blk_drewN ?_ _ | refine blk_drew ?_ | refine blk_alloc ?_ _)); exact BK298.out) hkp (fun hs_ => (fun e_ => (Kd.R_ne HO0_2.out BK298.out (by decide)) e_) hs_)); replace HK := Aside0.mk (Kept.then_ (S := (fun k_ => P0_2_ k_ ∨ P0_3_ k_)) (by repeat (first | (with_reducible first | exact HK.out | apply Kept.alloc | apply Kept.drewN | apply Kept.drew | refine Kept.setCell ?_ (.inr GW298.out) _) | exact HK.out)) hkp (fun k_ hs_ => (fun e_ => (HO0_2.out.1 k_ e_.symm).1) hs_)); replace HO0_2 := Aside0.mk (Kd.R_reok rfl hy0 (fun k_ e_ => HO0_2.out.1 k_ e_)); replace HB := Aside0.mk (hb); (try clear hb); (try clear hkp); (try clear hy0); obtain ⟨hcz10_0, hcz10_1, hcz10_2, hcz10_3, hfz10_0, hfz10_1, hfz10_2, hfz10_3⟩ := bx4_ BK298) | ((with_reducible refine gate_callee (f := 73) rfl ?_); refine goesL_ (some 12) rfl rfl Try.func73 (by kernel_rfl) rfl #[.slice Ao6 l0_3.length co6, .int .i64 t299] rfl gl_ ?_; (with_reducible refine (laws_markIntS.calls k (fun k_ => some k_ = (.slice Ao6 l0_3.length co6 : Value).ownBlock) (.slice Ao6 l0_3.length co6) l0_3 t299 t301 t302 w0 _ ?side1 ?side2 A4.out).mono ?_); (case side1 => repeat (first | (with_reducible first | exact HB.out | apply below_alloc | apply pw_below_drewN | apply below_drew1 | refine below_set ?_ GE298.out) | exact HB.out)); (case side2 => exact Kd.R_tight rfl HO0_3.out); rintro e w11 ⟨rfl, hy0, hb, hkp⟩; refine ⟨_, rfl, ?_⟩; replace HO0_2 := Aside0.mk (Kd.R_mono (ok' := fun k_ => ((P0_2_ k_ ∨ P0_3_ k_) ∨ w.heap.size ≤ k_) ∧ some k_ ≠ (.slice Ao6 l0_3.length co6 : Value).ownBlock) (Kd.R_keptB (HO0_2.out) hkp (fun k_ hk_ hs_ => (hk_.2) hs_)) (fun k_ hk_ => ⟨hk_.1.1, hk_.1.2⟩)); replace BK298 := Aside0.mk (blk_kept (by (with_reducible repeat (first | refine blk_drewN ?_ _ | refine blk_drew ?_ | refine blk_alloc ?_ _)); exact BK298.out) hkp (fun hs_ => (fun e_ => (Kd.R_ne HO0_3.out BK298.out (by decide)) e_) hs_)); replace HK := Aside0.mk (Kept.then_ (S := (fun k_ => P0_2_ k_ ∨ P0_3_ k_)) (by repeat (first | (with_reducible first | exact HK.out | apply Kept.alloc | apply Kept.drewN | apply Kept.drew | refine Kept.setCell ?_ (.inr GW298.out) _) | exact HK.out)) hkp (fun k_ hs_ => (fun e_ => (HO0_3.out.1 k_ e_.symm).1) hs_)); replace HO0_3 := Aside0.mk (Kd.R_reok rfl hy0 (fun k_ e_ => HO0_3.out.1 k_ e_)); replace HB := Aside0.mk (hb); (try clear hb); (try clear hkp); (try clear hy0)))
 go_ret
 exact ⟨by first | rfl | (simp [errW_none, errW_some] <;> rfl) | (simp [*, errW_none, errW_some] <;> rfl), by (with_reducible repeat (first | apply Kd.R_alloc | apply Kd.R_drewN | apply Kd.R_drew)); exact Kd.R_mono HO0_2.out (fun _ hk => hk.1), by (with_reducible repeat (first | apply Kd.R_alloc | apply Kd.R_drewN | apply Kd.R_drew)); exact Kd.R_mono HO0_3.out (fun _ hk => hk.1), bl_, by repeat (first | (with_reducible first | exact HK.out | apply Kept.alloc | apply Kept.drewN | apply Kept.drew | refine Kept.setCell ?_ (.inr GW298.out) _) | exact HK.out)⟩
/-! ### laws_markAcct: function 54 -/
/-- An account's rows: holds, counts, sums, slots; counts and sums lie apart. -/
def AcR (W : World) (base : Nat) (ok : Nat → Prop) (v5 : Value) (l5 : List S93) (v8 : Value) (l8 : List Int) (v9 : Value) (l9 : List Int) (v10 : Value) (l10 : List S74) : Prop :=
 Kd.R k93 93 W base ok v5 l5 ∧ Kd.R (Kd.int .i64) 3 W base ok v8 l8 ∧ Kd.R (Kd.int .i64) 3 W base ok v9 l9 ∧ Kd.S k74 74 W base ok v10 l10 ∧ ∀ k, v8.ownBlock = some k → v9.ownBlock ≠ some k
section
variable {W W1 : World} {base base' : Nat} {ok ok' ok8 ok9 okm : Nat → Prop} {v5 v8 v9 v10 : Value} {l5 r5 : List S93} {l8 r8 l9 r9 : List Int} {l10 r10 : List S74}
theorem ac_5 (h : AcR W base ok v5 l5 v8 l8 v9 l9 v10 l10) : Kd.R k93 93 W base ok v5 l5 := h.1
theorem ac_8 (h : AcR W base ok v5 l5 v8 l8 v9 l9 v10 l10) : Kd.R (Kd.int .i64) 3 W base ok v8 l8 := h.2.1
theorem ac_9 (h : AcR W base ok v5 l5 v8 l8 v9 l9 v10 l10) : Kd.R (Kd.int .i64) 3 W base ok v9 l9 := h.2.2.1
theorem ac_10 (h : AcR W base ok v5 l5 v8 l8 v9 l9 v10 l10) : Kd.S k74 74 W base ok v10 l10 := h.2.2.2.1
theorem ac_ne (h : AcR W base ok v5 l5 v8 l8 v9 l9 v10 l10) : ∀ k, v8.ownBlock = some k → v9.ownBlock = some k → False := h.2.2.2.2
theorem ac_step (h : AcR W base ok v5 l5 v8 l8 v9 l9 v10 l10) (hm : ∀ k, ok k → k < W.heap.size → W1.heap[k]? = W.heap[k]?) : AcR W1 base ok v5 l5 v8 l8 v9 l9 v10 l10 :=
 ⟨Kd.R_step h.1 hm, Kd.R_step h.2.1 hm, Kd.R_step h.2.2.1 hm, Kd.S_step h.2.2.2.1 hm, h.2.2.2.2⟩
theorem ac_below (h : AcR W base ok v5 l5 v8 l8 v9 l9 v10 l10) (hb : Below W.heap.size W W1) : AcR W1 base ok v5 l5 v8 l8 v9 l9 v10 l10 := ac_step h (fun k _ hl => hb.block k hl)
theorem ac_alloc (h : AcR W base ok v5 l5 v8 l8 v9 l9 v10 l10) (o : Obj) : AcR (W.alloc o) base ok v5 l5 v8 l8 v9 l9 v10 l10 := ac_below h (below_alloc (Below.refl _ _) o)
theorem ac_mono (h : AcR W base ok v5 l5 v8 l8 v9 l9 v10 l10) (hk : ∀ k, ok k → ok' k) : AcR W base ok' v5 l5 v8 l8 v9 l9 v10 l10 :=
 ⟨Kd.R_mono h.1 hk, Kd.R_mono h.2.1 hk, Kd.R_mono h.2.2.1 hk, Kd.S_mono h.2.2.2.1 hk, h.2.2.2.2⟩
theorem ac_made {N : Nat} (h5 : Kd.R k93 93 W N (fun _ => True) v5 l5) (h8 : Kd.R (Kd.int .i64) 3 W N (fun k_ => some k_ ≠ (v9 : Value).ownBlock) v8 l8) (h9 : Kd.R (Kd.int .i64) 3 W N (fun k_ => some k_ ≠ (v8 : Value).ownBlock) v9 l9) (h10 : Kd.S k74 74 W N (fun _ => True) v10 l10) (hb : base ≤ N) :
  AcR W base (fun k => N ≤ k ∧ k < W.heap.size) v5 l5 v8 l8 v9 l9 v10 l10 :=
 ⟨Kd.R_lower (Kd.R_mono (Kd.R_bound h5) (fun k hk => ⟨hk.2.1, hk.2.2.1⟩)) hb, Kd.R_lower (Kd.R_mono (Kd.R_bound h8) (fun k hk => ⟨hk.2.1, hk.2.2.1⟩)) hb, Kd.R_lower (Kd.R_mono (Kd.R_bound h9) (fun k hk => ⟨hk.2.1, hk.2.2.1⟩)) hb, Kd.S_lower (Kd.S_mono (Kd.S_bound h10) (fun k hk => ⟨hk.2.1, hk.2.2.1⟩)) hb, fun k e1 e2 => h8.1 k e1 e2.symm⟩
theorem ty_ne {α β : Type} {d : Kd α} {d' : Kd β} {e e' b b' : Nat} {o o' : Nat → Prop} {v u : Value} {xs : List α} {ys : List β} (h : d.R e W b o v xs) (h' : d'.R e' W b' o' u ys) (hne : e ≠ e') (k : Nat) (h1 : v.ownBlock = some k) : u.ownBlock ≠ some k := by
 intro h2
 obtain ⟨i1, o1⟩ := Kd.R_own h
 obtain ⟨i2, o2⟩ := Kd.R_own h'
 obtain ⟨c1, e1⟩ := own_typed o1 k h1
 obtain ⟨c2, e2⟩ := own_typed o2 k h2
 rw [e1] at e2
 injection e2 with e2
 injection e2 with _ e2
 exact hne e2
/-- The blocks that slots lie in. -/
def SlB (W : World) (base : Nat) (ok : Nat → Prop) (k : Nat) : Prop := ok k ∧ base ≤ k ∧ k < W.heap.size ∧ ∃ q, q ∈ 74 :: (k74).E ∧ ∃ cells, W.heap[k]? = some (.cells cells q (0, 0))
theorem ac_10b (h : AcR W base ok v5 l5 v8 l8 v9 l9 v10 l10) : Kd.S k74 74 W base (SlB W base ok) v10 l10 := Kd.S_bound h.2.2.2.1
theorem slb_ne {α : Type} {d : Kd α} {e b : Nat} {o : Nat → Prop} {v : Value} {xs : List α} (h : d.R e W b o v xs) (hne : ∀ q, q ∈ 74 :: (k74).E → q ≠ e) (k : Nat) (h1 : v.ownBlock = some k) : ¬ SlB W base ok k := by
 rintro ⟨_, _, _, q, hq, c2, e2⟩
 obtain ⟨i1, o1⟩ := Kd.R_own h
 obtain ⟨c1, e1⟩ := own_typed o1 k h1
 rw [e1] at e2
 injection e2 with e2
 injection e2 with _ e2
 exact hne q hq e2.symm
theorem ac_mark5 (h : AcR W base ok v5 l5 v8 l8 v9 l9 v10 l10) (ho : Kd.R k93 93 W1 base okm v5 r5) (hk : Kept W W1 (fun k => some k = v5.ownBlock)) : AcR W1 base ok v5 r5 v8 l8 v9 l9 v10 l10 :=
 ⟨Kd.R_mono (Kd.R_tight rfl ho) (fun k e => h.1.1 k e.symm),
  Kd.R_mono (Kd.R_step (Kd.R_tight rfl h.2.1) (fun k e hl => hk.2 k hl (fun e5 => ty_ne h.1 h.2.1 (by decide) k e5.symm e.symm))) (fun k e => h.2.1.1 k e.symm),
  Kd.R_mono (Kd.R_step (Kd.R_tight rfl h.2.2.1) (fun k e hl => hk.2 k hl (fun e5 => ty_ne h.1 h.2.2.1 (by decide) k e5.symm e.symm))) (fun k e => h.2.2.1.1 k e.symm),
  Kd.S_mono (Kd.S_step (ok := SlB W base ok) (Kd.S_bound h.2.2.2.1) (fun k e hl => hk.2 k hl (fun e5 => slb_ne h.1 (by decide) k e5.symm e))) (fun k e => e.1), h.2.2.2.2⟩
theorem ac_mark89 (h : AcR W base ok v5 l5 v8 l8 v9 l9 v10 l10) (h8 : Kd.R (Kd.int .i64) 3 W1 base ok8 v8 r8) (h9 : Kd.R (Kd.int .i64) 3 W1 base ok9 v9 r9) (hk : Kept W W1 (fun k => some k = v8.ownBlock ∨ some k = v9.ownBlock)) : AcR W1 base ok v5 l5 v8 r8 v9 r9 v10 l10 :=
 ⟨Kd.R_mono (Kd.R_step (Kd.R_tight rfl h.1) (fun k e hl => hk.2 k hl (fun e5 => e5.elim (fun e6 => ty_ne h.1 h.2.1 (by decide) k e.symm e6.symm) (fun e6 => ty_ne h.1 h.2.2.1 (by decide) k e.symm e6.symm)))) (fun k e => h.1.1 k e.symm),
  Kd.R_mono (Kd.R_tight rfl h8) (fun k e => h.2.1.1 k e.symm), Kd.R_mono (Kd.R_tight rfl h9) (fun k e => h.2.2.1.1 k e.symm),
  Kd.S_mono (Kd.S_step (ok := SlB W base ok) (Kd.S_bound h.2.2.2.1) (fun k e hl => hk.2 k hl (fun e5 => e5.elim (fun e6 => slb_ne h.2.1 (by decide) k e6.symm e) (fun e6 => slb_ne h.2.2.1 (by decide) k e6.symm e)))) (fun k e => e.1), h.2.2.2.2⟩
theorem ac_mark10 (h : AcR W base ok v5 l5 v8 l8 v9 l9 v10 l10) (ho : Kd.S k74 74 W1 base (SlB W base ok) v10 r10) (hk : Kept W W1 (SlB W base ok)) : AcR W1 base ok v5 l5 v8 l8 v9 l9 v10 r10 :=
 ⟨Kd.R_mono (Kd.R_step (Kd.R_tight rfl h.1) (fun k e hl => hk.2 k hl (fun e5 => slb_ne h.1 (by decide) k e.symm e5))) (fun k e => h.1.1 k e.symm),
  Kd.R_mono (Kd.R_step (Kd.R_tight rfl h.2.1) (fun k e hl => hk.2 k hl (fun e5 => slb_ne h.2.1 (by decide) k e.symm e5))) (fun k e => h.2.1.1 k e.symm),
  Kd.R_mono (Kd.R_step (Kd.R_tight rfl h.2.2.1) (fun k e hl => hk.2 k hl (fun e5 => slb_ne h.2.2.1 (by decide) k e.symm e5))) (fun k e => h.2.2.1.1 k e.symm),
  Kd.S_mono ho (fun k e => e.1), h.2.2.2.2⟩
theorem ac_bound (h : AcR W base ok v5 l5 v8 l8 v9 l9 v10 l10) : AcR W base (fun k => ok k ∧ k < W.heap.size) v5 l5 v8 l8 v9 l9 v10 l10 :=
 ⟨Kd.R_mono (Kd.R_bound h.1) (fun k hk => ⟨hk.1, hk.2.2.1⟩), Kd.R_mono (Kd.R_bound h.2.1) (fun k hk => ⟨hk.1, hk.2.2.1⟩), Kd.R_mono (Kd.R_bound h.2.2.1) (fun k hk => ⟨hk.1, hk.2.2.1⟩), Kd.S_mono (Kd.S_bound h.2.2.2.1) (fun k hk => ⟨hk.1, hk.2.2.1⟩), h.2.2.2.2⟩
theorem ac_slices (h : AcR W base ok v5 l5 v8 l8 v9 l9 v10 l10) : ∃ A5 c5 A8 c8 A9 c9 A10 c10, v5 = .slice A5 l5.length c5 ∧ v8 = .slice A8 l8.length c8 ∧ v9 = .slice A9 l9.length c9 ∧ v10 = .slice A10 l10.length c10 := by
 obtain ⟨A5, c5, rfl⟩ := Kd.R_slice h.1
 obtain ⟨A8, c8, rfl⟩ := Kd.R_slice h.2.1
 obtain ⟨A9, c9, rfl⟩ := Kd.R_slice h.2.2.1
 obtain ⟨A10, c10, rfl⟩ := Kd.R_slice (Kd.S_R h.2.2.2.1)
 exact ⟨_, _, _, _, _, _, _, _, rfl, rfl, rfl, rfl⟩
end
def laws_markAcct.f (k : Nat) (a0 : ByteArray) (a1 a2 a3 a4 : Int) (l5 : List S93) (a6 a7 : Int) (l8 l9 : List Int) (l10 : List S74) (b : Int) : Option (Int × List S93 × List Int × List Int × List S74) :=
 (laws_markHoldS.f k l5 b).bind fun x => (laws_markRing.f k a6 a7 l8 l9 x.1).bind fun y => (laws_markSlotS.f k l10 y.1).bind fun z => some (z.1, x.2, y.2.1, y.2.2, z.2)
set_option maxHeartbeats 8000000 in
set_option maxRecDepth 100000 in
theorem laws_markAcct.calls (k : Nat) (P0_ : Nat → Prop) (a0 : ByteArray) (a1 a2 a3 a4 : Int) (A5 : Option Addr) (c5 : Nat) (l5 : List S93) (a6 a7 : Int) (A8 : Option Addr) (c8 : Nat) (l8 : List Int) (A9 : Option Addr) (c9 : Nat) (l9 : List Int) (A10 : Option Addr) (c10 : Nat) (l10 : List S74) (b : Int) (r1 : Int) (r5 : List S93) (r8 r9 : List Int) (r10 : List S74) (w0 w : World) (hB : Below w0.heap.size w0 w)
  (h0 : AcR w w0.heap.size P0_ (.slice A5 l5.length c5) l5 (.slice A8 l8.length c8) l8 (.slice A9 l9.length c9) l9 (.slice A10 l10.length c10) l10) (h : laws_markAcct.f k a0 a1 a2 a3 a4 l5 a6 a7 l8 l9 l10 b = some (r1, r5, r8, r9, r10)) :
  Calls Try.prog 54 #[.agg #[.string a0, .int .i64 a1, .int .i64 a2, .int .i64 a3, .int .i64 a4, .slice A5 l5.length c5, .int .i64 a6, .int .i64 a7, .slice A8 l8.length c8, .slice A9 l9.length c9, .slice A10 l10.length c10], .int .i64 b] w fun e w' =>
   e = .returned (.int .i64 r1) ∧ AcR w' w0.heap.size P0_ (.slice A5 l5.length c5) r5 (.slice A8 l8.length c8) r8 (.slice A9 l9.length c9) r9 (.slice A10 l10.length c10) r10 ∧ Below w0.heap.size w0 w' ∧ Kept w w' P0_ := by
 have hu43 := Try.underlying43
 have hu40 := Try.underlying40
 unfold laws_markAcct.f at h
 replace h := Option.bind_eq_some_iff.1 h
 obtain ⟨⟨m1, q5⟩, E1, h⟩ := h
 replace h := Option.bind_eq_some_iff.1 h
 obtain ⟨⟨m2, q8, q9⟩, E2, h⟩ := h
 replace h := Option.bind_eq_some_iff.1 h
 obtain ⟨⟨m3, q10⟩, E3, h⟩ := h
 injection h with h
 injection h with h1 h
 injection h with h2 h
 injection h with h3 h
 injection h with h4 h5
 simp only [] at h1 h2 h3 h4 h5 E2 E3
 subst h1 h2 h3 h4 h5
 have HB := Aside0.mk hB
 have H0 := Aside0.mk (ac_bound h0)
 have E1' := Aside0.mk E1
 have E2' := Aside0.mk E2
 have E3' := Aside0.mk E3
 clear hB h0 E1 E2 E3
 go_enter Try.func54, Try.ntmps54
 go_wp2_with (first | (go_at_call 20; (with_reducible refine (laws_markHoldS.calls k (fun k_ => some k_ = (Value.slice A5 l5.length c5).ownBlock) (.slice A5 l5.length c5) l5 b m1 q5 w0 _ (Below.alloc HB.out HB.out.size _) (Kd.R_tight rfl (ac_5 (ac_alloc H0.out _))) E1'.out).mono ?_); rintro e wa ⟨rfl, ho, hb, hk⟩; have HA := Aside0.mk (ac_mark5 (ac_alloc H0.out _) ho hk); have hx := (hk.2 w.heap.size (by simp) (fun e_ => by have := ((ac_5 H0.out).1 _ e_.symm).2; omega)).trans (heap_alloc_new w _); have HX := Aside0.mk hx; have HBa := Aside0.mk hb; have HKa := Aside0.mk (show Kept w wa (fun k_ => P0_ k_ ∧ k_ < w.heap.size) from Kept.then_ (Kept.alloc (Kept.refl w _) _) hk (fun k_ e_ => .inl ((ac_5 H0.out).1 k_ e_.symm))); have x6 := blk_cell hx 6; have x7 := blk_cell hx 7; have x8 := blk_cell hx 8; have x9 := blk_cell hx 9; replace x6 := x6.trans (show _ = some (Value.int .i64 a6) from rfl); replace x7 := x7.trans (show _ = some (Value.int .i64 a7) from rfl); replace x8 := x8.trans (show _ = some (Value.slice A8 l8.length c8) from rfl); replace x9 := x9.trans (show _ = some (Value.slice A9 l9.length c9) from rfl); clear ho hb hk hx) | (go_at_call 119; (with_reducible refine (laws_markRing.calls k a6 a7 (fun k_ => some k_ = (Value.slice A8 l8.length c8).ownBlock) (.slice A8 l8.length c8) l8 (fun k_ => some k_ = (Value.slice A9 l9.length c9).ownBlock) (.slice A9 l9.length c9) l9 m1 m2 q8 q9 w0 _ HBa.out (Kd.R_tight rfl (ac_8 HA.out)) (fun k_ e1 e2 => ac_ne HA.out k_ e1.symm e2.symm) (Kd.R_tight rfl (ac_9 HA.out)) (fun k_ e1 e2 => ac_ne HA.out k_ e2.symm e1.symm) E2'.out).mono ?_); rintro e wb ⟨rfl, ho8, ho9, hb, hk⟩; have HA2 := Aside0.mk (ac_mark89 HA.out ho8 ho9 hk); have hx := (hk.2 w.heap.size (blk_lt HX.out) (fun e_ => e_.elim (fun e_ => by have := ((ac_8 HA.out).1 _ e_.symm).2; omega) (fun e_ => by have := ((ac_9 HA.out).1 _ e_.symm).2; omega))).trans HX.out; have HXb := Aside0.mk hx; have HBb := Aside0.mk hb; have HKb := Aside0.mk (Kept.then_ HKa.out hk (fun k_ e_ => .inl (e_.elim (fun e_ => (ac_8 HA.out).1 k_ e_.symm) (fun e_ => (ac_9 HA.out).1 k_ e_.symm)))); have y10 := (blk_cell hx 10).trans (show _ = some (Value.slice A10 l10.length c10) from rfl); clear ho8 ho9 hb hk hx) | (go_at_call 42; (with_reducible refine (laws_markSlotS.calls k (SlB wb w0.heap.size (fun k => P0_ k ∧ k < w.heap.size)) (.slice A10 l10.length c10) l10 m2 m3 q10 w0 _ HBb.out (ac_10b HA2.out) E3'.out).mono ?_); rintro e wc ⟨rfl, ho, hb, hk⟩; have HA3 := Aside0.mk (ac_mark10 HA2.out ho hk); have HBc := Aside0.mk hb; have HKc := Aside0.mk (Kept.then_ HKb.out hk (fun k_ e_ => .inl e_.1)); clear ho hb hk))
 go_ret
 exact ⟨rfl, ac_mono HA3.out (fun k hk => hk.1), HBc.out, Kept.mono HKc.out (fun k hk => hk.1)⟩
/-! ### laws_heldHoldS: function 21 -/
def laws_heldHoldS.l0 : Nat → List (S93) → Int → Int → Option (Int)
 | 0, _, _, _ => none
 | k + 1, x0, x1, x5 => if x5 < (x0.length : Int) then (if 0 ≤ x5 then ((laws_markText.f k x1).bind fun t304 => (if ((rd_T93 x0 x5).f0).toList = t304.toList then (if ((rd_T93 x0 x5).f1) = (wrap64 (x1 + 1)) then (if ((rd_T93 x0 x5).f2) = (wrap64 ((wrap64 (x1 + 1)) + 1)) then (laws_heldHoldS.l0 k x0 (wrap64 ((wrap64 ((wrap64 (x1 + 1)) + 1)) + 1)) (wrap64 (x5 + 1))) else (some (-1))) else (some (-1))) else (some (-1)))) else (none)) else (some x1)
def laws_heldHoldS.f (k : Nat) (l0 : List (S93)) (a1 : Int) : Option (Int) := laws_heldHoldS.l0 k l0 a1 0
def laws_heldHoldS.T4 : Bool × List (List Nat × List Nat) := (true, [([], []), ([], []), ([0, 1], [0, 1]), ([2], [2]), ([3], [3]), ([], []), ([5], [5]), ([4, 6], [4, 6])])
def laws_heldHoldS.B4 : List Nat := [0, 0, 3, 7, 15, 0, 32, 127]
theorem laws_heldHoldS.tab4 : rtab .any (opsOf Try.f21 4) = laws_heldHoldS.T4 := by kernel_rfl
theorem laws_heldHoldS.bits4 : waitsOk laws_heldHoldS.T4.2 laws_heldHoldS.B4 = true := by kernel_rfl
set_option maxHeartbeats 8000000 in
set_option maxRecDepth 100000 in
theorem laws_heldHoldS.calls (k : Nat) (A0 : Option Addr) (c0 : Nat) (l0 : List (S93)) (a1 : Int) (r : Int) (w : World) (hr0 : Kd.C k93 w A0 l0.length l0) (hc0 : l0.length ≤ c0) (h : laws_heldHoldS.f k l0 a1 = some r) :
  Calls Try.prog 21 #[.slice A0 l0.length c0, .int .i64 a1] w fun e w' => e = .returned (.int .i64 r) ∧ Below w.heap.size w w' := by
 have HR0 := Aside0.mk hr0
 have HC0 := Aside0.mk hc0
 clear hr0 hc0
 have HB := Aside0.mk (Below.refl w.heap.size w)
 have H : (laws_heldHoldS.l0 k l0 a1 0) = some r := h
 clear h
 have H' := Aside0.mk H
 clear H
 go_enter Try.func21, Try.ntmps21
 go_wp2
 go_loopg [1, 5] k (fun kq v1 v5 w' => ∃ (x1_1 : Int) (x5_1 : Int), v1 = .int .i64 x1_1 ∧ v5 = .int .i64 x5_1 ∧ Aside0 (laws_heldHoldS.l0 kq l0 x1_1 x5_1 = some r) ∧ Aside0 (kq ≤ k) ∧ Aside0 (Below w.heap.size w w'))
 case atStart => exact ⟨(a1), (0), sp_, sp_, H', ⟨Nat.le_refl _⟩, ⟨bl_⟩⟩
 case round =>
  clear H'
  try clear c2
  try clear p2
  obtain ⟨x1_1, x5_1, rfl, rfl, HA, HK1, HB⟩ := hrel
  cases gk with
  | zero => exact absurd HA.out (by simp [laws_heldHoldS.l0])
  | succ k1 =>
   have H := HA.out
   clear HA
   simp only [laws_heldHoldS.l0] at H
   by_cases c3 : x5_1 < (l0.length : Int)
   ·rw [if_pos c3] at H
    have c3b0 : decide (x5_1 < (l0.length : Int)) = true := decide_eq_true c3
    clear c3
    by_cases c4 : 0 ≤ x5_1
    ·rw [if_pos c4] at H
     have c4b0 : decide (0 ≤ x5_1) = true := decide_eq_true c4
     clear c4
     obtain ⟨t304, A5, H⟩ := ob_ H
     by_cases c6 : ((rd_T93 l0 x5_1).f0).toList = t304.toList
     ·rw [if_pos c6] at H
      have c6b0 : (((rd_T93 l0 x5_1).f0).toList == t304.toList) = true := beq_iff_eq.mpr c6
      have c6b1 : (((rd_T93 l0 x5_1).f0).toList != t304.toList) = false := bne_eq_false_iff_eq.mpr c6
      clear c6
      by_cases c7 : ((rd_T93 l0 x5_1).f1) = (wrap64 (x1_1 + 1))
      ·rw [if_pos c7] at H
       have c7b0 : (((rd_T93 l0 x5_1).f1) == (wrap64 (x1_1 + 1))) = true := beq_iff_eq.mpr c7
       have c7b1 : (((rd_T93 l0 x5_1).f1) != (wrap64 (x1_1 + 1))) = false := bne_eq_false_iff_eq.mpr c7
       clear c7
       by_cases c8 : ((rd_T93 l0 x5_1).f2) = (wrap64 ((wrap64 (x1_1 + 1)) + 1))
       ·rw [if_pos c8] at H
        have c8b0 : (((rd_T93 l0 x5_1).f2) == (wrap64 ((wrap64 (x1_1 + 1)) + 1))) = true := beq_iff_eq.mpr c8
        have c8b1 : (((rd_T93 l0 x5_1).f2) != (wrap64 ((wrap64 (x1_1 + 1)) + 1))) = false := bne_eq_false_iff_eq.mpr c8
        clear c8
        have H' := Aside0.mk H
        clear H
        try go_wp2
        have n0_ := Aside0.mk (below_drew1 HB.out)
        clear HB
        have HB := n0_
        clear n0_
        have p303 : 0 ≤ (x5_1 : Int) := od_
        have q303 : x5_1 < (l0.length : Int) := od_
        obtain ⟨ad303, e303, hx303_0, hx303_1, hx303_2⟩ := at_T93 HR0.out x5_1 p303 q303
        have hw303_2 := hx303_2
        have hw303_1 := hx303_1
        have hw303_0 := hx303_0
        cases e303
        replace hx303_0 := kc_ HB hx303_0
        replace hx303_1 := kc_ HB hx303_1
        replace hx303_2 := kc_ HB hx303_2
        replace p303 := eq_true p303
        replace q303 := eq_true q303
        refine start_ (n := 8) (S := fun w' => w'.cell? (ad303.add ((x5_1).toNat * 3)) = some (.string ((rd_T93 l0 x5_1).f0)) ∧ w'.cell? ⟨(ad303.add ((x5_1).toNat * 3)).block, (ad303.add ((x5_1).toNat * 3)).off + 1, none⟩ = some (.int .i64 ((rd_T93 l0 x5_1).f1)) ∧ w'.cell? ⟨(ad303.add ((x5_1).toNat * 3)).block, (ad303.add ((x5_1).toNat * 3)).off + 2, none⟩ = some (.int .i64 ((rd_T93 l0 x5_1).f2))) (ds := []) tb8_0_13 (by kernel_rfl) rfl rfl ⟨(kc_ HB hw303_0), (kc_ HB hw303_1), (kc_ HB hw303_2)⟩ (fun hHeld => ?_); refine with_tabW laws_heldHoldS.tab4 laws_heldHoldS.bits4 (fun HT_ HW_ => ?_)
        generalize wr.drew = w9 at HB hx303_0 hx303_1 hx303_2 hHeld ⊢
        refine pl_ HT_ 0 12 tb8_1_13 ?_
        refine pl_ HT_ 1 13 tb8_3_13 ?_
        refine pl_ HT_ 2 14 tb8_7_13 ?_
        refine pl_ HT_ 3 15 tb8_f_13 ?_
        refine pl_ HT_ 5 17 tb8_2f_13 ?_
        refine take_ (i := 4) (N := some 16) (v := ?_) (a' := ?_) tb8_3f_13 rfl rfl (take_ofW HT_.out HW_.out (by kernel_rfl)) (fun _ _ _ h => h) (Or.inl ⟨by rfl, ?_⟩) hHeld ?_ ?_
        rotate_left
        ·rintro w' ⟨s0, s1, s2⟩
         go_simp
         with_reducible rfl
        rotate_left
        ·simp only [Act.put, q_]
         rfl
        refine one_ (i := 6) (N := some 18) tb8_7f_13 rfl rfl (one_of HT_.out (by kernel_rfl)) (by decide) (fun K hK => ?_)
        refine goes_ Try.func81 (by kernel_rfl) rfl #[.int .i64 x1_1] (by rfl) rfl rfl gl_ ?_
        with_reducible refine (laws_markText.calls k1 x1_1 t304 _ A5.out).mono ?_
        rintro e w10 ⟨rfl, hb⟩
        refine ⟨_, rfl, ?_⟩
        have n0_ := Aside0.mk (below_step bl_ hb)
        clear HB
        have HB := n0_
        clear n0_
        (try clear hb)
        (try clear hb2)
        (try clear hk)
        (try clear hi)
        refine hK.out _ _ ⟨(kc_ HB hw303_0), (kc_ HB hw303_1), (kc_ HB hw303_2)⟩ (fun hHeld => ?_)
        clear hK K
        refine norm_ (a' := ?_) ?_ ?_
        rotate_left
        ·show Act.put _ (some 18) _ = _
         simp only [Act.put, q_]
         rfl
        refine pl_ HT_ 7 19 tb8_ff_13 ?_
        refine done_ (done_of HT_.out (by kernel_rfl)) ?_
        have p305 : 0 ≤ (x5_1 : Int) := od_
        have q305 : x5_1 < (l0.length : Int) := od_
        obtain ⟨ad305, e305, hx305_0, hx305_1, hx305_2⟩ := at_T93 HR0.out x5_1 p305 q305
        obtain rfl : ad303 = ad305 := (by injection e305)
        replace hx305_0 := kc_ HB hx305_0
        replace hx305_1 := kc_ HB hx305_1
        replace hx305_2 := kc_ HB hx305_2
        replace p305 := eq_true p305
        replace q305 := eq_true q305
        have p306 : 0 ≤ (x5_1 : Int) := od_
        have q306 : x5_1 < (l0.length : Int) := od_
        obtain ⟨ad306, e306, hx306_0, hx306_1, hx306_2⟩ := at_T93 HR0.out x5_1 p306 q306
        obtain rfl : ad303 = ad306 := (by injection e306)
        replace hx306_0 := kc_ HB hx306_0
        replace hx306_1 := kc_ HB hx306_1
        replace hx306_2 := kc_ HB hx306_2
        replace p306 := eq_true p306
        replace q306 := eq_true q306
        try go_wp2
        go_roundg k1
        case measure => have := HK1.out; omega
        case rel => exact ⟨(wrap64 ((wrap64 ((wrap64 (x1_1 + 1)) + 1)) + 1)), (wrap64 (x5_1 + 1)), sp_, sp_, H', ⟨by have := HK1.out; omega⟩, ⟨bl_⟩⟩
       ·rw [if_neg c8] at H
        have c8b0 : (((rd_T93 l0 x5_1).f2) == (wrap64 ((wrap64 (x1_1 + 1)) + 1))) = false := beq_eq_false_iff_ne.mpr c8
        have c8b1 : (((rd_T93 l0 x5_1).f2) != (wrap64 ((wrap64 (x1_1 + 1)) + 1))) = true := bne_iff_ne.mpr c8
        obtain rfl := Option.some.inj H
        try go_wp2
        have n0_ := Aside0.mk (below_drew1 HB.out)
        clear HB
        have HB := n0_
        clear n0_
        have p303 : 0 ≤ (x5_1 : Int) := od_
        have q303 : x5_1 < (l0.length : Int) := od_
        obtain ⟨ad303, e303, hx303_0, hx303_1, hx303_2⟩ := at_T93 HR0.out x5_1 p303 q303
        have hw303_2 := hx303_2
        have hw303_1 := hx303_1
        have hw303_0 := hx303_0
        cases e303
        replace hx303_0 := kc_ HB hx303_0
        replace hx303_1 := kc_ HB hx303_1
        replace hx303_2 := kc_ HB hx303_2
        replace p303 := eq_true p303
        replace q303 := eq_true q303
        refine start_ (n := 8) (S := fun w' => w'.cell? (ad303.add ((x5_1).toNat * 3)) = some (.string ((rd_T93 l0 x5_1).f0)) ∧ w'.cell? ⟨(ad303.add ((x5_1).toNat * 3)).block, (ad303.add ((x5_1).toNat * 3)).off + 1, none⟩ = some (.int .i64 ((rd_T93 l0 x5_1).f1)) ∧ w'.cell? ⟨(ad303.add ((x5_1).toNat * 3)).block, (ad303.add ((x5_1).toNat * 3)).off + 2, none⟩ = some (.int .i64 ((rd_T93 l0 x5_1).f2))) (ds := []) tb8_0_13 (by kernel_rfl) rfl rfl ⟨(kc_ HB hw303_0), (kc_ HB hw303_1), (kc_ HB hw303_2)⟩ (fun hHeld => ?_); refine with_tabW laws_heldHoldS.tab4 laws_heldHoldS.bits4 (fun HT_ HW_ => ?_)
        generalize wr.drew = w11 at HB hx303_0 hx303_1 hx303_2 hHeld ⊢
        refine pl_ HT_ 0 12 tb8_1_13 ?_
        refine pl_ HT_ 1 13 tb8_3_13 ?_
        refine pl_ HT_ 2 14 tb8_7_13 ?_
        refine pl_ HT_ 3 15 tb8_f_13 ?_
        refine pl_ HT_ 5 17 tb8_2f_13 ?_
        refine take_ (i := 4) (N := some 16) (v := ?_) (a' := ?_) tb8_3f_13 rfl rfl (take_ofW HT_.out HW_.out (by kernel_rfl)) (fun _ _ _ h => h) (Or.inl ⟨by rfl, ?_⟩) hHeld ?_ ?_
        rotate_left
        ·rintro w' ⟨s0, s1, s2⟩
         go_simp
         with_reducible rfl
        rotate_left
        ·simp only [Act.put, q_]
         rfl
        refine one_ (i := 6) (N := some 18) tb8_7f_13 rfl rfl (one_of HT_.out (by kernel_rfl)) (by decide) (fun K hK => ?_)
        refine goes_ Try.func81 (by kernel_rfl) rfl #[.int .i64 x1_1] (by rfl) rfl rfl gl_ ?_
        with_reducible refine (laws_markText.calls k1 x1_1 t304 _ A5.out).mono ?_
        rintro e w12 ⟨rfl, hb⟩
        refine ⟨_, rfl, ?_⟩
        have n0_ := Aside0.mk (below_step bl_ hb)
        clear HB
        have HB := n0_
        clear n0_
        (try clear hb)
        (try clear hb2)
        (try clear hk)
        (try clear hi)
        refine hK.out _ _ ⟨(kc_ HB hw303_0), (kc_ HB hw303_1), (kc_ HB hw303_2)⟩ (fun hHeld => ?_)
        clear hK K
        refine norm_ (a' := ?_) ?_ ?_
        rotate_left
        ·show Act.put _ (some 18) _ = _
         simp only [Act.put, q_]
         rfl
        refine pl_ HT_ 7 19 tb8_ff_13 ?_
        refine done_ (done_of HT_.out (by kernel_rfl)) ?_
        have p305 : 0 ≤ (x5_1 : Int) := od_
        have q305 : x5_1 < (l0.length : Int) := od_
        obtain ⟨ad305, e305, hx305_0, hx305_1, hx305_2⟩ := at_T93 HR0.out x5_1 p305 q305
        obtain rfl : ad303 = ad305 := (by injection e305)
        replace hx305_0 := kc_ HB hx305_0
        replace hx305_1 := kc_ HB hx305_1
        replace hx305_2 := kc_ HB hx305_2
        replace p305 := eq_true p305
        replace q305 := eq_true q305
        have p306 : 0 ≤ (x5_1 : Int) := od_
        have q306 : x5_1 < (l0.length : Int) := od_
        obtain ⟨ad306, e306, hx306_0, hx306_1, hx306_2⟩ := at_T93 HR0.out x5_1 p306 q306
        obtain rfl : ad303 = ad306 := (by injection e306)
        replace hx306_0 := kc_ HB hx306_0
        replace hx306_1 := kc_ HB hx306_1
        replace hx306_2 := kc_ HB hx306_2
        replace p306 := eq_true p306
        replace q306 := eq_true q306
        try go_wp2
        go_ret
        exact ⟨sq_, bl_⟩
      ·rw [if_neg c7] at H
       have c7b0 : (((rd_T93 l0 x5_1).f1) == (wrap64 (x1_1 + 1))) = false := beq_eq_false_iff_ne.mpr c7
       have c7b1 : (((rd_T93 l0 x5_1).f1) != (wrap64 (x1_1 + 1))) = true := bne_iff_ne.mpr c7
       obtain rfl := Option.some.inj H
       try go_wp2
       have n0_ := Aside0.mk (below_drew1 HB.out)
       clear HB
       have HB := n0_
       clear n0_
       have p303 : 0 ≤ (x5_1 : Int) := od_
       have q303 : x5_1 < (l0.length : Int) := od_
       obtain ⟨ad303, e303, hx303_0, hx303_1, hx303_2⟩ := at_T93 HR0.out x5_1 p303 q303
       have hw303_2 := hx303_2
       have hw303_1 := hx303_1
       have hw303_0 := hx303_0
       cases e303
       replace hx303_0 := kc_ HB hx303_0
       replace hx303_1 := kc_ HB hx303_1
       replace hx303_2 := kc_ HB hx303_2
       replace p303 := eq_true p303
       replace q303 := eq_true q303
       refine start_ (n := 8) (S := fun w' => w'.cell? (ad303.add ((x5_1).toNat * 3)) = some (.string ((rd_T93 l0 x5_1).f0)) ∧ w'.cell? ⟨(ad303.add ((x5_1).toNat * 3)).block, (ad303.add ((x5_1).toNat * 3)).off + 1, none⟩ = some (.int .i64 ((rd_T93 l0 x5_1).f1)) ∧ w'.cell? ⟨(ad303.add ((x5_1).toNat * 3)).block, (ad303.add ((x5_1).toNat * 3)).off + 2, none⟩ = some (.int .i64 ((rd_T93 l0 x5_1).f2))) (ds := []) tb8_0_13 (by kernel_rfl) rfl rfl ⟨(kc_ HB hw303_0), (kc_ HB hw303_1), (kc_ HB hw303_2)⟩ (fun hHeld => ?_); refine with_tabW laws_heldHoldS.tab4 laws_heldHoldS.bits4 (fun HT_ HW_ => ?_)
       generalize wr.drew = w13 at HB hx303_0 hx303_1 hx303_2 hHeld ⊢
       refine pl_ HT_ 0 12 tb8_1_13 ?_
       refine pl_ HT_ 1 13 tb8_3_13 ?_
       refine pl_ HT_ 2 14 tb8_7_13 ?_
       refine pl_ HT_ 3 15 tb8_f_13 ?_
       refine pl_ HT_ 5 17 tb8_2f_13 ?_
       refine take_ (i := 4) (N := some 16) (v := ?_) (a' := ?_) tb8_3f_13 rfl rfl (take_ofW HT_.out HW_.out (by kernel_rfl)) (fun _ _ _ h => h) (Or.inl ⟨by rfl, ?_⟩) hHeld ?_ ?_
       rotate_left
       ·rintro w' ⟨s0, s1, s2⟩
        go_simp
        with_reducible rfl
       rotate_left
       ·simp only [Act.put, q_]
        rfl
       refine one_ (i := 6) (N := some 18) tb8_7f_13 rfl rfl (one_of HT_.out (by kernel_rfl)) (by decide) (fun K hK => ?_)
       refine goes_ Try.func81 (by kernel_rfl) rfl #[.int .i64 x1_1] (by rfl) rfl rfl gl_ ?_
       with_reducible refine (laws_markText.calls k1 x1_1 t304 _ A5.out).mono ?_
       rintro e w14 ⟨rfl, hb⟩
       refine ⟨_, rfl, ?_⟩
       have n0_ := Aside0.mk (below_step bl_ hb)
       clear HB
       have HB := n0_
       clear n0_
       (try clear hb)
       (try clear hb2)
       (try clear hk)
       (try clear hi)
       refine hK.out _ _ ⟨(kc_ HB hw303_0), (kc_ HB hw303_1), (kc_ HB hw303_2)⟩ (fun hHeld => ?_)
       clear hK K
       refine norm_ (a' := ?_) ?_ ?_
       rotate_left
       ·show Act.put _ (some 18) _ = _
        simp only [Act.put, q_]
        rfl
       refine pl_ HT_ 7 19 tb8_ff_13 ?_
       refine done_ (done_of HT_.out (by kernel_rfl)) ?_
       have p305 : 0 ≤ (x5_1 : Int) := od_
       have q305 : x5_1 < (l0.length : Int) := od_
       obtain ⟨ad305, e305, hx305_0, hx305_1, hx305_2⟩ := at_T93 HR0.out x5_1 p305 q305
       obtain rfl : ad303 = ad305 := (by injection e305)
       replace hx305_0 := kc_ HB hx305_0
       replace hx305_1 := kc_ HB hx305_1
       replace hx305_2 := kc_ HB hx305_2
       replace p305 := eq_true p305
       replace q305 := eq_true q305
       try go_wp2
       go_ret
       exact ⟨sq_, bl_⟩
     ·rw [if_neg c6] at H
      have c6b0 : (((rd_T93 l0 x5_1).f0).toList == t304.toList) = false := beq_eq_false_iff_ne.mpr c6
      have c6b1 : (((rd_T93 l0 x5_1).f0).toList != t304.toList) = true := bne_iff_ne.mpr c6
      obtain rfl := Option.some.inj H
      try go_wp2
      have n0_ := Aside0.mk (below_drew1 HB.out)
      clear HB
      have HB := n0_
      clear n0_
      have p303 : 0 ≤ (x5_1 : Int) := od_
      have q303 : x5_1 < (l0.length : Int) := od_
      obtain ⟨ad303, e303, hx303_0, hx303_1, hx303_2⟩ := at_T93 HR0.out x5_1 p303 q303
      have hw303_2 := hx303_2
      have hw303_1 := hx303_1
      have hw303_0 := hx303_0
      cases e303
      replace hx303_0 := kc_ HB hx303_0
      replace hx303_1 := kc_ HB hx303_1
      replace hx303_2 := kc_ HB hx303_2
      replace p303 := eq_true p303
      replace q303 := eq_true q303
      refine start_ (n := 8) (S := fun w' => w'.cell? (ad303.add ((x5_1).toNat * 3)) = some (.string ((rd_T93 l0 x5_1).f0)) ∧ w'.cell? ⟨(ad303.add ((x5_1).toNat * 3)).block, (ad303.add ((x5_1).toNat * 3)).off + 1, none⟩ = some (.int .i64 ((rd_T93 l0 x5_1).f1)) ∧ w'.cell? ⟨(ad303.add ((x5_1).toNat * 3)).block, (ad303.add ((x5_1).toNat * 3)).off + 2, none⟩ = some (.int .i64 ((rd_T93 l0 x5_1).f2))) (ds := []) tb8_0_13 (by kernel_rfl) rfl rfl ⟨(kc_ HB hw303_0), (kc_ HB hw303_1), (kc_ HB hw303_2)⟩ (fun hHeld => ?_); refine with_tabW laws_heldHoldS.tab4 laws_heldHoldS.bits4 (fun HT_ HW_ => ?_)
      generalize wr.drew = w15 at HB hx303_0 hx303_1 hx303_2 hHeld ⊢
      refine pl_ HT_ 0 12 tb8_1_13 ?_
      refine pl_ HT_ 1 13 tb8_3_13 ?_
      refine pl_ HT_ 2 14 tb8_7_13 ?_
      refine pl_ HT_ 3 15 tb8_f_13 ?_
      refine pl_ HT_ 5 17 tb8_2f_13 ?_
      refine take_ (i := 4) (N := some 16) (v := ?_) (a' := ?_) tb8_3f_13 rfl rfl (take_ofW HT_.out HW_.out (by kernel_rfl)) (fun _ _ _ h => h) (Or.inl ⟨by rfl, ?_⟩) hHeld ?_ ?_
      rotate_left
      ·rintro w' ⟨s0, s1, s2⟩
       go_simp
       with_reducible rfl
      rotate_left
      ·simp only [Act.put, q_]
       rfl
      refine one_ (i := 6) (N := some 18) tb8_7f_13 rfl rfl (one_of HT_.out (by kernel_rfl)) (by decide) (fun K hK => ?_)
      refine goes_ Try.func81 (by kernel_rfl) rfl #[.int .i64 x1_1] (by rfl) rfl rfl gl_ ?_
      with_reducible refine (laws_markText.calls k1 x1_1 t304 _ A5.out).mono ?_
      rintro e w16 ⟨rfl, hb⟩
      refine ⟨_, rfl, ?_⟩
      have n0_ := Aside0.mk (below_step bl_ hb)
      clear HB
      have HB := n0_
      clear n0_
      (try clear hb)
      (try clear hb2)
      (try clear hk)
      (try clear hi)
      refine hK.out _ _ ⟨(kc_ HB hw303_0), (kc_ HB hw303_1), (kc_ HB hw303_2)⟩ (fun hHeld => ?_)
      clear hK K
      refine norm_ (a' := ?_) ?_ ?_
      rotate_left
      ·show Act.put _ (some 18) _ = _
       simp only [Act.put, q_]
       rfl
      refine pl_ HT_ 7 19 tb8_ff_13 ?_
      refine done_ (done_of HT_.out (by kernel_rfl)) ?_
      try go_wp2
      go_ret
      exact ⟨sq_, bl_⟩
    ·rw [if_neg c4] at H
     exact absurd H (by simp)
   ·rw [if_neg c3] at H
    have c3b0 : decide (x5_1 < (l0.length : Int)) = false := decide_eq_false c3
    clear c3
    obtain rfl := Option.some.inj H
    go_wp2
    go_ret
    exact ⟨sq_, bl_⟩
end Go.Proofs.Ytepjnalkpfnmcaa.QFnExactAcctNew
