-- by my own printer (myprint.py, over the kit's print.py)
import Derived.Test.YtbjpfknmkpnhjaaQFnExactOrderOfx0
import Derived.Test.YtbjpfknmkpnhjaaQFnExactOrderOfx4
namespace Go.Proofs.Ytbjpfknmkpnhjaa.QFnExactOrderOf
open Go.RowKit Go.Proofs.YtbjpfknmkpnhjaaW.PrintWords Go.Proofs.YtbjpfknmkpnhjaaW.PrintLast Go.Proofs.YtbjpfknmkpnhjaaW.PrintMore
attribute [local go_sem] max2_int min2_int max_two min_two max_three min_three max_four min_four   -- for this text's walks alone
set_option linter.unusedVariables false
set_option linter.unusedSimpArgs false
attribute [local go_sem] my_geq my_leq my_gtr
/-! ### laws_toTaskS: function 16 -/
def laws_toTaskS.l0 : Nat → List (S57) → List (S43) → Int → Option ((List (S43)))
 | 0, _, _, _ => none
 | k + 1, x0, x3, x4 => if x4 < (x0.length : Int) then (if 0 ≤ x4 then ((laws_toTask.f k ((rd_T57 x0 x4).f0) ((rd_T57 x0 x4).f1) ((rd_T57 x0 x4).f2) ((rd_T57 x0 x4).f3) ((rd_T57 x0 x4).f4) ((rd_T57 x0 x4).f5) ((rd_T57 x0 x4).f6) ((rd_T57 x0 x4).f7) ((rd_T57 x0 x4).f8)).bind fun bt296 => (if x4 < (x3.length : Int) then (laws_toTaskS.l0 k x0 (x3.set (x4 : Int).toNat (⟨bt296.1, bt296.2.1, bt296.2.2.1, bt296.2.2.2.1, bt296.2.2.2.2.1, bt296.2.2.2.2.2.1, bt296.2.2.2.2.2.2.1, bt296.2.2.2.2.2.2.2.1, bt296.2.2.2.2.2.2.2.2⟩ : S43)) (wrap64 (x4 + 1))) else (none))) else (none)) else (some x3)
def laws_toTaskS.f (k : Nat) (l0 : List (S57)) : Option ((List (S43))) := if 0 ≤ (l0.length : Int) then (if ((l0.length : Int) : Int).toNat ≤ 2345624805922 then (laws_toTaskS.l0 k l0 (List.replicate ((l0.length : Int) : Int).toNat z43) 0) else (none)) else (none)
set_option maxHeartbeats 8000000 in
set_option maxRecDepth 100000 in
theorem laws_toTaskS.calls (k : Nat) (A0 : Option Addr) (c0 : Nat) (l0 : List (S57)) (r : List (S43)) (w : World) (hr0 : Kd.C k57 w A0 l0.length l0) (hc0 : l0.length ≤ c0) (h : laws_toTaskS.f k l0 = some r) :
  Calls Try.prog 16 #[.slice A0 l0.length c0] w fun e w' => ∃ v0_ : Value, e = .returned (v0_) ∧ Kd.S k43 43 w' w.heap.size (fun _ => True) v0_ r ∧ Below w.heap.size w w' := by
 have hu57 := Try.underlying57
 have hu43 := Try.underlying43
 have HR0 := Aside0.mk hr0
 have HC0 := Aside0.mk hc0
 clear hr0 hc0
 have HB := Aside0.mk (Below.refl w.heap.size w)
 have H : (if 0 ≤ (l0.length : Int) then (if ((l0.length : Int) : Int).toNat ≤ 2345624805922 then (laws_toTaskS.l0 k l0 (List.replicate ((l0.length : Int) : Int).toNat z43) 0) else (none)) else (none)) = some r := h
 clear h
 by_cases c2 : 0 ≤ (l0.length : Int)
 ·rw [if_pos c2] at H
  have c2b0 := eq_true c2
  have c2b1 : decide (0 ≤ (l0.length : Int)) = true := decide_eq_true c2
  clear c2
  by_cases c3 : ((l0.length : Int) : Int).toNat ≤ 2345624805922
  ·rw [if_pos c3] at H
   have c3b0 := eq_true c3
   have c3b1 : decide (((l0.length : Int) : Int).toNat ≤ 2345624805922) = true := decide_eq_true c3
   clear c3
   obtain ⟨y292, hy292⟩ : ∃ y_ : List (S43), y_ = (List.replicate ((l0.length : Int) : Int).toNat z43) := ⟨_, rfl⟩
   replace H : (laws_toTaskS.l0 k l0 y292 0) = some r := by first | (rw [hy292]; with_reducible exact H) | (have H2_ := (Option.bind_some _ _).symm.trans H; rw [hy292]; with_reducible exact H2_) | (have H2_ := (Option.bind_some _ _).symm.trans H; with_reducible exact H2_) | with_reducible exact H | (rw [hy292]; exact H) | exact H
   have Ny292 := Aside0.mk hy292
   clear hy292
   have H' := Aside0.mk H
   clear H
   go_enter Try.func16, Try.ntmps16
   go_wp2_with (first | ((with_reducible refine gate_dst (N := 7) rfl ?_); refine Kd.S_make k43 _ 43 rfl (N := 7) rfl 30 _ _ rfl (l0.length : Int) rfl rfl Try.underlying30 (.agg #[(.slice none 0 0), (.int .i64 0), (.slice none 0 0), (.int .i64 0), (.int .i64 0), (.int .i64 0), (.int .i64 0), (.int .i64 0), (.slice none 0 0)]) 120 info43 rfl (by decide) (by omega) z43 (ok := fun _ => True) (okp := fun _ => True) (k43_mkM _ _ _ z43 (Kd.R_nil _ _ _ _ _) (Kd.R_nil _ _ _ _ _) (Kd.R_nil _ _ _ _ _)) (fun _ hk => hk) trivial od_ (Nat.le_trans (Nat.mul_le_mul_right _ (od_ : (l0.length : Int).toNat ≤ 2345624805922)) (by omega)) (Below.refl _ _) (Nat.le_refl _) ?_; intro v293 w4 ho5 hb hg_ hnew_; clear hg_ hnew_; (first | rw [← Ny292.out] at ho5 | (simp only [Int.reduceToNat] at ho5; rw [← Ny292.out] at ho5)); have HO294 := Aside0.mk (Kd.S_lower ho5 (below_size bl_)); replace HB := Aside0.mk (below_step bl_ hb); clear hb ho5))
   go_loopg [4] k (fun kq v4 w' => ∃ (x3_1 : List (S43)) (x4_1 : Int), v4 = .int .i64 x4_1 ∧ Aside0 (laws_toTaskS.l0 kq l0 x3_1 x4_1 = some r) ∧ Aside0 (kq ≤ k) ∧ Aside0 (Kd.S k43 43 w' w.heap.size (fun _ => True) v293 x3_1) ∧ Aside0 (Below w.heap.size w w'))
   case atStart => exact ⟨(y292), (0), sp_, H', ⟨Nat.le_refl _⟩, ⟨by (with_reducible repeat (first | apply Kd.S_alloc | apply Kd.S_drewN | apply Kd.S_drew)); exact HO294.out⟩, ⟨bl_⟩⟩
   case round =>
    clear H'
    try clear c1
    try clear c2
    try clear c2b0
    try clear c2b1
    try clear p2
    try clear c3
    try clear c3b0
    try clear c3b1
    obtain ⟨x3_1, x4_1, rfl, HA, HK1, HO_3, HB⟩ := hrel
    cases gk with
    | zero => exact absurd HA.out (by simp [laws_toTaskS.l0])
    | succ k1 =>
     have H := HA.out
     clear HA
     simp only [laws_toTaskS.l0] at H
     by_cases c6 : x4_1 < (l0.length : Int)
     ·rw [if_pos c6] at H
      have c6b0 : decide (x4_1 < (l0.length : Int)) = true := decide_eq_true c6
      clear c6
      by_cases c7 : 0 ≤ x4_1
      ·rw [if_pos c7] at H
       have c7b0 : decide (0 ≤ x4_1) = true := decide_eq_true c7
       clear c7
       obtain ⟨⟨t296, t299, t300, t303, t304, t305, t306, t307, t308⟩, A8, H⟩ := ob_ H
       (try dsimp only at H)
       by_cases c9 : x4_1 < (x3_1.length : Int)
       ·rw [if_pos c9] at H
        have c9b0 : decide (x4_1 < (x3_1.length : Int)) = true := decide_eq_true c9
        clear c9
        obtain ⟨y311, hy311⟩ : ∃ y_ : List (S43), y_ = (x3_1.set (x4_1 : Int).toNat (⟨t296, t299, t300, t303, t304, t305, t306, t307, t308⟩ : S43)) := ⟨_, rfl⟩
        replace H : (laws_toTaskS.l0 k1 l0 y311 (wrap64 (x4_1 + 1))) = some r := by first | (rw [hy311]; with_reducible exact H) | (have H2_ := (Option.bind_some _ _).symm.trans H; rw [hy311]; with_reducible exact H2_) | (have H2_ := (Option.bind_some _ _).symm.trans H; with_reducible exact H2_) | with_reducible exact H | (rw [hy311]; exact H) | exact H
        have Ny311 := Aside0.mk hy311
        clear hy311
        have H' := Aside0.mk H
        clear H
        have p295 : 0 ≤ (x4_1 : Int) := od_
        have q295 : x4_1 < (l0.length : Int) := od_
        obtain ⟨ad295, A295_0, c295_0, A295_2, c295_2, A295_8, c295_8, e295, hx295_0, hx295_1, hx295_2, hx295_3, hx295_4, hx295_5, hx295_6, hx295_7, hx295_8, hl295_0, hi295_0, hl295_2, hi295_2, hl295_8, hi295_8⟩ := at_T57 HR0.out x4_1 p295 q295
        cases e295
        replace hx295_0 := kc_ HB hx295_0
        replace hx295_1 := kc_ HB hx295_1
        replace hx295_2 := kc_ HB hx295_2
        replace hx295_3 := kc_ HB hx295_3
        replace hx295_4 := kc_ HB hx295_4
        replace hx295_5 := kc_ HB hx295_5
        replace hx295_6 := kc_ HB hx295_6
        replace hx295_7 := kc_ HB hx295_7
        replace hx295_8 := kc_ HB hx295_8
        have HR295_0 := Aside0.mk hi295_0
        have HC295_0 := Aside0.mk hl295_0
        clear hi295_0 hl295_0
        have HR295_2 := Aside0.mk hi295_2
        have HC295_2 := Aside0.mk hl295_2
        clear hi295_2 hl295_2
        have HR295_8 := Aside0.mk hi295_8
        have HC295_8 := Aside0.mk hl295_8
        clear hi295_8 hl295_8
        replace p295 := eq_true p295
        replace q295 := eq_true q295
        go_wp2_with (first | ((with_reducible refine gate_callee (f := 26) rfl ?_); refine goesL_ (some 20) rfl rfl Try.func26 (by kernel_rfl) rfl #[.agg #[.slice A295_0 ((rd_T57 l0 x4_1).f0).length c295_0, .int .i64 ((rd_T57 l0 x4_1).f1), .slice A295_2 ((rd_T57 l0 x4_1).f2).length c295_2, .int .i64 ((rd_T57 l0 x4_1).f3), .int .i64 ((rd_T57 l0 x4_1).f4), .int .i64 ((rd_T57 l0 x4_1).f5), .int .i64 ((rd_T57 l0 x4_1).f6), .int .i64 ((rd_T57 l0 x4_1).f7), .slice A295_8 ((rd_T57 l0 x4_1).f8).length c295_8]] rfl gl_ ?_; (with_reducible refine (laws_toTask.calls k1 _ _ ((rd_T57 l0 x4_1).f0) ((rd_T57 l0 x4_1).f1) _ _ ((rd_T57 l0 x4_1).f2) ((rd_T57 l0 x4_1).f3) ((rd_T57 l0 x4_1).f4) ((rd_T57 l0 x4_1).f5) ((rd_T57 l0 x4_1).f6) ((rd_T57 l0 x4_1).f7) _ _ ((rd_T57 l0 x4_1).f8) t296 t299 t300 t303 t304 t305 t306 t307 t308 _ ?side1 ?side2 ?side3 ?side4 ?side5 ?side6 A8.out).mono ?_); (case side1 => exact ca_ (Kd.C_below HR295_0.out HB.out)); (case side2 => exact HC295_0.out); (case side3 => exact ca_ (Kd.C_below HR295_2.out HB.out)); (case side4 => exact HC295_2.out); (case side5 => exact ca_ (Kd.C_below HR295_8.out HB.out)); (case side6 => exact HC295_8.out); rintro e w11 ⟨v297, v301, v309, rfl, ho0, ho1, ho2, hb⟩; refine ⟨_, rfl, ?_⟩; replace HO_3 := Aside0.mk (Kd.S_mono (Kd.S_told (Kd.S_told (Kd.S_told (Kd.S_old (by (with_reducible repeat (first | apply Kd.S_alloc | apply Kd.S_drewN | apply Kd.S_drew)); exact HO_3.out) hb) (Kd.R_base ho0)) (Kd.R_base ho1)) (Kd.R_base ho2)) (fun _ h_ => h_.1)); have HO298 := Aside0.mk (Kd.R_lower ho0 (below_size bl_)); have HO302 := Aside0.mk (Kd.R_lower ho1 (below_size bl_)); have HO310 := Aside0.mk (Kd.R_lower ho2 (below_size bl_)); replace HB := Aside0.mk (below_step bl_ hb); (try clear hb); (try clear hb2); (try clear hk); (try clear hi); (try clear ho0); (try clear ho1); (try clear ho2); have p10 : 0 ≤ (x4_1 : Int) := od_; have q10 : (x4_1 : Int) < ((x3_1.length : Int) : Int) := od_; obtain ⟨go10, co10, eo10, gb10, gl10, cl10, HG10⟩ := Kd.S_form HO_3.out (by omega); (first | cases eo10 | (injection eo10 with ea_ en_ ec_; (first | subst ea_ | (injection ea_ with ea_; subst ea_)); subst ec_; clear en_)); have GB10 := Aside0.mk gb10; have GG10 := Aside0.mk HG10; clear gb10 gl10 HG10; obtain ⟨_, ce10, hcl10, hM10, hcc10, hfr10, _, _⟩ := Kd.S_elem HO_3.out z43 (x4_1 : Int) p10 q10; obtain ⟨ve10_0, ve10_2, ve10_8, rfl, ge10_0, ge10_2, ge10_8⟩ := k43_openM hM10; have hx10_0 : w11.cell? ⟨go10, (x4_1 : Int).toNat * 9, none⟩ = some (ve10_0) := hcc10 0 _ rfl; have hx10_1 : w11.cell? ⟨go10, (x4_1 : Int).toNat * 9 + 1, none⟩ = some (.int .i64 ((rd_T43 x3_1 x4_1).f1)) := hcc10 1 _ rfl; have hx10_2 : w11.cell? ⟨go10, (x4_1 : Int).toNat * 9 + 2, none⟩ = some (ve10_2) := hcc10 2 _ rfl; have hx10_3 : w11.cell? ⟨go10, (x4_1 : Int).toNat * 9 + 3, none⟩ = some (.int .i64 ((rd_T43 x3_1 x4_1).f3)) := hcc10 3 _ rfl; have hx10_4 : w11.cell? ⟨go10, (x4_1 : Int).toNat * 9 + 4, none⟩ = some (.int .i64 ((rd_T43 x3_1 x4_1).f4)) := hcc10 4 _ rfl; have hx10_5 : w11.cell? ⟨go10, (x4_1 : Int).toNat * 9 + 5, none⟩ = some (.int .i64 ((rd_T43 x3_1 x4_1).f5)) := hcc10 5 _ rfl; have hx10_6 : w11.cell? ⟨go10, (x4_1 : Int).toNat * 9 + 6, none⟩ = some (.int .i64 ((rd_T43 x3_1 x4_1).f6)) := hcc10 6 _ rfl; have hx10_7 : w11.cell? ⟨go10, (x4_1 : Int).toNat * 9 + 7, none⟩ = some (.int .i64 ((rd_T43 x3_1 x4_1).f7)) := hcc10 7 _ rfl; have hx10_8 : w11.cell? ⟨go10, (x4_1 : Int).toNat * 9 + 8, none⟩ = some (ve10_8) := hcc10 8 _ rfl; have hf10_0 : w11.frozen? ⟨go10, (x4_1 : Int).toNat * 9, none⟩ = false := hfr10 0; have hf10_1 : w11.frozen? ⟨go10, (x4_1 : Int).toNat * 9 + 1, none⟩ = false := hfr10 1; have hf10_2 : w11.frozen? ⟨go10, (x4_1 : Int).toNat * 9 + 2, none⟩ = false := hfr10 2; have hf10_3 : w11.frozen? ⟨go10, (x4_1 : Int).toNat * 9 + 3, none⟩ = false := hfr10 3; have hf10_4 : w11.frozen? ⟨go10, (x4_1 : Int).toNat * 9 + 4, none⟩ = false := hfr10 4; have hf10_5 : w11.frozen? ⟨go10, (x4_1 : Int).toNat * 9 + 5, none⟩ = false := hfr10 5; have hf10_6 : w11.frozen? ⟨go10, (x4_1 : Int).toNat * 9 + 6, none⟩ = false := hfr10 6; have hf10_7 : w11.frozen? ⟨go10, (x4_1 : Int).toNat * 9 + 7, none⟩ = false := hfr10 7; have hf10_8 : w11.frozen? ⟨go10, (x4_1 : Int).toNat * 9 + 8, none⟩ = false := hfr10 8; clear hcl10 hcc10 hfr10 hM10; replace p10 := eq_true p10; replace q10 := eq_true q10; obtain ⟨Ao12, co12, eo12⟩ := Kd.R_slice HO310.out; subst eo12; obtain ⟨Ao13, co13, eo13⟩ := Kd.R_slice HO302.out; subst eo13; obtain ⟨Ao14, co14, eo14⟩ := Kd.R_slice HO298.out; subst eo14; have n_ := Aside0.mk (Kd.S_mono (ok' := (fun k_ => some k_ ≠ (.slice Ao14 t296.length co14 : Value).ownBlock ∧ some k_ ≠ (.slice Ao13 t300.length co13 : Value).ownBlock ∧ some k_ ≠ (.slice Ao12 t308.length co12 : Value).ownBlock)) HO_3.out (fun k_ hk => ⟨hk.1.1.2, ⟨hk.1.2, hk.2⟩⟩)); clear HO_3; have HO_3 := n_; clear n_; have HX15 := Aside0.mk (show Kd.S k43 43 w11 w.heap.size (fun k_ => ((fun _ => True)) k_ ∧ ¬ ((fun k_ => some k_ = (.slice Ao14 t296.length co14 : Value).ownBlock ∨ some k_ = (.slice Ao13 t300.length co13 : Value).ownBlock ∨ some k_ = (.slice Ao12 t308.length co12 : Value).ownBlock)) k_) (.slice (some ⟨go10, 0, none⟩) x3_1.length co10) x3_1 from (by (with_reducible repeat (first | apply Kd.S_alloc | apply Kd.S_drewN | apply Kd.S_drew)); exact Kd.S_mono HO_3.out (fun k_ hk => ⟨trivial, fun e_ => e_.elim (fun h_ => hk.1 h_) (fun h_ => h_.elim (fun h_ => hk.2.1 h_) (fun h_ => hk.2.2 h_))⟩))); obtain ⟨oki15, ce15, hcl15, hM15, hcc15, hfr15, hoki15, hH15⟩ := Kd.S_elem HX15.out z43 (x4_1 : Int) od_ (by have h_ : (x4_1 : Int) < ((x3_1.length : Int) : Int) := od_; first | exact h_ | (have e_ := (Kd.S_reads' HO_3.out).1; omega) | simpa using h_); obtain ⟨ve15_0, ve15_2, ve15_8, rfl, ge15_0, ge15_2, ge15_8⟩ := k43_openM hM15; have HP15 := Kd.S_seg hH15 od_ (by have h_ : (x4_1 : Int) < ((x3_1.length : Int) : Int) := od_; first | exact h_ | (have e_ := (Kd.S_reads' HO_3.out).1; omega) | simpa using h_) (seg := [.slice Ao14 t296.length co14, .int .i64 t299, .slice Ao13 t300.length co13, .int .i64 t303, .int .i64 t304, .int .i64 t305, .int .i64 t306, .int .i64 t307, .slice Ao12 t308.length co12]) (j := 0) (show 9 ≤ 9 from by decide) (x' := (⟨t296, t299, t300, t303, t304, t305, t306, t307, t308⟩ : S43)) (k43_mkM _ _ _ (⟨t296, t299, t300, t303, t304, t305, t306, t307, t308⟩ : S43) (Kd.R_mono (Kd.R_tight rfl (Kd.R_mono (ok' := fun k_ => ((fun _ => True)) k_ ∧ k_ ≠ go10) (Kd.R_apart' (HO298.out) (Kd.S_typed HO_3.out) (by decide)) (fun k_ hk => ⟨trivial, fun e_ => (hk.2) (by rw [e_]; rfl)⟩))) (fun _ h_ => Or.inr (Or.inl h_))) (Kd.R_mono (Kd.R_tight rfl (Kd.R_mono (ok' := fun k_ => ((fun _ => True)) k_ ∧ k_ ≠ go10) (Kd.R_apart' (HO302.out) (Kd.S_typed HO_3.out) (by decide)) (fun k_ hk => ⟨trivial, fun e_ => (hk.2) (by rw [e_]; rfl)⟩))) (fun _ h_ => Or.inr (Or.inr (Or.inl h_)))) (Kd.R_mono (Kd.R_tight rfl (Kd.R_mono (ok' := fun k_ => ((fun _ => True)) k_ ∧ k_ ≠ go10) (Kd.R_apart' (HO310.out) (Kd.S_typed HO_3.out) (by decide)) (fun k_ hk => ⟨trivial, fun e_ => (hk.2) (by rw [e_]; rfl)⟩))) (fun _ h_ => Or.inr (Or.inr (Or.inr (h_)))))) (fun _ hk => hk) (fun k_ hk_ => hk_.elim (fun h_ => ((Kd.R_mono (ok' := fun k_ => ((fun _ => True)) k_ ∧ k_ ≠ go10) (Kd.R_apart' (HO298.out) (Kd.S_typed HO_3.out) (by decide)) (fun k_ hk => ⟨trivial, fun e_ => (hk.2) (by rw [e_]; rfl)⟩))).1 k_ h_.symm) (fun h_ => h_.elim (fun h_ => ((Kd.R_mono (ok' := fun k_ => ((fun _ => True)) k_ ∧ k_ ≠ go10) (Kd.R_apart' (HO302.out) (Kd.S_typed HO_3.out) (by decide)) (fun k_ hk => ⟨trivial, fun e_ => (hk.2) (by rw [e_]; rfl)⟩))).1 k_ h_.symm) (fun h_ => ((Kd.R_mono (ok' := fun k_ => ((fun _ => True)) k_ ∧ k_ ≠ go10) (Kd.R_apart' (HO310.out) (Kd.S_typed HO_3.out) (by decide)) (fun k_ hk => ⟨trivial, fun e_ => (hk.2) (by rw [e_]; rfl)⟩))).1 k_ h_.symm))); have hx15_0 := hcc15 0 _ rfl; (try simp only [show (k43).sz = 9 from rfl, Nat.mul_one, Nat.add_zero] at hx15_0); have hf15_0 := hfr15 0; (try simp only [show (k43).sz = 9 from rfl, Nat.mul_one, Nat.add_zero] at hf15_0); have hx15_1 := hcc15 1 _ rfl; (try simp only [show (k43).sz = 9 from rfl, Nat.mul_one, Nat.add_zero] at hx15_1); have hf15_1 := hfr15 1; (try simp only [show (k43).sz = 9 from rfl, Nat.mul_one, Nat.add_zero] at hf15_1); have hx15_2 := hcc15 2 _ rfl; (try simp only [show (k43).sz = 9 from rfl, Nat.mul_one, Nat.add_zero] at hx15_2); have hf15_2 := hfr15 2; (try simp only [show (k43).sz = 9 from rfl, Nat.mul_one, Nat.add_zero] at hf15_2); have hx15_3 := hcc15 3 _ rfl; (try simp only [show (k43).sz = 9 from rfl, Nat.mul_one, Nat.add_zero] at hx15_3); have hf15_3 := hfr15 3; (try simp only [show (k43).sz = 9 from rfl, Nat.mul_one, Nat.add_zero] at hf15_3); have hx15_4 := hcc15 4 _ rfl; (try simp only [show (k43).sz = 9 from rfl, Nat.mul_one, Nat.add_zero] at hx15_4); have hf15_4 := hfr15 4; (try simp only [show (k43).sz = 9 from rfl, Nat.mul_one, Nat.add_zero] at hf15_4); have hx15_5 := hcc15 5 _ rfl; (try simp only [show (k43).sz = 9 from rfl, Nat.mul_one, Nat.add_zero] at hx15_5); have hf15_5 := hfr15 5; (try simp only [show (k43).sz = 9 from rfl, Nat.mul_one, Nat.add_zero] at hf15_5); have hx15_6 := hcc15 6 _ rfl; (try simp only [show (k43).sz = 9 from rfl, Nat.mul_one, Nat.add_zero] at hx15_6); have hf15_6 := hfr15 6; (try simp only [show (k43).sz = 9 from rfl, Nat.mul_one, Nat.add_zero] at hf15_6); have hx15_7 := hcc15 7 _ rfl; (try simp only [show (k43).sz = 9 from rfl, Nat.mul_one, Nat.add_zero] at hx15_7); have hf15_7 := hfr15 7; (try simp only [show (k43).sz = 9 from rfl, Nat.mul_one, Nat.add_zero] at hf15_7); have hx15_8 := hcc15 8 _ rfl; (try simp only [show (k43).sz = 9 from rfl, Nat.mul_one, Nat.add_zero] at hx15_8); have hf15_8 := hfr15 8; (try simp only [show (k43).sz = 9 from rfl, Nat.mul_one, Nat.add_zero] at hf15_8); clear hcl15 hcc15 hfr15 hM15 hoki15 hH15) | ((with_reducible refine gate_store (t := 43) (p := 21) rfl ?_); refine store_event (t := 43) (p := 21) (v := ?vo_w16) (w1 := (((((((((w11.setCell ⟨go10, (x4_1 : Int).toNat * 9, none⟩ (.slice Ao14 t296.length co14)).setCell ⟨go10, (x4_1 : Int).toNat * 9 + 1, none⟩ (.int .i64 t299)).setCell ⟨go10, (x4_1 : Int).toNat * 9 + 2, none⟩ (.slice Ao13 t300.length co13)).setCell ⟨go10, (x4_1 : Int).toNat * 9 + 3, none⟩ (.int .i64 t303)).setCell ⟨go10, (x4_1 : Int).toNat * 9 + 4, none⟩ (.int .i64 t304)).setCell ⟨go10, (x4_1 : Int).toNat * 9 + 5, none⟩ (.int .i64 t305)).setCell ⟨go10, (x4_1 : Int).toNat * 9 + 6, none⟩ (.int .i64 t306)).setCell ⟨go10, (x4_1 : Int).toNat * 9 + 7, none⟩ (.int .i64 t307)).setCell ⟨go10, (x4_1 : Int).toNat * 9 + 8, none⟩ (.slice Ao12 t308.length co12))) ?hg ?ho ?hn ?hr ?_; (case ho => rfl); (case hg => rfl); (case hn => rfl); (case hr => first | (go_simp; done) | (go_simp; rfl)); intro w16 hw; have hg : w11.grownBy w16 (some go10) := (by rw [hw]; exact HP15.2); have hp_ : Kd.S k43 43 w16 w.heap.size (fun _ => True) (.slice (some ⟨go10, 0, none⟩) x3_1.length co10) y311 := (by rw [hw, Ny311.out]; exact HP15.1); clear HP15; have n0_ := Aside0.mk (hp_); have n1_ := Aside0.mk ((by rw [hw]; exact below_set (below_set (below_set (below_set (below_set (below_set (below_set (below_set (below_set (HB.out) GB10.out) GB10.out) GB10.out) GB10.out) GB10.out) GB10.out) GB10.out) GB10.out) GB10.out : Below w.heap.size w w16)); clear HO_3; clear HB; clear HO298; clear HO302; clear HO310; have HO_3 := n0_; have HB := n1_; clear n0_ n1_; clear hg hw hp_))
        go_roundg k1
        case measure => have := HK1.out; omega
        case rel => exact ⟨(y311), (wrap64 (x4_1 + 1)), sp_, H', ⟨by have := HK1.out; omega⟩, ⟨by (with_reducible repeat (first | apply Kd.S_alloc | apply Kd.S_drewN | apply Kd.S_drew)); exact HO_3.out⟩, ⟨bl_⟩⟩
       ·rw [if_neg c9] at H
        exact absurd H (by simp)
      ·rw [if_neg c7] at H
       exact absurd H (by simp)
     ·rw [if_neg c6] at H
      have c6b0 : decide (x4_1 < (l0.length : Int)) = false := decide_eq_false c6
      clear c6
      obtain rfl := Option.some.inj H
      go_wp2
      go_ret
      exact ⟨_, by first | rfl | (simp [errW_none, errW_some] <;> rfl) | (simp [*, errW_none, errW_some] <;> rfl), by (with_reducible repeat (first | apply Kd.S_alloc | apply Kd.S_drewN | apply Kd.S_drew)); exact HO_3.out, bl_⟩
  ·rw [if_neg c3] at H
   exact absurd H (by simp)
 ·rw [if_neg c2] at H
  exact absurd H (by simp)
/-! ### laws_toWorld: function 6 -/
def laws_toWorld.f (k : Nat) (l0_0 : List (S55)) (a0_1 : Int) (a0_2 : Int) (l0_3 : List (S57)) : Option ((List (S60)) × Int × Int × (List (S43))) := (laws_toStripeS.f k l0_0).bind fun t315 => ((laws_toTaskS.f k l0_3).bind fun t318 => (some (t315, a0_1, a0_2, t318)))
set_option maxHeartbeats 8000000 in
set_option maxRecDepth 100000 in
theorem laws_toWorld.calls (k : Nat) (A0_0 : Option Addr) (c0_0 : Nat) (l0_0 : List (S55)) (a0_1 : Int) (a0_2 : Int) (A0_3 : Option Addr) (c0_3 : Nat) (l0_3 : List (S57)) (r1 : List (S60)) (r2 : Int) (r3 : Int) (r4 : List (S43)) (w : World) (hr0_0 : Kd.C k55 w A0_0 l0_0.length l0_0) (hc0_0 : l0_0.length ≤ c0_0) (hr0_3 : Kd.C k57 w A0_3 l0_3.length l0_3) (hc0_3 : l0_3.length ≤ c0_3) (h : laws_toWorld.f k l0_0 a0_1 a0_2 l0_3 = some (r1, r2, r3, r4)) :
  Calls Try.prog 6 #[.agg #[.slice A0_0 l0_0.length c0_0, .int .i64 a0_1, .int .i64 a0_2, .slice A0_3 l0_3.length c0_3]] w fun e w' => ∃ v0_ v3_ : Value, e = .returned (.agg #[v0_, .int .i64 r2, .int .i64 r3, v3_]) ∧ Kd.R k60 60 w' w.heap.size (fun _ => True) v0_ r1 ∧ Kd.S k43 43 w' w.heap.size (fun _ => True) v3_ r4 ∧ Below w.heap.size w w' := by
 have hu25 := Try.underlying25
 have hu32 := Try.underlying32
 have HR0_0 := Aside0.mk hr0_0
 have HC0_0 := Aside0.mk hc0_0
 clear hr0_0 hc0_0
 have HR0_3 := Aside0.mk hr0_3
 have HC0_3 := Aside0.mk hc0_3
 clear hr0_3 hc0_3
 have HB := Aside0.mk (Below.refl w.heap.size w)
 have H : ((laws_toStripeS.f k l0_0).bind fun t315 => ((laws_toTaskS.f k l0_3).bind fun t318 => (some (t315, a0_1, a0_2, t318)))) = some (r1, r2, r3, r4) := h
 clear h
 obtain ⟨t315, A2, H⟩ := ob_ H
 obtain ⟨t318, A3, H⟩ := ob_ H
 simp only [Option.some.injEq, Prod.mk.injEq] at H
 obtain ⟨rfl, rfl, rfl, rfl⟩ := H
 go_enter Try.func6, Try.ntmps6
 go_wp2_with (first | ((with_reducible refine gate_dst (N := 1) rfl ?_); refine be_ (N := 1) (cs := #[.slice A0_0 l0_0.length c0_0, .int .i64 a0_1, .int .i64 a0_2, .slice A0_3 l0_3.length c0_3]) (t := 25) ?_; intro gb312 hg w4 hbox hb; have BK312 := Aside0.mk (hbox); have GW312 := gw_ (w := w) hg; have GE312 := gw_ (w := w) hg; replace HB := Aside0.mk (below_step bl_ hb); clear hb hbox hg) | ((with_reducible refine gate_dst (N := 2) rfl ?_); refine be_ (N := 2) (cs := #[.slice none 0 0, .int .i64 0, .int .i64 0, .slice none 0 0]) (t := 32) ?_; intro gb313 hg w5 hbox hb; have BK313 := Aside0.mk (hbox); have GW313 := gw_ (w := w) hg; have GE313 := gw_ (w := w) hg; replace HB := Aside0.mk (below_step bl_ hb); have NB312_313 := Aside0.mk ((by rw [hg]; exact Nat.ne_of_lt (blk_lt (bk_ BK312)) : gb312 ≠ gb313)); have NB313_312 := Aside0.mk ((by rw [hg]; exact Nat.ne_of_gt (blk_lt (bk_ BK312)) : gb313 ≠ gb312)); replace BK312 := Aside0.mk (blk_below (bk_ BK312) hb); clear hb hbox hg) | ((with_reducible refine gate_dst (N := 3) rfl ?_); refine be_ (N := 3) (cs := #[.slice none 0 0, .int .i64 0, .int .i64 0, .slice none 0 0]) (t := 32) ?_; intro gb314 hg w6 hbox hb; have BK314 := Aside0.mk (hbox); have GW314 := gw_ (w := w) hg; have GE314 := gw_ (w := w) hg; replace HB := Aside0.mk (below_step bl_ hb); have NB312_314 := Aside0.mk ((by rw [hg]; exact Nat.ne_of_lt (blk_lt (bk_ BK312)) : gb312 ≠ gb314)); have NB314_312 := Aside0.mk ((by rw [hg]; exact Nat.ne_of_gt (blk_lt (bk_ BK312)) : gb314 ≠ gb312)); replace BK312 := Aside0.mk (blk_below (bk_ BK312) hb); have NB313_314 := Aside0.mk ((by rw [hg]; exact Nat.ne_of_lt (blk_lt (bk_ BK313)) : gb313 ≠ gb314)); have NB314_313 := Aside0.mk ((by rw [hg]; exact Nat.ne_of_gt (blk_lt (bk_ BK313)) : gb314 ≠ gb313)); replace BK313 := Aside0.mk (blk_below (bk_ BK313) hb); clear hb hbox hg; have hnb7 := NB312_313.out; have hnc7 := NB313_312.out; have hnb8 := NB312_314.out; have hnc8 := NB314_312.out; obtain ⟨hcz9_0, hcz9_1, hcz9_2, hcz9_3, hfz9_0, hfz9_1, hfz9_2, hfz9_3⟩ := bx4_ BK312) | ((with_reducible refine gate_callee (f := 15) rfl ?_); refine goesL_ (some 6) rfl rfl Try.func15 (by kernel_rfl) rfl #[.slice A0_0 l0_0.length c0_0] rfl gl_ ?_; (with_reducible refine (laws_toStripeS.calls k _ _ l0_0 t315 _ ?side1 ?side2 A2.out).mono ?_); (case side1 => exact ca_ (Kd.C_below HR0_0.out HB.out)); (case side2 => exact HC0_0.out); rintro e w10 ⟨v316, rfl, ho0, hb⟩; refine ⟨_, rfl, ?_⟩; have HO317 := Aside0.mk (Kd.R_lower ho0 (below_size bl_)); replace BK312 := Aside0.mk (blk_below (bk_ BK312) hb); replace BK313 := Aside0.mk (blk_below (bk_ BK313) hb); replace BK314 := Aside0.mk (blk_below (bk_ BK314) hb); replace HB := Aside0.mk (below_step bl_ hb); (try clear hb); (try clear hb2); (try clear hk); (try clear hi); (try clear ho0); obtain ⟨Ao11, co11, eo11⟩ := Kd.R_slice HO317.out; subst eo11; have hnb12 := NB314_313.out; have hnc12 := NB313_314.out; obtain ⟨hcz13_0, hcz13_1, hcz13_2, hcz13_3, hfz13_0, hfz13_1, hfz13_2, hfz13_3⟩ := bx4_ BK314; obtain ⟨hcz14_0, hcz14_1, hcz14_2, hcz14_3, hfz14_0, hfz14_1, hfz14_2, hfz14_3⟩ := bx4_ BK312) | ((with_reducible refine gate_callee (f := 16) rfl ?_); refine goesL_ (some 16) rfl rfl Try.func16 (by kernel_rfl) rfl #[.slice A0_3 l0_3.length c0_3] rfl gl_ ?_; (with_reducible refine (laws_toTaskS.calls k _ _ l0_3 t318 _ ?side1 ?side2 A3.out).mono ?_); (case side1 => exact Kd.C_below HR0_3.out bl_); (case side2 => exact HC0_3.out); rintro e w15 ⟨v319, rfl, ho0, hb⟩; refine ⟨_, rfl, ?_⟩; replace HO317 := Aside0.mk (Kd.R_below (by (with_reducible repeat (first | apply Kd.R_alloc | apply Kd.R_drewN | apply Kd.R_drew)); exact (Kd.R_mono (Kd.R_far (p := ⟨gb314, 2, none⟩) (Kd.R_far (p := ⟨gb314, 1, none⟩) (Kd.R_far (p := ⟨gb314, 0, none⟩) (Kd.R_types HO317.out BK314.out (by decide)) (fun _ hk => hk.2) (.slice Ao11 t315.length co11)) (fun _ hk => hk.2) (.int .i64 a0_1)) (fun _ hk => hk.2) (.int .i64 a0_2)) (fun _ h_ => h_.1))) hb); have HO320 := Aside0.mk (Kd.S_lower ho0 (below_size bl_)); replace BK312 := Aside0.mk (blk_below (g := gb312) (o := .cells #[.slice A0_0 l0_0.length c0_0, .int .i64 a0_1, .int .i64 a0_2, .slice A0_3 l0_3.length c0_3] 25 (0, 0)) (by (with_reducible repeat (first | refine blk_drewN ?_ _ | refine blk_drew ?_ | refine blk_alloc ?_ _)); refine blk_far ?_ NB312_314.out _; (with_reducible repeat (first | refine blk_drewN ?_ _ | refine blk_drew ?_ | refine blk_alloc ?_ _)); refine blk_far ?_ NB312_314.out _; (with_reducible repeat (first | refine blk_drewN ?_ _ | refine blk_drew ?_ | refine blk_alloc ?_ _)); refine blk_far ?_ NB312_314.out _; (with_reducible repeat (first | refine blk_drewN ?_ _ | refine blk_drew ?_ | refine blk_alloc ?_ _)); exact BK312.out) hb); replace BK313 := Aside0.mk (blk_below (g := gb313) (o := .cells #[.slice none 0 0, .int .i64 0, .int .i64 0, .slice none 0 0] 32 (0, 0)) (by (with_reducible repeat (first | refine blk_drewN ?_ _ | refine blk_drew ?_ | refine blk_alloc ?_ _)); refine blk_far ?_ NB313_314.out _; (with_reducible repeat (first | refine blk_drewN ?_ _ | refine blk_drew ?_ | refine blk_alloc ?_ _)); refine blk_far ?_ NB313_314.out _; (with_reducible repeat (first | refine blk_drewN ?_ _ | refine blk_drew ?_ | refine blk_alloc ?_ _)); refine blk_far ?_ NB313_314.out _; (with_reducible repeat (first | refine blk_drewN ?_ _ | refine blk_drew ?_ | refine blk_alloc ?_ _)); exact BK313.out) hb); replace BK314 := Aside0.mk (blk_below (g := gb314) (o := .cells #[.slice Ao11 t315.length co11, .int .i64 a0_1, .int .i64 a0_2, .slice none 0 0] 32 (0, 0)) (by (with_reducible repeat (first | refine blk_drewN ?_ _ | refine blk_drew ?_ | refine blk_alloc ?_ _)); apply bq4_2_1_0_; (with_reducible repeat (first | refine blk_drewN ?_ _ | refine blk_drew ?_ | refine blk_alloc ?_ _)); exact BK314.out) hb); replace HB := Aside0.mk (below_step bl_ hb); (try clear hb); (try clear hb2); (try clear hk); (try clear hi); (try clear ho0); obtain ⟨Ao16, co16, eo16⟩ := Kd.S_slice HO320.out; subst eo16; obtain ⟨hcz17_0, hcz17_1, hcz17_2, hcz17_3, hfz17_0, hfz17_1, hfz17_2, hfz17_3⟩ := bx4_ BK314; obtain ⟨hcz18_0, hcz18_1, hcz18_2, hcz18_3, hfz18_0, hfz18_1, hfz18_2, hfz18_3⟩ := bx4_ BK313))
 refine bodyPost_ret (results_cell_row rfl _ _ gb313 32 #[.slice Ao11 t315.length co11, .int .i64 a0_1, .int .i64 a0_2, .slice Ao16 t318.length co16] (0, 0) _ rfl (by (with_reducible repeat (first | refine blk_drewN ?_ _ | refine blk_drew ?_ | refine blk_alloc ?_ _)); apply bq4_3_2_1_0_; (with_reducible repeat (first | refine blk_drewN ?_ _ | refine blk_drew ?_ | refine blk_alloc ?_ _)); refine blk_far ?_ NB313_314.out _; (with_reducible repeat (first | refine blk_drewN ?_ _ | refine blk_drew ?_ | refine blk_alloc ?_ _)); exact BK313.out) Try.underlying32 rfl (by kernel_rfl)) rfl ?_
 exact ⟨_, _, by first | rfl | (simp [errW_none, errW_some] <;> rfl) | (simp [*, errW_none, errW_some] <;> rfl), by (with_reducible repeat (first | apply Kd.R_alloc | apply Kd.R_drewN | apply Kd.R_drew)); exact Kd.R_mono (Kd.R_far (p := ⟨gb313, 3, none⟩) (Kd.R_far (p := ⟨gb313, 2, none⟩) (Kd.R_far (p := ⟨gb313, 1, none⟩) (Kd.R_far (p := ⟨gb313, 0, none⟩) (Kd.R_far (p := ⟨gb314, 3, none⟩) (Kd.R_types (Kd.R_types HO317.out BK314.out (by decide)) BK313.out (by decide)) (fun _ hk => hk.1.2) (.slice Ao16 t318.length co16)) (fun _ hk => hk.2) (.slice Ao11 t315.length co11)) (fun _ hk => hk.2) (.int .i64 a0_1)) (fun _ hk => hk.2) (.int .i64 a0_2)) (fun _ hk => hk.2) (.slice Ao16 t318.length co16)) (fun _ hk => trivial), by (with_reducible repeat (first | apply Kd.S_alloc | apply Kd.S_drewN | apply Kd.S_drew)); exact Kd.S_mono (Kd.S_far (p := ⟨gb313, 3, none⟩) (Kd.S_far (p := ⟨gb313, 2, none⟩) (Kd.S_far (p := ⟨gb313, 1, none⟩) (Kd.S_far (p := ⟨gb313, 0, none⟩) (Kd.S_far (p := ⟨gb314, 3, none⟩) (Kd.S_types (Kd.S_types HO320.out BK314.out (by decide)) BK313.out (by decide)) (fun _ hk => hk.1.2) (.slice Ao16 t318.length co16)) (fun _ hk => hk.2) (.slice Ao11 t315.length co11)) (fun _ hk => hk.2) (.int .i64 a0_1)) (fun _ hk => hk.2) (.int .i64 a0_2)) (fun _ hk => hk.2) (.slice Ao16 t318.length co16)) (fun _ hk => trivial), bl_⟩
-- NOT PRINTED: function 18 (impl_OrderOf_1)
/-! ### impl_OrderOf: function 7 -/
theorem so_row {e base g n cap : Nat} {ok : Nat → Prop} : ∀ (zs : List Int) (i : Nat) (xs : List Int) (W : World), i + zs.length = n → 
  Kd.R (Kd.int .i64) e W base ok (.slice (some ⟨g, 0, none⟩) n cap) xs → Kd.R (Kd.int .i64) e (W.setCells g i (zs.map (Value.int .i64))) base ok (.slice (some ⟨g, 0, none⟩) n cap) (xs.take i ++ zs) ∧ W.grownBy (W.setCells g i (zs.map (Value.int .i64))) (some g)
 | [], i, xs, W, hi, h => by
  have hn := (Kd.R_reads' h).1
  simp only [List.length_nil] at hi
  rw [List.take_of_length_le (by omega), List.append_nil]
  exact ⟨h, World.grownBy.refl W _⟩
 | z :: zs, i, xs, W, hi, h => by
  have hn := (Kd.R_reads' h).1
  simp only [List.length_cons] at hi
  subst hn
  obtain ⟨h1, g1⟩ := Kd.R_put (enc := Value.int .i64) (h1 := fun _ => rfl) h (i : Int) z
  rw [Int.toNat_natCast] at h1 g1
  obtain ⟨h2, g2⟩ := so_row zs (i + 1) (xs.set i z) _ (by omega) h1
  rw [List.take_succ_eq_append_getElem (by rw [List.length_set]; omega), List.take_set_of_le (Nat.le_refl _), List.getElem_set_self, List.append_assoc, List.singleton_append] at h2
  exact ⟨h2, g1.trans g2⟩
theorem so_holds {W : World} {e base g cap : Nat} {ok : Nat → Prop} {xs : List Int} (h : Kd.R (Kd.int .i64) e W base ok (.slice (some ⟨g, 0, none⟩) xs.length cap) xs) : Sort.Holds (Value.int .i64) W g 0 xs.toArray := by
 intro j hj
 have hj' : j < xs.length := by simpa using hj
 obtain ⟨h1, h2⟩ := Kd.R_cell (enc := Value.int .i64) (h1 := fun _ => rfl) (0 : Int) h (j : Int) (by omega) (by omega)
 rw [Int.toNat_natCast] at h1 h2
 rw [Nat.zero_add]
 refine ⟨h1.trans ?_, h2⟩
 congr 2
 unfold rdOf
 rw [Int.toNat_natCast, List.getD_eq_getElem?_getD, List.getElem?_eq_getElem hj', getElem!_pos xs.toArray j hj]
 simp
theorem so_grow {B : Nat} {w0 W : World} (os : Array Obj) (h : Below B w0 W) (hB : B ≤ W.heap.size) : Below B w0 (Sort.grow W os) :=
 h.trans ⟨rfl, rfl, rfl, by simp [Sort.grow], fun k hk => Sort.heap_grow_old W os (Nat.lt_of_lt_of_le hk hB)⟩
def impl_OrderOf.cl (n : Nat) (x : Int) : Int := if 0 ≤ x ∧ x < (n : Int) then x else 0
/-- By what the tasks are put in order. -/
def impl_OrderOf.key (ts : List S43) (x : Int) : Int := (rd_T43 ts (impl_OrderOf.cl ts.length x)).f5
def impl_OrderOf.cmp (u v : Int) : Int := if u < v then -1 else if u > v then 1 else 0
def impl_OrderOf.cf (ts : List S43) (x y : Int) : Int := impl_OrderOf.cmp (impl_OrderOf.key ts x) (impl_OrderOf.key ts y)
theorem impl_OrderOf.cf_lt (ts : List S43) (x y : Int) : impl_OrderOf.cf ts x y < 0 ↔ impl_OrderOf.key ts x < impl_OrderOf.key ts y := by
 unfold impl_OrderOf.cf impl_OrderOf.cmp
 split
 ·omega
 ·split <;> omega
set_option maxHeartbeats 4000000 in
set_option maxRecDepth 100000 in
theorem impl_OrderOf.clo (ts : List S43) (A0 : Option Addr) (n0 c0 : Nat) (a1 a2 : Int) (A3 : Option Addr) (c3 : Nat) (bx : Nat) (x y : Int) (W : World) (hx0 : 0 ≤ x) (hx1 : x < (ts.length : Int)) (hy0 : 0 ≤ y) (hy1 : y < (ts.length : Int)) (hC : Kd.C k43 W A3 ts.length ts) (hb : W.heap[bx]? = some (.cells #[.slice A0 n0 c0, .int .i64 a1, .int .i64 a2, .slice A3 ts.length c3] 32 (0, 0))) :
  Calls Try.prog 18 #[.int .i64 x, .int .i64 y, .pointer (some ⟨bx, 0, none⟩)] W fun e w' => e = .returned (.int .i64 (impl_OrderOf.cmp (rd_T43 ts x).f5 (rd_T43 ts y).f5)) ∧ ∃ q, w' = W.drewN q := by
 have hu32 := Try.underlying32
 have hu30 := Try.underlying30
 have hu43 := Try.underlying43
 have mixed : Try.prog.follows .mixedOrders = true := by kernel_rfl
 have hc0 := blk_cell hb 0
 have hc1 := blk_cell hb 1
 have hc2 := blk_cell hb 2
 have hc3 := blk_cell hb 3
 replace hc3 := hc3.trans (show _ = some (Value.slice A3 ts.length c3) from rfl)
 clear hc0 hc1 hc2
 obtain ⟨ad, Ax0, cx0, Ax2, cx2, Ax8, cx8, e1, gx0, gx1, gx2, gx3, gx4, gx5, gx6, gx7, gx8, mx0, rx0, mx2, rx2, mx8, rx8⟩ := at_T43 hC x hx0 hx1
 obtain ⟨ad2, Ay0, cy0, Ay2, cy2, Ay8, cy8, e2, gy0, gy1, gy2, gy3, gy4, gy5, gy6, gy7, gy8, my0, ry0, my2, ry2, my8, ry8⟩ := at_T43 hC y hy0 hy1
 cases e1
 cases e2
 have p0 := eq_true hx0
 have p1 := eq_true hx1
 have p2 := eq_true hy0
 have p3 := eq_true hy1
 clear hb hC gx0 gx1 gx2 gx3 gx4 gx6 gx7 gx8 gy0 gy1 gy2 gy3 gy4 gy6 gy7 gy8 mx0 rx0 mx2 rx2 mx8 rx8 my0 ry0 my2 ry2 my8 ry8
 unfold impl_OrderOf.cmp
 obtain ⟨u, hu⟩ : ∃ u, u = (rd_T43 ts x).f5 := ⟨_, rfl⟩
 obtain ⟨v, hv⟩ : ∃ v, v = (rd_T43 ts y).f5 := ⟨_, rfl⟩
 rw [← hu] at gx5
 rw [← hv] at gy5
 rw [← hu, ← hv]
 clear hu hv
 by_cases c1 : u < v
 ·have d1 : decide (u < v) = true := decide_eq_true c1
  rw [if_pos c1]
  clear c1
  go_enter Try.func18, Try.ntmps18
  go_wp2_with fail
  go_big_region_o
  all_goals go_wp2
  go_ret
  exact ⟨rfl, 1, rfl⟩
 ·have d1 : decide (u < v) = false := decide_eq_false c1
  rw [if_neg c1]
  by_cases c2 : u > v
  ·have d2 : decide (v < u) = true := decide_eq_true c2
   have d3 : decide (u > v) = true := decide_eq_true c2
   rw [if_pos c2]
   clear c1 c2
   go_enter Try.func18, Try.ntmps18
   go_wp2_with fail
   go_big_region_o
   all_goals go_wp2
   go_ret
   exact ⟨rfl, 1, rfl⟩
  ·have d2 : decide (v < u) = false := decide_eq_false c2
   have d3 : decide (u > v) = false := decide_eq_false c2
   rw [if_neg c2]
   clear c1 c2
   go_enter Try.func18, Try.ntmps18
   go_wp2_with fail
   go_big_region_o
   all_goals go_wp2
   go_ret
   exact ⟨rfl, 1, rfl⟩
theorem impl_OrderOf.blk {enc : Int → Value} {w : World} {g n m : Nat} {dk : Array Int} {os : Array Obj} (k : Nat) (hk : k ≠ g) (hlt : k < w.heap.size) : (Go.Proofs.sortWorld enc w g n m dk os).heap[k]? = w.heap[k]? := by
 unfold Go.Proofs.sortWorld
 rw [Sort.heap_grow_old _ os (by rw [Go.Proofs.size_putRow]; exact hlt)]
 simp [Sort.putRow, Sort.mapBlock, Array.getElem?_modify, Ne.symm hk, Sort.ahead]
theorem impl_OrderOf.bel {enc : Int → Value} {w0 w : World} {g n m : Nat} {dk : Array Int} {os : Array Obj} (hB : Below w0.heap.size w0 w) (hg : w0.heap.size ≤ g) : Below w0.heap.size w0 (Go.Proofs.sortWorld enc w g n m dk os) :=
 ⟨hB.os, hB.tape, hB.output, Nat.le_trans hB.size (by unfold Go.Proofs.sortWorld; rw [Sort.size_grow, Go.Proofs.size_putRow]; exact Nat.le_add_right _ _), fun k hk => (impl_OrderOf.blk k (by omega) (Nat.lt_of_lt_of_le hk hB.size)).trans (hB.block k hk)⟩
set_option maxHeartbeats 4000000 in
set_option maxRecDepth 100000 in
theorem impl_OrderOf.sort (ts : List S43) (l : List Int) (u : Value) (A0 : Option Addr) (n0 c0 : Nat) (a1 a2 : Int) (A3 : Option Addr) (c3 : Nat) (bx : Nat) (w0 w : World) (hB : Below w0.heap.size w0 w) (ho : Kd.R (Kd.int .i64) 3 w w0.heap.size (fun _ => True) u l) (hr3 : Kd.C k43 w0 A3 ts.length ts) (hbx : w.heap[bx]? = some (.cells #[.slice A0 n0 c0, .int .i64 a1, .int .i64 a2, .slice A3 ts.length c3] 32 (0, 0))) (hv : ∀ x ∈ l, 0 ≤ x ∧ x < (ts.length : Int)) (hi : l.Pairwise (· < ·)) (hl : l.length < 1152921504606846976) :
  Calls Try.prog 17 #[u, .func (.func 18) #[] #[.pointer (some ⟨bx, 0, none⟩)]] w fun e w' => e = .returned (.tuple #[]) ∧ Kd.R (Kd.int .i64) 3 w' w0.heap.size (fun _ => True) u (Go.Proofs.Ytbjpfknmkpnhjaa.StableSort.insAll (impl_OrderOf.key ts) [] l) ∧ Below w0.heap.size w0 w' := by
 by_cases hp : 0 < l.length
 ·obtain ⟨g, cap, rfl, hb, hlt, cells, hcells⟩ := Kd.R_form ho hp
  have hN : 0 < (ts.length : Int) := by
   have := hv l[0] (List.getElem_mem hp)
   omega
  have hne : bx ≠ g := by
   rintro rfl
   rw [hbx] at hcells
   injection hcells with h1
   injection h1 with _ h1
   exact absurd h1 (by decide)
  have hcl : ∀ x : Int, 0 ≤ impl_OrderOf.cl ts.length x ∧ impl_OrderOf.cl ts.length x < (ts.length : Int) := fun x => by
   unfold impl_OrderOf.cl
   split <;> omega
  have hid : ∀ x ∈ l, impl_OrderOf.cl ts.length x = x := fun x hx => by
   unfold impl_OrderOf.cl
   rw [if_pos (hv x hx)]
  obtain ⟨enc, henc⟩ : ∃ enc : Int → Value, enc = fun x => Value.int .i64 (impl_OrderOf.cl ts.length x) := ⟨_, rfl⟩
  have hH : Sort.Holds enc w g 0 l.toArray := fun j hj => by
   have h := so_holds ho j hj
   have hj' : j < l.length := by simpa using hj
   refine ⟨h.1.trans ?_, h.2⟩
   rw [henc, getElem!_pos l.toArray j hj]
   have := hid l[j] (List.getElem_mem hj')
   simp [this]
  have R : Go.Proofs.Row1 enc w g 0 l.toArray := ⟨fun x => by rw [henc]; rfl, hH, hlt⟩
  have hbl : bx < w.heap.size := blk_lt hbx
  have hcmp : Go.Proofs.CmpLays1 Try.prog 18 #[.pointer (some ⟨bx, 0, none⟩)] enc (impl_OrderOf.cf ts) g 0 l.toArray.size w := fun m os dk hs x y => by
   have h := impl_OrderOf.clo ts A0 n0 c0 a1 a2 A3 c3 bx (impl_OrderOf.cl ts.length x) (impl_OrderOf.cl ts.length y) (Go.Proofs.sortWorld enc w g 0 m dk os) (hcl x).1 (hcl x).2 (hcl y).1 (hcl y).2 (Kd.C_below hr3 (impl_OrderOf.bel hB hb)) ((impl_OrderOf.blk bx hne hbl).trans hbx)
   rw [henc] at h ⊢
   refine Calls.mono h ?_
   rintro e w' ⟨rfl, q, rfl⟩
   exact ⟨rfl, q, #[], by rw [Sort.grow_empty]⟩
  have eg : ∀ args w, (callFunc 18 args).run Try.prog w = .ok (.enter 18 args) w := enters_of Try.func18 (by kernel_rfl) rfl
  have hk := Go.Proofs.Ytbjpfknmkpnhjaa.StableSort.sortStable enc (impl_OrderOf.key ts) (impl_OrderOf.cf ts) (impl_OrderOf.cf_lt ts) 18 #[.pointer (some ⟨bx, 0, none⟩)] g 0 cap l.toArray w eg hcmp R (Go.Proofs.Ytbjpfknmkpnhjaa.StableSort.st_inc _ l hi) (by simpa using hl)
  have hsz : l.toArray.size = l.length := by simp
  rw [hsz] at hk
  refine Calls.mono hk ?_
  rintro e w' ⟨rfl, d', hS, hz, hD⟩
  have hd := Go.Proofs.Ytbjpfknmkpnhjaa.StableSort.sorted_is (impl_OrderOf.key ts) l d' hi hD
  obtain ⟨_, hperm⟩ := Go.Proofs.Ytbjpfknmkpnhjaa.StableSort.insAll_spec (impl_OrderOf.key ts) l [] List.Pairwise.nil (fun j hj => by simp at hj) hi
  rw [List.nil_append] at hperm
  obtain ⟨q, os, rfl⟩ := hS
  have hda : d' = (Go.Proofs.Ytbjpfknmkpnhjaa.StableSort.insAll (impl_OrderOf.key ts) [] l).toArray := by rw [← hd]
  have hlen := hperm.length_eq
  have hmap : (Go.Proofs.Ytbjpfknmkpnhjaa.StableSort.insAll (impl_OrderOf.key ts) [] l).map enc = (Go.Proofs.Ytbjpfknmkpnhjaa.StableSort.insAll (impl_OrderOf.key ts) [] l).map (Value.int .i64) := by
   rw [henc]
   refine List.map_congr_left (fun x hx => ?_)
   rw [hid x (hperm.mem_iff.1 hx)]
  rw [hda]
  unfold Go.Proofs.sortWorld
  rw [Lib.sorted_world enc w g 0 q l.toArray _ os hH (by simpa using hlen), hmap]
  obtain ⟨h1, g1⟩ := so_row (Go.Proofs.Ytbjpfknmkpnhjaa.StableSort.insAll (impl_OrderOf.key ts) [] l) 0 l (w.drewN q) (by omega) (Kd.R_drewN ho q)
  rw [List.take_zero, List.nil_append] at h1
  have gb : Below ((w.drewN q).setCells g 0 ((Go.Proofs.Ytbjpfknmkpnhjaa.StableSort.insAll (impl_OrderOf.key ts) [] l).map (Value.int .i64))).heap.size _ (Sort.grow _ os) := so_grow os (Below.refl _ _) (Nat.le_refl _)
  have hbq : Below w0.heap.size w0 (w.drewN q) := pw_below_drewN hB q
  have hb2 := hbq.grown g1 hbq.size (fun k hk => by cases hk; exact hb)
  exact ⟨rfl, Kd.R_below h1 gb, below_then hb2 hb2.size gb⟩
 ·have hnil : l = [] := List.eq_nil_of_length_eq_zero (by omega)
  subst hnil
  obtain ⟨A1, c1, rfl, _, _⟩ := Kd.R_reads ho
  refine Calls.mono (Go.Proofs.Ytbjpfknmkpnhjaa.StableSort.none17 A1 c1 _ w : Calls Try.prog 17 #[.slice A1 0 c1, _] w _) ?_
  rintro e w' ⟨rfl, rfl⟩
  exact ⟨rfl, by simpa [Go.Proofs.Ytbjpfknmkpnhjaa.StableSort.insAll] using ho, hB⟩
def impl_OrderOf.l0 : Nat → List Int → List (S43) → Int → Int → Option (List Int)
 | 0, _, _, _, _ => none
 | k + 1, x3, x8, x9, x10 => if x10 < x9 then (if 0 ≤ x10 then (if x10 < (x8.length : Int) then (if ((rd_T43 x8 x10).f5) = (-1) then (impl_OrderOf.l0 k x3 x8 x9 (wrap64 (x10 + 1))) else (if x3.length < 17592186044416 then (impl_OrderOf.l0 k (x3 ++ [x10]) x8 x9 (wrap64 (x10 + 1))) else (none))) else (none)) else (none)) else (some x3)
def impl_OrderOf.f (k : Nat) (l0_0 : List (S60)) (a0_1 : Int) (a0_2 : Int) (l0_3 : List (S43)) : Option (List Int) := (impl_OrderOf.l0 k (([] : List Int)) l0_3 (l0_3.length : Int) 0).bind fun l => if (∀ x ∈ l, 0 ≤ x ∧ x < (l0_3.length : Int)) ∧ l.Pairwise (· < ·) ∧ l.length < 1152921504606846976 then some (Go.Proofs.Ytbjpfknmkpnhjaa.StableSort.insAll (impl_OrderOf.key l0_3) [] l) else none
set_option maxHeartbeats 8000000 in
set_option maxRecDepth 100000 in
theorem impl_OrderOf.calls (k : Nat) (A0_0 : Option Addr) (c0_0 : Nat) (l0_0 : List (S60)) (a0_1 : Int) (a0_2 : Int) (A0_3 : Option Addr) (c0_3 : Nat) (l0_3 : List (S43)) (r : List Int) (w : World) (hr0_0 : Kd.C k60 w A0_0 l0_0.length l0_0) (hc0_0 : l0_0.length ≤ c0_0) (hr0_3 : Kd.C k43 w A0_3 l0_3.length l0_3) (hc0_3 : l0_3.length ≤ c0_3) (h : impl_OrderOf.f k l0_0 a0_1 a0_2 l0_3 = some r) :
  Calls Try.prog 7 #[.agg #[.slice A0_0 l0_0.length c0_0, .int .i64 a0_1, .int .i64 a0_2, .slice A0_3 l0_3.length c0_3]] w fun e w' => ∃ v0_ : Value, e = .returned (v0_) ∧ Kd.R (Kd.int .i64) 3 w' w.heap.size (fun _ => True) v0_ r ∧ Below w.heap.size w w' := by
 have hu32 := Try.underlying32
 have hu43 := Try.underlying43
 have HR0_0 := Aside0.mk hr0_0
 have HC0_0 := Aside0.mk hc0_0
 clear hr0_0 hc0_0
 have HR0_3 := Aside0.mk hr0_3
 have HC0_3 := Aside0.mk hc0_3
 clear hr0_3 hc0_3
 have HB := Aside0.mk (Below.refl w.heap.size w)
 obtain ⟨lx_, h, hx_⟩ := Option.bind_eq_some_iff.1 h
 have HX := Aside0.mk hx_
 clear hx_
 have H : (impl_OrderOf.l0 k (([] : List Int)) l0_3 (l0_3.length : Int) 0) = some lx_ := h
 clear h
 obtain ⟨y322, hy322⟩ : ∃ y_ : List Int, y_ = (([] : List Int)) := ⟨_, rfl⟩
 replace H : (impl_OrderOf.l0 k y322 l0_3 (l0_3.length : Int) 0) = some lx_ := by first | (rw [hy322]; with_reducible exact H) | (have H2_ := (Option.bind_some _ _).symm.trans H; rw [hy322]; with_reducible exact H2_) | (have H2_ := (Option.bind_some _ _).symm.trans H; with_reducible exact H2_) | with_reducible exact H | (rw [hy322]; exact H) | exact H
 have Ny322 := Aside0.mk hy322
 clear hy322
 have H' := Aside0.mk H
 clear H
 go_enter Try.func7, Try.ntmps7
 go_wp2_with (first | ((with_reducible refine gate_dst (N := 1) rfl ?_); refine be_ (N := 1) (cs := #[.slice A0_0 l0_0.length c0_0, .int .i64 a0_1, .int .i64 a0_2, .slice A0_3 l0_3.length c0_3]) (t := 32) ?_; intro gb321 hg w2 hbox hb; have BK321 := Aside0.mk (hbox); have GW321 := gw_ (w := w) hg; have GE321 := gw_ (w := w) hg; replace HB := Aside0.mk (below_step bl_ hb); clear hb hbox hg) | ((with_reducible refine gate_dst (N := 6) rfl ?_); refine Kd.R_lit (Kd.int .i64) _ 3 ?hg (N := 6) ?hd (xs := ([] : List Int)) (inner := []) (ok := fun _ => True) (okp := fun _ => True) ?hr ?hp (fun _ hk => hk) trivial (Below.refl _ _) (Nat.le_refl _) (by simp) ?_; (case hd => rfl); (case hg => rfl); (case hr => first | (go_simp; done) | (go_simp; rfl)); (case hp => exact (Reps.none _ _)); intro v323 w3 ho4 hb hg_ hnew_; clear hg_ hnew_; (first | rw [← Ny322.out] at ho4 | (simp only [Int.reduceToNat] at ho4; rw [← Ny322.out] at ho4)); have HO324 := Aside0.mk (Kd.R_lower ho4 (below_size bl_)); replace BK321 := Aside0.mk (blk_below (bk_ BK321) hb); replace HB := Aside0.mk (below_step bl_ hb); clear hb ho4; obtain ⟨hcz5_0, hcz5_1, hcz5_2, hcz5_3, hfz5_0, hfz5_1, hfz5_2, hfz5_3⟩ := bx4_ BK321))
 go_loopg [3, 10] k (fun kq v3 v10 w' => ∃ (x3_1 : List Int) (x10_1 : Int), v10 = .int .i64 x10_1 ∧ Aside0 (impl_OrderOf.l0 kq x3_1 l0_3 (l0_3.length : Int) x10_1 = some lx_) ∧ Aside0 (kq ≤ k) ∧ Aside0 (Kd.R (Kd.int .i64) 3 w' w.heap.size (fun _ => True) v3 x3_1) ∧ Aside0 (w'.heap[gb321]? = some (.cells #[(.slice A0_0 l0_0.length c0_0), .int .i64 a0_1, .int .i64 a0_2, (.slice A0_3 l0_3.length c0_3)] 32 (0, 0))) ∧ Aside0 (Below w.heap.size w w'))
 case atStart => exact ⟨(y322), (0), sp_, H', ⟨Nat.le_refl _⟩, ⟨ra_ HO324⟩, ⟨by (with_reducible repeat (first | refine blk_drewN ?_ _ | refine blk_drew ?_ | refine blk_alloc ?_ _)); exact BK321.out⟩, ⟨bl_⟩⟩
 case round =>
  clear H'
  try clear p2
  try clear hcz5_0
  try clear hcz5_1
  try clear hcz5_2
  try clear hcz5_3
  try clear hfz5_0
  try clear hfz5_1
  try clear hfz5_2
  try clear hfz5_3
  obtain ⟨x3_1, x10_1, rfl, HA, HK1, HO_3, BK321, HB⟩ := hrel
  cases gk with
  | zero => exact absurd HA.out (by simp [impl_OrderOf.l0])
  | succ k1 =>
   have H := HA.out
   clear HA
   simp only [impl_OrderOf.l0] at H
   by_cases c6 : x10_1 < (l0_3.length : Int)
   ·rw [if_pos c6] at H
    have c6b0 : decide (x10_1 < (l0_3.length : Int)) = true := decide_eq_true c6
    clear c6
    by_cases c7 : 0 ≤ x10_1
    ·rw [if_pos c7] at H
     have c7b0 : decide (0 ≤ x10_1) = true := decide_eq_true c7
     clear c7
     by_cases c8 : x10_1 < (l0_3.length : Int)
     ·rw [if_pos c8] at H
      have c8b0 : decide (x10_1 < (l0_3.length : Int)) = true := decide_eq_true c8
      clear c8
      by_cases c9 : ((rd_T43 l0_3 x10_1).f5) = (-1)
      ·rw [if_pos c9] at H
       have c9b0 : (((rd_T43 l0_3 x10_1).f5) == (-1)) = true := beq_iff_eq.mpr c9
       have c9b1 : (((rd_T43 l0_3 x10_1).f5) != (-1)) = false := bne_eq_false_iff_eq.mpr c9
       clear c9
       have H' := Aside0.mk H
       clear H
       have p325 : 0 ≤ (x10_1 : Int) := od_
       have q325 : x10_1 < (l0_3.length : Int) := od_
       obtain ⟨ad325, A325_0, c325_0, A325_2, c325_2, A325_8, c325_8, e325, hx325_0, hx325_1, hx325_2, hx325_3, hx325_4, hx325_5, hx325_6, hx325_7, hx325_8, hl325_0, hi325_0, hl325_2, hi325_2, hl325_8, hi325_8⟩ := at_T43 HR0_3.out x10_1 p325 q325
       cases e325
       replace hx325_0 := kc_ HB hx325_0
       replace hx325_1 := kc_ HB hx325_1
       replace hx325_2 := kc_ HB hx325_2
       replace hx325_3 := kc_ HB hx325_3
       replace hx325_4 := kc_ HB hx325_4
       replace hx325_5 := kc_ HB hx325_5
       replace hx325_6 := kc_ HB hx325_6
       replace hx325_7 := kc_ HB hx325_7
       replace hx325_8 := kc_ HB hx325_8
       have HR325_0 := Aside0.mk hi325_0
       have HC325_0 := Aside0.mk hl325_0
       clear hi325_0 hl325_0
       have HR325_2 := Aside0.mk hi325_2
       have HC325_2 := Aside0.mk hl325_2
       clear hi325_2 hl325_2
       have HR325_8 := Aside0.mk hi325_8
       have HC325_8 := Aside0.mk hl325_8
       clear hi325_8 hl325_8
       replace p325 := eq_true p325
       replace q325 := eq_true q325
       go_wp2_with (first | ((with_reducible refine gate_dst (N := 5) rfl ?_); refine be_ (N := 5) (cs := #[.slice none 0 0, .int .i64 0, .slice none 0 0, .int .i64 0, .int .i64 0, .int .i64 0, .int .i64 0, .int .i64 0, .slice none 0 0]) (t := 43) ?_; intro gb326 hg w10 hbox hb; replace HO_3 := Aside0.mk (Kd.R_below (ra_ HO_3) hb); have BK326 := Aside0.mk (hbox); have GW326 := gw_ (w := w) hg; have GE326 := gw_ (w := w) hg; replace HB := Aside0.mk (below_step bl_ hb); have NB321_326 := Aside0.mk ((by rw [hg]; exact Nat.ne_of_lt (blk_lt (bk_ BK321)) : gb321 ≠ gb326)); have NB326_321 := Aside0.mk ((by rw [hg]; exact Nat.ne_of_gt (blk_lt (bk_ BK321)) : gb326 ≠ gb321)); replace BK321 := Aside0.mk (blk_below (bk_ BK321) hb); clear hb hbox hg; have hnb11 := NB326_321.out; have hnc11 := NB321_326.out; obtain ⟨hcz12_0, hcz12_1, hcz12_2, hcz12_3, hcz12_4, hcz12_5, hcz12_6, hcz12_7, hcz12_8, hfz12_0, hfz12_1, hfz12_2, hfz12_3, hfz12_4, hfz12_5, hfz12_6, hfz12_7, hfz12_8⟩ := bx9_ BK326))
       go_roundg k1
       case measure => have := HK1.out; omega
       case rel => exact ⟨(x3_1), (wrap64 (x10_1 + 1)), sp_, H', ⟨by have := HK1.out; omega⟩, ⟨by (with_reducible repeat (first | apply Kd.R_alloc | apply Kd.R_drewN | apply Kd.R_drew)); exact Kd.R_mono (Kd.R_far (p := ⟨gb326, 8, none⟩) (Kd.R_far (p := ⟨gb326, 7, none⟩) (Kd.R_far (p := ⟨gb326, 6, none⟩) (Kd.R_far (p := ⟨gb326, 5, none⟩) (Kd.R_far (p := ⟨gb326, 4, none⟩) (Kd.R_far (p := ⟨gb326, 3, none⟩) (Kd.R_far (p := ⟨gb326, 2, none⟩) (Kd.R_far (p := ⟨gb326, 1, none⟩) (Kd.R_far (p := ⟨gb326, 0, none⟩) (Kd.R_types HO_3.out BK326.out (by decide)) (fun _ hk => hk.2) (.slice A325_0 ((rd_T43 l0_3 x10_1).f0).length c325_0)) (fun _ hk => hk.2) (.int .i64 ((rd_T43 l0_3 x10_1).f1))) (fun _ hk => hk.2) (.slice A325_2 ((rd_T43 l0_3 x10_1).f2).length c325_2)) (fun _ hk => hk.2) (.int .i64 ((rd_T43 l0_3 x10_1).f3))) (fun _ hk => hk.2) (.int .i64 ((rd_T43 l0_3 x10_1).f4))) (fun _ hk => hk.2) (.int .i64 ((rd_T43 l0_3 x10_1).f5))) (fun _ hk => hk.2) (.int .i64 ((rd_T43 l0_3 x10_1).f6))) (fun _ hk => hk.2) (.int .i64 ((rd_T43 l0_3 x10_1).f7))) (fun _ hk => hk.2) (.slice A325_8 ((rd_T43 l0_3 x10_1).f8).length c325_8)) (fun _ hk => trivial)⟩, ⟨by (with_reducible repeat (first | refine blk_drewN ?_ _ | refine blk_drew ?_ | refine blk_alloc ?_ _)); refine blk_far ?_ NB321_326.out _; (with_reducible repeat (first | refine blk_drewN ?_ _ | refine blk_drew ?_ | refine blk_alloc ?_ _)); refine blk_far ?_ NB321_326.out _; (with_reducible repeat (first | refine blk_drewN ?_ _ | refine blk_drew ?_ | refine blk_alloc ?_ _)); refine blk_far ?_ NB321_326.out _; (with_reducible repeat (first | refine blk_drewN ?_ _ | refine blk_drew ?_ | refine blk_alloc ?_ _)); refine blk_far ?_ NB321_326.out _; (with_reducible repeat (first | refine blk_drewN ?_ _ | refine blk_drew ?_ | refine blk_alloc ?_ _)); refine blk_far ?_ NB321_326.out _; (with_reducible repeat (first | refine blk_drewN ?_ _ | refine blk_drew ?_ | refine blk_alloc ?_ _)); refine blk_far ?_ NB321_326.out _; (with_reducible repeat (first | refine blk_drewN ?_ _ | refine blk_drew ?_ | refine blk_alloc ?_ _)); refine blk_far ?_ NB321_326.out _; (with_reducible repeat (first | refine blk_drewN ?_ _ | refine blk_drew ?_ | refine blk_alloc ?_ _)); refine blk_far ?_ NB321_326.out _; (with_reducible repeat (first | refine blk_drewN ?_ _ | refine blk_drew ?_ | refine blk_alloc ?_ _)); refine blk_far ?_ NB321_326.out _; (with_reducible repeat (first | refine blk_drewN ?_ _ | refine blk_drew ?_ | refine blk_alloc ?_ _)); exact BK321.out⟩, ⟨bl_⟩⟩
      ·rw [if_neg c9] at H
       have c9b0 : (((rd_T43 l0_3 x10_1).f5) == (-1)) = false := beq_eq_false_iff_ne.mpr c9
       have c9b1 : (((rd_T43 l0_3 x10_1).f5) != (-1)) = true := bne_iff_ne.mpr c9
       by_cases c13 : x3_1.length < 17592186044416
       ·rw [if_pos c13] at H
        have LMc13 := Aside0.mk c13
        clear c13
        obtain ⟨y327, hy327⟩ : ∃ y_ : List Int, y_ = (x3_1 ++ [x10_1]) := ⟨_, rfl⟩
        replace H : (impl_OrderOf.l0 k1 y327 l0_3 (l0_3.length : Int) (wrap64 (x10_1 + 1))) = some lx_ := by first | (rw [hy327]; with_reducible exact H) | (have H2_ := (Option.bind_some _ _).symm.trans H; rw [hy327]; with_reducible exact H2_) | (have H2_ := (Option.bind_some _ _).symm.trans H; with_reducible exact H2_) | with_reducible exact H | (rw [hy327]; exact H) | exact H
        have Ny327 := Aside0.mk hy327
        clear hy327
        have H' := Aside0.mk H
        clear H
        have p325 : 0 ≤ (x10_1 : Int) := od_
        have q325 : x10_1 < (l0_3.length : Int) := od_
        obtain ⟨ad325, A325_0, c325_0, A325_2, c325_2, A325_8, c325_8, e325, hx325_0, hx325_1, hx325_2, hx325_3, hx325_4, hx325_5, hx325_6, hx325_7, hx325_8, hl325_0, hi325_0, hl325_2, hi325_2, hl325_8, hi325_8⟩ := at_T43 HR0_3.out x10_1 p325 q325
        cases e325
        replace hx325_0 := kc_ HB hx325_0
        replace hx325_1 := kc_ HB hx325_1
        replace hx325_2 := kc_ HB hx325_2
        replace hx325_3 := kc_ HB hx325_3
        replace hx325_4 := kc_ HB hx325_4
        replace hx325_5 := kc_ HB hx325_5
        replace hx325_6 := kc_ HB hx325_6
        replace hx325_7 := kc_ HB hx325_7
        replace hx325_8 := kc_ HB hx325_8
        have HR325_0 := Aside0.mk hi325_0
        have HC325_0 := Aside0.mk hl325_0
        clear hi325_0 hl325_0
        have HR325_2 := Aside0.mk hi325_2
        have HC325_2 := Aside0.mk hl325_2
        clear hi325_2 hl325_2
        have HR325_8 := Aside0.mk hi325_8
        have HC325_8 := Aside0.mk hl325_8
        clear hi325_8 hl325_8
        replace p325 := eq_true p325
        replace q325 := eq_true q325
        go_wp2_with (first | ((with_reducible refine gate_dst (N := 5) rfl ?_); refine be_ (N := 5) (cs := #[.slice none 0 0, .int .i64 0, .slice none 0 0, .int .i64 0, .int .i64 0, .int .i64 0, .int .i64 0, .int .i64 0, .slice none 0 0]) (t := 43) ?_; intro gb326 hg w14 hbox hb; replace HO_3 := Aside0.mk (Kd.R_below (ra_ HO_3) hb); have BK326 := Aside0.mk (hbox); have GW326 := gw_ (w := w) hg; have GE326 := gw_ (w := w) hg; replace HB := Aside0.mk (below_step bl_ hb); have NB321_326 := Aside0.mk ((by rw [hg]; exact Nat.ne_of_lt (blk_lt (bk_ BK321)) : gb321 ≠ gb326)); have NB326_321 := Aside0.mk ((by rw [hg]; exact Nat.ne_of_gt (blk_lt (bk_ BK321)) : gb326 ≠ gb321)); replace BK321 := Aside0.mk (blk_below (bk_ BK321) hb); clear hb hbox hg; have hnb15 := NB326_321.out; have hnc15 := NB321_326.out; obtain ⟨hcz16_0, hcz16_1, hcz16_2, hcz16_3, hcz16_4, hcz16_5, hcz16_6, hcz16_7, hcz16_8, hfz16_0, hfz16_1, hfz16_2, hfz16_3, hfz16_4, hfz16_5, hfz16_6, hfz16_7, hfz16_8⟩ := bx9_ BK326) | ((with_reducible refine gate_builtin (b := .append) (xs := #[.tmp 18, .tmp 20]) rfl ?_); at_builtin; refine Kd.R_append (Kd.int .i64) (w0 := w) w.heap.size rfl (.tmp 18) (.tmp 20) 27 3 (.int .i64 0) 8 rfl Try.underlying27 info3 rfl (by decide) (by omega) u3 x3_1 x10_1 [.int .i64 x10_1] (fun _ => True) (fun _ => False) rfl (by first | (go_simp; done) | (go_simp; rfl)) ?aP (fun _ hk => hk.elim) ?aF ?aO ?aB ?aS ?aL ?_; (case aP => exact rfl); (case aB => exact bl_); (case aF => exact (fun _ _ => trivial)); (case aO => exact (by (with_reducible repeat (first | apply Kd.R_alloc | apply Kd.R_drewN | apply Kd.R_drew)); exact Kd.R_mono (Kd.R_far (p := ⟨gb326, 8, none⟩) (Kd.R_far (p := ⟨gb326, 7, none⟩) (Kd.R_far (p := ⟨gb326, 6, none⟩) (Kd.R_far (p := ⟨gb326, 5, none⟩) (Kd.R_far (p := ⟨gb326, 4, none⟩) (Kd.R_far (p := ⟨gb326, 3, none⟩) (Kd.R_far (p := ⟨gb326, 2, none⟩) (Kd.R_far (p := ⟨gb326, 1, none⟩) (Kd.R_far (p := ⟨gb326, 0, none⟩) (Kd.R_types HO_3.out BK326.out (by decide)) (fun _ hk => hk.2) (.slice A325_0 ((rd_T43 l0_3 x10_1).f0).length c325_0)) (fun _ hk => hk.2) (.int .i64 ((rd_T43 l0_3 x10_1).f1))) (fun _ hk => hk.2) (.slice A325_2 ((rd_T43 l0_3 x10_1).f2).length c325_2)) (fun _ hk => hk.2) (.int .i64 ((rd_T43 l0_3 x10_1).f3))) (fun _ hk => hk.2) (.int .i64 ((rd_T43 l0_3 x10_1).f4))) (fun _ hk => hk.2) (.int .i64 ((rd_T43 l0_3 x10_1).f5))) (fun _ hk => hk.2) (.int .i64 ((rd_T43 l0_3 x10_1).f6))) (fun _ hk => hk.2) (.int .i64 ((rd_T43 l0_3 x10_1).f7))) (fun _ hk => hk.2) (.slice A325_8 ((rd_T43 l0_3 x10_1).f8).length c325_8)) (fun _ hk => trivial))); (case aS => exact (below_size bl_)); (case aL => have := LMc13.out; omega); intro v328 w17 ho hb hg hat; rw [← Ny327.out] at ho; have n0_ := Aside0.mk (blk_grown (g := gb321) (o := .cells #[.slice A0_0 l0_0.length c0_0, .int .i64 a0_1, .int .i64 a0_2, .slice (some ad325) l0_3.length c0_3] 32 (0, 0)) (by (with_reducible repeat (first | refine blk_drewN ?_ _ | refine blk_drew ?_ | refine blk_alloc ?_ _)); refine blk_far ?_ NB321_326.out _; (with_reducible repeat (first | refine blk_drewN ?_ _ | refine blk_drew ?_ | refine blk_alloc ?_ _)); refine blk_far ?_ NB321_326.out _; (with_reducible repeat (first | refine blk_drewN ?_ _ | refine blk_drew ?_ | refine blk_alloc ?_ _)); refine blk_far ?_ NB321_326.out _; (with_reducible repeat (first | refine blk_drewN ?_ _ | refine blk_drew ?_ | refine blk_alloc ?_ _)); refine blk_far ?_ NB321_326.out _; (with_reducible repeat (first | refine blk_drewN ?_ _ | refine blk_drew ?_ | refine blk_alloc ?_ _)); refine blk_far ?_ NB321_326.out _; (with_reducible repeat (first | refine blk_drewN ?_ _ | refine blk_drew ?_ | refine blk_alloc ?_ _)); refine blk_far ?_ NB321_326.out _; (with_reducible repeat (first | refine blk_drewN ?_ _ | refine blk_drew ?_ | refine blk_alloc ?_ _)); refine blk_far ?_ NB321_326.out _; (with_reducible repeat (first | refine blk_drewN ?_ _ | refine blk_drew ?_ | refine blk_alloc ?_ _)); refine blk_far ?_ NB321_326.out _; (with_reducible repeat (first | refine blk_drewN ?_ _ | refine blk_drew ?_ | refine blk_alloc ?_ _)); refine blk_far ?_ NB321_326.out _; (with_reducible repeat (first | refine blk_drewN ?_ _ | refine blk_drew ?_ | refine blk_alloc ?_ _)); exact BK321.out) hg (Kd.R_ne HO_3.out BK321.out (by decide))); have n1_ := Aside0.mk (blk_grown (g := gb326) (o := .cells #[.slice A325_0 ((rd_T43 l0_3 x10_1).f0).length c325_0, .int .i64 ((rd_T43 l0_3 x10_1).f1), .slice A325_2 ((rd_T43 l0_3 x10_1).f2).length c325_2, .int .i64 ((rd_T43 l0_3 x10_1).f3), .int .i64 ((rd_T43 l0_3 x10_1).f4), .int .i64 ((rd_T43 l0_3 x10_1).f5), .int .i64 ((rd_T43 l0_3 x10_1).f6), .int .i64 ((rd_T43 l0_3 x10_1).f7), .slice A325_8 ((rd_T43 l0_3 x10_1).f8).length c325_8] 43 (0, 0)) (by (with_reducible repeat (first | refine blk_drewN ?_ _ | refine blk_drew ?_ | refine blk_alloc ?_ _)); apply bq9_8_7_6_5_4_3_2_1_0_; (with_reducible repeat (first | refine blk_drewN ?_ _ | refine blk_drew ?_ | refine blk_alloc ?_ _)); exact BK326.out) hg (Kd.R_ne HO_3.out BK326.out (by decide))); have n2_ := Aside0.mk (hb); have n3_ := Aside0.mk (ho); clear BK321; clear BK326; clear HB; clear HO_3; have BK321 := n0_; have BK326 := n1_; have HB := n2_; have HO329 := n3_; clear n0_ n1_ n2_ n3_; clear ho hb hg hat))
        go_roundg k1
        case measure => have := HK1.out; omega
        case rel => exact ⟨(y327), (wrap64 (x10_1 + 1)), sp_, H', ⟨by have := HK1.out; omega⟩, ⟨ra_ HO329⟩, ⟨by (with_reducible repeat (first | refine blk_drewN ?_ _ | refine blk_drew ?_ | refine blk_alloc ?_ _)); exact BK321.out⟩, ⟨bl_⟩⟩
       ·rw [if_neg c13] at H
        exact absurd H (by simp)
     ·rw [if_neg c8] at H
      exact absurd H (by simp)
    ·rw [if_neg c7] at H
     exact absurd H (by simp)
   ·rw [if_neg c6] at H
    have c6b0 : decide (x10_1 < (l0_3.length : Int)) = false := decide_eq_false c6
    clear c6
    obtain rfl := Option.some.inj H
    have hx_ := HX.out
    split at hx_
    case isFalse => cases hx_
    case isTrue hc_ =>
    obtain ⟨hv_, hi_, hl_⟩ := hc_
    obtain rfl := Option.some.inj hx_
    have HV := Aside0.mk hv_
    have HI := Aside0.mk hi_
    have HL_ := Aside0.mk hl_
    clear hx_ hv_ hi_ hl_
    go_wp2_with (first | (go_at_call 17; go_loud ((with_reducible refine (impl_OrderOf.sort l0_3 x3_1 _ A0_0 l0_0.length c0_0 a0_1 a0_2 A0_3 c0_3 gb321 w _ ?s1 ?s2 ?s3 ?s4 ?s5 ?s6 ?s7).mono ?_); (case s1 => exact bl_); (case s2 => exact ra_ HO_3); (case s3 => exact HR0_3.out); (case s4 => exact bk_ BK321); (case s5 => exact HV.out); (case s6 => exact HI.out); (case s7 => exact HL_.out); rintro e wz ⟨rfl, ho_, hb_⟩; have HOZ := Aside0.mk ho_; have HBZ := Aside0.mk hb_; clear ho_ hb_)))
    go_ret
    exact ⟨_, rfl, HOZ.out, HBZ.out⟩
/-! ### laws_eqIntS: function 8 -/
def laws_eqIntS.l0 : Nat → List Int → List Int → Int → Option (Bool)
 | 0, _, _, _ => none
 | k + 1, x0, x1, x5 => if x5 < (x0.length : Int) then (if 0 ≤ x5 then (if x5 < (x1.length : Int) then (if (rd x0 x5) = (rd x1 x5) then (laws_eqIntS.l0 k x0 x1 (wrap64 (x5 + 1))) else (some false)) else (none)) else (none)) else (some true)
def laws_eqIntS.f (k : Nat) (l0 : List Int) (l1 : List Int) : Option (Bool) := if (l0.length : Int) = (l1.length : Int) then (laws_eqIntS.l0 k l0 l1 0) else (some false)
set_option maxHeartbeats 8000000 in
set_option maxRecDepth 100000 in
theorem laws_eqIntS.calls (k : Nat) (A0 : Option Addr) (c0 : Nat) (l0 : List Int) (A1 : Option Addr) (c1 : Nat) (l1 : List Int) (r : Bool) (w : World) (hr0 : Kd.C (Kd.int .i64) w A0 l0.length l0) (hc0 : l0.length ≤ c0) (hr1 : Kd.C (Kd.int .i64) w A1 l1.length l1) (hc1 : l1.length ≤ c1) (h : laws_eqIntS.f k l0 l1 = some r) :
  Calls Try.prog 8 #[.slice A0 l0.length c0, .slice A1 l1.length c1] w fun e w' => e = .returned (.bool r) ∧ Drawn0 w w' := by
 have HR0 := Aside0.mk hr0
 have HC0 := Aside0.mk hc0
 clear hr0 hc0
 have HR1 := Aside0.mk hr1
 have HC1 := Aside0.mk hc1
 clear hr1 hc1
 have H : (if (l0.length : Int) = (l1.length : Int) then (laws_eqIntS.l0 k l0 l1 0) else (some false)) = some r := h
 clear h
 by_cases c3 : (l0.length : Int) = (l1.length : Int)
 ·rw [if_pos c3] at H
  have c3b0 : ((l0.length : Int) == (l1.length : Int)) = true := beq_iff_eq.mpr c3
  have c3b1 : ((l0.length : Int) != (l1.length : Int)) = false := bne_eq_false_iff_eq.mpr c3
  have c3b2 : (l0.length == l1.length) = true := by first | simpa using c3 | (simp at c3 ⊢; omega)
  clear c3
  have H' := Aside0.mk H
  clear H
  go_enter Try.func8, Try.ntmps8
  go_wp2
  repeat (go_quiet (fail); try go_wp2)
  go_loopg [5] k (fun kq v5 w' => ∃ (x5_1 : Int), v5 = .int .i64 x5_1 ∧ Aside0 (laws_eqIntS.l0 kq l0 l1 x5_1 = some r) ∧ Aside0 (kq ≤ k) ∧ Drawn0 w w')
  case atStart => exact ⟨(0), sp_, H', ⟨Nat.le_refl _⟩, by repeat (first | exact Drawn0.refl _ | apply Drawn0.step)⟩
  case round =>
   clear H'
   try clear c1
   try clear p2
   try clear c3
   try clear c3b0
   try clear c3b1
   try clear c3b2
   obtain ⟨x5_1, rfl, HA, HK1, ⟨m1, rfl⟩⟩ := hrel
   cases gk with
   | zero => exact absurd HA.out (by simp [laws_eqIntS.l0])
   | succ k1 =>
    have H := HA.out
    clear HA
    simp only [laws_eqIntS.l0] at H
    by_cases c4 : x5_1 < (l0.length : Int)
    ·rw [if_pos c4] at H
     have c4b0 : decide (x5_1 < (l0.length : Int)) = true := decide_eq_true c4
     clear c4
     by_cases c5 : 0 ≤ x5_1
     ·rw [if_pos c5] at H
      have c5b0 : decide (0 ≤ x5_1) = true := decide_eq_true c5
      clear c5
      by_cases c6 : x5_1 < (l1.length : Int)
      ·rw [if_pos c6] at H
       have c6b0 : decide (x5_1 < (l1.length : Int)) = true := decide_eq_true c6
       clear c6
       by_cases c7 : (rd l0 x5_1) = (rd l1 x5_1)
       ·rw [if_pos c7] at H
        have c7b0 : ((rd l0 x5_1) == (rd l1 x5_1)) = true := beq_iff_eq.mpr c7
        have c7b1 : ((rd l0 x5_1) != (rd l1 x5_1)) = false := bne_eq_false_iff_eq.mpr c7
        clear c7
        have H' := Aside0.mk H
        clear H
        have p330 : 0 ≤ (x5_1 : Int) := od_
        have q330 : x5_1 < (l0.length : Int) := od_
        obtain ⟨ad330, e330, hx330_0⟩ := Kd.at_int HR0.out x5_1 p330 q330
        cases e330
        replace p330 := eq_true p330
        replace q330 := eq_true q330
        have p331 : 0 ≤ (x5_1 : Int) := od_
        have q331 : x5_1 < (l1.length : Int) := od_
        obtain ⟨ad331, e331, hx331_0⟩ := Kd.at_int HR1.out x5_1 p331 q331
        cases e331
        replace p331 := eq_true p331
        replace q331 := eq_true q331
        go_wp2
        repeat (go_quiet (fail); try go_wp2)
        go_roundg k1
        case measure => have := HK1.out; omega
        case rel => exact ⟨(wrap64 (x5_1 + 1)), sp_, H', ⟨by have := HK1.out; omega⟩, by repeat (first | exact Drawn0.refl _ | apply Drawn0.step)⟩
       ·rw [if_neg c7] at H
        have c7b0 : ((rd l0 x5_1) == (rd l1 x5_1)) = false := beq_eq_false_iff_ne.mpr c7
        have c7b1 : ((rd l0 x5_1) != (rd l1 x5_1)) = true := bne_iff_ne.mpr c7
        obtain rfl := Option.some.inj H
        have p330 : 0 ≤ (x5_1 : Int) := od_
        have q330 : x5_1 < (l0.length : Int) := od_
        obtain ⟨ad330, e330, hx330_0⟩ := Kd.at_int HR0.out x5_1 p330 q330
        cases e330
        replace p330 := eq_true p330
        replace q330 := eq_true q330
        have p331 : 0 ≤ (x5_1 : Int) := od_
        have q331 : x5_1 < (l1.length : Int) := od_
        obtain ⟨ad331, e331, hx331_0⟩ := Kd.at_int HR1.out x5_1 p331 q331
        cases e331
        replace p331 := eq_true p331
        replace q331 := eq_true q331
        go_wp2
        repeat (go_quiet (fail); try go_wp2)
        go_ret
        exact ⟨sp_, by repeat (first | exact Drawn0.refl _ | apply Drawn0.step)⟩
      ·rw [if_neg c6] at H
       exact absurd H (by simp)
     ·rw [if_neg c5] at H
      exact absurd H (by simp)
    ·rw [if_neg c4] at H
     have c4b0 : decide (x5_1 < (l0.length : Int)) = false := decide_eq_false c4
     clear c4
     obtain rfl := Option.some.inj H
     go_wp2
     repeat (go_quiet (fail); try go_wp2)
     go_ret
     exact ⟨sp_, by repeat (first | exact Drawn0.refl _ | apply Drawn0.step)⟩
 ·rw [if_neg c3] at H
  have c3b0 : ((l0.length : Int) == (l1.length : Int)) = false := beq_eq_false_iff_ne.mpr c3
  have c3b1 : ((l0.length : Int) != (l1.length : Int)) = true := bne_iff_ne.mpr c3
  have c3b2 : (l0.length == l1.length) = false := by first | simpa using c3 | (simp at c3 ⊢; omega)
  obtain rfl := Option.some.inj H
  go_enter Try.func8, Try.ntmps8
  go_wp2
  repeat (go_quiet (fail); try go_wp2)
  go_ret
  exact ⟨sp_, by repeat (first | exact Drawn0.refl _ | apply Drawn0.step)⟩
/-! ### laws_eqHold: function 63 -/
def laws_eqHold.f (a0_0 : ByteArray) (a0_1 : Int) (a0_2 : Int) (a1_0 : ByteArray) (a1_1 : Int) (a1_2 : Int) : Option (Bool) := if a0_0.toList = a1_0.toList then (if a0_1 = a1_1 then (if a0_2 = a1_2 then (some true) else (some false)) else (some false)) else (some false)
set_option maxHeartbeats 8000000 in
set_option maxRecDepth 100000 in
theorem laws_eqHold.calls (a0_0 : ByteArray) (a0_1 : Int) (a0_2 : Int) (a1_0 : ByteArray) (a1_1 : Int) (a1_2 : Int) (r : Bool) (w : World) (h : laws_eqHold.f a0_0 a0_1 a0_2 a1_0 a1_1 a1_2 = some r) :
  Calls Try.prog 63 #[.agg #[.string a0_0, .int .i64 a0_1, .int .i64 a0_2], .agg #[.string a1_0, .int .i64 a1_1, .int .i64 a1_2]] w fun e w' => e = .returned (.bool r) ∧ Below w.heap.size w w' := by
 have hu95 := Try.underlying95
 have HB := Aside0.mk (Below.refl w.heap.size w)
 have H : (if a0_0.toList = a1_0.toList then (if a0_1 = a1_1 then (if a0_2 = a1_2 then (some true) else (some false)) else (some false)) else (some false)) = some r := h
 clear h
 by_cases c3 : a0_0.toList = a1_0.toList
 ·rw [if_pos c3] at H
  have c3b0 : (a0_0.toList == a1_0.toList) = true := beq_iff_eq.mpr c3
  have c3b1 : (a0_0.toList != a1_0.toList) = false := bne_eq_false_iff_eq.mpr c3
  clear c3
  by_cases c4 : a0_1 = a1_1
  ·rw [if_pos c4] at H
   have c4b0 : (a0_1 == a1_1) = true := beq_iff_eq.mpr c4
   have c4b1 : (a0_1 != a1_1) = false := bne_eq_false_iff_eq.mpr c4
   clear c4
   by_cases c5 : a0_2 = a1_2
   ·rw [if_pos c5] at H
    have c5b0 : (a0_2 == a1_2) = true := beq_iff_eq.mpr c5
    have c5b1 : (a0_2 != a1_2) = false := bne_eq_false_iff_eq.mpr c5
    clear c5
    obtain rfl := Option.some.inj H
    go_enter Try.func63, Try.ntmps63
    go_wp2_with (first | ((with_reducible refine gate_dst (N := 2) rfl ?_); refine be_ (N := 2) (cs := #[.string a0_0, .int .i64 a0_1, .int .i64 a0_2]) (t := 95) ?_; intro gb332 hg w6 hbox hb; have BK332 := Aside0.mk (hbox); have GW332 := gw_ (w := w) hg; have GE332 := gw_ (w := w) hg; replace HB := Aside0.mk (below_step bl_ hb); clear hb hbox hg) | ((with_reducible refine gate_dst (N := 3) rfl ?_); refine be_ (N := 3) (cs := #[.string a1_0, .int .i64 a1_1, .int .i64 a1_2]) (t := 95) ?_; intro gb333 hg w7 hbox hb; have BK333 := Aside0.mk (hbox); have GW333 := gw_ (w := w) hg; have GE333 := gw_ (w := w) hg; replace HB := Aside0.mk (below_step bl_ hb); have NB332_333 := Aside0.mk ((by rw [hg]; exact Nat.ne_of_lt (blk_lt (bk_ BK332)) : gb332 ≠ gb333)); have NB333_332 := Aside0.mk ((by rw [hg]; exact Nat.ne_of_gt (blk_lt (bk_ BK332)) : gb333 ≠ gb332)); replace BK332 := Aside0.mk (blk_below (bk_ BK332) hb); clear hb hbox hg; have hnb8 := NB332_333.out; have hnc8 := NB333_332.out; obtain ⟨hcz9_0, hcz9_1, hcz9_2, hfz9_0, hfz9_1, hfz9_2⟩ := bx3_ BK332; obtain ⟨hcz10_0, hcz10_1, hcz10_2, hfz10_0, hfz10_1, hfz10_2⟩ := bx3_ BK333))
    go_ret
    exact ⟨sq_, bl_⟩
   ·rw [if_neg c5] at H
    have c5b0 : (a0_2 == a1_2) = false := beq_eq_false_iff_ne.mpr c5
    have c5b1 : (a0_2 != a1_2) = true := bne_iff_ne.mpr c5
    obtain rfl := Option.some.inj H
    go_enter Try.func63, Try.ntmps63
    go_wp2_with (first | ((with_reducible refine gate_dst (N := 2) rfl ?_); refine be_ (N := 2) (cs := #[.string a0_0, .int .i64 a0_1, .int .i64 a0_2]) (t := 95) ?_; intro gb332 hg w11 hbox hb; have BK332 := Aside0.mk (hbox); have GW332 := gw_ (w := w) hg; have GE332 := gw_ (w := w) hg; replace HB := Aside0.mk (below_step bl_ hb); clear hb hbox hg) | ((with_reducible refine gate_dst (N := 3) rfl ?_); refine be_ (N := 3) (cs := #[.string a1_0, .int .i64 a1_1, .int .i64 a1_2]) (t := 95) ?_; intro gb333 hg w12 hbox hb; have BK333 := Aside0.mk (hbox); have GW333 := gw_ (w := w) hg; have GE333 := gw_ (w := w) hg; replace HB := Aside0.mk (below_step bl_ hb); have NB332_333 := Aside0.mk ((by rw [hg]; exact Nat.ne_of_lt (blk_lt (bk_ BK332)) : gb332 ≠ gb333)); have NB333_332 := Aside0.mk ((by rw [hg]; exact Nat.ne_of_gt (blk_lt (bk_ BK332)) : gb333 ≠ gb332)); replace BK332 := Aside0.mk (blk_below (bk_ BK332) hb); clear hb hbox hg; have hnb13 := NB332_333.out; have hnc13 := NB333_332.out; obtain ⟨hcz14_0, hcz14_1, hcz14_2, hfz14_0, hfz14_1, hfz14_2⟩ := bx3_ BK332; obtain ⟨hcz15_0, hcz15_1, hcz15_2, hfz15_0, hfz15_1, hfz15_2⟩ := bx3_ BK333))
    go_ret
    exact ⟨sq_, bl_⟩
  ·rw [if_neg c4] at H
   have c4b0 : (a0_1 == a1_1) = false := beq_eq_false_iff_ne.mpr c4
   have c4b1 : (a0_1 != a1_1) = true := bne_iff_ne.mpr c4
   obtain rfl := Option.some.inj H
   go_enter Try.func63, Try.ntmps63
   go_wp2_with (first | ((with_reducible refine gate_dst (N := 2) rfl ?_); refine be_ (N := 2) (cs := #[.string a0_0, .int .i64 a0_1, .int .i64 a0_2]) (t := 95) ?_; intro gb332 hg w16 hbox hb; have BK332 := Aside0.mk (hbox); have GW332 := gw_ (w := w) hg; have GE332 := gw_ (w := w) hg; replace HB := Aside0.mk (below_step bl_ hb); clear hb hbox hg) | ((with_reducible refine gate_dst (N := 3) rfl ?_); refine be_ (N := 3) (cs := #[.string a1_0, .int .i64 a1_1, .int .i64 a1_2]) (t := 95) ?_; intro gb333 hg w17 hbox hb; have BK333 := Aside0.mk (hbox); have GW333 := gw_ (w := w) hg; have GE333 := gw_ (w := w) hg; replace HB := Aside0.mk (below_step bl_ hb); have NB332_333 := Aside0.mk ((by rw [hg]; exact Nat.ne_of_lt (blk_lt (bk_ BK332)) : gb332 ≠ gb333)); have NB333_332 := Aside0.mk ((by rw [hg]; exact Nat.ne_of_gt (blk_lt (bk_ BK332)) : gb333 ≠ gb332)); replace BK332 := Aside0.mk (blk_below (bk_ BK332) hb); clear hb hbox hg; have hnb18 := NB332_333.out; have hnc18 := NB333_332.out; obtain ⟨hcz19_0, hcz19_1, hcz19_2, hfz19_0, hfz19_1, hfz19_2⟩ := bx3_ BK332; obtain ⟨hcz20_0, hcz20_1, hcz20_2, hfz20_0, hfz20_1, hfz20_2⟩ := bx3_ BK333))
   go_ret
   exact ⟨sq_, bl_⟩
 ·rw [if_neg c3] at H
  have c3b0 : (a0_0.toList == a1_0.toList) = false := beq_eq_false_iff_ne.mpr c3
  have c3b1 : (a0_0.toList != a1_0.toList) = true := bne_iff_ne.mpr c3
  obtain rfl := Option.some.inj H
  go_enter Try.func63, Try.ntmps63
  go_wp2_with (first | ((with_reducible refine gate_dst (N := 2) rfl ?_); refine be_ (N := 2) (cs := #[.string a0_0, .int .i64 a0_1, .int .i64 a0_2]) (t := 95) ?_; intro gb332 hg w21 hbox hb; have BK332 := Aside0.mk (hbox); have GW332 := gw_ (w := w) hg; have GE332 := gw_ (w := w) hg; replace HB := Aside0.mk (below_step bl_ hb); clear hb hbox hg) | ((with_reducible refine gate_dst (N := 3) rfl ?_); refine be_ (N := 3) (cs := #[.string a1_0, .int .i64 a1_1, .int .i64 a1_2]) (t := 95) ?_; intro gb333 hg w22 hbox hb; have BK333 := Aside0.mk (hbox); have GW333 := gw_ (w := w) hg; have GE333 := gw_ (w := w) hg; replace HB := Aside0.mk (below_step bl_ hb); have NB332_333 := Aside0.mk ((by rw [hg]; exact Nat.ne_of_lt (blk_lt (bk_ BK332)) : gb332 ≠ gb333)); have NB333_332 := Aside0.mk ((by rw [hg]; exact Nat.ne_of_gt (blk_lt (bk_ BK332)) : gb333 ≠ gb332)); replace BK332 := Aside0.mk (blk_below (bk_ BK332) hb); clear hb hbox hg; have hnb23 := NB332_333.out; have hnc23 := NB333_332.out; obtain ⟨hcz24_0, hcz24_1, hcz24_2, hfz24_0, hfz24_1, hfz24_2⟩ := bx3_ BK332; obtain ⟨hcz25_0, hcz25_1, hcz25_2, hfz25_0, hfz25_1, hfz25_2⟩ := bx3_ BK333))
  go_ret
  exact ⟨sq_, bl_⟩
end Go.Proofs.Ytbjpfknmkpnhjaa.QFnExactOrderOf
