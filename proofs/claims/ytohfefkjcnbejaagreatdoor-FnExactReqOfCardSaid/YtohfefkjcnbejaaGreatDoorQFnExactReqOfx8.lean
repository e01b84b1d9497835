-- by my own printer (myprint.py, over the kit's print.py)
import Derived.Test.YtohfefkjcnbejaaGreatDoorQFnExactReqOfx0
namespace Go.Proofs.YtohfefkjcnbejaaGreatDoor.QFnExactReqOf
open Go.RowKit Go.Proofs.YtohfefkjcnbejaaGreatDoorW.PrintWords Go.Proofs.YtohfefkjcnbejaaGreatDoorW.PrintLast Go.Proofs.YtohfefkjcnbejaaGreatDoorW.PrintMore
attribute [local go_sem] max2_int min2_int max_two min_two max_three min_three max_four min_four   -- for this text's walks alone
set_option linter.unusedVariables false
set_option linter.unusedSimpArgs false
attribute [local go_sem] my_geq my_leq my_gtr
/-! ### laws_toField: function 83 -/
def laws_toField.f (a0_0 : Int) (a0_1 : ByteArray) : Option (Int × ByteArray) := some (a0_0, a0_1)
set_option maxHeartbeats 8000000 in
set_option maxRecDepth 100000 in
theorem laws_toField.calls (a0_0 : Int) (a0_1 : ByteArray) (r1 : Int) (r2 : ByteArray) (w : World) (h : laws_toField.f a0_0 a0_1 = some (r1, r2)) :
  Calls Tryz.prog 83 #[.agg #[.int .i64 a0_0, .string a0_1]] w fun e w' => e = .returned (.agg #[.int .i64 r1, .string r2]) ∧ Below w.heap.size w w' := by
 have hu90 := Tryz.underlying90
 have hu91 := Tryz.underlying91
 have HB := Aside0.mk (Below.refl w.heap.size w)
 have H : (some (a0_0, a0_1)) = some (r1, r2) := h
 clear h
 simp only [Option.some.injEq, Prod.mk.injEq] at H
 obtain ⟨rfl, rfl⟩ := H
 go_enter Tryz.func83, Tryz.ntmps83
 go_wp2_with (first | ((with_reducible refine gate_dst (N := 1) rfl ?_); refine be_ (N := 1) (cs := #[.int .i64 a0_0, .string a0_1]) (t := 90) ?_; intro gb194 hg w2 hbox hb; have BK194 := Aside0.mk (hbox); have GW194 := gw_ (w := w) hg; have GE194 := gw_ (w := w) hg; replace HB := Aside0.mk (below_step bl_ hb); clear hb hbox hg) | ((with_reducible refine gate_dst (N := 2) rfl ?_); refine be_ (N := 2) (cs := #[.int .i64 0, .string (⟨#[]⟩ : ByteArray)]) (t := 91) ?_; intro gb195 hg w3 hbox hb; have BK195 := Aside0.mk (hbox); have GW195 := gw_ (w := w) hg; have GE195 := gw_ (w := w) hg; replace HB := Aside0.mk (below_step bl_ hb); have NB194_195 := Aside0.mk ((by rw [hg]; exact Nat.ne_of_lt (blk_lt (bk_ BK194)) : gb194 ≠ gb195)); have NB195_194 := Aside0.mk ((by rw [hg]; exact Nat.ne_of_gt (blk_lt (bk_ BK194)) : gb195 ≠ gb194)); replace BK194 := Aside0.mk (blk_below (bk_ BK194) hb); clear hb hbox hg) | ((with_reducible refine gate_dst (N := 3) rfl ?_); refine be_ (N := 3) (cs := #[.int .i64 0, .string (⟨#[]⟩ : ByteArray)]) (t := 91) ?_; intro gb196 hg w4 hbox hb; have BK196 := Aside0.mk (hbox); have GW196 := gw_ (w := w) hg; have GE196 := gw_ (w := w) hg; replace HB := Aside0.mk (below_step bl_ hb); have NB194_196 := Aside0.mk ((by rw [hg]; exact Nat.ne_of_lt (blk_lt (bk_ BK194)) : gb194 ≠ gb196)); have NB196_194 := Aside0.mk ((by rw [hg]; exact Nat.ne_of_gt (blk_lt (bk_ BK194)) : gb196 ≠ gb194)); replace BK194 := Aside0.mk (blk_below (bk_ BK194) hb); have NB195_196 := Aside0.mk ((by rw [hg]; exact Nat.ne_of_lt (blk_lt (bk_ BK195)) : gb195 ≠ gb196)); have NB196_195 := Aside0.mk ((by rw [hg]; exact Nat.ne_of_gt (blk_lt (bk_ BK195)) : gb196 ≠ gb195)); replace BK195 := Aside0.mk (blk_below (bk_ BK195) hb); clear hb hbox hg; have hnb5 := NB194_195.out; have hnc5 := NB195_194.out; have hnb6 := NB194_196.out; have hnc6 := NB196_194.out; obtain ⟨hcz7_0, hcz7_1, hfz7_0, hfz7_1⟩ := bx2_ BK194; have hnb8 := NB196_195.out; have hnc8 := NB195_196.out; obtain ⟨hcz9_0, hcz9_1, hfz9_0, hfz9_1⟩ := bx2_ BK196; obtain ⟨hcz10_0, hcz10_1, hfz10_0, hfz10_1⟩ := bx2_ BK195))
 refine bodyPost_ret (results_cell_row rfl _ _ gb195 91 #[.int .i64 a0_0, .string a0_1] (0, 0) _ rfl (by (with_reducible repeat (first | refine blk_drewN ?_ _ | refine blk_drew ?_ | refine blk_alloc ?_ _)); apply bq2_1_0_; (with_reducible repeat (first | refine blk_drewN ?_ _ | refine blk_drew ?_ | refine blk_alloc ?_ _)); refine blk_far ?_ NB195_196.out _; (with_reducible repeat (first | refine blk_drewN ?_ _ | refine blk_drew ?_ | refine blk_alloc ?_ _)); refine blk_far ?_ NB195_196.out _; (with_reducible repeat (first | refine blk_drewN ?_ _ | refine blk_drew ?_ | refine blk_alloc ?_ _)); exact BK195.out) Tryz.underlying91 rfl (by kernel_rfl)) rfl ?_
 exact ⟨sq_, bl_⟩
/-! ### laws_toFieldS: function 45 -/
def laws_toFieldS.l0 : Nat → List (S90) → List (S91) → Int → Option ((List (S91)))
 | 0, _, _, _ => none
 | k + 1, x0, x3, x4 => if x4 < (x0.length : Int) then (if 0 ≤ x4 then ((laws_toField.f ((rd_T90 x0 x4).f0) ((rd_T90 x0 x4).f1)).bind fun bt201 => (if x4 < (x3.length : Int) then (laws_toFieldS.l0 k x0 (x3.set (x4 : Int).toNat (⟨bt201.1, bt201.2⟩ : S91)) (wrap64 (x4 + 1))) else (none))) else (none)) else (some x3)
def laws_toFieldS.f (k : Nat) (l0 : List (S90)) : Option ((List (S91))) := if 0 ≤ (l0.length : Int) then (if ((l0.length : Int) : Int).toNat ≤ 11728124029610 then (laws_toFieldS.l0 k l0 (List.replicate ((l0.length : Int) : Int).toNat z91) 0) else (none)) else (none)
set_option maxHeartbeats 8000000 in
set_option maxRecDepth 100000 in
theorem laws_toFieldS.calls (k : Nat) (A0 : Option Addr) (c0 : Nat) (l0 : List (S90)) (r : List (S91)) (w : World) (hr0 : Kd.C k90 w A0 l0.length l0) (hc0 : l0.length ≤ c0) (h : laws_toFieldS.f k l0 = some r) :
  Calls Tryz.prog 45 #[.slice A0 l0.length c0] w fun e w' => ∃ v0_ : Value, e = .returned (v0_) ∧ Kd.R k91 91 w' w.heap.size (fun _ => True) v0_ r ∧ Below w.heap.size w w' := by
 have hu90 := Tryz.underlying90
 have hu91 := Tryz.underlying91
 have HR0 := Aside0.mk hr0
 have HC0 := Aside0.mk hc0
 clear hr0 hc0
 have HB := Aside0.mk (Below.refl w.heap.size w)
 have H : (if 0 ≤ (l0.length : Int) then (if ((l0.length : Int) : Int).toNat ≤ 11728124029610 then (laws_toFieldS.l0 k l0 (List.replicate ((l0.length : Int) : Int).toNat z91) 0) else (none)) else (none)) = some r := h
 clear h
 by_cases c2 : 0 ≤ (l0.length : Int)
 ·rw [if_pos c2] at H
  have c2b0 := eq_true c2
  have c2b1 : decide (0 ≤ (l0.length : Int)) = true := decide_eq_true c2
  clear c2
  by_cases c3 : ((l0.length : Int) : Int).toNat ≤ 11728124029610
  ·rw [if_pos c3] at H
   have c3b0 := eq_true c3
   have c3b1 : decide (((l0.length : Int) : Int).toNat ≤ 11728124029610) = true := decide_eq_true c3
   clear c3
   obtain ⟨y197, hy197⟩ : ∃ y_ : List (S91), y_ = (List.replicate ((l0.length : Int) : Int).toNat z91) := ⟨_, rfl⟩
   replace H : (laws_toFieldS.l0 k l0 y197 0) = some r := by first | (rw [hy197]; with_reducible exact H) | (have H2_ := (Option.bind_some _ _).symm.trans H; rw [hy197]; with_reducible exact H2_) | (have H2_ := (Option.bind_some _ _).symm.trans H; with_reducible exact H2_) | with_reducible exact H | (rw [hy197]; exact H) | exact H
   have Ny197 := Aside0.mk hy197
   clear hy197
   have H' := Aside0.mk H
   clear H
   go_enter Tryz.func45, Tryz.ntmps45
   go_wp2_with (first | ((with_reducible refine gate_dst (N := 7) rfl ?_); refine Kd.R_make k91 _ 91 rfl (N := 7) rfl 30 _ _ rfl (l0.length : Int) rfl rfl Tryz.underlying30 (.agg #[(.int .i64 0), (.string ⟨#[]⟩)]) 24 info91 rfl (by decide) (by omega) z91 (ok := fun _ => True) (okp := fun _ => True) (k91_mkM _ _ _ z91 ) (fun _ hk => hk) trivial od_ (Nat.le_trans (Nat.mul_le_mul_right _ (od_ : (l0.length : Int).toNat ≤ 11728124029610)) (by omega)) (Below.refl _ _) (Nat.le_refl _) ?_; intro v198 w4 ho5 hb hg_ hnew_; clear hg_ hnew_; (first | rw [← Ny197.out] at ho5 | (simp only [Int.reduceToNat] at ho5; rw [← Ny197.out] at ho5)); have HO199 := Aside0.mk (Kd.R_lower ho5 (below_size bl_)); replace HB := Aside0.mk (below_step bl_ hb); clear hb ho5))
   go_loopg [4] k (fun kq v4 w' => ∃ (x3_1 : List (S91)) (x4_1 : Int), v4 = .int .i64 x4_1 ∧ Aside0 (laws_toFieldS.l0 kq l0 x3_1 x4_1 = some r) ∧ Aside0 (kq ≤ k) ∧ Aside0 (Kd.R k91 91 w' w.heap.size (fun _ => True) v198 x3_1) ∧ Aside0 (Below w.heap.size w w'))
   case atStart => exact ⟨(y197), (0), sp_, H', ⟨Nat.le_refl _⟩, ⟨ra_ HO199⟩, ⟨bl_⟩⟩
   case round =>
    clear H'
    try clear c2
    try clear c2b0
    try clear c2b1
    try clear p2
    try clear c3
    try clear c3b0
    try clear c3b1
    try clear c4
    obtain ⟨x3_1, x4_1, rfl, HA, HK1, HO_3, HB⟩ := hrel
    cases gk with
    | zero => exact absurd HA.out (by simp [laws_toFieldS.l0])
    | succ k1 =>
     have H := HA.out
     clear HA
     simp only [laws_toFieldS.l0] at H
     by_cases c6 : x4_1 < (l0.length : Int)
     ·rw [if_pos c6] at H
      have c6b0 : decide (x4_1 < (l0.length : Int)) = true := decide_eq_true c6
      clear c6
      by_cases c7 : 0 ≤ x4_1
      ·rw [if_pos c7] at H
       have c7b0 : decide (0 ≤ x4_1) = true := decide_eq_true c7
       clear c7
       obtain ⟨⟨t201, t202⟩, A8, H⟩ := ob_ H
       (try dsimp only at H)
       by_cases c9 : x4_1 < (x3_1.length : Int)
       ·rw [if_pos c9] at H
        have c9b0 : decide (x4_1 < (x3_1.length : Int)) = true := decide_eq_true c9
        clear c9
        obtain ⟨y203, hy203⟩ : ∃ y_ : List (S91), y_ = (x3_1.set (x4_1 : Int).toNat (⟨t201, t202⟩ : S91)) := ⟨_, rfl⟩
        replace H : (laws_toFieldS.l0 k1 l0 y203 (wrap64 (x4_1 + 1))) = some r := by first | (rw [hy203]; with_reducible exact H) | (have H2_ := (Option.bind_some _ _).symm.trans H; rw [hy203]; with_reducible exact H2_) | (have H2_ := (Option.bind_some _ _).symm.trans H; with_reducible exact H2_) | with_reducible exact H | (rw [hy203]; exact H) | exact H
        have Ny203 := Aside0.mk hy203
        clear hy203
        have H' := Aside0.mk H
        clear H
        have p200 : 0 ≤ (x4_1 : Int) := od_
        have q200 : x4_1 < (l0.length : Int) := od_
        obtain ⟨ad200, e200, hx200_0, hx200_1⟩ := at_T90 HR0.out x4_1 p200 q200
        cases e200
        replace hx200_0 := kc_ HB hx200_0
        replace hx200_1 := kc_ HB hx200_1
        replace p200 := eq_true p200
        replace q200 := eq_true q200
        go_wp2_with (first | ((with_reducible refine gate_callee (f := 83) rfl ?_); refine goesL_ (some 20) rfl rfl Tryz.func83 (by kernel_rfl) rfl #[.agg #[.int .i64 ((rd_T90 l0 x4_1).f0), .string ((rd_T90 l0 x4_1).f1)]] rfl gl_ ?_; (with_reducible refine (laws_toField.calls ((rd_T90 l0 x4_1).f0) ((rd_T90 l0 x4_1).f1) t201 t202 _ A8.out).mono ?_); rintro e w11 ⟨rfl, hb⟩; refine ⟨_, rfl, ?_⟩; replace HO_3 := Aside0.mk (Kd.R_below (ra_ HO_3) hb); replace HB := Aside0.mk (below_step bl_ hb); (try clear hb); (try clear hb2); (try clear hk); (try clear hi); have p10 : 0 ≤ (x4_1 : Int) := od_; have q10 : (x4_1 : Int) < ((x3_1.length : Int) : Int) := od_; obtain ⟨go10, co10, eo10, gb10, gl10, cl10, HG10⟩ := Kd.R_form HO_3.out (by omega); (first | cases eo10 | (injection eo10 with ea_ en_ ec_; (first | subst ea_ | (injection ea_ with ea_; subst ea_)); subst ec_; clear en_)); have GB10 := Aside0.mk gb10; have GG10 := Aside0.mk HG10; clear gb10 gl10 HG10; obtain ⟨ce10, hcl10, hM10, hcc10, hfr10⟩ := Kd.R_elem HO_3.out z91 (x4_1 : Int) p10 q10; obtain rfl := k91_openM hM10; have hx10_0 : w11.cell? ⟨go10, (x4_1 : Int).toNat * 2, none⟩ = some (.int .i64 ((rd_T91 x3_1 x4_1).f0)) := hcc10 0 _ rfl; have hx10_1 : w11.cell? ⟨go10, (x4_1 : Int).toNat * 2 + 1, none⟩ = some (.string ((rd_T91 x3_1 x4_1).f1)) := hcc10 1 _ rfl; have hf10_0 : w11.frozen? ⟨go10, (x4_1 : Int).toNat * 2, none⟩ = false := hfr10 0; have hf10_1 : w11.frozen? ⟨go10, (x4_1 : Int).toNat * 2 + 1, none⟩ = false := hfr10 1; clear hcl10 hcc10 hfr10 hM10; replace p10 := eq_true p10; replace q10 := eq_true q10; have HX12 := Aside0.mk (show Kd.R k91 91 w11 w.heap.size (fun _ => True) (.slice (some ⟨go10, 0, none⟩) x3_1.length co10) x3_1 from (ra_ HO_3)); obtain ⟨ce12, hcl12, hM12, hcc12, hfr12⟩ := Kd.R_elem HX12.out z91 (x4_1 : Int) od_ (by have h_ : (x4_1 : Int) < ((x3_1.length : Int) : Int) := od_; first | exact h_ | (have e_ := (Kd.R_reads' HO_3.out).1; omega) | simpa using h_); obtain rfl := k91_openM hM12; have HP12 := Kd.R_seg HX12.out (x4_1 : Int) od_ (by have h_ : (x4_1 : Int) < ((x3_1.length : Int) : Int) := od_; first | exact h_ | (have e_ := (Kd.R_reads' HO_3.out).1; omega) | simpa using h_) (seg := [.int .i64 t201, .string t202]) (j := 0) hcl12 hcc12 (show 2 ≤ 2 from by decide) (x' := (⟨t201, t202⟩ : S91)) (k91_mkM _ _ _ (⟨t201, t202⟩ : S91) ) (fun _ hk => hk); have hx12_0 := hcc12 0 _ rfl; (try simp only [show (k91).sz = 2 from rfl, Nat.mul_one, Nat.add_zero] at hx12_0); have hf12_0 := hfr12 0; (try simp only [show (k91).sz = 2 from rfl, Nat.mul_one, Nat.add_zero] at hf12_0); have hx12_1 := hcc12 1 _ rfl; (try simp only [show (k91).sz = 2 from rfl, Nat.mul_one, Nat.add_zero] at hx12_1); have hf12_1 := hfr12 1; (try simp only [show (k91).sz = 2 from rfl, Nat.mul_one, Nat.add_zero] at hf12_1); clear hcl12 hcc12 hfr12 hM12) | ((with_reducible refine gate_store (t := 91) (p := 21) rfl ?_); refine store_event (t := 91) (p := 21) (v := ?vo_w13) (w1 := ((w11.setCell ⟨go10, (x4_1 : Int).toNat * 2, none⟩ (.int .i64 t201)).setCell ⟨go10, (x4_1 : Int).toNat * 2 + 1, none⟩ (.string t202))) ?hg ?ho ?hn ?hr ?_; (case ho => rfl); (case hg => rfl); (case hn => rfl); (case hr => first | (go_simp; done) | (go_simp; rfl)); intro w13 hw; have hg : w11.grownBy w13 (some go10) := (by rw [hw]; exact HP12.2); have hp_ : Kd.R k91 91 w13 w.heap.size (fun _ => True) (.slice (some ⟨go10, 0, none⟩) x3_1.length co10) y203 := (by rw [hw, Ny203.out]; exact HP12.1); clear HP12; replace HO_3 := Aside0.mk (hp_); replace HB := Aside0.mk ((by rw [hw]; exact below_set (below_set (HB.out) GB10.out) GB10.out : Below w.heap.size w w13)); clear hg hw hp_))
        go_roundg k1
        case measure => have := HK1.out; omega
        case rel => exact ⟨(y203), (wrap64 (x4_1 + 1)), sp_, H', ⟨by have := HK1.out; omega⟩, ⟨ra_ HO_3⟩, ⟨bl_⟩⟩
       ·rw [if_neg c9] at H
        exact absurd H (by simp)
      ·rw [if_neg c7] at H
       exact absurd H (by simp)
     ·rw [if_neg c6] at H
      have c6b0 : decide (x4_1 < (l0.length : Int)) = false := decide_eq_false c6
      clear c6
      obtain rfl := Option.some.inj H
      go_wp2
      go_ret
      exact ⟨_, by first | rfl | (simp [errW_none, errW_some] <;> rfl) | (simp [*, errW_none, errW_some] <;> rfl), ra_ HO_3, bl_⟩
  ·rw [if_neg c3] at H
   exact absurd H (by simp)
 ·rw [if_neg c2] at H
  exact absurd H (by simp)
/-! ### laws_toMsg: function 10 -/
def laws_toMsg.f (k : Nat) (a0_0 : ByteArray) (l0_1 : List (S90)) : Option (ByteArray × (List (S91))) := (laws_toFieldS.f k l0_1).bind fun t207 => (some (a0_0, t207))
set_option maxHeartbeats 8000000 in
set_option maxRecDepth 100000 in
theorem laws_toMsg.calls (k : Nat) (a0_0 : ByteArray) (A0_1 : Option Addr) (c0_1 : Nat) (l0_1 : List (S90)) (r1 : ByteArray) (r2 : List (S91)) (w : World) (hr0_1 : Kd.C k90 w A0_1 l0_1.length l0_1) (hc0_1 : l0_1.length ≤ c0_1) (h : laws_toMsg.f k a0_0 l0_1 = some (r1, r2)) :
  Calls Tryz.prog 10 #[.agg #[.string a0_0, .slice A0_1 l0_1.length c0_1]] w fun e w' => ∃ v1_ : Value, e = .returned (.agg #[.string r1, v1_]) ∧ Kd.R k91 91 w' w.heap.size (fun _ => True) v1_ r2 ∧ Below w.heap.size w w' := by
 have hu24 := Tryz.underlying24
 have hu32 := Tryz.underlying32
 have HR0_1 := Aside0.mk hr0_1
 have HC0_1 := Aside0.mk hc0_1
 clear hr0_1 hc0_1
 have HB := Aside0.mk (Below.refl w.heap.size w)
 have H : ((laws_toFieldS.f k l0_1).bind fun t207 => (some (a0_0, t207))) = some (r1, r2) := h
 clear h
 obtain ⟨t207, A2, H⟩ := ob_ H
 simp only [Option.some.injEq, Prod.mk.injEq] at H
 obtain ⟨rfl, rfl⟩ := H
 go_enter Tryz.func10, Tryz.ntmps10
 go_wp2_with (first | ((with_reducible refine gate_dst (N := 1) rfl ?_); refine be_ (N := 1) (cs := #[.string a0_0, .slice A0_1 l0_1.length c0_1]) (t := 24) ?_; intro gb204 hg w3 hbox hb; have BK204 := Aside0.mk (hbox); have GW204 := gw_ (w := w) hg; have GE204 := gw_ (w := w) hg; replace HB := Aside0.mk (below_step bl_ hb); clear hb hbox hg) | ((with_reducible refine gate_dst (N := 2) rfl ?_); refine be_ (N := 2) (cs := #[.string (⟨#[]⟩ : ByteArray), .slice none 0 0]) (t := 32) ?_; intro gb205 hg w4 hbox hb; have BK205 := Aside0.mk (hbox); have GW205 := gw_ (w := w) hg; have GE205 := gw_ (w := w) hg; replace HB := Aside0.mk (below_step bl_ hb); have NB204_205 := Aside0.mk ((by rw [hg]; exact Nat.ne_of_lt (blk_lt (bk_ BK204)) : gb204 ≠ gb205)); have NB205_204 := Aside0.mk ((by rw [hg]; exact Nat.ne_of_gt (blk_lt (bk_ BK204)) : gb205 ≠ gb204)); replace BK204 := Aside0.mk (blk_below (bk_ BK204) hb); clear hb hbox hg) | ((with_reducible refine gate_dst (N := 3) rfl ?_); refine be_ (N := 3) (cs := #[.string (⟨#[]⟩ : ByteArray), .slice none 0 0]) (t := 32) ?_; intro gb206 hg w5 hbox hb; have BK206 := Aside0.mk (hbox); have GW206 := gw_ (w := w) hg; have GE206 := gw_ (w := w) hg; replace HB := Aside0.mk (below_step bl_ hb); have NB204_206 := Aside0.mk ((by rw [hg]; exact Nat.ne_of_lt (blk_lt (bk_ BK204)) : gb204 ≠ gb206)); have NB206_204 := Aside0.mk ((by rw [hg]; exact Nat.ne_of_gt (blk_lt (bk_ BK204)) : gb206 ≠ gb204)); replace BK204 := Aside0.mk (blk_below (bk_ BK204) hb); have NB205_206 := Aside0.mk ((by rw [hg]; exact Nat.ne_of_lt (blk_lt (bk_ BK205)) : gb205 ≠ gb206)); have NB206_205 := Aside0.mk ((by rw [hg]; exact Nat.ne_of_gt (blk_lt (bk_ BK205)) : gb206 ≠ gb205)); replace BK205 := Aside0.mk (blk_below (bk_ BK205) hb); clear hb hbox hg; have hnb6 := NB204_205.out; have hnc6 := NB205_204.out; have hnb7 := NB204_206.out; have hnc7 := NB206_204.out; obtain ⟨hcz8_0, hcz8_1, hfz8_0, hfz8_1⟩ := bx2_ BK204; have hnb9 := NB206_205.out; have hnc9 := NB205_206.out; obtain ⟨hcz10_0, hcz10_1, hfz10_0, hfz10_1⟩ := bx2_ BK206) | ((with_reducible refine gate_callee (f := 45) rfl ?_); refine goesL_ (some 9) rfl rfl Tryz.func45 (by kernel_rfl) rfl #[.slice A0_1 l0_1.length c0_1] rfl gl_ ?_; (with_reducible refine (laws_toFieldS.calls k _ _ l0_1 t207 _ ?side1 ?side2 A2.out).mono ?_); (case side1 => exact Kd.C_below HR0_1.out bl_); (case side2 => exact HC0_1.out); rintro e w11 ⟨v208, rfl, ho0, hb⟩; refine ⟨_, rfl, ?_⟩; have HO209 := Aside0.mk (Kd.R_lower ho0 (below_size bl_)); replace BK204 := Aside0.mk (blk_below (g := gb204) (o := .cells #[.string a0_0, .slice A0_1 l0_1.length c0_1] 24 (0, 0)) (by (with_reducible repeat (first | refine blk_drewN ?_ _ | refine blk_drew ?_ | refine blk_alloc ?_ _)); refine blk_far ?_ NB204_206.out _; (with_reducible repeat (first | refine blk_drewN ?_ _ | refine blk_drew ?_ | refine blk_alloc ?_ _)); exact BK204.out) hb); replace BK205 := Aside0.mk (blk_below (g := gb205) (o := .cells #[.string (⟨#[]⟩ : ByteArray), .slice none 0 0] 32 (0, 0)) (by (with_reducible repeat (first | refine blk_drewN ?_ _ | refine blk_drew ?_ | refine blk_alloc ?_ _)); refine blk_far ?_ NB205_206.out _; (with_reducible repeat (first | refine blk_drewN ?_ _ | refine blk_drew ?_ | refine blk_alloc ?_ _)); exact BK205.out) hb); replace BK206 := Aside0.mk (blk_below (g := gb206) (o := .cells #[.string a0_0, .slice none 0 0] 32 (0, 0)) (by (with_reducible repeat (first | refine blk_drewN ?_ _ | refine blk_drew ?_ | refine blk_alloc ?_ _)); apply bq2_0_; (with_reducible repeat (first | refine blk_drewN ?_ _ | refine blk_drew ?_ | refine blk_alloc ?_ _)); exact BK206.out) hb); replace HB := Aside0.mk (below_step bl_ hb); (try clear hb); (try clear hb2); (try clear hk); (try clear hi); (try clear ho0); obtain ⟨Ao12, co12, eo12⟩ := Kd.R_slice HO209.out; subst eo12; obtain ⟨hcz13_0, hcz13_1, hfz13_0, hfz13_1⟩ := bx2_ BK206; obtain ⟨hcz14_0, hcz14_1, hfz14_0, hfz14_1⟩ := bx2_ BK205))
 refine bodyPost_ret (results_cell_row rfl _ _ gb205 32 #[.string a0_0, .slice Ao12 t207.length co12] (0, 0) _ rfl (by (with_reducible repeat (first | refine blk_drewN ?_ _ | refine blk_drew ?_ | refine blk_alloc ?_ _)); apply bq2_1_0_; (with_reducible repeat (first | refine blk_drewN ?_ _ | refine blk_drew ?_ | refine blk_alloc ?_ _)); refine blk_far ?_ NB205_206.out _; (with_reducible repeat (first | refine blk_drewN ?_ _ | refine blk_drew ?_ | refine blk_alloc ?_ _)); exact BK205.out) Tryz.underlying32 rfl (by kernel_rfl)) rfl ?_
 exact ⟨_, by first | rfl | (simp [errW_none, errW_some] <;> rfl) | (simp [*, errW_none, errW_some] <;> rfl), by (with_reducible repeat (first | apply Kd.R_alloc | apply Kd.R_drewN | apply Kd.R_drew)); exact Kd.R_mono (Kd.R_far (p := ⟨gb205, 1, none⟩) (Kd.R_far (p := ⟨gb205, 0, none⟩) (Kd.R_far (p := ⟨gb206, 1, none⟩) (Kd.R_types (Kd.R_types HO209.out BK206.out (by decide)) BK205.out (by decide)) (fun _ hk => hk.1.2) (.slice Ao12 t207.length co12)) (fun _ hk => hk.2) (.string a0_0)) (fun _ hk => hk.2) (.slice Ao12 t207.length co12)) (fun _ hk => trivial), bl_⟩
/-! ### impl_within: function 71 -/
def impl_within.f (a0 : Int) (a1 : Int) (a2 : Int) : Option (Bool) := if a1 ≤ a0 then (some (decide (a0 ≤ a2))) else (some false)
set_option maxHeartbeats 8000000 in
set_option maxRecDepth 100000 in
theorem impl_within.calls (a0 : Int) (a1 : Int) (a2 : Int) (r : Bool) (w : World) (h : impl_within.f a0 a1 a2 = some r) :
  Calls Tryz.prog 71 #[.int .i64 a0, .int .i64 a1, .int .i64 a2] w fun e w' => e = .returned (.bool r) ∧ Drawn0 w w' := by
 have H : (if a1 ≤ a0 then (some (decide (a0 ≤ a2))) else (some false)) = some r := h
 clear h
 by_cases c4 : a1 ≤ a0
 ·rw [if_pos c4] at H
  have c4b0 : decide (a1 ≤ a0) = true := decide_eq_true c4
  clear c4
  obtain rfl := Option.some.inj H
  go_enter Tryz.func71, Tryz.ntmps71
  go_wp2
  go_ret
  exact ⟨sp_, by repeat (first | exact Drawn0.refl _ | apply Drawn0.step)⟩
 ·rw [if_neg c4] at H
  have c4b0 : decide (a1 ≤ a0) = false := decide_eq_false c4
  clear c4
  obtain rfl := Option.some.inj H
  go_enter Tryz.func71, Tryz.ntmps71
  go_wp2
  go_ret
  exact ⟨sp_, by repeat (first | exact Drawn0.refl _ | apply Drawn0.step)⟩
/-! ### impl_Digits: function 86 -/
def impl_Digits.l0 : Nat → ByteArray → Int → Int → Option (Bool)
 | 0, _, _, _ => none
 | k + 1, x0, x5, x6 => if x6 < x5 then (if 0 ≤ x6 then (if x6 < (x0.size : Int) then (if (bt x0 x6) < 48 then (some false) else (if (bt x0 x6) > 57 then (some false) else (impl_Digits.l0 k x0 x5 (wrap64 (x6 + 1))))) else (none)) else (none)) else (some (x0.toList != ([] : List UInt8)))
def impl_Digits.f (k : Nat) (a0 : ByteArray) : Option (Bool) := impl_Digits.l0 k a0 (a0.size : Int) 0
set_option maxHeartbeats 8000000 in
set_option maxRecDepth 100000 in
theorem impl_Digits.calls (k : Nat) (a0 : ByteArray) (r : Bool) (w : World) (h : impl_Digits.f k a0 = some r) :
  Calls Tryz.prog 86 #[.string a0] w fun e w' => e = .returned (.bool r) ∧ Drawn0 w w' := by
 have H : (impl_Digits.l0 k a0 (a0.size : Int) 0) = some r := h
 clear h
 have H' := Aside0.mk H
 clear H
 go_enter Tryz.func86, Tryz.ntmps86
 go_wp2
 go_loopg [6] k (fun kq v6 w' => ∃ (x6_1 : Int), v6 = .int .i64 x6_1 ∧ Aside0 (impl_Digits.l0 kq a0 (a0.size : Int) x6_1 = some r) ∧ Aside0 (kq ≤ k) ∧ Drawn0 w w')
 case atStart => exact ⟨(0), sp_, H', ⟨Nat.le_refl _⟩, by repeat (first | exact Drawn0.refl _ | apply Drawn0.step)⟩
 case round =>
  clear H'
  obtain ⟨x6_1, rfl, HA, HK1, ⟨m1, rfl⟩⟩ := hrel
  cases gk with
  | zero => exact absurd HA.out (by simp [impl_Digits.l0])
  | succ k1 =>
   have H := HA.out
   clear HA
   simp only [impl_Digits.l0] at H
   by_cases c2 : x6_1 < (a0.size : Int)
   ·rw [if_pos c2] at H
    have c2b0 : decide (x6_1 < (a0.size : Int)) = true := decide_eq_true c2
    clear c2
    by_cases c3 : 0 ≤ x6_1
    ·rw [if_pos c3] at H
     have c3b0 : decide (0 ≤ x6_1) = true := decide_eq_true c3
     clear c3
     by_cases c4 : x6_1 < (a0.size : Int)
     ·rw [if_pos c4] at H
      have c4b0 : decide (x6_1 < (a0.size : Int)) = true := decide_eq_true c4
      clear c4
      by_cases c6 : (bt a0 x6_1) < 48
      ·rw [if_pos c6] at H
       have c6b0 : decide ((bt a0 x6_1) < 48) = true := decide_eq_true c6
       clear c6
       obtain rfl := Option.some.inj H
       have p5 : 0 ≤ (x6_1 : Int) := od_
       have q5 : x6_1 < (a0.size : Int) := od_
       have hx5 := bt_at a0 x6_1
       replace p5 := eq_true p5
       replace q5 := eq_true q5
       go_wp2
       go_ret
       exact ⟨sp_, by repeat (first | exact Drawn0.refl _ | apply Drawn0.step)⟩
      ·rw [if_neg c6] at H
       have c6b0 : decide ((bt a0 x6_1) < 48) = false := decide_eq_false c6
       clear c6
       by_cases c8 : (bt a0 x6_1) > 57
       ·rw [if_pos c8] at H
        have c8b0 : decide (57 < (bt a0 x6_1)) = true := decide_eq_true c8
        clear c8
        obtain rfl := Option.some.inj H
        have p5 : 0 ≤ (x6_1 : Int) := od_
        have q5 : x6_1 < (a0.size : Int) := od_
        have hx5 := bt_at a0 x6_1
        replace p5 := eq_true p5
        replace q5 := eq_true q5
        have p7 : 0 ≤ (x6_1 : Int) := od_
        have q7 : x6_1 < (a0.size : Int) := od_
        have hx7 := bt_at a0 x6_1
        replace p7 := eq_true p7
        replace q7 := eq_true q7
        go_wp2
        go_ret
        exact ⟨sp_, by repeat (first | exact Drawn0.refl _ | apply Drawn0.step)⟩
       ·rw [if_neg c8] at H
        have c8b0 : decide (57 < (bt a0 x6_1)) = false := decide_eq_false c8
        clear c8
        have H' := Aside0.mk H
        clear H
        have p5 : 0 ≤ (x6_1 : Int) := od_
        have q5 : x6_1 < (a0.size : Int) := od_
        have hx5 := bt_at a0 x6_1
        replace p5 := eq_true p5
        replace q5 := eq_true q5
        have p7 : 0 ≤ (x6_1 : Int) := od_
        have q7 : x6_1 < (a0.size : Int) := od_
        have hx7 := bt_at a0 x6_1
        replace p7 := eq_true p7
        replace q7 := eq_true q7
        go_wp2
        go_roundg k1
        case measure => have := HK1.out; omega
        case rel => exact ⟨(wrap64 (x6_1 + 1)), sp_, H', ⟨by have := HK1.out; omega⟩, by repeat (first | exact Drawn0.refl _ | apply Drawn0.step)⟩
     ·rw [if_neg c4] at H
      exact absurd H (by simp)
    ·rw [if_neg c3] at H
     exact absurd H (by simp)
   ·rw [if_neg c2] at H
    have c2b0 : decide (x6_1 < (a0.size : Int)) = false := decide_eq_false c2
    clear c2
    obtain rfl := Option.some.inj H
    go_wp2
    go_ret
    exact ⟨sp_, by repeat (first | exact Drawn0.refl _ | apply Drawn0.step)⟩
/-! ### impl_fieldRows: function 144 -/
def impl_fieldRows.f  : Option ((List (S115))) := some (([(⟨2, 3, 19⟩ : S115), (⟨3, 1, 6⟩ : S115), (⟨4, 1, 12⟩ : S115), (⟨7, 1, 10⟩ : S115), (⟨11, 1, 6⟩ : S115), (⟨14, 1, 4⟩ : S115), (⟨37, 2, 12⟩ : S115), (⟨38, 2, 6⟩ : S115), (⟨39, 2, 2⟩ : S115), (⟨41, 2, 8⟩ : S115), (⟨48, 5, 60⟩ : S115), (⟨49, 1, 3⟩ : S115), (⟨54, 5, 60⟩ : S115), (⟨95, 2, 12⟩ : S115), (⟨102, 4, 20⟩ : S115), (⟨103, 4, 20⟩ : S115)] : List (S115)))
set_option maxHeartbeats 8000000 in
set_option maxRecDepth 100000 in
theorem impl_fieldRows.calls  (r : List (S115)) (w : World) (h : impl_fieldRows.f  = some r) :
  Calls Tryz.prog 144 #[] w fun e w' => ∃ v0_ : Value, e = .returned (v0_) ∧ Kd.R k115 115 w' w.heap.size (fun _ => True) v0_ r ∧ Below w.heap.size w w' := by
 have hu115 := Tryz.underlying115
 have HB := Aside0.mk (Below.refl w.heap.size w)
 have H : (some (([(⟨2, 3, 19⟩ : S115), (⟨3, 1, 6⟩ : S115), (⟨4, 1, 12⟩ : S115), (⟨7, 1, 10⟩ : S115), (⟨11, 1, 6⟩ : S115), (⟨14, 1, 4⟩ : S115), (⟨37, 2, 12⟩ : S115), (⟨38, 2, 6⟩ : S115), (⟨39, 2, 2⟩ : S115), (⟨41, 2, 8⟩ : S115), (⟨48, 5, 60⟩ : S115), (⟨49, 1, 3⟩ : S115), (⟨54, 5, 60⟩ : S115), (⟨95, 2, 12⟩ : S115), (⟨102, 4, 20⟩ : S115), (⟨103, 4, 20⟩ : S115)] : List (S115)))) = some r := h
 clear h
 obtain ⟨y210, hy210⟩ : ∃ y_ : List (S115), y_ = (([(⟨2, 3, 19⟩ : S115), (⟨3, 1, 6⟩ : S115), (⟨4, 1, 12⟩ : S115), (⟨7, 1, 10⟩ : S115), (⟨11, 1, 6⟩ : S115), (⟨14, 1, 4⟩ : S115), (⟨37, 2, 12⟩ : S115), (⟨38, 2, 6⟩ : S115), (⟨39, 2, 2⟩ : S115), (⟨41, 2, 8⟩ : S115), (⟨48, 5, 60⟩ : S115), (⟨49, 1, 3⟩ : S115), (⟨54, 5, 60⟩ : S115), (⟨95, 2, 12⟩ : S115), (⟨102, 4, 20⟩ : S115), (⟨103, 4, 20⟩ : S115)] : List (S115))) := ⟨_, rfl⟩
 replace H : (some y210) = some r := by first | (rw [hy210]; with_reducible exact H) | (have H2_ := (Option.bind_some _ _).symm.trans H; rw [hy210]; with_reducible exact H2_) | (have H2_ := (Option.bind_some _ _).symm.trans H; with_reducible exact H2_) | with_reducible exact H | (rw [hy210]; exact H) | exact H
 have Ny210 := Aside0.mk hy210
 clear hy210
 obtain rfl := Option.some.inj H
 go_enter Tryz.func144, Tryz.ntmps144
 go_wp2_with (first | ((with_reducible refine gate_dst (N := 17) rfl ?_); refine Kd.R_lit k115 _ 115 ?hg (N := 17) ?hd (xs := ([(⟨2, 3, 19⟩ : S115), (⟨3, 1, 6⟩ : S115), (⟨4, 1, 12⟩ : S115), (⟨7, 1, 10⟩ : S115), (⟨11, 1, 6⟩ : S115), (⟨14, 1, 4⟩ : S115), (⟨37, 2, 12⟩ : S115), (⟨38, 2, 6⟩ : S115), (⟨39, 2, 2⟩ : S115), (⟨41, 2, 8⟩ : S115), (⟨48, 5, 60⟩ : S115), (⟨49, 1, 3⟩ : S115), (⟨54, 5, 60⟩ : S115), (⟨95, 2, 12⟩ : S115), (⟨102, 4, 20⟩ : S115), (⟨103, 4, 20⟩ : S115)] : List (S115))) (inner := [.int .i64 2, .int .i64 3, .int .i64 19, .int .i64 3, .int .i64 1, .int .i64 6, .int .i64 4, .int .i64 1, .int .i64 12, .int .i64 7, .int .i64 1, .int .i64 10, .int .i64 11, .int .i64 1, .int .i64 6, .int .i64 14, .int .i64 1, .int .i64 4, .int .i64 37, .int .i64 2, .int .i64 12, .int .i64 38, .int .i64 2, .int .i64 6, .int .i64 39, .int .i64 2, .int .i64 2, .int .i64 41, .int .i64 2, .int .i64 8, .int .i64 48, .int .i64 5, .int .i64 60, .int .i64 49, .int .i64 1, .int .i64 3, .int .i64 54, .int .i64 5, .int .i64 60, .int .i64 95, .int .i64 2, .int .i64 12, .int .i64 102, .int .i64 4, .int .i64 20, .int .i64 103, .int .i64 4, .int .i64 20]) (ok := fun _ => True) (okp := fun _ => True) ?hr ?hp (fun _ hk => hk) trivial (Below.refl _ _) (Nat.le_refl _) (by simp) ?_; (case hd => rfl); (case hg => rfl); (case hr => first | (go_simp; done) | (go_simp; rfl)); (case hp => exact (Reps.c3 (show Kd.M k115 _ _ _ (⟨2, 3, 19⟩ : S115) [.int .i64 2, .int .i64 3, .int .i64 19] from (k115_mkM _ _ _ (⟨2, 3, 19⟩ : S115) )) (Reps.c3 (show Kd.M k115 _ _ _ (⟨3, 1, 6⟩ : S115) [.int .i64 3, .int .i64 1, .int .i64 6] from (k115_mkM _ _ _ (⟨3, 1, 6⟩ : S115) )) (Reps.c3 (show Kd.M k115 _ _ _ (⟨4, 1, 12⟩ : S115) [.int .i64 4, .int .i64 1, .int .i64 12] from (k115_mkM _ _ _ (⟨4, 1, 12⟩ : S115) )) (Reps.c3 (show Kd.M k115 _ _ _ (⟨7, 1, 10⟩ : S115) [.int .i64 7, .int .i64 1, .int .i64 10] from (k115_mkM _ _ _ (⟨7, 1, 10⟩ : S115) )) (Reps.c3 (show Kd.M k115 _ _ _ (⟨11, 1, 6⟩ : S115) [.int .i64 11, .int .i64 1, .int .i64 6] from (k115_mkM _ _ _ (⟨11, 1, 6⟩ : S115) )) (Reps.c3 (show Kd.M k115 _ _ _ (⟨14, 1, 4⟩ : S115) [.int .i64 14, .int .i64 1, .int .i64 4] from (k115_mkM _ _ _ (⟨14, 1, 4⟩ : S115) )) (Reps.c3 (show Kd.M k115 _ _ _ (⟨37, 2, 12⟩ : S115) [.int .i64 37, .int .i64 2, .int .i64 12] from (k115_mkM _ _ _ (⟨37, 2, 12⟩ : S115) )) (Reps.c3 (show Kd.M k115 _ _ _ (⟨38, 2, 6⟩ : S115) [.int .i64 38, .int .i64 2, .int .i64 6] from (k115_mkM _ _ _ (⟨38, 2, 6⟩ : S115) )) (Reps.c3 (show Kd.M k115 _ _ _ (⟨39, 2, 2⟩ : S115) [.int .i64 39, .int .i64 2, .int .i64 2] from (k115_mkM _ _ _ (⟨39, 2, 2⟩ : S115) )) (Reps.c3 (show Kd.M k115 _ _ _ (⟨41, 2, 8⟩ : S115) [.int .i64 41, .int .i64 2, .int .i64 8] from (k115_mkM _ _ _ (⟨41, 2, 8⟩ : S115) )) (Reps.c3 (show Kd.M k115 _ _ _ (⟨48, 5, 60⟩ : S115) [.int .i64 48, .int .i64 5, .int .i64 60] from (k115_mkM _ _ _ (⟨48, 5, 60⟩ : S115) )) (Reps.c3 (show Kd.M k115 _ _ _ (⟨49, 1, 3⟩ : S115) [.int .i64 49, .int .i64 1, .int .i64 3] from (k115_mkM _ _ _ (⟨49, 1, 3⟩ : S115) )) (Reps.c3 (show Kd.M k115 _ _ _ (⟨54, 5, 60⟩ : S115) [.int .i64 54, .int .i64 5, .int .i64 60] from (k115_mkM _ _ _ (⟨54, 5, 60⟩ : S115) )) (Reps.c3 (show Kd.M k115 _ _ _ (⟨95, 2, 12⟩ : S115) [.int .i64 95, .int .i64 2, .int .i64 12] from (k115_mkM _ _ _ (⟨95, 2, 12⟩ : S115) )) (Reps.c3 (show Kd.M k115 _ _ _ (⟨102, 4, 20⟩ : S115) [.int .i64 102, .int .i64 4, .int .i64 20] from (k115_mkM _ _ _ (⟨102, 4, 20⟩ : S115) )) (Reps.c3 (show Kd.M k115 _ _ _ (⟨103, 4, 20⟩ : S115) [.int .i64 103, .int .i64 4, .int .i64 20] from (k115_mkM _ _ _ (⟨103, 4, 20⟩ : S115) )) (Reps.none _ _)))))))))))))))))); intro v211 w1 ho2 hb hg_ hnew_; clear hg_ hnew_; (first | rw [← Ny210.out] at ho2 | (simp only [Int.reduceToNat] at ho2; rw [← Ny210.out] at ho2)); have HO212 := Aside0.mk (Kd.R_lower ho2 (below_size bl_)); replace HB := Aside0.mk (below_step bl_ hb); clear hb ho2))
 go_ret
 exact ⟨_, by first | rfl | (simp [errW_none, errW_some] <;> rfl) | (simp [*, errW_none, errW_some] <;> rfl), ra_ HO212, bl_⟩
/-! ### impl_rowOf: function 112 -/
def impl_rowOf.l0 : Nat → Int → List (S115) → Int → Int → Option (Int × Int × Int)
 | 0, _, _, _, _ => none
 | k + 1, x0, x5, x6, x7 => if x7 < x6 then (if 0 ≤ x7 then (if x7 < (x5.length : Int) then (if ((rd_T115 x5 x7).f0) = x0 then (some ((rd_T115 x5 x7).f0, (rd_T115 x5 x7).f1, (rd_T115 x5 x7).f2)) else (impl_rowOf.l0 k x0 x5 x6 (wrap64 (x7 + 1)))) else (none)) else (none)) else (some (0, 0, 0))
def impl_rowOf.f (k : Nat) (a0 : Int) : Option (Int × Int × Int) := (impl_fieldRows.f).bind fun t214 => (impl_rowOf.l0 k a0 t214 (t214.length : Int) 0)
set_option maxHeartbeats 8000000 in
set_option maxRecDepth 100000 in
theorem impl_rowOf.calls (k : Nat) (a0 : Int) (r1 : Int) (r2 : Int) (r3 : Int) (w : World) (h : impl_rowOf.f k a0 = some (r1, r2, r3)) :
  Calls Tryz.prog 112 #[.int .i64 a0] w fun e w' => e = .returned (.agg #[.int .i64 r1, .int .i64 r2, .int .i64 r3]) ∧ Below w.heap.size w w' := by
 have hu115 := Tryz.underlying115
 have HB := Aside0.mk (Below.refl w.heap.size w)
 have H : ((impl_fieldRows.f).bind fun t214 => (impl_rowOf.l0 k a0 t214 (t214.length : Int) 0)) = some (r1, r2, r3) := h
 clear h
 obtain ⟨t214, A2, H⟩ := ob_ H
 have H' := Aside0.mk H
 clear H
 go_enter Tryz.func112, Tryz.ntmps112
 go_wp2_with (first | ((with_reducible refine gate_dst (N := 2) rfl ?_); refine be_ (N := 2) (cs := #[.int .i64 0, .int .i64 0, .int .i64 0]) (t := 115) ?_; intro gb213 hg w3 hbox hb; have BK213 := Aside0.mk (hbox); have GW213 := gw_ (w := w) hg; have GE213 := gw_ (w := w) hg; replace HB := Aside0.mk (below_step bl_ hb); clear hb hbox hg) | ((with_reducible refine gate_callee (f := 144) rfl ?_); refine goesL_ (some 5) rfl rfl Tryz.func144 (by kernel_rfl) rfl #[] rfl gl_ ?_; (with_reducible refine (impl_fieldRows.calls  t214 _ A2.out).mono ?_); rintro e w4 ⟨v215, rfl, ho0, hb⟩; refine ⟨_, rfl, ?_⟩; have HO216 := Aside0.mk (Kd.R_lower (Kd.R_newB ho0 (bk_ BK213)) (below_size bl_)); replace BK213 := Aside0.mk (blk_below (bk_ BK213) hb); replace HB := Aside0.mk (below_step bl_ hb); (try clear hb); (try clear hb2); (try clear hk); (try clear hi); (try clear ho0); obtain ⟨Ao5, co5, eo5⟩ := Kd.R_slice HO216.out; subst eo5))
 go_loopg [7] k (fun kq v7 w' => ∃ (x7_1 : Int) (x214000_1 : Int) (x214001_1 : Int) (x214002_1 : Int), v7 = .int .i64 x7_1 ∧ Aside0 (impl_rowOf.l0 kq a0 t214 (t214.length : Int) x7_1 = some (r1, r2, r3)) ∧ Aside0 (kq ≤ k) ∧ Aside0 (Kd.R k115 115 w' w.heap.size (fun k_ => k_ ≠ gb213) (.slice Ao5 t214.length co5) t214) ∧ Aside0 (w'.heap[gb213]? = some (.cells #[.int .i64 x214000_1, .int .i64 x214001_1, .int .i64 x214002_1] 115 (0, 0))) ∧ Aside0 (Below w.heap.size w w'))
 case atStart => exact ⟨(0), (0), (0), (0), sp_, H', ⟨Nat.le_refl _⟩, ⟨by (with_reducible repeat (first | apply Kd.R_alloc | apply Kd.R_drewN | apply Kd.R_drew)); exact Kd.R_mono HO216.out (fun _ hk => hk.2)⟩, ⟨by (with_reducible repeat (first | refine blk_drewN ?_ _ | refine blk_drew ?_ | refine blk_alloc ?_ _)); exact BK213.out⟩, ⟨bl_⟩⟩
 case round =>
  clear H'
  try clear c1
  try clear p2
  obtain ⟨x7_1, x214000_1, x214001_1, x214002_1, rfl, HA, HK1, HO_5, BK213, HB⟩ := hrel
  cases gk with
  | zero => exact absurd HA.out (by simp [impl_rowOf.l0])
  | succ k1 =>
   have H := HA.out
   clear HA
   simp only [impl_rowOf.l0] at H
   by_cases c6 : x7_1 < (t214.length : Int)
   ·rw [if_pos c6] at H
    have c6b0 : decide (x7_1 < (t214.length : Int)) = true := decide_eq_true c6
    clear c6
    by_cases c7 : 0 ≤ x7_1
    ·rw [if_pos c7] at H
     have c7b0 : decide (0 ≤ x7_1) = true := decide_eq_true c7
     clear c7
     by_cases c8 : x7_1 < (t214.length : Int)
     ·rw [if_pos c8] at H
      have c8b0 : decide (x7_1 < (t214.length : Int)) = true := decide_eq_true c8
      clear c8
      by_cases c9 : ((rd_T115 t214 x7_1).f0) = a0
      ·rw [if_pos c9] at H
       have c9b0 : (((rd_T115 t214 x7_1).f0) == a0) = true := beq_iff_eq.mpr c9
       have c9b1 : (((rd_T115 t214 x7_1).f0) != a0) = false := bne_eq_false_iff_eq.mpr c9
       clear c9
       simp only [Option.some.injEq, Prod.mk.injEq] at H
       obtain ⟨rfl, rfl, rfl⟩ := H
       have p217 : 0 ≤ (x7_1 : Int) := od_
       have q217 : x7_1 < (t214.length : Int) := od_
       obtain ⟨ad217, e217, hx217_0, hx217_1, hx217_2⟩ := at_T115 (Kd.R_reads' HO_5.out).2.2 x7_1 p217 q217
       cases e217
       replace p217 := eq_true p217
       replace q217 := eq_true q217
       go_wp2_with (first | ((with_reducible refine gate_dst (N := 4) rfl ?_); refine be_ (N := 4) (cs := #[.int .i64 0, .int .i64 0, .int .i64 0]) (t := 115) ?_; intro gb218 hg w10 hbox hb; replace HO_5 := Aside0.mk (Kd.R_below (Kd.R_elderB (ra_ HO_5) gb218 (Nat.le_of_eq hg.symm)) hb); have BK218 := Aside0.mk (hbox); have GW218 := gw_ (w := w) hg; have GE218 := gw_ (w := w) hg; replace HB := Aside0.mk (below_step bl_ hb); have NB213_218 := Aside0.mk ((by rw [hg]; exact Nat.ne_of_lt (blk_lt (bk_ BK213)) : gb213 ≠ gb218)); have NB218_213 := Aside0.mk ((by rw [hg]; exact Nat.ne_of_gt (blk_lt (bk_ BK213)) : gb218 ≠ gb213)); replace BK213 := Aside0.mk (blk_below (bk_ BK213) hb); clear hb hbox hg; have hnb11 := NB218_213.out; have hnc11 := NB213_218.out; obtain ⟨hcz12_0, hcz12_1, hcz12_2, hfz12_0, hfz12_1, hfz12_2⟩ := bx3_ BK218; obtain ⟨hcz13_0, hcz13_1, hcz13_2, hfz13_0, hfz13_1, hfz13_2⟩ := bx3_ BK213))
       refine bodyPost_ret (results_cell_row rfl _ _ gb213 115 #[.int .i64 ((rd_T115 t214 x7_1).f0), .int .i64 ((rd_T115 t214 x7_1).f1), .int .i64 ((rd_T115 t214 x7_1).f2)] (0, 0) _ rfl (by (with_reducible repeat (first | refine blk_drewN ?_ _ | refine blk_drew ?_ | refine blk_alloc ?_ _)); apply bq3_2_1_0_; (with_reducible repeat (first | refine blk_drewN ?_ _ | refine blk_drew ?_ | refine blk_alloc ?_ _)); refine blk_far ?_ NB213_218.out _; (with_reducible repeat (first | refine blk_drewN ?_ _ | refine blk_drew ?_ | refine blk_alloc ?_ _)); refine blk_far ?_ NB213_218.out _; (with_reducible repeat (first | refine blk_drewN ?_ _ | refine blk_drew ?_ | refine blk_alloc ?_ _)); refine blk_far ?_ NB213_218.out _; (with_reducible repeat (first | refine blk_drewN ?_ _ | refine blk_drew ?_ | refine blk_alloc ?_ _)); exact BK213.out) Tryz.underlying115 rfl (by kernel_rfl)) rfl ?_
       exact ⟨sq_, bl_⟩
      ·rw [if_neg c9] at H
       have c9b0 : (((rd_T115 t214 x7_1).f0) == a0) = false := beq_eq_false_iff_ne.mpr c9
       have c9b1 : (((rd_T115 t214 x7_1).f0) != a0) = true := bne_iff_ne.mpr c9
       have H' := Aside0.mk H
       clear H
       have p217 : 0 ≤ (x7_1 : Int) := od_
       have q217 : x7_1 < (t214.length : Int) := od_
       obtain ⟨ad217, e217, hx217_0, hx217_1, hx217_2⟩ := at_T115 (Kd.R_reads' HO_5.out).2.2 x7_1 p217 q217
       cases e217
       replace p217 := eq_true p217
       replace q217 := eq_true q217
       go_wp2_with (first | ((with_reducible refine gate_dst (N := 4) rfl ?_); refine be_ (N := 4) (cs := #[.int .i64 0, .int .i64 0, .int .i64 0]) (t := 115) ?_; intro gb218 hg w14 hbox hb; replace HO_5 := Aside0.mk (Kd.R_below (Kd.R_elderB (ra_ HO_5) gb218 (Nat.le_of_eq hg.symm)) hb); have BK218 := Aside0.mk (hbox); have GW218 := gw_ (w := w) hg; have GE218 := gw_ (w := w) hg; replace HB := Aside0.mk (below_step bl_ hb); have NB213_218 := Aside0.mk ((by rw [hg]; exact Nat.ne_of_lt (blk_lt (bk_ BK213)) : gb213 ≠ gb218)); have NB218_213 := Aside0.mk ((by rw [hg]; exact Nat.ne_of_gt (blk_lt (bk_ BK213)) : gb218 ≠ gb213)); replace BK213 := Aside0.mk (blk_below (bk_ BK213) hb); clear hb hbox hg; have hnb15 := NB218_213.out; have hnc15 := NB213_218.out; obtain ⟨hcz16_0, hcz16_1, hcz16_2, hfz16_0, hfz16_1, hfz16_2⟩ := bx3_ BK218))
       go_roundg k1
       case measure => have := HK1.out; omega
       case rel => exact ⟨(wrap64 (x7_1 + 1)), (x214000_1), (x214001_1), (x214002_1), sp_, H', ⟨by have := HK1.out; omega⟩, ⟨by (with_reducible repeat (first | apply Kd.R_alloc | apply Kd.R_drewN | apply Kd.R_drew)); exact Kd.R_mono (Kd.R_far (p := ⟨gb218, 2, none⟩) (Kd.R_far (p := ⟨gb218, 1, none⟩) (Kd.R_far (p := ⟨gb218, 0, none⟩) (Kd.R_mono HO_5.out (fun k_ hk => (⟨hk, hk.2⟩ : _ ∧ k_ ≠ gb218))) (fun _ hk => hk.2) (.int .i64 ((rd_T115 t214 x7_1).f0))) (fun _ hk => hk.2) (.int .i64 ((rd_T115 t214 x7_1).f1))) (fun _ hk => hk.2) (.int .i64 ((rd_T115 t214 x7_1).f2))) (fun _ hk => hk.1.1)⟩, ⟨by (with_reducible repeat (first | refine blk_drewN ?_ _ | refine blk_drew ?_ | refine blk_alloc ?_ _)); refine blk_far ?_ NB213_218.out _; (with_reducible repeat (first | refine blk_drewN ?_ _ | refine blk_drew ?_ | refine blk_alloc ?_ _)); refine blk_far ?_ NB213_218.out _; (with_reducible repeat (first | refine blk_drewN ?_ _ | refine blk_drew ?_ | refine blk_alloc ?_ _)); refine blk_far ?_ NB213_218.out _; (with_reducible repeat (first | refine blk_drewN ?_ _ | refine blk_drew ?_ | refine blk_alloc ?_ _)); exact BK213.out⟩, ⟨bl_⟩⟩
     ·rw [if_neg c8] at H
      exact absurd H (by simp)
    ·rw [if_neg c7] at H
     exact absurd H (by simp)
   ·rw [if_neg c6] at H
    have c6b0 : decide (x7_1 < (t214.length : Int)) = false := decide_eq_false c6
    clear c6
    simp only [Option.some.injEq, Prod.mk.injEq] at H
    obtain ⟨rfl, rfl, rfl⟩ := H
    have hcz17_0 := cz_ BK213 0 (.int .i64 x214000_1)
    have hcz17_1 := cz_ BK213 1 (.int .i64 x214001_1)
    have hcz17_2 := cz_ BK213 2 (.int .i64 x214002_1)
    have hfz17_0 := fz_ BK213 0
    have hfz17_1 := fz_ BK213 1
    have hfz17_2 := fz_ BK213 2
    go_wp2
    refine bodyPost_ret (results_cell_row rfl _ _ gb213 115 #[.int .i64 0, .int .i64 0, .int .i64 0] (0, 0) _ rfl (by (with_reducible repeat (first | refine blk_drewN ?_ _ | refine blk_drew ?_ | refine blk_alloc ?_ _)); apply bq3_2_1_0_; (with_reducible repeat (first | refine blk_drewN ?_ _ | refine blk_drew ?_ | refine blk_alloc ?_ _)); exact BK213.out) Tryz.underlying115 rfl (by kernel_rfl)) rfl ?_
    exact ⟨sq_, bl_⟩
/-! ### impl_Printable: function 113 -/
def impl_Printable.l0 : Nat → ByteArray → Int → Int → Option (Bool)
 | 0, _, _, _ => none
 | k + 1, x0, x5, x6 => if x6 < x5 then (if 0 ≤ x6 then (if x6 < (x0.size : Int) then (if (bt x0 x6) < 32 then (some false) else (if (bt x0 x6) > 126 then (some false) else (impl_Printable.l0 k x0 x5 (wrap64 (x6 + 1))))) else (none)) else (none)) else (some true)
def impl_Printable.f (k : Nat) (a0 : ByteArray) : Option (Bool) := impl_Printable.l0 k a0 (a0.size : Int) 0
set_option maxHeartbeats 8000000 in
set_option maxRecDepth 100000 in
theorem impl_Printable.calls (k : Nat) (a0 : ByteArray) (r : Bool) (w : World) (h : impl_Printable.f k a0 = some r) :
  Calls Tryz.prog 113 #[.string a0] w fun e w' => e = .returned (.bool r) ∧ Drawn0 w w' := by
 have H : (impl_Printable.l0 k a0 (a0.size : Int) 0) = some r := h
 clear h
 have H' := Aside0.mk H
 clear H
 go_enter Tryz.func113, Tryz.ntmps113
 go_wp2
 go_loopg [6] k (fun kq v6 w' => ∃ (x6_1 : Int), v6 = .int .i64 x6_1 ∧ Aside0 (impl_Printable.l0 kq a0 (a0.size : Int) x6_1 = some r) ∧ Aside0 (kq ≤ k) ∧ Drawn0 w w')
 case atStart => exact ⟨(0), sp_, H', ⟨Nat.le_refl _⟩, by repeat (first | exact Drawn0.refl _ | apply Drawn0.step)⟩
 case round =>
  clear H'
  try clear c1
  obtain ⟨x6_1, rfl, HA, HK1, ⟨m1, rfl⟩⟩ := hrel
  cases gk with
  | zero => exact absurd HA.out (by simp [impl_Printable.l0])
  | succ k1 =>
   have H := HA.out
   clear HA
   simp only [impl_Printable.l0] at H
   by_cases c2 : x6_1 < (a0.size : Int)
   ·rw [if_pos c2] at H
    have c2b0 : decide (x6_1 < (a0.size : Int)) = true := decide_eq_true c2
    clear c2
    by_cases c3 : 0 ≤ x6_1
    ·rw [if_pos c3] at H
     have c3b0 : decide (0 ≤ x6_1) = true := decide_eq_true c3
     clear c3
     by_cases c4 : x6_1 < (a0.size : Int)
     ·rw [if_pos c4] at H
      have c4b0 : decide (x6_1 < (a0.size : Int)) = true := decide_eq_true c4
      clear c4
      by_cases c6 : (bt a0 x6_1) < 32
      ·rw [if_pos c6] at H
       have c6b0 : decide ((bt a0 x6_1) < 32) = true := decide_eq_true c6
       clear c6
       obtain rfl := Option.some.inj H
       have p5 : 0 ≤ (x6_1 : Int) := od_
       have q5 : x6_1 < (a0.size : Int) := od_
       have hx5 := bt_at a0 x6_1
       replace p5 := eq_true p5
       replace q5 := eq_true q5
       go_wp2
       go_ret
       exact ⟨sp_, by repeat (first | exact Drawn0.refl _ | apply Drawn0.step)⟩
      ·rw [if_neg c6] at H
       have c6b0 : decide ((bt a0 x6_1) < 32) = false := decide_eq_false c6
       clear c6
       by_cases c8 : (bt a0 x6_1) > 126
       ·rw [if_pos c8] at H
        have c8b0 : decide (126 < (bt a0 x6_1)) = true := decide_eq_true c8
        clear c8
        obtain rfl := Option.some.inj H
        have p5 : 0 ≤ (x6_1 : Int) := od_
        have q5 : x6_1 < (a0.size : Int) := od_
        have hx5 := bt_at a0 x6_1
        replace p5 := eq_true p5
        replace q5 := eq_true q5
        have p7 : 0 ≤ (x6_1 : Int) := od_
        have q7 : x6_1 < (a0.size : Int) := od_
        have hx7 := bt_at a0 x6_1
        replace p7 := eq_true p7
        replace q7 := eq_true q7
        go_wp2
        go_ret
        exact ⟨sp_, by repeat (first | exact Drawn0.refl _ | apply Drawn0.step)⟩
       ·rw [if_neg c8] at H
        have c8b0 : decide (126 < (bt a0 x6_1)) = false := decide_eq_false c8
        clear c8
        have H' := Aside0.mk H
        clear H
        have p5 : 0 ≤ (x6_1 : Int) := od_
        have q5 : x6_1 < (a0.size : Int) := od_
        have hx5 := bt_at a0 x6_1
        replace p5 := eq_true p5
        replace q5 := eq_true q5
        have p7 : 0 ≤ (x6_1 : Int) := od_
        have q7 : x6_1 < (a0.size : Int) := od_
        have hx7 := bt_at a0 x6_1
        replace p7 := eq_true p7
        replace q7 := eq_true q7
        go_wp2
        go_roundg k1
        case measure => have := HK1.out; omega
        case rel => exact ⟨(wrap64 (x6_1 + 1)), sp_, H', ⟨by have := HK1.out; omega⟩, by repeat (first | exact Drawn0.refl _ | apply Drawn0.step)⟩
     ·rw [if_neg c4] at H
      exact absurd H (by simp)
    ·rw [if_neg c3] at H
     exact absurd H (by simp)
   ·rw [if_neg c2] at H
    have c2b0 : decide (x6_1 < (a0.size : Int)) = false := decide_eq_false c2
    clear c2
    obtain rfl := Option.some.inj H
    go_wp2
    go_ret
    exact ⟨sp_, by repeat (first | exact Drawn0.refl _ | apply Drawn0.step)⟩
end Go.Proofs.YtohfefkjcnbejaaGreatDoor.QFnExactReqOf
