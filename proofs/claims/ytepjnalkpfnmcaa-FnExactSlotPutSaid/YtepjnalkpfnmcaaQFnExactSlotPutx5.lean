-- by my own printer (myprint.py, over the kit's print.py)
import Derived.Test.YtepjnalkpfnmcaaQFnExactSlotPutx0
import Derived.Test.YtepjnalkpfnmcaaQFnExactSlotPutx4
namespace Go.Proofs.Ytepjnalkpfnmcaa.QFnExactSlotPut
open Go.RowKit Go.Proofs.YtepjnalkpfnmcaaW.PrintWords Go.Proofs.YtepjnalkpfnmcaaW.PrintLast Go.Proofs.YtepjnalkpfnmcaaW.PrintMore
attribute [local go_sem] max2_int min2_int max_two min_two max_three min_three max_four min_four   -- for this text's walks alone
set_option linter.unusedVariables false
set_option linter.unusedSimpArgs false
attribute [local go_sem] my_geq my_leq my_gtr
abbrev tb12_0_5 : Array Bool := #[b0, b0, b0, b0, b0, b0, b0, b0, b0, b0, b0, b0]
abbrev tb12_1_5 : Array Bool := #[b1, b0, b0, b0, b0, b0, b0, b0, b0, b0, b0, b0]
abbrev tb12_1ff_5 : Array Bool := #[b1, b1, b1, b1, b1, b1, b1, b1, b1, b0, b0, b0]
abbrev tb12_2b_5 : Array Bool := #[b1, b1, b0, b1, b0, b1, b0, b0, b0, b0, b0, b0]
abbrev tb12_2f_5 : Array Bool := #[b1, b1, b1, b1, b0, b1, b0, b0, b0, b0, b0, b0]
abbrev tb12_3_5 : Array Bool := #[b1, b1, b0, b0, b0, b0, b0, b0, b0, b0, b0, b0]
abbrev tb12_3f_5 : Array Bool := #[b1, b1, b1, b1, b1, b1, b0, b0, b0, b0, b0, b0]
abbrev tb12_3ff_5 : Array Bool := #[b1, b1, b1, b1, b1, b1, b1, b1, b1, b1, b0, b0]
abbrev tb12_7f_5 : Array Bool := #[b1, b1, b1, b1, b1, b1, b1, b0, b0, b0, b0, b0]
abbrev tb12_7ff_5 : Array Bool := #[b1, b1, b1, b1, b1, b1, b1, b1, b1, b1, b1, b0]
abbrev tb12_b_5 : Array Bool := #[b1, b1, b0, b1, b0, b0, b0, b0, b0, b0, b0, b0]
abbrev tb12_ff_5 : Array Bool := #[b1, b1, b1, b1, b1, b1, b1, b1, b0, b0, b0, b0]
abbrev tb12_fff_5 : Array Bool := #[b1, b1, b1, b1, b1, b1, b1, b1, b1, b1, b1, b1]
/-! ### impl_copySlots: function 114 -/
def impl_copySlots.l0 : Nat → List (S74) → List (S74) → Int → Int → Option ((List (S74)))
 | 0, _, _, _, _ => none
 | k + 1, x3, x7, x8, x9 => if x9 < x8 then (if 0 ≤ x9 then (if x9 < (x7.length : Int) then ((slices_Clone_byte_byte.f ((rd_T74 x7 x9).f2)).bind fun t190 => (if x3.length < 2513169434916 then (impl_copySlots.l0 k (x3 ++ [(⟨(rd_T74 x7 x9).f0, (rd_T74 x7 x9).f1, t190⟩ : S74)]) x7 x8 (wrap64 (x9 + 1))) else (none))) else (none)) else (none)) else (some x3)
def impl_copySlots.f (k : Nat) (l0 : List (S74)) : Option ((List (S74))) := impl_copySlots.l0 k (([] : List (S74))) l0 (l0.length : Int) 0
def impl_copySlots.T5 : Bool × List (List Nat × List Nat) := (true, [([], []), ([], []), ([1], [1]), ([], []), ([3], [3]), ([], []), ([5], [5]), ([6], [6]), ([2, 4, 7], [2, 4, 7]), ([8], [8]), ([0, 9, 7], [0, 9]), ([10, 10, 0, 1, 2, 3, 4, 5, 6, 7, 8, 9, 10], [0, 10])])
def impl_copySlots.B5 : List Nat := [0, 0, 2, 0, 8, 0, 32, 96, 254, 510, 1023, 2047]
theorem impl_copySlots.tab5 : rtab .any (opsOf Try.f114 5) = impl_copySlots.T5 := by kernel_rfl
theorem impl_copySlots.bits5 : waitsOk impl_copySlots.T5.2 impl_copySlots.B5 = true := by kernel_rfl
set_option maxHeartbeats 8000000 in
set_option maxRecDepth 100000 in
theorem impl_copySlots.calls (k : Nat) (A0 : Option Addr) (c0 : Nat) (l0 : List (S74)) (r : List (S74)) (w : World) (hr0 : Kd.C k74 w A0 l0.length l0) (hc0 : l0.length ≤ c0) (h : impl_copySlots.f k l0 = some r) :
  Calls Try.prog 114 #[.slice A0 l0.length c0] w fun e w' => ∃ v0_ : Value, e = .returned (v0_) ∧ Kd.S k74 74 w' w.heap.size (fun _ => True) v0_ r ∧ Below w.heap.size w w' := by
 have hu74 := Try.underlying74
 have HR0 := Aside0.mk hr0
 have HC0 := Aside0.mk hc0
 clear hr0 hc0
 have HB := Aside0.mk (Below.refl w.heap.size w)
 have H : (impl_copySlots.l0 k (([] : List (S74))) l0 (l0.length : Int) 0) = some r := h
 clear h
 obtain ⟨y185, hy185⟩ : ∃ y_ : List (S74), y_ = (([] : List (S74))) := ⟨_, rfl⟩
 replace H : (impl_copySlots.l0 k y185 l0 (l0.length : Int) 0) = some r := by first | (rw [hy185]; with_reducible exact H) | (have H2_ := (Option.bind_some _ _).symm.trans H; rw [hy185]; with_reducible exact H2_) | (have H2_ := (Option.bind_some _ _).symm.trans H; with_reducible exact H2_) | with_reducible exact H | (rw [hy185]; exact H) | exact H
 have Ny185 := Aside0.mk hy185
 clear hy185
 have H' := Aside0.mk H
 clear H
 go_enter Try.func114, Try.ntmps114
 go_wp2_with (first | ((with_reducible refine gate_dst (N := 6) rfl ?_); refine Kd.S_lit k74 _ 74 ?hg (N := 6) ?hd (xs := ([] : List (S74))) (inner := []) (ok := fun _ => True) (okp := fun _ => True) ?hr ?hp (fun _ hk => hk) trivial (Below.refl _ _) (Nat.le_refl _) (by simp) ?_; (case hd => rfl); (case hg => rfl); (case hr => first | (go_simp; done) | (go_simp; rfl)); (case hp => exact (Reps.none _ _)); intro v186 w2 ho3 hb hg_ hnew_; clear hg_ hnew_; (first | rw [← Ny185.out] at ho3 | (simp only [Int.reduceToNat] at ho3; rw [← Ny185.out] at ho3)); have HO187 := Aside0.mk (Kd.S_lower ho3 (below_size bl_)); replace HB := Aside0.mk (below_step bl_ hb); clear hb ho3))
 go_loopg [3, 9] k (fun kq v3 v9 w' => ∃ (x3_1 : List (S74)) (x9_1 : Int), v9 = .int .i64 x9_1 ∧ Aside0 (impl_copySlots.l0 kq x3_1 l0 (l0.length : Int) x9_1 = some r) ∧ Aside0 (kq ≤ k) ∧ Aside0 (Kd.S k74 74 w' w.heap.size (fun _ => True) v3 x3_1) ∧ Aside0 (Below w.heap.size w w'))
 case atStart => exact ⟨(y185), (0), sp_, H', ⟨Nat.le_refl _⟩, ⟨by (with_reducible repeat (first | apply Kd.S_alloc | apply Kd.S_drewN | apply Kd.S_drew)); exact HO187.out⟩, ⟨bl_⟩⟩
 case round =>
  clear H'
  try clear c1
  try clear p2
  obtain ⟨x3_1, x9_1, rfl, HA, HK1, HO_3, HB⟩ := hrel
  cases gk with
  | zero => exact absurd HA.out (by simp [impl_copySlots.l0])
  | succ k1 =>
   have H := HA.out
   clear HA
   simp only [impl_copySlots.l0] at H
   by_cases c4 : x9_1 < (l0.length : Int)
   ·rw [if_pos c4] at H
    have c4b0 : decide (x9_1 < (l0.length : Int)) = true := decide_eq_true c4
    clear c4
    by_cases c5 : 0 ≤ x9_1
    ·rw [if_pos c5] at H
     have c5b0 : decide (0 ≤ x9_1) = true := decide_eq_true c5
     clear c5
     by_cases c6 : x9_1 < (l0.length : Int)
     ·rw [if_pos c6] at H
      have c6b0 : decide (x9_1 < (l0.length : Int)) = true := decide_eq_true c6
      clear c6
      obtain ⟨t190, A7, H⟩ := ob_ H
      by_cases c8 : x3_1.length < 2513169434916
      ·rw [if_pos c8] at H
       have LMc8 := Aside0.mk c8
       clear c8
       obtain ⟨y193, hy193⟩ : ∃ y_ : List (S74), y_ = (x3_1 ++ [(⟨(rd_T74 l0 x9_1).f0, (rd_T74 l0 x9_1).f1, t190⟩ : S74)]) := ⟨_, rfl⟩
       replace H : (impl_copySlots.l0 k1 y193 l0 (l0.length : Int) (wrap64 (x9_1 + 1))) = some r := by first | (rw [hy193]; with_reducible exact H) | (have H2_ := (Option.bind_some _ _).symm.trans H; rw [hy193]; with_reducible exact H2_) | (have H2_ := (Option.bind_some _ _).symm.trans H; with_reducible exact H2_) | with_reducible exact H | (rw [hy193]; exact H) | exact H
       have Ny193 := Aside0.mk hy193
       clear hy193
       have H' := Aside0.mk H
       clear H
       have p188 : 0 ≤ (x9_1 : Int) := od_
       have q188 : x9_1 < (l0.length : Int) := od_
       obtain ⟨ad188, A188_2, c188_2, e188, hx188_0, hx188_1, hx188_2, hl188_2, hi188_2⟩ := at_T74 HR0.out x9_1 p188 q188
       cases e188
       replace hx188_0 := kc_ HB hx188_0
       replace hx188_1 := kc_ HB hx188_1
       replace hx188_2 := kc_ HB hx188_2
       have HR188_2 := Aside0.mk hi188_2
       have HC188_2 := Aside0.mk hl188_2
       clear hi188_2 hl188_2
       replace p188 := eq_true p188
       replace q188 := eq_true q188
       try go_wp2_with (first | ((with_reducible refine gate_dst (N := 5) rfl ?_); refine be_ (N := 5) (cs := #[.string (⟨#[]⟩ : ByteArray), .string (⟨#[]⟩ : ByteArray), .slice none 0 0]) (t := 74) ?_; intro gb189 hg w9 hbox hb; replace HO_3 := Aside0.mk (Kd.S_below (Kd.S_elderB (by (with_reducible repeat (first | apply Kd.S_alloc | apply Kd.S_drewN | apply Kd.S_drew)); exact HO_3.out) gb189 (Nat.le_of_eq hg.symm)) hb); have BK189 := Aside0.mk (hbox); have GW189 := gw_ (w := w) hg; have GE189 := gw_ (w := w) hg; replace HB := Aside0.mk (below_step bl_ hb); clear hb hbox hg; obtain ⟨hcz10_0, hcz10_1, hcz10_2, hfz10_0, hfz10_1, hfz10_2⟩ := bx3_ BK189))
       have n0_ : Aside0 (Kd.S k74 74 (((w9.setCell ⟨gb189, 0, none⟩ (.string ((rd_T74 l0 x9_1).f0))).setCell ⟨gb189, 1, none⟩ (.string ((rd_T74 l0 x9_1).f1))).setCell ⟨gb189, 2, none⟩ (.slice A188_2 ((rd_T74 l0 x9_1).f2).length c188_2)) w.heap.size (fun k_ => k_ ≠ gb189) u3 x3_1) := ⟨by (with_reducible repeat (first | apply Kd.S_alloc | apply Kd.S_drewN | apply Kd.S_drew)); exact Kd.S_mono (Kd.S_far (p := ⟨gb189, 2, none⟩) (Kd.S_far (p := ⟨gb189, 1, none⟩) (Kd.S_far (p := ⟨gb189, 0, none⟩) (Kd.S_mono HO_3.out (fun k_ hk => (⟨hk, hk.2⟩ : _ ∧ k_ ≠ gb189))) (fun _ hk => hk.2) (.string ((rd_T74 l0 x9_1).f0))) (fun _ hk => hk.2) (.string ((rd_T74 l0 x9_1).f1))) (fun _ hk => hk.2) (.slice A188_2 ((rd_T74 l0 x9_1).f2).length c188_2)) (fun _ hk => hk.1.2)⟩
       have n1_ : Aside0 ((((w9.setCell ⟨gb189, 0, none⟩ (.string ((rd_T74 l0 x9_1).f0))).setCell ⟨gb189, 1, none⟩ (.string ((rd_T74 l0 x9_1).f1))).setCell ⟨gb189, 2, none⟩ (.slice A188_2 ((rd_T74 l0 x9_1).f2).length c188_2)).heap[gb189]? = some (.cells #[.string ((rd_T74 l0 x9_1).f0), .string ((rd_T74 l0 x9_1).f1), .slice A188_2 ((rd_T74 l0 x9_1).f2).length c188_2] 74 (0, 0))) := ⟨by (with_reducible repeat (first | refine blk_drewN ?_ _ | refine blk_drew ?_ | refine blk_alloc ?_ _)); apply bq3_2_1_0_; (with_reducible repeat (first | refine blk_drewN ?_ _ | refine blk_drew ?_ | refine blk_alloc ?_ _)); exact BK189.out⟩
       have n2_ : Aside0 (Below w.heap.size w (((w9.setCell ⟨gb189, 0, none⟩ (.string ((rd_T74 l0 x9_1).f0))).setCell ⟨gb189, 1, none⟩ (.string ((rd_T74 l0 x9_1).f1))).setCell ⟨gb189, 2, none⟩ (.slice A188_2 ((rd_T74 l0 x9_1).f2).length c188_2))) := ⟨bl_⟩
       (try clear HO_3)
       (try clear BK189)
       (try clear HB)
       generalize (((w9.setCell ⟨gb189, 0, none⟩ (.string ((rd_T74 l0 x9_1).f0))).setCell ⟨gb189, 1, none⟩ (.string ((rd_T74 l0 x9_1).f1))).setCell ⟨gb189, 2, none⟩ (.slice A188_2 ((rd_T74 l0 x9_1).f2).length c188_2)) = w11 at n0_ n1_ n2_ ⊢
       have HO_3 := n0_
       have BK189 := n1_
       have HB := n2_
       clear n0_ n1_ n2_
       have n0_ := Aside0.mk (Kd.S_drew HO_3.out)
       have n1_ := Aside0.mk (blk_drew BK189.out)
       have n2_ := Aside0.mk (below_drew1 HB.out)
       clear HO_3
       clear BK189
       clear HB
       have HO_3 := n0_
       have BK189 := n1_
       have HB := n2_
       clear n0_ n1_ n2_
       refine start_ (n := 12) (S := fun w' => w'.cell? ⟨gb189, 0, none⟩ = some (.string ((rd_T74 l0 x9_1).f0)) ∧ w'.cell? ⟨gb189, 1, none⟩ = some (.string ((rd_T74 l0 x9_1).f1)) ∧ w'.cell? ⟨gb189, 2, none⟩ = some (.slice A188_2 ((rd_T74 l0 x9_1).f2).length c188_2)) (ds := []) tb12_0_5 (by kernel_rfl) rfl rfl ⟨cy_ BK189 0, cy_ BK189 1, cy_ BK189 2⟩ (fun hHeld => ?_); refine with_tabW impl_copySlots.tab5 impl_copySlots.bits5 (fun HT_ HW_ => ?_)
       generalize w11.drew = w12 at HO_3 BK189 HB hHeld ⊢
       refine pl_ HT_ 0 13 tb12_1_5 ?_
       refine pl_ HT_ 1 14 tb12_3_5 ?_
       refine pl_ HT_ 3 16 tb12_b_5 ?_
       refine pl_ HT_ 5 18 tb12_2b_5 ?_
       refine take_ (i := 2) (N := some 15) (v := ?_) (a' := ?_) tb12_2f_5 rfl rfl (take_ofW HT_.out HW_.out (by kernel_rfl)) (fun _ _ _ h => h) (Or.inl ⟨by rfl, ?_⟩) hHeld ?_ ?_
       rotate_left
       ·rintro w' ⟨s0, s1, s2⟩
        go_simp
        with_reducible rfl
       rotate_left
       ·simp only [Act.put, q_]
        rfl
       refine take_ (i := 4) (N := some 17) (v := ?_) (a' := ?_) tb12_3f_5 rfl rfl (take_ofW HT_.out HW_.out (by kernel_rfl)) (fun _ _ _ h => h) (Or.inl ⟨by rfl, ?_⟩) hHeld ?_ ?_
       rotate_left
       ·rintro w' ⟨s0, s1, s2⟩
        go_simp
        with_reducible rfl
       rotate_left
       ·simp only [Act.put, q_]
        rfl
       refine take_ (i := 6) (N := some 19) (v := ?_) (a' := ?_) tb12_7f_5 rfl rfl (take_ofW HT_.out HW_.out (by kernel_rfl)) (fun _ _ _ h => h) (Or.inl ⟨by rfl, ?_⟩) hHeld ?_ ?_
       rotate_left
       ·rintro w' ⟨s0, s1, s2⟩
        go_simp
        with_reducible rfl
       rotate_left
       ·simp only [Act.put, q_]
        rfl
       refine one_ (i := 7) (N := some 20) tb12_ff_5 rfl rfl (one_of HT_.out (by kernel_rfl)) (by decide) (fun K hK => ?_)
       refine goes_ Try.func109 (by kernel_rfl) rfl #[.slice A188_2 ((rd_T74 l0 x9_1).f2).length c188_2] (by rfl) rfl rfl gl_ ?_
       with_reducible refine (slices_Clone_byte_byte.calls _ _ ((rd_T74 l0 x9_1).f2) t190 _ ?side1 ?side2 A7.out).mono ?_
       (case side1 => exact ca_ (Kd.C_below HR188_2.out HB.out))
       (case side2 => exact HC188_2.out)
       rintro e w13 ⟨v191, rfl, ho0, hb⟩
       refine ⟨_, rfl, ?_⟩
       have n0_ := Aside0.mk (Kd.S_elder' (by (with_reducible repeat (first | apply Kd.S_alloc | apply Kd.S_drewN | apply Kd.S_drew)); exact HO_3.out) (Kd.R_base ho0) hb)
       have n1_ := Aside0.mk (Kd.R_lower ho0 (below_size bl_))
       have n2_ := Aside0.mk (blk_below (bk_ BK189) hb)
       have n3_ := Aside0.mk (below_step bl_ hb)
       clear HO_3
       clear BK189
       clear HB
       have HO_3 := n0_
       have HO192 := n1_
       have BK189 := n2_
       have HB := n3_
       clear n0_ n1_ n2_ n3_
       (try clear hb)
       (try clear hb2)
       (try clear hk)
       (try clear hi)
       (try clear ho0)
       obtain ⟨Ao14, co14, eo14⟩ := Kd.R_slice HO192.out
       (first | subst eo14 | (injection eo14 with f1_ f2_ f3_; have f4_ := f1_.symm; have f5_ := f3_.symm; clear f1_ f2_ f3_; subst f4_; subst f5_))
       refine hK.out _ _ ⟨cy_ BK189 0, cy_ BK189 1, cy_ BK189 2⟩ (fun hHeld => ?_)
       clear hK K
       refine norm_ (a' := ?_) ?_ ?_
       rotate_left
       ·show Act.put _ (some 20) _ = _
        simp only [Act.put, q_]
        rfl
       refine pl_ HT_ 8 21 tb12_1ff_5 ?_
       refine one_ (i := 9) (N := some 22) tb12_3ff_5 rfl rfl (one_of HT_.out (by kernel_rfl)) (by decide) (fun K hK => ?_)
       refine value_ (w1 := ?_) (v := ?_) (by rfl) rfl ?_ ?_
       rotate_left 2
       ·go_simp
        constructor
        ·rfl
        ·rfl
       refine hK.out _ _ ⟨(blk_cell (blk_alloc BK189.out _) 0).trans rfl, (blk_cell (blk_alloc BK189.out _) 1).trans rfl, (blk_cell (blk_alloc BK189.out _) 2).trans rfl⟩ (fun hHeld => ?_)
       clear hK K
       refine norm_ (a' := ?_) ?_ ?_
       rotate_left
       ·show Act.put _ (some 22) _ = _
        simp only [Act.put, q_]
        rfl
       refine one_ (i := 10) (N := some 23) tb12_7ff_5 rfl rfl (one_of HT_.out (by kernel_rfl)) (by decide) (fun K hK => ?_)
       refine Kd.S_append_step k74 (w0 := w) w.heap.size (by rfl) (.tmp 13) (.tmp 22) 41 74 (.agg #[(.string ⟨#[]⟩), (.string ⟨#[]⟩), (.slice none 0 0)]) 56 rfl Try.underlying41 info74 rfl (by decide) (by omega) u3 x3_1 (⟨(rd_T74 l0 x9_1).f0, (rd_T74 l0 x9_1).f1, t190⟩ : S74) [.string ((rd_T74 l0 x9_1).f0), .string ((rd_T74 l0 x9_1).f1), .slice Ao14 t190.length co14] (fun k_ => k_ ≠ gb189) (fun k_ => some k_ = (.slice Ao14 t190.length co14 : Value).ownBlock) rfl rfl ?aP (fun k_ hk_ => ((Kd.R_mono (ok' := fun k_ => ((fun k_ => k_ ≠ gb189)) k_ ∧ some k_ ≠ (u3 : Value).ownBlock) (Kd.R_types (Kd.R_apart' (HO192.out) (Kd.S_typed HO_3.out) (by decide)) BK189.out (by decide)) (fun k_ hk => ⟨hk.2, hk.1.2⟩))).1 k_ hk_.symm) ?aF ?aO ?aB ?aS ?aL ?_
       (case aP => exact k74_mkM _ _ _ (⟨(rd_T74 l0 x9_1).f0, (rd_T74 l0 x9_1).f1, t190⟩ : S74) (Kd.R_mono (Kd.R_tight rfl (Kd.R_mono (ok' := fun k_ => ((fun k_ => k_ ≠ gb189)) k_ ∧ some k_ ≠ (u3 : Value).ownBlock) (Kd.R_types (Kd.R_apart' (HO192.out) (Kd.S_typed HO_3.out) (by decide)) BK189.out (by decide)) (fun k_ hk => ⟨hk.2, hk.1.2⟩))) (fun _ h_ => h_)))
       (case aB => exact bl_)
       (case aF => exact (fun k_ hk => Kd.freshB (bk_ BK189) k_ hk))
       (case aO => exact (by (with_reducible repeat (first | apply Kd.S_alloc | apply Kd.S_drewN | apply Kd.S_drew)); exact Kd.S_mono HO_3.out (fun k_ hk => ⟨hk.1, fun e_ => hk.2 e_⟩)))
       (case aS => exact (below_size bl_))
       (case aL => have := LMc8.out; omega)
       intro v194 w15 ho hb hg hat
       rw [← Ny193.out] at ho
       have n0_ := Aside0.mk (blk_grown (bk_ BK189) hg (Kd.S_away HO_3.out (fun _ hk => hk.1)))
       have n1_ := Aside0.mk (hb)
       have n2_ := Aside0.mk (ho)
       clear BK189
       clear HB
       clear HO_3
       clear HO192
       have BK189 := n0_
       have HB := n1_
       have HO195 := n2_
       clear n0_ n1_ n2_
       clear ho hb hg hat
       refine hK.out _ _ ⟨cy_ BK189 0, cy_ BK189 1, cy_ BK189 2⟩ (fun hHeld => ?_)
       clear hK K
       refine norm_ (a' := ?_) ?_ ?_
       rotate_left
       ·show Act.put _ (some 23) _ = _
        simp only [Act.put, q_]
        rfl
       refine pl_ HT_ 11 3 tb12_fff_5 ?_
       refine done_ (done_of HT_.out (by kernel_rfl)) ?_
       try go_wp2
       go_roundg k1
       case measure => have := HK1.out; omega
       case rel => exact ⟨(y193), (wrap64 (x9_1 + 1)), sp_, H', ⟨by have := HK1.out; omega⟩, ⟨by (with_reducible repeat (first | apply Kd.S_alloc | apply Kd.S_drewN | apply Kd.S_drew)); exact Kd.S_mono HO195.out (fun _ hk => trivial)⟩, ⟨bl_⟩⟩
      ·rw [if_neg c8] at H
       exact absurd H (by simp)
     ·rw [if_neg c6] at H
      exact absurd H (by simp)
    ·rw [if_neg c5] at H
     exact absurd H (by simp)
   ·rw [if_neg c4] at H
    have c4b0 : decide (x9_1 < (l0.length : Int)) = false := decide_eq_false c4
    clear c4
    obtain rfl := Option.some.inj H
    go_wp2
    go_ret
    exact ⟨_, by first | rfl | (simp [errW_none, errW_some] <;> rfl) | (simp [*, errW_none, errW_some] <;> rfl), by (with_reducible repeat (first | apply Kd.S_alloc | apply Kd.S_drewN | apply Kd.S_drew)); exact HO_3.out, bl_⟩
/-! ### impl_Slot_115: function 115 -/
def impl_Slot_115.f (l0 : List (S74)) : Option ((List (S74))) := (some (([] : List (S74)) : List (S74))).bind fun y196 => (if y196.length + l0.length < 2513169434916 then (some (y196 ++ l0)) else (none))
set_option maxHeartbeats 8000000 in
set_option maxRecDepth 100000 in
theorem impl_Slot_115.calls_some (P0_ : Nat → Prop) (ad0 : Addr) (c0 : Nat) (l0 : List (S74)) (r : List (S74)) (w : World) (hs0 : Kd.V k74 74 w w.heap.size (fun k_ => P0_ k_) (.slice (some ad0) l0.length c0) l0) (h : impl_Slot_115.f l0 = some r) :
  Calls Try.prog 115 #[.slice (some ad0) l0.length c0] w fun e w' => ∃ v0_ : Value, e = .returned (v0_) ∧ Kd.N k74 74 w' w.heap.size (fun k_ => (P0_ k_ ∨ w.heap.size ≤ k_)) v0_ r ∧ Below w.heap.size w w' := by
 have q0_ : ∀ (n c : Nat) (W : World), (binOp .eql 41 (.slice (some ad0) n c) (.slice none 0 0)).run Try.prog W = .ok (.bool false) W := fun n c W => Lib.run_eql_slice_nil W _ _ (some ad0) n c 0 0 Try.underlying41
 have HO0 := Aside0.mk (show Kd.V k74 74 w w.heap.size (fun k_ => (P0_ k_ ∨ w.heap.size ≤ k_)) (.slice (some ad0) l0.length c0) l0 from Kd.V_mono hs0 (fun k_ hk => .inl hk))
 have HB := Aside0.mk (Below.refl w.heap.size w)
 have H : ((some (([] : List (S74)) : List (S74))).bind fun y196 => (if y196.length + l0.length < 2513169434916 then (some (y196 ++ l0)) else (none))) = some r := h
 clear h
 obtain ⟨y196, hy196⟩ : ∃ y_ : List (S74), y_ = (([] : List (S74))) := ⟨_, rfl⟩
 replace H : (if y196.length + l0.length < 2513169434916 then (some (y196 ++ l0)) else (none)) = some r := by first | (rw [hy196]; with_reducible exact H) | (have H2_ := (Option.bind_some _ _).symm.trans H; rw [hy196]; with_reducible exact H2_) | (have H2_ := (Option.bind_some _ _).symm.trans H; with_reducible exact H2_) | with_reducible exact H | (rw [hy196]; exact H) | exact H
 have Ny196 := Aside0.mk hy196
 clear hy196
 by_cases c2 : y196.length + l0.length < 2513169434916
 ·rw [if_pos c2] at H
  have LMc2 := Aside0.mk c2
  clear c2
  obtain ⟨y199, hy199⟩ : ∃ y_ : List (S74), y_ = (y196 ++ l0) := ⟨_, rfl⟩
  replace H : (some y199) = some r := by first | (rw [hy199]; with_reducible exact H) | (have H2_ := (Option.bind_some _ _).symm.trans H; rw [hy199]; with_reducible exact H2_) | (have H2_ := (Option.bind_some _ _).symm.trans H; with_reducible exact H2_) | with_reducible exact H | (rw [hy199]; exact H) | exact H
  have Ny199 := Aside0.mk hy199
  clear hy199
  obtain rfl := Option.some.inj H
  go_enter Try.func115, Try.ntmps115
  go_wp2_with (first | ((with_reducible refine gate_dst (N := 5) rfl ?_); refine Kd.N_lit k74 _ 74 ?hg (N' := 5) ?hd (xs := ([] : List (S74))) (inner := []) (ok := (fun k_ => (P0_ k_ ∨ w.heap.size ≤ k_))) (okp := (fun k_ => (P0_ k_ ∨ w.heap.size ≤ k_))) ?hr ?hp (fun _ hk => hk) ((show ∀ k_, w.heap.size ≤ k_ → (fun k_ => (P0_ k_ ∨ w.heap.size ≤ k_)) k_ from fun k_ hk => (.inr (Nat.le_trans (below_size bl_) hk))) _ (Nat.le_refl _)) (Below.refl _ _) (Nat.le_refl _) (by simp) ?_; (case hd => rfl); (case hg => rfl); (case hr => first | (go_simp; done) | (go_simp; rfl)); (case hp => exact (Reps.none _ _)); intro v197 w3 ho4 hb hg_ hnew_; clear hg_ hnew_; (first | rw [← Ny196.out] at ho4 | (simp only [Int.reduceToNat] at ho4; rw [← Ny196.out] at ho4)); replace HO0 := Aside0.mk (Kd.V_elder' (by (with_reducible repeat (first | apply Kd.V_alloc | apply Kd.V_drewN | apply Kd.V_drew)); exact HO0.out) (Kd.N_base ho4) hb); have HO198 := Aside0.mk (Kd.N_lower ho4 (below_size bl_)); replace HB := Aside0.mk (below_step bl_ hb); clear hb ho4) | ((with_reducible refine gate_builtin (b := .append) (xs := #[.tmp 5, .tmp 6]) rfl ?_); at_builtin; refine Kd.N_append_rows k74 (w0 := w) w.heap.size rfl (.tmp 5) (.tmp 6) 41 74 (.agg #[(.string ⟨#[]⟩), (.string ⟨#[]⟩), (.slice none 0 0)]) 56 rfl Try.underlying41 info74 rfl (by decide) (by omega) v197 y196 l0 _ _ _ (fun k_ => (P0_ k_ ∨ w.heap.size ≤ k_)) (fun k_ => ((fun k_ => (P0_ k_ ∨ w.heap.size ≤ k_))) k_ ∧ some k_ ≠ (v197 : Value).ownBlock) rfl rfl ?aO ?aR (fun _ hk => hk) ?aF ?aB ?aS ?aL ?_; (case aR => exact (by skip; exact Kd.V_F (Kd.V_mono (ok' := (fun k_ => ((fun k_ => (P0_ k_ ∨ w.heap.size ≤ k_))) k_ ∧ some k_ ≠ (v197 : Value).ownBlock)) (HO0.out) (fun k_ hk => ⟨hk.1, hk.2⟩)))); (case aB => exact bl_); (case aF => exact (fun k_ hk => (.inr (Nat.le_trans (below_size bl_) hk)))); (case aO => exact (by (with_reducible repeat (first | apply Kd.N_alloc | apply Kd.N_drewN | apply Kd.N_drew)); exact HO198.out)); (case aS => exact (below_size bl_)); (case aL => have := LMc2.out; omega); intro v200 w5 ho hb hg hat; rw [← Ny199.out] at ho; have n0_ := Aside0.mk (Kd.V_afterv (ok := (fun k_ => (P0_ k_ ∨ w.heap.size ≤ k_))) (by (with_reducible repeat (first | apply Kd.V_alloc | apply Kd.V_drewN | apply Kd.V_drew)); exact HO0.out) hg hat); have n1_ := Aside0.mk (hb); have n2_ := Aside0.mk (ho); clear HO0; clear HB; clear HO198; have HO0 := n0_; have HB := n1_; have HO201 := n2_; clear n0_ n1_ n2_; clear ho hb hg hat))
  go_ret
  exact ⟨_, by first | rfl | (simp [errW_none, errW_some] <;> rfl) | (simp [*, errW_none, errW_some] <;> rfl), by (with_reducible repeat (first | apply Kd.N_alloc | apply Kd.N_drewN | apply Kd.N_drew)); exact HO201.out, bl_⟩
 ·rw [if_neg c2] at H
  exact absurd H (by simp)
set_option maxHeartbeats 8000000 in
set_option maxRecDepth 100000 in
theorem impl_Slot_115.calls_none (P0_ : Nat → Prop) (c0 : Nat) (l0 : List (S74)) (r : List (S74)) (w : World) (hs0 : Kd.V k74 74 w w.heap.size (fun k_ => P0_ k_) (.slice none l0.length c0) l0) (h : impl_Slot_115.f l0 = some r) :
  Calls Try.prog 115 #[.slice none l0.length c0] w fun e w' => ∃ v0_ : Value, e = .returned (v0_) ∧ Kd.N k74 74 w' w.heap.size (fun k_ => (P0_ k_ ∨ w.heap.size ≤ k_)) v0_ r ∧ Below w.heap.size w w' := by
 have q0_ : ∀ (n c : Nat) (W : World), (binOp .eql 41 (.slice none n c) (.slice none 0 0)).run Try.prog W = .ok (.bool true) W := fun n c W => Lib.run_eql_slice_nil W _ _ none n c 0 0 Try.underlying41
 have hr0 := (Kd.V_reads' hs0).2.2
 have hn : l0 = [] := List.eq_nil_of_length_eq_zero (Nat.eq_zero_of_not_pos (fun hp => by obtain ⟨a, ha, _⟩ := hr0.2.2 hp; cases ha))
 subst hn
 have hr : r = [] := by simp [impl_Slot_115.f] at h; first | exact h | exact h.symm
 subst hr
 clear hr0 hs0 h
 go_enter Try.func115, Try.ntmps115
 go_wp2
 go_ret
 exact ⟨_, rfl, by first | exact Kd.N_nil _ _ _ _ _ | exact Kd.S_nil _ _ _ _ _ | exact Kd.R_nil _ _ _ _ _, by repeat (first | exact Below.refl _ _ | apply below_alloc | apply pw_below_drewN | apply below_drew1)⟩
set_option maxHeartbeats 8000000 in
set_option maxRecDepth 100000 in
theorem impl_Slot_115.calls (P0_ : Nat → Prop) (A0 : Option Addr) (c0 : Nat) (l0 : List (S74)) (r : List (S74)) (w : World) (hs0 : Kd.V k74 74 w w.heap.size (fun k_ => P0_ k_) (.slice A0 l0.length c0) l0) (h : impl_Slot_115.f l0 = some r) :
  Calls Try.prog 115 #[.slice A0 l0.length c0] w fun e w' => ∃ v0_ : Value, e = .returned (v0_) ∧ Kd.N k74 74 w' w.heap.size (fun k_ => (P0_ k_ ∨ w.heap.size ≤ k_)) v0_ r ∧ Below w.heap.size w w' := by
 cases A0 with
 | none => exact impl_Slot_115.calls_none P0_ c0 l0 r w hs0 h
 | some ad0 => exact impl_Slot_115.calls_some P0_ ad0 c0 l0 r w hs0 h
-- NOT PRINTED: function 162 (impl_slotAt_1)
/-! ### impl_slotAt: function 108 -/
theorem impl_slotAt.rdN {xs : List S74} {x : Int} (h : x.toNat < xs.length) : rd_T74 xs x = xs[x.toNat] := by
 unfold rd_T74
 rw [List.getD_eq_getElem?_getD, List.getElem?_eq_getElem h]; rfl
def impl_slotAt.idxF (p : S74 → Bool) (xs : List S74) : Int := match xs.findIdx? p with | some j => (j : Int) | none => -1
theorem impl_slotAt.idxF_none (p : S74 → Bool) (xs : List S74) (h : ∀ j (hj : j < xs.length), p xs[j] = false) : impl_slotAt.idxF p xs = -1 := by
 unfold impl_slotAt.idxF
 have : xs.findIdx? p = none := by
  rw [List.findIdx?_eq_none_iff]
  intro x hx
  obtain ⟨j, hj, rfl⟩ := List.getElem_of_mem hx
  exact h j hj
 rw [this]
theorem impl_slotAt.idxF_some (p : S74 → Bool) (xs : List S74) (i : Nat) (hi : i < xs.length) (hp : p xs[i] = true) (h : ∀ j (hj : j < i), p (xs[j]'(by omega)) = false) : impl_slotAt.idxF p xs = (i : Int) := by
 unfold impl_slotAt.idxF
 have : xs.findIdx? p = some i := by
  rw [List.findIdx?_eq_some_iff_getElem]
  exact ⟨hi, hp, fun j hj => by simpa using h j hj⟩
 rw [this]
set_option maxHeartbeats 2000000 in
set_option maxRecDepth 100000 in
theorem impl_slotAt.idx (A0 : Option Addr) (c0 : Nat) (l0 : List S74) (g : Nat) (lb : Array Value) (p : S74 → Bool) (w : World) (hr0 : Kd.C k74 w A0 l0.length l0) (hc0 : l0.length ≤ c0)
  (eg : ∀ args w, (callFunc g args).run Try.prog w = .ok (.enter g args) w)
  (hp : ∀ (W : World) (x : S74) (A2 : Option Addr) (c2 : Nat), Below w.heap.size w W → Calls Try.prog g (#[.agg #[.string x.f0, .string x.f1, .slice A2 x.f2.length c2]] ++ lb) W fun e w' => e = .returned (.bool (p x)) ∧ Below W.heap.size W w') :
  Calls Try.prog 161 #[.slice A0 l0.length c0, .func (.func g) #[] lb] w fun e w' => e = .returned (.int .i64 (impl_slotAt.idxF p l0)) ∧ Below w.heap.size w w' := by
 have hlen : l0.length ≤ 9223372036854775807 := hr0.2.1
 have HR0 := Aside0.mk hr0
 have HL := Aside0.mk hlen
 have HP := Aside0.mk hp
 clear hr0 hp
 have HB := Aside0.mk (Below.refl w.heap.size w)
 have hu74 := Try.underlying74
 clear hlen hc0
 go_enter Try.func161, Try.ntmps161
 go_wp2
 go_loopg [5, 8] l0.length (fun gg _ s8 wr => ∃ x : Int, s8 = .int .i64 x ∧ Aside0 (0 ≤ x) ∧ Aside0 (x ≤ l0.length) ∧ Aside0 (l0.length - x.toNat ≤ gg) ∧ Aside0 (∀ j (hj : j < l0.length), (j : Int) < x → p l0[j] = false) ∧ Aside0 (Below w.heap.size w wr))
 case atStart => exact ⟨0, rfl, ⟨by omega⟩, ⟨by omega⟩, ⟨by omega⟩, ⟨fun j hj h => by omega⟩, ⟨Below.refl _ w⟩⟩
 case round =>
  obtain ⟨x, rfl, H0, H1, HG, AF, HB⟩ := hrel
  by_cases hlt : x < (l0.length : Int)
  ·have hN : x.toNat < l0.length := by have := H0.out; omega
   have HN := Aside0.mk hN
   have c0 : decide (x < (l0.length : Int)) = true := decide_eq_true hlt
   obtain ⟨ad, A2, c2, e, hx0, hx1, hx2, hl2, hi2⟩ := at_T74 HR0.out x H0.out hlt
   cases e
   replace hx0 := kc_ HB hx0
   replace hx1 := kc_ HB hx1
   replace hx2 := kc_ HB hx2
   have p0 := eq_true H0.out
   have q0 := eq_true hlt
   clear hN hlt
   have HX := Aside0.mk (impl_slotAt.rdN HN.out)
   cases hq : p (rd_T74 l0 x) with
   | true =>
    have HC := Aside0.mk (hq ▸ HP.out wr (rd_T74 l0 x) A2 c2 HB.out)
    have HQ := Aside0.mk hq
    clear hq
    go_wp2_with (go_at_fn g; refine HC.out.mono ?_; rintro e w' ⟨rfl, hb'⟩)
    go_ret
    exact ⟨by show Ending.returned (Value.int .i64 x) = _; rw [impl_slotAt.idxF_some p l0 x.toNat HN.out (by rw [← HX.out]; exact HQ.out) (fun j hj => AF.out j (by have := HN.out; omega) (by omega)), Int.toNat_of_nonneg H0.out], below_step HB.out hb'⟩
   | false =>
    have HC := Aside0.mk (hq ▸ HP.out wr (rd_T74 l0 x) A2 c2 HB.out)
    have HQ := Aside0.mk hq
    clear hq
    go_wp2_with (go_at_fn g; refine HC.out.mono ?_; rintro e w' ⟨rfl, hb'⟩; have HB' := Aside0.mk hb'; clear hb')
    have hw := HL.out
    have e1 : wrap64 (x + 1) = x + 1 := by have := HN.out; have := H0.out; unfold wrap64; omega
    go_roundg (l0.length - (x.toNat + 1))
    case measure => have := HG.out; have := HN.out; omega
    case rel =>
     have hN := HN.out
     have h0 := H0.out
     refine ⟨wrap64 (x + 1), (by first | rfl | (simp; done) | (simp [*]; done)), ⟨by omega⟩, ⟨by omega⟩, ⟨by omega⟩, ⟨fun j hj h => ?_⟩, ⟨below_step HB.out HB'.out⟩⟩
     by_cases e : j = x.toNat
     ·subst e; rw [← HX.out]; exact HQ.out
     ·exact AF.out j hj (by omega)
  ·have c0 : decide (x < (l0.length : Int)) = false := decide_eq_false hlt
   have HN := Aside0.mk hlt
   clear hlt
   go_wp2
   go_ret
   exact ⟨by show Ending.returned (Value.int .i64 (-1)) = _; rw [impl_slotAt.idxF_none p l0 (fun j hj => AF.out j hj (by have := HN.out; omega))], HB.out⟩
set_option maxRecDepth 100000 in
theorem impl_slotAt.clo (x : S74) (A2 : Option Addr) (c2 : Nat) (a1 : ByteArray) (a2 : ByteArray) (Ba1 Ba2 : Nat) (w : World) (ha1 : w.heap[Ba1]? = some (.cells #[.string a1] 9 (0, 0))) (ha2 : w.heap[Ba2]? = some (.cells #[.string a2] 9 (0, 0))) :
  Calls Try.prog 162 #[.agg #[.string x.f0, .string x.f1, .slice A2 x.f2.length c2], .pointer (some ⟨Ba1, 0, none⟩), .pointer (some ⟨Ba2, 0, none⟩)] w fun e w' => e = .returned (.bool (x.f0.toList == a1.toList && x.f1.toList == a2.toList)) ∧ Below w.heap.size w w' := by
 have hu74 := Try.underlying74
 have hlta1 := blk_lt ha1
 have hca1 := blk_cell ha1 0
 have hfa1 := blk_frozen ha1 0
 have hlta2 := blk_lt ha2
 have hca2 := blk_cell ha2 0
 have hfa2 := blk_frozen ha2 0
 cases hq : x.f0.toList == a1.toList with
 | true =>
  go_enter Try.func162, Try.ntmps162
  go_wp2
  go_ret
  exact ⟨by simp [hq], by repeat (first | exact Below.refl _ _ | apply below_alloc | apply pw_below_drewN | apply below_drew1)⟩
 | false =>
  go_enter Try.func162, Try.ntmps162
  go_wp2
  go_ret
  exact ⟨by simp [hq], by repeat (first | exact Below.refl _ _ | apply below_alloc | apply pw_below_drewN | apply below_drew1)⟩
def impl_slotAt.f (l0 : List S74) (a1 : ByteArray) (a2 : ByteArray) : Option (Int) := some (impl_slotAt.idxF (fun x => x.f0.toList == a1.toList && x.f1.toList == a2.toList) l0)
set_option maxHeartbeats 2000000 in
set_option maxRecDepth 100000 in
theorem impl_slotAt.calls (A0 : Option Addr) (c0 : Nat) (l0 : List (S74)) (a1 : ByteArray) (a2 : ByteArray) (r : Int) (w : World) (hr0 : Kd.C k74 w A0 l0.length l0) (hc0 : l0.length ≤ c0) (h : impl_slotAt.f l0 a1 a2 = some r) :
  Calls Try.prog 108 #[.slice A0 l0.length c0, .string a1, .string a2] w fun e w' => e = .returned (.int .i64 r) ∧ Below w.heap.size w w' := by
 obtain rfl := Option.some.inj h
 clear h
 have HR0 := Aside0.mk hr0
 have HC0 := Aside0.mk hc0
 clear hr0 hc0
 have HP := Aside0.mk (show ∀ (W : World) (x : S74) (A2 : Option Addr) (c2 : Nat), Below ((w.alloc (.cells #[.string a1] 9)).alloc (.cells #[.string a2] 9)).heap.size ((w.alloc (.cells #[.string a1] 9)).alloc (.cells #[.string a2] 9)) W → Calls Try.prog 162 (#[.agg #[.string x.f0, .string x.f1, .slice A2 x.f2.length c2]] ++ #[.pointer (some ⟨w.heap.size, 0, none⟩), .pointer (some ⟨w.heap.size + 1, 0, none⟩)]) W fun e w' => e = .returned (.bool ((fun x => x.f0.toList == a1.toList && x.f1.toList == a2.toList) x)) ∧ Below W.heap.size W w' from
  fun W x A2 c2 hb => impl_slotAt.clo x A2 c2 a1 a2 w.heap.size (w.heap.size + 1) W ((hb.block _ (blk_lt (blk_alloc (heap_alloc_new w _) _))).trans (blk_alloc (heap_alloc_new w _) _)) ((hb.block _ (blk_lt (show ((w.alloc (.cells #[.string a1] 9)).alloc (.cells #[.string a2] 9)).heap[(w.heap.size + 1)]? = _ from (by have h_ := heap_alloc_new (w.alloc (.cells #[.string a1] 9)) (.cells #[.string a2] 9); rw [show (w.alloc (.cells #[.string a1] 9)).heap.size = (w.heap.size + 1) from by simp] at h_; exact h_)))).trans (show ((w.alloc (.cells #[.string a1] 9)).alloc (.cells #[.string a2] 9)).heap[(w.heap.size + 1)]? = _ from (by have h_ := heap_alloc_new (w.alloc (.cells #[.string a1] 9)) (.cells #[.string a2] 9); rw [show (w.alloc (.cells #[.string a1] 9)).heap.size = (w.heap.size + 1) from by simp] at h_; exact h_))))
 go_enter Try.func108, Try.ntmps108
 go_wp2_with (go_at_call 161; refine (impl_slotAt.idx A0 _ l0 162 _ (fun x => x.f0.toList == a1.toList && x.f1.toList == a2.toList) _ (Kd.C_below HR0.out (below_alloc (below_alloc (Below.refl _ _) _) _)) HC0.out (fun _ _ => by kernel_rfl) HP.out).mono ?_; rintro e w' ⟨rfl, hb'⟩)
 go_ret
 exact ⟨rfl, below_step (below_alloc (below_alloc (Below.refl _ _) _) _) hb'⟩
/-! ### impl_within: function 145 -/
def impl_within.f (a0 : Int) (a1 : Int) (a2 : Int) : Option (Bool) := if a1 ≤ a0 then (some (decide (a0 ≤ a2))) else (some false)
set_option maxHeartbeats 8000000 in
set_option maxRecDepth 100000 in
theorem impl_within.calls (a0 : Int) (a1 : Int) (a2 : Int) (r : Bool) (w : World) (h : impl_within.f a0 a1 a2 = some r) :
  Calls Try.prog 145 #[.int .i64 a0, .int .i64 a1, .int .i64 a2] w fun e w' => e = .returned (.bool r) ∧ Drawn0 w w' := by
 have H : (if a1 ≤ a0 then (some (decide (a0 ≤ a2))) else (some false)) = some r := h
 clear h
 by_cases c4 : a1 ≤ a0
 ·rw [if_pos c4] at H
  have c4b0 : decide (a1 ≤ a0) = true := decide_eq_true c4
  clear c4
  obtain rfl := Option.some.inj H
  go_enter Try.func145, Try.ntmps145
  go_wp2
  go_ret
  exact ⟨sp_, by repeat (first | exact Drawn0.refl _ | apply Drawn0.step)⟩
 ·rw [if_neg c4] at H
  have c4b0 : decide (a1 ≤ a0) = false := decide_eq_false c4
  clear c4
  obtain rfl := Option.some.inj H
  go_enter Try.func145, Try.ntmps145
  go_wp2
  go_ret
  exact ⟨sp_, by repeat (first | exact Drawn0.refl _ | apply Drawn0.step)⟩
/-! ### impl_Digits: function 206 -/
def impl_Digits.l0 : Nat → ByteArray → Int → Int → Option (Bool)
 | 0, _, _, _ => none
 | k + 1, x0, x5, x6 => if x6 < x5 then (if 0 ≤ x6 then (if x6 < (x0.size : Int) then (if (bt x0 x6) < 48 then (some false) else (if (bt x0 x6) > 57 then (some false) else (impl_Digits.l0 k x0 x5 (wrap64 (x6 + 1))))) else (none)) else (none)) else (some (x0.toList != ([] : List UInt8)))
def impl_Digits.f (k : Nat) (a0 : ByteArray) : Option (Bool) := impl_Digits.l0 k a0 (a0.size : Int) 0
set_option maxHeartbeats 8000000 in
set_option maxRecDepth 100000 in
theorem impl_Digits.calls (k : Nat) (a0 : ByteArray) (r : Bool) (w : World) (h : impl_Digits.f k a0 = some r) :
  Calls Try.prog 206 #[.string a0] w fun e w' => e = .returned (.bool r) ∧ Drawn0 w w' := by
 have H : (impl_Digits.l0 k a0 (a0.size : Int) 0) = some r := h
 clear h
 have H' := Aside0.mk H
 clear H
 go_enter Try.func206, Try.ntmps206
 go_wp2
 go_loopg [6] k (fun kq v6 w' => ∃ (x6_1 : Int), v6 = .int .i64 x6_1 ∧ Aside0 (impl_Digits.l0 kq a0 (a0.size : Int) x6_1 = some r) ∧ Aside0 (kq ≤ k) ∧ Drawn0 w w')
 case atStart => exact ⟨(0), sp_, H', ⟨Nat.le_refl _⟩, by repeat (first | exact Drawn0.refl _ | apply Drawn0.step)⟩
 case round =>
  clear H'
  obtain ⟨x6_1, rfl, HA, HK1, ⟨m1, rfl⟩⟩ := hrel
  cases gk with
  | zero => exact absurd HA.out (by simp [impl_Digits.l0])
  | succ k1 =>
   have H := HA.out
   clear HA
   simp only [impl_Digits.l0] at H
   by_cases c2 : x6_1 < (a0.size : Int)
   ·rw [if_pos c2] at H
    have c2b0 : decide (x6_1 < (a0.size : Int)) = true := decide_eq_true c2
    clear c2
    by_cases c3 : 0 ≤ x6_1
    ·rw [if_pos c3] at H
     have c3b0 : decide (0 ≤ x6_1) = true := decide_eq_true c3
     clear c3
     by_cases c4 : x6_1 < (a0.size : Int)
     ·rw [if_pos c4] at H
      have c4b0 : decide (x6_1 < (a0.size : Int)) = true := decide_eq_true c4
      clear c4
      by_cases c6 : (bt a0 x6_1) < 48
      ·rw [if_pos c6] at H
       have c6b0 : decide ((bt a0 x6_1) < 48) = true := decide_eq_true c6
       clear c6
       obtain rfl := Option.some.inj H
       have p5 : 0 ≤ (x6_1 : Int) := od_
       have q5 : x6_1 < (a0.size : Int) := od_
       have hx5 := bt_at a0 x6_1
       replace p5 := eq_true p5
       replace q5 := eq_true q5
       go_wp2
       go_ret
       exact ⟨sp_, by repeat (first | exact Drawn0.refl _ | apply Drawn0.step)⟩
      ·rw [if_neg c6] at H
       have c6b0 : decide ((bt a0 x6_1) < 48) = false := decide_eq_false c6
       clear c6
       by_cases c8 : (bt a0 x6_1) > 57
       ·rw [if_pos c8] at H
        have c8b0 : decide (57 < (bt a0 x6_1)) = true := decide_eq_true c8
        clear c8
        obtain rfl := Option.some.inj H
        have p5 : 0 ≤ (x6_1 : Int) := od_
        have q5 : x6_1 < (a0.size : Int) := od_
        have hx5 := bt_at a0 x6_1
        replace p5 := eq_true p5
        replace q5 := eq_true q5
        have p7 : 0 ≤ (x6_1 : Int) := od_
        have q7 : x6_1 < (a0.size : Int) := od_
        have hx7 := bt_at a0 x6_1
        replace p7 := eq_true p7
        replace q7 := eq_true q7
        go_wp2
        go_ret
        exact ⟨sp_, by repeat (first | exact Drawn0.refl _ | apply Drawn0.step)⟩
       ·rw [if_neg c8] at H
        have c8b0 : decide (57 < (bt a0 x6_1)) = false := decide_eq_false c8
        clear c8
        have H' := Aside0.mk H
        clear H
        have p5 : 0 ≤ (x6_1 : Int) := od_
        have q5 : x6_1 < (a0.size : Int) := od_
        have hx5 := bt_at a0 x6_1
        replace p5 := eq_true p5
        replace q5 := eq_true q5
        have p7 : 0 ≤ (x6_1 : Int) := od_
        have q7 : x6_1 < (a0.size : Int) := od_
        have hx7 := bt_at a0 x6_1
        replace p7 := eq_true p7
        replace q7 := eq_true q7
        go_wp2
        go_roundg k1
        case measure => have := HK1.out; omega
        case rel => exact ⟨(wrap64 (x6_1 + 1)), sp_, H', ⟨by have := HK1.out; omega⟩, by repeat (first | exact Drawn0.refl _ | apply Drawn0.step)⟩
     ·rw [if_neg c4] at H
      exact absurd H (by simp)
    ·rw [if_neg c3] at H
     exact absurd H (by simp)
   ·rw [if_neg c2] at H
    have c2b0 : decide (x6_1 < (a0.size : Int)) = false := decide_eq_false c2
    clear c2
    obtain rfl := Option.some.inj H
    go_wp2
    go_ret
    exact ⟨sp_, by repeat (first | exact Drawn0.refl _ | apply Drawn0.step)⟩
/-! ### impl_isWide: function 189 -/
def impl_isWide.f (k : Nat) (a0 : ByteArray) (a1 : Int) : Option (Bool) := (impl_Digits.f k a0).bind fun t203 => (if t203 = true then (some ((a0.size : Int) == a1)) else (some false))
set_option maxHeartbeats 8000000 in
set_option maxRecDepth 100000 in
theorem impl_isWide.calls (k : Nat) (a0 : ByteArray) (a1 : Int) (r : Bool) (w : World) (h : impl_isWide.f k a0 a1 = some r) :
  Calls Try.prog 189 #[.string a0, .int .i64 a1] w fun e w' => e = .returned (.bool r) ∧ Drawn0 w w' := by
 have H : ((impl_Digits.f k a0).bind fun t203 => (if t203 = true then (some ((a0.size : Int) == a1)) else (some false))) = some r := h
 clear h
 obtain ⟨t203, A3, H⟩ := ob_ H
 by_cases c4 : t203 = true
 ·subst c4
  replace H := ip_ H
  obtain rfl := Option.some.inj H
  go_enter Try.func189, Try.ntmps189
  go_wp2_with (first | ((with_reducible refine gate_callee (f := 206) rfl ?_); refine goesL_ (some 6) rfl rfl Try.func206 (by kernel_rfl) rfl #[.string a0] rfl gl_ ?_; (with_reducible refine (impl_Digits.calls k a0 true _ A3.out).mono ?_); rintro e w' ⟨rfl, ⟨nd, rfl⟩⟩; refine ⟨_, rfl, ?_⟩))
  go_ret
  exact ⟨sp_, by repeat (first | exact Drawn0.refl _ | apply Drawn0.step)⟩
 ·replace c4 := Bool.eq_false_iff.mpr c4
  subst c4
  replace H := in_ H
  obtain rfl := Option.some.inj H
  go_enter Try.func189, Try.ntmps189
  go_wp2_with (first | ((with_reducible refine gate_callee (f := 206) rfl ?_); refine goesL_ (some 6) rfl rfl Try.func206 (by kernel_rfl) rfl #[.string a0] rfl gl_ ?_; (with_reducible refine (impl_Digits.calls k a0 false _ A3.out).mono ?_); rintro e w' ⟨rfl, ⟨nd, rfl⟩⟩; refine ⟨_, rfl, ?_⟩))
  go_ret
  exact ⟨sp_, by repeat (first | exact Drawn0.refl _ | apply Drawn0.step)⟩
/-! ### impl_SlotOk: function 164 -/
def impl_SlotOk.f (k : Nat) (a0_0 : ByteArray) (a0_1 : ByteArray) (l0_2 : List Int) : Option (Bool) := (impl_isWide.f k a0_0 6).bind fun t205 => (if t205 = true then ((impl_isWide.f k a0_1 4).bind fun t206 => (if t206 = true then ((impl_within.f (l0_2.length : Int) 1 200).bind fun t207 => (some t207)) else (some false))) else (some false))
set_option maxHeartbeats 8000000 in
set_option maxRecDepth 100000 in
theorem impl_SlotOk.calls (k : Nat) (a0_0 : ByteArray) (a0_1 : ByteArray) (A0_2 : Option Addr) (c0_2 : Nat) (l0_2 : List Int) (r : Bool) (w : World) (hr0_2 : Kd.C (Kd.int .u8) w A0_2 l0_2.length l0_2) (hc0_2 : l0_2.length ≤ c0_2) (h : impl_SlotOk.f k a0_0 a0_1 l0_2 = some r) :
  Calls Try.prog 164 #[.agg #[.string a0_0, .string a0_1, .slice A0_2 l0_2.length c0_2]] w fun e w' => e = .returned (.bool r) ∧ Below w.heap.size w w' := by
 have hu74 := Try.underlying74
 have HR0_2 := Aside0.mk hr0_2
 have HC0_2 := Aside0.mk hc0_2
 clear hr0_2 hc0_2
 have HB := Aside0.mk (Below.refl w.heap.size w)
 have H : ((impl_isWide.f k a0_0 6).bind fun t205 => (if t205 = true then ((impl_isWide.f k a0_1 4).bind fun t206 => (if t206 = true then ((impl_within.f (l0_2.length : Int) 1 200).bind fun t207 => (some t207)) else (some false))) else (some false))) = some r := h
 clear h
 obtain ⟨t205, A2, H⟩ := ob_ H
 by_cases c3 : t205 = true
 ·subst c3
  replace H := ip_ H
  obtain ⟨t206, A4, H⟩ := ob_ H
  by_cases c5 : t206 = true
  ·subst c5
   replace H := ip_ H
   obtain ⟨t207, A6, H⟩ := ob_ H
   obtain rfl := Option.some.inj H
   go_enter Try.func164, Try.ntmps164
   go_wp2_with (first | ((with_reducible refine gate_dst (N := 1) rfl ?_); (try (refine gate_guard (by rfl) ?_; dsimp only)); refine be_ (N := 1) (cs := #[.string a0_0, .string a0_1, .slice A0_2 l0_2.length c0_2]) (t := 74) ?_; intro gb204 hg w7 hbox hb; have BK204 := Aside0.mk (hbox); have GW204 := gw_ (w := w) hg; have GE204 := gw_ (w := w) hg; replace HB := Aside0.mk (below_step bl_ hb); clear hb hbox hg; obtain ⟨hcz8_0, hcz8_1, hcz8_2, hfz8_0, hfz8_1, hfz8_2⟩ := bx3_ BK204) | ((with_reducible refine gate_callee (f := 189) rfl ?_); refine goesL_ (some 5) rfl rfl Try.func189 (by kernel_rfl) rfl #[.string a0_0, .int .i64 6] rfl gl_ ?_; (with_reducible refine (impl_isWide.calls k a0_0 6 true _ A2.out).mono ?_); rintro e w' ⟨rfl, ⟨nd, rfl⟩⟩; refine ⟨_, rfl, ?_⟩) | (go_at_call 189; (with_reducible refine (impl_isWide.calls k a0_1 4 true _ A4.out).mono ?_); rintro e w' ⟨rfl, ⟨nd, rfl⟩⟩) | (go_at_call 145; (with_reducible refine (impl_within.calls (l0_2.length : Int) 1 200 t207 _ A6.out).mono ?_); rintro e w' ⟨rfl, ⟨nd, rfl⟩⟩))
   go_ret
   exact ⟨sq_, bl_⟩
  ·replace c5 := Bool.eq_false_iff.mpr c5
   subst c5
   replace H := in_ H
   obtain rfl := Option.some.inj H
   go_enter Try.func164, Try.ntmps164
   go_wp2_with (first | ((with_reducible refine gate_dst (N := 1) rfl ?_); (try (refine gate_guard (by rfl) ?_; dsimp only)); refine be_ (N := 1) (cs := #[.string a0_0, .string a0_1, .slice A0_2 l0_2.length c0_2]) (t := 74) ?_; intro gb204 hg w9 hbox hb; have BK204 := Aside0.mk (hbox); have GW204 := gw_ (w := w) hg; have GE204 := gw_ (w := w) hg; replace HB := Aside0.mk (below_step bl_ hb); clear hb hbox hg; obtain ⟨hcz10_0, hcz10_1, hcz10_2, hfz10_0, hfz10_1, hfz10_2⟩ := bx3_ BK204) | ((with_reducible refine gate_callee (f := 189) rfl ?_); refine goesL_ (some 5) rfl rfl Try.func189 (by kernel_rfl) rfl #[.string a0_0, .int .i64 6] rfl gl_ ?_; (with_reducible refine (impl_isWide.calls k a0_0 6 true _ A2.out).mono ?_); rintro e w' ⟨rfl, ⟨nd, rfl⟩⟩; refine ⟨_, rfl, ?_⟩) | (go_at_call 189; (with_reducible refine (impl_isWide.calls k a0_1 4 false _ A4.out).mono ?_); rintro e w' ⟨rfl, ⟨nd, rfl⟩⟩))
   go_ret
   exact ⟨sq_, bl_⟩
 ·replace c3 := Bool.eq_false_iff.mpr c3
  subst c3
  replace H := in_ H
  obtain rfl := Option.some.inj H
  go_enter Try.func164, Try.ntmps164
  go_wp2_with (first | ((with_reducible refine gate_dst (N := 1) rfl ?_); (try (refine gate_guard (by rfl) ?_; dsimp only)); refine be_ (N := 1) (cs := #[.string a0_0, .string a0_1, .slice A0_2 l0_2.length c0_2]) (t := 74) ?_; intro gb204 hg w11 hbox hb; have BK204 := Aside0.mk (hbox); have GW204 := gw_ (w := w) hg; have GE204 := gw_ (w := w) hg; replace HB := Aside0.mk (below_step bl_ hb); clear hb hbox hg; obtain ⟨hcz12_0, hcz12_1, hcz12_2, hfz12_0, hfz12_1, hfz12_2⟩ := bx3_ BK204) | ((with_reducible refine gate_callee (f := 189) rfl ?_); refine goesL_ (some 5) rfl rfl Try.func189 (by kernel_rfl) rfl #[.string a0_0, .int .i64 6] rfl gl_ ?_; (with_reducible refine (impl_isWide.calls k a0_0 6 false _ A2.out).mono ?_); rintro e w' ⟨rfl, ⟨nd, rfl⟩⟩; refine ⟨_, rfl, ?_⟩))
  go_ret
  exact ⟨sq_, bl_⟩
end Go.Proofs.Ytepjnalkpfnmcaa.QFnExactSlotPut
