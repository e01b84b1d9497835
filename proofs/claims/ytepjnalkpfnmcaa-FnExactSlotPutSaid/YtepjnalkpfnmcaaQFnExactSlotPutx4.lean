-- by my own printer (myprint.py, over the kit's print.py)
import Derived.Test.YtepjnalkpfnmcaaQFnExactSlotPutx0
import Derived.Test.YtepjnalkpfnmcaaQFnExactSlotPutx2
import Derived.Test.YtepjnalkpfnmcaaQFnExactSlotPutx3
namespace Go.Proofs.Ytepjnalkpfnmcaa.QFnExactSlotPut
open Go.RowKit Go.Proofs.YtepjnalkpfnmcaaW.PrintWords Go.Proofs.YtepjnalkpfnmcaaW.PrintLast Go.Proofs.YtepjnalkpfnmcaaW.PrintMore
attribute [local go_sem] max2_int min2_int max_two min_two max_three min_three max_four min_four   -- for this text's walks alone
set_option linter.unusedVariables false
set_option linter.unusedSimpArgs false
attribute [local go_sem] my_geq my_leq my_gtr
/-! ### spec_SlotPut: function 46 -/
def spec_SlotPut.f (k : Nat) (l0 : List (S74)) (a1_0 : ByteArray) (a1_1 : ByteArray) (l1_2 : List Int) : Option ((List (S74)) × Bool) := (spec_l08Copy.f k l0).bind fun t166 => ((some (([(⟨a1_0, a1_1, l1_2⟩ : S74)] : List (S74)) : List (S74))).bind fun y169 => (if t166.length + y169.length < 2513169434916 then ((spec_l08Copy.f k (t166 ++ y169)).bind fun t175 => ((spec_SlotsOk.f k t175).bind fun t178 => (if t178 = true then (some (t175, true)) else (some (([] : List (S74)), false))))) else (none)))
set_option maxHeartbeats 8000000 in
set_option maxRecDepth 100000 in
theorem spec_SlotPut.calls (k : Nat) (A0 : Option Addr) (c0 : Nat) (l0 : List (S74)) (a1_0 : ByteArray) (a1_1 : ByteArray) (P1_2_ : Nat → Prop) (A1_2 : Option Addr) (c1_2 : Nat) (l1_2 : List Int) (r1 : List (S74)) (r2 : Bool) (w : World) (hr0 : Kd.C k74 w A0 l0.length l0) (hc0 : l0.length ≤ c0) (hs1_2 : Kd.V (Kd.int .u8) 5 w w.heap.size (fun k_ => P1_2_ k_) (.slice A1_2 l1_2.length c1_2) l1_2) (h : spec_SlotPut.f k l0 a1_0 a1_1 l1_2 = some (r1, r2)) :
  Calls Try.prog 46 #[.slice A0 l0.length c0, .agg #[.string a1_0, .string a1_1, .slice A1_2 l1_2.length c1_2]] w fun e w' => ∃ v0_ : Value, e = .returned (.tuple #[v0_, .bool r2]) ∧ Kd.N k74 74 w' w.heap.size (fun k_ => (P1_2_ k_ ∨ w.heap.size ≤ k_)) v0_ r1 ∧ Below w.heap.size w w' := by
 have hu74 := Try.underlying74
 have HR0 := Aside0.mk hr0
 have HC0 := Aside0.mk hc0
 clear hr0 hc0
 have HO1_2 := Aside0.mk (show Kd.V (Kd.int .u8) 5 w w.heap.size (fun k_ => (P1_2_ k_ ∨ w.heap.size ≤ k_)) (.slice A1_2 l1_2.length c1_2) l1_2 from Kd.V_mono hs1_2 (fun k_ hk => .inl hk))
 have HB := Aside0.mk (Below.refl w.heap.size w)
 have H : ((spec_l08Copy.f k l0).bind fun t166 => ((some (([(⟨a1_0, a1_1, l1_2⟩ : S74)] : List (S74)) : List (S74))).bind fun y169 => (if t166.length + y169.length < 2513169434916 then ((spec_l08Copy.f k (t166 ++ y169)).bind fun t175 => ((spec_SlotsOk.f k t175).bind fun t178 => (if t178 = true then (some (t175, true)) else (some (([] : List (S74)), false))))) else (none)))) = some (r1, r2) := h
 clear h
 obtain ⟨t166, A3, H⟩ := ob_ H
 obtain ⟨y169, hy169⟩ : ∃ y_ : List (S74), y_ = (([(⟨a1_0, a1_1, l1_2⟩ : S74)] : List (S74))) := ⟨_, rfl⟩
 replace H : (if t166.length + y169.length < 2513169434916 then ((spec_l08Copy.f k (t166 ++ y169)).bind fun t175 => ((spec_SlotsOk.f k t175).bind fun t178 => (if t178 = true then (some (t175, true)) else (some (([] : List (S74)), false))))) else (none)) = some (r1, r2) := by first | (rw [hy169]; with_reducible exact H) | (have H2_ := (Option.bind_some _ _).symm.trans H; rw [hy169]; with_reducible exact H2_) | (have H2_ := (Option.bind_some _ _).symm.trans H; with_reducible exact H2_) | with_reducible exact H | (rw [hy169]; exact H) | exact H
 have Ny169 := Aside0.mk hy169
 clear hy169
 by_cases c4 : t166.length + y169.length < 2513169434916
 ·rw [if_pos c4] at H
  have LMc4 := Aside0.mk c4
  clear c4
  obtain ⟨y172, hy172⟩ : ∃ y_ : List (S74), y_ = (t166 ++ y169) := ⟨_, rfl⟩
  replace H : ((spec_l08Copy.f k y172).bind fun t175 => ((spec_SlotsOk.f k t175).bind fun t178 => (if t178 = true then (some (t175, true)) else (some (([] : List (S74)), false))))) = some (r1, r2) := by first | (rw [hy172]; with_reducible exact H) | (have H2_ := (Option.bind_some _ _).symm.trans H; rw [hy172]; with_reducible exact H2_) | (have H2_ := (Option.bind_some _ _).symm.trans H; with_reducible exact H2_) | with_reducible exact H | (rw [hy172]; exact H) | exact H
  have Ny172 := Aside0.mk hy172
  clear hy172
  obtain ⟨t175, A5, H⟩ := ob_ H
  obtain ⟨t178, A6, H⟩ := ob_ H
  by_cases c7 : t178 = true
  ·subst c7
   replace H := ip_ H
   simp only [Option.some.injEq, Prod.mk.injEq] at H
   obtain ⟨rfl, rfl⟩ := H
   go_enter Try.func46, Try.ntmps46
   try go_wp2_with (first | ((with_reducible refine gate_dst (N := 3) rfl ?_); refine be_ (N := 3) (cs := #[.string a1_0, .string a1_1, .slice A1_2 l1_2.length c1_2]) (t := 74) ?_; intro gb165 hg w8 hbox hb; replace HO1_2 := Aside0.mk (Kd.V_below (Kd.V_elderB (by (with_reducible repeat (first | apply Kd.V_alloc | apply Kd.V_drewN | apply Kd.V_drew)); exact HO1_2.out) gb165 (Nat.le_of_eq hg.symm)) hb); have BK165 := Aside0.mk (hbox); have GW165 := gw_ (w := w) hg; have GE165 := gw_ (w := w) hg; replace HB := Aside0.mk (below_step bl_ hb); clear hb hbox hg))
   have n0_ := Aside0.mk (Kd.V_drew HO1_2.out)
   have n1_ := Aside0.mk (blk_drew BK165.out)
   have n2_ := Aside0.mk (below_drew1 HB.out)
   clear HO1_2
   clear BK165
   clear HB
   have HO1_2 := n0_
   have BK165 := n1_
   have HB := n2_
   clear n0_ n1_ n2_
   refine start_ (n := 7) (S := fun w' => w'.cell? ⟨gb165, 0, none⟩ = some (.string a1_0) ∧ w'.cell? ⟨gb165, 1, none⟩ = some (.string a1_1) ∧ w'.cell? ⟨gb165, 2, none⟩ = some (.slice A1_2 l1_2.length c1_2)) (ds := []) #[false, false, false, false, false, false, false] (by kernel_rfl) rfl rfl ⟨cy_ BK165 0, cy_ BK165 1, cy_ BK165 2⟩ (fun hHeld => ?_)
   generalize w8.drew = w9 at HO1_2 BK165 HB hHeld ⊢
   refine pure_ (i := 0) (N := some 7) (v := ?_) (a' := ?_) #[true, false, false, false, false, false, false] rfl rfl (by kernel_rfl) (fun _ _ _ h => h) (Or.inl ⟨by rfl, ?_⟩) ?_ ?_
   rotate_left
   ·intro w'
    go_simp
    with_reducible rfl
   rotate_left
   ·simp only [Act.put, q_]
    rfl
   refine take_ (i := 2) (N := some 9) (v := ?_) (a' := ?_) #[true, false, true, false, false, false, false] rfl rfl (by kernel_rfl) (fun _ _ _ h => h) (Or.inl ⟨by rfl, ?_⟩) hHeld ?_ ?_
   rotate_left
   ·rintro w' ⟨s0, s1, s2⟩
    go_simp
    with_reducible rfl
   rotate_left
   ·simp only [Act.put, q_]
    rfl
   refine join_ (σ := Value × Value) 3 #[true, true, true, true, false, false, false] (fun s_ => [(8, s_.1), (10, s_.2)]) (fun s_ w' => (w'.cell? ⟨gb165, 0, none⟩ = some (.string a1_0) ∧ w'.cell? ⟨gb165, 1, none⟩ = some (.string a1_1) ∧ w'.cell? ⟨gb165, 2, none⟩ = some (.slice A1_2 l1_2.length c1_2)) ∧ (Kd.N k74 74 w' w.heap.size (fun k_ => (P1_2_ k_ ∨ w.heap.size ≤ k_) ∧ some k_ ≠ (s_.2 : Value).ownBlock ∧ k_ ≠ gb165) s_.1 t166) ∧ (Kd.N k74 74 w' w.heap.size (fun k_ => (P1_2_ k_ ∨ w.heap.size ≤ k_) ∧ some k_ ≠ (s_.1 : Value).ownBlock ∧ k_ ≠ gb165) s_.2 y169) ∧ (Kd.V (Kd.int .u8) 5 w' w.heap.size (fun k_ => (P1_2_ k_ ∨ w.heap.size ≤ k_) ∧ some k_ ≠ (s_.1 : Value).ownBlock ∧ some k_ ≠ (s_.2 : Value).ownBlock ∧ k_ ≠ gb165) (.slice A1_2 l1_2.length c1_2) l1_2) ∧ (w'.heap[gb165]? = some (.cells #[.string a1_0, .string a1_1, .slice A1_2 l1_2.length c1_2] 74 (0, 0))) ∧ (Below w.heap.size w w')) ?_ ?_
   rotate_left
   ·intro hCont
    refine two_ (i := 1) (j := 3) (Ni := some 8) (Nj := some 10) #[true, true, true, false, false, false, false] #[true, false, true, true, false, false, false] rfl rfl rfl rfl (by kernel_rfl) (by decide) (by decide) (fun K hK => ?_) (fun K hK => ?_)
    ·skip
     refine goes_ Try.func111 (by kernel_rfl) rfl #[.slice A0 l0.length c0] (by rfl) rfl rfl gl_ ?_
     with_reducible refine (spec_l08Copy.calls k _ _ l0 t166 _ ?side1 ?side2 A3.out).mono ?_
     (case side1 => exact ca_ (Kd.C_below HR0.out HB.out))
     (case side2 => exact HC0.out)
     rintro e w10 ⟨v167, rfl, ho0, hb⟩
     refine ⟨_, rfl, ?_⟩
     have n0_ := Aside0.mk (Kd.V_elder' (by (with_reducible repeat (first | apply Kd.V_alloc | apply Kd.V_drewN | apply Kd.V_drew)); exact HO1_2.out) (by first | exact Kd.N_base ho0 | exact Kd.N_base (Kd.S_N ho0)) hb)
     have n1_ := Aside0.mk (Kd.N_lower (Kd.N_mono (ok' := fun k_ => (P1_2_ k_ ∨ w.heap.size ≤ k_) ∧ k_ ≠ gb165) (Kd.S_N (Kd.S_bound ho0)) (fun k_ hk_ => ⟨(.inr (Nat.le_trans (below_size bl_) hk_.2.1)), (Kd.freshB (bk_ BK165) k_ hk_.2.1)⟩)) (below_size bl_))
     have n2_ := Aside0.mk (blk_below (bk_ BK165) hb)
     have n3_ := Aside0.mk (below_step bl_ hb)
     clear HO1_2
     clear BK165
     clear HB
     have HO1_2 := n0_
     have HO168 := n1_
     have BK165 := n2_
     have HB := n3_
     clear n0_ n1_ n2_ n3_
     (try clear hb)
     (try clear hb2)
     (try clear hk)
     (try clear hi)
     (try clear ho0)
     refine hK.out _ _ ⟨cy_ BK165 0, cy_ BK165 1, cy_ BK165 2⟩ (fun hHeld => ?_)
     clear hK K
     refine norm_ (a' := ?_) ?_ ?_
     rotate_left
     ·show Act.put _ (some 8) _ = _
      simp only [Act.put, q_]
      rfl
     refine one_ (i := 3) (N := some 10) #[true, true, true, true, false, false, false] rfl rfl (by kernel_rfl) (by decide) (fun K hK => ?_)
     refine Kd.N_lit_step k74 _ 74 ?hg (N' := 10) ?hd (xs := ([(⟨a1_0, a1_1, l1_2⟩ : S74)] : List (S74))) (inner := [.string a1_0, .string a1_1, .slice A1_2 l1_2.length c1_2]) (ok := (fun k_ => (P1_2_ k_ ∨ w.heap.size ≤ k_) ∧ some k_ ≠ (v167 : Value).ownBlock ∧ k_ ≠ gb165)) (okp := (fun k_ => (P1_2_ k_ ∨ w.heap.size ≤ k_) ∧ some k_ ≠ (v167 : Value).ownBlock ∧ k_ ≠ gb165)) ?hr ?hp (fun _ hk => hk) ((show ∀ k_, w10.heap.size ≤ k_ → (fun k_ => (P1_2_ k_ ∨ w.heap.size ≤ k_) ∧ some k_ ≠ (v167 : Value).ownBlock ∧ k_ ≠ gb165) k_ from fun k_ hk => ⟨(.inr (Nat.le_trans (below_size bl_) hk)), Kd.fresh' (Kd.N_lt (by (with_reducible repeat (first | apply Kd.N_alloc | apply Kd.N_drewN | apply Kd.N_drew)); exact HO168.out)) k_ hk, Kd.freshB (bk_ BK165) k_ hk⟩) _ (Nat.le_refl _)) (Below.refl _ _) (Nat.le_refl _) (by simp) ?_; (case hd => rfl); (case hg => rfl); (case hr => first | (go_simp; done) | (go_simp; rfl)); (case hp => exact (Reps.c3 (show Kd.FK k74 _ _ (⟨a1_0, a1_1, l1_2⟩ : S74) [.string a1_0, .string a1_1, .slice A1_2 l1_2.length c1_2] from (k74_mkF _ _ (⟨a1_0, a1_1, l1_2⟩ : S74) (Kd.V_reads' (Kd.V_mono (ok' := (fun k_ => (P1_2_ k_ ∨ w.heap.size ≤ k_) ∧ some k_ ≠ (v167 : Value).ownBlock ∧ k_ ≠ gb165)) (HO1_2.out) (fun k_ hk => ⟨hk.1.1, ⟨hk.2, hk.1.2⟩⟩))).2.1 (Kd.V_F (Kd.V_mono (ok' := (fun k_ => (P1_2_ k_ ∨ w.heap.size ≤ k_) ∧ some k_ ≠ (v167 : Value).ownBlock ∧ k_ ≠ gb165)) (HO1_2.out) (fun k_ hk => ⟨hk.1.1, ⟨hk.2, hk.1.2⟩⟩))))) (Reps.none _ _)))
     intro v170 w11 ho12 hb hg_ hnew_
     clear hg_ hnew_
     (first | rw [← Ny169.out] at ho12 | (simp only [Int.reduceToNat] at ho12; rw [← Ny169.out] at ho12))
     have n0_ := Aside0.mk (Kd.V_elder' (by (with_reducible repeat (first | apply Kd.V_alloc | apply Kd.V_drewN | apply Kd.V_drew)); exact HO1_2.out) (Kd.N_base ho12) hb)
     have n1_ := Aside0.mk (Kd.N_elder' (by (with_reducible repeat (first | apply Kd.N_alloc | apply Kd.N_drewN | apply Kd.N_drew)); exact HO168.out) (Kd.N_base ho12) hb)
     have n2_ := Aside0.mk (Kd.N_lower ho12 (below_size bl_))
     have n3_ := Aside0.mk (blk_below (bk_ BK165) hb)
     have n4_ := Aside0.mk (below_step bl_ hb)
     clear HO1_2
     clear HO168
     clear BK165
     clear HB
     have HO1_2 := n0_
     have HO168 := n1_
     have HO171 := n2_
     have BK165 := n3_
     have HB := n4_
     clear n0_ n1_ n2_ n3_ n4_
     clear hb ho12
     refine hK.out _ _ ⟨cy_ BK165 0, cy_ BK165 1, cy_ BK165 2⟩ (fun hHeld => ?_)
     clear hK K
     refine norm_ (a' := ?_) ?_ ?_
     rotate_left
     ·show Act.put _ (some 10) _ = _
      simp only [Act.put, q_]
      rfl
     exact norm_ (by simp only [putAll, Act.put, List.setIfInBounds_toArray, List.set_cons_zero, List.set_cons_succ]) (hCont (v167, v170) _ ⟨hHeld, (by (with_reducible repeat (first | apply Kd.N_alloc | apply Kd.N_drewN | apply Kd.N_drew)); exact Kd.N_mono HO168.out (fun _ hk => ⟨hk.1.1, ⟨hk.2, hk.1.2⟩⟩)), (by (with_reducible repeat (first | apply Kd.N_alloc | apply Kd.N_drewN | apply Kd.N_drew)); exact HO171.out), (by (with_reducible repeat (first | apply Kd.V_alloc | apply Kd.V_drewN | apply Kd.V_drew)); exact Kd.V_mono HO1_2.out (fun _ hk => ⟨hk.1.1.1, ⟨hk.1.2, ⟨hk.2, hk.1.1.2⟩⟩⟩)), (by (with_reducible repeat (first | refine blk_drewN ?_ _ | refine blk_drew ?_ | refine blk_alloc ?_ _)); exact BK165.out), bl_⟩)
    ·skip
     refine Kd.N_lit_step k74 _ 74 ?hg (N' := 10) ?hd (xs := ([(⟨a1_0, a1_1, l1_2⟩ : S74)] : List (S74))) (inner := [.string a1_0, .string a1_1, .slice A1_2 l1_2.length c1_2]) (ok := (fun k_ => (P1_2_ k_ ∨ w.heap.size ≤ k_) ∧ k_ ≠ gb165)) (okp := (fun k_ => (P1_2_ k_ ∨ w.heap.size ≤ k_) ∧ k_ ≠ gb165)) ?hr ?hp (fun _ hk => hk) ((show ∀ k_, w9.heap.size ≤ k_ → (fun k_ => (P1_2_ k_ ∨ w.heap.size ≤ k_) ∧ k_ ≠ gb165) k_ from fun k_ hk => ⟨(.inr (Nat.le_trans (below_size bl_) hk)), Kd.freshB (bk_ BK165) k_ hk⟩) _ (Nat.le_refl _)) (Below.refl _ _) (Nat.le_refl _) (by simp) ?_; (case hd => rfl); (case hg => rfl); (case hr => first | (go_simp; done) | (go_simp; rfl)); (case hp => exact (Reps.c3 (show Kd.FK k74 _ _ (⟨a1_0, a1_1, l1_2⟩ : S74) [.string a1_0, .string a1_1, .slice A1_2 l1_2.length c1_2] from (k74_mkF _ _ (⟨a1_0, a1_1, l1_2⟩ : S74) (Kd.V_reads' (Kd.V_mono (ok' := (fun k_ => (P1_2_ k_ ∨ w.heap.size ≤ k_) ∧ k_ ≠ gb165)) (HO1_2.out) (fun k_ hk => ⟨hk.1, hk.2⟩))).2.1 (Kd.V_F (Kd.V_mono (ok' := (fun k_ => (P1_2_ k_ ∨ w.heap.size ≤ k_) ∧ k_ ≠ gb165)) (HO1_2.out) (fun k_ hk => ⟨hk.1, hk.2⟩))))) (Reps.none _ _)))
     intro v170 w10 ho11 hb hg_ hnew_
     clear hg_ hnew_
     (first | rw [← Ny169.out] at ho11 | (simp only [Int.reduceToNat] at ho11; rw [← Ny169.out] at ho11))
     have n0_ := Aside0.mk (Kd.V_elder' (by (with_reducible repeat (first | apply Kd.V_alloc | apply Kd.V_drewN | apply Kd.V_drew)); exact HO1_2.out) (Kd.N_base ho11) hb)
     have n1_ := Aside0.mk (Kd.N_lower ho11 (below_size bl_))
     have n2_ := Aside0.mk (blk_below (bk_ BK165) hb)
     have n3_ := Aside0.mk (below_step bl_ hb)
     clear HO1_2
     clear BK165
     clear HB
     have HO1_2 := n0_
     have HO171 := n1_
     have BK165 := n2_
     have HB := n3_
     clear n0_ n1_ n2_ n3_
     clear hb ho11
     refine hK.out _ _ ⟨cy_ BK165 0, cy_ BK165 1, cy_ BK165 2⟩ (fun hHeld => ?_)
     clear hK K
     refine norm_ (a' := ?_) ?_ ?_
     rotate_left
     ·show Act.put _ (some 10) _ = _
      simp only [Act.put, q_]
      rfl
     refine one_ (i := 1) (N := some 8) #[true, true, true, true, false, false, false] rfl rfl (by kernel_rfl) (by decide) (fun K hK => ?_)
     refine goes_ Try.func111 (by kernel_rfl) rfl #[.slice A0 l0.length c0] (by rfl) rfl rfl gl_ ?_
     with_reducible refine (spec_l08Copy.calls k _ _ l0 t166 _ ?side1 ?side2 A3.out).mono ?_
     (case side1 => exact ca_ (Kd.C_below HR0.out HB.out))
     (case side2 => exact HC0.out)
     rintro e w12 ⟨v167, rfl, ho0, hb⟩
     refine ⟨_, rfl, ?_⟩
     have n0_ := Aside0.mk (Kd.V_elder' (by (with_reducible repeat (first | apply Kd.V_alloc | apply Kd.V_drewN | apply Kd.V_drew)); exact HO1_2.out) (by first | exact Kd.N_base ho0 | exact Kd.N_base (Kd.S_N ho0)) hb)
     have n1_ := Aside0.mk (Kd.N_elder' (by (with_reducible repeat (first | apply Kd.N_alloc | apply Kd.N_drewN | apply Kd.N_drew)); exact HO171.out) (by first | exact Kd.N_base ho0 | exact Kd.N_base (Kd.S_N ho0)) hb)
     have n2_ := Aside0.mk (Kd.N_lower (Kd.N_mono (ok' := fun k_ => (P1_2_ k_ ∨ w.heap.size ≤ k_) ∧ some k_ ≠ (v170 : Value).ownBlock ∧ k_ ≠ gb165) (Kd.S_N (Kd.S_bound ho0)) (fun k_ hk_ => ⟨(.inr (Nat.le_trans (below_size bl_) hk_.2.1)), (Kd.fresh' (Kd.N_lt (by (with_reducible repeat (first | apply Kd.N_alloc | apply Kd.N_drewN | apply Kd.N_drew)); exact HO171.out)) k_ hk_.2.1), (Kd.freshB (bk_ BK165) k_ hk_.2.1)⟩)) (below_size bl_))
     have n3_ := Aside0.mk (blk_below (bk_ BK165) hb)
     have n4_ := Aside0.mk (below_step bl_ hb)
     clear HO1_2
     clear HO171
     clear BK165
     clear HB
     have HO1_2 := n0_
     have HO171 := n1_
     have HO168 := n2_
     have BK165 := n3_
     have HB := n4_
     clear n0_ n1_ n2_ n3_ n4_
     (try clear hb)
     (try clear hb2)
     (try clear hk)
     (try clear hi)
     (try clear ho0)
     refine hK.out _ _ ⟨cy_ BK165 0, cy_ BK165 1, cy_ BK165 2⟩ (fun hHeld => ?_)
     clear hK K
     refine norm_ (a' := ?_) ?_ ?_
     rotate_left
     ·show Act.put _ (some 8) _ = _
      simp only [Act.put, q_]
      rfl
     exact norm_ (by simp only [putAll, Act.put, List.setIfInBounds_toArray, List.set_cons_zero, List.set_cons_succ]) (hCont (v167, v170) _ ⟨hHeld, (by (with_reducible repeat (first | apply Kd.N_alloc | apply Kd.N_drewN | apply Kd.N_drew)); exact HO168.out), (by (with_reducible repeat (first | apply Kd.N_alloc | apply Kd.N_drewN | apply Kd.N_drew)); exact Kd.N_mono HO171.out (fun _ hk => ⟨hk.1.1, ⟨hk.2, hk.1.2⟩⟩)), (by (with_reducible repeat (first | apply Kd.V_alloc | apply Kd.V_drewN | apply Kd.V_drew)); exact Kd.V_mono HO1_2.out (fun _ hk => ⟨hk.1.1.1, ⟨hk.2, ⟨hk.1.2, hk.1.1.2⟩⟩⟩)), (by (with_reducible repeat (first | refine blk_drewN ?_ _ | refine blk_drew ?_ | refine blk_alloc ?_ _)); exact BK165.out), bl_⟩)
   rintro ⟨v167, v170⟩ w13 ⟨hS_, h0_, h1_, h2_, h3_, h4_⟩
   have n0_ : Aside0 (Kd.N k74 74 w13 w.heap.size (fun k_ => (P1_2_ k_ ∨ w.heap.size ≤ k_) ∧ some k_ ≠ (v170 : Value).ownBlock ∧ k_ ≠ gb165) v167 t166) := ⟨h0_⟩
   have n1_ : Aside0 (Kd.N k74 74 w13 w.heap.size (fun k_ => (P1_2_ k_ ∨ w.heap.size ≤ k_) ∧ some k_ ≠ (v167 : Value).ownBlock ∧ k_ ≠ gb165) v170 y169) := ⟨h1_⟩
   have n2_ : Aside0 (Kd.V (Kd.int .u8) 5 w13 w.heap.size (fun k_ => (P1_2_ k_ ∨ w.heap.size ≤ k_) ∧ some k_ ≠ (v167 : Value).ownBlock ∧ some k_ ≠ (v170 : Value).ownBlock ∧ k_ ≠ gb165) (.slice A1_2 l1_2.length c1_2) l1_2) := ⟨h2_⟩
   have n3_ : Aside0 (w13.heap[gb165]? = some (.cells #[.string a1_0, .string a1_1, .slice A1_2 l1_2.length c1_2] 74 (0, 0))) := ⟨h3_⟩
   have n4_ : Aside0 (Below w.heap.size w w13) := ⟨h4_⟩
   clear HO1_2
   clear BK165
   clear HB
   clear h0_ h1_ h2_ h3_ h4_
   have HO168 := n0_
   have HO171 := n1_
   have HO1_2 := n2_
   have BK165 := n3_
   have HB := n4_
   clear n0_ n1_ n2_ n3_ n4_
   have hHeld : w13.cell? ⟨gb165, 0, none⟩ = some (.string a1_0) ∧ w13.cell? ⟨gb165, 1, none⟩ = some (.string a1_1) ∧ w13.cell? ⟨gb165, 2, none⟩ = some (.slice A1_2 l1_2.length c1_2) := hS_
   obtain ⟨Ao15, co15, eo15⟩ := Kd.N_slice HO171.out
   (first | subst eo15 | (injection eo15 with f1_ f2_ f3_; have f4_ := f1_.symm; have f5_ := f3_.symm; clear f1_ f2_ f3_; subst f4_; subst f5_))
   refine norm_ (a' := ?_) ?_ ?_
   rotate_left
   ·simp only [putAll, Act.put, List.setIfInBounds_toArray, List.set_cons_zero, List.set_cons_succ]
    rfl
   refine one_ (i := 4) (N := some 11) #[true, true, true, true, true, false, false] rfl rfl (by kernel_rfl) (by decide) (fun K hK => ?_)
   refine Kd.N_append_rows_step k74 (w0 := w) w.heap.size (by rfl) (.tmp 8) (.tmp 10) 41 74 (.agg #[(.string ⟨#[]⟩), (.string ⟨#[]⟩), (.slice none 0 0)]) 56 rfl Try.underlying41 info74 rfl (by decide) (by omega) v167 t166 y169 _ _ _ (fun k_ => (P1_2_ k_ ∨ w.heap.size ≤ k_) ∧ k_ ≠ gb165) (fun k_ => ((fun k_ => (P1_2_ k_ ∨ w.heap.size ≤ k_) ∧ k_ ≠ gb165)) k_ ∧ some k_ ≠ (v167 : Value).ownBlock) rfl rfl ?aO ?aR (fun _ hk => hk) ?aF ?aB ?aS ?aL ?_
   (case aR => exact (by skip; exact Kd.N_F (Kd.N_mono (ok' := (fun k_ => ((fun k_ => (P1_2_ k_ ∨ w.heap.size ≤ k_) ∧ k_ ≠ gb165)) k_ ∧ some k_ ≠ (v167 : Value).ownBlock)) (HO171.out) (fun k_ hk => ⟨⟨hk.1, hk.2.2⟩, hk.2.1⟩))))
   (case aB => exact bl_)
   (case aF => exact (fun k_ hk => ⟨(.inr (Nat.le_trans (below_size bl_) hk)), Kd.freshB (bk_ BK165) k_ hk⟩))
   (case aO => exact (by (with_reducible repeat (first | apply Kd.N_alloc | apply Kd.N_drewN | apply Kd.N_drew)); exact Kd.N_mono HO168.out (fun _ hk => ⟨hk.1, hk.2.2⟩)))
   (case aS => exact (below_size bl_))
   (case aL => have := LMc4.out; omega)
   intro v173 w14 ho hb hg hat
   rw [← Ny172.out] at ho
   have n0_ := Aside0.mk (Kd.V_afterv (ok := (fun k_ => (P1_2_ k_ ∨ w.heap.size ≤ k_) ∧ some k_ ≠ (.slice Ao15 y169.length co15 : Value).ownBlock ∧ k_ ≠ gb165)) (by (with_reducible repeat (first | apply Kd.V_alloc | apply Kd.V_drewN | apply Kd.V_drew)); exact Kd.V_mono HO1_2.out (fun _ hk => ⟨⟨hk.1, ⟨hk.2.2.1, hk.2.2.2⟩⟩, hk.2.1⟩)) hg hat)
   have n1_ := Aside0.mk (blk_grown (bk_ BK165) hg (Kd.N_away HO168.out (fun _ hk => hk.2.2)))
   have n2_ := Aside0.mk (Kd.N_afterv (ok := (fun k_ => (P1_2_ k_ ∨ w.heap.size ≤ k_) ∧ k_ ≠ gb165)) (by (with_reducible repeat (first | apply Kd.N_alloc | apply Kd.N_drewN | apply Kd.N_drew)); exact Kd.N_mono HO171.out (fun _ hk => ⟨⟨hk.1, hk.2.2⟩, hk.2.1⟩)) hg hat)
   have n3_ := Aside0.mk (hb)
   have n4_ := Aside0.mk (ho)
   clear HO1_2
   clear BK165
   clear HO171
   clear HB
   clear HO168
   have HO1_2 := n0_
   have BK165 := n1_
   have HO171 := n2_
   have HB := n3_
   have HO174 := n4_
   clear n0_ n1_ n2_ n3_ n4_
   clear ho hb hg hat
   obtain ⟨Ao16, co16, eo16⟩ := Kd.N_slice HO174.out
   (first | subst eo16 | (injection eo16 with f1_ f2_ f3_; have f4_ := f1_.symm; have f5_ := f3_.symm; clear f1_ f2_ f3_; subst f4_; subst f5_))
   refine hK.out _ _ ⟨cy_ BK165 0, cy_ BK165 1, cy_ BK165 2⟩ (fun hHeld => ?_)
   clear hK K
   refine norm_ (a' := ?_) ?_ ?_
   rotate_left
   ·show Act.put _ (some 11) _ = _
    simp only [Act.put, q_]
    rfl
   refine one_ (i := 5) (N := some 12) #[true, true, true, true, true, true, false] rfl rfl (by kernel_rfl) (by decide) (fun K hK => ?_)
   refine goes_ Try.func111 (by kernel_rfl) rfl #[.slice Ao16 y172.length co16] (by rfl) rfl rfl gl_ ?_
   with_reducible refine (spec_l08Copy.calls k _ _ y172 t175 _ ?side1 ?side2 A5.out).mono ?_
   (case side1 => exact ca_ ((Kd.N_reads' HO174.out).2.2))
   (case side2 => exact (Kd.N_reads' HO174.out).2.1)
   rintro e w17 ⟨v176, rfl, ho0, hb⟩
   refine ⟨_, rfl, ?_⟩
   have n0_ := Aside0.mk (Kd.V_elder' (by (with_reducible repeat (first | apply Kd.V_alloc | apply Kd.V_drewN | apply Kd.V_drew)); exact HO1_2.out) (by first | exact Kd.N_base ho0 | exact Kd.N_base (Kd.S_N ho0)) hb)
   have n1_ := Aside0.mk (Kd.N_elder' (by (with_reducible repeat (first | apply Kd.N_alloc | apply Kd.N_drewN | apply Kd.N_drew)); exact HO171.out) (by first | exact Kd.N_base ho0 | exact Kd.N_base (Kd.S_N ho0)) hb)
   have n2_ := Aside0.mk (Kd.N_elder' (by (with_reducible repeat (first | apply Kd.N_alloc | apply Kd.N_drewN | apply Kd.N_drew)); exact HO174.out) (by first | exact Kd.N_base ho0 | exact Kd.N_base (Kd.S_N ho0)) hb)
   have n3_ := Aside0.mk (Kd.N_lower (Kd.N_mono (ok' := fun k_ => (P1_2_ k_ ∨ w.heap.size ≤ k_) ∧ some k_ ≠ (.slice Ao15 y169.length co15 : Value).ownBlock ∧ some k_ ≠ (.slice Ao16 y172.length co16 : Value).ownBlock ∧ k_ ≠ gb165) (Kd.S_N (Kd.S_bound ho0)) (fun k_ hk_ => ⟨(.inr (Nat.le_trans (below_size bl_) hk_.2.1)), (Kd.fresh' (Kd.N_lt (by (with_reducible repeat (first | apply Kd.N_alloc | apply Kd.N_drewN | apply Kd.N_drew)); exact HO171.out)) k_ hk_.2.1), (Kd.fresh' (Kd.N_lt (by (with_reducible repeat (first | apply Kd.N_alloc | apply Kd.N_drewN | apply Kd.N_drew)); exact HO174.out)) k_ hk_.2.1), (Kd.freshB (bk_ BK165) k_ hk_.2.1)⟩)) (below_size bl_))
   have n4_ := Aside0.mk (blk_below (bk_ BK165) hb)
   have n5_ := Aside0.mk (below_step bl_ hb)
   clear HO1_2
   clear HO171
   clear HO174
   clear BK165
   clear HB
   have HO1_2 := n0_
   have HO171 := n1_
   have HO174 := n2_
   have HO177 := n3_
   have BK165 := n4_
   have HB := n5_
   clear n0_ n1_ n2_ n3_ n4_ n5_
   (try clear hb)
   (try clear hb2)
   (try clear hk)
   (try clear hi)
   (try clear ho0)
   refine hK.out _ _ ⟨cy_ BK165 0, cy_ BK165 1, cy_ BK165 2⟩ (fun hHeld => ?_)
   clear hK K
   refine norm_ (a' := ?_) ?_ ?_
   rotate_left
   ·show Act.put _ (some 12) _ = _
    simp only [Act.put, q_]
    rfl
   refine pure_ (i := 6) (N := some 6) (v := ?_) (a' := ?_) #[true, true, true, true, true, true, true] rfl rfl (by kernel_rfl) (fun _ _ _ h => h) (Or.inl ⟨by rfl, ?_⟩) ?_ ?_
   rotate_left
   ·intro w'
    go_simp
    with_reducible rfl
   rotate_left
   ·simp only [Act.put, q_]
    rfl
   refine done_ (by kernel_rfl) ?_
   obtain ⟨Ao18, co18, eo18⟩ := Kd.N_slice HO177.out
   subst eo18
   try go_wp2_with (first | ((with_reducible refine gate_callee (f := 112) rfl ?_); refine goesL_ (some 14) rfl rfl Try.func112 (by kernel_rfl) rfl #[.slice Ao18 t175.length co18] rfl gl_ ?_; (with_reducible refine (spec_SlotsOk.calls k _ _ t175 true _ ?side1 ?side2 A6.out).mono ?_); (case side1 => exact ca_ ((Kd.N_reads' HO177.out).2.2)); (case side2 => exact (Kd.N_reads' HO177.out).2.1); rintro e w19 ⟨rfl, hb⟩; refine ⟨_, rfl, ?_⟩; replace HO1_2 := Aside0.mk (Kd.V_below (by (with_reducible repeat (first | apply Kd.V_alloc | apply Kd.V_drewN | apply Kd.V_drew)); exact HO1_2.out) hb); replace HO171 := Aside0.mk (Kd.N_below (by (with_reducible repeat (first | apply Kd.N_alloc | apply Kd.N_drewN | apply Kd.N_drew)); exact HO171.out) hb); replace HO174 := Aside0.mk (Kd.N_below (by (with_reducible repeat (first | apply Kd.N_alloc | apply Kd.N_drewN | apply Kd.N_drew)); exact HO174.out) hb); replace HO177 := Aside0.mk (Kd.N_below (by (with_reducible repeat (first | apply Kd.N_alloc | apply Kd.N_drewN | apply Kd.N_drew)); exact HO177.out) hb); replace BK165 := Aside0.mk (blk_below (bk_ BK165) hb); replace HB := Aside0.mk (below_step bl_ hb); (try clear hb); (try clear hb2); (try clear hk); (try clear hi)))
   go_ret2
   exact ⟨_, by first | rfl | (simp [errW_none, errW_some] <;> rfl) | (simp [*, errW_none, errW_some] <;> rfl), by (with_reducible repeat (first | apply Kd.N_alloc | apply Kd.N_drewN | apply Kd.N_drew)); exact Kd.N_mono HO177.out (fun _ hk => hk.1), bl_⟩
  ·replace c7 := Bool.eq_false_iff.mpr c7
   subst c7
   replace H := in_ H
   simp only [Option.some.injEq, Prod.mk.injEq] at H
   obtain ⟨rfl, rfl⟩ := H
   go_enter Try.func46, Try.ntmps46
   try go_wp2_with (first | ((with_reducible refine gate_dst (N := 3) rfl ?_); refine be_ (N := 3) (cs := #[.string a1_0, .string a1_1, .slice A1_2 l1_2.length c1_2]) (t := 74) ?_; intro gb165 hg w20 hbox hb; replace HO1_2 := Aside0.mk (Kd.V_below (Kd.V_elderB (by (with_reducible repeat (first | apply Kd.V_alloc | apply Kd.V_drewN | apply Kd.V_drew)); exact HO1_2.out) gb165 (Nat.le_of_eq hg.symm)) hb); have BK165 := Aside0.mk (hbox); have GW165 := gw_ (w := w) hg; have GE165 := gw_ (w := w) hg; replace HB := Aside0.mk (below_step bl_ hb); clear hb hbox hg))
   have n0_ := Aside0.mk (Kd.V_drew HO1_2.out)
   have n1_ := Aside0.mk (blk_drew BK165.out)
   have n2_ := Aside0.mk (below_drew1 HB.out)
   clear HO1_2
   clear BK165
   clear HB
   have HO1_2 := n0_
   have BK165 := n1_
   have HB := n2_
   clear n0_ n1_ n2_
   refine start_ (n := 7) (S := fun w' => w'.cell? ⟨gb165, 0, none⟩ = some (.string a1_0) ∧ w'.cell? ⟨gb165, 1, none⟩ = some (.string a1_1) ∧ w'.cell? ⟨gb165, 2, none⟩ = some (.slice A1_2 l1_2.length c1_2)) (ds := []) #[false, false, false, false, false, false, false] (by kernel_rfl) rfl rfl ⟨cy_ BK165 0, cy_ BK165 1, cy_ BK165 2⟩ (fun hHeld => ?_)
   generalize w20.drew = w21 at HO1_2 BK165 HB hHeld ⊢
   refine pure_ (i := 0) (N := some 7) (v := ?_) (a' := ?_) #[true, false, false, false, false, false, false] rfl rfl (by kernel_rfl) (fun _ _ _ h => h) (Or.inl ⟨by rfl, ?_⟩) ?_ ?_
   rotate_left
   ·intro w'
    go_simp
    with_reducible rfl
   rotate_left
   ·simp only [Act.put, q_]
    rfl
   refine take_ (i := 2) (N := some 9) (v := ?_) (a' := ?_) #[true, false, true, false, false, false, false] rfl rfl (by kernel_rfl) (fun _ _ _ h => h) (Or.inl ⟨by rfl, ?_⟩) hHeld ?_ ?_
   rotate_left
   ·rintro w' ⟨s0, s1, s2⟩
    go_simp
    with_reducible rfl
   rotate_left
   ·simp only [Act.put, q_]
    rfl
   refine join_ (σ := Value × Value) 3 #[true, true, true, true, false, false, false] (fun s_ => [(8, s_.1), (10, s_.2)]) (fun s_ w' => (w'.cell? ⟨gb165, 0, none⟩ = some (.string a1_0) ∧ w'.cell? ⟨gb165, 1, none⟩ = some (.string a1_1) ∧ w'.cell? ⟨gb165, 2, none⟩ = some (.slice A1_2 l1_2.length c1_2)) ∧ (Kd.N k74 74 w' w.heap.size (fun k_ => (P1_2_ k_ ∨ w.heap.size ≤ k_) ∧ some k_ ≠ (s_.2 : Value).ownBlock ∧ k_ ≠ gb165) s_.1 t166) ∧ (Kd.N k74 74 w' w.heap.size (fun k_ => (P1_2_ k_ ∨ w.heap.size ≤ k_) ∧ some k_ ≠ (s_.1 : Value).ownBlock ∧ k_ ≠ gb165) s_.2 y169) ∧ (Kd.V (Kd.int .u8) 5 w' w.heap.size (fun k_ => (P1_2_ k_ ∨ w.heap.size ≤ k_) ∧ some k_ ≠ (s_.1 : Value).ownBlock ∧ some k_ ≠ (s_.2 : Value).ownBlock ∧ k_ ≠ gb165) (.slice A1_2 l1_2.length c1_2) l1_2) ∧ (w'.heap[gb165]? = some (.cells #[.string a1_0, .string a1_1, .slice A1_2 l1_2.length c1_2] 74 (0, 0))) ∧ (Below w.heap.size w w')) ?_ ?_
   rotate_left
   ·intro hCont
    refine two_ (i := 1) (j := 3) (Ni := some 8) (Nj := some 10) #[true, true, true, false, false, false, false] #[true, false, true, true, false, false, false] rfl rfl rfl rfl (by kernel_rfl) (by decide) (by decide) (fun K hK => ?_) (fun K hK => ?_)
    ·skip
     refine goes_ Try.func111 (by kernel_rfl) rfl #[.slice A0 l0.length c0] (by rfl) rfl rfl gl_ ?_
     with_reducible refine (spec_l08Copy.calls k _ _ l0 t166 _ ?side1 ?side2 A3.out).mono ?_
     (case side1 => exact ca_ (Kd.C_below HR0.out HB.out))
     (case side2 => exact HC0.out)
     rintro e w22 ⟨v167, rfl, ho0, hb⟩
     refine ⟨_, rfl, ?_⟩
     have n0_ := Aside0.mk (Kd.V_elder' (by (with_reducible repeat (first | apply Kd.V_alloc | apply Kd.V_drewN | apply Kd.V_drew)); exact HO1_2.out) (by first | exact Kd.N_base ho0 | exact Kd.N_base (Kd.S_N ho0)) hb)
     have n1_ := Aside0.mk (Kd.N_lower (Kd.N_mono (ok' := fun k_ => (P1_2_ k_ ∨ w.heap.size ≤ k_) ∧ k_ ≠ gb165) (Kd.S_N (Kd.S_bound ho0)) (fun k_ hk_ => ⟨(.inr (Nat.le_trans (below_size bl_) hk_.2.1)), (Kd.freshB (bk_ BK165) k_ hk_.2.1)⟩)) (below_size bl_))
     have n2_ := Aside0.mk (blk_below (bk_ BK165) hb)
     have n3_ := Aside0.mk (below_step bl_ hb)
     clear HO1_2
     clear BK165
     clear HB
     have HO1_2 := n0_
     have HO168 := n1_
     have BK165 := n2_
     have HB := n3_
     clear n0_ n1_ n2_ n3_
     (try clear hb)
     (try clear hb2)
     (try clear hk)
     (try clear hi)
     (try clear ho0)
     refine hK.out _ _ ⟨cy_ BK165 0, cy_ BK165 1, cy_ BK165 2⟩ (fun hHeld => ?_)
     clear hK K
     refine norm_ (a' := ?_) ?_ ?_
     rotate_left
     ·show Act.put _ (some 8) _ = _
      simp only [Act.put, q_]
      rfl
     refine one_ (i := 3) (N := some 10) #[true, true, true, true, false, false, false] rfl rfl (by kernel_rfl) (by decide) (fun K hK => ?_)
     refine Kd.N_lit_step k74 _ 74 ?hg (N' := 10) ?hd (xs := ([(⟨a1_0, a1_1, l1_2⟩ : S74)] : List (S74))) (inner := [.string a1_0, .string a1_1, .slice A1_2 l1_2.length c1_2]) (ok := (fun k_ => (P1_2_ k_ ∨ w.heap.size ≤ k_) ∧ some k_ ≠ (v167 : Value).ownBlock ∧ k_ ≠ gb165)) (okp := (fun k_ => (P1_2_ k_ ∨ w.heap.size ≤ k_) ∧ some k_ ≠ (v167 : Value).ownBlock ∧ k_ ≠ gb165)) ?hr ?hp (fun _ hk => hk) ((show ∀ k_, w22.heap.size ≤ k_ → (fun k_ => (P1_2_ k_ ∨ w.heap.size ≤ k_) ∧ some k_ ≠ (v167 : Value).ownBlock ∧ k_ ≠ gb165) k_ from fun k_ hk => ⟨(.inr (Nat.le_trans (below_size bl_) hk)), Kd.fresh' (Kd.N_lt (by (with_reducible repeat (first | apply Kd.N_alloc | apply Kd.N_drewN | apply Kd.N_drew)); exact HO168.out)) k_ hk, Kd.freshB (bk_ BK165) k_ hk⟩) _ (Nat.le_refl _)) (Below.refl _ _) (Nat.le_refl _) (by simp) ?_; (case hd => rfl); (case hg => rfl); (case hr => first | (go_simp; done) | (go_simp; rfl)); (case hp => exact (Reps.c3 (show Kd.FK k74 _ _ (⟨a1_0, a1_1, l1_2⟩ : S74) [.string a1_0, .string a1_1, .slice A1_2 l1_2.length c1_2] from (k74_mkF _ _ (⟨a1_0, a1_1, l1_2⟩ : S74) (Kd.V_reads' (Kd.V_mono (ok' := (fun k_ => (P1_2_ k_ ∨ w.heap.size ≤ k_) ∧ some k_ ≠ (v167 : Value).ownBlock ∧ k_ ≠ gb165)) (HO1_2.out) (fun k_ hk => ⟨hk.1.1, ⟨hk.2, hk.1.2⟩⟩))).2.1 (Kd.V_F (Kd.V_mono (ok' := (fun k_ => (P1_2_ k_ ∨ w.heap.size ≤ k_) ∧ some k_ ≠ (v167 : Value).ownBlock ∧ k_ ≠ gb165)) (HO1_2.out) (fun k_ hk => ⟨hk.1.1, ⟨hk.2, hk.1.2⟩⟩))))) (Reps.none _ _)))
     intro v170 w23 ho24 hb hg_ hnew_
     clear hg_ hnew_
     (first | rw [← Ny169.out] at ho24 | (simp only [Int.reduceToNat] at ho24; rw [← Ny169.out] at ho24))
     have n0_ := Aside0.mk (Kd.V_elder' (by (with_reducible repeat (first | apply Kd.V_alloc | apply Kd.V_drewN | apply Kd.V_drew)); exact HO1_2.out) (Kd.N_base ho24) hb)
     have n1_ := Aside0.mk (Kd.N_elder' (by (with_reducible repeat (first | apply Kd.N_alloc | apply Kd.N_drewN | apply Kd.N_drew)); exact HO168.out) (Kd.N_base ho24) hb)
     have n2_ := Aside0.mk (Kd.N_lower ho24 (below_size bl_))
     have n3_ := Aside0.mk (blk_below (bk_ BK165) hb)
     have n4_ := Aside0.mk (below_step bl_ hb)
     clear HO1_2
     clear HO168
     clear BK165
     clear HB
     have HO1_2 := n0_
     have HO168 := n1_
     have HO171 := n2_
     have BK165 := n3_
     have HB := n4_
     clear n0_ n1_ n2_ n3_ n4_
     clear hb ho24
     refine hK.out _ _ ⟨cy_ BK165 0, cy_ BK165 1, cy_ BK165 2⟩ (fun hHeld => ?_)
     clear hK K
     refine norm_ (a' := ?_) ?_ ?_
     rotate_left
     ·show Act.put _ (some 10) _ = _
      simp only [Act.put, q_]
      rfl
     exact norm_ (by simp only [putAll, Act.put, List.setIfInBounds_toArray, List.set_cons_zero, List.set_cons_succ]) (hCont (v167, v170) _ ⟨hHeld, (by (with_reducible repeat (first | apply Kd.N_alloc | apply Kd.N_drewN | apply Kd.N_drew)); exact Kd.N_mono HO168.out (fun _ hk => ⟨hk.1.1, ⟨hk.2, hk.1.2⟩⟩)), (by (with_reducible repeat (first | apply Kd.N_alloc | apply Kd.N_drewN | apply Kd.N_drew)); exact HO171.out), (by (with_reducible repeat (first | apply Kd.V_alloc | apply Kd.V_drewN | apply Kd.V_drew)); exact Kd.V_mono HO1_2.out (fun _ hk => ⟨hk.1.1.1, ⟨hk.1.2, ⟨hk.2, hk.1.1.2⟩⟩⟩)), (by (with_reducible repeat (first | refine blk_drewN ?_ _ | refine blk_drew ?_ | refine blk_alloc ?_ _)); exact BK165.out), bl_⟩)
    ·skip
     refine Kd.N_lit_step k74 _ 74 ?hg (N' := 10) ?hd (xs := ([(⟨a1_0, a1_1, l1_2⟩ : S74)] : List (S74))) (inner := [.string a1_0, .string a1_1, .slice A1_2 l1_2.length c1_2]) (ok := (fun k_ => (P1_2_ k_ ∨ w.heap.size ≤ k_) ∧ k_ ≠ gb165)) (okp := (fun k_ => (P1_2_ k_ ∨ w.heap.size ≤ k_) ∧ k_ ≠ gb165)) ?hr ?hp (fun _ hk => hk) ((show ∀ k_, w21.heap.size ≤ k_ → (fun k_ => (P1_2_ k_ ∨ w.heap.size ≤ k_) ∧ k_ ≠ gb165) k_ from fun k_ hk => ⟨(.inr (Nat.le_trans (below_size bl_) hk)), Kd.freshB (bk_ BK165) k_ hk⟩) _ (Nat.le_refl _)) (Below.refl _ _) (Nat.le_refl _) (by simp) ?_; (case hd => rfl); (case hg => rfl); (case hr => first | (go_simp; done) | (go_simp; rfl)); (case hp => exact (Reps.c3 (show Kd.FK k74 _ _ (⟨a1_0, a1_1, l1_2⟩ : S74) [.string a1_0, .string a1_1, .slice A1_2 l1_2.length c1_2] from (k74_mkF _ _ (⟨a1_0, a1_1, l1_2⟩ : S74) (Kd.V_reads' (Kd.V_mono (ok' := (fun k_ => (P1_2_ k_ ∨ w.heap.size ≤ k_) ∧ k_ ≠ gb165)) (HO1_2.out) (fun k_ hk => ⟨hk.1, hk.2⟩))).2.1 (Kd.V_F (Kd.V_mono (ok' := (fun k_ => (P1_2_ k_ ∨ w.heap.size ≤ k_) ∧ k_ ≠ gb165)) (HO1_2.out) (fun k_ hk => ⟨hk.1, hk.2⟩))))) (Reps.none _ _)))
     intro v170 w22 ho23 hb hg_ hnew_
     clear hg_ hnew_
     (first | rw [← Ny169.out] at ho23 | (simp only [Int.reduceToNat] at ho23; rw [← Ny169.out] at ho23))
     have n0_ := Aside0.mk (Kd.V_elder' (by (with_reducible repeat (first | apply Kd.V_alloc | apply Kd.V_drewN | apply Kd.V_drew)); exact HO1_2.out) (Kd.N_base ho23) hb)
     have n1_ := Aside0.mk (Kd.N_lower ho23 (below_size bl_))
     have n2_ := Aside0.mk (blk_below (bk_ BK165) hb)
     have n3_ := Aside0.mk (below_step bl_ hb)
     clear HO1_2
     clear BK165
     clear HB
     have HO1_2 := n0_
     have HO171 := n1_
     have BK165 := n2_
     have HB := n3_
     clear n0_ n1_ n2_ n3_
     clear hb ho23
     refine hK.out _ _ ⟨cy_ BK165 0, cy_ BK165 1, cy_ BK165 2⟩ (fun hHeld => ?_)
     clear hK K
     refine norm_ (a' := ?_) ?_ ?_
     rotate_left
     ·show Act.put _ (some 10) _ = _
      simp only [Act.put, q_]
      rfl
     refine one_ (i := 1) (N := some 8) #[true, true, true, true, false, false, false] rfl rfl (by kernel_rfl) (by decide) (fun K hK => ?_)
     refine goes_ Try.func111 (by kernel_rfl) rfl #[.slice A0 l0.length c0] (by rfl) rfl rfl gl_ ?_
     with_reducible refine (spec_l08Copy.calls k _ _ l0 t166 _ ?side1 ?side2 A3.out).mono ?_
     (case side1 => exact ca_ (Kd.C_below HR0.out HB.out))
     (case side2 => exact HC0.out)
     rintro e w24 ⟨v167, rfl, ho0, hb⟩
     refine ⟨_, rfl, ?_⟩
     have n0_ := Aside0.mk (Kd.V_elder' (by (with_reducible repeat (first | apply Kd.V_alloc | apply Kd.V_drewN | apply Kd.V_drew)); exact HO1_2.out) (by first | exact Kd.N_base ho0 | exact Kd.N_base (Kd.S_N ho0)) hb)
     have n1_ := Aside0.mk (Kd.N_elder' (by (with_reducible repeat (first | apply Kd.N_alloc | apply Kd.N_drewN | apply Kd.N_drew)); exact HO171.out) (by first | exact Kd.N_base ho0 | exact Kd.N_base (Kd.S_N ho0)) hb)
     have n2_ := Aside0.mk (Kd.N_lower (Kd.N_mono (ok' := fun k_ => (P1_2_ k_ ∨ w.heap.size ≤ k_) ∧ some k_ ≠ (v170 : Value).ownBlock ∧ k_ ≠ gb165) (Kd.S_N (Kd.S_bound ho0)) (fun k_ hk_ => ⟨(.inr (Nat.le_trans (below_size bl_) hk_.2.1)), (Kd.fresh' (Kd.N_lt (by (with_reducible repeat (first | apply Kd.N_alloc | apply Kd.N_drewN | apply Kd.N_drew)); exact HO171.out)) k_ hk_.2.1), (Kd.freshB (bk_ BK165) k_ hk_.2.1)⟩)) (below_size bl_))
     have n3_ := Aside0.mk (blk_below (bk_ BK165) hb)
     have n4_ := Aside0.mk (below_step bl_ hb)
     clear HO1_2
     clear HO171
     clear BK165
     clear HB
     have HO1_2 := n0_
     have HO171 := n1_
     have HO168 := n2_
     have BK165 := n3_
     have HB := n4_
     clear n0_ n1_ n2_ n3_ n4_
     (try clear hb)
     (try clear hb2)
     (try clear hk)
     (try clear hi)
     (try clear ho0)
     refine hK.out _ _ ⟨cy_ BK165 0, cy_ BK165 1, cy_ BK165 2⟩ (fun hHeld => ?_)
     clear hK K
     refine norm_ (a' := ?_) ?_ ?_
     rotate_left
     ·show Act.put _ (some 8) _ = _
      simp only [Act.put, q_]
      rfl
     exact norm_ (by simp only [putAll, Act.put, List.setIfInBounds_toArray, List.set_cons_zero, List.set_cons_succ]) (hCont (v167, v170) _ ⟨hHeld, (by (with_reducible repeat (first | apply Kd.N_alloc | apply Kd.N_drewN | apply Kd.N_drew)); exact HO168.out), (by (with_reducible repeat (first | apply Kd.N_alloc | apply Kd.N_drewN | apply Kd.N_drew)); exact Kd.N_mono HO171.out (fun _ hk => ⟨hk.1.1, ⟨hk.2, hk.1.2⟩⟩)), (by (with_reducible repeat (first | apply Kd.V_alloc | apply Kd.V_drewN | apply Kd.V_drew)); exact Kd.V_mono HO1_2.out (fun _ hk => ⟨hk.1.1.1, ⟨hk.2, ⟨hk.1.2, hk.1.1.2⟩⟩⟩)), (by (with_reducible repeat (first | refine blk_drewN ?_ _ | refine blk_drew ?_ | refine blk_alloc ?_ _)); exact BK165.out), bl_⟩)
   rintro ⟨v167, v170⟩ w25 ⟨hS_, h0_, h1_, h2_, h3_, h4_⟩
   have n0_ : Aside0 (Kd.N k74 74 w25 w.heap.size (fun k_ => (P1_2_ k_ ∨ w.heap.size ≤ k_) ∧ some k_ ≠ (v170 : Value).ownBlock ∧ k_ ≠ gb165) v167 t166) := ⟨h0_⟩
   have n1_ : Aside0 (Kd.N k74 74 w25 w.heap.size (fun k_ => (P1_2_ k_ ∨ w.heap.size ≤ k_) ∧ some k_ ≠ (v167 : Value).ownBlock ∧ k_ ≠ gb165) v170 y169) := ⟨h1_⟩
   have n2_ : Aside0 (Kd.V (Kd.int .u8) 5 w25 w.heap.size (fun k_ => (P1_2_ k_ ∨ w.heap.size ≤ k_) ∧ some k_ ≠ (v167 : Value).ownBlock ∧ some k_ ≠ (v170 : Value).ownBlock ∧ k_ ≠ gb165) (.slice A1_2 l1_2.length c1_2) l1_2) := ⟨h2_⟩
   have n3_ : Aside0 (w25.heap[gb165]? = some (.cells #[.string a1_0, .string a1_1, .slice A1_2 l1_2.length c1_2] 74 (0, 0))) := ⟨h3_⟩
   have n4_ : Aside0 (Below w.heap.size w w25) := ⟨h4_⟩
   clear HO1_2
   clear BK165
   clear HB
   clear h0_ h1_ h2_ h3_ h4_
   have HO168 := n0_
   have HO171 := n1_
   have HO1_2 := n2_
   have BK165 := n3_
   have HB := n4_
   clear n0_ n1_ n2_ n3_ n4_
   have hHeld : w25.cell? ⟨gb165, 0, none⟩ = some (.string a1_0) ∧ w25.cell? ⟨gb165, 1, none⟩ = some (.string a1_1) ∧ w25.cell? ⟨gb165, 2, none⟩ = some (.slice A1_2 l1_2.length c1_2) := hS_
   obtain ⟨Ao27, co27, eo27⟩ := Kd.N_slice HO171.out
   (first | subst eo27 | (injection eo27 with f1_ f2_ f3_; have f4_ := f1_.symm; have f5_ := f3_.symm; clear f1_ f2_ f3_; subst f4_; subst f5_))
   refine norm_ (a' := ?_) ?_ ?_
   rotate_left
   ·simp only [putAll, Act.put, List.setIfInBounds_toArray, List.set_cons_zero, List.set_cons_succ]
    rfl
   refine one_ (i := 4) (N := some 11) #[true, true, true, true, true, false, false] rfl rfl (by kernel_rfl) (by decide) (fun K hK => ?_)
   refine Kd.N_append_rows_step k74 (w0 := w) w.heap.size (by rfl) (.tmp 8) (.tmp 10) 41 74 (.agg #[(.string ⟨#[]⟩), (.string ⟨#[]⟩), (.slice none 0 0)]) 56 rfl Try.underlying41 info74 rfl (by decide) (by omega) v167 t166 y169 _ _ _ (fun k_ => (P1_2_ k_ ∨ w.heap.size ≤ k_) ∧ k_ ≠ gb165) (fun k_ => ((fun k_ => (P1_2_ k_ ∨ w.heap.size ≤ k_) ∧ k_ ≠ gb165)) k_ ∧ some k_ ≠ (v167 : Value).ownBlock) rfl rfl ?aO ?aR (fun _ hk => hk) ?aF ?aB ?aS ?aL ?_
   (case aR => exact (by skip; exact Kd.N_F (Kd.N_mono (ok' := (fun k_ => ((fun k_ => (P1_2_ k_ ∨ w.heap.size ≤ k_) ∧ k_ ≠ gb165)) k_ ∧ some k_ ≠ (v167 : Value).ownBlock)) (HO171.out) (fun k_ hk => ⟨⟨hk.1, hk.2.2⟩, hk.2.1⟩))))
   (case aB => exact bl_)
   (case aF => exact (fun k_ hk => ⟨(.inr (Nat.le_trans (below_size bl_) hk)), Kd.freshB (bk_ BK165) k_ hk⟩))
   (case aO => exact (by (with_reducible repeat (first | apply Kd.N_alloc | apply Kd.N_drewN | apply Kd.N_drew)); exact Kd.N_mono HO168.out (fun _ hk => ⟨hk.1, hk.2.2⟩)))
   (case aS => exact (below_size bl_))
   (case aL => have := LMc4.out; omega)
   intro v173 w26 ho hb hg hat
   rw [← Ny172.out] at ho
   have n0_ := Aside0.mk (Kd.V_afterv (ok := (fun k_ => (P1_2_ k_ ∨ w.heap.size ≤ k_) ∧ some k_ ≠ (.slice Ao27 y169.length co27 : Value).ownBlock ∧ k_ ≠ gb165)) (by (with_reducible repeat (first | apply Kd.V_alloc | apply Kd.V_drewN | apply Kd.V_drew)); exact Kd.V_mono HO1_2.out (fun _ hk => ⟨⟨hk.1, ⟨hk.2.2.1, hk.2.2.2⟩⟩, hk.2.1⟩)) hg hat)
   have n1_ := Aside0.mk (blk_grown (bk_ BK165) hg (Kd.N_away HO168.out (fun _ hk => hk.2.2)))
   have n2_ := Aside0.mk (Kd.N_afterv (ok := (fun k_ => (P1_2_ k_ ∨ w.heap.size ≤ k_) ∧ k_ ≠ gb165)) (by (with_reducible repeat (first | apply Kd.N_alloc | apply Kd.N_drewN | apply Kd.N_drew)); exact Kd.N_mono HO171.out (fun _ hk => ⟨⟨hk.1, hk.2.2⟩, hk.2.1⟩)) hg hat)
   have n3_ := Aside0.mk (hb)
   have n4_ := Aside0.mk (ho)
   clear HO1_2
   clear BK165
   clear HO171
   clear HB
   clear HO168
   have HO1_2 := n0_
   have BK165 := n1_
   have HO171 := n2_
   have HB := n3_
   have HO174 := n4_
   clear n0_ n1_ n2_ n3_ n4_
   clear ho hb hg hat
   obtain ⟨Ao28, co28, eo28⟩ := Kd.N_slice HO174.out
   (first | subst eo28 | (injection eo28 with f1_ f2_ f3_; have f4_ := f1_.symm; have f5_ := f3_.symm; clear f1_ f2_ f3_; subst f4_; subst f5_))
   refine hK.out _ _ ⟨cy_ BK165 0, cy_ BK165 1, cy_ BK165 2⟩ (fun hHeld => ?_)
   clear hK K
   refine norm_ (a' := ?_) ?_ ?_
   rotate_left
   ·show Act.put _ (some 11) _ = _
    simp only [Act.put, q_]
    rfl
   refine one_ (i := 5) (N := some 12) #[true, true, true, true, true, true, false] rfl rfl (by kernel_rfl) (by decide) (fun K hK => ?_)
   refine goes_ Try.func111 (by kernel_rfl) rfl #[.slice Ao28 y172.length co28] (by rfl) rfl rfl gl_ ?_
   with_reducible refine (spec_l08Copy.calls k _ _ y172 t175 _ ?side1 ?side2 A5.out).mono ?_
   (case side1 => exact ca_ ((Kd.N_reads' HO174.out).2.2))
   (case side2 => exact (Kd.N_reads' HO174.out).2.1)
   rintro e w29 ⟨v176, rfl, ho0, hb⟩
   refine ⟨_, rfl, ?_⟩
   have n0_ := Aside0.mk (Kd.V_elder' (by (with_reducible repeat (first | apply Kd.V_alloc | apply Kd.V_drewN | apply Kd.V_drew)); exact HO1_2.out) (by first | exact Kd.N_base ho0 | exact Kd.N_base (Kd.S_N ho0)) hb)
   have n1_ := Aside0.mk (Kd.N_elder' (by (with_reducible repeat (first | apply Kd.N_alloc | apply Kd.N_drewN | apply Kd.N_drew)); exact HO171.out) (by first | exact Kd.N_base ho0 | exact Kd.N_base (Kd.S_N ho0)) hb)
   have n2_ := Aside0.mk (Kd.N_elder' (by (with_reducible repeat (first | apply Kd.N_alloc | apply Kd.N_drewN | apply Kd.N_drew)); exact HO174.out) (by first | exact Kd.N_base ho0 | exact Kd.N_base (Kd.S_N ho0)) hb)
   have n3_ := Aside0.mk (Kd.N_lower (Kd.N_mono (ok' := fun k_ => (P1_2_ k_ ∨ w.heap.size ≤ k_) ∧ some k_ ≠ (.slice Ao27 y169.length co27 : Value).ownBlock ∧ some k_ ≠ (.slice Ao28 y172.length co28 : Value).ownBlock ∧ k_ ≠ gb165) (Kd.S_N (Kd.S_bound ho0)) (fun k_ hk_ => ⟨(.inr (Nat.le_trans (below_size bl_) hk_.2.1)), (Kd.fresh' (Kd.N_lt (by (with_reducible repeat (first | apply Kd.N_alloc | apply Kd.N_drewN | apply Kd.N_drew)); exact HO171.out)) k_ hk_.2.1), (Kd.fresh' (Kd.N_lt (by (with_reducible repeat (first | apply Kd.N_alloc | apply Kd.N_drewN | apply Kd.N_drew)); exact HO174.out)) k_ hk_.2.1), (Kd.freshB (bk_ BK165) k_ hk_.2.1)⟩)) (below_size bl_))
   have n4_ := Aside0.mk (blk_below (bk_ BK165) hb)
   have n5_ := Aside0.mk (below_step bl_ hb)
   clear HO1_2
   clear HO171
   clear HO174
   clear BK165
   clear HB
   have HO1_2 := n0_
   have HO171 := n1_
   have HO174 := n2_
   have HO177 := n3_
   have BK165 := n4_
   have HB := n5_
   clear n0_ n1_ n2_ n3_ n4_ n5_
   (try clear hb)
   (try clear hb2)
   (try clear hk)
   (try clear hi)
   (try clear ho0)
   refine hK.out _ _ ⟨cy_ BK165 0, cy_ BK165 1, cy_ BK165 2⟩ (fun hHeld => ?_)
   clear hK K
   refine norm_ (a' := ?_) ?_ ?_
   rotate_left
   ·show Act.put _ (some 12) _ = _
    simp only [Act.put, q_]
    rfl
   refine pure_ (i := 6) (N := some 6) (v := ?_) (a' := ?_) #[true, true, true, true, true, true, true] rfl rfl (by kernel_rfl) (fun _ _ _ h => h) (Or.inl ⟨by rfl, ?_⟩) ?_ ?_
   rotate_left
   ·intro w'
    go_simp
    with_reducible rfl
   rotate_left
   ·simp only [Act.put, q_]
    rfl
   refine done_ (by kernel_rfl) ?_
   obtain ⟨Ao30, co30, eo30⟩ := Kd.N_slice HO177.out
   subst eo30
   try go_wp2_with (first | ((with_reducible refine gate_callee (f := 112) rfl ?_); refine goesL_ (some 14) rfl rfl Try.func112 (by kernel_rfl) rfl #[.slice Ao30 t175.length co30] rfl gl_ ?_; (with_reducible refine (spec_SlotsOk.calls k _ _ t175 false _ ?side1 ?side2 A6.out).mono ?_); (case side1 => exact ca_ ((Kd.N_reads' HO177.out).2.2)); (case side2 => exact (Kd.N_reads' HO177.out).2.1); rintro e w31 ⟨rfl, hb⟩; refine ⟨_, rfl, ?_⟩; replace HO1_2 := Aside0.mk (Kd.V_below (by (with_reducible repeat (first | apply Kd.V_alloc | apply Kd.V_drewN | apply Kd.V_drew)); exact HO1_2.out) hb); replace HO171 := Aside0.mk (Kd.N_below (by (with_reducible repeat (first | apply Kd.N_alloc | apply Kd.N_drewN | apply Kd.N_drew)); exact HO171.out) hb); replace HO174 := Aside0.mk (Kd.N_below (by (with_reducible repeat (first | apply Kd.N_alloc | apply Kd.N_drewN | apply Kd.N_drew)); exact HO174.out) hb); replace HO177 := Aside0.mk (Kd.N_below (by (with_reducible repeat (first | apply Kd.N_alloc | apply Kd.N_drewN | apply Kd.N_drew)); exact HO177.out) hb); replace BK165 := Aside0.mk (blk_below (bk_ BK165) hb); replace HB := Aside0.mk (below_step bl_ hb); (try clear hb); (try clear hb2); (try clear hk); (try clear hi)))
   go_ret2
   exact ⟨_, by first | rfl | (simp [errW_none, errW_some] <;> rfl) | (simp [*, errW_none, errW_some] <;> rfl), by first | exact Kd.S_nil _ _ _ _ _ | exact Kd.N_nil _ _ _ _ _ | exact Kd.V_nil _ _ _ _ _ | exact Kd.Q_nil _ _ _ _ _ | exact Kd.R_nil _ _ _ _ _, bl_⟩
 ·rw [if_neg c4] at H
  exact absurd H (by simp)
/-! ### slices_Clone_byte_byte: function 109 -/
def slices_Clone_byte_byte.f (l0 : List Int) : Option (List Int) := (some (([] : List Int) : List Int)).bind fun y179 => (if y179.length + l0.length < 140737488355328 then (some (y179 ++ l0)) else (none))
set_option maxHeartbeats 8000000 in
set_option maxRecDepth 100000 in
theorem slices_Clone_byte_byte.calls_some (ad0 : Addr) (c0 : Nat) (l0 : List Int) (r : List Int) (w : World) (hr0 : Kd.C (Kd.int .u8) w (some ad0) l0.length l0) (hc0 : l0.length ≤ c0) (h : slices_Clone_byte_byte.f l0 = some r) :
  Calls Try.prog 109 #[.slice (some ad0) l0.length c0] w fun e w' => ∃ v0_ : Value, e = .returned (v0_) ∧ Kd.R (Kd.int .u8) 5 w' w.heap.size (fun _ => True) v0_ r ∧ Below w.heap.size w w' := by
 have q0_ : ∀ (n c : Nat) (W : World), (binOp .eql 60 (.slice (some ad0) n c) (.slice none 0 0)).run Try.prog W = .ok (.bool false) W := fun n c W => Lib.run_eql_slice_nil W _ _ (some ad0) n c 0 0 Try.underlying60
 have HR0 := Aside0.mk hr0
 have HC0 := Aside0.mk hc0
 clear hr0 hc0
 have HB := Aside0.mk (Below.refl w.heap.size w)
 have H : ((some (([] : List Int) : List Int)).bind fun y179 => (if y179.length + l0.length < 140737488355328 then (some (y179 ++ l0)) else (none))) = some r := h
 clear h
 obtain ⟨y179, hy179⟩ : ∃ y_ : List Int, y_ = (([] : List Int)) := ⟨_, rfl⟩
 replace H : (if y179.length + l0.length < 140737488355328 then (some (y179 ++ l0)) else (none)) = some r := by first | (rw [hy179]; with_reducible exact H) | (have H2_ := (Option.bind_some _ _).symm.trans H; rw [hy179]; with_reducible exact H2_) | (have H2_ := (Option.bind_some _ _).symm.trans H; with_reducible exact H2_) | with_reducible exact H | (rw [hy179]; exact H) | exact H
 have Ny179 := Aside0.mk hy179
 clear hy179
 by_cases c2 : y179.length + l0.length < 140737488355328
 ·rw [if_pos c2] at H
  have LMc2 := Aside0.mk c2
  clear c2
  obtain ⟨y182, hy182⟩ : ∃ y_ : List Int, y_ = (y179 ++ l0) := ⟨_, rfl⟩
  replace H : (some y182) = some r := by first | (rw [hy182]; with_reducible exact H) | (have H2_ := (Option.bind_some _ _).symm.trans H; rw [hy182]; with_reducible exact H2_) | (have H2_ := (Option.bind_some _ _).symm.trans H; with_reducible exact H2_) | with_reducible exact H | (rw [hy182]; exact H) | exact H
  have Ny182 := Aside0.mk hy182
  clear hy182
  obtain rfl := Option.some.inj H
  go_enter Try.func109, Try.ntmps109
  go_wp2_with (first | ((with_reducible refine gate_dst (N := 5) rfl ?_); refine Kd.R_lit (Kd.int .u8) _ 5 ?hg (N := 5) ?hd (xs := ([] : List Int)) (inner := []) (ok := fun _ => True) (okp := fun _ => True) ?hr ?hp (fun _ hk => hk) trivial (Below.refl _ _) (Nat.le_refl _) (by simp) ?_; (case hd => rfl); (case hg => rfl); (case hr => first | (go_simp; done) | (go_simp; rfl)); (case hp => exact (Reps.none _ _)); intro v180 w3 ho4 hb hg_ hnew_; clear hg_ hnew_; (first | rw [← Ny179.out] at ho4 | (simp only [Int.reduceToNat] at ho4; rw [← Ny179.out] at ho4)); have HO181 := Aside0.mk (Kd.R_lower ho4 (below_size bl_)); replace HB := Aside0.mk (below_step bl_ hb); clear hb ho4) | ((with_reducible refine gate_builtin (b := .append) (xs := #[.tmp 5, .tmp 6]) rfl ?_); at_builtin; refine Kd.R_append_rows (Kd.int .u8) (w0 := w) w.heap.size rfl (.tmp 5) (.tmp 6) 60 5 (.int .u8 0) 1 rfl Try.underlying60 info5 rfl (by decide) (by omega) v180 y179 l0 _ _ _ (fun _ => True) (fun _ => False) rfl rfl ?aO ?aR (fun _ _ h => h) (fun _ h => h.elim) ?aF ?aB ?aS ?aL ?_; (case aR => exact ca_ (Kd.C_below HR0.out HB.out)); (case aB => exact bl_); (case aF => exact (fun _ _ => trivial)); (case aO => exact (ra_ HO181)); (case aS => exact (below_size bl_)); (case aL => have := LMc2.out; omega); intro v183 w5 ho hb hg hat; rw [← Ny182.out] at ho; have n0_ := Aside0.mk (hb); have n1_ := Aside0.mk (ho); clear HB; clear HO181; have HB := n0_; have HO184 := n1_; clear n0_ n1_; clear ho hb hg hat))
  go_ret
  exact ⟨_, by first | rfl | (simp [errW_none, errW_some] <;> rfl) | (simp [*, errW_none, errW_some] <;> rfl), ra_ HO184, bl_⟩
 ·rw [if_neg c2] at H
  exact absurd H (by simp)
set_option maxHeartbeats 8000000 in
set_option maxRecDepth 100000 in
theorem slices_Clone_byte_byte.calls_none (c0 : Nat) (l0 : List Int) (r : List Int) (w : World) (hr0 : Kd.C (Kd.int .u8) w none l0.length l0) (hc0 : l0.length ≤ c0) (h : slices_Clone_byte_byte.f l0 = some r) :
  Calls Try.prog 109 #[.slice none l0.length c0] w fun e w' => ∃ v0_ : Value, e = .returned (v0_) ∧ Kd.R (Kd.int .u8) 5 w' w.heap.size (fun _ => True) v0_ r ∧ Below w.heap.size w w' := by
 have q0_ : ∀ (n c : Nat) (W : World), (binOp .eql 60 (.slice none n c) (.slice none 0 0)).run Try.prog W = .ok (.bool true) W := fun n c W => Lib.run_eql_slice_nil W _ _ none n c 0 0 Try.underlying60
 have hn : l0 = [] := List.eq_nil_of_length_eq_zero (Nat.eq_zero_of_not_pos (fun hp => by obtain ⟨a, ha, _⟩ := hr0.2.2 hp; cases ha))
 subst hn
 have hr : r = [] := by simp [slices_Clone_byte_byte.f] at h; first | exact h | exact h.symm
 subst hr
 clear hr0 hc0 h
 go_enter Try.func109, Try.ntmps109
 go_wp2
 go_ret
 exact ⟨_, rfl, Kd.R_nil _ _ _ _ _, by repeat (first | exact Below.refl _ _ | apply below_alloc | apply pw_below_drewN | apply below_drew1)⟩
set_option maxHeartbeats 8000000 in
set_option maxRecDepth 100000 in
theorem slices_Clone_byte_byte.calls (A0 : Option Addr) (c0 : Nat) (l0 : List Int) (r : List Int) (w : World) (hr0 : Kd.C (Kd.int .u8) w A0 l0.length l0) (hc0 : l0.length ≤ c0) (h : slices_Clone_byte_byte.f l0 = some r) :
  Calls Try.prog 109 #[.slice A0 l0.length c0] w fun e w' => ∃ v0_ : Value, e = .returned (v0_) ∧ Kd.R (Kd.int .u8) 5 w' w.heap.size (fun _ => True) v0_ r ∧ Below w.heap.size w w' := by
 cases A0 with
 | none => exact slices_Clone_byte_byte.calls_none c0 l0 r w hr0 hc0 h
 | some ad0 => exact slices_Clone_byte_byte.calls_some ad0 c0 l0 r w hr0 hc0 h
end Go.Proofs.Ytepjnalkpfnmcaa.QFnExactSlotPut
