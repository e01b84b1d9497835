-- by my own printer (myprint.py, over the kit's print.py)
import Derived.Test.YtepjnalkpfnmcaaQFnExactSlotPutx0
import Derived.Test.YtepjnalkpfnmcaaQFnExactSlotPutx1
import Derived.Test.YtepjnalkpfnmcaaQFnExactSlotPutx2
import Derived.Test.YtepjnalkpfnmcaaQFnExactSlotPutx4
import Derived.Test.YtepjnalkpfnmcaaQFnExactSlotPutx6
import Derived.Test.YtepjnalkpfnmcaaQFnExactSlotPutx8
namespace Go.Proofs.Ytepjnalkpfnmcaa.QFnExactSlotPut
open Go.RowKit Go.Proofs.YtepjnalkpfnmcaaW.PrintWords Go.Proofs.YtepjnalkpfnmcaaW.PrintLast Go.Proofs.YtepjnalkpfnmcaaW.PrintMore
attribute [local go_sem] max2_int min2_int max_two min_two max_three min_three max_four min_four   -- for this text's walks alone
set_option linter.unusedVariables false
set_option linter.unusedSimpArgs false
attribute [local go_sem] my_geq my_leq my_gtr
abbrev tb10_0_9 : Array Bool := #[b0, b0, b0, b0, b0, b0, b0, b0, b0, b0]
abbrev tb10_1_9 : Array Bool := #[b1, b0, b0, b0, b0, b0, b0, b0, b0, b0]
abbrev tb10_1f_9 : Array Bool := #[b1, b1, b1, b1, b1, b0, b0, b0, b0, b0]
abbrev tb10_1ff_9 : Array Bool := #[b1, b1, b1, b1, b1, b1, b1, b1, b1, b0]
abbrev tb10_3f_9 : Array Bool := #[b1, b1, b1, b1, b1, b1, b0, b0, b0, b0]
abbrev tb10_3ff_9 : Array Bool := #[b1, b1, b1, b1, b1, b1, b1, b1, b1, b1]
abbrev tb10_5_9 : Array Bool := #[b1, b0, b1, b0, b0, b0, b0, b0, b0, b0]
abbrev tb10_7_9 : Array Bool := #[b1, b1, b1, b0, b0, b0, b0, b0, b0, b0]
abbrev tb10_7f_9 : Array Bool := #[b1, b1, b1, b1, b1, b1, b1, b0, b0, b0]
abbrev tb10_f_9 : Array Bool := #[b1, b1, b1, b1, b0, b0, b0, b0, b0, b0]
abbrev tb10_ff_9 : Array Bool := #[b1, b1, b1, b1, b1, b1, b1, b1, b0, b0]
/-! ### laws_FnExactSlotPut: function 9 -/
theorem blk3 {W : World} {b e : Nat} {v0 v1 v2 : Value} (h : W.heap[b]? = some (.cells #[v0, v1, v2] e (0, 0))) : W.cell? ⟨b, 0, none⟩ = some v0 ∧ W.cell? ⟨b, 1, none⟩ = some v1 ∧ W.cell? ⟨b, 2, none⟩ = some v2 :=
 ⟨blk_cell h 0, blk_cell h 1, blk_cell h 2⟩
def laws_FnExactSlotPut.f (k : Nat) (l0 : List (S70)) (a1_0 : ByteArray) (a1_1 : ByteArray) (l1_2 : List Int) : Option Bool := (laws_szSlotS.f k l0 1048576).bind fun t1 => (if t1 < 0 then some true else ((laws_szSlot.f a1_0 a1_1 l1_2 t1).bind fun t2 => (if t2 < 0 then some true else ((laws_toSlotS.f k l0).bind fun x => ((laws_toSlot.f k a1_0 a1_1 l1_2).bind fun y => ((spec_SlotPut.f k x y.1 y.2.1 y.2.2).bind fun s => ((impl_SlotPut.f k x y.1 y.2.1 y.2.2).bind fun g => ((laws_eqSlotS.f k g.1 s.1).bind fun b1 => (if b1 = true then (if g.2 = s.2 then ((laws_eqSlotS.f k x x).bind fun b2 => (if b2 = true then ((laws_eqSlot.f k y.1 y.2.1 y.2.2 y.1 y.2.1 y.2.2).bind fun b3 => (if b3 = true then ((laws_markSlotS.f k x 1).bind fun m => ((laws_markSlot.f k y.1 y.2.1 y.2.2 m.1).bind fun n => (if n.1 < 0 then some false else ((laws_markSlotS.f k g.1 1).bind fun p => ((laws_heldSlotS.f k p.2 1).bind fun q => (if q < 0 then some false else (if q = p.1 then some true else some false))))))) else some false)) else some false)) else some false) else some false)))))))))
set_option maxHeartbeats 16000000 in
set_option maxRecDepth 100000 in
theorem laws_FnExactSlotPut.calls (k : Nat) (A0 : Option Addr) (c0 : Nat) (l0 : List (S70)) (a1_0 : ByteArray) (a1_1 : ByteArray) (A1_2 : Option Addr) (c1_2 : Nat) (l1_2 : List Int) (r : Bool) (w : World) (hr0 : Kd.C k70 w A0 l0.length l0) (hc0 : l0.length ≤ c0) (hr1_2 : Kd.C (Kd.int .u8) w A1_2 l1_2.length l1_2) (hc1_2 : l1_2.length ≤ c1_2) (h : laws_FnExactSlotPut.f k l0 a1_0 a1_1 l1_2 = some true) :
  Calls Try.prog 9 #[.slice A0 l0.length c0, .agg #[.string a1_0, .string a1_1, .slice A1_2 l1_2.length c1_2]] w fun e w' => e = .returned (.bool true) ∧ Below w.heap.size w w' := by
 have hu70 := Try.underlying70
 have hu74 := Try.underlying74
 unfold laws_FnExactSlotPut.f at h
 have HR0 := Aside0.mk hr0
 have HC0 := Aside0.mk hc0
 clear hr0 hc0
 have HR1_2 := Aside0.mk hr1_2
 have HC1_2 := Aside0.mk hc1_2
 clear hr1_2 hc1_2
 have HB := Aside0.mk (Below.refl w.heap.size w)
 have m_ : Aside0 True := ⟨trivial⟩
 have M1 := m_
 replace h := Option.bind_eq_some_iff.1 h
 obtain ⟨t1, E_, h⟩ := h
 have E1 := Aside0.mk E_
 clear E_
 by_cases ct1 : t1 < 0
 ·clear h
  have ct1b : decide (t1 < 0) = true := decide_eq_true ct1
  clear ct1
  go_enter Try.func9, Try.ntmps9
  go_wp2_with (first | (go_at_call 36; clear M1; (with_reducible refine (laws_szSlotS.calls k _ _ l0 1048576 t1 _ (Kd.C_below HR0.out (below_alloc HB.out _)) HC0.out E1.out).mono ?_); rintro e w1 ⟨rfl, hb_⟩; have M2 := m_; have XA := Aside0.mk ((hb_.block _ (by simp)).trans (heap_alloc_new w _)); have HB := Aside0.mk (below_then (below_alloc HB.out _) (below_alloc HB.out _).size hb_); obtain ⟨ya0, ya1, ya2⟩ := blk3 XA.out; have yal := blk_lt XA.out; clear hb_))
  go_ret
  exact ⟨rfl, HB.out⟩
 rw [if_neg ct1] at h
 have ct1b : decide (t1 < 0) = false := decide_eq_false ct1
 clear ct1
 replace h := Option.bind_eq_some_iff.1 h
 obtain ⟨t2, E_, h⟩ := h
 have E2 := Aside0.mk E_
 clear E_
 by_cases ct2 : t2 < 0
 ·clear h
  have ct2b : decide (t2 < 0) = true := decide_eq_true ct2
  clear ct2
  go_enter Try.func9, Try.ntmps9
  go_wp2_with (first | (go_at_call 36; clear M1; (with_reducible refine (laws_szSlotS.calls k _ _ l0 1048576 t1 _ (Kd.C_below HR0.out (below_alloc HB.out _)) HC0.out E1.out).mono ?_); rintro e w1 ⟨rfl, hb_⟩; have M2 := m_; have XA := Aside0.mk ((hb_.block _ (by simp)).trans (heap_alloc_new w _)); have HB := Aside0.mk (below_then (below_alloc HB.out _) (below_alloc HB.out _).size hb_); obtain ⟨ya0, ya1, ya2⟩ := blk3 XA.out; have yal := blk_lt XA.out; clear hb_) | (go_at_call 45; clear M2; (with_reducible refine (laws_szSlot.calls a1_0 a1_1 _ _ l1_2 t1 t2 _ (Kd.C_below HR1_2.out HB.out) HC1_2.out E2.out).mono ?_); rintro e w2 ⟨rfl, hb_⟩; have M3 := m_; have XA := Aside0.mk ((hb_.block _ (blk_lt XA.out)).trans XA.out); have HB := Aside0.mk (below_then HB.out HB.out.size hb_); clear hb_))
  go_ret
  exact ⟨rfl, HB.out⟩
 rw [if_neg ct2] at h
 have ct2b : decide (t2 < 0) = false := decide_eq_false ct2
 clear ct2
 replace h := Option.bind_eq_some_iff.1 h
 obtain ⟨x, E_, h⟩ := h
 have E3 := Aside0.mk E_
 clear E_
 replace h := Option.bind_eq_some_iff.1 h
 obtain ⟨⟨y1, y2, y3⟩, E_, h⟩ := h
 have E4 := Aside0.mk E_
 clear E_
 simp only [] at h
 replace h := Option.bind_eq_some_iff.1 h
 obtain ⟨⟨s1, s2⟩, E_, h⟩ := h
 have E5 := Aside0.mk E_
 clear E_
 simp only [] at h
 replace h := Option.bind_eq_some_iff.1 h
 obtain ⟨⟨g1, g2⟩, E_, h⟩ := h
 have E6 := Aside0.mk E_
 clear E_
 simp only [] at h
 replace h := Option.bind_eq_some_iff.1 h
 obtain ⟨b1, E_, h⟩ := h
 have E7 := Aside0.mk E_
 clear E_
 by_cases b_ : b1 = true
 rotate_left
 ·rw [if_neg b_] at h; cases h
 rw [if_pos b_] at h
 subst b_
 by_cases e_ : g2 = s2
 rotate_left
 ·rw [if_neg e_] at h; cases h
 rw [if_pos e_] at h
 subst e_
 replace h := Option.bind_eq_some_iff.1 h
 obtain ⟨b2, E_, h⟩ := h
 have E8 := Aside0.mk E_
 clear E_
 by_cases b_ : b2 = true
 rotate_left
 ·rw [if_neg b_] at h; cases h
 rw [if_pos b_] at h
 subst b_
 replace h := Option.bind_eq_some_iff.1 h
 obtain ⟨b3, E_, h⟩ := h
 have E9 := Aside0.mk E_
 clear E_
 by_cases b_ : b3 = true
 rotate_left
 ·rw [if_neg b_] at h; cases h
 rw [if_pos b_] at h
 subst b_
 replace h := Option.bind_eq_some_iff.1 h
 obtain ⟨⟨m1, xm⟩, E_, h⟩ := h
 have E10 := Aside0.mk E_
 clear E_
 simp only [] at h
 replace h := Option.bind_eq_some_iff.1 h
 obtain ⟨⟨n1, ym⟩, E_, h⟩ := h
 have E11 := Aside0.mk E_
 clear E_
 simp only [] at h
 by_cases e_ : n1 < 0
 ·rw [if_pos e_] at h; cases h
 rw [if_neg e_] at h
 have nn1 : decide (n1 < 0) = false := decide_eq_false e_
 clear e_
 replace h := Option.bind_eq_some_iff.1 h
 obtain ⟨⟨p1, gm⟩, E_, h⟩ := h
 have E12 := Aside0.mk E_
 clear E_
 simp only [] at h
 replace h := Option.bind_eq_some_iff.1 h
 obtain ⟨q1, E_, h⟩ := h
 have E13 := Aside0.mk E_
 clear E_
 by_cases e_ : q1 < 0
 ·rw [if_pos e_] at h; cases h
 rw [if_neg e_] at h
 have nq1 : decide (q1 < 0) = false := decide_eq_false e_
 clear e_
 by_cases e_ : q1 = p1
 rotate_left
 ·rw [if_neg e_] at h; cases h
 rw [if_pos e_] at h
 subst e_
 clear h
 go_enter Try.func9, Try.ntmps9
 go_wp2_with (first | (go_at_call 36; clear M1; (with_reducible refine (laws_szSlotS.calls k _ _ l0 1048576 t1 _ (Kd.C_below HR0.out (below_alloc HB.out _)) HC0.out E1.out).mono ?_); rintro e w1 ⟨rfl, hb_⟩; have M2 := m_; have XA := Aside0.mk ((hb_.block _ (by simp)).trans (heap_alloc_new w _)); have HB := Aside0.mk (below_then (below_alloc HB.out _) (below_alloc HB.out _).size hb_); obtain ⟨ya0, ya1, ya2⟩ := blk3 XA.out; have yal := blk_lt XA.out; clear hb_) | (go_at_call 45; clear M2; (with_reducible refine (laws_szSlot.calls a1_0 a1_1 _ _ l1_2 t1 t2 _ (Kd.C_below HR1_2.out HB.out) HC1_2.out E2.out).mono ?_); rintro e w2 ⟨rfl, hb_⟩; have M3 := m_; have XA := Aside0.mk ((hb_.block _ (blk_lt XA.out)).trans XA.out); have HB := Aside0.mk (below_then HB.out HB.out.size hb_); clear hb_))
 have XA := Aside0.mk (blk_drew XA.out)
 have HB := Aside0.mk (below_drew1 HB.out)
 refine start_ (n := 10) (S := fun w' => w'.cell? ⟨w.heap.size, 0, none⟩ = some (.string a1_0) ∧ w'.cell? ⟨w.heap.size, 1, none⟩ = some (.string a1_1) ∧ w'.cell? ⟨w.heap.size, 2, none⟩ = some (.slice A1_2 l1_2.length c1_2)) (ds := []) tb10_0_9 (by kernel_rfl) rfl rfl ⟨cy_ XA 0, cy_ XA 1, cy_ XA 2⟩ (fun hHeld => ?_)
 generalize w2.drew = wd at XA HB hHeld ⊢
 refine pure_ (i := 0) (N := some 28) (v := ?_) (a' := ?_) tb10_1_9 rfl rfl (by kernel_rfl) (fun _ _ _ h => h) (Or.inl ⟨by rfl, ?_⟩) ?_ ?_
 rotate_left
 ·intro w'
  go_simp
  with_reducible rfl
 rotate_left
 ·simp only [Act.put, q_]
  rfl
 refine take_ (i := 2) (N := some 30) (v := ?_) (a' := ?_) tb10_5_9 rfl rfl (by kernel_rfl) (fun _ _ _ h => h) (Or.inl ⟨by rfl, ?_⟩) hHeld ?_ ?_
 rotate_left
 ·rintro w' ⟨s0, s1, s2⟩
  go_simp
  with_reducible rfl
 rotate_left
 ·simp only [Act.put, q_]
  rfl
 refine one_ (i := 1) (N := some 29) tb10_7_9 rfl rfl (by kernel_rfl) (by decide) (fun K hK => ?_)
 refine goes_ Try.func38 (by kernel_rfl) rfl #[.slice A0 l0.length c0] (by rfl) rfl rfl gl_ ?_
 with_reducible refine (laws_toSlotS.calls k _ _ l0 x _ (Kd.C_below HR0.out HB.out) HC0.out E3.out).mono ?_
 rintro e w3 ⟨v_, rfl, o_, hb_⟩
 refine ⟨_, rfl, ?_⟩
 obtain ⟨AT, cT, rfl, _, _⟩ := Kd.R_reads (Kd.S_R o_)
 have HT := Aside0.mk o_
 have XA := Aside0.mk ((hb_.block _ (blk_lt XA.out)).trans XA.out)
 have HB := Aside0.mk (below_then HB.out HB.out.size hb_)
 clear hb_ o_
 refine hK.out _ _ ⟨cy_ XA 0, cy_ XA 1, cy_ XA 2⟩ (fun hHeld => ?_)
 clear hK K
 refine norm_ (a' := ?_) ?_ ?_
 rotate_left
 ·show Act.put _ (some 29) _ = _
  simp only [Act.put, q_]
  rfl
 refine one_ (i := 3) (N := some 31) tb10_f_9 rfl rfl (by kernel_rfl) (by decide) (fun K hK => ?_)
 refine goes_ Try.func47 (by kernel_rfl) rfl #[.agg #[.string a1_0, .string a1_1, .slice A1_2 l1_2.length c1_2]] (by rfl) rfl rfl gl_ ?_
 with_reducible refine (laws_toSlot.calls k a1_0 a1_1 _ _ l1_2 y1 y2 y3 _ (Kd.C_below HR1_2.out HB.out) HC1_2.out E4.out).mono ?_
 rintro e w4 ⟨v_, rfl, o_, hb_⟩
 refine ⟨_, rfl, ?_⟩
 obtain ⟨AU, cU, rfl, _, _⟩ := Kd.R_reads o_
 have HU := Aside0.mk o_
 have HT := Aside0.mk (Kd.S_below HT.out hb_)
 have XA := Aside0.mk ((hb_.block _ (blk_lt XA.out)).trans XA.out)
 have HB := Aside0.mk (below_then HB.out HB.out.size hb_)
 clear hb_ o_
 refine hK.out _ _ ⟨cy_ XA 0, cy_ XA 1, cy_ XA 2⟩ (fun hHeld => ?_)
 clear hK K
 refine norm_ (a' := ?_) ?_ ?_
 rotate_left
 ·show Act.put _ (some 31) _ = _
  simp only [Act.put, q_]
  rfl
 refine one_ (i := 4) (N := some 32) tb10_1f_9 rfl rfl (by kernel_rfl) (by decide) (fun K hK => ?_)
 refine goes_ Try.func46 (by kernel_rfl) rfl #[.slice AT x.length cT, .agg #[.string y1, .string y2, .slice AU y3.length cU]] (by rfl) rfl rfl gl_ ?_
 with_reducible refine (spec_SlotPut.calls k _ _ x y1 y2 (fun _ => True) _ _ y3 s1 g2 _ (Kd.S_reads' HT.out).2.2 (Kd.S_reads' HT.out).2.1 (Kd.R_V HU.out) E5.out).mono ?_
 rintro e w5 ⟨v_, rfl, o_, hb_⟩
 have Z0 := Aside0.mk (Nat.lt_of_lt_of_le (blk_lt XA.out) hb_.size)
 refine ⟨_, rfl, ?_⟩
 obtain ⟨AW, cW, rfl⟩ := Kd.N_slice o_
 have HW := Aside0.mk (Kd.N_mono (Kd.N_lower (base' := w.heap.size) (Kd.N_bound o_) HB.out.size) (ok' := fun k_ => k_ < w5.heap.size) (fun k_ h_ => h_.2))
 have XA := Aside0.mk ((hb_.block _ (blk_lt XA.out)).trans XA.out)
 have HB := Aside0.mk (below_then HB.out HB.out.size hb_)
 clear hb_ o_ HT HU
 refine hK.out _ _ ⟨cy_ XA 0, cy_ XA 1, cy_ XA 2⟩ (fun hHeld => ?_)
 clear hK K
 refine norm_ (a' := ?_) ?_ ?_
 rotate_left
 ·show Act.put _ (some 32) _ = _
  simp only [Act.put, q_]
  rfl
 refine pure_ (i := 5) (N := some 27) (v := ?_) (a' := ?_) tb10_3f_9 rfl rfl (by kernel_rfl) (fun _ _ _ h => h) (Or.inl ⟨by rfl, ?_⟩) ?_ ?_
 rotate_left
 ·intro w'
  go_simp
  with_reducible rfl
 rotate_left
 ·simp only [Act.put, q_]
  rfl
 refine pure_ (i := 6) (N := some 33) (v := ?_) (a' := ?_) tb10_7f_9 rfl rfl (by kernel_rfl) (fun _ _ _ h => h) (Or.inl ⟨by rfl, ?_⟩) ?_ ?_
 rotate_left
 ·intro w'
  go_simp
  with_reducible rfl
 rotate_left
 ·simp only [Act.put, q_]
  rfl
 refine pure_ (i := 7) (N := some 34) (v := ?_) (a' := ?_) tb10_ff_9 rfl rfl (by kernel_rfl) (fun _ _ _ h => h) (Or.inl ⟨by rfl, ?_⟩) ?_ ?_
 rotate_left
 ·intro w'
  go_simp
  with_reducible rfl
 rotate_left
 ·simp only [Act.put, q_]
  rfl
 refine pure_ (i := 8) (N := some 6) (v := ?_) (a' := ?_) tb10_1ff_9 rfl rfl (by kernel_rfl) (fun _ _ _ h => h) (Or.inl ⟨by rfl, ?_⟩) ?_ ?_
 rotate_left
 ·intro w'
  go_simp
  with_reducible rfl
 rotate_left
 ·simp only [Act.put, q_]
  rfl
 refine pure_ (i := 9) (N := some 7) (v := ?_) (a' := ?_) tb10_3ff_9 rfl rfl (by kernel_rfl) (fun _ _ _ h => h) (Or.inl ⟨by rfl, ?_⟩) ?_ ?_
 rotate_left
 ·intro w'
  go_simp
  with_reducible rfl
 rotate_left
 ·simp only [Act.put, q_]
  rfl
 refine done_ (by kernel_rfl) ?_
 obtain ⟨yb0, yb1, yb2⟩ := blk3 XA.out
 have ybl := blk_lt XA.out
 go_wp2_with (first | (go_at_call 38; clear M3; (with_reducible refine (laws_toSlotS.calls k _ _ l0 x _ (Kd.C_below HR0.out HB.out) HC0.out E3.out).mono ?_); rintro e w6 ⟨v_, rfl, o_, hb_⟩; have Z5 := Aside0.mk hb_.size; have M4 := m_; obtain ⟨AX, cX, rfl, _, _⟩ := Kd.R_reads (Kd.S_R o_); have HX := Aside0.mk (Kd.S_lower (base' := w.heap.size) (Kd.S_mono (Kd.S_bound o_) (fun k_ h_ => (⟨h_.2.1, h_.2.2.1⟩ : w5.heap.size ≤ k_ ∧ k_ < w6.heap.size))) HB.out.size); have HW := Aside0.mk (Kd.N_below HW.out hb_); have XA := Aside0.mk ((hb_.block _ (blk_lt XA.out)).trans XA.out); have HB := Aside0.mk (below_then HB.out HB.out.size hb_); obtain ⟨yc0, yc1, yc2⟩ := blk3 XA.out; have ycl := blk_lt XA.out; clear hb_ o_) | (go_at_call 47; clear M4; (with_reducible refine (laws_toSlot.calls k a1_0 a1_1 _ _ l1_2 y1 y2 y3 _ (Kd.C_below HR1_2.out HB.out) HC1_2.out E4.out).mono ?_); rintro e w7 ⟨v_, rfl, o_, hb_⟩; have Z6 := Aside0.mk hb_.size; have M5 := m_; obtain ⟨AY, cY, rfl, _, _⟩ := Kd.R_reads o_; have HY := Aside0.mk (Kd.R_lower (base' := w.heap.size) (Kd.R_mono (Kd.R_bound o_) (fun k_ h_ => (⟨h_.2.1, h_.2.2.1⟩ : w6.heap.size ≤ k_ ∧ k_ < w7.heap.size))) HB.out.size); have HX := Aside0.mk (Kd.S_below HX.out hb_); have HW := Aside0.mk (Kd.N_below HW.out hb_); have XA := Aside0.mk ((hb_.block _ (blk_lt XA.out)).trans XA.out); have HB := Aside0.mk (below_then HB.out HB.out.size hb_); clear hb_ o_) | (go_at_call 48; clear M5; (with_reducible refine (impl_SlotPut.calls k _ _ _ x y1 y2 _ _ _ y3 g1 g2 _ (Kd.S_V (Kd.S_below HX.out (below_alloc (Below.refl _ _) _))) (Kd.R_V (Kd.R_below HY.out (below_alloc (Below.refl _ _) _))) E6.out).mono ?_); rintro e w8 ⟨v_, rfl, o_, hb_⟩; have Z7 := Aside0.mk (show w7.heap.size + 1 ≤ w8.heap.size by have := hb_.size; simpa using this); have Z8 := Aside0.mk (Below.refl w.heap.size w).size; have M6 := m_; obtain ⟨AG, cG, rfl, _, _⟩ := Kd.R_reads (Kd.S_R o_); have XB := Aside0.mk ((hb_.block _ (by simp)).trans (heap_alloc_new w7 _)); have HG := Aside0.mk (Kd.S_lower (base' := w.heap.size) (Kd.S_mono (Kd.S_bound o_) (fun k_ h_ => (⟨by simpa using h_.2.1, h_.2.2.1⟩ : w7.heap.size + 1 ≤ k_ ∧ k_ < w8.heap.size))) (by have := HB.out.size; simp; omega)); have XA := Aside0.mk ((hb_.block _ (blk_lt (blk_alloc XA.out _))).trans (blk_alloc XA.out _)); have HX := Aside0.mk (Kd.S_below (Kd.S_below HX.out (below_alloc (Below.refl _ _) _)) hb_); have HY := Aside0.mk (Kd.R_below (Kd.R_below HY.out (below_alloc (Below.refl _ _) _)) hb_); have HW := Aside0.mk (Kd.N_below (Kd.N_below HW.out (below_alloc (Below.refl _ _) _)) hb_); have HB := Aside0.mk (below_then (below_alloc HB.out _) (below_alloc HB.out _).size hb_); clear hb_ o_) | (go_at_call 41; clear M6; (with_reducible refine (laws_eqSlotS.calls k _ _ g1 _ _ s1 true _ (Kd.S_reads' HG.out).2.2 (Kd.S_reads' HG.out).2.1 (Kd.N_reads' HW.out).2.2 (Kd.N_reads' HW.out).2.1 E7.out).mono ?_); rintro e w9 ⟨rfl, hb_⟩; have M7 := m_; have XA := Aside0.mk ((hb_.block _ (blk_lt XA.out)).trans XA.out); have XB := Aside0.mk ((hb_.block _ (blk_lt XB.out)).trans XB.out); have HX := Aside0.mk (Kd.S_below HX.out hb_); have HY := Aside0.mk (Kd.R_below HY.out hb_); have HG := Aside0.mk (Kd.S_below HG.out hb_); have HW := Aside0.mk (Kd.N_below HW.out hb_); have HB := Aside0.mk (below_then HB.out HB.out.size hb_); clear hb_) | (go_at_call 38; clear M7; (with_reducible refine (laws_toSlotS.calls k _ _ l0 x _ (Kd.C_below HR0.out HB.out) HC0.out E3.out).mono ?_); rintro e w10 ⟨v_, rfl, o_, hb_⟩; have M8 := m_; obtain ⟨AT, cT, rfl, _, _⟩ := Kd.R_reads (Kd.S_R o_); have HT := Aside0.mk o_; have XA := Aside0.mk ((hb_.block _ (blk_lt XA.out)).trans XA.out); have XB := Aside0.mk ((hb_.block _ (blk_lt XB.out)).trans XB.out); have HX := Aside0.mk (Kd.S_below HX.out hb_); have HY := Aside0.mk (Kd.R_below HY.out hb_); have HG := Aside0.mk (Kd.S_below HG.out hb_); have HW := Aside0.mk (Kd.N_below HW.out hb_); have HB := Aside0.mk (below_then HB.out HB.out.size hb_); clear hb_ o_) | (go_at_call 41; clear M8; (with_reducible refine (laws_eqSlotS.calls k _ _ x _ _ x true _ (Kd.S_reads' HX.out).2.2 (Kd.S_reads' HX.out).2.1 (Kd.S_reads' HT.out).2.2 (Kd.S_reads' HT.out).2.1 E8.out).mono ?_); rintro e w11 ⟨rfl, hb_⟩; have M9 := m_; have XA := Aside0.mk ((hb_.block _ (blk_lt XA.out)).trans XA.out); have XB := Aside0.mk ((hb_.block _ (blk_lt XB.out)).trans XB.out); have HX := Aside0.mk (Kd.S_below HX.out hb_); have HY := Aside0.mk (Kd.R_below HY.out hb_); have HG := Aside0.mk (Kd.S_below HG.out hb_); have HW := Aside0.mk (Kd.N_below HW.out hb_); have HB := Aside0.mk (below_then HB.out HB.out.size hb_); clear hb_ HT))
 have XA := Aside0.mk (blk_drew XA.out)
 have XB := Aside0.mk (blk_drew XB.out)
 have HX := Aside0.mk (Kd.S_drew HX.out)
 have HG := Aside0.mk (Kd.S_drew HG.out)
 have HY := Aside0.mk (Kd.R_drew HY.out)
 have HW := Aside0.mk (Kd.N_drew HW.out)
 have HB := Aside0.mk (below_drew1 HB.out)
 refine start_ (n := 5) (S := fun w' => w'.cell? ⟨w.heap.size, 0, none⟩ = some (.string a1_0) ∧ w'.cell? ⟨w.heap.size, 1, none⟩ = some (.string a1_1) ∧ w'.cell? ⟨w.heap.size, 2, none⟩ = some (.slice A1_2 l1_2.length c1_2) ∧ w'.cell? ⟨w7.heap.size, 0, none⟩ = some (.string y1) ∧ w'.cell? ⟨w7.heap.size, 1, none⟩ = some (.string y2) ∧ w'.cell? ⟨w7.heap.size, 2, none⟩ = some (.slice AY y3.length cY)) (ds := []) #[false, false, false, false, false] (by kernel_rfl) rfl rfl ⟨cy_ XA 0, cy_ XA 1, cy_ XA 2, cy_ XB 0, cy_ XB 1, cy_ XB 2⟩ (fun hHeld => ?_)
 generalize w11.drew = we at XA XB HX HG HY HW HB hHeld ⊢
 refine take_ (i := 0) (N := some 59) (v := ?_) (a' := ?_) #[true, false, false, false, false] rfl rfl (by kernel_rfl) (fun _ _ _ h => h) (Or.inl ⟨by rfl, ?_⟩) hHeld ?_ ?_
 rotate_left
 ·rintro w' ⟨s0, s1, s2, s3, s4, s5⟩
  go_simp
  with_reducible rfl
 rotate_left
 ·simp only [Act.put, q_]
  rfl
 refine take_ (i := 1) (N := some 60) (v := ?_) (a' := ?_) #[true, true, false, false, false] rfl rfl (by kernel_rfl) (fun _ _ _ h => h) (Or.inl ⟨by rfl, ?_⟩) hHeld ?_ ?_
 rotate_left
 ·rintro w' ⟨s0, s1, s2, s3, s4, s5⟩
  go_simp
  with_reducible rfl
 rotate_left
 ·simp only [Act.put, q_]
  rfl
 refine one_ (i := 2) (N := some 61) #[true, true, true, false, false] rfl rfl (by kernel_rfl) (by decide) (fun K hK => ?_)
 refine goes_ Try.func47 (by kernel_rfl) rfl #[.agg #[.string a1_0, .string a1_1, .slice A1_2 l1_2.length c1_2]] (by rfl) rfl rfl gl_ ?_
 with_reducible refine (laws_toSlot.calls k a1_0 a1_1 _ _ l1_2 y1 y2 y3 _ (Kd.C_below HR1_2.out HB.out) HC1_2.out E4.out).mono ?_
 rintro e w12 ⟨v_, rfl, o_, hb_⟩
 refine ⟨_, rfl, ?_⟩
 obtain ⟨AU, cU, rfl, _, _⟩ := Kd.R_reads o_
 have HU := Aside0.mk o_
 have XA := Aside0.mk ((hb_.block _ (blk_lt XA.out)).trans XA.out)
 have XB := Aside0.mk ((hb_.block _ (blk_lt XB.out)).trans XB.out)
 have HX := Aside0.mk (Kd.S_below HX.out hb_)
 have HY := Aside0.mk (Kd.R_below HY.out hb_)
 have HG := Aside0.mk (Kd.S_below HG.out hb_)
 have HW := Aside0.mk (Kd.N_below HW.out hb_)
 have HB := Aside0.mk (below_then HB.out HB.out.size hb_)
 clear hb_ o_
 refine hK.out _ _ ⟨cy_ XA 0, cy_ XA 1, cy_ XA 2, cy_ XB 0, cy_ XB 1, cy_ XB 2⟩ (fun hHeld => ?_)
 clear hK K
 refine norm_ (a' := ?_) ?_ ?_
 rotate_left
 ·show Act.put _ (some 61) _ = _
  simp only [Act.put, q_]
  rfl
 refine one_ (i := 3) (N := some 62) #[true, true, true, true, false] rfl rfl (by kernel_rfl) (by decide) (fun K hK => ?_)
 refine goes_ Try.func49 (by kernel_rfl) rfl #[.agg #[.string y1, .string y2, .slice AY y3.length cY], .agg #[.string y1, .string y2, .slice AU y3.length cU]] (by rfl) rfl rfl gl_ ?_
 with_reducible refine (laws_eqSlot.calls k y1 y2 _ _ y3 y1 y2 _ _ y3 true _ (Kd.R_reads' HY.out).2.2 (Kd.R_reads' HY.out).2.1 (Kd.R_reads' HU.out).2.2 (Kd.R_reads' HU.out).2.1 E9.out).mono ?_
 rintro e w13 ⟨rfl, hb_⟩
 refine ⟨_, rfl, ?_⟩
 have XA := Aside0.mk ((hb_.block _ (blk_lt XA.out)).trans XA.out)
 have XB := Aside0.mk ((hb_.block _ (blk_lt XB.out)).trans XB.out)
 have HX := Aside0.mk (Kd.S_below HX.out hb_)
 have HY := Aside0.mk (Kd.R_below HY.out hb_)
 have HG := Aside0.mk (Kd.S_below HG.out hb_)
 have HW := Aside0.mk (Kd.N_below HW.out hb_)
 have HB := Aside0.mk (below_then HB.out HB.out.size hb_)
 clear hb_ HU
 refine hK.out _ _ ⟨cy_ XA 0, cy_ XA 1, cy_ XA 2, cy_ XB 0, cy_ XB 1, cy_ XB 2⟩ (fun hHeld => ?_)
 clear hK K
 refine norm_ (a' := ?_) ?_ ?_
 rotate_left
 ·show Act.put _ (some 62) _ = _
  simp only [Act.put, q_]
  rfl
 refine pure_ (i := 4) (N := some 63) (v := ?_) (a' := ?_) #[true, true, true, true, true] rfl rfl (by kernel_rfl) (fun _ _ _ h => h) (Or.inl ⟨by rfl, ?_⟩) ?_ ?_
 rotate_left
 ·intro w'
  go_simp
  with_reducible rfl
 rotate_left
 ·simp only [Act.put, q_]
  rfl
 refine done_ (by kernel_rfl) ?_
 go_wp2_with (first | (go_at_call 42; clear M9; (with_reducible refine (laws_markSlotS.calls k (fun k_ => w5.heap.size ≤ k_ ∧ k_ < w6.heap.size) _ x 1 m1 xm w _ HB.out HX.out E10.out).mono ?_); rintro e w14 ⟨rfl, ho_, hb_, hk_⟩; have M10 := m_; have HY := Aside0.mk (Kd.R_step HY.out (fun k_ h_ l_ => hk_.2 k_ l_ (fun g_ => by have h1 := h_; have g1_ := g_; have z1_ := Z5.out; have z2_ := Z6.out; have z3_ := Z7.out; have z4_ := Z8.out; omega))); have HG := Aside0.mk (Kd.S_step HG.out (fun k_ h_ l_ => hk_.2 k_ l_ (fun g_ => by have h1 := h_; have g1_ := g_; have z1_ := Z5.out; have z2_ := Z6.out; have z3_ := Z7.out; have z4_ := Z8.out; omega))); have HW := Aside0.mk (Kd.N_step HW.out (fun k_ h_ l_ => hk_.2 k_ l_ (fun g_ => by have h1 := h_; have g1_ := g_; have z1_ := Z5.out; have z2_ := Z6.out; have z3_ := Z7.out; have z4_ := Z8.out; omega))); have XA := Aside0.mk ((hk_.2 _ (blk_lt XA.out) (fun g_ => by have g1_ := g_; have z0_ := Z0.out; have z1_ := Z5.out; have z2_ := Z6.out; have z3_ := Z7.out; have z4_ := Z8.out; omega)).trans XA.out); have XB := Aside0.mk ((hk_.2 _ (blk_lt XB.out) (fun g_ => by have g1_ := g_; have z0_ := Z0.out; have z1_ := Z5.out; have z2_ := Z6.out; have z3_ := Z7.out; have z4_ := Z8.out; omega)).trans XB.out); have HB := Aside0.mk hb_; obtain ⟨yd0, yd1, yd2⟩ := blk3 XB.out; have ydl := blk_lt XB.out; clear ho_ hb_ hk_ HX) | (go_at_call 50; clear M10; (with_reducible refine (laws_markSlot.calls k y1 y2 (fun k_ => w6.heap.size ≤ k_ ∧ k_ < w7.heap.size) _ y3 m1 n1 ym w _ HB.out HY.out E11.out).mono ?_); rintro e w15 ⟨rfl, ho_, hb_, hk_⟩; have M11 := m_; have HG := Aside0.mk (Kd.S_step HG.out (fun k_ h_ l_ => hk_.2 k_ l_ (fun g_ => by have h1 := h_; have g1_ := g_; have z1_ := Z5.out; have z2_ := Z6.out; have z3_ := Z7.out; have z4_ := Z8.out; omega))); have HW := Aside0.mk (Kd.N_step HW.out (fun k_ h_ l_ => hk_.2 k_ l_ (fun g_ => by have h1 := h_; have g1_ := g_; have z1_ := Z5.out; have z2_ := Z6.out; have z3_ := Z7.out; have z4_ := Z8.out; omega))); have XA := Aside0.mk ((hk_.2 _ (blk_lt XA.out) (fun g_ => by have g1_ := g_; have z0_ := Z0.out; have z1_ := Z5.out; have z2_ := Z6.out; have z3_ := Z7.out; have z4_ := Z8.out; omega)).trans XA.out); have HB := Aside0.mk hb_; clear ho_ hb_ hk_ HY) | (go_at_call 41; clear M11; (with_reducible refine (laws_eqSlotS.calls k _ _ g1 _ _ s1 true _ (Kd.S_reads' HG.out).2.2 (Kd.S_reads' HG.out).2.1 (Kd.N_reads' HW.out).2.2 (Kd.N_reads' HW.out).2.1 E7.out).mono ?_); rintro e w16 ⟨rfl, hb_⟩; have M12 := m_; have XA := Aside0.mk ((hb_.block _ (blk_lt XA.out)).trans XA.out); have HG := Aside0.mk (Kd.S_below HG.out hb_); have HW := Aside0.mk (Kd.N_below HW.out hb_); have HB := Aside0.mk (below_then HB.out HB.out.size hb_); clear hb_) | (go_at_call 42; clear M12; (with_reducible refine (laws_markSlotS.calls k (fun k_ => w7.heap.size + 1 ≤ k_ ∧ k_ < w8.heap.size) _ g1 1 q1 gm w _ HB.out HG.out E12.out).mono ?_); rintro e w17 ⟨rfl, ho_, hb_, hk_⟩; have M13 := m_; have HW := Aside0.mk (Kd.N_step HW.out (fun k_ h_ l_ => hk_.2 k_ l_ (fun g_ => by have h1 := h_; have g1_ := g_; have z1_ := Z5.out; have z2_ := Z6.out; have z3_ := Z7.out; have z4_ := Z8.out; omega))); have XA := Aside0.mk ((hk_.2 _ (blk_lt XA.out) (fun g_ => by have g1_ := g_; have z0_ := Z0.out; have z1_ := Z5.out; have z2_ := Z6.out; have z3_ := Z7.out; have z4_ := Z8.out; omega)).trans XA.out); have HB := Aside0.mk hb_; have HG := Aside0.mk ho_; have l_ := (Kd.S_reads' HG.out).1; rw [l_] at HG ⊢; clear ho_ hb_ hk_ l_) | (go_at_call 51; clear M13; (with_reducible refine (laws_heldSlotS.calls k _ _ gm 1 q1 _ (Kd.S_reads' HG.out).2.2 (Kd.S_reads' HG.out).2.1 E13.out).mono ?_); rintro e w18 ⟨rfl, hb_⟩; have M14 := m_; have XA := Aside0.mk ((hb_.block _ (blk_lt XA.out)).trans XA.out); have HG := Aside0.mk (Kd.S_below HG.out hb_); have HW := Aside0.mk (Kd.N_below HW.out hb_); have HB := Aside0.mk (below_then HB.out HB.out.size hb_); clear hb_))
 have XA := Aside0.mk (blk_drew XA.out)
 have HG := Aside0.mk (Kd.S_drew HG.out)
 have HW := Aside0.mk (Kd.N_drew HW.out)
 have HB := Aside0.mk (below_drew1 HB.out)
 refine start_ (n := 10) (S := fun w' => w'.cell? ⟨w.heap.size, 0, none⟩ = some (.string a1_0) ∧ w'.cell? ⟨w.heap.size, 1, none⟩ = some (.string a1_1) ∧ w'.cell? ⟨w.heap.size, 2, none⟩ = some (.slice A1_2 l1_2.length c1_2)) (ds := []) tb10_0_9 (by kernel_rfl) rfl rfl ⟨cy_ XA 0, cy_ XA 1, cy_ XA 2⟩ (fun hHeld => ?_)
 generalize w18.drew = wf at XA HG HW HB hHeld ⊢
 refine pure_ (i := 0) (N := some 95) (v := ?_) (a' := ?_) tb10_1_9 rfl rfl (by kernel_rfl) (fun _ _ _ h => h) (Or.inl ⟨by rfl, ?_⟩) ?_ ?_
 rotate_left
 ·intro w'
  go_simp
  with_reducible rfl
 rotate_left
 ·simp only [Act.put, q_]
  rfl
 refine take_ (i := 2) (N := some 97) (v := ?_) (a' := ?_) tb10_5_9 rfl rfl (by kernel_rfl) (fun _ _ _ h => h) (Or.inl ⟨by rfl, ?_⟩) hHeld ?_ ?_
 rotate_left
 ·rintro w' ⟨s0, s1, s2⟩
  go_simp
  with_reducible rfl
 rotate_left
 ·simp only [Act.put, q_]
  rfl
 refine one_ (i := 1) (N := some 96) tb10_7_9 rfl rfl (by kernel_rfl) (by decide) (fun K hK => ?_)
 refine goes_ Try.func38 (by kernel_rfl) rfl #[.slice A0 l0.length c0] (by rfl) rfl rfl gl_ ?_
 with_reducible refine (laws_toSlotS.calls k _ _ l0 x _ (Kd.C_below HR0.out HB.out) HC0.out E3.out).mono ?_
 rintro e w19 ⟨v_, rfl, o_, hb_⟩
 refine ⟨_, rfl, ?_⟩
 obtain ⟨AT, cT, rfl, _, _⟩ := Kd.R_reads (Kd.S_R o_)
 have HT := Aside0.mk o_
 have XA := Aside0.mk ((hb_.block _ (blk_lt XA.out)).trans XA.out)
 have HG := Aside0.mk (Kd.S_below HG.out hb_)
 have HW := Aside0.mk (Kd.N_below HW.out hb_)
 have HB := Aside0.mk (below_then HB.out HB.out.size hb_)
 clear hb_ o_
 refine hK.out _ _ ⟨cy_ XA 0, cy_ XA 1, cy_ XA 2⟩ (fun hHeld => ?_)
 clear hK K
 refine norm_ (a' := ?_) ?_ ?_
 rotate_left
 ·show Act.put _ (some 96) _ = _
  simp only [Act.put, q_]
  rfl
 refine one_ (i := 3) (N := some 98) tb10_f_9 rfl rfl (by kernel_rfl) (by decide) (fun K hK => ?_)
 refine goes_ Try.func47 (by kernel_rfl) rfl #[.agg #[.string a1_0, .string a1_1, .slice A1_2 l1_2.length c1_2]] (by rfl) rfl rfl gl_ ?_
 with_reducible refine (laws_toSlot.calls k a1_0 a1_1 _ _ l1_2 y1 y2 y3 _ (Kd.C_below HR1_2.out HB.out) HC1_2.out E4.out).mono ?_
 rintro e w20 ⟨v_, rfl, o_, hb_⟩
 refine ⟨_, rfl, ?_⟩
 obtain ⟨AU, cU, rfl, _, _⟩ := Kd.R_reads o_
 have HU := Aside0.mk o_
 have HT := Aside0.mk (Kd.S_below HT.out hb_)
 have XA := Aside0.mk ((hb_.block _ (blk_lt XA.out)).trans XA.out)
 have HG := Aside0.mk (Kd.S_below HG.out hb_)
 have HW := Aside0.mk (Kd.N_below HW.out hb_)
 have HB := Aside0.mk (below_then HB.out HB.out.size hb_)
 clear hb_ o_
 refine hK.out _ _ ⟨cy_ XA 0, cy_ XA 1, cy_ XA 2⟩ (fun hHeld => ?_)
 clear hK K
 refine norm_ (a' := ?_) ?_ ?_
 rotate_left
 ·show Act.put _ (some 98) _ = _
  simp only [Act.put, q_]
  rfl
 refine one_ (i := 4) (N := some 99) tb10_1f_9 rfl rfl (by kernel_rfl) (by decide) (fun K hK => ?_)
 refine goes_ Try.func48 (by kernel_rfl) rfl #[.slice AT x.length cT, .agg #[.string y1, .string y2, .slice AU y3.length cU]] (by rfl) rfl rfl gl_ ?_
 with_reducible refine (impl_SlotPut.calls k _ _ _ x y1 y2 _ _ _ y3 g1 g2 _ (Kd.S_V HT.out) (Kd.R_V HU.out) E6.out).mono ?_
 rintro e w21 ⟨v_, rfl, o_, hb_⟩
 refine ⟨_, rfl, ?_⟩
 obtain ⟨AH, cH, rfl, _, _⟩ := Kd.R_reads (Kd.S_R o_)
 have HH := Aside0.mk o_
 have XA := Aside0.mk ((hb_.block _ (blk_lt XA.out)).trans XA.out)
 have HG := Aside0.mk (Kd.S_below HG.out hb_)
 have HW := Aside0.mk (Kd.N_below HW.out hb_)
 have HB := Aside0.mk (below_then HB.out HB.out.size hb_)
 clear hb_ o_ HT HU
 refine hK.out _ _ ⟨cy_ XA 0, cy_ XA 1, cy_ XA 2⟩ (fun hHeld => ?_)
 clear hK K
 refine norm_ (a' := ?_) ?_ ?_
 rotate_left
 ·show Act.put _ (some 99) _ = _
  simp only [Act.put, q_]
  rfl
 refine pure_ (i := 5) (N := some 94) (v := ?_) (a' := ?_) tb10_3f_9 rfl rfl (by kernel_rfl) (fun _ _ _ h => h) (Or.inl ⟨by rfl, ?_⟩) ?_ ?_
 rotate_left
 ·intro w'
  go_simp
  with_reducible rfl
 rotate_left
 ·simp only [Act.put, q_]
  rfl
 refine pure_ (i := 6) (N := some 100) (v := ?_) (a' := ?_) tb10_7f_9 rfl rfl (by kernel_rfl) (fun _ _ _ h => h) (Or.inl ⟨by rfl, ?_⟩) ?_ ?_
 rotate_left
 ·intro w'
  go_simp
  with_reducible rfl
 rotate_left
 ·simp only [Act.put, q_]
  rfl
 refine pure_ (i := 7) (N := some 101) (v := ?_) (a' := ?_) tb10_ff_9 rfl rfl (by kernel_rfl) (fun _ _ _ h => h) (Or.inl ⟨by rfl, ?_⟩) ?_ ?_
 rotate_left
 ·intro w'
  go_simp
  with_reducible rfl
 rotate_left
 ·simp only [Act.put, q_]
  rfl
 refine pure_ (i := 8) (N := some 15) (v := ?_) (a' := ?_) tb10_1ff_9 rfl rfl (by kernel_rfl) (fun _ _ _ h => h) (Or.inl ⟨by rfl, ?_⟩) ?_ ?_
 rotate_left
 ·intro w'
  go_simp
  with_reducible rfl
 rotate_left
 ·simp only [Act.put, q_]
  rfl
 refine pure_ (i := 9) (N := some 16) (v := ?_) (a' := ?_) tb10_3ff_9 rfl rfl (by kernel_rfl) (fun _ _ _ h => h) (Or.inl ⟨by rfl, ?_⟩) ?_ ?_
 rotate_left
 ·intro w'
  go_simp
  with_reducible rfl
 rotate_left
 ·simp only [Act.put, q_]
  rfl
 refine done_ (by kernel_rfl) ?_
 go_wp2_with (first | (go_at_call 41; clear M14; (with_reducible refine (laws_eqSlotS.calls k _ _ g1 _ _ s1 true _ (Kd.S_reads' HH.out).2.2 (Kd.S_reads' HH.out).2.1 (Kd.N_reads' HW.out).2.2 (Kd.N_reads' HW.out).2.1 E7.out).mono ?_); rintro e w22 ⟨rfl, hb_⟩; have M15 := m_; have HG := Aside0.mk (Kd.S_below HG.out hb_); have HB := Aside0.mk (below_then HB.out HB.out.size hb_); clear hb_) | (go_at_call 51; clear M15; (with_reducible refine (laws_heldSlotS.calls k _ _ gm 1 q1 _ (Kd.S_reads' HG.out).2.2 (Kd.S_reads' HG.out).2.1 E13.out).mono ?_); rintro e w23 ⟨rfl, hb_⟩; have M16 := m_; have HB := Aside0.mk (below_then HB.out HB.out.size hb_); clear hb_))
 go_ret
 exact ⟨rfl, HB.out⟩
def ok70 (x : S70) : Prop := (x.f0.size ≤ maxLen) ∧ (x.f1.size ≤ maxLen) ∧ (x.f2.length ≤ maxLen ∧ ∀ y0 ∈ x.f2, (Lit.int .u8 y0).wf = true)
/-- THE ONE PURE STATEMENT of laws_FnExactSlotPut. -/
def laws_FnExactSlotPut.Pure : Prop := ∀ (l0 : List (S70)) (s1 : S70), (l0.length ≤ maxLen ∧ ∀ y0 ∈ l0, ok70 y0) → (ok70 s1) → ∃ k, laws_FnExactSlotPut.f k l0 s1.f0 s1.f1 s1.f2 = some true
end Go.Proofs.Ytepjnalkpfnmcaa.QFnExactSlotPut
