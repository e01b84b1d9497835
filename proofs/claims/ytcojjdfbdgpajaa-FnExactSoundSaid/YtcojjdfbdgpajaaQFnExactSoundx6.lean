-- by my own printer (myprint.py, over the kit's print.py)
import Derived.Test.YtcojjdfbdgpajaaQFnExactSoundx0
import Derived.Test.YtcojjdfbdgpajaaQFnExactSoundx5
namespace Go.Proofs.Ytcojjdfbdgpajaa.QFnExactSound
open Go.RowKit Go.Proofs.YtcojjdfbdgpajaaW.PrintWords Go.Proofs.YtcojjdfbdgpajaaW.PrintLast Go.Proofs.YtcojjdfbdgpajaaW.PrintMore
attribute [local go_sem] max2_int min2_int max_two min_two max_three min_three max_four min_four   -- for this text's walks alone
set_option linter.unusedVariables false
set_option linter.unusedSimpArgs false

attribute [local go_sem] my_geq my_leq my_gtr
/-! ### spec_Sound: function 58 -/
mutual
def spec_Sound.l0 : Nat → List (S85) → Int → Int → Option (Bool)
  | 0, _, _, _ => none
  | k + 1, x8, x9, x10 => if x10 < x9 then (if 0 ≤ x10 then (if x10 < (x8.length : Int) then (if ((rd_T85 x8 x10).f2) < 0 then (spec_Sound.j1 k x8 x9 x10 true ((rd_T85 x8 x10).f0) ((rd_T85 x8 x10).f1) ((rd_T85 x8 x10).f2) ((rd_T85 x8 x10).f3) ((rd_T85 x8 x10).f4) ((rd_T85 x8 x10).f5) ((rd_T85 x8 x10).f6.f0) ((rd_T85 x8 x10).f6.f1) ((rd_T85 x8 x10).f6.f2) ((rd_T85 x8 x10).f6.f3) ((rd_T85 x8 x10).f7)) else (if ((rd_T85 x8 x10).f1) < 0 then (spec_Sound.j1 k x8 x9 x10 true ((rd_T85 x8 x10).f0) ((rd_T85 x8 x10).f1) ((rd_T85 x8 x10).f2) ((rd_T85 x8 x10).f3) ((rd_T85 x8 x10).f4) ((rd_T85 x8 x10).f5) ((rd_T85 x8 x10).f6.f0) ((rd_T85 x8 x10).f6.f1) ((rd_T85 x8 x10).f6.f2) ((rd_T85 x8 x10).f6.f3) ((rd_T85 x8 x10).f7)) else ((spec_Stored.f k ((rd_T85 x8 x10).f5)).bind fun t254 => ((spec_AddSat.f ((rd_T85 x8 x10).f2) t254).bind fun t255 => (spec_Sound.j1 k x8 x9 x10 (decide (t255 > ((rd_T85 x8 x10).f1))) ((rd_T85 x8 x10).f0) ((rd_T85 x8 x10).f1) ((rd_T85 x8 x10).f2) ((rd_T85 x8 x10).f3) ((rd_T85 x8 x10).f4) ((rd_T85 x8 x10).f5) ((rd_T85 x8 x10).f6.f0) ((rd_T85 x8 x10).f6.f1) ((rd_T85 x8 x10).f6.f2) ((rd_T85 x8 x10).f6.f3) ((rd_T85 x8 x10).f7)))))) else (none)) else (none)) else (some true)
def spec_Sound.j1 : Nat → List (S85) → Int → Int → Bool → ByteArray → Int → Int → Int → Int → List (S60) → Int → Int → List Int → List Int → List (S46) → Option (Bool)
  | 0, _, _, _, _, _, _, _, _, _, _, _, _, _, _, _ => none
  | k + 1, x8, x9, x10, x32, x254000, x254001, x254002, x254003, x254004, x254005, x254006, x254007, x254008, x254009, x254010 => if x32 = true then (some false) else (spec_Sound.l1 k x8 x9 x10 x254005 (x254005.length : Int) 0)
def spec_Sound.l1 : Nat → List (S85) → Int → Int → List (S60) → Int → Int → Option (Bool)
  | 0, _, _, _, _, _, _ => none
  | k + 1, x8, x9, x10, x34, x35, x36 => if x36 < x35 then (if 0 ≤ x36 then (if x36 < (x34.length : Int) then (if ((rd_T60 x34 x36).f1) < 0 then (some false) else (spec_Sound.l1 k x8 x9 x10 x34 x35 (wrap64 (x36 + 1)))) else (none)) else (none)) else (spec_Sound.l0 k x8 x9 (wrap64 (x10 + 1)))
end
def spec_Sound.f (k : Nat) (l0_0 : List (S85)) : Option (Bool) := spec_Sound.l0 k l0_0 (l0_0.length : Int) 0
theorem spec_Sound.mono_l : ∀ k, (∀ y0 y1 y2, LeO (spec_Sound.l0 k y0 y1 y2) (spec_Sound.l0 (k + 1) y0 y1 y2)) ∧ (∀ y0 y1 y2 y3 y4 y5 y6 y7 y8 y9 y10 y11 y12 y13 y14, LeO (spec_Sound.j1 k y0 y1 y2 y3 y4 y5 y6 y7 y8 y9 y10 y11 y12 y13 y14) (spec_Sound.j1 (k + 1) y0 y1 y2 y3 y4 y5 y6 y7 y8 y9 y10 y11 y12 y13 y14)) ∧ (∀ y0 y1 y2 y3 y4 y5, LeO (spec_Sound.l1 k y0 y1 y2 y3 y4 y5) (spec_Sound.l1 (k + 1) y0 y1 y2 y3 y4 y5))
  | 0 => ⟨fun _ _ _ r h => by simp [spec_Sound.l0] at h, fun _ _ _ _ _ _ _ _ _ _ _ _ _ _ _ r h => by simp [spec_Sound.j1] at h, fun _ _ _ _ _ _ r h => by simp [spec_Sound.l1] at h⟩
  | k + 1 => by
    obtain ⟨ih0, ih1, ih2⟩ := spec_Sound.mono_l k
    refine ⟨?_, ?_, ?_⟩
    · intro y0 y1 y2
      unfold spec_Sound.l0
      repeat' first
      | (with_reducible exact ih0 _ _ _)
      | (with_reducible exact ih1 _ _ _ _ _ _ _ _ _ _ _ _ _ _ _)
      | (with_reducible exact ih2 _ _ _ _ _ _)
      | (with_reducible exact spec_Stored.mono _ _)
      | (with_reducible exact LeO.refl _)
      | (with_reducible exact LeO.none _)
      | (with_reducible refine LeO.ite ?_ ?_)
      | (with_reducible refine LeO.bind ?_ (fun _ => ?_))
      | exact ih0 _ _ _
      | exact ih1 _ _ _ _ _ _ _ _ _ _ _ _ _ _ _
      | exact ih2 _ _ _ _ _ _
      | exact spec_Stored.mono _ _
      | exact LeO.none _
      | refine LeO.ite ?_ ?_
      | refine LeO.bind ?_ (fun _ => ?_)
    · intro y0 y1 y2 y3 y4 y5 y6 y7 y8 y9 y10 y11 y12 y13 y14
      unfold spec_Sound.j1
      repeat' first
      | (with_reducible exact ih0 _ _ _)
      | (with_reducible exact ih1 _ _ _ _ _ _ _ _ _ _ _ _ _ _ _)
      | (with_reducible exact ih2 _ _ _ _ _ _)
      | (with_reducible exact spec_Stored.mono _ _)
      | (with_reducible exact LeO.refl _)
      | (with_reducible exact LeO.none _)
      | (with_reducible refine LeO.ite ?_ ?_)
      | (with_reducible refine LeO.bind ?_ (fun _ => ?_))
      | exact ih0 _ _ _
      | exact ih1 _ _ _ _ _ _ _ _ _ _ _ _ _ _ _
      | exact ih2 _ _ _ _ _ _
      | exact spec_Stored.mono _ _
      | exact LeO.none _
      | refine LeO.ite ?_ ?_
      | refine LeO.bind ?_ (fun _ => ?_)
    · intro y0 y1 y2 y3 y4 y5
      unfold spec_Sound.l1
      repeat' first
      | (with_reducible exact ih0 _ _ _)
      | (with_reducible exact ih1 _ _ _ _ _ _ _ _ _ _ _ _ _ _ _)
      | (with_reducible exact ih2 _ _ _ _ _ _)
      | (with_reducible exact spec_Stored.mono _ _)
      | (with_reducible exact LeO.refl _)
      | (with_reducible exact LeO.none _)
      | (with_reducible refine LeO.ite ?_ ?_)
      | (with_reducible refine LeO.bind ?_ (fun _ => ?_))
      | exact ih0 _ _ _
      | exact ih1 _ _ _ _ _ _ _ _ _ _ _ _ _ _ _
      | exact ih2 _ _ _ _ _ _
      | exact spec_Stored.mono _ _
      | exact LeO.none _
      | refine LeO.ite ?_ ?_
      | refine LeO.bind ?_ (fun _ => ?_)
theorem spec_Sound.mono : ∀ a0 k, LeO (spec_Sound.f k a0) (spec_Sound.f (k + 1) a0) := by
  intro a0 k
  obtain ⟨ih0, ih1, ih2⟩ := spec_Sound.mono_l k
  unfold spec_Sound.f
  repeat' first
      | (with_reducible exact ih0 _ _ _)
      | (with_reducible exact ih1 _ _ _ _ _ _ _ _ _ _ _ _ _ _ _)
      | (with_reducible exact ih2 _ _ _ _ _ _)
      | (with_reducible exact spec_Stored.mono _ _)
      | (with_reducible exact LeO.refl _)
      | (with_reducible exact LeO.none _)
      | (with_reducible refine LeO.ite ?_ ?_)
      | (with_reducible refine LeO.bind ?_ (fun _ => ?_))
      | exact ih0 _ _ _
      | exact ih1 _ _ _ _ _ _ _ _ _ _ _ _ _ _ _
      | exact ih2 _ _ _ _ _ _
      | exact spec_Stored.mono _ _
      | exact LeO.none _
      | refine LeO.ite ?_ ?_
      | refine LeO.bind ?_ (fun _ => ?_)
def spec_Sound.T4 : Bool × List (List Nat × List Nat) := (true, [([], []), ([0], [0]), ([1], [1]), ([2], [2]), ([3], [3]), ([4, 3], [3, 4]), ([5, 3], [3, 5]), ([3, 6], [3, 6]), ([7, 3], [7]), ([8], [8]), ([9, 8], [8, 9]), ([8], [8]), ([11, 8], [8, 11]), ([12, 8, 8], [8, 12]), ([10, 13, 13, 8], [8, 10, 13]), ([8], [8]), ([15, 8], [8, 15]), ([14, 16, 8], [8, 14, 16]), ([8, 17], [8, 17])])
def spec_Sound.B4 : List Nat := [0, 1, 3, 7, 15, 31, 63, 127, 255, 511, 1023, 511, 2559, 6655, 16383, 511, 33279, 131071, 262143]
theorem spec_Sound.tab4 : rtab .any (opsOf Try.f58 4) = spec_Sound.T4 := by kernel_rfl
theorem spec_Sound.bits4 : waitsOk spec_Sound.T4.2 spec_Sound.B4 = true := by kernel_rfl
set_option maxHeartbeats 8000000 in
set_option maxRecDepth 100000 in
theorem spec_Sound.calls (k : Nat) (A0_0 : Option Addr) (c0_0 : Nat) (l0_0 : List (S85)) (r : Bool) (w : World) (hr0_0 : Kd.C k85 w A0_0 l0_0.length l0_0) (hc0_0 : l0_0.length ≤ c0_0) (h : spec_Sound.f k l0_0 = some r) :
    Calls Try.prog 58 #[.agg #[.slice A0_0 l0_0.length c0_0]] w fun e w' => e = .returned (.bool r) ∧ Below w.heap.size w w' := by
  have hu72 := Try.underlying72
  have hu85 := Try.underlying85
  have hu60 := Try.underlying60
  have HR0_0 := Aside0.mk hr0_0
  have HC0_0 := Aside0.mk hc0_0
  clear hr0_0 hc0_0
  have HB := Aside0.mk (Below.refl w.heap.size w)
  have H : (spec_Sound.l0 k l0_0 (l0_0.length : Int) 0) = some r := h
  clear h
  have H' := Aside0.mk H
  clear H
  go_enter Try.func58, Try.ntmps58
  go_wp2_with (first | ((with_reducible refine gate_dst (N := 1) rfl ?_); refine box_event ?hg (N := 1) ?hd (cs := #[.slice A0_0 l0_0.length c0_0]) (t := 72) ?hr ?_; (case hd => rfl); (case hg => rfl); (case hr => first | (go_simp; done) | (go_simp; rfl)); intro gb251 hg w2 hbox hb; have n0_ := Aside0.mk (below_step bl_ hb); have n1_ := Aside0.mk (hbox); have n2_ := Aside0.mk ((by rw [hg]; exact (below_size bl_) : w.heap.size ≤ gb251)); have n3_ := Aside0.mk ((by rw [hg]; exact (below_size bl_) : w.heap.size ≤ gb251)); clear HB; have HB := n0_; have BK251 := n1_; have GW251 := n2_; have GE251 := n3_; clear n0_ n1_ n2_ n3_; clear hb hbox hg; have hcz3_0 : w2.cell? ⟨gb251, 0, none⟩ = some (.slice A0_0 l0_0.length c0_0) := (blk_cell BK251.out 0).trans rfl; have hfz3_0 := blk_frozen BK251.out 0))
  go_loopg [10] k (fun kq v10 w' => ∃ (x10_1 : Int), v10 = .int .i64 x10_1 ∧ Aside0 (spec_Sound.l0 kq l0_0 (l0_0.length : Int) x10_1 = some r) ∧ Aside0 (kq ≤ k) ∧ Aside0 (w'.heap[gb251]? = some (.cells #[(.slice A0_0 l0_0.length c0_0)] 72 (0, 0))) ∧ Aside0 (Below w.heap.size w w'))
  case atStart => exact ⟨(0), sp_, H', ⟨Nat.le_refl _⟩, ⟨by (with_reducible repeat (first | refine blk_drewN ?_ _ | refine blk_drew ?_ | refine blk_alloc ?_ _)); exact BK251.out⟩, ⟨bl_⟩⟩
  case round =>
    clear H'
    try clear p2
    try clear hcz3_0
    try clear hfz3_0
    obtain ⟨x10_1, rfl, HA, HK1, BK251, HB⟩ := hrel
    cases gk with
    | zero => exact absurd HA.out (by simp [spec_Sound.l0])
    | succ k1 =>
      have H := HA.out
      clear HA
      simp only [spec_Sound.l0] at H
      by_cases c4 : x10_1 < (l0_0.length : Int)
      · rw [if_pos c4] at H
        have c4b0 : decide (x10_1 < (l0_0.length : Int)) = true := decide_eq_true c4
        clear c4
        by_cases c5 : 0 ≤ x10_1
        · rw [if_pos c5] at H
          have c5b0 : decide (0 ≤ x10_1) = true := decide_eq_true c5
          clear c5
          by_cases c6 : x10_1 < (l0_0.length : Int)
          · rw [if_pos c6] at H
            have c6b0 : decide (x10_1 < (l0_0.length : Int)) = true := decide_eq_true c6
            clear c6
            have HC7 := Aside0.mk H
            clear H
            have p252 : 0 ≤ (x10_1 : Int) := of_decide_eq_true (by first | (with_reducible assumption) | assumption)
            have q252 : x10_1 < (l0_0.length : Int) := of_decide_eq_true (by first | (with_reducible assumption) | assumption)
            obtain ⟨ad252, A252_5, c252_5, A252_8, c252_8, A252_9, c252_9, A252_10, c252_10, e252, hx252_0, hx252_1, hx252_2, hx252_3, hx252_4, hx252_5, hx252_6, hx252_7, hx252_8, hx252_9, hx252_10, hl252_5, hi252_5, hl252_8, hi252_8, hl252_9, hi252_9, hl252_10, hi252_10⟩ := at_T85 HR0_0.out x10_1 p252 q252
            cases e252
            replace hx252_0 := (HB.out.cell (World.block_lt_of_cell? w _ hx252_0)).trans hx252_0
            replace hx252_1 := (HB.out.cell (World.block_lt_of_cell? w _ hx252_1)).trans hx252_1
            replace hx252_2 := (HB.out.cell (World.block_lt_of_cell? w _ hx252_2)).trans hx252_2
            replace hx252_3 := (HB.out.cell (World.block_lt_of_cell? w _ hx252_3)).trans hx252_3
            replace hx252_4 := (HB.out.cell (World.block_lt_of_cell? w _ hx252_4)).trans hx252_4
            replace hx252_5 := (HB.out.cell (World.block_lt_of_cell? w _ hx252_5)).trans hx252_5
            replace hx252_6 := (HB.out.cell (World.block_lt_of_cell? w _ hx252_6)).trans hx252_6
            replace hx252_7 := (HB.out.cell (World.block_lt_of_cell? w _ hx252_7)).trans hx252_7
            replace hx252_8 := (HB.out.cell (World.block_lt_of_cell? w _ hx252_8)).trans hx252_8
            replace hx252_9 := (HB.out.cell (World.block_lt_of_cell? w _ hx252_9)).trans hx252_9
            replace hx252_10 := (HB.out.cell (World.block_lt_of_cell? w _ hx252_10)).trans hx252_10
            have HR252_5 := Aside0.mk hi252_5
            have HC252_5 := Aside0.mk hl252_5
            clear hi252_5 hl252_5
            have HR252_8 := Aside0.mk hi252_8
            have HC252_8 := Aside0.mk hl252_8
            clear hi252_8 hl252_8
            have HR252_9 := Aside0.mk hi252_9
            have HC252_9 := Aside0.mk hl252_9
            clear hi252_9 hl252_9
            have HR252_10 := Aside0.mk hi252_10
            have HC252_10 := Aside0.mk hl252_10
            clear hi252_10 hl252_10
            replace p252 := eq_true p252
            replace q252 := eq_true q252
            go_upto_region 4 with (first | ((with_reducible refine gate_dst (N := 4) rfl ?_); refine box_event ?hg (N := 4) ?hd (cs := #[.string (⟨#[]⟩ : ByteArray), .int .i64 0, .int .i64 0, .int .i64 0, .int .i64 0, .slice none 0 0, .int .i64 0, .int .i64 0, .slice none 0 0, .slice none 0 0, .slice none 0 0]) (t := 85) ?hr ?_; (case hd => rfl); (case hg => rfl); (case hr => first | (go_simp; done) | (go_simp; rfl)); intro gb253 hg w8 hbox hb; have n0_ := Aside0.mk (blk_below (bk_ BK251) hb); have n1_ := Aside0.mk (below_step bl_ hb); have n2_ := Aside0.mk (hbox); have n3_ := Aside0.mk ((by rw [hg]; exact (below_size bl_) : w.heap.size ≤ gb253)); have n4_ := Aside0.mk ((by rw [hg]; exact (below_size bl_) : w.heap.size ≤ gb253)); have n5_ := Aside0.mk ((by rw [hg]; exact Nat.ne_of_lt (blk_lt (bk_ BK251)) : gb251 ≠ gb253)); have n6_ := Aside0.mk ((by rw [hg]; exact Nat.ne_of_gt (blk_lt (bk_ BK251)) : gb253 ≠ gb251)); clear BK251; clear HB; have BK251 := n0_; have HB := n1_; have BK253 := n2_; have GW253 := n3_; have GE253 := n4_; have NB251_253 := n5_; have NB253_251 := n6_; clear n0_ n1_ n2_ n3_ n4_ n5_ n6_; clear hb hbox hg; have hnb9 := NB253_251.out; have hnc9 := NB251_253.out; have hcz10_0 : w8.cell? ⟨gb253, 0, none⟩ = some (.string (⟨#[]⟩ : ByteArray)) := (blk_cell BK253.out 0).trans rfl; have hcz10_1 : w8.cell? ⟨gb253, 1, none⟩ = some (.int .i64 0) := (blk_cell BK253.out 1).trans rfl; have hcz10_2 : w8.cell? ⟨gb253, 2, none⟩ = some (.int .i64 0) := (blk_cell BK253.out 2).trans rfl; have hcz10_3 : w8.cell? ⟨gb253, 3, none⟩ = some (.int .i64 0) := (blk_cell BK253.out 3).trans rfl; have hcz10_4 : w8.cell? ⟨gb253, 4, none⟩ = some (.int .i64 0) := (blk_cell BK253.out 4).trans rfl; have hcz10_5 : w8.cell? ⟨gb253, 5, none⟩ = some (.slice none 0 0) := (blk_cell BK253.out 5).trans rfl; have hcz10_6 : w8.cell? ⟨gb253, 6, none⟩ = some (.int .i64 0) := (blk_cell BK253.out 6).trans rfl; have hcz10_7 : w8.cell? ⟨gb253, 7, none⟩ = some (.int .i64 0) := (blk_cell BK253.out 7).trans rfl; have hcz10_8 : w8.cell? ⟨gb253, 8, none⟩ = some (.slice none 0 0) := (blk_cell BK253.out 8).trans rfl; have hcz10_9 : w8.cell? ⟨gb253, 9, none⟩ = some (.slice none 0 0) := (blk_cell BK253.out 9).trans rfl; have hcz10_10 : w8.cell? ⟨gb253, 10, none⟩ = some (.slice none 0 0) := (blk_cell BK253.out 10).trans rfl; have hfz10_0 := blk_frozen BK253.out 0; have hfz10_1 := blk_frozen BK253.out 1; have hfz10_2 := blk_frozen BK253.out 2; have hfz10_3 := blk_frozen BK253.out 3; have hfz10_4 := blk_frozen BK253.out 4; have hfz10_5 := blk_frozen BK253.out 5; have hfz10_6 := blk_frozen BK253.out 6; have hfz10_7 := blk_frozen BK253.out 7; have hfz10_8 := blk_frozen BK253.out 8; have hfz10_9 := blk_frozen BK253.out 9; have hfz10_10 := blk_frozen BK253.out 10))
            (try simp only [Act.put, List.setIfInBounds_toArray, List.set_cons_zero, List.set_cons_succ])
            go_cut [32] (fun v32 wc => ∃ (kq : Nat) (x32_6 : Bool), v32 = .bool x32_6 ∧ Aside0 (spec_Sound.j1 kq l0_0 (l0_0.length : Int) x10_1 x32_6 ((rd_T85 l0_0 x10_1).f0) ((rd_T85 l0_0 x10_1).f1) ((rd_T85 l0_0 x10_1).f2) ((rd_T85 l0_0 x10_1).f3) ((rd_T85 l0_0 x10_1).f4) ((rd_T85 l0_0 x10_1).f5) ((rd_T85 l0_0 x10_1).f6.f0) ((rd_T85 l0_0 x10_1).f6.f1) ((rd_T85 l0_0 x10_1).f6.f2) ((rd_T85 l0_0 x10_1).f6.f3) ((rd_T85 l0_0 x10_1).f7) = some r) ∧ Aside0 (kq ≤ k1) ∧ Aside0 (wc.heap[gb251]? = some (.cells #[(.slice (some ad252) l0_0.length c0_0)] 72 (0, 0))) ∧ Aside0 (wc.heap[gb253]? = some (.cells #[.string ((rd_T85 l0_0 x10_1).f0), .int .i64 ((rd_T85 l0_0 x10_1).f1), .int .i64 ((rd_T85 l0_0 x10_1).f2), .int .i64 ((rd_T85 l0_0 x10_1).f3), .int .i64 ((rd_T85 l0_0 x10_1).f4), (.slice A252_5 ((rd_T85 l0_0 x10_1).f5).length c252_5), .int .i64 ((rd_T85 l0_0 x10_1).f6.f0), .int .i64 ((rd_T85 l0_0 x10_1).f6.f1), (.slice A252_8 ((rd_T85 l0_0 x10_1).f6.f2).length c252_8), (.slice A252_9 ((rd_T85 l0_0 x10_1).f6.f3).length c252_9), (.slice A252_10 ((rd_T85 l0_0 x10_1).f7).length c252_10)] 85 (0, 0))) ∧ Aside0 (Below w.heap.size w wc))
            case first =>
              have H := HC7.out
              clear HC7
              by_cases c11 : ((rd_T85 l0_0 x10_1).f2) < 0
              · rw [if_pos c11] at H
                have c11b0 : decide (((rd_T85 l0_0 x10_1).f2) < 0) = true := decide_eq_true c11
                clear c11
                (first | rw [c11b0] | (simp only [i64_w, i32_w]; rw [c11b0]) | skip)
                have H' := Aside0.mk H
                clear H
                try go_wp2
                have n0_ : Aside0 ((((((((((((w8.setCell ⟨gb253, 0, none⟩ (.string ((rd_T85 l0_0 x10_1).f0))).setCell ⟨gb253, 1, none⟩ (.int .i64 ((rd_T85 l0_0 x10_1).f1))).setCell ⟨gb253, 2, none⟩ (.int .i64 ((rd_T85 l0_0 x10_1).f2))).setCell ⟨gb253, 3, none⟩ (.int .i64 ((rd_T85 l0_0 x10_1).f3))).setCell ⟨gb253, 4, none⟩ (.int .i64 ((rd_T85 l0_0 x10_1).f4))).setCell ⟨gb253, 5, none⟩ (.slice A252_5 ((rd_T85 l0_0 x10_1).f5).length c252_5)).setCell ⟨gb253, 6, none⟩ (.int .i64 ((rd_T85 l0_0 x10_1).f6.f0))).setCell ⟨gb253, 7, none⟩ (.int .i64 ((rd_T85 l0_0 x10_1).f6.f1))).setCell ⟨gb253, 8, none⟩ (.slice A252_8 ((rd_T85 l0_0 x10_1).f6.f2).length c252_8)).setCell ⟨gb253, 9, none⟩ (.slice A252_9 ((rd_T85 l0_0 x10_1).f6.f3).length c252_9)).setCell ⟨gb253, 10, none⟩ (.slice A252_10 ((rd_T85 l0_0 x10_1).f7).length c252_10)).heap[gb251]? = some (.cells #[.slice (some ad252) l0_0.length c0_0] 72 (0, 0))) := ⟨by (with_reducible repeat (first | refine blk_drewN ?_ _ | refine blk_drew ?_ | refine blk_alloc ?_ _)); refine blk_far ?_ NB251_253.out _; (with_reducible repeat (first | refine blk_drewN ?_ _ | refine blk_drew ?_ | refine blk_alloc ?_ _)); refine blk_far ?_ NB251_253.out _; (with_reducible repeat (first | refine blk_drewN ?_ _ | refine blk_drew ?_ | refine blk_alloc ?_ _)); refine blk_far ?_ NB251_253.out _; (with_reducible repeat (first | refine blk_drewN ?_ _ | refine blk_drew ?_ | refine blk_alloc ?_ _)); refine blk_far ?_ NB251_253.out _; (with_reducible repeat (first | refine blk_drewN ?_ _ | refine blk_drew ?_ | refine blk_alloc ?_ _)); refine blk_far ?_ NB251_253.out _; (with_reducible repeat (first | refine blk_drewN ?_ _ | refine blk_drew ?_ | refine blk_alloc ?_ _)); refine blk_far ?_ NB251_253.out _; (with_reducible repeat (first | refine blk_drewN ?_ _ | refine blk_drew ?_ | refine blk_alloc ?_ _)); refine blk_far ?_ NB251_253.out _; (with_reducible repeat (first | refine blk_drewN ?_ _ | refine blk_drew ?_ | refine blk_alloc ?_ _)); refine blk_far ?_ NB251_253.out _; (with_reducible repeat (first | refine blk_drewN ?_ _ | refine blk_drew ?_ | refine blk_alloc ?_ _)); refine blk_far ?_ NB251_253.out _; (with_reducible repeat (first | refine blk_drewN ?_ _ | refine blk_drew ?_ | refine blk_alloc ?_ _)); refine blk_far ?_ NB251_253.out _; (with_reducible repeat (first | refine blk_drewN ?_ _ | refine blk_drew ?_ | refine blk_alloc ?_ _)); refine blk_far ?_ NB251_253.out _; (with_reducible repeat (first | refine blk_drewN ?_ _ | refine blk_drew ?_ | refine blk_alloc ?_ _)); exact BK251.out⟩
                have n1_ : Aside0 ((((((((((((w8.setCell ⟨gb253, 0, none⟩ (.string ((rd_T85 l0_0 x10_1).f0))).setCell ⟨gb253, 1, none⟩ (.int .i64 ((rd_T85 l0_0 x10_1).f1))).setCell ⟨gb253, 2, none⟩ (.int .i64 ((rd_T85 l0_0 x10_1).f2))).setCell ⟨gb253, 3, none⟩ (.int .i64 ((rd_T85 l0_0 x10_1).f3))).setCell ⟨gb253, 4, none⟩ (.int .i64 ((rd_T85 l0_0 x10_1).f4))).setCell ⟨gb253, 5, none⟩ (.slice A252_5 ((rd_T85 l0_0 x10_1).f5).length c252_5)).setCell ⟨gb253, 6, none⟩ (.int .i64 ((rd_T85 l0_0 x10_1).f6.f0))).setCell ⟨gb253, 7, none⟩ (.int .i64 ((rd_T85 l0_0 x10_1).f6.f1))).setCell ⟨gb253, 8, none⟩ (.slice A252_8 ((rd_T85 l0_0 x10_1).f6.f2).length c252_8)).setCell ⟨gb253, 9, none⟩ (.slice A252_9 ((rd_T85 l0_0 x10_1).f6.f3).length c252_9)).setCell ⟨gb253, 10, none⟩ (.slice A252_10 ((rd_T85 l0_0 x10_1).f7).length c252_10)).heap[gb253]? = some (.cells #[.string ((rd_T85 l0_0 x10_1).f0), .int .i64 ((rd_T85 l0_0 x10_1).f1), .int .i64 ((rd_T85 l0_0 x10_1).f2), .int .i64 ((rd_T85 l0_0 x10_1).f3), .int .i64 ((rd_T85 l0_0 x10_1).f4), .slice A252_5 ((rd_T85 l0_0 x10_1).f5).length c252_5, .int .i64 ((rd_T85 l0_0 x10_1).f6.f0), .int .i64 ((rd_T85 l0_0 x10_1).f6.f1), .slice A252_8 ((rd_T85 l0_0 x10_1).f6.f2).length c252_8, .slice A252_9 ((rd_T85 l0_0 x10_1).f6.f3).length c252_9, .slice A252_10 ((rd_T85 l0_0 x10_1).f7).length c252_10] 85 (0, 0))) := ⟨by (with_reducible repeat (first | refine blk_drewN ?_ _ | refine blk_drew ?_ | refine blk_alloc ?_ _)); refine blk_put (cs := #[.string ((rd_T85 l0_0 x10_1).f0), .int .i64 ((rd_T85 l0_0 x10_1).f1), .int .i64 ((rd_T85 l0_0 x10_1).f2), .int .i64 ((rd_T85 l0_0 x10_1).f3), .int .i64 ((rd_T85 l0_0 x10_1).f4), .slice A252_5 ((rd_T85 l0_0 x10_1).f5).length c252_5, .int .i64 ((rd_T85 l0_0 x10_1).f6.f0), .int .i64 ((rd_T85 l0_0 x10_1).f6.f1), .slice A252_8 ((rd_T85 l0_0 x10_1).f6.f2).length c252_8, .slice A252_9 ((rd_T85 l0_0 x10_1).f6.f3).length c252_9, .slice none 0 0]) ?_ 10 _ rfl; (with_reducible repeat (first | refine blk_drewN ?_ _ | refine blk_drew ?_ | refine blk_alloc ?_ _)); refine blk_put (cs := #[.string ((rd_T85 l0_0 x10_1).f0), .int .i64 ((rd_T85 l0_0 x10_1).f1), .int .i64 ((rd_T85 l0_0 x10_1).f2), .int .i64 ((rd_T85 l0_0 x10_1).f3), .int .i64 ((rd_T85 l0_0 x10_1).f4), .slice A252_5 ((rd_T85 l0_0 x10_1).f5).length c252_5, .int .i64 ((rd_T85 l0_0 x10_1).f6.f0), .int .i64 ((rd_T85 l0_0 x10_1).f6.f1), .slice A252_8 ((rd_T85 l0_0 x10_1).f6.f2).length c252_8, .slice none 0 0, .slice none 0 0]) ?_ 9 _ rfl; (with_reducible repeat (first | refine blk_drewN ?_ _ | refine blk_drew ?_ | refine blk_alloc ?_ _)); refine blk_put (cs := #[.string ((rd_T85 l0_0 x10_1).f0), .int .i64 ((rd_T85 l0_0 x10_1).f1), .int .i64 ((rd_T85 l0_0 x10_1).f2), .int .i64 ((rd_T85 l0_0 x10_1).f3), .int .i64 ((rd_T85 l0_0 x10_1).f4), .slice A252_5 ((rd_T85 l0_0 x10_1).f5).length c252_5, .int .i64 ((rd_T85 l0_0 x10_1).f6.f0), .int .i64 ((rd_T85 l0_0 x10_1).f6.f1), .slice none 0 0, .slice none 0 0, .slice none 0 0]) ?_ 8 _ rfl; (with_reducible repeat (first | refine blk_drewN ?_ _ | refine blk_drew ?_ | refine blk_alloc ?_ _)); refine blk_put (cs := #[.string ((rd_T85 l0_0 x10_1).f0), .int .i64 ((rd_T85 l0_0 x10_1).f1), .int .i64 ((rd_T85 l0_0 x10_1).f2), .int .i64 ((rd_T85 l0_0 x10_1).f3), .int .i64 ((rd_T85 l0_0 x10_1).f4), .slice A252_5 ((rd_T85 l0_0 x10_1).f5).length c252_5, .int .i64 ((rd_T85 l0_0 x10_1).f6.f0), .int .i64 0, .slice none 0 0, .slice none 0 0, .slice none 0 0]) ?_ 7 _ rfl; (with_reducible repeat (first | refine blk_drewN ?_ _ | refine blk_drew ?_ | refine blk_alloc ?_ _)); refine blk_put (cs := #[.string ((rd_T85 l0_0 x10_1).f0), .int .i64 ((rd_T85 l0_0 x10_1).f1), .int .i64 ((rd_T85 l0_0 x10_1).f2), .int .i64 ((rd_T85 l0_0 x10_1).f3), .int .i64 ((rd_T85 l0_0 x10_1).f4), .slice A252_5 ((rd_T85 l0_0 x10_1).f5).length c252_5, .int .i64 0, .int .i64 0, .slice none 0 0, .slice none 0 0, .slice none 0 0]) ?_ 6 _ rfl; (with_reducible repeat (first | refine blk_drewN ?_ _ | refine blk_drew ?_ | refine blk_alloc ?_ _)); refine blk_put (cs := #[.string ((rd_T85 l0_0 x10_1).f0), .int .i64 ((rd_T85 l0_0 x10_1).f1), .int .i64 ((rd_T85 l0_0 x10_1).f2), .int .i64 ((rd_T85 l0_0 x10_1).f3), .int .i64 ((rd_T85 l0_0 x10_1).f4), .slice none 0 0, .int .i64 0, .int .i64 0, .slice none 0 0, .slice none 0 0, .slice none 0 0]) ?_ 5 _ rfl; (with_reducible repeat (first | refine blk_drewN ?_ _ | refine blk_drew ?_ | refine blk_alloc ?_ _)); refine blk_put (cs := #[.string ((rd_T85 l0_0 x10_1).f0), .int .i64 ((rd_T85 l0_0 x10_1).f1), .int .i64 ((rd_T85 l0_0 x10_1).f2), .int .i64 ((rd_T85 l0_0 x10_1).f3), .int .i64 0, .slice none 0 0, .int .i64 0, .int .i64 0, .slice none 0 0, .slice none 0 0, .slice none 0 0]) ?_ 4 _ rfl; (with_reducible repeat (first | refine blk_drewN ?_ _ | refine blk_drew ?_ | refine blk_alloc ?_ _)); refine blk_put (cs := #[.string ((rd_T85 l0_0 x10_1).f0), .int .i64 ((rd_T85 l0_0 x10_1).f1), .int .i64 ((rd_T85 l0_0 x10_1).f2), .int .i64 0, .int .i64 0, .slice none 0 0, .int .i64 0, .int .i64 0, .slice none 0 0, .slice none 0 0, .slice none 0 0]) ?_ 3 _ rfl; (with_reducible repeat (first | refine blk_drewN ?_ _ | refine blk_drew ?_ | refine blk_alloc ?_ _)); refine blk_put (cs := #[.string ((rd_T85 l0_0 x10_1).f0), .int .i64 ((rd_T85 l0_0 x10_1).f1), .int .i64 0, .int .i64 0, .int .i64 0, .slice none 0 0, .int .i64 0, .int .i64 0, .slice none 0 0, .slice none 0 0, .slice none 0 0]) ?_ 2 _ rfl; (with_reducible repeat (first | refine blk_drewN ?_ _ | refine blk_drew ?_ | refine blk_alloc ?_ _)); refine blk_put (cs := #[.string ((rd_T85 l0_0 x10_1).f0), .int .i64 0, .int .i64 0, .int .i64 0, .int .i64 0, .slice none 0 0, .int .i64 0, .int .i64 0, .slice none 0 0, .slice none 0 0, .slice none 0 0]) ?_ 1 _ rfl; (with_reducible repeat (first | refine blk_drewN ?_ _ | refine blk_drew ?_ | refine blk_alloc ?_ _)); refine blk_put (cs := #[.string (⟨#[]⟩ : ByteArray), .int .i64 0, .int .i64 0, .int .i64 0, .int .i64 0, .slice none 0 0, .int .i64 0, .int .i64 0, .slice none 0 0, .slice none 0 0, .slice none 0 0]) ?_ 0 _ rfl; (with_reducible repeat (first | refine blk_drewN ?_ _ | refine blk_drew ?_ | refine blk_alloc ?_ _)); exact BK253.out⟩
                have n2_ : Aside0 (Below w.heap.size w (((((((((((w8.setCell ⟨gb253, 0, none⟩ (.string ((rd_T85 l0_0 x10_1).f0))).setCell ⟨gb253, 1, none⟩ (.int .i64 ((rd_T85 l0_0 x10_1).f1))).setCell ⟨gb253, 2, none⟩ (.int .i64 ((rd_T85 l0_0 x10_1).f2))).setCell ⟨gb253, 3, none⟩ (.int .i64 ((rd_T85 l0_0 x10_1).f3))).setCell ⟨gb253, 4, none⟩ (.int .i64 ((rd_T85 l0_0 x10_1).f4))).setCell ⟨gb253, 5, none⟩ (.slice A252_5 ((rd_T85 l0_0 x10_1).f5).length c252_5)).setCell ⟨gb253, 6, none⟩ (.int .i64 ((rd_T85 l0_0 x10_1).f6.f0))).setCell ⟨gb253, 7, none⟩ (.int .i64 ((rd_T85 l0_0 x10_1).f6.f1))).setCell ⟨gb253, 8, none⟩ (.slice A252_8 ((rd_T85 l0_0 x10_1).f6.f2).length c252_8)).setCell ⟨gb253, 9, none⟩ (.slice A252_9 ((rd_T85 l0_0 x10_1).f6.f3).length c252_9)).setCell ⟨gb253, 10, none⟩ (.slice A252_10 ((rd_T85 l0_0 x10_1).f7).length c252_10))) := ⟨bl_⟩
                (try clear BK251)
                (try clear BK253)
                (try clear HB)
                generalize (((((((((((w8.setCell ⟨gb253, 0, none⟩ (.string ((rd_T85 l0_0 x10_1).f0))).setCell ⟨gb253, 1, none⟩ (.int .i64 ((rd_T85 l0_0 x10_1).f1))).setCell ⟨gb253, 2, none⟩ (.int .i64 ((rd_T85 l0_0 x10_1).f2))).setCell ⟨gb253, 3, none⟩ (.int .i64 ((rd_T85 l0_0 x10_1).f3))).setCell ⟨gb253, 4, none⟩ (.int .i64 ((rd_T85 l0_0 x10_1).f4))).setCell ⟨gb253, 5, none⟩ (.slice A252_5 ((rd_T85 l0_0 x10_1).f5).length c252_5)).setCell ⟨gb253, 6, none⟩ (.int .i64 ((rd_T85 l0_0 x10_1).f6.f0))).setCell ⟨gb253, 7, none⟩ (.int .i64 ((rd_T85 l0_0 x10_1).f6.f1))).setCell ⟨gb253, 8, none⟩ (.slice A252_8 ((rd_T85 l0_0 x10_1).f6.f2).length c252_8)).setCell ⟨gb253, 9, none⟩ (.slice A252_9 ((rd_T85 l0_0 x10_1).f6.f3).length c252_9)).setCell ⟨gb253, 10, none⟩ (.slice A252_10 ((rd_T85 l0_0 x10_1).f7).length c252_10)) = w12 at n0_ n1_ n2_ ⊢
                have BK251 := n0_
                have BK253 := n1_
                have HB := n2_
                clear n0_ n1_ n2_
                have n0_ := Aside0.mk (blk_drew BK251.out)
                have n1_ := Aside0.mk (blk_drew BK253.out)
                have n2_ := Aside0.mk (below_drew1 HB.out)
                clear BK251
                clear BK253
                clear HB
                have BK251 := n0_
                have BK253 := n1_
                have HB := n2_
                clear n0_ n1_ n2_
                refine start_ (n := 19) (S := fun w' => w'.cell? ⟨gb253, 0, none⟩ = some (.string ((rd_T85 l0_0 x10_1).f0)) ∧ w'.cell? ⟨gb253, 1, none⟩ = some (.int .i64 ((rd_T85 l0_0 x10_1).f1)) ∧ w'.cell? ⟨gb253, 2, none⟩ = some (.int .i64 ((rd_T85 l0_0 x10_1).f2)) ∧ w'.cell? ⟨gb253, 3, none⟩ = some (.int .i64 ((rd_T85 l0_0 x10_1).f3)) ∧ w'.cell? ⟨gb253, 4, none⟩ = some (.int .i64 ((rd_T85 l0_0 x10_1).f4)) ∧ w'.cell? ⟨gb253, 5, none⟩ = some (.slice A252_5 ((rd_T85 l0_0 x10_1).f5).length c252_5) ∧ w'.cell? ⟨gb253, 6, none⟩ = some (.int .i64 ((rd_T85 l0_0 x10_1).f6.f0)) ∧ w'.cell? ⟨gb253, 7, none⟩ = some (.int .i64 ((rd_T85 l0_0 x10_1).f6.f1)) ∧ w'.cell? ⟨gb253, 8, none⟩ = some (.slice A252_8 ((rd_T85 l0_0 x10_1).f6.f2).length c252_8) ∧ w'.cell? ⟨gb253, 9, none⟩ = some (.slice A252_9 ((rd_T85 l0_0 x10_1).f6.f3).length c252_9) ∧ w'.cell? ⟨gb253, 10, none⟩ = some (.slice A252_10 ((rd_T85 l0_0 x10_1).f7).length c252_10)) (ds := []) #[false, false, false, false, false, false, false, false, false, false, false, false, false, false, false, false, false, false, false] (by kernel_rfl) rfl rfl ⟨(blk_cell BK253.out 0).trans rfl, (blk_cell BK253.out 1).trans rfl, (blk_cell BK253.out 2).trans rfl, (blk_cell BK253.out 3).trans rfl, (blk_cell BK253.out 4).trans rfl, (blk_cell BK253.out 5).trans rfl, (blk_cell BK253.out 6).trans rfl, (blk_cell BK253.out 7).trans rfl, (blk_cell BK253.out 8).trans rfl, (blk_cell BK253.out 9).trans rfl, (blk_cell BK253.out 10).trans rfl⟩ (fun hHeld => ?_); refine with_tabW spec_Sound.tab4 spec_Sound.bits4 (fun HT_ HW_ => ?_)
                generalize w12.drew = w13 at BK251 BK253 HB hHeld ⊢
                refine pure_ (i := 0) (N := some 14) (v := ?_) (a' := ?_) #[true, false, false, false, false, false, false, false, false, false, false, false, false, false, false, false, false, false, false] rfl rfl (any_of HT_.out (by kernel_rfl)) (fun _ _ _ h => h) (Or.inl ⟨by rfl, ?_⟩) ?_ ?_
                rotate_left
                · intro w'
                  go_simp
                  with_reducible rfl
                rotate_left
                · simp only [Act.put, List.setIfInBounds_toArray, List.set_cons_zero, List.set_cons_succ, i64_w, i32_w]
                  rfl
                refine take_ (i := 1) (N := some 15) (v := ?_) (a' := ?_) #[true, true, false, false, false, false, false, false, false, false, false, false, false, false, false, false, false, false, false] rfl rfl (take_ofW HT_.out HW_.out (by kernel_rfl)) (fun _ _ _ h => h) (Or.inl ⟨by rfl, ?_⟩) hHeld ?_ ?_
                rotate_left
                · rintro w' ⟨s0, s1, s2, s3, s4, s5, s6, s7, s8, s9, s10⟩
                  go_simp
                  with_reducible rfl
                rotate_left
                · simp only [Act.put, List.setIfInBounds_toArray, List.set_cons_zero, List.set_cons_succ, i64_w, i32_w]
                  rfl
                refine pure_ (i := 2) (N := some 16) (v := ?_) (a' := ?_) #[true, true, true, false, false, false, false, false, false, false, false, false, false, false, false, false, false, false, false] rfl rfl (any_of HT_.out (by kernel_rfl)) (fun _ _ _ h => h) (Or.inl ⟨by rfl, ?_⟩) ?_ ?_
                rotate_left
                · intro w'
                  go_simp
                  with_reducible rfl
                rotate_left
                · simp only [Act.put, List.setIfInBounds_toArray, List.set_cons_zero, List.set_cons_succ, i64_w, i32_w]
                  rfl
                refine pure_ (i := 3) (N := some 17) (v := ?_) (a' := ?_) #[true, true, true, true, false, false, false, false, false, false, false, false, false, false, false, false, false, false, false] rfl rfl (any_of HT_.out (by kernel_rfl)) (fun _ _ _ h => h) (Or.inl ⟨by rfl, ?_⟩) ?_ ?_
                rotate_left
                · intro w'
                  go_simp
                  with_reducible rfl
                rotate_left
                · simp only [Act.put, List.setIfInBounds_toArray, List.set_cons_zero, List.set_cons_succ, i64_w, i32_w]
                  rfl
                refine pure_ (i := 4) (N := some 18) (v := undef) (a' := ?_) #[true, true, true, true, true, false, false, false, false, false, false, false, false, false, false, false, false, false, false] rfl rfl (any_of HT_.out (by kernel_rfl)) (fun _ _ _ h => h) (Or.inr ⟨by rfl, rfl⟩) ?_ ?_
                rotate_left
                · simp only [Act.put, List.setIfInBounds_toArray, List.set_cons_zero, List.set_cons_succ, i64_w, i32_w]
                  rfl
                refine pure_ (i := 5) (N := some 19) (v := undef) (a' := ?_) #[true, true, true, true, true, true, false, false, false, false, false, false, false, false, false, false, false, false, false] rfl rfl (any_of HT_.out (by kernel_rfl)) (fun _ _ _ h => h) (Or.inr ⟨by rfl, rfl⟩) ?_ ?_
                rotate_left
                · simp only [Act.put, List.setIfInBounds_toArray, List.set_cons_zero, List.set_cons_succ, i64_w, i32_w]
                  rfl
                refine pure_ (i := 6) (N := some 20) (v := undef) (a' := ?_) #[true, true, true, true, true, true, true, false, false, false, false, false, false, false, false, false, false, false, false] rfl rfl (any_of HT_.out (by kernel_rfl)) (fun _ _ _ h => h) (Or.inr ⟨by rfl, rfl⟩) ?_ ?_
                rotate_left
                · simp only [Act.put, List.setIfInBounds_toArray, List.set_cons_zero, List.set_cons_succ, i64_w, i32_w]
                  rfl
                refine pure_ (i := 7) (N := some 21) (v := ?_) (a' := ?_) #[true, true, true, true, true, true, true, true, false, false, false, false, false, false, false, false, false, false, false] rfl rfl (any_of HT_.out (by kernel_rfl)) (fun _ _ _ h => h) (Or.inl ⟨by rfl, ?_⟩) ?_ ?_
                rotate_left
                · intro w'
                  go_simp
                  with_reducible rfl
                rotate_left
                · simp only [Act.put, List.setIfInBounds_toArray, List.set_cons_zero, List.set_cons_succ, i64_w, i32_w]
                  rfl
                refine pure_ (i := 8) (N := some 22) (v := ?_) (a' := ?_) #[true, true, true, true, true, true, true, true, true, false, false, false, false, false, false, false, false, false, false] rfl rfl (any_of HT_.out (by kernel_rfl)) (fun _ _ _ h => h) (Or.inl ⟨by rfl, ?_⟩) ?_ ?_
                rotate_left
                · intro w'
                  go_simp
                  with_reducible rfl
                rotate_left
                · simp only [Act.put, List.setIfInBounds_toArray, List.set_cons_zero, List.set_cons_succ, i64_w, i32_w]
                  rfl
                refine pure_ (i := 9) (N := some 23) (v := undef) (a' := ?_) #[true, true, true, true, true, true, true, true, true, true, false, false, false, false, false, false, false, false, false] rfl rfl (any_of HT_.out (by kernel_rfl)) (fun _ _ _ h => h) (Or.inr ⟨by rfl, rfl⟩) ?_ ?_
                rotate_left
                · simp only [Act.put, List.setIfInBounds_toArray, List.set_cons_zero, List.set_cons_succ, i64_w, i32_w]
                  rfl
                refine pure_ (i := 10) (N := some 24) (v := undef) (a' := ?_) #[true, true, true, true, true, true, true, true, true, true, true, false, false, false, false, false, false, false, false] rfl rfl (any_of HT_.out (by kernel_rfl)) (fun _ _ _ h => h) (Or.inr ⟨by rfl, rfl⟩) ?_ ?_
                rotate_left
                · simp only [Act.put, List.setIfInBounds_toArray, List.set_cons_zero, List.set_cons_succ, i64_w, i32_w]
                  rfl
                refine pure_ (i := 11) (N := some 25) (v := undef) (a' := ?_) #[true, true, true, true, true, true, true, true, true, true, true, true, false, false, false, false, false, false, false] rfl rfl (any_of HT_.out (by kernel_rfl)) (fun _ _ _ h => h) (Or.inr ⟨by rfl, rfl⟩) ?_ ?_
                rotate_left
                · simp only [Act.put, List.setIfInBounds_toArray, List.set_cons_zero, List.set_cons_succ, i64_w, i32_w]
                  rfl
                refine pure_ (i := 12) (N := some 26) (v := undef) (a' := ?_) #[true, true, true, true, true, true, true, true, true, true, true, true, true, false, false, false, false, false, false] rfl rfl (any_of HT_.out (by kernel_rfl)) (fun _ _ _ h => h) (Or.inr ⟨by rfl, rfl⟩) ?_ ?_
                rotate_left
                · simp only [Act.put, List.setIfInBounds_toArray, List.set_cons_zero, List.set_cons_succ, i64_w, i32_w]
                  rfl
                refine pure_ (i := 13) (N := some 27) (v := undef) (a' := ?_) #[true, true, true, true, true, true, true, true, true, true, true, true, true, true, false, false, false, false, false] rfl rfl (any_of HT_.out (by kernel_rfl)) (fun _ _ _ h => h) (Or.inr ⟨by rfl, rfl⟩) ?_ ?_
                rotate_left
                · simp only [Act.put, List.setIfInBounds_toArray, List.set_cons_zero, List.set_cons_succ, i64_w, i32_w]
                  rfl
                refine pure_ (i := 14) (N := some 28) (v := undef) (a' := ?_) #[true, true, true, true, true, true, true, true, true, true, true, true, true, true, true, false, false, false, false] rfl rfl (any_of HT_.out (by kernel_rfl)) (fun _ _ _ h => h) (Or.inr ⟨by rfl, rfl⟩) ?_ ?_
                rotate_left
                · simp only [Act.put, List.setIfInBounds_toArray, List.set_cons_zero, List.set_cons_succ, i64_w, i32_w]
                  rfl
                refine pure_ (i := 15) (N := some 29) (v := undef) (a' := ?_) #[true, true, true, true, true, true, true, true, true, true, true, true, true, true, true, true, false, false, false] rfl rfl (any_of HT_.out (by kernel_rfl)) (fun _ _ _ h => h) (Or.inr ⟨by rfl, rfl⟩) ?_ ?_
                rotate_left
                · simp only [Act.put, List.setIfInBounds_toArray, List.set_cons_zero, List.set_cons_succ, i64_w, i32_w]
                  rfl
                refine pure_ (i := 16) (N := some 30) (v := undef) (a' := ?_) #[true, true, true, true, true, true, true, true, true, true, true, true, true, true, true, true, true, false, false] rfl rfl (any_of HT_.out (by kernel_rfl)) (fun _ _ _ h => h) (Or.inr ⟨by rfl, rfl⟩) ?_ ?_
                rotate_left
                · simp only [Act.put, List.setIfInBounds_toArray, List.set_cons_zero, List.set_cons_succ, i64_w, i32_w]
                  rfl
                refine pure_ (i := 17) (N := some 31) (v := undef) (a' := ?_) #[true, true, true, true, true, true, true, true, true, true, true, true, true, true, true, true, true, true, false] rfl rfl (any_of HT_.out (by kernel_rfl)) (fun _ _ _ h => h) (Or.inr ⟨by rfl, rfl⟩) ?_ ?_
                rotate_left
                · simp only [Act.put, List.setIfInBounds_toArray, List.set_cons_zero, List.set_cons_succ, i64_w, i32_w]
                  rfl
                refine pure_ (i := 18) (N := some 32) (v := ?_) (a' := ?_) #[true, true, true, true, true, true, true, true, true, true, true, true, true, true, true, true, true, true, true] rfl rfl (any_of HT_.out (by kernel_rfl)) (fun _ _ _ h => h) (Or.inl ⟨by rfl, ?_⟩) ?_ ?_
                rotate_left
                · intro w'
                  go_simp
                  with_reducible rfl
                rotate_left
                · simp only [Act.put, List.setIfInBounds_toArray, List.set_cons_zero, List.set_cons_succ, i64_w, i32_w]
                  rfl
                refine done_ (done_of HT_.out (by kernel_rfl)) ?_
                try go_wp2
                go_meet
                case rel => exact ⟨_, (true), sp_, H', ⟨by have := HK1.out; first | omega | exact Nat.le_refl _⟩, ⟨by (with_reducible repeat (first | refine blk_drewN ?_ _ | refine blk_drew ?_ | refine blk_alloc ?_ _)); exact BK251.out⟩, ⟨by (with_reducible repeat (first | refine blk_drewN ?_ _ | refine blk_drew ?_ | refine blk_alloc ?_ _)); exact BK253.out⟩, ⟨bl_⟩⟩
              · rw [if_neg c11] at H
                have c11b0 : decide (((rd_T85 l0_0 x10_1).f2) < 0) = false := decide_eq_false c11
                clear c11
                (first | rw [c11b0] | (simp only [i64_w, i32_w]; rw [c11b0]) | skip)
                by_cases c14 : ((rd_T85 l0_0 x10_1).f1) < 0
                · rw [if_pos c14] at H
                  have c14b0 : decide (((rd_T85 l0_0 x10_1).f1) < 0) = true := decide_eq_true c14
                  clear c14
                  have H' := Aside0.mk H
                  clear H
                  try go_wp2
                  have n0_ : Aside0 ((((((((((((w8.setCell ⟨gb253, 0, none⟩ (.string ((rd_T85 l0_0 x10_1).f0))).setCell ⟨gb253, 1, none⟩ (.int .i64 ((rd_T85 l0_0 x10_1).f1))).setCell ⟨gb253, 2, none⟩ (.int .i64 ((rd_T85 l0_0 x10_1).f2))).setCell ⟨gb253, 3, none⟩ (.int .i64 ((rd_T85 l0_0 x10_1).f3))).setCell ⟨gb253, 4, none⟩ (.int .i64 ((rd_T85 l0_0 x10_1).f4))).setCell ⟨gb253, 5, none⟩ (.slice A252_5 ((rd_T85 l0_0 x10_1).f5).length c252_5)).setCell ⟨gb253, 6, none⟩ (.int .i64 ((rd_T85 l0_0 x10_1).f6.f0))).setCell ⟨gb253, 7, none⟩ (.int .i64 ((rd_T85 l0_0 x10_1).f6.f1))).setCell ⟨gb253, 8, none⟩ (.slice A252_8 ((rd_T85 l0_0 x10_1).f6.f2).length c252_8)).setCell ⟨gb253, 9, none⟩ (.slice A252_9 ((rd_T85 l0_0 x10_1).f6.f3).length c252_9)).setCell ⟨gb253, 10, none⟩ (.slice A252_10 ((rd_T85 l0_0 x10_1).f7).length c252_10)).heap[gb251]? = some (.cells #[.slice (some ad252) l0_0.length c0_0] 72 (0, 0))) := ⟨by (with_reducible repeat (first | refine blk_drewN ?_ _ | refine blk_drew ?_ | refine blk_alloc ?_ _)); refine blk_far ?_ NB251_253.out _; (with_reducible repeat (first | refine blk_drewN ?_ _ | refine blk_drew ?_ | refine blk_alloc ?_ _)); refine blk_far ?_ NB251_253.out _; (with_reducible repeat (first | refine blk_drewN ?_ _ | refine blk_drew ?_ | refine blk_alloc ?_ _)); refine blk_far ?_ NB251_253.out _; (with_reducible repeat (first | refine blk_drewN ?_ _ | refine blk_drew ?_ | refine blk_alloc ?_ _)); refine blk_far ?_ NB251_253.out _; (with_reducible repeat (first | refine blk_drewN ?_ _ | refine blk_drew ?_ | refine blk_alloc ?_ _)); refine blk_far ?_ NB251_253.out _; (with_reducible repeat (first | refine blk_drewN ?_ _ | refine blk_drew ?_ | refine blk_alloc ?_ _)); refine blk_far ?_ NB251_253.out _; (with_reducible repeat (first | refine blk_drewN ?_ _ | refine blk_drew ?_ | refine blk_alloc ?_ _)); refine blk_far ?_ NB251_253.out _; (with_reducible repeat (first | refine blk_drewN ?_ _ | refine blk_drew ?_ | refine blk_alloc ?_ _)); refine blk_far ?_ NB251_253.out _; (with_reducible repeat (first | refine blk_drewN ?_ _ | refine blk_drew ?_ | refine blk_alloc ?_ _)); refine blk_far ?_ NB251_253.out _; (with_reducible repeat (first | refine blk_drewN ?_ _ | refine blk_drew ?_ | refine blk_alloc ?_ _)); refine blk_far ?_ NB251_253.out _; (with_reducible repeat (first | refine blk_drewN ?_ _ | refine blk_drew ?_ | refine blk_alloc ?_ _)); refine blk_far ?_ NB251_253.out _; (with_reducible repeat (first | refine blk_drewN ?_ _ | refine blk_drew ?_ | refine blk_alloc ?_ _)); exact BK251.out⟩
                  have n1_ : Aside0 ((((((((((((w8.setCell ⟨gb253, 0, none⟩ (.string ((rd_T85 l0_0 x10_1).f0))).setCell ⟨gb253, 1, none⟩ (.int .i64 ((rd_T85 l0_0 x10_1).f1))).setCell ⟨gb253, 2, none⟩ (.int .i64 ((rd_T85 l0_0 x10_1).f2))).setCell ⟨gb253, 3, none⟩ (.int .i64 ((rd_T85 l0_0 x10_1).f3))).setCell ⟨gb253, 4, none⟩ (.int .i64 ((rd_T85 l0_0 x10_1).f4))).setCell ⟨gb253, 5, none⟩ (.slice A252_5 ((rd_T85 l0_0 x10_1).f5).length c252_5)).setCell ⟨gb253, 6, none⟩ (.int .i64 ((rd_T85 l0_0 x10_1).f6.f0))).setCell ⟨gb253, 7, none⟩ (.int .i64 ((rd_T85 l0_0 x10_1).f6.f1))).setCell ⟨gb253, 8, none⟩ (.slice A252_8 ((rd_T85 l0_0 x10_1).f6.f2).length c252_8)).setCell ⟨gb253, 9, none⟩ (.slice A252_9 ((rd_T85 l0_0 x10_1).f6.f3).length c252_9)).setCell ⟨gb253, 10, none⟩ (.slice A252_10 ((rd_T85 l0_0 x10_1).f7).length c252_10)).heap[gb253]? = some (.cells #[.string ((rd_T85 l0_0 x10_1).f0), .int .i64 ((rd_T85 l0_0 x10_1).f1), .int .i64 ((rd_T85 l0_0 x10_1).f2), .int .i64 ((rd_T85 l0_0 x10_1).f3), .int .i64 ((rd_T85 l0_0 x10_1).f4), .slice A252_5 ((rd_T85 l0_0 x10_1).f5).length c252_5, .int .i64 ((rd_T85 l0_0 x10_1).f6.f0), .int .i64 ((rd_T85 l0_0 x10_1).f6.f1), .slice A252_8 ((rd_T85 l0_0 x10_1).f6.f2).length c252_8, .slice A252_9 ((rd_T85 l0_0 x10_1).f6.f3).length c252_9, .slice A252_10 ((rd_T85 l0_0 x10_1).f7).length c252_10] 85 (0, 0))) := ⟨by (with_reducible repeat (first | refine blk_drewN ?_ _ | refine blk_drew ?_ | refine blk_alloc ?_ _)); refine blk_put (cs := #[.string ((rd_T85 l0_0 x10_1).f0), .int .i64 ((rd_T85 l0_0 x10_1).f1), .int .i64 ((rd_T85 l0_0 x10_1).f2), .int .i64 ((rd_T85 l0_0 x10_1).f3), .int .i64 ((rd_T85 l0_0 x10_1).f4), .slice A252_5 ((rd_T85 l0_0 x10_1).f5).length c252_5, .int .i64 ((rd_T85 l0_0 x10_1).f6.f0), .int .i64 ((rd_T85 l0_0 x10_1).f6.f1), .slice A252_8 ((rd_T85 l0_0 x10_1).f6.f2).length c252_8, .slice A252_9 ((rd_T85 l0_0 x10_1).f6.f3).length c252_9, .slice none 0 0]) ?_ 10 _ rfl; (with_reducible repeat (first | refine blk_drewN ?_ _ | refine blk_drew ?_ | refine blk_alloc ?_ _)); refine blk_put (cs := #[.string ((rd_T85 l0_0 x10_1).f0), .int .i64 ((rd_T85 l0_0 x10_1).f1), .int .i64 ((rd_T85 l0_0 x10_1).f2), .int .i64 ((rd_T85 l0_0 x10_1).f3), .int .i64 ((rd_T85 l0_0 x10_1).f4), .slice A252_5 ((rd_T85 l0_0 x10_1).f5).length c252_5, .int .i64 ((rd_T85 l0_0 x10_1).f6.f0), .int .i64 ((rd_T85 l0_0 x10_1).f6.f1), .slice A252_8 ((rd_T85 l0_0 x10_1).f6.f2).length c252_8, .slice none 0 0, .slice none 0 0]) ?_ 9 _ rfl; (with_reducible repeat (first | refine blk_drewN ?_ _ | refine blk_drew ?_ | refine blk_alloc ?_ _)); refine blk_put (cs := #[.string ((rd_T85 l0_0 x10_1).f0), .int .i64 ((rd_T85 l0_0 x10_1).f1), .int .i64 ((rd_T85 l0_0 x10_1).f2), .int .i64 ((rd_T85 l0_0 x10_1).f3), .int .i64 ((rd_T85 l0_0 x10_1).f4), .slice A252_5 ((rd_T85 l0_0 x10_1).f5).length c252_5, .int .i64 ((rd_T85 l0_0 x10_1).f6.f0), .int .i64 ((rd_T85 l0_0 x10_1).f6.f1), .slice none 0 0, .slice none 0 0, .slice none 0 0]) ?_ 8 _ rfl; (with_reducible repeat (first | refine blk_drewN ?_ _ | refine blk_drew ?_ | refine blk_alloc ?_ _)); refine blk_put (cs := #[.string ((rd_T85 l0_0 x10_1).f0), .int .i64 ((rd_T85 l0_0 x10_1).f1), .int .i64 ((rd_T85 l0_0 x10_1).f2), .int .i64 ((rd_T85 l0_0 x10_1).f3), .int .i64 ((rd_T85 l0_0 x10_1).f4), .slice A252_5 ((rd_T85 l0_0 x10_1).f5).length c252_5, .int .i64 ((rd_T85 l0_0 x10_1).f6.f0), .int .i64 0, .slice none 0 0, .slice none 0 0, .slice none 0 0]) ?_ 7 _ rfl; (with_reducible repeat (first | refine blk_drewN ?_ _ | refine blk_drew ?_ | refine blk_alloc ?_ _)); refine blk_put (cs := #[.string ((rd_T85 l0_0 x10_1).f0), .int .i64 ((rd_T85 l0_0 x10_1).f1), .int .i64 ((rd_T85 l0_0 x10_1).f2), .int .i64 ((rd_T85 l0_0 x10_1).f3), .int .i64 ((rd_T85 l0_0 x10_1).f4), .slice A252_5 ((rd_T85 l0_0 x10_1).f5).length c252_5, .int .i64 0, .int .i64 0, .slice none 0 0, .slice none 0 0, .slice none 0 0]) ?_ 6 _ rfl; (with_reducible repeat (first | refine blk_drewN ?_ _ | refine blk_drew ?_ | refine blk_alloc ?_ _)); refine blk_put (cs := #[.string ((rd_T85 l0_0 x10_1).f0), .int .i64 ((rd_T85 l0_0 x10_1).f1), .int .i64 ((rd_T85 l0_0 x10_1).f2), .int .i64 ((rd_T85 l0_0 x10_1).f3), .int .i64 ((rd_T85 l0_0 x10_1).f4), .slice none 0 0, .int .i64 0, .int .i64 0, .slice none 0 0, .slice none 0 0, .slice none 0 0]) ?_ 5 _ rfl; (with_reducible repeat (first | refine blk_drewN ?_ _ | refine blk_drew ?_ | refine blk_alloc ?_ _)); refine blk_put (cs := #[.string ((rd_T85 l0_0 x10_1).f0), .int .i64 ((rd_T85 l0_0 x10_1).f1), .int .i64 ((rd_T85 l0_0 x10_1).f2), .int .i64 ((rd_T85 l0_0 x10_1).f3), .int .i64 0, .slice none 0 0, .int .i64 0, .int .i64 0, .slice none 0 0, .slice none 0 0, .slice none 0 0]) ?_ 4 _ rfl; (with_reducible repeat (first | refine blk_drewN ?_ _ | refine blk_drew ?_ | refine blk_alloc ?_ _)); refine blk_put (cs := #[.string ((rd_T85 l0_0 x10_1).f0), .int .i64 ((rd_T85 l0_0 x10_1).f1), .int .i64 ((rd_T85 l0_0 x10_1).f2), .int .i64 0, .int .i64 0, .slice none 0 0, .int .i64 0, .int .i64 0, .slice none 0 0, .slice none 0 0, .slice none 0 0]) ?_ 3 _ rfl; (with_reducible repeat (first | refine blk_drewN ?_ _ | refine blk_drew ?_ | refine blk_alloc ?_ _)); refine blk_put (cs := #[.string ((rd_T85 l0_0 x10_1).f0), .int .i64 ((rd_T85 l0_0 x10_1).f1), .int .i64 0, .int .i64 0, .int .i64 0, .slice none 0 0, .int .i64 0, .int .i64 0, .slice none 0 0, .slice none 0 0, .slice none 0 0]) ?_ 2 _ rfl; (with_reducible repeat (first | refine blk_drewN ?_ _ | refine blk_drew ?_ | refine blk_alloc ?_ _)); refine blk_put (cs := #[.string ((rd_T85 l0_0 x10_1).f0), .int .i64 0, .int .i64 0, .int .i64 0, .int .i64 0, .slice none 0 0, .int .i64 0, .int .i64 0, .slice none 0 0, .slice none 0 0, .slice none 0 0]) ?_ 1 _ rfl; (with_reducible repeat (first | refine blk_drewN ?_ _ | refine blk_drew ?_ | refine blk_alloc ?_ _)); refine blk_put (cs := #[.string (⟨#[]⟩ : ByteArray), .int .i64 0, .int .i64 0, .int .i64 0, .int .i64 0, .slice none 0 0, .int .i64 0, .int .i64 0, .slice none 0 0, .slice none 0 0, .slice none 0 0]) ?_ 0 _ rfl; (with_reducible repeat (first | refine blk_drewN ?_ _ | refine blk_drew ?_ | refine blk_alloc ?_ _)); exact BK253.out⟩
                  have n2_ : Aside0 (Below w.heap.size w (((((((((((w8.setCell ⟨gb253, 0, none⟩ (.string ((rd_T85 l0_0 x10_1).f0))).setCell ⟨gb253, 1, none⟩ (.int .i64 ((rd_T85 l0_0 x10_1).f1))).setCell ⟨gb253, 2, none⟩ (.int .i64 ((rd_T85 l0_0 x10_1).f2))).setCell ⟨gb253, 3, none⟩ (.int .i64 ((rd_T85 l0_0 x10_1).f3))).setCell ⟨gb253, 4, none⟩ (.int .i64 ((rd_T85 l0_0 x10_1).f4))).setCell ⟨gb253, 5, none⟩ (.slice A252_5 ((rd_T85 l0_0 x10_1).f5).length c252_5)).setCell ⟨gb253, 6, none⟩ (.int .i64 ((rd_T85 l0_0 x10_1).f6.f0))).setCell ⟨gb253, 7, none⟩ (.int .i64 ((rd_T85 l0_0 x10_1).f6.f1))).setCell ⟨gb253, 8, none⟩ (.slice A252_8 ((rd_T85 l0_0 x10_1).f6.f2).length c252_8)).setCell ⟨gb253, 9, none⟩ (.slice A252_9 ((rd_T85 l0_0 x10_1).f6.f3).length c252_9)).setCell ⟨gb253, 10, none⟩ (.slice A252_10 ((rd_T85 l0_0 x10_1).f7).length c252_10))) := ⟨bl_⟩
                  (try clear BK251)
                  (try clear BK253)
                  (try clear HB)
                  generalize (((((((((((w8.setCell ⟨gb253, 0, none⟩ (.string ((rd_T85 l0_0 x10_1).f0))).setCell ⟨gb253, 1, none⟩ (.int .i64 ((rd_T85 l0_0 x10_1).f1))).setCell ⟨gb253, 2, none⟩ (.int .i64 ((rd_T85 l0_0 x10_1).f2))).setCell ⟨gb253, 3, none⟩ (.int .i64 ((rd_T85 l0_0 x10_1).f3))).setCell ⟨gb253, 4, none⟩ (.int .i64 ((rd_T85 l0_0 x10_1).f4))).setCell ⟨gb253, 5, none⟩ (.slice A252_5 ((rd_T85 l0_0 x10_1).f5).length c252_5)).setCell ⟨gb253, 6, none⟩ (.int .i64 ((rd_T85 l0_0 x10_1).f6.f0))).setCell ⟨gb253, 7, none⟩ (.int .i64 ((rd_T85 l0_0 x10_1).f6.f1))).setCell ⟨gb253, 8, none⟩ (.slice A252_8 ((rd_T85 l0_0 x10_1).f6.f2).length c252_8)).setCell ⟨gb253, 9, none⟩ (.slice A252_9 ((rd_T85 l0_0 x10_1).f6.f3).length c252_9)).setCell ⟨gb253, 10, none⟩ (.slice A252_10 ((rd_T85 l0_0 x10_1).f7).length c252_10)) = w15 at n0_ n1_ n2_ ⊢
                  have BK251 := n0_
                  have BK253 := n1_
                  have HB := n2_
                  clear n0_ n1_ n2_
                  have n0_ := Aside0.mk (blk_drew BK251.out)
                  have n1_ := Aside0.mk (blk_drew BK253.out)
                  have n2_ := Aside0.mk (below_drew1 HB.out)
                  clear BK251
                  clear BK253
                  clear HB
                  have BK251 := n0_
                  have BK253 := n1_
                  have HB := n2_
                  clear n0_ n1_ n2_
                  refine start_ (n := 19) (S := fun w' => w'.cell? ⟨gb253, 0, none⟩ = some (.string ((rd_T85 l0_0 x10_1).f0)) ∧ w'.cell? ⟨gb253, 1, none⟩ = some (.int .i64 ((rd_T85 l0_0 x10_1).f1)) ∧ w'.cell? ⟨gb253, 2, none⟩ = some (.int .i64 ((rd_T85 l0_0 x10_1).f2)) ∧ w'.cell? ⟨gb253, 3, none⟩ = some (.int .i64 ((rd_T85 l0_0 x10_1).f3)) ∧ w'.cell? ⟨gb253, 4, none⟩ = some (.int .i64 ((rd_T85 l0_0 x10_1).f4)) ∧ w'.cell? ⟨gb253, 5, none⟩ = some (.slice A252_5 ((rd_T85 l0_0 x10_1).f5).length c252_5) ∧ w'.cell? ⟨gb253, 6, none⟩ = some (.int .i64 ((rd_T85 l0_0 x10_1).f6.f0)) ∧ w'.cell? ⟨gb253, 7, none⟩ = some (.int .i64 ((rd_T85 l0_0 x10_1).f6.f1)) ∧ w'.cell? ⟨gb253, 8, none⟩ = some (.slice A252_8 ((rd_T85 l0_0 x10_1).f6.f2).length c252_8) ∧ w'.cell? ⟨gb253, 9, none⟩ = some (.slice A252_9 ((rd_T85 l0_0 x10_1).f6.f3).length c252_9) ∧ w'.cell? ⟨gb253, 10, none⟩ = some (.slice A252_10 ((rd_T85 l0_0 x10_1).f7).length c252_10)) (ds := []) #[false, false, false, false, false, false, false, false, false, false, false, false, false, false, false, false, false, false, false] (by kernel_rfl) rfl rfl ⟨(blk_cell BK253.out 0).trans rfl, (blk_cell BK253.out 1).trans rfl, (blk_cell BK253.out 2).trans rfl, (blk_cell BK253.out 3).trans rfl, (blk_cell BK253.out 4).trans rfl, (blk_cell BK253.out 5).trans rfl, (blk_cell BK253.out 6).trans rfl, (blk_cell BK253.out 7).trans rfl, (blk_cell BK253.out 8).trans rfl, (blk_cell BK253.out 9).trans rfl, (blk_cell BK253.out 10).trans rfl⟩ (fun hHeld => ?_); refine with_tabW spec_Sound.tab4 spec_Sound.bits4 (fun HT_ HW_ => ?_)
                  generalize w15.drew = w16 at BK251 BK253 HB hHeld ⊢
                  refine pure_ (i := 0) (N := some 14) (v := ?_) (a' := ?_) #[true, false, false, false, false, false, false, false, false, false, false, false, false, false, false, false, false, false, false] rfl rfl (any_of HT_.out (by kernel_rfl)) (fun _ _ _ h => h) (Or.inl ⟨by rfl, ?_⟩) ?_ ?_
                  rotate_left
                  · intro w'
                    go_simp
                    with_reducible rfl
                  rotate_left
                  · simp only [Act.put, List.setIfInBounds_toArray, List.set_cons_zero, List.set_cons_succ, i64_w, i32_w]
                    rfl
                  refine take_ (i := 1) (N := some 15) (v := ?_) (a' := ?_) #[true, true, false, false, false, false, false, false, false, false, false, false, false, false, false, false, false, false, false] rfl rfl (take_ofW HT_.out HW_.out (by kernel_rfl)) (fun _ _ _ h => h) (Or.inl ⟨by rfl, ?_⟩) hHeld ?_ ?_
                  rotate_left
                  · rintro w' ⟨s0, s1, s2, s3, s4, s5, s6, s7, s8, s9, s10⟩
                    go_simp
                    with_reducible rfl
                  rotate_left
                  · simp only [Act.put, List.setIfInBounds_toArray, List.set_cons_zero, List.set_cons_succ, i64_w, i32_w]
                    rfl
                  refine pure_ (i := 2) (N := some 16) (v := ?_) (a' := ?_) #[true, true, true, false, false, false, false, false, false, false, false, false, false, false, false, false, false, false, false] rfl rfl (any_of HT_.out (by kernel_rfl)) (fun _ _ _ h => h) (Or.inl ⟨by rfl, ?_⟩) ?_ ?_
                  rotate_left
                  · intro w'
                    go_simp
                    with_reducible rfl
                  rotate_left
                  · simp only [Act.put, List.setIfInBounds_toArray, List.set_cons_zero, List.set_cons_succ, i64_w, i32_w]
                    rfl
                  refine pure_ (i := 3) (N := some 17) (v := ?_) (a' := ?_) #[true, true, true, true, false, false, false, false, false, false, false, false, false, false, false, false, false, false, false] rfl rfl (any_of HT_.out (by kernel_rfl)) (fun _ _ _ h => h) (Or.inl ⟨by rfl, ?_⟩) ?_ ?_
                  rotate_left
                  · intro w'
                    go_simp
                    with_reducible rfl
                  rotate_left
                  · simp only [Act.put, List.setIfInBounds_toArray, List.set_cons_zero, List.set_cons_succ, i64_w, i32_w]
                    rfl
                  refine pure_ (i := 4) (N := some 18) (v := ?_) (a' := ?_) #[true, true, true, true, true, false, false, false, false, false, false, false, false, false, false, false, false, false, false] rfl rfl (any_of HT_.out (by kernel_rfl)) (fun _ _ _ h => h) (Or.inl ⟨by rfl, ?_⟩) ?_ ?_
                  rotate_left
                  · intro w'
                    go_simp
                    with_reducible rfl
                  rotate_left
                  · simp only [Act.put, List.setIfInBounds_toArray, List.set_cons_zero, List.set_cons_succ, i64_w, i32_w]
                    rfl
                  refine take_ (i := 5) (N := some 19) (v := ?_) (a' := ?_) #[true, true, true, true, true, true, false, false, false, false, false, false, false, false, false, false, false, false, false] rfl rfl (take_ofW HT_.out HW_.out (by kernel_rfl)) (fun _ _ _ h => h) (Or.inl ⟨by rfl, ?_⟩) hHeld ?_ ?_
                  rotate_left
                  · rintro w' ⟨s0, s1, s2, s3, s4, s5, s6, s7, s8, s9, s10⟩
                    go_simp
                    with_reducible rfl
                  rotate_left
                  · simp only [Act.put, List.setIfInBounds_toArray, List.set_cons_zero, List.set_cons_succ, i64_w, i32_w]
                    rfl
                  refine pure_ (i := 6) (N := some 20) (v := ?_) (a' := ?_) #[true, true, true, true, true, true, true, false, false, false, false, false, false, false, false, false, false, false, false] rfl rfl (any_of HT_.out (by kernel_rfl)) (fun _ _ _ h => h) (Or.inl ⟨by rfl, ?_⟩) ?_ ?_
                  rotate_left
                  · intro w'
                    go_simp
                    with_reducible rfl
                  rotate_left
                  · simp only [Act.put, List.setIfInBounds_toArray, List.set_cons_zero, List.set_cons_succ, i64_w, i32_w]
                    rfl
                  refine pure_ (i := 7) (N := some 21) (v := ?_) (a' := ?_) #[true, true, true, true, true, true, true, true, false, false, false, false, false, false, false, false, false, false, false] rfl rfl (any_of HT_.out (by kernel_rfl)) (fun _ _ _ h => h) (Or.inl ⟨by rfl, ?_⟩) ?_ ?_
                  rotate_left
                  · intro w'
                    go_simp
                    with_reducible rfl
                  rotate_left
                  · simp only [Act.put, List.setIfInBounds_toArray, List.set_cons_zero, List.set_cons_succ, i64_w, i32_w]
                    rfl
                  refine pure_ (i := 8) (N := some 22) (v := ?_) (a' := ?_) #[true, true, true, true, true, true, true, true, true, false, false, false, false, false, false, false, false, false, false] rfl rfl (any_of HT_.out (by kernel_rfl)) (fun _ _ _ h => h) (Or.inl ⟨by rfl, ?_⟩) ?_ ?_
                  rotate_left
                  · intro w'
                    go_simp
                    with_reducible rfl
                  rotate_left
                  · simp only [Act.put, List.setIfInBounds_toArray, List.set_cons_zero, List.set_cons_succ, i64_w, i32_w]
                    rfl
                  refine pure_ (i := 9) (N := some 23) (v := undef) (a' := ?_) #[true, true, true, true, true, true, true, true, true, true, false, false, false, false, false, false, false, false, false] rfl rfl (any_of HT_.out (by kernel_rfl)) (fun _ _ _ h => h) (Or.inr ⟨by rfl, rfl⟩) ?_ ?_
                  rotate_left
                  · simp only [Act.put, List.setIfInBounds_toArray, List.set_cons_zero, List.set_cons_succ, i64_w, i32_w]
                    rfl
                  refine pure_ (i := 10) (N := some 24) (v := undef) (a' := ?_) #[true, true, true, true, true, true, true, true, true, true, true, false, false, false, false, false, false, false, false] rfl rfl (any_of HT_.out (by kernel_rfl)) (fun _ _ _ h => h) (Or.inr ⟨by rfl, rfl⟩) ?_ ?_
                  rotate_left
                  · simp only [Act.put, List.setIfInBounds_toArray, List.set_cons_zero, List.set_cons_succ, i64_w, i32_w]
                    rfl
                  refine pure_ (i := 11) (N := some 25) (v := undef) (a' := ?_) #[true, true, true, true, true, true, true, true, true, true, true, true, false, false, false, false, false, false, false] rfl rfl (any_of HT_.out (by kernel_rfl)) (fun _ _ _ h => h) (Or.inr ⟨by rfl, rfl⟩) ?_ ?_
                  rotate_left
                  · simp only [Act.put, List.setIfInBounds_toArray, List.set_cons_zero, List.set_cons_succ, i64_w, i32_w]
                    rfl
                  refine pure_ (i := 12) (N := some 26) (v := undef) (a' := ?_) #[true, true, true, true, true, true, true, true, true, true, true, true, true, false, false, false, false, false, false] rfl rfl (any_of HT_.out (by kernel_rfl)) (fun _ _ _ h => h) (Or.inr ⟨by rfl, rfl⟩) ?_ ?_
                  rotate_left
                  · simp only [Act.put, List.setIfInBounds_toArray, List.set_cons_zero, List.set_cons_succ, i64_w, i32_w]
                    rfl
                  refine pure_ (i := 13) (N := some 27) (v := undef) (a' := ?_) #[true, true, true, true, true, true, true, true, true, true, true, true, true, true, false, false, false, false, false] rfl rfl (any_of HT_.out (by kernel_rfl)) (fun _ _ _ h => h) (Or.inr ⟨by rfl, rfl⟩) ?_ ?_
                  rotate_left
                  · simp only [Act.put, List.setIfInBounds_toArray, List.set_cons_zero, List.set_cons_succ, i64_w, i32_w]
                    rfl
                  refine pure_ (i := 14) (N := some 28) (v := undef) (a' := ?_) #[true, true, true, true, true, true, true, true, true, true, true, true, true, true, true, false, false, false, false] rfl rfl (any_of HT_.out (by kernel_rfl)) (fun _ _ _ h => h) (Or.inr ⟨by rfl, rfl⟩) ?_ ?_
                  rotate_left
                  · simp only [Act.put, List.setIfInBounds_toArray, List.set_cons_zero, List.set_cons_succ, i64_w, i32_w]
                    rfl
                  refine pure_ (i := 15) (N := some 29) (v := undef) (a' := ?_) #[true, true, true, true, true, true, true, true, true, true, true, true, true, true, true, true, false, false, false] rfl rfl (any_of HT_.out (by kernel_rfl)) (fun _ _ _ h => h) (Or.inr ⟨by rfl, rfl⟩) ?_ ?_
                  rotate_left
                  · simp only [Act.put, List.setIfInBounds_toArray, List.set_cons_zero, List.set_cons_succ, i64_w, i32_w]
                    rfl
                  refine pure_ (i := 16) (N := some 30) (v := undef) (a' := ?_) #[true, true, true, true, true, true, true, true, true, true, true, true, true, true, true, true, true, false, false] rfl rfl (any_of HT_.out (by kernel_rfl)) (fun _ _ _ h => h) (Or.inr ⟨by rfl, rfl⟩) ?_ ?_
                  rotate_left
                  · simp only [Act.put, List.setIfInBounds_toArray, List.set_cons_zero, List.set_cons_succ, i64_w, i32_w]
                    rfl
                  refine pure_ (i := 17) (N := some 31) (v := undef) (a' := ?_) #[true, true, true, true, true, true, true, true, true, true, true, true, true, true, true, true, true, true, false] rfl rfl (any_of HT_.out (by kernel_rfl)) (fun _ _ _ h => h) (Or.inr ⟨by rfl, rfl⟩) ?_ ?_
                  rotate_left
                  · simp only [Act.put, List.setIfInBounds_toArray, List.set_cons_zero, List.set_cons_succ, i64_w, i32_w]
                    rfl
                  refine pure_ (i := 18) (N := some 32) (v := ?_) (a' := ?_) #[true, true, true, true, true, true, true, true, true, true, true, true, true, true, true, true, true, true, true] rfl rfl (any_of HT_.out (by kernel_rfl)) (fun _ _ _ h => h) (Or.inl ⟨by rfl, ?_⟩) ?_ ?_
                  rotate_left
                  · intro w'
                    go_simp
                    with_reducible rfl
                  rotate_left
                  · simp only [Act.put, List.setIfInBounds_toArray, List.set_cons_zero, List.set_cons_succ, i64_w, i32_w]
                    rfl
                  refine done_ (done_of HT_.out (by kernel_rfl)) ?_
                  try go_wp2
                  go_meet
                  case rel => exact ⟨_, (true), sp_, H', ⟨by have := HK1.out; first | omega | exact Nat.le_refl _⟩, ⟨by (with_reducible repeat (first | refine blk_drewN ?_ _ | refine blk_drew ?_ | refine blk_alloc ?_ _)); exact BK251.out⟩, ⟨by (with_reducible repeat (first | refine blk_drewN ?_ _ | refine blk_drew ?_ | refine blk_alloc ?_ _)); exact BK253.out⟩, ⟨bl_⟩⟩
                · rw [if_neg c14] at H
                  have c14b0 : decide (((rd_T85 l0_0 x10_1).f1) < 0) = false := decide_eq_false c14
                  clear c14
                  replace H := Option.bind_eq_some_iff.mp H
                  obtain ⟨t254, A170, H⟩ := H
                  replace H : ((spec_AddSat.f ((rd_T85 l0_0 x10_1).f2) t254).bind fun t255 => (spec_Sound.j1 k1 l0_0 (l0_0.length : Int) x10_1 (decide (t255 > ((rd_T85 l0_0 x10_1).f1))) ((rd_T85 l0_0 x10_1).f0) ((rd_T85 l0_0 x10_1).f1) ((rd_T85 l0_0 x10_1).f2) ((rd_T85 l0_0 x10_1).f3) ((rd_T85 l0_0 x10_1).f4) ((rd_T85 l0_0 x10_1).f5) ((rd_T85 l0_0 x10_1).f6.f0) ((rd_T85 l0_0 x10_1).f6.f1) ((rd_T85 l0_0 x10_1).f6.f2) ((rd_T85 l0_0 x10_1).f6.f3) ((rd_T85 l0_0 x10_1).f7))) = some r := H
                  have A17 := Aside0.mk A170
                  clear A170
                  replace H := Option.bind_eq_some_iff.mp H
                  obtain ⟨t255, A180, H⟩ := H
                  replace H : (spec_Sound.j1 k1 l0_0 (l0_0.length : Int) x10_1 (decide (t255 > ((rd_T85 l0_0 x10_1).f1))) ((rd_T85 l0_0 x10_1).f0) ((rd_T85 l0_0 x10_1).f1) ((rd_T85 l0_0 x10_1).f2) ((rd_T85 l0_0 x10_1).f3) ((rd_T85 l0_0 x10_1).f4) ((rd_T85 l0_0 x10_1).f5) ((rd_T85 l0_0 x10_1).f6.f0) ((rd_T85 l0_0 x10_1).f6.f1) ((rd_T85 l0_0 x10_1).f6.f2) ((rd_T85 l0_0 x10_1).f6.f3) ((rd_T85 l0_0 x10_1).f7)) = some r := H
                  have A18 := Aside0.mk A180
                  clear A180
                  have H' := Aside0.mk H
                  clear H
                  try go_wp2
                  have n0_ : Aside0 ((((((((((((w8.setCell ⟨gb253, 0, none⟩ (.string ((rd_T85 l0_0 x10_1).f0))).setCell ⟨gb253, 1, none⟩ (.int .i64 ((rd_T85 l0_0 x10_1).f1))).setCell ⟨gb253, 2, none⟩ (.int .i64 ((rd_T85 l0_0 x10_1).f2))).setCell ⟨gb253, 3, none⟩ (.int .i64 ((rd_T85 l0_0 x10_1).f3))).setCell ⟨gb253, 4, none⟩ (.int .i64 ((rd_T85 l0_0 x10_1).f4))).setCell ⟨gb253, 5, none⟩ (.slice A252_5 ((rd_T85 l0_0 x10_1).f5).length c252_5)).setCell ⟨gb253, 6, none⟩ (.int .i64 ((rd_T85 l0_0 x10_1).f6.f0))).setCell ⟨gb253, 7, none⟩ (.int .i64 ((rd_T85 l0_0 x10_1).f6.f1))).setCell ⟨gb253, 8, none⟩ (.slice A252_8 ((rd_T85 l0_0 x10_1).f6.f2).length c252_8)).setCell ⟨gb253, 9, none⟩ (.slice A252_9 ((rd_T85 l0_0 x10_1).f6.f3).length c252_9)).setCell ⟨gb253, 10, none⟩ (.slice A252_10 ((rd_T85 l0_0 x10_1).f7).length c252_10)).heap[gb251]? = some (.cells #[.slice (some ad252) l0_0.length c0_0] 72 (0, 0))) := ⟨by (with_reducible repeat (first | refine blk_drewN ?_ _ | refine blk_drew ?_ | refine blk_alloc ?_ _)); refine blk_far ?_ NB251_253.out _; (with_reducible repeat (first | refine blk_drewN ?_ _ | refine blk_drew ?_ | refine blk_alloc ?_ _)); refine blk_far ?_ NB251_253.out _; (with_reducible repeat (first | refine blk_drewN ?_ _ | refine blk_drew ?_ | refine blk_alloc ?_ _)); refine blk_far ?_ NB251_253.out _; (with_reducible repeat (first | refine blk_drewN ?_ _ | refine blk_drew ?_ | refine blk_alloc ?_ _)); refine blk_far ?_ NB251_253.out _; (with_reducible repeat (first | refine blk_drewN ?_ _ | refine blk_drew ?_ | refine blk_alloc ?_ _)); refine blk_far ?_ NB251_253.out _; (with_reducible repeat (first | refine blk_drewN ?_ _ | refine blk_drew ?_ | refine blk_alloc ?_ _)); refine blk_far ?_ NB251_253.out _; (with_reducible repeat (first | refine blk_drewN ?_ _ | refine blk_drew ?_ | refine blk_alloc ?_ _)); refine blk_far ?_ NB251_253.out _; (with_reducible repeat (first | refine blk_drewN ?_ _ | refine blk_drew ?_ | refine blk_alloc ?_ _)); refine blk_far ?_ NB251_253.out _; (with_reducible repeat (first | refine blk_drewN ?_ _ | refine blk_drew ?_ | refine blk_alloc ?_ _)); refine blk_far ?_ NB251_253.out _; (with_reducible repeat (first | refine blk_drewN ?_ _ | refine blk_drew ?_ | refine blk_alloc ?_ _)); refine blk_far ?_ NB251_253.out _; (with_reducible repeat (first | refine blk_drewN ?_ _ | refine blk_drew ?_ | refine blk_alloc ?_ _)); refine blk_far ?_ NB251_253.out _; (with_reducible repeat (first | refine blk_drewN ?_ _ | refine blk_drew ?_ | refine blk_alloc ?_ _)); exact BK251.out⟩
                  have n1_ : Aside0 ((((((((((((w8.setCell ⟨gb253, 0, none⟩ (.string ((rd_T85 l0_0 x10_1).f0))).setCell ⟨gb253, 1, none⟩ (.int .i64 ((rd_T85 l0_0 x10_1).f1))).setCell ⟨gb253, 2, none⟩ (.int .i64 ((rd_T85 l0_0 x10_1).f2))).setCell ⟨gb253, 3, none⟩ (.int .i64 ((rd_T85 l0_0 x10_1).f3))).setCell ⟨gb253, 4, none⟩ (.int .i64 ((rd_T85 l0_0 x10_1).f4))).setCell ⟨gb253, 5, none⟩ (.slice A252_5 ((rd_T85 l0_0 x10_1).f5).length c252_5)).setCell ⟨gb253, 6, none⟩ (.int .i64 ((rd_T85 l0_0 x10_1).f6.f0))).setCell ⟨gb253, 7, none⟩ (.int .i64 ((rd_T85 l0_0 x10_1).f6.f1))).setCell ⟨gb253, 8, none⟩ (.slice A252_8 ((rd_T85 l0_0 x10_1).f6.f2).length c252_8)).setCell ⟨gb253, 9, none⟩ (.slice A252_9 ((rd_T85 l0_0 x10_1).f6.f3).length c252_9)).setCell ⟨gb253, 10, none⟩ (.slice A252_10 ((rd_T85 l0_0 x10_1).f7).length c252_10)).heap[gb253]? = some (.cells #[.string ((rd_T85 l0_0 x10_1).f0), .int .i64 ((rd_T85 l0_0 x10_1).f1), .int .i64 ((rd_T85 l0_0 x10_1).f2), .int .i64 ((rd_T85 l0_0 x10_1).f3), .int .i64 ((rd_T85 l0_0 x10_1).f4), .slice A252_5 ((rd_T85 l0_0 x10_1).f5).length c252_5, .int .i64 ((rd_T85 l0_0 x10_1).f6.f0), .int .i64 ((rd_T85 l0_0 x10_1).f6.f1), .slice A252_8 ((rd_T85 l0_0 x10_1).f6.f2).length c252_8, .slice A252_9 ((rd_T85 l0_0 x10_1).f6.f3).length c252_9, .slice A252_10 ((rd_T85 l0_0 x10_1).f7).length c252_10] 85 (0, 0))) := ⟨by (with_reducible repeat (first | refine blk_drewN ?_ _ | refine blk_drew ?_ | refine blk_alloc ?_ _)); refine blk_put (cs := #[.string ((rd_T85 l0_0 x10_1).f0), .int .i64 ((rd_T85 l0_0 x10_1).f1), .int .i64 ((rd_T85 l0_0 x10_1).f2), .int .i64 ((rd_T85 l0_0 x10_1).f3), .int .i64 ((rd_T85 l0_0 x10_1).f4), .slice A252_5 ((rd_T85 l0_0 x10_1).f5).length c252_5, .int .i64 ((rd_T85 l0_0 x10_1).f6.f0), .int .i64 ((rd_T85 l0_0 x10_1).f6.f1), .slice A252_8 ((rd_T85 l0_0 x10_1).f6.f2).length c252_8, .slice A252_9 ((rd_T85 l0_0 x10_1).f6.f3).length c252_9, .slice none 0 0]) ?_ 10 _ rfl; (with_reducible repeat (first | refine blk_drewN ?_ _ | refine blk_drew ?_ | refine blk_alloc ?_ _)); refine blk_put (cs := #[.string ((rd_T85 l0_0 x10_1).f0), .int .i64 ((rd_T85 l0_0 x10_1).f1), .int .i64 ((rd_T85 l0_0 x10_1).f2), .int .i64 ((rd_T85 l0_0 x10_1).f3), .int .i64 ((rd_T85 l0_0 x10_1).f4), .slice A252_5 ((rd_T85 l0_0 x10_1).f5).length c252_5, .int .i64 ((rd_T85 l0_0 x10_1).f6.f0), .int .i64 ((rd_T85 l0_0 x10_1).f6.f1), .slice A252_8 ((rd_T85 l0_0 x10_1).f6.f2).length c252_8, .slice none 0 0, .slice none 0 0]) ?_ 9 _ rfl; (with_reducible repeat (first | refine blk_drewN ?_ _ | refine blk_drew ?_ | refine blk_alloc ?_ _)); refine blk_put (cs := #[.string ((rd_T85 l0_0 x10_1).f0), .int .i64 ((rd_T85 l0_0 x10_1).f1), .int .i64 ((rd_T85 l0_0 x10_1).f2), .int .i64 ((rd_T85 l0_0 x10_1).f3), .int .i64 ((rd_T85 l0_0 x10_1).f4), .slice A252_5 ((rd_T85 l0_0 x10_1).f5).length c252_5, .int .i64 ((rd_T85 l0_0 x10_1).f6.f0), .int .i64 ((rd_T85 l0_0 x10_1).f6.f1), .slice none 0 0, .slice none 0 0, .slice none 0 0]) ?_ 8 _ rfl; (with_reducible repeat (first | refine blk_drewN ?_ _ | refine blk_drew ?_ | refine blk_alloc ?_ _)); refine blk_put (cs := #[.string ((rd_T85 l0_0 x10_1).f0), .int .i64 ((rd_T85 l0_0 x10_1).f1), .int .i64 ((rd_T85 l0_0 x10_1).f2), .int .i64 ((rd_T85 l0_0 x10_1).f3), .int .i64 ((rd_T85 l0_0 x10_1).f4), .slice A252_5 ((rd_T85 l0_0 x10_1).f5).length c252_5, .int .i64 ((rd_T85 l0_0 x10_1).f6.f0), .int .i64 0, .slice none 0 0, .slice none 0 0, .slice none 0 0]) ?_ 7 _ rfl; (with_reducible repeat (first | refine blk_drewN ?_ _ | refine blk_drew ?_ | refine blk_alloc ?_ _)); refine blk_put (cs := #[.string ((rd_T85 l0_0 x10_1).f0), .int .i64 ((rd_T85 l0_0 x10_1).f1), .int .i64 ((rd_T85 l0_0 x10_1).f2), .int .i64 ((rd_T85 l0_0 x10_1).f3), .int .i64 ((rd_T85 l0_0 x10_1).f4), .slice A252_5 ((rd_T85 l0_0 x10_1).f5).length c252_5, .int .i64 0, .int .i64 0, .slice none 0 0, .slice none 0 0, .slice none 0 0]) ?_ 6 _ rfl; (with_reducible repeat (first | refine blk_drewN ?_ _ | refine blk_drew ?_ | refine blk_alloc ?_ _)); refine blk_put (cs := #[.string ((rd_T85 l0_0 x10_1).f0), .int .i64 ((rd_T85 l0_0 x10_1).f1), .int .i64 ((rd_T85 l0_0 x10_1).f2), .int .i64 ((rd_T85 l0_0 x10_1).f3), .int .i64 ((rd_T85 l0_0 x10_1).f4), .slice none 0 0, .int .i64 0, .int .i64 0, .slice none 0 0, .slice none 0 0, .slice none 0 0]) ?_ 5 _ rfl; (with_reducible repeat (first | refine blk_drewN ?_ _ | refine blk_drew ?_ | refine blk_alloc ?_ _)); refine blk_put (cs := #[.string ((rd_T85 l0_0 x10_1).f0), .int .i64 ((rd_T85 l0_0 x10_1).f1), .int .i64 ((rd_T85 l0_0 x10_1).f2), .int .i64 ((rd_T85 l0_0 x10_1).f3), .int .i64 0, .slice none 0 0, .int .i64 0, .int .i64 0, .slice none 0 0, .slice none 0 0, .slice none 0 0]) ?_ 4 _ rfl; (with_reducible repeat (first | refine blk_drewN ?_ _ | refine blk_drew ?_ | refine blk_alloc ?_ _)); refine blk_put (cs := #[.string ((rd_T85 l0_0 x10_1).f0), .int .i64 ((rd_T85 l0_0 x10_1).f1), .int .i64 ((rd_T85 l0_0 x10_1).f2), .int .i64 0, .int .i64 0, .slice none 0 0, .int .i64 0, .int .i64 0, .slice none 0 0, .slice none 0 0, .slice none 0 0]) ?_ 3 _ rfl; (with_reducible repeat (first | refine blk_drewN ?_ _ | refine blk_drew ?_ | refine blk_alloc ?_ _)); refine blk_put (cs := #[.string ((rd_T85 l0_0 x10_1).f0), .int .i64 ((rd_T85 l0_0 x10_1).f1), .int .i64 0, .int .i64 0, .int .i64 0, .slice none 0 0, .int .i64 0, .int .i64 0, .slice none 0 0, .slice none 0 0, .slice none 0 0]) ?_ 2 _ rfl; (with_reducible repeat (first | refine blk_drewN ?_ _ | refine blk_drew ?_ | refine blk_alloc ?_ _)); refine blk_put (cs := #[.string ((rd_T85 l0_0 x10_1).f0), .int .i64 0, .int .i64 0, .int .i64 0, .int .i64 0, .slice none 0 0, .int .i64 0, .int .i64 0, .slice none 0 0, .slice none 0 0, .slice none 0 0]) ?_ 1 _ rfl; (with_reducible repeat (first | refine blk_drewN ?_ _ | refine blk_drew ?_ | refine blk_alloc ?_ _)); refine blk_put (cs := #[.string (⟨#[]⟩ : ByteArray), .int .i64 0, .int .i64 0, .int .i64 0, .int .i64 0, .slice none 0 0, .int .i64 0, .int .i64 0, .slice none 0 0, .slice none 0 0, .slice none 0 0]) ?_ 0 _ rfl; (with_reducible repeat (first | refine blk_drewN ?_ _ | refine blk_drew ?_ | refine blk_alloc ?_ _)); exact BK253.out⟩
                  have n2_ : Aside0 (Below w.heap.size w (((((((((((w8.setCell ⟨gb253, 0, none⟩ (.string ((rd_T85 l0_0 x10_1).f0))).setCell ⟨gb253, 1, none⟩ (.int .i64 ((rd_T85 l0_0 x10_1).f1))).setCell ⟨gb253, 2, none⟩ (.int .i64 ((rd_T85 l0_0 x10_1).f2))).setCell ⟨gb253, 3, none⟩ (.int .i64 ((rd_T85 l0_0 x10_1).f3))).setCell ⟨gb253, 4, none⟩ (.int .i64 ((rd_T85 l0_0 x10_1).f4))).setCell ⟨gb253, 5, none⟩ (.slice A252_5 ((rd_T85 l0_0 x10_1).f5).length c252_5)).setCell ⟨gb253, 6, none⟩ (.int .i64 ((rd_T85 l0_0 x10_1).f6.f0))).setCell ⟨gb253, 7, none⟩ (.int .i64 ((rd_T85 l0_0 x10_1).f6.f1))).setCell ⟨gb253, 8, none⟩ (.slice A252_8 ((rd_T85 l0_0 x10_1).f6.f2).length c252_8)).setCell ⟨gb253, 9, none⟩ (.slice A252_9 ((rd_T85 l0_0 x10_1).f6.f3).length c252_9)).setCell ⟨gb253, 10, none⟩ (.slice A252_10 ((rd_T85 l0_0 x10_1).f7).length c252_10))) := ⟨bl_⟩
                  (try clear BK251)
                  (try clear BK253)
                  (try clear HB)
                  generalize (((((((((((w8.setCell ⟨gb253, 0, none⟩ (.string ((rd_T85 l0_0 x10_1).f0))).setCell ⟨gb253, 1, none⟩ (.int .i64 ((rd_T85 l0_0 x10_1).f1))).setCell ⟨gb253, 2, none⟩ (.int .i64 ((rd_T85 l0_0 x10_1).f2))).setCell ⟨gb253, 3, none⟩ (.int .i64 ((rd_T85 l0_0 x10_1).f3))).setCell ⟨gb253, 4, none⟩ (.int .i64 ((rd_T85 l0_0 x10_1).f4))).setCell ⟨gb253, 5, none⟩ (.slice A252_5 ((rd_T85 l0_0 x10_1).f5).length c252_5)).setCell ⟨gb253, 6, none⟩ (.int .i64 ((rd_T85 l0_0 x10_1).f6.f0))).setCell ⟨gb253, 7, none⟩ (.int .i64 ((rd_T85 l0_0 x10_1).f6.f1))).setCell ⟨gb253, 8, none⟩ (.slice A252_8 ((rd_T85 l0_0 x10_1).f6.f2).length c252_8)).setCell ⟨gb253, 9, none⟩ (.slice A252_9 ((rd_T85 l0_0 x10_1).f6.f3).length c252_9)).setCell ⟨gb253, 10, none⟩ (.slice A252_10 ((rd_T85 l0_0 x10_1).f7).length c252_10)) = w19 at n0_ n1_ n2_ ⊢
                  have BK251 := n0_
                  have BK253 := n1_
                  have HB := n2_
                  clear n0_ n1_ n2_
                  have n0_ := Aside0.mk (blk_drew BK251.out)
                  have n1_ := Aside0.mk (blk_drew BK253.out)
                  have n2_ := Aside0.mk (below_drew1 HB.out)
                  clear BK251
                  clear BK253
                  clear HB
                  have BK251 := n0_
                  have BK253 := n1_
                  have HB := n2_
                  clear n0_ n1_ n2_
                  refine start_ (n := 19) (S := fun w' => w'.cell? ⟨gb253, 0, none⟩ = some (.string ((rd_T85 l0_0 x10_1).f0)) ∧ w'.cell? ⟨gb253, 1, none⟩ = some (.int .i64 ((rd_T85 l0_0 x10_1).f1)) ∧ w'.cell? ⟨gb253, 2, none⟩ = some (.int .i64 ((rd_T85 l0_0 x10_1).f2)) ∧ w'.cell? ⟨gb253, 3, none⟩ = some (.int .i64 ((rd_T85 l0_0 x10_1).f3)) ∧ w'.cell? ⟨gb253, 4, none⟩ = some (.int .i64 ((rd_T85 l0_0 x10_1).f4)) ∧ w'.cell? ⟨gb253, 5, none⟩ = some (.slice A252_5 ((rd_T85 l0_0 x10_1).f5).length c252_5) ∧ w'.cell? ⟨gb253, 6, none⟩ = some (.int .i64 ((rd_T85 l0_0 x10_1).f6.f0)) ∧ w'.cell? ⟨gb253, 7, none⟩ = some (.int .i64 ((rd_T85 l0_0 x10_1).f6.f1)) ∧ w'.cell? ⟨gb253, 8, none⟩ = some (.slice A252_8 ((rd_T85 l0_0 x10_1).f6.f2).length c252_8) ∧ w'.cell? ⟨gb253, 9, none⟩ = some (.slice A252_9 ((rd_T85 l0_0 x10_1).f6.f3).length c252_9) ∧ w'.cell? ⟨gb253, 10, none⟩ = some (.slice A252_10 ((rd_T85 l0_0 x10_1).f7).length c252_10)) (ds := []) #[false, false, false, false, false, false, false, false, false, false, false, false, false, false, false, false, false, false, false] (by kernel_rfl) rfl rfl ⟨(blk_cell BK253.out 0).trans rfl, (blk_cell BK253.out 1).trans rfl, (blk_cell BK253.out 2).trans rfl, (blk_cell BK253.out 3).trans rfl, (blk_cell BK253.out 4).trans rfl, (blk_cell BK253.out 5).trans rfl, (blk_cell BK253.out 6).trans rfl, (blk_cell BK253.out 7).trans rfl, (blk_cell BK253.out 8).trans rfl, (blk_cell BK253.out 9).trans rfl, (blk_cell BK253.out 10).trans rfl⟩ (fun hHeld => ?_); refine with_tabW spec_Sound.tab4 spec_Sound.bits4 (fun HT_ HW_ => ?_)
                  generalize w19.drew = w20 at BK251 BK253 HB hHeld ⊢
                  refine pure_ (i := 0) (N := some 14) (v := ?_) (a' := ?_) #[true, false, false, false, false, false, false, false, false, false, false, false, false, false, false, false, false, false, false] rfl rfl (any_of HT_.out (by kernel_rfl)) (fun _ _ _ h => h) (Or.inl ⟨by rfl, ?_⟩) ?_ ?_
                  rotate_left
                  · intro w'
                    go_simp
                    with_reducible rfl
                  rotate_left
                  · simp only [Act.put, List.setIfInBounds_toArray, List.set_cons_zero, List.set_cons_succ, i64_w, i32_w]
                    rfl
                  refine take_ (i := 1) (N := some 15) (v := ?_) (a' := ?_) #[true, true, false, false, false, false, false, false, false, false, false, false, false, false, false, false, false, false, false] rfl rfl (take_ofW HT_.out HW_.out (by kernel_rfl)) (fun _ _ _ h => h) (Or.inl ⟨by rfl, ?_⟩) hHeld ?_ ?_
                  rotate_left
                  · rintro w' ⟨s0, s1, s2, s3, s4, s5, s6, s7, s8, s9, s10⟩
                    go_simp
                    with_reducible rfl
                  rotate_left
                  · simp only [Act.put, List.setIfInBounds_toArray, List.set_cons_zero, List.set_cons_succ, i64_w, i32_w]
                    rfl
                  refine pure_ (i := 2) (N := some 16) (v := ?_) (a' := ?_) #[true, true, true, false, false, false, false, false, false, false, false, false, false, false, false, false, false, false, false] rfl rfl (any_of HT_.out (by kernel_rfl)) (fun _ _ _ h => h) (Or.inl ⟨by rfl, ?_⟩) ?_ ?_
                  rotate_left
                  · intro w'
                    go_simp
                    with_reducible rfl
                  rotate_left
                  · simp only [Act.put, List.setIfInBounds_toArray, List.set_cons_zero, List.set_cons_succ, i64_w, i32_w]
                    rfl
                  refine pure_ (i := 3) (N := some 17) (v := ?_) (a' := ?_) #[true, true, true, true, false, false, false, false, false, false, false, false, false, false, false, false, false, false, false] rfl rfl (any_of HT_.out (by kernel_rfl)) (fun _ _ _ h => h) (Or.inl ⟨by rfl, ?_⟩) ?_ ?_
                  rotate_left
                  · intro w'
                    go_simp
                    with_reducible rfl
                  rotate_left
                  · simp only [Act.put, List.setIfInBounds_toArray, List.set_cons_zero, List.set_cons_succ, i64_w, i32_w]
                    rfl
                  refine pure_ (i := 4) (N := some 18) (v := ?_) (a' := ?_) #[true, true, true, true, true, false, false, false, false, false, false, false, false, false, false, false, false, false, false] rfl rfl (any_of HT_.out (by kernel_rfl)) (fun _ _ _ h => h) (Or.inl ⟨by rfl, ?_⟩) ?_ ?_
                  rotate_left
                  · intro w'
                    go_simp
                    with_reducible rfl
                  rotate_left
                  · simp only [Act.put, List.setIfInBounds_toArray, List.set_cons_zero, List.set_cons_succ, i64_w, i32_w]
                    rfl
                  refine take_ (i := 5) (N := some 19) (v := ?_) (a' := ?_) #[true, true, true, true, true, true, false, false, false, false, false, false, false, false, false, false, false, false, false] rfl rfl (take_ofW HT_.out HW_.out (by kernel_rfl)) (fun _ _ _ h => h) (Or.inl ⟨by rfl, ?_⟩) hHeld ?_ ?_
                  rotate_left
                  · rintro w' ⟨s0, s1, s2, s3, s4, s5, s6, s7, s8, s9, s10⟩
                    go_simp
                    with_reducible rfl
                  rotate_left
                  · simp only [Act.put, List.setIfInBounds_toArray, List.set_cons_zero, List.set_cons_succ, i64_w, i32_w]
                    rfl
                  refine pure_ (i := 6) (N := some 20) (v := ?_) (a' := ?_) #[true, true, true, true, true, true, true, false, false, false, false, false, false, false, false, false, false, false, false] rfl rfl (any_of HT_.out (by kernel_rfl)) (fun _ _ _ h => h) (Or.inl ⟨by rfl, ?_⟩) ?_ ?_
                  rotate_left
                  · intro w'
                    go_simp
                    with_reducible rfl
                  rotate_left
                  · simp only [Act.put, List.setIfInBounds_toArray, List.set_cons_zero, List.set_cons_succ, i64_w, i32_w]
                    rfl
                  refine pure_ (i := 7) (N := some 21) (v := ?_) (a' := ?_) #[true, true, true, true, true, true, true, true, false, false, false, false, false, false, false, false, false, false, false] rfl rfl (any_of HT_.out (by kernel_rfl)) (fun _ _ _ h => h) (Or.inl ⟨by rfl, ?_⟩) ?_ ?_
                  rotate_left
                  · intro w'
                    go_simp
                    with_reducible rfl
                  rotate_left
                  · simp only [Act.put, List.setIfInBounds_toArray, List.set_cons_zero, List.set_cons_succ, i64_w, i32_w]
                    rfl
                  refine pure_ (i := 8) (N := some 22) (v := ?_) (a' := ?_) #[true, true, true, true, true, true, true, true, true, false, false, false, false, false, false, false, false, false, false] rfl rfl (any_of HT_.out (by kernel_rfl)) (fun _ _ _ h => h) (Or.inl ⟨by rfl, ?_⟩) ?_ ?_
                  rotate_left
                  · intro w'
                    go_simp
                    with_reducible rfl
                  rotate_left
                  · simp only [Act.put, List.setIfInBounds_toArray, List.set_cons_zero, List.set_cons_succ, i64_w, i32_w]
                    rfl
                  refine pure_ (i := 9) (N := some 23) (v := ?_) (a' := ?_) #[true, true, true, true, true, true, true, true, true, true, false, false, false, false, false, false, false, false, false] rfl rfl (any_of HT_.out (by kernel_rfl)) (fun _ _ _ h => h) (Or.inl ⟨by rfl, ?_⟩) ?_ ?_
                  rotate_left
                  · intro w'
                    go_simp
                    with_reducible rfl
                  rotate_left
                  · simp only [Act.put, List.setIfInBounds_toArray, List.set_cons_zero, List.set_cons_succ, i64_w, i32_w]
                    rfl
                  refine pure_ (i := 11) (N := some 25) (v := ?_) (a' := ?_) #[true, true, true, true, true, true, true, true, true, true, false, true, false, false, false, false, false, false, false] rfl rfl (any_of HT_.out (by kernel_rfl)) (fun _ _ _ h => h) (Or.inl ⟨by rfl, ?_⟩) ?_ ?_
                  rotate_left
                  · intro w'
                    go_simp
                    with_reducible rfl
                  rotate_left
                  · simp only [Act.put, List.setIfInBounds_toArray, List.set_cons_zero, List.set_cons_succ, i64_w, i32_w]
                    rfl
                  refine pure_ (i := 15) (N := some 29) (v := ?_) (a' := ?_) #[true, true, true, true, true, true, true, true, true, true, false, true, false, false, false, true, false, false, false] rfl rfl (any_of HT_.out (by kernel_rfl)) (fun _ _ _ h => h) (Or.inl ⟨by rfl, ?_⟩) ?_ ?_
                  rotate_left
                  · intro w'
                    go_simp
                    with_reducible rfl
                  rotate_left
                  · simp only [Act.put, List.setIfInBounds_toArray, List.set_cons_zero, List.set_cons_succ, i64_w, i32_w]
                    rfl
                  refine take_ (i := 10) (N := some 24) (v := ?_) (a' := ?_) #[true, true, true, true, true, true, true, true, true, true, true, true, false, false, false, true, false, false, false] rfl rfl (take_ofW HT_.out HW_.out (by kernel_rfl)) (fun _ _ _ h => h) (Or.inl ⟨by rfl, ?_⟩) hHeld ?_ ?_
                  rotate_left
                  · rintro w' ⟨s0, s1, s2, s3, s4, s5, s6, s7, s8, s9, s10⟩
                    go_simp
                    with_reducible rfl
                  rotate_left
                  · simp only [Act.put, List.setIfInBounds_toArray, List.set_cons_zero, List.set_cons_succ, i64_w, i32_w]
                    rfl
                  refine take_ (i := 12) (N := some 26) (v := ?_) (a' := ?_) #[true, true, true, true, true, true, true, true, true, true, true, true, true, false, false, true, false, false, false] rfl rfl (take_ofW HT_.out HW_.out (by kernel_rfl)) (fun _ _ _ h => h) (Or.inl ⟨by rfl, ?_⟩) hHeld ?_ ?_
                  rotate_left
                  · rintro w' ⟨s0, s1, s2, s3, s4, s5, s6, s7, s8, s9, s10⟩
                    go_simp
                    with_reducible rfl
                  rotate_left
                  · simp only [Act.put, List.setIfInBounds_toArray, List.set_cons_zero, List.set_cons_succ, i64_w, i32_w]
                    rfl
                  refine take_ (i := 16) (N := some 30) (v := ?_) (a' := ?_) #[true, true, true, true, true, true, true, true, true, true, true, true, true, false, false, true, true, false, false] rfl rfl (take_ofW HT_.out HW_.out (by kernel_rfl)) (fun _ _ _ h => h) (Or.inl ⟨by rfl, ?_⟩) hHeld ?_ ?_
                  rotate_left
                  · rintro w' ⟨s0, s1, s2, s3, s4, s5, s6, s7, s8, s9, s10⟩
                    go_simp
                    with_reducible rfl
                  rotate_left
                  · simp only [Act.put, List.setIfInBounds_toArray, List.set_cons_zero, List.set_cons_succ, i64_w, i32_w]
                    rfl
                  refine one_ (i := 13) (N := some 27) #[true, true, true, true, true, true, true, true, true, true, true, true, true, true, false, true, true, false, false] rfl rfl (one_of HT_.out (by kernel_rfl)) (by decide) (fun K hK => ?_)
                  refine goes_ Try.func120 (by kernel_rfl) rfl #[.slice A252_5 ((rd_T85 l0_0 x10_1).f5).length c252_5] (by rfl) rfl rfl (by (try simp only [List.map_toArray, List.map_cons, List.map_nil]); first | done | rfl | (simp only [List.length_drop, List.length_take]; rfl)) ?_
                  with_reducible refine (spec_Stored.calls k1 _ _ ((rd_T85 l0_0 x10_1).f5) t254 _ ?side1 ?side2 A17.out).mono ?_
                  (case side1 => repeat (first | exact (Kd.C_below HR252_5.out HB.out) | (with_reducible refine Kd.C_alloc ?_ _) | (with_reducible refine Kd.C_drewN ?_ _) | (with_reducible refine Kd.C_drew ?_)))
                  (case side2 => exact HC252_5.out)
                  rintro e w21 ⟨rfl, hb⟩
                  refine ⟨_, rfl, ?_⟩
                  have n0_ := Aside0.mk (blk_below (bk_ BK251) hb)
                  have n1_ := Aside0.mk (blk_below (bk_ BK253) hb)
                  have n2_ := Aside0.mk (below_step bl_ hb)
                  clear BK251
                  clear BK253
                  clear HB
                  have BK251 := n0_
                  have BK253 := n1_
                  have HB := n2_
                  clear n0_ n1_ n2_
                  (try clear hb)
                  (try clear hb2)
                  (try clear hk)
                  (try clear hi)
                  refine hK.out _ _ ⟨(blk_cell BK253.out 0).trans rfl, (blk_cell BK253.out 1).trans rfl, (blk_cell BK253.out 2).trans rfl, (blk_cell BK253.out 3).trans rfl, (blk_cell BK253.out 4).trans rfl, (blk_cell BK253.out 5).trans rfl, (blk_cell BK253.out 6).trans rfl, (blk_cell BK253.out 7).trans rfl, (blk_cell BK253.out 8).trans rfl, (blk_cell BK253.out 9).trans rfl, (blk_cell BK253.out 10).trans rfl⟩ (fun hHeld => ?_)
                  clear hK K
                  refine norm_ (a' := ?_) ?_ ?_
                  rotate_left
                  · show Act.put _ (some 27) _ = _
                    simp only [Act.put, List.setIfInBounds_toArray, List.set_cons_zero, List.set_cons_succ, i64_w, i32_w]
                    rfl
                  refine one_ (i := 14) (N := some 28) #[true, true, true, true, true, true, true, true, true, true, true, true, true, true, true, true, true, false, false] rfl rfl (one_of HT_.out (by kernel_rfl)) (by decide) (fun K hK => ?_)
                  refine goes_ Try.func118 (by kernel_rfl) rfl #[.int .i64 ((rd_T85 l0_0 x10_1).f2), .int .i64 t254] (by rfl) rfl rfl (by (try simp only [List.map_toArray, List.map_cons, List.map_nil]); first | done | rfl | (simp only [List.length_drop, List.length_take]; rfl)) ?_
                  with_reducible refine (spec_AddSat.calls ((rd_T85 l0_0 x10_1).f2) t254 t255 _ A18.out).mono ?_
                  rintro e w' ⟨rfl, ⟨nd, rfl⟩⟩
                  refine ⟨_, rfl, ?_⟩
                  refine hK.out _ _ ⟨(blk_cell BK253.out 0).trans rfl, (blk_cell BK253.out 1).trans rfl, (blk_cell BK253.out 2).trans rfl, (blk_cell BK253.out 3).trans rfl, (blk_cell BK253.out 4).trans rfl, (blk_cell BK253.out 5).trans rfl, (blk_cell BK253.out 6).trans rfl, (blk_cell BK253.out 7).trans rfl, (blk_cell BK253.out 8).trans rfl, (blk_cell BK253.out 9).trans rfl, (blk_cell BK253.out 10).trans rfl⟩ (fun hHeld => ?_)
                  clear hK K
                  refine norm_ (a' := ?_) ?_ ?_
                  rotate_left
                  · show Act.put _ (some 28) _ = _
                    simp only [Act.put, List.setIfInBounds_toArray, List.set_cons_zero, List.set_cons_succ, i64_w, i32_w]
                    rfl
                  refine pure_ (i := 17) (N := some 31) (v := ?_) (a' := ?_) #[true, true, true, true, true, true, true, true, true, true, true, true, true, true, true, true, true, true, false] rfl rfl (any_of HT_.out (by kernel_rfl)) (fun _ _ _ h => h) (Or.inl ⟨by rfl, ?_⟩) ?_ ?_
                  rotate_left
                  · intro w'
                    go_simp
                    with_reducible rfl
                  rotate_left
                  · simp only [Act.put, List.setIfInBounds_toArray, List.set_cons_zero, List.set_cons_succ, i64_w, i32_w]
                    rfl
                  refine pure_ (i := 18) (N := some 32) (v := ?_) (a' := ?_) #[true, true, true, true, true, true, true, true, true, true, true, true, true, true, true, true, true, true, true] rfl rfl (any_of HT_.out (by kernel_rfl)) (fun _ _ _ h => h) (Or.inl ⟨by rfl, ?_⟩) ?_ ?_
                  rotate_left
                  · intro w'
                    go_simp
                    with_reducible rfl
                  rotate_left
                  · simp only [Act.put, List.setIfInBounds_toArray, List.set_cons_zero, List.set_cons_succ, i64_w, i32_w]
                    rfl
                  refine done_ (done_of HT_.out (by kernel_rfl)) ?_
                  try go_wp2
                  go_meet
                  case rel => exact ⟨_, (decide (t255 > ((rd_T85 l0_0 x10_1).f1))), sp_, H', ⟨by have := HK1.out; first | omega | exact Nat.le_refl _⟩, ⟨by (with_reducible repeat (first | refine blk_drewN ?_ _ | refine blk_drew ?_ | refine blk_alloc ?_ _)); exact BK251.out⟩, ⟨by (with_reducible repeat (first | refine blk_drewN ?_ _ | refine blk_drew ?_ | refine blk_alloc ?_ _)); exact BK253.out⟩, ⟨bl_⟩⟩
            case rest =>
              clear HC7
              try clear c1
              try clear c2
              try clear p2
              try clear q2
              try clear hx2
              try clear c4
              try clear c4b0
              try clear c5
              try clear c5b0
              try clear c6
              try clear c6b0
              try clear c9
              try clear c11
              try clear c11b0
              try clear c12
              try clear c14
              try clear c14b0
              try clear hcz10_0
              try clear hcz10_1
              try clear hcz10_10
              try clear hcz10_2
              try clear hcz10_3
              try clear hcz10_4
              try clear hcz10_5
              try clear hcz10_6
              try clear hcz10_7
              try clear hcz10_8
              try clear hcz10_9
              try clear hcz3_0
              try clear hfz10_0
              try clear hfz10_1
              try clear hfz10_10
              try clear hfz10_2
              try clear hfz10_3
              try clear hfz10_4
              try clear hfz10_5
              try clear hfz10_6
              try clear hfz10_7
              try clear hfz10_8
              try clear hfz10_9
              try clear hfz3_0
              try clear hx252_0
              try clear hx252_1
              try clear hx252_10
              try clear hx252_2
              try clear hx252_3
              try clear hx252_4
              try clear hx252_5
              try clear hx252_6
              try clear hx252_7
              try clear hx252_8
              try clear hx252_9
              try clear p2
              try clear p252
              try clear q252
              obtain ⟨kq, x32_6, rfl, HA, HJ6, BK251, BK253, HB⟩ := hcut
              cases kq with
              | zero => exact absurd HA.out (by simp [spec_Sound.j1])
              | succ kj6 =>
                have H := HA.out
                clear HA
                simp only [spec_Sound.j1] at H
                by_cases c22 : x32_6 = true
                · subst c22
                  have H1 : (some false) = some r := by rw [if_pos rfl] at H; exact H
                  clear H
                  have H := H1
                  clear H1
                  obtain rfl := Option.some.inj H
                  go_wp2
                  go_ret
                  exact ⟨by first | rfl | (simp [errW_none, errW_some] <;> rfl) | (simp [*, errW_none, errW_some] <;> rfl), bl_⟩
                · replace c22 := Bool.eq_false_iff.mpr c22
                  subst c22
                  have H1 : (spec_Sound.l1 kj6 l0_0 (l0_0.length : Int) x10_1 ((rd_T85 l0_0 x10_1).f5) (((rd_T85 l0_0 x10_1).f5).length : Int) 0) = some r := by rw [if_neg (show ¬ (false = true) by decide)] at H; exact H
                  clear H
                  have H := H1
                  clear H1
                  have H' := Aside0.mk H
                  clear H
                  have hnb23 := NB253_251.out
                  have hnc23 := NB251_253.out
                  have hcz24_0 : wc.cell? ⟨gb253, 0, none⟩ = some (.string ((rd_T85 l0_0 x10_1).f0)) := (blk_cell BK253.out 0).trans rfl
                  have hcz24_1 : wc.cell? ⟨gb253, 1, none⟩ = some (.int .i64 ((rd_T85 l0_0 x10_1).f1)) := (blk_cell BK253.out 1).trans rfl
                  have hcz24_2 : wc.cell? ⟨gb253, 2, none⟩ = some (.int .i64 ((rd_T85 l0_0 x10_1).f2)) := (blk_cell BK253.out 2).trans rfl
                  have hcz24_3 : wc.cell? ⟨gb253, 3, none⟩ = some (.int .i64 ((rd_T85 l0_0 x10_1).f3)) := (blk_cell BK253.out 3).trans rfl
                  have hcz24_4 : wc.cell? ⟨gb253, 4, none⟩ = some (.int .i64 ((rd_T85 l0_0 x10_1).f4)) := (blk_cell BK253.out 4).trans rfl
                  have hcz24_5 : wc.cell? ⟨gb253, 5, none⟩ = some (.slice A252_5 ((rd_T85 l0_0 x10_1).f5).length c252_5) := (blk_cell BK253.out 5).trans rfl
                  have hcz24_6 : wc.cell? ⟨gb253, 6, none⟩ = some (.int .i64 ((rd_T85 l0_0 x10_1).f6.f0)) := (blk_cell BK253.out 6).trans rfl
                  have hcz24_7 : wc.cell? ⟨gb253, 7, none⟩ = some (.int .i64 ((rd_T85 l0_0 x10_1).f6.f1)) := (blk_cell BK253.out 7).trans rfl
                  have hcz24_8 : wc.cell? ⟨gb253, 8, none⟩ = some (.slice A252_8 ((rd_T85 l0_0 x10_1).f6.f2).length c252_8) := (blk_cell BK253.out 8).trans rfl
                  have hcz24_9 : wc.cell? ⟨gb253, 9, none⟩ = some (.slice A252_9 ((rd_T85 l0_0 x10_1).f6.f3).length c252_9) := (blk_cell BK253.out 9).trans rfl
                  have hcz24_10 : wc.cell? ⟨gb253, 10, none⟩ = some (.slice A252_10 ((rd_T85 l0_0 x10_1).f7).length c252_10) := (blk_cell BK253.out 10).trans rfl
                  have hfz24_0 := blk_frozen BK253.out 0
                  have hfz24_1 := blk_frozen BK253.out 1
                  have hfz24_2 := blk_frozen BK253.out 2
                  have hfz24_3 := blk_frozen BK253.out 3
                  have hfz24_4 := blk_frozen BK253.out 4
                  have hfz24_5 := blk_frozen BK253.out 5
                  have hfz24_6 := blk_frozen BK253.out 6
                  have hfz24_7 := blk_frozen BK253.out 7
                  have hfz24_8 := blk_frozen BK253.out 8
                  have hfz24_9 := blk_frozen BK253.out 9
                  have hfz24_10 := blk_frozen BK253.out 10
                  go_wp2
                  go_loopg [36] kj6 (fun kq v36 w' => ∃ (x36_3 : Int), v36 = .int .i64 x36_3 ∧ Aside0 (spec_Sound.l1 kq l0_0 (l0_0.length : Int) x10_1 ((rd_T85 l0_0 x10_1).f5) (((rd_T85 l0_0 x10_1).f5).length : Int) x36_3 = some r) ∧ Aside0 (kq ≤ kj6) ∧ Aside0 (w'.heap[gb251]? = some (.cells #[(.slice (some ad252) l0_0.length c0_0)] 72 (0, 0))) ∧ Aside0 (w'.heap[gb253]? = some (.cells #[.string ((rd_T85 l0_0 x10_1).f0), .int .i64 ((rd_T85 l0_0 x10_1).f1), .int .i64 ((rd_T85 l0_0 x10_1).f2), .int .i64 ((rd_T85 l0_0 x10_1).f3), .int .i64 ((rd_T85 l0_0 x10_1).f4), (.slice A252_5 ((rd_T85 l0_0 x10_1).f5).length c252_5), .int .i64 ((rd_T85 l0_0 x10_1).f6.f0), .int .i64 ((rd_T85 l0_0 x10_1).f6.f1), (.slice A252_8 ((rd_T85 l0_0 x10_1).f6.f2).length c252_8), (.slice A252_9 ((rd_T85 l0_0 x10_1).f6.f3).length c252_9), (.slice A252_10 ((rd_T85 l0_0 x10_1).f7).length c252_10)] 85 (0, 0))) ∧ Aside0 (Below w.heap.size w w'))
                  case atStart => exact ⟨(0), sp_, H', ⟨Nat.le_refl _⟩, ⟨by (with_reducible repeat (first | refine blk_drewN ?_ _ | refine blk_drew ?_ | refine blk_alloc ?_ _)); exact BK251.out⟩, ⟨by (with_reducible repeat (first | refine blk_drewN ?_ _ | refine blk_drew ?_ | refine blk_alloc ?_ _)); exact BK253.out⟩, ⟨bl_⟩⟩
                  case round =>
                    clear H'
                    try clear c1
                    try clear c2
                    try clear p2
                    try clear q2
                    try clear hx2
                    try clear c4
                    try clear c4b0
                    try clear c5
                    try clear c5b0
                    try clear c6
                    try clear c6b0
                    try clear c9
                    try clear c11
                    try clear c11b0
                    try clear c12
                    try clear c14
                    try clear c14b0
                    try clear c22
                    try clear c23
                    try clear hcz10_0
                    try clear hcz10_1
                    try clear hcz10_10
                    try clear hcz10_2
                    try clear hcz10_3
                    try clear hcz10_4
                    try clear hcz10_5
                    try clear hcz10_6
                    try clear hcz10_7
                    try clear hcz10_8
                    try clear hcz10_9
                    try clear hcz24_0
                    try clear hcz24_1
                    try clear hcz24_10
                    try clear hcz24_2
                    try clear hcz24_3
                    try clear hcz24_4
                    try clear hcz24_5
                    try clear hcz24_6
                    try clear hcz24_7
                    try clear hcz24_8
                    try clear hcz24_9
                    try clear hcz3_0
                    try clear hfz10_0
                    try clear hfz10_1
                    try clear hfz10_10
                    try clear hfz10_2
                    try clear hfz10_3
                    try clear hfz10_4
                    try clear hfz10_5
                    try clear hfz10_6
                    try clear hfz10_7
                    try clear hfz10_8
                    try clear hfz10_9
                    try clear hfz24_0
                    try clear hfz24_1
                    try clear hfz24_10
                    try clear hfz24_2
                    try clear hfz24_3
                    try clear hfz24_4
                    try clear hfz24_5
                    try clear hfz24_6
                    try clear hfz24_7
                    try clear hfz24_8
                    try clear hfz24_9
                    try clear hfz3_0
                    try clear hx252_0
                    try clear hx252_1
                    try clear hx252_10
                    try clear hx252_2
                    try clear hx252_3
                    try clear hx252_4
                    try clear hx252_5
                    try clear hx252_6
                    try clear hx252_7
                    try clear hx252_8
                    try clear hx252_9
                    try clear p2
                    try clear p252
                    try clear q2
                    try clear q252
                    obtain ⟨x36_3, rfl, HA, HK3, BK251, BK253, HB⟩ := hrel
                    cases gk with
                    | zero => exact absurd HA.out (by simp [spec_Sound.l1])
                    | succ k3 =>
                      have H := HA.out
                      clear HA
                      simp only [spec_Sound.l1] at H
                      by_cases c25 : x36_3 < (((rd_T85 l0_0 x10_1).f5).length : Int)
                      · rw [if_pos c25] at H
                        have c25b0 : decide (x36_3 < (((rd_T85 l0_0 x10_1).f5).length : Int)) = true := decide_eq_true c25
                        clear c25
                        by_cases c26 : 0 ≤ x36_3
                        · rw [if_pos c26] at H
                          have c26b0 : decide (0 ≤ x36_3) = true := decide_eq_true c26
                          clear c26
                          by_cases c27 : x36_3 < (((rd_T85 l0_0 x10_1).f5).length : Int)
                          · rw [if_pos c27] at H
                            have c27b0 : decide (x36_3 < (((rd_T85 l0_0 x10_1).f5).length : Int)) = true := decide_eq_true c27
                            clear c27
                            by_cases c28 : ((rd_T60 ((rd_T85 l0_0 x10_1).f5) x36_3).f1) < 0
                            · rw [if_pos c28] at H
                              have c28b0 : decide (((rd_T60 ((rd_T85 l0_0 x10_1).f5) x36_3).f1) < 0) = true := decide_eq_true c28
                              clear c28
                              obtain rfl := Option.some.inj H
                              have p256 : 0 ≤ (x36_3 : Int) := of_decide_eq_true (by first | (with_reducible assumption) | assumption)
                              have q256 : x36_3 < (((rd_T85 l0_0 x10_1).f5).length : Int) := of_decide_eq_true (by first | (with_reducible assumption) | assumption)
                              obtain ⟨ad256, e256, hx256_0, hx256_1, hx256_2⟩ := at_T60 HR252_5.out x36_3 p256 q256
                              cases e256
                              replace hx256_0 := (HB.out.cell (World.block_lt_of_cell? w _ hx256_0)).trans hx256_0
                              replace hx256_1 := (HB.out.cell (World.block_lt_of_cell? w _ hx256_1)).trans hx256_1
                              replace hx256_2 := (HB.out.cell (World.block_lt_of_cell? w _ hx256_2)).trans hx256_2
                              replace p256 := eq_true p256
                              replace q256 := eq_true q256
                              go_wp2_with (first | ((with_reducible refine gate_dst (N := 6) rfl ?_); refine box_event ?hg (N := 6) ?hd (cs := #[.string (⟨#[]⟩ : ByteArray), .int .i64 0, .int .i64 0]) (t := 60) ?hr ?_; (case hd => rfl); (case hg => rfl); (case hr => first | (go_simp; done) | (go_simp; rfl)); intro gb257 hg w29 hbox hb; have n0_ := Aside0.mk (blk_below (bk_ BK251) hb); have n1_ := Aside0.mk (blk_below (bk_ BK253) hb); have n2_ := Aside0.mk (below_step bl_ hb); have n3_ := Aside0.mk (hbox); have n4_ := Aside0.mk ((by rw [hg]; exact (below_size bl_) : w.heap.size ≤ gb257)); have n5_ := Aside0.mk ((by rw [hg]; exact (below_size bl_) : w.heap.size ≤ gb257)); have n6_ := Aside0.mk ((by rw [hg]; exact Nat.ne_of_lt (blk_lt (bk_ BK251)) : gb251 ≠ gb257)); have n7_ := Aside0.mk ((by rw [hg]; exact Nat.ne_of_gt (blk_lt (bk_ BK251)) : gb257 ≠ gb251)); have n8_ := Aside0.mk ((by rw [hg]; exact Nat.ne_of_lt (blk_lt (bk_ BK253)) : gb253 ≠ gb257)); have n9_ := Aside0.mk ((by rw [hg]; exact Nat.ne_of_gt (blk_lt (bk_ BK253)) : gb257 ≠ gb253)); clear BK251; clear BK253; clear HB; have BK251 := n0_; have BK253 := n1_; have HB := n2_; have BK257 := n3_; have GW257 := n4_; have GE257 := n5_; have NB251_257 := n6_; have NB257_251 := n7_; have NB253_257 := n8_; have NB257_253 := n9_; clear n0_ n1_ n2_ n3_ n4_ n5_ n6_ n7_ n8_ n9_; clear hb hbox hg; have hnb30 := NB257_251.out; have hnc30 := NB251_257.out; have hnb31 := NB257_253.out; have hnc31 := NB253_257.out; have hcz32_0 : w29.cell? ⟨gb257, 0, none⟩ = some (.string (⟨#[]⟩ : ByteArray)) := (blk_cell BK257.out 0).trans rfl; have hcz32_1 : w29.cell? ⟨gb257, 1, none⟩ = some (.int .i64 0) := (blk_cell BK257.out 1).trans rfl; have hcz32_2 : w29.cell? ⟨gb257, 2, none⟩ = some (.int .i64 0) := (blk_cell BK257.out 2).trans rfl; have hfz32_0 := blk_frozen BK257.out 0; have hfz32_1 := blk_frozen BK257.out 1; have hfz32_2 := blk_frozen BK257.out 2))
                              go_ret
                              exact ⟨by first | rfl | (simp [errW_none, errW_some] <;> rfl) | (simp [*, errW_none, errW_some] <;> rfl), bl_⟩
                            · rw [if_neg c28] at H
                              have c28b0 : decide (((rd_T60 ((rd_T85 l0_0 x10_1).f5) x36_3).f1) < 0) = false := decide_eq_false c28
                              clear c28
                              have H' := Aside0.mk H
                              clear H
                              have p256 : 0 ≤ (x36_3 : Int) := of_decide_eq_true (by first | (with_reducible assumption) | assumption)
                              have q256 : x36_3 < (((rd_T85 l0_0 x10_1).f5).length : Int) := of_decide_eq_true (by first | (with_reducible assumption) | assumption)
                              obtain ⟨ad256, e256, hx256_0, hx256_1, hx256_2⟩ := at_T60 HR252_5.out x36_3 p256 q256
                              cases e256
                              replace hx256_0 := (HB.out.cell (World.block_lt_of_cell? w _ hx256_0)).trans hx256_0
                              replace hx256_1 := (HB.out.cell (World.block_lt_of_cell? w _ hx256_1)).trans hx256_1
                              replace hx256_2 := (HB.out.cell (World.block_lt_of_cell? w _ hx256_2)).trans hx256_2
                              replace p256 := eq_true p256
                              replace q256 := eq_true q256
                              go_wp2_with (first | ((with_reducible refine gate_dst (N := 6) rfl ?_); refine box_event ?hg (N := 6) ?hd (cs := #[.string (⟨#[]⟩ : ByteArray), .int .i64 0, .int .i64 0]) (t := 60) ?hr ?_; (case hd => rfl); (case hg => rfl); (case hr => first | (go_simp; done) | (go_simp; rfl)); intro gb257 hg w33 hbox hb; have n0_ := Aside0.mk (blk_below (bk_ BK251) hb); have n1_ := Aside0.mk (blk_below (bk_ BK253) hb); have n2_ := Aside0.mk (below_step bl_ hb); have n3_ := Aside0.mk (hbox); have n4_ := Aside0.mk ((by rw [hg]; exact (below_size bl_) : w.heap.size ≤ gb257)); have n5_ := Aside0.mk ((by rw [hg]; exact (below_size bl_) : w.heap.size ≤ gb257)); have n6_ := Aside0.mk ((by rw [hg]; exact Nat.ne_of_lt (blk_lt (bk_ BK251)) : gb251 ≠ gb257)); have n7_ := Aside0.mk ((by rw [hg]; exact Nat.ne_of_gt (blk_lt (bk_ BK251)) : gb257 ≠ gb251)); have n8_ := Aside0.mk ((by rw [hg]; exact Nat.ne_of_lt (blk_lt (bk_ BK253)) : gb253 ≠ gb257)); have n9_ := Aside0.mk ((by rw [hg]; exact Nat.ne_of_gt (blk_lt (bk_ BK253)) : gb257 ≠ gb253)); clear BK251; clear BK253; clear HB; have BK251 := n0_; have BK253 := n1_; have HB := n2_; have BK257 := n3_; have GW257 := n4_; have GE257 := n5_; have NB251_257 := n6_; have NB257_251 := n7_; have NB253_257 := n8_; have NB257_253 := n9_; clear n0_ n1_ n2_ n3_ n4_ n5_ n6_ n7_ n8_ n9_; clear hb hbox hg; have hnb34 := NB257_251.out; have hnc34 := NB251_257.out; have hnb35 := NB257_253.out; have hnc35 := NB253_257.out; have hcz36_0 : w33.cell? ⟨gb257, 0, none⟩ = some (.string (⟨#[]⟩ : ByteArray)) := (blk_cell BK257.out 0).trans rfl; have hcz36_1 : w33.cell? ⟨gb257, 1, none⟩ = some (.int .i64 0) := (blk_cell BK257.out 1).trans rfl; have hcz36_2 : w33.cell? ⟨gb257, 2, none⟩ = some (.int .i64 0) := (blk_cell BK257.out 2).trans rfl; have hfz36_0 := blk_frozen BK257.out 0; have hfz36_1 := blk_frozen BK257.out 1; have hfz36_2 := blk_frozen BK257.out 2))
                              go_roundg k3
                              case measure => have := HK1.out; have := HJ6.out; have := HK3.out; omega
                              case rel => exact ⟨(wrap64 (x36_3 + 1)), sp_, H', ⟨by have := HK1.out; have := HJ6.out; have := HK3.out; omega⟩, ⟨by (with_reducible repeat (first | refine blk_drewN ?_ _ | refine blk_drew ?_ | refine blk_alloc ?_ _)); refine blk_far ?_ NB251_257.out _; (with_reducible repeat (first | refine blk_drewN ?_ _ | refine blk_drew ?_ | refine blk_alloc ?_ _)); refine blk_far ?_ NB251_257.out _; (with_reducible repeat (first | refine blk_drewN ?_ _ | refine blk_drew ?_ | refine blk_alloc ?_ _)); refine blk_far ?_ NB251_257.out _; (with_reducible repeat (first | refine blk_drewN ?_ _ | refine blk_drew ?_ | refine blk_alloc ?_ _)); exact BK251.out⟩, ⟨by (with_reducible repeat (first | refine blk_drewN ?_ _ | refine blk_drew ?_ | refine blk_alloc ?_ _)); refine blk_far ?_ NB253_257.out _; (with_reducible repeat (first | refine blk_drewN ?_ _ | refine blk_drew ?_ | refine blk_alloc ?_ _)); refine blk_far ?_ NB253_257.out _; (with_reducible repeat (first | refine blk_drewN ?_ _ | refine blk_drew ?_ | refine blk_alloc ?_ _)); refine blk_far ?_ NB253_257.out _; (with_reducible repeat (first | refine blk_drewN ?_ _ | refine blk_drew ?_ | refine blk_alloc ?_ _)); exact BK253.out⟩, ⟨bl_⟩⟩
                          · rw [if_neg c27] at H
                            exact absurd H (by simp)
                        · rw [if_neg c26] at H
                          exact absurd H (by simp)
                      · rw [if_neg c25] at H
                        have c25b0 : decide (x36_3 < (((rd_T85 l0_0 x10_1).f5).length : Int)) = false := decide_eq_false c25
                        clear c25
                        have H' := Aside0.mk H
                        clear H
                        go_wp2
                        go_roundg k3
                        case measure => have := HK1.out; have := HJ6.out; have := HK3.out; omega
                        case rel => exact ⟨(wrap64 (x10_1 + 1)), sp_, H', ⟨by have := HK1.out; have := HJ6.out; have := HK3.out; omega⟩, ⟨by (with_reducible repeat (first | refine blk_drewN ?_ _ | refine blk_drew ?_ | refine blk_alloc ?_ _)); exact BK251.out⟩, ⟨bl_⟩⟩
          · rw [if_neg c6] at H
            exact absurd H (by simp)
        · rw [if_neg c5] at H
          exact absurd H (by simp)
      · rw [if_neg c4] at H
        have c4b0 : decide (x10_1 < (l0_0.length : Int)) = false := decide_eq_false c4
        clear c4
        obtain rfl := Option.some.inj H
        go_wp2
        go_ret
        exact ⟨by first | rfl | (simp [errW_none, errW_some] <;> rfl) | (simp [*, errW_none, errW_some] <;> rfl), bl_⟩

end Go.Proofs.Ytcojjdfbdgpajaa.QFnExactSound
