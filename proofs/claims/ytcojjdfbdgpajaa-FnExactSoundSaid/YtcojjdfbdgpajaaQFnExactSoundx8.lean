-- by my own printer (myprint.py, over the kit's print.py)
import Derived.Test.YtcojjdfbdgpajaaQFnExactSoundx0
import Derived.Test.YtcojjdfbdgpajaaQFnExactSoundx7
namespace Go.Proofs.Ytcojjdfbdgpajaa.QFnExactSound
open Go.RowKit Go.Proofs.YtcojjdfbdgpajaaW.PrintWords Go.Proofs.YtcojjdfbdgpajaaW.PrintLast Go.Proofs.YtcojjdfbdgpajaaW.PrintMore
attribute [local go_sem] max2_int min2_int max_two min_two max_three min_three max_four min_four   -- for this text's walks alone
set_option linter.unusedVariables false
set_option linter.unusedSimpArgs false

attribute [local go_sem] my_geq my_leq my_gtr
/-! ### impl_Sound: function 59 -/
mutual
def impl_Sound.l0 : Nat → List (S85) → Int → Int → Option (Bool)
  | 0, _, _, _ => none
  | k + 1, x8, x9, x10 => if x10 < x9 then (if 0 ≤ x10 then (if x10 < (x8.length : Int) then ((impl_Stored.f k ((rd_T85 x8 x10).f5)).bind fun t264 => ((impl_AddSat.f ((rd_T85 x8 x10).f2) t264).bind fun t265 => (if t265 > ((rd_T85 x8 x10).f1) then (impl_Sound.j1 k x8 x9 x10 true ((rd_T85 x8 x10).f0) ((rd_T85 x8 x10).f1) ((rd_T85 x8 x10).f2) ((rd_T85 x8 x10).f3) ((rd_T85 x8 x10).f4) ((rd_T85 x8 x10).f5) ((rd_T85 x8 x10).f6.f0) ((rd_T85 x8 x10).f6.f1) ((rd_T85 x8 x10).f6.f2) ((rd_T85 x8 x10).f6.f3) ((rd_T85 x8 x10).f7)) else (if ((rd_T85 x8 x10).f2) < 0 then (impl_Sound.j1 k x8 x9 x10 true ((rd_T85 x8 x10).f0) ((rd_T85 x8 x10).f1) ((rd_T85 x8 x10).f2) ((rd_T85 x8 x10).f3) ((rd_T85 x8 x10).f4) ((rd_T85 x8 x10).f5) ((rd_T85 x8 x10).f6.f0) ((rd_T85 x8 x10).f6.f1) ((rd_T85 x8 x10).f6.f2) ((rd_T85 x8 x10).f6.f3) ((rd_T85 x8 x10).f7)) else (impl_Sound.j1 k x8 x9 x10 (decide (((rd_T85 x8 x10).f1) < 0)) ((rd_T85 x8 x10).f0) ((rd_T85 x8 x10).f1) ((rd_T85 x8 x10).f2) ((rd_T85 x8 x10).f3) ((rd_T85 x8 x10).f4) ((rd_T85 x8 x10).f5) ((rd_T85 x8 x10).f6.f0) ((rd_T85 x8 x10).f6.f1) ((rd_T85 x8 x10).f6.f2) ((rd_T85 x8 x10).f6.f3) ((rd_T85 x8 x10).f7)))))) else (none)) else (none)) else (some true)
def impl_Sound.j1 : Nat → List (S85) → Int → Int → Bool → ByteArray → Int → Int → Int → Int → List (S60) → Int → Int → List Int → List Int → List (S46) → Option (Bool)
  | 0, _, _, _, _, _, _, _, _, _, _, _, _, _, _, _ => none
  | k + 1, x8, x9, x10, x32, x264000, x264001, x264002, x264003, x264004, x264005, x264006, x264007, x264008, x264009, x264010 => if x32 = true then (some false) else (impl_Sound.l1 k x8 x9 x10 x264005 (x264005.length : Int) 0)
def impl_Sound.l1 : Nat → List (S85) → Int → Int → List (S60) → Int → Int → Option (Bool)
  | 0, _, _, _, _, _, _ => none
  | k + 1, x8, x9, x10, x34, x35, x36 => if x36 < x35 then (if 0 ≤ x36 then (if x36 < (x34.length : Int) then (if ((rd_T60 x34 x36).f1) < 0 then (some false) else (impl_Sound.l1 k x8 x9 x10 x34 x35 (wrap64 (x36 + 1)))) else (none)) else (none)) else (impl_Sound.l0 k x8 x9 (wrap64 (x10 + 1)))
end
def impl_Sound.f (k : Nat) (l0_0 : List (S85)) : Option (Bool) := impl_Sound.l0 k l0_0 (l0_0.length : Int) 0
theorem impl_Sound.mono_l : ∀ k, (∀ y0 y1 y2, LeO (impl_Sound.l0 k y0 y1 y2) (impl_Sound.l0 (k + 1) y0 y1 y2)) ∧ (∀ y0 y1 y2 y3 y4 y5 y6 y7 y8 y9 y10 y11 y12 y13 y14, LeO (impl_Sound.j1 k y0 y1 y2 y3 y4 y5 y6 y7 y8 y9 y10 y11 y12 y13 y14) (impl_Sound.j1 (k + 1) y0 y1 y2 y3 y4 y5 y6 y7 y8 y9 y10 y11 y12 y13 y14)) ∧ (∀ y0 y1 y2 y3 y4 y5, LeO (impl_Sound.l1 k y0 y1 y2 y3 y4 y5) (impl_Sound.l1 (k + 1) y0 y1 y2 y3 y4 y5))
  | 0 => ⟨fun _ _ _ r h => by simp [impl_Sound.l0] at h, fun _ _ _ _ _ _ _ _ _ _ _ _ _ _ _ r h => by simp [impl_Sound.j1] at h, fun _ _ _ _ _ _ r h => by simp [impl_Sound.l1] at h⟩
  | k + 1 => by
    obtain ⟨ih0, ih1, ih2⟩ := impl_Sound.mono_l k
    refine ⟨?_, ?_, ?_⟩
    · intro y0 y1 y2
      unfold impl_Sound.l0
      repeat' first
      | (with_reducible exact ih0 _ _ _)
      | (with_reducible exact ih1 _ _ _ _ _ _ _ _ _ _ _ _ _ _ _)
      | (with_reducible exact ih2 _ _ _ _ _ _)
      | (with_reducible exact impl_Stored.mono _ _)
      | (with_reducible exact LeO.refl _)
      | (with_reducible exact LeO.none _)
      | (with_reducible refine LeO.ite ?_ ?_)
      | (with_reducible refine LeO.bind ?_ (fun _ => ?_))
      | exact ih0 _ _ _
      | exact ih1 _ _ _ _ _ _ _ _ _ _ _ _ _ _ _
      | exact ih2 _ _ _ _ _ _
      | exact impl_Stored.mono _ _
      | exact LeO.none _
      | refine LeO.ite ?_ ?_
      | refine LeO.bind ?_ (fun _ => ?_)
    · intro y0 y1 y2 y3 y4 y5 y6 y7 y8 y9 y10 y11 y12 y13 y14
      unfold impl_Sound.j1
      repeat' first
      | (with_reducible exact ih0 _ _ _)
      | (with_reducible exact ih1 _ _ _ _ _ _ _ _ _ _ _ _ _ _ _)
      | (with_reducible exact ih2 _ _ _ _ _ _)
      | (with_reducible exact impl_Stored.mono _ _)
      | (with_reducible exact LeO.refl _)
      | (with_reducible exact LeO.none _)
      | (with_reducible refine LeO.ite ?_ ?_)
      | (with_reducible refine LeO.bind ?_ (fun _ => ?_))
      | exact ih0 _ _ _
      | exact ih1 _ _ _ _ _ _ _ _ _ _ _ _ _ _ _
      | exact ih2 _ _ _ _ _ _
      | exact impl_Stored.mono _ _
      | exact LeO.none _
      | refine LeO.ite ?_ ?_
      | refine LeO.bind ?_ (fun _ => ?_)
    · intro y0 y1 y2 y3 y4 y5
      unfold impl_Sound.l1
      repeat' first
      | (with_reducible exact ih0 _ _ _)
      | (with_reducible exact ih1 _ _ _ _ _ _ _ _ _ _ _ _ _ _ _)
      | (with_reducible exact ih2 _ _ _ _ _ _)
      | (with_reducible exact impl_Stored.mono _ _)
      | (with_reducible exact LeO.refl _)
      | (with_reducible exact LeO.none _)
      | (with_reducible refine LeO.ite ?_ ?_)
      | (with_reducible refine LeO.bind ?_ (fun _ => ?_))
      | exact ih0 _ _ _
      | exact ih1 _ _ _ _ _ _ _ _ _ _ _ _ _ _ _
      | exact ih2 _ _ _ _ _ _
      | exact impl_Stored.mono _ _
      | exact LeO.none _
      | refine LeO.ite ?_ ?_
      | refine LeO.bind ?_ (fun _ => ?_)
theorem impl_Sound.mono : ∀ a0 k, LeO (impl_Sound.f k a0) (impl_Sound.f (k + 1) a0) := by
  intro a0 k
  obtain ⟨ih0, ih1, ih2⟩ := impl_Sound.mono_l k
  unfold impl_Sound.f
  repeat' first
      | (with_reducible exact ih0 _ _ _)
      | (with_reducible exact ih1 _ _ _ _ _ _ _ _ _ _ _ _ _ _ _)
      | (with_reducible exact ih2 _ _ _ _ _ _)
      | (with_reducible exact impl_Stored.mono _ _)
      | (with_reducible exact LeO.refl _)
      | (with_reducible exact LeO.none _)
      | (with_reducible refine LeO.ite ?_ ?_)
      | (with_reducible refine LeO.bind ?_ (fun _ => ?_))
      | exact ih0 _ _ _
      | exact ih1 _ _ _ _ _ _ _ _ _ _ _ _ _ _ _
      | exact ih2 _ _ _ _ _ _
      | exact impl_Stored.mono _ _
      | exact LeO.none _
      | refine LeO.ite ?_ ?_
      | refine LeO.bind ?_ (fun _ => ?_)
def impl_Sound.T4 : Bool × List (List Nat × List Nat) := (true, [([], []), ([0], [0]), ([], []), ([2], [2]), ([3], [3]), ([1, 4, 4], [1, 4]), ([], []), ([6], [6]), ([5, 7], [5, 7]), ([8, 5], [8]), ([9], [9]), ([10, 9], [9, 10]), ([11, 9], [9, 11]), ([9, 12], [9, 12]), ([13, 9], [13]), ([14], [14]), ([15, 14], [14, 15]), ([16, 14], [14, 16]), ([14, 17], [14, 17])])
def impl_Sound.B4 : List Nat := [0, 1, 0, 4, 12, 31, 0, 64, 255, 511, 1023, 2047, 4095, 8191, 16383, 32767, 65535, 131071, 262143]
theorem impl_Sound.tab4 : rtab .any (opsOf Try.f59 4) = impl_Sound.T4 := by kernel_rfl
theorem impl_Sound.bits4 : waitsOk impl_Sound.T4.2 impl_Sound.B4 = true := by kernel_rfl
set_option maxHeartbeats 8000000 in
set_option maxRecDepth 100000 in
theorem impl_Sound.calls (k : Nat) (A0_0 : Option Addr) (c0_0 : Nat) (l0_0 : List (S85)) (r : Bool) (w : World) (hr0_0 : Kd.C k85 w A0_0 l0_0.length l0_0) (hc0_0 : l0_0.length ≤ c0_0) (h : impl_Sound.f k l0_0 = some r) :
    Calls Try.prog 59 #[.agg #[.slice A0_0 l0_0.length c0_0]] w fun e w' => e = .returned (.bool r) ∧ Below w.heap.size w w' := by
  have hu72 := Try.underlying72
  have hu85 := Try.underlying85
  have hu60 := Try.underlying60
  have HR0_0 := Aside0.mk hr0_0
  have HC0_0 := Aside0.mk hc0_0
  clear hr0_0 hc0_0
  have HB := Aside0.mk (Below.refl w.heap.size w)
  have H : (impl_Sound.l0 k l0_0 (l0_0.length : Int) 0) = some r := h
  clear h
  have H' := Aside0.mk H
  clear H
  go_enter Try.func59, Try.ntmps59
  go_wp2_with (first | ((with_reducible refine gate_dst (N := 1) rfl ?_); refine box_event ?hg (N := 1) ?hd (cs := #[.slice A0_0 l0_0.length c0_0]) (t := 72) ?hr ?_; (case hd => rfl); (case hg => rfl); (case hr => first | (go_simp; done) | (go_simp; rfl)); intro gb261 hg w2 hbox hb; have n0_ := Aside0.mk (below_step bl_ hb); have n1_ := Aside0.mk (hbox); have n2_ := Aside0.mk ((by rw [hg]; exact (below_size bl_) : w.heap.size ≤ gb261)); have n3_ := Aside0.mk ((by rw [hg]; exact (below_size bl_) : w.heap.size ≤ gb261)); clear HB; have HB := n0_; have BK261 := n1_; have GW261 := n2_; have GE261 := n3_; clear n0_ n1_ n2_ n3_; clear hb hbox hg; have hcz3_0 : w2.cell? ⟨gb261, 0, none⟩ = some (.slice A0_0 l0_0.length c0_0) := (blk_cell BK261.out 0).trans rfl; have hfz3_0 := blk_frozen BK261.out 0))
  go_loopg [10] k (fun kq v10 w' => ∃ (x10_1 : Int), v10 = .int .i64 x10_1 ∧ Aside0 (impl_Sound.l0 kq l0_0 (l0_0.length : Int) x10_1 = some r) ∧ Aside0 (kq ≤ k) ∧ Aside0 (w'.heap[gb261]? = some (.cells #[(.slice A0_0 l0_0.length c0_0)] 72 (0, 0))) ∧ Aside0 (Below w.heap.size w w'))
  case atStart => exact ⟨(0), sp_, H', ⟨Nat.le_refl _⟩, ⟨by (with_reducible repeat (first | refine blk_drewN ?_ _ | refine blk_drew ?_ | refine blk_alloc ?_ _)); exact BK261.out⟩, ⟨bl_⟩⟩
  case round =>
    clear H'
    try clear p2
    try clear hcz3_0
    try clear hfz3_0
    obtain ⟨x10_1, rfl, HA, HK1, BK261, HB⟩ := hrel
    cases gk with
    | zero => exact absurd HA.out (by simp [impl_Sound.l0])
    | succ k1 =>
      have H := HA.out
      clear HA
      simp only [impl_Sound.l0] at H
      by_cases c4 : x10_1 < (l0_0.length : Int)
      · rw [if_pos c4] at H
        have c4b0 : decide (x10_1 < (l0_0.length : Int)) = true := decide_eq_true c4
        clear c4
        by_cases c5 : 0 ≤ x10_1
        · rw [if_pos c5] at H
          have c5b0 : decide (0 ≤ x10_1) = true := decide_eq_true c5
          clear c5
          by_cases c6 : x10_1 < (l0_0.length : Int)
          · rw [if_pos c6] at H
            have c6b0 : decide (x10_1 < (l0_0.length : Int)) = true := decide_eq_true c6
            clear c6
            have HC7 := Aside0.mk H
            clear H
            have p262 : 0 ≤ (x10_1 : Int) := of_decide_eq_true (by first | (with_reducible assumption) | assumption)
            have q262 : x10_1 < (l0_0.length : Int) := of_decide_eq_true (by first | (with_reducible assumption) | assumption)
            obtain ⟨ad262, A262_5, c262_5, A262_8, c262_8, A262_9, c262_9, A262_10, c262_10, e262, hx262_0, hx262_1, hx262_2, hx262_3, hx262_4, hx262_5, hx262_6, hx262_7, hx262_8, hx262_9, hx262_10, hl262_5, hi262_5, hl262_8, hi262_8, hl262_9, hi262_9, hl262_10, hi262_10⟩ := at_T85 HR0_0.out x10_1 p262 q262
            cases e262
            replace hx262_0 := (HB.out.cell (World.block_lt_of_cell? w _ hx262_0)).trans hx262_0
            replace hx262_1 := (HB.out.cell (World.block_lt_of_cell? w _ hx262_1)).trans hx262_1
            replace hx262_2 := (HB.out.cell (World.block_lt_of_cell? w _ hx262_2)).trans hx262_2
            replace hx262_3 := (HB.out.cell (World.block_lt_of_cell? w _ hx262_3)).trans hx262_3
            replace hx262_4 := (HB.out.cell (World.block_lt_of_cell? w _ hx262_4)).trans hx262_4
            replace hx262_5 := (HB.out.cell (World.block_lt_of_cell? w _ hx262_5)).trans hx262_5
            replace hx262_6 := (HB.out.cell (World.block_lt_of_cell? w _ hx262_6)).trans hx262_6
            replace hx262_7 := (HB.out.cell (World.block_lt_of_cell? w _ hx262_7)).trans hx262_7
            replace hx262_8 := (HB.out.cell (World.block_lt_of_cell? w _ hx262_8)).trans hx262_8
            replace hx262_9 := (HB.out.cell (World.block_lt_of_cell? w _ hx262_9)).trans hx262_9
            replace hx262_10 := (HB.out.cell (World.block_lt_of_cell? w _ hx262_10)).trans hx262_10
            have HR262_5 := Aside0.mk hi262_5
            have HC262_5 := Aside0.mk hl262_5
            clear hi262_5 hl262_5
            have HR262_8 := Aside0.mk hi262_8
            have HC262_8 := Aside0.mk hl262_8
            clear hi262_8 hl262_8
            have HR262_9 := Aside0.mk hi262_9
            have HC262_9 := Aside0.mk hl262_9
            clear hi262_9 hl262_9
            have HR262_10 := Aside0.mk hi262_10
            have HC262_10 := Aside0.mk hl262_10
            clear hi262_10 hl262_10
            replace p262 := eq_true p262
            replace q262 := eq_true q262
            go_upto_region 4 with (first | ((with_reducible refine gate_dst (N := 4) rfl ?_); refine box_event ?hg (N := 4) ?hd (cs := #[.string (⟨#[]⟩ : ByteArray), .int .i64 0, .int .i64 0, .int .i64 0, .int .i64 0, .slice none 0 0, .int .i64 0, .int .i64 0, .slice none 0 0, .slice none 0 0, .slice none 0 0]) (t := 85) ?hr ?_; (case hd => rfl); (case hg => rfl); (case hr => first | (go_simp; done) | (go_simp; rfl)); intro gb263 hg w8 hbox hb; have n0_ := Aside0.mk (blk_below (bk_ BK261) hb); have n1_ := Aside0.mk (below_step bl_ hb); have n2_ := Aside0.mk (hbox); have n3_ := Aside0.mk ((by rw [hg]; exact (below_size bl_) : w.heap.size ≤ gb263)); have n4_ := Aside0.mk ((by rw [hg]; exact (below_size bl_) : w.heap.size ≤ gb263)); have n5_ := Aside0.mk ((by rw [hg]; exact Nat.ne_of_lt (blk_lt (bk_ BK261)) : gb261 ≠ gb263)); have n6_ := Aside0.mk ((by rw [hg]; exact Nat.ne_of_gt (blk_lt (bk_ BK261)) : gb263 ≠ gb261)); clear BK261; clear HB; have BK261 := n0_; have HB := n1_; have BK263 := n2_; have GW263 := n3_; have GE263 := n4_; have NB261_263 := n5_; have NB263_261 := n6_; clear n0_ n1_ n2_ n3_ n4_ n5_ n6_; clear hb hbox hg; have hnb9 := NB263_261.out; have hnc9 := NB261_263.out; have hcz10_0 : w8.cell? ⟨gb263, 0, none⟩ = some (.string (⟨#[]⟩ : ByteArray)) := (blk_cell BK263.out 0).trans rfl; have hcz10_1 : w8.cell? ⟨gb263, 1, none⟩ = some (.int .i64 0) := (blk_cell BK263.out 1).trans rfl; have hcz10_2 : w8.cell? ⟨gb263, 2, none⟩ = some (.int .i64 0) := (blk_cell BK263.out 2).trans rfl; have hcz10_3 : w8.cell? ⟨gb263, 3, none⟩ = some (.int .i64 0) := (blk_cell BK263.out 3).trans rfl; have hcz10_4 : w8.cell? ⟨gb263, 4, none⟩ = some (.int .i64 0) := (blk_cell BK263.out 4).trans rfl; have hcz10_5 : w8.cell? ⟨gb263, 5, none⟩ = some (.slice none 0 0) := (blk_cell BK263.out 5).trans rfl; have hcz10_6 : w8.cell? ⟨gb263, 6, none⟩ = some (.int .i64 0) := (blk_cell BK263.out 6).trans rfl; have hcz10_7 : w8.cell? ⟨gb263, 7, none⟩ = some (.int .i64 0) := (blk_cell BK263.out 7).trans rfl; have hcz10_8 : w8.cell? ⟨gb263, 8, none⟩ = some (.slice none 0 0) := (blk_cell BK263.out 8).trans rfl; have hcz10_9 : w8.cell? ⟨gb263, 9, none⟩ = some (.slice none 0 0) := (blk_cell BK263.out 9).trans rfl; have hcz10_10 : w8.cell? ⟨gb263, 10, none⟩ = some (.slice none 0 0) := (blk_cell BK263.out 10).trans rfl; have hfz10_0 := blk_frozen BK263.out 0; have hfz10_1 := blk_frozen BK263.out 1; have hfz10_2 := blk_frozen BK263.out 2; have hfz10_3 := blk_frozen BK263.out 3; have hfz10_4 := blk_frozen BK263.out 4; have hfz10_5 := blk_frozen BK263.out 5; have hfz10_6 := blk_frozen BK263.out 6; have hfz10_7 := blk_frozen BK263.out 7; have hfz10_8 := blk_frozen BK263.out 8; have hfz10_9 := blk_frozen BK263.out 9; have hfz10_10 := blk_frozen BK263.out 10))
            (try simp only [Act.put, List.setIfInBounds_toArray, List.set_cons_zero, List.set_cons_succ])
            go_cut [32] (fun v32 wc => ∃ (kq : Nat) (x32_6 : Bool), v32 = .bool x32_6 ∧ Aside0 (impl_Sound.j1 kq l0_0 (l0_0.length : Int) x10_1 x32_6 ((rd_T85 l0_0 x10_1).f0) ((rd_T85 l0_0 x10_1).f1) ((rd_T85 l0_0 x10_1).f2) ((rd_T85 l0_0 x10_1).f3) ((rd_T85 l0_0 x10_1).f4) ((rd_T85 l0_0 x10_1).f5) ((rd_T85 l0_0 x10_1).f6.f0) ((rd_T85 l0_0 x10_1).f6.f1) ((rd_T85 l0_0 x10_1).f6.f2) ((rd_T85 l0_0 x10_1).f6.f3) ((rd_T85 l0_0 x10_1).f7) = some r) ∧ Aside0 (kq ≤ k1) ∧ Aside0 (wc.heap[gb261]? = some (.cells #[(.slice (some ad262) l0_0.length c0_0)] 72 (0, 0))) ∧ Aside0 (wc.heap[gb263]? = some (.cells #[.string ((rd_T85 l0_0 x10_1).f0), .int .i64 ((rd_T85 l0_0 x10_1).f1), .int .i64 ((rd_T85 l0_0 x10_1).f2), .int .i64 ((rd_T85 l0_0 x10_1).f3), .int .i64 ((rd_T85 l0_0 x10_1).f4), (.slice A262_5 ((rd_T85 l0_0 x10_1).f5).length c262_5), .int .i64 ((rd_T85 l0_0 x10_1).f6.f0), .int .i64 ((rd_T85 l0_0 x10_1).f6.f1), (.slice A262_8 ((rd_T85 l0_0 x10_1).f6.f2).length c262_8), (.slice A262_9 ((rd_T85 l0_0 x10_1).f6.f3).length c262_9), (.slice A262_10 ((rd_T85 l0_0 x10_1).f7).length c262_10)] 85 (0, 0))) ∧ Aside0 (Below w.heap.size w wc))
            case first =>
              have H := HC7.out
              clear HC7
              replace H := Option.bind_eq_some_iff.mp H
              obtain ⟨t264, A110, H⟩ := H
              replace H : ((impl_AddSat.f ((rd_T85 l0_0 x10_1).f2) t264).bind fun t265 => (if t265 > ((rd_T85 l0_0 x10_1).f1) then (impl_Sound.j1 k1 l0_0 (l0_0.length : Int) x10_1 true ((rd_T85 l0_0 x10_1).f0) ((rd_T85 l0_0 x10_1).f1) ((rd_T85 l0_0 x10_1).f2) ((rd_T85 l0_0 x10_1).f3) ((rd_T85 l0_0 x10_1).f4) ((rd_T85 l0_0 x10_1).f5) ((rd_T85 l0_0 x10_1).f6.f0) ((rd_T85 l0_0 x10_1).f6.f1) ((rd_T85 l0_0 x10_1).f6.f2) ((rd_T85 l0_0 x10_1).f6.f3) ((rd_T85 l0_0 x10_1).f7)) else (if ((rd_T85 l0_0 x10_1).f2) < 0 then (impl_Sound.j1 k1 l0_0 (l0_0.length : Int) x10_1 true ((rd_T85 l0_0 x10_1).f0) ((rd_T85 l0_0 x10_1).f1) ((rd_T85 l0_0 x10_1).f2) ((rd_T85 l0_0 x10_1).f3) ((rd_T85 l0_0 x10_1).f4) ((rd_T85 l0_0 x10_1).f5) ((rd_T85 l0_0 x10_1).f6.f0) ((rd_T85 l0_0 x10_1).f6.f1) ((rd_T85 l0_0 x10_1).f6.f2) ((rd_T85 l0_0 x10_1).f6.f3) ((rd_T85 l0_0 x10_1).f7)) else (impl_Sound.j1 k1 l0_0 (l0_0.length : Int) x10_1 (decide (((rd_T85 l0_0 x10_1).f1) < 0)) ((rd_T85 l0_0 x10_1).f0) ((rd_T85 l0_0 x10_1).f1) ((rd_T85 l0_0 x10_1).f2) ((rd_T85 l0_0 x10_1).f3) ((rd_T85 l0_0 x10_1).f4) ((rd_T85 l0_0 x10_1).f5) ((rd_T85 l0_0 x10_1).f6.f0) ((rd_T85 l0_0 x10_1).f6.f1) ((rd_T85 l0_0 x10_1).f6.f2) ((rd_T85 l0_0 x10_1).f6.f3) ((rd_T85 l0_0 x10_1).f7))))) = some r := H
              have A11 := Aside0.mk A110
              clear A110
              replace H := Option.bind_eq_some_iff.mp H
              obtain ⟨t265, A120, H⟩ := H
              replace H : (if t265 > ((rd_T85 l0_0 x10_1).f1) then (impl_Sound.j1 k1 l0_0 (l0_0.length : Int) x10_1 true ((rd_T85 l0_0 x10_1).f0) ((rd_T85 l0_0 x10_1).f1) ((rd_T85 l0_0 x10_1).f2) ((rd_T85 l0_0 x10_1).f3) ((rd_T85 l0_0 x10_1).f4) ((rd_T85 l0_0 x10_1).f5) ((rd_T85 l0_0 x10_1).f6.f0) ((rd_T85 l0_0 x10_1).f6.f1) ((rd_T85 l0_0 x10_1).f6.f2) ((rd_T85 l0_0 x10_1).f6.f3) ((rd_T85 l0_0 x10_1).f7)) else (if ((rd_T85 l0_0 x10_1).f2) < 0 then (impl_Sound.j1 k1 l0_0 (l0_0.length : Int) x10_1 true ((rd_T85 l0_0 x10_1).f0) ((rd_T85 l0_0 x10_1).f1) ((rd_T85 l0_0 x10_1).f2) ((rd_T85 l0_0 x10_1).f3) ((rd_T85 l0_0 x10_1).f4) ((rd_T85 l0_0 x10_1).f5) ((rd_T85 l0_0 x10_1).f6.f0) ((rd_T85 l0_0 x10_1).f6.f1) ((rd_T85 l0_0 x10_1).f6.f2) ((rd_T85 l0_0 x10_1).f6.f3) ((rd_T85 l0_0 x10_1).f7)) else (impl_Sound.j1 k1 l0_0 (l0_0.length : Int) x10_1 (decide (((rd_T85 l0_0 x10_1).f1) < 0)) ((rd_T85 l0_0 x10_1).f0) ((rd_T85 l0_0 x10_1).f1) ((rd_T85 l0_0 x10_1).f2) ((rd_T85 l0_0 x10_1).f3) ((rd_T85 l0_0 x10_1).f4) ((rd_T85 l0_0 x10_1).f5) ((rd_T85 l0_0 x10_1).f6.f0) ((rd_T85 l0_0 x10_1).f6.f1) ((rd_T85 l0_0 x10_1).f6.f2) ((rd_T85 l0_0 x10_1).f6.f3) ((rd_T85 l0_0 x10_1).f7)))) = some r := H
              have A12 := Aside0.mk A120
              clear A120
              by_cases c13 : t265 > ((rd_T85 l0_0 x10_1).f1)
              · rw [if_pos c13] at H
                have c13b0 : decide (((rd_T85 l0_0 x10_1).f1) < t265) = true := decide_eq_true c13
                clear c13
                (first | rw [c13b0] | (simp only [i64_w, i32_w]; rw [c13b0]) | skip)
                have H' := Aside0.mk H
                clear H
                try go_wp2
                have n0_ : Aside0 ((((((((((((w8.setCell ⟨gb263, 0, none⟩ (.string ((rd_T85 l0_0 x10_1).f0))).setCell ⟨gb263, 1, none⟩ (.int .i64 ((rd_T85 l0_0 x10_1).f1))).setCell ⟨gb263, 2, none⟩ (.int .i64 ((rd_T85 l0_0 x10_1).f2))).setCell ⟨gb263, 3, none⟩ (.int .i64 ((rd_T85 l0_0 x10_1).f3))).setCell ⟨gb263, 4, none⟩ (.int .i64 ((rd_T85 l0_0 x10_1).f4))).setCell ⟨gb263, 5, none⟩ (.slice A262_5 ((rd_T85 l0_0 x10_1).f5).length c262_5)).setCell ⟨gb263, 6, none⟩ (.int .i64 ((rd_T85 l0_0 x10_1).f6.f0))).setCell ⟨gb263, 7, none⟩ (.int .i64 ((rd_T85 l0_0 x10_1).f6.f1))).setCell ⟨gb263, 8, none⟩ (.slice A262_8 ((rd_T85 l0_0 x10_1).f6.f2).length c262_8)).setCell ⟨gb263, 9, none⟩ (.slice A262_9 ((rd_T85 l0_0 x10_1).f6.f3).length c262_9)).setCell ⟨gb263, 10, none⟩ (.slice A262_10 ((rd_T85 l0_0 x10_1).f7).length c262_10)).heap[gb261]? = some (.cells #[.slice (some ad262) l0_0.length c0_0] 72 (0, 0))) := ⟨by (with_reducible repeat (first | refine blk_drewN ?_ _ | refine blk_drew ?_ | refine blk_alloc ?_ _)); refine blk_far ?_ NB261_263.out _; (with_reducible repeat (first | refine blk_drewN ?_ _ | refine blk_drew ?_ | refine blk_alloc ?_ _)); refine blk_far ?_ NB261_263.out _; (with_reducible repeat (first | refine blk_drewN ?_ _ | refine blk_drew ?_ | refine blk_alloc ?_ _)); refine blk_far ?_ NB261_263.out _; (with_reducible repeat (first | refine blk_drewN ?_ _ | refine blk_drew ?_ | refine blk_alloc ?_ _)); refine blk_far ?_ NB261_263.out _; (with_reducible repeat (first | refine blk_drewN ?_ _ | refine blk_drew ?_ | refine blk_alloc ?_ _)); refine blk_far ?_ NB261_263.out _; (with_reducible repeat (first | refine blk_drewN ?_ _ | refine blk_drew ?_ | refine blk_alloc ?_ _)); refine blk_far ?_ NB261_263.out _; (with_reducible repeat (first | refine blk_drewN ?_ _ | refine blk_drew ?_ | refine blk_alloc ?_ _)); refine blk_far ?_ NB261_263.out _; (with_reducible repeat (first | refine blk_drewN ?_ _ | refine blk_drew ?_ | refine blk_alloc ?_ _)); refine blk_far ?_ NB261_263.out _; (with_reducible repeat (first | refine blk_drewN ?_ _ | refine blk_drew ?_ | refine blk_alloc ?_ _)); refine blk_far ?_ NB261_263.out _; (with_reducible repeat (first | refine blk_drewN ?_ _ | refine blk_drew ?_ | refine blk_alloc ?_ _)); refine blk_far ?_ NB261_263.out _; (with_reducible repeat (first | refine blk_drewN ?_ _ | refine blk_drew ?_ | refine blk_alloc ?_ _)); refine blk_far ?_ NB261_263.out _; (with_reducible repeat (first | refine blk_drewN ?_ _ | refine blk_drew ?_ | refine blk_alloc ?_ _)); exact BK261.out⟩
                have n1_ : Aside0 ((((((((((((w8.setCell ⟨gb263, 0, none⟩ (.string ((rd_T85 l0_0 x10_1).f0))).setCell ⟨gb263, 1, none⟩ (.int .i64 ((rd_T85 l0_0 x10_1).f1))).setCell ⟨gb263, 2, none⟩ (.int .i64 ((rd_T85 l0_0 x10_1).f2))).setCell ⟨gb263, 3, none⟩ (.int .i64 ((rd_T85 l0_0 x10_1).f3))).setCell ⟨gb263, 4, none⟩ (.int .i64 ((rd_T85 l0_0 x10_1).f4))).setCell ⟨gb263, 5, none⟩ (.slice A262_5 ((rd_T85 l0_0 x10_1).f5).length c262_5)).setCell ⟨gb263, 6, none⟩ (.int .i64 ((rd_T85 l0_0 x10_1).f6.f0))).setCell ⟨gb263, 7, none⟩ (.int .i64 ((rd_T85 l0_0 x10_1).f6.f1))).setCell ⟨gb263, 8, none⟩ (.slice A262_8 ((rd_T85 l0_0 x10_1).f6.f2).length c262_8)).setCell ⟨gb263, 9, none⟩ (.slice A262_9 ((rd_T85 l0_0 x10_1).f6.f3).length c262_9)).setCell ⟨gb263, 10, none⟩ (.slice A262_10 ((rd_T85 l0_0 x10_1).f7).length c262_10)).heap[gb263]? = some (.cells #[.string ((rd_T85 l0_0 x10_1).f0), .int .i64 ((rd_T85 l0_0 x10_1).f1), .int .i64 ((rd_T85 l0_0 x10_1).f2), .int .i64 ((rd_T85 l0_0 x10_1).f3), .int .i64 ((rd_T85 l0_0 x10_1).f4), .slice A262_5 ((rd_T85 l0_0 x10_1).f5).length c262_5, .int .i64 ((rd_T85 l0_0 x10_1).f6.f0), .int .i64 ((rd_T85 l0_0 x10_1).f6.f1), .slice A262_8 ((rd_T85 l0_0 x10_1).f6.f2).length c262_8, .slice A262_9 ((rd_T85 l0_0 x10_1).f6.f3).length c262_9, .slice A262_10 ((rd_T85 l0_0 x10_1).f7).length c262_10] 85 (0, 0))) := ⟨by (with_reducible repeat (first | refine blk_drewN ?_ _ | refine blk_drew ?_ | refine blk_alloc ?_ _)); refine blk_put (cs := #[.string ((rd_T85 l0_0 x10_1).f0), .int .i64 ((rd_T85 l0_0 x10_1).f1), .int .i64 ((rd_T85 l0_0 x10_1).f2), .int .i64 ((rd_T85 l0_0 x10_1).f3), .int .i64 ((rd_T85 l0_0 x10_1).f4), .slice A262_5 ((rd_T85 l0_0 x10_1).f5).length c262_5, .int .i64 ((rd_T85 l0_0 x10_1).f6.f0), .int .i64 ((rd_T85 l0_0 x10_1).f6.f1), .slice A262_8 ((rd_T85 l0_0 x10_1).f6.f2).length c262_8, .slice A262_9 ((rd_T85 l0_0 x10_1).f6.f3).length c262_9, .slice none 0 0]) ?_ 10 _ rfl; (with_reducible repeat (first | refine blk_drewN ?_ _ | refine blk_drew ?_ | refine blk_alloc ?_ _)); refine blk_put (cs := #[.string ((rd_T85 l0_0 x10_1).f0), .int .i64 ((rd_T85 l0_0 x10_1).f1), .int .i64 ((rd_T85 l0_0 x10_1).f2), .int .i64 ((rd_T85 l0_0 x10_1).f3), .int .i64 ((rd_T85 l0_0 x10_1).f4), .slice A262_5 ((rd_T85 l0_0 x10_1).f5).length c262_5, .int .i64 ((rd_T85 l0_0 x10_1).f6.f0), .int .i64 ((rd_T85 l0_0 x10_1).f6.f1), .slice A262_8 ((rd_T85 l0_0 x10_1).f6.f2).length c262_8, .slice none 0 0, .slice none 0 0]) ?_ 9 _ rfl; (with_reducible repeat (first | refine blk_drewN ?_ _ | refine blk_drew ?_ | refine blk_alloc ?_ _)); refine blk_put (cs := #[.string ((rd_T85 l0_0 x10_1).f0), .int .i64 ((rd_T85 l0_0 x10_1).f1), .int .i64 ((rd_T85 l0_0 x10_1).f2), .int .i64 ((rd_T85 l0_0 x10_1).f3), .int .i64 ((rd_T85 l0_0 x10_1).f4), .slice A262_5 ((rd_T85 l0_0 x10_1).f5).length c262_5, .int .i64 ((rd_T85 l0_0 x10_1).f6.f0), .int .i64 ((rd_T85 l0_0 x10_1).f6.f1), .slice none 0 0, .slice none 0 0, .slice none 0 0]) ?_ 8 _ rfl; (with_reducible repeat (first | refine blk_drewN ?_ _ | refine blk_drew ?_ | refine blk_alloc ?_ _)); refine blk_put (cs := #[.string ((rd_T85 l0_0 x10_1).f0), .int .i64 ((rd_T85 l0_0 x10_1).f1), .int .i64 ((rd_T85 l0_0 x10_1).f2), .int .i64 ((rd_T85 l0_0 x10_1).f3), .int .i64 ((rd_T85 l0_0 x10_1).f4), .slice A262_5 ((rd_T85 l0_0 x10_1).f5).length c262_5, .int .i64 ((rd_T85 l0_0 x10_1).f6.f0), .int .i64 0, .slice none 0 0, .slice none 0 0, .slice none 0 0]) ?_ 7 _ rfl; (with_reducible repeat (first | refine blk_drewN ?_ _ | refine blk_drew ?_ | refine blk_alloc ?_ _)); refine blk_put (cs := #[.string ((rd_T85 l0_0 x10_1).f0), .int .i64 ((rd_T85 l0_0 x10_1).f1), .int .i64 ((rd_T85 l0_0 x10_1).f2), .int .i64 ((rd_T85 l0_0 x10_1).f3), .int .i64 ((rd_T85 l0_0 x10_1).f4), .slice A262_5 ((rd_T85 l0_0 x10_1).f5).length c262_5, .int .i64 0, .int .i64 0, .slice none 0 0, .slice none 0 0, .slice none 0 0]) ?_ 6 _ rfl; (with_reducible repeat (first | refine blk_drewN ?_ _ | refine blk_drew ?_ | refine blk_alloc ?_ _)); refine blk_put (cs := #[.string ((rd_T85 l0_0 x10_1).f0), .int .i64 ((rd_T85 l0_0 x10_1).f1), .int .i64 ((rd_T85 l0_0 x10_1).f2), .int .i64 ((rd_T85 l0_0 x10_1).f3), .int .i64 ((rd_T85 l0_0 x10_1).f4), .slice none 0 0, .int .i64 0, .int .i64 0, .slice none 0 0, .slice none 0 0, .slice none 0 0]) ?_ 5 _ rfl; (with_reducible repeat (first | refine blk_drewN ?_ _ | refine blk_drew ?_ | refine blk_alloc ?_ _)); refine blk_put (cs := #[.string ((rd_T85 l0_0 x10_1).f0), .int .i64 ((rd_T85 l0_0 x10_1).f1), .int .i64 ((rd_T85 l0_0 x10_1).f2), .int .i64 ((rd_T85 l0_0 x10_1).f3), .int .i64 0, .slice none 0 0, .int .i64 0, .int .i64 0, .slice none 0 0, .slice none 0 0, .slice none 0 0]) ?_ 4 _ rfl; (with_reducible repeat (first | refine blk_drewN ?_ _ | refine blk_drew ?_ | refine blk_alloc ?_ _)); refine blk_put (cs := #[.string ((rd_T85 l0_0 x10_1).f0), .int .i64 ((rd_T85 l0_0 x10_1).f1), .int .i64 ((rd_T85 l0_0 x10_1).f2), .int .i64 0, .int .i64 0, .slice none 0 0, .int .i64 0, .int .i64 0, .slice none 0 0, .slice none 0 0, .slice none 0 0]) ?_ 3 _ rfl; (with_reducible repeat (first | refine blk_drewN ?_ _ | refine blk_drew ?_ | refine blk_alloc ?_ _)); refine blk_put (cs := #[.string ((rd_T85 l0_0 x10_1).f0), .int .i64 ((rd_T85 l0_0 x10_1).f1), .int .i64 0, .int .i64 0, .int .i64 0, .slice none 0 0, .int .i64 0, .int .i64 0, .slice none 0 0, .slice none 0 0, .slice none 0 0]) ?_ 2 _ rfl; (with_reducible repeat (first | refine blk_drewN ?_ _ | refine blk_drew ?_ | refine blk_alloc ?_ _)); refine blk_put (cs := #[.string ((rd_T85 l0_0 x10_1).f0), .int .i64 0, .int .i64 0, .int .i64 0, .int .i64 0, .slice none 0 0, .int .i64 0, .int .i64 0, .slice none 0 0, .slice none 0 0, .slice none 0 0]) ?_ 1 _ rfl; (with_reducible repeat (first | refine blk_drewN ?_ _ | refine blk_drew ?_ | refine blk_alloc ?_ _)); refine blk_put (cs := #[.string (⟨#[]⟩ : ByteArray), .int .i64 0, .int .i64 0, .int .i64 0, .int .i64 0, .slice none 0 0, .int .i64 0, .int .i64 0, .slice none 0 0, .slice none 0 0, .slice none 0 0]) ?_ 0 _ rfl; (with_reducible repeat (first | refine blk_drewN ?_ _ | refine blk_drew ?_ | refine blk_alloc ?_ _)); exact BK263.out⟩
                have n2_ : Aside0 (Below w.heap.size w (((((((((((w8.setCell ⟨gb263, 0, none⟩ (.string ((rd_T85 l0_0 x10_1).f0))).setCell ⟨gb263, 1, none⟩ (.int .i64 ((rd_T85 l0_0 x10_1).f1))).setCell ⟨gb263, 2, none⟩ (.int .i64 ((rd_T85 l0_0 x10_1).f2))).setCell ⟨gb263, 3, none⟩ (.int .i64 ((rd_T85 l0_0 x10_1).f3))).setCell ⟨gb263, 4, none⟩ (.int .i64 ((rd_T85 l0_0 x10_1).f4))).setCell ⟨gb263, 5, none⟩ (.slice A262_5 ((rd_T85 l0_0 x10_1).f5).length c262_5)).setCell ⟨gb263, 6, none⟩ (.int .i64 ((rd_T85 l0_0 x10_1).f6.f0))).setCell ⟨gb263, 7, none⟩ (.int .i64 ((rd_T85 l0_0 x10_1).f6.f1))).setCell ⟨gb263, 8, none⟩ (.slice A262_8 ((rd_T85 l0_0 x10_1).f6.f2).length c262_8)).setCell ⟨gb263, 9, none⟩ (.slice A262_9 ((rd_T85 l0_0 x10_1).f6.f3).length c262_9)).setCell ⟨gb263, 10, none⟩ (.slice A262_10 ((rd_T85 l0_0 x10_1).f7).length c262_10))) := ⟨bl_⟩
                (try clear BK261)
                (try clear BK263)
                (try clear HB)
                generalize (((((((((((w8.setCell ⟨gb263, 0, none⟩ (.string ((rd_T85 l0_0 x10_1).f0))).setCell ⟨gb263, 1, none⟩ (.int .i64 ((rd_T85 l0_0 x10_1).f1))).setCell ⟨gb263, 2, none⟩ (.int .i64 ((rd_T85 l0_0 x10_1).f2))).setCell ⟨gb263, 3, none⟩ (.int .i64 ((rd_T85 l0_0 x10_1).f3))).setCell ⟨gb263, 4, none⟩ (.int .i64 ((rd_T85 l0_0 x10_1).f4))).setCell ⟨gb263, 5, none⟩ (.slice A262_5 ((rd_T85 l0_0 x10_1).f5).length c262_5)).setCell ⟨gb263, 6, none⟩ (.int .i64 ((rd_T85 l0_0 x10_1).f6.f0))).setCell ⟨gb263, 7, none⟩ (.int .i64 ((rd_T85 l0_0 x10_1).f6.f1))).setCell ⟨gb263, 8, none⟩ (.slice A262_8 ((rd_T85 l0_0 x10_1).f6.f2).length c262_8)).setCell ⟨gb263, 9, none⟩ (.slice A262_9 ((rd_T85 l0_0 x10_1).f6.f3).length c262_9)).setCell ⟨gb263, 10, none⟩ (.slice A262_10 ((rd_T85 l0_0 x10_1).f7).length c262_10)) = w14 at n0_ n1_ n2_ ⊢
                have BK261 := n0_
                have BK263 := n1_
                have HB := n2_
                clear n0_ n1_ n2_
                have n0_ := Aside0.mk (blk_drew BK261.out)
                have n1_ := Aside0.mk (blk_drew BK263.out)
                have n2_ := Aside0.mk (below_drew1 HB.out)
                clear BK261
                clear BK263
                clear HB
                have BK261 := n0_
                have BK263 := n1_
                have HB := n2_
                clear n0_ n1_ n2_
                refine start_ (n := 19) (S := fun w' => w'.cell? ⟨gb263, 0, none⟩ = some (.string ((rd_T85 l0_0 x10_1).f0)) ∧ w'.cell? ⟨gb263, 1, none⟩ = some (.int .i64 ((rd_T85 l0_0 x10_1).f1)) ∧ w'.cell? ⟨gb263, 2, none⟩ = some (.int .i64 ((rd_T85 l0_0 x10_1).f2)) ∧ w'.cell? ⟨gb263, 3, none⟩ = some (.int .i64 ((rd_T85 l0_0 x10_1).f3)) ∧ w'.cell? ⟨gb263, 4, none⟩ = some (.int .i64 ((rd_T85 l0_0 x10_1).f4)) ∧ w'.cell? ⟨gb263, 5, none⟩ = some (.slice A262_5 ((rd_T85 l0_0 x10_1).f5).length c262_5) ∧ w'.cell? ⟨gb263, 6, none⟩ = some (.int .i64 ((rd_T85 l0_0 x10_1).f6.f0)) ∧ w'.cell? ⟨gb263, 7, none⟩ = some (.int .i64 ((rd_T85 l0_0 x10_1).f6.f1)) ∧ w'.cell? ⟨gb263, 8, none⟩ = some (.slice A262_8 ((rd_T85 l0_0 x10_1).f6.f2).length c262_8) ∧ w'.cell? ⟨gb263, 9, none⟩ = some (.slice A262_9 ((rd_T85 l0_0 x10_1).f6.f3).length c262_9) ∧ w'.cell? ⟨gb263, 10, none⟩ = some (.slice A262_10 ((rd_T85 l0_0 x10_1).f7).length c262_10)) (ds := []) #[false, false, false, false, false, false, false, false, false, false, false, false, false, false, false, false, false, false, false] (by kernel_rfl) rfl rfl ⟨(blk_cell BK263.out 0).trans rfl, (blk_cell BK263.out 1).trans rfl, (blk_cell BK263.out 2).trans rfl, (blk_cell BK263.out 3).trans rfl, (blk_cell BK263.out 4).trans rfl, (blk_cell BK263.out 5).trans rfl, (blk_cell BK263.out 6).trans rfl, (blk_cell BK263.out 7).trans rfl, (blk_cell BK263.out 8).trans rfl, (blk_cell BK263.out 9).trans rfl, (blk_cell BK263.out 10).trans rfl⟩ (fun hHeld => ?_); refine with_tabW impl_Sound.tab4 impl_Sound.bits4 (fun HT_ HW_ => ?_)
                generalize w14.drew = w15 at BK261 BK263 HB hHeld ⊢
                refine pure_ (i := 0) (N := some 14) (v := ?_) (a' := ?_) #[true, false, false, false, false, false, false, false, false, false, false, false, false, false, false, false, false, false, false] rfl rfl (any_of HT_.out (by kernel_rfl)) (fun _ _ _ h => h) (Or.inl ⟨by rfl, ?_⟩) ?_ ?_
                rotate_left
                · intro w'
                  go_simp
                  with_reducible rfl
                rotate_left
                · simp only [Act.put, List.setIfInBounds_toArray, List.set_cons_zero, List.set_cons_succ, i64_w, i32_w]
                  rfl
                refine pure_ (i := 2) (N := some 16) (v := ?_) (a' := ?_) #[true, false, true, false, false, false, false, false, false, false, false, false, false, false, false, false, false, false, false] rfl rfl (any_of HT_.out (by kernel_rfl)) (fun _ _ _ h => h) (Or.inl ⟨by rfl, ?_⟩) ?_ ?_
                rotate_left
                · intro w'
                  go_simp
                  with_reducible rfl
                rotate_left
                · simp only [Act.put, List.setIfInBounds_toArray, List.set_cons_zero, List.set_cons_succ, i64_w, i32_w]
                  rfl
                refine pure_ (i := 6) (N := some 20) (v := ?_) (a' := ?_) #[true, false, true, false, false, false, true, false, false, false, false, false, false, false, false, false, false, false, false] rfl rfl (any_of HT_.out (by kernel_rfl)) (fun _ _ _ h => h) (Or.inl ⟨by rfl, ?_⟩) ?_ ?_
                rotate_left
                · intro w'
                  go_simp
                  with_reducible rfl
                rotate_left
                · simp only [Act.put, List.setIfInBounds_toArray, List.set_cons_zero, List.set_cons_succ, i64_w, i32_w]
                  rfl
                refine take_ (i := 1) (N := some 15) (v := ?_) (a' := ?_) #[true, true, true, false, false, false, true, false, false, false, false, false, false, false, false, false, false, false, false] rfl rfl (take_ofW HT_.out HW_.out (by kernel_rfl)) (fun _ _ _ h => h) (Or.inl ⟨by rfl, ?_⟩) hHeld ?_ ?_
                rotate_left
                · rintro w' ⟨s0, s1, s2, s3, s4, s5, s6, s7, s8, s9, s10⟩
                  go_simp
                  with_reducible rfl
                rotate_left
                · simp only [Act.put, List.setIfInBounds_toArray, List.set_cons_zero, List.set_cons_succ, i64_w, i32_w]
                  rfl
                refine take_ (i := 3) (N := some 17) (v := ?_) (a' := ?_) #[true, true, true, true, false, false, true, false, false, false, false, false, false, false, false, false, false, false, false] rfl rfl (take_ofW HT_.out HW_.out (by kernel_rfl)) (fun _ _ _ h => h) (Or.inl ⟨by rfl, ?_⟩) hHeld ?_ ?_
                rotate_left
                · rintro w' ⟨s0, s1, s2, s3, s4, s5, s6, s7, s8, s9, s10⟩
                  go_simp
                  with_reducible rfl
                rotate_left
                · simp only [Act.put, List.setIfInBounds_toArray, List.set_cons_zero, List.set_cons_succ, i64_w, i32_w]
                  rfl
                refine take_ (i := 7) (N := some 21) (v := ?_) (a' := ?_) #[true, true, true, true, false, false, true, true, false, false, false, false, false, false, false, false, false, false, false] rfl rfl (take_ofW HT_.out HW_.out (by kernel_rfl)) (fun _ _ _ h => h) (Or.inl ⟨by rfl, ?_⟩) hHeld ?_ ?_
                rotate_left
                · rintro w' ⟨s0, s1, s2, s3, s4, s5, s6, s7, s8, s9, s10⟩
                  go_simp
                  with_reducible rfl
                rotate_left
                · simp only [Act.put, List.setIfInBounds_toArray, List.set_cons_zero, List.set_cons_succ, i64_w, i32_w]
                  rfl
                refine one_ (i := 4) (N := some 18) #[true, true, true, true, true, false, true, true, false, false, false, false, false, false, false, false, false, false, false] rfl rfl (one_of HT_.out (by kernel_rfl)) (by decide) (fun K hK => ?_)
                refine goes_ Try.func121 (by kernel_rfl) rfl #[.slice A262_5 ((rd_T85 l0_0 x10_1).f5).length c262_5] (by rfl) rfl rfl (by (try simp only [List.map_toArray, List.map_cons, List.map_nil]); first | done | rfl | (simp only [List.length_drop, List.length_take]; rfl)) ?_
                with_reducible refine (impl_Stored.calls k1 _ _ ((rd_T85 l0_0 x10_1).f5) t264 _ ?side1 ?side2 A11.out).mono ?_
                (case side1 => repeat (first | exact (Kd.C_below HR262_5.out HB.out) | (with_reducible refine Kd.C_alloc ?_ _) | (with_reducible refine Kd.C_drewN ?_ _) | (with_reducible refine Kd.C_drew ?_)))
                (case side2 => exact HC262_5.out)
                rintro e w16 ⟨rfl, hb⟩
                refine ⟨_, rfl, ?_⟩
                have n0_ := Aside0.mk (blk_below (bk_ BK261) hb)
                have n1_ := Aside0.mk (blk_below (bk_ BK263) hb)
                have n2_ := Aside0.mk (below_step bl_ hb)
                clear BK261
                clear BK263
                clear HB
                have BK261 := n0_
                have BK263 := n1_
                have HB := n2_
                clear n0_ n1_ n2_
                (try clear hb)
                (try clear hb2)
                (try clear hk)
                (try clear hi)
                refine hK.out _ _ ⟨(blk_cell BK263.out 0).trans rfl, (blk_cell BK263.out 1).trans rfl, (blk_cell BK263.out 2).trans rfl, (blk_cell BK263.out 3).trans rfl, (blk_cell BK263.out 4).trans rfl, (blk_cell BK263.out 5).trans rfl, (blk_cell BK263.out 6).trans rfl, (blk_cell BK263.out 7).trans rfl, (blk_cell BK263.out 8).trans rfl, (blk_cell BK263.out 9).trans rfl, (blk_cell BK263.out 10).trans rfl⟩ (fun hHeld => ?_)
                clear hK K
                refine norm_ (a' := ?_) ?_ ?_
                rotate_left
                · show Act.put _ (some 18) _ = _
                  simp only [Act.put, List.setIfInBounds_toArray, List.set_cons_zero, List.set_cons_succ, i64_w, i32_w]
                  rfl
                refine one_ (i := 5) (N := some 19) #[true, true, true, true, true, true, true, true, false, false, false, false, false, false, false, false, false, false, false] rfl rfl (one_of HT_.out (by kernel_rfl)) (by decide) (fun K hK => ?_)
                refine goes_ Try.func119 (by kernel_rfl) rfl #[.int .i64 ((rd_T85 l0_0 x10_1).f2), .int .i64 t264] (by rfl) rfl rfl (by (try simp only [List.map_toArray, List.map_cons, List.map_nil]); first | done | rfl | (simp only [List.length_drop, List.length_take]; rfl)) ?_
                with_reducible refine (impl_AddSat.calls ((rd_T85 l0_0 x10_1).f2) t264 t265 _ A12.out).mono ?_
                rintro e w17 ⟨rfl, hb⟩
                refine ⟨_, rfl, ?_⟩
                have n0_ := Aside0.mk (blk_below (bk_ BK261) hb)
                have n1_ := Aside0.mk (blk_below (bk_ BK263) hb)
                have n2_ := Aside0.mk (below_step bl_ hb)
                clear BK261
                clear BK263
                clear HB
                have BK261 := n0_
                have BK263 := n1_
                have HB := n2_
                clear n0_ n1_ n2_
                (try clear hb)
                (try clear hb2)
                (try clear hk)
                (try clear hi)
                refine hK.out _ _ ⟨(blk_cell BK263.out 0).trans rfl, (blk_cell BK263.out 1).trans rfl, (blk_cell BK263.out 2).trans rfl, (blk_cell BK263.out 3).trans rfl, (blk_cell BK263.out 4).trans rfl, (blk_cell BK263.out 5).trans rfl, (blk_cell BK263.out 6).trans rfl, (blk_cell BK263.out 7).trans rfl, (blk_cell BK263.out 8).trans rfl, (blk_cell BK263.out 9).trans rfl, (blk_cell BK263.out 10).trans rfl⟩ (fun hHeld => ?_)
                clear hK K
                refine norm_ (a' := ?_) ?_ ?_
                rotate_left
                · show Act.put _ (some 19) _ = _
                  simp only [Act.put, List.setIfInBounds_toArray, List.set_cons_zero, List.set_cons_succ, i64_w, i32_w]
                  rfl
                refine pure_ (i := 8) (N := some 22) (v := ?_) (a' := ?_) #[true, true, true, true, true, true, true, true, true, false, false, false, false, false, false, false, false, false, false] rfl rfl (any_of HT_.out (by kernel_rfl)) (fun _ _ _ h => h) (Or.inl ⟨by rfl, ?_⟩) ?_ ?_
                rotate_left
                · intro w'
                  go_simp
                  with_reducible rfl
                rotate_left
                · simp only [Act.put, List.setIfInBounds_toArray, List.set_cons_zero, List.set_cons_succ, i64_w, i32_w]
                  rfl
                refine pure_ (i := 9) (N := some 23) (v := ?_) (a' := ?_) #[true, true, true, true, true, true, true, true, true, true, false, false, false, false, false, false, false, false, false] rfl rfl (any_of HT_.out (by kernel_rfl)) (fun _ _ _ h => h) (Or.inl ⟨by rfl, ?_⟩) ?_ ?_
                rotate_left
                · intro w'
                  go_simp
                  with_reducible rfl
                rotate_left
                · simp only [Act.put, List.setIfInBounds_toArray, List.set_cons_zero, List.set_cons_succ, i64_w, i32_w]
                  rfl
                refine pure_ (i := 10) (N := some 24) (v := undef) (a' := ?_) #[true, true, true, true, true, true, true, true, true, true, true, false, false, false, false, false, false, false, false] rfl rfl (any_of HT_.out (by kernel_rfl)) (fun _ _ _ h => h) (Or.inr ⟨by rfl, rfl⟩) ?_ ?_
                rotate_left
                · simp only [Act.put, List.setIfInBounds_toArray, List.set_cons_zero, List.set_cons_succ, i64_w, i32_w]
                  rfl
                refine pure_ (i := 11) (N := some 25) (v := undef) (a' := ?_) #[true, true, true, true, true, true, true, true, true, true, true, true, false, false, false, false, false, false, false] rfl rfl (any_of HT_.out (by kernel_rfl)) (fun _ _ _ h => h) (Or.inr ⟨by rfl, rfl⟩) ?_ ?_
                rotate_left
                · simp only [Act.put, List.setIfInBounds_toArray, List.set_cons_zero, List.set_cons_succ, i64_w, i32_w]
                  rfl
                refine pure_ (i := 12) (N := some 26) (v := undef) (a' := ?_) #[true, true, true, true, true, true, true, true, true, true, true, true, true, false, false, false, false, false, false] rfl rfl (any_of HT_.out (by kernel_rfl)) (fun _ _ _ h => h) (Or.inr ⟨by rfl, rfl⟩) ?_ ?_
                rotate_left
                · simp only [Act.put, List.setIfInBounds_toArray, List.set_cons_zero, List.set_cons_succ, i64_w, i32_w]
                  rfl
                refine pure_ (i := 13) (N := some 27) (v := ?_) (a' := ?_) #[true, true, true, true, true, true, true, true, true, true, true, true, true, true, false, false, false, false, false] rfl rfl (any_of HT_.out (by kernel_rfl)) (fun _ _ _ h => h) (Or.inl ⟨by rfl, ?_⟩) ?_ ?_
                rotate_left
                · intro w'
                  go_simp
                  with_reducible rfl
                rotate_left
                · simp only [Act.put, List.setIfInBounds_toArray, List.set_cons_zero, List.set_cons_succ, i64_w, i32_w]
                  rfl
                refine pure_ (i := 14) (N := some 28) (v := ?_) (a' := ?_) #[true, true, true, true, true, true, true, true, true, true, true, true, true, true, true, false, false, false, false] rfl rfl (any_of HT_.out (by kernel_rfl)) (fun _ _ _ h => h) (Or.inl ⟨by rfl, ?_⟩) ?_ ?_
                rotate_left
                · intro w'
                  go_simp
                  with_reducible rfl
                rotate_left
                · simp only [Act.put, List.setIfInBounds_toArray, List.set_cons_zero, List.set_cons_succ, i64_w, i32_w]
                  rfl
                refine pure_ (i := 15) (N := some 29) (v := undef) (a' := ?_) #[true, true, true, true, true, true, true, true, true, true, true, true, true, true, true, true, false, false, false] rfl rfl (any_of HT_.out (by kernel_rfl)) (fun _ _ _ h => h) (Or.inr ⟨by rfl, rfl⟩) ?_ ?_
                rotate_left
                · simp only [Act.put, List.setIfInBounds_toArray, List.set_cons_zero, List.set_cons_succ, i64_w, i32_w]
                  rfl
                refine pure_ (i := 16) (N := some 30) (v := undef) (a' := ?_) #[true, true, true, true, true, true, true, true, true, true, true, true, true, true, true, true, true, false, false] rfl rfl (any_of HT_.out (by kernel_rfl)) (fun _ _ _ h => h) (Or.inr ⟨by rfl, rfl⟩) ?_ ?_
                rotate_left
                · simp only [Act.put, List.setIfInBounds_toArray, List.set_cons_zero, List.set_cons_succ, i64_w, i32_w]
                  rfl
                refine pure_ (i := 17) (N := some 31) (v := undef) (a' := ?_) #[true, true, true, true, true, true, true, true, true, true, true, true, true, true, true, true, true, true, false] rfl rfl (any_of HT_.out (by kernel_rfl)) (fun _ _ _ h => h) (Or.inr ⟨by rfl, rfl⟩) ?_ ?_
                rotate_left
                · simp only [Act.put, List.setIfInBounds_toArray, List.set_cons_zero, List.set_cons_succ, i64_w, i32_w]
                  rfl
                refine pure_ (i := 18) (N := some 32) (v := ?_) (a' := ?_) #[true, true, true, true, true, true, true, true, true, true, true, true, true, true, true, true, true, true, true] rfl rfl (any_of HT_.out (by kernel_rfl)) (fun _ _ _ h => h) (Or.inl ⟨by rfl, ?_⟩) ?_ ?_
                rotate_left
                · intro w'
                  go_simp
                  with_reducible rfl
                rotate_left
                · simp only [Act.put, List.setIfInBounds_toArray, List.set_cons_zero, List.set_cons_succ, i64_w, i32_w]
                  rfl
                refine done_ (done_of HT_.out (by kernel_rfl)) ?_
                try go_wp2
                go_meet
                case rel => exact ⟨_, (true), sp_, H', ⟨by have := HK1.out; first | omega | exact Nat.le_refl _⟩, ⟨by (with_reducible repeat (first | refine blk_drewN ?_ _ | refine blk_drew ?_ | refine blk_alloc ?_ _)); exact BK261.out⟩, ⟨by (with_reducible repeat (first | refine blk_drewN ?_ _ | refine blk_drew ?_ | refine blk_alloc ?_ _)); exact BK263.out⟩, ⟨bl_⟩⟩
              · rw [if_neg c13] at H
                have c13b0 : decide (((rd_T85 l0_0 x10_1).f1) < t265) = false := decide_eq_false c13
                clear c13
                (first | rw [c13b0] | (simp only [i64_w, i32_w]; rw [c13b0]) | skip)
                by_cases c18 : ((rd_T85 l0_0 x10_1).f2) < 0
                · rw [if_pos c18] at H
                  have c18b0 : decide (((rd_T85 l0_0 x10_1).f2) < 0) = true := decide_eq_true c18
                  clear c18
                  have H' := Aside0.mk H
                  clear H
                  try go_wp2
                  have n0_ : Aside0 ((((((((((((w8.setCell ⟨gb263, 0, none⟩ (.string ((rd_T85 l0_0 x10_1).f0))).setCell ⟨gb263, 1, none⟩ (.int .i64 ((rd_T85 l0_0 x10_1).f1))).setCell ⟨gb263, 2, none⟩ (.int .i64 ((rd_T85 l0_0 x10_1).f2))).setCell ⟨gb263, 3, none⟩ (.int .i64 ((rd_T85 l0_0 x10_1).f3))).setCell ⟨gb263, 4, none⟩ (.int .i64 ((rd_T85 l0_0 x10_1).f4))).setCell ⟨gb263, 5, none⟩ (.slice A262_5 ((rd_T85 l0_0 x10_1).f5).length c262_5)).setCell ⟨gb263, 6, none⟩ (.int .i64 ((rd_T85 l0_0 x10_1).f6.f0))).setCell ⟨gb263, 7, none⟩ (.int .i64 ((rd_T85 l0_0 x10_1).f6.f1))).setCell ⟨gb263, 8, none⟩ (.slice A262_8 ((rd_T85 l0_0 x10_1).f6.f2).length c262_8)).setCell ⟨gb263, 9, none⟩ (.slice A262_9 ((rd_T85 l0_0 x10_1).f6.f3).length c262_9)).setCell ⟨gb263, 10, none⟩ (.slice A262_10 ((rd_T85 l0_0 x10_1).f7).length c262_10)).heap[gb261]? = some (.cells #[.slice (some ad262) l0_0.length c0_0] 72 (0, 0))) := ⟨by (with_reducible repeat (first | refine blk_drewN ?_ _ | refine blk_drew ?_ | refine blk_alloc ?_ _)); refine blk_far ?_ NB261_263.out _; (with_reducible repeat (first | refine blk_drewN ?_ _ | refine blk_drew ?_ | refine blk_alloc ?_ _)); refine blk_far ?_ NB261_263.out _; (with_reducible repeat (first | refine blk_drewN ?_ _ | refine blk_drew ?_ | refine blk_alloc ?_ _)); refine blk_far ?_ NB261_263.out _; (with_reducible repeat (first | refine blk_drewN ?_ _ | refine blk_drew ?_ | refine blk_alloc ?_ _)); refine blk_far ?_ NB261_263.out _; (with_reducible repeat (first | refine blk_drewN ?_ _ | refine blk_drew ?_ | refine blk_alloc ?_ _)); refine blk_far ?_ NB261_263.out _; (with_reducible repeat (first | refine blk_drewN ?_ _ | refine blk_drew ?_ | refine blk_alloc ?_ _)); refine blk_far ?_ NB261_263.out _; (with_reducible repeat (first | refine blk_drewN ?_ _ | refine blk_drew ?_ | refine blk_alloc ?_ _)); refine blk_far ?_ NB261_263.out _; (with_reducible repeat (first | refine blk_drewN ?_ _ | refine blk_drew ?_ | refine blk_alloc ?_ _)); refine blk_far ?_ NB261_263.out _; (with_reducible repeat (first | refine blk_drewN ?_ _ | refine blk_drew ?_ | refine blk_alloc ?_ _)); refine blk_far ?_ NB261_263.out _; (with_reducible repeat (first | refine blk_drewN ?_ _ | refine blk_drew ?_ | refine blk_alloc ?_ _)); refine blk_far ?_ NB261_263.out _; (with_reducible repeat (first | refine blk_drewN ?_ _ | refine blk_drew ?_ | refine blk_alloc ?_ _)); refine blk_far ?_ NB261_263.out _; (with_reducible repeat (first | refine blk_drewN ?_ _ | refine blk_drew ?_ | refine blk_alloc ?_ _)); exact BK261.out⟩
                  have n1_ : Aside0 ((((((((((((w8.setCell ⟨gb263, 0, none⟩ (.string ((rd_T85 l0_0 x10_1).f0))).setCell ⟨gb263, 1, none⟩ (.int .i64 ((rd_T85 l0_0 x10_1).f1))).setCell ⟨gb263, 2, none⟩ (.int .i64 ((rd_T85 l0_0 x10_1).f2))).setCell ⟨gb263, 3, none⟩ (.int .i64 ((rd_T85 l0_0 x10_1).f3))).setCell ⟨gb263, 4, none⟩ (.int .i64 ((rd_T85 l0_0 x10_1).f4))).setCell ⟨gb263, 5, none⟩ (.slice A262_5 ((rd_T85 l0_0 x10_1).f5).length c262_5)).setCell ⟨gb263, 6, none⟩ (.int .i64 ((rd_T85 l0_0 x10_1).f6.f0))).setCell ⟨gb263, 7, none⟩ (.int .i64 ((rd_T85 l0_0 x10_1).f6.f1))).setCell ⟨gb263, 8, none⟩ (.slice A262_8 ((rd_T85 l0_0 x10_1).f6.f2).length c262_8)).setCell ⟨gb263, 9, none⟩ (.slice A262_9 ((rd_T85 l0_0 x10_1).f6.f3).length c262_9)).setCell ⟨gb263, 10, none⟩ (.slice A262_10 ((rd_T85 l0_0 x10_1).f7).length c262_10)).heap[gb263]? = some (.cells #[.string ((rd_T85 l0_0 x10_1).f0), .int .i64 ((rd_T85 l0_0 x10_1).f1), .int .i64 ((rd_T85 l0_0 x10_1).f2), .int .i64 ((rd_T85 l0_0 x10_1).f3), .int .i64 ((rd_T85 l0_0 x10_1).f4), .slice A262_5 ((rd_T85 l0_0 x10_1).f5).length c262_5, .int .i64 ((rd_T85 l0_0 x10_1).f6.f0), .int .i64 ((rd_T85 l0_0 x10_1).f6.f1), .slice A262_8 ((rd_T85 l0_0 x10_1).f6.f2).length c262_8, .slice A262_9 ((rd_T85 l0_0 x10_1).f6.f3).length c262_9, .slice A262_10 ((rd_T85 l0_0 x10_1).f7).length c262_10] 85 (0, 0))) := ⟨by (with_reducible repeat (first | refine blk_drewN ?_ _ | refine blk_drew ?_ | refine blk_alloc ?_ _)); refine blk_put (cs := #[.string ((rd_T85 l0_0 x10_1).f0), .int .i64 ((rd_T85 l0_0 x10_1).f1), .int .i64 ((rd_T85 l0_0 x10_1).f2), .int .i64 ((rd_T85 l0_0 x10_1).f3), .int .i64 ((rd_T85 l0_0 x10_1).f4), .slice A262_5 ((rd_T85 l0_0 x10_1).f5).length c262_5, .int .i64 ((rd_T85 l0_0 x10_1).f6.f0), .int .i64 ((rd_T85 l0_0 x10_1).f6.f1), .slice A262_8 ((rd_T85 l0_0 x10_1).f6.f2).length c262_8, .slice A262_9 ((rd_T85 l0_0 x10_1).f6.f3).length c262_9, .slice none 0 0]) ?_ 10 _ rfl; (with_reducible repeat (first | refine blk_drewN ?_ _ | refine blk_drew ?_ | refine blk_alloc ?_ _)); refine blk_put (cs := #[.string ((rd_T85 l0_0 x10_1).f0), .int .i64 ((rd_T85 l0_0 x10_1).f1), .int .i64 ((rd_T85 l0_0 x10_1).f2), .int .i64 ((rd_T85 l0_0 x10_1).f3), .int .i64 ((rd_T85 l0_0 x10_1).f4), .slice A262_5 ((rd_T85 l0_0 x10_1).f5).length c262_5, .int .i64 ((rd_T85 l0_0 x10_1).f6.f0), .int .i64 ((rd_T85 l0_0 x10_1).f6.f1), .slice A262_8 ((rd_T85 l0_0 x10_1).f6.f2).length c262_8, .slice none 0 0, .slice none 0 0]) ?_ 9 _ rfl; (with_reducible repeat (first | refine blk_drewN ?_ _ | refine blk_drew ?_ | refine blk_alloc ?_ _)); refine blk_put (cs := #[.string ((rd_T85 l0_0 x10_1).f0), .int .i64 ((rd_T85 l0_0 x10_1).f1), .int .i64 ((rd_T85 l0_0 x10_1).f2), .int .i64 ((rd_T85 l0_0 x10_1).f3), .int .i64 ((rd_T85 l0_0 x10_1).f4), .slice A262_5 ((rd_T85 l0_0 x10_1).f5).length c262_5, .int .i64 ((rd_T85 l0_0 x10_1).f6.f0), .int .i64 ((rd_T85 l0_0 x10_1).f6.f1), .slice none 0 0, .slice none 0 0, .slice none 0 0]) ?_ 8 _ rfl; (with_reducible repeat (first | refine blk_drewN ?_ _ | refine blk_drew ?_ | refine blk_alloc ?_ _)); refine blk_put (cs := #[.string ((rd_T85 l0_0 x10_1).f0), .int .i64 ((rd_T85 l0_0 x10_1).f1), .int .i64 ((rd_T85 l0_0 x10_1).f2), .int .i64 ((rd_T85 l0_0 x10_1).f3), .int .i64 ((rd_T85 l0_0 x10_1).f4), .slice A262_5 ((rd_T85 l0_0 x10_1).f5).length c262_5, .int .i64 ((rd_T85 l0_0 x10_1).f6.f0), .int .i64 0, .slice none 0 0, .slice none 0 0, .slice none 0 0]) ?_ 7 _ rfl; (with_reducible repeat (first | refine blk_drewN ?_ _ | refine blk_drew ?_ | refine blk_alloc ?_ _)); refine blk_put (cs := #[.string ((rd_T85 l0_0 x10_1).f0), .int .i64 ((rd_T85 l0_0 x10_1).f1), .int .i64 ((rd_T85 l0_0 x10_1).f2), .int .i64 ((rd_T85 l0_0 x10_1).f3), .int .i64 ((rd_T85 l0_0 x10_1).f4), .slice A262_5 ((rd_T85 l0_0 x10_1).f5).length c262_5, .int .i64 0, .int .i64 0, .slice none 0 0, .slice none 0 0, .slice none 0 0]) ?_ 6 _ rfl; (with_reducible repeat (first | refine blk_drewN ?_ _ | refine blk_drew ?_ | refine blk_alloc ?_ _)); refine blk_put (cs := #[.string ((rd_T85 l0_0 x10_1).f0), .int .i64 ((rd_T85 l0_0 x10_1).f1), .int .i64 ((rd_T85 l0_0 x10_1).f2), .int .i64 ((rd_T85 l0_0 x10_1).f3), .int .i64 ((rd_T85 l0_0 x10_1).f4), .slice none 0 0, .int .i64 0, .int .i64 0, .slice none 0 0, .slice none 0 0, .slice none 0 0]) ?_ 5 _ rfl; (with_reducible repeat (first | refine blk_drewN ?_ _ | refine blk_drew ?_ | refine blk_alloc ?_ _)); refine blk_put (cs := #[.string ((rd_T85 l0_0 x10_1).f0), .int .i64 ((rd_T85 l0_0 x10_1).f1), .int .i64 ((rd_T85 l0_0 x10_1).f2), .int .i64 ((rd_T85 l0_0 x10_1).f3), .int .i64 0, .slice none 0 0, .int .i64 0, .int .i64 0, .slice none 0 0, .slice none 0 0, .slice none 0 0]) ?_ 4 _ rfl; (with_reducible repeat (first | refine blk_drewN ?_ _ | refine blk_drew ?_ | refine blk_alloc ?_ _)); refine blk_put (cs := #[.string ((rd_T85 l0_0 x10_1).f0), .int .i64 ((rd_T85 l0_0 x10_1).f1), .int .i64 ((rd_T85 l0_0 x10_1).f2), .int .i64 0, .int .i64 0, .slice none 0 0, .int .i64 0, .int .i64 0, .slice none 0 0, .slice none 0 0, .slice none 0 0]) ?_ 3 _ rfl; (with_reducible repeat (first | refine blk_drewN ?_ _ | refine blk_drew ?_ | refine blk_alloc ?_ _)); refine blk_put (cs := #[.string ((rd_T85 l0_0 x10_1).f0), .int .i64 ((rd_T85 l0_0 x10_1).f1), .int .i64 0, .int .i64 0, .int .i64 0, .slice none 0 0, .int .i64 0, .int .i64 0, .slice none 0 0, .slice none 0 0, .slice none 0 0]) ?_ 2 _ rfl; (with_reducible repeat (first | refine blk_drewN ?_ _ | refine blk_drew ?_ | refine blk_alloc ?_ _)); refine blk_put (cs := #[.string ((rd_T85 l0_0 x10_1).f0), .int .i64 0, .int .i64 0, .int .i64 0, .int .i64 0, .slice none 0 0, .int .i64 0, .int .i64 0, .slice none 0 0, .slice none 0 0, .slice none 0 0]) ?_ 1 _ rfl; (with_reducible repeat (first | refine blk_drewN ?_ _ | refine blk_drew ?_ | refine blk_alloc ?_ _)); refine blk_put (cs := #[.string (⟨#[]⟩ : ByteArray), .int .i64 0, .int .i64 0, .int .i64 0, .int .i64 0, .slice none 0 0, .int .i64 0, .int .i64 0, .slice none 0 0, .slice none 0 0, .slice none 0 0]) ?_ 0 _ rfl; (with_reducible repeat (first | refine blk_drewN ?_ _ | refine blk_drew ?_ | refine blk_alloc ?_ _)); exact BK263.out⟩
                  have n2_ : Aside0 (Below w.heap.size w (((((((((((w8.setCell ⟨gb263, 0, none⟩ (.string ((rd_T85 l0_0 x10_1).f0))).setCell ⟨gb263, 1, none⟩ (.int .i64 ((rd_T85 l0_0 x10_1).f1))).setCell ⟨gb263, 2, none⟩ (.int .i64 ((rd_T85 l0_0 x10_1).f2))).setCell ⟨gb263, 3, none⟩ (.int .i64 ((rd_T85 l0_0 x10_1).f3))).setCell ⟨gb263, 4, none⟩ (.int .i64 ((rd_T85 l0_0 x10_1).f4))).setCell ⟨gb263, 5, none⟩ (.slice A262_5 ((rd_T85 l0_0 x10_1).f5).length c262_5)).setCell ⟨gb263, 6, none⟩ (.int .i64 ((rd_T85 l0_0 x10_1).f6.f0))).setCell ⟨gb263, 7, none⟩ (.int .i64 ((rd_T85 l0_0 x10_1).f6.f1))).setCell ⟨gb263, 8, none⟩ (.slice A262_8 ((rd_T85 l0_0 x10_1).f6.f2).length c262_8)).setCell ⟨gb263, 9, none⟩ (.slice A262_9 ((rd_T85 l0_0 x10_1).f6.f3).length c262_9)).setCell ⟨gb263, 10, none⟩ (.slice A262_10 ((rd_T85 l0_0 x10_1).f7).length c262_10))) := ⟨bl_⟩
                  (try clear BK261)
                  (try clear BK263)
                  (try clear HB)
                  generalize (((((((((((w8.setCell ⟨gb263, 0, none⟩ (.string ((rd_T85 l0_0 x10_1).f0))).setCell ⟨gb263, 1, none⟩ (.int .i64 ((rd_T85 l0_0 x10_1).f1))).setCell ⟨gb263, 2, none⟩ (.int .i64 ((rd_T85 l0_0 x10_1).f2))).setCell ⟨gb263, 3, none⟩ (.int .i64 ((rd_T85 l0_0 x10_1).f3))).setCell ⟨gb263, 4, none⟩ (.int .i64 ((rd_T85 l0_0 x10_1).f4))).setCell ⟨gb263, 5, none⟩ (.slice A262_5 ((rd_T85 l0_0 x10_1).f5).length c262_5)).setCell ⟨gb263, 6, none⟩ (.int .i64 ((rd_T85 l0_0 x10_1).f6.f0))).setCell ⟨gb263, 7, none⟩ (.int .i64 ((rd_T85 l0_0 x10_1).f6.f1))).setCell ⟨gb263, 8, none⟩ (.slice A262_8 ((rd_T85 l0_0 x10_1).f6.f2).length c262_8)).setCell ⟨gb263, 9, none⟩ (.slice A262_9 ((rd_T85 l0_0 x10_1).f6.f3).length c262_9)).setCell ⟨gb263, 10, none⟩ (.slice A262_10 ((rd_T85 l0_0 x10_1).f7).length c262_10)) = w19 at n0_ n1_ n2_ ⊢
                  have BK261 := n0_
                  have BK263 := n1_
                  have HB := n2_
                  clear n0_ n1_ n2_
                  have n0_ := Aside0.mk (blk_drew BK261.out)
                  have n1_ := Aside0.mk (blk_drew BK263.out)
                  have n2_ := Aside0.mk (below_drew1 HB.out)
                  clear BK261
                  clear BK263
                  clear HB
                  have BK261 := n0_
                  have BK263 := n1_
                  have HB := n2_
                  clear n0_ n1_ n2_
                  refine start_ (n := 19) (S := fun w' => w'.cell? ⟨gb263, 0, none⟩ = some (.string ((rd_T85 l0_0 x10_1).f0)) ∧ w'.cell? ⟨gb263, 1, none⟩ = some (.int .i64 ((rd_T85 l0_0 x10_1).f1)) ∧ w'.cell? ⟨gb263, 2, none⟩ = some (.int .i64 ((rd_T85 l0_0 x10_1).f2)) ∧ w'.cell? ⟨gb263, 3, none⟩ = some (.int .i64 ((rd_T85 l0_0 x10_1).f3)) ∧ w'.cell? ⟨gb263, 4, none⟩ = some (.int .i64 ((rd_T85 l0_0 x10_1).f4)) ∧ w'.cell? ⟨gb263, 5, none⟩ = some (.slice A262_5 ((rd_T85 l0_0 x10_1).f5).length c262_5) ∧ w'.cell? ⟨gb263, 6, none⟩ = some (.int .i64 ((rd_T85 l0_0 x10_1).f6.f0)) ∧ w'.cell? ⟨gb263, 7, none⟩ = some (.int .i64 ((rd_T85 l0_0 x10_1).f6.f1)) ∧ w'.cell? ⟨gb263, 8, none⟩ = some (.slice A262_8 ((rd_T85 l0_0 x10_1).f6.f2).length c262_8) ∧ w'.cell? ⟨gb263, 9, none⟩ = some (.slice A262_9 ((rd_T85 l0_0 x10_1).f6.f3).length c262_9) ∧ w'.cell? ⟨gb263, 10, none⟩ = some (.slice A262_10 ((rd_T85 l0_0 x10_1).f7).length c262_10)) (ds := []) #[false, false, false, false, false, false, false, false, false, false, false, false, false, false, false, false, false, false, false] (by kernel_rfl) rfl rfl ⟨(blk_cell BK263.out 0).trans rfl, (blk_cell BK263.out 1).trans rfl, (blk_cell BK263.out 2).trans rfl, (blk_cell BK263.out 3).trans rfl, (blk_cell BK263.out 4).trans rfl, (blk_cell BK263.out 5).trans rfl, (blk_cell BK263.out 6).trans rfl, (blk_cell BK263.out 7).trans rfl, (blk_cell BK263.out 8).trans rfl, (blk_cell BK263.out 9).trans rfl, (blk_cell BK263.out 10).trans rfl⟩ (fun hHeld => ?_); refine with_tabW impl_Sound.tab4 impl_Sound.bits4 (fun HT_ HW_ => ?_)
                  generalize w19.drew = w20 at BK261 BK263 HB hHeld ⊢
                  refine pure_ (i := 0) (N := some 14) (v := ?_) (a' := ?_) #[true, false, false, false, false, false, false, false, false, false, false, false, false, false, false, false, false, false, false] rfl rfl (any_of HT_.out (by kernel_rfl)) (fun _ _ _ h => h) (Or.inl ⟨by rfl, ?_⟩) ?_ ?_
                  rotate_left
                  · intro w'
                    go_simp
                    with_reducible rfl
                  rotate_left
                  · simp only [Act.put, List.setIfInBounds_toArray, List.set_cons_zero, List.set_cons_succ, i64_w, i32_w]
                    rfl
                  refine pure_ (i := 2) (N := some 16) (v := ?_) (a' := ?_) #[true, false, true, false, false, false, false, false, false, false, false, false, false, false, false, false, false, false, false] rfl rfl (any_of HT_.out (by kernel_rfl)) (fun _ _ _ h => h) (Or.inl ⟨by rfl, ?_⟩) ?_ ?_
                  rotate_left
                  · intro w'
                    go_simp
                    with_reducible rfl
                  rotate_left
                  · simp only [Act.put, List.setIfInBounds_toArray, List.set_cons_zero, List.set_cons_succ, i64_w, i32_w]
                    rfl
                  refine pure_ (i := 6) (N := some 20) (v := ?_) (a' := ?_) #[true, false, true, false, false, false, true, false, false, false, false, false, false, false, false, false, false, false, false] rfl rfl (any_of HT_.out (by kernel_rfl)) (fun _ _ _ h => h) (Or.inl ⟨by rfl, ?_⟩) ?_ ?_
                  rotate_left
                  · intro w'
                    go_simp
                    with_reducible rfl
                  rotate_left
                  · simp only [Act.put, List.setIfInBounds_toArray, List.set_cons_zero, List.set_cons_succ, i64_w, i32_w]
                    rfl
                  refine take_ (i := 1) (N := some 15) (v := ?_) (a' := ?_) #[true, true, true, false, false, false, true, false, false, false, false, false, false, false, false, false, false, false, false] rfl rfl (take_ofW HT_.out HW_.out (by kernel_rfl)) (fun _ _ _ h => h) (Or.inl ⟨by rfl, ?_⟩) hHeld ?_ ?_
                  rotate_left
                  · rintro w' ⟨s0, s1, s2, s3, s4, s5, s6, s7, s8, s9, s10⟩
                    go_simp
                    with_reducible rfl
                  rotate_left
                  · simp only [Act.put, List.setIfInBounds_toArray, List.set_cons_zero, List.set_cons_succ, i64_w, i32_w]
                    rfl
                  refine take_ (i := 3) (N := some 17) (v := ?_) (a' := ?_) #[true, true, true, true, false, false, true, false, false, false, false, false, false, false, false, false, false, false, false] rfl rfl (take_ofW HT_.out HW_.out (by kernel_rfl)) (fun _ _ _ h => h) (Or.inl ⟨by rfl, ?_⟩) hHeld ?_ ?_
                  rotate_left
                  · rintro w' ⟨s0, s1, s2, s3, s4, s5, s6, s7, s8, s9, s10⟩
                    go_simp
                    with_reducible rfl
                  rotate_left
                  · simp only [Act.put, List.setIfInBounds_toArray, List.set_cons_zero, List.set_cons_succ, i64_w, i32_w]
                    rfl
                  refine take_ (i := 7) (N := some 21) (v := ?_) (a' := ?_) #[true, true, true, true, false, false, true, true, false, false, false, false, false, false, false, false, false, false, false] rfl rfl (take_ofW HT_.out HW_.out (by kernel_rfl)) (fun _ _ _ h => h) (Or.inl ⟨by rfl, ?_⟩) hHeld ?_ ?_
                  rotate_left
                  · rintro w' ⟨s0, s1, s2, s3, s4, s5, s6, s7, s8, s9, s10⟩
                    go_simp
                    with_reducible rfl
                  rotate_left
                  · simp only [Act.put, List.setIfInBounds_toArray, List.set_cons_zero, List.set_cons_succ, i64_w, i32_w]
                    rfl
                  refine one_ (i := 4) (N := some 18) #[true, true, true, true, true, false, true, true, false, false, false, false, false, false, false, false, false, false, false] rfl rfl (one_of HT_.out (by kernel_rfl)) (by decide) (fun K hK => ?_)
                  refine goes_ Try.func121 (by kernel_rfl) rfl #[.slice A262_5 ((rd_T85 l0_0 x10_1).f5).length c262_5] (by rfl) rfl rfl (by (try simp only [List.map_toArray, List.map_cons, List.map_nil]); first | done | rfl | (simp only [List.length_drop, List.length_take]; rfl)) ?_
                  with_reducible refine (impl_Stored.calls k1 _ _ ((rd_T85 l0_0 x10_1).f5) t264 _ ?side1 ?side2 A11.out).mono ?_
                  (case side1 => repeat (first | exact (Kd.C_below HR262_5.out HB.out) | (with_reducible refine Kd.C_alloc ?_ _) | (with_reducible refine Kd.C_drewN ?_ _) | (with_reducible refine Kd.C_drew ?_)))
                  (case side2 => exact HC262_5.out)
                  rintro e w21 ⟨rfl, hb⟩
                  refine ⟨_, rfl, ?_⟩
                  have n0_ := Aside0.mk (blk_below (bk_ BK261) hb)
                  have n1_ := Aside0.mk (blk_below (bk_ BK263) hb)
                  have n2_ := Aside0.mk (below_step bl_ hb)
                  clear BK261
                  clear BK263
                  clear HB
                  have BK261 := n0_
                  have BK263 := n1_
                  have HB := n2_
                  clear n0_ n1_ n2_
                  (try clear hb)
                  (try clear hb2)
                  (try clear hk)
                  (try clear hi)
                  refine hK.out _ _ ⟨(blk_cell BK263.out 0).trans rfl, (blk_cell BK263.out 1).trans rfl, (blk_cell BK263.out 2).trans rfl, (blk_cell BK263.out 3).trans rfl, (blk_cell BK263.out 4).trans rfl, (blk_cell BK263.out 5).trans rfl, (blk_cell BK263.out 6).trans rfl, (blk_cell BK263.out 7).trans rfl, (blk_cell BK263.out 8).trans rfl, (blk_cell BK263.out 9).trans rfl, (blk_cell BK263.out 10).trans rfl⟩ (fun hHeld => ?_)
                  clear hK K
                  refine norm_ (a' := ?_) ?_ ?_
                  rotate_left
                  · show Act.put _ (some 18) _ = _
                    simp only [Act.put, List.setIfInBounds_toArray, List.set_cons_zero, List.set_cons_succ, i64_w, i32_w]
                    rfl
                  refine one_ (i := 5) (N := some 19) #[true, true, true, true, true, true, true, true, false, false, false, false, false, false, false, false, false, false, false] rfl rfl (one_of HT_.out (by kernel_rfl)) (by decide) (fun K hK => ?_)
                  refine goes_ Try.func119 (by kernel_rfl) rfl #[.int .i64 ((rd_T85 l0_0 x10_1).f2), .int .i64 t264] (by rfl) rfl rfl (by (try simp only [List.map_toArray, List.map_cons, List.map_nil]); first | done | rfl | (simp only [List.length_drop, List.length_take]; rfl)) ?_
                  with_reducible refine (impl_AddSat.calls ((rd_T85 l0_0 x10_1).f2) t264 t265 _ A12.out).mono ?_
                  rintro e w22 ⟨rfl, hb⟩
                  refine ⟨_, rfl, ?_⟩
                  have n0_ := Aside0.mk (blk_below (bk_ BK261) hb)
                  have n1_ := Aside0.mk (blk_below (bk_ BK263) hb)
                  have n2_ := Aside0.mk (below_step bl_ hb)
                  clear BK261
                  clear BK263
                  clear HB
                  have BK261 := n0_
                  have BK263 := n1_
                  have HB := n2_
                  clear n0_ n1_ n2_
                  (try clear hb)
                  (try clear hb2)
                  (try clear hk)
                  (try clear hi)
                  refine hK.out _ _ ⟨(blk_cell BK263.out 0).trans rfl, (blk_cell BK263.out 1).trans rfl, (blk_cell BK263.out 2).trans rfl, (blk_cell BK263.out 3).trans rfl, (blk_cell BK263.out 4).trans rfl, (blk_cell BK263.out 5).trans rfl, (blk_cell BK263.out 6).trans rfl, (blk_cell BK263.out 7).trans rfl, (blk_cell BK263.out 8).trans rfl, (blk_cell BK263.out 9).trans rfl, (blk_cell BK263.out 10).trans rfl⟩ (fun hHeld => ?_)
                  clear hK K
                  refine norm_ (a' := ?_) ?_ ?_
                  rotate_left
                  · show Act.put _ (some 19) _ = _
                    simp only [Act.put, List.setIfInBounds_toArray, List.set_cons_zero, List.set_cons_succ, i64_w, i32_w]
                    rfl
                  refine pure_ (i := 8) (N := some 22) (v := ?_) (a' := ?_) #[true, true, true, true, true, true, true, true, true, false, false, false, false, false, false, false, false, false, false] rfl rfl (any_of HT_.out (by kernel_rfl)) (fun _ _ _ h => h) (Or.inl ⟨by rfl, ?_⟩) ?_ ?_
                  rotate_left
                  · intro w'
                    go_simp
                    with_reducible rfl
                  rotate_left
                  · simp only [Act.put, List.setIfInBounds_toArray, List.set_cons_zero, List.set_cons_succ, i64_w, i32_w]
                    rfl
                  refine pure_ (i := 9) (N := some 23) (v := ?_) (a' := ?_) #[true, true, true, true, true, true, true, true, true, true, false, false, false, false, false, false, false, false, false] rfl rfl (any_of HT_.out (by kernel_rfl)) (fun _ _ _ h => h) (Or.inl ⟨by rfl, ?_⟩) ?_ ?_
                  rotate_left
                  · intro w'
                    go_simp
                    with_reducible rfl
                  rotate_left
                  · simp only [Act.put, List.setIfInBounds_toArray, List.set_cons_zero, List.set_cons_succ, i64_w, i32_w]
                    rfl
                  refine pure_ (i := 10) (N := some 24) (v := ?_) (a' := ?_) #[true, true, true, true, true, true, true, true, true, true, true, false, false, false, false, false, false, false, false] rfl rfl (any_of HT_.out (by kernel_rfl)) (fun _ _ _ h => h) (Or.inl ⟨by rfl, ?_⟩) ?_ ?_
                  rotate_left
                  · intro w'
                    go_simp
                    with_reducible rfl
                  rotate_left
                  · simp only [Act.put, List.setIfInBounds_toArray, List.set_cons_zero, List.set_cons_succ, i64_w, i32_w]
                    rfl
                  refine take_ (i := 11) (N := some 25) (v := ?_) (a' := ?_) #[true, true, true, true, true, true, true, true, true, true, true, true, false, false, false, false, false, false, false] rfl rfl (take_ofW HT_.out HW_.out (by kernel_rfl)) (fun _ _ _ h => h) (Or.inl ⟨by rfl, ?_⟩) hHeld ?_ ?_
                  rotate_left
                  · rintro w' ⟨s0, s1, s2, s3, s4, s5, s6, s7, s8, s9, s10⟩
                    go_simp
                    with_reducible rfl
                  rotate_left
                  · simp only [Act.put, List.setIfInBounds_toArray, List.set_cons_zero, List.set_cons_succ, i64_w, i32_w]
                    rfl
                  refine pure_ (i := 12) (N := some 26) (v := ?_) (a' := ?_) #[true, true, true, true, true, true, true, true, true, true, true, true, true, false, false, false, false, false, false] rfl rfl (any_of HT_.out (by kernel_rfl)) (fun _ _ _ h => h) (Or.inl ⟨by rfl, ?_⟩) ?_ ?_
                  rotate_left
                  · intro w'
                    go_simp
                    with_reducible rfl
                  rotate_left
                  · simp only [Act.put, List.setIfInBounds_toArray, List.set_cons_zero, List.set_cons_succ, i64_w, i32_w]
                    rfl
                  refine pure_ (i := 13) (N := some 27) (v := ?_) (a' := ?_) #[true, true, true, true, true, true, true, true, true, true, true, true, true, true, false, false, false, false, false] rfl rfl (any_of HT_.out (by kernel_rfl)) (fun _ _ _ h => h) (Or.inl ⟨by rfl, ?_⟩) ?_ ?_
                  rotate_left
                  · intro w'
                    go_simp
                    with_reducible rfl
                  rotate_left
                  · simp only [Act.put, List.setIfInBounds_toArray, List.set_cons_zero, List.set_cons_succ, i64_w, i32_w]
                    rfl
                  refine pure_ (i := 14) (N := some 28) (v := ?_) (a' := ?_) #[true, true, true, true, true, true, true, true, true, true, true, true, true, true, true, false, false, false, false] rfl rfl (any_of HT_.out (by kernel_rfl)) (fun _ _ _ h => h) (Or.inl ⟨by rfl, ?_⟩) ?_ ?_
                  rotate_left
                  · intro w'
                    go_simp
                    with_reducible rfl
                  rotate_left
                  · simp only [Act.put, List.setIfInBounds_toArray, List.set_cons_zero, List.set_cons_succ, i64_w, i32_w]
                    rfl
                  refine pure_ (i := 15) (N := some 29) (v := undef) (a' := ?_) #[true, true, true, true, true, true, true, true, true, true, true, true, true, true, true, true, false, false, false] rfl rfl (any_of HT_.out (by kernel_rfl)) (fun _ _ _ h => h) (Or.inr ⟨by rfl, rfl⟩) ?_ ?_
                  rotate_left
                  · simp only [Act.put, List.setIfInBounds_toArray, List.set_cons_zero, List.set_cons_succ, i64_w, i32_w]
                    rfl
                  refine pure_ (i := 16) (N := some 30) (v := undef) (a' := ?_) #[true, true, true, true, true, true, true, true, true, true, true, true, true, true, true, true, true, false, false] rfl rfl (any_of HT_.out (by kernel_rfl)) (fun _ _ _ h => h) (Or.inr ⟨by rfl, rfl⟩) ?_ ?_
                  rotate_left
                  · simp only [Act.put, List.setIfInBounds_toArray, List.set_cons_zero, List.set_cons_succ, i64_w, i32_w]
                    rfl
                  refine pure_ (i := 17) (N := some 31) (v := undef) (a' := ?_) #[true, true, true, true, true, true, true, true, true, true, true, true, true, true, true, true, true, true, false] rfl rfl (any_of HT_.out (by kernel_rfl)) (fun _ _ _ h => h) (Or.inr ⟨by rfl, rfl⟩) ?_ ?_
                  rotate_left
                  · simp only [Act.put, List.setIfInBounds_toArray, List.set_cons_zero, List.set_cons_succ, i64_w, i32_w]
                    rfl
                  refine pure_ (i := 18) (N := some 32) (v := ?_) (a' := ?_) #[true, true, true, true, true, true, true, true, true, true, true, true, true, true, true, true, true, true, true] rfl rfl (any_of HT_.out (by kernel_rfl)) (fun _ _ _ h => h) (Or.inl ⟨by rfl, ?_⟩) ?_ ?_
                  rotate_left
                  · intro w'
                    go_simp
                    with_reducible rfl
                  rotate_left
                  · simp only [Act.put, List.setIfInBounds_toArray, List.set_cons_zero, List.set_cons_succ, i64_w, i32_w]
                    rfl
                  refine done_ (done_of HT_.out (by kernel_rfl)) ?_
                  try go_wp2
                  go_meet
                  case rel => exact ⟨_, (true), sp_, H', ⟨by have := HK1.out; first | omega | exact Nat.le_refl _⟩, ⟨by (with_reducible repeat (first | refine blk_drewN ?_ _ | refine blk_drew ?_ | refine blk_alloc ?_ _)); exact BK261.out⟩, ⟨by (with_reducible repeat (first | refine blk_drewN ?_ _ | refine blk_drew ?_ | refine blk_alloc ?_ _)); exact BK263.out⟩, ⟨bl_⟩⟩
                · rw [if_neg c18] at H
                  have c18b0 : decide (((rd_T85 l0_0 x10_1).f2) < 0) = false := decide_eq_false c18
                  clear c18
                  have H' := Aside0.mk H
                  clear H
                  try go_wp2
                  have n0_ : Aside0 ((((((((((((w8.setCell ⟨gb263, 0, none⟩ (.string ((rd_T85 l0_0 x10_1).f0))).setCell ⟨gb263, 1, none⟩ (.int .i64 ((rd_T85 l0_0 x10_1).f1))).setCell ⟨gb263, 2, none⟩ (.int .i64 ((rd_T85 l0_0 x10_1).f2))).setCell ⟨gb263, 3, none⟩ (.int .i64 ((rd_T85 l0_0 x10_1).f3))).setCell ⟨gb263, 4, none⟩ (.int .i64 ((rd_T85 l0_0 x10_1).f4))).setCell ⟨gb263, 5, none⟩ (.slice A262_5 ((rd_T85 l0_0 x10_1).f5).length c262_5)).setCell ⟨gb263, 6, none⟩ (.int .i64 ((rd_T85 l0_0 x10_1).f6.f0))).setCell ⟨gb263, 7, none⟩ (.int .i64 ((rd_T85 l0_0 x10_1).f6.f1))).setCell ⟨gb263, 8, none⟩ (.slice A262_8 ((rd_T85 l0_0 x10_1).f6.f2).length c262_8)).setCell ⟨gb263, 9, none⟩ (.slice A262_9 ((rd_T85 l0_0 x10_1).f6.f3).length c262_9)).setCell ⟨gb263, 10, none⟩ (.slice A262_10 ((rd_T85 l0_0 x10_1).f7).length c262_10)).heap[gb261]? = some (.cells #[.slice (some ad262) l0_0.length c0_0] 72 (0, 0))) := ⟨by (with_reducible repeat (first | refine blk_drewN ?_ _ | refine blk_drew ?_ | refine blk_alloc ?_ _)); refine blk_far ?_ NB261_263.out _; (with_reducible repeat (first | refine blk_drewN ?_ _ | refine blk_drew ?_ | refine blk_alloc ?_ _)); refine blk_far ?_ NB261_263.out _; (with_reducible repeat (first | refine blk_drewN ?_ _ | refine blk_drew ?_ | refine blk_alloc ?_ _)); refine blk_far ?_ NB261_263.out _; (with_reducible repeat (first | refine blk_drewN ?_ _ | refine blk_drew ?_ | refine blk_alloc ?_ _)); refine blk_far ?_ NB261_263.out _; (with_reducible repeat (first | refine blk_drewN ?_ _ | refine blk_drew ?_ | refine blk_alloc ?_ _)); refine blk_far ?_ NB261_263.out _; (with_reducible repeat (first | refine blk_drewN ?_ _ | refine blk_drew ?_ | refine blk_alloc ?_ _)); refine blk_far ?_ NB261_263.out _; (with_reducible repeat (first | refine blk_drewN ?_ _ | refine blk_drew ?_ | refine blk_alloc ?_ _)); refine blk_far ?_ NB261_263.out _; (with_reducible repeat (first | refine blk_drewN ?_ _ | refine blk_drew ?_ | refine blk_alloc ?_ _)); refine blk_far ?_ NB261_263.out _; (with_reducible repeat (first | refine blk_drewN ?_ _ | refine blk_drew ?_ | refine blk_alloc ?_ _)); refine blk_far ?_ NB261_263.out _; (with_reducible repeat (first | refine blk_drewN ?_ _ | refine blk_drew ?_ | refine blk_alloc ?_ _)); refine blk_far ?_ NB261_263.out _; (with_reducible repeat (first | refine blk_drewN ?_ _ | refine blk_drew ?_ | refine blk_alloc ?_ _)); refine blk_far ?_ NB261_263.out _; (with_reducible repeat (first | refine blk_drewN ?_ _ | refine blk_drew ?_ | refine blk_alloc ?_ _)); exact BK261.out⟩
                  have n1_ : Aside0 ((((((((((((w8.setCell ⟨gb263, 0, none⟩ (.string ((rd_T85 l0_0 x10_1).f0))).setCell ⟨gb263, 1, none⟩ (.int .i64 ((rd_T85 l0_0 x10_1).f1))).setCell ⟨gb263, 2, none⟩ (.int .i64 ((rd_T85 l0_0 x10_1).f2))).setCell ⟨gb263, 3, none⟩ (.int .i64 ((rd_T85 l0_0 x10_1).f3))).setCell ⟨gb263, 4, none⟩ (.int .i64 ((rd_T85 l0_0 x10_1).f4))).setCell ⟨gb263, 5, none⟩ (.slice A262_5 ((rd_T85 l0_0 x10_1).f5).length c262_5)).setCell ⟨gb263, 6, none⟩ (.int .i64 ((rd_T85 l0_0 x10_1).f6.f0))).setCell ⟨gb263, 7, none⟩ (.int .i64 ((rd_T85 l0_0 x10_1).f6.f1))).setCell ⟨gb263, 8, none⟩ (.slice A262_8 ((rd_T85 l0_0 x10_1).f6.f2).length c262_8)).setCell ⟨gb263, 9, none⟩ (.slice A262_9 ((rd_T85 l0_0 x10_1).f6.f3).length c262_9)).setCell ⟨gb263, 10, none⟩ (.slice A262_10 ((rd_T85 l0_0 x10_1).f7).length c262_10)).heap[gb263]? = some (.cells #[.string ((rd_T85 l0_0 x10_1).f0), .int .i64 ((rd_T85 l0_0 x10_1).f1), .int .i64 ((rd_T85 l0_0 x10_1).f2), .int .i64 ((rd_T85 l0_0 x10_1).f3), .int .i64 ((rd_T85 l0_0 x10_1).f4), .slice A262_5 ((rd_T85 l0_0 x10_1).f5).length c262_5, .int .i64 ((rd_T85 l0_0 x10_1).f6.f0), .int .i64 ((rd_T85 l0_0 x10_1).f6.f1), .slice A262_8 ((rd_T85 l0_0 x10_1).f6.f2).length c262_8, .slice A262_9 ((rd_T85 l0_0 x10_1).f6.f3).length c262_9, .slice A262_10 ((rd_T85 l0_0 x10_1).f7).length c262_10] 85 (0, 0))) := ⟨by (with_reducible repeat (first | refine blk_drewN ?_ _ | refine blk_drew ?_ | refine blk_alloc ?_ _)); refine blk_put (cs := #[.string ((rd_T85 l0_0 x10_1).f0), .int .i64 ((rd_T85 l0_0 x10_1).f1), .int .i64 ((rd_T85 l0_0 x10_1).f2), .int .i64 ((rd_T85 l0_0 x10_1).f3), .int .i64 ((rd_T85 l0_0 x10_1).f4), .slice A262_5 ((rd_T85 l0_0 x10_1).f5).length c262_5, .int .i64 ((rd_T85 l0_0 x10_1).f6.f0), .int .i64 ((rd_T85 l0_0 x10_1).f6.f1), .slice A262_8 ((rd_T85 l0_0 x10_1).f6.f2).length c262_8, .slice A262_9 ((rd_T85 l0_0 x10_1).f6.f3).length c262_9, .slice none 0 0]) ?_ 10 _ rfl; (with_reducible repeat (first | refine blk_drewN ?_ _ | refine blk_drew ?_ | refine blk_alloc ?_ _)); refine blk_put (cs := #[.string ((rd_T85 l0_0 x10_1).f0), .int .i64 ((rd_T85 l0_0 x10_1).f1), .int .i64 ((rd_T85 l0_0 x10_1).f2), .int .i64 ((rd_T85 l0_0 x10_1).f3), .int .i64 ((rd_T85 l0_0 x10_1).f4), .slice A262_5 ((rd_T85 l0_0 x10_1).f5).length c262_5, .int .i64 ((rd_T85 l0_0 x10_1).f6.f0), .int .i64 ((rd_T85 l0_0 x10_1).f6.f1), .slice A262_8 ((rd_T85 l0_0 x10_1).f6.f2).length c262_8, .slice none 0 0, .slice none 0 0]) ?_ 9 _ rfl; (with_reducible repeat (first | refine blk_drewN ?_ _ | refine blk_drew ?_ | refine blk_alloc ?_ _)); refine blk_put (cs := #[.string ((rd_T85 l0_0 x10_1).f0), .int .i64 ((rd_T85 l0_0 x10_1).f1), .int .i64 ((rd_T85 l0_0 x10_1).f2), .int .i64 ((rd_T85 l0_0 x10_1).f3), .int .i64 ((rd_T85 l0_0 x10_1).f4), .slice A262_5 ((rd_T85 l0_0 x10_1).f5).length c262_5, .int .i64 ((rd_T85 l0_0 x10_1).f6.f0), .int .i64 ((rd_T85 l0_0 x10_1).f6.f1), .slice none 0 0, .slice none 0 0, .slice none 0 0]) ?_ 8 _ rfl; (with_reducible repeat (first | refine blk_drewN ?_ _ | refine blk_drew ?_ | refine blk_alloc ?_ _)); refine blk_put (cs := #[.string ((rd_T85 l0_0 x10_1).f0), .int .i64 ((rd_T85 l0_0 x10_1).f1), .int .i64 ((rd_T85 l0_0 x10_1).f2), .int .i64 ((rd_T85 l0_0 x10_1).f3), .int .i64 ((rd_T85 l0_0 x10_1).f4), .slice A262_5 ((rd_T85 l0_0 x10_1).f5).length c262_5, .int .i64 ((rd_T85 l0_0 x10_1).f6.f0), .int .i64 0, .slice none 0 0, .slice none 0 0, .slice none 0 0]) ?_ 7 _ rfl; (with_reducible repeat (first | refine blk_drewN ?_ _ | refine blk_drew ?_ | refine blk_alloc ?_ _)); refine blk_put (cs := #[.string ((rd_T85 l0_0 x10_1).f0), .int .i64 ((rd_T85 l0_0 x10_1).f1), .int .i64 ((rd_T85 l0_0 x10_1).f2), .int .i64 ((rd_T85 l0_0 x10_1).f3), .int .i64 ((rd_T85 l0_0 x10_1).f4), .slice A262_5 ((rd_T85 l0_0 x10_1).f5).length c262_5, .int .i64 0, .int .i64 0, .slice none 0 0, .slice none 0 0, .slice none 0 0]) ?_ 6 _ rfl; (with_reducible repeat (first | refine blk_drewN ?_ _ | refine blk_drew ?_ | refine blk_alloc ?_ _)); refine blk_put (cs := #[.string ((rd_T85 l0_0 x10_1).f0), .int .i64 ((rd_T85 l0_0 x10_1).f1), .int .i64 ((rd_T85 l0_0 x10_1).f2), .int .i64 ((rd_T85 l0_0 x10_1).f3), .int .i64 ((rd_T85 l0_0 x10_1).f4), .slice none 0 0, .int .i64 0, .int .i64 0, .slice none 0 0, .slice none 0 0, .slice none 0 0]) ?_ 5 _ rfl; (with_reducible repeat (first | refine blk_drewN ?_ _ | refine blk_drew ?_ | refine blk_alloc ?_ _)); refine blk_put (cs := #[.string ((rd_T85 l0_0 x10_1).f0), .int .i64 ((rd_T85 l0_0 x10_1).f1), .int .i64 ((rd_T85 l0_0 x10_1).f2), .int .i64 ((rd_T85 l0_0 x10_1).f3), .int .i64 0, .slice none 0 0, .int .i64 0, .int .i64 0, .slice none 0 0, .slice none 0 0, .slice none 0 0]) ?_ 4 _ rfl; (with_reducible repeat (first | refine blk_drewN ?_ _ | refine blk_drew ?_ | refine blk_alloc ?_ _)); refine blk_put (cs := #[.string ((rd_T85 l0_0 x10_1).f0), .int .i64 ((rd_T85 l0_0 x10_1).f1), .int .i64 ((rd_T85 l0_0 x10_1).f2), .int .i64 0, .int .i64 0, .slice none 0 0, .int .i64 0, .int .i64 0, .slice none 0 0, .slice none 0 0, .slice none 0 0]) ?_ 3 _ rfl; (with_reducible repeat (first | refine blk_drewN ?_ _ | refine blk_drew ?_ | refine blk_alloc ?_ _)); refine blk_put (cs := #[.string ((rd_T85 l0_0 x10_1).f0), .int .i64 ((rd_T85 l0_0 x10_1).f1), .int .i64 0, .int .i64 0, .int .i64 0, .slice none 0 0, .int .i64 0, .int .i64 0, .slice none 0 0, .slice none 0 0, .slice none 0 0]) ?_ 2 _ rfl; (with_reducible repeat (first | refine blk_drewN ?_ _ | refine blk_drew ?_ | refine blk_alloc ?_ _)); refine blk_put (cs := #[.string ((rd_T85 l0_0 x10_1).f0), .int .i64 0, .int .i64 0, .int .i64 0, .int .i64 0, .slice none 0 0, .int .i64 0, .int .i64 0, .slice none 0 0, .slice none 0 0, .slice none 0 0]) ?_ 1 _ rfl; (with_reducible repeat (first | refine blk_drewN ?_ _ | refine blk_drew ?_ | refine blk_alloc ?_ _)); refine blk_put (cs := #[.string (⟨#[]⟩ : ByteArray), .int .i64 0, .int .i64 0, .int .i64 0, .int .i64 0, .slice none 0 0, .int .i64 0, .int .i64 0, .slice none 0 0, .slice none 0 0, .slice none 0 0]) ?_ 0 _ rfl; (with_reducible repeat (first | refine blk_drewN ?_ _ | refine blk_drew ?_ | refine blk_alloc ?_ _)); exact BK263.out⟩
                  have n2_ : Aside0 (Below w.heap.size w (((((((((((w8.setCell ⟨gb263, 0, none⟩ (.string ((rd_T85 l0_0 x10_1).f0))).setCell ⟨gb263, 1, none⟩ (.int .i64 ((rd_T85 l0_0 x10_1).f1))).setCell ⟨gb263, 2, none⟩ (.int .i64 ((rd_T85 l0_0 x10_1).f2))).setCell ⟨gb263, 3, none⟩ (.int .i64 ((rd_T85 l0_0 x10_1).f3))).setCell ⟨gb263, 4, none⟩ (.int .i64 ((rd_T85 l0_0 x10_1).f4))).setCell ⟨gb263, 5, none⟩ (.slice A262_5 ((rd_T85 l0_0 x10_1).f5).length c262_5)).setCell ⟨gb263, 6, none⟩ (.int .i64 ((rd_T85 l0_0 x10_1).f6.f0))).setCell ⟨gb263, 7, none⟩ (.int .i64 ((rd_T85 l0_0 x10_1).f6.f1))).setCell ⟨gb263, 8, none⟩ (.slice A262_8 ((rd_T85 l0_0 x10_1).f6.f2).length c262_8)).setCell ⟨gb263, 9, none⟩ (.slice A262_9 ((rd_T85 l0_0 x10_1).f6.f3).length c262_9)).setCell ⟨gb263, 10, none⟩ (.slice A262_10 ((rd_T85 l0_0 x10_1).f7).length c262_10))) := ⟨bl_⟩
                  (try clear BK261)
                  (try clear BK263)
                  (try clear HB)
                  generalize (((((((((((w8.setCell ⟨gb263, 0, none⟩ (.string ((rd_T85 l0_0 x10_1).f0))).setCell ⟨gb263, 1, none⟩ (.int .i64 ((rd_T85 l0_0 x10_1).f1))).setCell ⟨gb263, 2, none⟩ (.int .i64 ((rd_T85 l0_0 x10_1).f2))).setCell ⟨gb263, 3, none⟩ (.int .i64 ((rd_T85 l0_0 x10_1).f3))).setCell ⟨gb263, 4, none⟩ (.int .i64 ((rd_T85 l0_0 x10_1).f4))).setCell ⟨gb263, 5, none⟩ (.slice A262_5 ((rd_T85 l0_0 x10_1).f5).length c262_5)).setCell ⟨gb263, 6, none⟩ (.int .i64 ((rd_T85 l0_0 x10_1).f6.f0))).setCell ⟨gb263, 7, none⟩ (.int .i64 ((rd_T85 l0_0 x10_1).f6.f1))).setCell ⟨gb263, 8, none⟩ (.slice A262_8 ((rd_T85 l0_0 x10_1).f6.f2).length c262_8)).setCell ⟨gb263, 9, none⟩ (.slice A262_9 ((rd_T85 l0_0 x10_1).f6.f3).length c262_9)).setCell ⟨gb263, 10, none⟩ (.slice A262_10 ((rd_T85 l0_0 x10_1).f7).length c262_10)) = w23 at n0_ n1_ n2_ ⊢
                  have BK261 := n0_
                  have BK263 := n1_
                  have HB := n2_
                  clear n0_ n1_ n2_
                  have n0_ := Aside0.mk (blk_drew BK261.out)
                  have n1_ := Aside0.mk (blk_drew BK263.out)
                  have n2_ := Aside0.mk (below_drew1 HB.out)
                  clear BK261
                  clear BK263
                  clear HB
                  have BK261 := n0_
                  have BK263 := n1_
                  have HB := n2_
                  clear n0_ n1_ n2_
                  refine start_ (n := 19) (S := fun w' => w'.cell? ⟨gb263, 0, none⟩ = some (.string ((rd_T85 l0_0 x10_1).f0)) ∧ w'.cell? ⟨gb263, 1, none⟩ = some (.int .i64 ((rd_T85 l0_0 x10_1).f1)) ∧ w'.cell? ⟨gb263, 2, none⟩ = some (.int .i64 ((rd_T85 l0_0 x10_1).f2)) ∧ w'.cell? ⟨gb263, 3, none⟩ = some (.int .i64 ((rd_T85 l0_0 x10_1).f3)) ∧ w'.cell? ⟨gb263, 4, none⟩ = some (.int .i64 ((rd_T85 l0_0 x10_1).f4)) ∧ w'.cell? ⟨gb263, 5, none⟩ = some (.slice A262_5 ((rd_T85 l0_0 x10_1).f5).length c262_5) ∧ w'.cell? ⟨gb263, 6, none⟩ = some (.int .i64 ((rd_T85 l0_0 x10_1).f6.f0)) ∧ w'.cell? ⟨gb263, 7, none⟩ = some (.int .i64 ((rd_T85 l0_0 x10_1).f6.f1)) ∧ w'.cell? ⟨gb263, 8, none⟩ = some (.slice A262_8 ((rd_T85 l0_0 x10_1).f6.f2).length c262_8) ∧ w'.cell? ⟨gb263, 9, none⟩ = some (.slice A262_9 ((rd_T85 l0_0 x10_1).f6.f3).length c262_9) ∧ w'.cell? ⟨gb263, 10, none⟩ = some (.slice A262_10 ((rd_T85 l0_0 x10_1).f7).length c262_10)) (ds := []) #[false, false, false, false, false, false, false, false, false, false, false, false, false, false, false, false, false, false, false] (by kernel_rfl) rfl rfl ⟨(blk_cell BK263.out 0).trans rfl, (blk_cell BK263.out 1).trans rfl, (blk_cell BK263.out 2).trans rfl, (blk_cell BK263.out 3).trans rfl, (blk_cell BK263.out 4).trans rfl, (blk_cell BK263.out 5).trans rfl, (blk_cell BK263.out 6).trans rfl, (blk_cell BK263.out 7).trans rfl, (blk_cell BK263.out 8).trans rfl, (blk_cell BK263.out 9).trans rfl, (blk_cell BK263.out 10).trans rfl⟩ (fun hHeld => ?_); refine with_tabW impl_Sound.tab4 impl_Sound.bits4 (fun HT_ HW_ => ?_)
                  generalize w23.drew = w24 at BK261 BK263 HB hHeld ⊢
                  refine pure_ (i := 0) (N := some 14) (v := ?_) (a' := ?_) #[true, false, false, false, false, false, false, false, false, false, false, false, false, false, false, false, false, false, false] rfl rfl (any_of HT_.out (by kernel_rfl)) (fun _ _ _ h => h) (Or.inl ⟨by rfl, ?_⟩) ?_ ?_
                  rotate_left
                  · intro w'
                    go_simp
                    with_reducible rfl
                  rotate_left
                  · simp only [Act.put, List.setIfInBounds_toArray, List.set_cons_zero, List.set_cons_succ, i64_w, i32_w]
                    rfl
                  refine pure_ (i := 2) (N := some 16) (v := ?_) (a' := ?_) #[true, false, true, false, false, false, false, false, false, false, false, false, false, false, false, false, false, false, false] rfl rfl (any_of HT_.out (by kernel_rfl)) (fun _ _ _ h => h) (Or.inl ⟨by rfl, ?_⟩) ?_ ?_
                  rotate_left
                  · intro w'
                    go_simp
                    with_reducible rfl
                  rotate_left
                  · simp only [Act.put, List.setIfInBounds_toArray, List.set_cons_zero, List.set_cons_succ, i64_w, i32_w]
                    rfl
                  refine pure_ (i := 6) (N := some 20) (v := ?_) (a' := ?_) #[true, false, true, false, false, false, true, false, false, false, false, false, false, false, false, false, false, false, false] rfl rfl (any_of HT_.out (by kernel_rfl)) (fun _ _ _ h => h) (Or.inl ⟨by rfl, ?_⟩) ?_ ?_
                  rotate_left
                  · intro w'
                    go_simp
                    with_reducible rfl
                  rotate_left
                  · simp only [Act.put, List.setIfInBounds_toArray, List.set_cons_zero, List.set_cons_succ, i64_w, i32_w]
                    rfl
                  refine take_ (i := 1) (N := some 15) (v := ?_) (a' := ?_) #[true, true, true, false, false, false, true, false, false, false, false, false, false, false, false, false, false, false, false] rfl rfl (take_ofW HT_.out HW_.out (by kernel_rfl)) (fun _ _ _ h => h) (Or.inl ⟨by rfl, ?_⟩) hHeld ?_ ?_
                  rotate_left
                  · rintro w' ⟨s0, s1, s2, s3, s4, s5, s6, s7, s8, s9, s10⟩
                    go_simp
                    with_reducible rfl
                  rotate_left
                  · simp only [Act.put, List.setIfInBounds_toArray, List.set_cons_zero, List.set_cons_succ, i64_w, i32_w]
                    rfl
                  refine take_ (i := 3) (N := some 17) (v := ?_) (a' := ?_) #[true, true, true, true, false, false, true, false, false, false, false, false, false, false, false, false, false, false, false] rfl rfl (take_ofW HT_.out HW_.out (by kernel_rfl)) (fun _ _ _ h => h) (Or.inl ⟨by rfl, ?_⟩) hHeld ?_ ?_
                  rotate_left
                  · rintro w' ⟨s0, s1, s2, s3, s4, s5, s6, s7, s8, s9, s10⟩
                    go_simp
                    with_reducible rfl
                  rotate_left
                  · simp only [Act.put, List.setIfInBounds_toArray, List.set_cons_zero, List.set_cons_succ, i64_w, i32_w]
                    rfl
                  refine take_ (i := 7) (N := some 21) (v := ?_) (a' := ?_) #[true, true, true, true, false, false, true, true, false, false, false, false, false, false, false, false, false, false, false] rfl rfl (take_ofW HT_.out HW_.out (by kernel_rfl)) (fun _ _ _ h => h) (Or.inl ⟨by rfl, ?_⟩) hHeld ?_ ?_
                  rotate_left
                  · rintro w' ⟨s0, s1, s2, s3, s4, s5, s6, s7, s8, s9, s10⟩
                    go_simp
                    with_reducible rfl
                  rotate_left
                  · simp only [Act.put, List.setIfInBounds_toArray, List.set_cons_zero, List.set_cons_succ, i64_w, i32_w]
                    rfl
                  refine one_ (i := 4) (N := some 18) #[true, true, true, true, true, false, true, true, false, false, false, false, false, false, false, false, false, false, false] rfl rfl (one_of HT_.out (by kernel_rfl)) (by decide) (fun K hK => ?_)
                  refine goes_ Try.func121 (by kernel_rfl) rfl #[.slice A262_5 ((rd_T85 l0_0 x10_1).f5).length c262_5] (by rfl) rfl rfl (by (try simp only [List.map_toArray, List.map_cons, List.map_nil]); first | done | rfl | (simp only [List.length_drop, List.length_take]; rfl)) ?_
                  with_reducible refine (impl_Stored.calls k1 _ _ ((rd_T85 l0_0 x10_1).f5) t264 _ ?side1 ?side2 A11.out).mono ?_
                  (case side1 => repeat (first | exact (Kd.C_below HR262_5.out HB.out) | (with_reducible refine Kd.C_alloc ?_ _) | (with_reducible refine Kd.C_drewN ?_ _) | (with_reducible refine Kd.C_drew ?_)))
                  (case side2 => exact HC262_5.out)
                  rintro e w25 ⟨rfl, hb⟩
                  refine ⟨_, rfl, ?_⟩
                  have n0_ := Aside0.mk (blk_below (bk_ BK261) hb)
                  have n1_ := Aside0.mk (blk_below (bk_ BK263) hb)
                  have n2_ := Aside0.mk (below_step bl_ hb)
                  clear BK261
                  clear BK263
                  clear HB
                  have BK261 := n0_
                  have BK263 := n1_
                  have HB := n2_
                  clear n0_ n1_ n2_
                  (try clear hb)
                  (try clear hb2)
                  (try clear hk)
                  (try clear hi)
                  refine hK.out _ _ ⟨(blk_cell BK263.out 0).trans rfl, (blk_cell BK263.out 1).trans rfl, (blk_cell BK263.out 2).trans rfl, (blk_cell BK263.out 3).trans rfl, (blk_cell BK263.out 4).trans rfl, (blk_cell BK263.out 5).trans rfl, (blk_cell BK263.out 6).trans rfl, (blk_cell BK263.out 7).trans rfl, (blk_cell BK263.out 8).trans rfl, (blk_cell BK263.out 9).trans rfl, (blk_cell BK263.out 10).trans rfl⟩ (fun hHeld => ?_)
                  clear hK K
                  refine norm_ (a' := ?_) ?_ ?_
                  rotate_left
                  · show Act.put _ (some 18) _ = _
                    simp only [Act.put, List.setIfInBounds_toArray, List.set_cons_zero, List.set_cons_succ, i64_w, i32_w]
                    rfl
                  refine one_ (i := 5) (N := some 19) #[true, true, true, true, true, true, true, true, false, false, false, false, false, false, false, false, false, false, false] rfl rfl (one_of HT_.out (by kernel_rfl)) (by decide) (fun K hK => ?_)
                  refine goes_ Try.func119 (by kernel_rfl) rfl #[.int .i64 ((rd_T85 l0_0 x10_1).f2), .int .i64 t264] (by rfl) rfl rfl (by (try simp only [List.map_toArray, List.map_cons, List.map_nil]); first | done | rfl | (simp only [List.length_drop, List.length_take]; rfl)) ?_
                  with_reducible refine (impl_AddSat.calls ((rd_T85 l0_0 x10_1).f2) t264 t265 _ A12.out).mono ?_
                  rintro e w26 ⟨rfl, hb⟩
                  refine ⟨_, rfl, ?_⟩
                  have n0_ := Aside0.mk (blk_below (bk_ BK261) hb)
                  have n1_ := Aside0.mk (blk_below (bk_ BK263) hb)
                  have n2_ := Aside0.mk (below_step bl_ hb)
                  clear BK261
                  clear BK263
                  clear HB
                  have BK261 := n0_
                  have BK263 := n1_
                  have HB := n2_
                  clear n0_ n1_ n2_
                  (try clear hb)
                  (try clear hb2)
                  (try clear hk)
                  (try clear hi)
                  refine hK.out _ _ ⟨(blk_cell BK263.out 0).trans rfl, (blk_cell BK263.out 1).trans rfl, (blk_cell BK263.out 2).trans rfl, (blk_cell BK263.out 3).trans rfl, (blk_cell BK263.out 4).trans rfl, (blk_cell BK263.out 5).trans rfl, (blk_cell BK263.out 6).trans rfl, (blk_cell BK263.out 7).trans rfl, (blk_cell BK263.out 8).trans rfl, (blk_cell BK263.out 9).trans rfl, (blk_cell BK263.out 10).trans rfl⟩ (fun hHeld => ?_)
                  clear hK K
                  refine norm_ (a' := ?_) ?_ ?_
                  rotate_left
                  · show Act.put _ (some 19) _ = _
                    simp only [Act.put, List.setIfInBounds_toArray, List.set_cons_zero, List.set_cons_succ, i64_w, i32_w]
                    rfl
                  refine pure_ (i := 8) (N := some 22) (v := ?_) (a' := ?_) #[true, true, true, true, true, true, true, true, true, false, false, false, false, false, false, false, false, false, false] rfl rfl (any_of HT_.out (by kernel_rfl)) (fun _ _ _ h => h) (Or.inl ⟨by rfl, ?_⟩) ?_ ?_
                  rotate_left
                  · intro w'
                    go_simp
                    with_reducible rfl
                  rotate_left
                  · simp only [Act.put, List.setIfInBounds_toArray, List.set_cons_zero, List.set_cons_succ, i64_w, i32_w]
                    rfl
                  refine pure_ (i := 9) (N := some 23) (v := ?_) (a' := ?_) #[true, true, true, true, true, true, true, true, true, true, false, false, false, false, false, false, false, false, false] rfl rfl (any_of HT_.out (by kernel_rfl)) (fun _ _ _ h => h) (Or.inl ⟨by rfl, ?_⟩) ?_ ?_
                  rotate_left
                  · intro w'
                    go_simp
                    with_reducible rfl
                  rotate_left
                  · simp only [Act.put, List.setIfInBounds_toArray, List.set_cons_zero, List.set_cons_succ, i64_w, i32_w]
                    rfl
                  refine pure_ (i := 10) (N := some 24) (v := ?_) (a' := ?_) #[true, true, true, true, true, true, true, true, true, true, true, false, false, false, false, false, false, false, false] rfl rfl (any_of HT_.out (by kernel_rfl)) (fun _ _ _ h => h) (Or.inl ⟨by rfl, ?_⟩) ?_ ?_
                  rotate_left
                  · intro w'
                    go_simp
                    with_reducible rfl
                  rotate_left
                  · simp only [Act.put, List.setIfInBounds_toArray, List.set_cons_zero, List.set_cons_succ, i64_w, i32_w]
                    rfl
                  refine take_ (i := 11) (N := some 25) (v := ?_) (a' := ?_) #[true, true, true, true, true, true, true, true, true, true, true, true, false, false, false, false, false, false, false] rfl rfl (take_ofW HT_.out HW_.out (by kernel_rfl)) (fun _ _ _ h => h) (Or.inl ⟨by rfl, ?_⟩) hHeld ?_ ?_
                  rotate_left
                  · rintro w' ⟨s0, s1, s2, s3, s4, s5, s6, s7, s8, s9, s10⟩
                    go_simp
                    with_reducible rfl
                  rotate_left
                  · simp only [Act.put, List.setIfInBounds_toArray, List.set_cons_zero, List.set_cons_succ, i64_w, i32_w]
                    rfl
                  refine pure_ (i := 12) (N := some 26) (v := ?_) (a' := ?_) #[true, true, true, true, true, true, true, true, true, true, true, true, true, false, false, false, false, false, false] rfl rfl (any_of HT_.out (by kernel_rfl)) (fun _ _ _ h => h) (Or.inl ⟨by rfl, ?_⟩) ?_ ?_
                  rotate_left
                  · intro w'
                    go_simp
                    with_reducible rfl
                  rotate_left
                  · simp only [Act.put, List.setIfInBounds_toArray, List.set_cons_zero, List.set_cons_succ, i64_w, i32_w]
                    rfl
                  refine pure_ (i := 13) (N := some 27) (v := ?_) (a' := ?_) #[true, true, true, true, true, true, true, true, true, true, true, true, true, true, false, false, false, false, false] rfl rfl (any_of HT_.out (by kernel_rfl)) (fun _ _ _ h => h) (Or.inl ⟨by rfl, ?_⟩) ?_ ?_
                  rotate_left
                  · intro w'
                    go_simp
                    with_reducible rfl
                  rotate_left
                  · simp only [Act.put, List.setIfInBounds_toArray, List.set_cons_zero, List.set_cons_succ, i64_w, i32_w]
                    rfl
                  refine pure_ (i := 14) (N := some 28) (v := ?_) (a' := ?_) #[true, true, true, true, true, true, true, true, true, true, true, true, true, true, true, false, false, false, false] rfl rfl (any_of HT_.out (by kernel_rfl)) (fun _ _ _ h => h) (Or.inl ⟨by rfl, ?_⟩) ?_ ?_
                  rotate_left
                  · intro w'
                    go_simp
                    with_reducible rfl
                  rotate_left
                  · simp only [Act.put, List.setIfInBounds_toArray, List.set_cons_zero, List.set_cons_succ, i64_w, i32_w]
                    rfl
                  refine pure_ (i := 15) (N := some 29) (v := ?_) (a' := ?_) #[true, true, true, true, true, true, true, true, true, true, true, true, true, true, true, true, false, false, false] rfl rfl (any_of HT_.out (by kernel_rfl)) (fun _ _ _ h => h) (Or.inl ⟨by rfl, ?_⟩) ?_ ?_
                  rotate_left
                  · intro w'
                    go_simp
                    with_reducible rfl
                  rotate_left
                  · simp only [Act.put, List.setIfInBounds_toArray, List.set_cons_zero, List.set_cons_succ, i64_w, i32_w]
                    rfl
                  refine take_ (i := 16) (N := some 30) (v := ?_) (a' := ?_) #[true, true, true, true, true, true, true, true, true, true, true, true, true, true, true, true, true, false, false] rfl rfl (take_ofW HT_.out HW_.out (by kernel_rfl)) (fun _ _ _ h => h) (Or.inl ⟨by rfl, ?_⟩) hHeld ?_ ?_
                  rotate_left
                  · rintro w' ⟨s0, s1, s2, s3, s4, s5, s6, s7, s8, s9, s10⟩
                    go_simp
                    with_reducible rfl
                  rotate_left
                  · simp only [Act.put, List.setIfInBounds_toArray, List.set_cons_zero, List.set_cons_succ, i64_w, i32_w]
                    rfl
                  refine pure_ (i := 17) (N := some 31) (v := ?_) (a' := ?_) #[true, true, true, true, true, true, true, true, true, true, true, true, true, true, true, true, true, true, false] rfl rfl (any_of HT_.out (by kernel_rfl)) (fun _ _ _ h => h) (Or.inl ⟨by rfl, ?_⟩) ?_ ?_
                  rotate_left
                  · intro w'
                    go_simp
                    with_reducible rfl
                  rotate_left
                  · simp only [Act.put, List.setIfInBounds_toArray, List.set_cons_zero, List.set_cons_succ, i64_w, i32_w]
                    rfl
                  refine pure_ (i := 18) (N := some 32) (v := ?_) (a' := ?_) #[true, true, true, true, true, true, true, true, true, true, true, true, true, true, true, true, true, true, true] rfl rfl (any_of HT_.out (by kernel_rfl)) (fun _ _ _ h => h) (Or.inl ⟨by rfl, ?_⟩) ?_ ?_
                  rotate_left
                  · intro w'
                    go_simp
                    with_reducible rfl
                  rotate_left
                  · simp only [Act.put, List.setIfInBounds_toArray, List.set_cons_zero, List.set_cons_succ, i64_w, i32_w]
                    rfl
                  refine done_ (done_of HT_.out (by kernel_rfl)) ?_
                  try go_wp2
                  go_meet
                  case rel => exact ⟨_, (decide (((rd_T85 l0_0 x10_1).f1) < 0)), sp_, H', ⟨by have := HK1.out; first | omega | exact Nat.le_refl _⟩, ⟨by (with_reducible repeat (first | refine blk_drewN ?_ _ | refine blk_drew ?_ | refine blk_alloc ?_ _)); exact BK261.out⟩, ⟨by (with_reducible repeat (first | refine blk_drewN ?_ _ | refine blk_drew ?_ | refine blk_alloc ?_ _)); exact BK263.out⟩, ⟨bl_⟩⟩
            case rest =>
              clear HC7
              try clear c1
              try clear c2
              try clear p2
              try clear c11
              try clear c12
              try clear c13
              try clear c13b0
              try clear c18
              try clear c18b0
              try clear c26
              obtain ⟨kq, x32_6, rfl, HA, HJ6, BK261, BK263, HB⟩ := hcut
              cases kq with
              | zero => exact absurd HA.out (by simp [impl_Sound.j1])
              | succ kj6 =>
                have H := HA.out
                clear HA
                simp only [impl_Sound.j1] at H
                by_cases c27 : x32_6 = true
                · subst c27
                  have H1 : (some false) = some r := by rw [if_pos rfl] at H; exact H
                  clear H
                  have H := H1
                  clear H1
                  obtain rfl := Option.some.inj H
                  go_wp2
                  go_ret
                  exact ⟨by first | rfl | (simp [errW_none, errW_some] <;> rfl) | (simp [*, errW_none, errW_some] <;> rfl), bl_⟩
                · replace c27 := Bool.eq_false_iff.mpr c27
                  subst c27
                  have H1 : (impl_Sound.l1 kj6 l0_0 (l0_0.length : Int) x10_1 ((rd_T85 l0_0 x10_1).f5) (((rd_T85 l0_0 x10_1).f5).length : Int) 0) = some r := by rw [if_neg (show ¬ (false = true) by decide)] at H; exact H
                  clear H
                  have H := H1
                  clear H1
                  have H' := Aside0.mk H
                  clear H
                  have hnb28 := NB263_261.out
                  have hnc28 := NB261_263.out
                  have hcz29_0 : wc.cell? ⟨gb263, 0, none⟩ = some (.string ((rd_T85 l0_0 x10_1).f0)) := (blk_cell BK263.out 0).trans rfl
                  have hcz29_1 : wc.cell? ⟨gb263, 1, none⟩ = some (.int .i64 ((rd_T85 l0_0 x10_1).f1)) := (blk_cell BK263.out 1).trans rfl
                  have hcz29_2 : wc.cell? ⟨gb263, 2, none⟩ = some (.int .i64 ((rd_T85 l0_0 x10_1).f2)) := (blk_cell BK263.out 2).trans rfl
                  have hcz29_3 : wc.cell? ⟨gb263, 3, none⟩ = some (.int .i64 ((rd_T85 l0_0 x10_1).f3)) := (blk_cell BK263.out 3).trans rfl
                  have hcz29_4 : wc.cell? ⟨gb263, 4, none⟩ = some (.int .i64 ((rd_T85 l0_0 x10_1).f4)) := (blk_cell BK263.out 4).trans rfl
                  have hcz29_5 : wc.cell? ⟨gb263, 5, none⟩ = some (.slice A262_5 ((rd_T85 l0_0 x10_1).f5).length c262_5) := (blk_cell BK263.out 5).trans rfl
                  have hcz29_6 : wc.cell? ⟨gb263, 6, none⟩ = some (.int .i64 ((rd_T85 l0_0 x10_1).f6.f0)) := (blk_cell BK263.out 6).trans rfl
                  have hcz29_7 : wc.cell? ⟨gb263, 7, none⟩ = some (.int .i64 ((rd_T85 l0_0 x10_1).f6.f1)) := (blk_cell BK263.out 7).trans rfl
                  have hcz29_8 : wc.cell? ⟨gb263, 8, none⟩ = some (.slice A262_8 ((rd_T85 l0_0 x10_1).f6.f2).length c262_8) := (blk_cell BK263.out 8).trans rfl
                  have hcz29_9 : wc.cell? ⟨gb263, 9, none⟩ = some (.slice A262_9 ((rd_T85 l0_0 x10_1).f6.f3).length c262_9) := (blk_cell BK263.out 9).trans rfl
                  have hcz29_10 : wc.cell? ⟨gb263, 10, none⟩ = some (.slice A262_10 ((rd_T85 l0_0 x10_1).f7).length c262_10) := (blk_cell BK263.out 10).trans rfl
                  have hfz29_0 := blk_frozen BK263.out 0
                  have hfz29_1 := blk_frozen BK263.out 1
                  have hfz29_2 := blk_frozen BK263.out 2
                  have hfz29_3 := blk_frozen BK263.out 3
                  have hfz29_4 := blk_frozen BK263.out 4
                  have hfz29_5 := blk_frozen BK263.out 5
                  have hfz29_6 := blk_frozen BK263.out 6
                  have hfz29_7 := blk_frozen BK263.out 7
                  have hfz29_8 := blk_frozen BK263.out 8
                  have hfz29_9 := blk_frozen BK263.out 9
                  have hfz29_10 := blk_frozen BK263.out 10
                  go_wp2
                  go_loopg [36] kj6 (fun kq v36 w' => ∃ (x36_3 : Int), v36 = .int .i64 x36_3 ∧ Aside0 (impl_Sound.l1 kq l0_0 (l0_0.length : Int) x10_1 ((rd_T85 l0_0 x10_1).f5) (((rd_T85 l0_0 x10_1).f5).length : Int) x36_3 = some r) ∧ Aside0 (kq ≤ kj6) ∧ Aside0 (w'.heap[gb261]? = some (.cells #[(.slice (some ad262) l0_0.length c0_0)] 72 (0, 0))) ∧ Aside0 (w'.heap[gb263]? = some (.cells #[.string ((rd_T85 l0_0 x10_1).f0), .int .i64 ((rd_T85 l0_0 x10_1).f1), .int .i64 ((rd_T85 l0_0 x10_1).f2), .int .i64 ((rd_T85 l0_0 x10_1).f3), .int .i64 ((rd_T85 l0_0 x10_1).f4), (.slice A262_5 ((rd_T85 l0_0 x10_1).f5).length c262_5), .int .i64 ((rd_T85 l0_0 x10_1).f6.f0), .int .i64 ((rd_T85 l0_0 x10_1).f6.f1), (.slice A262_8 ((rd_T85 l0_0 x10_1).f6.f2).length c262_8), (.slice A262_9 ((rd_T85 l0_0 x10_1).f6.f3).length c262_9), (.slice A262_10 ((rd_T85 l0_0 x10_1).f7).length c262_10)] 85 (0, 0))) ∧ Aside0 (Below w.heap.size w w'))
                  case atStart => exact ⟨(0), sp_, H', ⟨Nat.le_refl _⟩, ⟨by (with_reducible repeat (first | refine blk_drewN ?_ _ | refine blk_drew ?_ | refine blk_alloc ?_ _)); exact BK261.out⟩, ⟨by (with_reducible repeat (first | refine blk_drewN ?_ _ | refine blk_drew ?_ | refine blk_alloc ?_ _)); exact BK263.out⟩, ⟨bl_⟩⟩
                  case round =>
                    clear H'
                    try clear c1
                    try clear c2
                    try clear p2
                    try clear c11
                    try clear c12
                    try clear c13
                    try clear c13b0
                    try clear c18
                    try clear c18b0
                    try clear c26
                    try clear c27
                    try clear c28
                    try clear hcz29_0
                    try clear hcz29_1
                    try clear hcz29_10
                    try clear hcz29_2
                    try clear hcz29_3
                    try clear hcz29_4
                    try clear hcz29_5
                    try clear hcz29_6
                    try clear hcz29_7
                    try clear hcz29_8
                    try clear hcz29_9
                    try clear hfz29_0
                    try clear hfz29_1
                    try clear hfz29_10
                    try clear hfz29_2
                    try clear hfz29_3
                    try clear hfz29_4
                    try clear hfz29_5
                    try clear hfz29_6
                    try clear hfz29_7
                    try clear hfz29_8
                    try clear hfz29_9
                    try clear p2
                    obtain ⟨x36_3, rfl, HA, HK3, BK261, BK263, HB⟩ := hrel
                    cases gk with
                    | zero => exact absurd HA.out (by simp [impl_Sound.l1])
                    | succ k3 =>
                      have H := HA.out
                      clear HA
                      simp only [impl_Sound.l1] at H
                      by_cases c30 : x36_3 < (((rd_T85 l0_0 x10_1).f5).length : Int)
                      · rw [if_pos c30] at H
                        have c30b0 : decide (x36_3 < (((rd_T85 l0_0 x10_1).f5).length : Int)) = true := decide_eq_true c30
                        clear c30
                        by_cases c31 : 0 ≤ x36_3
                        · rw [if_pos c31] at H
                          have c31b0 : decide (0 ≤ x36_3) = true := decide_eq_true c31
                          clear c31
                          by_cases c32 : x36_3 < (((rd_T85 l0_0 x10_1).f5).length : Int)
                          · rw [if_pos c32] at H
                            have c32b0 : decide (x36_3 < (((rd_T85 l0_0 x10_1).f5).length : Int)) = true := decide_eq_true c32
                            clear c32
                            by_cases c33 : ((rd_T60 ((rd_T85 l0_0 x10_1).f5) x36_3).f1) < 0
                            · rw [if_pos c33] at H
                              have c33b0 : decide (((rd_T60 ((rd_T85 l0_0 x10_1).f5) x36_3).f1) < 0) = true := decide_eq_true c33
                              clear c33
                              obtain rfl := Option.some.inj H
                              have p266 : 0 ≤ (x36_3 : Int) := of_decide_eq_true (by first | (with_reducible assumption) | assumption)
                              have q266 : x36_3 < (((rd_T85 l0_0 x10_1).f5).length : Int) := of_decide_eq_true (by first | (with_reducible assumption) | assumption)
                              obtain ⟨ad266, e266, hx266_0, hx266_1, hx266_2⟩ := at_T60 HR262_5.out x36_3 p266 q266
                              cases e266
                              replace hx266_0 := (HB.out.cell (World.block_lt_of_cell? w _ hx266_0)).trans hx266_0
                              replace hx266_1 := (HB.out.cell (World.block_lt_of_cell? w _ hx266_1)).trans hx266_1
                              replace hx266_2 := (HB.out.cell (World.block_lt_of_cell? w _ hx266_2)).trans hx266_2
                              replace p266 := eq_true p266
                              replace q266 := eq_true q266
                              go_wp2_with (first | ((with_reducible refine gate_dst (N := 6) rfl ?_); refine box_event ?hg (N := 6) ?hd (cs := #[.string (⟨#[]⟩ : ByteArray), .int .i64 0, .int .i64 0]) (t := 60) ?hr ?_; (case hd => rfl); (case hg => rfl); (case hr => first | (go_simp; done) | (go_simp; rfl)); intro gb267 hg w34 hbox hb; have n0_ := Aside0.mk (blk_below (bk_ BK261) hb); have n1_ := Aside0.mk (blk_below (bk_ BK263) hb); have n2_ := Aside0.mk (below_step bl_ hb); have n3_ := Aside0.mk (hbox); have n4_ := Aside0.mk ((by rw [hg]; exact (below_size bl_) : w.heap.size ≤ gb267)); have n5_ := Aside0.mk ((by rw [hg]; exact (below_size bl_) : w.heap.size ≤ gb267)); have n6_ := Aside0.mk ((by rw [hg]; exact Nat.ne_of_lt (blk_lt (bk_ BK261)) : gb261 ≠ gb267)); have n7_ := Aside0.mk ((by rw [hg]; exact Nat.ne_of_gt (blk_lt (bk_ BK261)) : gb267 ≠ gb261)); have n8_ := Aside0.mk ((by rw [hg]; exact Nat.ne_of_lt (blk_lt (bk_ BK263)) : gb263 ≠ gb267)); have n9_ := Aside0.mk ((by rw [hg]; exact Nat.ne_of_gt (blk_lt (bk_ BK263)) : gb267 ≠ gb263)); clear BK261; clear BK263; clear HB; have BK261 := n0_; have BK263 := n1_; have HB := n2_; have BK267 := n3_; have GW267 := n4_; have GE267 := n5_; have NB261_267 := n6_; have NB267_261 := n7_; have NB263_267 := n8_; have NB267_263 := n9_; clear n0_ n1_ n2_ n3_ n4_ n5_ n6_ n7_ n8_ n9_; clear hb hbox hg; have hnb35 := NB267_261.out; have hnc35 := NB261_267.out; have hnb36 := NB267_263.out; have hnc36 := NB263_267.out; have hcz37_0 : w34.cell? ⟨gb267, 0, none⟩ = some (.string (⟨#[]⟩ : ByteArray)) := (blk_cell BK267.out 0).trans rfl; have hcz37_1 : w34.cell? ⟨gb267, 1, none⟩ = some (.int .i64 0) := (blk_cell BK267.out 1).trans rfl; have hcz37_2 : w34.cell? ⟨gb267, 2, none⟩ = some (.int .i64 0) := (blk_cell BK267.out 2).trans rfl; have hfz37_0 := blk_frozen BK267.out 0; have hfz37_1 := blk_frozen BK267.out 1; have hfz37_2 := blk_frozen BK267.out 2))
                              go_ret
                              exact ⟨by first | rfl | (simp [errW_none, errW_some] <;> rfl) | (simp [*, errW_none, errW_some] <;> rfl), bl_⟩
                            · rw [if_neg c33] at H
                              have c33b0 : decide (((rd_T60 ((rd_T85 l0_0 x10_1).f5) x36_3).f1) < 0) = false := decide_eq_false c33
                              clear c33
                              have H' := Aside0.mk H
                              clear H
                              have p266 : 0 ≤ (x36_3 : Int) := of_decide_eq_true (by first | (with_reducible assumption) | assumption)
                              have q266 : x36_3 < (((rd_T85 l0_0 x10_1).f5).length : Int) := of_decide_eq_true (by first | (with_reducible assumption) | assumption)
                              obtain ⟨ad266, e266, hx266_0, hx266_1, hx266_2⟩ := at_T60 HR262_5.out x36_3 p266 q266
                              cases e266
                              replace hx266_0 := (HB.out.cell (World.block_lt_of_cell? w _ hx266_0)).trans hx266_0
                              replace hx266_1 := (HB.out.cell (World.block_lt_of_cell? w _ hx266_1)).trans hx266_1
                              replace hx266_2 := (HB.out.cell (World.block_lt_of_cell? w _ hx266_2)).trans hx266_2
                              replace p266 := eq_true p266
                              replace q266 := eq_true q266
                              go_wp2_with (first | ((with_reducible refine gate_dst (N := 6) rfl ?_); refine box_event ?hg (N := 6) ?hd (cs := #[.string (⟨#[]⟩ : ByteArray), .int .i64 0, .int .i64 0]) (t := 60) ?hr ?_; (case hd => rfl); (case hg => rfl); (case hr => first | (go_simp; done) | (go_simp; rfl)); intro gb267 hg w38 hbox hb; have n0_ := Aside0.mk (blk_below (bk_ BK261) hb); have n1_ := Aside0.mk (blk_below (bk_ BK263) hb); have n2_ := Aside0.mk (below_step bl_ hb); have n3_ := Aside0.mk (hbox); have n4_ := Aside0.mk ((by rw [hg]; exact (below_size bl_) : w.heap.size ≤ gb267)); have n5_ := Aside0.mk ((by rw [hg]; exact (below_size bl_) : w.heap.size ≤ gb267)); have n6_ := Aside0.mk ((by rw [hg]; exact Nat.ne_of_lt (blk_lt (bk_ BK261)) : gb261 ≠ gb267)); have n7_ := Aside0.mk ((by rw [hg]; exact Nat.ne_of_gt (blk_lt (bk_ BK261)) : gb267 ≠ gb261)); have n8_ := Aside0.mk ((by rw [hg]; exact Nat.ne_of_lt (blk_lt (bk_ BK263)) : gb263 ≠ gb267)); have n9_ := Aside0.mk ((by rw [hg]; exact Nat.ne_of_gt (blk_lt (bk_ BK263)) : gb267 ≠ gb263)); clear BK261; clear BK263; clear HB; have BK261 := n0_; have BK263 := n1_; have HB := n2_; have BK267 := n3_; have GW267 := n4_; have GE267 := n5_; have NB261_267 := n6_; have NB267_261 := n7_; have NB263_267 := n8_; have NB267_263 := n9_; clear n0_ n1_ n2_ n3_ n4_ n5_ n6_ n7_ n8_ n9_; clear hb hbox hg; have hnb39 := NB267_261.out; have hnc39 := NB261_267.out; have hnb40 := NB267_263.out; have hnc40 := NB263_267.out; have hcz41_0 : w38.cell? ⟨gb267, 0, none⟩ = some (.string (⟨#[]⟩ : ByteArray)) := (blk_cell BK267.out 0).trans rfl; have hcz41_1 : w38.cell? ⟨gb267, 1, none⟩ = some (.int .i64 0) := (blk_cell BK267.out 1).trans rfl; have hcz41_2 : w38.cell? ⟨gb267, 2, none⟩ = some (.int .i64 0) := (blk_cell BK267.out 2).trans rfl; have hfz41_0 := blk_frozen BK267.out 0; have hfz41_1 := blk_frozen BK267.out 1; have hfz41_2 := blk_frozen BK267.out 2))
                              go_roundg k3
                              case measure => have := HK1.out; have := HJ6.out; have := HK3.out; omega
                              case rel => exact ⟨(wrap64 (x36_3 + 1)), sp_, H', ⟨by have := HK1.out; have := HJ6.out; have := HK3.out; omega⟩, ⟨by (with_reducible repeat (first | refine blk_drewN ?_ _ | refine blk_drew ?_ | refine blk_alloc ?_ _)); refine blk_far ?_ NB261_267.out _; (with_reducible repeat (first | refine blk_drewN ?_ _ | refine blk_drew ?_ | refine blk_alloc ?_ _)); refine blk_far ?_ NB261_267.out _; (with_reducible repeat (first | refine blk_drewN ?_ _ | refine blk_drew ?_ | refine blk_alloc ?_ _)); refine blk_far ?_ NB261_267.out _; (with_reducible repeat (first | refine blk_drewN ?_ _ | refine blk_drew ?_ | refine blk_alloc ?_ _)); exact BK261.out⟩, ⟨by (with_reducible repeat (first | refine blk_drewN ?_ _ | refine blk_drew ?_ | refine blk_alloc ?_ _)); refine blk_far ?_ NB263_267.out _; (with_reducible repeat (first | refine blk_drewN ?_ _ | refine blk_drew ?_ | refine blk_alloc ?_ _)); refine blk_far ?_ NB263_267.out _; (with_reducible repeat (first | refine blk_drewN ?_ _ | refine blk_drew ?_ | refine blk_alloc ?_ _)); refine blk_far ?_ NB263_267.out _; (with_reducible repeat (first | refine blk_drewN ?_ _ | refine blk_drew ?_ | refine blk_alloc ?_ _)); exact BK263.out⟩, ⟨bl_⟩⟩
                          · rw [if_neg c32] at H
                            exact absurd H (by simp)
                        · rw [if_neg c31] at H
                          exact absurd H (by simp)
                      · rw [if_neg c30] at H
                        have c30b0 : decide (x36_3 < (((rd_T85 l0_0 x10_1).f5).length : Int)) = false := decide_eq_false c30
                        clear c30
                        have H' := Aside0.mk H
                        clear H
                        go_wp2
                        go_roundg k3
                        case measure => have := HK1.out; have := HJ6.out; have := HK3.out; omega
                        case rel => exact ⟨(wrap64 (x10_1 + 1)), sp_, H', ⟨by have := HK1.out; have := HJ6.out; have := HK3.out; omega⟩, ⟨by (with_reducible repeat (first | refine blk_drewN ?_ _ | refine blk_drew ?_ | refine blk_alloc ?_ _)); exact BK261.out⟩, ⟨bl_⟩⟩
          · rw [if_neg c6] at H
            exact absurd H (by simp)
        · rw [if_neg c5] at H
          exact absurd H (by simp)
      · rw [if_neg c4] at H
        have c4b0 : decide (x10_1 < (l0_0.length : Int)) = false := decide_eq_false c4
        clear c4
        obtain rfl := Option.some.inj H
        go_wp2
        go_ret
        exact ⟨by first | rfl | (simp [errW_none, errW_some] <;> rfl) | (simp [*, errW_none, errW_some] <;> rfl), bl_⟩

end Go.Proofs.Ytcojjdfbdgpajaa.QFnExactSound
